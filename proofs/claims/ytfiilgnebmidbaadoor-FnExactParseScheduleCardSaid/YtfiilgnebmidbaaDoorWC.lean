/-
  The program computes that, printed by a program. No condition.
-/
import Derived.Test.YtfiilgnebmidbaaDoorDC
import Derived.Test.YtfiilgnebmidbaaDoorWB
import Derived.Test.YtfiilgnebmidbaaDoorProg
import Derived.KernelRfl
namespace Go.Proofs.YtfiilgnebmidbaaDoor
open Go Go.RowKit Am
set_option linter.unusedVariables false
set_option linter.unusedSimpArgs false
set_option maxRecDepth 20000
set_option maxHeartbeats 4000000 in
theorem W_impl_size_Sint64 (fu : Nat) (H : AHeap) (p_a0 : Option Addr) (c_a0 : Nat) (T_a0 : Tb) (a0 : List (List Int)) (t_a0 : trows T_a0 = a0) (v_a0 : Vw H p_a0 a0.length c_a0 (tcells T_a0)) (w_a0 : TVw H T_a0) (r0 : Int) (hd : D_impl_size_Sint64 fu a0 = some r0) : ACall Tryd.prog 58 [.slice p_a0 a0.length c_a0] H (.int .i64 r0) H := by
  refine ACall.bodyP (N := 5) [(0, .slice p_a0 a0.length c_a0)] Tryd.func58 rfl rfl rfl rfl ?_
  unfold D_impl_size_Sint64 at hd
  have S0 : St [] H H [] := St.nil H
  refine AX.seq ?_
  refine AX.region ?_
  refine AO.p rfl (p_assign rfl) ?_
  refine AO.nil ?_
  refine AX.seq ?_
  refine AX.region ?_
  refine AO.p rfl (p_move rfl) ?_
  refine AO.p rfl (p_len_slice rfl Tryd.underlying22) ?_
  refine AO.p rfl (p_assign rfl) ?_
  refine AO.nil ?_
  refine AX.ret ?_
  obtain rfl := some_inj hd
  exact ⟨.inr rfl, _, res1 rfl (rv_tmp rfl), rfl, (flatB_ok rfl), S0.hold⟩

set_option maxHeartbeats 4000000 in
theorem W_impl_size_int64 (fu : Nat) (H : AHeap) (p_a0 : Option Addr) (c_a0 : Nat) (a0 : List Int) (v_a0 : Vw H p_a0 a0.length c_a0 (ints a0)) (r0 : Int) (hd : D_impl_size_int64 fu a0 = some r0) : ACall Tryd.prog 61 [.slice p_a0 a0.length c_a0] H (.int .i64 r0) H := by
  refine ACall.bodyP (N := 5) [(0, .slice p_a0 a0.length c_a0)] Tryd.func61 rfl rfl rfl rfl ?_
  unfold D_impl_size_int64 at hd
  have S0 : St [] H H [] := St.nil H
  refine AX.seq ?_
  refine AX.region ?_
  refine AO.p rfl (p_assign rfl) ?_
  refine AO.nil ?_
  refine AX.seq ?_
  refine AX.region ?_
  refine AO.p rfl (p_move rfl) ?_
  refine AO.p rfl (p_len_slice rfl Tryd.underlying66) ?_
  refine AO.p rfl (p_assign rfl) ?_
  refine AO.nil ?_
  refine AX.ret ?_
  obtain rfl := some_inj hd
  exact ⟨.inr rfl, _, res1 rfl (rv_tmp rfl), rfl, (flatB_ok rfl), S0.hold⟩

set_option maxHeartbeats 4000000 in
theorem W_slices_IndexFunc_Sint64_int64 (fu : Nat) (H : AHeap) (p_a0 : Option Addr) (c_a0 : Nat) (a0 : List Int) (v_a0 : Vw H p_a0 a0.length c_a0 (ints a0)) (f_a1 : FuncId) (fs_a1 cs_a1 : Array Value) (a1 : Int → Option Bool) (hc_a1 : ∀ args w, (callFunc f_a1 args).run Tryd.prog w = .ok (.enter f_a1 args) w) (hq_a1 : ∀ H', ExtG H H' → ∀ (x0_a1 : Int) (b : Bool), a1 x0_a1 = some b → ACall Tryd.prog f_a1 (fs_a1.toList ++ [.int .i64 x0_a1] ++ cs_a1.toList) H' (.bool b) H') (r0 : Int) (hd : D_slices_IndexFunc_Sint64_int64 fu a0 a1 = some r0) : ACall Tryd.prog 86 [.slice p_a0 a0.length c_a0, .func (.func f_a1) fs_a1 cs_a1] H (.int .i64 r0) H := by
  refine ACall.bodyP (N := 19) [(0, .slice p_a0 a0.length c_a0), (1, .func (.func f_a1) fs_a1 cs_a1)] Tryd.func86 rfl rfl rfl rfl ?_
  unfold D_slices_IndexFunc_Sint64_int64 at hd
  have S0 : St [] H H [] := St.nil H
  refine AX.seq ?_
  refine AX.region ?_
  refine AO.p rfl (p_assign rfl) ?_
  refine AO.nil ?_
  refine AX.seq ?_
  refine AX.seq ?_
  refine AX.region ?_
  refine AO.p rfl (p_move rfl) ?_
  refine AO.p rfl (p_len_slice rfl Tryd.underlying66) ?_
  refine AO.p rfl (p_move rfl) ?_
  refine AO.nil ?_
  obtain ⟨r150, hl151, hd152⟩ := bnd_some hd
  refine AX.cutS (fun t' H' => .inl () = r150 ∧ St [] H H' [] ∧ Am.Sub [] t') ?_ ?_
  · refine AX.block ?_
    refine AX.loopF (fun s' t' H' => ∃ (x133 : Int), x133 = s' ∧ St [] H H' [] ∧ Am.Sub [(0, .slice p_a0 a0.length c_a0), (1, .func (.func f_a1) fs_a1 cs_a1), (7, .int .i64 ((a0.length : Nat) : Int)), (8, .int .i64 x133)] t') hl151 ?_ ?_
    · skip
      exact ⟨0, rfl, S0, Sub.cons' rfl rfl (Sub.cons' rfl rfl (Sub.cons' rfl rfl (Sub.cons' rfl rfl (Sub.nil _))))⟩
    · rintro n153 _ t' G157 ⟨x133, rfl, S156, hsub158⟩ o159 ho154 hk155
      refine AX.sub hsub158 ?_
      unfold D_slices_IndexFunc_Sint64_int64_s0 at ho154
      refine AX.seq ?_
      refine AX.region ?_
      refine AO.p rfl (p_lss rfl rfl) ?_
      refine AO.nil ?_
      refine AX.seq ?_
      refine AX.cond rfl (fun c160 => ?_) (fun c160 => ?_)
      · have hd161 := bif_t c160 ho154
        refine AX.skip ?_
        refine AX.seq ?_
        refine AX.block ?_
        refine AX.seq ?_
        refine AX.region ?_
        refine AO.p rfl (p_move rfl) ?_
        refine AO.p rfl (p_assign rfl) ?_
        refine AO.nil ?_
        refine AX.seq ?_
        refine AX.region ?_
        refine AO.p rfl (p_move rfl) ?_
        refine AO.p rfl (p_move rfl) ?_
        refine AO.p rfl (p_move rfl) ?_
        obtain ⟨k162, hd163⟩ := chk_some hd161
        refine AO.p rfl (s_indexV (q := off p_a0 + x133.toNat) Tryd.underlying66 Tryd.sizeOf2 rfl ((S156.view v_a0).p (ints_get (lt_len rfl (inR_lt k162)))) rfl k162 (o1 _ _)) ?_
        refine AO.c rfl (s_load Tryd.isAgg2 rfl ((S156.view v_a0).get _ _ (ints_get (lt_len rfl (inR_lt k162))))) ?_
        obtain ⟨b164, h165, hd166⟩ := bnd_some hd163
        refine AO.c rfl (o_callV (vs := [.int .i64 (rd a0 x133.toNat)]) rfl rfl hc_a1 (hq_a1 G157 S156.ext (rd a0 x133.toNat) b164 h165)) ?_
        refine AO.nil ?_
        refine AX.cond rfl (fun c167 => ?_) (fun c167 => ?_)
        · have hd168 := bif_t c167 hd166
          refine AX.seq ?_
          refine AX.region ?_
          refine AO.p rfl (p_move rfl) ?_
          refine AO.p rfl (p_assign rfl) ?_
          refine AO.nil ?_
          refine AX.ret ?_
          obtain rfl := some_inj hd168
          have z169 : _ = r150 := hk155
          subst z169
          obtain rfl := some_inj hd152
          exact ⟨.inr rfl, _, res1 rfl (rv_tmp rfl), rfl, (flatB_ok rfl), S156.hold⟩
        · have hd170 := bif_f c167 hd166
          refine AX.skip ?_
          refine AX.region ?_
          obtain ⟨k171, hd172⟩ := chk_some hd170
          refine AO.p rfl (p_addE rfl rfl k171) ?_
          refine AO.p rfl (p_move rfl) ?_
          refine AO.nil ?_
          obtain rfl := some_inj hd172
          exact ⟨x133 + 1, hk155, (x133 + 1), rfl, S156, Sub.cons' rfl rfl (Sub.cons' rfl rfl (Sub.cons' rfl rfl (Sub.cons' rfl rfl (Sub.nil _))))⟩
      · have hd174 := bif_f c160 ho154
        refine AX.exit ?_
        obtain rfl := some_inj hd174
        exact ⟨hk155, S156, Sub.nil _⟩
  · rintro t' G176 ⟨rfl, S175, hsub177⟩
    refine ⟨_, hsub177, ?_⟩
    refine AX.seq ?_
    refine AX.region ?_
    refine AO.p rfl (p_assign rfl) ?_
    refine AO.nil ?_
    refine AX.ret ?_
    obtain rfl := some_inj hd152
    exact ⟨.inr rfl, _, res1 rfl (rv_tmp rfl), rfl, (flatB_ok rfl), S175.hold⟩

set_option maxHeartbeats 4000000 in
theorem W_slices_ContainsFunc_Sint64_int64 (fu : Nat) (H : AHeap) (p_a0 : Option Addr) (c_a0 : Nat) (a0 : List Int) (v_a0 : Vw H p_a0 a0.length c_a0 (ints a0)) (f_a1 : FuncId) (fs_a1 cs_a1 : Array Value) (a1 : Int → Option Bool) (hc_a1 : ∀ args w, (callFunc f_a1 args).run Tryd.prog w = .ok (.enter f_a1 args) w) (hq_a1 : ∀ H', ExtG H H' → ∀ (x0_a1 : Int) (b : Bool), a1 x0_a1 = some b → ACall Tryd.prog f_a1 (fs_a1.toList ++ [.int .i64 x0_a1] ++ cs_a1.toList) H' (.bool b) H') (r0 : Bool) (hd : D_slices_ContainsFunc_Sint64_int64 fu a0 a1 = some r0) : ACall Tryd.prog 62 [.slice p_a0 a0.length c_a0, .func (.func f_a1) fs_a1 cs_a1] H (.bool r0) H := by
  refine ACall.bodyP (N := 9) [(0, .slice p_a0 a0.length c_a0), (1, .func (.func f_a1) fs_a1 cs_a1)] Tryd.func62 rfl rfl rfl rfl ?_
  unfold D_slices_ContainsFunc_Sint64_int64 at hd
  have S0 : St [] H H [] := St.nil H
  refine AX.seq ?_
  refine AX.region ?_
  refine AO.p rfl (p_assign rfl) ?_
  refine AO.nil ?_
  refine AX.seq ?_
  refine AX.region ?_
  refine AO.p rfl (p_move rfl) ?_
  refine AO.p rfl (p_move rfl) ?_
  obtain ⟨x100, h101, hd102⟩ := bnd_some hd
  refine AO.c rfl (o_call (vs := [.slice p_a0 a0.length c_a0, .func (.func f_a1) fs_a1 cs_a1]) rfl Tryd.call86 (W_slices_IndexFunc_Sint64_int64 fu H p_a0 c_a0 a0 (S0.view v_a0) f_a1 fs_a1 cs_a1 a1 hc_a1 (fun G' hG => hq_a1 G' (S0.ext.trans hG)) x100 h101)) ?_
  refine AO.p rfl (p_geq rfl rfl) ?_
  refine AO.p rfl (p_assign rfl) ?_
  refine AO.nil ?_
  refine AX.ret ?_
  obtain rfl := some_inj hd102
  exact ⟨.inr rfl, _, res1 rfl (rv_tmp rfl), rfl, (flatB_ok rfl), S0.hold⟩

set_option maxHeartbeats 4000000 in
theorem W_impl_isCell (fu : Nat) (H : AHeap) (a0 : Int) (a1 : Int) (r0 : Bool) (hd : D_impl_isCell fu a0 a1 = some r0) : ACall Tryd.prog 64 [.int .i64 a0, .int .i64 a1] H (.bool r0) H := by
  refine ACall.bodyP (N := 24) [(0, .int .i64 a0), (1, .int .i64 a1)] Tryd.func64 rfl rfl rfl rfl ?_
  unfold D_impl_isCell at hd
  have S0 : St [] H H [] := St.nil H
  refine AX.seq ?_
  refine AX.region ?_
  refine AO.p rfl (p_assign rfl) ?_
  refine AO.nil ?_
  obtain ⟨r112, hb113, hd114⟩ := bnd_some hd
  refine AX.cut (fun t' H' => ∃ (b111 : Bool), b111 = r112 ∧ St [] H H' [] ∧ Am.Sub [(4, .bool b111)] t') ?_ ?_
  · skip
    refine AX.region ?_
    refine AO.p rfl (p_move rfl) ?_
    refine AO.p rfl (p_eql rfl rfl) ?_
    refine AO.p rfl (p_move rfl) ?_
    refine AO.cases (d := 7) rfl (fun c115 => ?_) (fun c115 => ?_)
    · have hd116 := bif_t c115 hb113
      refine AO.gn rfl rfl rfl ?_
      refine AO.gn rfl rfl rfl ?_
      refine AO.gn rfl rfl rfl ?_
      refine AO.gu rfl rfl rfl ?_
      refine AO.gu rfl rfl rfl ?_
      refine AO.gu rfl rfl rfl ?_
      refine AO.gu rfl rfl rfl ?_
      refine AO.gu rfl rfl rfl ?_
      refine AO.gn rfl rfl rfl ?_
      refine AO.gn rfl rfl rfl ?_
      refine AO.gu rfl rfl rfl ?_
      refine AO.gu rfl rfl rfl ?_
      refine AO.gu rfl rfl rfl ?_
      refine AO.gu rfl rfl rfl ?_
      refine AO.gn rfl rfl rfl ?_
      refine AO.p rfl (p_pickT rfl rfl) ?_
      refine AO.p rfl (p_assign rfl) ?_
      refine AO.nil ?_
      exact ⟨true, (some_inj hd116), S0, Sub.cons' rfl rfl (Sub.nil _)⟩
    · have hd117 := bif_f c115 hb113
      refine AO.gp rfl rfl rfl (p_move rfl) ?_
      refine AO.gp rfl rfl rfl (p_geq rfl rfl) ?_
      refine AO.gp rfl rfl rfl (p_move rfl) ?_
      refine AO.cases (d := 10) rfl (fun c118 => ?_) (fun c118 => ?_)
      · have hd119 := bif_t c118 hd117
        refine AO.gp rfl rfl rfl (p_move rfl) ?_
        obtain ⟨k120, hd121⟩ := chk_some hd119
        refine AO.gp rfl rfl rfl (p_quoE rfl rfl k120) ?_
        refine AO.gp rfl rfl rfl (p_move rfl) ?_
        refine AO.gp rfl rfl rfl (p_remE rfl rfl (by decide)) ?_
        refine AO.gp rfl rfl rfl (p_lss rfl rfl) ?_
        refine AO.gp rfl rfl rfl (p_pickT rfl rfl) ?_
        refine AO.gp rfl rfl rfl (p_move rfl) ?_
        refine AO.cases (d := 17) rfl (fun c122 => ?_) (fun c122 => ?_)
        · have hd123 := bif_t c122 hd121
          refine AO.gp rfl rfl rfl (p_move rfl) ?_
          refine AO.gp rfl rfl rfl (p_remE rfl rfl (by decide)) ?_
          refine AO.gp rfl rfl rfl (p_move rfl) ?_
          refine AO.gp rfl rfl rfl (p_leq rfl rfl) ?_
          refine AO.gp rfl rfl rfl (p_pickT rfl rfl) ?_
          refine AO.p rfl (p_pickF rfl rfl) ?_
          refine AO.p rfl (p_assign rfl) ?_
          refine AO.nil ?_
          exact ⟨(decide (a1.tmod 14 ≤ a0)), (some_inj hd123), S0, Sub.cons' rfl rfl (Sub.nil _)⟩
        · have hd124 := bif_f c122 hd121
          refine AO.gn rfl rfl rfl ?_
          refine AO.gn rfl rfl rfl ?_
          refine AO.gn rfl rfl rfl ?_
          refine AO.gn rfl rfl rfl ?_
          refine AO.gp rfl rfl rfl (p_pickF rfl rfl) ?_
          refine AO.p rfl (p_pickF rfl rfl) ?_
          refine AO.p rfl (p_assign rfl) ?_
          refine AO.nil ?_
          exact ⟨false, (some_inj hd124), S0, Sub.cons' rfl rfl (Sub.nil _)⟩
      · have hd125 := bif_f c118 hd117
        refine AO.gn rfl rfl rfl ?_
        refine AO.gn rfl rfl rfl ?_
        refine AO.gn rfl rfl rfl ?_
        refine AO.gn rfl rfl rfl ?_
        refine AO.gn rfl rfl rfl ?_
        refine AO.gp rfl rfl rfl (p_pickF rfl rfl) ?_
        refine AO.gp rfl rfl rfl (p_move rfl) ?_
        refine AO.gn rfl rfl rfl ?_
        refine AO.gn rfl rfl rfl ?_
        refine AO.gn rfl rfl rfl ?_
        refine AO.gn rfl rfl rfl ?_
        refine AO.gp rfl rfl rfl (p_pickF rfl rfl) ?_
        refine AO.p rfl (p_pickF rfl rfl) ?_
        refine AO.p rfl (p_assign rfl) ?_
        refine AO.nil ?_
        exact ⟨false, (some_inj hd125), S0, Sub.cons' rfl rfl (Sub.nil _)⟩
  · rintro t' G127 ⟨b111, rfl, S126, hsub128⟩
    refine AX.sub hsub128 ?_
    refine AX.ret ?_
    obtain rfl := some_inj hd114
    exact ⟨.inr rfl, _, res1 rfl (rv_tmp rfl), rfl, (flatB_ok rfl), S126.hold⟩

set_option maxHeartbeats 4000000 in
theorem W_impl_IsSquare_1_1 (fu : Nat) (H : AHeap) (a0 : Int) (i_b0 : Nat) (ro_b0 : Bool) (b0_0 : Int) (p_b0_1 : Option Addr) (c_b0_1 : Nat) (T_b0_1 : Tb) (b0_1 : List (List Int)) (t_b0_1 : trows T_b0_1 = b0_1) (v_b0_1 : Vw H p_b0_1 b0_1.length c_b0_1 (tcells T_b0_1)) (w_b0_1 : TVw H T_b0_1) (o_b0 : hget H i_b0 = .row ro_b0 ([.int .i64 b0_0, .slice p_b0_1 b0_1.length c_b0_1])) (r0 : Bool) (hd : D_impl_IsSquare_1_1 fu a0 b0_0 b0_1 = some r0) : ACall Tryd.prog 63 [.int .i64 a0, .pointer (some ⟨i_b0, 0, none⟩)] H (.bool r0) H := by
  refine ACall.bodyP (N := 9) [(0, .int .i64 a0), (1, .pointer (some ⟨i_b0, 0, none⟩))] Tryd.func63 rfl rfl rfl rfl ?_
  unfold D_impl_IsSquare_1_1 at hd
  have S0 : St [] H H [] := St.nil H
  refine AX.seq ?_
  refine AX.region ?_
  refine AO.p rfl (p_assign rfl) ?_
  refine AO.nil ?_
  refine AX.seq ?_
  refine AX.region ?_
  refine AO.p rfl (s_fieldAddr Tryd.underlying28 rfl Tryd.sizeOf2 (by decide) rfl rfl) ?_
  refine AO.c rfl (s_load Tryd.isAgg2 rfl (row_cell (S0.old o_b0 (by simp)) rfl)) ?_
  refine AO.p rfl (p_move rfl) ?_
  obtain ⟨b100, h101, hd102⟩ := bnd_some hd
  refine AO.c rfl (o_call (vs := [.int .i64 b0_0, .int .i64 a0]) rfl Tryd.call64 (W_impl_isCell fu H b0_0 a0 b100 h101)) ?_
  refine AO.p rfl (p_not rfl) ?_
  refine AO.p rfl (p_assign rfl) ?_
  refine AO.nil ?_
  refine AX.ret ?_
  obtain rfl := some_inj hd102
  exact ⟨.inr rfl, _, res1 rfl (rv_tmp rfl), rfl, (flatB_ok rfl), S0.hold⟩

set_option maxHeartbeats 4000000 in
theorem W_impl_IsSquare_1 (fu : Nat) (H : AHeap) (p_a0 : Option Addr) (c_a0 : Nat) (a0 : List Int) (v_a0 : Vw H p_a0 a0.length c_a0 (ints a0)) (i_b0 : Nat) (ro_b0 : Bool) (b0_0 : Int) (p_b0_1 : Option Addr) (c_b0_1 : Nat) (T_b0_1 : Tb) (b0_1 : List (List Int)) (t_b0_1 : trows T_b0_1 = b0_1) (v_b0_1 : Vw H p_b0_1 b0_1.length c_b0_1 (tcells T_b0_1)) (w_b0_1 : TVw H T_b0_1) (o_b0 : hget H i_b0 = .row ro_b0 ([.int .i64 b0_0, .slice p_b0_1 b0_1.length c_b0_1])) (r0 : Bool) (hd : D_impl_IsSquare_1 fu a0 b0_0 b0_1 = some r0) : ACall Tryd.prog 60 [.slice p_a0 a0.length c_a0, .pointer (some ⟨i_b0, 0, none⟩)] H (.bool r0) H := by
  refine ACall.bodyP (N := 14) [(0, .slice p_a0 a0.length c_a0), (1, .pointer (some ⟨i_b0, 0, none⟩))] Tryd.func60 rfl rfl rfl rfl ?_
  unfold D_impl_IsSquare_1 at hd
  have S0 : St [] H H [] := St.nil H
  refine AX.seq ?_
  refine AX.region ?_
  refine AO.p rfl (p_assign rfl) ?_
  refine AO.nil ?_
  obtain ⟨r112, hb113, hd114⟩ := bnd_some hd
  refine AX.cut (fun t' H' => ∃ (b111 : Bool), b111 = r112 ∧ St [] H H' [] ∧ Am.Sub [(3, .bool b111)] t') ?_ ?_
  · skip
    refine DR.startS [false, true, false, false, false, false, false, false, true, false, false] mix (by kernel_rfl) (fun hst => ?_)
    refine DR.p rfl rfl (p_move rfl) ?_
    obtain ⟨x115, h116, hd117⟩ := bnd_some hb113
    refine DR.w rfl rfl (o_call (vs := [.slice p_a0 a0.length c_a0]) rfl Tryd.call61 (W_impl_size_int64 fu H p_a0 c_a0 a0 (S0.view v_a0) x115 h116)) (Nat.le_refl _) ?_
    refine DR.p rfl rfl (s_fieldAddr Tryd.underlying28 rfl Tryd.sizeOf2 (by decide) rfl rfl) ?_
    refine DR.r rfl rfl (r_load rfl Tryd.isAgg2) (one_read (row_cell (S0.old o_b0 (by simp)) rfl) (.of_flat0 rfl)) ?_
    refine DR.p rfl rfl (p_neq rfl rfl) ?_
    refine DR.pb rfl rfl (p_move rfl) (fun c119 => ?_) (fun c119 => ?_)
    · have hd120 := bif_t c119 hd117
      refine DR.gn rfl rfl rfl rfl ?_
      refine DR.gn rfl rfl rfl rfl ?_
      refine DR.gn rfl rfl rfl rfl ?_
      refine DR.p rfl rfl (p_pickT rfl rfl) ?_
      refine DR.p rfl rfl (p_assign rfl) ?_
      refine DR.nil 11 [(3, 1)] hst (by kernel_rfl) ⟨(rd1 (fun _ => rfl)), trivial⟩ ?_
      exact ⟨true, (some_inj hd120), S0, Sub.cons' rfl rfl (Sub.nil _)⟩
    · have hd121 := bif_f c119 hd117
      refine DR.gp rfl rfl rfl rfl (p_move rfl) ?_
      refine DR.gp rfl rfl rfl rfl (p_makeFunc (fs := []) (cs := [.pointer (some ⟨i_b0, 0, none⟩)]) rfl rfl) ?_
      obtain ⟨b122, h123, hd124⟩ := bnd_some hd121
      refine DR.gw rfl rfl rfl rfl (o_call (vs := [.slice p_a0 a0.length c_a0, .func (.func 63) #[] #[.pointer (some ⟨i_b0, 0, none⟩)]]) rfl Tryd.call62 (W_slices_ContainsFunc_Sint64_int64 fu H p_a0 c_a0 a0 (S0.view v_a0) 63 #[] #[.pointer (some ⟨i_b0, 0, none⟩)] (fun x0' => D_impl_IsSquare_1_1 fu x0' b0_0 b0_1) Tryd.call63 (fun G' hG x0' b' hb' => W_impl_IsSquare_1_1 fu G' x0' i_b0 _ b0_0 p_b0_1 c_b0_1 T_b0_1 b0_1 t_b0_1 (hG.view (S0.view v_b0_1)) (hG.tview (S0.tview w_b0_1)) (hG.get (S0.old o_b0 (by simp))) b' hb') b122 h123)) (Nat.le_refl _) ?_
      refine DR.p rfl rfl (p_pickF rfl rfl) ?_
      refine DR.p rfl rfl (p_assign rfl) ?_
      refine DR.nil 11 [(3, 1)] hst (by kernel_rfl) ⟨(rd1 (fun _ => rfl)), trivial⟩ ?_
      exact ⟨b122, (some_inj hd124), S0, Sub.cons' rfl rfl (Sub.nil _)⟩
  · rintro t' G127 ⟨b111, rfl, S126, hsub128⟩
    refine AX.sub hsub128 ?_
    refine AX.ret ?_
    obtain rfl := some_inj hd114
    exact ⟨.inr rfl, _, res1 rfl (rv_tmp rfl), rfl, (flatB_ok rfl), S126.hold⟩

set_option maxHeartbeats 4000000 in
theorem W_impl_IsSquare (fu : Nat) (H : AHeap) (a0_0 : Int) (p_a0_1 : Option Addr) (c_a0_1 : Nat) (T_a0_1 : Tb) (a0_1 : List (List Int)) (t_a0_1 : trows T_a0_1 = a0_1) (v_a0_1 : Vw H p_a0_1 a0_1.length c_a0_1 (tcells T_a0_1)) (w_a0_1 : TVw H T_a0_1) (r0 : Bool) (hd : D_impl_IsSquare fu a0_0 a0_1 = some r0) : ACall Tryd.prog 29 [.agg [.int .i64 a0_0, .slice p_a0_1 a0_1.length c_a0_1].toArray] H (.bool r0) H := by
  refine ACall.bodyP (N := 26) [(0, .agg [.int .i64 a0_0, .slice p_a0_1 a0_1.length c_a0_1].toArray)] Tryd.func29 rfl rfl rfl rfl ?_
  unfold D_impl_IsSquare at hd
  have S0 : St [] H H [] := St.nil H
  refine AX.seq ?_
  refine AX.region ?_
  obtain ⟨G100, i101, hii101, hHG100, S102⟩ := S0.new (AObj.row false ([.int .i64 a0_0, .slice p_a0_1 a0_1.length c_a0_1]))
  refine AO.c rfl (s_box (i := i101) (cs := [.int .i64 a0_0, .slice p_a0_1 a0_1.length c_a0_1]) rfl hii101 rfl hHG100) ?_
  refine AO.p rfl (p_assign rfl) ?_
  refine AO.nil ?_
  refine AX.seq ?_
  obtain ⟨r120, hb121, hd122⟩ := bnd_some hd
  refine AX.cut (fun t' H' => ∃ (b119 : Bool), b119 = r120 ∧ St [] H H' [[(i101, AObj.row false ([.int .i64 a0_0, .slice p_a0_1 a0_1.length c_a0_1]))]] ∧ Am.Sub [(1, .pointer (some ⟨i101, 0, none⟩)), (20, .bool b119)] t') ?_ ?_
  · skip
    refine DR.startS [false, false, true, false, false, false, false, false, false, false, false, false, false, true, false, false, false, false] mix (by kernel_rfl) (fun hst => ?_)
    refine DR.p rfl rfl (s_fieldAddr Tryd.underlying28 rfl Tryd.sizeOf2 (by decide) rfl rfl) ?_
    refine DR.r rfl rfl (r_load rfl Tryd.isAgg2) (one_read (row_cell (S102.get (k := 0) rfl) rfl) (.of_flat0 rfl)) ?_
    obtain ⟨b123, h124, hd125⟩ := bnd_some hb121
    refine DR.w rfl rfl (o_call (vs := [.int .i64 a0_0, .int .i64 1, .int .i64 13]) rfl Tryd.call46 (W_impl_between fu G100 a0_0 1 13 b123 h124)) (Nat.le_refl _) ?_
    refine DR.p rfl rfl (p_not rfl) ?_
    refine DR.pb rfl rfl (p_move rfl) (fun c127 => ?_) (fun c127 => ?_)
    · have hd128 := bif_t c127 hd125
      refine DR.gn rfl rfl rfl rfl ?_
      refine DR.gn rfl rfl rfl rfl ?_
      refine DR.gn rfl rfl rfl rfl ?_
      refine DR.gn rfl rfl rfl rfl ?_
      refine DR.p rfl rfl (p_pickT rfl rfl) ?_
      refine DR.p rfl rfl (p_move rfl) ?_
      refine DR.gn rfl rfl rfl rfl ?_
      refine DR.gn rfl rfl rfl rfl ?_
      refine DR.gn rfl rfl rfl rfl ?_
      refine DR.gn rfl rfl rfl rfl ?_
      refine DR.gn rfl rfl rfl rfl ?_
      refine DR.gn rfl rfl rfl rfl ?_
      refine DR.p rfl rfl (p_pickT rfl rfl) ?_
      refine DR.nil 18 [] hst (by kernel_rfl) trivial ?_
      have S129 := S102.front 0 rfl
      exact ⟨true, (some_inj hd128), S129, Sub.cons' rfl rfl (Sub.cons' rfl rfl (Sub.nil _))⟩
    · have hd130 := bif_f c127 hd125
      refine DR.gp rfl rfl rfl rfl (s_fieldAddr Tryd.underlying28 rfl Tryd.sizeOf2 (by decide) rfl rfl) ?_
      refine DR.gr rfl rfl rfl rfl (r_load rfl Tryd.isAgg2) (one_read (row_cell (S102.get (k := 0) rfl) rfl) (.of_flat0 rfl)) ?_
      refine DR.gp rfl rfl rfl rfl (p_remE rfl rfl (by decide)) ?_
      refine DR.gp rfl rfl rfl rfl (p_eql rfl rfl) ?_
      refine DR.p rfl rfl (p_pickF rfl rfl) ?_
      refine DR.pb rfl rfl (p_move rfl) (fun c131 => ?_) (fun c131 => ?_)
      · have hd132 := bif_t c131 hd130
        refine DR.gn rfl rfl rfl rfl ?_
        refine DR.gn rfl rfl rfl rfl ?_
        refine DR.gn rfl rfl rfl rfl ?_
        refine DR.gn rfl rfl rfl rfl ?_
        refine DR.gn rfl rfl rfl rfl ?_
        refine DR.gn rfl rfl rfl rfl ?_
        refine DR.p rfl rfl (p_pickT rfl rfl) ?_
        refine DR.nil 18 [] hst (by kernel_rfl) trivial ?_
        have S133 := S102.front 0 rfl
        exact ⟨true, (some_inj hd132), S133, Sub.cons' rfl rfl (Sub.cons' rfl rfl (Sub.nil _))⟩
      · have hd134 := bif_f c131 hd130
        refine DR.gp rfl rfl rfl rfl (s_fieldAddr Tryd.underlying28 rfl Tryd.sizeOf22 (by decide) rfl rfl) ?_
        refine DR.gr rfl rfl rfl rfl (r_load rfl Tryd.isAgg22) (one_read (row_cell (S102.get (k := 0) rfl) rfl) (S102.view v_a0_1).inn.bel) ?_
        obtain ⟨x135, h136, hd137⟩ := bnd_some hd134
        refine DR.gw rfl rfl rfl rfl (o_call (vs := [.slice p_a0_1 a0_1.length c_a0_1]) rfl Tryd.call58 (W_impl_size_Sint64 fu G100 p_a0_1 c_a0_1 T_a0_1 a0_1 t_a0_1 (S102.view v_a0_1) (S102.tview w_a0_1) x135 h136)) (Nat.le_refl _) ?_
        refine DR.gp rfl rfl rfl rfl (s_fieldAddr Tryd.underlying28 rfl Tryd.sizeOf2 (by decide) rfl rfl) ?_
        refine DR.gr rfl rfl rfl rfl (r_load rfl Tryd.isAgg2) (one_read (row_cell (S102.get (k := 0) rfl) rfl) (.of_flat0 rfl)) ?_
        refine DR.gp rfl rfl rfl rfl (p_neq rfl rfl) ?_
        refine DR.p rfl rfl (p_pickF rfl rfl) ?_
        refine DR.nil 18 [(15, 13)] hst (by kernel_rfl) ⟨(rd1 (fun _ => rfl)), trivial⟩ ?_
        have S139 := S102.front 0 rfl
        exact ⟨(!decide (x135 = a0_0)), (some_inj hd137), S139, Sub.cons' rfl rfl (Sub.cons' rfl rfl (Sub.nil _))⟩
  · rintro t' G141 ⟨b119, rfl, S140, hsub142⟩
    refine AX.sub hsub142 ?_
    refine AX.cond rfl (fun c143 => ?_) (fun c143 => ?_)
    · have hd144 := bif_t c143 hd122
      refine AX.seq ?_
      refine AX.region ?_
      refine AO.p rfl (p_assign rfl) ?_
      refine AO.nil ?_
      refine AX.ret ?_
      obtain rfl := some_inj hd144
      exact ⟨.inr rfl, _, res1 rfl (rv_tmp rfl), rfl, (flatB_ok rfl), S140.hold⟩
    · have hd145 := bif_f c143 hd122
      refine AX.skip ?_
      refine AX.seq ?_
      refine AX.region ?_
      refine AO.p rfl (s_fieldAddr Tryd.underlying28 rfl Tryd.sizeOf22 (by decide) rfl rfl) ?_
      refine AO.c rfl (s_load Tryd.isAgg22 rfl (row_cell (S140.get (k := 0) rfl) rfl)) ?_
      refine AO.p rfl (p_makeFunc (fs := []) (cs := [.pointer (some ⟨i101, 0, none⟩)]) rfl rfl) ?_
      obtain ⟨b146, h147, hd148⟩ := bnd_some hd145
      refine AO.c rfl (o_call (vs := [.slice p_a0_1 a0_1.length c_a0_1, .func (.func 60) #[] #[.pointer (some ⟨i101, 0, none⟩)]]) rfl Tryd.call59 (W_slices_ContainsFunc_SSint64_Sint64 fu G141 p_a0_1 c_a0_1 T_a0_1 a0_1 t_a0_1 (S140.view v_a0_1) (S140.tview w_a0_1) 60 #[] #[.pointer (some ⟨i101, 0, none⟩)] (fun x0' => D_impl_IsSquare_1 fu x0' a0_0 a0_1) Tryd.call60 (fun G' hG px0' cx0' x0' vx0' b' hb' => W_impl_IsSquare_1 fu G' px0' cx0' x0' vx0' i101 false a0_0 p_a0_1 c_a0_1 T_a0_1 a0_1 t_a0_1 (hG.view (S140.view v_a0_1)) (hG.tview (S140.tview w_a0_1)) (hG.get (S140.get (k := 0) rfl)) b' hb') b146 h147)) ?_
      refine AO.p rfl (p_not rfl) ?_
      refine AO.p rfl (p_assign rfl) ?_
      refine AO.nil ?_
      refine AX.ret ?_
      obtain rfl := some_inj hd148
      exact ⟨.inr rfl, _, res1 rfl (rv_tmp rfl), rfl, (flatB_ok rfl), S140.hold⟩

set_option maxHeartbeats 4000000 in
theorem W_spec_l04Is (fu : Nat) (H : AHeap) (a0_0 : Int) (p_a0_1 : Option Addr) (c_a0_1 : Nat) (T_a0_1 : Tb) (a0_1 : List (List Int)) (t_a0_1 : trows T_a0_1 = a0_1) (v_a0_1 : Vw H p_a0_1 a0_1.length c_a0_1 (tcells T_a0_1)) (w_a0_1 : TVw H T_a0_1) (r0 : Bool) (hd : D_spec_l04Is fu a0_0 a0_1 = some r0) : ACall Tryd.prog 26 [.agg [.int .i64 a0_0, .slice p_a0_1 a0_1.length c_a0_1].toArray] H (.bool r0) H := by
  refine ACall.bodyP (N := 70) [(0, .agg [.int .i64 a0_0, .slice p_a0_1 a0_1.length c_a0_1].toArray)] Tryd.func26 rfl rfl rfl rfl ?_
  unfold D_spec_l04Is at hd
  have S0 : St [] H H [] := St.nil H
  refine AX.seq ?_
  refine AX.region ?_
  obtain ⟨G100, i101, hii101, hHG100, S102⟩ := S0.new (AObj.row false ([.int .i64 a0_0, .slice p_a0_1 a0_1.length c_a0_1]))
  refine AO.c rfl (s_box (i := i101) (cs := [.int .i64 a0_0, .slice p_a0_1 a0_1.length c_a0_1]) rfl hii101 rfl hHG100) ?_
  refine AO.p rfl (p_assign rfl) ?_
  refine AO.nil ?_
  refine AX.seq ?_
  refine AX.region ?_
  refine AO.p rfl (s_fieldAddr Tryd.underlying28 rfl Tryd.sizeOf2 (by decide) rfl rfl) ?_
  refine AO.c rfl (s_load Tryd.isAgg2 rfl (row_cell (S102.get (k := 0) rfl) rfl)) ?_
  refine AO.p rfl (p_assign rfl) ?_
  refine AO.nil ?_
  refine AX.seq ?_
  obtain ⟨r116, hb117, hd118⟩ := bnd_some hd
  refine AX.cut (fun t' H' => ∃ (b115 : Bool), b115 = r116 ∧ St [] H H' [[(i101, AObj.row false ([.int .i64 a0_0, .slice p_a0_1 a0_1.length c_a0_1]))]] ∧ Am.Sub [(1, .pointer (some ⟨i101, 0, none⟩)), (3, .int .i64 a0_0), (23, .bool b115)] t') ?_ ?_
  · skip
    refine AX.region ?_
    refine AO.p rfl (p_move rfl) ?_
    obtain ⟨b119, h120, hd121⟩ := bnd_some hb117
    refine AO.c rfl (o_call (vs := [.int .i64 a0_0, .int .i64 1, .int .i64 13]) rfl Tryd.call55 (W_spec_l01In fu G100 a0_0 1 13 b119 h120)) ?_
    refine AO.p rfl (p_not rfl) ?_
    refine AO.p rfl (p_move rfl) ?_
    refine AO.cases (d := 12) rfl (fun c123 => ?_) (fun c123 => ?_)
    · have hd124 := bif_t c123 hd121
      refine AO.gn rfl rfl rfl ?_
      refine AO.gn rfl rfl rfl ?_
      refine AO.gn rfl rfl rfl ?_
      refine AO.p rfl (p_pickT rfl rfl) ?_
      refine AO.p rfl (p_move rfl) ?_
      refine AO.gn rfl rfl rfl ?_
      refine AO.gn rfl rfl rfl ?_
      refine AO.gn rfl rfl rfl ?_
      refine AO.gn rfl rfl rfl ?_
      refine AO.gn rfl rfl rfl ?_
      refine AO.p rfl (p_pickT rfl rfl) ?_
      refine AO.nil ?_
      have S125 := S102.front 0 rfl
      exact ⟨true, (some_inj hd124), S125, Sub.cons' rfl rfl (Sub.cons' rfl rfl (Sub.cons' rfl rfl (Sub.nil _)))⟩
    · have hd126 := bif_f c123 hd121
      refine AO.gp rfl rfl rfl (p_move rfl) ?_
      refine AO.gp rfl rfl rfl (p_remE rfl rfl (by decide)) ?_
      refine AO.gp rfl rfl rfl (p_eql rfl rfl) ?_
      refine AO.p rfl (p_pickF rfl rfl) ?_
      refine AO.p rfl (p_move rfl) ?_
      refine AO.cases (d := 17) rfl (fun c127 => ?_) (fun c127 => ?_)
      · have hd128 := bif_t c127 hd126
        refine AO.gn rfl rfl rfl ?_
        refine AO.gn rfl rfl rfl ?_
        refine AO.gn rfl rfl rfl ?_
        refine AO.gn rfl rfl rfl ?_
        refine AO.gn rfl rfl rfl ?_
        refine AO.p rfl (p_pickT rfl rfl) ?_
        refine AO.nil ?_
        have S129 := S102.front 0 rfl
        exact ⟨true, (some_inj hd128), S129, Sub.cons' rfl rfl (Sub.cons' rfl rfl (Sub.cons' rfl rfl (Sub.nil _)))⟩
      · have hd130 := bif_f c127 hd126
        refine AO.gp rfl rfl rfl (s_fieldAddr Tryd.underlying28 rfl Tryd.sizeOf22 (by decide) rfl rfl) ?_
        refine AO.gc rfl rfl rfl (s_load Tryd.isAgg22 rfl (row_cell (S102.get (k := 0) rfl) rfl)) ?_
        refine AO.gp rfl rfl rfl (p_len_slice rfl Tryd.underlying22) ?_
        refine AO.gp rfl rfl rfl (p_move rfl) ?_
        refine AO.gp rfl rfl rfl (p_neq rfl rfl) ?_
        refine AO.p rfl (p_pickF rfl rfl) ?_
        refine AO.nil ?_
        have S131 := S102.front 0 rfl
        exact ⟨(!decide (((a0_1.length : Nat) : Int) = a0_0)), (some_inj hd130), S131, Sub.cons' rfl rfl (Sub.cons' rfl rfl (Sub.cons' rfl rfl (Sub.nil _)))⟩
  · rintro t' G133 ⟨b115, rfl, S132, hsub134⟩
    refine AX.sub hsub134 ?_
    refine AX.cond rfl (fun c135 => ?_) (fun c135 => ?_)
    · have hd136 := bif_t c135 hd118
      refine AX.seq ?_
      refine AX.region ?_
      refine AO.p rfl (p_assign rfl) ?_
      refine AO.nil ?_
      refine AX.ret ?_
      obtain rfl := some_inj hd136
      exact ⟨.inr rfl, _, res1 rfl (rv_tmp rfl), rfl, (flatB_ok rfl), S132.hold⟩
    · have hd137 := bif_f c135 hd118
      refine AX.skip ?_
      refine AX.seq ?_
      refine AX.seq ?_
      refine AX.region ?_
      refine AO.p rfl (p_assign rfl) ?_
      refine AO.nil ?_
      obtain ⟨r992, hl993, hd994⟩ := bnd_some hd137
      refine AX.cutS (fun t' H' => .inl () = r992 ∧ St [] H H' [] ∧ Am.Sub [] t') ?_ ?_
      · refine AX.block ?_
        refine AX.loopF (fun s' t' H' => ∃ (x708 : Int), x708 = s' ∧ St [] H H' [[(i101, AObj.row false ([.int .i64 a0_0, .slice p_a0_1 a0_1.length c_a0_1]))]] ∧ Am.Sub [(1, .pointer (some ⟨i101, 0, none⟩)), (3, .int .i64 a0_0), (4, .int .i64 x708)] t') hl993 ?_ ?_
        · skip
          have S995 := S132.front 0 rfl
          exact ⟨0, rfl, S995, Sub.cons' rfl rfl (Sub.cons' rfl rfl (Sub.cons' rfl rfl (Sub.nil _)))⟩
        · rintro n996 _ t' G1000 ⟨x708, rfl, S999, hsub1001⟩ o1002 ho997 hk998
          refine AX.sub hsub1001 ?_
          unfold D_spec_l04Is_s0 at ho997
          refine AX.seq ?_
          refine AX.seq ?_
          refine AX.region ?_
          refine AO.p rfl (p_move rfl) ?_
          refine AO.p rfl (p_move rfl) ?_
          refine AO.p rfl (p_lss rfl rfl) ?_
          refine AO.nil ?_
          refine AX.cond rfl (fun c1003 => ?_) (fun c1003 => ?_)
          · have hd1004 := bif_t c1003 ho997
            refine AX.skip ?_
            refine AX.seq ?_
            refine AX.block ?_
            refine AX.seq ?_
            refine AX.seq ?_
            refine AX.region ?_
            refine AO.p rfl (s_fieldAddr Tryd.underlying28 rfl Tryd.sizeOf22 (by decide) rfl rfl) ?_
            refine AO.c rfl (s_load Tryd.isAgg22 rfl (row_cell (S999.get (k := 0) rfl) rfl)) ?_
            refine AO.p rfl (p_move rfl) ?_
            obtain ⟨k1005, hd1006⟩ := chk_some hd1004
            obtain ⟨p1007, c1008, e1009, f1010⟩ := tget t_a0_1 (lt_len rfl (inR_lt k1005))
            refine AO.p rfl (s_indexV (q := off p_a0_1 + x708.toNat) Tryd.underlying22 Tryd.sizeOf66 rfl ((S999.view v_a0_1).p f1010) rfl k1005 (o1 _ _)) ?_
            refine AO.c rfl (s_load Tryd.isAgg66 rfl ((S999.view v_a0_1).get _ _ f1010)) ?_
            refine AO.p rfl (p_len_slice rfl Tryd.underlying66) ?_
            refine AO.p rfl (p_move rfl) ?_
            refine AO.p rfl (p_neq rfl rfl) ?_
            refine AO.nil ?_
            refine AX.cond rfl (fun c1011 => ?_) (fun c1011 => ?_)
            · have hd1012 := bif_t c1011 hd1006
              refine AX.seq ?_
              refine AX.region ?_
              refine AO.p rfl (p_assign rfl) ?_
              refine AO.nil ?_
              refine AX.ret ?_
              obtain rfl := some_inj hd1012
              have z1013 : _ = r992 := hk998
              subst z1013
              obtain rfl := some_inj hd994
              exact ⟨.inr rfl, _, res1 rfl (rv_tmp rfl), rfl, (flatB_ok rfl), S999.hold⟩
            · have hd1014 := bif_f c1011 hd1006
              refine AX.skip ?_
              refine AX.seq ?_
              refine AX.region ?_
              refine AO.p rfl (p_assign rfl) ?_
              refine AO.nil ?_
              obtain ⟨r1207, hl1208, hd1209⟩ := bnd_some hd1014
              refine AX.cutS (fun t' H' => .inl () = r1207 ∧ St [] H H' [[(i101, AObj.row false ([.int .i64 a0_0, .slice p_a0_1 a0_1.length c_a0_1]))]] ∧ Am.Sub [(1, .pointer (some ⟨i101, 0, none⟩)), (3, .int .i64 a0_0), (4, .int .i64 x708)] t') ?_ ?_
              · refine AX.block ?_
                refine AX.loopF (fun s' t' H' => ∃ (x1143 : Int), x1143 = s' ∧ St [] H H' [[(i101, AObj.row false ([.int .i64 a0_0, .slice p_a0_1 a0_1.length c_a0_1]))]] ∧ Am.Sub [(1, .pointer (some ⟨i101, 0, none⟩)), (3, .int .i64 a0_0), (4, .int .i64 x708), (5, .int .i64 x1143)] t') hl1208 ?_ ?_
                · skip
                  have S1210 := S999.front 0 rfl
                  exact ⟨0, rfl, S1210, Sub.cons' rfl rfl (Sub.cons' rfl rfl (Sub.cons' rfl rfl (Sub.cons' rfl rfl (Sub.nil _))))⟩
                · rintro n1211 _ t' G1215 ⟨x1143, rfl, S1214, hsub1216⟩ o1217 ho1212 hk1213
                  refine AX.sub hsub1216 ?_
                  unfold D_spec_l04Is_s1 at ho1212
                  refine AX.seq ?_
                  refine AX.seq ?_
                  refine AX.region ?_
                  refine AO.p rfl (p_move rfl) ?_
                  refine AO.p rfl (p_move rfl) ?_
                  refine AO.p rfl (p_lss rfl rfl) ?_
                  refine AO.nil ?_
                  refine AX.cond rfl (fun c1218 => ?_) (fun c1218 => ?_)
                  · have hd1219 := bif_t c1218 ho1212
                    refine AX.skip ?_
                    refine AX.seq ?_
                    refine AX.block ?_
                    refine AX.seq ?_
                    refine AX.region ?_
                    refine AO.p rfl (s_fieldAddr Tryd.underlying28 rfl Tryd.sizeOf22 (by decide) rfl rfl) ?_
                    refine AO.c rfl (s_load Tryd.isAgg22 rfl (row_cell (S1214.get (k := 0) rfl) rfl)) ?_
                    refine AO.p rfl (p_move rfl) ?_
                    obtain ⟨k1220, hd1221⟩ := chk_some hd1219
                    obtain ⟨p1222, c1223, e1224, f1225⟩ := tget t_a0_1 (lt_len rfl (inR_lt k1220))
                    refine AO.p rfl (s_indexV (q := off p_a0_1 + x708.toNat) Tryd.underlying22 Tryd.sizeOf66 rfl ((S1214.view v_a0_1).p f1225) rfl k1220 (o1 _ _)) ?_
                    refine AO.c rfl (s_load Tryd.isAgg66 rfl ((S1214.view v_a0_1).get _ _ f1225)) ?_
                    refine AO.p rfl (p_move rfl) ?_
                    obtain ⟨k1226, hd1227⟩ := chk_some hd1221
                    refine AO.p rfl (s_indexV (q := off p1222 + x1143.toNat) Tryd.underlying66 Tryd.sizeOf2 rfl ((TVw.at (S1214.tview w_a0_1) e1224).p (ints_get (lt_len rfl (inR_lt k1226)))) rfl k1226 (o1 _ _)) ?_
                    refine AO.c rfl (s_load Tryd.isAgg2 rfl ((TVw.at (S1214.tview w_a0_1) e1224).get _ _ (ints_get (lt_len rfl (inR_lt k1226))))) ?_
                    refine AO.p rfl (p_assign rfl) ?_
                    refine AO.nil ?_
                    obtain ⟨r1245, hb1246, hd1247⟩ := bnd_some hd1227
                    refine AX.cut (fun t' H' => ∃ (b1244 : Bool), b1244 = r1245 ∧ St [] H H' [[(i101, AObj.row false ([.int .i64 a0_0, .slice p_a0_1 a0_1.length c_a0_1]))]] ∧ Am.Sub [(1, .pointer (some ⟨i101, 0, none⟩)), (3, .int .i64 a0_0), (4, .int .i64 x708), (5, .int .i64 x1143), (69, .bool b1244)] t') ?_ ?_
                    · skip
                      refine AX.region ?_
                      refine AO.p rfl (p_move rfl) ?_
                      refine AO.p rfl (p_neq rfl rfl) ?_
                      refine AO.p rfl (p_move rfl) ?_
                      refine AO.cases (d := 52) rfl (fun c1248 => ?_) (fun c1248 => ?_)
                      · have hd1249 := bif_t c1248 hb1246
                        refine AO.gp rfl rfl rfl (p_move rfl) ?_
                        obtain ⟨b1250, h1251, hd1252⟩ := bnd_some hd1249
                        refine AO.gc rfl rfl rfl (o_call (vs := [.int .i64 (rd (rw_ a0_1 x708.toNat) x1143.toNat), .int .i64 0, .int .i64 195]) rfl Tryd.call55 (W_spec_l01In fu G1215 (rd (rw_ a0_1 x708.toNat) x1143.toNat) 0 195 b1250 h1251)) ?_
                        refine AO.gp rfl rfl rfl (p_not rfl) ?_
                        refine AO.gp rfl rfl rfl (p_move rfl) ?_
                        refine AO.cases (d := 56) rfl (fun c1254 => ?_) (fun c1254 => ?_)
                        · have hd1255 := bif_t c1254 hd1252
                          refine AO.gn rfl rfl rfl ?_
                          refine AO.gn rfl rfl rfl ?_
                          refine AO.gn rfl rfl rfl ?_
                          refine AO.gn rfl rfl rfl ?_
                          refine AO.gn rfl rfl rfl ?_
                          refine AO.gp rfl rfl rfl (p_pickT rfl rfl) ?_
                          refine AO.gp rfl rfl rfl (p_move rfl) ?_
                          refine AO.gn rfl rfl rfl ?_
                          refine AO.gn rfl rfl rfl ?_
                          refine AO.gn rfl rfl rfl ?_
                          refine AO.gn rfl rfl rfl ?_
                          refine AO.gp rfl rfl rfl (p_pickT rfl rfl) ?_
                          refine AO.p rfl (p_pickT rfl rfl) ?_
                          refine AO.nil ?_
                          have S1256 := S1214.front 0 rfl
                          exact ⟨true, (some_inj hd1255), S1256, Sub.cons' rfl rfl (Sub.cons' rfl rfl (Sub.cons' rfl rfl (Sub.cons' rfl rfl (Sub.cons' rfl rfl (Sub.nil _)))))⟩
                        · have hd1257 := bif_f c1254 hd1252
                          refine AO.gp rfl rfl rfl (p_move rfl) ?_
                          obtain ⟨k1258, hd1259⟩ := chk_some hd1257
                          refine AO.gp rfl rfl rfl (p_quoE rfl rfl k1258) ?_
                          refine AO.gp rfl rfl rfl (p_move rfl) ?_
                          refine AO.gp rfl rfl rfl (p_remE rfl rfl (by decide)) ?_
                          refine AO.gp rfl rfl rfl (p_geq rfl rfl) ?_
                          refine AO.gp rfl rfl rfl (p_pickF rfl rfl) ?_
                          refine AO.gp rfl rfl rfl (p_move rfl) ?_
                          refine AO.cases (d := 63) rfl (fun c1260 => ?_) (fun c1260 => ?_)
                          · have hd1261 := bif_t c1260 hd1259
                            refine AO.gn rfl rfl rfl ?_
                            refine AO.gn rfl rfl rfl ?_
                            refine AO.gn rfl rfl rfl ?_
                            refine AO.gn rfl rfl rfl ?_
                            refine AO.gp rfl rfl rfl (p_pickT rfl rfl) ?_
                            refine AO.p rfl (p_pickT rfl rfl) ?_
                            refine AO.nil ?_
                            have S1262 := S1214.front 0 rfl
                            exact ⟨true, (some_inj hd1261), S1262, Sub.cons' rfl rfl (Sub.cons' rfl rfl (Sub.cons' rfl rfl (Sub.cons' rfl rfl (Sub.cons' rfl rfl (Sub.nil _)))))⟩
                          · have hd1263 := bif_f c1260 hd1259
                            refine AO.gp rfl rfl rfl (p_move rfl) ?_
                            refine AO.gp rfl rfl rfl (p_remE rfl rfl (by decide)) ?_
                            refine AO.gp rfl rfl rfl (p_move rfl) ?_
                            refine AO.gp rfl rfl rfl (p_gtr rfl rfl) ?_
                            refine AO.gp rfl rfl rfl (p_pickF rfl rfl) ?_
                            refine AO.p rfl (p_pickT rfl rfl) ?_
                            refine AO.nil ?_
                            have S1264 := S1214.front 0 rfl
                            exact ⟨(decide (a0_0 < (rd (rw_ a0_1 x708.toNat) x1143.toNat).tmod 14)), (some_inj hd1263), S1264, Sub.cons' rfl rfl (Sub.cons' rfl rfl (Sub.cons' rfl rfl (Sub.cons' rfl rfl (Sub.cons' rfl rfl (Sub.nil _)))))⟩
                      · have hd1265 := bif_f c1248 hb1246
                        refine AO.gn rfl rfl rfl ?_
                        refine AO.gn rfl rfl rfl ?_
                        refine AO.gn rfl rfl rfl ?_
                        refine AO.gn rfl rfl rfl ?_
                        refine AO.gu rfl rfl rfl ?_
                        refine AO.gu rfl rfl rfl ?_
                        refine AO.gu rfl rfl rfl ?_
                        refine AO.gu rfl rfl rfl ?_
                        refine AO.gu rfl rfl rfl ?_
                        refine AO.gn rfl rfl rfl ?_
                        refine AO.gn rfl rfl rfl ?_
                        refine AO.gu rfl rfl rfl ?_
                        refine AO.gu rfl rfl rfl ?_
                        refine AO.gu rfl rfl rfl ?_
                        refine AO.gu rfl rfl rfl ?_
                        refine AO.gn rfl rfl rfl ?_
                        refine AO.p rfl (p_pickF rfl rfl) ?_
                        refine AO.nil ?_
                        have S1266 := S1214.front 0 rfl
                        exact ⟨false, (some_inj hd1265), S1266, Sub.cons' rfl rfl (Sub.cons' rfl rfl (Sub.cons' rfl rfl (Sub.cons' rfl rfl (Sub.cons' rfl rfl (Sub.nil _)))))⟩
                    · rintro t' G1268 ⟨b1244, rfl, S1267, hsub1269⟩
                      refine AX.sub hsub1269 ?_
                      refine AX.cond rfl (fun c1270 => ?_) (fun c1270 => ?_)
                      · have hd1271 := bif_t c1270 hd1247
                        refine AX.seq ?_
                        refine AX.region ?_
                        refine AO.p rfl (p_assign rfl) ?_
                        refine AO.nil ?_
                        refine AX.ret ?_
                        obtain rfl := some_inj hd1271
                        have z1272 : _ = r1207 := hk1213
                        subst z1272
                        obtain rfl := some_inj hd1209
                        have z1273 : _ = r992 := hk998
                        subst z1273
                        obtain rfl := some_inj hd994
                        exact ⟨.inr rfl, _, res1 rfl (rv_tmp rfl), rfl, (flatB_ok rfl), S1267.hold⟩
                      · have hd1274 := bif_f c1270 hd1247
                        refine AX.skip ?_
                        refine AX.region ?_
                        refine AO.p rfl (p_move rfl) ?_
                        obtain ⟨k1275, hd1276⟩ := chk_some hd1274
                        refine AO.p rfl (p_addE rfl rfl k1275) ?_
                        refine AO.p rfl (p_assign rfl) ?_
                        refine AO.nil ?_
                        obtain rfl := some_inj hd1276
                        have S1278 := S1267.front 0 rfl
                        exact ⟨x1143 + 1, hk1213, (x1143 + 1), rfl, S1278, Sub.cons' rfl rfl (Sub.cons' rfl rfl (Sub.cons' rfl rfl (Sub.cons' rfl rfl (Sub.nil _))))⟩
                  · have hd1279 := bif_f c1218 ho1212
                    refine AX.exit ?_
                    obtain rfl := some_inj hd1279
                    have S1280 := S1214.front 0 rfl
                    exact ⟨hk1213, S1280, Sub.cons' rfl rfl (Sub.cons' rfl rfl (Sub.cons' rfl rfl (Sub.nil _)))⟩
              · rintro t' G1282 ⟨rfl, S1281, hsub1283⟩
                refine ⟨_, hsub1283, ?_⟩
                refine AX.region ?_
                refine AO.p rfl (p_move rfl) ?_
                obtain ⟨k1284, hd1285⟩ := chk_some hd1209
                refine AO.p rfl (p_addE rfl rfl k1284) ?_
                refine AO.p rfl (p_assign rfl) ?_
                refine AO.nil ?_
                obtain rfl := some_inj hd1285
                have S1287 := S1281.front 0 rfl
                exact ⟨x708 + 1, hk998, (x708 + 1), rfl, S1287, Sub.cons' rfl rfl (Sub.cons' rfl rfl (Sub.cons' rfl rfl (Sub.nil _)))⟩
          · have hd1289 := bif_f c1003 ho997
            refine AX.exit ?_
            obtain rfl := some_inj hd1289
            have S1290 := S999.keep 0
            exact ⟨hk998, S1290, Sub.nil _⟩
      · rintro t' G1292 ⟨rfl, S1291, hsub1293⟩
        refine ⟨_, hsub1293, ?_⟩
        refine AX.seq ?_
        refine AX.region ?_
        refine AO.p rfl (p_assign rfl) ?_
        refine AO.nil ?_
        refine AX.ret ?_
        obtain rfl := some_inj hd994
        exact ⟨.inr rfl, _, res1 rfl (rv_tmp rfl), rfl, (flatB_ok rfl), S1291.hold⟩

end Go.Proofs.YtfiilgnebmidbaaDoor
