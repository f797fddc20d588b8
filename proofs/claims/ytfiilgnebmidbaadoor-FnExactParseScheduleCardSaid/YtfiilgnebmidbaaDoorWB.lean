/-
  The program computes that, printed by a program. No condition.
-/
import Derived.Test.YtfiilgnebmidbaaDoorDB
import Derived.Test.YtfiilgnebmidbaaDoorWL
import Derived.Test.YtfiilgnebmidbaaDoorWM
import Derived.Test.YtfiilgnebmidbaaDoorProg
import Derived.KernelRfl
namespace Go.Proofs.YtfiilgnebmidbaaDoor
open Go Go.RowKit Am
set_option linter.unusedVariables false
set_option linter.unusedSimpArgs false
set_option maxRecDepth 20000
set_option maxHeartbeats 4000000 in
theorem W_slices_IndexFunc_SSint64_Sint64 (fu : Nat) (H : AHeap) (p_a0 : Option Addr) (c_a0 : Nat) (T_a0 : Tb) (a0 : List (List Int)) (t_a0 : trows T_a0 = a0) (v_a0 : Vw H p_a0 a0.length c_a0 (tcells T_a0)) (w_a0 : TVw H T_a0) (f_a1 : FuncId) (fs_a1 cs_a1 : Array Value) (a1 : (List Int) → Option Bool) (hc_a1 : ∀ args w, (callFunc f_a1 args).run Tryd.prog w = .ok (.enter f_a1 args) w) (hq_a1 : ∀ H', ExtG H H' → ∀ (p_x0_a1 : Option Addr) (c_x0_a1 : Nat) (x0_a1 : List Int) (v_x0_a1 : Vw H' p_x0_a1 x0_a1.length c_x0_a1 (ints x0_a1)) (b : Bool), a1 x0_a1 = some b → ACall Tryd.prog f_a1 (fs_a1.toList ++ [.slice p_x0_a1 x0_a1.length c_x0_a1] ++ cs_a1.toList) H' (.bool b) H') (r0 : Int) (hd : D_slices_IndexFunc_SSint64_Sint64 fu a0 a1 = some r0) : ACall Tryd.prog 85 [.slice p_a0 a0.length c_a0, .func (.func f_a1) fs_a1 cs_a1] H (.int .i64 r0) H := by
  refine ACall.bodyP (N := 19) [(0, .slice p_a0 a0.length c_a0), (1, .func (.func f_a1) fs_a1 cs_a1)] Tryd.func85 rfl rfl rfl rfl ?_
  unfold D_slices_IndexFunc_SSint64_Sint64 at hd
  have S0 : St [] H H [] := St.nil H
  refine AX.seq ?_
  refine AX.region ?_
  refine AO.p rfl (p_assign rfl) ?_
  refine AO.nil ?_
  refine AX.seq ?_
  refine AX.seq ?_
  refine AX.region ?_
  refine AO.p rfl (p_move rfl) ?_
  refine AO.p rfl (p_len_slice rfl Tryd.underlying22) ?_
  refine AO.p rfl (p_move rfl) ?_
  refine AO.nil ?_
  obtain ⟨r162, hl163, hd164⟩ := bnd_some hd
  refine AX.cutS (fun t' H' => .inl () = r162 ∧ St [] H H' [] ∧ Am.Sub [] t') ?_ ?_
  · refine AX.block ?_
    refine AX.loopF (fun s' t' H' => ∃ (x141 : Int), x141 = s' ∧ St [] H H' [] ∧ Am.Sub [(0, .slice p_a0 a0.length c_a0), (1, .func (.func f_a1) fs_a1 cs_a1), (7, .int .i64 ((a0.length : Nat) : Int)), (8, .int .i64 x141)] t') hl163 ?_ ?_
    · skip
      exact ⟨0, rfl, S0, Sub.cons' rfl rfl (Sub.cons' rfl rfl (Sub.cons' rfl rfl (Sub.cons' rfl rfl (Sub.nil _))))⟩
    · rintro n165 _ t' G169 ⟨x141, rfl, S168, hsub170⟩ o171 ho166 hk167
      refine AX.sub hsub170 ?_
      unfold D_slices_IndexFunc_SSint64_Sint64_s0 at ho166
      refine AX.seq ?_
      refine AX.region ?_
      refine AO.p rfl (p_lss rfl rfl) ?_
      refine AO.nil ?_
      refine AX.seq ?_
      refine AX.cond rfl (fun c172 => ?_) (fun c172 => ?_)
      · have hd173 := bif_t c172 ho166
        refine AX.skip ?_
        refine AX.seq ?_
        refine AX.block ?_
        refine AX.seq ?_
        refine AX.region ?_
        refine AO.p rfl (p_move rfl) ?_
        refine AO.p rfl (p_assign rfl) ?_
        refine AO.nil ?_
        refine AX.seq ?_
        refine AX.region ?_
        refine AO.p rfl (p_move rfl) ?_
        refine AO.p rfl (p_move rfl) ?_
        refine AO.p rfl (p_move rfl) ?_
        obtain ⟨k174, hd175⟩ := chk_some hd173
        obtain ⟨p176, c177, e178, f179⟩ := tget t_a0 (lt_len rfl (inR_lt k174))
        refine AO.p rfl (s_indexV (q := off p_a0 + x141.toNat) Tryd.underlying22 Tryd.sizeOf66 rfl ((S168.view v_a0).p f179) rfl k174 (o1 _ _)) ?_
        refine AO.c rfl (s_load Tryd.isAgg66 rfl ((S168.view v_a0).get _ _ f179)) ?_
        obtain ⟨b180, h181, hd182⟩ := bnd_some hd175
        refine AO.c rfl (o_callV (vs := [.slice p176 ((rw_ a0 x141.toNat).length) c177]) rfl rfl hc_a1 (hq_a1 G169 S168.ext p176 c177 (rw_ a0 x141.toNat) (TVw.at (S168.tview w_a0) e178) b180 h181)) ?_
        refine AO.nil ?_
        refine AX.cond rfl (fun c183 => ?_) (fun c183 => ?_)
        · have hd184 := bif_t c183 hd182
          refine AX.seq ?_
          refine AX.region ?_
          refine AO.p rfl (p_move rfl) ?_
          refine AO.p rfl (p_assign rfl) ?_
          refine AO.nil ?_
          refine AX.ret ?_
          obtain rfl := some_inj hd184
          have z185 : _ = r162 := hk167
          subst z185
          obtain rfl := some_inj hd164
          exact ⟨.inr rfl, _, res1 rfl (rv_tmp rfl), rfl, (flatB_ok rfl), S168.hold⟩
        · have hd186 := bif_f c183 hd182
          refine AX.skip ?_
          refine AX.region ?_
          obtain ⟨k187, hd188⟩ := chk_some hd186
          refine AO.p rfl (p_addE rfl rfl k187) ?_
          refine AO.p rfl (p_move rfl) ?_
          refine AO.nil ?_
          obtain rfl := some_inj hd188
          exact ⟨x141 + 1, hk167, (x141 + 1), rfl, S168, Sub.cons' rfl rfl (Sub.cons' rfl rfl (Sub.cons' rfl rfl (Sub.cons' rfl rfl (Sub.nil _))))⟩
      · have hd190 := bif_f c172 ho166
        refine AX.exit ?_
        obtain rfl := some_inj hd190
        exact ⟨hk167, S168, Sub.nil _⟩
  · rintro t' G192 ⟨rfl, S191, hsub193⟩
    refine ⟨_, hsub193, ?_⟩
    refine AX.seq ?_
    refine AX.region ?_
    refine AO.p rfl (p_assign rfl) ?_
    refine AO.nil ?_
    refine AX.ret ?_
    obtain rfl := some_inj hd164
    exact ⟨.inr rfl, _, res1 rfl (rv_tmp rfl), rfl, (flatB_ok rfl), S191.hold⟩

set_option maxHeartbeats 4000000 in
theorem W_slices_ContainsFunc_SSint64_Sint64 (fu : Nat) (H : AHeap) (p_a0 : Option Addr) (c_a0 : Nat) (T_a0 : Tb) (a0 : List (List Int)) (t_a0 : trows T_a0 = a0) (v_a0 : Vw H p_a0 a0.length c_a0 (tcells T_a0)) (w_a0 : TVw H T_a0) (f_a1 : FuncId) (fs_a1 cs_a1 : Array Value) (a1 : (List Int) → Option Bool) (hc_a1 : ∀ args w, (callFunc f_a1 args).run Tryd.prog w = .ok (.enter f_a1 args) w) (hq_a1 : ∀ H', ExtG H H' → ∀ (p_x0_a1 : Option Addr) (c_x0_a1 : Nat) (x0_a1 : List Int) (v_x0_a1 : Vw H' p_x0_a1 x0_a1.length c_x0_a1 (ints x0_a1)) (b : Bool), a1 x0_a1 = some b → ACall Tryd.prog f_a1 (fs_a1.toList ++ [.slice p_x0_a1 x0_a1.length c_x0_a1] ++ cs_a1.toList) H' (.bool b) H') (r0 : Bool) (hd : D_slices_ContainsFunc_SSint64_Sint64 fu a0 a1 = some r0) : ACall Tryd.prog 59 [.slice p_a0 a0.length c_a0, .func (.func f_a1) fs_a1 cs_a1] H (.bool r0) H := by
  refine ACall.bodyP (N := 9) [(0, .slice p_a0 a0.length c_a0), (1, .func (.func f_a1) fs_a1 cs_a1)] Tryd.func59 rfl rfl rfl rfl ?_
  unfold D_slices_ContainsFunc_SSint64_Sint64 at hd
  have S0 : St [] H H [] := St.nil H
  refine AX.seq ?_
  refine AX.region ?_
  refine AO.p rfl (p_assign rfl) ?_
  refine AO.nil ?_
  refine AX.seq ?_
  refine AX.region ?_
  refine AO.p rfl (p_move rfl) ?_
  refine AO.p rfl (p_move rfl) ?_
  obtain ⟨x100, h101, hd102⟩ := bnd_some hd
  refine AO.c rfl (o_call (vs := [.slice p_a0 a0.length c_a0, .func (.func f_a1) fs_a1 cs_a1]) rfl Tryd.call85 (W_slices_IndexFunc_SSint64_Sint64 fu H p_a0 c_a0 T_a0 a0 t_a0 (S0.view v_a0) (S0.tview w_a0) f_a1 fs_a1 cs_a1 a1 hc_a1 (fun G' hG => hq_a1 G' (S0.ext.trans hG)) x100 h101)) ?_
  refine AO.p rfl (p_geq rfl rfl) ?_
  refine AO.p rfl (p_assign rfl) ?_
  refine AO.nil ?_
  refine AX.ret ?_
  obtain rfl := some_inj hd102
  exact ⟨.inr rfl, _, res1 rfl (rv_tmp rfl), rfl, (flatB_ok rfl), S0.hold⟩

set_option maxHeartbeats 4000000 in
theorem W_impl_RoundOf_1 (fu : Nat) (H : AHeap) (p_a0 : Option Addr) (c_a0 : Nat) (a0 : List Int) (v_a0 : Vw H p_a0 a0.length c_a0 (ints a0)) (i_b0 : Nat) (ro_b0 : Bool) (b0_0 : Int) (o_b0 : hget H i_b0 = .row ro_b0 ([.int .i64 b0_0])) (r0 : Bool) (hd : D_impl_RoundOf_1 fu a0 b0_0 = some r0) : ACall Tryd.prog 79 [.slice p_a0 a0.length c_a0, .pointer (some ⟨i_b0, 0, none⟩)] H (.bool r0) H := by
  refine ACall.bodyP (N := 34) [(0, .slice p_a0 a0.length c_a0), (1, .pointer (some ⟨i_b0, 0, none⟩))] Tryd.func79 rfl rfl rfl rfl ?_
  unfold D_impl_RoundOf_1 at hd
  have S0 : St [] H H [] := St.nil H
  refine AX.seq ?_
  refine AX.region ?_
  refine AO.p rfl (p_assign rfl) ?_
  refine AO.nil ?_
  obtain ⟨r130, hb131, hd132⟩ := bnd_some hd
  refine AX.cut (fun t' H' => ∃ (b129 : Bool), b129 = r130 ∧ St [] H H' [] ∧ Am.Sub [(3, .bool b129)] t') ?_ ?_
  · skip
    refine DR.startS [false, false, false, false, false, false, false, false, false, true, false, false, false, false, false, false, false, false, true, false, false, false, false, false, false, false, false, false, false, false, false] mix (by kernel_rfl) (fun hst => ?_)
    refine DR.p rfl rfl (p_move rfl) ?_
    refine DR.p rfl rfl (p_len_slice rfl Tryd.underlying66) ?_
    refine DR.p rfl rfl (p_neq rfl rfl) ?_
    refine DR.pb rfl rfl (p_move rfl) (fun c133 => ?_) (fun c133 => ?_)
    · have hd134 := bif_t c133 hb131
      refine DR.gn rfl rfl rfl rfl ?_
      refine DR.gn rfl rfl rfl rfl ?_
      refine DR.gn rfl rfl rfl rfl ?_
      refine DR.gn rfl rfl rfl rfl ?_
      refine DR.gn rfl rfl rfl rfl ?_
      refine DR.gn rfl rfl rfl rfl ?_
      refine DR.gn rfl rfl rfl rfl ?_
      refine DR.p rfl rfl (p_pickT rfl rfl) ?_
      refine DR.p rfl rfl (p_move rfl) ?_
      refine DR.gn rfl rfl rfl rfl ?_
      refine DR.gn rfl rfl rfl rfl ?_
      refine DR.gn rfl rfl rfl rfl ?_
      refine DR.gn rfl rfl rfl rfl ?_
      refine DR.gn rfl rfl rfl rfl ?_
      refine DR.gn rfl rfl rfl rfl ?_
      refine DR.gn rfl rfl rfl rfl ?_
      refine DR.p rfl rfl (p_pickT rfl rfl) ?_
      refine DR.p rfl rfl (p_move rfl) ?_
      refine DR.gn rfl rfl rfl rfl ?_
      refine DR.gn rfl rfl rfl rfl ?_
      refine DR.gn rfl rfl rfl rfl ?_
      refine DR.gn rfl rfl rfl rfl ?_
      refine DR.gn rfl rfl rfl rfl ?_
      refine DR.gn rfl rfl rfl rfl ?_
      refine DR.gn rfl rfl rfl rfl ?_
      refine DR.p rfl rfl (p_pickT rfl rfl) ?_
      refine DR.p rfl rfl (p_assign rfl) ?_
      refine DR.nil 31 [] hst (by kernel_rfl) trivial ?_
      exact ⟨true, (some_inj hd134), S0, Sub.cons' rfl rfl (Sub.nil _)⟩
    · have hd135 := bif_f c133 hb131
      refine DR.gp rfl rfl rfl rfl (p_move rfl) ?_
      obtain ⟨k136, hd137⟩ := chk_some hd135
      refine DR.gp rfl rfl rfl rfl (s_indexV (q := off p_a0 + 0) Tryd.underlying66 Tryd.sizeOf2 rfl ((S0.view v_a0).p (ints_get (lt_len rfl (inR_lt k136)))) rfl k136 (o1 _ _)) ?_
      refine DR.gr rfl rfl rfl rfl (r_load rfl Tryd.isAgg2) (one_read ((S0.view v_a0).get _ _ (ints_get (lt_len rfl (inR_lt k136)))) (.of_flat0 rfl)) ?_
      refine DR.gr rfl rfl rfl rfl (r_load rfl Tryd.isAgg2) (one_read (row_cell (S0.old o_b0 (by simp)) rfl) (.of_flat0 rfl)) ?_
      obtain ⟨k138, hd139⟩ := chk_some hd137
      refine DR.gp rfl rfl rfl rfl (p_subE rfl rfl k138) ?_
      obtain ⟨b140, h141, hd142⟩ := bnd_some hd139
      refine DR.gw rfl rfl rfl rfl (o_call (vs := [.int .i64 (rd a0 0), .int .i64 0, .int .i64 (b0_0 - 1)]) rfl Tryd.call46 (W_impl_between fu H (rd a0 0) 0 (b0_0 - 1) b140 h141)) (Nat.le_refl _) ?_
      refine DR.gp rfl rfl rfl rfl (p_not rfl) ?_
      refine DR.p rfl rfl (p_pickF rfl rfl) ?_
      refine DR.pb rfl rfl (p_move rfl) (fun c144 => ?_) (fun c144 => ?_)
      · have hd145 := bif_t c144 hd142
        refine DR.gn rfl rfl rfl rfl ?_
        refine DR.gn rfl rfl rfl rfl ?_
        refine DR.gn rfl rfl rfl rfl ?_
        refine DR.gn rfl rfl rfl rfl ?_
        refine DR.gn rfl rfl rfl rfl ?_
        refine DR.gn rfl rfl rfl rfl ?_
        refine DR.gn rfl rfl rfl rfl ?_
        refine DR.p rfl rfl (p_pickT rfl rfl) ?_
        refine DR.p rfl rfl (p_move rfl) ?_
        refine DR.gn rfl rfl rfl rfl ?_
        refine DR.gn rfl rfl rfl rfl ?_
        refine DR.gn rfl rfl rfl rfl ?_
        refine DR.gn rfl rfl rfl rfl ?_
        refine DR.gn rfl rfl rfl rfl ?_
        refine DR.gn rfl rfl rfl rfl ?_
        refine DR.gn rfl rfl rfl rfl ?_
        refine DR.p rfl rfl (p_pickT rfl rfl) ?_
        refine DR.p rfl rfl (p_assign rfl) ?_
        refine DR.nil 31 [] hst (by kernel_rfl) trivial ?_
        exact ⟨true, (some_inj hd145), S0, Sub.cons' rfl rfl (Sub.nil _)⟩
      · have hd146 := bif_f c144 hd142
        refine DR.gp rfl rfl rfl rfl (p_move rfl) ?_
        obtain ⟨k147, hd148⟩ := chk_some hd146
        refine DR.gp rfl rfl rfl rfl (s_indexV (q := off p_a0 + 1) Tryd.underlying66 Tryd.sizeOf2 rfl ((S0.view v_a0).p (ints_get (lt_len rfl (inR_lt k147)))) rfl k147 (o1 _ _)) ?_
        refine DR.gr rfl rfl rfl rfl (r_load rfl Tryd.isAgg2) (one_read ((S0.view v_a0).get _ _ (ints_get (lt_len rfl (inR_lt k147)))) (.of_flat0 rfl)) ?_
        refine DR.gr rfl rfl rfl rfl (r_load rfl Tryd.isAgg2) (one_read (row_cell (S0.old o_b0 (by simp)) rfl) (.of_flat0 rfl)) ?_
        obtain ⟨k149, hd150⟩ := chk_some hd148
        refine DR.gp rfl rfl rfl rfl (p_subE rfl rfl k149) ?_
        obtain ⟨b151, h152, hd153⟩ := bnd_some hd150
        refine DR.gw rfl rfl rfl rfl (o_call (vs := [.int .i64 (rd a0 1), .int .i64 0, .int .i64 (b0_0 - 1)]) rfl Tryd.call46 (W_impl_between fu H (rd a0 1) 0 (b0_0 - 1) b151 h152)) (Nat.le_refl _) ?_
        refine DR.gp rfl rfl rfl rfl (p_not rfl) ?_
        refine DR.p rfl rfl (p_pickF rfl rfl) ?_
        refine DR.pb rfl rfl (p_move rfl) (fun c155 => ?_) (fun c155 => ?_)
        · have hd156 := bif_t c155 hd153
          refine DR.gn rfl rfl rfl rfl ?_
          refine DR.gn rfl rfl rfl rfl ?_
          refine DR.gn rfl rfl rfl rfl ?_
          refine DR.gn rfl rfl rfl rfl ?_
          refine DR.gn rfl rfl rfl rfl ?_
          refine DR.gn rfl rfl rfl rfl ?_
          refine DR.gn rfl rfl rfl rfl ?_
          refine DR.p rfl rfl (p_pickT rfl rfl) ?_
          refine DR.p rfl rfl (p_assign rfl) ?_
          refine DR.nil 31 [] hst (by kernel_rfl) trivial ?_
          exact ⟨true, (some_inj hd156), S0, Sub.cons' rfl rfl (Sub.nil _)⟩
        · have hd157 := bif_f c155 hd153
          refine DR.gp rfl rfl rfl rfl (p_move rfl) ?_
          obtain ⟨k158, hd159⟩ := chk_some hd157
          refine DR.gp rfl rfl rfl rfl (s_indexV (q := off p_a0 + 0) Tryd.underlying66 Tryd.sizeOf2 rfl ((S0.view v_a0).p (ints_get (lt_len rfl (inR_lt k158)))) rfl k158 (o1 _ _)) ?_
          refine DR.gr rfl rfl rfl rfl (r_load rfl Tryd.isAgg2) (one_read ((S0.view v_a0).get _ _ (ints_get (lt_len rfl (inR_lt k158)))) (.of_flat0 rfl)) ?_
          refine DR.gp rfl rfl rfl rfl (p_move rfl) ?_
          obtain ⟨k160, hd161⟩ := chk_some hd159
          refine DR.gp rfl rfl rfl rfl (s_indexV (q := off p_a0 + 1) Tryd.underlying66 Tryd.sizeOf2 rfl ((S0.view v_a0).p (ints_get (lt_len rfl (inR_lt k160)))) rfl k160 (o1 _ _)) ?_
          refine DR.gr rfl rfl rfl rfl (r_load rfl Tryd.isAgg2) (one_read ((S0.view v_a0).get _ _ (ints_get (lt_len rfl (inR_lt k160)))) (.of_flat0 rfl)) ?_
          refine DR.gp rfl rfl rfl rfl (p_eql rfl rfl) ?_
          refine DR.p rfl rfl (p_pickF rfl rfl) ?_
          refine DR.p rfl rfl (p_assign rfl) ?_
          refine DR.nil 31 [] hst (by kernel_rfl) trivial ?_
          exact ⟨(decide (rd a0 0 = rd a0 1)), (some_inj hd161), S0, Sub.cons' rfl rfl (Sub.nil _)⟩
  · rintro t' G163 ⟨b129, rfl, S162, hsub164⟩
    refine AX.sub hsub164 ?_
    refine AX.ret ?_
    obtain rfl := some_inj hd132
    exact ⟨.inr rfl, _, res1 rfl (rv_tmp rfl), rfl, (flatB_ok rfl), S162.hold⟩

set_option maxHeartbeats 4000000 in
theorem W_impl_RoundOf (fu : Nat) (H : AHeap) (a0 : Int) (p_a1 : Option Addr) (c_a1 : Nat) (T_a1 : Tb) (a1 : List (List Int)) (t_a1 : trows T_a1 = a1) (v_a1 : Vw H p_a1 a1.length c_a1 (tcells T_a1)) (w_a1 : TVw H T_a1) (r0 : List Int) (r1 : Int) (hd : D_impl_RoundOf fu a0 a1 = some (r0, r1)) : ACall Tryd.prog 50 [.int .i64 a0, .slice p_a1 a1.length c_a1] H (.tuple #[.agg (ints r0).toArray, .int .i64 r1]) H ∧ r0.length = 14 := by
  refine ACall.bodyPF (N := 61) [(0, .int .i64 a0), (1, .slice p_a1 a1.length c_a1)] Tryd.func50 rfl rfl rfl rfl ?_
  unfold D_impl_RoundOf at hd
  have S0 : St [] H H [] := St.nil H
  refine AX.seq ?_
  refine AX.region ?_
  obtain ⟨G100, i101, hii101, hHG100, S102⟩ := S0.new (AObj.row false ([.int .i64 a0]))
  refine AO.c rfl (s_box (i := i101) (cs := [.int .i64 a0]) rfl hii101 rfl hHG100) ?_
  obtain ⟨G104, i105, hii105, hHG104, S106⟩ := S102.new (AObj.row false (ints (List.replicate 14 0)))
  refine AO.c rfl (s_alloc (i := i105) (cs := ints (List.replicate 14 0)) Tryd.zeroValue76 rfl rfl hii105 hHG104) ?_
  refine AO.p rfl (p_assign rfl) ?_
  refine AO.nil ?_
  refine AX.seq ?_
  obtain ⟨r125, hb126, hd127⟩ := bnd_some hd
  refine AX.cut (fun t' H' => ∃ (b124 : Bool), b124 = r125 ∧ St [] H H' [[(i101, AObj.row false ([.int .i64 a0]))], [(i105, AObj.row false (ints (List.replicate 14 0)))]] ∧ Am.Sub [(1, .slice p_a1 a1.length c_a1), (2, .pointer (some ⟨i101, 0, none⟩)), (4, .pointer (some ⟨i105, 0, none⟩)), (21, .bool b124)] t') ?_ ?_
  · skip
    refine AX.region ?_
    refine AO.c rfl (s_load Tryd.isAgg2 rfl (row_cell (S106.get (k := 1) rfl) rfl)) ?_
    obtain ⟨b128, h129, hd130⟩ := bnd_some hb126
    refine AO.c rfl (o_call (vs := [.int .i64 a0, .int .i64 2, .int .i64 14]) rfl Tryd.call46 (W_impl_between fu G104 a0 2 14 b128 h129)) ?_
    refine AO.p rfl (p_not rfl) ?_
    refine AO.p rfl (p_move rfl) ?_
    refine AO.cases (d := 12) rfl (fun c132 => ?_) (fun c132 => ?_)
    · have hd133 := bif_t c132 hd130
      refine AO.gn rfl rfl rfl ?_
      refine AO.gn rfl rfl rfl ?_
      refine AO.gn rfl rfl rfl ?_
      refine AO.p rfl (p_pickT rfl rfl) ?_
      refine AO.p rfl (p_move rfl) ?_
      refine AO.gn rfl rfl rfl ?_
      refine AO.gn rfl rfl rfl ?_
      refine AO.gn rfl rfl rfl ?_
      refine AO.p rfl (p_pickT rfl rfl) ?_
      refine AO.nil ?_
      have S134 := S106.front 0 rfl
      have S135 := S134.front 1 rfl
      exact ⟨true, (some_inj hd133), S135, Sub.cons' rfl rfl (Sub.cons' rfl rfl (Sub.cons' rfl rfl (Sub.cons' rfl rfl (Sub.nil _))))⟩
    · have hd136 := bif_f c132 hd130
      refine AO.gp rfl rfl rfl (p_move rfl) ?_
      refine AO.gp rfl rfl rfl (p_len_slice rfl Tryd.underlying22) ?_
      refine AO.gp rfl rfl rfl (p_gtr rfl rfl) ?_
      refine AO.p rfl (p_pickF rfl rfl) ?_
      refine AO.p rfl (p_move rfl) ?_
      refine AO.cases (d := 17) rfl (fun c137 => ?_) (fun c137 => ?_)
      · have hd138 := bif_t c137 hd136
        refine AO.gn rfl rfl rfl ?_
        refine AO.gn rfl rfl rfl ?_
        refine AO.gn rfl rfl rfl ?_
        refine AO.p rfl (p_pickT rfl rfl) ?_
        refine AO.nil ?_
        have S139 := S106.front 0 rfl
        have S140 := S139.front 1 rfl
        exact ⟨true, (some_inj hd138), S140, Sub.cons' rfl rfl (Sub.cons' rfl rfl (Sub.cons' rfl rfl (Sub.cons' rfl rfl (Sub.nil _))))⟩
      · have hd141 := bif_f c137 hd136
        refine AO.gp rfl rfl rfl (p_move rfl) ?_
        refine AO.gp rfl rfl rfl (p_makeFunc (fs := []) (cs := [.pointer (some ⟨i101, 0, none⟩)]) rfl rfl) ?_
        obtain ⟨b142, h143, hd144⟩ := bnd_some hd141
        refine AO.gc rfl rfl rfl (o_call (vs := [.slice p_a1 a1.length c_a1, .func (.func 79) #[] #[.pointer (some ⟨i101, 0, none⟩)]]) rfl Tryd.call59 (W_slices_ContainsFunc_SSint64_Sint64 fu G104 p_a1 c_a1 T_a1 a1 t_a1 (S106.view v_a1) (S106.tview w_a1) 79 #[] #[.pointer (some ⟨i101, 0, none⟩)] (fun x0' => D_impl_RoundOf_1 fu x0' a0) Tryd.call79 (fun G' hG px0' cx0' x0' vx0' b' hb' => W_impl_RoundOf_1 fu G' px0' cx0' x0' vx0' i101 false a0 (hG.get (S106.get (k := 1) rfl)) b' hb') b142 h143)) ?_
        refine AO.p rfl (p_pickF rfl rfl) ?_
        refine AO.nil ?_
        have S146 := S106.front 0 rfl
        have S147 := S146.front 1 rfl
        exact ⟨b142, (some_inj hd144), S147, Sub.cons' rfl rfl (Sub.cons' rfl rfl (Sub.cons' rfl rfl (Sub.cons' rfl rfl (Sub.nil _))))⟩
  · rintro t' G149 ⟨b124, rfl, S148, hsub150⟩
    refine AX.sub hsub150 ?_
    refine AX.cond rfl (fun c151 => ?_) (fun c151 => ?_)
    · have hd152 := bif_t c151 hd127
      refine AX.seq ?_
      refine AX.region ?_
      refine AO.p rfl (p_buildZ (z := ints (List.replicate 14 0)) Tryd.underlying76 Tryd.sizeOf2 Tryd.zeroValue76 rfl) ?_
      obtain ⟨G153, hHG153, S154⟩ := S148.set (k := 1) (i := i105) rfl (AObj.row false (ints (List.replicate 14 0)))
      refine AO.s (s_storeAll (vs := ints (List.replicate 14 0)) Tryd.sizeOf76 rfl rfl ints_one (S148.get (k := 1) rfl) (ints_len len_rep) (ints_len len_rep) hHG153) ?_
      refine AO.p rfl (p_assign rfl) ?_
      refine AO.nil ?_
      refine AX.ret ?_
      obtain ⟨rfl, rfl⟩ := Prod.mk.inj (some_inj hd152)
      exact ⟨.inr rfl, _, res2 rfl (rv_cell (vs := ints (List.replicate 14 0)) rfl Tryd.isAgg76 Tryd.sizeOf76 (ints_len len_rep) (row_cells (S154.get (k := 1) rfl))) (rv_tmp rfl), rfl, (flat_t2 (flat_arr _) (flatB_ok rfl)), S154.hold, len_rep⟩
    · have hd156 := bif_f c151 hd127
      refine AX.skip ?_
      refine AX.seq ?_
      refine AX.region ?_
      refine AO.c rfl (s_load Tryd.isAgg2 rfl (row_cell (S148.get (k := 0) rfl) rfl)) ?_
      obtain ⟨xs157, h158, hd159⟩ := bnd_some hd156
      obtain ⟨hc161, l162⟩ := W_impl_free fu G149 a0 xs157 h158
      refine AO.c rfl (o_call (vs := [.int .i64 a0]) rfl Tryd.call80 hc161) ?_
      obtain ⟨G163, i164, hii164, hHG163, S165⟩ := S148.new (AObj.row false (ints (List.replicate 14 0)))
      refine AO.c rfl (s_alloc (i := i164) (cs := ints (List.replicate 14 0)) Tryd.zeroValue76 rfl rfl hii164 hHG163) ?_
      obtain ⟨G167, hHG167, S168⟩ := S165.set (k := 0) (i := i164) rfl (AObj.row false (ints xs157))
      refine AO.s (s_storeAll (vs := ints xs157) Tryd.sizeOf76 rfl rfl ints_one (S165.get (k := 0) rfl) (ints_len l162) (ints_len len_rep) hHG167) ?_
      refine AO.nil ?_
      refine AX.seq ?_
      refine AX.seq ?_
      refine AX.region ?_
      refine AO.p rfl (p_move rfl) ?_
      refine AO.p rfl (p_len_slice rfl Tryd.underlying22) ?_
      refine AO.p rfl (p_move rfl) ?_
      refine AO.nil ?_
      obtain ⟨r410, hl411, hd412⟩ := bnd_some hd159
      refine AX.cutS (fun t' H' => ∃ (xs409 : List Int), .inl xs409 = r410 ∧ St [] H H' [[(i105, AObj.row false (ints (List.replicate 14 0)))], [(i164, AObj.row false (ints xs409))]] ∧ xs409.length = 14 ∧ Am.Sub [(4, .pointer (some ⟨i105, 0, none⟩)), (6, .pointer (some ⟨i164, 0, none⟩))] t') ?_ ?_
      · refine AX.block ?_
        refine AX.loopF (fun s' t' H' => ∃ (xs329 : List Int) (x330 : Int), (xs329, x330) = s' ∧ St [] H H' [[(i105, AObj.row false (ints (List.replicate 14 0)))], [(i164, AObj.row false (ints xs329))]] ∧ xs329.length = 14 ∧ Am.Sub [(4, .pointer (some ⟨i105, 0, none⟩)), (6, .pointer (some ⟨i164, 0, none⟩)), (25, .slice p_a1 a1.length c_a1), (26, .int .i64 ((a1.length : Nat) : Int)), (27, .int .i64 x330)] t') hl411 ?_ ?_
        · skip
          have S413 := S168.front 0 rfl
          have S414 := S413.front 2 rfl
          have S415 := S414.keep 2
          exact ⟨xs157, 0, rfl, S415, l162, Sub.cons' rfl rfl (Sub.cons' rfl rfl (Sub.cons' rfl rfl (Sub.cons' rfl rfl (Sub.cons' rfl rfl (Sub.nil _)))))⟩
        · rintro n416 _ t' G420 ⟨xs329, x330, rfl, S419, lxs329, hsub421⟩ o422 ho417 hk418
          refine AX.sub hsub421 ?_
          unfold D_impl_RoundOf_s0 at ho417
          refine AX.seq ?_
          refine AX.region ?_
          refine AO.p rfl (p_lss rfl rfl) ?_
          refine AO.nil ?_
          refine AX.seq ?_
          refine AX.cond rfl (fun c423 => ?_) (fun c423 => ?_)
          · have hd424 := bif_t c423 ho417
            refine AX.skip ?_
            refine AX.seq ?_
            refine AX.block ?_
            refine AX.seq ?_
            refine AX.region ?_
            obtain ⟨k425, hd426⟩ := chk_some hd424
            obtain ⟨p427, c428, e429, f430⟩ := tget t_a1 (lt_len rfl (inR_lt k425))
            refine AO.p rfl (s_indexV (q := off p_a1 + x330.toNat) Tryd.underlying22 Tryd.sizeOf66 rfl ((S419.view v_a1).p f430) rfl k425 (o1 _ _)) ?_
            refine AO.c rfl (s_load Tryd.isAgg66 rfl ((S419.view v_a1).get _ _ f430)) ?_
            refine AO.p rfl (p_assign rfl) ?_
            refine AO.nil ?_
            refine AX.seq ?_
            obtain ⟨r449, hb450, hd451⟩ := bnd_some hd426
            refine AX.cut (fun t' H' => ∃ (b448 : Bool), b448 = r449 ∧ St [] H H' [[(i105, AObj.row false (ints (List.replicate 14 0)))], [(i164, AObj.row false (ints xs329))]] ∧ Am.Sub [(4, .pointer (some ⟨i105, 0, none⟩)), (6, .pointer (some ⟨i164, 0, none⟩)), (8, .slice p427 ((rw_ a1 x330.toNat).length) c428), (25, .slice p_a1 a1.length c_a1), (26, .int .i64 ((a1.length : Nat) : Int)), (27, .int .i64 x330), (50, .bool b448)] t') ?_ ?_
            · skip
              refine DR.startS [false, false, false, false, false, false, false, false, false, false, false, false, false, false, false, false, false, false, false, false] mix (by kernel_rfl) (fun hst => ?_)
              refine DR.p rfl rfl (p_move rfl) ?_
              obtain ⟨k452, hd453⟩ := chk_some hb450
              refine DR.p rfl rfl (s_indexV (q := off p427 + 0) Tryd.underlying66 Tryd.sizeOf2 rfl ((TVw.at (S419.tview w_a1) e429).p (ints_get (lt_len rfl (inR_lt k452)))) rfl k452 (o1 _ _)) ?_
              refine DR.r rfl rfl (r_load rfl Tryd.isAgg2) (one_read ((TVw.at (S419.tview w_a1) e429).get _ _ (ints_get (lt_len rfl (inR_lt k452)))) (.of_flat0 rfl)) ?_
              obtain ⟨k454, hd455⟩ := chk_some hd453
              refine DR.p rfl rfl (s_indexAr (q := (rd (rw_ a1 x330.toNat) 0).toNat) Tryd.underlying76 Tryd.sizeOf2 rfl rfl k454 (z1 _)) ?_
              refine DR.r rfl rfl (r_load rfl Tryd.isAgg2) (one_read (row_cell (S419.get (k := 1) rfl) (ints_get (lt_len lxs329 (inR_lt k454)))) (.of_flat0 rfl)) ?_
              refine DR.p rfl rfl (p_move rfl) ?_
              obtain ⟨k456, hd457⟩ := chk_some hd455
              refine DR.p rfl rfl (s_indexV (q := off p427 + 0) Tryd.underlying66 Tryd.sizeOf2 rfl ((TVw.at (S419.tview w_a1) e429).p (ints_get (lt_len rfl (inR_lt k456)))) rfl k456 (o1 _ _)) ?_
              refine DR.r rfl rfl (r_load rfl Tryd.isAgg2) (one_read ((TVw.at (S419.tview w_a1) e429).get _ _ (ints_get (lt_len rfl (inR_lt k456)))) (.of_flat0 rfl)) ?_
              refine DR.p rfl rfl (p_neq rfl rfl) ?_
              refine DR.pb rfl rfl (p_move rfl) (fun c458 => ?_) (fun c458 => ?_)
              · have hd459 := bif_t c458 hd457
                refine DR.gn rfl rfl rfl rfl ?_
                refine DR.gn rfl rfl rfl rfl ?_
                refine DR.gn rfl rfl rfl rfl ?_
                refine DR.gn rfl rfl rfl rfl ?_
                refine DR.gn rfl rfl rfl rfl ?_
                refine DR.gn rfl rfl rfl rfl ?_
                refine DR.gn rfl rfl rfl rfl ?_
                refine DR.gn rfl rfl rfl rfl ?_
                refine DR.gn rfl rfl rfl rfl ?_
                refine DR.p rfl rfl (p_pickT rfl rfl) ?_
                refine DR.nil 20 [] hst (by kernel_rfl) trivial ?_
                have S460 := S419.front 1 rfl
                have S461 := S460.front 1 rfl
                exact ⟨true, (some_inj hd459), S461, Sub.cons' rfl rfl (Sub.cons' rfl rfl (Sub.cons' rfl rfl (Sub.cons' rfl rfl (Sub.cons' rfl rfl (Sub.cons' rfl rfl (Sub.cons' rfl rfl (Sub.nil _)))))))⟩
              · have hd462 := bif_f c458 hd457
                refine DR.gp rfl rfl rfl rfl (p_move rfl) ?_
                obtain ⟨k463, hd464⟩ := chk_some hd462
                refine DR.gp rfl rfl rfl rfl (s_indexV (q := off p427 + 1) Tryd.underlying66 Tryd.sizeOf2 rfl ((TVw.at (S419.tview w_a1) e429).p (ints_get (lt_len rfl (inR_lt k463)))) rfl k463 (o1 _ _)) ?_
                refine DR.gr rfl rfl rfl rfl (r_load rfl Tryd.isAgg2) (one_read ((TVw.at (S419.tview w_a1) e429).get _ _ (ints_get (lt_len rfl (inR_lt k463)))) (.of_flat0 rfl)) ?_
                obtain ⟨k465, hd466⟩ := chk_some hd464
                refine DR.gp rfl rfl rfl rfl (s_indexAr (q := (rd (rw_ a1 x330.toNat) 1).toNat) Tryd.underlying76 Tryd.sizeOf2 rfl rfl k465 (z1 _)) ?_
                refine DR.gr rfl rfl rfl rfl (r_load rfl Tryd.isAgg2) (one_read (row_cell (S419.get (k := 1) rfl) (ints_get (lt_len lxs329 (inR_lt k465)))) (.of_flat0 rfl)) ?_
                refine DR.gp rfl rfl rfl rfl (p_move rfl) ?_
                obtain ⟨k467, hd468⟩ := chk_some hd466
                refine DR.gp rfl rfl rfl rfl (s_indexV (q := off p427 + 1) Tryd.underlying66 Tryd.sizeOf2 rfl ((TVw.at (S419.tview w_a1) e429).p (ints_get (lt_len rfl (inR_lt k467)))) rfl k467 (o1 _ _)) ?_
                refine DR.gr rfl rfl rfl rfl (r_load rfl Tryd.isAgg2) (one_read ((TVw.at (S419.tview w_a1) e429).get _ _ (ints_get (lt_len rfl (inR_lt k467)))) (.of_flat0 rfl)) ?_
                refine DR.gp rfl rfl rfl rfl (p_neq rfl rfl) ?_
                refine DR.p rfl rfl (p_pickF rfl rfl) ?_
                refine DR.nil 20 [] hst (by kernel_rfl) trivial ?_
                have S469 := S419.front 1 rfl
                have S470 := S469.front 1 rfl
                exact ⟨(!decide (rd xs329 ((rd (rw_ a1 x330.toNat) 1).toNat) = rd (rw_ a1 x330.toNat) 1)), (some_inj hd468), S470, Sub.cons' rfl rfl (Sub.cons' rfl rfl (Sub.cons' rfl rfl (Sub.cons' rfl rfl (Sub.cons' rfl rfl (Sub.cons' rfl rfl (Sub.cons' rfl rfl (Sub.nil _)))))))⟩
            · rintro t' G472 ⟨b448, rfl, S471, hsub473⟩
              refine AX.sub hsub473 ?_
              refine AX.cond rfl (fun c474 => ?_) (fun c474 => ?_)
              · have hd475 := bif_t c474 hd451
                refine AX.seq ?_
                refine AX.region ?_
                refine AO.p rfl (p_buildZ (z := ints (List.replicate 14 0)) Tryd.underlying76 Tryd.sizeOf2 Tryd.zeroValue76 rfl) ?_
                obtain ⟨G476, hHG476, S477⟩ := S471.set (k := 0) (i := i105) rfl (AObj.row false (ints (List.replicate 14 0)))
                refine AO.s (s_storeAll (vs := ints (List.replicate 14 0)) Tryd.sizeOf76 rfl rfl ints_one (S471.get (k := 0) rfl) (ints_len len_rep) (ints_len len_rep) hHG476) ?_
                refine AO.p rfl (p_assign rfl) ?_
                refine AO.nil ?_
                refine AX.ret ?_
                obtain rfl := some_inj hd475
                have z478 : _ = r410 := hk418
                subst z478
                obtain ⟨rfl, rfl⟩ := Prod.mk.inj (some_inj hd412)
                exact ⟨.inr rfl, _, res2 rfl (rv_cell (vs := ints (List.replicate 14 0)) rfl Tryd.isAgg76 Tryd.sizeOf76 (ints_len len_rep) (row_cells (S477.get (k := 0) rfl))) (rv_tmp rfl), rfl, (flat_t2 (flat_arr _) (flatB_ok rfl)), S477.hold, len_rep⟩
              · have hd480 := bif_f c474 hd451
                refine AX.skip ?_
                refine DR.startS [false, false, false, false, false, false, true] mix (by kernel_rfl) (fun hst => ?_)
                refine DR.p rfl rfl (p_move rfl) ?_
                obtain ⟨k481, hd482⟩ := chk_some hd480
                refine DR.p rfl rfl (s_indexV (q := off p427 + 0) Tryd.underlying66 Tryd.sizeOf2 rfl ((TVw.at (S471.tview w_a1) e429).p (ints_get (lt_len rfl (inR_lt k481)))) rfl k481 (o1 _ _)) ?_
                refine DR.r rfl rfl (r_load rfl Tryd.isAgg2) (one_read ((TVw.at (S471.tview w_a1) e429).get _ _ (ints_get (lt_len rfl (inR_lt k481)))) (.of_flat0 rfl)) ?_
                refine DR.p rfl rfl (p_move rfl) ?_
                obtain ⟨k483, hd484⟩ := chk_some hd482
                refine DR.p rfl rfl (s_indexV (q := off p427 + 1) Tryd.underlying66 Tryd.sizeOf2 rfl ((TVw.at (S471.tview w_a1) e429).p (ints_get (lt_len rfl (inR_lt k483)))) rfl k483 (o1 _ _)) ?_
                refine DR.r rfl rfl (r_load rfl Tryd.isAgg2) (one_read ((TVw.at (S471.tview w_a1) e429).get _ _ (ints_get (lt_len rfl (inR_lt k483)))) (.of_flat0 rfl)) ?_
                have S485 := S471.front 1 rfl
                obtain ⟨xs486, h487, hd488⟩ := bnd_some hd484
                obtain ⟨_, G491, hc490, rfl, S492, l489⟩ := W_impl_Round_meet fu G472 i164 xs329 lxs329 (S471.get (k := 1) rfl) (rd (rw_ a1 x330.toNat) 0) (rd (rw_ a1 x330.toNat) 1) xs486 h487
                have S493 := St.callM (A := [[(i164, AObj.row false (ints xs329))]]) S485 S492 (by simp)
                refine DR.w rfl rfl (o_call (vs := [.pointer (some ⟨i164, 0, none⟩), .int .i64 (rd (rw_ a1 x330.toNat) 0), .int .i64 (rd (rw_ a1 x330.toNat) 1)]) rfl Tryd.call81 hc490) (S492.len) ?_
                refine DR.nil 7 [] hst (by kernel_rfl) trivial ?_
                refine AX.region ?_
                obtain ⟨k494, hd495⟩ := chk_some hd488
                refine AO.p rfl (p_addE rfl rfl k494) ?_
                refine AO.p rfl (p_move rfl) ?_
                refine AO.nil ?_
                obtain rfl := some_inj hd495
                have S497 := S493.front 0 rfl
                have S498 := S497.front 1 rfl
                exact ⟨(xs486, x330 + 1), hk418, xs486, (x330 + 1), rfl, S498, l489, Sub.cons' rfl rfl (Sub.cons' rfl rfl (Sub.cons' rfl rfl (Sub.cons' rfl rfl (Sub.cons' rfl rfl (Sub.nil _)))))⟩
          · have hd499 := bif_f c423 ho417
            refine AX.exit ?_
            obtain rfl := some_inj hd499
            have S500 := S419.front 1 rfl
            have S501 := S500.front 1 rfl
            exact ⟨xs329, hk418, S501, lxs329, Sub.cons' rfl rfl (Sub.cons' rfl rfl (Sub.nil _))⟩
      · rintro t' G503 ⟨xs409, rfl, S502, lxs409, hsub504⟩
        refine ⟨_, hsub504, ?_⟩
        refine AX.seq ?_
        refine AX.region ?_
        refine AO.c rfl (s_loadN (vs := ints xs409) Tryd.isAgg76 Tryd.sizeOf76 rfl (ints_len lxs409) (row_cells (S502.get (k := 1) rfl))) ?_
        obtain ⟨G505, hHG505, S506⟩ := S502.set (k := 0) (i := i105) rfl (AObj.row false (ints xs409))
        refine AO.s (s_storeAll (vs := ints xs409) Tryd.sizeOf76 rfl rfl ints_one (S502.get (k := 0) rfl) (ints_len lxs409) (ints_len len_rep) hHG505) ?_
        refine AO.p rfl (p_assign rfl) ?_
        refine AO.nil ?_
        refine AX.ret ?_
        obtain ⟨rfl, rfl⟩ := Prod.mk.inj (some_inj hd412)
        exact ⟨.inr rfl, _, res2 rfl (rv_cell (vs := ints xs409) rfl Tryd.isAgg76 Tryd.sizeOf76 (ints_len lxs409) (row_cells (S506.get (k := 0) rfl))) (rv_tmp rfl), rfl, (flat_t2 (flat_arr _) (flatB_ok rfl)), S506.hold, lxs409⟩

set_option maxHeartbeats 4000000 in
theorem W_spec_l01Made (fu : Nat) (H : AHeap) (a0 : Int) (p_a1 : Option Addr) (c_a1 : Nat) (T_a1 : Tb) (a1 : List (List Int)) (t_a1 : trows T_a1 = a1) (v_a1 : Vw H p_a1 a1.length c_a1 (tcells T_a1)) (w_a1 : TVw H T_a1) (r0 : List Int) (hd : D_spec_l01Made fu a0 a1 = some r0) : ACall Tryd.prog 115 [.int .i64 a0, .slice p_a1 a1.length c_a1] H (.agg (ints r0).toArray) H ∧ r0.length = 14 := by
  refine ACall.bodyPF (N := 42) [(0, .int .i64 a0), (1, .slice p_a1 a1.length c_a1)] Tryd.func115 rfl rfl rfl rfl ?_
  unfold D_spec_l01Made at hd
  have S0 : St [] H H [] := St.nil H
  refine AX.seq ?_
  refine AX.region ?_
  obtain ⟨G100, i101, hii101, hHG100, S102⟩ := S0.new (AObj.row false (ints (List.replicate 14 0)))
  refine AO.c rfl (s_alloc (i := i101) (cs := ints (List.replicate 14 0)) Tryd.zeroValue76 rfl rfl hii101 hHG100) ?_
  refine AO.nil ?_
  refine AX.seq ?_
  refine AX.region ?_
  refine AO.p rfl (p_move rfl) ?_
  obtain ⟨xs104, h105, hd106⟩ := bnd_some hd
  obtain ⟨hc108, l109⟩ := W_spec_l01Free fu G100 a0 xs104 h105
  refine AO.c rfl (o_call (vs := [.int .i64 a0]) rfl Tryd.call130 hc108) ?_
  obtain ⟨G110, i111, hii111, hHG110, S112⟩ := S102.new (AObj.row false (ints (List.replicate 14 0)))
  refine AO.c rfl (s_alloc (i := i111) (cs := ints (List.replicate 14 0)) Tryd.zeroValue76 rfl rfl hii111 hHG110) ?_
  obtain ⟨G114, hHG114, S115⟩ := S112.set (k := 0) (i := i111) rfl (AObj.row false (ints xs104))
  refine AO.s (s_storeAll (vs := ints xs104) Tryd.sizeOf76 rfl rfl ints_one (S112.get (k := 0) rfl) (ints_len l109) (ints_len len_rep) hHG114) ?_
  refine AO.nil ?_
  refine AX.seq ?_
  refine AX.seq ?_
  refine AX.region ?_
  refine AO.p rfl (p_assign rfl) ?_
  refine AO.nil ?_
  obtain ⟨r273, hl274, hd275⟩ := bnd_some hd106
  refine AX.cutS (fun t' H' => ∃ (xs272 : List Int), xs272 = r273 ∧ St [] H H' [[(i101, AObj.row false (ints (List.replicate 14 0)))], [(i111, AObj.row false (ints xs272))]] ∧ xs272.length = 14 ∧ Am.Sub [(4, .pointer (some ⟨i101, 0, none⟩)), (5, .pointer (some ⟨i111, 0, none⟩))] t') ?_ ?_
  · refine AX.block ?_
    refine AX.loopF (fun s' t' H' => ∃ (xs220 : List Int) (x221 : Int), (xs220, x221) = s' ∧ St [] H H' [[(i101, AObj.row false (ints (List.replicate 14 0)))], [(i111, AObj.row false (ints xs220))]] ∧ xs220.length = 14 ∧ Am.Sub [(1, .slice p_a1 a1.length c_a1), (4, .pointer (some ⟨i101, 0, none⟩)), (5, .pointer (some ⟨i111, 0, none⟩)), (6, .int .i64 x221)] t') hl274 ?_ ?_
    · skip
      have S276 := S115.front 0 rfl
      have S277 := S276.front 1 rfl
      exact ⟨xs104, 0, rfl, S277, l109, Sub.cons' rfl rfl (Sub.cons' rfl rfl (Sub.cons' rfl rfl (Sub.cons' rfl rfl (Sub.nil _))))⟩
    · rintro n278 _ t' G282 ⟨xs220, x221, rfl, S281, lxs220, hsub283⟩ o284 ho279 hk280
      refine AX.sub hsub283 ?_
      unfold D_spec_l01Made_s0 at ho279
      refine AX.seq ?_
      refine AX.seq ?_
      refine AX.region ?_
      refine AO.p rfl (p_move rfl) ?_
      refine AO.p rfl (p_move rfl) ?_
      refine AO.p rfl (p_len_slice rfl Tryd.underlying22) ?_
      refine AO.p rfl (p_lss rfl rfl) ?_
      refine AO.nil ?_
      refine AX.cond rfl (fun c285 => ?_) (fun c285 => ?_)
      · have hd286 := bif_t c285 ho279
        refine AX.skip ?_
        refine AX.seq ?_
        refine AX.block ?_
        refine AX.seq ?_
        refine DR.startS [false, false, false, false, false, false, false, false, false, false, false, false, false, true] mix (by kernel_rfl) (fun hst => ?_)
        refine DR.p rfl rfl (p_move rfl) ?_
        refine DR.p rfl rfl (p_move rfl) ?_
        obtain ⟨k287, hd288⟩ := chk_some hd286
        obtain ⟨p289, c290, e291, f292⟩ := tget t_a1 (lt_len rfl (inR_lt k287))
        refine DR.p rfl rfl (s_indexV (q := off p_a1 + x221.toNat) Tryd.underlying22 Tryd.sizeOf66 rfl ((S281.view v_a1).p f292) rfl k287 (o1 _ _)) ?_
        refine DR.r rfl rfl (r_load rfl Tryd.isAgg66) (one_read ((S281.view v_a1).get _ _ f292) (TVw.at (S281.tview w_a1) e291).inn.bel) ?_
        obtain ⟨k293, hd294⟩ := chk_some hd288
        refine DR.p rfl rfl (s_indexV (q := off p289 + 0) Tryd.underlying66 Tryd.sizeOf2 rfl ((TVw.at (S281.tview w_a1) e291).p (ints_get (lt_len rfl (inR_lt k293)))) rfl k293 (o1 _ _)) ?_
        refine DR.r rfl rfl (r_load rfl Tryd.isAgg2) (one_read ((TVw.at (S281.tview w_a1) e291).get _ _ (ints_get (lt_len rfl (inR_lt k293)))) (.of_flat0 rfl)) ?_
        refine DR.p rfl rfl (p_move rfl) ?_
        refine DR.p rfl rfl (p_move rfl) ?_
        obtain ⟨k295, hd296⟩ := chk_some hd294
        obtain ⟨p297, c298, e299, f300⟩ := tget t_a1 (lt_len rfl (inR_lt k295))
        refine DR.p rfl rfl (s_indexV (q := off p_a1 + x221.toNat) Tryd.underlying22 Tryd.sizeOf66 rfl ((S281.view v_a1).p f300) rfl k295 (o1 _ _)) ?_
        refine DR.r rfl rfl (r_load rfl Tryd.isAgg66) (one_read ((S281.view v_a1).get _ _ f300) (TVw.at (S281.tview w_a1) e299).inn.bel) ?_
        obtain ⟨k301, hd302⟩ := chk_some hd296
        refine DR.p rfl rfl (s_indexV (q := off p297 + 1) Tryd.underlying66 Tryd.sizeOf2 rfl ((TVw.at (S281.tview w_a1) e299).p (ints_get (lt_len rfl (inR_lt k301)))) rfl k301 (o1 _ _)) ?_
        refine DR.r rfl rfl (r_load rfl Tryd.isAgg2) (one_read ((TVw.at (S281.tview w_a1) e299).get _ _ (ints_get (lt_len rfl (inR_lt k301)))) (.of_flat0 rfl)) ?_
        obtain ⟨k303, hd304⟩ := chk_some hd302
        refine DR.p rfl rfl (s_indexAr (q := (rd (rw_ a1 x221.toNat) 0).toNat) Tryd.underlying76 Tryd.sizeOf2 rfl rfl k303 (z1 _)) ?_
        obtain ⟨G305, hHG305, S306⟩ := S281.set (k := 1) (i := i111) rfl (AObj.row false (ints (xs220.set ((rd (rw_ a1 x221.toNat) 0).toNat) (rd (rw_ a1 x221.toNat) 1))))
        refine DR.s rfl (s_store Tryd.sizeOf2 rfl rfl rfl (S281.get (k := 1) rfl) (lt_len (ints_len lxs220) (inR_lt k303)) ((congrArg (fun l => List.set _ _ (AObj.row false l)) (ints_set _ _ _)).trans hHG305)) (set_le hHG305) ?_
        refine DR.nil 14 [] hst (by kernel_rfl) trivial ?_
        refine DR.startS [false, false, false, false, false, false, false, false, false, false, false, false, false, true] mix (by kernel_rfl) (fun hst => ?_)
        refine DR.p rfl rfl (p_move rfl) ?_
        refine DR.p rfl rfl (p_move rfl) ?_
        obtain ⟨k307, hd308⟩ := chk_some hd304
        obtain ⟨p309, c310, e311, f312⟩ := tget t_a1 (lt_len rfl (inR_lt k307))
        refine DR.p rfl rfl (s_indexV (q := off p_a1 + x221.toNat) Tryd.underlying22 Tryd.sizeOf66 rfl ((S306.view v_a1).p f312) rfl k307 (o1 _ _)) ?_
        refine DR.r rfl rfl (r_load rfl Tryd.isAgg66) (one_read ((S306.view v_a1).get _ _ f312) (TVw.at (S306.tview w_a1) e311).inn.bel) ?_
        obtain ⟨k313, hd314⟩ := chk_some hd308
        refine DR.p rfl rfl (s_indexV (q := off p309 + 1) Tryd.underlying66 Tryd.sizeOf2 rfl ((TVw.at (S306.tview w_a1) e311).p (ints_get (lt_len rfl (inR_lt k313)))) rfl k313 (o1 _ _)) ?_
        refine DR.r rfl rfl (r_load rfl Tryd.isAgg2) (one_read ((TVw.at (S306.tview w_a1) e311).get _ _ (ints_get (lt_len rfl (inR_lt k313)))) (.of_flat0 rfl)) ?_
        refine DR.p rfl rfl (p_move rfl) ?_
        refine DR.p rfl rfl (p_move rfl) ?_
        obtain ⟨k315, hd316⟩ := chk_some hd314
        obtain ⟨p317, c318, e319, f320⟩ := tget t_a1 (lt_len rfl (inR_lt k315))
        refine DR.p rfl rfl (s_indexV (q := off p_a1 + x221.toNat) Tryd.underlying22 Tryd.sizeOf66 rfl ((S306.view v_a1).p f320) rfl k315 (o1 _ _)) ?_
        refine DR.r rfl rfl (r_load rfl Tryd.isAgg66) (one_read ((S306.view v_a1).get _ _ f320) (TVw.at (S306.tview w_a1) e319).inn.bel) ?_
        obtain ⟨k321, hd322⟩ := chk_some hd316
        refine DR.p rfl rfl (s_indexV (q := off p317 + 0) Tryd.underlying66 Tryd.sizeOf2 rfl ((TVw.at (S306.tview w_a1) e319).p (ints_get (lt_len rfl (inR_lt k321)))) rfl k321 (o1 _ _)) ?_
        refine DR.r rfl rfl (r_load rfl Tryd.isAgg2) (one_read ((TVw.at (S306.tview w_a1) e319).get _ _ (ints_get (lt_len rfl (inR_lt k321)))) (.of_flat0 rfl)) ?_
        obtain ⟨k323, hd324⟩ := chk_some hd322
        refine DR.p rfl rfl (s_indexAr (q := (rd (rw_ a1 x221.toNat) 1).toNat) Tryd.underlying76 Tryd.sizeOf2 rfl rfl k323 (z1 _)) ?_
        obtain ⟨G325, hHG325, S326⟩ := S306.set (k := 1) (i := i111) rfl (AObj.row false (ints ((xs220.set ((rd (rw_ a1 x221.toNat) 0).toNat) (rd (rw_ a1 x221.toNat) 1)).set ((rd (rw_ a1 x221.toNat) 1).toNat) (rd (rw_ a1 x221.toNat) 0))))
        refine DR.s rfl (s_store Tryd.sizeOf2 rfl rfl rfl (S306.get (k := 1) rfl) (lt_len (ints_len (len_set lxs220)) (inR_lt k323)) ((congrArg (fun l => List.set _ _ (AObj.row false l)) (ints_set _ _ _)).trans hHG325)) (set_le hHG325) ?_
        refine DR.nil 14 [] hst (by kernel_rfl) trivial ?_
        refine AX.region ?_
        refine AO.p rfl (p_move rfl) ?_
        obtain ⟨k327, hd328⟩ := chk_some hd324
        refine AO.p rfl (p_addE rfl rfl k327) ?_
        refine AO.p rfl (p_assign rfl) ?_
        refine AO.nil ?_
        obtain rfl := some_inj hd328
        have S330 := S326.front 1 rfl
        have S331 := S330.front 1 rfl
        exact ⟨(((xs220.set ((rd (rw_ a1 x221.toNat) 0).toNat) (rd (rw_ a1 x221.toNat) 1)).set ((rd (rw_ a1 x221.toNat) 1).toNat) (rd (rw_ a1 x221.toNat) 0)), x221 + 1), hk280, ((xs220.set ((rd (rw_ a1 x221.toNat) 0).toNat) (rd (rw_ a1 x221.toNat) 1)).set ((rd (rw_ a1 x221.toNat) 1).toNat) (rd (rw_ a1 x221.toNat) 0)), (x221 + 1), rfl, S331, (len_set (len_set lxs220)), Sub.cons' rfl rfl (Sub.cons' rfl rfl (Sub.cons' rfl rfl (Sub.cons' rfl rfl (Sub.nil _))))⟩
      · have hd332 := bif_f c285 ho279
        refine AX.exit ?_
        obtain rfl := some_inj hd332
        have S333 := S281.front 1 rfl
        have S334 := S333.front 1 rfl
        exact ⟨xs220, hk280, S334, lxs220, Sub.cons' rfl rfl (Sub.cons' rfl rfl (Sub.nil _))⟩
  · rintro t' G336 ⟨xs272, rfl, S335, lxs272, hsub337⟩
    refine ⟨_, hsub337, ?_⟩
    refine AX.seq ?_
    refine AX.region ?_
    refine AO.c rfl (s_loadN (vs := ints xs272) Tryd.isAgg76 Tryd.sizeOf76 rfl (ints_len lxs272) (row_cells (S335.get (k := 1) rfl))) ?_
    obtain ⟨G338, hHG338, S339⟩ := S335.set (k := 0) (i := i101) rfl (AObj.row false (ints xs272))
    refine AO.s (s_storeAll (vs := ints xs272) Tryd.sizeOf76 rfl rfl ints_one (S335.get (k := 0) rfl) (ints_len lxs272) (ints_len len_rep) hHG338) ?_
    refine AO.nil ?_
    refine AX.ret ?_
    obtain rfl := some_inj hd275
    exact ⟨.inr rfl, _, res1 rfl (rv_cell (vs := ints xs272) rfl Tryd.isAgg76 Tryd.sizeOf76 (ints_len lxs272) (row_cells (S339.get (k := 0) rfl))), rfl, (flat_arr _), S339.hold, lxs272⟩

end Go.Proofs.YtfiilgnebmidbaaDoor
