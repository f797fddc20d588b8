/-
  The program computes that, printed by a program. No condition.
-/
import Derived.Test.YtdafmafigcljkaaDMb
import Derived.Test.YtdafmafigcljkaaWA
import Derived.Test.YtdafmafigcljkaaPw
import Derived.Test.YtdafmafigcljkaaProg
import Derived.KernelRfl
namespace Go.Proofs.Ytdafmafigcljkaa
open Go Go.RowKit Am
set_option linter.unusedVariables false
set_option linter.unusedSimpArgs false
set_option maxRecDepth 20000
set_option maxHeartbeats 4000000 in
theorem W_slices_IndexFunc_SSint64_Sint64 (fu : Nat) (H : AHeap) (p_a0 : Option Addr) (c_a0 : Nat) (T_a0 : Tb) (a0 : List (List Int)) (t_a0 : trows T_a0 = a0) (v_a0 : Vw H p_a0 a0.length c_a0 (tcells T_a0)) (w_a0 : TVw H T_a0) (f_a1 : FuncId) (fs_a1 cs_a1 : Array Value) (a1 : (List Int) → Option Bool) (hc_a1 : ∀ args w, (callFunc f_a1 args).run Try.prog w = .ok (.enter f_a1 args) w) (hq_a1 : ∀ H', ExtG H H' → ∀ (p_x0_a1 : Option Addr) (c_x0_a1 : Nat) (x0_a1 : List Int) (v_x0_a1 : Vw H' p_x0_a1 x0_a1.length c_x0_a1 (ints x0_a1)) (b : Bool), a1 x0_a1 = some b → ACall Try.prog f_a1 (fs_a1.toList ++ [.slice p_x0_a1 x0_a1.length c_x0_a1] ++ cs_a1.toList) H' (.bool b) H') (r0 : Int) (hd : D_slices_IndexFunc_SSint64_Sint64 fu a0 a1 = some r0) : ACall Try.prog 146 [.slice p_a0 a0.length c_a0, .func (.func f_a1) fs_a1 cs_a1] H (.int .i64 r0) H := by
  refine ACall.bodyP (N := 19) [(0, .slice p_a0 a0.length c_a0), (1, .func (.func f_a1) fs_a1 cs_a1)] Try.func146 rfl rfl rfl rfl ?_
  unfold D_slices_IndexFunc_SSint64_Sint64 at hd
  have S0 : St [] H H [] := St.nil H
  refine AX.seq ?_
  refine AX.region ?_
  refine AO.p rfl (p_assign rfl) ?_
  refine AO.nil ?_
  refine AX.seq ?_
  refine AX.seq ?_
  refine AX.region ?_
  refine AO.p rfl (p_move rfl) ?_
  refine AO.p rfl (p_len_slice rfl Try.underlying43) ?_
  refine AO.p rfl (p_move rfl) ?_
  refine AO.nil ?_
  obtain ⟨r162, hl163, hd164⟩ := bnd_some hd
  refine AX.cutS (fun t' H' => .inl () = r162 ∧ St [] H H' [] ∧ Am.Sub [] t') ?_ ?_
  · refine AX.block ?_
    refine AX.loopF (fun s' t' H' => ∃ (x141 : Int), x141 = s' ∧ St [] H H' [] ∧ Am.Sub [(0, .slice p_a0 a0.length c_a0), (1, .func (.func f_a1) fs_a1 cs_a1), (7, .int .i64 ((a0.length : Nat) : Int)), (8, .int .i64 x141)] t') hl163 ?_ ?_
    · skip
      exact ⟨0, rfl, S0, Sub.cons' rfl rfl (Sub.cons' rfl rfl (Sub.cons' rfl rfl (Sub.cons' rfl rfl (Sub.nil _))))⟩
    · rintro n165 _ t' G169 ⟨x141, rfl, S168, hsub170⟩ o171 ho166 hk167
      refine AX.sub hsub170 ?_
      unfold D_slices_IndexFunc_SSint64_Sint64_s0 at ho166
      refine AX.seq ?_
      refine AX.region ?_
      refine AO.p rfl (p_lss rfl rfl) ?_
      refine AO.nil ?_
      refine AX.seq ?_
      refine AX.cond rfl (fun c172 => ?_) (fun c172 => ?_)
      · have hd173 := bif_t c172 ho166
        refine AX.skip ?_
        refine AX.seq ?_
        refine AX.block ?_
        refine AX.seq ?_
        refine AX.region ?_
        refine AO.p rfl (p_move rfl) ?_
        refine AO.p rfl (p_assign rfl) ?_
        refine AO.nil ?_
        refine AX.seq ?_
        refine AX.region ?_
        refine AO.p rfl (p_move rfl) ?_
        refine AO.p rfl (p_move rfl) ?_
        refine AO.p rfl (p_move rfl) ?_
        obtain ⟨k174, hd175⟩ := chk_some hd173
        obtain ⟨p176, c177, e178, f179⟩ := tget t_a0 (lt_len rfl (inR_lt k174))
        refine AO.p rfl (s_indexV (q := off p_a0 + x141.toNat) Try.underlying43 Try.sizeOf58 rfl ((S168.view v_a0).p f179) rfl k174 (o1 _ _)) ?_
        refine AO.c rfl (s_load Try.isAgg58 rfl ((S168.view v_a0).get _ _ f179)) ?_
        obtain ⟨b180, h181, hd182⟩ := bnd_some hd175
        refine AO.c rfl (o_callV (vs := [.slice p176 ((rw_ a0 x141.toNat).length) c177]) rfl rfl hc_a1 (hq_a1 G169 S168.ext p176 c177 (rw_ a0 x141.toNat) (TVw.at (S168.tview w_a0) e178) b180 h181)) ?_
        refine AO.nil ?_
        refine AX.cond rfl (fun c183 => ?_) (fun c183 => ?_)
        · have hd184 := bif_t c183 hd182
          refine AX.seq ?_
          refine AX.region ?_
          refine AO.p rfl (p_move rfl) ?_
          refine AO.p rfl (p_assign rfl) ?_
          refine AO.nil ?_
          refine AX.ret ?_
          obtain rfl := some_inj hd184
          have z185 : _ = r162 := hk167
          subst z185
          obtain rfl := some_inj hd164
          exact ⟨.inr rfl, _, res1 rfl (rv_tmp rfl), rfl, (flatB_ok rfl), S168.hold⟩
        · have hd186 := bif_f c183 hd182
          refine AX.skip ?_
          refine AX.region ?_
          obtain ⟨k187, hd188⟩ := chk_some hd186
          refine AO.p rfl (p_addE rfl rfl k187) ?_
          refine AO.p rfl (p_move rfl) ?_
          refine AO.nil ?_
          obtain rfl := some_inj hd188
          exact ⟨x141 + 1, hk167, (x141 + 1), rfl, S168, Sub.cons' rfl rfl (Sub.cons' rfl rfl (Sub.cons' rfl rfl (Sub.cons' rfl rfl (Sub.nil _))))⟩
      · have hd190 := bif_f c172 ho166
        refine AX.exit ?_
        obtain rfl := some_inj hd190
        exact ⟨hk167, S168, Sub.nil _⟩
  · rintro t' G192 ⟨rfl, S191, hsub193⟩
    refine ⟨_, hsub193, ?_⟩
    refine AX.seq ?_
    refine AX.region ?_
    refine AO.p rfl (p_assign rfl) ?_
    refine AO.nil ?_
    refine AX.ret ?_
    obtain rfl := some_inj hd164
    exact ⟨.inr rfl, _, res1 rfl (rv_tmp rfl), rfl, (flatB_ok rfl), S191.hold⟩

set_option maxHeartbeats 4000000 in
theorem W_slices_ContainsFunc_SSint64_Sint64 (fu : Nat) (H : AHeap) (p_a0 : Option Addr) (c_a0 : Nat) (T_a0 : Tb) (a0 : List (List Int)) (t_a0 : trows T_a0 = a0) (v_a0 : Vw H p_a0 a0.length c_a0 (tcells T_a0)) (w_a0 : TVw H T_a0) (f_a1 : FuncId) (fs_a1 cs_a1 : Array Value) (a1 : (List Int) → Option Bool) (hc_a1 : ∀ args w, (callFunc f_a1 args).run Try.prog w = .ok (.enter f_a1 args) w) (hq_a1 : ∀ H', ExtG H H' → ∀ (p_x0_a1 : Option Addr) (c_x0_a1 : Nat) (x0_a1 : List Int) (v_x0_a1 : Vw H' p_x0_a1 x0_a1.length c_x0_a1 (ints x0_a1)) (b : Bool), a1 x0_a1 = some b → ACall Try.prog f_a1 (fs_a1.toList ++ [.slice p_x0_a1 x0_a1.length c_x0_a1] ++ cs_a1.toList) H' (.bool b) H') (r0 : Bool) (hd : D_slices_ContainsFunc_SSint64_Sint64 fu a0 a1 = some r0) : ACall Try.prog 105 [.slice p_a0 a0.length c_a0, .func (.func f_a1) fs_a1 cs_a1] H (.bool r0) H := by
  refine ACall.bodyP (N := 9) [(0, .slice p_a0 a0.length c_a0), (1, .func (.func f_a1) fs_a1 cs_a1)] Try.func105 rfl rfl rfl rfl ?_
  unfold D_slices_ContainsFunc_SSint64_Sint64 at hd
  have S0 : St [] H H [] := St.nil H
  refine AX.seq ?_
  refine AX.region ?_
  refine AO.p rfl (p_assign rfl) ?_
  refine AO.nil ?_
  refine AX.seq ?_
  refine AX.region ?_
  refine AO.p rfl (p_move rfl) ?_
  refine AO.p rfl (p_move rfl) ?_
  obtain ⟨x100, h101, hd102⟩ := bnd_some hd
  refine AO.c rfl (o_call (vs := [.slice p_a0 a0.length c_a0, .func (.func f_a1) fs_a1 cs_a1]) rfl Try.call146 (W_slices_IndexFunc_SSint64_Sint64 fu H p_a0 c_a0 T_a0 a0 t_a0 (S0.view v_a0) (S0.tview w_a0) f_a1 fs_a1 cs_a1 a1 hc_a1 (fun G' hG => hq_a1 G' (S0.ext.trans hG)) x100 h101)) ?_
  refine AO.p rfl (p_geq rfl rfl) ?_
  refine AO.p rfl (p_assign rfl) ?_
  refine AO.nil ?_
  refine AX.ret ?_
  obtain rfl := some_inj hd102
  exact ⟨.inr rfl, _, res1 rfl (rv_tmp rfl), rfl, (flatB_ok rfl), S0.hold⟩

set_option maxHeartbeats 4000000 in
theorem W_impl_arePairs_1 (fu : Nat) (H : AHeap) (p_a0 : Option Addr) (c_a0 : Nat) (a0 : List Int) (v_a0 : Vw H p_a0 a0.length c_a0 (ints a0)) (i_b0 : Nat) (ro_b0 : Bool) (b0_0 : Int) (o_b0 : hget H i_b0 = .row ro_b0 ([.int .i64 b0_0])) (r0 : Bool) (hd : D_impl_arePairs_1 fu a0 b0_0 = some r0) : ACall Try.prog 158 [.slice p_a0 a0.length c_a0, .pointer (some ⟨i_b0, 0, none⟩)] H (.bool r0) H := by
  refine ACall.bodyP (N := 34) [(0, .slice p_a0 a0.length c_a0), (1, .pointer (some ⟨i_b0, 0, none⟩))] Try.func158 rfl rfl rfl rfl ?_
  unfold D_impl_arePairs_1 at hd
  have S0 : St [] H H [] := St.nil H
  refine AX.seq ?_
  refine AX.region ?_
  refine AO.p rfl (p_assign rfl) ?_
  refine AO.nil ?_
  obtain ⟨r130, hb131, hd132⟩ := bnd_some hd
  refine AX.cut (fun t' H' => ∃ (b129 : Bool), b129 = r130 ∧ St [] H H' [] ∧ Am.Sub [(3, .bool b129)] t') ?_ ?_
  · skip
    refine DR.startS [false, false, false, false, false, false, false, false, false, true, false, false, false, false, false, false, false, false, true, false, false, false, false, false, false, false, false, false, false, false, false] mix (by kernel_rfl) (fun hst => ?_)
    refine DR.p rfl rfl (p_move rfl) ?_
    refine DR.p rfl rfl (p_len_slice rfl Try.underlying58) ?_
    refine DR.p rfl rfl (p_neq rfl rfl) ?_
    refine DR.pb rfl rfl (p_move rfl) (fun c133 => ?_) (fun c133 => ?_)
    · have hd134 := bif_t c133 hb131
      refine DR.gn rfl rfl rfl rfl ?_
      refine DR.gn rfl rfl rfl rfl ?_
      refine DR.gn rfl rfl rfl rfl ?_
      refine DR.gn rfl rfl rfl rfl ?_
      refine DR.gn rfl rfl rfl rfl ?_
      refine DR.gn rfl rfl rfl rfl ?_
      refine DR.gn rfl rfl rfl rfl ?_
      refine DR.p rfl rfl (p_pickT rfl rfl) ?_
      refine DR.p rfl rfl (p_move rfl) ?_
      refine DR.gn rfl rfl rfl rfl ?_
      refine DR.gn rfl rfl rfl rfl ?_
      refine DR.gn rfl rfl rfl rfl ?_
      refine DR.gn rfl rfl rfl rfl ?_
      refine DR.gn rfl rfl rfl rfl ?_
      refine DR.gn rfl rfl rfl rfl ?_
      refine DR.gn rfl rfl rfl rfl ?_
      refine DR.p rfl rfl (p_pickT rfl rfl) ?_
      refine DR.p rfl rfl (p_move rfl) ?_
      refine DR.gn rfl rfl rfl rfl ?_
      refine DR.gn rfl rfl rfl rfl ?_
      refine DR.gn rfl rfl rfl rfl ?_
      refine DR.gn rfl rfl rfl rfl ?_
      refine DR.gn rfl rfl rfl rfl ?_
      refine DR.gn rfl rfl rfl rfl ?_
      refine DR.gn rfl rfl rfl rfl ?_
      refine DR.p rfl rfl (p_pickT rfl rfl) ?_
      refine DR.p rfl rfl (p_assign rfl) ?_
      refine DR.nil 31 [] hst (by kernel_rfl) trivial ?_
      exact ⟨true, (some_inj hd134), S0, Sub.cons' rfl rfl (Sub.nil _)⟩
    · have hd135 := bif_f c133 hb131
      refine DR.gp rfl rfl rfl rfl (p_move rfl) ?_
      obtain ⟨k136, hd137⟩ := chk_some hd135
      refine DR.gp rfl rfl rfl rfl (s_indexV (q := off p_a0 + 0) Try.underlying58 Try.sizeOf2 rfl ((S0.view v_a0).p (ints_get (lt_len rfl (inR_lt k136)))) rfl k136 (o1 _ _)) ?_
      refine DR.gr rfl rfl rfl rfl (r_load rfl Try.isAgg2) (one_read ((S0.view v_a0).get _ _ (ints_get (lt_len rfl (inR_lt k136)))) (.of_flat0 rfl)) ?_
      refine DR.gr rfl rfl rfl rfl (r_load rfl Try.isAgg2) (one_read (row_cell (S0.old o_b0 (by simp)) rfl) (.of_flat0 rfl)) ?_
      obtain ⟨k138, hd139⟩ := chk_some hd137
      refine DR.gp rfl rfl rfl rfl (p_subE rfl rfl k138) ?_
      obtain ⟨b140, h141, hd142⟩ := bnd_some hd139
      refine DR.gw rfl rfl rfl rfl (o_call (vs := [.int .i64 (rd a0 0), .int .i64 1, .int .i64 (b0_0 - 1)]) rfl Try.call52 (W_impl_between fu H (rd a0 0) 1 (b0_0 - 1) b140 h141)) (Nat.le_refl _) ?_
      refine DR.gp rfl rfl rfl rfl (p_not rfl) ?_
      refine DR.p rfl rfl (p_pickF rfl rfl) ?_
      refine DR.pb rfl rfl (p_move rfl) (fun c144 => ?_) (fun c144 => ?_)
      · have hd145 := bif_t c144 hd142
        refine DR.gn rfl rfl rfl rfl ?_
        refine DR.gn rfl rfl rfl rfl ?_
        refine DR.gn rfl rfl rfl rfl ?_
        refine DR.gn rfl rfl rfl rfl ?_
        refine DR.gn rfl rfl rfl rfl ?_
        refine DR.gn rfl rfl rfl rfl ?_
        refine DR.gn rfl rfl rfl rfl ?_
        refine DR.p rfl rfl (p_pickT rfl rfl) ?_
        refine DR.p rfl rfl (p_move rfl) ?_
        refine DR.gn rfl rfl rfl rfl ?_
        refine DR.gn rfl rfl rfl rfl ?_
        refine DR.gn rfl rfl rfl rfl ?_
        refine DR.gn rfl rfl rfl rfl ?_
        refine DR.gn rfl rfl rfl rfl ?_
        refine DR.gn rfl rfl rfl rfl ?_
        refine DR.gn rfl rfl rfl rfl ?_
        refine DR.p rfl rfl (p_pickT rfl rfl) ?_
        refine DR.p rfl rfl (p_assign rfl) ?_
        refine DR.nil 31 [] hst (by kernel_rfl) trivial ?_
        exact ⟨true, (some_inj hd145), S0, Sub.cons' rfl rfl (Sub.nil _)⟩
      · have hd146 := bif_f c144 hd142
        refine DR.gp rfl rfl rfl rfl (p_move rfl) ?_
        obtain ⟨k147, hd148⟩ := chk_some hd146
        refine DR.gp rfl rfl rfl rfl (s_indexV (q := off p_a0 + 1) Try.underlying58 Try.sizeOf2 rfl ((S0.view v_a0).p (ints_get (lt_len rfl (inR_lt k147)))) rfl k147 (o1 _ _)) ?_
        refine DR.gr rfl rfl rfl rfl (r_load rfl Try.isAgg2) (one_read ((S0.view v_a0).get _ _ (ints_get (lt_len rfl (inR_lt k147)))) (.of_flat0 rfl)) ?_
        refine DR.gr rfl rfl rfl rfl (r_load rfl Try.isAgg2) (one_read (row_cell (S0.old o_b0 (by simp)) rfl) (.of_flat0 rfl)) ?_
        obtain ⟨k149, hd150⟩ := chk_some hd148
        refine DR.gp rfl rfl rfl rfl (p_subE rfl rfl k149) ?_
        obtain ⟨b151, h152, hd153⟩ := bnd_some hd150
        refine DR.gw rfl rfl rfl rfl (o_call (vs := [.int .i64 (rd a0 1), .int .i64 1, .int .i64 (b0_0 - 1)]) rfl Try.call52 (W_impl_between fu H (rd a0 1) 1 (b0_0 - 1) b151 h152)) (Nat.le_refl _) ?_
        refine DR.gp rfl rfl rfl rfl (p_not rfl) ?_
        refine DR.p rfl rfl (p_pickF rfl rfl) ?_
        refine DR.pb rfl rfl (p_move rfl) (fun c155 => ?_) (fun c155 => ?_)
        · have hd156 := bif_t c155 hd153
          refine DR.gn rfl rfl rfl rfl ?_
          refine DR.gn rfl rfl rfl rfl ?_
          refine DR.gn rfl rfl rfl rfl ?_
          refine DR.gn rfl rfl rfl rfl ?_
          refine DR.gn rfl rfl rfl rfl ?_
          refine DR.gn rfl rfl rfl rfl ?_
          refine DR.gn rfl rfl rfl rfl ?_
          refine DR.p rfl rfl (p_pickT rfl rfl) ?_
          refine DR.p rfl rfl (p_assign rfl) ?_
          refine DR.nil 31 [] hst (by kernel_rfl) trivial ?_
          exact ⟨true, (some_inj hd156), S0, Sub.cons' rfl rfl (Sub.nil _)⟩
        · have hd157 := bif_f c155 hd153
          refine DR.gp rfl rfl rfl rfl (p_move rfl) ?_
          obtain ⟨k158, hd159⟩ := chk_some hd157
          refine DR.gp rfl rfl rfl rfl (s_indexV (q := off p_a0 + 0) Try.underlying58 Try.sizeOf2 rfl ((S0.view v_a0).p (ints_get (lt_len rfl (inR_lt k158)))) rfl k158 (o1 _ _)) ?_
          refine DR.gr rfl rfl rfl rfl (r_load rfl Try.isAgg2) (one_read ((S0.view v_a0).get _ _ (ints_get (lt_len rfl (inR_lt k158)))) (.of_flat0 rfl)) ?_
          refine DR.gp rfl rfl rfl rfl (p_move rfl) ?_
          obtain ⟨k160, hd161⟩ := chk_some hd159
          refine DR.gp rfl rfl rfl rfl (s_indexV (q := off p_a0 + 1) Try.underlying58 Try.sizeOf2 rfl ((S0.view v_a0).p (ints_get (lt_len rfl (inR_lt k160)))) rfl k160 (o1 _ _)) ?_
          refine DR.gr rfl rfl rfl rfl (r_load rfl Try.isAgg2) (one_read ((S0.view v_a0).get _ _ (ints_get (lt_len rfl (inR_lt k160)))) (.of_flat0 rfl)) ?_
          refine DR.gp rfl rfl rfl rfl (p_eql rfl rfl) ?_
          refine DR.p rfl rfl (p_pickF rfl rfl) ?_
          refine DR.p rfl rfl (p_assign rfl) ?_
          refine DR.nil 31 [] hst (by kernel_rfl) trivial ?_
          exact ⟨(decide (rd a0 0 = rd a0 1)), (some_inj hd161), S0, Sub.cons' rfl rfl (Sub.nil _)⟩
  · rintro t' G163 ⟨b129, rfl, S162, hsub164⟩
    refine AX.sub hsub164 ?_
    refine AX.ret ?_
    obtain rfl := some_inj hd132
    exact ⟨.inr rfl, _, res1 rfl (rv_tmp rfl), rfl, (flatB_ok rfl), S162.hold⟩

set_option maxHeartbeats 4000000 in
theorem W_impl_arePairs (fu : Nat) (H : AHeap) (a0 : Int) (p_a1 : Option Addr) (c_a1 : Nat) (T_a1 : Tb) (a1 : List (List Int)) (t_a1 : trows T_a1 = a1) (v_a1 : Vw H p_a1 a1.length c_a1 (tcells T_a1)) (w_a1 : TVw H T_a1) (r0 : Bool) (hd : D_impl_arePairs fu a0 a1 = some r0) : ACall Try.prog 131 [.int .i64 a0, .slice p_a1 a1.length c_a1] H (.bool r0) H := by
  refine ACall.bodyP (N := 9) [(0, .int .i64 a0), (1, .slice p_a1 a1.length c_a1)] Try.func131 rfl rfl rfl rfl ?_
  unfold D_impl_arePairs at hd
  have S0 : St [] H H [] := St.nil H
  refine AX.seq ?_
  refine AX.region ?_
  obtain ⟨G100, i101, hii101, hHG100, S102⟩ := S0.new (AObj.row false ([.int .i64 a0]))
  refine AO.c rfl (s_box (i := i101) (cs := [.int .i64 a0]) rfl hii101 rfl hHG100) ?_
  refine AO.p rfl (p_assign rfl) ?_
  refine AO.nil ?_
  refine AX.seq ?_
  refine AX.region ?_
  refine AO.p rfl (p_move rfl) ?_
  refine AO.p rfl (p_makeFunc (fs := []) (cs := [.pointer (some ⟨i101, 0, none⟩)]) rfl rfl) ?_
  obtain ⟨b104, h105, hd106⟩ := bnd_some hd
  refine AO.c rfl (o_call (vs := [.slice p_a1 a1.length c_a1, .func (.func 158) #[] #[.pointer (some ⟨i101, 0, none⟩)]]) rfl Try.call105 (W_slices_ContainsFunc_SSint64_Sint64 fu G100 p_a1 c_a1 T_a1 a1 t_a1 (S102.view v_a1) (S102.tview w_a1) 158 #[] #[.pointer (some ⟨i101, 0, none⟩)] (fun x0' => D_impl_arePairs_1 fu x0' a0) Try.call158 (fun G' hG px0' cx0' x0' vx0' b' hb' => W_impl_arePairs_1 fu G' px0' cx0' x0' vx0' i101 false a0 (hG.get (S102.get (k := 0) rfl)) b' hb') b104 h105)) ?_
  refine AO.p rfl (p_not rfl) ?_
  refine AO.p rfl (p_assign rfl) ?_
  refine AO.nil ?_
  refine AX.ret ?_
  obtain rfl := some_inj hd106
  exact ⟨.inr rfl, _, res1 rfl (rv_tmp rfl), rfl, (flatB_ok rfl), S102.hold⟩

set_option maxHeartbeats 4000000 in
theorem W_impl_size_Sint64 (fu : Nat) (H : AHeap) (p_a0 : Option Addr) (c_a0 : Nat) (T_a0 : Tb) (a0 : List (List Int)) (t_a0 : trows T_a0 = a0) (v_a0 : Vw H p_a0 a0.length c_a0 (tcells T_a0)) (w_a0 : TVw H T_a0) (r0 : Int) (hd : D_impl_size_Sint64 fu a0 = some r0) : ACall Try.prog 159 [.slice p_a0 a0.length c_a0] H (.int .i64 r0) H := by
  refine ACall.bodyP (N := 5) [(0, .slice p_a0 a0.length c_a0)] Try.func159 rfl rfl rfl rfl ?_
  unfold D_impl_size_Sint64 at hd
  have S0 : St [] H H [] := St.nil H
  refine AX.seq ?_
  refine AX.region ?_
  refine AO.p rfl (p_assign rfl) ?_
  refine AO.nil ?_
  refine AX.seq ?_
  refine AX.region ?_
  refine AO.p rfl (p_move rfl) ?_
  refine AO.p rfl (p_len_slice rfl Try.underlying43) ?_
  refine AO.p rfl (p_assign rfl) ?_
  refine AO.nil ?_
  refine AX.ret ?_
  obtain rfl := some_inj hd
  exact ⟨.inr rfl, _, res1 rfl (rv_tmp rfl), rfl, (flatB_ok rfl), S0.hold⟩

set_option maxHeartbeats 4000000 in
theorem W_impl_isStarter (fu : Nat) (H : AHeap) (a0 : Int) (p_a1 : Option Addr) (c_a1 : Nat) (T_a1 : Tb) (a1 : List (List Int)) (t_a1 : trows T_a1 = a1) (v_a1 : Vw H p_a1 a1.length c_a1 (tcells T_a1)) (w_a1 : TVw H T_a1) (r0 : Bool) (hd : D_impl_isStarter fu a0 a1 = some r0) : ACall Try.prog 132 [.int .i64 a0, .slice p_a1 a1.length c_a1] H (.bool r0) H := by
  refine ACall.bodyP (N := 97) [(0, .int .i64 a0), (1, .slice p_a1 a1.length c_a1)] Try.func132 rfl rfl rfl rfl ?_
  unfold D_impl_isStarter at hd
  have S0 : St [] H H [] := St.nil H
  refine AX.seq ?_
  refine AX.region ?_
  refine AO.p rfl (p_assign rfl) ?_
  refine AO.nil ?_
  refine AX.seq ?_
  refine AX.region ?_
  obtain ⟨G100, i101, hii101, hHG100, S102⟩ := S0.new (AObj.map (ib []))
  refine AO.c rfl (s_makeMap (i := i101) hii101 hHG100) ?_
  obtain ⟨G104, i105, hii105, hHG104, S106⟩ := S102.new (AObj.map (ib []))
  refine AO.c rfl (s_makeMap (i := i105) hii105 hHG104) ?_
  refine AO.p rfl (p_assign rfl) ?_
  refine AO.p rfl (p_assign rfl) ?_
  refine AO.nil ?_
  refine AX.seq ?_
  refine AX.seq ?_
  refine AX.region ?_
  refine AO.p rfl (p_move rfl) ?_
  refine AO.p rfl (p_len_slice rfl Try.underlying43) ?_
  refine AO.p rfl (p_move rfl) ?_
  refine AO.nil ?_
  obtain ⟨r454, hl455, hd456⟩ := bnd_some hd
  refine AX.cutS (fun t' H' => ∃ (mp451 : List (Int × Bool)) (mp453 : List (Int × Bool)), .inl (mp451, mp453) = r454 ∧ St [] H H' [[(i101, AObj.map (ib mp451))], [(i105, AObj.map (ib mp453))]] ∧ Am.Sub [(0, .int .i64 a0), (1, .slice p_a1 a1.length c_a1), (5, .map (some i101)), (6, .map (some i105))] t') ?_ ?_
  · refine AX.block ?_
    refine AX.loopF (fun s' t' H' => ∃ (mp336 : List (Int × Bool)) (mp338 : List (Int × Bool)) (x339 : Int), (mp336, mp338, x339) = s' ∧ St [] H H' [[(i101, AObj.map (ib mp336))], [(i105, AObj.map (ib mp338))]] ∧ Am.Sub [(0, .int .i64 a0), (1, .slice p_a1 a1.length c_a1), (5, .map (some i101)), (6, .map (some i105)), (11, .slice p_a1 a1.length c_a1), (12, .int .i64 ((a1.length : Nat) : Int)), (13, .int .i64 x339)] t') hl455 ?_ ?_
    · skip
      have S457 := S106.front 0 rfl
      have S458 := S457.front 1 rfl
      exact ⟨[], [], 0, rfl, S458, Sub.cons' rfl rfl (Sub.cons' rfl rfl (Sub.cons' rfl rfl (Sub.cons' rfl rfl (Sub.cons' rfl rfl (Sub.cons' rfl rfl (Sub.cons' rfl rfl (Sub.nil _)))))))⟩
    · rintro n459 _ t' G463 ⟨mp336, mp338, x339, rfl, S462, hsub464⟩ o465 ho460 hk461
      refine AX.sub hsub464 ?_
      unfold D_impl_isStarter_s0 at ho460
      refine AX.seq ?_
      refine AX.region ?_
      refine AO.p rfl (p_lss rfl rfl) ?_
      refine AO.nil ?_
      refine AX.seq ?_
      refine AX.cond rfl (fun c466 => ?_) (fun c466 => ?_)
      · have hd467 := bif_t c466 ho460
        refine AX.skip ?_
        refine AX.seq ?_
        refine AX.block ?_
        refine AX.seq ?_
        refine AX.region ?_
        refine AO.p rfl (p_move rfl) ?_
        obtain ⟨k468, hd469⟩ := chk_some hd467
        obtain ⟨p470, c471, e472, f473⟩ := tget t_a1 (lt_len rfl (inR_lt k468))
        refine AO.p rfl (s_indexV (q := off p_a1 + x339.toNat) Try.underlying43 Try.sizeOf58 rfl ((S462.view v_a1).p f473) rfl k468 (o1 _ _)) ?_
        refine AO.c rfl (s_load Try.isAgg58 rfl ((S462.view v_a1).get _ _ f473)) ?_
        refine AO.p rfl (p_assign rfl) ?_
        refine AO.p rfl (p_assign rfl) ?_
        refine AO.nil ?_
        refine AX.seq ?_
        obtain ⟨r499, hb500, hd501⟩ := bnd_some hd469
        refine AX.cut (fun t' H' => ∃ (b498 : Bool), b498 = r499 ∧ St [] H H' [[(i101, AObj.map (ib mp336))], [(i105, AObj.map (ib mp338))]] ∧ Am.Sub [(0, .int .i64 a0), (1, .slice p_a1 a1.length c_a1), (5, .map (some i101)), (6, .map (some i105)), (8, .slice p470 ((rw_ a1 x339.toNat).length) c471), (11, .slice p_a1 a1.length c_a1), (12, .int .i64 ((a1.length : Nat) : Int)), (13, .int .i64 x339), (41, .bool b498)] t') ?_ ?_
        · skip
          refine DR.startS [false, false, false, false, false, false, false, false, false, false, false, false, false, false, false, false, false, false, false, false, false, false, false, false] mix (by kernel_rfl) (fun hst => ?_)
          refine DR.p rfl rfl (p_move rfl) ?_
          obtain ⟨k502, hd503⟩ := chk_some hb500
          refine DR.p rfl rfl (s_indexV (q := off p470 + 0) Try.underlying58 Try.sizeOf2 rfl ((TVw.at (S462.tview w_a1) e472).p (ints_get (lt_len rfl (inR_lt k502)))) rfl k502 (o1 _ _)) ?_
          refine DR.r rfl rfl (r_load rfl Try.isAgg2) (one_read ((TVw.at (S462.tview w_a1) e472).get _ _ (ints_get (lt_len rfl (inR_lt k502)))) (.of_flat0 rfl)) ?_
          refine DR.p rfl rfl (p_move rfl) ?_
          obtain ⟨k504, hd505⟩ := chk_some hd503
          refine DR.p rfl rfl (s_indexV (q := off p470 + 1) Try.underlying58 Try.sizeOf2 rfl ((TVw.at (S462.tview w_a1) e472).p (ints_get (lt_len rfl (inR_lt k504)))) rfl k504 (o1 _ _)) ?_
          refine DR.r rfl rfl (r_load rfl Try.isAgg2) (one_read ((TVw.at (S462.tview w_a1) e472).get _ _ (ints_get (lt_len rfl (inR_lt k504)))) (.of_flat0 rfl)) ?_
          refine DR.p rfl rfl (p_gtr rfl rfl) ?_
          refine DR.pb rfl rfl (p_move rfl) (fun c506 => ?_) (fun c506 => ?_)
          · have hd507 := bif_t c506 hd505
            refine DR.gn rfl rfl rfl rfl ?_
            refine DR.gn rfl rfl rfl rfl ?_
            refine DR.gn rfl rfl rfl rfl ?_
            refine DR.gu rfl rfl rfl rfl ?_
            refine DR.gu rfl rfl rfl rfl ?_
            refine DR.gu rfl rfl rfl rfl ?_
            refine DR.gu rfl rfl rfl rfl ?_
            refine DR.gu rfl rfl rfl rfl ?_
            refine DR.gu rfl rfl rfl rfl ?_
            refine DR.gu rfl rfl rfl rfl ?_
            refine DR.gu rfl rfl rfl rfl ?_
            refine DR.gu rfl rfl rfl rfl ?_
            refine DR.gu rfl rfl rfl rfl ?_
            refine DR.gu rfl rfl rfl rfl ?_
            refine DR.gn rfl rfl rfl rfl ?_
            refine DR.p rfl rfl (p_pickT rfl rfl) ?_
            refine DR.nil 24 [] hst (by kernel_rfl) trivial ?_
            have S508 := S462.front 1 rfl
            have S509 := S508.front 1 rfl
            exact ⟨true, (some_inj hd507), S509, Sub.cons' rfl rfl (Sub.cons' rfl rfl (Sub.cons' rfl rfl (Sub.cons' rfl rfl (Sub.cons' rfl rfl (Sub.cons' rfl rfl (Sub.cons' rfl rfl (Sub.cons' rfl rfl (Sub.cons' rfl rfl (Sub.nil _)))))))))⟩
          · have hd510 := bif_f c506 hd505
            refine DR.gp rfl rfl rfl rfl (p_move rfl) ?_
            refine DR.gp rfl rfl rfl rfl (p_gtr rfl rfl) ?_
            refine DR.gpb rfl rfl rfl rfl (p_move rfl) (fun c511 => ?_) (fun c511 => ?_)
            · have hd512 := bif_t c511 hd510
              refine DR.gp rfl rfl rfl rfl (p_move rfl) ?_
              obtain ⟨k513, hd514⟩ := chk_some hd512
              refine DR.gp rfl rfl rfl rfl (s_indexV (q := off p470 + 0) Try.underlying58 Try.sizeOf2 rfl ((TVw.at (S462.tview w_a1) e472).p (ints_get (lt_len rfl (inR_lt k513)))) rfl k513 (o1 _ _)) ?_
              refine DR.gr rfl rfl rfl rfl (r_load rfl Try.isAgg2) (one_read ((TVw.at (S462.tview w_a1) e472).get _ _ (ints_get (lt_len rfl (inR_lt k513)))) (.of_flat0 rfl)) ?_
              refine DR.gp rfl rfl rfl rfl (p_move rfl) ?_
              refine DR.gp rfl rfl rfl rfl (p_move rfl) ?_
              obtain ⟨k515, hd516⟩ := chk_some hd514
              refine DR.gp rfl rfl rfl rfl (p_subE rfl rfl k515) ?_
              obtain ⟨k517, hd518⟩ := chk_some hd516
              obtain ⟨p519, c520, e521, f522⟩ := tget t_a1 (lt_len rfl (inR_lt k517))
              refine DR.gp rfl rfl rfl rfl (s_indexV (q := off p_a1 + (x339 - 1).toNat) Try.underlying43 Try.sizeOf58 rfl ((S462.view v_a1).p f522) rfl k517 (o1 _ _)) ?_
              refine DR.gr rfl rfl rfl rfl (r_load rfl Try.isAgg58) (one_read ((S462.view v_a1).get _ _ f522) (TVw.at (S462.tview w_a1) e521).inn.bel) ?_
              obtain ⟨k523, hd524⟩ := chk_some hd518
              refine DR.gp rfl rfl rfl rfl (s_indexV (q := off p519 + 0) Try.underlying58 Try.sizeOf2 rfl ((TVw.at (S462.tview w_a1) e521).p (ints_get (lt_len rfl (inR_lt k523)))) rfl k523 (o1 _ _)) ?_
              refine DR.gr rfl rfl rfl rfl (r_load rfl Try.isAgg2) (one_read ((TVw.at (S462.tview w_a1) e521).get _ _ (ints_get (lt_len rfl (inR_lt k523)))) (.of_flat0 rfl)) ?_
              refine DR.gp rfl rfl rfl rfl (p_lss rfl rfl) ?_
              refine DR.gp rfl rfl rfl rfl (p_pickT rfl rfl) ?_
              refine DR.p rfl rfl (p_pickF rfl rfl) ?_
              refine DR.nil 24 [] hst (by kernel_rfl) trivial ?_
              have S525 := S462.front 1 rfl
              have S526 := S525.front 1 rfl
              exact ⟨(decide (rd (rw_ a1 x339.toNat) 0 < rd (rw_ a1 ((x339 - 1).toNat)) 0)), (some_inj hd524), S526, Sub.cons' rfl rfl (Sub.cons' rfl rfl (Sub.cons' rfl rfl (Sub.cons' rfl rfl (Sub.cons' rfl rfl (Sub.cons' rfl rfl (Sub.cons' rfl rfl (Sub.cons' rfl rfl (Sub.cons' rfl rfl (Sub.nil _)))))))))⟩
            · have hd527 := bif_f c511 hd510
              refine DR.gn rfl rfl rfl rfl ?_
              refine DR.gn rfl rfl rfl rfl ?_
              refine DR.gn rfl rfl rfl rfl ?_
              refine DR.gn rfl rfl rfl rfl ?_
              refine DR.gn rfl rfl rfl rfl ?_
              refine DR.gn rfl rfl rfl rfl ?_
              refine DR.gn rfl rfl rfl rfl ?_
              refine DR.gn rfl rfl rfl rfl ?_
              refine DR.gn rfl rfl rfl rfl ?_
              refine DR.gn rfl rfl rfl rfl ?_
              refine DR.gn rfl rfl rfl rfl ?_
              refine DR.gp rfl rfl rfl rfl (p_pickF rfl rfl) ?_
              refine DR.p rfl rfl (p_pickF rfl rfl) ?_
              refine DR.nil 24 [] hst (by kernel_rfl) trivial ?_
              have S528 := S462.front 1 rfl
              have S529 := S528.front 1 rfl
              exact ⟨false, (some_inj hd527), S529, Sub.cons' rfl rfl (Sub.cons' rfl rfl (Sub.cons' rfl rfl (Sub.cons' rfl rfl (Sub.cons' rfl rfl (Sub.cons' rfl rfl (Sub.cons' rfl rfl (Sub.cons' rfl rfl (Sub.cons' rfl rfl (Sub.nil _)))))))))⟩
        · rintro t' G531 ⟨b498, rfl, S530, hsub532⟩
          refine AX.sub hsub532 ?_
          refine AX.cond rfl (fun c533 => ?_) (fun c533 => ?_)
          · have hd534 := bif_t c533 hd501
            refine AX.seq ?_
            refine AX.region ?_
            refine AO.p rfl (p_assign rfl) ?_
            refine AO.nil ?_
            refine AX.ret ?_
            obtain rfl := some_inj hd534
            have z535 : _ = r454 := hk461
            subst z535
            obtain rfl := some_inj hd456
            exact ⟨.inr rfl, _, res1 rfl (rv_tmp rfl), rfl, (flatB_ok rfl), S530.hold⟩
          · have hd536 := bif_f c533 hd501
            refine AX.skip ?_
            refine AX.seq ?_
            refine DR.startS [false, false, false, false, false, false, false, false, true, false, true, true, false, true] mix (by kernel_rfl) (fun hst => ?_)
            refine DR.p rfl rfl (p_move rfl) ?_
            refine DR.p rfl rfl (p_move rfl) ?_
            obtain ⟨k537, hd538⟩ := chk_some hd536
            refine DR.p rfl rfl (s_indexV (q := off p470 + 0) Try.underlying58 Try.sizeOf2 rfl ((TVw.at (S530.tview w_a1) e472).p (ints_get (lt_len rfl (inR_lt k537)))) rfl k537 (o1 _ _)) ?_
            refine DR.r rfl rfl (r_load rfl Try.isAgg2) (one_read ((TVw.at (S530.tview w_a1) e472).get _ _ (ints_get (lt_len rfl (inR_lt k537)))) (.of_flat0 rfl)) ?_
            refine DR.p rfl rfl (p_move rfl) ?_
            refine DR.p rfl rfl (p_move rfl) ?_
            obtain ⟨k539, hd540⟩ := chk_some hd538
            refine DR.p rfl rfl (s_indexV (q := off p470 + 1) Try.underlying58 Try.sizeOf2 rfl ((TVw.at (S530.tview w_a1) e472).p (ints_get (lt_len rfl (inR_lt k539)))) rfl k539 (o1 _ _)) ?_
            refine DR.r rfl rfl (r_load rfl Try.isAgg2) (one_read ((TVw.at (S530.tview w_a1) e472).get _ _ (ints_get (lt_len rfl (inR_lt k539)))) (.of_flat0 rfl)) ?_
            obtain ⟨G541, hHG541, S542⟩ := S530.set (k := 0) (i := i101) rfl (AObj.map (ib (ment mp336 (rd (rw_ a1 x339.toNat) 0))))
            refine DR.w rfl rfl (s_mapEntry (l := mp336) Try.underlying142 Try.underlying2 Try.zeroValue4 rfl rfl (S530.get (k := 0) rfl) hHG541) (set_le hHG541) ?_
            refine DR.p rfl rfl (p_extract rfl rfl) ?_
            obtain ⟨G543, hHG543, S544⟩ := S542.set (k := 0) (i := i101) rfl (AObj.map (ib (mst (ment mp336 (rd (rw_ a1 x339.toNat) 0)) (mi mp336 (rd (rw_ a1 x339.toNat) 0)) true)))
            refine DR.s rfl (s_entryStore (i := mi mp336 (rd (rw_ a1 x339.toNat) 0)) (l := ment mp336 (rd (rw_ a1 x339.toNat) 0)) rfl rfl rfl (S542.get (k := 0) rfl) (mi_lt _ _) hHG543) (set_le hHG543) ?_
            obtain ⟨G545, hHG545, S546⟩ := S544.set (k := 0) (i := i101) rfl (AObj.map (ib (ment (mst (ment mp336 (rd (rw_ a1 x339.toNat) 0)) (mi mp336 (rd (rw_ a1 x339.toNat) 0)) true) (rd (rw_ a1 x339.toNat) 1))))
            refine DR.w rfl rfl (s_mapEntry (l := (mst (ment mp336 (rd (rw_ a1 x339.toNat) 0)) (mi mp336 (rd (rw_ a1 x339.toNat) 0)) true)) Try.underlying142 Try.underlying2 Try.zeroValue4 rfl rfl (S544.get (k := 0) rfl) hHG545) (set_le hHG545) ?_
            refine DR.p rfl rfl (p_extract rfl rfl) ?_
            obtain ⟨G547, hHG547, S548⟩ := S546.set (k := 0) (i := i101) rfl (AObj.map (ib (mst (ment (mst (ment mp336 (rd (rw_ a1 x339.toNat) 0)) (mi mp336 (rd (rw_ a1 x339.toNat) 0)) true) (rd (rw_ a1 x339.toNat) 1)) (mi (mst (ment mp336 (rd (rw_ a1 x339.toNat) 0)) (mi mp336 (rd (rw_ a1 x339.toNat) 0)) true) (rd (rw_ a1 x339.toNat) 1)) true)))
            refine DR.s rfl (s_entryStore (i := mi (mst (ment mp336 (rd (rw_ a1 x339.toNat) 0)) (mi mp336 (rd (rw_ a1 x339.toNat) 0)) true) (rd (rw_ a1 x339.toNat) 1)) (l := ment (mst (ment mp336 (rd (rw_ a1 x339.toNat) 0)) (mi mp336 (rd (rw_ a1 x339.toNat) 0)) true) (rd (rw_ a1 x339.toNat) 1)) rfl rfl rfl (S546.get (k := 0) rfl) (mi_lt _ _) hHG547) (set_le hHG547) ?_
            refine DR.nil 14 [] hst (by kernel_rfl) trivial ?_
            refine DR.startS [false, false, false, false, false, false, false, false, false, false, false, false, false, false, false, false, false, false, true, false, true, true, false, true] mix (by kernel_rfl) (fun hst => ?_)
            refine DR.p rfl rfl (p_move rfl) ?_
            refine DR.p rfl rfl (p_move rfl) ?_
            obtain ⟨k549, hd550⟩ := chk_some hd540
            refine DR.p rfl rfl (s_indexV (q := off p470 + 1) Try.underlying58 Try.sizeOf2 rfl ((TVw.at (S548.tview w_a1) e472).p (ints_get (lt_len rfl (inR_lt k549)))) rfl k549 (o1 _ _)) ?_
            refine DR.r rfl rfl (r_load rfl Try.isAgg2) (one_read ((TVw.at (S548.tview w_a1) e472).get _ _ (ints_get (lt_len rfl (inR_lt k549)))) (.of_flat0 rfl)) ?_
            refine DR.p rfl rfl (p_move rfl) ?_
            obtain ⟨k551, hd552⟩ := chk_some hd550
            refine DR.p rfl rfl (s_indexV (q := off p470 + 0) Try.underlying58 Try.sizeOf2 rfl ((TVw.at (S548.tview w_a1) e472).p (ints_get (lt_len rfl (inR_lt k551)))) rfl k551 (o1 _ _)) ?_
            refine DR.r rfl rfl (r_load rfl Try.isAgg2) (one_read ((TVw.at (S548.tview w_a1) e472).get _ _ (ints_get (lt_len rfl (inR_lt k551)))) (.of_flat0 rfl)) ?_
            obtain ⟨k553, hd554⟩ := chk_some hd552
            refine DR.p rfl rfl (p_subE rfl rfl k553) ?_
            refine DR.p rfl rfl (p_move rfl) ?_
            refine DR.p rfl rfl (p_move rfl) ?_
            refine DR.p rfl rfl (p_move rfl) ?_
            obtain ⟨k555, hd556⟩ := chk_some hd554
            refine DR.p rfl rfl (s_indexV (q := off p470 + 1) Try.underlying58 Try.sizeOf2 rfl ((TVw.at (S548.tview w_a1) e472).p (ints_get (lt_len rfl (inR_lt k555)))) rfl k555 (o1 _ _)) ?_
            refine DR.r rfl rfl (r_load rfl Try.isAgg2) (one_read ((TVw.at (S548.tview w_a1) e472).get _ _ (ints_get (lt_len rfl (inR_lt k555)))) (.of_flat0 rfl)) ?_
            obtain ⟨k557, hd558⟩ := chk_some hd556
            refine DR.p rfl rfl (p_subE rfl rfl k557) ?_
            refine DR.p rfl rfl (p_move rfl) ?_
            obtain ⟨k559, hd560⟩ := chk_some hd558
            refine DR.p rfl rfl (s_indexV (q := off p470 + 0) Try.underlying58 Try.sizeOf2 rfl ((TVw.at (S548.tview w_a1) e472).p (ints_get (lt_len rfl (inR_lt k559)))) rfl k559 (o1 _ _)) ?_
            refine DR.r rfl rfl (r_load rfl Try.isAgg2) (one_read ((TVw.at (S548.tview w_a1) e472).get _ _ (ints_get (lt_len rfl (inR_lt k559)))) (.of_flat0 rfl)) ?_
            obtain ⟨k561, hd562⟩ := chk_some hd560
            refine DR.p rfl rfl (p_addE rfl rfl k561) ?_
            obtain ⟨G563, hHG563, S564⟩ := S548.set (k := 1) (i := i105) rfl (AObj.map (ib (ment mp338 (rd (rw_ a1 x339.toNat) 1 - (rd (rw_ a1 x339.toNat) 0)))))
            refine DR.w rfl rfl (s_mapEntry (l := mp338) Try.underlying142 Try.underlying2 Try.zeroValue4 rfl rfl (S548.get (k := 1) rfl) hHG563) (set_le hHG563) ?_
            refine DR.p rfl rfl (p_extract rfl rfl) ?_
            obtain ⟨G565, hHG565, S566⟩ := S564.set (k := 1) (i := i105) rfl (AObj.map (ib (mst (ment mp338 (rd (rw_ a1 x339.toNat) 1 - (rd (rw_ a1 x339.toNat) 0))) (mi mp338 (rd (rw_ a1 x339.toNat) 1 - (rd (rw_ a1 x339.toNat) 0))) true)))
            refine DR.s rfl (s_entryStore (i := mi mp338 (rd (rw_ a1 x339.toNat) 1 - (rd (rw_ a1 x339.toNat) 0))) (l := ment mp338 (rd (rw_ a1 x339.toNat) 1 - (rd (rw_ a1 x339.toNat) 0))) rfl rfl rfl (S564.get (k := 1) rfl) (mi_lt _ _) hHG565) (set_le hHG565) ?_
            obtain ⟨G567, hHG567, S568⟩ := S566.set (k := 1) (i := i105) rfl (AObj.map (ib (ment (mst (ment mp338 (rd (rw_ a1 x339.toNat) 1 - (rd (rw_ a1 x339.toNat) 0))) (mi mp338 (rd (rw_ a1 x339.toNat) 1 - (rd (rw_ a1 x339.toNat) 0))) true) (a0 - (rd (rw_ a1 x339.toNat) 1) + (rd (rw_ a1 x339.toNat) 0)))))
            refine DR.w rfl rfl (s_mapEntry (l := (mst (ment mp338 (rd (rw_ a1 x339.toNat) 1 - (rd (rw_ a1 x339.toNat) 0))) (mi mp338 (rd (rw_ a1 x339.toNat) 1 - (rd (rw_ a1 x339.toNat) 0))) true)) Try.underlying142 Try.underlying2 Try.zeroValue4 rfl rfl (S566.get (k := 1) rfl) hHG567) (set_le hHG567) ?_
            refine DR.p rfl rfl (p_extract rfl rfl) ?_
            obtain ⟨G569, hHG569, S570⟩ := S568.set (k := 1) (i := i105) rfl (AObj.map (ib (mst (ment (mst (ment mp338 (rd (rw_ a1 x339.toNat) 1 - (rd (rw_ a1 x339.toNat) 0))) (mi mp338 (rd (rw_ a1 x339.toNat) 1 - (rd (rw_ a1 x339.toNat) 0))) true) (a0 - (rd (rw_ a1 x339.toNat) 1) + (rd (rw_ a1 x339.toNat) 0))) (mi (mst (ment mp338 (rd (rw_ a1 x339.toNat) 1 - (rd (rw_ a1 x339.toNat) 0))) (mi mp338 (rd (rw_ a1 x339.toNat) 1 - (rd (rw_ a1 x339.toNat) 0))) true) (a0 - (rd (rw_ a1 x339.toNat) 1) + (rd (rw_ a1 x339.toNat) 0))) true)))
            refine DR.s rfl (s_entryStore (i := mi (mst (ment mp338 (rd (rw_ a1 x339.toNat) 1 - (rd (rw_ a1 x339.toNat) 0))) (mi mp338 (rd (rw_ a1 x339.toNat) 1 - (rd (rw_ a1 x339.toNat) 0))) true) (a0 - (rd (rw_ a1 x339.toNat) 1) + (rd (rw_ a1 x339.toNat) 0))) (l := ment (mst (ment mp338 (rd (rw_ a1 x339.toNat) 1 - (rd (rw_ a1 x339.toNat) 0))) (mi mp338 (rd (rw_ a1 x339.toNat) 1 - (rd (rw_ a1 x339.toNat) 0))) true) (a0 - (rd (rw_ a1 x339.toNat) 1) + (rd (rw_ a1 x339.toNat) 0))) rfl rfl rfl (S568.get (k := 1) rfl) (mi_lt _ _) hHG569) (set_le hHG569) ?_
            refine DR.nil 24 [] hst (by kernel_rfl) trivial ?_
            refine AX.region ?_
            obtain ⟨k571, hd572⟩ := chk_some hd562
            refine AO.p rfl (p_addE rfl rfl k571) ?_
            refine AO.p rfl (p_move rfl) ?_
            refine AO.nil ?_
            obtain rfl := some_inj hd572
            have S574 := S570.front 1 rfl
            have S575 := S574.front 1 rfl
            exact ⟨((mst (ment (mst (ment mp336 (rd (rw_ a1 x339.toNat) 0)) (mi mp336 (rd (rw_ a1 x339.toNat) 0)) true) (rd (rw_ a1 x339.toNat) 1)) (mi (mst (ment mp336 (rd (rw_ a1 x339.toNat) 0)) (mi mp336 (rd (rw_ a1 x339.toNat) 0)) true) (rd (rw_ a1 x339.toNat) 1)) true), (mst (ment (mst (ment mp338 (rd (rw_ a1 x339.toNat) 1 - (rd (rw_ a1 x339.toNat) 0))) (mi mp338 (rd (rw_ a1 x339.toNat) 1 - (rd (rw_ a1 x339.toNat) 0))) true) (a0 - (rd (rw_ a1 x339.toNat) 1) + (rd (rw_ a1 x339.toNat) 0))) (mi (mst (ment mp338 (rd (rw_ a1 x339.toNat) 1 - (rd (rw_ a1 x339.toNat) 0))) (mi mp338 (rd (rw_ a1 x339.toNat) 1 - (rd (rw_ a1 x339.toNat) 0))) true) (a0 - (rd (rw_ a1 x339.toNat) 1) + (rd (rw_ a1 x339.toNat) 0))) true), x339 + 1), hk461, (mst (ment (mst (ment mp336 (rd (rw_ a1 x339.toNat) 0)) (mi mp336 (rd (rw_ a1 x339.toNat) 0)) true) (rd (rw_ a1 x339.toNat) 1)) (mi (mst (ment mp336 (rd (rw_ a1 x339.toNat) 0)) (mi mp336 (rd (rw_ a1 x339.toNat) 0)) true) (rd (rw_ a1 x339.toNat) 1)) true), (mst (ment (mst (ment mp338 (rd (rw_ a1 x339.toNat) 1 - (rd (rw_ a1 x339.toNat) 0))) (mi mp338 (rd (rw_ a1 x339.toNat) 1 - (rd (rw_ a1 x339.toNat) 0))) true) (a0 - (rd (rw_ a1 x339.toNat) 1) + (rd (rw_ a1 x339.toNat) 0))) (mi (mst (ment mp338 (rd (rw_ a1 x339.toNat) 1 - (rd (rw_ a1 x339.toNat) 0))) (mi mp338 (rd (rw_ a1 x339.toNat) 1 - (rd (rw_ a1 x339.toNat) 0))) true) (a0 - (rd (rw_ a1 x339.toNat) 1) + (rd (rw_ a1 x339.toNat) 0))) true), (x339 + 1), rfl, S575, Sub.cons' rfl rfl (Sub.cons' rfl rfl (Sub.cons' rfl rfl (Sub.cons' rfl rfl (Sub.cons' rfl rfl (Sub.cons' rfl rfl (Sub.cons' rfl rfl (Sub.nil _)))))))⟩
      · have hd576 := bif_f c466 ho460
        refine AX.exit ?_
        obtain rfl := some_inj hd576
        have S577 := S462.front 1 rfl
        have S578 := S577.front 1 rfl
        exact ⟨mp336, mp338, hk461, S578, Sub.cons' rfl rfl (Sub.cons' rfl rfl (Sub.cons' rfl rfl (Sub.cons' rfl rfl (Sub.nil _))))⟩
  · rintro t' G580 ⟨mp451, mp453, rfl, S579, hsub581⟩
    refine ⟨_, hsub581, ?_⟩
    obtain ⟨r601, hb602, hd603⟩ := bnd_some hd456
    refine AX.cut (fun t' H' => ∃ (b600 : Bool), b600 = r601 ∧ St [] H H' [] ∧ Am.Sub [(4, .bool b600)] t') ?_ ?_
    · skip
      refine AX.region ?_
      refine AO.p rfl (p_move rfl) ?_
      obtain ⟨x604, h605, hd606⟩ := bnd_some hb602
      refine AO.c rfl (o_call (vs := [.slice p_a1 a1.length c_a1]) rfl Try.call159 (W_impl_size_Sint64 fu G580 p_a1 c_a1 T_a1 a1 t_a1 (S579.view v_a1) (S579.tview w_a1) x604 h605)) ?_
      obtain ⟨k608, hd609⟩ := chk_some hd606
      refine AO.p rfl (p_mulE rfl rfl k608) ?_
      refine AO.p rfl (p_move rfl) ?_
      obtain ⟨k610, hd611⟩ := chk_some hd609
      refine AO.p rfl (p_subE rfl rfl k610) ?_
      refine AO.p rfl (p_eql rfl rfl) ?_
      refine AO.p rfl (p_move rfl) ?_
      refine AO.cases (d := 83) rfl (fun c612 => ?_) (fun c612 => ?_)
      · have hd613 := bif_t c612 hd611
        refine AO.gp rfl rfl rfl (p_move rfl) ?_
        refine AO.gc rfl rfl rfl (m_lenMap (l := mp451) Try.underlying142 rfl (S579.get (k := 0) rfl)) ?_
        refine AO.gp rfl rfl rfl (p_move rfl) ?_
        obtain ⟨k614, hd615⟩ := chk_some hd613
        refine AO.gp rfl rfl rfl (p_subE rfl rfl k614) ?_
        refine AO.gp rfl rfl rfl (p_eql rfl rfl) ?_
        refine AO.p rfl (p_pickT rfl rfl) ?_
        refine AO.p rfl (p_move rfl) ?_
        refine AO.cases (d := 90) rfl (fun c616 => ?_) (fun c616 => ?_)
        · have hd617 := bif_t c616 hd615
          refine AO.gp rfl rfl rfl (p_move rfl) ?_
          refine AO.gc rfl rfl rfl (m_lenMap (l := mp453) Try.underlying142 rfl (S579.get (k := 1) rfl)) ?_
          refine AO.gp rfl rfl rfl (p_move rfl) ?_
          obtain ⟨k618, hd619⟩ := chk_some hd617
          refine AO.gp rfl rfl rfl (p_subE rfl rfl k618) ?_
          refine AO.gp rfl rfl rfl (p_eql rfl rfl) ?_
          refine AO.p rfl (p_pickT rfl rfl) ?_
          refine AO.p rfl (p_assign rfl) ?_
          refine AO.nil ?_
          have S620 := S579.keep 0
          exact ⟨(decide (((mp453.length : Nat) : Int) = a0 - 1)), (some_inj hd619), S620, Sub.cons' rfl rfl (Sub.nil _)⟩
        · have hd621 := bif_f c616 hd615
          refine AO.gn rfl rfl rfl ?_
          refine AO.gn rfl rfl rfl ?_
          refine AO.gn rfl rfl rfl ?_
          refine AO.gn rfl rfl rfl ?_
          refine AO.gn rfl rfl rfl ?_
          refine AO.p rfl (p_pickF rfl rfl) ?_
          refine AO.p rfl (p_assign rfl) ?_
          refine AO.nil ?_
          have S622 := S579.keep 0
          exact ⟨false, (some_inj hd621), S622, Sub.cons' rfl rfl (Sub.nil _)⟩
      · have hd623 := bif_f c612 hd611
        refine AO.gn rfl rfl rfl ?_
        refine AO.gn rfl rfl rfl ?_
        refine AO.gn rfl rfl rfl ?_
        refine AO.gn rfl rfl rfl ?_
        refine AO.gn rfl rfl rfl ?_
        refine AO.p rfl (p_pickF rfl rfl) ?_
        refine AO.p rfl (p_move rfl) ?_
        refine AO.gn rfl rfl rfl ?_
        refine AO.gn rfl rfl rfl ?_
        refine AO.gn rfl rfl rfl ?_
        refine AO.gn rfl rfl rfl ?_
        refine AO.gn rfl rfl rfl ?_
        refine AO.p rfl (p_pickF rfl rfl) ?_
        refine AO.p rfl (p_assign rfl) ?_
        refine AO.nil ?_
        have S624 := S579.keep 0
        exact ⟨false, (some_inj hd623), S624, Sub.cons' rfl rfl (Sub.nil _)⟩
    · rintro t' G626 ⟨b600, rfl, S625, hsub627⟩
      refine AX.sub hsub627 ?_
      refine AX.ret ?_
      obtain rfl := some_inj hd603
      exact ⟨.inr rfl, _, res1 rfl (rv_tmp rfl), rfl, (flatB_ok rfl), S625.hold⟩

set_option maxHeartbeats 4000000 in
theorem W_impl_starterCode (fu : Nat) (H : AHeap) (a0 : Int) (f_a1 : FuncId) (fs_a1 cs_a1 : Array Value) (a1 : Unit → Option Bool) (hc_a1 : ∀ args w, (callFunc f_a1 args).run Try.prog w = .ok (.enter f_a1 args) w) (hq_a1 : ∀ H', ExtG H H' → ∀ (b : Bool), a1 () = some b → ACall Try.prog f_a1 (fs_a1.toList ++ [] ++ cs_a1.toList) H' (.bool b) H') (p_a2 : Option Addr) (c_a2 : Nat) (T_a2 : Tb3) (a2 : List (List (List Int))) (t_a2 : trows3 T_a2 = a2) (v_a2 : Vw H p_a2 a2.length c_a2 (tcells3 T_a2)) (w_a2 : TVw3 H T_a2) (r0 : Int) (hd : D_impl_starterCode fu a0 a1 a2 = some r0) : ACall Try.prog 89 [.int .i64 a0, .func (.func f_a1) fs_a1 cs_a1, .slice p_a2 a2.length c_a2] H (.int .i64 r0) H := by
  refine ACall.bodyP (N := 39) [(0, .int .i64 a0), (1, .func (.func f_a1) fs_a1 cs_a1), (2, .slice p_a2 a2.length c_a2)] Try.func89 rfl rfl rfl rfl ?_
  unfold D_impl_starterCode at hd
  have S0 : St [] H H [] := St.nil H
  refine AX.seq ?_
  refine AX.region ?_
  refine AO.p rfl (p_assign rfl) ?_
  refine AO.nil ?_
  refine AX.seq ?_
  refine AX.seq ?_
  refine AX.region ?_
  refine AO.p rfl (p_move rfl) ?_
  obtain ⟨b100, h101, hd102⟩ := bnd_some hd
  refine AO.c rfl (o_call (vs := [.int .i64 a0]) rfl Try.call58 (W_impl_isModulus fu H a0 b100 h101)) ?_
  refine AO.p rfl (p_not rfl) ?_
  refine AO.nil ?_
  refine AX.cond rfl (fun c104 => ?_) (fun c104 => ?_)
  · have hd105 := bif_t c104 hd102
    refine AX.seq ?_
    refine AX.region ?_
    refine AO.p rfl (p_assign rfl) ?_
    refine AO.nil ?_
    refine AX.ret ?_
    obtain rfl := some_inj hd105
    exact ⟨.inr rfl, _, res1 rfl (rv_tmp rfl), rfl, (flatB_ok rfl), S0.hold⟩
  · have hd106 := bif_f c104 hd102
    refine AX.skip ?_
    refine AX.seq ?_
    refine AX.seq ?_
    refine AX.region ?_
    refine AO.p rfl (p_move rfl) ?_
    refine AO.p rfl (p_len_slice rfl Try.underlying25) ?_
    refine AO.p rfl (p_move rfl) ?_
    refine AO.nil ?_
    obtain ⟨r178, hl179, hd180⟩ := bnd_some hd106
    refine AX.cutS (fun t' H' => .inl () = r178 ∧ St [] H H' [] ∧ Am.Sub [(0, .int .i64 a0), (1, .func (.func f_a1) fs_a1 cs_a1), (2, .slice p_a2 a2.length c_a2)] t') ?_ ?_
    · refine AX.block ?_
      refine AX.loopF (fun s' t' H' => ∃ (x154 : Int), x154 = s' ∧ St [] H H' [] ∧ Am.Sub [(0, .int .i64 a0), (1, .func (.func f_a1) fs_a1 cs_a1), (2, .slice p_a2 a2.length c_a2), (14, .slice p_a2 a2.length c_a2), (15, .int .i64 ((a2.length : Nat) : Int)), (16, .int .i64 x154)] t') hl179 ?_ ?_
      · skip
        exact ⟨0, rfl, S0, Sub.cons' rfl rfl (Sub.cons' rfl rfl (Sub.cons' rfl rfl (Sub.cons' rfl rfl (Sub.cons' rfl rfl (Sub.cons' rfl rfl (Sub.nil _))))))⟩
      · rintro n181 _ t' G185 ⟨x154, rfl, S184, hsub186⟩ o187 ho182 hk183
        refine AX.sub hsub186 ?_
        unfold D_impl_starterCode_s0 at ho182
        refine AX.seq ?_
        refine AX.region ?_
        refine AO.p rfl (p_lss rfl rfl) ?_
        refine AO.nil ?_
        refine AX.seq ?_
        refine AX.cond rfl (fun c188 => ?_) (fun c188 => ?_)
        · have hd189 := bif_t c188 ho182
          refine AX.skip ?_
          refine AX.seq ?_
          refine AX.block ?_
          refine AX.seq ?_
          refine AX.region ?_
          obtain ⟨k190, hd191⟩ := chk_some hd189
          obtain ⟨p192, c193, T196, e194, f195, t197⟩ := tget3 t_a2 (lt_len rfl (inR_lt k190))
          refine AO.p rfl (s_indexV (q := off p_a2 + x154.toNat) Try.underlying25 Try.sizeOf43 rfl ((S184.view v_a2).p f195) rfl k190 (o1 _ _)) ?_
          refine AO.c rfl (s_load Try.isAgg43 rfl ((S184.view v_a2).get _ _ f195)) ?_
          refine AO.p rfl (p_assign rfl) ?_
          refine AO.nil ?_
          refine AX.seq ?_
          refine AX.region ?_
          refine AO.p rfl (p_move rfl) ?_
          refine AO.p rfl (p_move rfl) ?_
          obtain ⟨b198, h199, hd200⟩ := bnd_some hd191
          refine AO.c rfl (o_call (vs := [.int .i64 a0, .slice p192 ((rw3 a2 x154.toNat).length) c193]) rfl Try.call131 (W_impl_arePairs fu G185 a0 p192 c193 T196 (rw3 a2 x154.toNat) t197 (S184.view (w_a2.at1 e194 t197 rfl)) (S184.tview (w_a2.at2 e194)) b198 h199)) ?_
          refine AO.p rfl (p_not rfl) ?_
          refine AO.nil ?_
          refine AX.cond rfl (fun c202 => ?_) (fun c202 => ?_)
          · have hd203 := bif_t c202 hd200
            refine AX.seq ?_
            refine AX.region ?_
            refine AO.p rfl (p_assign rfl) ?_
            refine AO.nil ?_
            refine AX.ret ?_
            obtain rfl := some_inj hd203
            have z204 : _ = r178 := hk183
            subst z204
            obtain rfl := some_inj hd180
            exact ⟨.inr rfl, _, res1 rfl (rv_tmp rfl), rfl, (flatB_ok rfl), S184.hold⟩
          · have hd205 := bif_f c202 hd200
            refine AX.skip ?_
            refine AX.region ?_
            obtain ⟨k206, hd207⟩ := chk_some hd205
            refine AO.p rfl (p_addE rfl rfl k206) ?_
            refine AO.p rfl (p_move rfl) ?_
            refine AO.nil ?_
            obtain rfl := some_inj hd207
            exact ⟨x154 + 1, hk183, (x154 + 1), rfl, S184, Sub.cons' rfl rfl (Sub.cons' rfl rfl (Sub.cons' rfl rfl (Sub.cons' rfl rfl (Sub.cons' rfl rfl (Sub.cons' rfl rfl (Sub.nil _))))))⟩
        · have hd209 := bif_f c188 ho182
          refine AX.exit ?_
          obtain rfl := some_inj hd209
          exact ⟨hk183, S184, Sub.cons' rfl rfl (Sub.cons' rfl rfl (Sub.cons' rfl rfl (Sub.nil _)))⟩
    · rintro t' G211 ⟨rfl, S210, hsub212⟩
      refine ⟨_, hsub212, ?_⟩
      refine AX.seq ?_
      refine AX.seq ?_
      refine AX.region ?_
      refine AO.p rfl (p_move rfl) ?_
      obtain ⟨b213, h214, hd215⟩ := bnd_some hd180
      refine AO.c rfl (o_callV (vs := []) rfl rfl hc_a1 (hq_a1 G211 S210.ext  b213 h214)) ?_
      refine AO.p rfl (p_not rfl) ?_
      refine AO.nil ?_
      refine AX.cond rfl (fun c216 => ?_) (fun c216 => ?_)
      · have hd217 := bif_t c216 hd215
        refine AX.seq ?_
        refine AX.region ?_
        refine AO.p rfl (p_assign rfl) ?_
        refine AO.nil ?_
        refine AX.ret ?_
        obtain rfl := some_inj hd217
        exact ⟨.inr rfl, _, res1 rfl (rv_tmp rfl), rfl, (flatB_ok rfl), S210.hold⟩
      · have hd218 := bif_f c216 hd215
        refine AX.skip ?_
        refine AX.seq ?_
        refine AX.seq ?_
        refine AX.region ?_
        refine AO.p rfl (p_move rfl) ?_
        refine AO.p rfl (p_len_slice rfl Try.underlying25) ?_
        refine AO.p rfl (p_move rfl) ?_
        refine AO.nil ?_
        obtain ⟨r290, hl291, hd292⟩ := bnd_some hd218
        refine AX.cutS (fun t' H' => .inl () = r290 ∧ St [] H H' [] ∧ Am.Sub [] t') ?_ ?_
        · refine AX.block ?_
          refine AX.loopF (fun s' t' H' => ∃ (x266 : Int), x266 = s' ∧ St [] H H' [] ∧ Am.Sub [(0, .int .i64 a0), (28, .slice p_a2 a2.length c_a2), (29, .int .i64 ((a2.length : Nat) : Int)), (30, .int .i64 x266)] t') hl291 ?_ ?_
          · skip
            exact ⟨0, rfl, S210, Sub.cons' rfl rfl (Sub.cons' rfl rfl (Sub.cons' rfl rfl (Sub.cons' rfl rfl (Sub.nil _))))⟩
          · rintro n293 _ t' G297 ⟨x266, rfl, S296, hsub298⟩ o299 ho294 hk295
            refine AX.sub hsub298 ?_
            unfold D_impl_starterCode_s1 at ho294
            refine AX.seq ?_
            refine AX.region ?_
            refine AO.p rfl (p_lss rfl rfl) ?_
            refine AO.nil ?_
            refine AX.seq ?_
            refine AX.cond rfl (fun c300 => ?_) (fun c300 => ?_)
            · have hd301 := bif_t c300 ho294
              refine AX.skip ?_
              refine AX.seq ?_
              refine AX.block ?_
              refine AX.seq ?_
              refine AX.region ?_
              obtain ⟨k302, hd303⟩ := chk_some hd301
              obtain ⟨p304, c305, T308, e306, f307, t309⟩ := tget3 t_a2 (lt_len rfl (inR_lt k302))
              refine AO.p rfl (s_indexV (q := off p_a2 + x266.toNat) Try.underlying25 Try.sizeOf43 rfl ((S296.view v_a2).p f307) rfl k302 (o1 _ _)) ?_
              refine AO.c rfl (s_load Try.isAgg43 rfl ((S296.view v_a2).get _ _ f307)) ?_
              refine AO.p rfl (p_assign rfl) ?_
              refine AO.nil ?_
              refine AX.seq ?_
              refine AX.region ?_
              refine AO.p rfl (p_move rfl) ?_
              refine AO.p rfl (p_move rfl) ?_
              obtain ⟨b310, h311, hd312⟩ := bnd_some hd303
              refine AO.c rfl (o_call (vs := [.int .i64 a0, .slice p304 ((rw3 a2 x266.toNat).length) c305]) rfl Try.call132 (W_impl_isStarter fu G297 a0 p304 c305 T308 (rw3 a2 x266.toNat) t309 (S296.view (w_a2.at1 e306 t309 rfl)) (S296.tview (w_a2.at2 e306)) b310 h311)) ?_
              refine AO.p rfl (p_not rfl) ?_
              refine AO.nil ?_
              refine AX.cond rfl (fun c314 => ?_) (fun c314 => ?_)
              · have hd315 := bif_t c314 hd312
                refine AX.seq ?_
                refine AX.region ?_
                refine AO.p rfl (p_assign rfl) ?_
                refine AO.nil ?_
                refine AX.ret ?_
                obtain rfl := some_inj hd315
                have z316 : _ = r290 := hk295
                subst z316
                obtain rfl := some_inj hd292
                exact ⟨.inr rfl, _, res1 rfl (rv_tmp rfl), rfl, (flatB_ok rfl), S296.hold⟩
              · have hd317 := bif_f c314 hd312
                refine AX.skip ?_
                refine AX.region ?_
                obtain ⟨k318, hd319⟩ := chk_some hd317
                refine AO.p rfl (p_addE rfl rfl k318) ?_
                refine AO.p rfl (p_move rfl) ?_
                refine AO.nil ?_
                obtain rfl := some_inj hd319
                exact ⟨x266 + 1, hk295, (x266 + 1), rfl, S296, Sub.cons' rfl rfl (Sub.cons' rfl rfl (Sub.cons' rfl rfl (Sub.cons' rfl rfl (Sub.nil _))))⟩
            · have hd321 := bif_f c300 ho294
              refine AX.exit ?_
              obtain rfl := some_inj hd321
              exact ⟨hk295, S296, Sub.nil _⟩
        · rintro t' G323 ⟨rfl, S322, hsub324⟩
          refine ⟨_, hsub324, ?_⟩
          refine AX.seq ?_
          refine AX.region ?_
          refine AO.p rfl (p_assign rfl) ?_
          refine AO.nil ?_
          refine AX.ret ?_
          obtain rfl := some_inj hd292
          exact ⟨.inr rfl, _, res1 rfl (rv_tmp rfl), rfl, (flatB_ok rfl), S322.hold⟩

set_option maxHeartbeats 4000000 in
theorem W_spec_l03Lists (fu : Nat) (H : AHeap) (a0 : Int) (p_a1 : Option Addr) (c_a1 : Nat) (T_a1 : Tb) (a1 : List (List Int)) (t_a1 : trows T_a1 = a1) (v_a1 : Vw H p_a1 a1.length c_a1 (tcells T_a1)) (w_a1 : TVw H T_a1) (r0 : Bool) (hd : D_spec_l03Lists fu a0 a1 = some r0) : ACall Try.prog 128 [.int .i64 a0, .slice p_a1 a1.length c_a1] H (.bool r0) H := by
  refine ACall.bodyP (N := 57) [(0, .int .i64 a0), (1, .slice p_a1 a1.length c_a1)] Try.func128 rfl rfl rfl rfl ?_
  unfold D_spec_l03Lists at hd
  have S0 : St [] H H [] := St.nil H
  refine AX.seq ?_
  refine AX.region ?_
  refine AO.p rfl (p_assign rfl) ?_
  refine AO.nil ?_
  refine AX.seq ?_
  refine AX.seq ?_
  refine AX.region ?_
  refine AO.p rfl (p_assign rfl) ?_
  refine AO.nil ?_
  obtain ⟨r510, hl511, hd512⟩ := bnd_some hd
  refine AX.cutS (fun t' H' => .inl () = r510 ∧ St [] H H' [] ∧ Am.Sub [] t') ?_ ?_
  · refine AX.block ?_
    refine AX.loopF (fun s' t' H' => ∃ (x373 : Int), x373 = s' ∧ St [] H H' [] ∧ Am.Sub [(0, .int .i64 a0), (1, .slice p_a1 a1.length c_a1), (5, .int .i64 x373)] t') hl511 ?_ ?_
    · skip
      exact ⟨0, rfl, S0, Sub.cons' rfl rfl (Sub.cons' rfl rfl (Sub.cons' rfl rfl (Sub.nil _)))⟩
    · rintro n513 _ t' G517 ⟨x373, rfl, S516, hsub518⟩ o519 ho514 hk515
      refine AX.sub hsub518 ?_
      unfold D_spec_l03Lists_s0 at ho514
      refine AX.seq ?_
      refine AX.seq ?_
      refine AX.region ?_
      refine AO.p rfl (p_move rfl) ?_
      refine AO.p rfl (p_move rfl) ?_
      refine AO.p rfl (p_len_slice rfl Try.underlying43) ?_
      refine AO.p rfl (p_lss rfl rfl) ?_
      refine AO.nil ?_
      refine AX.cond rfl (fun c520 => ?_) (fun c520 => ?_)
      · have hd521 := bif_t c520 ho514
        refine AX.skip ?_
        refine AX.seq ?_
        refine AX.block ?_
        obtain ⟨r582, hb583, hd584⟩ := bnd_some hd521
        refine AX.cut (fun t' H' => ∃ (b581 : Bool), b581 = r582 ∧ St [] H H' [] ∧ Am.Sub [(0, .int .i64 a0), (1, .slice p_a1 a1.length c_a1), (5, .int .i64 x373), (56, .bool b581)] t') ?_ ?_
        · skip
          refine DR.startS [false, false, false, false, false, false, false, false, false, false, false, false, false, false, false, true, false, false, false, false, false, false, false, false, false, false, false, true, false, false, false, false, false, false, false, false, false, false, false, false, false, false, false, false, false] mix (by kernel_rfl) (fun hst => ?_)
          refine DR.p rfl rfl (p_move rfl) ?_
          refine DR.p rfl rfl (p_move rfl) ?_
          obtain ⟨k585, hd586⟩ := chk_some hb583
          obtain ⟨p587, c588, e589, f590⟩ := tget t_a1 (lt_len rfl (inR_lt k585))
          refine DR.p rfl rfl (s_indexV (q := off p_a1 + x373.toNat) Try.underlying43 Try.sizeOf58 rfl ((S516.view v_a1).p f590) rfl k585 (o1 _ _)) ?_
          refine DR.r rfl rfl (r_load rfl Try.isAgg58) (one_read ((S516.view v_a1).get _ _ f590) (TVw.at (S516.tview w_a1) e589).inn.bel) ?_
          refine DR.p rfl rfl (p_len_slice rfl Try.underlying58) ?_
          refine DR.p rfl rfl (p_neq rfl rfl) ?_
          refine DR.pb rfl rfl (p_move rfl) (fun c591 => ?_) (fun c591 => ?_)
          · have hd592 := bif_t c591 hd586
            refine DR.gn rfl rfl rfl rfl ?_
            refine DR.gn rfl rfl rfl rfl ?_
            refine DR.gn rfl rfl rfl rfl ?_
            refine DR.gn rfl rfl rfl rfl ?_
            refine DR.gn rfl rfl rfl rfl ?_
            refine DR.gn rfl rfl rfl rfl ?_
            refine DR.gn rfl rfl rfl rfl ?_
            refine DR.gn rfl rfl rfl rfl ?_
            refine DR.gn rfl rfl rfl rfl ?_
            refine DR.gn rfl rfl rfl rfl ?_
            refine DR.p rfl rfl (p_pickT rfl rfl) ?_
            refine DR.p rfl rfl (p_move rfl) ?_
            refine DR.gn rfl rfl rfl rfl ?_
            refine DR.gn rfl rfl rfl rfl ?_
            refine DR.gn rfl rfl rfl rfl ?_
            refine DR.gn rfl rfl rfl rfl ?_
            refine DR.gn rfl rfl rfl rfl ?_
            refine DR.gn rfl rfl rfl rfl ?_
            refine DR.gn rfl rfl rfl rfl ?_
            refine DR.gn rfl rfl rfl rfl ?_
            refine DR.gn rfl rfl rfl rfl ?_
            refine DR.gn rfl rfl rfl rfl ?_
            refine DR.p rfl rfl (p_pickT rfl rfl) ?_
            refine DR.p rfl rfl (p_move rfl) ?_
            refine DR.gn rfl rfl rfl rfl ?_
            refine DR.gn rfl rfl rfl rfl ?_
            refine DR.gn rfl rfl rfl rfl ?_
            refine DR.gn rfl rfl rfl rfl ?_
            refine DR.gn rfl rfl rfl rfl ?_
            refine DR.gn rfl rfl rfl rfl ?_
            refine DR.gn rfl rfl rfl rfl ?_
            refine DR.gn rfl rfl rfl rfl ?_
            refine DR.gn rfl rfl rfl rfl ?_
            refine DR.gn rfl rfl rfl rfl ?_
            refine DR.gn rfl rfl rfl rfl ?_
            refine DR.gn rfl rfl rfl rfl ?_
            refine DR.gn rfl rfl rfl rfl ?_
            refine DR.p rfl rfl (p_pickT rfl rfl) ?_
            refine DR.nil 45 [] hst (by kernel_rfl) trivial ?_
            exact ⟨true, (some_inj hd592), S516, Sub.cons' rfl rfl (Sub.cons' rfl rfl (Sub.cons' rfl rfl (Sub.cons' rfl rfl (Sub.nil _))))⟩
          · have hd593 := bif_f c591 hd586
            refine DR.gp rfl rfl rfl rfl (p_move rfl) ?_
            refine DR.gp rfl rfl rfl rfl (p_move rfl) ?_
            obtain ⟨k594, hd595⟩ := chk_some hd593
            obtain ⟨p596, c597, e598, f599⟩ := tget t_a1 (lt_len rfl (inR_lt k594))
            refine DR.gp rfl rfl rfl rfl (s_indexV (q := off p_a1 + x373.toNat) Try.underlying43 Try.sizeOf58 rfl ((S516.view v_a1).p f599) rfl k594 (o1 _ _)) ?_
            refine DR.gr rfl rfl rfl rfl (r_load rfl Try.isAgg58) (one_read ((S516.view v_a1).get _ _ f599) (TVw.at (S516.tview w_a1) e598).inn.bel) ?_
            obtain ⟨k600, hd601⟩ := chk_some hd595
            refine DR.gp rfl rfl rfl rfl (s_indexV (q := off p596 + 0) Try.underlying58 Try.sizeOf2 rfl ((TVw.at (S516.tview w_a1) e598).p (ints_get (lt_len rfl (inR_lt k600)))) rfl k600 (o1 _ _)) ?_
            refine DR.gr rfl rfl rfl rfl (r_load rfl Try.isAgg2) (one_read ((TVw.at (S516.tview w_a1) e598).get _ _ (ints_get (lt_len rfl (inR_lt k600)))) (.of_flat0 rfl)) ?_
            refine DR.gp rfl rfl rfl rfl (p_move rfl) ?_
            obtain ⟨k602, hd603⟩ := chk_some hd601
            refine DR.gp rfl rfl rfl rfl (p_subE rfl rfl k602) ?_
            obtain ⟨b604, h605, hd606⟩ := bnd_some hd603
            refine DR.gw rfl rfl rfl rfl (o_call (vs := [.int .i64 (rd (rw_ a1 x373.toNat) 0), .int .i64 1, .int .i64 (a0 - 1)]) rfl Try.call50 (W_spec_l01In fu G517 (rd (rw_ a1 x373.toNat) 0) 1 (a0 - 1) b604 h605)) (Nat.le_refl _) ?_
            refine DR.gp rfl rfl rfl rfl (p_not rfl) ?_
            refine DR.p rfl rfl (p_pickF rfl rfl) ?_
            refine DR.pb rfl rfl (p_move rfl) (fun c608 => ?_) (fun c608 => ?_)
            · have hd609 := bif_t c608 hd606
              refine DR.gn rfl rfl rfl rfl ?_
              refine DR.gn rfl rfl rfl rfl ?_
              refine DR.gn rfl rfl rfl rfl ?_
              refine DR.gn rfl rfl rfl rfl ?_
              refine DR.gn rfl rfl rfl rfl ?_
              refine DR.gn rfl rfl rfl rfl ?_
              refine DR.gn rfl rfl rfl rfl ?_
              refine DR.gn rfl rfl rfl rfl ?_
              refine DR.gn rfl rfl rfl rfl ?_
              refine DR.gn rfl rfl rfl rfl ?_
              refine DR.p rfl rfl (p_pickT rfl rfl) ?_
              refine DR.p rfl rfl (p_move rfl) ?_
              refine DR.gn rfl rfl rfl rfl ?_
              refine DR.gn rfl rfl rfl rfl ?_
              refine DR.gn rfl rfl rfl rfl ?_
              refine DR.gn rfl rfl rfl rfl ?_
              refine DR.gn rfl rfl rfl rfl ?_
              refine DR.gn rfl rfl rfl rfl ?_
              refine DR.gn rfl rfl rfl rfl ?_
              refine DR.gn rfl rfl rfl rfl ?_
              refine DR.gn rfl rfl rfl rfl ?_
              refine DR.gn rfl rfl rfl rfl ?_
              refine DR.gn rfl rfl rfl rfl ?_
              refine DR.gn rfl rfl rfl rfl ?_
              refine DR.gn rfl rfl rfl rfl ?_
              refine DR.p rfl rfl (p_pickT rfl rfl) ?_
              refine DR.nil 45 [] hst (by kernel_rfl) trivial ?_
              exact ⟨true, (some_inj hd609), S516, Sub.cons' rfl rfl (Sub.cons' rfl rfl (Sub.cons' rfl rfl (Sub.cons' rfl rfl (Sub.nil _))))⟩
            · have hd610 := bif_f c608 hd606
              refine DR.gp rfl rfl rfl rfl (p_move rfl) ?_
              refine DR.gp rfl rfl rfl rfl (p_move rfl) ?_
              obtain ⟨k611, hd612⟩ := chk_some hd610
              obtain ⟨p613, c614, e615, f616⟩ := tget t_a1 (lt_len rfl (inR_lt k611))
              refine DR.gp rfl rfl rfl rfl (s_indexV (q := off p_a1 + x373.toNat) Try.underlying43 Try.sizeOf58 rfl ((S516.view v_a1).p f616) rfl k611 (o1 _ _)) ?_
              refine DR.gr rfl rfl rfl rfl (r_load rfl Try.isAgg58) (one_read ((S516.view v_a1).get _ _ f616) (TVw.at (S516.tview w_a1) e615).inn.bel) ?_
              obtain ⟨k617, hd618⟩ := chk_some hd612
              refine DR.gp rfl rfl rfl rfl (s_indexV (q := off p613 + 1) Try.underlying58 Try.sizeOf2 rfl ((TVw.at (S516.tview w_a1) e615).p (ints_get (lt_len rfl (inR_lt k617)))) rfl k617 (o1 _ _)) ?_
              refine DR.gr rfl rfl rfl rfl (r_load rfl Try.isAgg2) (one_read ((TVw.at (S516.tview w_a1) e615).get _ _ (ints_get (lt_len rfl (inR_lt k617)))) (.of_flat0 rfl)) ?_
              refine DR.gp rfl rfl rfl rfl (p_move rfl) ?_
              obtain ⟨k619, hd620⟩ := chk_some hd618
              refine DR.gp rfl rfl rfl rfl (p_subE rfl rfl k619) ?_
              obtain ⟨b621, h622, hd623⟩ := bnd_some hd620
              refine DR.gw rfl rfl rfl rfl (o_call (vs := [.int .i64 (rd (rw_ a1 x373.toNat) 1), .int .i64 1, .int .i64 (a0 - 1)]) rfl Try.call50 (W_spec_l01In fu G517 (rd (rw_ a1 x373.toNat) 1) 1 (a0 - 1) b621 h622)) (Nat.le_refl _) ?_
              refine DR.gp rfl rfl rfl rfl (p_not rfl) ?_
              refine DR.p rfl rfl (p_pickF rfl rfl) ?_
              refine DR.pb rfl rfl (p_move rfl) (fun c625 => ?_) (fun c625 => ?_)
              · have hd626 := bif_t c625 hd623
                refine DR.gn rfl rfl rfl rfl ?_
                refine DR.gn rfl rfl rfl rfl ?_
                refine DR.gn rfl rfl rfl rfl ?_
                refine DR.gn rfl rfl rfl rfl ?_
                refine DR.gn rfl rfl rfl rfl ?_
                refine DR.gn rfl rfl rfl rfl ?_
                refine DR.gn rfl rfl rfl rfl ?_
                refine DR.gn rfl rfl rfl rfl ?_
                refine DR.gn rfl rfl rfl rfl ?_
                refine DR.gn rfl rfl rfl rfl ?_
                refine DR.gn rfl rfl rfl rfl ?_
                refine DR.gn rfl rfl rfl rfl ?_
                refine DR.gn rfl rfl rfl rfl ?_
                refine DR.p rfl rfl (p_pickT rfl rfl) ?_
                refine DR.nil 45 [] hst (by kernel_rfl) trivial ?_
                exact ⟨true, (some_inj hd626), S516, Sub.cons' rfl rfl (Sub.cons' rfl rfl (Sub.cons' rfl rfl (Sub.cons' rfl rfl (Sub.nil _))))⟩
              · have hd627 := bif_f c625 hd623
                refine DR.gp rfl rfl rfl rfl (p_move rfl) ?_
                refine DR.gp rfl rfl rfl rfl (p_move rfl) ?_
                obtain ⟨k628, hd629⟩ := chk_some hd627
                obtain ⟨p630, c631, e632, f633⟩ := tget t_a1 (lt_len rfl (inR_lt k628))
                refine DR.gp rfl rfl rfl rfl (s_indexV (q := off p_a1 + x373.toNat) Try.underlying43 Try.sizeOf58 rfl ((S516.view v_a1).p f633) rfl k628 (o1 _ _)) ?_
                refine DR.gr rfl rfl rfl rfl (r_load rfl Try.isAgg58) (one_read ((S516.view v_a1).get _ _ f633) (TVw.at (S516.tview w_a1) e632).inn.bel) ?_
                obtain ⟨k634, hd635⟩ := chk_some hd629
                refine DR.gp rfl rfl rfl rfl (s_indexV (q := off p630 + 0) Try.underlying58 Try.sizeOf2 rfl ((TVw.at (S516.tview w_a1) e632).p (ints_get (lt_len rfl (inR_lt k634)))) rfl k634 (o1 _ _)) ?_
                refine DR.gr rfl rfl rfl rfl (r_load rfl Try.isAgg2) (one_read ((TVw.at (S516.tview w_a1) e632).get _ _ (ints_get (lt_len rfl (inR_lt k634)))) (.of_flat0 rfl)) ?_
                refine DR.gp rfl rfl rfl rfl (p_move rfl) ?_
                refine DR.gp rfl rfl rfl rfl (p_move rfl) ?_
                obtain ⟨k636, hd637⟩ := chk_some hd635
                obtain ⟨p638, c639, e640, f641⟩ := tget t_a1 (lt_len rfl (inR_lt k636))
                refine DR.gp rfl rfl rfl rfl (s_indexV (q := off p_a1 + x373.toNat) Try.underlying43 Try.sizeOf58 rfl ((S516.view v_a1).p f641) rfl k636 (o1 _ _)) ?_
                refine DR.gr rfl rfl rfl rfl (r_load rfl Try.isAgg58) (one_read ((S516.view v_a1).get _ _ f641) (TVw.at (S516.tview w_a1) e640).inn.bel) ?_
                obtain ⟨k642, hd643⟩ := chk_some hd637
                refine DR.gp rfl rfl rfl rfl (s_indexV (q := off p638 + 1) Try.underlying58 Try.sizeOf2 rfl ((TVw.at (S516.tview w_a1) e640).p (ints_get (lt_len rfl (inR_lt k642)))) rfl k642 (o1 _ _)) ?_
                refine DR.gr rfl rfl rfl rfl (r_load rfl Try.isAgg2) (one_read ((TVw.at (S516.tview w_a1) e640).get _ _ (ints_get (lt_len rfl (inR_lt k642)))) (.of_flat0 rfl)) ?_
                refine DR.gp rfl rfl rfl rfl (p_eql rfl rfl) ?_
                refine DR.p rfl rfl (p_pickF rfl rfl) ?_
                refine DR.nil 45 [] hst (by kernel_rfl) trivial ?_
                exact ⟨(decide (rd (rw_ a1 x373.toNat) 0 = rd (rw_ a1 x373.toNat) 1)), (some_inj hd643), S516, Sub.cons' rfl rfl (Sub.cons' rfl rfl (Sub.cons' rfl rfl (Sub.cons' rfl rfl (Sub.nil _))))⟩
        · rintro t' G645 ⟨b581, rfl, S644, hsub646⟩
          refine AX.sub hsub646 ?_
          refine AX.cond rfl (fun c647 => ?_) (fun c647 => ?_)
          · have hd648 := bif_t c647 hd584
            refine AX.seq ?_
            refine AX.region ?_
            refine AO.p rfl (p_assign rfl) ?_
            refine AO.nil ?_
            refine AX.ret ?_
            obtain rfl := some_inj hd648
            have z649 : _ = r510 := hk515
            subst z649
            obtain rfl := some_inj hd512
            exact ⟨.inr rfl, _, res1 rfl (rv_tmp rfl), rfl, (flatB_ok rfl), S644.hold⟩
          · have hd650 := bif_f c647 hd584
            refine AX.skip ?_
            refine AX.region ?_
            refine AO.p rfl (p_move rfl) ?_
            obtain ⟨k651, hd652⟩ := chk_some hd650
            refine AO.p rfl (p_addE rfl rfl k651) ?_
            refine AO.p rfl (p_assign rfl) ?_
            refine AO.nil ?_
            obtain rfl := some_inj hd652
            exact ⟨x373 + 1, hk515, (x373 + 1), rfl, S644, Sub.cons' rfl rfl (Sub.cons' rfl rfl (Sub.cons' rfl rfl (Sub.nil _)))⟩
      · have hd654 := bif_f c520 ho514
        refine AX.exit ?_
        obtain rfl := some_inj hd654
        exact ⟨hk515, S516, Sub.nil _⟩
  · rintro t' G656 ⟨rfl, S655, hsub657⟩
    refine ⟨_, hsub657, ?_⟩
    refine AX.seq ?_
    refine AX.region ?_
    refine AO.p rfl (p_assign rfl) ?_
    refine AO.nil ?_
    refine AX.ret ?_
    obtain rfl := some_inj hd512
    exact ⟨.inr rfl, _, res1 rfl (rv_tmp rfl), rfl, (flatB_ok rfl), S655.hold⟩

set_option maxHeartbeats 4000000 in
theorem W_spec_l03Is (fu : Nat) (H : AHeap) (a0 : Int) (p_a1 : Option Addr) (c_a1 : Nat) (T_a1 : Tb) (a1 : List (List Int)) (t_a1 : trows T_a1 = a1) (v_a1 : Vw H p_a1 a1.length c_a1 (tcells T_a1)) (w_a1 : TVw H T_a1) (r0 : Bool) (hd : D_spec_l03Is fu a0 a1 = some r0) : ACall Try.prog 129 [.int .i64 a0, .slice p_a1 a1.length c_a1] H (.bool r0) H := by
  refine ACall.bodyP (N := 94) [(0, .int .i64 a0), (1, .slice p_a1 a1.length c_a1)] Try.func129 rfl rfl rfl rfl ?_
  unfold D_spec_l03Is at hd
  have S0 : St [] H H [] := St.nil H
  refine AX.seq ?_
  refine AX.region ?_
  refine AO.p rfl (p_assign rfl) ?_
  refine AO.nil ?_
  refine AX.seq ?_
  refine AX.seq ?_
  refine AX.region ?_
  refine AO.p rfl (p_move rfl) ?_
  refine AO.p rfl (p_len_slice rfl Try.underlying43) ?_
  refine AO.p rfl (p_move rfl) ?_
  obtain ⟨k100, hd101⟩ := chk_some hd
  refine AO.p rfl (p_subE rfl rfl k100) ?_
  obtain ⟨k102, hd103⟩ := chk_some hd101
  refine AO.p rfl (p_quoE rfl rfl k102) ?_
  refine AO.p rfl (p_neq rfl rfl) ?_
  refine AO.nil ?_
  refine AX.cond rfl (fun c104 => ?_) (fun c104 => ?_)
  · have hd105 := bif_t c104 hd103
    refine AX.seq ?_
    refine AX.region ?_
    refine AO.p rfl (p_assign rfl) ?_
    refine AO.nil ?_
    refine AX.ret ?_
    obtain rfl := some_inj hd105
    exact ⟨.inr rfl, _, res1 rfl (rv_tmp rfl), rfl, (flatB_ok rfl), S0.hold⟩
  · have hd106 := bif_f c104 hd103
    refine AX.skip ?_
    refine AX.seq ?_
    refine DR.startS [false, false, false, false, false, false] mix (by kernel_rfl) (fun hst => ?_)
    refine DR.p rfl rfl (p_move rfl) ?_
    obtain ⟨k107, hd108⟩ := chk_some hd106
    obtain ⟨G109, i110, hii110, hHG109, S111⟩ := S0.new (AObj.row false (bls (List.replicate a0.toNat false)))
    refine DR.a rfl rfl hii110 hHG109 (a_make1 (v := .bool false) (by_ := 1) Try.underlying111 Try.typeInfo4 Try.sizeOf4 Try.zeroValue4 rfl rfl rfl rfl rfl rfl k107 bls_rep) ?_
    refine DR.p rfl rfl (p_move rfl) ?_
    obtain ⟨k113, hd114⟩ := chk_some hd108
    obtain ⟨G115, i116, hii116, hHG115, S117⟩ := S111.new (AObj.row false (bls (List.replicate a0.toNat false)))
    refine DR.a rfl rfl hii116 hHG115 (a_make1 (v := .bool false) (by_ := 1) Try.underlying111 Try.typeInfo4 Try.sizeOf4 Try.zeroValue4 rfl rfl rfl rfl rfl rfl k113 bls_rep) ?_
    refine DR.p rfl rfl (p_assign rfl) ?_
    refine DR.p rfl rfl (p_assign rfl) ?_
    refine DR.nil 6 [] hst (by kernel_rfl) trivial ?_
    refine AX.seq ?_
    refine AX.seq ?_
    refine AX.region ?_
    refine AO.p rfl (p_assign rfl) ?_
    refine AO.nil ?_
    obtain ⟨r617, hl618, hd619⟩ := bnd_some hd114
    refine AX.cutS (fun t' H' => .inl () = r617 ∧ St [] H H' [] ∧ Am.Sub [] t') ?_ ?_
    · refine AX.block ?_
      refine AX.loopF (fun s' t' H' => ∃ (bs451 : List Bool) (bs453 : List Bool) (x454 : Int), (bs451, bs453, x454) = s' ∧ St [] H H' [[(i110, AObj.row false (bls bs451))], [(i116, AObj.row false (bls bs453))]] ∧ bs451.length = a0.toNat ∧ bs453.length = a0.toNat ∧ Am.Sub [(0, .int .i64 a0), (1, .slice p_a1 a1.length c_a1), (5, .slice (some (Addr.mk i110 0 none)) a0.toNat a0.toNat), (6, .slice (some (Addr.mk i116 0 none)) a0.toNat a0.toNat), (7, .int .i64 x454)] t') hl618 ?_ ?_
      · skip
        have S620 := S117.front 0 rfl
        have S621 := S620.front 1 rfl
        exact ⟨(List.replicate a0.toNat false), (List.replicate a0.toNat false), 0, rfl, S621, len_rep, len_rep, Sub.cons' rfl rfl (Sub.cons' rfl rfl (Sub.cons' rfl rfl (Sub.cons' rfl rfl (Sub.cons' rfl rfl (Sub.nil _)))))⟩
      · rintro n622 _ t' G626 ⟨bs451, bs453, x454, rfl, S625, lbs451, lbs453, hsub627⟩ o628 ho623 hk624
        refine AX.sub hsub627 ?_
        unfold D_spec_l03Is_s0 at ho623
        refine AX.seq ?_
        refine AX.seq ?_
        refine AX.region ?_
        refine AO.p rfl (p_move rfl) ?_
        refine AO.p rfl (p_move rfl) ?_
        refine AO.p rfl (p_len_slice rfl Try.underlying43) ?_
        refine AO.p rfl (p_lss rfl rfl) ?_
        refine AO.nil ?_
        refine AX.cond rfl (fun c629 => ?_) (fun c629 => ?_)
        · have hd630 := bif_t c629 ho623
          refine AX.skip ?_
          refine AX.seq ?_
          refine AX.block ?_
          refine AX.seq ?_
          refine DR.startS [false, false, false, false, false, false, false, false, false, false, false, false, false, false] mix (by kernel_rfl) (fun hst => ?_)
          refine DR.p rfl rfl (p_move rfl) ?_
          refine DR.p rfl rfl (p_move rfl) ?_
          obtain ⟨k631, hd632⟩ := chk_some hd630
          obtain ⟨p633, c634, e635, f636⟩ := tget t_a1 (lt_len rfl (inR_lt k631))
          refine DR.p rfl rfl (s_indexV (q := off p_a1 + x454.toNat) Try.underlying43 Try.sizeOf58 rfl ((S625.view v_a1).p f636) rfl k631 (o1 _ _)) ?_
          refine DR.r rfl rfl (r_load rfl Try.isAgg58) (one_read ((S625.view v_a1).get _ _ f636) (TVw.at (S625.tview w_a1) e635).inn.bel) ?_
          obtain ⟨k637, hd638⟩ := chk_some hd632
          refine DR.p rfl rfl (s_indexV (q := off p633 + 0) Try.underlying58 Try.sizeOf2 rfl ((TVw.at (S625.tview w_a1) e635).p (ints_get (lt_len rfl (inR_lt k637)))) rfl k637 (o1 _ _)) ?_
          refine DR.r rfl rfl (r_load rfl Try.isAgg2) (one_read ((TVw.at (S625.tview w_a1) e635).get _ _ (ints_get (lt_len rfl (inR_lt k637)))) (.of_flat0 rfl)) ?_
          refine DR.p rfl rfl (p_move rfl) ?_
          refine DR.p rfl rfl (p_move rfl) ?_
          obtain ⟨k639, hd640⟩ := chk_some hd638
          obtain ⟨p641, c642, e643, f644⟩ := tget t_a1 (lt_len rfl (inR_lt k639))
          refine DR.p rfl rfl (s_indexV (q := off p_a1 + x454.toNat) Try.underlying43 Try.sizeOf58 rfl ((S625.view v_a1).p f644) rfl k639 (o1 _ _)) ?_
          refine DR.r rfl rfl (r_load rfl Try.isAgg58) (one_read ((S625.view v_a1).get _ _ f644) (TVw.at (S625.tview w_a1) e643).inn.bel) ?_
          obtain ⟨k645, hd646⟩ := chk_some hd640
          refine DR.p rfl rfl (s_indexV (q := off p641 + 1) Try.underlying58 Try.sizeOf2 rfl ((TVw.at (S625.tview w_a1) e643).p (ints_get (lt_len rfl (inR_lt k645)))) rfl k645 (o1 _ _)) ?_
          refine DR.r rfl rfl (r_load rfl Try.isAgg2) (one_read ((TVw.at (S625.tview w_a1) e643).get _ _ (ints_get (lt_len rfl (inR_lt k645)))) (.of_flat0 rfl)) ?_
          refine DR.p rfl rfl (p_assign rfl) ?_
          refine DR.p rfl rfl (p_assign rfl) ?_
          refine DR.nil 14 [] hst (by kernel_rfl) trivial ?_
          refine AX.seq ?_
          refine AX.region ?_
          refine AO.p rfl (p_move rfl) ?_
          refine AO.p rfl (p_move rfl) ?_
          obtain ⟨k647, hd648⟩ := chk_some hd646
          refine AO.p rfl (p_subE rfl rfl k647) ?_
          refine AO.p rfl (p_move rfl) ?_
          obtain ⟨x649, h650, hd651⟩ := bnd_some hd648
          refine AO.c rfl (o_call (vs := [.int .i64 (rd (rw_ a1 x454.toNat) 1 - (rd (rw_ a1 x454.toNat) 0)), .int .i64 a0]) rfl Try.call113 (W_spec_l03Mod fu G626 (rd (rw_ a1 x454.toNat) 1 - (rd (rw_ a1 x454.toNat) 0)) a0 x649 h650)) ?_
          refine AO.p rfl (p_assign rfl) ?_
          refine AO.nil ?_
          refine AX.seq ?_
          obtain ⟨r699, hb700, hd701⟩ := bnd_some hd651
          refine AX.cut (fun t' H' => ∃ (b698 : Bool), b698 = r699 ∧ St [] H H' [[(i110, AObj.row false (bls bs451))], [(i116, AObj.row false (bls bs453))]] ∧ Am.Sub [(0, .int .i64 a0), (1, .slice p_a1 a1.length c_a1), (5, .slice (some (Addr.mk i110 0 none)) a0.toNat a0.toNat), (6, .slice (some (Addr.mk i116 0 none)) a0.toNat a0.toNat), (7, .int .i64 x454), (8, .int .i64 (rd (rw_ a1 x454.toNat) 0)), (9, .int .i64 (rd (rw_ a1 x454.toNat) 1)), (10, .int .i64 x649), (79, .bool b698)] t') ?_ ?_
          · skip
            refine AX.region ?_
            refine AO.p rfl (p_move rfl) ?_
            refine AO.p rfl (p_move rfl) ?_
            refine AO.p rfl (p_gtr rfl rfl) ?_
            refine AO.p rfl (p_move rfl) ?_
            refine AO.cases (d := 47) rfl (fun c702 => ?_) (fun c702 => ?_)
            · have hd703 := bif_t c702 hb700
              refine AO.gn rfl rfl rfl ?_
              refine AO.gn rfl rfl rfl ?_
              refine AO.gn rfl rfl rfl ?_
              refine AO.gu rfl rfl rfl ?_
              refine AO.gu rfl rfl rfl ?_
              refine AO.gu rfl rfl rfl ?_
              refine AO.gu rfl rfl rfl ?_
              refine AO.gu rfl rfl rfl ?_
              refine AO.gu rfl rfl rfl ?_
              refine AO.gu rfl rfl rfl ?_
              refine AO.gu rfl rfl rfl ?_
              refine AO.gu rfl rfl rfl ?_
              refine AO.gn rfl rfl rfl ?_
              refine AO.p rfl (p_pickT rfl rfl) ?_
              refine AO.p rfl (p_move rfl) ?_
              refine AO.gn rfl rfl rfl ?_
              refine AO.gn rfl rfl rfl ?_
              refine AO.gn rfl rfl rfl ?_
              refine AO.gn rfl rfl rfl ?_
              refine AO.p rfl (p_pickT rfl rfl) ?_
              refine AO.p rfl (p_move rfl) ?_
              refine AO.gn rfl rfl rfl ?_
              refine AO.gn rfl rfl rfl ?_
              refine AO.gn rfl rfl rfl ?_
              refine AO.gn rfl rfl rfl ?_
              refine AO.p rfl (p_pickT rfl rfl) ?_
              refine AO.p rfl (p_move rfl) ?_
              refine AO.gn rfl rfl rfl ?_
              refine AO.gn rfl rfl rfl ?_
              refine AO.gn rfl rfl rfl ?_
              refine AO.gn rfl rfl rfl ?_
              refine AO.p rfl (p_pickT rfl rfl) ?_
              refine AO.nil ?_
              have S704 := S625.front 1 rfl
              have S705 := S704.front 1 rfl
              exact ⟨true, (some_inj hd703), S705, Sub.cons' rfl rfl (Sub.cons' rfl rfl (Sub.cons' rfl rfl (Sub.cons' rfl rfl (Sub.cons' rfl rfl (Sub.cons' rfl rfl (Sub.cons' rfl rfl (Sub.cons' rfl rfl (Sub.cons' rfl rfl (Sub.nil _)))))))))⟩
            · have hd706 := bif_f c702 hb700
              refine AO.gp rfl rfl rfl (p_move rfl) ?_
              refine AO.gp rfl rfl rfl (p_gtr rfl rfl) ?_
              refine AO.gp rfl rfl rfl (p_move rfl) ?_
              refine AO.cases (d := 50) rfl (fun c707 => ?_) (fun c707 => ?_)
              · have hd708 := bif_t c707 hd706
                refine AO.gp rfl rfl rfl (p_move rfl) ?_
                refine AO.gp rfl rfl rfl (p_move rfl) ?_
                obtain ⟨k709, hd710⟩ := chk_some hd708
                refine AO.gp rfl rfl rfl (p_subE rfl rfl k709) ?_
                obtain ⟨k711, hd712⟩ := chk_some hd710
                obtain ⟨p713, c714, e715, f716⟩ := tget t_a1 (lt_len rfl (inR_lt k711))
                refine AO.gp rfl rfl rfl (s_indexV (q := off p_a1 + (x454 - 1).toNat) Try.underlying43 Try.sizeOf58 rfl ((S625.view v_a1).p f716) rfl k711 (o1 _ _)) ?_
                refine AO.gc rfl rfl rfl (s_load Try.isAgg58 rfl ((S625.view v_a1).get _ _ f716)) ?_
                obtain ⟨k717, hd718⟩ := chk_some hd712
                refine AO.gp rfl rfl rfl (s_indexV (q := off p713 + 0) Try.underlying58 Try.sizeOf2 rfl ((TVw.at (S625.tview w_a1) e715).p (ints_get (lt_len rfl (inR_lt k717)))) rfl k717 (o1 _ _)) ?_
                refine AO.gc rfl rfl rfl (s_load Try.isAgg2 rfl ((TVw.at (S625.tview w_a1) e715).get _ _ (ints_get (lt_len rfl (inR_lt k717))))) ?_
                refine AO.gp rfl rfl rfl (p_move rfl) ?_
                refine AO.gp rfl rfl rfl (p_geq rfl rfl) ?_
                refine AO.gp rfl rfl rfl (p_pickT rfl rfl) ?_
                refine AO.p rfl (p_pickF rfl rfl) ?_
                refine AO.p rfl (p_move rfl) ?_
                refine AO.cases (d := 62) rfl (fun c719 => ?_) (fun c719 => ?_)
                · have hd720 := bif_t c719 hd718
                  refine AO.gn rfl rfl rfl ?_
                  refine AO.gn rfl rfl rfl ?_
                  refine AO.gn rfl rfl rfl ?_
                  refine AO.gn rfl rfl rfl ?_
                  refine AO.p rfl (p_pickT rfl rfl) ?_
                  refine AO.p rfl (p_move rfl) ?_
                  refine AO.gn rfl rfl rfl ?_
                  refine AO.gn rfl rfl rfl ?_
                  refine AO.gn rfl rfl rfl ?_
                  refine AO.gn rfl rfl rfl ?_
                  refine AO.p rfl (p_pickT rfl rfl) ?_
                  refine AO.p rfl (p_move rfl) ?_
                  refine AO.gn rfl rfl rfl ?_
                  refine AO.gn rfl rfl rfl ?_
                  refine AO.gn rfl rfl rfl ?_
                  refine AO.gn rfl rfl rfl ?_
                  refine AO.p rfl (p_pickT rfl rfl) ?_
                  refine AO.nil ?_
                  have S721 := S625.front 1 rfl
                  have S722 := S721.front 1 rfl
                  exact ⟨true, (some_inj hd720), S722, Sub.cons' rfl rfl (Sub.cons' rfl rfl (Sub.cons' rfl rfl (Sub.cons' rfl rfl (Sub.cons' rfl rfl (Sub.cons' rfl rfl (Sub.cons' rfl rfl (Sub.cons' rfl rfl (Sub.cons' rfl rfl (Sub.nil _)))))))))⟩
                · have hd723 := bif_f c719 hd718
                  refine AO.gp rfl rfl rfl (p_move rfl) ?_
                  refine AO.gp rfl rfl rfl (p_move rfl) ?_
                  obtain ⟨k724, hd725⟩ := chk_some hd723
                  refine AO.gp rfl rfl rfl (s_indexV (q := (rd (rw_ a1 x454.toNat) 0).toNat) Try.underlying111 Try.sizeOf4 rfl rfl rfl k724 (z1 _)) ?_
                  refine AO.gc rfl rfl rfl (s_load Try.isAgg4 rfl (row_cell (S625.get (k := 0) rfl) (bls_get (lt_len lbs451 (inR_lt k724))))) ?_
                  refine AO.p rfl (p_pickF rfl rfl) ?_
                  refine AO.p rfl (p_move rfl) ?_
                  refine AO.cases (d := 68) rfl (fun c726 => ?_) (fun c726 => ?_)
                  · have hd727 := bif_t c726 hd725
                    refine AO.gn rfl rfl rfl ?_
                    refine AO.gn rfl rfl rfl ?_
                    refine AO.gn rfl rfl rfl ?_
                    refine AO.gn rfl rfl rfl ?_
                    refine AO.p rfl (p_pickT rfl rfl) ?_
                    refine AO.p rfl (p_move rfl) ?_
                    refine AO.gn rfl rfl rfl ?_
                    refine AO.gn rfl rfl rfl ?_
                    refine AO.gn rfl rfl rfl ?_
                    refine AO.gn rfl rfl rfl ?_
                    refine AO.p rfl (p_pickT rfl rfl) ?_
                    refine AO.nil ?_
                    have S728 := S625.front 1 rfl
                    have S729 := S728.front 1 rfl
                    exact ⟨true, (some_inj hd727), S729, Sub.cons' rfl rfl (Sub.cons' rfl rfl (Sub.cons' rfl rfl (Sub.cons' rfl rfl (Sub.cons' rfl rfl (Sub.cons' rfl rfl (Sub.cons' rfl rfl (Sub.cons' rfl rfl (Sub.cons' rfl rfl (Sub.nil _)))))))))⟩
                  · have hd730 := bif_f c726 hd725
                    refine AO.gp rfl rfl rfl (p_move rfl) ?_
                    refine AO.gp rfl rfl rfl (p_move rfl) ?_
                    obtain ⟨k731, hd732⟩ := chk_some hd730
                    refine AO.gp rfl rfl rfl (s_indexV (q := (rd (rw_ a1 x454.toNat) 1).toNat) Try.underlying111 Try.sizeOf4 rfl rfl rfl k731 (z1 _)) ?_
                    refine AO.gc rfl rfl rfl (s_load Try.isAgg4 rfl (row_cell (S625.get (k := 0) rfl) (bls_get (lt_len lbs451 (inR_lt k731))))) ?_
                    refine AO.p rfl (p_pickF rfl rfl) ?_
                    refine AO.p rfl (p_move rfl) ?_
                    refine AO.cases (d := 74) rfl (fun c733 => ?_) (fun c733 => ?_)
                    · have hd734 := bif_t c733 hd732
                      refine AO.gn rfl rfl rfl ?_
                      refine AO.gn rfl rfl rfl ?_
                      refine AO.gn rfl rfl rfl ?_
                      refine AO.gn rfl rfl rfl ?_
                      refine AO.p rfl (p_pickT rfl rfl) ?_
                      refine AO.nil ?_
                      have S735 := S625.front 1 rfl
                      have S736 := S735.front 1 rfl
                      exact ⟨true, (some_inj hd734), S736, Sub.cons' rfl rfl (Sub.cons' rfl rfl (Sub.cons' rfl rfl (Sub.cons' rfl rfl (Sub.cons' rfl rfl (Sub.cons' rfl rfl (Sub.cons' rfl rfl (Sub.cons' rfl rfl (Sub.cons' rfl rfl (Sub.nil _)))))))))⟩
                    · have hd737 := bif_f c733 hd732
                      refine AO.gp rfl rfl rfl (p_move rfl) ?_
                      refine AO.gp rfl rfl rfl (p_move rfl) ?_
                      obtain ⟨k738, hd739⟩ := chk_some hd737
                      refine AO.gp rfl rfl rfl (s_indexV (q := x649.toNat) Try.underlying111 Try.sizeOf4 rfl rfl rfl k738 (z1 _)) ?_
                      refine AO.gc rfl rfl rfl (s_load Try.isAgg4 rfl (row_cell (S625.get (k := 1) rfl) (bls_get (lt_len lbs453 (inR_lt k738))))) ?_
                      refine AO.p rfl (p_pickF rfl rfl) ?_
                      refine AO.nil ?_
                      have S740 := S625.front 1 rfl
                      have S741 := S740.front 1 rfl
                      exact ⟨(rdb bs453 x649.toNat), (some_inj hd739), S741, Sub.cons' rfl rfl (Sub.cons' rfl rfl (Sub.cons' rfl rfl (Sub.cons' rfl rfl (Sub.cons' rfl rfl (Sub.cons' rfl rfl (Sub.cons' rfl rfl (Sub.cons' rfl rfl (Sub.cons' rfl rfl (Sub.nil _)))))))))⟩
              · have hd742 := bif_f c707 hd706
                refine AO.gn rfl rfl rfl ?_
                refine AO.gn rfl rfl rfl ?_
                refine AO.gn rfl rfl rfl ?_
                refine AO.gn rfl rfl rfl ?_
                refine AO.gn rfl rfl rfl ?_
                refine AO.gn rfl rfl rfl ?_
                refine AO.gn rfl rfl rfl ?_
                refine AO.gn rfl rfl rfl ?_
                refine AO.gn rfl rfl rfl ?_
                refine AO.gp rfl rfl rfl (p_pickF rfl rfl) ?_
                refine AO.p rfl (p_pickF rfl rfl) ?_
                refine AO.p rfl (p_move rfl) ?_
                refine AO.gp rfl rfl rfl (p_move rfl) ?_
                refine AO.gp rfl rfl rfl (p_move rfl) ?_
                obtain ⟨k743, hd744⟩ := chk_some hd742
                refine AO.gp rfl rfl rfl (s_indexV (q := (rd (rw_ a1 x454.toNat) 0).toNat) Try.underlying111 Try.sizeOf4 rfl rfl rfl k743 (z1 _)) ?_
                refine AO.gc rfl rfl rfl (s_load Try.isAgg4 rfl (row_cell (S625.get (k := 0) rfl) (bls_get (lt_len lbs451 (inR_lt k743))))) ?_
                refine AO.p rfl (p_pickF rfl rfl) ?_
                refine AO.p rfl (p_move rfl) ?_
                refine AO.cases (d := 68) rfl (fun c745 => ?_) (fun c745 => ?_)
                · have hd746 := bif_t c745 hd744
                  refine AO.gn rfl rfl rfl ?_
                  refine AO.gn rfl rfl rfl ?_
                  refine AO.gn rfl rfl rfl ?_
                  refine AO.gn rfl rfl rfl ?_
                  refine AO.p rfl (p_pickT rfl rfl) ?_
                  refine AO.p rfl (p_move rfl) ?_
                  refine AO.gn rfl rfl rfl ?_
                  refine AO.gn rfl rfl rfl ?_
                  refine AO.gn rfl rfl rfl ?_
                  refine AO.gn rfl rfl rfl ?_
                  refine AO.p rfl (p_pickT rfl rfl) ?_
                  refine AO.nil ?_
                  have S747 := S625.front 1 rfl
                  have S748 := S747.front 1 rfl
                  exact ⟨true, (some_inj hd746), S748, Sub.cons' rfl rfl (Sub.cons' rfl rfl (Sub.cons' rfl rfl (Sub.cons' rfl rfl (Sub.cons' rfl rfl (Sub.cons' rfl rfl (Sub.cons' rfl rfl (Sub.cons' rfl rfl (Sub.cons' rfl rfl (Sub.nil _)))))))))⟩
                · have hd749 := bif_f c745 hd744
                  refine AO.gp rfl rfl rfl (p_move rfl) ?_
                  refine AO.gp rfl rfl rfl (p_move rfl) ?_
                  obtain ⟨k750, hd751⟩ := chk_some hd749
                  refine AO.gp rfl rfl rfl (s_indexV (q := (rd (rw_ a1 x454.toNat) 1).toNat) Try.underlying111 Try.sizeOf4 rfl rfl rfl k750 (z1 _)) ?_
                  refine AO.gc rfl rfl rfl (s_load Try.isAgg4 rfl (row_cell (S625.get (k := 0) rfl) (bls_get (lt_len lbs451 (inR_lt k750))))) ?_
                  refine AO.p rfl (p_pickF rfl rfl) ?_
                  refine AO.p rfl (p_move rfl) ?_
                  refine AO.cases (d := 74) rfl (fun c752 => ?_) (fun c752 => ?_)
                  · have hd753 := bif_t c752 hd751
                    refine AO.gn rfl rfl rfl ?_
                    refine AO.gn rfl rfl rfl ?_
                    refine AO.gn rfl rfl rfl ?_
                    refine AO.gn rfl rfl rfl ?_
                    refine AO.p rfl (p_pickT rfl rfl) ?_
                    refine AO.nil ?_
                    have S754 := S625.front 1 rfl
                    have S755 := S754.front 1 rfl
                    exact ⟨true, (some_inj hd753), S755, Sub.cons' rfl rfl (Sub.cons' rfl rfl (Sub.cons' rfl rfl (Sub.cons' rfl rfl (Sub.cons' rfl rfl (Sub.cons' rfl rfl (Sub.cons' rfl rfl (Sub.cons' rfl rfl (Sub.cons' rfl rfl (Sub.nil _)))))))))⟩
                  · have hd756 := bif_f c752 hd751
                    refine AO.gp rfl rfl rfl (p_move rfl) ?_
                    refine AO.gp rfl rfl rfl (p_move rfl) ?_
                    obtain ⟨k757, hd758⟩ := chk_some hd756
                    refine AO.gp rfl rfl rfl (s_indexV (q := x649.toNat) Try.underlying111 Try.sizeOf4 rfl rfl rfl k757 (z1 _)) ?_
                    refine AO.gc rfl rfl rfl (s_load Try.isAgg4 rfl (row_cell (S625.get (k := 1) rfl) (bls_get (lt_len lbs453 (inR_lt k757))))) ?_
                    refine AO.p rfl (p_pickF rfl rfl) ?_
                    refine AO.nil ?_
                    have S759 := S625.front 1 rfl
                    have S760 := S759.front 1 rfl
                    exact ⟨(rdb bs453 x649.toNat), (some_inj hd758), S760, Sub.cons' rfl rfl (Sub.cons' rfl rfl (Sub.cons' rfl rfl (Sub.cons' rfl rfl (Sub.cons' rfl rfl (Sub.cons' rfl rfl (Sub.cons' rfl rfl (Sub.cons' rfl rfl (Sub.cons' rfl rfl (Sub.nil _)))))))))⟩
          · rintro t' G762 ⟨b698, rfl, S761, hsub763⟩
            refine AX.sub hsub763 ?_
            refine AX.cond rfl (fun c764 => ?_) (fun c764 => ?_)
            · have hd765 := bif_t c764 hd701
              refine AX.seq ?_
              refine AX.region ?_
              refine AO.p rfl (p_assign rfl) ?_
              refine AO.nil ?_
              refine AX.ret ?_
              obtain rfl := some_inj hd765
              have z766 : _ = r617 := hk624
              subst z766
              obtain rfl := some_inj hd619
              exact ⟨.inr rfl, _, res1 rfl (rv_tmp rfl), rfl, (flatB_ok rfl), S761.hold⟩
            · have hd767 := bif_f c764 hd701
              refine AX.skip ?_
              refine AX.seq ?_
              refine AX.region ?_
              refine AO.p rfl (p_move rfl) ?_
              refine AO.p rfl (p_move rfl) ?_
              obtain ⟨k768, hd769⟩ := chk_some hd767
              refine AO.p rfl (s_indexV (q := (rd (rw_ a1 x454.toNat) 0).toNat) Try.underlying111 Try.sizeOf4 rfl rfl rfl k768 (z1 _)) ?_
              obtain ⟨G770, hHG770, S771⟩ := S761.set (k := 0) (i := i110) rfl (AObj.row false (bls (bs451.set ((rd (rw_ a1 x454.toNat) 0).toNat) true)))
              refine AO.s (s_store Try.sizeOf4 rfl rfl rfl (S761.get (k := 0) rfl) (lt_len ((bls_length _).trans lbs451) (inR_lt k768)) ((congrArg (fun l => List.set _ _ (AObj.row false l)) (bls_set _ _ _)).trans hHG770)) ?_
              refine AO.nil ?_
              refine AX.seq ?_
              refine AX.region ?_
              refine AO.p rfl (p_move rfl) ?_
              refine AO.p rfl (p_move rfl) ?_
              obtain ⟨k772, hd773⟩ := chk_some hd769
              refine AO.p rfl (s_indexV (q := (rd (rw_ a1 x454.toNat) 1).toNat) Try.underlying111 Try.sizeOf4 rfl rfl rfl k772 (z1 _)) ?_
              obtain ⟨G774, hHG774, S775⟩ := S771.set (k := 0) (i := i110) rfl (AObj.row false (bls ((bs451.set ((rd (rw_ a1 x454.toNat) 0).toNat) true).set ((rd (rw_ a1 x454.toNat) 1).toNat) true)))
              refine AO.s (s_store Try.sizeOf4 rfl rfl rfl (S771.get (k := 0) rfl) (lt_len ((bls_length _).trans (len_set lbs451)) (inR_lt k772)) ((congrArg (fun l => List.set _ _ (AObj.row false l)) (bls_set _ _ _)).trans hHG774)) ?_
              refine AO.nil ?_
              refine AX.seq ?_
              refine AX.region ?_
              refine AO.p rfl (p_move rfl) ?_
              refine AO.p rfl (p_move rfl) ?_
              obtain ⟨k776, hd777⟩ := chk_some hd773
              refine AO.p rfl (s_indexV (q := x649.toNat) Try.underlying111 Try.sizeOf4 rfl rfl rfl k776 (z1 _)) ?_
              obtain ⟨G778, hHG778, S779⟩ := S775.set (k := 1) (i := i116) rfl (AObj.row false (bls (bs453.set x649.toNat true)))
              refine AO.s (s_store Try.sizeOf4 rfl rfl rfl (S775.get (k := 1) rfl) (lt_len ((bls_length _).trans lbs453) (inR_lt k776)) ((congrArg (fun l => List.set _ _ (AObj.row false l)) (bls_set _ _ _)).trans hHG778)) ?_
              refine AO.nil ?_
              refine AX.region ?_
              refine AO.p rfl (p_move rfl) ?_
              refine AO.p rfl (p_move rfl) ?_
              refine AO.p rfl (p_move rfl) ?_
              obtain ⟨k780, hd781⟩ := chk_some hd777
              refine AO.p rfl (p_subE rfl rfl k780) ?_
              obtain ⟨k782, hd783⟩ := chk_some hd781
              refine AO.p rfl (s_indexV (q := (a0 - x649).toNat) Try.underlying111 Try.sizeOf4 rfl rfl rfl k782 (z1 _)) ?_
              obtain ⟨G784, hHG784, S785⟩ := S779.set (k := 1) (i := i116) rfl (AObj.row false (bls ((bs453.set x649.toNat true).set ((a0 - x649).toNat) true)))
              refine AO.s (s_store Try.sizeOf4 rfl rfl rfl (S779.get (k := 1) rfl) (lt_len ((bls_length _).trans (len_set lbs453)) (inR_lt k782)) ((congrArg (fun l => List.set _ _ (AObj.row false l)) (bls_set _ _ _)).trans hHG784)) ?_
              refine AO.nil ?_
              refine AX.region ?_
              refine AO.p rfl (p_move rfl) ?_
              obtain ⟨k786, hd787⟩ := chk_some hd783
              refine AO.p rfl (p_addE rfl rfl k786) ?_
              refine AO.p rfl (p_assign rfl) ?_
              refine AO.nil ?_
              obtain rfl := some_inj hd787
              have S789 := S785.front 1 rfl
              have S790 := S789.front 1 rfl
              exact ⟨(((bs451.set ((rd (rw_ a1 x454.toNat) 0).toNat) true).set ((rd (rw_ a1 x454.toNat) 1).toNat) true), ((bs453.set x649.toNat true).set ((a0 - x649).toNat) true), x454 + 1), hk624, ((bs451.set ((rd (rw_ a1 x454.toNat) 0).toNat) true).set ((rd (rw_ a1 x454.toNat) 1).toNat) true), ((bs453.set x649.toNat true).set ((a0 - x649).toNat) true), (x454 + 1), rfl, S790, (len_set (len_set lbs451)), (len_set (len_set lbs453)), Sub.cons' rfl rfl (Sub.cons' rfl rfl (Sub.cons' rfl rfl (Sub.cons' rfl rfl (Sub.cons' rfl rfl (Sub.nil _)))))⟩
        · have hd791 := bif_f c629 ho623
          refine AX.exit ?_
          obtain rfl := some_inj hd791
          have S792 := S625.keep 0
          exact ⟨hk624, S792, Sub.nil _⟩
    · rintro t' G794 ⟨rfl, S793, hsub795⟩
      refine ⟨_, hsub795, ?_⟩
      refine AX.seq ?_
      refine AX.region ?_
      refine AO.p rfl (p_assign rfl) ?_
      refine AO.nil ?_
      refine AX.ret ?_
      obtain rfl := some_inj hd619
      exact ⟨.inr rfl, _, res1 rfl (rv_tmp rfl), rfl, (flatB_ok rfl), S793.hold⟩

set_option maxHeartbeats 4000000 in
theorem W_spec_l03Code (fu : Nat) (H : AHeap) (a0 : Int) (p_a1 : Option Addr) (c_a1 : Nat) (T_a1 : Tb) (a1 : List (List Int)) (t_a1 : trows T_a1 = a1) (v_a1 : Vw H p_a1 a1.length c_a1 (tcells T_a1)) (w_a1 : TVw H T_a1) (r0 : Int) (hd : D_spec_l03Code fu a0 a1 = some r0) : ACall Try.prog 85 [.int .i64 a0, .slice p_a1 a1.length c_a1] H (.int .i64 r0) H := by
  refine ACall.bodyP (N := 20) [(0, .int .i64 a0), (1, .slice p_a1 a1.length c_a1)] Try.func85 rfl rfl rfl rfl ?_
  unfold D_spec_l03Code at hd
  have S0 : St [] H H [] := St.nil H
  refine AX.seq ?_
  refine AX.region ?_
  refine AO.p rfl (p_assign rfl) ?_
  refine AO.nil ?_
  refine AX.seq ?_
  refine AX.block ?_
  obtain ⟨r112, hb113, hd114⟩ := bnd_some hd
  refine AX.cut (fun t' H' => ∃ (b111 : Bool), b111 = r112 ∧ St [] H H' [] ∧ Am.Sub [(0, .int .i64 a0), (1, .slice p_a1 a1.length c_a1), (5, .bool b111)] t') ?_ ?_
  · skip
    refine AX.region ?_
    refine AO.p rfl (p_move rfl) ?_
    obtain ⟨b115, h116, hd117⟩ := bnd_some hb113
    refine AO.c rfl (o_call (vs := [.int .i64 a0]) rfl Try.call55 (W_spec_l03Modulus fu H a0 b115 h116)) ?_
    refine AO.p rfl (p_not rfl) ?_
    refine AO.p rfl (p_move rfl) ?_
    refine AO.cases (d := 9) rfl (fun c119 => ?_) (fun c119 => ?_)
    · have hd120 := bif_t c119 hd117
      refine AO.gn rfl rfl rfl ?_
      refine AO.gn rfl rfl rfl ?_
      refine AO.gn rfl rfl rfl ?_
      refine AO.gn rfl rfl rfl ?_
      refine AO.p rfl (p_pickT rfl rfl) ?_
      refine AO.p rfl (p_assign rfl) ?_
      refine AO.nil ?_
      exact ⟨true, (some_inj hd120), S0, Sub.cons' rfl rfl (Sub.cons' rfl rfl (Sub.cons' rfl rfl (Sub.nil _)))⟩
    · have hd121 := bif_f c119 hd117
      refine AO.gp rfl rfl rfl (p_move rfl) ?_
      refine AO.gp rfl rfl rfl (p_move rfl) ?_
      obtain ⟨b122, h123, hd124⟩ := bnd_some hd121
      refine AO.gc rfl rfl rfl (o_call (vs := [.int .i64 a0, .slice p_a1 a1.length c_a1]) rfl Try.call128 (W_spec_l03Lists fu H a0 p_a1 c_a1 T_a1 a1 t_a1 (S0.view v_a1) (S0.tview w_a1) b122 h123)) ?_
      refine AO.gp rfl rfl rfl (p_not rfl) ?_
      refine AO.p rfl (p_pickF rfl rfl) ?_
      refine AO.p rfl (p_assign rfl) ?_
      refine AO.nil ?_
      exact ⟨(!b122), (some_inj hd124), S0, Sub.cons' rfl rfl (Sub.cons' rfl rfl (Sub.cons' rfl rfl (Sub.nil _)))⟩
  · rintro t' G127 ⟨b111, rfl, S126, hsub128⟩
    refine AX.sub hsub128 ?_
    refine AX.cond rfl (fun c129 => ?_) (fun c129 => ?_)
    · have hd130 := bif_t c129 hd114
      refine AX.seq ?_
      refine AX.region ?_
      refine AO.p rfl (p_assign rfl) ?_
      refine AO.nil ?_
      refine AX.ret ?_
      obtain rfl := some_inj hd130
      exact ⟨.inr rfl, _, res1 rfl (rv_tmp rfl), rfl, (flatB_ok rfl), S126.hold⟩
    · have hd131 := bif_f c129 hd114
      refine AX.seq ?_
      refine AX.region ?_
      refine AO.p rfl (p_move rfl) ?_
      refine AO.p rfl (p_move rfl) ?_
      obtain ⟨b132, h133, hd134⟩ := bnd_some hd131
      refine AO.c rfl (o_call (vs := [.int .i64 a0, .slice p_a1 a1.length c_a1]) rfl Try.call129 (W_spec_l03Is fu G127 a0 p_a1 c_a1 T_a1 a1 t_a1 (S126.view v_a1) (S126.tview w_a1) b132 h133)) ?_
      refine AO.p rfl (p_not rfl) ?_
      refine AO.p rfl (p_assign rfl) ?_
      refine AO.nil ?_
      refine AX.cond rfl (fun c136 => ?_) (fun c136 => ?_)
      · have hd137 := bif_t c136 hd134
        refine AX.seq ?_
        refine AX.region ?_
        refine AO.p rfl (p_assign rfl) ?_
        refine AO.nil ?_
        refine AX.ret ?_
        obtain rfl := some_inj hd137
        exact ⟨.inr rfl, _, res1 rfl (rv_tmp rfl), rfl, (flatB_ok rfl), S126.hold⟩
      · have hd138 := bif_f c136 hd134
        refine AX.skip ?_
        refine AX.seq ?_
        refine AX.region ?_
        refine AO.p rfl (p_assign rfl) ?_
        refine AO.nil ?_
        refine AX.ret ?_
        obtain rfl := some_inj hd138
        exact ⟨.inr rfl, _, res1 rfl (rv_tmp rfl), rfl, (flatB_ok rfl), S126.hold⟩

end Go.Proofs.Ytdafmafigcljkaa
