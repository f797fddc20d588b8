/-
 The program computes that, printed by a program. No condition.
-/
import Derived.Test.YtdafmafigcljkaaDTa
import Derived.Test.YtdafmafigcljkaaWA
import Derived.Test.YtdafmafigcljkaaProg
import Derived.KernelRfl
namespace Go.Proofs.Ytdafmafigcljkaa
open Go Go.RowKit Am
set_option linter.unusedVariables false
set_option linter.unusedSimpArgs false
set_option maxRecDepth 20000
set_option maxHeartbeats 4000000 in
theorem W_spec_l01Is (fu : Nat) (H : AHeap) (a0_0 : Int) (p_a0_1 : Option Addr) (c_a0_1 : Nat) (a0_1 : List (List Int)) (a_a0_1 : All 14 a0_1) (v_a0_1 : Vw H p_a0_1 a0_1.length c_a0_1 (ints a0_1.flatten)) (r0 : Bool) (hd : D_spec_l01Is fu a0_0 a0_1 = some r0) : ACall Try.prog 63 [.agg [.int .i64 a0_0, .slice p_a0_1 a0_1.length c_a0_1].toArray] H (.bool r0) H := by
 refine ACall.bodyP (N := 30) [(0, .agg [.int .i64 a0_0, .slice p_a0_1 a0_1.length c_a0_1].toArray)] Try.func63 rfl rfl rfl rfl ?_
 unfold D_spec_l01Is at hd
 have S0 : St [] H H [] := St.nil H
 refine AX.seq ?_
 refine AX.region ?_
 obtain ⟨G100, i101, hii101, hHG100, S102⟩ := S0.new (AObj.row false ([.int .i64 a0_0, .slice p_a0_1 a0_1.length c_a0_1]))
 refine AO.c rfl (s_box (i := i101) (cs := [.int .i64 a0_0, .slice p_a0_1 a0_1.length c_a0_1]) rfl hii101 rfl hHG100) ?_
 refine AO.p rfl (p_assign rfl) ?_
 refine AO.nil ?_
 refine AX.seq ?_
 obtain ⟨r113, hb114, hd115⟩ := bnd_some hd
 refine AX.cut (fun t' H' => ∃ (b112 : Bool), b112 = r113 ∧ St [] H H' [[(i101, AObj.row false ([.int .i64 a0_0, .slice p_a0_1 a0_1.length c_a0_1]))]] ∧ Am.Sub [(1, .pointer (some ⟨i101, 0, none⟩)), (13, .bool b112)] t') ?_ ?_
 ·skip
  refine AX.region ?_
  refine AO.p rfl (s_fieldAddr Try.underlying37 rfl Try.sizeOf2 (by decide) rfl rfl) ?_
  refine AO.c rfl (s_load Try.isAgg2 rfl (row_cell (S102.get (k := 0) rfl) rfl)) ?_
  obtain ⟨b116, h117, hd118⟩ := bnd_some hb114
  refine AO.c rfl (o_call (vs := [.int .i64 a0_0, .int .i64 2, .int .i64 14]) rfl Try.call50 (W_spec_l01In fu G100 a0_0 2 14 b116 h117)) ?_
  refine AO.p rfl (p_not rfl) ?_
  refine AO.p rfl (p_move rfl) ?_
  refine AO.cases (d := 8) rfl (fun c120 => ?_) (fun c120 => ?_)
  ·have hd121 := bif_t c120 hd118
   refine AO.gn rfl rfl rfl ?_
   refine AO.gn rfl rfl rfl ?_
   refine AO.gn rfl rfl rfl ?_
   refine AO.gn rfl rfl rfl ?_
   refine AO.p rfl (p_pickT rfl rfl) ?_
   refine AO.nil ?_
   have S122 := S102.front 0 rfl
   exact ⟨true, (some_inj hd121), S122, Sub.cons' rfl rfl (Sub.cons' rfl rfl (Sub.nil _))⟩
  ·have hd123 := bif_f c120 hd118
   refine AO.gp rfl rfl rfl (s_fieldAddr Try.underlying37 rfl Try.sizeOf35 (by decide) rfl rfl) ?_
   refine AO.gc rfl rfl rfl (s_load Try.isAgg35 rfl (row_cell (S102.get (k := 0) rfl) rfl)) ?_
   refine AO.gp rfl rfl rfl (p_len_slice rfl Try.underlying35) ?_
   refine AO.gp rfl rfl rfl (p_gtr rfl rfl) ?_
   refine AO.p rfl (p_pickF rfl rfl) ?_
   refine AO.nil ?_
   have S124 := S102.front 0 rfl
   exact ⟨(decide (40 < ((a0_1.length : Nat) : Int))), (some_inj hd123), S124, Sub.cons' rfl rfl (Sub.cons' rfl rfl (Sub.nil _))⟩
 ·rintro t' G126 ⟨b112, rfl, S125, hsub127⟩
  refine AX.sub hsub127 ?_
  refine AX.cond rfl (fun c128 => ?_) (fun c128 => ?_)
  ·have hd129 := bif_t c128 hd115
   refine AX.seq ?_
   refine AX.region ?_
   refine AO.p rfl (p_assign rfl) ?_
   refine AO.nil ?_
   refine AX.ret ?_
   obtain rfl := some_inj hd129
   exact ⟨.inr rfl, _, res1 rfl (rv_tmp rfl), rfl, (flatB_ok rfl), S125.hold⟩
  ·have hd130 := bif_f c128 hd115
   refine AX.skip ?_
   refine AX.seq ?_
   refine AX.seq ?_
   refine AX.region ?_
   refine AO.p rfl (p_assign rfl) ?_
   refine AO.nil ?_
   obtain ⟨r187, hl188, hd189⟩ := bnd_some hd130
   refine AX.cutS (fun t' H' => .inl () = r187 ∧ St [] H H' [] ∧ Am.Sub [] t') ?_ ?_
   ·refine AX.block ?_
    refine AX.loopF (fun s' t' H' => ∃ (x169 : Int), x169 = s' ∧ St [] H H' [[(i101, AObj.row false ([.int .i64 a0_0, .slice p_a0_1 a0_1.length c_a0_1]))]] ∧ Am.Sub [(1, .pointer (some ⟨i101, 0, none⟩)), (3, .int .i64 x169)] t') hl188 ?_ ?_
    ·skip
     have S190 := S125.front 0 rfl
     exact ⟨0, rfl, S190, Sub.cons' rfl rfl (Sub.cons' rfl rfl (Sub.nil _))⟩
    ·rintro n191 _ t' G195 ⟨x169, rfl, S194, hsub196⟩ o197 ho192 hk193
     refine AX.sub hsub196 ?_
     unfold D_spec_l01Is_s0 at ho192
     refine AX.seq ?_
     refine AX.seq ?_
     refine AX.region ?_
     refine AO.p rfl (p_move rfl) ?_
     refine AO.p rfl (s_fieldAddr Try.underlying37 rfl Try.sizeOf35 (by decide) rfl rfl) ?_
     refine AO.c rfl (s_load Try.isAgg35 rfl (row_cell (S194.get (k := 0) rfl) rfl)) ?_
     refine AO.p rfl (p_len_slice rfl Try.underlying35) ?_
     refine AO.p rfl (p_lss rfl rfl) ?_
     refine AO.nil ?_
     refine AX.cond rfl (fun c198 => ?_) (fun c198 => ?_)
     ·have hd199 := bif_t c198 ho192
      refine AX.skip ?_
      refine AX.seq ?_
      refine AX.block ?_
      refine AX.seq ?_
      refine DR.startS [false, false, false, false, false, false, false, true, false] mix (by kernel_rfl) (fun hst => ?_)
      refine DR.p rfl rfl (s_fieldAddr Try.underlying37 rfl Try.sizeOf2 (by decide) rfl rfl) ?_
      refine DR.r rfl rfl (r_load rfl Try.isAgg2) (one_read (row_cell (S194.get (k := 0) rfl) rfl) (.of_flat0 rfl)) ?_
      refine DR.p rfl rfl (s_fieldAddr Try.underlying37 rfl Try.sizeOf35 (by decide) rfl rfl) ?_
      refine DR.r rfl rfl (r_load rfl Try.isAgg35) (one_read (row_cell (S194.get (k := 0) rfl) rfl) (S194.view v_a0_1).inn.bel) ?_
      refine DR.p rfl rfl (p_move rfl) ?_
      obtain ⟨k200, hd201⟩ := chk_some hd199
      refine DR.p rfl rfl (s_indexV (q := off p_a0_1 + x169.toNat * 14) Try.underlying35 Try.sizeOf54 rfl ((S194.view v_a0_1).rowne a_a0_1 (by decide) (lt_len rfl (inR_lt k200))) rfl k200 rfl) ?_
      refine DR.r rfl rfl (r_loadN (vs := ints (rw_ a0_1 x169.toNat)) rfl Try.isAgg54 Try.sizeOf54 (ints_len (rw_len a_a0_1 (lt_len rfl (inR_lt k200))))) (many_row ((S194.view v_a0_1).row a_a0_1 (lt_len rfl (inR_lt k200))) bel_ints) ?_
      obtain ⟨b202, h203, hd204⟩ := bnd_some hd201
      refine DR.w rfl rfl (o_call (vs := [.int .i64 a0_0, .agg (ints (rw_ a0_1 x169.toNat)).toArray]) rfl Try.call118 (W_spec_l01Round fu G195 a0_0 (rw_ a0_1 x169.toNat) (rw_len a_a0_1 (lt_len rfl (inR_lt k200))) b202 h203)) (Nat.le_refl _) ?_
      refine DR.p rfl rfl (p_not rfl) ?_
      refine DR.nil 9 [] hst (by kernel_rfl) trivial ?_
      refine AX.cond rfl (fun c206 => ?_) (fun c206 => ?_)
      ·have hd207 := bif_t c206 hd204
       refine AX.seq ?_
       refine AX.region ?_
       refine AO.p rfl (p_assign rfl) ?_
       refine AO.nil ?_
       refine AX.ret ?_
       obtain rfl := some_inj hd207
       have z208 : _ = r187 := hk193
       subst z208
       obtain rfl := some_inj hd189
       exact ⟨.inr rfl, _, res1 rfl (rv_tmp rfl), rfl, (flatB_ok rfl), S194.hold⟩
      ·have hd209 := bif_f c206 hd204
       refine AX.skip ?_
       refine AX.region ?_
       refine AO.p rfl (p_move rfl) ?_
       obtain ⟨k210, hd211⟩ := chk_some hd209
       refine AO.p rfl (p_addE rfl rfl k210) ?_
       refine AO.p rfl (p_assign rfl) ?_
       refine AO.nil ?_
       obtain rfl := some_inj hd211
       have S213 := S194.front 0 rfl
       exact ⟨x169 + 1, hk193, (x169 + 1), rfl, S213, Sub.cons' rfl rfl (Sub.cons' rfl rfl (Sub.nil _))⟩
     ·have hd214 := bif_f c198 ho192
      refine AX.exit ?_
      obtain rfl := some_inj hd214
      have S215 := S194.keep 0
      exact ⟨hk193, S215, Sub.nil _⟩
   ·rintro t' G217 ⟨rfl, S216, hsub218⟩
    refine ⟨_, hsub218, ?_⟩
    refine AX.seq ?_
    refine AX.region ?_
    refine AO.p rfl (p_assign rfl) ?_
    refine AO.nil ?_
    refine AX.ret ?_
    obtain rfl := some_inj hd189
    exact ⟨.inr rfl, _, res1 rfl (rv_tmp rfl), rfl, (flatB_ok rfl), S216.hold⟩

set_option maxHeartbeats 4000000 in
theorem W_slices_IndexFunc_Simpl_Round_impl_Round (fu : Nat) (H : AHeap) (p_a0 : Option Addr) (c_a0 : Nat) (a0 : List (List Int)) (a_a0 : All 14 a0) (v_a0 : Vw H p_a0 a0.length c_a0 (ints a0.flatten)) (f_a1 : FuncId) (fs_a1 cs_a1 : Array Value) (a1 : (List Int) → Option Bool) (hc_a1 : ∀ args w, (callFunc f_a1 args).run Try.prog w = .ok (.enter f_a1 args) w) (hq_a1 : ∀ H', ExtG H H' → ∀ (x0_a1 : List Int) (h_x0_a1 : x0_a1.length = 14) (b : Bool), a1 x0_a1 = some b → ACall Try.prog f_a1 (fs_a1.toList ++ [.agg (ints x0_a1).toArray] ++ cs_a1.toList) H' (.bool b) H') (r0 : Int) (hd : D_slices_IndexFunc_Simpl_Round_impl_Round fu a0 a1 = some r0) : ACall Try.prog 169 [.slice p_a0 a0.length c_a0, .func (.func f_a1) fs_a1 cs_a1] H (.int .i64 r0) H := by
 refine ACall.bodyP (N := 19) [(0, .slice p_a0 a0.length c_a0), (1, .func (.func f_a1) fs_a1 cs_a1)] Try.func169 rfl rfl rfl rfl ?_
 unfold D_slices_IndexFunc_Simpl_Round_impl_Round at hd
 have S0 : St [] H H [] := St.nil H
 refine AX.seq ?_
 refine AX.region ?_
 refine AO.p rfl (p_assign rfl) ?_
 refine AO.nil ?_
 refine AX.seq ?_
 refine AX.seq ?_
 refine AX.region ?_
 refine AO.p rfl (p_move rfl) ?_
 refine AO.p rfl (p_len_slice rfl Try.underlying35) ?_
 refine AO.p rfl (p_move rfl) ?_
 refine AO.nil ?_
 obtain ⟨r150, hl151, hd152⟩ := bnd_some hd
 refine AX.cutS (fun t' H' => .inl () = r150 ∧ St [] H H' [] ∧ Am.Sub [] t') ?_ ?_
 ·refine AX.block ?_
  refine AX.loopF (fun s' t' H' => ∃ (x133 : Int), x133 = s' ∧ St [] H H' [] ∧ Am.Sub [(0, .slice p_a0 a0.length c_a0), (1, .func (.func f_a1) fs_a1 cs_a1), (7, .int .i64 ((a0.length : Nat) : Int)), (8, .int .i64 x133)] t') hl151 ?_ ?_
  ·skip
   exact ⟨0, rfl, S0, Sub.cons' rfl rfl (Sub.cons' rfl rfl (Sub.cons' rfl rfl (Sub.cons' rfl rfl (Sub.nil _))))⟩
  ·rintro n153 _ t' G157 ⟨x133, rfl, S156, hsub158⟩ o159 ho154 hk155
   refine AX.sub hsub158 ?_
   unfold D_slices_IndexFunc_Simpl_Round_impl_Round_s0 at ho154
   refine AX.seq ?_
   refine AX.region ?_
   refine AO.p rfl (p_lss rfl rfl) ?_
   refine AO.nil ?_
   refine AX.seq ?_
   refine AX.cond rfl (fun c160 => ?_) (fun c160 => ?_)
   ·have hd161 := bif_t c160 ho154
    refine AX.skip ?_
    refine AX.seq ?_
    refine AX.block ?_
    refine AX.seq ?_
    refine AX.region ?_
    refine AO.p rfl (p_move rfl) ?_
    refine AO.p rfl (p_assign rfl) ?_
    refine AO.nil ?_
    refine AX.seq ?_
    refine AX.region ?_
    refine AO.p rfl (p_move rfl) ?_
    refine AO.p rfl (p_move rfl) ?_
    refine AO.p rfl (p_move rfl) ?_
    obtain ⟨k162, hd163⟩ := chk_some hd161
    refine AO.p rfl (s_indexV (q := off p_a0 + x133.toNat * 14) Try.underlying35 Try.sizeOf54 rfl ((S156.view v_a0).rowne a_a0 (by decide) (lt_len rfl (inR_lt k162))) rfl k162 rfl) ?_
    refine AO.c rfl (s_loadN (vs := ints (rw_ a0 x133.toNat)) Try.isAgg54 Try.sizeOf54 rfl (ints_len (rw_len a_a0 (lt_len rfl (inR_lt k162)))) ((S156.view v_a0).row a_a0 (lt_len rfl (inR_lt k162)))) ?_
    obtain ⟨b164, h165, hd166⟩ := bnd_some hd163
    refine AO.c rfl (o_callV (vs := [.agg (ints (rw_ a0 x133.toNat)).toArray]) rfl rfl hc_a1 (hq_a1 G157 S156.ext (rw_ a0 x133.toNat) (rw_len a_a0 (lt_len rfl (inR_lt k162))) b164 h165)) ?_
    refine AO.nil ?_
    refine AX.cond rfl (fun c167 => ?_) (fun c167 => ?_)
    ·have hd168 := bif_t c167 hd166
     refine AX.seq ?_
     refine AX.region ?_
     refine AO.p rfl (p_move rfl) ?_
     refine AO.p rfl (p_assign rfl) ?_
     refine AO.nil ?_
     refine AX.ret ?_
     obtain rfl := some_inj hd168
     have z169 : _ = r150 := hk155
     subst z169
     obtain rfl := some_inj hd152
     exact ⟨.inr rfl, _, res1 rfl (rv_tmp rfl), rfl, (flatB_ok rfl), S156.hold⟩
    ·have hd170 := bif_f c167 hd166
     refine AX.skip ?_
     refine AX.region ?_
     obtain ⟨k171, hd172⟩ := chk_some hd170
     refine AO.p rfl (p_addE rfl rfl k171) ?_
     refine AO.p rfl (p_move rfl) ?_
     refine AO.nil ?_
     obtain rfl := some_inj hd172
     exact ⟨x133 + 1, hk155, (x133 + 1), rfl, S156, Sub.cons' rfl rfl (Sub.cons' rfl rfl (Sub.cons' rfl rfl (Sub.cons' rfl rfl (Sub.nil _))))⟩
   ·have hd174 := bif_f c160 ho154
    refine AX.exit ?_
    obtain rfl := some_inj hd174
    exact ⟨hk155, S156, Sub.nil _⟩
 ·rintro t' G176 ⟨rfl, S175, hsub177⟩
  refine ⟨_, hsub177, ?_⟩
  refine AX.seq ?_
  refine AX.region ?_
  refine AO.p rfl (p_assign rfl) ?_
  refine AO.nil ?_
  refine AX.ret ?_
  obtain rfl := some_inj hd152
  exact ⟨.inr rfl, _, res1 rfl (rv_tmp rfl), rfl, (flatB_ok rfl), S175.hold⟩

set_option maxHeartbeats 4000000 in
theorem W_slices_ContainsFunc_Simpl_Round_impl_Round (fu : Nat) (H : AHeap) (p_a0 : Option Addr) (c_a0 : Nat) (a0 : List (List Int)) (a_a0 : All 14 a0) (v_a0 : Vw H p_a0 a0.length c_a0 (ints a0.flatten)) (f_a1 : FuncId) (fs_a1 cs_a1 : Array Value) (a1 : (List Int) → Option Bool) (hc_a1 : ∀ args w, (callFunc f_a1 args).run Try.prog w = .ok (.enter f_a1 args) w) (hq_a1 : ∀ H', ExtG H H' → ∀ (x0_a1 : List Int) (h_x0_a1 : x0_a1.length = 14) (b : Bool), a1 x0_a1 = some b → ACall Try.prog f_a1 (fs_a1.toList ++ [.agg (ints x0_a1).toArray] ++ cs_a1.toList) H' (.bool b) H') (r0 : Bool) (hd : D_slices_ContainsFunc_Simpl_Round_impl_Round fu a0 a1 = some r0) : ACall Try.prog 151 [.slice p_a0 a0.length c_a0, .func (.func f_a1) fs_a1 cs_a1] H (.bool r0) H := by
 refine ACall.bodyP (N := 9) [(0, .slice p_a0 a0.length c_a0), (1, .func (.func f_a1) fs_a1 cs_a1)] Try.func151 rfl rfl rfl rfl ?_
 unfold D_slices_ContainsFunc_Simpl_Round_impl_Round at hd
 have S0 : St [] H H [] := St.nil H
 refine AX.seq ?_
 refine AX.region ?_
 refine AO.p rfl (p_assign rfl) ?_
 refine AO.nil ?_
 refine AX.seq ?_
 refine AX.region ?_
 refine AO.p rfl (p_move rfl) ?_
 refine AO.p rfl (p_move rfl) ?_
 obtain ⟨x100, h101, hd102⟩ := bnd_some hd
 refine AO.c rfl (o_call (vs := [.slice p_a0 a0.length c_a0, .func (.func f_a1) fs_a1 cs_a1]) rfl Try.call169 (W_slices_IndexFunc_Simpl_Round_impl_Round fu H p_a0 c_a0 a0 a_a0 (S0.view v_a0) f_a1 fs_a1 cs_a1 a1 hc_a1 (fun G' hG => hq_a1 G' (S0.ext.trans hG)) x100 h101)) ?_
 refine AO.p rfl (p_geq rfl rfl) ?_
 refine AO.p rfl (p_assign rfl) ?_
 refine AO.nil ?_
 refine AX.ret ?_
 obtain rfl := some_inj hd102
 exact ⟨.inr rfl, _, res1 rfl (rv_tmp rfl), rfl, (flatB_ok rfl), S0.hold⟩

set_option maxHeartbeats 4000000 in
theorem W_impl_IsSchedule_1 (fu : Nat) (H : AHeap) (a0 : List Int) (h_a0 : a0.length = 14) (i_b0 : Nat) (ro_b0 : Bool) (b0_0 : Int) (p_b0_1 : Option Addr) (c_b0_1 : Nat) (b0_1 : List (List Int)) (a_b0_1 : All 14 b0_1) (v_b0_1 : Vw H p_b0_1 b0_1.length c_b0_1 (ints b0_1.flatten)) (o_b0 : hget H i_b0 = .row ro_b0 ([.int .i64 b0_0, .slice p_b0_1 b0_1.length c_b0_1])) (r0 : Bool) (hd : D_impl_IsSchedule_1 fu a0 b0_0 b0_1 = some r0) : ACall Try.prog 152 [.agg (ints a0).toArray, .pointer (some ⟨i_b0, 0, none⟩)] H (.bool r0) H := by
 refine ACall.bodyP (N := 9) [(0, .agg (ints a0).toArray), (1, .pointer (some ⟨i_b0, 0, none⟩))] Try.func152 rfl rfl rfl rfl ?_
 unfold D_impl_IsSchedule_1 at hd
 have S0 : St [] H H [] := St.nil H
 refine AX.seq ?_
 refine AX.region ?_
 obtain ⟨G100, i101, hii101, hHG100, S102⟩ := S0.new (AObj.row false (ints a0))
 refine AO.c rfl (s_box (i := i101) (cs := ints a0) rfl hii101 rfl hHG100) ?_
 refine AO.p rfl (p_assign rfl) ?_
 refine AO.nil ?_
 refine AX.seq ?_
 refine AX.region ?_
 refine AO.p rfl (s_fieldAddr Try.underlying37 rfl Try.sizeOf2 (by decide) rfl rfl) ?_
 refine AO.c rfl (s_load Try.isAgg2 rfl (row_cell (S102.old o_b0 (by simp)) rfl)) ?_
 refine AO.c rfl (s_loadN (vs := ints a0) Try.isAgg54 Try.sizeOf54 rfl (ints_len h_a0) (row_cells (S102.get (k := 0) rfl))) ?_
 obtain ⟨b104, h105, hd106⟩ := bnd_some hd
 refine AO.c rfl (o_call (vs := [.int .i64 b0_0, .agg (ints a0).toArray]) rfl Try.call139 (W_impl_IsRound fu G100 b0_0 a0 h_a0 b104 h105)) ?_
 refine AO.p rfl (p_not rfl) ?_
 refine AO.p rfl (p_assign rfl) ?_
 refine AO.nil ?_
 refine AX.ret ?_
 obtain rfl := some_inj hd106
 exact ⟨.inr rfl, _, res1 rfl (rv_tmp rfl), rfl, (flatB_ok rfl), S102.hold⟩

set_option maxHeartbeats 4000000 in
theorem W_impl_IsSchedule (fu : Nat) (H : AHeap) (a0_0 : Int) (p_a0_1 : Option Addr) (c_a0_1 : Nat) (a0_1 : List (List Int)) (a_a0_1 : All 14 a0_1) (v_a0_1 : Vw H p_a0_1 a0_1.length c_a0_1 (ints a0_1.flatten)) (r0 : Bool) (hd : D_impl_IsSchedule fu a0_0 a0_1 = some r0) : ACall Try.prog 120 [.agg [.int .i64 a0_0, .slice p_a0_1 a0_1.length c_a0_1].toArray] H (.bool r0) H := by
 refine ACall.bodyP (N := 19) [(0, .agg [.int .i64 a0_0, .slice p_a0_1 a0_1.length c_a0_1].toArray)] Try.func120 rfl rfl rfl rfl ?_
 unfold D_impl_IsSchedule at hd
 have S0 : St [] H H [] := St.nil H
 refine AX.seq ?_
 refine AX.region ?_
 obtain ⟨G100, i101, hii101, hHG100, S102⟩ := S0.new (AObj.row false ([.int .i64 a0_0, .slice p_a0_1 a0_1.length c_a0_1]))
 refine AO.c rfl (s_box (i := i101) (cs := [.int .i64 a0_0, .slice p_a0_1 a0_1.length c_a0_1]) rfl hii101 rfl hHG100) ?_
 refine AO.p rfl (p_assign rfl) ?_
 refine AO.nil ?_
 obtain ⟨r119, hb120, hd121⟩ := bnd_some hd
 refine AX.cut (fun t' H' => ∃ (b118 : Bool), b118 = r119 ∧ St [] H H' [] ∧ Am.Sub [(2, .bool b118)] t') ?_ ?_
 ·skip
  refine AX.region ?_
  refine AO.p rfl (s_fieldAddr Try.underlying37 rfl Try.sizeOf2 (by decide) rfl rfl) ?_
  refine AO.c rfl (s_load Try.isAgg2 rfl (row_cell (S102.get (k := 0) rfl) rfl)) ?_
  obtain ⟨b122, h123, hd124⟩ := bnd_some hb120
  refine AO.c rfl (o_call (vs := [.int .i64 a0_0, .int .i64 2, .int .i64 14]) rfl Try.call52 (W_impl_between fu G100 a0_0 2 14 b122 h123)) ?_
  refine AO.p rfl (p_move rfl) ?_
  refine AO.cases (d := 6) rfl (fun c126 => ?_) (fun c126 => ?_)
  ·have hd127 := bif_t c126 hd124
   refine AO.gp rfl rfl rfl (s_fieldAddr Try.underlying37 rfl Try.sizeOf35 (by decide) rfl rfl) ?_
   refine AO.gc rfl rfl rfl (s_load Try.isAgg35 rfl (row_cell (S102.get (k := 0) rfl) rfl)) ?_
   refine AO.gp rfl rfl rfl (p_len_slice rfl Try.underlying35) ?_
   refine AO.gp rfl rfl rfl (p_leq rfl rfl) ?_
   refine AO.p rfl (p_pickT rfl rfl) ?_
   refine AO.p rfl (p_move rfl) ?_
   refine AO.cases (d := 12) rfl (fun c128 => ?_) (fun c128 => ?_)
   ·have hd129 := bif_t c128 hd127
    refine AO.gp rfl rfl rfl (s_fieldAddr Try.underlying37 rfl Try.sizeOf35 (by decide) rfl rfl) ?_
    refine AO.gc rfl rfl rfl (s_load Try.isAgg35 rfl (row_cell (S102.get (k := 0) rfl) rfl)) ?_
    refine AO.gp rfl rfl rfl (p_makeFunc (fs := []) (cs := [.pointer (some ⟨i101, 0, none⟩)]) rfl rfl) ?_
    obtain ⟨b130, h131, hd132⟩ := bnd_some hd129
    refine AO.gc rfl rfl rfl (o_call (vs := [.slice p_a0_1 a0_1.length c_a0_1, .func (.func 152) #[] #[.pointer (some ⟨i101, 0, none⟩)]]) rfl Try.call151 (W_slices_ContainsFunc_Simpl_Round_impl_Round fu G100 p_a0_1 c_a0_1 a0_1 a_a0_1 (S102.view v_a0_1) 152 #[] #[.pointer (some ⟨i101, 0, none⟩)] (fun x0' => D_impl_IsSchedule_1 fu x0' a0_0 a0_1) Try.call152 (fun G' hG x0' hx0' b' hb' => W_impl_IsSchedule_1 fu G' x0' hx0' i101 false a0_0 p_a0_1 c_a0_1 a0_1 a_a0_1 (hG.view (S102.view v_a0_1)) (hG.get (S102.get (k := 0) rfl)) b' hb') b130 h131)) ?_
    refine AO.gp rfl rfl rfl (p_not rfl) ?_
    refine AO.p rfl (p_pickT rfl rfl) ?_
    refine AO.p rfl (p_assign rfl) ?_
    refine AO.nil ?_
    have S134 := S102.keep 0
    exact ⟨(!b130), (some_inj hd132), S134, Sub.cons' rfl rfl (Sub.nil _)⟩
   ·have hd135 := bif_f c128 hd127
    refine AO.gn rfl rfl rfl ?_
    refine AO.gn rfl rfl rfl ?_
    refine AO.gn rfl rfl rfl ?_
    refine AO.gn rfl rfl rfl ?_
    refine AO.gn rfl rfl rfl ?_
    refine AO.p rfl (p_pickF rfl rfl) ?_
    refine AO.p rfl (p_assign rfl) ?_
    refine AO.nil ?_
    have S136 := S102.keep 0
    exact ⟨false, (some_inj hd135), S136, Sub.cons' rfl rfl (Sub.nil _)⟩
  ·have hd137 := bif_f c126 hd124
   refine AO.gn rfl rfl rfl ?_
   refine AO.gn rfl rfl rfl ?_
   refine AO.gn rfl rfl rfl ?_
   refine AO.gn rfl rfl rfl ?_
   refine AO.p rfl (p_pickF rfl rfl) ?_
   refine AO.p rfl (p_move rfl) ?_
   refine AO.gn rfl rfl rfl ?_
   refine AO.gn rfl rfl rfl ?_
   refine AO.gn rfl rfl rfl ?_
   refine AO.gn rfl rfl rfl ?_
   refine AO.gn rfl rfl rfl ?_
   refine AO.p rfl (p_pickF rfl rfl) ?_
   refine AO.p rfl (p_assign rfl) ?_
   refine AO.nil ?_
   have S138 := S102.keep 0
   exact ⟨false, (some_inj hd137), S138, Sub.cons' rfl rfl (Sub.nil _)⟩
 ·rintro t' G140 ⟨b118, rfl, S139, hsub141⟩
  refine AX.sub hsub141 ?_
  refine AX.ret ?_
  obtain rfl := some_inj hd121
  exact ⟨.inr rfl, _, res1 rfl (rv_tmp rfl), rfl, (flatB_ok rfl), S139.hold⟩

set_option maxHeartbeats 4000000 in
theorem W_impl_scheduleCode (fu : Nat) (H : AHeap) (a0_0 : Int) (p_a0_1 : Option Addr) (c_a0_1 : Nat) (a0_1 : List (List Int)) (a_a0_1 : All 14 a0_1) (v_a0_1 : Vw H p_a0_1 a0_1.length c_a0_1 (ints a0_1.flatten)) (f_a1 : FuncId) (fs_a1 cs_a1 : Array Value) (a1 : Unit → Option Bool) (hc_a1 : ∀ args w, (callFunc f_a1 args).run Try.prog w = .ok (.enter f_a1 args) w) (hq_a1 : ∀ H', ExtG H H' → ∀ (b : Bool), a1 () = some b → ACall Try.prog f_a1 (fs_a1.toList ++ [] ++ cs_a1.toList) H' (.bool b) H') (r0 : Int) (hd : D_impl_scheduleCode fu a0_0 a0_1 a1 = some r0) : ACall Try.prog 68 [.agg [.int .i64 a0_0, .slice p_a0_1 a0_1.length c_a0_1].toArray, .func (.func f_a1) fs_a1 cs_a1] H (.int .i64 r0) H := by
 refine ACall.bodyP (N := 13) [(0, .agg [.int .i64 a0_0, .slice p_a0_1 a0_1.length c_a0_1].toArray), (1, .func (.func f_a1) fs_a1 cs_a1)] Try.func68 rfl rfl rfl rfl ?_
 unfold D_impl_scheduleCode at hd
 have S0 : St [] H H [] := St.nil H
 refine AX.seq ?_
 refine AX.region ?_
 obtain ⟨G100, i101, hii101, hHG100, S102⟩ := S0.new (AObj.row false ([.int .i64 a0_0, .slice p_a0_1 a0_1.length c_a0_1]))
 refine AO.c rfl (s_box (i := i101) (cs := [.int .i64 a0_0, .slice p_a0_1 a0_1.length c_a0_1]) rfl hii101 rfl hHG100) ?_
 refine AO.p rfl (p_assign rfl) ?_
 refine AO.nil ?_
 refine AX.seq ?_
 refine AX.block ?_
 refine AX.seq ?_
 refine AX.region ?_
 refine AO.c rfl (s_loadN (vs := [.int .i64 a0_0, .slice p_a0_1 a0_1.length c_a0_1]) Try.isAgg37 Try.sizeOf37 rfl rfl (row_cells (S102.get (k := 0) rfl))) ?_
 obtain ⟨b104, h105, hd106⟩ := bnd_some hd
 refine AO.c rfl (o_call (vs := [.agg [.int .i64 a0_0, .slice p_a0_1 a0_1.length c_a0_1].toArray]) rfl Try.call120 (W_impl_IsSchedule fu G100 a0_0 p_a0_1 c_a0_1 a0_1 a_a0_1 (S102.view v_a0_1) b104 h105)) ?_
 refine AO.p rfl (p_not rfl) ?_
 refine AO.p rfl (p_assign rfl) ?_
 refine AO.nil ?_
 refine AX.cond rfl (fun c108 => ?_) (fun c108 => ?_)
 ·have hd109 := bif_t c108 hd106
  refine AX.seq ?_
  refine AX.region ?_
  refine AO.p rfl (p_assign rfl) ?_
  refine AO.nil ?_
  refine AX.ret ?_
  obtain rfl := some_inj hd109
  exact ⟨.inr rfl, _, res1 rfl (rv_tmp rfl), rfl, (flatB_ok rfl), S102.hold⟩
 ·have hd110 := bif_f c108 hd106
  refine AX.seq ?_
  refine AX.region ?_
  refine AO.p rfl (p_move rfl) ?_
  obtain ⟨b111, h112, hd113⟩ := bnd_some hd110
  refine AO.c rfl (o_callV (vs := []) rfl rfl hc_a1 (hq_a1 G100 S102.ext  b111 h112)) ?_
  refine AO.p rfl (p_not rfl) ?_
  refine AO.p rfl (p_assign rfl) ?_
  refine AO.nil ?_
  refine AX.cond rfl (fun c114 => ?_) (fun c114 => ?_)
  ·have hd115 := bif_t c114 hd113
   refine AX.seq ?_
   refine AX.region ?_
   refine AO.p rfl (p_assign rfl) ?_
   refine AO.nil ?_
   refine AX.ret ?_
   obtain rfl := some_inj hd115
   exact ⟨.inr rfl, _, res1 rfl (rv_tmp rfl), rfl, (flatB_ok rfl), S102.hold⟩
  ·have hd116 := bif_f c114 hd113
   refine AX.skip ?_
   refine AX.seq ?_
   refine AX.region ?_
   refine AO.p rfl (p_assign rfl) ?_
   refine AO.nil ?_
   refine AX.ret ?_
   obtain rfl := some_inj hd116
   exact ⟨.inr rfl, _, res1 rfl (rv_tmp rfl), rfl, (flatB_ok rfl), S102.hold⟩

end Go.Proofs.Ytdafmafigcljkaa
