/-
 The program computes that, printed by a program. No condition.
-/
import Derived.Test.YtdafmafigcljkaaDTe
import Derived.Test.YtdafmafigcljkaaWA
import Derived.Test.YtdafmafigcljkaaProg
import Derived.KernelRfl
namespace Go.Proofs.Ytdafmafigcljkaa
open Go Go.RowKit Am
set_option linter.unusedVariables false
set_option linter.unusedSimpArgs false
set_option maxRecDepth 20000
set_option maxHeartbeats 4000000 in
theorem W_laws_likeInts (fu : Nat) (H : AHeap) (p_a0 : Option Addr) (c_a0 : Nat) (a0 : List Int) (v_a0 : Vw H p_a0 a0.length c_a0 (ints a0)) (p_a1 : Option Addr) (c_a1 : Nat) (a1 : List Int) (v_a1 : Vw H p_a1 a1.length c_a1 (ints a1)) (r0 : Bool) (hd : D_laws_likeInts fu a0 a1 = some r0) : ACall Try.prog 40 [.slice p_a0 a0.length c_a0, .slice p_a1 a1.length c_a1] H (.bool r0) H := by
 refine ACall.bodyP (N := 26) [(0, .slice p_a0 a0.length c_a0), (1, .slice p_a1 a1.length c_a1)] Try.func40 rfl rfl rfl rfl ?_
 unfold D_laws_likeInts at hd
 have S0 : St [] H H [] := St.nil H
 refine AX.seq ?_
 refine AX.region ?_
 refine AO.p rfl (p_assign rfl) ?_
 refine AO.nil ?_
 refine AX.seq ?_
 refine AX.seq ?_
 refine AX.region ?_
 refine AO.p rfl (p_move rfl) ?_
 refine AO.p rfl (p_len_slice rfl Try.underlying58) ?_
 refine AO.p rfl (p_move rfl) ?_
 refine AO.p rfl (p_len_slice rfl Try.underlying58) ?_
 refine AO.p rfl (p_neq rfl rfl) ?_
 refine AO.nil ?_
 refine AX.cond rfl (fun c100 => ?_) (fun c100 => ?_)
 ·have hd101 := bif_t c100 hd
  refine AX.seq ?_
  refine AX.region ?_
  refine AO.p rfl (p_assign rfl) ?_
  refine AO.nil ?_
  refine AX.ret ?_
  obtain rfl := some_inj hd101
  exact ⟨.inr rfl, _, res1 rfl (rv_tmp rfl), rfl, (flatB_ok rfl), S0.hold⟩
 ·have hd102 := bif_f c100 hd
  refine AX.skip ?_
  refine AX.seq ?_
  refine AX.seq ?_
  refine AX.region ?_
  refine AO.p rfl (p_assign rfl) ?_
  refine AO.nil ?_
  obtain ⟨r150, hl151, hd152⟩ := bnd_some hd102
  refine AX.cutS (fun t' H' => .inl () = r150 ∧ St [] H H' [] ∧ Am.Sub [] t') ?_ ?_
  ·refine AX.block ?_
   refine AX.loopF (fun s' t' H' => ∃ (x134 : Int), x134 = s' ∧ St [] H H' [] ∧ Am.Sub [(0, .slice p_a0 a0.length c_a0), (1, .slice p_a1 a1.length c_a1), (5, .int .i64 x134)] t') hl151 ?_ ?_
   ·skip
    exact ⟨0, rfl, S0, Sub.cons' rfl rfl (Sub.cons' rfl rfl (Sub.cons' rfl rfl (Sub.nil _)))⟩
   ·rintro n153 _ t' G157 ⟨x134, rfl, S156, hsub158⟩ o159 ho154 hk155
    refine AX.sub hsub158 ?_
    unfold D_laws_likeInts_s0 at ho154
    refine AX.seq ?_
    refine AX.seq ?_
    refine AX.region ?_
    refine AO.p rfl (p_move rfl) ?_
    refine AO.p rfl (p_move rfl) ?_
    refine AO.p rfl (p_len_slice rfl Try.underlying58) ?_
    refine AO.p rfl (p_lss rfl rfl) ?_
    refine AO.nil ?_
    refine AX.cond rfl (fun c160 => ?_) (fun c160 => ?_)
    ·have hd161 := bif_t c160 ho154
     refine AX.skip ?_
     refine AX.seq ?_
     refine AX.block ?_
     refine AX.seq ?_
     refine DR.startS [false, false, false, false, false, false, false, false, false] mix (by kernel_rfl) (fun hst => ?_)
     refine DR.p rfl rfl (p_move rfl) ?_
     refine DR.p rfl rfl (p_move rfl) ?_
     obtain ⟨k162, hd163⟩ := chk_some hd161
     refine DR.p rfl rfl (s_indexV (q := off p_a0 + x134.toNat) Try.underlying58 Try.sizeOf2 rfl ((S156.view v_a0).p (ints_get (lt_len rfl (inR_lt k162)))) rfl k162 (o1 _ _)) ?_
     refine DR.r rfl rfl (r_load rfl Try.isAgg2) (one_read ((S156.view v_a0).get _ _ (ints_get (lt_len rfl (inR_lt k162)))) (.of_flat0 rfl)) ?_
     refine DR.p rfl rfl (p_move rfl) ?_
     refine DR.p rfl rfl (p_move rfl) ?_
     obtain ⟨k164, hd165⟩ := chk_some hd163
     refine DR.p rfl rfl (s_indexV (q := off p_a1 + x134.toNat) Try.underlying58 Try.sizeOf2 rfl ((S156.view v_a1).p (ints_get (lt_len rfl (inR_lt k164)))) rfl k164 (o1 _ _)) ?_
     refine DR.r rfl rfl (r_load rfl Try.isAgg2) (one_read ((S156.view v_a1).get _ _ (ints_get (lt_len rfl (inR_lt k164)))) (.of_flat0 rfl)) ?_
     refine DR.p rfl rfl (p_neq rfl rfl) ?_
     refine DR.nil 9 [] hst (by kernel_rfl) trivial ?_
     refine AX.cond rfl (fun c166 => ?_) (fun c166 => ?_)
     ·have hd167 := bif_t c166 hd165
      refine AX.seq ?_
      refine AX.region ?_
      refine AO.p rfl (p_assign rfl) ?_
      refine AO.nil ?_
      refine AX.ret ?_
      obtain rfl := some_inj hd167
      have z168 : _ = r150 := hk155
      subst z168
      obtain rfl := some_inj hd152
      exact ⟨.inr rfl, _, res1 rfl (rv_tmp rfl), rfl, (flatB_ok rfl), S156.hold⟩
     ·have hd169 := bif_f c166 hd165
      refine AX.skip ?_
      refine AX.region ?_
      refine AO.p rfl (p_move rfl) ?_
      obtain ⟨k170, hd171⟩ := chk_some hd169
      refine AO.p rfl (p_addE rfl rfl k170) ?_
      refine AO.p rfl (p_assign rfl) ?_
      refine AO.nil ?_
      obtain rfl := some_inj hd171
      exact ⟨x134 + 1, hk155, (x134 + 1), rfl, S156, Sub.cons' rfl rfl (Sub.cons' rfl rfl (Sub.cons' rfl rfl (Sub.nil _)))⟩
    ·have hd173 := bif_f c160 ho154
     refine AX.exit ?_
     obtain rfl := some_inj hd173
     exact ⟨hk155, S156, Sub.nil _⟩
  ·rintro t' G175 ⟨rfl, S174, hsub176⟩
   refine ⟨_, hsub176, ?_⟩
   refine AX.seq ?_
   refine AX.region ?_
   refine AO.p rfl (p_assign rfl) ?_
   refine AO.nil ?_
   refine AX.ret ?_
   obtain rfl := some_inj hd152
   exact ⟨.inr rfl, _, res1 rfl (rv_tmp rfl), rfl, (flatB_ok rfl), S174.hold⟩

set_option maxHeartbeats 4000000 in
theorem W_laws_rows9 (fu : Nat) (H : AHeap) (p_a0 : Option Addr) (c_a0 : Nat) (T_a0 : Tb) (a0 : List (List Int)) (t_a0 : trows T_a0 = a0) (v_a0 : Vw H p_a0 a0.length c_a0 (tcells T_a0)) (w_a0 : TVw H T_a0) (p_a1 : Option Addr) (c_a1 : Nat) (T_a1 : Tb) (a1 : List (List Int)) (t_a1 : trows T_a1 = a1) (v_a1 : Vw H p_a1 a1.length c_a1 (tcells T_a1)) (w_a1 : TVw H T_a1) (r0 : Bool) (hd : D_laws_rows9 fu a0 a1 = some r0) : ACall Try.prog 37 [.slice p_a0 a0.length c_a0, .slice p_a1 a1.length c_a1] H (.bool r0) H := by
 refine ACall.bodyP (N := 27) [(0, .slice p_a0 a0.length c_a0), (1, .slice p_a1 a1.length c_a1)] Try.func37 rfl rfl rfl rfl ?_
 unfold D_laws_rows9 at hd
 have S0 : St [] H H [] := St.nil H
 refine AX.seq ?_
 refine AX.region ?_
 refine AO.p rfl (p_assign rfl) ?_
 refine AO.nil ?_
 refine AX.seq ?_
 refine AX.seq ?_
 refine AX.region ?_
 refine AO.p rfl (p_move rfl) ?_
 refine AO.p rfl (p_len_slice rfl Try.underlying43) ?_
 refine AO.p rfl (p_move rfl) ?_
 refine AO.p rfl (p_len_slice rfl Try.underlying43) ?_
 refine AO.p rfl (p_neq rfl rfl) ?_
 refine AO.nil ?_
 refine AX.cond rfl (fun c100 => ?_) (fun c100 => ?_)
 ·have hd101 := bif_t c100 hd
  refine AX.seq ?_
  refine AX.region ?_
  refine AO.p rfl (p_assign rfl) ?_
  refine AO.nil ?_
  refine AX.ret ?_
  obtain rfl := some_inj hd101
  exact ⟨.inr rfl, _, res1 rfl (rv_tmp rfl), rfl, (flatB_ok rfl), S0.hold⟩
 ·have hd102 := bif_f c100 hd
  refine AX.skip ?_
  refine AX.seq ?_
  refine AX.seq ?_
  refine AX.region ?_
  refine AO.p rfl (p_assign rfl) ?_
  refine AO.nil ?_
  obtain ⟨r186, hl187, hd188⟩ := bnd_some hd102
  refine AX.cutS (fun t' H' => .inl () = r186 ∧ St [] H H' [] ∧ Am.Sub [] t') ?_ ?_
  ·refine AX.block ?_
   refine AX.loopF (fun s' t' H' => ∃ (x158 : Int), x158 = s' ∧ St [] H H' [] ∧ Am.Sub [(0, .slice p_a0 a0.length c_a0), (1, .slice p_a1 a1.length c_a1), (5, .int .i64 x158)] t') hl187 ?_ ?_
   ·skip
    exact ⟨0, rfl, S0, Sub.cons' rfl rfl (Sub.cons' rfl rfl (Sub.cons' rfl rfl (Sub.nil _)))⟩
   ·rintro n189 _ t' G193 ⟨x158, rfl, S192, hsub194⟩ o195 ho190 hk191
    refine AX.sub hsub194 ?_
    unfold D_laws_rows9_s0 at ho190
    refine AX.seq ?_
    refine AX.seq ?_
    refine AX.region ?_
    refine AO.p rfl (p_move rfl) ?_
    refine AO.p rfl (p_move rfl) ?_
    refine AO.p rfl (p_len_slice rfl Try.underlying43) ?_
    refine AO.p rfl (p_lss rfl rfl) ?_
    refine AO.nil ?_
    refine AX.cond rfl (fun c196 => ?_) (fun c196 => ?_)
    ·have hd197 := bif_t c196 ho190
     refine AX.skip ?_
     refine AX.seq ?_
     refine AX.block ?_
     refine AX.seq ?_
     refine DR.startS [false, false, false, false, false, false, false, false, true, false] mix (by kernel_rfl) (fun hst => ?_)
     refine DR.p rfl rfl (p_move rfl) ?_
     refine DR.p rfl rfl (p_move rfl) ?_
     obtain ⟨k198, hd199⟩ := chk_some hd197
     obtain ⟨p200, c201, e202, f203⟩ := tget t_a0 (lt_len rfl (inR_lt k198))
     refine DR.p rfl rfl (s_indexV (q := off p_a0 + x158.toNat) Try.underlying43 Try.sizeOf58 rfl ((S192.view v_a0).p f203) rfl k198 (o1 _ _)) ?_
     refine DR.r rfl rfl (r_load rfl Try.isAgg58) (one_read ((S192.view v_a0).get _ _ f203) (TVw.at (S192.tview w_a0) e202).inn.bel) ?_
     refine DR.p rfl rfl (p_move rfl) ?_
     refine DR.p rfl rfl (p_move rfl) ?_
     obtain ⟨k204, hd205⟩ := chk_some hd199
     obtain ⟨p206, c207, e208, f209⟩ := tget t_a1 (lt_len rfl (inR_lt k204))
     refine DR.p rfl rfl (s_indexV (q := off p_a1 + x158.toNat) Try.underlying43 Try.sizeOf58 rfl ((S192.view v_a1).p f209) rfl k204 (o1 _ _)) ?_
     refine DR.r rfl rfl (r_load rfl Try.isAgg58) (one_read ((S192.view v_a1).get _ _ f209) (TVw.at (S192.tview w_a1) e208).inn.bel) ?_
     obtain ⟨b210, h211, hd212⟩ := bnd_some hd205
     refine DR.w rfl rfl (o_call (vs := [.slice p200 ((rw_ a0 x158.toNat).length) c201, .slice p206 ((rw_ a1 x158.toNat).length) c207]) rfl Try.call40 (W_laws_likeInts fu G193 p200 c201 (rw_ a0 x158.toNat) (TVw.at (S192.tview w_a0) e202) p206 c207 (rw_ a1 x158.toNat) (TVw.at (S192.tview w_a1) e208) b210 h211)) (Nat.le_refl _) ?_
     refine DR.p rfl rfl (p_not rfl) ?_
     refine DR.nil 10 [] hst (by kernel_rfl) trivial ?_
     refine AX.cond rfl (fun c214 => ?_) (fun c214 => ?_)
     ·have hd215 := bif_t c214 hd212
      refine AX.seq ?_
      refine AX.region ?_
      refine AO.p rfl (p_assign rfl) ?_
      refine AO.nil ?_
      refine AX.ret ?_
      obtain rfl := some_inj hd215
      have z216 : _ = r186 := hk191
      subst z216
      obtain rfl := some_inj hd188
      exact ⟨.inr rfl, _, res1 rfl (rv_tmp rfl), rfl, (flatB_ok rfl), S192.hold⟩
     ·have hd217 := bif_f c214 hd212
      refine AX.skip ?_
      refine AX.region ?_
      refine AO.p rfl (p_move rfl) ?_
      obtain ⟨k218, hd219⟩ := chk_some hd217
      refine AO.p rfl (p_addE rfl rfl k218) ?_
      refine AO.p rfl (p_assign rfl) ?_
      refine AO.nil ?_
      obtain rfl := some_inj hd219
      exact ⟨x158 + 1, hk191, (x158 + 1), rfl, S192, Sub.cons' rfl rfl (Sub.cons' rfl rfl (Sub.cons' rfl rfl (Sub.nil _)))⟩
    ·have hd221 := bif_f c196 ho190
     refine AX.exit ?_
     obtain rfl := some_inj hd221
     exact ⟨hk191, S192, Sub.nil _⟩
  ·rintro t' G223 ⟨rfl, S222, hsub224⟩
   refine ⟨_, hsub224, ?_⟩
   refine AX.seq ?_
   refine AX.region ?_
   refine AO.p rfl (p_assign rfl) ?_
   refine AO.nil ?_
   refine AX.ret ?_
   obtain rfl := some_inj hd188
   exact ⟨.inr rfl, _, res1 rfl (rv_tmp rfl), rfl, (flatB_ok rfl), S222.hold⟩

set_option maxHeartbeats 4000000 in
theorem W_laws_sum (fu : Nat) (H : AHeap) (p_a0 : Option Addr) (c_a0 : Nat) (a0 : List Int) (v_a0 : Vw H p_a0 a0.length c_a0 (ints a0)) (r0 : Int) (hd : D_laws_sum fu a0 = some r0) : ACall Try.prog 48 [.slice p_a0 a0.length c_a0] H (.int .i64 r0) H := by
 refine ACall.bodyP (N := 18) [(0, .slice p_a0 a0.length c_a0)] Try.func48 rfl rfl rfl rfl ?_
 unfold D_laws_sum at hd
 have S0 : St [] H H [] := St.nil H
 refine AX.seq ?_
 refine AX.region ?_
 refine AO.p rfl (p_assign rfl) ?_
 refine AO.nil ?_
 refine AX.seq ?_
 refine AX.region ?_
 refine AO.p rfl (p_assign rfl) ?_
 refine AO.nil ?_
 refine AX.seq ?_
 refine AX.seq ?_
 refine AX.region ?_
 refine AO.p rfl (p_assign rfl) ?_
 refine AO.nil ?_
 obtain ⟨r141, hl142, hd143⟩ := bnd_some hd
 refine AX.cutS (fun t' H' => ∃ (x140 : Int), x140 = r141 ∧ St [] H H' [] ∧ Am.Sub [(3, .int .i64 x140)] t') ?_ ?_
 ·refine AX.block ?_
  refine AX.loopF (fun s' t' H' => ∃ (x126 : Int) (x127 : Int), (x126, x127) = s' ∧ St [] H H' [] ∧ Am.Sub [(0, .slice p_a0 a0.length c_a0), (3, .int .i64 x126), (4, .int .i64 x127)] t') hl142 ?_ ?_
  ·skip
   exact ⟨0, 0, rfl, S0, Sub.cons' rfl rfl (Sub.cons' rfl rfl (Sub.cons' rfl rfl (Sub.nil _)))⟩
  ·rintro n144 _ t' G148 ⟨x126, x127, rfl, S147, hsub149⟩ o150 ho145 hk146
   refine AX.sub hsub149 ?_
   unfold D_laws_sum_s0 at ho145
   refine AX.seq ?_
   refine AX.seq ?_
   refine AX.region ?_
   refine AO.p rfl (p_move rfl) ?_
   refine AO.p rfl (p_move rfl) ?_
   refine AO.p rfl (p_len_slice rfl Try.underlying58) ?_
   refine AO.p rfl (p_lss rfl rfl) ?_
   refine AO.nil ?_
   refine AX.cond rfl (fun c151 => ?_) (fun c151 => ?_)
   ·have hd152 := bif_t c151 ho145
    refine AX.skip ?_
    refine AX.seq ?_
    refine AX.block ?_
    refine AX.region ?_
    refine AO.p rfl (p_move rfl) ?_
    refine AO.p rfl (p_move rfl) ?_
    refine AO.p rfl (p_move rfl) ?_
    obtain ⟨k153, hd154⟩ := chk_some hd152
    refine AO.p rfl (s_indexV (q := off p_a0 + x127.toNat) Try.underlying58 Try.sizeOf2 rfl ((S147.view v_a0).p (ints_get (lt_len rfl (inR_lt k153)))) rfl k153 (o1 _ _)) ?_
    refine AO.c rfl (s_load Try.isAgg2 rfl ((S147.view v_a0).get _ _ (ints_get (lt_len rfl (inR_lt k153))))) ?_
    obtain ⟨k155, hd156⟩ := chk_some hd154
    refine AO.p rfl (p_addE rfl rfl k155) ?_
    refine AO.p rfl (p_assign rfl) ?_
    refine AO.nil ?_
    refine AX.region ?_
    refine AO.p rfl (p_move rfl) ?_
    obtain ⟨k157, hd158⟩ := chk_some hd156
    refine AO.p rfl (p_addE rfl rfl k157) ?_
    refine AO.p rfl (p_assign rfl) ?_
    refine AO.nil ?_
    obtain rfl := some_inj hd158
    exact ⟨(x126 + (rd a0 x127.toNat), x127 + 1), hk146, (x126 + (rd a0 x127.toNat)), (x127 + 1), rfl, S147, Sub.cons' rfl rfl (Sub.cons' rfl rfl (Sub.cons' rfl rfl (Sub.nil _)))⟩
   ·have hd160 := bif_f c151 ho145
    refine AX.exit ?_
    obtain rfl := some_inj hd160
    exact ⟨x126, hk146, S147, Sub.cons' rfl rfl (Sub.nil _)⟩
 ·rintro t' G162 ⟨x140, rfl, S161, hsub163⟩
  refine ⟨_, hsub163, ?_⟩
  refine AX.seq ?_
  refine AX.region ?_
  refine AO.p rfl (p_move rfl) ?_
  refine AO.p rfl (p_assign rfl) ?_
  refine AO.nil ?_
  refine AX.ret ?_
  obtain rfl := some_inj hd143
  exact ⟨.inr rfl, _, res1 rfl (rv_tmp rfl), rfl, (flatB_ok rfl), S161.hold⟩

set_option maxHeartbeats 4000000 in
theorem W_laws_hasInt (fu : Nat) (H : AHeap) (p_a0 : Option Addr) (c_a0 : Nat) (a0 : List Int) (v_a0 : Vw H p_a0 a0.length c_a0 (ints a0)) (a1 : Int) (r0 : Bool) (hd : D_laws_hasInt fu a0 a1 = some r0) : ACall Try.prog 49 [.slice p_a0 a0.length c_a0, .int .i64 a1] H (.bool r0) H := by
 refine ACall.bodyP (N := 18) [(0, .slice p_a0 a0.length c_a0), (1, .int .i64 a1)] Try.func49 rfl rfl rfl rfl ?_
 unfold D_laws_hasInt at hd
 have S0 : St [] H H [] := St.nil H
 refine AX.seq ?_
 refine AX.region ?_
 refine AO.p rfl (p_assign rfl) ?_
 refine AO.nil ?_
 refine AX.seq ?_
 refine AX.seq ?_
 refine AX.region ?_
 refine AO.p rfl (p_assign rfl) ?_
 refine AO.nil ?_
 obtain ⟨r141, hl142, hd143⟩ := bnd_some hd
 refine AX.cutS (fun t' H' => .inl () = r141 ∧ St [] H H' [] ∧ Am.Sub [] t') ?_ ?_
 ·refine AX.block ?_
  refine AX.loopF (fun s' t' H' => ∃ (x127 : Int), x127 = s' ∧ St [] H H' [] ∧ Am.Sub [(0, .slice p_a0 a0.length c_a0), (1, .int .i64 a1), (5, .int .i64 x127)] t') hl142 ?_ ?_
  ·skip
   exact ⟨0, rfl, S0, Sub.cons' rfl rfl (Sub.cons' rfl rfl (Sub.cons' rfl rfl (Sub.nil _)))⟩
  ·rintro n144 _ t' G148 ⟨x127, rfl, S147, hsub149⟩ o150 ho145 hk146
   refine AX.sub hsub149 ?_
   unfold D_laws_hasInt_s0 at ho145
   refine AX.seq ?_
   refine AX.seq ?_
   refine AX.region ?_
   refine AO.p rfl (p_move rfl) ?_
   refine AO.p rfl (p_move rfl) ?_
   refine AO.p rfl (p_len_slice rfl Try.underlying58) ?_
   refine AO.p rfl (p_lss rfl rfl) ?_
   refine AO.nil ?_
   refine AX.cond rfl (fun c151 => ?_) (fun c151 => ?_)
   ·have hd152 := bif_t c151 ho145
    refine AX.skip ?_
    refine AX.seq ?_
    refine AX.block ?_
    refine AX.seq ?_
    refine AX.region ?_
    refine AO.p rfl (p_move rfl) ?_
    refine AO.p rfl (p_move rfl) ?_
    obtain ⟨k153, hd154⟩ := chk_some hd152
    refine AO.p rfl (s_indexV (q := off p_a0 + x127.toNat) Try.underlying58 Try.sizeOf2 rfl ((S147.view v_a0).p (ints_get (lt_len rfl (inR_lt k153)))) rfl k153 (o1 _ _)) ?_
    refine AO.c rfl (s_load Try.isAgg2 rfl ((S147.view v_a0).get _ _ (ints_get (lt_len rfl (inR_lt k153))))) ?_
    refine AO.p rfl (p_move rfl) ?_
    refine AO.p rfl (p_eql rfl rfl) ?_
    refine AO.nil ?_
    refine AX.cond rfl (fun c155 => ?_) (fun c155 => ?_)
    ·have hd156 := bif_t c155 hd154
     refine AX.seq ?_
     refine AX.region ?_
     refine AO.p rfl (p_assign rfl) ?_
     refine AO.nil ?_
     refine AX.ret ?_
     obtain rfl := some_inj hd156
     have z157 : _ = r141 := hk146
     subst z157
     obtain rfl := some_inj hd143
     exact ⟨.inr rfl, _, res1 rfl (rv_tmp rfl), rfl, (flatB_ok rfl), S147.hold⟩
    ·have hd158 := bif_f c155 hd154
     refine AX.skip ?_
     refine AX.region ?_
     refine AO.p rfl (p_move rfl) ?_
     obtain ⟨k159, hd160⟩ := chk_some hd158
     refine AO.p rfl (p_addE rfl rfl k159) ?_
     refine AO.p rfl (p_assign rfl) ?_
     refine AO.nil ?_
     obtain rfl := some_inj hd160
     exact ⟨x127 + 1, hk146, (x127 + 1), rfl, S147, Sub.cons' rfl rfl (Sub.cons' rfl rfl (Sub.cons' rfl rfl (Sub.nil _)))⟩
   ·have hd162 := bif_f c151 ho145
    refine AX.exit ?_
    obtain rfl := some_inj hd162
    exact ⟨hk146, S147, Sub.nil _⟩
 ·rintro t' G164 ⟨rfl, S163, hsub165⟩
  refine ⟨_, hsub165, ?_⟩
  refine AX.seq ?_
  refine AX.region ?_
  refine AO.p rfl (p_assign rfl) ?_
  refine AO.nil ?_
  refine AX.ret ?_
  obtain rfl := some_inj hd143
  exact ⟨.inr rfl, _, res1 rfl (rv_tmp rfl), rfl, (flatB_ok rfl), S163.hold⟩

end Go.Proofs.Ytdafmafigcljkaa
