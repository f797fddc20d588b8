/-
  The program computes that, printed by a program. No condition.
-/
import Derived.Test.YtdafmafigcljkaaDN
import Derived.Test.YtdafmafigcljkaaWM
import Derived.Test.YtdafmafigcljkaaPl
import Derived.Test.YtdafmafigcljkaaProg
import Derived.KernelRfl
namespace Go.Proofs.Ytdafmafigcljkaa
open Go Go.RowKit Am
set_option linter.unusedVariables false
set_option linter.unusedSimpArgs false
set_option maxRecDepth 20000
set_option maxHeartbeats 4000000 in
theorem W_laws_eqInt64SSS (fu : Nat) (H : AHeap) (p_a0 : Option Addr) (c_a0 : Nat) (T_a0 : Tb3) (a0 : List (List (List Int))) (t_a0 : trows3 T_a0 = a0) (v_a0 : Vw H p_a0 a0.length c_a0 (tcells3 T_a0)) (w_a0 : TVw3 H T_a0) (p_a1 : Option Addr) (c_a1 : Nat) (T_a1 : Tb3) (a1 : List (List (List Int))) (t_a1 : trows3 T_a1 = a1) (v_a1 : Vw H p_a1 a1.length c_a1 (tcells3 T_a1)) (w_a1 : TVw3 H T_a1) (r0 : Bool) (hd : D_laws_eqInt64SSS fu a0 a1 = some r0) : ACall Try.prog 14 [.slice p_a0 a0.length c_a0, .slice p_a1 a1.length c_a1] H (.bool r0) H := by
  refine ACall.bodyP (N := 27) [(0, .slice p_a0 a0.length c_a0), (1, .slice p_a1 a1.length c_a1)] Try.func14 rfl rfl rfl rfl ?_
  unfold D_laws_eqInt64SSS at hd
  have S0 : St [] H H [] := St.nil H
  refine AX.seq ?_
  refine AX.region ?_
  refine AO.p rfl (p_assign rfl) ?_
  refine AO.nil ?_
  refine AX.seq ?_
  refine AX.seq ?_
  refine AX.region ?_
  refine AO.p rfl (p_move rfl) ?_
  refine AO.p rfl (p_len_slice rfl Try.underlying25) ?_
  refine AO.p rfl (p_move rfl) ?_
  refine AO.p rfl (p_len_slice rfl Try.underlying25) ?_
  refine AO.p rfl (p_neq rfl rfl) ?_
  refine AO.nil ?_
  refine AX.cond rfl (fun c100 => ?_) (fun c100 => ?_)
  · have hd101 := bif_t c100 hd
    refine AX.seq ?_
    refine AX.region ?_
    refine AO.p rfl (p_assign rfl) ?_
    refine AO.nil ?_
    refine AX.ret ?_
    obtain rfl := some_inj hd101
    exact ⟨.inr rfl, _, res1 rfl (rv_tmp rfl), rfl, (flatB_ok rfl), S0.hold⟩
  · have hd102 := bif_f c100 hd
    refine AX.skip ?_
    refine AX.seq ?_
    refine AX.seq ?_
    refine AX.region ?_
    refine AO.p rfl (p_assign rfl) ?_
    refine AO.nil ?_
    obtain ⟨r198, hl199, hd200⟩ := bnd_some hd102
    refine AX.cutS (fun t' H' => .inl () = r198 ∧ St [] H H' [] ∧ Am.Sub [] t') ?_ ?_
    · refine AX.block ?_
      refine AX.loopF (fun s' t' H' => ∃ (x166 : Int), x166 = s' ∧ St [] H H' [] ∧ Am.Sub [(0, .slice p_a0 a0.length c_a0), (1, .slice p_a1 a1.length c_a1), (5, .int .i64 x166)] t') hl199 ?_ ?_
      · skip
        exact ⟨0, rfl, S0, Sub.cons' rfl rfl (Sub.cons' rfl rfl (Sub.cons' rfl rfl (Sub.nil _)))⟩
      · rintro n201 _ t' G205 ⟨x166, rfl, S204, hsub206⟩ o207 ho202 hk203
        refine AX.sub hsub206 ?_
        unfold D_laws_eqInt64SSS_s0 at ho202
        refine AX.seq ?_
        refine AX.seq ?_
        refine AX.region ?_
        refine AO.p rfl (p_move rfl) ?_
        refine AO.p rfl (p_move rfl) ?_
        refine AO.p rfl (p_len_slice rfl Try.underlying25) ?_
        refine AO.p rfl (p_lss rfl rfl) ?_
        refine AO.nil ?_
        refine AX.cond rfl (fun c208 => ?_) (fun c208 => ?_)
        · have hd209 := bif_t c208 ho202
          refine AX.skip ?_
          refine AX.seq ?_
          refine AX.block ?_
          refine AX.seq ?_
          refine DR.startS [false, false, false, false, false, false, false, false, true, false] mix (by kernel_rfl) (fun hst => ?_)
          refine DR.p rfl rfl (p_move rfl) ?_
          refine DR.p rfl rfl (p_move rfl) ?_
          obtain ⟨k210, hd211⟩ := chk_some hd209
          obtain ⟨p212, c213, T216, e214, f215, t217⟩ := tget3 t_a0 (lt_len rfl (inR_lt k210))
          refine DR.p rfl rfl (s_indexV (q := off p_a0 + x166.toNat) Try.underlying25 Try.sizeOf43 rfl ((S204.view v_a0).p f215) rfl k210 (o1 _ _)) ?_
          refine DR.r rfl rfl (r_load rfl Try.isAgg43) (one_read ((S204.view v_a0).get _ _ f215) (S204.view (w_a0.at1 e214 t217 rfl)).inn.bel) ?_
          refine DR.p rfl rfl (p_move rfl) ?_
          refine DR.p rfl rfl (p_move rfl) ?_
          obtain ⟨k218, hd219⟩ := chk_some hd211
          obtain ⟨p220, c221, T224, e222, f223, t225⟩ := tget3 t_a1 (lt_len rfl (inR_lt k218))
          refine DR.p rfl rfl (s_indexV (q := off p_a1 + x166.toNat) Try.underlying25 Try.sizeOf43 rfl ((S204.view v_a1).p f223) rfl k218 (o1 _ _)) ?_
          refine DR.r rfl rfl (r_load rfl Try.isAgg43) (one_read ((S204.view v_a1).get _ _ f223) (S204.view (w_a1.at1 e222 t225 rfl)).inn.bel) ?_
          obtain ⟨b226, h227, hd228⟩ := bnd_some hd219
          refine DR.w rfl rfl (o_call (vs := [.slice p212 ((rw3 a0 x166.toNat).length) c213, .slice p220 ((rw3 a1 x166.toNat).length) c221]) rfl Try.call26 (W_laws_eqInt64SS fu G205 p212 c213 T216 (rw3 a0 x166.toNat) t217 (S204.view (w_a0.at1 e214 t217 rfl)) (S204.tview (w_a0.at2 e214)) p220 c221 T224 (rw3 a1 x166.toNat) t225 (S204.view (w_a1.at1 e222 t225 rfl)) (S204.tview (w_a1.at2 e222)) b226 h227)) (Nat.le_refl _) ?_
          refine DR.p rfl rfl (p_not rfl) ?_
          refine DR.nil 10 [] hst (by kernel_rfl) trivial ?_
          refine AX.cond rfl (fun c230 => ?_) (fun c230 => ?_)
          · have hd231 := bif_t c230 hd228
            refine AX.seq ?_
            refine AX.region ?_
            refine AO.p rfl (p_assign rfl) ?_
            refine AO.nil ?_
            refine AX.ret ?_
            obtain rfl := some_inj hd231
            have z232 : _ = r198 := hk203
            subst z232
            obtain rfl := some_inj hd200
            exact ⟨.inr rfl, _, res1 rfl (rv_tmp rfl), rfl, (flatB_ok rfl), S204.hold⟩
          · have hd233 := bif_f c230 hd228
            refine AX.skip ?_
            refine AX.region ?_
            refine AO.p rfl (p_move rfl) ?_
            obtain ⟨k234, hd235⟩ := chk_some hd233
            refine AO.p rfl (p_addE rfl rfl k234) ?_
            refine AO.p rfl (p_assign rfl) ?_
            refine AO.nil ?_
            obtain rfl := some_inj hd235
            exact ⟨x166 + 1, hk203, (x166 + 1), rfl, S204, Sub.cons' rfl rfl (Sub.cons' rfl rfl (Sub.cons' rfl rfl (Sub.nil _)))⟩
        · have hd237 := bif_f c208 ho202
          refine AX.exit ?_
          obtain rfl := some_inj hd237
          exact ⟨hk203, S204, Sub.nil _⟩
    · rintro t' G239 ⟨rfl, S238, hsub240⟩
      refine ⟨_, hsub240, ?_⟩
      refine AX.seq ?_
      refine AX.region ?_
      refine AO.p rfl (p_assign rfl) ?_
      refine AO.nil ?_
      refine AX.ret ?_
      obtain rfl := some_inj hd200
      exact ⟨.inr rfl, _, res1 rfl (rv_tmp rfl), rfl, (flatB_ok rfl), S238.hold⟩

set_option maxHeartbeats 4000000 in
theorem W_laws_markInt64SSS (fu : Nat) (H : AHeap) (p_a0 : Option Addr) (c_a0 : Nat) (T_a0 : Tb3) (a0 : List (List (List Int))) (t_a0 : trows3 T_a0 = a0) (s_a0 : Sb p_a0 a0.length c_a0 1) (z_a0 : TSb3 T_a0) (a1 : Int) (hn : ((oseg p_a0 (tcells3 T_a0) ++ (t3seg T_a0)).map (·.1)).Nodup) (ho : ∀ x ∈ oseg p_a0 (tcells3 T_a0) ++ (t3seg T_a0), x.1 < H.length ∧ hget H x.1 = x.2) (r0 : Int) (m_a0 : List (List (List Int))) (hd : D_laws_markInt64SSS fu a0 a1 = some (r0, m_a0)) : ∃ v G', ACall Try.prog 15 [.slice p_a0 a0.length c_a0, .int .i64 a1] H v G' ∧ ∃ (T_a0' : Tb3), (v = .int .i64 r0) ∧ St ((oseg p_a0 (tcells3 T_a0) ++ (t3seg T_a0)).map (·.1)) H G' [oseg p_a0 (tcells3 T_a0'), t3seg T_a0'] ∧ trows3 T_a0' = m_a0 ∧ TSb3 T_a0' ∧ m_a0.length = a0.length := by
  refine ACall.bodyX (args := [.slice p_a0 a0.length c_a0, .int .i64 a1]) (N := 19) [(0, .slice p_a0 a0.length c_a0), (1, .int .i64 a1)] (fun v G' => ∃ (T_a0' : Tb3), (v = .int .i64 r0) ∧ St ((oseg p_a0 (tcells3 T_a0) ++ (t3seg T_a0)).map (·.1)) H G' [oseg p_a0 (tcells3 T_a0'), t3seg T_a0'] ∧ trows3 T_a0' = m_a0 ∧ TSb3 T_a0' ∧ m_a0.length = a0.length) Try.func15 rfl rfl rfl rfl ?_
  unfold D_laws_markInt64SSS at hd
  have S0 : St ((oseg p_a0 (tcells3 T_a0) ++ (t3seg T_a0)).map (·.1)) H H [oseg p_a0 (tcells3 T_a0), t3seg T_a0] := (St.init (l := oseg p_a0 (tcells3 T_a0) ++ (t3seg T_a0)) hn ho).same (by simp)
  refine AX.seq ?_
  refine AX.region ?_
  refine AO.p rfl (p_assign rfl) ?_
  refine AO.nil ?_
  refine AX.seq ?_
  refine AX.seq ?_
  refine AX.region ?_
  refine AO.p rfl (p_assign rfl) ?_
  refine AO.nil ?_
  obtain ⟨r229, hl230, hd231⟩ := bnd_some hd
  refine AX.cutS (fun t' H' => ∃ (rss226 : List (List (List Int))) (x228 : Int) (T227 : Tb3), (rss226, x228) = r229 ∧ St ((oseg p_a0 (tcells3 T_a0) ++ (t3seg T_a0)).map (·.1)) H H' [oseg p_a0 (tcells3 T227), t3seg T227] ∧ rss226.length = a0.length ∧ trows3 T227 = rss226 ∧ TSb3 T227 ∧ Am.Sub [(1, .int .i64 x228)] t') ?_ ?_
  · refine AX.block ?_
    refine AX.loopF (fun s' t' H' => ∃ (rss183 : List (List (List Int))) (x185 : Int) (x186 : Int) (T184 : Tb3), (rss183, x185, x186) = s' ∧ St ((oseg p_a0 (tcells3 T_a0) ++ (t3seg T_a0)).map (·.1)) H H' [oseg p_a0 (tcells3 T184), t3seg T184] ∧ rss183.length = a0.length ∧ trows3 T184 = rss183 ∧ TSb3 T184 ∧ Am.Sub [(0, .slice p_a0 a0.length c_a0), (1, .int .i64 x185), (5, .int .i64 x186)] t') hl230 ?_ ?_
    · skip
      have S232 := S0.front 1 rfl
      have S233 := S232.front 1 rfl
      exact ⟨a0, a1, 0, T_a0, rfl, S233, rfl, t_a0, z_a0, Sub.cons' rfl rfl (Sub.cons' rfl rfl (Sub.cons' rfl rfl (Sub.nil _)))⟩
    · rintro n234 _ t' G238 ⟨rss183, x185, x186, T184, rfl, S237, lrss183, tT184, sT184, hsub239⟩ o240 ho235 hk236
      refine AX.sub hsub239 ?_
      unfold D_laws_markInt64SSS_s0 at ho235
      refine AX.seq ?_
      refine AX.seq ?_
      refine AX.region ?_
      refine AO.p rfl (p_move rfl) ?_
      refine AO.p rfl (p_move rfl) ?_
      refine AO.p rfl (p_len_slice rfl Try.underlying25) ?_
      refine AO.p rfl (p_lss rfl rfl) ?_
      refine AO.nil ?_
      refine AX.cond rfl (fun c241 => ?_) (fun c241 => ?_)
      · have hd242 := bif_t c241 ho235
        refine AX.skip ?_
        refine AX.seq ?_
        refine AX.block ?_
        refine AX.region ?_
        refine AO.p rfl (p_move rfl) ?_
        refine AO.p rfl (p_move rfl) ?_
        obtain ⟨k243, hd244⟩ := chk_some hd242
        refine AO.p rfl (s_indexV (q := x186.toNat) Try.underlying25 Try.sizeOf43 rfl (s_a0.at (inR_pos k243)) rfl k243 (z1 _)) ?_
        obtain ⟨p245, c246, T247, e248, f249, t250⟩ := tget3 tT184 (lt_len lrss183 (inR_lt k243))
        refine AO.c rfl (s_load Try.isAgg43 rfl (row_cell (S237.oat (k := 0) rfl (s_a0.at (inR_pos k243))) f249)) ?_
        refine AO.p rfl (p_move rfl) ?_
        have S251 := S237.front 1 rfl
        have S252 := S251.t3out e248
        have S254 := S252.front 1 rfl
        have S255 := S254.front 1 rfl
        obtain ⟨⟨x256, rs257⟩, h258, hd259⟩ := bnd_some hd244
        obtain ⟨_, G265, hc264, T260, rfl, S266, t261, s262, l263⟩ := W_laws_markInt64SS fu G238 p245 c246 T247 (rw3 rss183 x186.toNat) t250 (sb_tlen t250 (sT184.at e248).1) ((sT184.at e248).2) x185 ((S255).join2.onodup (k := 0) rfl) ((S255).join2.omem (k := 0) rfl) x256 rs257 h258
        have S267 := St.callM (A := [oseg p245 (tcells T247), tseg T247]) S255 S266 (by simp)
        have S268 := S267.front 2 rfl
        have S269 := S268.front 2 rfl
        have S270 := S269.front 2 rfl
        have S271 := S270.t3in e248
        have S272 := S271.hdr (k := 1) (tcells3_set (X' := T260) e248 ((tlen t261).trans ((Eq.trans l263 rfl).trans (tlen t250).symm))).symm rfl
        refine AO.c rfl (o_call (vs := [.slice p245 ((rw3 rss183 x186.toNat).length) c246, .int .i64 x185]) rfl Try.call27 hc264) ?_
        refine AO.p rfl (p_assign rfl) ?_
        refine AO.nil ?_
        refine AX.region ?_
        refine AO.p rfl (p_move rfl) ?_
        obtain ⟨k273, hd274⟩ := chk_some hd259
        refine AO.p rfl (p_addE rfl rfl k273) ?_
        refine AO.p rfl (p_assign rfl) ?_
        refine AO.nil ?_
        obtain rfl := some_inj hd274
        have S276 := S272.front 0 rfl
        have S277 := S276.front 1 rfl
        exact ⟨((rss183.set x186.toNat rs257), x256, x186 + 1), hk236, (rss183.set x186.toNat rs257), x256, (x186 + 1), (T184.set x186.toNat (p245, c246, T260)), rfl, S277, (len_set lrss183), (trows3_set tT184 t261), (sT184.set e248 ((tlen t261).trans ((Eq.trans l263 rfl).trans (tlen t250).symm)) s262), Sub.cons' rfl rfl (Sub.cons' rfl rfl (Sub.cons' rfl rfl (Sub.nil _)))⟩
      · have hd278 := bif_f c241 ho235
        refine AX.exit ?_
        obtain rfl := some_inj hd278
        have S279 := S237.front 1 rfl
        have S280 := S279.front 1 rfl
        exact ⟨rss183, x185, T184, hk236, S280, lrss183, tT184, sT184, Sub.cons' rfl rfl (Sub.nil _)⟩
  · rintro t' G282 ⟨rss226, x228, T227, rfl, S281, lrss226, tT227, sT227, hsub283⟩
    refine ⟨_, hsub283, ?_⟩
    refine AX.seq ?_
    refine AX.region ?_
    refine AO.p rfl (p_move rfl) ?_
    refine AO.p rfl (p_assign rfl) ?_
    refine AO.nil ?_
    refine AX.ret ?_
    obtain ⟨rfl, rfl⟩ := Prod.mk.inj (some_inj hd231)
    have S285 := S281.front 1 rfl
    have S286 := S285.front 1 rfl
    exact ⟨.inr rfl, _, res1 rfl (rv_tmp rfl), T227, rfl, S286, tT227, sT227, lrss226⟩

set_option maxHeartbeats 4000000 in
theorem W_laws_heldInt64SSS (fu : Nat) (H : AHeap) (p_a0 : Option Addr) (c_a0 : Nat) (T_a0 : Tb3) (a0 : List (List (List Int))) (t_a0 : trows3 T_a0 = a0) (v_a0 : Vw H p_a0 a0.length c_a0 (tcells3 T_a0)) (w_a0 : TVw3 H T_a0) (a1 : Int) (r0 : Int) (hd : D_laws_heldInt64SSS fu a0 a1 = some r0) : ACall Try.prog 16 [.slice p_a0 a0.length c_a0, .int .i64 a1] H (.int .i64 r0) H := by
  refine ACall.bodyP (N := 21) [(0, .slice p_a0 a0.length c_a0), (1, .int .i64 a1)] Try.func16 rfl rfl rfl rfl ?_
  unfold D_laws_heldInt64SSS at hd
  have S0 : St [] H H [] := St.nil H
  refine AX.seq ?_
  refine AX.region ?_
  refine AO.p rfl (p_assign rfl) ?_
  refine AO.nil ?_
  refine AX.seq ?_
  refine AX.seq ?_
  refine AX.region ?_
  refine AO.p rfl (p_assign rfl) ?_
  refine AO.nil ?_
  obtain ⟨r174, hl175, hd176⟩ := bnd_some hd
  refine AX.cutS (fun t' H' => ∃ (x173 : Int), .inl x173 = r174 ∧ St [] H H' [] ∧ Am.Sub [(1, .int .i64 x173)] t') ?_ ?_
  · refine AX.block ?_
    refine AX.loopF (fun s' t' H' => ∃ (x148 : Int) (x149 : Int), (x148, x149) = s' ∧ St [] H H' [] ∧ Am.Sub [(0, .slice p_a0 a0.length c_a0), (1, .int .i64 x148), (5, .int .i64 x149)] t') hl175 ?_ ?_
    · skip
      exact ⟨a1, 0, rfl, S0, Sub.cons' rfl rfl (Sub.cons' rfl rfl (Sub.cons' rfl rfl (Sub.nil _)))⟩
    · rintro n177 _ t' G181 ⟨x148, x149, rfl, S180, hsub182⟩ o183 ho178 hk179
      refine AX.sub hsub182 ?_
      unfold D_laws_heldInt64SSS_s0 at ho178
      refine AX.seq ?_
      refine AX.seq ?_
      refine AX.region ?_
      refine AO.p rfl (p_move rfl) ?_
      refine AO.p rfl (p_move rfl) ?_
      refine AO.p rfl (p_len_slice rfl Try.underlying25) ?_
      refine AO.p rfl (p_lss rfl rfl) ?_
      refine AO.nil ?_
      refine AX.cond rfl (fun c184 => ?_) (fun c184 => ?_)
      · have hd185 := bif_t c184 ho178
        refine AX.skip ?_
        refine AX.seq ?_
        refine AX.block ?_
        refine AX.seq ?_
        refine AX.region ?_
        refine AO.p rfl (p_move rfl) ?_
        refine AO.p rfl (p_move rfl) ?_
        obtain ⟨k186, hd187⟩ := chk_some hd185
        obtain ⟨p188, c189, T192, e190, f191, t193⟩ := tget3 t_a0 (lt_len rfl (inR_lt k186))
        refine AO.p rfl (s_indexV (q := off p_a0 + x149.toNat) Try.underlying25 Try.sizeOf43 rfl ((S180.view v_a0).p f191) rfl k186 (o1 _ _)) ?_
        refine AO.c rfl (s_load Try.isAgg43 rfl ((S180.view v_a0).get _ _ f191)) ?_
        refine AO.p rfl (p_move rfl) ?_
        obtain ⟨x194, h195, hd196⟩ := bnd_some hd187
        refine AO.c rfl (o_call (vs := [.slice p188 ((rw3 a0 x149.toNat).length) c189, .int .i64 x148]) rfl Try.call28 (W_laws_heldInt64SS fu G181 p188 c189 T192 (rw3 a0 x149.toNat) t193 (S180.view (w_a0.at1 e190 t193 rfl)) (S180.tview (w_a0.at2 e190)) x148 x194 h195)) ?_
        refine AO.p rfl (p_assign rfl) ?_
        refine AO.nil ?_
        refine AX.seq ?_
        refine AX.region ?_
        refine AO.p rfl (p_move rfl) ?_
        refine AO.p rfl (p_lss rfl rfl) ?_
        refine AO.nil ?_
        refine AX.cond rfl (fun c198 => ?_) (fun c198 => ?_)
        · have hd199 := bif_t c198 hd196
          refine AX.seq ?_
          refine AX.region ?_
          refine AO.p rfl (p_assign rfl) ?_
          refine AO.nil ?_
          refine AX.ret ?_
          obtain rfl := some_inj hd199
          have z200 : _ = r174 := hk179
          subst z200
          obtain rfl := some_inj hd176
          exact ⟨.inr rfl, _, res1 rfl (rv_tmp rfl), rfl, (flatB_ok rfl), S180.hold⟩
        · have hd201 := bif_f c198 hd196
          refine AX.skip ?_
          refine AX.region ?_
          refine AO.p rfl (p_move rfl) ?_
          obtain ⟨k202, hd203⟩ := chk_some hd201
          refine AO.p rfl (p_addE rfl rfl k202) ?_
          refine AO.p rfl (p_assign rfl) ?_
          refine AO.nil ?_
          obtain rfl := some_inj hd203
          exact ⟨(x194, x149 + 1), hk179, x194, (x149 + 1), rfl, S180, Sub.cons' rfl rfl (Sub.cons' rfl rfl (Sub.cons' rfl rfl (Sub.nil _)))⟩
      · have hd205 := bif_f c184 ho178
        refine AX.exit ?_
        obtain rfl := some_inj hd205
        exact ⟨x148, hk179, S180, Sub.cons' rfl rfl (Sub.nil _)⟩
  · rintro t' G207 ⟨x173, rfl, S206, hsub208⟩
    refine ⟨_, hsub208, ?_⟩
    refine AX.seq ?_
    refine AX.region ?_
    refine AO.p rfl (p_move rfl) ?_
    refine AO.p rfl (p_assign rfl) ?_
    refine AO.nil ?_
    refine AX.ret ?_
    obtain rfl := some_inj hd176
    exact ⟨.inr rfl, _, res1 rfl (rv_tmp rfl), rfl, (flatB_ok rfl), S206.hold⟩

end Go.Proofs.Ytdafmafigcljkaa
