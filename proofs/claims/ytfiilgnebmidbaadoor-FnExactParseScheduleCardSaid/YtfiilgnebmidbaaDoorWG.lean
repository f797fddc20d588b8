/-
  The program computes that, printed by a program. No condition.
-/
import Derived.Test.YtfiilgnebmidbaaDoorDG
import Derived.Test.YtfiilgnebmidbaaDoorWE
import Derived.Test.YtfiilgnebmidbaaDoorWD
import Derived.Test.YtfiilgnebmidbaaDoorProg
import Derived.KernelRfl
namespace Go.Proofs.YtfiilgnebmidbaaDoor
open Go Go.RowKit Am
set_option linter.unusedVariables false
set_option linter.unusedSimpArgs false
set_option maxRecDepth 20000
set_option maxHeartbeats 4000000 in
theorem W_spec_l01Pairs (fu : Nat) (H : AHeap) (a0 : Int) (a1 : List Int) (h_a1 : a1.length = 14) (r0 : List (List Int)) (hd : D_spec_l01Pairs fu a0 a1 = some r0) : ∃ v G', ACall Tryd.prog 91 [.int .i64 a0, .agg (ints a1).toArray] H v G' ∧ ∃ (p_r0 : Option Addr) (c_r0 : Nat) (T_r0 : Tb), (v = .slice p_r0 r0.length c_r0) ∧ St [] H G' [oseg p_r0 (tcells T_r0), tseg T_r0] ∧ Sb p_r0 r0.length c_r0 1 ∧ trows T_r0 = r0 ∧ TSb T_r0 := by
  refine ACall.bodyX (args := [.int .i64 a0, .agg (ints a1).toArray]) (N := 27) [(0, .int .i64 a0), (1, .agg (ints a1).toArray)] (fun v G' => ∃ (p_r0 : Option Addr) (c_r0 : Nat) (T_r0 : Tb), (v = .slice p_r0 r0.length c_r0) ∧ St [] H G' [oseg p_r0 (tcells T_r0), tseg T_r0] ∧ Sb p_r0 r0.length c_r0 1 ∧ trows T_r0 = r0 ∧ TSb T_r0) Tryd.func91 rfl rfl rfl rfl ?_
  unfold D_spec_l01Pairs at hd
  have S0 : St [] H H [] := St.nil H
  refine AX.seq ?_
  refine AX.region ?_
  obtain ⟨G100, i101, hii101, hHG100, S102⟩ := S0.new (AObj.row false (ints a1))
  refine AO.c rfl (s_box (i := i101) (cs := ints a1) rfl hii101 rfl hHG100) ?_
  refine AO.p rfl (p_assign rfl) ?_
  refine AO.nil ?_
  refine AX.seq ?_
  refine AX.region ?_
  obtain ⟨G104, i105, hii105, hHG104, S106⟩ := S102.new (AObj.row false (tcells []))
  have S106t := S106.nilseg 1
  refine AO.c rfl (s_build0 (i := i105) Tryd.underlying22 Tryd.sizeOf66 hii105 hHG104) ?_
  refine AO.p rfl (p_assign rfl) ?_
  refine AO.nil ?_
  refine AX.seq ?_
  refine AX.seq ?_
  refine AX.region ?_
  refine AO.p rfl (p_assign rfl) ?_
  refine AO.nil ?_
  obtain ⟨r233, hl234, hd235⟩ := bnd_some hd
  refine AX.cutS (fun t' H' => ∃ (rs231 : List (List Int)) (p229 : Option Addr) (c230 : Nat) (T232 : Tb), rs231 = r233 ∧ St [] H H' [oseg p229 (tcells T232), tseg T232] ∧ trows T232 = rs231 ∧ TSb T232 ∧ Sb p229 (rs231.length) c230 1 ∧ Am.Sub [(5, .slice p229 rs231.length c230)] t') ?_ ?_
  · refine AX.block ?_
    refine AX.loopF (fun s' t' H' => ∃ (rs189 : List (List Int)) (x191 : Int) (p187 : Option Addr) (c188 : Nat) (T190 : Tb), (rs189, x191) = s' ∧ St [] H H' [[(i101, AObj.row false (ints a1))], oseg p187 (tcells T190), tseg T190] ∧ trows T190 = rs189 ∧ TSb T190 ∧ Sb p187 (rs189.length) c188 1 ∧ Am.Sub [(0, .int .i64 a0), (3, .pointer (some ⟨i101, 0, none⟩)), (5, .slice p187 rs189.length c188), (6, .int .i64 x191)] t') hl234 ?_ ?_
    · skip
      have S236 := S106t.front 1 rfl
      have S237 := S236.front 1 rfl
      have S238 := S237.front 2 rfl
      exact ⟨[], 0, (some (Addr.mk i105 0 none)), 0, [], rfl, S238, rfl, TSb.nil, (Sb.lit (n := 0) (by decide)), Sub.cons' rfl rfl (Sub.cons' rfl rfl (Sub.cons' rfl rfl (Sub.cons' rfl rfl (Sub.nil _))))⟩
    · rintro n239 _ t' G243 ⟨rs189, x191, p187, c188, T190, rfl, S242, tT190, sT190, Bo186, hsub244⟩ o245 ho240 hk241
      refine AX.sub hsub244 ?_
      unfold D_spec_l01Pairs_s0 at ho240
      refine AX.seq ?_
      refine AX.seq ?_
      refine AX.region ?_
      refine AO.p rfl (p_move rfl) ?_
      refine AO.p rfl (p_move rfl) ?_
      refine AO.p rfl (p_lss rfl rfl) ?_
      refine AO.nil ?_
      refine AX.cond rfl (fun c246 => ?_) (fun c246 => ?_)
      · have hd247 := bif_t c246 ho240
        refine AX.skip ?_
        refine AX.seq ?_
        refine AX.block ?_
        refine AX.seq ?_
        refine AX.region ?_
        refine AO.p rfl (p_move rfl) ?_
        refine AO.p rfl (p_move rfl) ?_
        obtain ⟨k248, hd249⟩ := chk_some hd247
        refine AO.p rfl (s_indexAr (q := x191.toNat) Tryd.underlying76 Tryd.sizeOf2 rfl rfl k248 (z1 _)) ?_
        refine AO.c rfl (s_load Tryd.isAgg2 rfl (row_cell (S242.get (k := 0) rfl) (ints_get (lt_len h_a1 (inR_lt k248))))) ?_
        refine AO.p rfl (p_lss rfl rfl) ?_
        refine AO.nil ?_
        refine AX.cond rfl (fun c250 => ?_) (fun c250 => ?_)
        · have hd251 := bif_t c250 hd249
          refine AX.region ?_
          refine AO.p rfl (p_move rfl) ?_
          refine AO.p rfl (p_move rfl) ?_
          refine AO.p rfl (p_move rfl) ?_
          obtain ⟨k252, hd253⟩ := chk_some hd251
          refine AO.p rfl (s_indexAr (q := x191.toNat) Tryd.underlying76 Tryd.sizeOf2 rfl rfl k252 (z1 _)) ?_
          refine AO.c rfl (s_load Tryd.isAgg2 rfl (row_cell (S242.get (k := 0) rfl) (ints_get (lt_len h_a1 (inR_lt k252))))) ?_
          obtain ⟨G254, i255, hii255, hHG254, S256⟩ := S242.new (AObj.row false (ints [x191, rd a1 x191.toNat]))
          refine AO.c rfl (s_buildInts (i := i255) (vs := [(0, .int .i64 x191), (1, .int .i64 (rd a1 x191.toNat))]) (xs := [x191, rd a1 x191.toNat]) Tryd.underlying66 Tryd.sizeOf2 Tryd.zeroValue2 rfl rfl (by decide) rfl rfl hii255 hHG254) ?_
          obtain ⟨G258, i259, hii259, hHG258, S260⟩ := S256.new (AObj.row false (tcells ([((some (Addr.mk i255 0 none)), 2, [x191, rd a1 x191.toNat])])))
          have S262 := (S260.front 1 rfl).tone (some (Addr.mk i255 0 none)) 2 [x191, rd a1 x191.toNat] rfl
          refine AO.c rfl (s_buildT1 (i := i259) (X := [((some (Addr.mk i255 0 none)), 2, [x191, rd a1 x191.toNat])]) (n := 2) rfl Tryd.underlying22 Tryd.sizeOf66 Tryd.zeroValue66 rfl rfl hii259 hHG258) ?_
          obtain ⟨k263, hd264⟩ := chk_some hd253
          obtain ⟨p265, c266, G267, haG267, S268, Bp265⟩ := S262.app (k := 3) rfl Bo186 (tcells ([((some (Addr.mk i255 0 none)), 2, [x191, rd a1 x191.toNat])])) 1 (tc_len1 rfl rfl)
          have S269 := S268.cellsEq (k := 3) (us' := tcells (T190 ++ [((some (Addr.mk i255 0 none)), 2, [x191, rd a1 x191.toNat])])) (tcells_app _ _).symm rfl
          have BS269 : Sb p265 ((rs189 ++ [[x191, rd a1 x191.toNat]]).length) c266 1 := (show rs189.length + 1 = (rs189 ++ [[x191, rd a1 x191.toNat]]).length from len_app (a := rs189) (b := [[x191, rd a1 x191.toNat]]) rfl rfl) ▸ Bp265
          have S270 := S269.front 0 rfl
          have S271 := (S270.front 4 rfl).tmerge
          have S272 := S271.drop 1 rfl
          refine AO.c rfl (s_app (by_ := 24) (us := tcells T190) (vs := tcells ([((some (Addr.mk i255 0 none)), 2, [x191, rd a1 x191.toNat])])) Tryd.underlying22 Tryd.underlying22 Tryd.typeInfo66 Tryd.sizeOf66 Tryd.zeroValue66 rfl rfl rfl rfl rfl rfl rfl (S262.buf (k := 3) rfl Bo186 (tc_len1 tT190 rfl)) (S262.oview (k := 1) rfl (Sb.lit (n := 1) (by decide)) (tc_len1 rfl rfl)) (tc_len1 rfl rfl) tcells_one k263 haG267 (show rs189.length + 1 = (rs189 ++ [[x191, rd a1 x191.toNat]]).length from len_app (a := rs189) (b := [[x191, rd a1 x191.toNat]]) rfl rfl)) ?_
          refine AO.p rfl (p_assign rfl) ?_
          refine AO.nil ?_
          refine AX.region ?_
          refine AO.p rfl (p_move rfl) ?_
          obtain ⟨k273, hd274⟩ := chk_some hd264
          refine AO.p rfl (p_addE rfl rfl k273) ?_
          refine AO.p rfl (p_assign rfl) ?_
          refine AO.nil ?_
          obtain rfl := some_inj hd274
          have S276 := S272.front 0 rfl
          have S277 := S276.front 2 rfl
          have S278 := S277.front 2 rfl
          exact ⟨((rs189 ++ [[x191, rd a1 x191.toNat]]), x191 + 1), hk241, (rs189 ++ [[x191, rd a1 x191.toNat]]), (x191 + 1), p265, c266, (T190 ++ [((some (Addr.mk i255 0 none)), 2, [x191, rd a1 x191.toNat])]), rfl, S278, (trows_apps tT190 rfl), (TSb.app sT190 (TSb.one (sb_len rfl (Sb.lit (n := 2) (by decide))))), BS269, Sub.cons' rfl rfl (Sub.cons' rfl rfl (Sub.cons' rfl rfl (Sub.cons' rfl rfl (Sub.nil _))))⟩
        · have hd279 := bif_f c250 hd249
          refine AX.skip ?_
          refine AX.region ?_
          refine AO.p rfl (p_move rfl) ?_
          obtain ⟨k280, hd281⟩ := chk_some hd279
          refine AO.p rfl (p_addE rfl rfl k280) ?_
          refine AO.p rfl (p_assign rfl) ?_
          refine AO.nil ?_
          obtain rfl := some_inj hd281
          have S283 := S242.front 2 rfl
          have S284 := S283.front 2 rfl
          have S285 := S284.front 2 rfl
          exact ⟨(rs189, x191 + 1), hk241, rs189, (x191 + 1), p187, c188, T190, rfl, S285, tT190, sT190, Bo186, Sub.cons' rfl rfl (Sub.cons' rfl rfl (Sub.cons' rfl rfl (Sub.cons' rfl rfl (Sub.nil _))))⟩
      · have hd286 := bif_f c246 ho240
        refine AX.exit ?_
        obtain rfl := some_inj hd286
        have S287 := S242.front 2 rfl
        have S288 := S287.front 2 rfl
        have S289 := S288.keep 2
        exact ⟨rs189, p187, c188, T190, hk241, S289, tT190, sT190, Bo186, Sub.cons' rfl rfl (Sub.nil _)⟩
  · rintro t' G291 ⟨rs231, p229, c230, T232, rfl, S290, tT232, sT232, Bo228, hsub292⟩
    refine ⟨_, hsub292, ?_⟩
    refine AX.seq ?_
    refine AX.region ?_
    refine AO.p rfl (p_move rfl) ?_
    refine AO.p rfl (p_assign rfl) ?_
    refine AO.nil ?_
    refine AX.ret ?_
    obtain rfl := some_inj hd235
    have S293 := S290.front 1 rfl
    have S294 := S293.front 1 rfl
    exact ⟨.inr rfl, _, res1 rfl (rv_tmp rfl), p229, c230, T232, rfl, S294, Bo228, tT232, sT232⟩

set_option maxHeartbeats 4000000 in
theorem W_spec_l01RoundText (fu : Nat) (H : AHeap) (a0 : Int) (a1 : List Int) (h_a1 : a1.length = 14) (r0 : ByteArray) (hd : D_spec_l01RoundText fu a0 a1 = some r0) : ACall Tryd.prog 69 [.int .i64 a0, .agg (ints a1).toArray] H (.string r0) H := by
  refine ACall.bodyP (N := 40) [(0, .int .i64 a0), (1, .agg (ints a1).toArray)] Tryd.func69 rfl rfl rfl rfl ?_
  unfold D_spec_l01RoundText at hd
  have S0 : St [] H H [] := St.nil H
  refine AX.seq ?_
  refine AX.region ?_
  obtain ⟨G100, i101, hii101, hHG100, S102⟩ := S0.new (AObj.row false (ints a1))
  refine AO.c rfl (s_box (i := i101) (cs := ints a1) rfl hii101 rfl hHG100) ?_
  refine AO.p rfl (p_assign rfl) ?_
  refine AO.nil ?_
  refine AX.seq ?_
  refine AX.region ?_
  refine AO.p rfl (p_move rfl) ?_
  refine AO.c rfl (s_loadN (vs := ints a1) Tryd.isAgg76 Tryd.sizeOf76 rfl (ints_len h_a1) (row_cells (S102.get (k := 0) rfl))) ?_
  obtain ⟨rs104, h105, hd106⟩ := bnd_some hd
  obtain ⟨_, G115, hc114, p107, c108, T111, rfl, S116, B110, t112, s113⟩ := W_spec_l01Pairs fu G100 a0 a1 h_a1 rs104 h105
  have S117 := S102.call S116
  refine AO.c rfl (o_call (vs := [.int .i64 a0, .agg (ints a1).toArray]) rfl Tryd.call91 hc114) ?_
  refine AO.p rfl (p_assign rfl) ?_
  refine AO.p rfl (p_assign rfl) ?_
  refine AO.nil ?_
  refine AX.seq ?_
  refine AX.seq ?_
  refine AX.region ?_
  refine AO.p rfl (p_assign rfl) ?_
  refine AO.nil ?_
  obtain ⟨r306, hl307, hd308⟩ := bnd_some hd106
  refine AX.cutS (fun t' H' => ∃ (s305 : ByteArray), s305 = r306 ∧ St [] H H' [] ∧ Am.Sub [(6, .string s305)] t') ?_ ?_
  · refine AX.block ?_
    refine AX.loopF (fun s' t' H' => ∃ (s243 : ByteArray) (x244 : Int), (s243, x244) = s' ∧ St [] H H' [oseg p107 (tcells T111), tseg T111] ∧ Am.Sub [(5, .slice p107 rs104.length c108), (6, .string s243), (7, .int .i64 x244)] t') hl307 ?_ ?_
    · skip
      have S309 := S117.front 1 rfl
      have S310 := S309.front 1 rfl
      have S311 := S310.keep 2
      exact ⟨(⟨#[]⟩ : ByteArray), 0, rfl, S311, Sub.cons' rfl rfl (Sub.cons' rfl rfl (Sub.cons' rfl rfl (Sub.nil _)))⟩
    · rintro n312 _ t' G316 ⟨s243, x244, rfl, S315, hsub317⟩ o318 ho313 hk314
      refine AX.sub hsub317 ?_
      unfold D_spec_l01RoundText_s0 at ho313
      refine AX.seq ?_
      refine AX.seq ?_
      refine AX.region ?_
      refine AO.p rfl (p_move rfl) ?_
      refine AO.p rfl (p_move rfl) ?_
      refine AO.p rfl (p_len_slice rfl Tryd.underlying22) ?_
      refine AO.p rfl (p_lss rfl rfl) ?_
      refine AO.nil ?_
      refine AX.cond rfl (fun c319 => ?_) (fun c319 => ?_)
      · have hd320 := bif_t c319 ho313
        refine AX.skip ?_
        refine AX.seq ?_
        refine AX.block ?_
        refine AX.seq ?_
        refine AX.seq ?_
        refine AX.region ?_
        refine AO.p rfl (p_move rfl) ?_
        refine AO.p rfl (p_gtr rfl rfl) ?_
        refine AO.nil ?_
        obtain ⟨r328, hb329, hd330⟩ := bnd_some hd320
        refine AX.cutS (fun t' H' => ∃ (s327 : ByteArray), s327 = r328 ∧ St [] H H' [oseg p107 (tcells T111), tseg T111] ∧ Am.Sub [(5, .slice p107 rs104.length c108), (6, .string s327), (7, .int .i64 x244)] t') ?_ ?_
        · skip
          refine AX.cond rfl (fun c331 => ?_) (fun c331 => ?_)
          · have hd332 := bif_t c331 hb329
            refine AX.region ?_
            refine AO.p rfl (p_move rfl) ?_
            obtain ⟨k333, hd334⟩ := chk_some hd332
            refine AO.p rfl (p_addS rfl rfl k333) ?_
            refine AO.p rfl (p_assign rfl) ?_
            refine AO.nil ?_
            have S335 := S315.front 1 rfl
            have S336 := S335.front 1 rfl
            exact ⟨(s243 ++ (⟨#[44]⟩ : ByteArray)), (some_inj hd334), S336, Sub.cons' rfl rfl (Sub.cons' rfl rfl (Sub.cons' rfl rfl (Sub.nil _)))⟩
          · have hd337 := bif_f c331 hb329
            refine AX.skip ?_
            have S338 := S315.front 1 rfl
            have S339 := S338.front 1 rfl
            exact ⟨s243, (some_inj hd337), S339, Sub.cons' rfl rfl (Sub.cons' rfl rfl (Sub.cons' rfl rfl (Sub.nil _)))⟩
        · rintro t' G341 ⟨s327, rfl, S340, hsub342⟩
          refine ⟨_, hsub342, ?_⟩
          refine DR.startS [false, false, false, false, false, false, false, true, false, false, false, false, false, false, false, false, true, false, false] mix (by kernel_rfl) (fun hst => ?_)
          refine DR.p rfl rfl (p_move rfl) ?_
          refine DR.p rfl rfl (p_move rfl) ?_
          refine DR.p rfl rfl (p_move rfl) ?_
          obtain ⟨k343, hd344⟩ := chk_some hd330
          refine DR.p rfl rfl (s_indexV (q := x244.toNat) Tryd.underlying22 Tryd.sizeOf66 rfl (B110.at (inR_pos k343)) rfl k343 (z1 _)) ?_
          obtain ⟨p345, c346, e347, f348⟩ := tget t112 (lt_len rfl (inR_lt k343))
          refine DR.r rfl rfl (r_load rfl Tryd.isAgg66) (one_read (row_cell (S340.oat (k := 0) rfl (B110.at (inR_pos k343))) f348) (TVw.at (S340.oviewT (k := 1) rfl s113) e347).inn.bel) ?_
          obtain ⟨k349, hd350⟩ := chk_some hd344
          refine DR.p rfl rfl (s_indexV (q := off p345 + 0) Tryd.underlying66 Tryd.sizeOf2 rfl ((TVw.at (S340.oviewT (k := 1) rfl s113) e347).p (ints_get (lt_len rfl (inR_lt k349)))) rfl k349 (o1 _ _)) ?_
          refine DR.r rfl rfl (r_load rfl Tryd.isAgg2) (one_read ((TVw.at (S340.oviewT (k := 1) rfl s113) e347).get _ _ (ints_get (lt_len rfl (inR_lt k349)))) (.of_flat0 rfl)) ?_
          obtain ⟨s351, h352, hd353⟩ := bnd_some hd350
          refine DR.w rfl rfl (o_call (vs := [.int .i64 (rd (rw_ rs104 x244.toNat) 0)]) rfl Tryd.call56 (W_spec_l01Dec fu G341 (rd (rw_ rs104 x244.toNat) 0) s351 h352)) (Nat.le_refl _) ?_
          obtain ⟨k355, hd356⟩ := chk_some hd353
          refine DR.p rfl rfl (p_addS rfl rfl k355) ?_
          obtain ⟨k357, hd358⟩ := chk_some hd356
          refine DR.p rfl rfl (p_addS rfl rfl k357) ?_
          refine DR.p rfl rfl (p_move rfl) ?_
          refine DR.p rfl rfl (p_move rfl) ?_
          obtain ⟨k359, hd360⟩ := chk_some hd358
          refine DR.p rfl rfl (s_indexV (q := x244.toNat) Tryd.underlying22 Tryd.sizeOf66 rfl (B110.at (inR_pos k359)) rfl k359 (z1 _)) ?_
          obtain ⟨p361, c362, e363, f364⟩ := tget t112 (lt_len rfl (inR_lt k359))
          refine DR.r rfl rfl (r_load rfl Tryd.isAgg66) (one_read (row_cell (S340.oat (k := 0) rfl (B110.at (inR_pos k359))) f364) (TVw.at (S340.oviewT (k := 1) rfl s113) e363).inn.bel) ?_
          obtain ⟨k365, hd366⟩ := chk_some hd360
          refine DR.p rfl rfl (s_indexV (q := off p361 + 1) Tryd.underlying66 Tryd.sizeOf2 rfl ((TVw.at (S340.oviewT (k := 1) rfl s113) e363).p (ints_get (lt_len rfl (inR_lt k365)))) rfl k365 (o1 _ _)) ?_
          refine DR.r rfl rfl (r_load rfl Tryd.isAgg2) (one_read ((TVw.at (S340.oviewT (k := 1) rfl s113) e363).get _ _ (ints_get (lt_len rfl (inR_lt k365)))) (.of_flat0 rfl)) ?_
          obtain ⟨s367, h368, hd369⟩ := bnd_some hd366
          refine DR.w rfl rfl (o_call (vs := [.int .i64 (rd (rw_ rs104 x244.toNat) 1)]) rfl Tryd.call56 (W_spec_l01Dec fu G341 (rd (rw_ rs104 x244.toNat) 1) s367 h368)) (Nat.le_refl _) ?_
          obtain ⟨k371, hd372⟩ := chk_some hd369
          refine DR.p rfl rfl (p_addS rfl rfl k371) ?_
          refine DR.p rfl rfl (p_assign rfl) ?_
          refine DR.nil 19 [(13, 7), (15, 7)] hst (by kernel_rfl) ⟨(rd1 (fun _ => rfl)), (rd1 (fun _ => rfl)), trivial⟩ ?_
          refine AX.region ?_
          refine AO.p rfl (p_move rfl) ?_
          obtain ⟨k373, hd374⟩ := chk_some hd372
          refine AO.p rfl (p_addE rfl rfl k373) ?_
          refine AO.p rfl (p_assign rfl) ?_
          refine AO.nil ?_
          obtain rfl := some_inj hd374
          have S376 := S340.front 1 rfl
          have S377 := S376.front 1 rfl
          exact ⟨(((s327 ++ s351) ++ (⟨#[45]⟩ : ByteArray)) ++ s367, x244 + 1), hk314, (((s327 ++ s351) ++ (⟨#[45]⟩ : ByteArray)) ++ s367), (x244 + 1), rfl, S377, Sub.cons' rfl rfl (Sub.cons' rfl rfl (Sub.cons' rfl rfl (Sub.nil _)))⟩
      · have hd378 := bif_f c319 ho313
        refine AX.exit ?_
        obtain rfl := some_inj hd378
        have S379 := S315.keep 0
        exact ⟨s243, hk314, S379, Sub.cons' rfl rfl (Sub.nil _)⟩
  · rintro t' G381 ⟨s305, rfl, S380, hsub382⟩
    refine ⟨_, hsub382, ?_⟩
    refine AX.seq ?_
    refine AX.region ?_
    refine AO.p rfl (p_move rfl) ?_
    refine AO.p rfl (p_assign rfl) ?_
    refine AO.nil ?_
    refine AX.ret ?_
    obtain rfl := some_inj hd308
    exact ⟨.inr rfl, _, res1 rfl (rv_tmp rfl), rfl, (flatB_ok rfl), S380.hold⟩

set_option maxHeartbeats 4000000 in
theorem W_spec_l01Text (fu : Nat) (H : AHeap) (a0_0 : Int) (p_a0_1 : Option Addr) (c_a0_1 : Nat) (a0_1 : List (List Int)) (a_a0_1 : All 14 a0_1) (v_a0_1 : Vw H p_a0_1 a0_1.length c_a0_1 (ints a0_1.flatten)) (r0 : ByteArray) (hd : D_spec_l01Text fu a0_0 a0_1 = some r0) : ACall Tryd.prog 34 [.agg [.int .i64 a0_0, .slice p_a0_1 a0_1.length c_a0_1].toArray] H (.string r0) H := by
  refine ACall.bodyP (N := 31) [(0, .agg [.int .i64 a0_0, .slice p_a0_1 a0_1.length c_a0_1].toArray)] Tryd.func34 rfl rfl rfl rfl ?_
  unfold D_spec_l01Text at hd
  have S0 : St [] H H [] := St.nil H
  refine AX.seq ?_
  refine AX.region ?_
  obtain ⟨G100, i101, hii101, hHG100, S102⟩ := S0.new (AObj.row false ([.int .i64 a0_0, .slice p_a0_1 a0_1.length c_a0_1]))
  refine AO.c rfl (s_box (i := i101) (cs := [.int .i64 a0_0, .slice p_a0_1 a0_1.length c_a0_1]) rfl hii101 rfl hHG100) ?_
  refine AO.p rfl (p_assign rfl) ?_
  refine AO.nil ?_
  refine AX.seq ?_
  refine AX.region ?_
  refine AO.p rfl (s_fieldAddr Tryd.underlying39 rfl Tryd.sizeOf2 (by decide) rfl rfl) ?_
  refine AO.c rfl (s_load Tryd.isAgg2 rfl (row_cell (S102.get (k := 0) rfl) rfl)) ?_
  obtain ⟨s104, h105, hd106⟩ := bnd_some hd
  refine AO.c rfl (o_call (vs := [.int .i64 a0_0]) rfl Tryd.call56 (W_spec_l01Dec fu G100 a0_0 s104 h105)) ?_
  obtain ⟨k108, hd109⟩ := chk_some hd106
  refine AO.p rfl (p_addS rfl rfl k108) ?_
  refine AO.p rfl (p_assign rfl) ?_
  refine AO.nil ?_
  refine AX.seq ?_
  refine AX.seq ?_
  refine AX.region ?_
  refine AO.p rfl (p_assign rfl) ?_
  refine AO.nil ?_
  obtain ⟨r226, hl227, hd228⟩ := bnd_some hd109
  refine AX.cutS (fun t' H' => ∃ (s225 : ByteArray), s225 = r226 ∧ St [] H H' [] ∧ Am.Sub [(3, .string s225)] t') ?_ ?_
  · refine AX.block ?_
    refine AX.loopF (fun s' t' H' => ∃ (s187 : ByteArray) (x188 : Int), (s187, x188) = s' ∧ St [] H H' [[(i101, AObj.row false ([.int .i64 a0_0, .slice p_a0_1 a0_1.length c_a0_1]))]] ∧ Am.Sub [(1, .pointer (some ⟨i101, 0, none⟩)), (3, .string s187), (4, .int .i64 x188)] t') hl227 ?_ ?_
    · skip
      have S229 := S102.front 0 rfl
      exact ⟨(s104 ++ (⟨#[58]⟩ : ByteArray)), 0, rfl, S229, Sub.cons' rfl rfl (Sub.cons' rfl rfl (Sub.cons' rfl rfl (Sub.nil _)))⟩
    · rintro n230 _ t' G234 ⟨s187, x188, rfl, S233, hsub235⟩ o236 ho231 hk232
      refine AX.sub hsub235 ?_
      unfold D_spec_l01Text_s0 at ho231
      refine AX.seq ?_
      refine AX.seq ?_
      refine AX.region ?_
      refine AO.p rfl (p_move rfl) ?_
      refine AO.p rfl (s_fieldAddr Tryd.underlying39 rfl Tryd.sizeOf37 (by decide) rfl rfl) ?_
      refine AO.c rfl (s_load Tryd.isAgg37 rfl (row_cell (S233.get (k := 0) rfl) rfl)) ?_
      refine AO.p rfl (p_len_slice rfl Tryd.underlying37) ?_
      refine AO.p rfl (p_lss rfl rfl) ?_
      refine AO.nil ?_
      refine AX.cond rfl (fun c237 => ?_) (fun c237 => ?_)
      · have hd238 := bif_t c237 ho231
        refine AX.skip ?_
        refine AX.seq ?_
        refine AX.block ?_
        refine AX.seq ?_
        refine AX.seq ?_
        refine AX.region ?_
        refine AO.p rfl (p_move rfl) ?_
        refine AO.p rfl (p_gtr rfl rfl) ?_
        refine AO.nil ?_
        obtain ⟨r246, hb247, hd248⟩ := bnd_some hd238
        refine AX.cutS (fun t' H' => ∃ (s245 : ByteArray), s245 = r246 ∧ St [] H H' [[(i101, AObj.row false ([.int .i64 a0_0, .slice p_a0_1 a0_1.length c_a0_1]))]] ∧ Am.Sub [(1, .pointer (some ⟨i101, 0, none⟩)), (3, .string s245), (4, .int .i64 x188)] t') ?_ ?_
        · skip
          refine AX.cond rfl (fun c249 => ?_) (fun c249 => ?_)
          · have hd250 := bif_t c249 hb247
            refine AX.region ?_
            refine AO.p rfl (p_move rfl) ?_
            obtain ⟨k251, hd252⟩ := chk_some hd250
            refine AO.p rfl (p_addS rfl rfl k251) ?_
            refine AO.p rfl (p_assign rfl) ?_
            refine AO.nil ?_
            have S253 := S233.front 0 rfl
            exact ⟨(s187 ++ (⟨#[59]⟩ : ByteArray)), (some_inj hd252), S253, Sub.cons' rfl rfl (Sub.cons' rfl rfl (Sub.cons' rfl rfl (Sub.nil _)))⟩
          · have hd254 := bif_f c249 hb247
            refine AX.skip ?_
            have S255 := S233.front 0 rfl
            exact ⟨s187, (some_inj hd254), S255, Sub.cons' rfl rfl (Sub.cons' rfl rfl (Sub.cons' rfl rfl (Sub.nil _)))⟩
        · rintro t' G257 ⟨s245, rfl, S256, hsub258⟩
          refine ⟨_, hsub258, ?_⟩
          refine DR.startS [false, false, false, false, false, false, false, false, true, false, false] mix (by kernel_rfl) (fun hst => ?_)
          refine DR.p rfl rfl (p_move rfl) ?_
          refine DR.p rfl rfl (s_fieldAddr Tryd.underlying39 rfl Tryd.sizeOf2 (by decide) rfl rfl) ?_
          refine DR.r rfl rfl (r_load rfl Tryd.isAgg2) (one_read (row_cell (S256.get (k := 0) rfl) rfl) (.of_flat0 rfl)) ?_
          refine DR.p rfl rfl (s_fieldAddr Tryd.underlying39 rfl Tryd.sizeOf37 (by decide) rfl rfl) ?_
          refine DR.r rfl rfl (r_load rfl Tryd.isAgg37) (one_read (row_cell (S256.get (k := 0) rfl) rfl) (S256.view v_a0_1).inn.bel) ?_
          refine DR.p rfl rfl (p_move rfl) ?_
          obtain ⟨k259, hd260⟩ := chk_some hd248
          refine DR.p rfl rfl (s_indexV (q := off p_a0_1 + x188.toNat * 14) Tryd.underlying37 Tryd.sizeOf76 rfl ((S256.view v_a0_1).rowne a_a0_1 (by decide) (lt_len rfl (inR_lt k259))) rfl k259 rfl) ?_
          refine DR.r rfl rfl (r_loadN (vs := ints (rw_ a0_1 x188.toNat)) rfl Tryd.isAgg76 Tryd.sizeOf76 (ints_len (rw_len a_a0_1 (lt_len rfl (inR_lt k259))))) (many_row ((S256.view v_a0_1).row a_a0_1 (lt_len rfl (inR_lt k259))) bel_ints) ?_
          obtain ⟨s261, h262, hd263⟩ := bnd_some hd260
          refine DR.w rfl rfl (o_call (vs := [.int .i64 a0_0, .agg (ints (rw_ a0_1 x188.toNat)).toArray]) rfl Tryd.call69 (W_spec_l01RoundText fu G257 a0_0 (rw_ a0_1 x188.toNat) (rw_len a_a0_1 (lt_len rfl (inR_lt k259))) s261 h262)) (Nat.le_refl _) ?_
          obtain ⟨k265, hd266⟩ := chk_some hd263
          refine DR.p rfl rfl (p_addS rfl rfl k265) ?_
          refine DR.p rfl rfl (p_assign rfl) ?_
          refine DR.nil 11 [] hst (by kernel_rfl) trivial ?_
          refine AX.region ?_
          refine AO.p rfl (p_move rfl) ?_
          obtain ⟨k267, hd268⟩ := chk_some hd266
          refine AO.p rfl (p_addE rfl rfl k267) ?_
          refine AO.p rfl (p_assign rfl) ?_
          refine AO.nil ?_
          obtain rfl := some_inj hd268
          have S270 := S256.front 0 rfl
          exact ⟨(s245 ++ s261, x188 + 1), hk232, (s245 ++ s261), (x188 + 1), rfl, S270, Sub.cons' rfl rfl (Sub.cons' rfl rfl (Sub.cons' rfl rfl (Sub.nil _)))⟩
      · have hd271 := bif_f c237 ho231
        refine AX.exit ?_
        obtain rfl := some_inj hd271
        have S272 := S233.keep 0
        exact ⟨s187, hk232, S272, Sub.cons' rfl rfl (Sub.nil _)⟩
  · rintro t' G274 ⟨s225, rfl, S273, hsub275⟩
    refine ⟨_, hsub275, ?_⟩
    refine AX.seq ?_
    refine AX.region ?_
    refine AO.p rfl (p_move rfl) ?_
    refine AO.p rfl (p_assign rfl) ?_
    refine AO.nil ?_
    refine AX.ret ?_
    obtain rfl := some_inj hd228
    exact ⟨.inr rfl, _, res1 rfl (rv_tmp rfl), rfl, (flatB_ok rfl), S273.hold⟩

set_option maxHeartbeats 4000000 in
theorem W_impl_Round_pairs (fu : Nat) (H : AHeap) (a0 : List Int) (h_a0 : a0.length = 14) (a1 : Int) (r0 : List (List Int)) (hd : D_impl_Round_pairs fu a0 a1 = some r0) : ∃ v G', ACall Tryd.prog 71 [.agg (ints a0).toArray, .int .i64 a1] H v G' ∧ ∃ (p_r0 : Option Addr) (c_r0 : Nat) (T_r0 : Tb), (v = .slice p_r0 r0.length c_r0) ∧ St [] H G' [oseg p_r0 (tcells T_r0), tseg T_r0] ∧ Sb p_r0 r0.length c_r0 1 ∧ trows T_r0 = r0 ∧ TSb T_r0 := by
  refine ACall.bodyX (args := [.agg (ints a0).toArray, .int .i64 a1]) (N := 27) [(0, .agg (ints a0).toArray), (1, .int .i64 a1)] (fun v G' => ∃ (p_r0 : Option Addr) (c_r0 : Nat) (T_r0 : Tb), (v = .slice p_r0 r0.length c_r0) ∧ St [] H G' [oseg p_r0 (tcells T_r0), tseg T_r0] ∧ Sb p_r0 r0.length c_r0 1 ∧ trows T_r0 = r0 ∧ TSb T_r0) Tryd.func71 rfl rfl rfl rfl ?_
  unfold D_impl_Round_pairs at hd
  have S0 : St [] H H [] := St.nil H
  refine AX.seq ?_
  refine AX.region ?_
  obtain ⟨G100, i101, hii101, hHG100, S102⟩ := S0.new (AObj.row false (ints a0))
  refine AO.c rfl (s_box (i := i101) (cs := ints a0) rfl hii101 rfl hHG100) ?_
  refine AO.p rfl (p_assign rfl) ?_
  refine AO.nil ?_
  refine AX.seq ?_
  refine AX.region ?_
  obtain ⟨G104, i105, hii105, hHG104, S106⟩ := S102.new (AObj.row false (tcells []))
  have S106t := S106.nilseg 1
  refine AO.c rfl (s_build0 (i := i105) Tryd.underlying22 Tryd.sizeOf66 hii105 hHG104) ?_
  refine AO.p rfl (p_assign rfl) ?_
  refine AO.nil ?_
  refine AX.seq ?_
  refine AX.seq ?_
  refine AX.region ?_
  refine AO.p rfl (p_move rfl) ?_
  refine AO.p rfl (p_move rfl) ?_
  refine AO.nil ?_
  obtain ⟨r233, hl234, hd235⟩ := bnd_some hd
  refine AX.cutS (fun t' H' => ∃ (rs231 : List (List Int)) (p229 : Option Addr) (c230 : Nat) (T232 : Tb), rs231 = r233 ∧ St [] H H' [oseg p229 (tcells T232), tseg T232] ∧ trows T232 = rs231 ∧ TSb T232 ∧ Sb p229 (rs231.length) c230 1 ∧ Am.Sub [(5, .slice p229 rs231.length c230)] t') ?_ ?_
  · refine AX.block ?_
    refine AX.loopF (fun s' t' H' => ∃ (rs189 : List (List Int)) (x191 : Int) (p187 : Option Addr) (c188 : Nat) (T190 : Tb), (rs189, x191) = s' ∧ St [] H H' [[(i101, AObj.row false (ints a0))], oseg p187 (tcells T190), tseg T190] ∧ trows T190 = rs189 ∧ TSb T190 ∧ Sb p187 (rs189.length) c188 1 ∧ Am.Sub [(2, .pointer (some ⟨i101, 0, none⟩)), (5, .slice p187 rs189.length c188), (8, .int .i64 a1), (9, .int .i64 x191)] t') hl234 ?_ ?_
    · skip
      have S236 := S106t.front 1 rfl
      have S237 := S236.front 1 rfl
      have S238 := S237.front 2 rfl
      exact ⟨[], 0, (some (Addr.mk i105 0 none)), 0, [], rfl, S238, rfl, TSb.nil, (Sb.lit (n := 0) (by decide)), Sub.cons' rfl rfl (Sub.cons' rfl rfl (Sub.cons' rfl rfl (Sub.cons' rfl rfl (Sub.nil _))))⟩
    · rintro n239 _ t' G243 ⟨rs189, x191, p187, c188, T190, rfl, S242, tT190, sT190, Bo186, hsub244⟩ o245 ho240 hk241
      refine AX.sub hsub244 ?_
      unfold D_impl_Round_pairs_s0 at ho240
      refine AX.seq ?_
      refine AX.region ?_
      refine AO.p rfl (p_lss rfl rfl) ?_
      refine AO.nil ?_
      refine AX.seq ?_
      refine AX.cond rfl (fun c246 => ?_) (fun c246 => ?_)
      · have hd247 := bif_t c246 ho240
        refine AX.skip ?_
        refine AX.seq ?_
        refine AX.block ?_
        refine AX.seq ?_
        refine AX.region ?_
        refine AO.p rfl (p_move rfl) ?_
        refine AO.p rfl (p_assign rfl) ?_
        refine AO.nil ?_
        refine AX.seq ?_
        refine AX.region ?_
        refine AO.p rfl (p_move rfl) ?_
        refine AO.p rfl (p_move rfl) ?_
        obtain ⟨k248, hd249⟩ := chk_some hd247
        refine AO.p rfl (s_indexAr (q := x191.toNat) Tryd.underlying76 Tryd.sizeOf2 rfl rfl k248 (z1 _)) ?_
        refine AO.c rfl (s_load Tryd.isAgg2 rfl (row_cell (S242.get (k := 0) rfl) (ints_get (lt_len h_a0 (inR_lt k248))))) ?_
        refine AO.p rfl (p_lss rfl rfl) ?_
        refine AO.nil ?_
        refine AX.cond rfl (fun c250 => ?_) (fun c250 => ?_)
        · have hd251 := bif_t c250 hd249
          refine AX.region ?_
          refine AO.p rfl (p_move rfl) ?_
          refine AO.p rfl (p_move rfl) ?_
          refine AO.p rfl (p_move rfl) ?_
          obtain ⟨k252, hd253⟩ := chk_some hd251
          refine AO.p rfl (s_indexAr (q := x191.toNat) Tryd.underlying76 Tryd.sizeOf2 rfl rfl k252 (z1 _)) ?_
          refine AO.c rfl (s_load Tryd.isAgg2 rfl (row_cell (S242.get (k := 0) rfl) (ints_get (lt_len h_a0 (inR_lt k252))))) ?_
          obtain ⟨G254, i255, hii255, hHG254, S256⟩ := S242.new (AObj.row false (ints [x191, rd a0 x191.toNat]))
          refine AO.c rfl (s_buildInts (i := i255) (vs := [(0, .int .i64 x191), (1, .int .i64 (rd a0 x191.toNat))]) (xs := [x191, rd a0 x191.toNat]) Tryd.underlying66 Tryd.sizeOf2 Tryd.zeroValue2 rfl rfl (by decide) rfl rfl hii255 hHG254) ?_
          obtain ⟨G258, i259, hii259, hHG258, S260⟩ := S256.new (AObj.row false (tcells ([((some (Addr.mk i255 0 none)), 2, [x191, rd a0 x191.toNat])])))
          have S262 := (S260.front 1 rfl).tone (some (Addr.mk i255 0 none)) 2 [x191, rd a0 x191.toNat] rfl
          refine AO.c rfl (s_buildT1 (i := i259) (X := [((some (Addr.mk i255 0 none)), 2, [x191, rd a0 x191.toNat])]) (n := 2) rfl Tryd.underlying22 Tryd.sizeOf66 Tryd.zeroValue66 rfl rfl hii259 hHG258) ?_
          obtain ⟨k263, hd264⟩ := chk_some hd253
          obtain ⟨p265, c266, G267, haG267, S268, Bp265⟩ := S262.app (k := 3) rfl Bo186 (tcells ([((some (Addr.mk i255 0 none)), 2, [x191, rd a0 x191.toNat])])) 1 (tc_len1 rfl rfl)
          have S269 := S268.cellsEq (k := 3) (us' := tcells (T190 ++ [((some (Addr.mk i255 0 none)), 2, [x191, rd a0 x191.toNat])])) (tcells_app _ _).symm rfl
          have BS269 : Sb p265 ((rs189 ++ [[x191, rd a0 x191.toNat]]).length) c266 1 := (show rs189.length + 1 = (rs189 ++ [[x191, rd a0 x191.toNat]]).length from len_app (a := rs189) (b := [[x191, rd a0 x191.toNat]]) rfl rfl) ▸ Bp265
          have S270 := S269.front 0 rfl
          have S271 := (S270.front 4 rfl).tmerge
          have S272 := S271.drop 1 rfl
          refine AO.c rfl (s_app (by_ := 24) (us := tcells T190) (vs := tcells ([((some (Addr.mk i255 0 none)), 2, [x191, rd a0 x191.toNat])])) Tryd.underlying22 Tryd.underlying22 Tryd.typeInfo66 Tryd.sizeOf66 Tryd.zeroValue66 rfl rfl rfl rfl rfl rfl rfl (S262.buf (k := 3) rfl Bo186 (tc_len1 tT190 rfl)) (S262.oview (k := 1) rfl (Sb.lit (n := 1) (by decide)) (tc_len1 rfl rfl)) (tc_len1 rfl rfl) tcells_one k263 haG267 (show rs189.length + 1 = (rs189 ++ [[x191, rd a0 x191.toNat]]).length from len_app (a := rs189) (b := [[x191, rd a0 x191.toNat]]) rfl rfl)) ?_
          refine AO.p rfl (p_assign rfl) ?_
          refine AO.nil ?_
          refine AX.region ?_
          obtain ⟨k273, hd274⟩ := chk_some hd264
          refine AO.p rfl (p_addE rfl rfl k273) ?_
          refine AO.p rfl (p_move rfl) ?_
          refine AO.nil ?_
          obtain rfl := some_inj hd274
          have S276 := S272.front 0 rfl
          have S277 := S276.front 2 rfl
          have S278 := S277.front 2 rfl
          exact ⟨((rs189 ++ [[x191, rd a0 x191.toNat]]), x191 + 1), hk241, (rs189 ++ [[x191, rd a0 x191.toNat]]), (x191 + 1), p265, c266, (T190 ++ [((some (Addr.mk i255 0 none)), 2, [x191, rd a0 x191.toNat])]), rfl, S278, (trows_apps tT190 rfl), (TSb.app sT190 (TSb.one (sb_len rfl (Sb.lit (n := 2) (by decide))))), BS269, Sub.cons' rfl rfl (Sub.cons' rfl rfl (Sub.cons' rfl rfl (Sub.cons' rfl rfl (Sub.nil _))))⟩
        · have hd279 := bif_f c250 hd249
          refine AX.skip ?_
          refine AX.region ?_
          obtain ⟨k280, hd281⟩ := chk_some hd279
          refine AO.p rfl (p_addE rfl rfl k280) ?_
          refine AO.p rfl (p_move rfl) ?_
          refine AO.nil ?_
          obtain rfl := some_inj hd281
          have S283 := S242.front 2 rfl
          have S284 := S283.front 2 rfl
          have S285 := S284.front 2 rfl
          exact ⟨(rs189, x191 + 1), hk241, rs189, (x191 + 1), p187, c188, T190, rfl, S285, tT190, sT190, Bo186, Sub.cons' rfl rfl (Sub.cons' rfl rfl (Sub.cons' rfl rfl (Sub.cons' rfl rfl (Sub.nil _))))⟩
      · have hd286 := bif_f c246 ho240
        refine AX.exit ?_
        obtain rfl := some_inj hd286
        have S287 := S242.front 2 rfl
        have S288 := S287.front 2 rfl
        have S289 := S288.keep 2
        exact ⟨rs189, p187, c188, T190, hk241, S289, tT190, sT190, Bo186, Sub.cons' rfl rfl (Sub.nil _)⟩
  · rintro t' G291 ⟨rs231, p229, c230, T232, rfl, S290, tT232, sT232, Bo228, hsub292⟩
    refine ⟨_, hsub292, ?_⟩
    refine AX.seq ?_
    refine AX.region ?_
    refine AO.p rfl (p_move rfl) ?_
    refine AO.p rfl (p_assign rfl) ?_
    refine AO.nil ?_
    refine AX.ret ?_
    obtain rfl := some_inj hd235
    have S293 := S290.front 1 rfl
    have S294 := S293.front 1 rfl
    exact ⟨.inr rfl, _, res1 rfl (rv_tmp rfl), p229, c230, T232, rfl, S294, Bo228, tT232, sT232⟩

set_option maxHeartbeats 4000000 in
theorem W_impl_Schedule_text (fu : Nat) (H : AHeap) (a0_0 : Int) (p_a0_1 : Option Addr) (c_a0_1 : Nat) (a0_1 : List (List Int)) (a_a0_1 : All 14 a0_1) (v_a0_1 : Vw H p_a0_1 a0_1.length c_a0_1 (ints a0_1.flatten)) (r0 : ByteArray) (hd : D_impl_Schedule_text fu a0_0 a0_1 = some r0) : ACall Tryd.prog 38 [.agg [.int .i64 a0_0, .slice p_a0_1 a0_1.length c_a0_1].toArray] H (.string r0) H := by
  refine ACall.bodyP (N := 54) [(0, .agg [.int .i64 a0_0, .slice p_a0_1 a0_1.length c_a0_1].toArray)] Tryd.func38 rfl rfl rfl rfl ?_
  unfold D_impl_Schedule_text at hd
  have S0 : St [] H H [] := St.nil H
  refine AX.seq ?_
  refine AX.region ?_
  obtain ⟨G100, i101, hii101, hHG100, S102⟩ := S0.new (AObj.row false ([.int .i64 a0_0, .slice p_a0_1 a0_1.length c_a0_1]))
  refine AO.c rfl (s_box (i := i101) (cs := [.int .i64 a0_0, .slice p_a0_1 a0_1.length c_a0_1]) rfl hii101 rfl hHG100) ?_
  refine AO.p rfl (p_assign rfl) ?_
  refine AO.nil ?_
  refine AX.seq ?_
  refine AX.region ?_
  obtain ⟨G104, i105, hii105, hHG104, S106⟩ := S102.new (AObj.row false (sts []))
  refine AO.c rfl (s_build0 (i := i105) Tryd.underlying63 Tryd.sizeOf9 hii105 hHG104) ?_
  refine AO.p rfl (p_assign rfl) ?_
  refine AO.nil ?_
  refine AX.seq ?_
  refine AX.seq ?_
  refine AX.region ?_
  refine AO.p rfl (s_fieldAddr Tryd.underlying39 rfl Tryd.sizeOf37 (by decide) rfl rfl) ?_
  refine AO.c rfl (s_load Tryd.isAgg37 rfl (row_cell (S106.get (k := 1) rfl) rfl)) ?_
  refine AO.p rfl (p_len_slice rfl Tryd.underlying37) ?_
  refine AO.p rfl (p_move rfl) ?_
  refine AO.nil ?_
  obtain ⟨r937, hl938, hd939⟩ := bnd_some hd
  refine AX.cutS (fun t' H' => ∃ (ss936 : List ByteArray) (p934 : Option Addr) (c935 : Nat), ss936 = r937 ∧ St [] H H' [[(i101, AObj.row false ([.int .i64 a0_0, .slice p_a0_1 a0_1.length c_a0_1]))], oseg p934 (sts ss936)] ∧ Sb p934 (ss936.length) c935 1 ∧ Am.Sub [(1, .pointer (some ⟨i101, 0, none⟩)), (3, .slice p934 ss936.length c935)] t') ?_ ?_
  · refine AX.block ?_
    refine AX.loopF (fun s' t' H' => ∃ (ss660 : List ByteArray) (x661 : Int) (p658 : Option Addr) (c659 : Nat), (ss660, x661) = s' ∧ St [] H H' [[(i101, AObj.row false ([.int .i64 a0_0, .slice p_a0_1 a0_1.length c_a0_1]))], oseg p658 (sts ss660)] ∧ Sb p658 (ss660.length) c659 1 ∧ Am.Sub [(1, .pointer (some ⟨i101, 0, none⟩)), (3, .slice p658 ss660.length c659), (11, .slice p_a0_1 a0_1.length c_a0_1), (12, .int .i64 ((a0_1.length : Nat) : Int)), (13, .int .i64 x661)] t') hl938 ?_ ?_
    · skip
      have S940 := S106.front 0 rfl
      have S941 := S940.front 1 rfl
      exact ⟨[], 0, (some (Addr.mk i105 0 none)), 0, rfl, S941, (Sb.lit (n := 0) (by decide)), Sub.cons' rfl rfl (Sub.cons' rfl rfl (Sub.cons' rfl rfl (Sub.cons' rfl rfl (Sub.cons' rfl rfl (Sub.nil _)))))⟩
    · rintro n942 _ t' G946 ⟨ss660, x661, p658, c659, rfl, S945, Bo657, hsub947⟩ o948 ho943 hk944
      refine AX.sub hsub947 ?_
      unfold D_impl_Schedule_text_s0 at ho943
      refine AX.seq ?_
      refine AX.region ?_
      refine AO.p rfl (p_lss rfl rfl) ?_
      refine AO.nil ?_
      refine AX.seq ?_
      refine AX.cond rfl (fun c949 => ?_) (fun c949 => ?_)
      · have hd950 := bif_t c949 ho943
        refine AX.skip ?_
        refine AX.seq ?_
        refine AX.block ?_
        refine AX.seq ?_
        refine AX.region ?_
        obtain ⟨k951, hd952⟩ := chk_some hd950
        refine AO.p rfl (s_indexV (q := off p_a0_1 + x661.toNat * 14) Tryd.underlying37 Tryd.sizeOf76 rfl ((S945.view v_a0_1).rowne a_a0_1 (by decide) (lt_len rfl (inR_lt k951))) rfl k951 rfl) ?_
        refine AO.c rfl (s_loadN (vs := ints (rw_ a0_1 x661.toNat)) Tryd.isAgg76 Tryd.sizeOf76 rfl (ints_len (rw_len a_a0_1 (lt_len rfl (inR_lt k951)))) ((S945.view v_a0_1).row a_a0_1 (lt_len rfl (inR_lt k951)))) ?_
        obtain ⟨G953, i954, hii954, hHG953, S955⟩ := S945.new (AObj.row false (ints (List.replicate 14 0)))
        refine AO.c rfl (s_alloc (i := i954) (cs := ints (List.replicate 14 0)) Tryd.zeroValue76 rfl rfl hii954 hHG953) ?_
        obtain ⟨G957, hHG957, S958⟩ := S955.set (k := 0) (i := i954) rfl (AObj.row false (ints (rw_ a0_1 x661.toNat)))
        refine AO.s (s_storeAll (vs := ints (rw_ a0_1 x661.toNat)) Tryd.sizeOf76 rfl rfl ints_one (S955.get (k := 0) rfl) (ints_len (rw_len a_a0_1 (lt_len rfl (inR_lt k951)))) (ints_len len_rep) hHG957) ?_
        refine AO.nil ?_
        refine AX.seq ?_
        refine AX.region ?_
        obtain ⟨G959, i960, hii960, hHG959, S961⟩ := S958.new (AObj.row false (sts []))
        refine AO.c rfl (s_build0 (i := i960) Tryd.underlying63 Tryd.sizeOf9 hii960 hHG959) ?_
        refine AO.p rfl (p_assign rfl) ?_
        refine AO.nil ?_
        refine AX.seq ?_
        refine AX.seq ?_
        refine AX.region ?_
        refine AO.c rfl (s_loadN (vs := ints (rw_ a0_1 x661.toNat)) Tryd.isAgg76 Tryd.sizeOf76 rfl (ints_len (rw_len a_a0_1 (lt_len rfl (inR_lt k951)))) (row_cells (S961.get (k := 1) rfl))) ?_
        refine AO.p rfl (s_fieldAddr Tryd.underlying39 rfl Tryd.sizeOf2 (by decide) rfl rfl) ?_
        refine AO.c rfl (s_load Tryd.isAgg2 rfl (row_cell (S961.get (k := 2) rfl) rfl)) ?_
        obtain ⟨rs963, h964, hd965⟩ := bnd_some hd952
        obtain ⟨_, G974, hc973, p966, c967, T970, rfl, S975, B969, t971, s972⟩ := W_impl_Round_pairs fu G959 (rw_ a0_1 x661.toNat) (rw_len a_a0_1 (lt_len rfl (inR_lt k951))) a0_0 rs963 h964
        have S976 := S961.call S975
        refine AO.c rfl (o_call (vs := [.agg (ints (rw_ a0_1 x661.toNat)).toArray, .int .i64 a0_0]) rfl Tryd.call71 hc973) ?_
        refine AO.p rfl (p_len_slice rfl Tryd.underlying22) ?_
        refine AO.p rfl (p_move rfl) ?_
        refine AO.nil ?_
        obtain ⟨r1129, hl1130, hd1131⟩ := bnd_some hd965
        refine AX.cutS (fun t' H' => ∃ (ss1128 : List ByteArray) (p1126 : Option Addr) (c1127 : Nat), ss1128 = r1129 ∧ St [] H H' [[(i101, AObj.row false ([.int .i64 a0_0, .slice p_a0_1 a0_1.length c_a0_1]))], oseg p658 (sts ss660), oseg p1126 (sts ss1128)] ∧ Sb p1126 (ss1128.length) c1127 1 ∧ Am.Sub [(1, .pointer (some ⟨i101, 0, none⟩)), (3, .slice p658 ss660.length c659), (6, .slice p1126 ss1128.length c1127), (11, .slice p_a0_1 a0_1.length c_a0_1), (12, .int .i64 ((a0_1.length : Nat) : Int)), (13, .int .i64 x661)] t') ?_ ?_
        · refine AX.block ?_
          refine AX.loopF (fun s' t' H' => ∃ (ss1078 : List ByteArray) (x1080 : Int) (p1076 : Option Addr) (c1077 : Nat), (ss1078, x1080) = s' ∧ St [] H H' [[(i101, AObj.row false ([.int .i64 a0_0, .slice p_a0_1 a0_1.length c_a0_1]))], oseg p658 (sts ss660), oseg p1076 (sts ss1078), oseg p966 (tcells T970), tseg T970] ∧ Sb p1076 (ss1078.length) c1077 1 ∧ Am.Sub [(1, .pointer (some ⟨i101, 0, none⟩)), (3, .slice p658 ss660.length c659), (6, .slice p1076 ss1078.length c1077), (11, .slice p_a0_1 a0_1.length c_a0_1), (12, .int .i64 ((a0_1.length : Nat) : Int)), (13, .int .i64 x661), (21, .slice p966 rs963.length c967), (22, .int .i64 ((rs963.length : Nat) : Int)), (23, .int .i64 x1080)] t') hl1130 ?_ ?_
          · skip
            have S1132 := S976.front 1 rfl
            have S1133 := S1132.front 1 rfl
            have S1134 := S1133.front 2 rfl
            have S1135 := S1134.front 5 rfl
            have S1136 := S1135.front 5 rfl
            have S1137 := S1136.keep 5
            exact ⟨[], 0, (some (Addr.mk i960 0 none)), 0, rfl, S1137, (Sb.lit (n := 0) (by decide)), Sub.cons' rfl rfl (Sub.cons' rfl rfl (Sub.cons' rfl rfl (Sub.cons' rfl rfl (Sub.cons' rfl rfl (Sub.cons' rfl rfl (Sub.cons' rfl rfl (Sub.cons' rfl rfl (Sub.cons' rfl rfl (Sub.nil _)))))))))⟩
          · rintro n1138 _ t' G1142 ⟨ss1078, x1080, p1076, c1077, rfl, S1141, Bo1075, hsub1143⟩ o1144 ho1139 hk1140
            refine AX.sub hsub1143 ?_
            unfold D_impl_Schedule_text_s1 at ho1139
            refine AX.seq ?_
            refine AX.region ?_
            refine AO.p rfl (p_lss rfl rfl) ?_
            refine AO.nil ?_
            refine AX.seq ?_
            refine AX.cond rfl (fun c1145 => ?_) (fun c1145 => ?_)
            · have hd1146 := bif_t c1145 ho1139
              refine AX.skip ?_
              refine AX.seq ?_
              refine AX.block ?_
              refine AX.seq ?_
              refine AX.region ?_
              obtain ⟨k1147, hd1148⟩ := chk_some hd1146
              refine AO.p rfl (s_indexV (q := x1080.toNat) Tryd.underlying22 Tryd.sizeOf66 rfl (B969.at (inR_pos k1147)) rfl k1147 (z1 _)) ?_
              obtain ⟨p1149, c1150, e1151, f1152⟩ := tget t971 (lt_len rfl (inR_lt k1147))
              refine AO.c rfl (s_load Tryd.isAgg66 rfl (row_cell (S1141.oat (k := 3) rfl (B969.at (inR_pos k1147))) f1152)) ?_
              refine AO.p rfl (p_assign rfl) ?_
              refine AO.nil ?_
              refine DR.startS [false, false, false, false, true, false, false, false, false, true, false, false, true, false] mix (by kernel_rfl) (fun hst => ?_)
              refine DR.p rfl rfl (p_move rfl) ?_
              refine DR.p rfl rfl (p_move rfl) ?_
              obtain ⟨k1153, hd1154⟩ := chk_some hd1148
              refine DR.p rfl rfl (s_indexV (q := off p1149 + 0) Tryd.underlying66 Tryd.sizeOf2 rfl ((TVw.at (S1141.oviewT (k := 4) rfl s972) e1151).p (ints_get (lt_len rfl (inR_lt k1153)))) rfl k1153 (o1 _ _)) ?_
              refine DR.r rfl rfl (r_load rfl Tryd.isAgg2) (one_read ((TVw.at (S1141.oviewT (k := 4) rfl s972) e1151).get _ _ (ints_get (lt_len rfl (inR_lt k1153)))) (.of_flat0 rfl)) ?_
              obtain ⟨s1155, h1156, hd1157⟩ := bnd_some hd1154
              refine DR.w rfl rfl (o_call (vs := [.int .i64 (rd (rw_ rs963 x1080.toNat) 0)]) rfl Tryd.call65 (W_impl_decimal fu G1142 (rd (rw_ rs963 x1080.toNat) 0) s1155 h1156)) (Nat.le_refl _) ?_
              obtain ⟨k1159, hd1160⟩ := chk_some hd1157
              refine DR.p rfl rfl (p_addS rfl rfl k1159) ?_
              refine DR.p rfl rfl (p_move rfl) ?_
              obtain ⟨k1161, hd1162⟩ := chk_some hd1160
              refine DR.p rfl rfl (s_indexV (q := off p1149 + 1) Tryd.underlying66 Tryd.sizeOf2 rfl ((TVw.at (S1141.oviewT (k := 4) rfl s972) e1151).p (ints_get (lt_len rfl (inR_lt k1161)))) rfl k1161 (o1 _ _)) ?_
              refine DR.r rfl rfl (r_load rfl Tryd.isAgg2) (one_read ((TVw.at (S1141.oviewT (k := 4) rfl s972) e1151).get _ _ (ints_get (lt_len rfl (inR_lt k1161)))) (.of_flat0 rfl)) ?_
              obtain ⟨s1163, h1164, hd1165⟩ := bnd_some hd1162
              refine DR.w rfl rfl (o_call (vs := [.int .i64 (rd (rw_ rs963 x1080.toNat) 1)]) rfl Tryd.call65 (W_impl_decimal fu G1142 (rd (rw_ rs963 x1080.toNat) 1) s1163 h1164)) (Nat.le_refl _) ?_
              obtain ⟨k1167, hd1168⟩ := chk_some hd1165
              refine DR.p rfl rfl (p_addS rfl rfl k1167) ?_
              obtain ⟨G1169, i1170, hii1170, hHG1169, S1171⟩ := S1141.new (AObj.row false (sts ([(s1155 ++ (⟨#[45]⟩ : ByteArray)) ++ s1163])))
              refine DR.a rfl rfl hii1170 hHG1169 (a_buildZ (vs := [(0, .string ((s1155 ++ (⟨#[45]⟩ : ByteArray)) ++ s1163))]) (cs := sts ([(s1155 ++ (⟨#[45]⟩ : ByteArray)) ++ s1163])) Tryd.underlying63 Tryd.sizeOf9 Tryd.zeroValue9 rfl rfl rfl (by decide) rfl rfl) ?_
              obtain ⟨k1173, hd1174⟩ := chk_some hd1168
              obtain ⟨p1175, c1176, G1177, haG1177, S1178, Bp1175⟩ := S1171.app (k := 3) rfl Bo1075 (sts ([(s1155 ++ (⟨#[45]⟩ : ByteArray)) ++ s1163])) 1 (sts_len1 rfl)
              have S1179 := S1178.cellsEq (k := 3) (us' := sts (ss1078 ++ [(s1155 ++ (⟨#[45]⟩ : ByteArray)) ++ s1163])) (sts_app _ _) rfl
              have BS1179 : Sb p1175 ((ss1078 ++ [(s1155 ++ (⟨#[45]⟩ : ByteArray)) ++ s1163]).length) c1176 1 := (show ss1078.length + 1 = (ss1078 ++ [(s1155 ++ (⟨#[45]⟩ : ByteArray)) ++ s1163]).length from len_app (a := ss1078) (b := [(s1155 ++ (⟨#[45]⟩ : ByteArray)) ++ s1163]) rfl rfl) ▸ Bp1175
              have S1180 := S1179.drop 0 rfl
              refine DR.w rfl rfl (s_app (by_ := 16) (us := sts ss1078) (vs := sts ([(s1155 ++ (⟨#[45]⟩ : ByteArray)) ++ s1163])) Tryd.underlying63 Tryd.underlying63 Tryd.typeInfo9 Tryd.sizeOf9 Tryd.zeroValue9 rfl rfl rfl rfl rfl rfl rfl (S1171.buf (k := 3) rfl Bo1075 (sts_len1 rfl)) (S1171.oview (k := 0) rfl (Sb.lit (n := 1) (by decide)) (sts_len1 rfl)) (sts_len1 rfl) sts_one k1173 haG1177 (show ss1078.length + 1 = (ss1078 ++ [(s1155 ++ (⟨#[45]⟩ : ByteArray)) ++ s1163]).length from len_app (a := ss1078) (b := [(s1155 ++ (⟨#[45]⟩ : ByteArray)) ++ s1163]) rfl rfl)) (appR_len haG1177) ?_
              refine DR.p rfl rfl (p_assign rfl) ?_
              refine DR.nil 14 [(8, 4)] hst (by kernel_rfl) ⟨(rd1 (fun _ => rfl)), trivial⟩ ?_
              refine AX.region ?_
              obtain ⟨k1181, hd1182⟩ := chk_some hd1174
              refine AO.p rfl (p_addE rfl rfl k1181) ?_
              refine AO.p rfl (p_move rfl) ?_
              refine AO.nil ?_
              obtain rfl := some_inj hd1182
              have S1184 := S1180.front 4 rfl
              have S1185 := S1184.front 4 rfl
              have S1186 := S1185.front 4 rfl
              have S1187 := S1186.front 4 rfl
              have S1188 := S1187.front 4 rfl
              exact ⟨((ss1078 ++ [(s1155 ++ (⟨#[45]⟩ : ByteArray)) ++ s1163]), x1080 + 1), hk1140, (ss1078 ++ [(s1155 ++ (⟨#[45]⟩ : ByteArray)) ++ s1163]), (x1080 + 1), p1175, c1176, rfl, S1188, BS1179, Sub.cons' rfl rfl (Sub.cons' rfl rfl (Sub.cons' rfl rfl (Sub.cons' rfl rfl (Sub.cons' rfl rfl (Sub.cons' rfl rfl (Sub.cons' rfl rfl (Sub.cons' rfl rfl (Sub.cons' rfl rfl (Sub.nil _)))))))))⟩
            · have hd1189 := bif_f c1145 ho1139
              refine AX.exit ?_
              obtain rfl := some_inj hd1189
              have S1190 := S1141.front 2 rfl
              have S1191 := S1190.front 2 rfl
              have S1192 := S1191.front 2 rfl
              have S1193 := S1192.keep 3
              exact ⟨ss1078, p1076, c1077, hk1140, S1193, Bo1075, Sub.cons' rfl rfl (Sub.cons' rfl rfl (Sub.cons' rfl rfl (Sub.cons' rfl rfl (Sub.cons' rfl rfl (Sub.cons' rfl rfl (Sub.nil _))))))⟩
        · rintro t' G1195 ⟨ss1128, p1126, c1127, rfl, S1194, Bo1125, hsub1196⟩
          refine ⟨_, hsub1196, ?_⟩
          refine AX.region ?_
          refine AO.p rfl (p_move rfl) ?_
          refine AO.p rfl (p_move rfl) ?_
          obtain ⟨s1197, h1198, hd1199⟩ := bnd_some hd1131
          refine AO.c rfl (o_call (vs := [.slice p1126 ss1128.length c1127, .string (⟨#[44]⟩ : ByteArray)]) rfl Tryd.call66 (W_strings_Join fu G1195 p1126 c1127 ss1128 (S1194.oview (k := 2) rfl Bo1125 (sts_len1 rfl)) (⟨#[44]⟩ : ByteArray) s1197 h1198)) ?_
          obtain ⟨G1201, i1202, hii1202, hHG1201, S1203⟩ := S1194.new (AObj.row false (sts [s1197]))
          refine AO.c rfl (s_buildZ (i := i1202) (vs := [(0, .string s1197)]) (cs := sts [s1197]) Tryd.underlying63 Tryd.sizeOf9 Tryd.zeroValue9 rfl rfl rfl (by decide) rfl rfl hii1202 hHG1201) ?_
          obtain ⟨k1205, hd1206⟩ := chk_some hd1199
          obtain ⟨p1207, c1208, G1209, haG1209, S1210, Bp1207⟩ := S1203.app (k := 2) rfl Bo657 (sts [s1197]) 1 (sts_len1 rfl)
          have S1211 := S1210.cellsEq (k := 2) (us' := sts (ss660 ++ [s1197])) (sts_app _ _) rfl
          have BS1211 : Sb p1207 ((ss660 ++ [s1197]).length) c1208 1 := (show ss660.length + 1 = (ss660 ++ [s1197]).length from len_app (a := ss660) (b := [s1197]) rfl rfl) ▸ Bp1207
          have S1212 := S1211.drop 0 rfl
          refine AO.c rfl (s_app (by_ := 16) (us := sts ss660) (vs := sts [s1197]) Tryd.underlying63 Tryd.underlying63 Tryd.typeInfo9 Tryd.sizeOf9 Tryd.zeroValue9 rfl rfl rfl rfl rfl rfl rfl (S1203.buf (k := 2) rfl Bo657 (sts_len1 rfl)) (S1203.oview (k := 0) rfl (Sb.lit (n := 1) (by decide)) (sts_len1 rfl)) (sts_len1 rfl) sts_one k1205 haG1209 (show ss660.length + 1 = (ss660 ++ [s1197]).length from len_app (a := ss660) (b := [s1197]) rfl rfl)) ?_
          refine AO.p rfl (p_assign rfl) ?_
          refine AO.nil ?_
          refine AX.region ?_
          obtain ⟨k1213, hd1214⟩ := chk_some hd1206
          refine AO.p rfl (p_addE rfl rfl k1213) ?_
          refine AO.p rfl (p_move rfl) ?_
          refine AO.nil ?_
          obtain rfl := some_inj hd1214
          have S1216 := S1212.front 1 rfl
          have S1217 := S1216.front 1 rfl
          have S1218 := S1217.keep 2
          exact ⟨((ss660 ++ [s1197]), x661 + 1), hk944, (ss660 ++ [s1197]), (x661 + 1), p1207, c1208, rfl, S1218, BS1211, Sub.cons' rfl rfl (Sub.cons' rfl rfl (Sub.cons' rfl rfl (Sub.cons' rfl rfl (Sub.cons' rfl rfl (Sub.nil _)))))⟩
      · have hd1219 := bif_f c949 ho943
        refine AX.exit ?_
        obtain rfl := some_inj hd1219
        have S1220 := S945.front 1 rfl
        have S1221 := S1220.front 1 rfl
        exact ⟨ss660, p658, c659, hk944, S1221, Bo657, Sub.cons' rfl rfl (Sub.cons' rfl rfl (Sub.nil _))⟩
  · rintro t' G1223 ⟨ss936, p934, c935, rfl, S1222, Bo933, hsub1224⟩
    refine ⟨_, hsub1224, ?_⟩
    refine AX.seq ?_
    refine AX.region ?_
    refine AO.p rfl (s_fieldAddr Tryd.underlying39 rfl Tryd.sizeOf2 (by decide) rfl rfl) ?_
    refine AO.c rfl (s_load Tryd.isAgg2 rfl (row_cell (S1222.get (k := 0) rfl) rfl)) ?_
    obtain ⟨s1225, h1226, hd1227⟩ := bnd_some hd939
    refine AO.c rfl (o_call (vs := [.int .i64 a0_0]) rfl Tryd.call65 (W_impl_decimal fu G1223 a0_0 s1225 h1226)) ?_
    obtain ⟨k1229, hd1230⟩ := chk_some hd1227
    refine AO.p rfl (p_addS rfl rfl k1229) ?_
    refine AO.p rfl (p_move rfl) ?_
    obtain ⟨s1231, h1232, hd1233⟩ := bnd_some hd1230
    refine AO.c rfl (o_call (vs := [.slice p934 ss936.length c935, .string (⟨#[59]⟩ : ByteArray)]) rfl Tryd.call66 (W_strings_Join fu G1223 p934 c935 ss936 (S1222.oview (k := 1) rfl Bo933 (sts_len1 rfl)) (⟨#[59]⟩ : ByteArray) s1231 h1232)) ?_
    obtain ⟨k1235, hd1236⟩ := chk_some hd1233
    refine AO.p rfl (p_addS rfl rfl k1235) ?_
    refine AO.p rfl (p_assign rfl) ?_
    refine AO.nil ?_
    refine AX.ret ?_
    obtain rfl := some_inj hd1236
    exact ⟨.inr rfl, _, res1 rfl (rv_tmp rfl), rfl, (flatB_ok rfl), S1222.hold⟩

set_option maxHeartbeats 4000000 in
theorem W_spec_ScheduleText (fu : Nat) (H : AHeap) (a0_0 : Int) (p_a0_1 : Option Addr) (c_a0_1 : Nat) (a0_1 : List (List Int)) (a_a0_1 : All 14 a0_1) (v_a0_1 : Vw H p_a0_1 a0_1.length c_a0_1 (ints a0_1.flatten)) (r0 : ByteArray) (r1 : Int) (hd : D_spec_ScheduleText fu a0_0 a0_1 = some (r0, r1)) : ACall Tryd.prog 13 [.agg [.int .i64 a0_0, .slice p_a0_1 a0_1.length c_a0_1].toArray] H (.tuple #[.string r0, .int .i64 r1]) H := by
  refine ACall.bodyP (N := 15) [(0, .agg [.int .i64 a0_0, .slice p_a0_1 a0_1.length c_a0_1].toArray)] Tryd.func13 rfl rfl rfl rfl ?_
  unfold D_spec_ScheduleText at hd
  have S0 : St [] H H [] := St.nil H
  refine AX.seq ?_
  refine AX.region ?_
  obtain ⟨G100, i101, hii101, hHG100, S102⟩ := S0.new (AObj.row false ([.int .i64 a0_0, .slice p_a0_1 a0_1.length c_a0_1]))
  refine AO.c rfl (s_box (i := i101) (cs := [.int .i64 a0_0, .slice p_a0_1 a0_1.length c_a0_1]) rfl hii101 rfl hHG100) ?_
  refine AO.p rfl (p_assign rfl) ?_
  refine AO.p rfl (p_assign rfl) ?_
  refine AO.nil ?_
  refine AX.seq ?_
  refine AX.block ?_
  refine AX.seq ?_
  refine AX.region ?_
  refine AO.c rfl (s_loadN (vs := [.int .i64 a0_0, .slice p_a0_1 a0_1.length c_a0_1]) Tryd.isAgg39 Tryd.sizeOf39 rfl rfl (row_cells (S102.get (k := 0) rfl))) ?_
  obtain ⟨b104, h105, hd106⟩ := bnd_some hd
  refine AO.c rfl (o_call (vs := [.agg [.int .i64 a0_0, .slice p_a0_1 a0_1.length c_a0_1].toArray]) rfl Tryd.call33 (W_spec_l01Is fu G100 a0_0 p_a0_1 c_a0_1 a0_1 a_a0_1 (S102.view v_a0_1) b104 h105)) ?_
  refine AO.p rfl (p_not rfl) ?_
  refine AO.p rfl (p_assign rfl) ?_
  refine AO.nil ?_
  refine AX.cond rfl (fun c108 => ?_) (fun c108 => ?_)
  · have hd109 := bif_t c108 hd106
    refine AX.seq ?_
    refine AX.region ?_
    refine AO.p rfl (p_assign rfl) ?_
    refine AO.p rfl (p_assign rfl) ?_
    refine AO.nil ?_
    refine AX.ret ?_
    obtain ⟨rfl, rfl⟩ := Prod.mk.inj (some_inj hd109)
    exact ⟨.inr rfl, _, res2 rfl (rv_tmp rfl) (rv_tmp rfl), rfl, (flat_t2 (flatB_ok rfl) (flatB_ok rfl)), S102.hold⟩
  · have hd111 := bif_f c108 hd106
    refine AX.seq ?_
    refine AX.region ?_
    refine AO.p rfl (s_fieldAddr Tryd.underlying39 rfl Tryd.sizeOf37 (by decide) rfl rfl) ?_
    refine AO.c rfl (s_load Tryd.isAgg37 rfl (row_cell (S102.get (k := 0) rfl) rfl)) ?_
    refine AO.p rfl (p_len_slice rfl Tryd.underlying37) ?_
    refine AO.p rfl (p_eql rfl rfl) ?_
    refine AO.p rfl (p_assign rfl) ?_
    refine AO.nil ?_
    refine AX.cond rfl (fun c112 => ?_) (fun c112 => ?_)
    · have hd113 := bif_t c112 hd111
      refine AX.seq ?_
      refine AX.region ?_
      refine AO.p rfl (p_assign rfl) ?_
      refine AO.p rfl (p_assign rfl) ?_
      refine AO.nil ?_
      refine AX.ret ?_
      obtain ⟨rfl, rfl⟩ := Prod.mk.inj (some_inj hd113)
      exact ⟨.inr rfl, _, res2 rfl (rv_tmp rfl) (rv_tmp rfl), rfl, (flat_t2 (flatB_ok rfl) (flatB_ok rfl)), S102.hold⟩
    · have hd115 := bif_f c112 hd111
      refine AX.skip ?_
      refine AX.seq ?_
      refine AX.region ?_
      refine AO.c rfl (s_loadN (vs := [.int .i64 a0_0, .slice p_a0_1 a0_1.length c_a0_1]) Tryd.isAgg39 Tryd.sizeOf39 rfl rfl (row_cells (S102.get (k := 0) rfl))) ?_
      obtain ⟨s116, h117, hd118⟩ := bnd_some hd115
      refine AO.c rfl (o_call (vs := [.agg [.int .i64 a0_0, .slice p_a0_1 a0_1.length c_a0_1].toArray]) rfl Tryd.call34 (W_spec_l01Text fu G100 a0_0 p_a0_1 c_a0_1 a0_1 a_a0_1 (S102.view v_a0_1) s116 h117)) ?_
      refine AO.p rfl (p_assign rfl) ?_
      refine AO.p rfl (p_assign rfl) ?_
      refine AO.nil ?_
      refine AX.ret ?_
      obtain ⟨rfl, rfl⟩ := Prod.mk.inj (some_inj hd118)
      exact ⟨.inr rfl, _, res2 rfl (rv_tmp rfl) (rv_tmp rfl), rfl, (flat_t2 (flatB_ok rfl) (flatB_ok rfl)), S102.hold⟩

set_option maxHeartbeats 4000000 in
theorem W_impl_ScheduleText (fu : Nat) (H : AHeap) (a0_0 : Int) (p_a0_1 : Option Addr) (c_a0_1 : Nat) (a0_1 : List (List Int)) (a_a0_1 : All 14 a0_1) (v_a0_1 : Vw H p_a0_1 a0_1.length c_a0_1 (ints a0_1.flatten)) (r0 : ByteArray) (r1 : Int) (hd : D_impl_ScheduleText fu a0_0 a0_1 = some (r0, r1)) : ACall Tryd.prog 15 [.agg [.int .i64 a0_0, .slice p_a0_1 a0_1.length c_a0_1].toArray] H (.tuple #[.string r0, .int .i64 r1]) H := by
  refine ACall.bodyP (N := 20) [(0, .agg [.int .i64 a0_0, .slice p_a0_1 a0_1.length c_a0_1].toArray)] Tryd.func15 rfl rfl rfl rfl ?_
  unfold D_impl_ScheduleText at hd
  have S0 : St [] H H [] := St.nil H
  refine AX.seq ?_
  refine AX.region ?_
  obtain ⟨G100, i101, hii101, hHG100, S102⟩ := S0.new (AObj.row false ([.int .i64 a0_0, .slice p_a0_1 a0_1.length c_a0_1]))
  refine AO.c rfl (s_box (i := i101) (cs := [.int .i64 a0_0, .slice p_a0_1 a0_1.length c_a0_1]) rfl hii101 rfl hHG100) ?_
  refine AO.p rfl (p_assign rfl) ?_
  refine AO.p rfl (p_assign rfl) ?_
  refine AO.nil ?_
  refine AX.seq ?_
  refine AX.region ?_
  refine AO.c rfl (s_loadN (vs := [.int .i64 a0_0, .slice p_a0_1 a0_1.length c_a0_1]) Tryd.isAgg39 Tryd.sizeOf39 rfl rfl (row_cells (S102.get (k := 0) rfl))) ?_
  obtain ⟨x104, h105, hd106⟩ := bnd_some hd
  refine AO.c rfl (o_call (vs := [.agg [.int .i64 a0_0, .slice p_a0_1 a0_1.length c_a0_1].toArray, .func (.func 37) #[] #[]]) rfl Tryd.call36 (W_impl_scheduleCode fu G100 a0_0 p_a0_1 c_a0_1 a0_1 a_a0_1 (S102.view v_a0_1) 37 #[] #[] (fun _ => D_impl_always fu ) Tryd.call37 (fun G' hG  b' hb' => W_impl_always fu G'  b' hb') x104 h105)) ?_
  refine AO.p rfl (p_assign rfl) ?_
  refine AO.nil ?_
  refine AX.seq ?_
  refine AX.cut (fun t' H' => G100 = H' ∧ Am.Sub [(1, .pointer (some ⟨i101, 0, none⟩)), (4, .int .i64 x104), (14, .bool ((decide (x104 = 0)) && (decide (((a0_1.length : Nat) : Int) = 0))))] t') ?_ ?_
  · skip
    refine AX.region ?_
    refine AO.p rfl (p_move rfl) ?_
    refine AO.p rfl (p_eql rfl rfl) ?_
    refine AO.p rfl (p_move rfl) ?_
    refine AO.cases (d := 9) rfl (fun c111 => ?_) (fun c111 => ?_)
    · skip
      refine AO.gp rfl rfl rfl (s_fieldAddr Tryd.underlying39 rfl Tryd.sizeOf37 (by decide) rfl rfl) ?_
      refine AO.gc rfl rfl rfl (s_load Tryd.isAgg37 rfl (row_cell (S102.get (k := 0) rfl) rfl)) ?_
      refine AO.gp rfl rfl rfl (p_len_slice rfl Tryd.underlying37) ?_
      refine AO.gp rfl rfl rfl (p_eql rfl rfl) ?_
      refine AO.p rfl (p_pickT rfl rfl) ?_
      refine AO.nil ?_
      exact ⟨rfl, Sub.cons' rfl rfl (Sub.cons' rfl rfl (Sub.cons' rfl (bool_eq (by simp only [c111, Bool.true_and, Bool.false_and, Bool.and_true, Bool.and_false, Bool.true_or, Bool.false_or, Bool.or_true, Bool.or_false, Bool.not_true, Bool.not_false, cond_true, cond_false])) (Sub.nil _)))⟩
    · skip
      refine AO.gn rfl rfl rfl ?_
      refine AO.gn rfl rfl rfl ?_
      refine AO.gn rfl rfl rfl ?_
      refine AO.gn rfl rfl rfl ?_
      refine AO.p rfl (p_pickF rfl rfl) ?_
      refine AO.nil ?_
      exact ⟨rfl, Sub.cons' rfl rfl (Sub.cons' rfl rfl (Sub.cons' rfl (bool_eq (by simp only [c111, Bool.true_and, Bool.false_and, Bool.and_true, Bool.and_false, Bool.true_or, Bool.false_or, Bool.or_true, Bool.or_false, Bool.not_true, Bool.not_false, cond_true, cond_false])) (Sub.nil _)))⟩
  · rintro t' _ ⟨rfl, hsub112⟩
    refine AX.sub hsub112 ?_
    obtain ⟨r118, hb119, hd120⟩ := bnd_some hd106
    refine AX.cutS (fun t' H' => ∃ (x117 : Int), x117 = r118 ∧ St [] H H' [[(i101, AObj.row false ([.int .i64 a0_0, .slice p_a0_1 a0_1.length c_a0_1]))]] ∧ Am.Sub [(1, .pointer (some ⟨i101, 0, none⟩)), (4, .int .i64 x117)] t') ?_ ?_
    · skip
      refine AX.cond rfl (fun c121 => ?_) (fun c121 => ?_)
      · have hd122 := bif_t c121 hb119
        refine AX.region ?_
        refine AO.p rfl (p_assign rfl) ?_
        refine AO.nil ?_
        have S123 := S102.front 0 rfl
        exact ⟨5, (some_inj hd122), S123, Sub.cons' rfl rfl (Sub.cons' rfl rfl (Sub.nil _))⟩
      · have hd124 := bif_f c121 hb119
        refine AX.skip ?_
        have S125 := S102.front 0 rfl
        exact ⟨x104, (some_inj hd124), S125, Sub.cons' rfl rfl (Sub.cons' rfl rfl (Sub.nil _))⟩
    · rintro t' G127 ⟨x117, rfl, S126, hsub128⟩
      refine ⟨_, hsub128, ?_⟩
      refine AX.seq ?_
      refine AX.seq ?_
      refine AX.region ?_
      refine AO.p rfl (p_move rfl) ?_
      refine AO.p rfl (p_neq rfl rfl) ?_
      refine AO.nil ?_
      refine AX.cond rfl (fun c129 => ?_) (fun c129 => ?_)
      · have hd130 := bif_t c129 hd120
        refine AX.seq ?_
        refine AX.region ?_
        refine AO.p rfl (p_move rfl) ?_
        refine AO.p rfl (p_assign rfl) ?_
        refine AO.p rfl (p_assign rfl) ?_
        refine AO.nil ?_
        refine AX.ret ?_
        obtain ⟨rfl, rfl⟩ := Prod.mk.inj (some_inj hd130)
        exact ⟨.inr rfl, _, res2 rfl (rv_tmp rfl) (rv_tmp rfl), rfl, (flat_t2 (flatB_ok rfl) (flatB_ok rfl)), S126.hold⟩
      · have hd132 := bif_f c129 hd120
        refine AX.skip ?_
        refine AX.seq ?_
        refine AX.region ?_
        refine AO.c rfl (s_loadN (vs := [.int .i64 a0_0, .slice p_a0_1 a0_1.length c_a0_1]) Tryd.isAgg39 Tryd.sizeOf39 rfl rfl (row_cells (S126.get (k := 0) rfl))) ?_
        obtain ⟨s133, h134, hd135⟩ := bnd_some hd132
        refine AO.c rfl (o_call (vs := [.agg [.int .i64 a0_0, .slice p_a0_1 a0_1.length c_a0_1].toArray]) rfl Tryd.call38 (W_impl_Schedule_text fu G127 a0_0 p_a0_1 c_a0_1 a0_1 a_a0_1 (S126.view v_a0_1) s133 h134)) ?_
        refine AO.p rfl (p_assign rfl) ?_
        refine AO.p rfl (p_assign rfl) ?_
        refine AO.nil ?_
        refine AX.ret ?_
        obtain ⟨rfl, rfl⟩ := Prod.mk.inj (some_inj hd135)
        exact ⟨.inr rfl, _, res2 rfl (rv_tmp rfl) (rv_tmp rfl), rfl, (flat_t2 (flatB_ok rfl) (flatB_ok rfl)), S126.hold⟩

end Go.Proofs.YtfiilgnebmidbaaDoor
