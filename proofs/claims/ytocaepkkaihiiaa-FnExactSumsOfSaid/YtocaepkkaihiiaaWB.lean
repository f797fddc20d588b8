/-
  The program computes that, printed by a program. No condition.
-/
import Derived.Test.YtocaepkkaihiiaaDB
import Derived.Test.YtocaepkkaihiiaaWL
import Derived.Test.YtocaepkkaihiiaaWM
import Derived.Test.YtocaepkkaihiiaaProg
import Derived.KernelRfl
namespace Go.Proofs.Ytocaepkkaihiiaa
open Go Go.RowKit Am
set_option linter.unusedVariables false
set_option linter.unusedSimpArgs false
set_option maxRecDepth 20000
set_option maxHeartbeats 4000000 in
theorem W_spec_l01Pairs (fu : Nat) (H : AHeap) (a0 : Int) (a1 : List Int) (h_a1 : a1.length = 14) (r0 : List (List Int)) (hd : D_spec_l01Pairs fu a0 a1 = some r0) : ∃ v G', ACall Try.prog 61 [.int .i64 a0, .agg (ints a1).toArray] H v G' ∧ ∃ (p_r0 : Option Addr) (c_r0 : Nat) (T_r0 : Tb), (v = .slice p_r0 r0.length c_r0) ∧ St [] H G' [oseg p_r0 (tcells T_r0), tseg T_r0] ∧ Sb p_r0 r0.length c_r0 1 ∧ trows T_r0 = r0 ∧ TSb T_r0 := by
  refine ACall.bodyX (args := [.int .i64 a0, .agg (ints a1).toArray]) (N := 27) [(0, .int .i64 a0), (1, .agg (ints a1).toArray)] (fun v G' => ∃ (p_r0 : Option Addr) (c_r0 : Nat) (T_r0 : Tb), (v = .slice p_r0 r0.length c_r0) ∧ St [] H G' [oseg p_r0 (tcells T_r0), tseg T_r0] ∧ Sb p_r0 r0.length c_r0 1 ∧ trows T_r0 = r0 ∧ TSb T_r0) Try.func61 rfl rfl rfl rfl ?_
  unfold D_spec_l01Pairs at hd
  have S0 : St [] H H [] := St.nil H
  refine AX.seq ?_
  refine AX.region ?_
  obtain ⟨G100, i101, hii101, hHG100, S102⟩ := S0.new (AObj.row false (ints a1))
  refine AO.c rfl (s_box (i := i101) (cs := ints a1) rfl hii101 rfl hHG100) ?_
  refine AO.p rfl (p_assign rfl) ?_
  refine AO.nil ?_
  refine AX.seq ?_
  refine AX.region ?_
  obtain ⟨G104, i105, hii105, hHG104, S106⟩ := S102.new (AObj.row false (tcells []))
  have S106t := S106.nilseg 1
  refine AO.c rfl (s_build0 (i := i105) Try.underlying23 Try.sizeOf69 hii105 hHG104) ?_
  refine AO.p rfl (p_assign rfl) ?_
  refine AO.nil ?_
  refine AX.seq ?_
  refine AX.seq ?_
  refine AX.region ?_
  refine AO.p rfl (p_assign rfl) ?_
  refine AO.nil ?_
  obtain ⟨r233, hl234, hd235⟩ := bnd_some hd
  refine AX.cutQ (fun t' H' => ∃ (rs231 : List (List Int)) (p229 : Option Addr) (c230 : Nat) (T232 : Tb), rs231 = r233 ∧ St [] H H' [oseg p229 (tcells T232), tseg T232] ∧ trows T232 = rs231 ∧ TSb T232 ∧ Sb p229 (rs231.length) c230 1 ∧ Am.Sub [(5, .slice p229 rs231.length c230)] t') ?_ ?_
  · refine AX.block ?_
    refine AX.loopF (fun s' t' H' => ∃ (rs189 : List (List Int)) (x191 : Int) (p187 : Option Addr) (c188 : Nat) (T190 : Tb), (rs189, x191) = s' ∧ St [] H H' [[(i101, AObj.row false (ints a1))], oseg p187 (tcells T190), tseg T190] ∧ trows T190 = rs189 ∧ TSb T190 ∧ Sb p187 (rs189.length) c188 1 ∧ Am.Sub [(0, .int .i64 a0), (3, .pointer (some ⟨i101, 0, none⟩)), (5, .slice p187 rs189.length c188), (6, .int .i64 x191)] t') hl234 ?_ ?_
    · skip
      have S236 := S106t.front 1 rfl
      have S237 := S236.front 1 rfl
      have S238 := S237.front 2 rfl
      exact ⟨[], 0, (some (Addr.mk i105 0 none)), 0, [], rfl, S238, rfl, TSb.nil, (Sb.lit (n := 0) (by decide)), Sub.cons' rfl rfl (Sub.cons' rfl rfl (Sub.cons' rfl rfl (Sub.cons' rfl rfl (Sub.nil _))))⟩
    · rintro n239 _ t' G243 ⟨rs189, x191, p187, c188, T190, rfl, S242, tT190, sT190, Bo186, hsub244⟩ o245 ho240 hk241
      refine AX.sub hsub244 ?_
      unfold D_spec_l01Pairs_s0 at ho240
      refine AX.seq ?_
      refine AX.seq ?_
      refine AX.region ?_
      refine AO.p rfl (p_move rfl) ?_
      refine AO.p rfl (p_move rfl) ?_
      refine AO.p rfl (p_lss rfl rfl) ?_
      refine AO.nil ?_
      refine AX.cond rfl (fun c246 => ?_) (fun c246 => ?_)
      · have hd247 := bif_t c246 ho240
        refine AX.skip ?_
        refine AX.seq ?_
        refine AX.block ?_
        refine AX.seq ?_
        refine AX.region ?_
        refine AO.p rfl (p_move rfl) ?_
        refine AO.p rfl (p_move rfl) ?_
        obtain ⟨k248, hd249⟩ := chk_some hd247
        refine AO.p rfl (s_indexAr (q := x191.toNat) Try.underlying26 Try.sizeOf2 rfl rfl k248 (z1 _)) ?_
        refine AO.c rfl (s_load Try.isAgg2 rfl (row_cell (S242.get (k := 0) rfl) (ints_get (lt_len h_a1 (inR_lt k248))))) ?_
        refine AO.p rfl (p_lss rfl rfl) ?_
        refine AO.nil ?_
        refine AX.cond rfl (fun c250 => ?_) (fun c250 => ?_)
        · have hd251 := bif_t c250 hd249
          refine AX.region ?_
          refine AO.p rfl (p_move rfl) ?_
          refine AO.p rfl (p_move rfl) ?_
          refine AO.p rfl (p_move rfl) ?_
          obtain ⟨k252, hd253⟩ := chk_some hd251
          refine AO.p rfl (s_indexAr (q := x191.toNat) Try.underlying26 Try.sizeOf2 rfl rfl k252 (z1 _)) ?_
          refine AO.c rfl (s_load Try.isAgg2 rfl (row_cell (S242.get (k := 0) rfl) (ints_get (lt_len h_a1 (inR_lt k252))))) ?_
          obtain ⟨G254, i255, hii255, hHG254, S256⟩ := S242.new (AObj.row false (ints [x191, rd a1 x191.toNat]))
          refine AO.c rfl (s_buildInts (i := i255) (vs := [(0, .int .i64 x191), (1, .int .i64 (rd a1 x191.toNat))]) (xs := [x191, rd a1 x191.toNat]) Try.underlying69 Try.sizeOf2 Try.zeroValue2 rfl rfl (by decide) rfl rfl hii255 hHG254) ?_
          obtain ⟨G258, i259, hii259, hHG258, S260⟩ := S256.new (AObj.row false (tcells ([((some (Addr.mk i255 0 none)), 2, [x191, rd a1 x191.toNat])])))
          have S262 := (S260.front 1 rfl).tone (some (Addr.mk i255 0 none)) 2 [x191, rd a1 x191.toNat] rfl
          refine AO.c rfl (s_buildT1 (i := i259) (X := [((some (Addr.mk i255 0 none)), 2, [x191, rd a1 x191.toNat])]) (n := 2) rfl Try.underlying23 Try.sizeOf69 Try.zeroValue69 rfl rfl hii259 hHG258) ?_
          obtain ⟨k263, hd264⟩ := chk_some hd253
          obtain ⟨p265, c266, G267, haG267, S268, Bp265⟩ := S262.app (k := 3) rfl Bo186 (tcells ([((some (Addr.mk i255 0 none)), 2, [x191, rd a1 x191.toNat])])) 1 (tc_len1 rfl rfl)
          have S269 := S268.cellsEq (k := 3) (us' := tcells (T190 ++ [((some (Addr.mk i255 0 none)), 2, [x191, rd a1 x191.toNat])])) (tcells_app _ _).symm rfl
          have BS269 : Sb p265 ((rs189 ++ [[x191, rd a1 x191.toNat]]).length) c266 1 := (show rs189.length + 1 = (rs189 ++ [[x191, rd a1 x191.toNat]]).length from len_app (a := rs189) (b := [[x191, rd a1 x191.toNat]]) rfl rfl) ▸ Bp265
          have S270 := S269.front 0 rfl
          have S271 := (S270.front 4 rfl).tmerge
          have S272 := S271.drop 1 rfl
          refine AO.c rfl (s_app (by_ := 24) (us := tcells T190) (vs := tcells ([((some (Addr.mk i255 0 none)), 2, [x191, rd a1 x191.toNat])])) Try.underlying23 Try.underlying23 Try.typeInfo69 Try.sizeOf69 Try.zeroValue69 rfl rfl rfl rfl rfl rfl rfl (S262.buf (k := 3) rfl Bo186 (tc_len1 tT190 rfl)) (S262.oview (k := 1) rfl (Sb.lit (n := 1) (by decide)) (tc_len1 rfl rfl)) (tc_len1 rfl rfl) tcells_one k263 haG267 (show rs189.length + 1 = (rs189 ++ [[x191, rd a1 x191.toNat]]).length from len_app (a := rs189) (b := [[x191, rd a1 x191.toNat]]) rfl rfl)) ?_
          refine AO.p rfl (p_assign rfl) ?_
          refine AO.nil ?_
          refine AX.region ?_
          refine AO.p rfl (p_move rfl) ?_
          obtain ⟨k273, hd274⟩ := chk_some hd264
          refine AO.p rfl (p_addE rfl rfl k273) ?_
          refine AO.p rfl (p_assign rfl) ?_
          refine AO.nil ?_
          obtain rfl := some_inj hd274
          have S276 := S272.front 0 rfl
          have S277 := S276.front 2 rfl
          have S278 := S277.front 2 rfl
          exact ⟨((rs189 ++ [[x191, rd a1 x191.toNat]]), x191 + 1), hk241, (rs189 ++ [[x191, rd a1 x191.toNat]]), (x191 + 1), p265, c266, (T190 ++ [((some (Addr.mk i255 0 none)), 2, [x191, rd a1 x191.toNat])]), rfl, S278, (trows_apps tT190 rfl), (TSb.app sT190 (TSb.one (sb_len rfl (Sb.lit (n := 2) (by decide))))), BS269, Sub.cons' rfl rfl (Sub.cons' rfl rfl (Sub.cons' rfl rfl (Sub.cons' rfl rfl (Sub.nil _))))⟩
        · have hd279 := bif_f c250 hd249
          refine AX.skip ?_
          refine AX.region ?_
          refine AO.p rfl (p_move rfl) ?_
          obtain ⟨k280, hd281⟩ := chk_some hd279
          refine AO.p rfl (p_addE rfl rfl k280) ?_
          refine AO.p rfl (p_assign rfl) ?_
          refine AO.nil ?_
          obtain rfl := some_inj hd281
          have S283 := S242.front 2 rfl
          have S284 := S283.front 2 rfl
          have S285 := S284.front 2 rfl
          exact ⟨(rs189, x191 + 1), hk241, rs189, (x191 + 1), p187, c188, T190, rfl, S285, tT190, sT190, Bo186, Sub.cons' rfl rfl (Sub.cons' rfl rfl (Sub.cons' rfl rfl (Sub.cons' rfl rfl (Sub.nil _))))⟩
      · have hd286 := bif_f c246 ho240
        refine AX.exit ?_
        obtain rfl := some_inj hd286
        have S287 := S242.front 2 rfl
        have S288 := S287.front 2 rfl
        have S289 := S288.keep 2
        exact ⟨rs189, p187, c188, T190, hk241, S289, tT190, sT190, Bo186, Sub.cons' rfl rfl (Sub.nil _)⟩
  · rintro t' G291 ⟨rs231, p229, c230, T232, rfl, S290, tT232, sT232, Bo228, hsub292⟩
    refine AX.sub hsub292 ?_
    refine AX.seq ?_
    refine AX.region ?_
    refine AO.p rfl (p_move rfl) ?_
    refine AO.p rfl (p_assign rfl) ?_
    refine AO.nil ?_
    refine AX.ret ?_
    obtain rfl := some_inj hd235
    have S293 := S290.front 1 rfl
    have S294 := S293.front 1 rfl
    exact ⟨.inr rfl, _, res1 rfl (rv_tmp rfl), p229, c230, T232, rfl, S294, Bo228, tT232, sT232⟩

set_option maxHeartbeats 4000000 in
theorem W_spec_PairsOf (fu : Nat) (H : AHeap) (a0 : Int) (a1 : List Int) (h_a1 : a1.length = 14) (r0 : List (List Int)) (r1 : Int) (hd : D_spec_PairsOf fu a0 a1 = some (r0, r1)) : ∃ v G', ACall Try.prog 15 [.int .i64 a0, .agg (ints a1).toArray] H v G' ∧ ∃ (p_r0 : Option Addr) (c_r0 : Nat) (T_r0 : Tb), (v = .tuple #[.slice p_r0 r0.length c_r0, .int .i64 r1]) ∧ St [] H G' [oseg p_r0 (tcells T_r0), tseg T_r0] ∧ Sb p_r0 r0.length c_r0 1 ∧ trows T_r0 = r0 ∧ TSb T_r0 := by
  refine ACall.bodyX (args := [.int .i64 a0, .agg (ints a1).toArray]) (N := 13) [(0, .int .i64 a0), (1, .agg (ints a1).toArray)] (fun v G' => ∃ (p_r0 : Option Addr) (c_r0 : Nat) (T_r0 : Tb), (v = .tuple #[.slice p_r0 r0.length c_r0, .int .i64 r1]) ∧ St [] H G' [oseg p_r0 (tcells T_r0), tseg T_r0] ∧ Sb p_r0 r0.length c_r0 1 ∧ trows T_r0 = r0 ∧ TSb T_r0) Try.func15 rfl rfl rfl rfl ?_
  unfold D_spec_PairsOf at hd
  have S0 : St [] H H [] := St.nil H
  refine AX.seq ?_
  refine AX.region ?_
  obtain ⟨G100, i101, hii101, hHG100, S102⟩ := S0.new (AObj.row false (ints a1))
  refine AO.c rfl (s_box (i := i101) (cs := ints a1) rfl hii101 rfl hHG100) ?_
  refine AO.p rfl (p_assign rfl) ?_
  refine AO.p rfl (p_assign rfl) ?_
  refine AO.nil ?_
  refine AX.seq ?_
  refine AX.seq ?_
  refine AX.region ?_
  refine AO.p rfl (p_move rfl) ?_
  refine AO.c rfl (s_loadN (vs := ints a1) Try.isAgg26 Try.sizeOf26 rfl (ints_len h_a1) (row_cells (S102.get (k := 0) rfl))) ?_
  obtain ⟨b104, h105, hd106⟩ := bnd_some hd
  refine AO.c rfl (o_call (vs := [.int .i64 a0, .agg (ints a1).toArray]) rfl Try.call60 (W_spec_l01Round fu G100 a0 a1 h_a1 b104 h105)) ?_
  refine AO.p rfl (p_not rfl) ?_
  refine AO.nil ?_
  refine AX.cond rfl (fun c108 => ?_) (fun c108 => ?_)
  · have hd109 := bif_t c108 hd106
    refine AX.seq ?_
    refine AX.region ?_
    refine AO.p rfl (p_assign rfl) ?_
    refine AO.p rfl (p_assign rfl) ?_
    refine AO.nil ?_
    refine AX.ret ?_
    obtain ⟨rfl, rfl⟩ := Prod.mk.inj (some_inj hd109)
    have S111 : St [] H G100 (tseg [] :: _) := S102.nilseg 0
    have S112 : St [] H G100 (oseg none (tcells []) :: _) := S111.nilseg 0
    have S113 := S112.keep 2
    exact ⟨.inr rfl, _, res2 rfl (rv_tmp rfl) (rv_tmp rfl), none, 0, [], rfl, S113, Sb.nil, rfl, TSb.nil⟩
  · have hd114 := bif_f c108 hd106
    refine AX.skip ?_
    refine AX.seq ?_
    refine AX.region ?_
    refine AO.p rfl (p_move rfl) ?_
    refine AO.c rfl (s_loadN (vs := ints a1) Try.isAgg26 Try.sizeOf26 rfl (ints_len h_a1) (row_cells (S102.get (k := 0) rfl))) ?_
    obtain ⟨rs115, h116, hd117⟩ := bnd_some hd114
    obtain ⟨_, G126, hc125, p118, c119, T122, rfl, S127, B121, t123, s124⟩ := W_spec_l01Pairs fu G100 a0 a1 h_a1 rs115 h116
    have S128 := S102.call S127
    refine AO.c rfl (o_call (vs := [.int .i64 a0, .agg (ints a1).toArray]) rfl Try.call61 hc125) ?_
    refine AO.p rfl (p_assign rfl) ?_
    refine AO.p rfl (p_assign rfl) ?_
    refine AO.nil ?_
    refine AX.ret ?_
    obtain ⟨rfl, rfl⟩ := Prod.mk.inj (some_inj hd117)
    have S130 := S128.front 1 rfl
    have S131 := S130.front 1 rfl
    have S132 := S131.keep 2
    exact ⟨.inr rfl, _, res2 rfl (rv_tmp rfl) (rv_tmp rfl), p118, c119, T122, rfl, S132, B121, t123, s124⟩

set_option maxHeartbeats 4000000 in
theorem W_impl_Round_pairs (fu : Nat) (H : AHeap) (a0 : List Int) (h_a0 : a0.length = 14) (a1 : Int) (r0 : List (List Int)) (hd : D_impl_Round_pairs fu a0 a1 = some r0) : ∃ v G', ACall Try.prog 63 [.agg (ints a0).toArray, .int .i64 a1] H v G' ∧ ∃ (p_r0 : Option Addr) (c_r0 : Nat) (T_r0 : Tb), (v = .slice p_r0 r0.length c_r0) ∧ St [] H G' [oseg p_r0 (tcells T_r0), tseg T_r0] ∧ Sb p_r0 r0.length c_r0 1 ∧ trows T_r0 = r0 ∧ TSb T_r0 := by
  refine ACall.bodyX (args := [.agg (ints a0).toArray, .int .i64 a1]) (N := 27) [(0, .agg (ints a0).toArray), (1, .int .i64 a1)] (fun v G' => ∃ (p_r0 : Option Addr) (c_r0 : Nat) (T_r0 : Tb), (v = .slice p_r0 r0.length c_r0) ∧ St [] H G' [oseg p_r0 (tcells T_r0), tseg T_r0] ∧ Sb p_r0 r0.length c_r0 1 ∧ trows T_r0 = r0 ∧ TSb T_r0) Try.func63 rfl rfl rfl rfl ?_
  unfold D_impl_Round_pairs at hd
  have S0 : St [] H H [] := St.nil H
  refine AX.seq ?_
  refine AX.region ?_
  obtain ⟨G100, i101, hii101, hHG100, S102⟩ := S0.new (AObj.row false (ints a0))
  refine AO.c rfl (s_box (i := i101) (cs := ints a0) rfl hii101 rfl hHG100) ?_
  refine AO.p rfl (p_assign rfl) ?_
  refine AO.nil ?_
  refine AX.seq ?_
  refine AX.region ?_
  obtain ⟨G104, i105, hii105, hHG104, S106⟩ := S102.new (AObj.row false (tcells []))
  have S106t := S106.nilseg 1
  refine AO.c rfl (s_build0 (i := i105) Try.underlying23 Try.sizeOf69 hii105 hHG104) ?_
  refine AO.p rfl (p_assign rfl) ?_
  refine AO.nil ?_
  refine AX.seq ?_
  refine AX.seq ?_
  refine AX.region ?_
  refine AO.p rfl (p_move rfl) ?_
  refine AO.p rfl (p_move rfl) ?_
  refine AO.nil ?_
  obtain ⟨r233, hl234, hd235⟩ := bnd_some hd
  refine AX.cutQ (fun t' H' => ∃ (rs231 : List (List Int)) (p229 : Option Addr) (c230 : Nat) (T232 : Tb), rs231 = r233 ∧ St [] H H' [oseg p229 (tcells T232), tseg T232] ∧ trows T232 = rs231 ∧ TSb T232 ∧ Sb p229 (rs231.length) c230 1 ∧ Am.Sub [(5, .slice p229 rs231.length c230)] t') ?_ ?_
  · refine AX.block ?_
    refine AX.loopF (fun s' t' H' => ∃ (rs189 : List (List Int)) (x191 : Int) (p187 : Option Addr) (c188 : Nat) (T190 : Tb), (rs189, x191) = s' ∧ St [] H H' [[(i101, AObj.row false (ints a0))], oseg p187 (tcells T190), tseg T190] ∧ trows T190 = rs189 ∧ TSb T190 ∧ Sb p187 (rs189.length) c188 1 ∧ Am.Sub [(2, .pointer (some ⟨i101, 0, none⟩)), (5, .slice p187 rs189.length c188), (8, .int .i64 a1), (9, .int .i64 x191)] t') hl234 ?_ ?_
    · skip
      have S236 := S106t.front 1 rfl
      have S237 := S236.front 1 rfl
      have S238 := S237.front 2 rfl
      exact ⟨[], 0, (some (Addr.mk i105 0 none)), 0, [], rfl, S238, rfl, TSb.nil, (Sb.lit (n := 0) (by decide)), Sub.cons' rfl rfl (Sub.cons' rfl rfl (Sub.cons' rfl rfl (Sub.cons' rfl rfl (Sub.nil _))))⟩
    · rintro n239 _ t' G243 ⟨rs189, x191, p187, c188, T190, rfl, S242, tT190, sT190, Bo186, hsub244⟩ o245 ho240 hk241
      refine AX.sub hsub244 ?_
      unfold D_impl_Round_pairs_s0 at ho240
      refine AX.seq ?_
      refine AX.region ?_
      refine AO.p rfl (p_lss rfl rfl) ?_
      refine AO.nil ?_
      refine AX.seq ?_
      refine AX.cond rfl (fun c246 => ?_) (fun c246 => ?_)
      · have hd247 := bif_t c246 ho240
        refine AX.skip ?_
        refine AX.seq ?_
        refine AX.block ?_
        refine AX.seq ?_
        refine AX.region ?_
        refine AO.p rfl (p_move rfl) ?_
        refine AO.p rfl (p_assign rfl) ?_
        refine AO.nil ?_
        refine AX.seq ?_
        refine AX.region ?_
        refine AO.p rfl (p_move rfl) ?_
        refine AO.p rfl (p_move rfl) ?_
        obtain ⟨k248, hd249⟩ := chk_some hd247
        refine AO.p rfl (s_indexAr (q := x191.toNat) Try.underlying26 Try.sizeOf2 rfl rfl k248 (z1 _)) ?_
        refine AO.c rfl (s_load Try.isAgg2 rfl (row_cell (S242.get (k := 0) rfl) (ints_get (lt_len h_a0 (inR_lt k248))))) ?_
        refine AO.p rfl (p_lss rfl rfl) ?_
        refine AO.nil ?_
        refine AX.cond rfl (fun c250 => ?_) (fun c250 => ?_)
        · have hd251 := bif_t c250 hd249
          refine AX.region ?_
          refine AO.p rfl (p_move rfl) ?_
          refine AO.p rfl (p_move rfl) ?_
          refine AO.p rfl (p_move rfl) ?_
          obtain ⟨k252, hd253⟩ := chk_some hd251
          refine AO.p rfl (s_indexAr (q := x191.toNat) Try.underlying26 Try.sizeOf2 rfl rfl k252 (z1 _)) ?_
          refine AO.c rfl (s_load Try.isAgg2 rfl (row_cell (S242.get (k := 0) rfl) (ints_get (lt_len h_a0 (inR_lt k252))))) ?_
          obtain ⟨G254, i255, hii255, hHG254, S256⟩ := S242.new (AObj.row false (ints [x191, rd a0 x191.toNat]))
          refine AO.c rfl (s_buildInts (i := i255) (vs := [(0, .int .i64 x191), (1, .int .i64 (rd a0 x191.toNat))]) (xs := [x191, rd a0 x191.toNat]) Try.underlying69 Try.sizeOf2 Try.zeroValue2 rfl rfl (by decide) rfl rfl hii255 hHG254) ?_
          obtain ⟨G258, i259, hii259, hHG258, S260⟩ := S256.new (AObj.row false (tcells ([((some (Addr.mk i255 0 none)), 2, [x191, rd a0 x191.toNat])])))
          have S262 := (S260.front 1 rfl).tone (some (Addr.mk i255 0 none)) 2 [x191, rd a0 x191.toNat] rfl
          refine AO.c rfl (s_buildT1 (i := i259) (X := [((some (Addr.mk i255 0 none)), 2, [x191, rd a0 x191.toNat])]) (n := 2) rfl Try.underlying23 Try.sizeOf69 Try.zeroValue69 rfl rfl hii259 hHG258) ?_
          obtain ⟨k263, hd264⟩ := chk_some hd253
          obtain ⟨p265, c266, G267, haG267, S268, Bp265⟩ := S262.app (k := 3) rfl Bo186 (tcells ([((some (Addr.mk i255 0 none)), 2, [x191, rd a0 x191.toNat])])) 1 (tc_len1 rfl rfl)
          have S269 := S268.cellsEq (k := 3) (us' := tcells (T190 ++ [((some (Addr.mk i255 0 none)), 2, [x191, rd a0 x191.toNat])])) (tcells_app _ _).symm rfl
          have BS269 : Sb p265 ((rs189 ++ [[x191, rd a0 x191.toNat]]).length) c266 1 := (show rs189.length + 1 = (rs189 ++ [[x191, rd a0 x191.toNat]]).length from len_app (a := rs189) (b := [[x191, rd a0 x191.toNat]]) rfl rfl) ▸ Bp265
          have S270 := S269.front 0 rfl
          have S271 := (S270.front 4 rfl).tmerge
          have S272 := S271.drop 1 rfl
          refine AO.c rfl (s_app (by_ := 24) (us := tcells T190) (vs := tcells ([((some (Addr.mk i255 0 none)), 2, [x191, rd a0 x191.toNat])])) Try.underlying23 Try.underlying23 Try.typeInfo69 Try.sizeOf69 Try.zeroValue69 rfl rfl rfl rfl rfl rfl rfl (S262.buf (k := 3) rfl Bo186 (tc_len1 tT190 rfl)) (S262.oview (k := 1) rfl (Sb.lit (n := 1) (by decide)) (tc_len1 rfl rfl)) (tc_len1 rfl rfl) tcells_one k263 haG267 (show rs189.length + 1 = (rs189 ++ [[x191, rd a0 x191.toNat]]).length from len_app (a := rs189) (b := [[x191, rd a0 x191.toNat]]) rfl rfl)) ?_
          refine AO.p rfl (p_assign rfl) ?_
          refine AO.nil ?_
          refine AX.region ?_
          obtain ⟨k273, hd274⟩ := chk_some hd264
          refine AO.p rfl (p_addE rfl rfl k273) ?_
          refine AO.p rfl (p_move rfl) ?_
          refine AO.nil ?_
          obtain rfl := some_inj hd274
          have S276 := S272.front 0 rfl
          have S277 := S276.front 2 rfl
          have S278 := S277.front 2 rfl
          exact ⟨((rs189 ++ [[x191, rd a0 x191.toNat]]), x191 + 1), hk241, (rs189 ++ [[x191, rd a0 x191.toNat]]), (x191 + 1), p265, c266, (T190 ++ [((some (Addr.mk i255 0 none)), 2, [x191, rd a0 x191.toNat])]), rfl, S278, (trows_apps tT190 rfl), (TSb.app sT190 (TSb.one (sb_len rfl (Sb.lit (n := 2) (by decide))))), BS269, Sub.cons' rfl rfl (Sub.cons' rfl rfl (Sub.cons' rfl rfl (Sub.cons' rfl rfl (Sub.nil _))))⟩
        · have hd279 := bif_f c250 hd249
          refine AX.skip ?_
          refine AX.region ?_
          obtain ⟨k280, hd281⟩ := chk_some hd279
          refine AO.p rfl (p_addE rfl rfl k280) ?_
          refine AO.p rfl (p_move rfl) ?_
          refine AO.nil ?_
          obtain rfl := some_inj hd281
          have S283 := S242.front 2 rfl
          have S284 := S283.front 2 rfl
          have S285 := S284.front 2 rfl
          exact ⟨(rs189, x191 + 1), hk241, rs189, (x191 + 1), p187, c188, T190, rfl, S285, tT190, sT190, Bo186, Sub.cons' rfl rfl (Sub.cons' rfl rfl (Sub.cons' rfl rfl (Sub.cons' rfl rfl (Sub.nil _))))⟩
      · have hd286 := bif_f c246 ho240
        refine AX.exit ?_
        obtain rfl := some_inj hd286
        have S287 := S242.front 2 rfl
        have S288 := S287.front 2 rfl
        have S289 := S288.keep 2
        exact ⟨rs189, p187, c188, T190, hk241, S289, tT190, sT190, Bo186, Sub.cons' rfl rfl (Sub.nil _)⟩
  · rintro t' G291 ⟨rs231, p229, c230, T232, rfl, S290, tT232, sT232, Bo228, hsub292⟩
    refine AX.sub hsub292 ?_
    refine AX.seq ?_
    refine AX.region ?_
    refine AO.p rfl (p_move rfl) ?_
    refine AO.p rfl (p_assign rfl) ?_
    refine AO.nil ?_
    refine AX.ret ?_
    obtain rfl := some_inj hd235
    have S293 := S290.front 1 rfl
    have S294 := S293.front 1 rfl
    exact ⟨.inr rfl, _, res1 rfl (rv_tmp rfl), p229, c230, T232, rfl, S294, Bo228, tT232, sT232⟩

set_option maxHeartbeats 4000000 in
theorem W_impl_PairsOf (fu : Nat) (H : AHeap) (a0 : Int) (a1 : List Int) (h_a1 : a1.length = 14) (r0 : List (List Int)) (r1 : Int) (hd : D_impl_PairsOf fu a0 a1 = some (r0, r1)) : ∃ v G', ACall Try.prog 17 [.int .i64 a0, .agg (ints a1).toArray] H v G' ∧ ∃ (p_r0 : Option Addr) (c_r0 : Nat) (T_r0 : Tb), (v = .tuple #[.slice p_r0 r0.length c_r0, .int .i64 r1]) ∧ St [] H G' [oseg p_r0 (tcells T_r0), tseg T_r0] ∧ Sb p_r0 r0.length c_r0 1 ∧ trows T_r0 = r0 ∧ TSb T_r0 := by
  refine ACall.bodyX (args := [.int .i64 a0, .agg (ints a1).toArray]) (N := 13) [(0, .int .i64 a0), (1, .agg (ints a1).toArray)] (fun v G' => ∃ (p_r0 : Option Addr) (c_r0 : Nat) (T_r0 : Tb), (v = .tuple #[.slice p_r0 r0.length c_r0, .int .i64 r1]) ∧ St [] H G' [oseg p_r0 (tcells T_r0), tseg T_r0] ∧ Sb p_r0 r0.length c_r0 1 ∧ trows T_r0 = r0 ∧ TSb T_r0) Try.func17 rfl rfl rfl rfl ?_
  unfold D_impl_PairsOf at hd
  have S0 : St [] H H [] := St.nil H
  refine AX.seq ?_
  refine AX.region ?_
  obtain ⟨G100, i101, hii101, hHG100, S102⟩ := S0.new (AObj.row false (ints a1))
  refine AO.c rfl (s_box (i := i101) (cs := ints a1) rfl hii101 rfl hHG100) ?_
  refine AO.p rfl (p_assign rfl) ?_
  refine AO.p rfl (p_assign rfl) ?_
  refine AO.nil ?_
  refine AX.seq ?_
  refine AX.seq ?_
  refine AX.region ?_
  refine AO.p rfl (p_move rfl) ?_
  refine AO.c rfl (s_loadN (vs := ints a1) Try.isAgg26 Try.sizeOf26 rfl (ints_len h_a1) (row_cells (S102.get (k := 0) rfl))) ?_
  obtain ⟨b104, h105, hd106⟩ := bnd_some hd
  refine AO.c rfl (o_call (vs := [.int .i64 a0, .agg (ints a1).toArray]) rfl Try.call62 (W_impl_IsRound fu G100 a0 a1 h_a1 b104 h105)) ?_
  refine AO.p rfl (p_not rfl) ?_
  refine AO.nil ?_
  refine AX.cond rfl (fun c108 => ?_) (fun c108 => ?_)
  · have hd109 := bif_t c108 hd106
    refine AX.seq ?_
    refine AX.region ?_
    refine AO.p rfl (p_assign rfl) ?_
    refine AO.p rfl (p_assign rfl) ?_
    refine AO.nil ?_
    refine AX.ret ?_
    obtain ⟨rfl, rfl⟩ := Prod.mk.inj (some_inj hd109)
    have S111 : St [] H G100 (tseg [] :: _) := S102.nilseg 0
    have S112 : St [] H G100 (oseg none (tcells []) :: _) := S111.nilseg 0
    have S113 := S112.keep 2
    exact ⟨.inr rfl, _, res2 rfl (rv_tmp rfl) (rv_tmp rfl), none, 0, [], rfl, S113, Sb.nil, rfl, TSb.nil⟩
  · have hd114 := bif_f c108 hd106
    refine AX.skip ?_
    refine AX.seq ?_
    refine AX.region ?_
    refine AO.c rfl (s_loadN (vs := ints a1) Try.isAgg26 Try.sizeOf26 rfl (ints_len h_a1) (row_cells (S102.get (k := 0) rfl))) ?_
    refine AO.p rfl (p_move rfl) ?_
    obtain ⟨rs115, h116, hd117⟩ := bnd_some hd114
    obtain ⟨_, G126, hc125, p118, c119, T122, rfl, S127, B121, t123, s124⟩ := W_impl_Round_pairs fu G100 a1 h_a1 a0 rs115 h116
    have S128 := S102.call S127
    refine AO.c rfl (o_call (vs := [.agg (ints a1).toArray, .int .i64 a0]) rfl Try.call63 hc125) ?_
    refine AO.p rfl (p_assign rfl) ?_
    refine AO.p rfl (p_assign rfl) ?_
    refine AO.nil ?_
    refine AX.ret ?_
    obtain ⟨rfl, rfl⟩ := Prod.mk.inj (some_inj hd117)
    have S130 := S128.front 1 rfl
    have S131 := S130.front 1 rfl
    have S132 := S131.keep 2
    exact ⟨.inr rfl, _, res2 rfl (rv_tmp rfl) (rv_tmp rfl), p118, c119, T122, rfl, S132, B121, t123, s124⟩

set_option maxHeartbeats 4000000 in
theorem W_spec_l01Made (fu : Nat) (H : AHeap) (a0 : Int) (p_a1 : Option Addr) (c_a1 : Nat) (T_a1 : Tb) (a1 : List (List Int)) (t_a1 : trows T_a1 = a1) (v_a1 : Vw H p_a1 a1.length c_a1 (tcells T_a1)) (w_a1 : TVw H T_a1) (r0 : List Int) (hd : D_spec_l01Made fu a0 a1 = some r0) : ACall Try.prog 80 [.int .i64 a0, .slice p_a1 a1.length c_a1] H (.agg (ints r0).toArray) H ∧ r0.length = 14 := by
  refine ACall.bodyPF (N := 42) [(0, .int .i64 a0), (1, .slice p_a1 a1.length c_a1)] Try.func80 rfl rfl rfl rfl ?_
  unfold D_spec_l01Made at hd
  have S0 : St [] H H [] := St.nil H
  refine AX.seq ?_
  refine AX.region ?_
  obtain ⟨G100, i101, hii101, hHG100, S102⟩ := S0.new (AObj.row false (ints (List.replicate 14 0)))
  refine AO.c rfl (s_alloc (i := i101) (cs := ints (List.replicate 14 0)) Try.zeroValue26 rfl rfl hii101 hHG100) ?_
  refine AO.nil ?_
  refine AX.seq ?_
  refine AX.region ?_
  refine AO.p rfl (p_move rfl) ?_
  obtain ⟨xs104, h105, hd106⟩ := bnd_some hd
  obtain ⟨hc108, l109⟩ := W_spec_l01Free fu G100 a0 xs104 h105
  refine AO.c rfl (o_call (vs := [.int .i64 a0]) rfl Try.call114 hc108) ?_
  obtain ⟨G110, i111, hii111, hHG110, S112⟩ := S102.new (AObj.row false (ints (List.replicate 14 0)))
  refine AO.c rfl (s_alloc (i := i111) (cs := ints (List.replicate 14 0)) Try.zeroValue26 rfl rfl hii111 hHG110) ?_
  obtain ⟨G114, hHG114, S115⟩ := S112.set (k := 0) (i := i111) rfl (AObj.row false (ints xs104))
  refine AO.s (s_storeAll (vs := ints xs104) Try.sizeOf26 rfl rfl ints_one (S112.get (k := 0) rfl) (ints_len l109) (ints_len len_rep) hHG114) ?_
  refine AO.nil ?_
  refine AX.seq ?_
  refine AX.seq ?_
  refine AX.region ?_
  refine AO.p rfl (p_assign rfl) ?_
  refine AO.nil ?_
  obtain ⟨r273, hl274, hd275⟩ := bnd_some hd106
  refine AX.cutQ (fun t' H' => ∃ (xs272 : List Int), xs272 = r273 ∧ St [] H H' [[(i101, AObj.row false (ints (List.replicate 14 0)))], [(i111, AObj.row false (ints xs272))]] ∧ xs272.length = 14 ∧ Am.Sub [(4, .pointer (some ⟨i101, 0, none⟩)), (5, .pointer (some ⟨i111, 0, none⟩))] t') ?_ ?_
  · refine AX.block ?_
    refine AX.loopF (fun s' t' H' => ∃ (xs220 : List Int) (x221 : Int), (xs220, x221) = s' ∧ St [] H H' [[(i101, AObj.row false (ints (List.replicate 14 0)))], [(i111, AObj.row false (ints xs220))]] ∧ xs220.length = 14 ∧ Am.Sub [(1, .slice p_a1 a1.length c_a1), (4, .pointer (some ⟨i101, 0, none⟩)), (5, .pointer (some ⟨i111, 0, none⟩)), (6, .int .i64 x221)] t') hl274 ?_ ?_
    · skip
      have S276 := S115.front 0 rfl
      have S277 := S276.front 1 rfl
      exact ⟨xs104, 0, rfl, S277, l109, Sub.cons' rfl rfl (Sub.cons' rfl rfl (Sub.cons' rfl rfl (Sub.cons' rfl rfl (Sub.nil _))))⟩
    · rintro n278 _ t' G282 ⟨xs220, x221, rfl, S281, lxs220, hsub283⟩ o284 ho279 hk280
      refine AX.sub hsub283 ?_
      unfold D_spec_l01Made_s0 at ho279
      refine AX.seq ?_
      refine AX.seq ?_
      refine AX.region ?_
      refine AO.p rfl (p_move rfl) ?_
      refine AO.p rfl (p_move rfl) ?_
      refine AO.p rfl (p_len_slice rfl Try.underlying23) ?_
      refine AO.p rfl (p_lss rfl rfl) ?_
      refine AO.nil ?_
      refine AX.cond rfl (fun c285 => ?_) (fun c285 => ?_)
      · have hd286 := bif_t c285 ho279
        refine AX.skip ?_
        refine AX.seq ?_
        refine AX.block ?_
        refine AX.seq ?_
        refine DR.startS [false, false, false, false, false, false, false, false, false, false, false, false, false, true] mix (by kernel_rfl) (fun hst => ?_)
        refine DR.p rfl rfl (p_move rfl) ?_
        refine DR.p rfl rfl (p_move rfl) ?_
        obtain ⟨k287, hd288⟩ := chk_some hd286
        obtain ⟨p289, c290, e291, f292⟩ := tget t_a1 (lt_len rfl (inR_lt k287))
        refine DR.p rfl rfl (s_indexV (q := off p_a1 + x221.toNat) Try.underlying23 Try.sizeOf69 rfl ((S281.view v_a1).p f292) rfl k287 (o1 _ _)) ?_
        refine DR.r rfl rfl (r_load rfl Try.isAgg69) (one_read ((S281.view v_a1).get _ _ f292) (TVw.at (S281.tview w_a1) e291).inn.bel) ?_
        obtain ⟨k293, hd294⟩ := chk_some hd288
        refine DR.p rfl rfl (s_indexV (q := off p289 + 0) Try.underlying69 Try.sizeOf2 rfl ((TVw.at (S281.tview w_a1) e291).p (ints_get (lt_len rfl (inR_lt k293)))) rfl k293 (o1 _ _)) ?_
        refine DR.r rfl rfl (r_load rfl Try.isAgg2) (one_read ((TVw.at (S281.tview w_a1) e291).get _ _ (ints_get (lt_len rfl (inR_lt k293)))) (.of_flat0 rfl)) ?_
        refine DR.p rfl rfl (p_move rfl) ?_
        refine DR.p rfl rfl (p_move rfl) ?_
        obtain ⟨k295, hd296⟩ := chk_some hd294
        obtain ⟨p297, c298, e299, f300⟩ := tget t_a1 (lt_len rfl (inR_lt k295))
        refine DR.p rfl rfl (s_indexV (q := off p_a1 + x221.toNat) Try.underlying23 Try.sizeOf69 rfl ((S281.view v_a1).p f300) rfl k295 (o1 _ _)) ?_
        refine DR.r rfl rfl (r_load rfl Try.isAgg69) (one_read ((S281.view v_a1).get _ _ f300) (TVw.at (S281.tview w_a1) e299).inn.bel) ?_
        obtain ⟨k301, hd302⟩ := chk_some hd296
        refine DR.p rfl rfl (s_indexV (q := off p297 + 1) Try.underlying69 Try.sizeOf2 rfl ((TVw.at (S281.tview w_a1) e299).p (ints_get (lt_len rfl (inR_lt k301)))) rfl k301 (o1 _ _)) ?_
        refine DR.r rfl rfl (r_load rfl Try.isAgg2) (one_read ((TVw.at (S281.tview w_a1) e299).get _ _ (ints_get (lt_len rfl (inR_lt k301)))) (.of_flat0 rfl)) ?_
        obtain ⟨k303, hd304⟩ := chk_some hd302
        refine DR.p rfl rfl (s_indexAr (q := (rd (rw_ a1 x221.toNat) 0).toNat) Try.underlying26 Try.sizeOf2 rfl rfl k303 (z1 _)) ?_
        obtain ⟨G305, hHG305, S306⟩ := S281.set (k := 1) (i := i111) rfl (AObj.row false (ints (xs220.set ((rd (rw_ a1 x221.toNat) 0).toNat) (rd (rw_ a1 x221.toNat) 1))))
        refine DR.s rfl (s_store Try.sizeOf2 rfl rfl rfl (S281.get (k := 1) rfl) (lt_len (ints_len lxs220) (inR_lt k303)) ((congrArg (fun l => List.set _ _ (AObj.row false l)) (ints_set _ _ _)).trans hHG305)) (set_le hHG305) ?_
        refine DR.nil 14 [] hst (by kernel_rfl) trivial ?_
        refine DR.startS [false, false, false, false, false, false, false, false, false, false, false, false, false, true] mix (by kernel_rfl) (fun hst => ?_)
        refine DR.p rfl rfl (p_move rfl) ?_
        refine DR.p rfl rfl (p_move rfl) ?_
        obtain ⟨k307, hd308⟩ := chk_some hd304
        obtain ⟨p309, c310, e311, f312⟩ := tget t_a1 (lt_len rfl (inR_lt k307))
        refine DR.p rfl rfl (s_indexV (q := off p_a1 + x221.toNat) Try.underlying23 Try.sizeOf69 rfl ((S306.view v_a1).p f312) rfl k307 (o1 _ _)) ?_
        refine DR.r rfl rfl (r_load rfl Try.isAgg69) (one_read ((S306.view v_a1).get _ _ f312) (TVw.at (S306.tview w_a1) e311).inn.bel) ?_
        obtain ⟨k313, hd314⟩ := chk_some hd308
        refine DR.p rfl rfl (s_indexV (q := off p309 + 1) Try.underlying69 Try.sizeOf2 rfl ((TVw.at (S306.tview w_a1) e311).p (ints_get (lt_len rfl (inR_lt k313)))) rfl k313 (o1 _ _)) ?_
        refine DR.r rfl rfl (r_load rfl Try.isAgg2) (one_read ((TVw.at (S306.tview w_a1) e311).get _ _ (ints_get (lt_len rfl (inR_lt k313)))) (.of_flat0 rfl)) ?_
        refine DR.p rfl rfl (p_move rfl) ?_
        refine DR.p rfl rfl (p_move rfl) ?_
        obtain ⟨k315, hd316⟩ := chk_some hd314
        obtain ⟨p317, c318, e319, f320⟩ := tget t_a1 (lt_len rfl (inR_lt k315))
        refine DR.p rfl rfl (s_indexV (q := off p_a1 + x221.toNat) Try.underlying23 Try.sizeOf69 rfl ((S306.view v_a1).p f320) rfl k315 (o1 _ _)) ?_
        refine DR.r rfl rfl (r_load rfl Try.isAgg69) (one_read ((S306.view v_a1).get _ _ f320) (TVw.at (S306.tview w_a1) e319).inn.bel) ?_
        obtain ⟨k321, hd322⟩ := chk_some hd316
        refine DR.p rfl rfl (s_indexV (q := off p317 + 0) Try.underlying69 Try.sizeOf2 rfl ((TVw.at (S306.tview w_a1) e319).p (ints_get (lt_len rfl (inR_lt k321)))) rfl k321 (o1 _ _)) ?_
        refine DR.r rfl rfl (r_load rfl Try.isAgg2) (one_read ((TVw.at (S306.tview w_a1) e319).get _ _ (ints_get (lt_len rfl (inR_lt k321)))) (.of_flat0 rfl)) ?_
        obtain ⟨k323, hd324⟩ := chk_some hd322
        refine DR.p rfl rfl (s_indexAr (q := (rd (rw_ a1 x221.toNat) 1).toNat) Try.underlying26 Try.sizeOf2 rfl rfl k323 (z1 _)) ?_
        obtain ⟨G325, hHG325, S326⟩ := S306.set (k := 1) (i := i111) rfl (AObj.row false (ints ((xs220.set ((rd (rw_ a1 x221.toNat) 0).toNat) (rd (rw_ a1 x221.toNat) 1)).set ((rd (rw_ a1 x221.toNat) 1).toNat) (rd (rw_ a1 x221.toNat) 0))))
        refine DR.s rfl (s_store Try.sizeOf2 rfl rfl rfl (S306.get (k := 1) rfl) (lt_len (ints_len (len_set lxs220)) (inR_lt k323)) ((congrArg (fun l => List.set _ _ (AObj.row false l)) (ints_set _ _ _)).trans hHG325)) (set_le hHG325) ?_
        refine DR.nil 14 [] hst (by kernel_rfl) trivial ?_
        refine AX.region ?_
        refine AO.p rfl (p_move rfl) ?_
        obtain ⟨k327, hd328⟩ := chk_some hd324
        refine AO.p rfl (p_addE rfl rfl k327) ?_
        refine AO.p rfl (p_assign rfl) ?_
        refine AO.nil ?_
        obtain rfl := some_inj hd328
        have S330 := S326.front 1 rfl
        have S331 := S330.front 1 rfl
        exact ⟨(((xs220.set ((rd (rw_ a1 x221.toNat) 0).toNat) (rd (rw_ a1 x221.toNat) 1)).set ((rd (rw_ a1 x221.toNat) 1).toNat) (rd (rw_ a1 x221.toNat) 0)), x221 + 1), hk280, ((xs220.set ((rd (rw_ a1 x221.toNat) 0).toNat) (rd (rw_ a1 x221.toNat) 1)).set ((rd (rw_ a1 x221.toNat) 1).toNat) (rd (rw_ a1 x221.toNat) 0)), (x221 + 1), rfl, S331, (len_set (len_set lxs220)), Sub.cons' rfl rfl (Sub.cons' rfl rfl (Sub.cons' rfl rfl (Sub.cons' rfl rfl (Sub.nil _))))⟩
      · have hd332 := bif_f c285 ho279
        refine AX.exit ?_
        obtain rfl := some_inj hd332
        have S333 := S281.front 1 rfl
        have S334 := S333.front 1 rfl
        exact ⟨xs220, hk280, S334, lxs220, Sub.cons' rfl rfl (Sub.cons' rfl rfl (Sub.nil _))⟩
  · rintro t' G336 ⟨xs272, rfl, S335, lxs272, hsub337⟩
    refine AX.sub hsub337 ?_
    refine AX.seq ?_
    refine AX.region ?_
    refine AO.c rfl (s_loadN (vs := ints xs272) Try.isAgg26 Try.sizeOf26 rfl (ints_len lxs272) (row_cells (S335.get (k := 1) rfl))) ?_
    obtain ⟨G338, hHG338, S339⟩ := S335.set (k := 0) (i := i101) rfl (AObj.row false (ints xs272))
    refine AO.s (s_storeAll (vs := ints xs272) Try.sizeOf26 rfl rfl ints_one (S335.get (k := 0) rfl) (ints_len lxs272) (ints_len len_rep) hHG338) ?_
    refine AO.nil ?_
    refine AX.ret ?_
    obtain rfl := some_inj hd275
    exact ⟨.inr rfl, _, res1 rfl (rv_cell (vs := ints xs272) rfl Try.isAgg26 Try.sizeOf26 (ints_len lxs272) (row_cells (S339.get (k := 0) rfl))), rfl, (flat_arr _), S339.hold, lxs272⟩

set_option maxHeartbeats 4000000 in
theorem W_spec_RoundOf (fu : Nat) (H : AHeap) (a0 : Int) (p_a1 : Option Addr) (c_a1 : Nat) (T_a1 : Tb) (a1 : List (List Int)) (t_a1 : trows T_a1 = a1) (v_a1 : Vw H p_a1 a1.length c_a1 (tcells T_a1)) (w_a1 : TVw H T_a1) (r0 : List Int) (r1 : Int) (hd : D_spec_RoundOf fu a0 a1 = some (r0, r1)) : ACall Try.prog 32 [.int .i64 a0, .slice p_a1 a1.length c_a1] H (.tuple #[.agg (ints r0).toArray, .int .i64 r1]) H ∧ r0.length = 14 := by
  refine ACall.bodyPF (N := 118) [(0, .int .i64 a0), (1, .slice p_a1 a1.length c_a1)] Try.func32 rfl rfl rfl rfl ?_
  unfold D_spec_RoundOf at hd
  have S0 : St [] H H [] := St.nil H
  refine AX.seq ?_
  refine AX.region ?_
  obtain ⟨G100, i101, hii101, hHG100, S102⟩ := S0.new (AObj.row false (ints (List.replicate 14 0)))
  refine AO.c rfl (s_alloc (i := i101) (cs := ints (List.replicate 14 0)) Try.zeroValue26 rfl rfl hii101 hHG100) ?_
  refine AO.p rfl (p_assign rfl) ?_
  refine AO.nil ?_
  refine AX.seq ?_
  obtain ⟨r113, hb114, hd115⟩ := bnd_some hd
  refine AX.cut (fun t' H' => ∃ (b112 : Bool), b112 = r113 ∧ St [] H H' [[(i101, AObj.row false (ints (List.replicate 14 0)))]] ∧ Am.Sub [(0, .int .i64 a0), (1, .slice p_a1 a1.length c_a1), (4, .pointer (some ⟨i101, 0, none⟩)), (16, .bool b112)] t') ?_ ?_
  · skip
    refine AX.region ?_
    refine AO.p rfl (p_move rfl) ?_
    obtain ⟨b116, h117, hd118⟩ := bnd_some hb114
    refine AO.c rfl (o_call (vs := [.int .i64 a0, .int .i64 2, .int .i64 14]) rfl Try.call64 (W_spec_l01In fu G100 a0 2 14 b116 h117)) ?_
    refine AO.p rfl (p_not rfl) ?_
    refine AO.p rfl (p_move rfl) ?_
    refine AO.cases (d := 12) rfl (fun c120 => ?_) (fun c120 => ?_)
    · have hd121 := bif_t c120 hd118
      refine AO.gn rfl rfl rfl ?_
      refine AO.gn rfl rfl rfl ?_
      refine AO.gn rfl rfl rfl ?_
      refine AO.p rfl (p_pickT rfl rfl) ?_
      refine AO.nil ?_
      have S122 := S102.front 0 rfl
      exact ⟨true, (some_inj hd121), S122, Sub.cons' rfl rfl (Sub.cons' rfl rfl (Sub.cons' rfl rfl (Sub.cons' rfl rfl (Sub.nil _))))⟩
    · have hd123 := bif_f c120 hd118
      refine AO.gp rfl rfl rfl (p_move rfl) ?_
      refine AO.gp rfl rfl rfl (p_len_slice rfl Try.underlying23) ?_
      refine AO.gp rfl rfl rfl (p_gtr rfl rfl) ?_
      refine AO.p rfl (p_pickF rfl rfl) ?_
      refine AO.nil ?_
      have S124 := S102.front 0 rfl
      exact ⟨(decide (14 < ((a1.length : Nat) : Int))), (some_inj hd123), S124, Sub.cons' rfl rfl (Sub.cons' rfl rfl (Sub.cons' rfl rfl (Sub.cons' rfl rfl (Sub.nil _))))⟩
  · rintro t' G126 ⟨b112, rfl, S125, hsub127⟩
    refine AX.sub hsub127 ?_
    refine AX.cond rfl (fun c128 => ?_) (fun c128 => ?_)
    · have hd129 := bif_t c128 hd115
      refine AX.seq ?_
      refine AX.region ?_
      refine AO.p rfl (p_buildZ (z := ints (List.replicate 14 0)) Try.underlying26 Try.sizeOf2 Try.zeroValue26 rfl) ?_
      obtain ⟨G130, hHG130, S131⟩ := S125.set (k := 0) (i := i101) rfl (AObj.row false (ints (List.replicate 14 0)))
      refine AO.s (s_storeAll (vs := ints (List.replicate 14 0)) Try.sizeOf26 rfl rfl ints_one (S125.get (k := 0) rfl) (ints_len len_rep) (ints_len len_rep) hHG130) ?_
      refine AO.p rfl (p_assign rfl) ?_
      refine AO.nil ?_
      refine AX.ret ?_
      obtain ⟨rfl, rfl⟩ := Prod.mk.inj (some_inj hd129)
      exact ⟨.inr rfl, _, res2 rfl (rv_cell (vs := ints (List.replicate 14 0)) rfl Try.isAgg26 Try.sizeOf26 (ints_len len_rep) (row_cells (S131.get (k := 0) rfl))) (rv_tmp rfl), rfl, (flat_t2 (flat_arr _) (flatB_ok rfl)), S131.hold, len_rep⟩
    · have hd133 := bif_f c128 hd115
      refine AX.skip ?_
      refine AX.seq ?_
      refine AX.seq ?_
      refine AX.region ?_
      refine AO.p rfl (p_assign rfl) ?_
      refine AO.nil ?_
      obtain ⟨r572, hl573, hd574⟩ := bnd_some hd133
      refine AX.cutQ (fun t' H' => .inl () = r572 ∧ St [] H H' [[(i101, AObj.row false (ints (List.replicate 14 0)))]] ∧ Am.Sub [(0, .int .i64 a0), (1, .slice p_a1 a1.length c_a1), (4, .pointer (some ⟨i101, 0, none⟩))] t') ?_ ?_
      · refine AX.block ?_
        refine AX.loopF (fun s' t' H' => ∃ (x426 : Int), x426 = s' ∧ St [] H H' [[(i101, AObj.row false (ints (List.replicate 14 0)))]] ∧ Am.Sub [(0, .int .i64 a0), (1, .slice p_a1 a1.length c_a1), (4, .pointer (some ⟨i101, 0, none⟩)), (6, .int .i64 x426)] t') hl573 ?_ ?_
        · skip
          have S575 := S125.front 0 rfl
          exact ⟨0, rfl, S575, Sub.cons' rfl rfl (Sub.cons' rfl rfl (Sub.cons' rfl rfl (Sub.cons' rfl rfl (Sub.nil _))))⟩
        · rintro n576 _ t' G580 ⟨x426, rfl, S579, hsub581⟩ o582 ho577 hk578
          refine AX.sub hsub581 ?_
          unfold D_spec_RoundOf_s0 at ho577
          refine AX.seq ?_
          refine AX.seq ?_
          refine AX.region ?_
          refine AO.p rfl (p_move rfl) ?_
          refine AO.p rfl (p_move rfl) ?_
          refine AO.p rfl (p_len_slice rfl Try.underlying23) ?_
          refine AO.p rfl (p_lss rfl rfl) ?_
          refine AO.nil ?_
          refine AX.cond rfl (fun c583 => ?_) (fun c583 => ?_)
          · have hd584 := bif_t c583 ho577
            refine AX.skip ?_
            refine AX.seq ?_
            refine AX.block ?_
            obtain ⟨r646, hb647, hd648⟩ := bnd_some hd584
            refine AX.cut (fun t' H' => ∃ (b645 : Bool), b645 = r646 ∧ St [] H H' [[(i101, AObj.row false (ints (List.replicate 14 0)))]] ∧ Am.Sub [(0, .int .i64 a0), (1, .slice p_a1 a1.length c_a1), (4, .pointer (some ⟨i101, 0, none⟩)), (6, .int .i64 x426), (68, .bool b645)] t') ?_ ?_
            · skip
              refine DR.startS [false, false, false, false, false, false, false, false, false, false, false, false, false, false, false, true, false, false, false, false, false, false, false, false, false, false, false, true, false, false, false, false, false, false, false, false, false, false, false, false, false, false, false, false, false] mix (by kernel_rfl) (fun hst => ?_)
              refine DR.p rfl rfl (p_move rfl) ?_
              refine DR.p rfl rfl (p_move rfl) ?_
              obtain ⟨k649, hd650⟩ := chk_some hb647
              obtain ⟨p651, c652, e653, f654⟩ := tget t_a1 (lt_len rfl (inR_lt k649))
              refine DR.p rfl rfl (s_indexV (q := off p_a1 + x426.toNat) Try.underlying23 Try.sizeOf69 rfl ((S579.view v_a1).p f654) rfl k649 (o1 _ _)) ?_
              refine DR.r rfl rfl (r_load rfl Try.isAgg69) (one_read ((S579.view v_a1).get _ _ f654) (TVw.at (S579.tview w_a1) e653).inn.bel) ?_
              refine DR.p rfl rfl (p_len_slice rfl Try.underlying69) ?_
              refine DR.p rfl rfl (p_neq rfl rfl) ?_
              refine DR.pb rfl rfl (p_move rfl) (fun c655 => ?_) (fun c655 => ?_)
              · have hd656 := bif_t c655 hd650
                refine DR.gn rfl rfl rfl rfl ?_
                refine DR.gn rfl rfl rfl rfl ?_
                refine DR.gn rfl rfl rfl rfl ?_
                refine DR.gn rfl rfl rfl rfl ?_
                refine DR.gn rfl rfl rfl rfl ?_
                refine DR.gn rfl rfl rfl rfl ?_
                refine DR.gn rfl rfl rfl rfl ?_
                refine DR.gn rfl rfl rfl rfl ?_
                refine DR.gn rfl rfl rfl rfl ?_
                refine DR.gn rfl rfl rfl rfl ?_
                refine DR.p rfl rfl (p_pickT rfl rfl) ?_
                refine DR.p rfl rfl (p_move rfl) ?_
                refine DR.gn rfl rfl rfl rfl ?_
                refine DR.gn rfl rfl rfl rfl ?_
                refine DR.gn rfl rfl rfl rfl ?_
                refine DR.gn rfl rfl rfl rfl ?_
                refine DR.gn rfl rfl rfl rfl ?_
                refine DR.gn rfl rfl rfl rfl ?_
                refine DR.gn rfl rfl rfl rfl ?_
                refine DR.gn rfl rfl rfl rfl ?_
                refine DR.gn rfl rfl rfl rfl ?_
                refine DR.gn rfl rfl rfl rfl ?_
                refine DR.p rfl rfl (p_pickT rfl rfl) ?_
                refine DR.p rfl rfl (p_move rfl) ?_
                refine DR.gn rfl rfl rfl rfl ?_
                refine DR.gn rfl rfl rfl rfl ?_
                refine DR.gn rfl rfl rfl rfl ?_
                refine DR.gn rfl rfl rfl rfl ?_
                refine DR.gn rfl rfl rfl rfl ?_
                refine DR.gn rfl rfl rfl rfl ?_
                refine DR.gn rfl rfl rfl rfl ?_
                refine DR.gn rfl rfl rfl rfl ?_
                refine DR.gn rfl rfl rfl rfl ?_
                refine DR.gn rfl rfl rfl rfl ?_
                refine DR.gn rfl rfl rfl rfl ?_
                refine DR.gn rfl rfl rfl rfl ?_
                refine DR.gn rfl rfl rfl rfl ?_
                refine DR.p rfl rfl (p_pickT rfl rfl) ?_
                refine DR.nil 45 [] hst (by kernel_rfl) trivial ?_
                have S657 := S579.front 0 rfl
                exact ⟨true, (some_inj hd656), S657, Sub.cons' rfl rfl (Sub.cons' rfl rfl (Sub.cons' rfl rfl (Sub.cons' rfl rfl (Sub.cons' rfl rfl (Sub.nil _)))))⟩
              · have hd658 := bif_f c655 hd650
                refine DR.gp rfl rfl rfl rfl (p_move rfl) ?_
                refine DR.gp rfl rfl rfl rfl (p_move rfl) ?_
                obtain ⟨k659, hd660⟩ := chk_some hd658
                obtain ⟨p661, c662, e663, f664⟩ := tget t_a1 (lt_len rfl (inR_lt k659))
                refine DR.gp rfl rfl rfl rfl (s_indexV (q := off p_a1 + x426.toNat) Try.underlying23 Try.sizeOf69 rfl ((S579.view v_a1).p f664) rfl k659 (o1 _ _)) ?_
                refine DR.gr rfl rfl rfl rfl (r_load rfl Try.isAgg69) (one_read ((S579.view v_a1).get _ _ f664) (TVw.at (S579.tview w_a1) e663).inn.bel) ?_
                obtain ⟨k665, hd666⟩ := chk_some hd660
                refine DR.gp rfl rfl rfl rfl (s_indexV (q := off p661 + 0) Try.underlying69 Try.sizeOf2 rfl ((TVw.at (S579.tview w_a1) e663).p (ints_get (lt_len rfl (inR_lt k665)))) rfl k665 (o1 _ _)) ?_
                refine DR.gr rfl rfl rfl rfl (r_load rfl Try.isAgg2) (one_read ((TVw.at (S579.tview w_a1) e663).get _ _ (ints_get (lt_len rfl (inR_lt k665)))) (.of_flat0 rfl)) ?_
                refine DR.gp rfl rfl rfl rfl (p_move rfl) ?_
                obtain ⟨k667, hd668⟩ := chk_some hd666
                refine DR.gp rfl rfl rfl rfl (p_subE rfl rfl k667) ?_
                obtain ⟨b669, h670, hd671⟩ := bnd_some hd668
                refine DR.gw rfl rfl rfl rfl (o_call (vs := [.int .i64 (rd (rw_ a1 x426.toNat) 0), .int .i64 0, .int .i64 (a0 - 1)]) rfl Try.call64 (W_spec_l01In fu G580 (rd (rw_ a1 x426.toNat) 0) 0 (a0 - 1) b669 h670)) (Nat.le_refl _) ?_
                refine DR.gp rfl rfl rfl rfl (p_not rfl) ?_
                refine DR.p rfl rfl (p_pickF rfl rfl) ?_
                refine DR.pb rfl rfl (p_move rfl) (fun c673 => ?_) (fun c673 => ?_)
                · have hd674 := bif_t c673 hd671
                  refine DR.gn rfl rfl rfl rfl ?_
                  refine DR.gn rfl rfl rfl rfl ?_
                  refine DR.gn rfl rfl rfl rfl ?_
                  refine DR.gn rfl rfl rfl rfl ?_
                  refine DR.gn rfl rfl rfl rfl ?_
                  refine DR.gn rfl rfl rfl rfl ?_
                  refine DR.gn rfl rfl rfl rfl ?_
                  refine DR.gn rfl rfl rfl rfl ?_
                  refine DR.gn rfl rfl rfl rfl ?_
                  refine DR.gn rfl rfl rfl rfl ?_
                  refine DR.p rfl rfl (p_pickT rfl rfl) ?_
                  refine DR.p rfl rfl (p_move rfl) ?_
                  refine DR.gn rfl rfl rfl rfl ?_
                  refine DR.gn rfl rfl rfl rfl ?_
                  refine DR.gn rfl rfl rfl rfl ?_
                  refine DR.gn rfl rfl rfl rfl ?_
                  refine DR.gn rfl rfl rfl rfl ?_
                  refine DR.gn rfl rfl rfl rfl ?_
                  refine DR.gn rfl rfl rfl rfl ?_
                  refine DR.gn rfl rfl rfl rfl ?_
                  refine DR.gn rfl rfl rfl rfl ?_
                  refine DR.gn rfl rfl rfl rfl ?_
                  refine DR.gn rfl rfl rfl rfl ?_
                  refine DR.gn rfl rfl rfl rfl ?_
                  refine DR.gn rfl rfl rfl rfl ?_
                  refine DR.p rfl rfl (p_pickT rfl rfl) ?_
                  refine DR.nil 45 [] hst (by kernel_rfl) trivial ?_
                  have S675 := S579.front 0 rfl
                  exact ⟨true, (some_inj hd674), S675, Sub.cons' rfl rfl (Sub.cons' rfl rfl (Sub.cons' rfl rfl (Sub.cons' rfl rfl (Sub.cons' rfl rfl (Sub.nil _)))))⟩
                · have hd676 := bif_f c673 hd671
                  refine DR.gp rfl rfl rfl rfl (p_move rfl) ?_
                  refine DR.gp rfl rfl rfl rfl (p_move rfl) ?_
                  obtain ⟨k677, hd678⟩ := chk_some hd676
                  obtain ⟨p679, c680, e681, f682⟩ := tget t_a1 (lt_len rfl (inR_lt k677))
                  refine DR.gp rfl rfl rfl rfl (s_indexV (q := off p_a1 + x426.toNat) Try.underlying23 Try.sizeOf69 rfl ((S579.view v_a1).p f682) rfl k677 (o1 _ _)) ?_
                  refine DR.gr rfl rfl rfl rfl (r_load rfl Try.isAgg69) (one_read ((S579.view v_a1).get _ _ f682) (TVw.at (S579.tview w_a1) e681).inn.bel) ?_
                  obtain ⟨k683, hd684⟩ := chk_some hd678
                  refine DR.gp rfl rfl rfl rfl (s_indexV (q := off p679 + 1) Try.underlying69 Try.sizeOf2 rfl ((TVw.at (S579.tview w_a1) e681).p (ints_get (lt_len rfl (inR_lt k683)))) rfl k683 (o1 _ _)) ?_
                  refine DR.gr rfl rfl rfl rfl (r_load rfl Try.isAgg2) (one_read ((TVw.at (S579.tview w_a1) e681).get _ _ (ints_get (lt_len rfl (inR_lt k683)))) (.of_flat0 rfl)) ?_
                  refine DR.gp rfl rfl rfl rfl (p_move rfl) ?_
                  obtain ⟨k685, hd686⟩ := chk_some hd684
                  refine DR.gp rfl rfl rfl rfl (p_subE rfl rfl k685) ?_
                  obtain ⟨b687, h688, hd689⟩ := bnd_some hd686
                  refine DR.gw rfl rfl rfl rfl (o_call (vs := [.int .i64 (rd (rw_ a1 x426.toNat) 1), .int .i64 0, .int .i64 (a0 - 1)]) rfl Try.call64 (W_spec_l01In fu G580 (rd (rw_ a1 x426.toNat) 1) 0 (a0 - 1) b687 h688)) (Nat.le_refl _) ?_
                  refine DR.gp rfl rfl rfl rfl (p_not rfl) ?_
                  refine DR.p rfl rfl (p_pickF rfl rfl) ?_
                  refine DR.pb rfl rfl (p_move rfl) (fun c691 => ?_) (fun c691 => ?_)
                  · have hd692 := bif_t c691 hd689
                    refine DR.gn rfl rfl rfl rfl ?_
                    refine DR.gn rfl rfl rfl rfl ?_
                    refine DR.gn rfl rfl rfl rfl ?_
                    refine DR.gn rfl rfl rfl rfl ?_
                    refine DR.gn rfl rfl rfl rfl ?_
                    refine DR.gn rfl rfl rfl rfl ?_
                    refine DR.gn rfl rfl rfl rfl ?_
                    refine DR.gn rfl rfl rfl rfl ?_
                    refine DR.gn rfl rfl rfl rfl ?_
                    refine DR.gn rfl rfl rfl rfl ?_
                    refine DR.gn rfl rfl rfl rfl ?_
                    refine DR.gn rfl rfl rfl rfl ?_
                    refine DR.gn rfl rfl rfl rfl ?_
                    refine DR.p rfl rfl (p_pickT rfl rfl) ?_
                    refine DR.nil 45 [] hst (by kernel_rfl) trivial ?_
                    have S693 := S579.front 0 rfl
                    exact ⟨true, (some_inj hd692), S693, Sub.cons' rfl rfl (Sub.cons' rfl rfl (Sub.cons' rfl rfl (Sub.cons' rfl rfl (Sub.cons' rfl rfl (Sub.nil _)))))⟩
                  · have hd694 := bif_f c691 hd689
                    refine DR.gp rfl rfl rfl rfl (p_move rfl) ?_
                    refine DR.gp rfl rfl rfl rfl (p_move rfl) ?_
                    obtain ⟨k695, hd696⟩ := chk_some hd694
                    obtain ⟨p697, c698, e699, f700⟩ := tget t_a1 (lt_len rfl (inR_lt k695))
                    refine DR.gp rfl rfl rfl rfl (s_indexV (q := off p_a1 + x426.toNat) Try.underlying23 Try.sizeOf69 rfl ((S579.view v_a1).p f700) rfl k695 (o1 _ _)) ?_
                    refine DR.gr rfl rfl rfl rfl (r_load rfl Try.isAgg69) (one_read ((S579.view v_a1).get _ _ f700) (TVw.at (S579.tview w_a1) e699).inn.bel) ?_
                    obtain ⟨k701, hd702⟩ := chk_some hd696
                    refine DR.gp rfl rfl rfl rfl (s_indexV (q := off p697 + 0) Try.underlying69 Try.sizeOf2 rfl ((TVw.at (S579.tview w_a1) e699).p (ints_get (lt_len rfl (inR_lt k701)))) rfl k701 (o1 _ _)) ?_
                    refine DR.gr rfl rfl rfl rfl (r_load rfl Try.isAgg2) (one_read ((TVw.at (S579.tview w_a1) e699).get _ _ (ints_get (lt_len rfl (inR_lt k701)))) (.of_flat0 rfl)) ?_
                    refine DR.gp rfl rfl rfl rfl (p_move rfl) ?_
                    refine DR.gp rfl rfl rfl rfl (p_move rfl) ?_
                    obtain ⟨k703, hd704⟩ := chk_some hd702
                    obtain ⟨p705, c706, e707, f708⟩ := tget t_a1 (lt_len rfl (inR_lt k703))
                    refine DR.gp rfl rfl rfl rfl (s_indexV (q := off p_a1 + x426.toNat) Try.underlying23 Try.sizeOf69 rfl ((S579.view v_a1).p f708) rfl k703 (o1 _ _)) ?_
                    refine DR.gr rfl rfl rfl rfl (r_load rfl Try.isAgg69) (one_read ((S579.view v_a1).get _ _ f708) (TVw.at (S579.tview w_a1) e707).inn.bel) ?_
                    obtain ⟨k709, hd710⟩ := chk_some hd704
                    refine DR.gp rfl rfl rfl rfl (s_indexV (q := off p705 + 1) Try.underlying69 Try.sizeOf2 rfl ((TVw.at (S579.tview w_a1) e707).p (ints_get (lt_len rfl (inR_lt k709)))) rfl k709 (o1 _ _)) ?_
                    refine DR.gr rfl rfl rfl rfl (r_load rfl Try.isAgg2) (one_read ((TVw.at (S579.tview w_a1) e707).get _ _ (ints_get (lt_len rfl (inR_lt k709)))) (.of_flat0 rfl)) ?_
                    refine DR.gp rfl rfl rfl rfl (p_eql rfl rfl) ?_
                    refine DR.p rfl rfl (p_pickF rfl rfl) ?_
                    refine DR.nil 45 [] hst (by kernel_rfl) trivial ?_
                    have S711 := S579.front 0 rfl
                    exact ⟨(decide (rd (rw_ a1 x426.toNat) 0 = rd (rw_ a1 x426.toNat) 1)), (some_inj hd710), S711, Sub.cons' rfl rfl (Sub.cons' rfl rfl (Sub.cons' rfl rfl (Sub.cons' rfl rfl (Sub.cons' rfl rfl (Sub.nil _)))))⟩
            · rintro t' G713 ⟨b645, rfl, S712, hsub714⟩
              refine AX.sub hsub714 ?_
              refine AX.cond rfl (fun c715 => ?_) (fun c715 => ?_)
              · have hd716 := bif_t c715 hd648
                refine AX.seq ?_
                refine AX.region ?_
                refine AO.p rfl (p_buildZ (z := ints (List.replicate 14 0)) Try.underlying26 Try.sizeOf2 Try.zeroValue26 rfl) ?_
                obtain ⟨G717, hHG717, S718⟩ := S712.set (k := 0) (i := i101) rfl (AObj.row false (ints (List.replicate 14 0)))
                refine AO.s (s_storeAll (vs := ints (List.replicate 14 0)) Try.sizeOf26 rfl rfl ints_one (S712.get (k := 0) rfl) (ints_len len_rep) (ints_len len_rep) hHG717) ?_
                refine AO.p rfl (p_assign rfl) ?_
                refine AO.nil ?_
                refine AX.ret ?_
                obtain rfl := some_inj hd716
                have z719 : _ = r572 := hk578
                subst z719
                obtain ⟨rfl, rfl⟩ := Prod.mk.inj (some_inj hd574)
                exact ⟨.inr rfl, _, res2 rfl (rv_cell (vs := ints (List.replicate 14 0)) rfl Try.isAgg26 Try.sizeOf26 (ints_len len_rep) (row_cells (S718.get (k := 0) rfl))) (rv_tmp rfl), rfl, (flat_t2 (flat_arr _) (flatB_ok rfl)), S718.hold, len_rep⟩
              · have hd721 := bif_f c715 hd648
                refine AX.skip ?_
                refine AX.region ?_
                refine AO.p rfl (p_move rfl) ?_
                obtain ⟨k722, hd723⟩ := chk_some hd721
                refine AO.p rfl (p_addE rfl rfl k722) ?_
                refine AO.p rfl (p_assign rfl) ?_
                refine AO.nil ?_
                obtain rfl := some_inj hd723
                have S725 := S712.front 0 rfl
                exact ⟨x426 + 1, hk578, (x426 + 1), rfl, S725, Sub.cons' rfl rfl (Sub.cons' rfl rfl (Sub.cons' rfl rfl (Sub.cons' rfl rfl (Sub.nil _))))⟩
          · have hd726 := bif_f c583 ho577
            refine AX.exit ?_
            obtain rfl := some_inj hd726
            have S727 := S579.front 0 rfl
            exact ⟨hk578, S727, Sub.cons' rfl rfl (Sub.cons' rfl rfl (Sub.cons' rfl rfl (Sub.nil _)))⟩
      · rintro t' G729 ⟨rfl, S728, hsub730⟩
        refine AX.sub hsub730 ?_
        refine AX.seq ?_
        refine AX.region ?_
        refine AO.p rfl (p_move rfl) ?_
        obtain ⟨k731, hd732⟩ := chk_some hd574
        obtain ⟨G733, i734, hii734, hHG733, S735⟩ := S728.new (AObj.row false (bls (List.replicate a0.toNat false)))
        refine AO.c rfl (s_make1 (v := .bool false) (i := i734) (by_ := 1) Try.underlying91 Try.typeInfo4 Try.sizeOf4 Try.zeroValue4 rfl rfl rfl rfl rfl rfl k731 bls_rep hii734 hHG733) ?_
        refine AO.p rfl (p_assign rfl) ?_
        refine AO.nil ?_
        refine AX.seq ?_
        refine AX.seq ?_
        refine AX.region ?_
        refine AO.p rfl (p_assign rfl) ?_
        refine AO.nil ?_
        obtain ⟨r1039, hl1040, hd1041⟩ := bnd_some hd732
        refine AX.cutQ (fun t' H' => .inl () = r1039 ∧ St [] H H' [[(i101, AObj.row false (ints (List.replicate 14 0)))]] ∧ Am.Sub [(0, .int .i64 a0), (1, .slice p_a1 a1.length c_a1), (4, .pointer (some ⟨i101, 0, none⟩))] t') ?_ ?_
        · refine AX.block ?_
          refine AX.loopF (fun s' t' H' => ∃ (bs939 : List Bool) (x940 : Int), (bs939, x940) = s' ∧ St [] H H' [[(i101, AObj.row false (ints (List.replicate 14 0)))], [(i734, AObj.row false (bls bs939))]] ∧ bs939.length = a0.toNat ∧ Am.Sub [(0, .int .i64 a0), (1, .slice p_a1 a1.length c_a1), (4, .pointer (some ⟨i101, 0, none⟩)), (7, .slice (some (Addr.mk i734 0 none)) a0.toNat a0.toNat), (8, .int .i64 x940)] t') hl1040 ?_ ?_
          · skip
            have S1042 := S735.front 0 rfl
            have S1043 := S1042.front 1 rfl
            exact ⟨(List.replicate a0.toNat false), 0, rfl, S1043, len_rep, Sub.cons' rfl rfl (Sub.cons' rfl rfl (Sub.cons' rfl rfl (Sub.cons' rfl rfl (Sub.cons' rfl rfl (Sub.nil _)))))⟩
          · rintro n1044 _ t' G1048 ⟨bs939, x940, rfl, S1047, lbs939, hsub1049⟩ o1050 ho1045 hk1046
            refine AX.sub hsub1049 ?_
            unfold D_spec_RoundOf_s1 at ho1045
            refine AX.seq ?_
            refine AX.seq ?_
            refine AX.region ?_
            refine AO.p rfl (p_move rfl) ?_
            refine AO.p rfl (p_move rfl) ?_
            refine AO.p rfl (p_len_slice rfl Try.underlying23) ?_
            refine AO.p rfl (p_lss rfl rfl) ?_
            refine AO.nil ?_
            refine AX.cond rfl (fun c1051 => ?_) (fun c1051 => ?_)
            · have hd1052 := bif_t c1051 ho1045
              refine AX.skip ?_
              refine AX.seq ?_
              refine AX.block ?_
              refine AX.seq ?_
              obtain ⟨r1079, hb1080, hd1081⟩ := bnd_some hd1052
              refine AX.cut (fun t' H' => ∃ (b1078 : Bool), b1078 = r1079 ∧ St [] H H' [[(i101, AObj.row false (ints (List.replicate 14 0)))], [(i734, AObj.row false (bls bs939))]] ∧ Am.Sub [(0, .int .i64 a0), (1, .slice p_a1 a1.length c_a1), (4, .pointer (some ⟨i101, 0, none⟩)), (7, .slice (some (Addr.mk i734 0 none)) a0.toNat a0.toNat), (8, .int .i64 x940), (97, .bool b1078)] t') ?_ ?_
              · skip
                refine AX.region ?_
                refine AO.p rfl (p_move rfl) ?_
                refine AO.p rfl (p_move rfl) ?_
                refine AO.p rfl (p_move rfl) ?_
                obtain ⟨k1082, hd1083⟩ := chk_some hb1080
                obtain ⟨p1084, c1085, e1086, f1087⟩ := tget t_a1 (lt_len rfl (inR_lt k1082))
                refine AO.p rfl (s_indexV (q := off p_a1 + x940.toNat) Try.underlying23 Try.sizeOf69 rfl ((S1047.view v_a1).p f1087) rfl k1082 (o1 _ _)) ?_
                refine AO.c rfl (s_load Try.isAgg69 rfl ((S1047.view v_a1).get _ _ f1087)) ?_
                obtain ⟨k1088, hd1089⟩ := chk_some hd1083
                refine AO.p rfl (s_indexV (q := off p1084 + 0) Try.underlying69 Try.sizeOf2 rfl ((TVw.at (S1047.tview w_a1) e1086).p (ints_get (lt_len rfl (inR_lt k1088)))) rfl k1088 (o1 _ _)) ?_
                refine AO.c rfl (s_load Try.isAgg2 rfl ((TVw.at (S1047.tview w_a1) e1086).get _ _ (ints_get (lt_len rfl (inR_lt k1088))))) ?_
                obtain ⟨k1090, hd1091⟩ := chk_some hd1089
                refine AO.p rfl (s_indexV (q := (rd (rw_ a1 x940.toNat) 0).toNat) Try.underlying91 Try.sizeOf4 rfl rfl rfl k1090 (z1 _)) ?_
                refine AO.c rfl (s_load Try.isAgg4 rfl (row_cell (S1047.get (k := 1) rfl) (bls_get (lt_len lbs939 (inR_lt k1090))))) ?_
                refine AO.p rfl (p_move rfl) ?_
                refine AO.cases (d := 87) rfl (fun c1092 => ?_) (fun c1092 => ?_)
                · have hd1093 := bif_t c1092 hd1091
                  refine AO.gn rfl rfl rfl ?_
                  refine AO.gn rfl rfl rfl ?_
                  refine AO.gn rfl rfl rfl ?_
                  refine AO.gn rfl rfl rfl ?_
                  refine AO.gn rfl rfl rfl ?_
                  refine AO.gn rfl rfl rfl ?_
                  refine AO.gn rfl rfl rfl ?_
                  refine AO.gn rfl rfl rfl ?_
                  refine AO.gn rfl rfl rfl ?_
                  refine AO.p rfl (p_pickT rfl rfl) ?_
                  refine AO.nil ?_
                  have S1094 := S1047.front 1 rfl
                  have S1095 := S1094.front 1 rfl
                  exact ⟨true, (some_inj hd1093), S1095, Sub.cons' rfl rfl (Sub.cons' rfl rfl (Sub.cons' rfl rfl (Sub.cons' rfl rfl (Sub.cons' rfl rfl (Sub.cons' rfl rfl (Sub.nil _))))))⟩
                · have hd1096 := bif_f c1092 hd1091
                  refine AO.gp rfl rfl rfl (p_move rfl) ?_
                  refine AO.gp rfl rfl rfl (p_move rfl) ?_
                  refine AO.gp rfl rfl rfl (p_move rfl) ?_
                  obtain ⟨k1097, hd1098⟩ := chk_some hd1096
                  obtain ⟨p1099, c1100, e1101, f1102⟩ := tget t_a1 (lt_len rfl (inR_lt k1097))
                  refine AO.gp rfl rfl rfl (s_indexV (q := off p_a1 + x940.toNat) Try.underlying23 Try.sizeOf69 rfl ((S1047.view v_a1).p f1102) rfl k1097 (o1 _ _)) ?_
                  refine AO.gc rfl rfl rfl (s_load Try.isAgg69 rfl ((S1047.view v_a1).get _ _ f1102)) ?_
                  obtain ⟨k1103, hd1104⟩ := chk_some hd1098
                  refine AO.gp rfl rfl rfl (s_indexV (q := off p1099 + 1) Try.underlying69 Try.sizeOf2 rfl ((TVw.at (S1047.tview w_a1) e1101).p (ints_get (lt_len rfl (inR_lt k1103)))) rfl k1103 (o1 _ _)) ?_
                  refine AO.gc rfl rfl rfl (s_load Try.isAgg2 rfl ((TVw.at (S1047.tview w_a1) e1101).get _ _ (ints_get (lt_len rfl (inR_lt k1103))))) ?_
                  obtain ⟨k1105, hd1106⟩ := chk_some hd1104
                  refine AO.gp rfl rfl rfl (s_indexV (q := (rd (rw_ a1 x940.toNat) 1).toNat) Try.underlying91 Try.sizeOf4 rfl rfl rfl k1105 (z1 _)) ?_
                  refine AO.gc rfl rfl rfl (s_load Try.isAgg4 rfl (row_cell (S1047.get (k := 1) rfl) (bls_get (lt_len lbs939 (inR_lt k1105))))) ?_
                  refine AO.p rfl (p_pickF rfl rfl) ?_
                  refine AO.nil ?_
                  have S1107 := S1047.front 1 rfl
                  have S1108 := S1107.front 1 rfl
                  exact ⟨(rdb bs939 ((rd (rw_ a1 x940.toNat) 1).toNat)), (some_inj hd1106), S1108, Sub.cons' rfl rfl (Sub.cons' rfl rfl (Sub.cons' rfl rfl (Sub.cons' rfl rfl (Sub.cons' rfl rfl (Sub.cons' rfl rfl (Sub.nil _))))))⟩
              · rintro t' G1110 ⟨b1078, rfl, S1109, hsub1111⟩
                refine AX.sub hsub1111 ?_
                refine AX.cond rfl (fun c1112 => ?_) (fun c1112 => ?_)
                · have hd1113 := bif_t c1112 hd1081
                  refine AX.seq ?_
                  refine AX.region ?_
                  refine AO.p rfl (p_buildZ (z := ints (List.replicate 14 0)) Try.underlying26 Try.sizeOf2 Try.zeroValue26 rfl) ?_
                  obtain ⟨G1114, hHG1114, S1115⟩ := S1109.set (k := 0) (i := i101) rfl (AObj.row false (ints (List.replicate 14 0)))
                  refine AO.s (s_storeAll (vs := ints (List.replicate 14 0)) Try.sizeOf26 rfl rfl ints_one (S1109.get (k := 0) rfl) (ints_len len_rep) (ints_len len_rep) hHG1114) ?_
                  refine AO.p rfl (p_assign rfl) ?_
                  refine AO.nil ?_
                  refine AX.ret ?_
                  obtain rfl := some_inj hd1113
                  have z1116 : _ = r1039 := hk1046
                  subst z1116
                  obtain ⟨rfl, rfl⟩ := Prod.mk.inj (some_inj hd1041)
                  exact ⟨.inr rfl, _, res2 rfl (rv_cell (vs := ints (List.replicate 14 0)) rfl Try.isAgg26 Try.sizeOf26 (ints_len len_rep) (row_cells (S1115.get (k := 0) rfl))) (rv_tmp rfl), rfl, (flat_t2 (flat_arr _) (flatB_ok rfl)), S1115.hold, len_rep⟩
                · have hd1118 := bif_f c1112 hd1081
                  refine AX.skip ?_
                  refine AX.seq ?_
                  refine AX.region ?_
                  refine AO.p rfl (p_move rfl) ?_
                  refine AO.p rfl (p_move rfl) ?_
                  refine AO.p rfl (p_move rfl) ?_
                  obtain ⟨k1119, hd1120⟩ := chk_some hd1118
                  obtain ⟨p1121, c1122, e1123, f1124⟩ := tget t_a1 (lt_len rfl (inR_lt k1119))
                  refine AO.p rfl (s_indexV (q := off p_a1 + x940.toNat) Try.underlying23 Try.sizeOf69 rfl ((S1109.view v_a1).p f1124) rfl k1119 (o1 _ _)) ?_
                  refine AO.c rfl (s_load Try.isAgg69 rfl ((S1109.view v_a1).get _ _ f1124)) ?_
                  obtain ⟨k1125, hd1126⟩ := chk_some hd1120
                  refine AO.p rfl (s_indexV (q := off p1121 + 0) Try.underlying69 Try.sizeOf2 rfl ((TVw.at (S1109.tview w_a1) e1123).p (ints_get (lt_len rfl (inR_lt k1125)))) rfl k1125 (o1 _ _)) ?_
                  refine AO.c rfl (s_load Try.isAgg2 rfl ((TVw.at (S1109.tview w_a1) e1123).get _ _ (ints_get (lt_len rfl (inR_lt k1125))))) ?_
                  obtain ⟨k1127, hd1128⟩ := chk_some hd1126
                  refine AO.p rfl (s_indexV (q := (rd (rw_ a1 x940.toNat) 0).toNat) Try.underlying91 Try.sizeOf4 rfl rfl rfl k1127 (z1 _)) ?_
                  obtain ⟨G1129, hHG1129, S1130⟩ := S1109.set (k := 1) (i := i734) rfl (AObj.row false (bls (bs939.set ((rd (rw_ a1 x940.toNat) 0).toNat) true)))
                  refine AO.s (s_store Try.sizeOf4 rfl rfl rfl (S1109.get (k := 1) rfl) (lt_len ((bls_length _).trans lbs939) (inR_lt k1127)) ((congrArg (fun l => List.set _ _ (AObj.row false l)) (bls_set _ _ _)).trans hHG1129)) ?_
                  refine AO.nil ?_
                  refine AX.region ?_
                  refine AO.p rfl (p_move rfl) ?_
                  refine AO.p rfl (p_move rfl) ?_
                  refine AO.p rfl (p_move rfl) ?_
                  obtain ⟨k1131, hd1132⟩ := chk_some hd1128
                  obtain ⟨p1133, c1134, e1135, f1136⟩ := tget t_a1 (lt_len rfl (inR_lt k1131))
                  refine AO.p rfl (s_indexV (q := off p_a1 + x940.toNat) Try.underlying23 Try.sizeOf69 rfl ((S1130.view v_a1).p f1136) rfl k1131 (o1 _ _)) ?_
                  refine AO.c rfl (s_load Try.isAgg69 rfl ((S1130.view v_a1).get _ _ f1136)) ?_
                  obtain ⟨k1137, hd1138⟩ := chk_some hd1132
                  refine AO.p rfl (s_indexV (q := off p1133 + 1) Try.underlying69 Try.sizeOf2 rfl ((TVw.at (S1130.tview w_a1) e1135).p (ints_get (lt_len rfl (inR_lt k1137)))) rfl k1137 (o1 _ _)) ?_
                  refine AO.c rfl (s_load Try.isAgg2 rfl ((TVw.at (S1130.tview w_a1) e1135).get _ _ (ints_get (lt_len rfl (inR_lt k1137))))) ?_
                  obtain ⟨k1139, hd1140⟩ := chk_some hd1138
                  refine AO.p rfl (s_indexV (q := (rd (rw_ a1 x940.toNat) 1).toNat) Try.underlying91 Try.sizeOf4 rfl rfl rfl k1139 (z1 _)) ?_
                  obtain ⟨G1141, hHG1141, S1142⟩ := S1130.set (k := 1) (i := i734) rfl (AObj.row false (bls ((bs939.set ((rd (rw_ a1 x940.toNat) 0).toNat) true).set ((rd (rw_ a1 x940.toNat) 1).toNat) true)))
                  refine AO.s (s_store Try.sizeOf4 rfl rfl rfl (S1130.get (k := 1) rfl) (lt_len ((bls_length _).trans (len_set lbs939)) (inR_lt k1139)) ((congrArg (fun l => List.set _ _ (AObj.row false l)) (bls_set _ _ _)).trans hHG1141)) ?_
                  refine AO.nil ?_
                  refine AX.region ?_
                  refine AO.p rfl (p_move rfl) ?_
                  obtain ⟨k1143, hd1144⟩ := chk_some hd1140
                  refine AO.p rfl (p_addE rfl rfl k1143) ?_
                  refine AO.p rfl (p_assign rfl) ?_
                  refine AO.nil ?_
                  obtain rfl := some_inj hd1144
                  have S1146 := S1142.front 1 rfl
                  have S1147 := S1146.front 1 rfl
                  exact ⟨(((bs939.set ((rd (rw_ a1 x940.toNat) 0).toNat) true).set ((rd (rw_ a1 x940.toNat) 1).toNat) true), x940 + 1), hk1046, ((bs939.set ((rd (rw_ a1 x940.toNat) 0).toNat) true).set ((rd (rw_ a1 x940.toNat) 1).toNat) true), (x940 + 1), rfl, S1147, (len_set (len_set lbs939)), Sub.cons' rfl rfl (Sub.cons' rfl rfl (Sub.cons' rfl rfl (Sub.cons' rfl rfl (Sub.cons' rfl rfl (Sub.nil _)))))⟩
            · have hd1148 := bif_f c1051 ho1045
              refine AX.exit ?_
              obtain rfl := some_inj hd1148
              have S1149 := S1047.front 0 rfl
              have S1150 := S1149.keep 1
              exact ⟨hk1046, S1150, Sub.cons' rfl rfl (Sub.cons' rfl rfl (Sub.cons' rfl rfl (Sub.nil _)))⟩
        · rintro t' G1152 ⟨rfl, S1151, hsub1153⟩
          refine AX.sub hsub1153 ?_
          refine AX.seq ?_
          refine AX.region ?_
          refine AO.p rfl (p_move rfl) ?_
          refine AO.p rfl (p_move rfl) ?_
          obtain ⟨xs1154, h1155, hd1156⟩ := bnd_some hd1041
          obtain ⟨hc1158, l1159⟩ := W_spec_l01Made fu G1152 a0 p_a1 c_a1 T_a1 a1 t_a1 (S1151.view v_a1) (S1151.tview w_a1) xs1154 h1155
          refine AO.c rfl (o_call (vs := [.int .i64 a0, .slice p_a1 a1.length c_a1]) rfl Try.call80 hc1158) ?_
          obtain ⟨G1160, hHG1160, S1161⟩ := S1151.set (k := 0) (i := i101) rfl (AObj.row false (ints xs1154))
          refine AO.s (s_storeAll (vs := ints xs1154) Try.sizeOf26 rfl rfl ints_one (S1151.get (k := 0) rfl) (ints_len l1159) (ints_len len_rep) hHG1160) ?_
          refine AO.p rfl (p_assign rfl) ?_
          refine AO.nil ?_
          refine AX.ret ?_
          obtain ⟨rfl, rfl⟩ := Prod.mk.inj (some_inj hd1156)
          exact ⟨.inr rfl, _, res2 rfl (rv_cell (vs := ints xs1154) rfl Try.isAgg26 Try.sizeOf26 (ints_len l1159) (row_cells (S1161.get (k := 0) rfl))) (rv_tmp rfl), rfl, (flat_t2 (flat_arr _) (flatB_ok rfl)), S1161.hold, l1159⟩

set_option maxHeartbeats 4000000 in
theorem W_slices_IndexFunc_SSint64_Sint64 (fu : Nat) (H : AHeap) (p_a0 : Option Addr) (c_a0 : Nat) (T_a0 : Tb) (a0 : List (List Int)) (t_a0 : trows T_a0 = a0) (v_a0 : Vw H p_a0 a0.length c_a0 (tcells T_a0)) (w_a0 : TVw H T_a0) (f_a1 : FuncId) (fs_a1 cs_a1 : Array Value) (a1 : (List Int) → Option Bool) (hc_a1 : ∀ args w, (callFunc f_a1 args).run Try.prog w = .ok (.enter f_a1 args) w) (hq_a1 : ∀ H', ExtG H H' → ∀ (p_x0_a1 : Option Addr) (c_x0_a1 : Nat) (x0_a1 : List Int) (v_x0_a1 : Vw H' p_x0_a1 x0_a1.length c_x0_a1 (ints x0_a1)) (b : Bool), a1 x0_a1 = some b → ACall Try.prog f_a1 (fs_a1.toList ++ [.slice p_x0_a1 x0_a1.length c_x0_a1] ++ cs_a1.toList) H' (.bool b) H') (r0 : Int) (hd : D_slices_IndexFunc_SSint64_Sint64 fu a0 a1 = some r0) : ACall Try.prog 115 [.slice p_a0 a0.length c_a0, .func (.func f_a1) fs_a1 cs_a1] H (.int .i64 r0) H := by
  refine ACall.bodyP (N := 19) [(0, .slice p_a0 a0.length c_a0), (1, .func (.func f_a1) fs_a1 cs_a1)] Try.func115 rfl rfl rfl rfl ?_
  unfold D_slices_IndexFunc_SSint64_Sint64 at hd
  have S0 : St [] H H [] := St.nil H
  refine AX.seq ?_
  refine AX.region ?_
  refine AO.p rfl (p_assign rfl) ?_
  refine AO.nil ?_
  refine AX.seq ?_
  refine AX.seq ?_
  refine AX.region ?_
  refine AO.p rfl (p_move rfl) ?_
  refine AO.p rfl (p_len_slice rfl Try.underlying23) ?_
  refine AO.p rfl (p_move rfl) ?_
  refine AO.nil ?_
  obtain ⟨r162, hl163, hd164⟩ := bnd_some hd
  refine AX.cutQ (fun t' H' => .inl () = r162 ∧ St [] H H' [] ∧ Am.Sub [] t') ?_ ?_
  · refine AX.block ?_
    refine AX.loopF (fun s' t' H' => ∃ (x141 : Int), x141 = s' ∧ St [] H H' [] ∧ Am.Sub [(0, .slice p_a0 a0.length c_a0), (1, .func (.func f_a1) fs_a1 cs_a1), (7, .int .i64 ((a0.length : Nat) : Int)), (8, .int .i64 x141)] t') hl163 ?_ ?_
    · skip
      exact ⟨0, rfl, S0, Sub.cons' rfl rfl (Sub.cons' rfl rfl (Sub.cons' rfl rfl (Sub.cons' rfl rfl (Sub.nil _))))⟩
    · rintro n165 _ t' G169 ⟨x141, rfl, S168, hsub170⟩ o171 ho166 hk167
      refine AX.sub hsub170 ?_
      unfold D_slices_IndexFunc_SSint64_Sint64_s0 at ho166
      refine AX.seq ?_
      refine AX.region ?_
      refine AO.p rfl (p_lss rfl rfl) ?_
      refine AO.nil ?_
      refine AX.seq ?_
      refine AX.cond rfl (fun c172 => ?_) (fun c172 => ?_)
      · have hd173 := bif_t c172 ho166
        refine AX.skip ?_
        refine AX.seq ?_
        refine AX.block ?_
        refine AX.seq ?_
        refine AX.region ?_
        refine AO.p rfl (p_move rfl) ?_
        refine AO.p rfl (p_assign rfl) ?_
        refine AO.nil ?_
        refine AX.seq ?_
        refine AX.region ?_
        refine AO.p rfl (p_move rfl) ?_
        refine AO.p rfl (p_move rfl) ?_
        refine AO.p rfl (p_move rfl) ?_
        obtain ⟨k174, hd175⟩ := chk_some hd173
        obtain ⟨p176, c177, e178, f179⟩ := tget t_a0 (lt_len rfl (inR_lt k174))
        refine AO.p rfl (s_indexV (q := off p_a0 + x141.toNat) Try.underlying23 Try.sizeOf69 rfl ((S168.view v_a0).p f179) rfl k174 (o1 _ _)) ?_
        refine AO.c rfl (s_load Try.isAgg69 rfl ((S168.view v_a0).get _ _ f179)) ?_
        obtain ⟨b180, h181, hd182⟩ := bnd_some hd175
        refine AO.c rfl (o_callV (vs := [.slice p176 ((rw_ a0 x141.toNat).length) c177]) rfl rfl hc_a1 (hq_a1 G169 S168.ext p176 c177 (rw_ a0 x141.toNat) (TVw.at (S168.tview w_a0) e178) b180 h181)) ?_
        refine AO.nil ?_
        refine AX.cond rfl (fun c183 => ?_) (fun c183 => ?_)
        · have hd184 := bif_t c183 hd182
          refine AX.seq ?_
          refine AX.region ?_
          refine AO.p rfl (p_move rfl) ?_
          refine AO.p rfl (p_assign rfl) ?_
          refine AO.nil ?_
          refine AX.ret ?_
          obtain rfl := some_inj hd184
          have z185 : _ = r162 := hk167
          subst z185
          obtain rfl := some_inj hd164
          exact ⟨.inr rfl, _, res1 rfl (rv_tmp rfl), rfl, (flatB_ok rfl), S168.hold⟩
        · have hd186 := bif_f c183 hd182
          refine AX.skip ?_
          refine AX.region ?_
          obtain ⟨k187, hd188⟩ := chk_some hd186
          refine AO.p rfl (p_addE rfl rfl k187) ?_
          refine AO.p rfl (p_move rfl) ?_
          refine AO.nil ?_
          obtain rfl := some_inj hd188
          exact ⟨x141 + 1, hk167, (x141 + 1), rfl, S168, Sub.cons' rfl rfl (Sub.cons' rfl rfl (Sub.cons' rfl rfl (Sub.cons' rfl rfl (Sub.nil _))))⟩
      · have hd190 := bif_f c172 ho166
        refine AX.exit ?_
        obtain rfl := some_inj hd190
        exact ⟨hk167, S168, Sub.nil _⟩
  · rintro t' G192 ⟨rfl, S191, hsub193⟩
    refine AX.sub hsub193 ?_
    refine AX.seq ?_
    refine AX.region ?_
    refine AO.p rfl (p_assign rfl) ?_
    refine AO.nil ?_
    refine AX.ret ?_
    obtain rfl := some_inj hd164
    exact ⟨.inr rfl, _, res1 rfl (rv_tmp rfl), rfl, (flatB_ok rfl), S191.hold⟩

set_option maxHeartbeats 4000000 in
theorem W_slices_ContainsFunc_SSint64_Sint64 (fu : Nat) (H : AHeap) (p_a0 : Option Addr) (c_a0 : Nat) (T_a0 : Tb) (a0 : List (List Int)) (t_a0 : trows T_a0 = a0) (v_a0 : Vw H p_a0 a0.length c_a0 (tcells T_a0)) (w_a0 : TVw H T_a0) (f_a1 : FuncId) (fs_a1 cs_a1 : Array Value) (a1 : (List Int) → Option Bool) (hc_a1 : ∀ args w, (callFunc f_a1 args).run Try.prog w = .ok (.enter f_a1 args) w) (hq_a1 : ∀ H', ExtG H H' → ∀ (p_x0_a1 : Option Addr) (c_x0_a1 : Nat) (x0_a1 : List Int) (v_x0_a1 : Vw H' p_x0_a1 x0_a1.length c_x0_a1 (ints x0_a1)) (b : Bool), a1 x0_a1 = some b → ACall Try.prog f_a1 (fs_a1.toList ++ [.slice p_x0_a1 x0_a1.length c_x0_a1] ++ cs_a1.toList) H' (.bool b) H') (r0 : Bool) (hd : D_slices_ContainsFunc_SSint64_Sint64 fu a0 a1 = some r0) : ACall Try.prog 73 [.slice p_a0 a0.length c_a0, .func (.func f_a1) fs_a1 cs_a1] H (.bool r0) H := by
  refine ACall.bodyP (N := 9) [(0, .slice p_a0 a0.length c_a0), (1, .func (.func f_a1) fs_a1 cs_a1)] Try.func73 rfl rfl rfl rfl ?_
  unfold D_slices_ContainsFunc_SSint64_Sint64 at hd
  have S0 : St [] H H [] := St.nil H
  refine AX.seq ?_
  refine AX.region ?_
  refine AO.p rfl (p_assign rfl) ?_
  refine AO.nil ?_
  refine AX.seq ?_
  refine AX.region ?_
  refine AO.p rfl (p_move rfl) ?_
  refine AO.p rfl (p_move rfl) ?_
  obtain ⟨x100, h101, hd102⟩ := bnd_some hd
  refine AO.c rfl (o_call (vs := [.slice p_a0 a0.length c_a0, .func (.func f_a1) fs_a1 cs_a1]) rfl Try.call115 (W_slices_IndexFunc_SSint64_Sint64 fu H p_a0 c_a0 T_a0 a0 t_a0 (S0.view v_a0) (S0.tview w_a0) f_a1 fs_a1 cs_a1 a1 hc_a1 (fun G' hG => hq_a1 G' (S0.ext.trans hG)) x100 h101)) ?_
  refine AO.p rfl (p_geq rfl rfl) ?_
  refine AO.p rfl (p_assign rfl) ?_
  refine AO.nil ?_
  refine AX.ret ?_
  obtain rfl := some_inj hd102
  exact ⟨.inr rfl, _, res1 rfl (rv_tmp rfl), rfl, (flatB_ok rfl), S0.hold⟩

set_option maxHeartbeats 4000000 in
theorem W_impl_RoundOf_1 (fu : Nat) (H : AHeap) (p_a0 : Option Addr) (c_a0 : Nat) (a0 : List Int) (v_a0 : Vw H p_a0 a0.length c_a0 (ints a0)) (i_b0 : Nat) (ro_b0 : Bool) (b0_0 : Int) (o_b0 : hget H i_b0 = .row ro_b0 ([.int .i64 b0_0])) (r0 : Bool) (hd : D_impl_RoundOf_1 fu a0 b0_0 = some r0) : ACall Try.prog 82 [.slice p_a0 a0.length c_a0, .pointer (some ⟨i_b0, 0, none⟩)] H (.bool r0) H := by
  refine ACall.bodyP (N := 34) [(0, .slice p_a0 a0.length c_a0), (1, .pointer (some ⟨i_b0, 0, none⟩))] Try.func82 rfl rfl rfl rfl ?_
  unfold D_impl_RoundOf_1 at hd
  have S0 : St [] H H [] := St.nil H
  refine AX.seq ?_
  refine AX.region ?_
  refine AO.p rfl (p_assign rfl) ?_
  refine AO.nil ?_
  obtain ⟨r130, hb131, hd132⟩ := bnd_some hd
  refine AX.cut (fun t' H' => ∃ (b129 : Bool), b129 = r130 ∧ St [] H H' [] ∧ Am.Sub [(3, .bool b129)] t') ?_ ?_
  · skip
    refine DR.startS [false, false, false, false, false, false, false, false, false, true, false, false, false, false, false, false, false, false, true, false, false, false, false, false, false, false, false, false, false, false, false] mix (by kernel_rfl) (fun hst => ?_)
    refine DR.p rfl rfl (p_move rfl) ?_
    refine DR.p rfl rfl (p_len_slice rfl Try.underlying69) ?_
    refine DR.p rfl rfl (p_neq rfl rfl) ?_
    refine DR.pb rfl rfl (p_move rfl) (fun c133 => ?_) (fun c133 => ?_)
    · have hd134 := bif_t c133 hb131
      refine DR.gn rfl rfl rfl rfl ?_
      refine DR.gn rfl rfl rfl rfl ?_
      refine DR.gn rfl rfl rfl rfl ?_
      refine DR.gn rfl rfl rfl rfl ?_
      refine DR.gn rfl rfl rfl rfl ?_
      refine DR.gn rfl rfl rfl rfl ?_
      refine DR.gn rfl rfl rfl rfl ?_
      refine DR.p rfl rfl (p_pickT rfl rfl) ?_
      refine DR.p rfl rfl (p_move rfl) ?_
      refine DR.gn rfl rfl rfl rfl ?_
      refine DR.gn rfl rfl rfl rfl ?_
      refine DR.gn rfl rfl rfl rfl ?_
      refine DR.gn rfl rfl rfl rfl ?_
      refine DR.gn rfl rfl rfl rfl ?_
      refine DR.gn rfl rfl rfl rfl ?_
      refine DR.gn rfl rfl rfl rfl ?_
      refine DR.p rfl rfl (p_pickT rfl rfl) ?_
      refine DR.p rfl rfl (p_move rfl) ?_
      refine DR.gn rfl rfl rfl rfl ?_
      refine DR.gn rfl rfl rfl rfl ?_
      refine DR.gn rfl rfl rfl rfl ?_
      refine DR.gn rfl rfl rfl rfl ?_
      refine DR.gn rfl rfl rfl rfl ?_
      refine DR.gn rfl rfl rfl rfl ?_
      refine DR.gn rfl rfl rfl rfl ?_
      refine DR.p rfl rfl (p_pickT rfl rfl) ?_
      refine DR.p rfl rfl (p_assign rfl) ?_
      refine DR.nil 31 [] hst (by kernel_rfl) trivial ?_
      exact ⟨true, (some_inj hd134), S0, Sub.cons' rfl rfl (Sub.nil _)⟩
    · have hd135 := bif_f c133 hb131
      refine DR.gp rfl rfl rfl rfl (p_move rfl) ?_
      obtain ⟨k136, hd137⟩ := chk_some hd135
      refine DR.gp rfl rfl rfl rfl (s_indexV (q := off p_a0 + 0) Try.underlying69 Try.sizeOf2 rfl ((S0.view v_a0).p (ints_get (lt_len rfl (inR_lt k136)))) rfl k136 (o1 _ _)) ?_
      refine DR.gr rfl rfl rfl rfl (r_load rfl Try.isAgg2) (one_read ((S0.view v_a0).get _ _ (ints_get (lt_len rfl (inR_lt k136)))) (.of_flat0 rfl)) ?_
      refine DR.gr rfl rfl rfl rfl (r_load rfl Try.isAgg2) (one_read (row_cell (S0.old o_b0 (by simp)) rfl) (.of_flat0 rfl)) ?_
      obtain ⟨k138, hd139⟩ := chk_some hd137
      refine DR.gp rfl rfl rfl rfl (p_subE rfl rfl k138) ?_
      obtain ⟨b140, h141, hd142⟩ := bnd_some hd139
      refine DR.gw rfl rfl rfl rfl (o_call (vs := [.int .i64 (rd a0 0), .int .i64 0, .int .i64 (b0_0 - 1)]) rfl Try.call66 (W_impl_between fu H (rd a0 0) 0 (b0_0 - 1) b140 h141)) (Nat.le_refl _) ?_
      refine DR.gp rfl rfl rfl rfl (p_not rfl) ?_
      refine DR.p rfl rfl (p_pickF rfl rfl) ?_
      refine DR.pb rfl rfl (p_move rfl) (fun c144 => ?_) (fun c144 => ?_)
      · have hd145 := bif_t c144 hd142
        refine DR.gn rfl rfl rfl rfl ?_
        refine DR.gn rfl rfl rfl rfl ?_
        refine DR.gn rfl rfl rfl rfl ?_
        refine DR.gn rfl rfl rfl rfl ?_
        refine DR.gn rfl rfl rfl rfl ?_
        refine DR.gn rfl rfl rfl rfl ?_
        refine DR.gn rfl rfl rfl rfl ?_
        refine DR.p rfl rfl (p_pickT rfl rfl) ?_
        refine DR.p rfl rfl (p_move rfl) ?_
        refine DR.gn rfl rfl rfl rfl ?_
        refine DR.gn rfl rfl rfl rfl ?_
        refine DR.gn rfl rfl rfl rfl ?_
        refine DR.gn rfl rfl rfl rfl ?_
        refine DR.gn rfl rfl rfl rfl ?_
        refine DR.gn rfl rfl rfl rfl ?_
        refine DR.gn rfl rfl rfl rfl ?_
        refine DR.p rfl rfl (p_pickT rfl rfl) ?_
        refine DR.p rfl rfl (p_assign rfl) ?_
        refine DR.nil 31 [] hst (by kernel_rfl) trivial ?_
        exact ⟨true, (some_inj hd145), S0, Sub.cons' rfl rfl (Sub.nil _)⟩
      · have hd146 := bif_f c144 hd142
        refine DR.gp rfl rfl rfl rfl (p_move rfl) ?_
        obtain ⟨k147, hd148⟩ := chk_some hd146
        refine DR.gp rfl rfl rfl rfl (s_indexV (q := off p_a0 + 1) Try.underlying69 Try.sizeOf2 rfl ((S0.view v_a0).p (ints_get (lt_len rfl (inR_lt k147)))) rfl k147 (o1 _ _)) ?_
        refine DR.gr rfl rfl rfl rfl (r_load rfl Try.isAgg2) (one_read ((S0.view v_a0).get _ _ (ints_get (lt_len rfl (inR_lt k147)))) (.of_flat0 rfl)) ?_
        refine DR.gr rfl rfl rfl rfl (r_load rfl Try.isAgg2) (one_read (row_cell (S0.old o_b0 (by simp)) rfl) (.of_flat0 rfl)) ?_
        obtain ⟨k149, hd150⟩ := chk_some hd148
        refine DR.gp rfl rfl rfl rfl (p_subE rfl rfl k149) ?_
        obtain ⟨b151, h152, hd153⟩ := bnd_some hd150
        refine DR.gw rfl rfl rfl rfl (o_call (vs := [.int .i64 (rd a0 1), .int .i64 0, .int .i64 (b0_0 - 1)]) rfl Try.call66 (W_impl_between fu H (rd a0 1) 0 (b0_0 - 1) b151 h152)) (Nat.le_refl _) ?_
        refine DR.gp rfl rfl rfl rfl (p_not rfl) ?_
        refine DR.p rfl rfl (p_pickF rfl rfl) ?_
        refine DR.pb rfl rfl (p_move rfl) (fun c155 => ?_) (fun c155 => ?_)
        · have hd156 := bif_t c155 hd153
          refine DR.gn rfl rfl rfl rfl ?_
          refine DR.gn rfl rfl rfl rfl ?_
          refine DR.gn rfl rfl rfl rfl ?_
          refine DR.gn rfl rfl rfl rfl ?_
          refine DR.gn rfl rfl rfl rfl ?_
          refine DR.gn rfl rfl rfl rfl ?_
          refine DR.gn rfl rfl rfl rfl ?_
          refine DR.p rfl rfl (p_pickT rfl rfl) ?_
          refine DR.p rfl rfl (p_assign rfl) ?_
          refine DR.nil 31 [] hst (by kernel_rfl) trivial ?_
          exact ⟨true, (some_inj hd156), S0, Sub.cons' rfl rfl (Sub.nil _)⟩
        · have hd157 := bif_f c155 hd153
          refine DR.gp rfl rfl rfl rfl (p_move rfl) ?_
          obtain ⟨k158, hd159⟩ := chk_some hd157
          refine DR.gp rfl rfl rfl rfl (s_indexV (q := off p_a0 + 0) Try.underlying69 Try.sizeOf2 rfl ((S0.view v_a0).p (ints_get (lt_len rfl (inR_lt k158)))) rfl k158 (o1 _ _)) ?_
          refine DR.gr rfl rfl rfl rfl (r_load rfl Try.isAgg2) (one_read ((S0.view v_a0).get _ _ (ints_get (lt_len rfl (inR_lt k158)))) (.of_flat0 rfl)) ?_
          refine DR.gp rfl rfl rfl rfl (p_move rfl) ?_
          obtain ⟨k160, hd161⟩ := chk_some hd159
          refine DR.gp rfl rfl rfl rfl (s_indexV (q := off p_a0 + 1) Try.underlying69 Try.sizeOf2 rfl ((S0.view v_a0).p (ints_get (lt_len rfl (inR_lt k160)))) rfl k160 (o1 _ _)) ?_
          refine DR.gr rfl rfl rfl rfl (r_load rfl Try.isAgg2) (one_read ((S0.view v_a0).get _ _ (ints_get (lt_len rfl (inR_lt k160)))) (.of_flat0 rfl)) ?_
          refine DR.gp rfl rfl rfl rfl (p_eql rfl rfl) ?_
          refine DR.p rfl rfl (p_pickF rfl rfl) ?_
          refine DR.p rfl rfl (p_assign rfl) ?_
          refine DR.nil 31 [] hst (by kernel_rfl) trivial ?_
          exact ⟨(decide (rd a0 0 = rd a0 1)), (some_inj hd161), S0, Sub.cons' rfl rfl (Sub.nil _)⟩
  · rintro t' G163 ⟨b129, rfl, S162, hsub164⟩
    refine AX.sub hsub164 ?_
    refine AX.ret ?_
    obtain rfl := some_inj hd132
    exact ⟨.inr rfl, _, res1 rfl (rv_tmp rfl), rfl, (flatB_ok rfl), S162.hold⟩

set_option maxHeartbeats 4000000 in
theorem W_impl_RoundOf (fu : Nat) (H : AHeap) (a0 : Int) (p_a1 : Option Addr) (c_a1 : Nat) (T_a1 : Tb) (a1 : List (List Int)) (t_a1 : trows T_a1 = a1) (v_a1 : Vw H p_a1 a1.length c_a1 (tcells T_a1)) (w_a1 : TVw H T_a1) (r0 : List Int) (r1 : Int) (hd : D_impl_RoundOf fu a0 a1 = some (r0, r1)) : ACall Try.prog 34 [.int .i64 a0, .slice p_a1 a1.length c_a1] H (.tuple #[.agg (ints r0).toArray, .int .i64 r1]) H ∧ r0.length = 14 := by
  refine ACall.bodyPF (N := 61) [(0, .int .i64 a0), (1, .slice p_a1 a1.length c_a1)] Try.func34 rfl rfl rfl rfl ?_
  unfold D_impl_RoundOf at hd
  have S0 : St [] H H [] := St.nil H
  refine AX.seq ?_
  refine AX.region ?_
  obtain ⟨G100, i101, hii101, hHG100, S102⟩ := S0.new (AObj.row false ([.int .i64 a0]))
  refine AO.c rfl (s_box (i := i101) (cs := [.int .i64 a0]) rfl hii101 rfl hHG100) ?_
  obtain ⟨G104, i105, hii105, hHG104, S106⟩ := S102.new (AObj.row false (ints (List.replicate 14 0)))
  refine AO.c rfl (s_alloc (i := i105) (cs := ints (List.replicate 14 0)) Try.zeroValue26 rfl rfl hii105 hHG104) ?_
  refine AO.p rfl (p_assign rfl) ?_
  refine AO.nil ?_
  refine AX.seq ?_
  obtain ⟨r125, hb126, hd127⟩ := bnd_some hd
  refine AX.cut (fun t' H' => ∃ (b124 : Bool), b124 = r125 ∧ St [] H H' [[(i101, AObj.row false ([.int .i64 a0]))], [(i105, AObj.row false (ints (List.replicate 14 0)))]] ∧ Am.Sub [(1, .slice p_a1 a1.length c_a1), (2, .pointer (some ⟨i101, 0, none⟩)), (4, .pointer (some ⟨i105, 0, none⟩)), (21, .bool b124)] t') ?_ ?_
  · skip
    refine AX.region ?_
    refine AO.c rfl (s_load Try.isAgg2 rfl (row_cell (S106.get (k := 1) rfl) rfl)) ?_
    obtain ⟨b128, h129, hd130⟩ := bnd_some hb126
    refine AO.c rfl (o_call (vs := [.int .i64 a0, .int .i64 2, .int .i64 14]) rfl Try.call66 (W_impl_between fu G104 a0 2 14 b128 h129)) ?_
    refine AO.p rfl (p_not rfl) ?_
    refine AO.p rfl (p_move rfl) ?_
    refine AO.cases (d := 12) rfl (fun c132 => ?_) (fun c132 => ?_)
    · have hd133 := bif_t c132 hd130
      refine AO.gn rfl rfl rfl ?_
      refine AO.gn rfl rfl rfl ?_
      refine AO.gn rfl rfl rfl ?_
      refine AO.p rfl (p_pickT rfl rfl) ?_
      refine AO.p rfl (p_move rfl) ?_
      refine AO.gn rfl rfl rfl ?_
      refine AO.gn rfl rfl rfl ?_
      refine AO.gn rfl rfl rfl ?_
      refine AO.p rfl (p_pickT rfl rfl) ?_
      refine AO.nil ?_
      have S134 := S106.front 0 rfl
      have S135 := S134.front 1 rfl
      exact ⟨true, (some_inj hd133), S135, Sub.cons' rfl rfl (Sub.cons' rfl rfl (Sub.cons' rfl rfl (Sub.cons' rfl rfl (Sub.nil _))))⟩
    · have hd136 := bif_f c132 hd130
      refine AO.gp rfl rfl rfl (p_move rfl) ?_
      refine AO.gp rfl rfl rfl (p_len_slice rfl Try.underlying23) ?_
      refine AO.gp rfl rfl rfl (p_gtr rfl rfl) ?_
      refine AO.p rfl (p_pickF rfl rfl) ?_
      refine AO.p rfl (p_move rfl) ?_
      refine AO.cases (d := 17) rfl (fun c137 => ?_) (fun c137 => ?_)
      · have hd138 := bif_t c137 hd136
        refine AO.gn rfl rfl rfl ?_
        refine AO.gn rfl rfl rfl ?_
        refine AO.gn rfl rfl rfl ?_
        refine AO.p rfl (p_pickT rfl rfl) ?_
        refine AO.nil ?_
        have S139 := S106.front 0 rfl
        have S140 := S139.front 1 rfl
        exact ⟨true, (some_inj hd138), S140, Sub.cons' rfl rfl (Sub.cons' rfl rfl (Sub.cons' rfl rfl (Sub.cons' rfl rfl (Sub.nil _))))⟩
      · have hd141 := bif_f c137 hd136
        refine AO.gp rfl rfl rfl (p_move rfl) ?_
        refine AO.gp rfl rfl rfl (p_makeFunc (fs := []) (cs := [.pointer (some ⟨i101, 0, none⟩)]) rfl rfl) ?_
        obtain ⟨b142, h143, hd144⟩ := bnd_some hd141
        refine AO.gc rfl rfl rfl (o_call (vs := [.slice p_a1 a1.length c_a1, .func (.func 82) #[] #[.pointer (some ⟨i101, 0, none⟩)]]) rfl Try.call73 (W_slices_ContainsFunc_SSint64_Sint64 fu G104 p_a1 c_a1 T_a1 a1 t_a1 (S106.view v_a1) (S106.tview w_a1) 82 #[] #[.pointer (some ⟨i101, 0, none⟩)] (fun x0' => D_impl_RoundOf_1 fu x0' a0) Try.call82 (fun G' hG px0' cx0' x0' vx0' b' hb' => W_impl_RoundOf_1 fu G' px0' cx0' x0' vx0' i101 false a0 (hG.get (S106.get (k := 1) rfl)) b' hb') b142 h143)) ?_
        refine AO.p rfl (p_pickF rfl rfl) ?_
        refine AO.nil ?_
        have S146 := S106.front 0 rfl
        have S147 := S146.front 1 rfl
        exact ⟨b142, (some_inj hd144), S147, Sub.cons' rfl rfl (Sub.cons' rfl rfl (Sub.cons' rfl rfl (Sub.cons' rfl rfl (Sub.nil _))))⟩
  · rintro t' G149 ⟨b124, rfl, S148, hsub150⟩
    refine AX.sub hsub150 ?_
    refine AX.cond rfl (fun c151 => ?_) (fun c151 => ?_)
    · have hd152 := bif_t c151 hd127
      refine AX.seq ?_
      refine AX.region ?_
      refine AO.p rfl (p_buildZ (z := ints (List.replicate 14 0)) Try.underlying26 Try.sizeOf2 Try.zeroValue26 rfl) ?_
      obtain ⟨G153, hHG153, S154⟩ := S148.set (k := 1) (i := i105) rfl (AObj.row false (ints (List.replicate 14 0)))
      refine AO.s (s_storeAll (vs := ints (List.replicate 14 0)) Try.sizeOf26 rfl rfl ints_one (S148.get (k := 1) rfl) (ints_len len_rep) (ints_len len_rep) hHG153) ?_
      refine AO.p rfl (p_assign rfl) ?_
      refine AO.nil ?_
      refine AX.ret ?_
      obtain ⟨rfl, rfl⟩ := Prod.mk.inj (some_inj hd152)
      exact ⟨.inr rfl, _, res2 rfl (rv_cell (vs := ints (List.replicate 14 0)) rfl Try.isAgg26 Try.sizeOf26 (ints_len len_rep) (row_cells (S154.get (k := 1) rfl))) (rv_tmp rfl), rfl, (flat_t2 (flat_arr _) (flatB_ok rfl)), S154.hold, len_rep⟩
    · have hd156 := bif_f c151 hd127
      refine AX.skip ?_
      refine AX.seq ?_
      refine AX.region ?_
      refine AO.c rfl (s_load Try.isAgg2 rfl (row_cell (S148.get (k := 0) rfl) rfl)) ?_
      obtain ⟨xs157, h158, hd159⟩ := bnd_some hd156
      obtain ⟨hc161, l162⟩ := W_impl_free fu G149 a0 xs157 h158
      refine AO.c rfl (o_call (vs := [.int .i64 a0]) rfl Try.call83 hc161) ?_
      obtain ⟨G163, i164, hii164, hHG163, S165⟩ := S148.new (AObj.row false (ints (List.replicate 14 0)))
      refine AO.c rfl (s_alloc (i := i164) (cs := ints (List.replicate 14 0)) Try.zeroValue26 rfl rfl hii164 hHG163) ?_
      obtain ⟨G167, hHG167, S168⟩ := S165.set (k := 0) (i := i164) rfl (AObj.row false (ints xs157))
      refine AO.s (s_storeAll (vs := ints xs157) Try.sizeOf26 rfl rfl ints_one (S165.get (k := 0) rfl) (ints_len l162) (ints_len len_rep) hHG167) ?_
      refine AO.nil ?_
      refine AX.seq ?_
      refine AX.seq ?_
      refine AX.region ?_
      refine AO.p rfl (p_move rfl) ?_
      refine AO.p rfl (p_len_slice rfl Try.underlying23) ?_
      refine AO.p rfl (p_move rfl) ?_
      refine AO.nil ?_
      obtain ⟨r410, hl411, hd412⟩ := bnd_some hd159
      refine AX.cutQ (fun t' H' => ∃ (xs409 : List Int), .inl xs409 = r410 ∧ St [] H H' [[(i105, AObj.row false (ints (List.replicate 14 0)))], [(i164, AObj.row false (ints xs409))]] ∧ xs409.length = 14 ∧ Am.Sub [(4, .pointer (some ⟨i105, 0, none⟩)), (6, .pointer (some ⟨i164, 0, none⟩))] t') ?_ ?_
      · refine AX.block ?_
        refine AX.loopF (fun s' t' H' => ∃ (xs329 : List Int) (x330 : Int), (xs329, x330) = s' ∧ St [] H H' [[(i105, AObj.row false (ints (List.replicate 14 0)))], [(i164, AObj.row false (ints xs329))]] ∧ xs329.length = 14 ∧ Am.Sub [(4, .pointer (some ⟨i105, 0, none⟩)), (6, .pointer (some ⟨i164, 0, none⟩)), (25, .slice p_a1 a1.length c_a1), (26, .int .i64 ((a1.length : Nat) : Int)), (27, .int .i64 x330)] t') hl411 ?_ ?_
        · skip
          have S413 := S168.front 0 rfl
          have S414 := S413.front 2 rfl
          have S415 := S414.keep 2
          exact ⟨xs157, 0, rfl, S415, l162, Sub.cons' rfl rfl (Sub.cons' rfl rfl (Sub.cons' rfl rfl (Sub.cons' rfl rfl (Sub.cons' rfl rfl (Sub.nil _)))))⟩
        · rintro n416 _ t' G420 ⟨xs329, x330, rfl, S419, lxs329, hsub421⟩ o422 ho417 hk418
          refine AX.sub hsub421 ?_
          unfold D_impl_RoundOf_s0 at ho417
          refine AX.seq ?_
          refine AX.region ?_
          refine AO.p rfl (p_lss rfl rfl) ?_
          refine AO.nil ?_
          refine AX.seq ?_
          refine AX.cond rfl (fun c423 => ?_) (fun c423 => ?_)
          · have hd424 := bif_t c423 ho417
            refine AX.skip ?_
            refine AX.seq ?_
            refine AX.block ?_
            refine AX.seq ?_
            refine AX.region ?_
            obtain ⟨k425, hd426⟩ := chk_some hd424
            obtain ⟨p427, c428, e429, f430⟩ := tget t_a1 (lt_len rfl (inR_lt k425))
            refine AO.p rfl (s_indexV (q := off p_a1 + x330.toNat) Try.underlying23 Try.sizeOf69 rfl ((S419.view v_a1).p f430) rfl k425 (o1 _ _)) ?_
            refine AO.c rfl (s_load Try.isAgg69 rfl ((S419.view v_a1).get _ _ f430)) ?_
            refine AO.p rfl (p_assign rfl) ?_
            refine AO.nil ?_
            refine AX.seq ?_
            obtain ⟨r449, hb450, hd451⟩ := bnd_some hd426
            refine AX.cut (fun t' H' => ∃ (b448 : Bool), b448 = r449 ∧ St [] H H' [[(i105, AObj.row false (ints (List.replicate 14 0)))], [(i164, AObj.row false (ints xs329))]] ∧ Am.Sub [(4, .pointer (some ⟨i105, 0, none⟩)), (6, .pointer (some ⟨i164, 0, none⟩)), (8, .slice p427 ((rw_ a1 x330.toNat).length) c428), (25, .slice p_a1 a1.length c_a1), (26, .int .i64 ((a1.length : Nat) : Int)), (27, .int .i64 x330), (50, .bool b448)] t') ?_ ?_
            · skip
              refine DR.startS [false, false, false, false, false, false, false, false, false, false, false, false, false, false, false, false, false, false, false, false] mix (by kernel_rfl) (fun hst => ?_)
              refine DR.p rfl rfl (p_move rfl) ?_
              obtain ⟨k452, hd453⟩ := chk_some hb450
              refine DR.p rfl rfl (s_indexV (q := off p427 + 0) Try.underlying69 Try.sizeOf2 rfl ((TVw.at (S419.tview w_a1) e429).p (ints_get (lt_len rfl (inR_lt k452)))) rfl k452 (o1 _ _)) ?_
              refine DR.r rfl rfl (r_load rfl Try.isAgg2) (one_read ((TVw.at (S419.tview w_a1) e429).get _ _ (ints_get (lt_len rfl (inR_lt k452)))) (.of_flat0 rfl)) ?_
              obtain ⟨k454, hd455⟩ := chk_some hd453
              refine DR.p rfl rfl (s_indexAr (q := (rd (rw_ a1 x330.toNat) 0).toNat) Try.underlying26 Try.sizeOf2 rfl rfl k454 (z1 _)) ?_
              refine DR.r rfl rfl (r_load rfl Try.isAgg2) (one_read (row_cell (S419.get (k := 1) rfl) (ints_get (lt_len lxs329 (inR_lt k454)))) (.of_flat0 rfl)) ?_
              refine DR.p rfl rfl (p_move rfl) ?_
              obtain ⟨k456, hd457⟩ := chk_some hd455
              refine DR.p rfl rfl (s_indexV (q := off p427 + 0) Try.underlying69 Try.sizeOf2 rfl ((TVw.at (S419.tview w_a1) e429).p (ints_get (lt_len rfl (inR_lt k456)))) rfl k456 (o1 _ _)) ?_
              refine DR.r rfl rfl (r_load rfl Try.isAgg2) (one_read ((TVw.at (S419.tview w_a1) e429).get _ _ (ints_get (lt_len rfl (inR_lt k456)))) (.of_flat0 rfl)) ?_
              refine DR.p rfl rfl (p_neq rfl rfl) ?_
              refine DR.pb rfl rfl (p_move rfl) (fun c458 => ?_) (fun c458 => ?_)
              · have hd459 := bif_t c458 hd457
                refine DR.gn rfl rfl rfl rfl ?_
                refine DR.gn rfl rfl rfl rfl ?_
                refine DR.gn rfl rfl rfl rfl ?_
                refine DR.gn rfl rfl rfl rfl ?_
                refine DR.gn rfl rfl rfl rfl ?_
                refine DR.gn rfl rfl rfl rfl ?_
                refine DR.gn rfl rfl rfl rfl ?_
                refine DR.gn rfl rfl rfl rfl ?_
                refine DR.gn rfl rfl rfl rfl ?_
                refine DR.p rfl rfl (p_pickT rfl rfl) ?_
                refine DR.nil 20 [] hst (by kernel_rfl) trivial ?_
                have S460 := S419.front 1 rfl
                have S461 := S460.front 1 rfl
                exact ⟨true, (some_inj hd459), S461, Sub.cons' rfl rfl (Sub.cons' rfl rfl (Sub.cons' rfl rfl (Sub.cons' rfl rfl (Sub.cons' rfl rfl (Sub.cons' rfl rfl (Sub.cons' rfl rfl (Sub.nil _)))))))⟩
              · have hd462 := bif_f c458 hd457
                refine DR.gp rfl rfl rfl rfl (p_move rfl) ?_
                obtain ⟨k463, hd464⟩ := chk_some hd462
                refine DR.gp rfl rfl rfl rfl (s_indexV (q := off p427 + 1) Try.underlying69 Try.sizeOf2 rfl ((TVw.at (S419.tview w_a1) e429).p (ints_get (lt_len rfl (inR_lt k463)))) rfl k463 (o1 _ _)) ?_
                refine DR.gr rfl rfl rfl rfl (r_load rfl Try.isAgg2) (one_read ((TVw.at (S419.tview w_a1) e429).get _ _ (ints_get (lt_len rfl (inR_lt k463)))) (.of_flat0 rfl)) ?_
                obtain ⟨k465, hd466⟩ := chk_some hd464
                refine DR.gp rfl rfl rfl rfl (s_indexAr (q := (rd (rw_ a1 x330.toNat) 1).toNat) Try.underlying26 Try.sizeOf2 rfl rfl k465 (z1 _)) ?_
                refine DR.gr rfl rfl rfl rfl (r_load rfl Try.isAgg2) (one_read (row_cell (S419.get (k := 1) rfl) (ints_get (lt_len lxs329 (inR_lt k465)))) (.of_flat0 rfl)) ?_
                refine DR.gp rfl rfl rfl rfl (p_move rfl) ?_
                obtain ⟨k467, hd468⟩ := chk_some hd466
                refine DR.gp rfl rfl rfl rfl (s_indexV (q := off p427 + 1) Try.underlying69 Try.sizeOf2 rfl ((TVw.at (S419.tview w_a1) e429).p (ints_get (lt_len rfl (inR_lt k467)))) rfl k467 (o1 _ _)) ?_
                refine DR.gr rfl rfl rfl rfl (r_load rfl Try.isAgg2) (one_read ((TVw.at (S419.tview w_a1) e429).get _ _ (ints_get (lt_len rfl (inR_lt k467)))) (.of_flat0 rfl)) ?_
                refine DR.gp rfl rfl rfl rfl (p_neq rfl rfl) ?_
                refine DR.p rfl rfl (p_pickF rfl rfl) ?_
                refine DR.nil 20 [] hst (by kernel_rfl) trivial ?_
                have S469 := S419.front 1 rfl
                have S470 := S469.front 1 rfl
                exact ⟨(!decide (rd xs329 ((rd (rw_ a1 x330.toNat) 1).toNat) = rd (rw_ a1 x330.toNat) 1)), (some_inj hd468), S470, Sub.cons' rfl rfl (Sub.cons' rfl rfl (Sub.cons' rfl rfl (Sub.cons' rfl rfl (Sub.cons' rfl rfl (Sub.cons' rfl rfl (Sub.cons' rfl rfl (Sub.nil _)))))))⟩
            · rintro t' G472 ⟨b448, rfl, S471, hsub473⟩
              refine AX.sub hsub473 ?_
              refine AX.cond rfl (fun c474 => ?_) (fun c474 => ?_)
              · have hd475 := bif_t c474 hd451
                refine AX.seq ?_
                refine AX.region ?_
                refine AO.p rfl (p_buildZ (z := ints (List.replicate 14 0)) Try.underlying26 Try.sizeOf2 Try.zeroValue26 rfl) ?_
                obtain ⟨G476, hHG476, S477⟩ := S471.set (k := 0) (i := i105) rfl (AObj.row false (ints (List.replicate 14 0)))
                refine AO.s (s_storeAll (vs := ints (List.replicate 14 0)) Try.sizeOf26 rfl rfl ints_one (S471.get (k := 0) rfl) (ints_len len_rep) (ints_len len_rep) hHG476) ?_
                refine AO.p rfl (p_assign rfl) ?_
                refine AO.nil ?_
                refine AX.ret ?_
                obtain rfl := some_inj hd475
                have z478 : _ = r410 := hk418
                subst z478
                obtain ⟨rfl, rfl⟩ := Prod.mk.inj (some_inj hd412)
                exact ⟨.inr rfl, _, res2 rfl (rv_cell (vs := ints (List.replicate 14 0)) rfl Try.isAgg26 Try.sizeOf26 (ints_len len_rep) (row_cells (S477.get (k := 0) rfl))) (rv_tmp rfl), rfl, (flat_t2 (flat_arr _) (flatB_ok rfl)), S477.hold, len_rep⟩
              · have hd480 := bif_f c474 hd451
                refine AX.skip ?_
                refine DR.startS [false, false, false, false, false, false, true] mix (by kernel_rfl) (fun hst => ?_)
                refine DR.p rfl rfl (p_move rfl) ?_
                obtain ⟨k481, hd482⟩ := chk_some hd480
                refine DR.p rfl rfl (s_indexV (q := off p427 + 0) Try.underlying69 Try.sizeOf2 rfl ((TVw.at (S471.tview w_a1) e429).p (ints_get (lt_len rfl (inR_lt k481)))) rfl k481 (o1 _ _)) ?_
                refine DR.r rfl rfl (r_load rfl Try.isAgg2) (one_read ((TVw.at (S471.tview w_a1) e429).get _ _ (ints_get (lt_len rfl (inR_lt k481)))) (.of_flat0 rfl)) ?_
                refine DR.p rfl rfl (p_move rfl) ?_
                obtain ⟨k483, hd484⟩ := chk_some hd482
                refine DR.p rfl rfl (s_indexV (q := off p427 + 1) Try.underlying69 Try.sizeOf2 rfl ((TVw.at (S471.tview w_a1) e429).p (ints_get (lt_len rfl (inR_lt k483)))) rfl k483 (o1 _ _)) ?_
                refine DR.r rfl rfl (r_load rfl Try.isAgg2) (one_read ((TVw.at (S471.tview w_a1) e429).get _ _ (ints_get (lt_len rfl (inR_lt k483)))) (.of_flat0 rfl)) ?_
                have S485 := S471.front 1 rfl
                obtain ⟨xs486, h487, hd488⟩ := bnd_some hd484
                obtain ⟨_, G491, hc490, rfl, S492, l489⟩ := W_impl_Round_meet fu G472 i164 xs329 lxs329 (S471.get (k := 1) rfl) (rd (rw_ a1 x330.toNat) 0) (rd (rw_ a1 x330.toNat) 1) xs486 h487
                have S493 := St.callM (A := [[(i164, AObj.row false (ints xs329))]]) S485 S492 (by simp)
                refine DR.w rfl rfl (o_call (vs := [.pointer (some ⟨i164, 0, none⟩), .int .i64 (rd (rw_ a1 x330.toNat) 0), .int .i64 (rd (rw_ a1 x330.toNat) 1)]) rfl Try.call84 hc490) (S492.len) ?_
                refine DR.nil 7 [] hst (by kernel_rfl) trivial ?_
                refine AX.region ?_
                obtain ⟨k494, hd495⟩ := chk_some hd488
                refine AO.p rfl (p_addE rfl rfl k494) ?_
                refine AO.p rfl (p_move rfl) ?_
                refine AO.nil ?_
                obtain rfl := some_inj hd495
                have S497 := S493.front 0 rfl
                have S498 := S497.front 1 rfl
                exact ⟨(xs486, x330 + 1), hk418, xs486, (x330 + 1), rfl, S498, l489, Sub.cons' rfl rfl (Sub.cons' rfl rfl (Sub.cons' rfl rfl (Sub.cons' rfl rfl (Sub.cons' rfl rfl (Sub.nil _)))))⟩
          · have hd499 := bif_f c423 ho417
            refine AX.exit ?_
            obtain rfl := some_inj hd499
            have S500 := S419.front 1 rfl
            have S501 := S500.front 1 rfl
            exact ⟨xs329, hk418, S501, lxs329, Sub.cons' rfl rfl (Sub.cons' rfl rfl (Sub.nil _))⟩
      · rintro t' G503 ⟨xs409, rfl, S502, lxs409, hsub504⟩
        refine AX.sub hsub504 ?_
        refine AX.seq ?_
        refine AX.region ?_
        refine AO.c rfl (s_loadN (vs := ints xs409) Try.isAgg26 Try.sizeOf26 rfl (ints_len lxs409) (row_cells (S502.get (k := 1) rfl))) ?_
        obtain ⟨G505, hHG505, S506⟩ := S502.set (k := 0) (i := i105) rfl (AObj.row false (ints xs409))
        refine AO.s (s_storeAll (vs := ints xs409) Try.sizeOf26 rfl rfl ints_one (S502.get (k := 0) rfl) (ints_len lxs409) (ints_len len_rep) hHG505) ?_
        refine AO.p rfl (p_assign rfl) ?_
        refine AO.nil ?_
        refine AX.ret ?_
        obtain ⟨rfl, rfl⟩ := Prod.mk.inj (some_inj hd412)
        exact ⟨.inr rfl, _, res2 rfl (rv_cell (vs := ints xs409) rfl Try.isAgg26 Try.sizeOf26 (ints_len lxs409) (row_cells (S506.get (k := 0) rfl))) (rv_tmp rfl), rfl, (flat_t2 (flat_arr _) (flatB_ok rfl)), S506.hold, lxs409⟩

set_option maxHeartbeats 4000000 in
theorem W_spec_l01Circle (fu : Nat) (H : AHeap) (a0 : Int) (r0 : Int) (r1 : List (List Int)) (hd : D_spec_l01Circle fu a0 = some (r0, r1)) : ∃ v G', ACall Try.prog 65 [.int .i64 a0] H v G' ∧ ∃ (p_r1 : Option Addr) (c_r1 : Nat), (v = .agg [.int .i64 r0, .slice p_r1 r1.length c_r1].toArray) ∧ St [] H G' [oseg p_r1 (ints r1.flatten)] ∧ Sb p_r1 r1.length c_r1 14 ∧ All 14 r1 := by
  refine ACall.bodyX (args := [.int .i64 a0]) (N := 56) [(0, .int .i64 a0)] (fun v G' => ∃ (p_r1 : Option Addr) (c_r1 : Nat), (v = .agg [.int .i64 r0, .slice p_r1 r1.length c_r1].toArray) ∧ St [] H G' [oseg p_r1 (ints r1.flatten)] ∧ Sb p_r1 r1.length c_r1 14 ∧ All 14 r1) Try.func65 rfl rfl rfl rfl ?_
  unfold D_spec_l01Circle at hd
  have S0 : St [] H H [] := St.nil H
  refine AX.seq ?_
  refine AX.region ?_
  obtain ⟨G100, i101, hii101, hHG100, S102⟩ := S0.new (AObj.row false ([.int .i64 0, .slice none 0 0]))
  refine AO.c rfl (s_alloc (i := i101) (cs := [.int .i64 0, .slice none 0 0]) Try.zeroValue33 rfl rfl hii101 hHG100) ?_
  refine AO.nil ?_
  refine AX.seq ?_
  refine AX.region ?_
  refine AO.p rfl (p_move rfl) ?_
  obtain ⟨k104, hd105⟩ := chk_some hd
  refine AO.p rfl (p_subE rfl rfl k104) ?_
  refine AO.p rfl (p_move rfl) ?_
  refine AO.p rfl (p_remE rfl rfl (by decide)) ?_
  obtain ⟨k106, hd107⟩ := chk_some hd105
  refine AO.p rfl (p_addE rfl rfl k106) ?_
  refine AO.p rfl (p_move rfl) ?_
  obtain ⟨G108, i109, hii109, hHG108, S110⟩ := S102.new (AObj.row false (ints [].flatten))
  refine AO.c rfl (s_build0 (i := i109) Try.underlying31 Try.sizeOf26 hii109 hHG108) ?_
  refine AO.p rfl (p_build2 (vs := [(0, .int .i64 a0), (1, .slice (some (Addr.mk i109 0 none)) 0 0)]) (cs := [.int .i64 a0, .slice (some (Addr.mk i109 0 none)) 0 0]) Try.underlying33 rfl rfl rfl Try.sizeOf2 Try.sizeOf31 Try.zeroValue33 rfl rfl rfl rfl rfl) ?_
  obtain ⟨G112, i113, hii113, hHG112, S114⟩ := S110.new (AObj.row false ([.int .i64 0, .slice none 0 0]))
  refine AO.c rfl (s_alloc (i := i113) (cs := [.int .i64 0, .slice none 0 0]) Try.zeroValue33 rfl rfl hii113 hHG112) ?_
  refine AO.p rfl (p_assign rfl) ?_
  obtain ⟨G116, hHG116, S117⟩ := S114.set (k := 0) (i := i113) rfl (AObj.row false ([.int .i64 a0, .slice (some (Addr.mk i109 0 none)) 0 0]))
  refine AO.s (s_storeAll (vs := [.int .i64 a0, .slice (some (Addr.mk i109 0 none)) 0 0]) Try.sizeOf33 rfl rfl (ones_list rfl) (S114.get (k := 0) rfl) rfl rfl hHG116) ?_
  refine AO.nil ?_
  refine AX.seq ?_
  refine AX.seq ?_
  refine AX.region ?_
  refine AO.p rfl (p_assign rfl) ?_
  refine AO.nil ?_
  obtain ⟨r752, hl753, hd754⟩ := bnd_some hd107
  refine AX.cutQ (fun t' H' => ∃ (rs751 : List (List Int)) (p749 : Option Addr) (c750 : Nat), rs751 = r752 ∧ St [] H H' [[(i101, AObj.row false ([.int .i64 0, .slice none 0 0]))], [(i113, AObj.row false ([.int .i64 a0, .slice p749 rs751.length c750]))], oseg p749 (ints rs751.flatten)] ∧ All 14 rs751 ∧ Sb p749 (rs751.length) c750 14 ∧ Am.Sub [(2, .pointer (some ⟨i101, 0, none⟩)), (4, .pointer (some ⟨i113, 0, none⟩))] t') ?_ ?_
  · refine AX.block ?_
    refine AX.loopF (fun s' t' H' => ∃ (rs539 : List (List Int)) (x540 : Int) (p537 : Option Addr) (c538 : Nat), (rs539, x540) = s' ∧ St [] H H' [[(i101, AObj.row false ([.int .i64 0, .slice none 0 0]))], [(i113, AObj.row false ([.int .i64 a0, .slice p537 rs539.length c538]))], oseg p537 (ints rs539.flatten)] ∧ All 14 rs539 ∧ Sb p537 (rs539.length) c538 14 ∧ Am.Sub [(0, .int .i64 a0), (2, .pointer (some ⟨i101, 0, none⟩)), (3, .int .i64 (a0 - 1 + (a0.tmod 2))), (4, .pointer (some ⟨i113, 0, none⟩)), (5, .int .i64 x540)] t') hl753 ?_ ?_
    · skip
      have S755 := S117.front 1 rfl
      have S756 := S755.front 1 rfl
      have S757 := S756.front 2 rfl
      exact ⟨[], 0, (some (Addr.mk i109 0 none)), 0, rfl, S757, all_nil, (Sb.lit (n := 0) (by decide)), Sub.cons' rfl rfl (Sub.cons' rfl rfl (Sub.cons' rfl rfl (Sub.cons' rfl rfl (Sub.cons' rfl rfl (Sub.nil _)))))⟩
    · rintro n758 _ t' G762 ⟨rs539, x540, p537, c538, rfl, S761, ars539, Bo536, hsub763⟩ o764 ho759 hk760
      refine AX.sub hsub763 ?_
      unfold D_spec_l01Circle_s0 at ho759
      refine AX.seq ?_
      refine AX.seq ?_
      refine AX.region ?_
      refine AO.p rfl (p_move rfl) ?_
      refine AO.p rfl (p_move rfl) ?_
      refine AO.p rfl (p_lss rfl rfl) ?_
      refine AO.nil ?_
      refine AX.cond rfl (fun c765 => ?_) (fun c765 => ?_)
      · have hd766 := bif_t c765 ho759
        refine AX.skip ?_
        refine AX.seq ?_
        refine AX.block ?_
        refine AX.seq ?_
        refine AX.region ?_
        refine AO.p rfl (p_move rfl) ?_
        obtain ⟨xs767, h768, hd769⟩ := bnd_some hd766
        obtain ⟨hc771, l772⟩ := W_spec_l01Free fu G762 a0 xs767 h768
        refine AO.c rfl (o_call (vs := [.int .i64 a0]) rfl Try.call114 hc771) ?_
        obtain ⟨G773, i774, hii774, hHG773, S775⟩ := S761.new (AObj.row false (ints (List.replicate 14 0)))
        refine AO.c rfl (s_alloc (i := i774) (cs := ints (List.replicate 14 0)) Try.zeroValue26 rfl rfl hii774 hHG773) ?_
        obtain ⟨G777, hHG777, S778⟩ := S775.set (k := 0) (i := i774) rfl (AObj.row false (ints xs767))
        refine AO.s (s_storeAll (vs := ints xs767) Try.sizeOf26 rfl rfl ints_one (S775.get (k := 0) rfl) (ints_len l772) (ints_len len_rep) hHG777) ?_
        refine AO.nil ?_
        refine AX.seq ?_
        refine AX.seq ?_
        refine AX.region ?_
        refine AO.p rfl (p_assign rfl) ?_
        refine AO.nil ?_
        obtain ⟨r858, hl859, hd860⟩ := bnd_some hd769
        refine AX.cutQ (fun t' H' => ∃ (xs857 : List Int), xs857 = r858 ∧ St [] H H' [[(i101, AObj.row false ([.int .i64 0, .slice none 0 0]))], [(i113, AObj.row false ([.int .i64 a0, .slice p537 rs539.length c538]))], oseg p537 (ints rs539.flatten), [(i774, AObj.row false (ints xs857))]] ∧ xs857.length = 14 ∧ Am.Sub [(0, .int .i64 a0), (2, .pointer (some ⟨i101, 0, none⟩)), (3, .int .i64 (a0 - 1 + (a0.tmod 2))), (4, .pointer (some ⟨i113, 0, none⟩)), (5, .int .i64 x540), (6, .pointer (some ⟨i774, 0, none⟩))] t') ?_ ?_
        · refine AX.block ?_
          refine AX.loopF (fun s' t' H' => ∃ (xs831 : List Int) (x832 : Int), (xs831, x832) = s' ∧ St [] H H' [[(i101, AObj.row false ([.int .i64 0, .slice none 0 0]))], [(i113, AObj.row false ([.int .i64 a0, .slice p537 rs539.length c538]))], oseg p537 (ints rs539.flatten), [(i774, AObj.row false (ints xs831))]] ∧ xs831.length = 14 ∧ Am.Sub [(0, .int .i64 a0), (2, .pointer (some ⟨i101, 0, none⟩)), (3, .int .i64 (a0 - 1 + (a0.tmod 2))), (4, .pointer (some ⟨i113, 0, none⟩)), (5, .int .i64 x540), (6, .pointer (some ⟨i774, 0, none⟩)), (7, .int .i64 x832)] t') hl859 ?_ ?_
          · skip
            have S861 := S778.front 0 rfl
            have S862 := S861.front 3 rfl
            have S863 := S862.front 3 rfl
            have S864 := S863.front 3 rfl
            exact ⟨xs767, 0, rfl, S864, l772, Sub.cons' rfl rfl (Sub.cons' rfl rfl (Sub.cons' rfl rfl (Sub.cons' rfl rfl (Sub.cons' rfl rfl (Sub.cons' rfl rfl (Sub.cons' rfl rfl (Sub.nil _)))))))⟩
          · rintro n865 _ t' G869 ⟨xs831, x832, rfl, S868, lxs831, hsub870⟩ o871 ho866 hk867
            refine AX.sub hsub870 ?_
            unfold D_spec_l01Circle_s1 at ho866
            refine AX.seq ?_
            refine AX.seq ?_
            refine AX.region ?_
            refine AO.p rfl (p_move rfl) ?_
            refine AO.p rfl (p_move rfl) ?_
            refine AO.p rfl (p_lss rfl rfl) ?_
            refine AO.nil ?_
            refine AX.cond rfl (fun c872 => ?_) (fun c872 => ?_)
            · have hd873 := bif_t c872 ho866
              refine AX.skip ?_
              refine AX.seq ?_
              refine AX.block ?_
              refine AX.region ?_
              refine AO.p rfl (p_move rfl) ?_
              refine AO.p rfl (p_move rfl) ?_
              obtain ⟨k874, hd875⟩ := chk_some hd873
              refine AO.p rfl (p_mulE rfl rfl k874) ?_
              refine AO.p rfl (p_move rfl) ?_
              obtain ⟨k876, hd877⟩ := chk_some hd875
              refine AO.p rfl (p_addE rfl rfl k876) ?_
              refine AO.p rfl (p_move rfl) ?_
              obtain ⟨k878, hd879⟩ := chk_some hd877
              refine AO.p rfl (p_subE rfl rfl k878) ?_
              refine AO.p rfl (p_move rfl) ?_
              obtain ⟨k880, hd881⟩ := chk_some hd879
              refine AO.p rfl (p_remE rfl rfl k880) ?_
              obtain ⟨k882, hd883⟩ := chk_some hd881
              refine AO.p rfl (s_indexAr (q := x832.toNat) Try.underlying26 Try.sizeOf2 rfl rfl k882 (z1 _)) ?_
              obtain ⟨G884, hHG884, S885⟩ := S868.set (k := 3) (i := i774) rfl (AObj.row false (ints (xs831.set x832.toNat ((2 * x540 + (a0 - 1 + (a0.tmod 2)) - x832).tmod (a0 - 1 + (a0.tmod 2))))))
              refine AO.s (s_store Try.sizeOf2 rfl rfl rfl (S868.get (k := 3) rfl) (lt_len (ints_len lxs831) (inR_lt k882)) ((congrArg (fun l => List.set _ _ (AObj.row false l)) (ints_set _ _ _)).trans hHG884)) ?_
              refine AO.nil ?_
              refine AX.region ?_
              refine AO.p rfl (p_move rfl) ?_
              obtain ⟨k886, hd887⟩ := chk_some hd883
              refine AO.p rfl (p_addE rfl rfl k886) ?_
              refine AO.p rfl (p_assign rfl) ?_
              refine AO.nil ?_
              obtain rfl := some_inj hd887
              have S889 := S885.front 3 rfl
              have S890 := S889.front 3 rfl
              have S891 := S890.front 3 rfl
              have S892 := S891.front 3 rfl
              exact ⟨((xs831.set x832.toNat ((2 * x540 + (a0 - 1 + (a0.tmod 2)) - x832).tmod (a0 - 1 + (a0.tmod 2)))), x832 + 1), hk867, (xs831.set x832.toNat ((2 * x540 + (a0 - 1 + (a0.tmod 2)) - x832).tmod (a0 - 1 + (a0.tmod 2)))), (x832 + 1), rfl, S892, (len_set lxs831), Sub.cons' rfl rfl (Sub.cons' rfl rfl (Sub.cons' rfl rfl (Sub.cons' rfl rfl (Sub.cons' rfl rfl (Sub.cons' rfl rfl (Sub.cons' rfl rfl (Sub.nil _)))))))⟩
            · have hd893 := bif_f c872 ho866
              refine AX.exit ?_
              obtain rfl := some_inj hd893
              have S894 := S868.front 3 rfl
              have S895 := S894.front 3 rfl
              have S896 := S895.front 3 rfl
              have S897 := S896.front 3 rfl
              exact ⟨xs831, hk867, S897, lxs831, Sub.cons' rfl rfl (Sub.cons' rfl rfl (Sub.cons' rfl rfl (Sub.cons' rfl rfl (Sub.cons' rfl rfl (Sub.cons' rfl rfl (Sub.nil _))))))⟩
        · rintro t' G899 ⟨xs857, rfl, S898, lxs857, hsub900⟩
          refine AX.sub hsub900 ?_
          refine AX.seq ?_
          refine AX.seq ?_
          refine AX.region ?_
          refine AO.p rfl (p_move rfl) ?_
          refine AO.p rfl (p_remE rfl rfl (by decide)) ?_
          refine AO.p rfl (p_eql rfl rfl) ?_
          refine AO.nil ?_
          obtain ⟨r921, hb922, hd923⟩ := bnd_some hd860
          refine AX.cutQ (fun t' H' => ∃ (xs920 : List Int), xs920 = r921 ∧ St [] H H' [[(i101, AObj.row false ([.int .i64 0, .slice none 0 0]))], [(i113, AObj.row false ([.int .i64 a0, .slice p537 rs539.length c538]))], oseg p537 (ints rs539.flatten), [(i774, AObj.row false (ints xs920))]] ∧ xs920.length = 14 ∧ Am.Sub [(0, .int .i64 a0), (2, .pointer (some ⟨i101, 0, none⟩)), (3, .int .i64 (a0 - 1 + (a0.tmod 2))), (4, .pointer (some ⟨i113, 0, none⟩)), (5, .int .i64 x540), (6, .pointer (some ⟨i774, 0, none⟩))] t') ?_ ?_
          · skip
            refine AX.cond rfl (fun c924 => ?_) (fun c924 => ?_)
            · have hd925 := bif_t c924 hb922
              refine AX.seq ?_
              refine AX.region ?_
              refine AO.p rfl (p_move rfl) ?_
              refine AO.p rfl (p_move rfl) ?_
              obtain ⟨k926, hd927⟩ := chk_some hd925
              refine AO.p rfl (p_subE rfl rfl k926) ?_
              obtain ⟨k928, hd929⟩ := chk_some hd927
              refine AO.p rfl (s_indexAr (q := x540.toNat) Try.underlying26 Try.sizeOf2 rfl rfl k928 (z1 _)) ?_
              obtain ⟨G930, hHG930, S931⟩ := S898.set (k := 3) (i := i774) rfl (AObj.row false (ints (xs857.set x540.toNat (a0 - 1))))
              refine AO.s (s_store Try.sizeOf2 rfl rfl rfl (S898.get (k := 3) rfl) (lt_len (ints_len lxs857) (inR_lt k928)) ((congrArg (fun l => List.set _ _ (AObj.row false l)) (ints_set _ _ _)).trans hHG930)) ?_
              refine AO.nil ?_
              refine AX.region ?_
              refine AO.p rfl (p_move rfl) ?_
              obtain ⟨k932, hd933⟩ := chk_some hd929
              refine AO.p rfl (p_subE rfl rfl k932) ?_
              refine AO.p rfl (p_move rfl) ?_
              obtain ⟨k934, hd935⟩ := chk_some hd933
              refine AO.p rfl (s_indexAr (q := (a0 - 1).toNat) Try.underlying26 Try.sizeOf2 rfl rfl k934 (z1 _)) ?_
              obtain ⟨G936, hHG936, S937⟩ := S931.set (k := 3) (i := i774) rfl (AObj.row false (ints ((xs857.set x540.toNat (a0 - 1)).set ((a0 - 1).toNat) x540)))
              refine AO.s (s_store Try.sizeOf2 rfl rfl rfl (S931.get (k := 3) rfl) (lt_len (ints_len (len_set lxs857)) (inR_lt k934)) ((congrArg (fun l => List.set _ _ (AObj.row false l)) (ints_set _ _ _)).trans hHG936)) ?_
              refine AO.nil ?_
              have S938 := S937.front 3 rfl
              have S939 := S938.front 3 rfl
              have S940 := S939.front 3 rfl
              have S941 := S940.front 3 rfl
              exact ⟨((xs857.set x540.toNat (a0 - 1)).set ((a0 - 1).toNat) x540), (some_inj hd935), S941, (len_set (len_set lxs857)), Sub.cons' rfl rfl (Sub.cons' rfl rfl (Sub.cons' rfl rfl (Sub.cons' rfl rfl (Sub.cons' rfl rfl (Sub.cons' rfl rfl (Sub.nil _))))))⟩
            · have hd942 := bif_f c924 hb922
              refine AX.skip ?_
              have S943 := S898.front 3 rfl
              have S944 := S943.front 3 rfl
              have S945 := S944.front 3 rfl
              have S946 := S945.front 3 rfl
              exact ⟨xs857, (some_inj hd942), S946, lxs857, Sub.cons' rfl rfl (Sub.cons' rfl rfl (Sub.cons' rfl rfl (Sub.cons' rfl rfl (Sub.cons' rfl rfl (Sub.cons' rfl rfl (Sub.nil _))))))⟩
          · rintro t' G948 ⟨xs920, rfl, S947, lxs920, hsub949⟩
            refine AX.sub hsub949 ?_
            refine AX.region ?_
            refine AO.p rfl (s_fieldAddr Try.underlying33 rfl Try.sizeOf31 (by decide) rfl rfl) ?_
            refine AO.c rfl (s_load Try.isAgg31 rfl (row_cell (S947.get (k := 1) rfl) rfl)) ?_
            refine AO.c rfl (s_loadN (vs := ints xs920) Try.isAgg26 Try.sizeOf26 rfl (ints_len lxs920) (row_cells (S947.get (k := 3) rfl))) ?_
            obtain ⟨G950, i951, hii951, hHG950, S952⟩ := S947.new (AObj.row false (ints [xs920].flatten))
            refine AO.c rfl (s_build1 (i := i951) (r := xs920) (zr := List.replicate 14 0) Try.underlying31 Try.sizeOf26 Try.zeroValue26 rfl rfl (by decide) (by decide) rfl lxs920 hii951 hHG950) ?_
            obtain ⟨k954, hd955⟩ := chk_some hd923
            obtain ⟨p956, c957, G958, haG958, S959, Bp956⟩ := S952.app (k := 3) rfl Bo536 (ints [xs920].flatten) 1 (flat_len1 (all_one lxs920) rfl)
            have S960 := S959.cellsEq (k := 3) (us' := ints (rs539 ++ [xs920]).flatten) (intsf_app _ _) rfl
            have BS960 : Sb p956 ((rs539 ++ [xs920]).length) c957 14 := (show rs539.length + 1 = (rs539 ++ [xs920]).length from len_app (a := rs539) (b := [xs920]) rfl rfl) ▸ Bp956
            have S961 := S960.drop 0 rfl
            refine AO.c rfl (s_app (by_ := 112) (us := ints rs539.flatten) (vs := ints [xs920].flatten) Try.underlying31 Try.underlying31 Try.typeInfo26 Try.sizeOf26 Try.zeroValue26 rfl rfl rfl rfl rfl rfl rfl (S952.buf (k := 3) rfl Bo536 (flat_len1 ars539 rfl)) (S952.oview (k := 0) rfl (Sb.lit (n := 1) (by decide)) (flat_len1 (all_one lxs920) rfl)) (flat_len1 (all_one lxs920) rfl) ints_one k954 haG958 (show rs539.length + 1 = (rs539 ++ [xs920]).length from len_app (a := rs539) (b := [xs920]) rfl rfl)) ?_
            refine AO.p rfl (s_fieldAddr Try.underlying33 rfl Try.sizeOf31 (by decide) rfl rfl) ?_
            obtain ⟨G962, hHG962, S963⟩ := S961.set (k := 1) (i := i113) rfl (AObj.row false ([.int .i64 a0, .slice p956 ((rs539 ++ [xs920]).length) c957]))
            refine AO.s (s_store Try.sizeOf31 rfl rfl rfl (S961.get (k := 1) rfl) (Nat.le_of_ble_eq_true rfl) hHG962) ?_
            refine AO.nil ?_
            refine AX.region ?_
            refine AO.p rfl (p_move rfl) ?_
            obtain ⟨k964, hd965⟩ := chk_some hd955
            refine AO.p rfl (p_addE rfl rfl k964) ?_
            refine AO.p rfl (p_assign rfl) ?_
            refine AO.nil ?_
            obtain rfl := some_inj hd965
            have S967 := S963.front 2 rfl
            have S968 := S967.front 2 rfl
            have S969 := S968.front 2 rfl
            have S970 := S969.keep 3
            exact ⟨((rs539 ++ [xs920]), x540 + 1), hk760, (rs539 ++ [xs920]), (x540 + 1), p956, c957, rfl, S970, (all_app ars539 (all_one lxs920)), BS960, Sub.cons' rfl rfl (Sub.cons' rfl rfl (Sub.cons' rfl rfl (Sub.cons' rfl rfl (Sub.cons' rfl rfl (Sub.nil _)))))⟩
      · have hd971 := bif_f c765 ho759
        refine AX.exit ?_
        obtain rfl := some_inj hd971
        have S972 := S761.front 2 rfl
        have S973 := S972.front 2 rfl
        have S974 := S973.front 2 rfl
        exact ⟨rs539, p537, c538, hk760, S974, ars539, Bo536, Sub.cons' rfl rfl (Sub.cons' rfl rfl (Sub.nil _))⟩
  · rintro t' G976 ⟨rs751, p749, c750, rfl, S975, ars751, Bo748, hsub977⟩
    refine AX.sub hsub977 ?_
    refine AX.seq ?_
    refine AX.region ?_
    refine AO.c rfl (s_loadN (vs := [.int .i64 a0, .slice p749 rs751.length c750]) Try.isAgg33 Try.sizeOf33 rfl rfl (row_cells (S975.get (k := 1) rfl))) ?_
    obtain ⟨G978, hHG978, S979⟩ := S975.set (k := 0) (i := i101) rfl (AObj.row false ([.int .i64 a0, .slice p749 rs751.length c750]))
    refine AO.s (s_storeAll (vs := [.int .i64 a0, .slice p749 rs751.length c750]) Try.sizeOf33 rfl rfl (ones_list rfl) (S975.get (k := 0) rfl) rfl rfl hHG978) ?_
    refine AO.nil ?_
    refine AX.ret ?_
    obtain ⟨rfl, rfl⟩ := Prod.mk.inj (some_inj hd754)
    have S981 := S979.front 2 rfl
    have S982 := S981.keep 1
    exact ⟨.inr rfl, _, res1 rfl (rv_cell (vs := [.int .i64 a0, .slice p749 rs751.length c750]) rfl Try.isAgg33 Try.sizeOf33 rfl (row_cells (S979.get (k := 0) rfl))), p749, c750, rfl, S982, Bo748, ars751⟩

set_option maxHeartbeats 4000000 in
theorem W_spec_CircleOf (fu : Nat) (H : AHeap) (a0 : Int) (r0 : Int) (r1 : List (List Int)) (r2 : Int) (hd : D_spec_CircleOf fu a0 = some (r0, r1, r2)) : ∃ v G', ACall Try.prog 21 [.int .i64 a0] H v G' ∧ ∃ (p_r1 : Option Addr) (c_r1 : Nat), (v = .tuple #[.agg [.int .i64 r0, .slice p_r1 r1.length c_r1].toArray, .int .i64 r2]) ∧ St [] H G' [oseg p_r1 (ints r1.flatten)] ∧ Sb p_r1 r1.length c_r1 14 ∧ All 14 r1 := by
  refine ACall.bodyX (args := [.int .i64 a0]) (N := 10) [(0, .int .i64 a0)] (fun v G' => ∃ (p_r1 : Option Addr) (c_r1 : Nat), (v = .tuple #[.agg [.int .i64 r0, .slice p_r1 r1.length c_r1].toArray, .int .i64 r2]) ∧ St [] H G' [oseg p_r1 (ints r1.flatten)] ∧ Sb p_r1 r1.length c_r1 14 ∧ All 14 r1) Try.func21 rfl rfl rfl rfl ?_
  unfold D_spec_CircleOf at hd
  have S0 : St [] H H [] := St.nil H
  refine AX.seq ?_
  refine AX.region ?_
  obtain ⟨G100, i101, hii101, hHG100, S102⟩ := S0.new (AObj.row false ([.int .i64 0, .slice none 0 0]))
  refine AO.c rfl (s_alloc (i := i101) (cs := [.int .i64 0, .slice none 0 0]) Try.zeroValue33 rfl rfl hii101 hHG100) ?_
  refine AO.p rfl (p_assign rfl) ?_
  refine AO.nil ?_
  refine AX.seq ?_
  refine AX.seq ?_
  refine AX.region ?_
  refine AO.p rfl (p_move rfl) ?_
  obtain ⟨b104, h105, hd106⟩ := bnd_some hd
  refine AO.c rfl (o_call (vs := [.int .i64 a0, .int .i64 2, .int .i64 14]) rfl Try.call64 (W_spec_l01In fu G100 a0 2 14 b104 h105)) ?_
  refine AO.p rfl (p_not rfl) ?_
  refine AO.nil ?_
  refine AX.cond rfl (fun c108 => ?_) (fun c108 => ?_)
  · have hd109 := bif_t c108 hd106
    refine AX.seq ?_
    refine AX.region ?_
    refine AO.p rfl (p_build2 (vs := []) (cs := [.int .i64 0, .slice none 0 0]) Try.underlying33 rfl rfl rfl Try.sizeOf2 Try.sizeOf31 Try.zeroValue33 rfl rfl rfl rfl rfl) ?_
    obtain ⟨G110, hHG110, S111⟩ := S102.set (k := 0) (i := i101) rfl (AObj.row false ([.int .i64 0, .slice none 0 0]))
    refine AO.s (s_storeAll (vs := [.int .i64 0, .slice none 0 0]) Try.sizeOf33 rfl rfl (ones_list rfl) (S102.get (k := 0) rfl) rfl rfl hHG110) ?_
    refine AO.p rfl (p_assign rfl) ?_
    refine AO.nil ?_
    refine AX.ret ?_
    obtain ⟨rfl, z112⟩ := Prod.mk.inj (some_inj hd109)
    obtain ⟨rfl, rfl⟩ := Prod.mk.inj z112
    have S114 : St [] H G110 (oseg none (ints (List.flatten [])) :: _) := S111.nilseg 0
    have S115 := S114.keep 1
    exact ⟨.inr rfl, _, res2 rfl (rv_cell (vs := [.int .i64 0, .slice none 0 0]) rfl Try.isAgg33 Try.sizeOf33 rfl (row_cells (S111.get (k := 0) rfl))) (rv_tmp rfl), none, 0, rfl, S115, Sb.nil, all_nil⟩
  · have hd116 := bif_f c108 hd106
    refine AX.skip ?_
    refine AX.seq ?_
    refine AX.region ?_
    refine AO.p rfl (p_move rfl) ?_
    obtain ⟨⟨x117, rs118⟩, h119, hd120⟩ := bnd_some hd116
    obtain ⟨_, G127, hc126, p121, c122, rfl, S128, B124, a125⟩ := W_spec_l01Circle fu G100 a0 x117 rs118 h119
    have S129 := S102.call S128
    refine AO.c rfl (o_call (vs := [.int .i64 a0]) rfl Try.call65 hc126) ?_
    obtain ⟨G130, hHG130, S131⟩ := S129.set (k := 1) (i := i101) rfl (AObj.row false ([.int .i64 x117, .slice p121 rs118.length c122]))
    refine AO.s (s_storeAll (vs := [.int .i64 x117, .slice p121 rs118.length c122]) Try.sizeOf33 rfl rfl (ones_list rfl) (S129.get (k := 1) rfl) rfl rfl hHG130) ?_
    refine AO.p rfl (p_assign rfl) ?_
    refine AO.nil ?_
    refine AX.ret ?_
    obtain ⟨rfl, z132⟩ := Prod.mk.inj (some_inj hd120)
    obtain ⟨rfl, rfl⟩ := Prod.mk.inj z132
    have S134 := S131.front 0 rfl
    have S135 := S134.keep 1
    exact ⟨.inr rfl, _, res2 rfl (rv_cell (vs := [.int .i64 x117, .slice p121 rs118.length c122]) rfl Try.isAgg33 Try.sizeOf33 rfl (row_cells (S131.get (k := 1) rfl))) (rv_tmp rfl), p121, c122, rfl, S135, B124, a125⟩

set_option maxHeartbeats 4000000 in
theorem W_impl_circle (fu : Nat) (H : AHeap) (a0 : Int) (r0 : Int) (r1 : List (List Int)) (hd : D_impl_circle fu a0 = some (r0, r1)) : ∃ v G', ACall Try.prog 67 [.int .i64 a0] H v G' ∧ ∃ (p_r1 : Option Addr) (c_r1 : Nat), (v = .agg [.int .i64 r0, .slice p_r1 r1.length c_r1].toArray) ∧ St [] H G' [oseg p_r1 (ints r1.flatten)] ∧ Sb p_r1 r1.length c_r1 14 ∧ All 14 r1 := by
  refine ACall.bodyX (args := [.int .i64 a0]) (N := 56) [(0, .int .i64 a0)] (fun v G' => ∃ (p_r1 : Option Addr) (c_r1 : Nat), (v = .agg [.int .i64 r0, .slice p_r1 r1.length c_r1].toArray) ∧ St [] H G' [oseg p_r1 (ints r1.flatten)] ∧ Sb p_r1 r1.length c_r1 14 ∧ All 14 r1) Try.func67 rfl rfl rfl rfl ?_
  unfold D_impl_circle at hd
  have S0 : St [] H H [] := St.nil H
  refine AX.seq ?_
  refine AX.region ?_
  obtain ⟨G100, i101, hii101, hHG100, S102⟩ := S0.new (AObj.row false ([.int .i64 0, .slice none 0 0]))
  refine AO.c rfl (s_alloc (i := i101) (cs := [.int .i64 0, .slice none 0 0]) Try.zeroValue33 rfl rfl hii101 hHG100) ?_
  refine AO.nil ?_
  refine AX.seq ?_
  refine AX.region ?_
  refine AO.p rfl (p_move rfl) ?_
  refine AO.p rfl (p_build2 (vs := [(0, .int .i64 a0)]) (cs := [.int .i64 a0, .slice none 0 0]) Try.underlying33 rfl rfl rfl Try.sizeOf2 Try.sizeOf31 Try.zeroValue33 rfl rfl rfl rfl rfl) ?_
  refine AO.p rfl (p_move rfl) ?_
  obtain ⟨k104, hd105⟩ := chk_some hd
  refine AO.p rfl (p_subE rfl rfl k104) ?_
  refine AO.p rfl (p_move rfl) ?_
  refine AO.p rfl (p_remE rfl rfl (by decide)) ?_
  obtain ⟨k106, hd107⟩ := chk_some hd105
  refine AO.p rfl (p_addE rfl rfl k106) ?_
  obtain ⟨G108, i109, hii109, hHG108, S110⟩ := S102.new (AObj.row false ([.int .i64 0, .slice none 0 0]))
  refine AO.c rfl (s_alloc (i := i109) (cs := [.int .i64 0, .slice none 0 0]) Try.zeroValue33 rfl rfl hii109 hHG108) ?_
  obtain ⟨G112, hHG112, S113⟩ := S110.set (k := 0) (i := i109) rfl (AObj.row false ([.int .i64 a0, .slice none 0 0]))
  refine AO.s (s_storeAll (vs := [.int .i64 a0, .slice none 0 0]) Try.sizeOf33 rfl rfl (ones_list rfl) (S110.get (k := 0) rfl) rfl rfl hHG112) ?_
  refine AO.p rfl (p_assign rfl) ?_
  refine AO.nil ?_
  refine AX.seq ?_
  refine AX.seq ?_
  refine AX.region ?_
  refine AO.p rfl (p_move rfl) ?_
  refine AO.p rfl (p_move rfl) ?_
  refine AO.nil ?_
  obtain ⟨r877, hl878, hd879⟩ := bnd_some hd107
  refine AX.cutQ (fun t' H' => ∃ (rs876 : List (List Int)) (p874 : Option Addr) (c875 : Nat), rs876 = r877 ∧ St [] H H' [[(i101, AObj.row false ([.int .i64 0, .slice none 0 0]))], [(i109, AObj.row false ([.int .i64 a0, .slice p874 rs876.length c875]))], oseg p874 (ints rs876.flatten)] ∧ All 14 rs876 ∧ Sb p874 (rs876.length) c875 14 ∧ Am.Sub [(2, .pointer (some ⟨i101, 0, none⟩)), (3, .pointer (some ⟨i109, 0, none⟩))] t') ?_ ?_
  · refine AX.block ?_
    refine AX.loopF (fun s' t' H' => ∃ (rs619 : List (List Int)) (x620 : Int) (p617 : Option Addr) (c618 : Nat), (rs619, x620) = s' ∧ St [] H H' [[(i101, AObj.row false ([.int .i64 0, .slice none 0 0]))], [(i109, AObj.row false ([.int .i64 a0, .slice p617 rs619.length c618]))], oseg p617 (ints rs619.flatten)] ∧ All 14 rs619 ∧ Sb p617 (rs619.length) c618 14 ∧ Am.Sub [(0, .int .i64 a0), (2, .pointer (some ⟨i101, 0, none⟩)), (3, .pointer (some ⟨i109, 0, none⟩)), (4, .int .i64 (a0 - 1 + (a0.tmod 2))), (16, .int .i64 (a0 - 1 + (a0.tmod 2))), (17, .int .i64 x620)] t') hl878 ?_ ?_
    · skip
      have S880 : St [] H G112 (oseg none (ints (List.flatten [])) :: _) := S113.nilseg 0
      have S881 := S880.front 1 rfl
      have S882 := S881.front 2 rfl
      exact ⟨[], 0, none, 0, rfl, S882, all_nil, Sb.nil, Sub.cons' rfl rfl (Sub.cons' rfl rfl (Sub.cons' rfl rfl (Sub.cons' rfl rfl (Sub.cons' rfl rfl (Sub.cons' rfl rfl (Sub.nil _))))))⟩
    · rintro n883 _ t' G887 ⟨rs619, x620, p617, c618, rfl, S886, ars619, Bo616, hsub888⟩ o889 ho884 hk885
      refine AX.sub hsub888 ?_
      unfold D_impl_circle_s0 at ho884
      refine AX.seq ?_
      refine AX.region ?_
      refine AO.p rfl (p_lss rfl rfl) ?_
      refine AO.nil ?_
      refine AX.seq ?_
      refine AX.cond rfl (fun c890 => ?_) (fun c890 => ?_)
      · have hd891 := bif_t c890 ho884
        refine AX.skip ?_
        refine AX.seq ?_
        refine AX.block ?_
        refine AX.seq ?_
        refine AX.region ?_
        refine AO.p rfl (p_move rfl) ?_
        refine AO.p rfl (p_assign rfl) ?_
        refine AO.nil ?_
        refine AX.seq ?_
        refine AX.region ?_
        refine AO.p rfl (p_move rfl) ?_
        obtain ⟨xs892, h893, hd894⟩ := bnd_some hd891
        obtain ⟨hc896, l897⟩ := W_impl_free fu G887 a0 xs892 h893
        refine AO.c rfl (o_call (vs := [.int .i64 a0]) rfl Try.call83 hc896) ?_
        obtain ⟨G898, i899, hii899, hHG898, S900⟩ := S886.new (AObj.row false (ints (List.replicate 14 0)))
        refine AO.c rfl (s_alloc (i := i899) (cs := ints (List.replicate 14 0)) Try.zeroValue26 rfl rfl hii899 hHG898) ?_
        obtain ⟨G902, hHG902, S903⟩ := S900.set (k := 0) (i := i899) rfl (AObj.row false (ints xs892))
        refine AO.s (s_storeAll (vs := ints xs892) Try.sizeOf26 rfl rfl ints_one (S900.get (k := 0) rfl) (ints_len l897) (ints_len len_rep) hHG902) ?_
        refine AO.nil ?_
        refine AX.seq ?_
        refine AX.seq ?_
        refine AX.region ?_
        refine AO.p rfl (p_move rfl) ?_
        refine AO.p rfl (p_move rfl) ?_
        refine AO.nil ?_
        obtain ⟨r1015, hl1016, hd1017⟩ := bnd_some hd894
        refine AX.cutQ (fun t' H' => ∃ (xs1014 : List Int), xs1014 = r1015 ∧ St [] H H' [[(i101, AObj.row false ([.int .i64 0, .slice none 0 0]))], [(i109, AObj.row false ([.int .i64 a0, .slice p617 rs619.length c618]))], oseg p617 (ints rs619.flatten), [(i899, AObj.row false (ints xs1014))]] ∧ xs1014.length = 14 ∧ Am.Sub [(0, .int .i64 a0), (2, .pointer (some ⟨i101, 0, none⟩)), (3, .pointer (some ⟨i109, 0, none⟩)), (4, .int .i64 (a0 - 1 + (a0.tmod 2))), (5, .int .i64 x620), (6, .pointer (some ⟨i899, 0, none⟩)), (16, .int .i64 (a0 - 1 + (a0.tmod 2))), (17, .int .i64 x620)] t') ?_ ?_
        · refine AX.block ?_
          refine AX.loopF (fun s' t' H' => ∃ (xs978 : List Int) (x979 : Int), (xs978, x979) = s' ∧ St [] H H' [[(i101, AObj.row false ([.int .i64 0, .slice none 0 0]))], [(i109, AObj.row false ([.int .i64 a0, .slice p617 rs619.length c618]))], oseg p617 (ints rs619.flatten), [(i899, AObj.row false (ints xs978))]] ∧ xs978.length = 14 ∧ Am.Sub [(0, .int .i64 a0), (2, .pointer (some ⟨i101, 0, none⟩)), (3, .pointer (some ⟨i109, 0, none⟩)), (4, .int .i64 (a0 - 1 + (a0.tmod 2))), (5, .int .i64 x620), (6, .pointer (some ⟨i899, 0, none⟩)), (16, .int .i64 (a0 - 1 + (a0.tmod 2))), (17, .int .i64 x620), (22, .int .i64 (a0 - 1 + (a0.tmod 2))), (23, .int .i64 x979)] t') hl1016 ?_ ?_
          · skip
            have S1018 := S903.front 0 rfl
            have S1019 := S1018.front 3 rfl
            have S1020 := S1019.front 3 rfl
            have S1021 := S1020.front 3 rfl
            exact ⟨xs892, 0, rfl, S1021, l897, Sub.cons' rfl rfl (Sub.cons' rfl rfl (Sub.cons' rfl rfl (Sub.cons' rfl rfl (Sub.cons' rfl rfl (Sub.cons' rfl rfl (Sub.cons' rfl rfl (Sub.cons' rfl rfl (Sub.cons' rfl rfl (Sub.cons' rfl rfl (Sub.nil _))))))))))⟩
          · rintro n1022 _ t' G1026 ⟨xs978, x979, rfl, S1025, lxs978, hsub1027⟩ o1028 ho1023 hk1024
            refine AX.sub hsub1027 ?_
            unfold D_impl_circle_s1 at ho1023
            refine AX.seq ?_
            refine AX.region ?_
            refine AO.p rfl (p_lss rfl rfl) ?_
            refine AO.nil ?_
            refine AX.seq ?_
            refine AX.cond rfl (fun c1029 => ?_) (fun c1029 => ?_)
            · have hd1030 := bif_t c1029 ho1023
              refine AX.skip ?_
              refine AX.seq ?_
              refine AX.block ?_
              refine AX.seq ?_
              refine AX.region ?_
              refine AO.p rfl (p_move rfl) ?_
              refine AO.p rfl (p_assign rfl) ?_
              refine AO.nil ?_
              refine AX.seq ?_
              refine AX.region ?_
              refine AO.p rfl (p_move rfl) ?_
              obtain ⟨k1031, hd1032⟩ := chk_some hd1030
              refine AO.p rfl (p_mulE rfl rfl k1031) ?_
              refine AO.p rfl (p_move rfl) ?_
              obtain ⟨k1033, hd1034⟩ := chk_some hd1032
              refine AO.p rfl (p_subE rfl rfl k1033) ?_
              refine AO.p rfl (p_move rfl) ?_
              obtain ⟨k1035, hd1036⟩ := chk_some hd1034
              refine AO.p rfl (p_addE rfl rfl k1035) ?_
              refine AO.p rfl (p_move rfl) ?_
              obtain ⟨k1037, hd1038⟩ := chk_some hd1036
              refine AO.p rfl (p_remE rfl rfl k1037) ?_
              refine AO.p rfl (p_assign rfl) ?_
              refine AO.nil ?_
              refine AX.seq ?_
              refine AX.region ?_
              refine AO.p rfl (p_move rfl) ?_
              refine AO.p rfl (p_move rfl) ?_
              refine AO.p rfl (p_lss rfl rfl) ?_
              refine AO.nil ?_
              refine AX.cond rfl (fun c1039 => ?_) (fun c1039 => ?_)
              · have hd1040 := bif_t c1039 hd1038
                refine AX.region ?_
                refine AO.p rfl (p_move rfl) ?_
                refine AO.p rfl (p_move rfl) ?_
                have S1041 := S1025.front 3 rfl
                obtain ⟨xs1042, h1043, hd1044⟩ := bnd_some hd1040
                obtain ⟨_, G1047, hc1046, rfl, S1048, l1045⟩ := W_impl_Round_meet fu G1026 i899 xs978 lxs978 (S1025.get (k := 3) rfl) x979 ((2 * x620 - x979 + (a0 - 1 + (a0.tmod 2))).tmod (a0 - 1 + (a0.tmod 2))) xs1042 h1043
                have S1049 := St.callM (A := [[(i899, AObj.row false (ints xs978))]]) S1041 S1048 (by simp)
                refine AO.c rfl (o_call (vs := [.pointer (some ⟨i899, 0, none⟩), .int .i64 x979, .int .i64 ((2 * x620 - x979 + (a0 - 1 + (a0.tmod 2))).tmod (a0 - 1 + (a0.tmod 2)))]) rfl Try.call84 hc1046) ?_
                refine AO.nil ?_
                refine AX.region ?_
                obtain ⟨k1050, hd1051⟩ := chk_some hd1044
                refine AO.p rfl (p_addE rfl rfl k1050) ?_
                refine AO.p rfl (p_move rfl) ?_
                refine AO.nil ?_
                obtain rfl := some_inj hd1051
                have S1053 := S1049.front 0 rfl
                have S1054 := S1053.front 3 rfl
                have S1055 := S1054.front 3 rfl
                have S1056 := S1055.front 3 rfl
                exact ⟨(xs1042, x979 + 1), hk1024, xs1042, (x979 + 1), rfl, S1056, l1045, Sub.cons' rfl rfl (Sub.cons' rfl rfl (Sub.cons' rfl rfl (Sub.cons' rfl rfl (Sub.cons' rfl rfl (Sub.cons' rfl rfl (Sub.cons' rfl rfl (Sub.cons' rfl rfl (Sub.cons' rfl rfl (Sub.cons' rfl rfl (Sub.nil _))))))))))⟩
              · have hd1057 := bif_f c1039 hd1038
                refine AX.skip ?_
                refine AX.region ?_
                obtain ⟨k1058, hd1059⟩ := chk_some hd1057
                refine AO.p rfl (p_addE rfl rfl k1058) ?_
                refine AO.p rfl (p_move rfl) ?_
                refine AO.nil ?_
                obtain rfl := some_inj hd1059
                have S1061 := S1025.front 3 rfl
                have S1062 := S1061.front 3 rfl
                have S1063 := S1062.front 3 rfl
                have S1064 := S1063.front 3 rfl
                exact ⟨(xs978, x979 + 1), hk1024, xs978, (x979 + 1), rfl, S1064, lxs978, Sub.cons' rfl rfl (Sub.cons' rfl rfl (Sub.cons' rfl rfl (Sub.cons' rfl rfl (Sub.cons' rfl rfl (Sub.cons' rfl rfl (Sub.cons' rfl rfl (Sub.cons' rfl rfl (Sub.cons' rfl rfl (Sub.cons' rfl rfl (Sub.nil _))))))))))⟩
            · have hd1065 := bif_f c1029 ho1023
              refine AX.exit ?_
              obtain rfl := some_inj hd1065
              have S1066 := S1025.front 3 rfl
              have S1067 := S1066.front 3 rfl
              have S1068 := S1067.front 3 rfl
              have S1069 := S1068.front 3 rfl
              exact ⟨xs978, hk1024, S1069, lxs978, Sub.cons' rfl rfl (Sub.cons' rfl rfl (Sub.cons' rfl rfl (Sub.cons' rfl rfl (Sub.cons' rfl rfl (Sub.cons' rfl rfl (Sub.cons' rfl rfl (Sub.cons' rfl rfl (Sub.nil _))))))))⟩
        · rintro t' G1071 ⟨xs1014, rfl, S1070, lxs1014, hsub1072⟩
          refine AX.sub hsub1072 ?_
          refine AX.seq ?_
          refine AX.seq ?_
          refine AX.region ?_
          refine AO.p rfl (p_move rfl) ?_
          refine AO.p rfl (p_remE rfl rfl (by decide)) ?_
          refine AO.p rfl (p_eql rfl rfl) ?_
          refine AO.nil ?_
          obtain ⟨r1092, hb1093, hd1094⟩ := bnd_some hd1017
          refine AX.cutQ (fun t' H' => ∃ (xs1091 : List Int), xs1091 = r1092 ∧ St [] H H' [[(i101, AObj.row false ([.int .i64 0, .slice none 0 0]))], [(i109, AObj.row false ([.int .i64 a0, .slice p617 rs619.length c618]))], oseg p617 (ints rs619.flatten), [(i899, AObj.row false (ints xs1091))]] ∧ xs1091.length = 14 ∧ Am.Sub [(0, .int .i64 a0), (2, .pointer (some ⟨i101, 0, none⟩)), (3, .pointer (some ⟨i109, 0, none⟩)), (4, .int .i64 (a0 - 1 + (a0.tmod 2))), (6, .pointer (some ⟨i899, 0, none⟩)), (16, .int .i64 (a0 - 1 + (a0.tmod 2))), (17, .int .i64 x620)] t') ?_ ?_
          · skip
            refine AX.cond rfl (fun c1095 => ?_) (fun c1095 => ?_)
            · have hd1096 := bif_t c1095 hb1093
              refine AX.region ?_
              refine AO.p rfl (p_move rfl) ?_
              obtain ⟨k1097, hd1098⟩ := chk_some hd1096
              refine AO.p rfl (p_subE rfl rfl k1097) ?_
              refine AO.p rfl (p_move rfl) ?_
              have S1099 := S1070.front 3 rfl
              obtain ⟨xs1100, h1101, hd1102⟩ := bnd_some hd1098
              obtain ⟨_, G1105, hc1104, rfl, S1106, l1103⟩ := W_impl_Round_meet fu G1071 i899 xs1014 lxs1014 (S1070.get (k := 3) rfl) (a0 - 1) x620 xs1100 h1101
              have S1107 := St.callM (A := [[(i899, AObj.row false (ints xs1014))]]) S1099 S1106 (by simp)
              refine AO.c rfl (o_call (vs := [.pointer (some ⟨i899, 0, none⟩), .int .i64 (a0 - 1), .int .i64 x620]) rfl Try.call84 hc1104) ?_
              refine AO.nil ?_
              have S1108 := S1107.front 0 rfl
              have S1109 := S1108.front 3 rfl
              have S1110 := S1109.front 3 rfl
              have S1111 := S1110.front 3 rfl
              exact ⟨xs1100, (some_inj hd1102), S1111, l1103, Sub.cons' rfl rfl (Sub.cons' rfl rfl (Sub.cons' rfl rfl (Sub.cons' rfl rfl (Sub.cons' rfl rfl (Sub.cons' rfl rfl (Sub.cons' rfl rfl (Sub.nil _)))))))⟩
            · have hd1112 := bif_f c1095 hb1093
              refine AX.skip ?_
              have S1113 := S1070.front 3 rfl
              have S1114 := S1113.front 3 rfl
              have S1115 := S1114.front 3 rfl
              have S1116 := S1115.front 3 rfl
              exact ⟨xs1014, (some_inj hd1112), S1116, lxs1014, Sub.cons' rfl rfl (Sub.cons' rfl rfl (Sub.cons' rfl rfl (Sub.cons' rfl rfl (Sub.cons' rfl rfl (Sub.cons' rfl rfl (Sub.cons' rfl rfl (Sub.nil _)))))))⟩
          · rintro t' G1118 ⟨xs1091, rfl, S1117, lxs1091, hsub1119⟩
            refine AX.sub hsub1119 ?_
            refine AX.region ?_
            refine AO.p rfl (s_fieldAddr Try.underlying33 rfl Try.sizeOf31 (by decide) rfl rfl) ?_
            refine AO.c rfl (s_load Try.isAgg31 rfl (row_cell (S1117.get (k := 1) rfl) rfl)) ?_
            refine AO.c rfl (s_loadN (vs := ints xs1091) Try.isAgg26 Try.sizeOf26 rfl (ints_len lxs1091) (row_cells (S1117.get (k := 3) rfl))) ?_
            obtain ⟨G1120, i1121, hii1121, hHG1120, S1122⟩ := S1117.new (AObj.row false (ints [xs1091].flatten))
            refine AO.c rfl (s_build1 (i := i1121) (r := xs1091) (zr := List.replicate 14 0) Try.underlying31 Try.sizeOf26 Try.zeroValue26 rfl rfl (by decide) (by decide) rfl lxs1091 hii1121 hHG1120) ?_
            obtain ⟨k1124, hd1125⟩ := chk_some hd1094
            obtain ⟨p1126, c1127, G1128, haG1128, S1129, Bp1126⟩ := S1122.app (k := 3) rfl Bo616 (ints [xs1091].flatten) 1 (flat_len1 (all_one lxs1091) rfl)
            have S1130 := S1129.cellsEq (k := 3) (us' := ints (rs619 ++ [xs1091]).flatten) (intsf_app _ _) rfl
            have BS1130 : Sb p1126 ((rs619 ++ [xs1091]).length) c1127 14 := (show rs619.length + 1 = (rs619 ++ [xs1091]).length from len_app (a := rs619) (b := [xs1091]) rfl rfl) ▸ Bp1126
            have S1131 := S1130.drop 0 rfl
            refine AO.c rfl (s_app (by_ := 112) (us := ints rs619.flatten) (vs := ints [xs1091].flatten) Try.underlying31 Try.underlying31 Try.typeInfo26 Try.sizeOf26 Try.zeroValue26 rfl rfl rfl rfl rfl rfl rfl (S1122.buf (k := 3) rfl Bo616 (flat_len1 ars619 rfl)) (S1122.oview (k := 0) rfl (Sb.lit (n := 1) (by decide)) (flat_len1 (all_one lxs1091) rfl)) (flat_len1 (all_one lxs1091) rfl) ints_one k1124 haG1128 (show rs619.length + 1 = (rs619 ++ [xs1091]).length from len_app (a := rs619) (b := [xs1091]) rfl rfl)) ?_
            refine AO.p rfl (s_fieldAddr Try.underlying33 rfl Try.sizeOf31 (by decide) rfl rfl) ?_
            obtain ⟨G1132, hHG1132, S1133⟩ := S1131.set (k := 1) (i := i109) rfl (AObj.row false ([.int .i64 a0, .slice p1126 ((rs619 ++ [xs1091]).length) c1127]))
            refine AO.s (s_store Try.sizeOf31 rfl rfl rfl (S1131.get (k := 1) rfl) (Nat.le_of_ble_eq_true rfl) hHG1132) ?_
            refine AO.nil ?_
            refine AX.region ?_
            obtain ⟨k1134, hd1135⟩ := chk_some hd1125
            refine AO.p rfl (p_addE rfl rfl k1134) ?_
            refine AO.p rfl (p_move rfl) ?_
            refine AO.nil ?_
            obtain rfl := some_inj hd1135
            have S1137 := S1133.front 2 rfl
            have S1138 := S1137.front 2 rfl
            have S1139 := S1138.front 2 rfl
            have S1140 := S1139.keep 3
            exact ⟨((rs619 ++ [xs1091]), x620 + 1), hk885, (rs619 ++ [xs1091]), (x620 + 1), p1126, c1127, rfl, S1140, (all_app ars619 (all_one lxs1091)), BS1130, Sub.cons' rfl rfl (Sub.cons' rfl rfl (Sub.cons' rfl rfl (Sub.cons' rfl rfl (Sub.cons' rfl rfl (Sub.cons' rfl rfl (Sub.nil _))))))⟩
      · have hd1141 := bif_f c890 ho884
        refine AX.exit ?_
        obtain rfl := some_inj hd1141
        have S1142 := S886.front 2 rfl
        have S1143 := S1142.front 2 rfl
        have S1144 := S1143.front 2 rfl
        exact ⟨rs619, p617, c618, hk885, S1144, ars619, Bo616, Sub.cons' rfl rfl (Sub.cons' rfl rfl (Sub.nil _))⟩
  · rintro t' G1146 ⟨rs876, p874, c875, rfl, S1145, ars876, Bo873, hsub1147⟩
    refine AX.sub hsub1147 ?_
    refine AX.seq ?_
    refine AX.region ?_
    refine AO.c rfl (s_loadN (vs := [.int .i64 a0, .slice p874 rs876.length c875]) Try.isAgg33 Try.sizeOf33 rfl rfl (row_cells (S1145.get (k := 1) rfl))) ?_
    obtain ⟨G1148, hHG1148, S1149⟩ := S1145.set (k := 0) (i := i101) rfl (AObj.row false ([.int .i64 a0, .slice p874 rs876.length c875]))
    refine AO.s (s_storeAll (vs := [.int .i64 a0, .slice p874 rs876.length c875]) Try.sizeOf33 rfl rfl (ones_list rfl) (S1145.get (k := 0) rfl) rfl rfl hHG1148) ?_
    refine AO.nil ?_
    refine AX.ret ?_
    obtain ⟨rfl, rfl⟩ := Prod.mk.inj (some_inj hd879)
    have S1151 := S1149.front 2 rfl
    have S1152 := S1151.keep 1
    exact ⟨.inr rfl, _, res1 rfl (rv_cell (vs := [.int .i64 a0, .slice p874 rs876.length c875]) rfl Try.isAgg33 Try.sizeOf33 rfl (row_cells (S1149.get (k := 0) rfl))), p874, c875, rfl, S1152, Bo873, ars876⟩

set_option maxHeartbeats 4000000 in
theorem W_impl_CircleOf (fu : Nat) (H : AHeap) (a0 : Int) (r0 : Int) (r1 : List (List Int)) (r2 : Int) (hd : D_impl_CircleOf fu a0 = some (r0, r1, r2)) : ∃ v G', ACall Try.prog 22 [.int .i64 a0] H v G' ∧ ∃ (p_r1 : Option Addr) (c_r1 : Nat), (v = .tuple #[.agg [.int .i64 r0, .slice p_r1 r1.length c_r1].toArray, .int .i64 r2]) ∧ St [] H G' [oseg p_r1 (ints r1.flatten)] ∧ Sb p_r1 r1.length c_r1 14 ∧ All 14 r1 := by
  refine ACall.bodyX (args := [.int .i64 a0]) (N := 10) [(0, .int .i64 a0)] (fun v G' => ∃ (p_r1 : Option Addr) (c_r1 : Nat), (v = .tuple #[.agg [.int .i64 r0, .slice p_r1 r1.length c_r1].toArray, .int .i64 r2]) ∧ St [] H G' [oseg p_r1 (ints r1.flatten)] ∧ Sb p_r1 r1.length c_r1 14 ∧ All 14 r1) Try.func22 rfl rfl rfl rfl ?_
  unfold D_impl_CircleOf at hd
  have S0 : St [] H H [] := St.nil H
  refine AX.seq ?_
  refine AX.region ?_
  obtain ⟨G100, i101, hii101, hHG100, S102⟩ := S0.new (AObj.row false ([.int .i64 0, .slice none 0 0]))
  refine AO.c rfl (s_alloc (i := i101) (cs := [.int .i64 0, .slice none 0 0]) Try.zeroValue33 rfl rfl hii101 hHG100) ?_
  refine AO.p rfl (p_assign rfl) ?_
  refine AO.nil ?_
  refine AX.seq ?_
  refine AX.seq ?_
  refine AX.region ?_
  refine AO.p rfl (p_move rfl) ?_
  obtain ⟨b104, h105, hd106⟩ := bnd_some hd
  refine AO.c rfl (o_call (vs := [.int .i64 a0, .int .i64 2, .int .i64 14]) rfl Try.call66 (W_impl_between fu G100 a0 2 14 b104 h105)) ?_
  refine AO.p rfl (p_not rfl) ?_
  refine AO.nil ?_
  refine AX.cond rfl (fun c108 => ?_) (fun c108 => ?_)
  · have hd109 := bif_t c108 hd106
    refine AX.seq ?_
    refine AX.region ?_
    refine AO.p rfl (p_build2 (vs := []) (cs := [.int .i64 0, .slice none 0 0]) Try.underlying33 rfl rfl rfl Try.sizeOf2 Try.sizeOf31 Try.zeroValue33 rfl rfl rfl rfl rfl) ?_
    obtain ⟨G110, hHG110, S111⟩ := S102.set (k := 0) (i := i101) rfl (AObj.row false ([.int .i64 0, .slice none 0 0]))
    refine AO.s (s_storeAll (vs := [.int .i64 0, .slice none 0 0]) Try.sizeOf33 rfl rfl (ones_list rfl) (S102.get (k := 0) rfl) rfl rfl hHG110) ?_
    refine AO.p rfl (p_assign rfl) ?_
    refine AO.nil ?_
    refine AX.ret ?_
    obtain ⟨rfl, z112⟩ := Prod.mk.inj (some_inj hd109)
    obtain ⟨rfl, rfl⟩ := Prod.mk.inj z112
    have S114 : St [] H G110 (oseg none (ints (List.flatten [])) :: _) := S111.nilseg 0
    have S115 := S114.keep 1
    exact ⟨.inr rfl, _, res2 rfl (rv_cell (vs := [.int .i64 0, .slice none 0 0]) rfl Try.isAgg33 Try.sizeOf33 rfl (row_cells (S111.get (k := 0) rfl))) (rv_tmp rfl), none, 0, rfl, S115, Sb.nil, all_nil⟩
  · have hd116 := bif_f c108 hd106
    refine AX.skip ?_
    refine AX.seq ?_
    refine AX.region ?_
    refine AO.p rfl (p_move rfl) ?_
    obtain ⟨⟨x117, rs118⟩, h119, hd120⟩ := bnd_some hd116
    obtain ⟨_, G127, hc126, p121, c122, rfl, S128, B124, a125⟩ := W_impl_circle fu G100 a0 x117 rs118 h119
    have S129 := S102.call S128
    refine AO.c rfl (o_call (vs := [.int .i64 a0]) rfl Try.call67 hc126) ?_
    obtain ⟨G130, hHG130, S131⟩ := S129.set (k := 1) (i := i101) rfl (AObj.row false ([.int .i64 x117, .slice p121 rs118.length c122]))
    refine AO.s (s_storeAll (vs := [.int .i64 x117, .slice p121 rs118.length c122]) Try.sizeOf33 rfl rfl (ones_list rfl) (S129.get (k := 1) rfl) rfl rfl hHG130) ?_
    refine AO.p rfl (p_assign rfl) ?_
    refine AO.nil ?_
    refine AX.ret ?_
    obtain ⟨rfl, z132⟩ := Prod.mk.inj (some_inj hd120)
    obtain ⟨rfl, rfl⟩ := Prod.mk.inj z132
    have S134 := S131.front 0 rfl
    have S135 := S134.keep 1
    exact ⟨.inr rfl, _, res2 rfl (rv_cell (vs := [.int .i64 x117, .slice p121 rs118.length c122]) rfl Try.isAgg33 Try.sizeOf33 rfl (row_cells (S131.get (k := 1) rfl))) (rv_tmp rfl), p121, c122, rfl, S135, B124, a125⟩

end Go.Proofs.Ytocaepkkaihiiaa
