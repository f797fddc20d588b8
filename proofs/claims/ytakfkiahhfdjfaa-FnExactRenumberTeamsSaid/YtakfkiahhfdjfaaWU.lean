/-
  The program computes that, printed by a program. No condition.
-/
import Derived.Test.YtakfkiahhfdjfaaDU
import Derived.Test.YtakfkiahhfdjfaaWH
import Derived.Test.YtakfkiahhfdjfaaProg
import Derived.KernelRfl
namespace Go.Proofs.Ytakfkiahhfdjfaa
open Go Go.RowKit Am
set_option linter.unusedVariables false
set_option linter.unusedSimpArgs false
set_option maxRecDepth 20000
set_option maxHeartbeats 4000000 in
theorem W_laws_FnExactReorderRounds (fu : Nat) (H : AHeap) (a0_0 : Int) (p_a0_1 : Option Addr) (c_a0_1 : Nat) (a0_1 : List (List Int)) (a_a0_1 : All 14 a0_1) (v_a0_1 : Vw H p_a0_1 a0_1.length c_a0_1 (ints a0_1.flatten)) (p_a1 : Option Addr) (c_a1 : Nat) (a1 : List Int) (v_a1 : Vw H p_a1 a1.length c_a1 (ints a1)) (r0 : Bool) (hd : D_laws_FnExactReorderRounds fu a0_0 a0_1 a1 = some r0) : ACall Try.prog 5 [.agg [.int .i64 a0_0, .slice p_a0_1 a0_1.length c_a0_1].toArray, .slice p_a1 a1.length c_a1] H (.bool r0) H := by
  refine ACall.bodyP (N := 117) [(0, .agg [.int .i64 a0_0, .slice p_a0_1 a0_1.length c_a0_1].toArray), (1, .slice p_a1 a1.length c_a1)] Try.func5 rfl rfl rfl rfl ?_
  unfold D_laws_FnExactReorderRounds at hd
  have S0 : St [] H H [] := St.nil H
  refine AX.seq ?_
  refine AX.region ?_
  obtain ⟨G100, i101, hii101, hHG100, S102⟩ := S0.new (AObj.row false ([.int .i64 a0_0, .slice p_a0_1 a0_1.length c_a0_1]))
  refine AO.c rfl (s_box (i := i101) (cs := [.int .i64 a0_0, .slice p_a0_1 a0_1.length c_a0_1]) rfl hii101 rfl hHG100) ?_
  refine AO.p rfl (p_assign rfl) ?_
  refine AO.nil ?_
  refine AX.seq ?_
  refine AX.seq ?_
  refine AX.region ?_
  refine AO.p rfl (p_move rfl) ?_
  refine AO.p rfl (p_len_slice rfl Try.underlying34) ?_
  refine AO.p rfl (p_gtr rfl rfl) ?_
  refine AO.nil ?_
  refine AX.cond rfl (fun c104 => ?_) (fun c104 => ?_)
  · have hd105 := bif_t c104 hd
    refine AX.seq ?_
    refine AX.region ?_
    refine AO.p rfl (p_assign rfl) ?_
    refine AO.nil ?_
    refine AX.ret ?_
    obtain rfl := some_inj hd105
    exact ⟨.inr rfl, _, res1 rfl (rv_tmp rfl), rfl, (flatB_ok rfl), S102.hold⟩
  · have hd106 := bif_f c104 hd
    refine AX.skip ?_
    refine AX.seq ?_
    refine AX.region ?_
    refine AO.p rfl (p_assign rfl) ?_
    refine AO.nil ?_
    refine AX.seq ?_
    refine AX.region ?_
    refine AO.c rfl (s_loadN (vs := [.int .i64 a0_0, .slice p_a0_1 a0_1.length c_a0_1]) Try.isAgg33 Try.sizeOf33 rfl rfl (row_cells (S102.get (k := 0) rfl))) ?_
    refine AO.p rfl (p_move rfl) ?_
    obtain ⟨x107, h108, hd109⟩ := bnd_some hd106
    refine AO.c rfl (o_call (vs := [.agg [.int .i64 a0_0, .slice p_a0_1 a0_1.length c_a0_1].toArray, .int .i64 1048576]) rfl Try.call20 (W_laws_szSchedule fu G100 a0_0 p_a0_1 c_a0_1 a0_1 a_a0_1 (S102.view v_a0_1) 1048576 x107 h108)) ?_
    refine AO.p rfl (p_assign rfl) ?_
    refine AO.nil ?_
    refine AX.seq ?_
    refine AX.seq ?_
    refine AX.region ?_
    refine AO.p rfl (p_move rfl) ?_
    refine AO.p rfl (p_lss rfl rfl) ?_
    refine AO.nil ?_
    refine AX.cond rfl (fun c111 => ?_) (fun c111 => ?_)
    · have hd112 := bif_t c111 hd109
      refine AX.seq ?_
      refine AX.region ?_
      refine AO.p rfl (p_assign rfl) ?_
      refine AO.nil ?_
      refine AX.ret ?_
      obtain rfl := some_inj hd112
      exact ⟨.inr rfl, _, res1 rfl (rv_tmp rfl), rfl, (flatB_ok rfl), S102.hold⟩
    · have hd113 := bif_f c111 hd109
      refine AX.skip ?_
      refine AX.seq ?_
      refine AX.region ?_
      refine AO.c rfl (s_loadN (vs := [.int .i64 a0_0, .slice p_a0_1 a0_1.length c_a0_1]) Try.isAgg33 Try.sizeOf33 rfl rfl (row_cells (S102.get (k := 0) rfl))) ?_
      obtain ⟨⟨x114, rs115⟩, h116, hd117⟩ := bnd_some hd113
      obtain ⟨_, G124, hc123, p118, c119, rfl, S125, B121, a122⟩ := W_laws_toSchedule fu G100 a0_0 p_a0_1 c_a0_1 a0_1 a_a0_1 (S102.view v_a0_1) x114 rs115 h116
      have S126 := S102.call S125
      refine AO.c rfl (o_call (vs := [.agg [.int .i64 a0_0, .slice p_a0_1 a0_1.length c_a0_1].toArray]) rfl Try.call22 hc123) ?_
      refine AO.p rfl (p_move rfl) ?_
      obtain ⟨xs127, h128, hd129⟩ := bnd_some hd117
      obtain ⟨_, G135, hc134, p130, c131, rfl, S136, B133⟩ := W_laws_toInt64S fu G124 p_a1 c_a1 a1 (S126.view v_a1) xs127 h128
      have S137 := S126.call S136
      refine AO.c rfl (o_call (vs := [.slice p_a1 a1.length c_a1]) rfl Try.call23 hc134) ?_
      obtain ⟨⟨x138, rs139, x140⟩, h141, hd142⟩ := bnd_some hd129
      obtain ⟨_, G149, hc148, p143, c144, rfl, S150, B146, a147⟩ := W_spec_ReorderRounds fu G135 x114 p118 c119 rs115 a122 (S137.oview (k := 1) rfl B121 (flat_len1 a122 rfl)) p130 c131 xs127 (S137.oview (k := 0) rfl B133 (ints_len1 rfl)) x138 rs139 x140 h141
      have S151 := S137.call S150
      refine AO.c rfl (o_call (vs := [.agg [.int .i64 x114, .slice p118 rs115.length c119].toArray, .slice p130 xs127.length c131]) rfl Try.call21 hc148) ?_
      refine AO.p rfl (p_move rfl) ?_
      refine AO.p rfl (p_extract rfl rfl) ?_
      refine AO.p rfl (p_extract rfl rfl) ?_
      obtain ⟨G152, i153, hii153, hHG152, S154⟩ := S151.new (AObj.row false ([.int .i64 0, .slice none 0 0]))
      refine AO.c rfl (s_alloc (i := i153) (cs := [.int .i64 0, .slice none 0 0]) Try.zeroValue38 rfl rfl hii153 hHG152) ?_
      obtain ⟨G156, hHG156, S157⟩ := S154.set (k := 0) (i := i153) rfl (AObj.row false ([.int .i64 x138, .slice p143 rs139.length c144]))
      refine AO.s (s_storeAll (vs := [.int .i64 x138, .slice p143 rs139.length c144]) Try.sizeOf38 rfl rfl (ones_list rfl) (S154.get (k := 0) rfl) rfl rfl hHG156) ?_
      refine AO.p rfl (p_assign rfl) ?_
      refine AO.nil ?_
      refine AX.seq ?_
      refine AX.region ?_
      refine AO.c rfl (s_loadN (vs := [.int .i64 a0_0, .slice p_a0_1 a0_1.length c_a0_1]) Try.isAgg33 Try.sizeOf33 rfl rfl (row_cells (S157.get (k := 4) rfl))) ?_
      obtain ⟨⟨x158, rs159⟩, h160, hd161⟩ := bnd_some hd142
      obtain ⟨_, G168, hc167, p162, c163, rfl, S169, B165, a166⟩ := W_laws_toSchedule fu G156 a0_0 p_a0_1 c_a0_1 a0_1 a_a0_1 (S157.view v_a0_1) x158 rs159 h160
      have S170 := S157.call S169
      refine AO.c rfl (o_call (vs := [.agg [.int .i64 a0_0, .slice p_a0_1 a0_1.length c_a0_1].toArray]) rfl Try.call22 hc167) ?_
      obtain ⟨G171, i172, hii172, hHG171, S173⟩ := S170.new (AObj.row false ([.int .i64 0, .slice none 0 0]))
      refine AO.c rfl (s_alloc (i := i172) (cs := [.int .i64 0, .slice none 0 0]) Try.zeroValue38 rfl rfl hii172 hHG171) ?_
      obtain ⟨G175, hHG175, S176⟩ := S173.set (k := 0) (i := i172) rfl (AObj.row false ([.int .i64 x158, .slice p162 rs159.length c163]))
      refine AO.s (s_storeAll (vs := [.int .i64 x158, .slice p162 rs159.length c163]) Try.sizeOf38 rfl rfl (ones_list rfl) (S173.get (k := 0) rfl) rfl rfl hHG175) ?_
      refine AO.nil ?_
      refine AX.seq ?_
      refine AX.region ?_
      refine AO.p rfl (p_move rfl) ?_
      obtain ⟨xs177, h178, hd179⟩ := bnd_some hd161
      obtain ⟨_, G185, hc184, p180, c181, rfl, S186, B183⟩ := W_laws_toInt64S fu G175 p_a1 c_a1 a1 (S176.view v_a1) xs177 h178
      have S187 := S176.call S186
      refine AO.c rfl (o_call (vs := [.slice p_a1 a1.length c_a1]) rfl Try.call23 hc184) ?_
      refine AO.p rfl (p_assign rfl) ?_
      refine AO.nil ?_
      refine AX.seq ?_
      refine AX.region ?_
      refine AO.c rfl (s_loadN (vs := [.int .i64 x158, .slice p162 rs159.length c163]) Try.isAgg38 Try.sizeOf38 rfl rfl (row_cells (S187.get (k := 1) rfl))) ?_
      refine AO.p rfl (p_move rfl) ?_
      obtain ⟨⟨x188, rs189, x190⟩, h191, hd192⟩ := bnd_some hd179
      obtain ⟨_, G199, hc198, p193, c194, rfl, S200, B196, a197⟩ := W_impl_ReorderRounds fu G185 x158 p162 c163 rs159 a166 (S187.oview (k := 2) rfl B165 (flat_len1 a166 rfl)) p180 c181 xs177 (S187.oview (k := 0) rfl B183 (ints_len1 rfl)) x188 rs189 x190 h191
      have S201 := S187.call S200
      refine AO.c rfl (o_call (vs := [.agg [.int .i64 x158, .slice p162 rs159.length c163].toArray, .slice p180 xs177.length c181]) rfl Try.call24 hc198) ?_
      refine AO.p rfl (p_move rfl) ?_
      refine AO.p rfl (p_extract rfl rfl) ?_
      refine AO.p rfl (p_extract rfl rfl) ?_
      obtain ⟨G202, i203, hii203, hHG202, S204⟩ := S201.new (AObj.row false ([.int .i64 0, .slice none 0 0]))
      refine AO.c rfl (s_alloc (i := i203) (cs := [.int .i64 0, .slice none 0 0]) Try.zeroValue38 rfl rfl hii203 hHG202) ?_
      obtain ⟨G206, hHG206, S207⟩ := S204.set (k := 0) (i := i203) rfl (AObj.row false ([.int .i64 x188, .slice p193 rs189.length c194]))
      refine AO.s (s_storeAll (vs := [.int .i64 x188, .slice p193 rs189.length c194]) Try.sizeOf38 rfl rfl (ones_list rfl) (S204.get (k := 0) rfl) rfl rfl hHG206) ?_
      refine AO.p rfl (p_assign rfl) ?_
      refine AO.nil ?_
      refine AX.seq ?_
      obtain ⟨r224, hb225, hd226⟩ := bnd_some hd192
      refine AX.cut (fun t' H' => ∃ (b223 : Bool), b223 = r224 ∧ St [] H H' [[(i101, AObj.row false ([.int .i64 a0_0, .slice p_a0_1 a0_1.length c_a0_1]))], [(i153, AObj.row false ([.int .i64 x138, .slice p143 rs139.length c144]))], oseg p143 (ints rs139.flatten), [(i172, AObj.row false ([.int .i64 x158, .slice p162 rs159.length c163]))], oseg p162 (ints rs159.flatten), oseg p180 (ints xs177), [(i203, AObj.row false ([.int .i64 x188, .slice p193 rs189.length c194]))], oseg p193 (ints rs189.flatten)] ∧ Am.Sub [(1, .slice p_a1 a1.length c_a1), (2, .pointer (some ⟨i101, 0, none⟩)), (6, .pointer (some ⟨i153, 0, none⟩)), (7, .int .i64 x140), (8, .pointer (some ⟨i172, 0, none⟩)), (9, .slice p180 xs177.length c181), (10, .pointer (some ⟨i203, 0, none⟩)), (11, .int .i64 x190), (51, .bool b223)] t') ?_ ?_
      · skip
        refine AX.region ?_
        refine AO.c rfl (s_loadN (vs := [.int .i64 x188, .slice p193 rs189.length c194]) Try.isAgg38 Try.sizeOf38 rfl rfl (row_cells (S207.get (k := 0) rfl))) ?_
        refine AO.c rfl (s_loadN (vs := [.int .i64 x138, .slice p143 rs139.length c144]) Try.isAgg38 Try.sizeOf38 rfl rfl (row_cells (S207.get (k := 5) rfl))) ?_
        obtain ⟨b227, h228, hd229⟩ := bnd_some hb225
        refine AO.c rfl (o_call (vs := [.agg [.int .i64 x188, .slice p193 rs189.length c194].toArray, .agg [.int .i64 x138, .slice p143 rs139.length c144].toArray]) rfl Try.call25 (W_laws_eqSchedule fu G206 x188 p193 c194 rs189 a197 (S207.oview (k := 1) rfl B196 (flat_len1 a197 rfl)) x138 p143 c144 rs139 a147 (S207.oview (k := 6) rfl B146 (flat_len1 a147 rfl)) b227 h228)) ?_
        refine AO.p rfl (p_not rfl) ?_
        refine AO.p rfl (p_move rfl) ?_
        refine AO.cases (d := 47) rfl (fun c231 => ?_) (fun c231 => ?_)
        · have hd232 := bif_t c231 hd229
          refine AO.gn rfl rfl rfl ?_
          refine AO.gn rfl rfl rfl ?_
          refine AO.gn rfl rfl rfl ?_
          refine AO.p rfl (p_pickT rfl rfl) ?_
          refine AO.nil ?_
          have S233 := S207.front 1 rfl
          have S234 := S233.front 1 rfl
          have S235 := S234.front 2 rfl
          have S236 := S235.front 4 rfl
          have S237 := S236.front 4 rfl
          have S238 := S237.front 6 rfl
          have S239 := S238.front 6 rfl
          have S240 := S239.front 9 rfl
          have S241 := S240.keep 8
          exact ⟨true, (some_inj hd232), S241, Sub.cons' rfl rfl (Sub.cons' rfl rfl (Sub.cons' rfl rfl (Sub.cons' rfl rfl (Sub.cons' rfl rfl (Sub.cons' rfl rfl (Sub.cons' rfl rfl (Sub.cons' rfl rfl (Sub.cons' rfl rfl (Sub.nil _)))))))))⟩
        · have hd242 := bif_f c231 hd229
          refine AO.gp rfl rfl rfl (p_move rfl) ?_
          refine AO.gp rfl rfl rfl (p_move rfl) ?_
          refine AO.gp rfl rfl rfl (p_neq rfl rfl) ?_
          refine AO.p rfl (p_pickF rfl rfl) ?_
          refine AO.nil ?_
          have S243 := S207.front 1 rfl
          have S244 := S243.front 1 rfl
          have S245 := S244.front 2 rfl
          have S246 := S245.front 4 rfl
          have S247 := S246.front 4 rfl
          have S248 := S247.front 6 rfl
          have S249 := S248.front 6 rfl
          have S250 := S249.front 9 rfl
          have S251 := S250.keep 8
          exact ⟨(!decide (x190 = x140)), (some_inj hd242), S251, Sub.cons' rfl rfl (Sub.cons' rfl rfl (Sub.cons' rfl rfl (Sub.cons' rfl rfl (Sub.cons' rfl rfl (Sub.cons' rfl rfl (Sub.cons' rfl rfl (Sub.cons' rfl rfl (Sub.cons' rfl rfl (Sub.nil _)))))))))⟩
      · rintro t' G253 ⟨b223, rfl, S252, hsub254⟩
        refine AX.sub hsub254 ?_
        refine AX.cond rfl (fun c255 => ?_) (fun c255 => ?_)
        · have hd256 := bif_t c255 hd226
          refine AX.seq ?_
          refine AX.region ?_
          refine AO.p rfl (p_assign rfl) ?_
          refine AO.nil ?_
          refine AX.ret ?_
          obtain rfl := some_inj hd256
          exact ⟨.inr rfl, _, res1 rfl (rv_tmp rfl), rfl, (flatB_ok rfl), S252.hold⟩
        · have hd257 := bif_f c255 hd226
          refine AX.skip ?_
          refine AX.seq ?_
          refine AX.seq ?_
          refine DR.startS [false, false, true, true, false] mix (by kernel_rfl) (fun hst => ?_)
          refine DR.r rfl rfl (r_loadN (vs := [.int .i64 x158, .slice p162 rs159.length c163]) rfl Try.isAgg38 Try.sizeOf38 rfl) (many_row (row_cells (S252.get (k := 3) rfl)) (bel_cons (.of_flat0 rfl) (bel_cons (S252.oin (k := 4) rfl B165).bel bel_nil))) ?_
          refine DR.r rfl rfl (r_loadN (vs := [.int .i64 a0_0, .slice p_a0_1 a0_1.length c_a0_1]) rfl Try.isAgg33 Try.sizeOf33 rfl) (many_row (row_cells (S252.get (k := 0) rfl)) (bel_cons (.of_flat0 rfl) (bel_cons (S252.view v_a0_1).inn.bel bel_nil))) ?_
          obtain ⟨⟨x258, rs259⟩, h260, hd261⟩ := bnd_some hd257
          obtain ⟨_, G268, hc267, p262, c263, rfl, S269, B265, a266⟩ := W_laws_toSchedule fu G253 a0_0 p_a0_1 c_a0_1 a0_1 a_a0_1 (S252.view v_a0_1) x258 rs259 h260
          have S270 := S252.call S269
          refine DR.w rfl rfl (o_call (vs := [.agg [.int .i64 a0_0, .slice p_a0_1 a0_1.length c_a0_1].toArray]) rfl Try.call22 hc267) (S269.len) ?_
          obtain ⟨b271, h272, hd273⟩ := bnd_some hd261
          refine DR.w rfl rfl (o_call (vs := [.agg [.int .i64 x158, .slice p162 rs159.length c163].toArray, .agg [.int .i64 x258, .slice p262 rs259.length c263].toArray]) rfl Try.call25 (W_laws_eqSchedule fu G268 x158 p162 c163 rs159 a166 (S270.oview (k := 5) rfl B165 (flat_len1 a166 rfl)) x258 p262 c263 rs259 a266 (S270.oview (k := 0) rfl B265 (flat_len1 a266 rfl)) b271 h272)) (Nat.le_refl _) ?_
          refine DR.p rfl rfl (p_not rfl) ?_
          refine DR.nil 5 [(0, 2)] hst (by kernel_rfl) ⟨(rdN (fun h => S269.hold _ h)), trivial⟩ ?_
          refine AX.cond rfl (fun c275 => ?_) (fun c275 => ?_)
          · have hd276 := bif_t c275 hd273
            refine AX.seq ?_
            refine AX.region ?_
            refine AO.p rfl (p_assign rfl) ?_
            refine AO.nil ?_
            refine AX.ret ?_
            obtain rfl := some_inj hd276
            exact ⟨.inr rfl, _, res1 rfl (rv_tmp rfl), rfl, (flatB_ok rfl), S270.hold⟩
          · have hd277 := bif_f c275 hd273
            refine AX.skip ?_
            refine AX.seq ?_
            refine AX.seq ?_
            refine AX.region ?_
            refine AO.p rfl (p_move rfl) ?_
            refine AO.p rfl (p_move rfl) ?_
            obtain ⟨xs278, h279, hd280⟩ := bnd_some hd277
            obtain ⟨_, G286, hc285, p281, c282, rfl, S287, B284⟩ := W_laws_toInt64S fu G268 p_a1 c_a1 a1 (S270.view v_a1) xs278 h279
            have S288 := S270.call S287
            refine AO.c rfl (o_call (vs := [.slice p_a1 a1.length c_a1]) rfl Try.call23 hc285) ?_
            obtain ⟨b289, h290, hd291⟩ := bnd_some hd280
            refine AO.c rfl (o_call (vs := [.slice p180 xs177.length c181, .slice p281 xs278.length c282]) rfl Try.call26 (W_laws_eqInt64S fu G286 p180 c181 xs177 (S288.oview (k := 7) rfl B183 (ints_len1 rfl)) p281 c282 xs278 (S288.oview (k := 0) rfl B284 (ints_len1 rfl)) b289 h290)) ?_
            refine AO.p rfl (p_not rfl) ?_
            refine AO.nil ?_
            refine AX.cond rfl (fun c293 => ?_) (fun c293 => ?_)
            · have hd294 := bif_t c293 hd291
              refine AX.seq ?_
              refine AX.region ?_
              refine AO.p rfl (p_assign rfl) ?_
              refine AO.nil ?_
              refine AX.ret ?_
              obtain rfl := some_inj hd294
              exact ⟨.inr rfl, _, res1 rfl (rv_tmp rfl), rfl, (flatB_ok rfl), S288.hold⟩
            · have hd295 := bif_f c293 hd291
              refine AX.skip ?_
              refine AX.seq ?_
              refine AX.region ?_
              refine AO.p rfl (p_assign rfl) ?_
              refine AO.nil ?_
              refine AX.seq ?_
              refine AX.region ?_
              refine AO.c rfl (s_loadN (vs := [.int .i64 x158, .slice p162 rs159.length c163]) Try.isAgg38 Try.sizeOf38 rfl rfl (row_cells (S288.get (k := 5) rfl))) ?_
              refine AO.p rfl (p_move rfl) ?_
              have S296 := S288.front 6 rfl
              obtain ⟨⟨x297, rs298⟩, h299, hd300⟩ := bnd_some hd295
              obtain ⟨_, G304, hc303, rfl, S305, l301, a302⟩ := W_laws_markSchedule fu G286 x158 p162 c163 rs159 a166 B165 1 (S296.onodup (k := 0) rfl) (S296.omem (k := 0) rfl) x297 rs298 h299
              have S306 := St.callM (A := [oseg p162 (ints rs159.flatten)]) S296 S305 (by simp)
              refine AO.c rfl (o_call (vs := [.agg [.int .i64 x158, .slice p162 rs159.length c163].toArray, .int .i64 1]) rfl Try.call27 hc303) ?_
              refine AO.p rfl (p_assign rfl) ?_
              refine AO.nil ?_
              refine AX.seq ?_
              refine AX.region ?_
              refine AO.p rfl (p_move rfl) ?_
              refine AO.p rfl (p_move rfl) ?_
              have S307 := S306.front 7 rfl
              obtain ⟨⟨x308, xs309⟩, h310, hd311⟩ := bnd_some hd300
              obtain ⟨_, G314, hc313, rfl, S315, l312⟩ := W_laws_markInt64S fu G304 p180 c181 xs177 B183 x297 (S307.onodup (k := 0) rfl) (S307.omem (k := 0) rfl) x308 xs309 h310
              have S316 := St.callM (A := [oseg p180 (ints xs177)]) S307 S315 (by simp)
              refine AO.c rfl (o_call (vs := [.slice p180 xs177.length c181, .int .i64 x297]) rfl Try.call28 hc313) ?_
              refine AO.p rfl (p_assign rfl) ?_
              refine AO.nil ?_
              refine AX.seq ?_
              obtain ⟨r333, hb334, hd335⟩ := bnd_some hd311
              refine AX.cut (fun t' H' => ∃ (b332 : Bool), b332 = r333 ∧ St [] H H' [[(i101, AObj.row false ([.int .i64 a0_0, .slice p_a0_1 a0_1.length c_a0_1]))], [(i153, AObj.row false ([.int .i64 x138, .slice p143 rs139.length c144]))], oseg p143 (ints rs139.flatten), [(i203, AObj.row false ([.int .i64 x188, .slice p193 rs189.length c194]))], oseg p193 (ints rs189.flatten)] ∧ Am.Sub [(1, .slice p_a1 a1.length c_a1), (2, .pointer (some ⟨i101, 0, none⟩)), (6, .pointer (some ⟨i153, 0, none⟩)), (7, .int .i64 x140), (10, .pointer (some ⟨i203, 0, none⟩)), (80, .bool b332)] t') ?_ ?_
              · skip
                refine AX.region ?_
                refine AO.p rfl (p_move rfl) ?_
                refine AO.p rfl (p_lss rfl rfl) ?_
                refine AO.p rfl (p_move rfl) ?_
                refine AO.cases (d := 70) rfl (fun c336 => ?_) (fun c336 => ?_)
                · have hd337 := bif_t c336 hb334
                  refine AO.gn rfl rfl rfl ?_
                  refine AO.gn rfl rfl rfl ?_
                  refine AO.gn rfl rfl rfl ?_
                  refine AO.gn rfl rfl rfl ?_
                  refine AO.p rfl (p_pickT rfl rfl) ?_
                  refine AO.p rfl (p_move rfl) ?_
                  refine AO.gn rfl rfl rfl ?_
                  refine AO.gn rfl rfl rfl ?_
                  refine AO.gn rfl rfl rfl ?_
                  refine AO.p rfl (p_pickT rfl rfl) ?_
                  refine AO.nil ?_
                  have S338 := S316.front 9 rfl
                  have S339 := S338.front 9 rfl
                  have S340 := S339.front 8 rfl
                  have S341 := S340.front 8 rfl
                  have S342 := S341.front 8 rfl
                  have S343 := S342.keep 5
                  exact ⟨true, (some_inj hd337), S343, Sub.cons' rfl rfl (Sub.cons' rfl rfl (Sub.cons' rfl rfl (Sub.cons' rfl rfl (Sub.cons' rfl rfl (Sub.cons' rfl rfl (Sub.nil _))))))⟩
                · have hd344 := bif_f c336 hb334
                  refine AO.gc rfl rfl rfl (s_loadN (vs := [.int .i64 x188, .slice p193 rs189.length c194]) Try.isAgg38 Try.sizeOf38 rfl rfl (row_cells (S316.get (k := 8) rfl))) ?_
                  refine AO.gc rfl rfl rfl (s_loadN (vs := [.int .i64 x138, .slice p143 rs139.length c144]) Try.isAgg38 Try.sizeOf38 rfl rfl (row_cells (S316.get (k := 5) rfl))) ?_
                  obtain ⟨b345, h346, hd347⟩ := bnd_some hd344
                  refine AO.gc rfl rfl rfl (o_call (vs := [.agg [.int .i64 x188, .slice p193 rs189.length c194].toArray, .agg [.int .i64 x138, .slice p143 rs139.length c144].toArray]) rfl Try.call25 (W_laws_eqSchedule fu G314 x188 p193 c194 rs189 a197 (S316.oview (k := 9) rfl B196 (flat_len1 a197 rfl)) x138 p143 c144 rs139 a147 (S316.oview (k := 6) rfl B146 (flat_len1 a147 rfl)) b345 h346)) ?_
                  refine AO.gp rfl rfl rfl (p_not rfl) ?_
                  refine AO.p rfl (p_pickF rfl rfl) ?_
                  refine AO.p rfl (p_move rfl) ?_
                  refine AO.cases (d := 76) rfl (fun c349 => ?_) (fun c349 => ?_)
                  · have hd350 := bif_t c349 hd347
                    refine AO.gn rfl rfl rfl ?_
                    refine AO.gn rfl rfl rfl ?_
                    refine AO.gn rfl rfl rfl ?_
                    refine AO.p rfl (p_pickT rfl rfl) ?_
                    refine AO.nil ?_
                    have S351 := S316.front 9 rfl
                    have S352 := S351.front 9 rfl
                    have S353 := S352.front 8 rfl
                    have S354 := S353.front 8 rfl
                    have S355 := S354.front 8 rfl
                    have S356 := S355.keep 5
                    exact ⟨true, (some_inj hd350), S356, Sub.cons' rfl rfl (Sub.cons' rfl rfl (Sub.cons' rfl rfl (Sub.cons' rfl rfl (Sub.cons' rfl rfl (Sub.cons' rfl rfl (Sub.nil _))))))⟩
                  · have hd357 := bif_f c349 hd347
                    refine AO.gp rfl rfl rfl (p_move rfl) ?_
                    refine AO.gp rfl rfl rfl (p_move rfl) ?_
                    refine AO.gp rfl rfl rfl (p_neq rfl rfl) ?_
                    refine AO.p rfl (p_pickF rfl rfl) ?_
                    refine AO.nil ?_
                    have S358 := S316.front 9 rfl
                    have S359 := S358.front 9 rfl
                    have S360 := S359.front 8 rfl
                    have S361 := S360.front 8 rfl
                    have S362 := S361.front 8 rfl
                    have S363 := S362.keep 5
                    exact ⟨(!decide (x190 = x140)), (some_inj hd357), S363, Sub.cons' rfl rfl (Sub.cons' rfl rfl (Sub.cons' rfl rfl (Sub.cons' rfl rfl (Sub.cons' rfl rfl (Sub.cons' rfl rfl (Sub.nil _))))))⟩
              · rintro t' G365 ⟨b332, rfl, S364, hsub366⟩
                refine AX.sub hsub366 ?_
                refine AX.cond rfl (fun c367 => ?_) (fun c367 => ?_)
                · have hd368 := bif_t c367 hd335
                  refine AX.seq ?_
                  refine AX.region ?_
                  refine AO.p rfl (p_assign rfl) ?_
                  refine AO.nil ?_
                  refine AX.ret ?_
                  obtain rfl := some_inj hd368
                  exact ⟨.inr rfl, _, res1 rfl (rv_tmp rfl), rfl, (flatB_ok rfl), S364.hold⟩
                · have hd369 := bif_f c367 hd335
                  refine AX.skip ?_
                  refine AX.seq ?_
                  refine AX.region ?_
                  refine AO.p rfl (p_assign rfl) ?_
                  refine AO.nil ?_
                  refine AX.seq ?_
                  refine AX.region ?_
                  refine AO.c rfl (s_loadN (vs := [.int .i64 x188, .slice p193 rs189.length c194]) Try.isAgg38 Try.sizeOf38 rfl rfl (row_cells (S364.get (k := 3) rfl))) ?_
                  refine AO.p rfl (p_move rfl) ?_
                  have S370 := S364.front 4 rfl
                  obtain ⟨⟨x371, rs372⟩, h373, hd374⟩ := bnd_some hd369
                  obtain ⟨_, G378, hc377, rfl, S379, l375, a376⟩ := W_laws_markSchedule fu G365 x188 p193 c194 rs189 a197 B196 1 (S370.onodup (k := 0) rfl) (S370.omem (k := 0) rfl) x371 rs372 h373
                  have S380 := St.callM (A := [oseg p193 (ints rs189.flatten)]) S370 S379 (by simp)
                  refine AO.c rfl (o_call (vs := [.agg [.int .i64 x188, .slice p193 rs189.length c194].toArray, .int .i64 1]) rfl Try.call27 hc377) ?_
                  refine AO.p rfl (p_assign rfl) ?_
                  refine AO.nil ?_
                  refine AX.seq ?_
                  refine AX.region ?_
                  refine AO.p rfl (p_assign rfl) ?_
                  refine AO.nil ?_
                  refine AX.seq ?_
                  refine AX.region ?_
                  refine AO.c rfl (s_loadN (vs := [.int .i64 x188, .slice p193 rs189.length c194]) Try.isAgg38 Try.sizeOf38 rfl rfl (row_cells (S380.get (k := 4) rfl))) ?_
                  refine AO.p rfl (p_move rfl) ?_
                  obtain ⟨x381, h382, hd383⟩ := bnd_some hd374
                  refine AO.c rfl (o_call (vs := [.agg [.int .i64 x188, .slice p193 rs189.length c194].toArray, .int .i64 1]) rfl Try.call29 (by have h' := W_laws_heldSchedule fu G378 x188 p193 c194 rs372 a376 (by rw [show List.length rs372 = rs189.length from l375]; exact (S380.oview (k := 0) rfl B196 (flat_len1 a376 l375))) 1 x381 h382; rw [show List.length rs372 = rs189.length from l375] at h'; exact h')) ?_
                  refine AO.p rfl (p_assign rfl) ?_
                  refine AO.nil ?_
                  refine AX.seq ?_
                  refine AX.seq ?_
                  refine AX.region ?_
                  refine AO.p rfl (p_move rfl) ?_
                  refine AO.p rfl (p_lss rfl rfl) ?_
                  refine AO.nil ?_
                  refine AX.cond rfl (fun c385 => ?_) (fun c385 => ?_)
                  · have hd386 := bif_t c385 hd383
                    refine AX.seq ?_
                    refine AX.region ?_
                    refine AO.p rfl (p_assign rfl) ?_
                    refine AO.nil ?_
                    refine AX.ret ?_
                    obtain rfl := some_inj hd386
                    exact ⟨.inr rfl, _, res1 rfl (rv_tmp rfl), rfl, (flatB_ok rfl), S380.hold⟩
                  · have hd387 := bif_f c385 hd383
                    refine AX.skip ?_
                    refine AX.seq ?_
                    refine AX.seq ?_
                    refine AX.region ?_
                    refine AO.p rfl (p_move rfl) ?_
                    refine AO.p rfl (p_move rfl) ?_
                    refine AO.p rfl (p_neq rfl rfl) ?_
                    refine AO.nil ?_
                    refine AX.cond rfl (fun c388 => ?_) (fun c388 => ?_)
                    · have hd389 := bif_t c388 hd387
                      refine AX.seq ?_
                      refine AX.region ?_
                      refine AO.p rfl (p_assign rfl) ?_
                      refine AO.nil ?_
                      refine AX.ret ?_
                      obtain rfl := some_inj hd389
                      exact ⟨.inr rfl, _, res1 rfl (rv_tmp rfl), rfl, (flatB_ok rfl), S380.hold⟩
                    · have hd390 := bif_f c388 hd387
                      refine AX.skip ?_
                      refine AX.seq ?_
                      refine AX.region ?_
                      refine AO.c rfl (s_loadN (vs := [.int .i64 a0_0, .slice p_a0_1 a0_1.length c_a0_1]) Try.isAgg33 Try.sizeOf33 rfl rfl (row_cells (S380.get (k := 1) rfl))) ?_
                      obtain ⟨⟨x391, rs392⟩, h393, hd394⟩ := bnd_some hd390
                      obtain ⟨_, G401, hc400, p395, c396, rfl, S402, B398, a399⟩ := W_laws_toSchedule fu G378 a0_0 p_a0_1 c_a0_1 a0_1 a_a0_1 (S380.view v_a0_1) x391 rs392 h393
                      have S403 := S380.call S402
                      refine AO.c rfl (o_call (vs := [.agg [.int .i64 a0_0, .slice p_a0_1 a0_1.length c_a0_1].toArray]) rfl Try.call22 hc400) ?_
                      refine AO.p rfl (p_move rfl) ?_
                      obtain ⟨xs404, h405, hd406⟩ := bnd_some hd394
                      obtain ⟨_, G412, hc411, p407, c408, rfl, S413, B410⟩ := W_laws_toInt64S fu G401 p_a1 c_a1 a1 (S403.view v_a1) xs404 h405
                      have S414 := S403.call S413
                      refine AO.c rfl (o_call (vs := [.slice p_a1 a1.length c_a1]) rfl Try.call23 hc411) ?_
                      obtain ⟨⟨x415, rs416, x417⟩, h418, hd419⟩ := bnd_some hd406
                      obtain ⟨_, G426, hc425, p420, c421, rfl, S427, B423, a424⟩ := W_impl_ReorderRounds fu G412 x391 p395 c396 rs392 a399 (S414.oview (k := 1) rfl B398 (flat_len1 a399 rfl)) p407 c408 xs404 (S414.oview (k := 0) rfl B410 (ints_len1 rfl)) x415 rs416 x417 h418
                      have S428 := S414.call S427
                      refine AO.c rfl (o_call (vs := [.agg [.int .i64 x391, .slice p395 rs392.length c396].toArray, .slice p407 xs404.length c408]) rfl Try.call24 hc425) ?_
                      refine AO.p rfl (p_move rfl) ?_
                      refine AO.p rfl (p_extract rfl rfl) ?_
                      refine AO.p rfl (p_extract rfl rfl) ?_
                      obtain ⟨G429, i430, hii430, hHG429, S431⟩ := S428.new (AObj.row false ([.int .i64 0, .slice none 0 0]))
                      refine AO.c rfl (s_alloc (i := i430) (cs := [.int .i64 0, .slice none 0 0]) Try.zeroValue38 rfl rfl hii430 hHG429) ?_
                      obtain ⟨G433, hHG433, S434⟩ := S431.set (k := 0) (i := i430) rfl (AObj.row false ([.int .i64 x415, .slice p420 rs416.length c421]))
                      refine AO.s (s_storeAll (vs := [.int .i64 x415, .slice p420 rs416.length c421]) Try.sizeOf38 rfl rfl (ones_list rfl) (S431.get (k := 0) rfl) rfl rfl hHG433) ?_
                      refine AO.p rfl (p_assign rfl) ?_
                      refine AO.nil ?_
                      refine AX.seq ?_
                      obtain ⟨r445, hb446, hd447⟩ := bnd_some hd419
                      refine AX.cut (fun t' H' => ∃ (b444 : Bool), b444 = r445 ∧ St [] H H' [[(i203, AObj.row false ([.int .i64 x188, .slice p193 rs189.length c194]))], oseg p193 (ints rs372.flatten)] ∧ Am.Sub [(10, .pointer (some ⟨i203, 0, none⟩)), (13, .int .i64 x371), (108, .bool b444)] t') ?_ ?_
                      · skip
                        refine AX.region ?_
                        refine AO.c rfl (s_loadN (vs := [.int .i64 x415, .slice p420 rs416.length c421]) Try.isAgg38 Try.sizeOf38 rfl rfl (row_cells (S434.get (k := 0) rfl))) ?_
                        refine AO.c rfl (s_loadN (vs := [.int .i64 x138, .slice p143 rs139.length c144]) Try.isAgg38 Try.sizeOf38 rfl rfl (row_cells (S434.get (k := 6) rfl))) ?_
                        obtain ⟨b448, h449, hd450⟩ := bnd_some hb446
                        refine AO.c rfl (o_call (vs := [.agg [.int .i64 x415, .slice p420 rs416.length c421].toArray, .agg [.int .i64 x138, .slice p143 rs139.length c144].toArray]) rfl Try.call25 (W_laws_eqSchedule fu G433 x415 p420 c421 rs416 a424 (S434.oview (k := 1) rfl B423 (flat_len1 a424 rfl)) x138 p143 c144 rs139 a147 (S434.oview (k := 7) rfl B146 (flat_len1 a147 rfl)) b448 h449)) ?_
                        refine AO.p rfl (p_not rfl) ?_
                        refine AO.p rfl (p_move rfl) ?_
                        refine AO.cases (d := 104) rfl (fun c452 => ?_) (fun c452 => ?_)
                        · have hd453 := bif_t c452 hd450
                          refine AO.gn rfl rfl rfl ?_
                          refine AO.gn rfl rfl rfl ?_
                          refine AO.gn rfl rfl rfl ?_
                          refine AO.p rfl (p_pickT rfl rfl) ?_
                          refine AO.nil ?_
                          have S454 := S434.front 4 rfl
                          have S455 := S454.front 8 rfl
                          have S456 := S455.keep 2
                          exact ⟨true, (some_inj hd453), S456, Sub.cons' rfl rfl (Sub.cons' rfl rfl (Sub.cons' rfl rfl (Sub.nil _)))⟩
                        · have hd457 := bif_f c452 hd450
                          refine AO.gp rfl rfl rfl (p_move rfl) ?_
                          refine AO.gp rfl rfl rfl (p_move rfl) ?_
                          refine AO.gp rfl rfl rfl (p_neq rfl rfl) ?_
                          refine AO.p rfl (p_pickF rfl rfl) ?_
                          refine AO.nil ?_
                          have S458 := S434.front 4 rfl
                          have S459 := S458.front 8 rfl
                          have S460 := S459.keep 2
                          exact ⟨(!decide (x417 = x140)), (some_inj hd457), S460, Sub.cons' rfl rfl (Sub.cons' rfl rfl (Sub.cons' rfl rfl (Sub.nil _)))⟩
                      · rintro t' G462 ⟨b444, rfl, S461, hsub463⟩
                        refine AX.sub hsub463 ?_
                        refine AX.cond rfl (fun c464 => ?_) (fun c464 => ?_)
                        · have hd465 := bif_t c464 hd447
                          refine AX.seq ?_
                          refine AX.region ?_
                          refine AO.p rfl (p_assign rfl) ?_
                          refine AO.nil ?_
                          refine AX.ret ?_
                          obtain rfl := some_inj hd465
                          exact ⟨.inr rfl, _, res1 rfl (rv_tmp rfl), rfl, (flatB_ok rfl), S461.hold⟩
                        · have hd466 := bif_f c464 hd447
                          refine AX.skip ?_
                          refine AX.seq ?_
                          refine AX.region ?_
                          refine AO.p rfl (p_assign rfl) ?_
                          refine AO.nil ?_
                          refine AX.seq ?_
                          refine AX.region ?_
                          refine AO.c rfl (s_loadN (vs := [.int .i64 x188, .slice p193 rs189.length c194]) Try.isAgg38 Try.sizeOf38 rfl rfl (row_cells (S461.get (k := 0) rfl))) ?_
                          refine AO.p rfl (p_move rfl) ?_
                          obtain ⟨x467, h468, hd469⟩ := bnd_some hd466
                          refine AO.c rfl (o_call (vs := [.agg [.int .i64 x188, .slice p193 rs189.length c194].toArray, .int .i64 1]) rfl Try.call29 (by have h' := W_laws_heldSchedule fu G462 x188 p193 c194 rs372 a376 (by rw [show List.length rs372 = rs189.length from l375]; exact (S461.oview (k := 1) rfl B196 (flat_len1 a376 l375))) 1 x467 h468; rw [show List.length rs372 = rs189.length from l375] at h'; exact h')) ?_
                          refine AO.p rfl (p_assign rfl) ?_
                          refine AO.nil ?_
                          refine AX.seq ?_
                          refine AX.seq ?_
                          refine AX.region ?_
                          refine AO.p rfl (p_move rfl) ?_
                          refine AO.p rfl (p_lss rfl rfl) ?_
                          refine AO.nil ?_
                          refine AX.cond rfl (fun c471 => ?_) (fun c471 => ?_)
                          · have hd472 := bif_t c471 hd469
                            refine AX.seq ?_
                            refine AX.region ?_
                            refine AO.p rfl (p_assign rfl) ?_
                            refine AO.nil ?_
                            refine AX.ret ?_
                            obtain rfl := some_inj hd472
                            exact ⟨.inr rfl, _, res1 rfl (rv_tmp rfl), rfl, (flatB_ok rfl), S461.hold⟩
                          · have hd473 := bif_f c471 hd469
                            refine AX.skip ?_
                            refine AX.seq ?_
                            refine AX.seq ?_
                            refine AX.region ?_
                            refine AO.p rfl (p_move rfl) ?_
                            refine AO.p rfl (p_move rfl) ?_
                            refine AO.p rfl (p_neq rfl rfl) ?_
                            refine AO.nil ?_
                            refine AX.cond rfl (fun c474 => ?_) (fun c474 => ?_)
                            · have hd475 := bif_t c474 hd473
                              refine AX.seq ?_
                              refine AX.region ?_
                              refine AO.p rfl (p_assign rfl) ?_
                              refine AO.nil ?_
                              refine AX.ret ?_
                              obtain rfl := some_inj hd475
                              exact ⟨.inr rfl, _, res1 rfl (rv_tmp rfl), rfl, (flatB_ok rfl), S461.hold⟩
                            · have hd476 := bif_f c474 hd473
                              refine AX.skip ?_
                              refine AX.seq ?_
                              refine AX.region ?_
                              refine AO.p rfl (p_assign rfl) ?_
                              refine AO.nil ?_
                              refine AX.ret ?_
                              obtain rfl := some_inj hd476
                              exact ⟨.inr rfl, _, res1 rfl (rv_tmp rfl), rfl, (flatB_ok rfl), S461.hold⟩

set_option maxHeartbeats 4000000 in
theorem W_laws_FnExactRenumberTeams (fu : Nat) (H : AHeap) (a0_0 : Int) (p_a0_1 : Option Addr) (c_a0_1 : Nat) (a0_1 : List (List Int)) (a_a0_1 : All 14 a0_1) (v_a0_1 : Vw H p_a0_1 a0_1.length c_a0_1 (ints a0_1.flatten)) (p_a1 : Option Addr) (c_a1 : Nat) (a1 : List Int) (v_a1 : Vw H p_a1 a1.length c_a1 (ints a1)) (r0 : Bool) (hd : D_laws_FnExactRenumberTeams fu a0_0 a0_1 a1 = some r0) : ACall Try.prog 8 [.agg [.int .i64 a0_0, .slice p_a0_1 a0_1.length c_a0_1].toArray, .slice p_a1 a1.length c_a1] H (.bool r0) H := by
  refine ACall.bodyP (N := 117) [(0, .agg [.int .i64 a0_0, .slice p_a0_1 a0_1.length c_a0_1].toArray), (1, .slice p_a1 a1.length c_a1)] Try.func8 rfl rfl rfl rfl ?_
  unfold D_laws_FnExactRenumberTeams at hd
  have S0 : St [] H H [] := St.nil H
  refine AX.seq ?_
  refine AX.region ?_
  obtain ⟨G100, i101, hii101, hHG100, S102⟩ := S0.new (AObj.row false ([.int .i64 a0_0, .slice p_a0_1 a0_1.length c_a0_1]))
  refine AO.c rfl (s_box (i := i101) (cs := [.int .i64 a0_0, .slice p_a0_1 a0_1.length c_a0_1]) rfl hii101 rfl hHG100) ?_
  refine AO.p rfl (p_assign rfl) ?_
  refine AO.nil ?_
  refine AX.seq ?_
  refine AX.seq ?_
  refine AX.region ?_
  refine AO.p rfl (p_move rfl) ?_
  refine AO.p rfl (p_len_slice rfl Try.underlying34) ?_
  refine AO.p rfl (p_gtr rfl rfl) ?_
  refine AO.nil ?_
  refine AX.cond rfl (fun c104 => ?_) (fun c104 => ?_)
  · have hd105 := bif_t c104 hd
    refine AX.seq ?_
    refine AX.region ?_
    refine AO.p rfl (p_assign rfl) ?_
    refine AO.nil ?_
    refine AX.ret ?_
    obtain rfl := some_inj hd105
    exact ⟨.inr rfl, _, res1 rfl (rv_tmp rfl), rfl, (flatB_ok rfl), S102.hold⟩
  · have hd106 := bif_f c104 hd
    refine AX.skip ?_
    refine AX.seq ?_
    refine AX.region ?_
    refine AO.p rfl (p_assign rfl) ?_
    refine AO.nil ?_
    refine AX.seq ?_
    refine AX.region ?_
    refine AO.c rfl (s_loadN (vs := [.int .i64 a0_0, .slice p_a0_1 a0_1.length c_a0_1]) Try.isAgg33 Try.sizeOf33 rfl rfl (row_cells (S102.get (k := 0) rfl))) ?_
    refine AO.p rfl (p_move rfl) ?_
    obtain ⟨x107, h108, hd109⟩ := bnd_some hd106
    refine AO.c rfl (o_call (vs := [.agg [.int .i64 a0_0, .slice p_a0_1 a0_1.length c_a0_1].toArray, .int .i64 1048576]) rfl Try.call20 (W_laws_szSchedule fu G100 a0_0 p_a0_1 c_a0_1 a0_1 a_a0_1 (S102.view v_a0_1) 1048576 x107 h108)) ?_
    refine AO.p rfl (p_assign rfl) ?_
    refine AO.nil ?_
    refine AX.seq ?_
    refine AX.seq ?_
    refine AX.region ?_
    refine AO.p rfl (p_move rfl) ?_
    refine AO.p rfl (p_lss rfl rfl) ?_
    refine AO.nil ?_
    refine AX.cond rfl (fun c111 => ?_) (fun c111 => ?_)
    · have hd112 := bif_t c111 hd109
      refine AX.seq ?_
      refine AX.region ?_
      refine AO.p rfl (p_assign rfl) ?_
      refine AO.nil ?_
      refine AX.ret ?_
      obtain rfl := some_inj hd112
      exact ⟨.inr rfl, _, res1 rfl (rv_tmp rfl), rfl, (flatB_ok rfl), S102.hold⟩
    · have hd113 := bif_f c111 hd109
      refine AX.skip ?_
      refine AX.seq ?_
      refine AX.region ?_
      refine AO.c rfl (s_loadN (vs := [.int .i64 a0_0, .slice p_a0_1 a0_1.length c_a0_1]) Try.isAgg33 Try.sizeOf33 rfl rfl (row_cells (S102.get (k := 0) rfl))) ?_
      obtain ⟨⟨x114, rs115⟩, h116, hd117⟩ := bnd_some hd113
      obtain ⟨_, G124, hc123, p118, c119, rfl, S125, B121, a122⟩ := W_laws_toSchedule fu G100 a0_0 p_a0_1 c_a0_1 a0_1 a_a0_1 (S102.view v_a0_1) x114 rs115 h116
      have S126 := S102.call S125
      refine AO.c rfl (o_call (vs := [.agg [.int .i64 a0_0, .slice p_a0_1 a0_1.length c_a0_1].toArray]) rfl Try.call22 hc123) ?_
      refine AO.p rfl (p_move rfl) ?_
      obtain ⟨xs127, h128, hd129⟩ := bnd_some hd117
      obtain ⟨_, G135, hc134, p130, c131, rfl, S136, B133⟩ := W_laws_toInt64S fu G124 p_a1 c_a1 a1 (S126.view v_a1) xs127 h128
      have S137 := S126.call S136
      refine AO.c rfl (o_call (vs := [.slice p_a1 a1.length c_a1]) rfl Try.call23 hc134) ?_
      obtain ⟨⟨x138, rs139, x140⟩, h141, hd142⟩ := bnd_some hd129
      obtain ⟨_, G149, hc148, p143, c144, rfl, S150, B146, a147⟩ := W_spec_RenumberTeams fu G135 x114 p118 c119 rs115 a122 (S137.oview (k := 1) rfl B121 (flat_len1 a122 rfl)) p130 c131 xs127 (S137.oview (k := 0) rfl B133 (ints_len1 rfl)) x138 rs139 x140 h141
      have S151 := S137.call S150
      refine AO.c rfl (o_call (vs := [.agg [.int .i64 x114, .slice p118 rs115.length c119].toArray, .slice p130 xs127.length c131]) rfl Try.call39 hc148) ?_
      refine AO.p rfl (p_move rfl) ?_
      refine AO.p rfl (p_extract rfl rfl) ?_
      refine AO.p rfl (p_extract rfl rfl) ?_
      obtain ⟨G152, i153, hii153, hHG152, S154⟩ := S151.new (AObj.row false ([.int .i64 0, .slice none 0 0]))
      refine AO.c rfl (s_alloc (i := i153) (cs := [.int .i64 0, .slice none 0 0]) Try.zeroValue38 rfl rfl hii153 hHG152) ?_
      obtain ⟨G156, hHG156, S157⟩ := S154.set (k := 0) (i := i153) rfl (AObj.row false ([.int .i64 x138, .slice p143 rs139.length c144]))
      refine AO.s (s_storeAll (vs := [.int .i64 x138, .slice p143 rs139.length c144]) Try.sizeOf38 rfl rfl (ones_list rfl) (S154.get (k := 0) rfl) rfl rfl hHG156) ?_
      refine AO.p rfl (p_assign rfl) ?_
      refine AO.nil ?_
      refine AX.seq ?_
      refine AX.region ?_
      refine AO.c rfl (s_loadN (vs := [.int .i64 a0_0, .slice p_a0_1 a0_1.length c_a0_1]) Try.isAgg33 Try.sizeOf33 rfl rfl (row_cells (S157.get (k := 4) rfl))) ?_
      obtain ⟨⟨x158, rs159⟩, h160, hd161⟩ := bnd_some hd142
      obtain ⟨_, G168, hc167, p162, c163, rfl, S169, B165, a166⟩ := W_laws_toSchedule fu G156 a0_0 p_a0_1 c_a0_1 a0_1 a_a0_1 (S157.view v_a0_1) x158 rs159 h160
      have S170 := S157.call S169
      refine AO.c rfl (o_call (vs := [.agg [.int .i64 a0_0, .slice p_a0_1 a0_1.length c_a0_1].toArray]) rfl Try.call22 hc167) ?_
      obtain ⟨G171, i172, hii172, hHG171, S173⟩ := S170.new (AObj.row false ([.int .i64 0, .slice none 0 0]))
      refine AO.c rfl (s_alloc (i := i172) (cs := [.int .i64 0, .slice none 0 0]) Try.zeroValue38 rfl rfl hii172 hHG171) ?_
      obtain ⟨G175, hHG175, S176⟩ := S173.set (k := 0) (i := i172) rfl (AObj.row false ([.int .i64 x158, .slice p162 rs159.length c163]))
      refine AO.s (s_storeAll (vs := [.int .i64 x158, .slice p162 rs159.length c163]) Try.sizeOf38 rfl rfl (ones_list rfl) (S173.get (k := 0) rfl) rfl rfl hHG175) ?_
      refine AO.nil ?_
      refine AX.seq ?_
      refine AX.region ?_
      refine AO.p rfl (p_move rfl) ?_
      obtain ⟨xs177, h178, hd179⟩ := bnd_some hd161
      obtain ⟨_, G185, hc184, p180, c181, rfl, S186, B183⟩ := W_laws_toInt64S fu G175 p_a1 c_a1 a1 (S176.view v_a1) xs177 h178
      have S187 := S176.call S186
      refine AO.c rfl (o_call (vs := [.slice p_a1 a1.length c_a1]) rfl Try.call23 hc184) ?_
      refine AO.p rfl (p_assign rfl) ?_
      refine AO.nil ?_
      refine AX.seq ?_
      refine AX.region ?_
      refine AO.c rfl (s_loadN (vs := [.int .i64 x158, .slice p162 rs159.length c163]) Try.isAgg38 Try.sizeOf38 rfl rfl (row_cells (S187.get (k := 1) rfl))) ?_
      refine AO.p rfl (p_move rfl) ?_
      obtain ⟨⟨x188, rs189, x190⟩, h191, hd192⟩ := bnd_some hd179
      obtain ⟨_, G199, hc198, p193, c194, rfl, S200, B196, a197⟩ := W_impl_RenumberTeams fu G185 x158 p162 c163 rs159 a166 (S187.oview (k := 2) rfl B165 (flat_len1 a166 rfl)) p180 c181 xs177 (S187.oview (k := 0) rfl B183 (ints_len1 rfl)) x188 rs189 x190 h191
      have S201 := S187.call S200
      refine AO.c rfl (o_call (vs := [.agg [.int .i64 x158, .slice p162 rs159.length c163].toArray, .slice p180 xs177.length c181]) rfl Try.call40 hc198) ?_
      refine AO.p rfl (p_move rfl) ?_
      refine AO.p rfl (p_extract rfl rfl) ?_
      refine AO.p rfl (p_extract rfl rfl) ?_
      obtain ⟨G202, i203, hii203, hHG202, S204⟩ := S201.new (AObj.row false ([.int .i64 0, .slice none 0 0]))
      refine AO.c rfl (s_alloc (i := i203) (cs := [.int .i64 0, .slice none 0 0]) Try.zeroValue38 rfl rfl hii203 hHG202) ?_
      obtain ⟨G206, hHG206, S207⟩ := S204.set (k := 0) (i := i203) rfl (AObj.row false ([.int .i64 x188, .slice p193 rs189.length c194]))
      refine AO.s (s_storeAll (vs := [.int .i64 x188, .slice p193 rs189.length c194]) Try.sizeOf38 rfl rfl (ones_list rfl) (S204.get (k := 0) rfl) rfl rfl hHG206) ?_
      refine AO.p rfl (p_assign rfl) ?_
      refine AO.nil ?_
      refine AX.seq ?_
      obtain ⟨r224, hb225, hd226⟩ := bnd_some hd192
      refine AX.cut (fun t' H' => ∃ (b223 : Bool), b223 = r224 ∧ St [] H H' [[(i101, AObj.row false ([.int .i64 a0_0, .slice p_a0_1 a0_1.length c_a0_1]))], [(i153, AObj.row false ([.int .i64 x138, .slice p143 rs139.length c144]))], oseg p143 (ints rs139.flatten), [(i172, AObj.row false ([.int .i64 x158, .slice p162 rs159.length c163]))], oseg p162 (ints rs159.flatten), oseg p180 (ints xs177), [(i203, AObj.row false ([.int .i64 x188, .slice p193 rs189.length c194]))], oseg p193 (ints rs189.flatten)] ∧ Am.Sub [(1, .slice p_a1 a1.length c_a1), (2, .pointer (some ⟨i101, 0, none⟩)), (6, .pointer (some ⟨i153, 0, none⟩)), (7, .int .i64 x140), (8, .pointer (some ⟨i172, 0, none⟩)), (9, .slice p180 xs177.length c181), (10, .pointer (some ⟨i203, 0, none⟩)), (11, .int .i64 x190), (51, .bool b223)] t') ?_ ?_
      · skip
        refine AX.region ?_
        refine AO.c rfl (s_loadN (vs := [.int .i64 x188, .slice p193 rs189.length c194]) Try.isAgg38 Try.sizeOf38 rfl rfl (row_cells (S207.get (k := 0) rfl))) ?_
        refine AO.c rfl (s_loadN (vs := [.int .i64 x138, .slice p143 rs139.length c144]) Try.isAgg38 Try.sizeOf38 rfl rfl (row_cells (S207.get (k := 5) rfl))) ?_
        obtain ⟨b227, h228, hd229⟩ := bnd_some hb225
        refine AO.c rfl (o_call (vs := [.agg [.int .i64 x188, .slice p193 rs189.length c194].toArray, .agg [.int .i64 x138, .slice p143 rs139.length c144].toArray]) rfl Try.call25 (W_laws_eqSchedule fu G206 x188 p193 c194 rs189 a197 (S207.oview (k := 1) rfl B196 (flat_len1 a197 rfl)) x138 p143 c144 rs139 a147 (S207.oview (k := 6) rfl B146 (flat_len1 a147 rfl)) b227 h228)) ?_
        refine AO.p rfl (p_not rfl) ?_
        refine AO.p rfl (p_move rfl) ?_
        refine AO.cases (d := 47) rfl (fun c231 => ?_) (fun c231 => ?_)
        · have hd232 := bif_t c231 hd229
          refine AO.gn rfl rfl rfl ?_
          refine AO.gn rfl rfl rfl ?_
          refine AO.gn rfl rfl rfl ?_
          refine AO.p rfl (p_pickT rfl rfl) ?_
          refine AO.nil ?_
          have S233 := S207.front 1 rfl
          have S234 := S233.front 1 rfl
          have S235 := S234.front 2 rfl
          have S236 := S235.front 4 rfl
          have S237 := S236.front 4 rfl
          have S238 := S237.front 6 rfl
          have S239 := S238.front 6 rfl
          have S240 := S239.front 9 rfl
          have S241 := S240.keep 8
          exact ⟨true, (some_inj hd232), S241, Sub.cons' rfl rfl (Sub.cons' rfl rfl (Sub.cons' rfl rfl (Sub.cons' rfl rfl (Sub.cons' rfl rfl (Sub.cons' rfl rfl (Sub.cons' rfl rfl (Sub.cons' rfl rfl (Sub.cons' rfl rfl (Sub.nil _)))))))))⟩
        · have hd242 := bif_f c231 hd229
          refine AO.gp rfl rfl rfl (p_move rfl) ?_
          refine AO.gp rfl rfl rfl (p_move rfl) ?_
          refine AO.gp rfl rfl rfl (p_neq rfl rfl) ?_
          refine AO.p rfl (p_pickF rfl rfl) ?_
          refine AO.nil ?_
          have S243 := S207.front 1 rfl
          have S244 := S243.front 1 rfl
          have S245 := S244.front 2 rfl
          have S246 := S245.front 4 rfl
          have S247 := S246.front 4 rfl
          have S248 := S247.front 6 rfl
          have S249 := S248.front 6 rfl
          have S250 := S249.front 9 rfl
          have S251 := S250.keep 8
          exact ⟨(!decide (x190 = x140)), (some_inj hd242), S251, Sub.cons' rfl rfl (Sub.cons' rfl rfl (Sub.cons' rfl rfl (Sub.cons' rfl rfl (Sub.cons' rfl rfl (Sub.cons' rfl rfl (Sub.cons' rfl rfl (Sub.cons' rfl rfl (Sub.cons' rfl rfl (Sub.nil _)))))))))⟩
      · rintro t' G253 ⟨b223, rfl, S252, hsub254⟩
        refine AX.sub hsub254 ?_
        refine AX.cond rfl (fun c255 => ?_) (fun c255 => ?_)
        · have hd256 := bif_t c255 hd226
          refine AX.seq ?_
          refine AX.region ?_
          refine AO.p rfl (p_assign rfl) ?_
          refine AO.nil ?_
          refine AX.ret ?_
          obtain rfl := some_inj hd256
          exact ⟨.inr rfl, _, res1 rfl (rv_tmp rfl), rfl, (flatB_ok rfl), S252.hold⟩
        · have hd257 := bif_f c255 hd226
          refine AX.skip ?_
          refine AX.seq ?_
          refine AX.seq ?_
          refine DR.startS [false, false, true, true, false] mix (by kernel_rfl) (fun hst => ?_)
          refine DR.r rfl rfl (r_loadN (vs := [.int .i64 x158, .slice p162 rs159.length c163]) rfl Try.isAgg38 Try.sizeOf38 rfl) (many_row (row_cells (S252.get (k := 3) rfl)) (bel_cons (.of_flat0 rfl) (bel_cons (S252.oin (k := 4) rfl B165).bel bel_nil))) ?_
          refine DR.r rfl rfl (r_loadN (vs := [.int .i64 a0_0, .slice p_a0_1 a0_1.length c_a0_1]) rfl Try.isAgg33 Try.sizeOf33 rfl) (many_row (row_cells (S252.get (k := 0) rfl)) (bel_cons (.of_flat0 rfl) (bel_cons (S252.view v_a0_1).inn.bel bel_nil))) ?_
          obtain ⟨⟨x258, rs259⟩, h260, hd261⟩ := bnd_some hd257
          obtain ⟨_, G268, hc267, p262, c263, rfl, S269, B265, a266⟩ := W_laws_toSchedule fu G253 a0_0 p_a0_1 c_a0_1 a0_1 a_a0_1 (S252.view v_a0_1) x258 rs259 h260
          have S270 := S252.call S269
          refine DR.w rfl rfl (o_call (vs := [.agg [.int .i64 a0_0, .slice p_a0_1 a0_1.length c_a0_1].toArray]) rfl Try.call22 hc267) (S269.len) ?_
          obtain ⟨b271, h272, hd273⟩ := bnd_some hd261
          refine DR.w rfl rfl (o_call (vs := [.agg [.int .i64 x158, .slice p162 rs159.length c163].toArray, .agg [.int .i64 x258, .slice p262 rs259.length c263].toArray]) rfl Try.call25 (W_laws_eqSchedule fu G268 x158 p162 c163 rs159 a166 (S270.oview (k := 5) rfl B165 (flat_len1 a166 rfl)) x258 p262 c263 rs259 a266 (S270.oview (k := 0) rfl B265 (flat_len1 a266 rfl)) b271 h272)) (Nat.le_refl _) ?_
          refine DR.p rfl rfl (p_not rfl) ?_
          refine DR.nil 5 [(0, 2)] hst (by kernel_rfl) ⟨(rdN (fun h => S269.hold _ h)), trivial⟩ ?_
          refine AX.cond rfl (fun c275 => ?_) (fun c275 => ?_)
          · have hd276 := bif_t c275 hd273
            refine AX.seq ?_
            refine AX.region ?_
            refine AO.p rfl (p_assign rfl) ?_
            refine AO.nil ?_
            refine AX.ret ?_
            obtain rfl := some_inj hd276
            exact ⟨.inr rfl, _, res1 rfl (rv_tmp rfl), rfl, (flatB_ok rfl), S270.hold⟩
          · have hd277 := bif_f c275 hd273
            refine AX.skip ?_
            refine AX.seq ?_
            refine AX.seq ?_
            refine AX.region ?_
            refine AO.p rfl (p_move rfl) ?_
            refine AO.p rfl (p_move rfl) ?_
            obtain ⟨xs278, h279, hd280⟩ := bnd_some hd277
            obtain ⟨_, G286, hc285, p281, c282, rfl, S287, B284⟩ := W_laws_toInt64S fu G268 p_a1 c_a1 a1 (S270.view v_a1) xs278 h279
            have S288 := S270.call S287
            refine AO.c rfl (o_call (vs := [.slice p_a1 a1.length c_a1]) rfl Try.call23 hc285) ?_
            obtain ⟨b289, h290, hd291⟩ := bnd_some hd280
            refine AO.c rfl (o_call (vs := [.slice p180 xs177.length c181, .slice p281 xs278.length c282]) rfl Try.call26 (W_laws_eqInt64S fu G286 p180 c181 xs177 (S288.oview (k := 7) rfl B183 (ints_len1 rfl)) p281 c282 xs278 (S288.oview (k := 0) rfl B284 (ints_len1 rfl)) b289 h290)) ?_
            refine AO.p rfl (p_not rfl) ?_
            refine AO.nil ?_
            refine AX.cond rfl (fun c293 => ?_) (fun c293 => ?_)
            · have hd294 := bif_t c293 hd291
              refine AX.seq ?_
              refine AX.region ?_
              refine AO.p rfl (p_assign rfl) ?_
              refine AO.nil ?_
              refine AX.ret ?_
              obtain rfl := some_inj hd294
              exact ⟨.inr rfl, _, res1 rfl (rv_tmp rfl), rfl, (flatB_ok rfl), S288.hold⟩
            · have hd295 := bif_f c293 hd291
              refine AX.skip ?_
              refine AX.seq ?_
              refine AX.region ?_
              refine AO.p rfl (p_assign rfl) ?_
              refine AO.nil ?_
              refine AX.seq ?_
              refine AX.region ?_
              refine AO.c rfl (s_loadN (vs := [.int .i64 x158, .slice p162 rs159.length c163]) Try.isAgg38 Try.sizeOf38 rfl rfl (row_cells (S288.get (k := 5) rfl))) ?_
              refine AO.p rfl (p_move rfl) ?_
              have S296 := S288.front 6 rfl
              obtain ⟨⟨x297, rs298⟩, h299, hd300⟩ := bnd_some hd295
              obtain ⟨_, G304, hc303, rfl, S305, l301, a302⟩ := W_laws_markSchedule fu G286 x158 p162 c163 rs159 a166 B165 1 (S296.onodup (k := 0) rfl) (S296.omem (k := 0) rfl) x297 rs298 h299
              have S306 := St.callM (A := [oseg p162 (ints rs159.flatten)]) S296 S305 (by simp)
              refine AO.c rfl (o_call (vs := [.agg [.int .i64 x158, .slice p162 rs159.length c163].toArray, .int .i64 1]) rfl Try.call27 hc303) ?_
              refine AO.p rfl (p_assign rfl) ?_
              refine AO.nil ?_
              refine AX.seq ?_
              refine AX.region ?_
              refine AO.p rfl (p_move rfl) ?_
              refine AO.p rfl (p_move rfl) ?_
              have S307 := S306.front 7 rfl
              obtain ⟨⟨x308, xs309⟩, h310, hd311⟩ := bnd_some hd300
              obtain ⟨_, G314, hc313, rfl, S315, l312⟩ := W_laws_markInt64S fu G304 p180 c181 xs177 B183 x297 (S307.onodup (k := 0) rfl) (S307.omem (k := 0) rfl) x308 xs309 h310
              have S316 := St.callM (A := [oseg p180 (ints xs177)]) S307 S315 (by simp)
              refine AO.c rfl (o_call (vs := [.slice p180 xs177.length c181, .int .i64 x297]) rfl Try.call28 hc313) ?_
              refine AO.p rfl (p_assign rfl) ?_
              refine AO.nil ?_
              refine AX.seq ?_
              obtain ⟨r333, hb334, hd335⟩ := bnd_some hd311
              refine AX.cut (fun t' H' => ∃ (b332 : Bool), b332 = r333 ∧ St [] H H' [[(i101, AObj.row false ([.int .i64 a0_0, .slice p_a0_1 a0_1.length c_a0_1]))], [(i153, AObj.row false ([.int .i64 x138, .slice p143 rs139.length c144]))], oseg p143 (ints rs139.flatten), [(i203, AObj.row false ([.int .i64 x188, .slice p193 rs189.length c194]))], oseg p193 (ints rs189.flatten)] ∧ Am.Sub [(1, .slice p_a1 a1.length c_a1), (2, .pointer (some ⟨i101, 0, none⟩)), (6, .pointer (some ⟨i153, 0, none⟩)), (7, .int .i64 x140), (10, .pointer (some ⟨i203, 0, none⟩)), (80, .bool b332)] t') ?_ ?_
              · skip
                refine AX.region ?_
                refine AO.p rfl (p_move rfl) ?_
                refine AO.p rfl (p_lss rfl rfl) ?_
                refine AO.p rfl (p_move rfl) ?_
                refine AO.cases (d := 70) rfl (fun c336 => ?_) (fun c336 => ?_)
                · have hd337 := bif_t c336 hb334
                  refine AO.gn rfl rfl rfl ?_
                  refine AO.gn rfl rfl rfl ?_
                  refine AO.gn rfl rfl rfl ?_
                  refine AO.gn rfl rfl rfl ?_
                  refine AO.p rfl (p_pickT rfl rfl) ?_
                  refine AO.p rfl (p_move rfl) ?_
                  refine AO.gn rfl rfl rfl ?_
                  refine AO.gn rfl rfl rfl ?_
                  refine AO.gn rfl rfl rfl ?_
                  refine AO.p rfl (p_pickT rfl rfl) ?_
                  refine AO.nil ?_
                  have S338 := S316.front 9 rfl
                  have S339 := S338.front 9 rfl
                  have S340 := S339.front 8 rfl
                  have S341 := S340.front 8 rfl
                  have S342 := S341.front 8 rfl
                  have S343 := S342.keep 5
                  exact ⟨true, (some_inj hd337), S343, Sub.cons' rfl rfl (Sub.cons' rfl rfl (Sub.cons' rfl rfl (Sub.cons' rfl rfl (Sub.cons' rfl rfl (Sub.cons' rfl rfl (Sub.nil _))))))⟩
                · have hd344 := bif_f c336 hb334
                  refine AO.gc rfl rfl rfl (s_loadN (vs := [.int .i64 x188, .slice p193 rs189.length c194]) Try.isAgg38 Try.sizeOf38 rfl rfl (row_cells (S316.get (k := 8) rfl))) ?_
                  refine AO.gc rfl rfl rfl (s_loadN (vs := [.int .i64 x138, .slice p143 rs139.length c144]) Try.isAgg38 Try.sizeOf38 rfl rfl (row_cells (S316.get (k := 5) rfl))) ?_
                  obtain ⟨b345, h346, hd347⟩ := bnd_some hd344
                  refine AO.gc rfl rfl rfl (o_call (vs := [.agg [.int .i64 x188, .slice p193 rs189.length c194].toArray, .agg [.int .i64 x138, .slice p143 rs139.length c144].toArray]) rfl Try.call25 (W_laws_eqSchedule fu G314 x188 p193 c194 rs189 a197 (S316.oview (k := 9) rfl B196 (flat_len1 a197 rfl)) x138 p143 c144 rs139 a147 (S316.oview (k := 6) rfl B146 (flat_len1 a147 rfl)) b345 h346)) ?_
                  refine AO.gp rfl rfl rfl (p_not rfl) ?_
                  refine AO.p rfl (p_pickF rfl rfl) ?_
                  refine AO.p rfl (p_move rfl) ?_
                  refine AO.cases (d := 76) rfl (fun c349 => ?_) (fun c349 => ?_)
                  · have hd350 := bif_t c349 hd347
                    refine AO.gn rfl rfl rfl ?_
                    refine AO.gn rfl rfl rfl ?_
                    refine AO.gn rfl rfl rfl ?_
                    refine AO.p rfl (p_pickT rfl rfl) ?_
                    refine AO.nil ?_
                    have S351 := S316.front 9 rfl
                    have S352 := S351.front 9 rfl
                    have S353 := S352.front 8 rfl
                    have S354 := S353.front 8 rfl
                    have S355 := S354.front 8 rfl
                    have S356 := S355.keep 5
                    exact ⟨true, (some_inj hd350), S356, Sub.cons' rfl rfl (Sub.cons' rfl rfl (Sub.cons' rfl rfl (Sub.cons' rfl rfl (Sub.cons' rfl rfl (Sub.cons' rfl rfl (Sub.nil _))))))⟩
                  · have hd357 := bif_f c349 hd347
                    refine AO.gp rfl rfl rfl (p_move rfl) ?_
                    refine AO.gp rfl rfl rfl (p_move rfl) ?_
                    refine AO.gp rfl rfl rfl (p_neq rfl rfl) ?_
                    refine AO.p rfl (p_pickF rfl rfl) ?_
                    refine AO.nil ?_
                    have S358 := S316.front 9 rfl
                    have S359 := S358.front 9 rfl
                    have S360 := S359.front 8 rfl
                    have S361 := S360.front 8 rfl
                    have S362 := S361.front 8 rfl
                    have S363 := S362.keep 5
                    exact ⟨(!decide (x190 = x140)), (some_inj hd357), S363, Sub.cons' rfl rfl (Sub.cons' rfl rfl (Sub.cons' rfl rfl (Sub.cons' rfl rfl (Sub.cons' rfl rfl (Sub.cons' rfl rfl (Sub.nil _))))))⟩
              · rintro t' G365 ⟨b332, rfl, S364, hsub366⟩
                refine AX.sub hsub366 ?_
                refine AX.cond rfl (fun c367 => ?_) (fun c367 => ?_)
                · have hd368 := bif_t c367 hd335
                  refine AX.seq ?_
                  refine AX.region ?_
                  refine AO.p rfl (p_assign rfl) ?_
                  refine AO.nil ?_
                  refine AX.ret ?_
                  obtain rfl := some_inj hd368
                  exact ⟨.inr rfl, _, res1 rfl (rv_tmp rfl), rfl, (flatB_ok rfl), S364.hold⟩
                · have hd369 := bif_f c367 hd335
                  refine AX.skip ?_
                  refine AX.seq ?_
                  refine AX.region ?_
                  refine AO.p rfl (p_assign rfl) ?_
                  refine AO.nil ?_
                  refine AX.seq ?_
                  refine AX.region ?_
                  refine AO.c rfl (s_loadN (vs := [.int .i64 x188, .slice p193 rs189.length c194]) Try.isAgg38 Try.sizeOf38 rfl rfl (row_cells (S364.get (k := 3) rfl))) ?_
                  refine AO.p rfl (p_move rfl) ?_
                  have S370 := S364.front 4 rfl
                  obtain ⟨⟨x371, rs372⟩, h373, hd374⟩ := bnd_some hd369
                  obtain ⟨_, G378, hc377, rfl, S379, l375, a376⟩ := W_laws_markSchedule fu G365 x188 p193 c194 rs189 a197 B196 1 (S370.onodup (k := 0) rfl) (S370.omem (k := 0) rfl) x371 rs372 h373
                  have S380 := St.callM (A := [oseg p193 (ints rs189.flatten)]) S370 S379 (by simp)
                  refine AO.c rfl (o_call (vs := [.agg [.int .i64 x188, .slice p193 rs189.length c194].toArray, .int .i64 1]) rfl Try.call27 hc377) ?_
                  refine AO.p rfl (p_assign rfl) ?_
                  refine AO.nil ?_
                  refine AX.seq ?_
                  refine AX.region ?_
                  refine AO.p rfl (p_assign rfl) ?_
                  refine AO.nil ?_
                  refine AX.seq ?_
                  refine AX.region ?_
                  refine AO.c rfl (s_loadN (vs := [.int .i64 x188, .slice p193 rs189.length c194]) Try.isAgg38 Try.sizeOf38 rfl rfl (row_cells (S380.get (k := 4) rfl))) ?_
                  refine AO.p rfl (p_move rfl) ?_
                  obtain ⟨x381, h382, hd383⟩ := bnd_some hd374
                  refine AO.c rfl (o_call (vs := [.agg [.int .i64 x188, .slice p193 rs189.length c194].toArray, .int .i64 1]) rfl Try.call29 (by have h' := W_laws_heldSchedule fu G378 x188 p193 c194 rs372 a376 (by rw [show List.length rs372 = rs189.length from l375]; exact (S380.oview (k := 0) rfl B196 (flat_len1 a376 l375))) 1 x381 h382; rw [show List.length rs372 = rs189.length from l375] at h'; exact h')) ?_
                  refine AO.p rfl (p_assign rfl) ?_
                  refine AO.nil ?_
                  refine AX.seq ?_
                  refine AX.seq ?_
                  refine AX.region ?_
                  refine AO.p rfl (p_move rfl) ?_
                  refine AO.p rfl (p_lss rfl rfl) ?_
                  refine AO.nil ?_
                  refine AX.cond rfl (fun c385 => ?_) (fun c385 => ?_)
                  · have hd386 := bif_t c385 hd383
                    refine AX.seq ?_
                    refine AX.region ?_
                    refine AO.p rfl (p_assign rfl) ?_
                    refine AO.nil ?_
                    refine AX.ret ?_
                    obtain rfl := some_inj hd386
                    exact ⟨.inr rfl, _, res1 rfl (rv_tmp rfl), rfl, (flatB_ok rfl), S380.hold⟩
                  · have hd387 := bif_f c385 hd383
                    refine AX.skip ?_
                    refine AX.seq ?_
                    refine AX.seq ?_
                    refine AX.region ?_
                    refine AO.p rfl (p_move rfl) ?_
                    refine AO.p rfl (p_move rfl) ?_
                    refine AO.p rfl (p_neq rfl rfl) ?_
                    refine AO.nil ?_
                    refine AX.cond rfl (fun c388 => ?_) (fun c388 => ?_)
                    · have hd389 := bif_t c388 hd387
                      refine AX.seq ?_
                      refine AX.region ?_
                      refine AO.p rfl (p_assign rfl) ?_
                      refine AO.nil ?_
                      refine AX.ret ?_
                      obtain rfl := some_inj hd389
                      exact ⟨.inr rfl, _, res1 rfl (rv_tmp rfl), rfl, (flatB_ok rfl), S380.hold⟩
                    · have hd390 := bif_f c388 hd387
                      refine AX.skip ?_
                      refine AX.seq ?_
                      refine AX.region ?_
                      refine AO.c rfl (s_loadN (vs := [.int .i64 a0_0, .slice p_a0_1 a0_1.length c_a0_1]) Try.isAgg33 Try.sizeOf33 rfl rfl (row_cells (S380.get (k := 1) rfl))) ?_
                      obtain ⟨⟨x391, rs392⟩, h393, hd394⟩ := bnd_some hd390
                      obtain ⟨_, G401, hc400, p395, c396, rfl, S402, B398, a399⟩ := W_laws_toSchedule fu G378 a0_0 p_a0_1 c_a0_1 a0_1 a_a0_1 (S380.view v_a0_1) x391 rs392 h393
                      have S403 := S380.call S402
                      refine AO.c rfl (o_call (vs := [.agg [.int .i64 a0_0, .slice p_a0_1 a0_1.length c_a0_1].toArray]) rfl Try.call22 hc400) ?_
                      refine AO.p rfl (p_move rfl) ?_
                      obtain ⟨xs404, h405, hd406⟩ := bnd_some hd394
                      obtain ⟨_, G412, hc411, p407, c408, rfl, S413, B410⟩ := W_laws_toInt64S fu G401 p_a1 c_a1 a1 (S403.view v_a1) xs404 h405
                      have S414 := S403.call S413
                      refine AO.c rfl (o_call (vs := [.slice p_a1 a1.length c_a1]) rfl Try.call23 hc411) ?_
                      obtain ⟨⟨x415, rs416, x417⟩, h418, hd419⟩ := bnd_some hd406
                      obtain ⟨_, G426, hc425, p420, c421, rfl, S427, B423, a424⟩ := W_impl_RenumberTeams fu G412 x391 p395 c396 rs392 a399 (S414.oview (k := 1) rfl B398 (flat_len1 a399 rfl)) p407 c408 xs404 (S414.oview (k := 0) rfl B410 (ints_len1 rfl)) x415 rs416 x417 h418
                      have S428 := S414.call S427
                      refine AO.c rfl (o_call (vs := [.agg [.int .i64 x391, .slice p395 rs392.length c396].toArray, .slice p407 xs404.length c408]) rfl Try.call40 hc425) ?_
                      refine AO.p rfl (p_move rfl) ?_
                      refine AO.p rfl (p_extract rfl rfl) ?_
                      refine AO.p rfl (p_extract rfl rfl) ?_
                      obtain ⟨G429, i430, hii430, hHG429, S431⟩ := S428.new (AObj.row false ([.int .i64 0, .slice none 0 0]))
                      refine AO.c rfl (s_alloc (i := i430) (cs := [.int .i64 0, .slice none 0 0]) Try.zeroValue38 rfl rfl hii430 hHG429) ?_
                      obtain ⟨G433, hHG433, S434⟩ := S431.set (k := 0) (i := i430) rfl (AObj.row false ([.int .i64 x415, .slice p420 rs416.length c421]))
                      refine AO.s (s_storeAll (vs := [.int .i64 x415, .slice p420 rs416.length c421]) Try.sizeOf38 rfl rfl (ones_list rfl) (S431.get (k := 0) rfl) rfl rfl hHG433) ?_
                      refine AO.p rfl (p_assign rfl) ?_
                      refine AO.nil ?_
                      refine AX.seq ?_
                      obtain ⟨r445, hb446, hd447⟩ := bnd_some hd419
                      refine AX.cut (fun t' H' => ∃ (b444 : Bool), b444 = r445 ∧ St [] H H' [[(i203, AObj.row false ([.int .i64 x188, .slice p193 rs189.length c194]))], oseg p193 (ints rs372.flatten)] ∧ Am.Sub [(10, .pointer (some ⟨i203, 0, none⟩)), (13, .int .i64 x371), (108, .bool b444)] t') ?_ ?_
                      · skip
                        refine AX.region ?_
                        refine AO.c rfl (s_loadN (vs := [.int .i64 x415, .slice p420 rs416.length c421]) Try.isAgg38 Try.sizeOf38 rfl rfl (row_cells (S434.get (k := 0) rfl))) ?_
                        refine AO.c rfl (s_loadN (vs := [.int .i64 x138, .slice p143 rs139.length c144]) Try.isAgg38 Try.sizeOf38 rfl rfl (row_cells (S434.get (k := 6) rfl))) ?_
                        obtain ⟨b448, h449, hd450⟩ := bnd_some hb446
                        refine AO.c rfl (o_call (vs := [.agg [.int .i64 x415, .slice p420 rs416.length c421].toArray, .agg [.int .i64 x138, .slice p143 rs139.length c144].toArray]) rfl Try.call25 (W_laws_eqSchedule fu G433 x415 p420 c421 rs416 a424 (S434.oview (k := 1) rfl B423 (flat_len1 a424 rfl)) x138 p143 c144 rs139 a147 (S434.oview (k := 7) rfl B146 (flat_len1 a147 rfl)) b448 h449)) ?_
                        refine AO.p rfl (p_not rfl) ?_
                        refine AO.p rfl (p_move rfl) ?_
                        refine AO.cases (d := 104) rfl (fun c452 => ?_) (fun c452 => ?_)
                        · have hd453 := bif_t c452 hd450
                          refine AO.gn rfl rfl rfl ?_
                          refine AO.gn rfl rfl rfl ?_
                          refine AO.gn rfl rfl rfl ?_
                          refine AO.p rfl (p_pickT rfl rfl) ?_
                          refine AO.nil ?_
                          have S454 := S434.front 4 rfl
                          have S455 := S454.front 8 rfl
                          have S456 := S455.keep 2
                          exact ⟨true, (some_inj hd453), S456, Sub.cons' rfl rfl (Sub.cons' rfl rfl (Sub.cons' rfl rfl (Sub.nil _)))⟩
                        · have hd457 := bif_f c452 hd450
                          refine AO.gp rfl rfl rfl (p_move rfl) ?_
                          refine AO.gp rfl rfl rfl (p_move rfl) ?_
                          refine AO.gp rfl rfl rfl (p_neq rfl rfl) ?_
                          refine AO.p rfl (p_pickF rfl rfl) ?_
                          refine AO.nil ?_
                          have S458 := S434.front 4 rfl
                          have S459 := S458.front 8 rfl
                          have S460 := S459.keep 2
                          exact ⟨(!decide (x417 = x140)), (some_inj hd457), S460, Sub.cons' rfl rfl (Sub.cons' rfl rfl (Sub.cons' rfl rfl (Sub.nil _)))⟩
                      · rintro t' G462 ⟨b444, rfl, S461, hsub463⟩
                        refine AX.sub hsub463 ?_
                        refine AX.cond rfl (fun c464 => ?_) (fun c464 => ?_)
                        · have hd465 := bif_t c464 hd447
                          refine AX.seq ?_
                          refine AX.region ?_
                          refine AO.p rfl (p_assign rfl) ?_
                          refine AO.nil ?_
                          refine AX.ret ?_
                          obtain rfl := some_inj hd465
                          exact ⟨.inr rfl, _, res1 rfl (rv_tmp rfl), rfl, (flatB_ok rfl), S461.hold⟩
                        · have hd466 := bif_f c464 hd447
                          refine AX.skip ?_
                          refine AX.seq ?_
                          refine AX.region ?_
                          refine AO.p rfl (p_assign rfl) ?_
                          refine AO.nil ?_
                          refine AX.seq ?_
                          refine AX.region ?_
                          refine AO.c rfl (s_loadN (vs := [.int .i64 x188, .slice p193 rs189.length c194]) Try.isAgg38 Try.sizeOf38 rfl rfl (row_cells (S461.get (k := 0) rfl))) ?_
                          refine AO.p rfl (p_move rfl) ?_
                          obtain ⟨x467, h468, hd469⟩ := bnd_some hd466
                          refine AO.c rfl (o_call (vs := [.agg [.int .i64 x188, .slice p193 rs189.length c194].toArray, .int .i64 1]) rfl Try.call29 (by have h' := W_laws_heldSchedule fu G462 x188 p193 c194 rs372 a376 (by rw [show List.length rs372 = rs189.length from l375]; exact (S461.oview (k := 1) rfl B196 (flat_len1 a376 l375))) 1 x467 h468; rw [show List.length rs372 = rs189.length from l375] at h'; exact h')) ?_
                          refine AO.p rfl (p_assign rfl) ?_
                          refine AO.nil ?_
                          refine AX.seq ?_
                          refine AX.seq ?_
                          refine AX.region ?_
                          refine AO.p rfl (p_move rfl) ?_
                          refine AO.p rfl (p_lss rfl rfl) ?_
                          refine AO.nil ?_
                          refine AX.cond rfl (fun c471 => ?_) (fun c471 => ?_)
                          · have hd472 := bif_t c471 hd469
                            refine AX.seq ?_
                            refine AX.region ?_
                            refine AO.p rfl (p_assign rfl) ?_
                            refine AO.nil ?_
                            refine AX.ret ?_
                            obtain rfl := some_inj hd472
                            exact ⟨.inr rfl, _, res1 rfl (rv_tmp rfl), rfl, (flatB_ok rfl), S461.hold⟩
                          · have hd473 := bif_f c471 hd469
                            refine AX.skip ?_
                            refine AX.seq ?_
                            refine AX.seq ?_
                            refine AX.region ?_
                            refine AO.p rfl (p_move rfl) ?_
                            refine AO.p rfl (p_move rfl) ?_
                            refine AO.p rfl (p_neq rfl rfl) ?_
                            refine AO.nil ?_
                            refine AX.cond rfl (fun c474 => ?_) (fun c474 => ?_)
                            · have hd475 := bif_t c474 hd473
                              refine AX.seq ?_
                              refine AX.region ?_
                              refine AO.p rfl (p_assign rfl) ?_
                              refine AO.nil ?_
                              refine AX.ret ?_
                              obtain rfl := some_inj hd475
                              exact ⟨.inr rfl, _, res1 rfl (rv_tmp rfl), rfl, (flatB_ok rfl), S461.hold⟩
                            · have hd476 := bif_f c474 hd473
                              refine AX.skip ?_
                              refine AX.seq ?_
                              refine AX.region ?_
                              refine AO.p rfl (p_assign rfl) ?_
                              refine AO.nil ?_
                              refine AX.ret ?_
                              obtain rfl := some_inj hd476
                              exact ⟨.inr rfl, _, res1 rfl (rv_tmp rfl), rfl, (flatB_ok rfl), S461.hold⟩

end Go.Proofs.Ytakfkiahhfdjfaa
