/-
  The program computes that, printed by a program. No condition.
-/
import Derived.Test.YtocaepkkaihiiaaDY
import Derived.Test.YtocaepkkaihiiaaWC
import Derived.Test.YtocaepkkaihiiaaWE
import Derived.Test.YtocaepkkaihiiaaProg
import Derived.KernelRfl
namespace Go.Proofs.Ytocaepkkaihiiaa
open Go Go.RowKit Am
set_option linter.unusedVariables false
set_option linter.unusedSimpArgs false
set_option maxRecDepth 20000
set_option maxHeartbeats 4000000 in
theorem W_laws_FnExactAddRound (fu : Nat) (H : AHeap) (a0_0 : Int) (p_a0_1 : Option Addr) (c_a0_1 : Nat) (a0_1 : List (List Int)) (a_a0_1 : All 14 a0_1) (v_a0_1 : Vw H p_a0_1 a0_1.length c_a0_1 (ints a0_1.flatten)) (a1 : List Int) (h_a1 : a1.length = 14) (r0 : Bool) (hd : D_laws_FnExactAddRound fu a0_0 a0_1 a1 = some r0) : ACall Try.prog 11 [.agg [.int .i64 a0_0, .slice p_a0_1 a0_1.length c_a0_1].toArray, .agg (ints a1).toArray] H (.bool r0) H := by
  refine ACall.bodyP (N := 104) [(0, .agg [.int .i64 a0_0, .slice p_a0_1 a0_1.length c_a0_1].toArray), (1, .agg (ints a1).toArray)] Try.func11 rfl rfl rfl rfl ?_
  unfold D_laws_FnExactAddRound at hd
  have S0 : St [] H H [] := St.nil H
  refine AX.seq ?_
  refine AX.region ?_
  obtain ⟨G100, i101, hii101, hHG100, S102⟩ := S0.new (.row false ([.int .i64 a0_0, .slice p_a0_1 a0_1.length c_a0_1]))
  refine AO.c rfl (s_box (i := i101) (cs := [.int .i64 a0_0, .slice p_a0_1 a0_1.length c_a0_1]) rfl hii101 rfl hHG100) ?_
  obtain ⟨G104, i105, hii105, hHG104, S106⟩ := S102.new (.row false (ints a1))
  refine AO.c rfl (s_box (i := i105) (cs := ints a1) rfl hii105 rfl hHG104) ?_
  refine AO.p rfl (p_assign rfl) ?_
  refine AO.nil ?_
  refine AX.seq ?_
  refine AX.region ?_
  refine AO.p rfl (p_assign rfl) ?_
  refine AO.nil ?_
  refine AX.seq ?_
  refine AX.region ?_
  refine AO.c rfl (s_loadN (vs := [.int .i64 a0_0, .slice p_a0_1 a0_1.length c_a0_1]) Try.isAgg64 Try.sizeOf64 rfl rfl (row_cells (S106.get (k := 1) rfl))) ?_
  refine AO.p rfl (p_move rfl) ?_
  obtain ⟨x108, h109, hd110⟩ := bnd_some hd
  refine AO.c rfl (o_call (vs := [.agg [.int .i64 a0_0, .slice p_a0_1 a0_1.length c_a0_1].toArray, .int .i64 1048576]) rfl Try.call47 (W_laws_szSchedule fu G104 a0_0 p_a0_1 c_a0_1 a0_1 a_a0_1 (S106.view v_a0_1) 1048576 x108 h109)) ?_
  refine AO.p rfl (p_assign rfl) ?_
  refine AO.nil ?_
  refine AX.seq ?_
  refine AX.seq ?_
  refine AX.region ?_
  refine AO.p rfl (p_move rfl) ?_
  refine AO.p rfl (p_lss rfl rfl) ?_
  refine AO.nil ?_
  refine AX.cond rfl (fun c112 => ?_) (fun c112 => ?_)
  · have hd113 := bif_t c112 hd110
    refine AX.seq ?_
    refine AX.region ?_
    refine AO.p rfl (p_assign rfl) ?_
    refine AO.nil ?_
    refine AX.ret ?_
    obtain rfl := some_inj hd113
    exact ⟨.inr rfl, _, res1 rfl (rv_tmp rfl), rfl, (flatB_ok rfl), S106.hold⟩
  · have hd114 := bif_f c112 hd110
    refine AX.skip ?_
    refine AX.seq ?_
    refine DR.startS [false, true, false, true, true, false, false, false, false, true, false] mix (by kernel_rfl) (fun hst => ?_)
    refine DR.r rfl rfl (r_loadN (vs := [.int .i64 a0_0, .slice p_a0_1 a0_1.length c_a0_1]) rfl Try.isAgg64 Try.sizeOf64 rfl) (many_row (row_cells (S106.get (k := 1) rfl)) (bel_cons (.of_flat0 rfl) (bel_cons (S106.view v_a0_1).inn.bel bel_nil))) ?_
    obtain ⟨⟨x115, rs116⟩, h117, hd118⟩ := bnd_some hd114
    obtain ⟨_, G125, hc124, p119, c120, rfl, S126, B122, a123⟩ := W_laws_toSchedule fu G104 a0_0 p_a0_1 c_a0_1 a0_1 a_a0_1 (S106.view v_a0_1) x115 rs116 h117
    have S127 := S106.call S126
    refine DR.w rfl rfl (o_call (vs := [.agg [.int .i64 a0_0, .slice p_a0_1 a0_1.length c_a0_1].toArray]) rfl Try.call49 hc124) (S126.len) ?_
    refine DR.r rfl rfl (r_loadN (vs := ints a1) rfl Try.isAgg22 Try.sizeOf22 (ints_len h_a1)) (many_row (row_cells (S127.get (k := 1) rfl)) bel_ints) ?_
    obtain ⟨xs128, h129, hd130⟩ := bnd_some hd118
    obtain ⟨hc132, l133⟩ := W_laws_toRound fu G125 a1 h_a1 xs128 h129
    refine DR.w rfl rfl (o_call (vs := [.agg (ints a1).toArray]) rfl Try.call16 hc132) (Nat.le_refl _) ?_
    obtain ⟨⟨x134, rs135, x136⟩, h137, hd138⟩ := bnd_some hd130
    obtain ⟨_, G145, hc144, p139, c140, rfl, S146, B142, a143⟩ := W_spec_AddRound fu G125 x115 p119 c120 rs116 a123 (S127.oview (k := 0) rfl B122 (flat_len1 a123 rfl)) xs128 l133 x134 rs135 x136 h137
    have S147 := S127.call S146
    refine DR.w rfl rfl (o_call (vs := [.agg [.int .i64 x115, .slice p119 rs116.length c120].toArray, .agg (ints xs128).toArray]) rfl Try.call48 hc144) (S146.len) ?_
    refine DR.p rfl rfl (p_move rfl) ?_
    refine DR.p rfl rfl (p_extract rfl rfl) ?_
    refine DR.p rfl rfl (p_extract rfl rfl) ?_
    obtain ⟨G148, i149, hii149, hHG148, S150⟩ := S147.new (.row false ([.int .i64 0, .slice none 0 0]))
    refine DR.a rfl rfl hii149 hHG148 (a_alloc Try.zeroValue33 (flat_list rfl)) ?_
    obtain ⟨G152, hHG152, S153⟩ := S150.set (k := 0) (i := i149) rfl (.row false ([.int .i64 x134, .slice p139 rs135.length c140]))
    refine DR.s rfl (s_storeAll (vs := [.int .i64 x134, .slice p139 rs135.length c140]) Try.sizeOf33 rfl rfl (ones_list rfl) (S150.get (k := 0) rfl) rfl rfl hHG152) (set_le hHG152) ?_
    refine DR.p rfl rfl (p_assign rfl) ?_
    refine DR.nil 11 [(2, 1), (8, 1), (8, 3), (8, 4)] hst (by kernel_rfl) ⟨(rdN (fun h => S126.hold _ h)), (fun h => absurd h (by decide)), (fun h => absurd h (by decide)), (fun h => absurd h (by decide)), trivial⟩ ?_
    refine AX.seq ?_
    refine AX.region ?_
    refine AO.c rfl (s_loadN (vs := [.int .i64 a0_0, .slice p_a0_1 a0_1.length c_a0_1]) Try.isAgg64 Try.sizeOf64 rfl rfl (row_cells (S153.get (k := 4) rfl))) ?_
    obtain ⟨⟨x154, rs155⟩, h156, hd157⟩ := bnd_some hd138
    obtain ⟨_, G164, hc163, p158, c159, rfl, S165, B161, a162⟩ := W_laws_toSchedule fu G152 a0_0 p_a0_1 c_a0_1 a0_1 a_a0_1 (S153.view v_a0_1) x154 rs155 h156
    have S166 := S153.call S165
    refine AO.c rfl (o_call (vs := [.agg [.int .i64 a0_0, .slice p_a0_1 a0_1.length c_a0_1].toArray]) rfl Try.call49 hc163) ?_
    obtain ⟨G167, i168, hii168, hHG167, S169⟩ := S166.new (.row false ([.int .i64 0, .slice none 0 0]))
    refine AO.c rfl (s_alloc (i := i168) (cs := [.int .i64 0, .slice none 0 0]) Try.zeroValue33 rfl rfl hii168 hHG167) ?_
    obtain ⟨G171, hHG171, S172⟩ := S169.set (k := 0) (i := i168) rfl (.row false ([.int .i64 x154, .slice p158 rs155.length c159]))
    refine AO.s (s_storeAll (vs := [.int .i64 x154, .slice p158 rs155.length c159]) Try.sizeOf33 rfl rfl (ones_list rfl) (S169.get (k := 0) rfl) rfl rfl hHG171) ?_
    refine AO.nil ?_
    refine AX.seq ?_
    refine DR.startS [false, false, true, true, false, false, false, false, true, false] mix (by kernel_rfl) (fun hst => ?_)
    refine DR.r rfl rfl (r_loadN (vs := [.int .i64 x154, .slice p158 rs155.length c159]) rfl Try.isAgg33 Try.sizeOf33 rfl) (many_row (row_cells (S172.get (k := 0) rfl)) (bel_cons (.of_flat0 rfl) (bel_cons (S172.oin (k := 1) rfl B161).bel bel_nil))) ?_
    refine DR.r rfl rfl (r_loadN (vs := ints a1) rfl Try.isAgg22 Try.sizeOf22 (ints_len h_a1)) (many_row (row_cells (S172.get (k := 5) rfl)) bel_ints) ?_
    obtain ⟨xs173, h174, hd175⟩ := bnd_some hd157
    obtain ⟨hc177, l178⟩ := W_laws_toRound fu G171 a1 h_a1 xs173 h174
    refine DR.w rfl rfl (o_call (vs := [.agg (ints a1).toArray]) rfl Try.call16 hc177) (Nat.le_refl _) ?_
    obtain ⟨⟨x179, rs180, x181⟩, h182, hd183⟩ := bnd_some hd175
    obtain ⟨_, G190, hc189, p184, c185, rfl, S191, B187, a188⟩ := W_impl_AddRound fu G171 x154 p158 c159 rs155 a162 (S172.oview (k := 1) rfl B161 (flat_len1 a162 rfl)) (B161.ne rfl) xs173 l178 x179 rs180 x181 h182
    have S192 := S172.call S191
    refine DR.w rfl rfl (o_call (vs := [.agg [.int .i64 x154, .slice p158 rs155.length c159].toArray, .agg (ints xs173).toArray]) rfl Try.call50 hc189) (S191.len) ?_
    refine DR.p rfl rfl (p_move rfl) ?_
    refine DR.p rfl rfl (p_extract rfl rfl) ?_
    refine DR.p rfl rfl (p_extract rfl rfl) ?_
    obtain ⟨G193, i194, hii194, hHG193, S195⟩ := S192.new (.row false ([.int .i64 0, .slice none 0 0]))
    refine DR.a rfl rfl hii194 hHG193 (a_alloc Try.zeroValue33 (flat_list rfl)) ?_
    obtain ⟨G197, hHG197, S198⟩ := S195.set (k := 0) (i := i194) rfl (.row false ([.int .i64 x179, .slice p184 rs180.length c185]))
    refine DR.s rfl (s_storeAll (vs := [.int .i64 x179, .slice p184 rs180.length c185]) Try.sizeOf33 rfl rfl (ones_list rfl) (S195.get (k := 0) rfl) rfl rfl hHG197) (set_le hHG197) ?_
    refine DR.p rfl rfl (p_assign rfl) ?_
    refine DR.nil 10 [(0, 2), (7, 2), (7, 3)] hst (by kernel_rfl) ⟨(rdN (fun _ => rfl)), (fun h => absurd h (by decide)), (fun h => absurd h (by decide)), trivial⟩ ?_
    refine AX.seq ?_
    obtain ⟨r215, hb216, hd217⟩ := bnd_some hd183
    refine AX.cut (fun t' H' => ∃ (b214 : Bool), b214 = r215 ∧ St [] H H' [[(i101, AObj.row false ([.int .i64 a0_0, .slice p_a0_1 a0_1.length c_a0_1]))], [(i105, AObj.row false (ints a1))], [(i149, AObj.row false ([.int .i64 x134, .slice p139 rs135.length c140]))], oseg p139 (ints rs135.flatten), [(i168, AObj.row false ([.int .i64 x154, .slice p158 rs155.length c159]))], oseg p158 (ints rs155.flatten), [(i194, AObj.row false ([.int .i64 x179, .slice p184 rs180.length c185]))], oseg p184 (ints rs180.flatten)] ∧ Am.Sub [(2, .pointer (some ⟨i101, 0, none⟩)), (3, .pointer (some ⟨i105, 0, none⟩)), (6, .pointer (some ⟨i149, 0, none⟩)), (7, .int .i64 x136), (8, .pointer (some ⟨i168, 0, none⟩)), (9, .pointer (some ⟨i194, 0, none⟩)), (10, .int .i64 x181), (46, .bool b214)] t') ?_ ?_
    · skip
      refine AX.region ?_
      refine AO.c rfl (s_loadN (vs := [.int .i64 x179, .slice p184 rs180.length c185]) Try.isAgg33 Try.sizeOf33 rfl rfl (row_cells (S198.get (k := 0) rfl))) ?_
      refine AO.c rfl (s_loadN (vs := [.int .i64 x134, .slice p139 rs135.length c140]) Try.isAgg33 Try.sizeOf33 rfl rfl (row_cells (S198.get (k := 4) rfl))) ?_
      obtain ⟨b218, h219, hd220⟩ := bnd_some hb216
      refine AO.c rfl (o_call (vs := [.agg [.int .i64 x179, .slice p184 rs180.length c185].toArray, .agg [.int .i64 x134, .slice p139 rs135.length c140].toArray]) rfl Try.call23 (W_laws_eqSchedule fu G197 x179 p184 c185 rs180 a188 (S198.oview (k := 1) rfl B187 (flat_len1 a188 rfl)) x134 p139 c140 rs135 a143 (S198.oview (k := 5) rfl B142 (flat_len1 a143 rfl)) b218 h219)) ?_
      refine AO.p rfl (p_not rfl) ?_
      refine AO.p rfl (p_move rfl) ?_
      refine AO.cases (d := 42) rfl (fun c222 => ?_) (fun c222 => ?_)
      · have hd223 := bif_t c222 hd220
        refine AO.gn rfl rfl rfl ?_
        refine AO.gn rfl rfl rfl ?_
        refine AO.gn rfl rfl rfl ?_
        refine AO.p rfl (p_pickT rfl rfl) ?_
        refine AO.nil ?_
        have S224 := S198.front 1 rfl
        have S225 := S224.front 1 rfl
        have S226 := S225.front 3 rfl
        have S227 := S226.front 3 rfl
        have S228 := S227.front 5 rfl
        have S229 := S228.front 5 rfl
        have S230 := S229.front 7 rfl
        have S231 := S230.front 8 rfl
        have S232 := S231.keep 8
        exact ⟨true, (some_inj hd223), S232, Sub.cons' rfl rfl (Sub.cons' rfl rfl (Sub.cons' rfl rfl (Sub.cons' rfl rfl (Sub.cons' rfl rfl (Sub.cons' rfl rfl (Sub.cons' rfl rfl (Sub.cons' rfl rfl (Sub.nil _))))))))⟩
      · have hd233 := bif_f c222 hd220
        refine AO.gp rfl rfl rfl (p_move rfl) ?_
        refine AO.gp rfl rfl rfl (p_move rfl) ?_
        refine AO.gp rfl rfl rfl (p_neq rfl rfl) ?_
        refine AO.p rfl (p_pickF rfl rfl) ?_
        refine AO.nil ?_
        have S234 := S198.front 1 rfl
        have S235 := S234.front 1 rfl
        have S236 := S235.front 3 rfl
        have S237 := S236.front 3 rfl
        have S238 := S237.front 5 rfl
        have S239 := S238.front 5 rfl
        have S240 := S239.front 7 rfl
        have S241 := S240.front 8 rfl
        have S242 := S241.keep 8
        exact ⟨(!decide (x181 = x136)), (some_inj hd233), S242, Sub.cons' rfl rfl (Sub.cons' rfl rfl (Sub.cons' rfl rfl (Sub.cons' rfl rfl (Sub.cons' rfl rfl (Sub.cons' rfl rfl (Sub.cons' rfl rfl (Sub.cons' rfl rfl (Sub.nil _))))))))⟩
    · rintro t' G244 ⟨b214, rfl, S243, hsub245⟩
      refine AX.sub hsub245 ?_
      refine AX.cond rfl (fun c246 => ?_) (fun c246 => ?_)
      · have hd247 := bif_t c246 hd217
        refine AX.seq ?_
        refine AX.region ?_
        refine AO.p rfl (p_assign rfl) ?_
        refine AO.nil ?_
        refine AX.ret ?_
        obtain rfl := some_inj hd247
        exact ⟨.inr rfl, _, res1 rfl (rv_tmp rfl), rfl, (flatB_ok rfl), S243.hold⟩
      · have hd248 := bif_f c246 hd217
        refine AX.skip ?_
        refine AX.seq ?_
        refine AX.seq ?_
        refine DR.startS [false, false, true, true, false] mix (by kernel_rfl) (fun hst => ?_)
        refine DR.r rfl rfl (r_loadN (vs := [.int .i64 x154, .slice p158 rs155.length c159]) rfl Try.isAgg33 Try.sizeOf33 rfl) (many_row (row_cells (S243.get (k := 4) rfl)) (bel_cons (.of_flat0 rfl) (bel_cons (S243.oin (k := 5) rfl B161).bel bel_nil))) ?_
        refine DR.r rfl rfl (r_loadN (vs := [.int .i64 a0_0, .slice p_a0_1 a0_1.length c_a0_1]) rfl Try.isAgg64 Try.sizeOf64 rfl) (many_row (row_cells (S243.get (k := 0) rfl)) (bel_cons (.of_flat0 rfl) (bel_cons (S243.view v_a0_1).inn.bel bel_nil))) ?_
        obtain ⟨⟨x249, rs250⟩, h251, hd252⟩ := bnd_some hd248
        obtain ⟨_, G259, hc258, p253, c254, rfl, S260, B256, a257⟩ := W_laws_toSchedule fu G244 a0_0 p_a0_1 c_a0_1 a0_1 a_a0_1 (S243.view v_a0_1) x249 rs250 h251
        have S261 := S243.call S260
        refine DR.w rfl rfl (o_call (vs := [.agg [.int .i64 a0_0, .slice p_a0_1 a0_1.length c_a0_1].toArray]) rfl Try.call49 hc258) (S260.len) ?_
        obtain ⟨b262, h263, hd264⟩ := bnd_some hd252
        refine DR.w rfl rfl (o_call (vs := [.agg [.int .i64 x154, .slice p158 rs155.length c159].toArray, .agg [.int .i64 x249, .slice p253 rs250.length c254].toArray]) rfl Try.call23 (W_laws_eqSchedule fu G259 x154 p158 c159 rs155 a162 (S261.oview (k := 6) rfl B161 (flat_len1 a162 rfl)) x249 p253 c254 rs250 a257 (S261.oview (k := 0) rfl B256 (flat_len1 a257 rfl)) b262 h263)) (Nat.le_refl _) ?_
        refine DR.p rfl rfl (p_not rfl) ?_
        refine DR.nil 5 [(0, 2)] hst (by kernel_rfl) ⟨(rdN (fun h => S260.hold _ h)), trivial⟩ ?_
        refine AX.cond rfl (fun c266 => ?_) (fun c266 => ?_)
        · have hd267 := bif_t c266 hd264
          refine AX.seq ?_
          refine AX.region ?_
          refine AO.p rfl (p_assign rfl) ?_
          refine AO.nil ?_
          refine AX.ret ?_
          obtain rfl := some_inj hd267
          exact ⟨.inr rfl, _, res1 rfl (rv_tmp rfl), rfl, (flatB_ok rfl), S261.hold⟩
        · have hd268 := bif_f c266 hd264
          refine AX.skip ?_
          refine AX.seq ?_
          refine AX.region ?_
          refine AO.p rfl (p_assign rfl) ?_
          refine AO.nil ?_
          refine AX.seq ?_
          refine AX.region ?_
          refine AO.c rfl (s_loadN (vs := [.int .i64 x154, .slice p158 rs155.length c159]) Try.isAgg33 Try.sizeOf33 rfl rfl (row_cells (S261.get (k := 5) rfl))) ?_
          refine AO.p rfl (p_move rfl) ?_
          have S269 := S261.front 6 rfl
          obtain ⟨⟨x270, rs271⟩, h272, hd273⟩ := bnd_some hd268
          obtain ⟨_, G277, hc276, rfl, S278, l274, a275⟩ := W_laws_markSchedule fu G259 x154 p158 c159 rs155 a162 B161 1 (S269.onodup (k := 0) rfl) (S269.omem (k := 0) rfl) x270 rs271 h272
          have S279 := St.callM (A := [oseg p158 (ints rs155.flatten)]) S269 S278 (by simp)
          refine AO.c rfl (o_call (vs := [.agg [.int .i64 x154, .slice p158 rs155.length c159].toArray, .int .i64 1]) rfl Try.call24 hc276) ?_
          refine AO.p rfl (p_assign rfl) ?_
          refine AO.nil ?_
          refine AX.seq ?_
          obtain ⟨r297, hb298, hd299⟩ := bnd_some hd273
          refine AX.cut (fun t' H' => ∃ (b296 : Bool), b296 = r297 ∧ St [] H H' [[(i101, AObj.row false ([.int .i64 a0_0, .slice p_a0_1 a0_1.length c_a0_1]))], [(i105, AObj.row false (ints a1))], [(i149, AObj.row false ([.int .i64 x134, .slice p139 rs135.length c140]))], oseg p139 (ints rs135.flatten), [(i194, AObj.row false ([.int .i64 x179, .slice p184 rs180.length c185]))], oseg p184 (ints rs180.flatten)] ∧ Am.Sub [(2, .pointer (some ⟨i101, 0, none⟩)), (3, .pointer (some ⟨i105, 0, none⟩)), (6, .pointer (some ⟨i149, 0, none⟩)), (7, .int .i64 x136), (9, .pointer (some ⟨i194, 0, none⟩)), (67, .bool b296)] t') ?_ ?_
          · skip
            refine AX.region ?_
            refine AO.p rfl (p_move rfl) ?_
            refine AO.p rfl (p_lss rfl rfl) ?_
            refine AO.p rfl (p_move rfl) ?_
            refine AO.cases (d := 57) rfl (fun c300 => ?_) (fun c300 => ?_)
            · have hd301 := bif_t c300 hb298
              refine AO.gn rfl rfl rfl ?_
              refine AO.gn rfl rfl rfl ?_
              refine AO.gn rfl rfl rfl ?_
              refine AO.gn rfl rfl rfl ?_
              refine AO.p rfl (p_pickT rfl rfl) ?_
              refine AO.p rfl (p_move rfl) ?_
              refine AO.gn rfl rfl rfl ?_
              refine AO.gn rfl rfl rfl ?_
              refine AO.gn rfl rfl rfl ?_
              refine AO.p rfl (p_pickT rfl rfl) ?_
              refine AO.nil ?_
              have S302 := S279.front 8 rfl
              have S303 := S302.front 8 rfl
              have S304 := S303.front 7 rfl
              have S305 := S304.front 7 rfl
              have S306 := S305.front 7 rfl
              have S307 := S306.front 7 rfl
              have S308 := S307.keep 6
              exact ⟨true, (some_inj hd301), S308, Sub.cons' rfl rfl (Sub.cons' rfl rfl (Sub.cons' rfl rfl (Sub.cons' rfl rfl (Sub.cons' rfl rfl (Sub.cons' rfl rfl (Sub.nil _))))))⟩
            · have hd309 := bif_f c300 hb298
              refine AO.gc rfl rfl rfl (s_loadN (vs := [.int .i64 x179, .slice p184 rs180.length c185]) Try.isAgg33 Try.sizeOf33 rfl rfl (row_cells (S279.get (k := 7) rfl))) ?_
              refine AO.gc rfl rfl rfl (s_loadN (vs := [.int .i64 x134, .slice p139 rs135.length c140]) Try.isAgg33 Try.sizeOf33 rfl rfl (row_cells (S279.get (k := 4) rfl))) ?_
              obtain ⟨b310, h311, hd312⟩ := bnd_some hd309
              refine AO.gc rfl rfl rfl (o_call (vs := [.agg [.int .i64 x179, .slice p184 rs180.length c185].toArray, .agg [.int .i64 x134, .slice p139 rs135.length c140].toArray]) rfl Try.call23 (W_laws_eqSchedule fu G277 x179 p184 c185 rs180 a188 (S279.oview (k := 8) rfl B187 (flat_len1 a188 rfl)) x134 p139 c140 rs135 a143 (S279.oview (k := 5) rfl B142 (flat_len1 a143 rfl)) b310 h311)) ?_
              refine AO.gp rfl rfl rfl (p_not rfl) ?_
              refine AO.p rfl (p_pickF rfl rfl) ?_
              refine AO.p rfl (p_move rfl) ?_
              refine AO.cases (d := 63) rfl (fun c314 => ?_) (fun c314 => ?_)
              · have hd315 := bif_t c314 hd312
                refine AO.gn rfl rfl rfl ?_
                refine AO.gn rfl rfl rfl ?_
                refine AO.gn rfl rfl rfl ?_
                refine AO.p rfl (p_pickT rfl rfl) ?_
                refine AO.nil ?_
                have S316 := S279.front 8 rfl
                have S317 := S316.front 8 rfl
                have S318 := S317.front 7 rfl
                have S319 := S318.front 7 rfl
                have S320 := S319.front 7 rfl
                have S321 := S320.front 7 rfl
                have S322 := S321.keep 6
                exact ⟨true, (some_inj hd315), S322, Sub.cons' rfl rfl (Sub.cons' rfl rfl (Sub.cons' rfl rfl (Sub.cons' rfl rfl (Sub.cons' rfl rfl (Sub.cons' rfl rfl (Sub.nil _))))))⟩
              · have hd323 := bif_f c314 hd312
                refine AO.gp rfl rfl rfl (p_move rfl) ?_
                refine AO.gp rfl rfl rfl (p_move rfl) ?_
                refine AO.gp rfl rfl rfl (p_neq rfl rfl) ?_
                refine AO.p rfl (p_pickF rfl rfl) ?_
                refine AO.nil ?_
                have S324 := S279.front 8 rfl
                have S325 := S324.front 8 rfl
                have S326 := S325.front 7 rfl
                have S327 := S326.front 7 rfl
                have S328 := S327.front 7 rfl
                have S329 := S328.front 7 rfl
                have S330 := S329.keep 6
                exact ⟨(!decide (x181 = x136)), (some_inj hd323), S330, Sub.cons' rfl rfl (Sub.cons' rfl rfl (Sub.cons' rfl rfl (Sub.cons' rfl rfl (Sub.cons' rfl rfl (Sub.cons' rfl rfl (Sub.nil _))))))⟩
          · rintro t' G332 ⟨b296, rfl, S331, hsub333⟩
            refine AX.sub hsub333 ?_
            refine AX.cond rfl (fun c334 => ?_) (fun c334 => ?_)
            · have hd335 := bif_t c334 hd299
              refine AX.seq ?_
              refine AX.region ?_
              refine AO.p rfl (p_assign rfl) ?_
              refine AO.nil ?_
              refine AX.ret ?_
              obtain rfl := some_inj hd335
              exact ⟨.inr rfl, _, res1 rfl (rv_tmp rfl), rfl, (flatB_ok rfl), S331.hold⟩
            · have hd336 := bif_f c334 hd299
              refine AX.skip ?_
              refine AX.seq ?_
              refine AX.region ?_
              refine AO.p rfl (p_assign rfl) ?_
              refine AO.nil ?_
              refine AX.seq ?_
              refine AX.region ?_
              refine AO.c rfl (s_loadN (vs := [.int .i64 x179, .slice p184 rs180.length c185]) Try.isAgg33 Try.sizeOf33 rfl rfl (row_cells (S331.get (k := 4) rfl))) ?_
              refine AO.p rfl (p_move rfl) ?_
              have S337 := S331.front 5 rfl
              obtain ⟨⟨x338, rs339⟩, h340, hd341⟩ := bnd_some hd336
              obtain ⟨_, G345, hc344, rfl, S346, l342, a343⟩ := W_laws_markSchedule fu G332 x179 p184 c185 rs180 a188 B187 1 (S337.onodup (k := 0) rfl) (S337.omem (k := 0) rfl) x338 rs339 h340
              have S347 := St.callM (A := [oseg p184 (ints rs180.flatten)]) S337 S346 (by simp)
              refine AO.c rfl (o_call (vs := [.agg [.int .i64 x179, .slice p184 rs180.length c185].toArray, .int .i64 1]) rfl Try.call24 hc344) ?_
              refine AO.p rfl (p_assign rfl) ?_
              refine AO.nil ?_
              refine AX.seq ?_
              refine AX.region ?_
              refine AO.p rfl (p_assign rfl) ?_
              refine AO.nil ?_
              refine AX.seq ?_
              refine AX.region ?_
              refine AO.c rfl (s_loadN (vs := [.int .i64 x179, .slice p184 rs180.length c185]) Try.isAgg33 Try.sizeOf33 rfl rfl (row_cells (S347.get (k := 5) rfl))) ?_
              refine AO.p rfl (p_move rfl) ?_
              obtain ⟨x348, h349, hd350⟩ := bnd_some hd341
              refine AO.c rfl (o_call (vs := [.agg [.int .i64 x179, .slice p184 rs180.length c185].toArray, .int .i64 1]) rfl Try.call25 (by have h' := W_laws_heldSchedule fu G345 x179 p184 c185 rs339 a343 (by rw [show List.length rs339 = rs180.length from l342]; exact (S347.oview (k := 0) rfl B187 (flat_len1 a343 l342))) 1 x348 h349; rw [show List.length rs339 = rs180.length from l342] at h'; exact h')) ?_
              refine AO.p rfl (p_assign rfl) ?_
              refine AO.nil ?_
              refine AX.seq ?_
              refine AX.seq ?_
              refine AX.region ?_
              refine AO.p rfl (p_move rfl) ?_
              refine AO.p rfl (p_lss rfl rfl) ?_
              refine AO.nil ?_
              refine AX.cond rfl (fun c352 => ?_) (fun c352 => ?_)
              · have hd353 := bif_t c352 hd350
                refine AX.seq ?_
                refine AX.region ?_
                refine AO.p rfl (p_assign rfl) ?_
                refine AO.nil ?_
                refine AX.ret ?_
                obtain rfl := some_inj hd353
                exact ⟨.inr rfl, _, res1 rfl (rv_tmp rfl), rfl, (flatB_ok rfl), S347.hold⟩
              · have hd354 := bif_f c352 hd350
                refine AX.skip ?_
                refine AX.seq ?_
                refine AX.seq ?_
                refine AX.region ?_
                refine AO.p rfl (p_move rfl) ?_
                refine AO.p rfl (p_move rfl) ?_
                refine AO.p rfl (p_neq rfl rfl) ?_
                refine AO.nil ?_
                refine AX.cond rfl (fun c355 => ?_) (fun c355 => ?_)
                · have hd356 := bif_t c355 hd354
                  refine AX.seq ?_
                  refine AX.region ?_
                  refine AO.p rfl (p_assign rfl) ?_
                  refine AO.nil ?_
                  refine AX.ret ?_
                  obtain rfl := some_inj hd356
                  exact ⟨.inr rfl, _, res1 rfl (rv_tmp rfl), rfl, (flatB_ok rfl), S347.hold⟩
                · have hd357 := bif_f c355 hd354
                  refine AX.skip ?_
                  refine AX.seq ?_
                  refine DR.startS [false, true, false, true, true, false, false, false, false, true, false] mix (by kernel_rfl) (fun hst => ?_)
                  refine DR.r rfl rfl (r_loadN (vs := [.int .i64 a0_0, .slice p_a0_1 a0_1.length c_a0_1]) rfl Try.isAgg64 Try.sizeOf64 rfl) (many_row (row_cells (S347.get (k := 1) rfl)) (bel_cons (.of_flat0 rfl) (bel_cons (S347.view v_a0_1).inn.bel bel_nil))) ?_
                  obtain ⟨⟨x358, rs359⟩, h360, hd361⟩ := bnd_some hd357
                  obtain ⟨_, G368, hc367, p362, c363, rfl, S369, B365, a366⟩ := W_laws_toSchedule fu G345 a0_0 p_a0_1 c_a0_1 a0_1 a_a0_1 (S347.view v_a0_1) x358 rs359 h360
                  have S370 := S347.call S369
                  refine DR.w rfl rfl (o_call (vs := [.agg [.int .i64 a0_0, .slice p_a0_1 a0_1.length c_a0_1].toArray]) rfl Try.call49 hc367) (S369.len) ?_
                  refine DR.r rfl rfl (r_loadN (vs := ints a1) rfl Try.isAgg22 Try.sizeOf22 (ints_len h_a1)) (many_row (row_cells (S370.get (k := 3) rfl)) bel_ints) ?_
                  obtain ⟨xs371, h372, hd373⟩ := bnd_some hd361
                  obtain ⟨hc375, l376⟩ := W_laws_toRound fu G368 a1 h_a1 xs371 h372
                  refine DR.w rfl rfl (o_call (vs := [.agg (ints a1).toArray]) rfl Try.call16 hc375) (Nat.le_refl _) ?_
                  obtain ⟨⟨x377, rs378, x379⟩, h380, hd381⟩ := bnd_some hd373
                  obtain ⟨_, G388, hc387, p382, c383, rfl, S389, B385, a386⟩ := W_impl_AddRound fu G368 x358 p362 c363 rs359 a366 (S370.oview (k := 0) rfl B365 (flat_len1 a366 rfl)) (B365.ne rfl) xs371 l376 x377 rs378 x379 h380
                  have S390 := S370.call S389
                  refine DR.w rfl rfl (o_call (vs := [.agg [.int .i64 x358, .slice p362 rs359.length c363].toArray, .agg (ints xs371).toArray]) rfl Try.call50 hc387) (S389.len) ?_
                  refine DR.p rfl rfl (p_move rfl) ?_
                  refine DR.p rfl rfl (p_extract rfl rfl) ?_
                  refine DR.p rfl rfl (p_extract rfl rfl) ?_
                  obtain ⟨G391, i392, hii392, hHG391, S393⟩ := S390.new (.row false ([.int .i64 0, .slice none 0 0]))
                  refine DR.a rfl rfl hii392 hHG391 (a_alloc Try.zeroValue33 (flat_list rfl)) ?_
                  obtain ⟨G395, hHG395, S396⟩ := S393.set (k := 0) (i := i392) rfl (.row false ([.int .i64 x377, .slice p382 rs378.length c383]))
                  refine DR.s rfl (s_storeAll (vs := [.int .i64 x377, .slice p382 rs378.length c383]) Try.sizeOf33 rfl rfl (ones_list rfl) (S393.get (k := 0) rfl) rfl rfl hHG395) (set_le hHG395) ?_
                  refine DR.p rfl rfl (p_assign rfl) ?_
                  refine DR.nil 11 [(2, 1), (8, 1), (8, 3), (8, 4)] hst (by kernel_rfl) ⟨(rdN (fun h => S369.hold _ h)), (fun h => absurd h (by decide)), (fun h => absurd h (by decide)), (fun h => absurd h (by decide)), trivial⟩ ?_
                  refine AX.seq ?_
                  obtain ⟨r407, hb408, hd409⟩ := bnd_some hd381
                  refine AX.cut (fun t' H' => ∃ (b406 : Bool), b406 = r407 ∧ St [] H H' [[(i194, AObj.row false ([.int .i64 x179, .slice p184 rs180.length c185]))], oseg p184 (ints rs339.flatten)] ∧ Am.Sub [(9, .pointer (some ⟨i194, 0, none⟩)), (12, .int .i64 x338), (95, .bool b406)] t') ?_ ?_
                  · skip
                    refine AX.region ?_
                    refine AO.c rfl (s_loadN (vs := [.int .i64 x377, .slice p382 rs378.length c383]) Try.isAgg33 Try.sizeOf33 rfl rfl (row_cells (S396.get (k := 0) rfl))) ?_
                    refine AO.c rfl (s_loadN (vs := [.int .i64 x134, .slice p139 rs135.length c140]) Try.isAgg33 Try.sizeOf33 rfl rfl (row_cells (S396.get (k := 6) rfl))) ?_
                    obtain ⟨b410, h411, hd412⟩ := bnd_some hb408
                    refine AO.c rfl (o_call (vs := [.agg [.int .i64 x377, .slice p382 rs378.length c383].toArray, .agg [.int .i64 x134, .slice p139 rs135.length c140].toArray]) rfl Try.call23 (W_laws_eqSchedule fu G395 x377 p382 c383 rs378 a386 (S396.oview (k := 1) rfl B385 (flat_len1 a386 rfl)) x134 p139 c140 rs135 a143 (S396.oview (k := 7) rfl B142 (flat_len1 a143 rfl)) b410 h411)) ?_
                    refine AO.p rfl (p_not rfl) ?_
                    refine AO.p rfl (p_move rfl) ?_
                    refine AO.cases (d := 91) rfl (fun c414 => ?_) (fun c414 => ?_)
                    · have hd415 := bif_t c414 hd412
                      refine AO.gn rfl rfl rfl ?_
                      refine AO.gn rfl rfl rfl ?_
                      refine AO.gn rfl rfl rfl ?_
                      refine AO.p rfl (p_pickT rfl rfl) ?_
                      refine AO.nil ?_
                      have S416 := S396.front 3 rfl
                      have S417 := S416.front 8 rfl
                      have S418 := S417.keep 2
                      exact ⟨true, (some_inj hd415), S418, Sub.cons' rfl rfl (Sub.cons' rfl rfl (Sub.cons' rfl rfl (Sub.nil _)))⟩
                    · have hd419 := bif_f c414 hd412
                      refine AO.gp rfl rfl rfl (p_move rfl) ?_
                      refine AO.gp rfl rfl rfl (p_move rfl) ?_
                      refine AO.gp rfl rfl rfl (p_neq rfl rfl) ?_
                      refine AO.p rfl (p_pickF rfl rfl) ?_
                      refine AO.nil ?_
                      have S420 := S396.front 3 rfl
                      have S421 := S420.front 8 rfl
                      have S422 := S421.keep 2
                      exact ⟨(!decide (x379 = x136)), (some_inj hd419), S422, Sub.cons' rfl rfl (Sub.cons' rfl rfl (Sub.cons' rfl rfl (Sub.nil _)))⟩
                  · rintro t' G424 ⟨b406, rfl, S423, hsub425⟩
                    refine AX.sub hsub425 ?_
                    refine AX.cond rfl (fun c426 => ?_) (fun c426 => ?_)
                    · have hd427 := bif_t c426 hd409
                      refine AX.seq ?_
                      refine AX.region ?_
                      refine AO.p rfl (p_assign rfl) ?_
                      refine AO.nil ?_
                      refine AX.ret ?_
                      obtain rfl := some_inj hd427
                      exact ⟨.inr rfl, _, res1 rfl (rv_tmp rfl), rfl, (flatB_ok rfl), S423.hold⟩
                    · have hd428 := bif_f c426 hd409
                      refine AX.skip ?_
                      refine AX.seq ?_
                      refine AX.region ?_
                      refine AO.p rfl (p_assign rfl) ?_
                      refine AO.nil ?_
                      refine AX.seq ?_
                      refine AX.region ?_
                      refine AO.c rfl (s_loadN (vs := [.int .i64 x179, .slice p184 rs180.length c185]) Try.isAgg33 Try.sizeOf33 rfl rfl (row_cells (S423.get (k := 0) rfl))) ?_
                      refine AO.p rfl (p_move rfl) ?_
                      obtain ⟨x429, h430, hd431⟩ := bnd_some hd428
                      refine AO.c rfl (o_call (vs := [.agg [.int .i64 x179, .slice p184 rs180.length c185].toArray, .int .i64 1]) rfl Try.call25 (by have h' := W_laws_heldSchedule fu G424 x179 p184 c185 rs339 a343 (by rw [show List.length rs339 = rs180.length from l342]; exact (S423.oview (k := 1) rfl B187 (flat_len1 a343 l342))) 1 x429 h430; rw [show List.length rs339 = rs180.length from l342] at h'; exact h')) ?_
                      refine AO.p rfl (p_assign rfl) ?_
                      refine AO.nil ?_
                      refine AX.seq ?_
                      refine AX.seq ?_
                      refine AX.region ?_
                      refine AO.p rfl (p_move rfl) ?_
                      refine AO.p rfl (p_lss rfl rfl) ?_
                      refine AO.nil ?_
                      refine AX.cond rfl (fun c433 => ?_) (fun c433 => ?_)
                      · have hd434 := bif_t c433 hd431
                        refine AX.seq ?_
                        refine AX.region ?_
                        refine AO.p rfl (p_assign rfl) ?_
                        refine AO.nil ?_
                        refine AX.ret ?_
                        obtain rfl := some_inj hd434
                        exact ⟨.inr rfl, _, res1 rfl (rv_tmp rfl), rfl, (flatB_ok rfl), S423.hold⟩
                      · have hd435 := bif_f c433 hd431
                        refine AX.skip ?_
                        refine AX.seq ?_
                        refine AX.seq ?_
                        refine AX.region ?_
                        refine AO.p rfl (p_move rfl) ?_
                        refine AO.p rfl (p_move rfl) ?_
                        refine AO.p rfl (p_neq rfl rfl) ?_
                        refine AO.nil ?_
                        refine AX.cond rfl (fun c436 => ?_) (fun c436 => ?_)
                        · have hd437 := bif_t c436 hd435
                          refine AX.seq ?_
                          refine AX.region ?_
                          refine AO.p rfl (p_assign rfl) ?_
                          refine AO.nil ?_
                          refine AX.ret ?_
                          obtain rfl := some_inj hd437
                          exact ⟨.inr rfl, _, res1 rfl (rv_tmp rfl), rfl, (flatB_ok rfl), S423.hold⟩
                        · have hd438 := bif_f c436 hd435
                          refine AX.skip ?_
                          refine AX.seq ?_
                          refine AX.region ?_
                          refine AO.p rfl (p_assign rfl) ?_
                          refine AO.nil ?_
                          refine AX.ret ?_
                          obtain rfl := some_inj hd438
                          exact ⟨.inr rfl, _, res1 rfl (rv_tmp rfl), rfl, (flatB_ok rfl), S423.hold⟩

set_option maxHeartbeats 4000000 in
theorem W_laws_FnExactOpponentsOf (fu : Nat) (H : AHeap) (a0_0 : Int) (p_a0_1 : Option Addr) (c_a0_1 : Nat) (a0_1 : List (List Int)) (a_a0_1 : All 14 a0_1) (v_a0_1 : Vw H p_a0_1 a0_1.length c_a0_1 (ints a0_1.flatten)) (a1 : Int) (r0 : Bool) (hd : D_laws_FnExactOpponentsOf fu a0_0 a0_1 a1 = some r0) : ACall Try.prog 13 [.agg [.int .i64 a0_0, .slice p_a0_1 a0_1.length c_a0_1].toArray, .int .i64 a1] H (.bool r0) H := by
  refine ACall.bodyP (N := 101) [(0, .agg [.int .i64 a0_0, .slice p_a0_1 a0_1.length c_a0_1].toArray), (1, .int .i64 a1)] Try.func13 rfl rfl rfl rfl ?_
  unfold D_laws_FnExactOpponentsOf at hd
  have S0 : St [] H H [] := St.nil H
  refine AX.seq ?_
  refine AX.region ?_
  obtain ⟨G100, i101, hii101, hHG100, S102⟩ := S0.new (.row false ([.int .i64 a0_0, .slice p_a0_1 a0_1.length c_a0_1]))
  refine AO.c rfl (s_box (i := i101) (cs := [.int .i64 a0_0, .slice p_a0_1 a0_1.length c_a0_1]) rfl hii101 rfl hHG100) ?_
  refine AO.p rfl (p_assign rfl) ?_
  refine AO.nil ?_
  refine AX.seq ?_
  refine AX.region ?_
  refine AO.p rfl (p_assign rfl) ?_
  refine AO.nil ?_
  refine AX.seq ?_
  refine AX.region ?_
  refine AO.c rfl (s_loadN (vs := [.int .i64 a0_0, .slice p_a0_1 a0_1.length c_a0_1]) Try.isAgg64 Try.sizeOf64 rfl rfl (row_cells (S102.get (k := 0) rfl))) ?_
  refine AO.p rfl (p_move rfl) ?_
  obtain ⟨x104, h105, hd106⟩ := bnd_some hd
  refine AO.c rfl (o_call (vs := [.agg [.int .i64 a0_0, .slice p_a0_1 a0_1.length c_a0_1].toArray, .int .i64 1048576]) rfl Try.call47 (W_laws_szSchedule fu G100 a0_0 p_a0_1 c_a0_1 a0_1 a_a0_1 (S102.view v_a0_1) 1048576 x104 h105)) ?_
  refine AO.p rfl (p_assign rfl) ?_
  refine AO.nil ?_
  refine AX.seq ?_
  refine AX.seq ?_
  refine AX.region ?_
  refine AO.p rfl (p_move rfl) ?_
  refine AO.p rfl (p_lss rfl rfl) ?_
  refine AO.nil ?_
  refine AX.cond rfl (fun c108 => ?_) (fun c108 => ?_)
  · have hd109 := bif_t c108 hd106
    refine AX.seq ?_
    refine AX.region ?_
    refine AO.p rfl (p_assign rfl) ?_
    refine AO.nil ?_
    refine AX.ret ?_
    obtain rfl := some_inj hd109
    exact ⟨.inr rfl, _, res1 rfl (rv_tmp rfl), rfl, (flatB_ok rfl), S102.hold⟩
  · have hd110 := bif_f c108 hd106
    refine AX.skip ?_
    refine AX.seq ?_
    refine AX.region ?_
    refine AO.c rfl (s_loadN (vs := [.int .i64 a0_0, .slice p_a0_1 a0_1.length c_a0_1]) Try.isAgg64 Try.sizeOf64 rfl rfl (row_cells (S102.get (k := 0) rfl))) ?_
    obtain ⟨⟨x111, rs112⟩, h113, hd114⟩ := bnd_some hd110
    obtain ⟨_, G121, hc120, p115, c116, rfl, S122, B118, a119⟩ := W_laws_toSchedule fu G100 a0_0 p_a0_1 c_a0_1 a0_1 a_a0_1 (S102.view v_a0_1) x111 rs112 h113
    have S123 := S102.call S122
    refine AO.c rfl (o_call (vs := [.agg [.int .i64 a0_0, .slice p_a0_1 a0_1.length c_a0_1].toArray]) rfl Try.call49 hc120) ?_
    refine AO.p rfl (p_move rfl) ?_
    obtain ⟨⟨xs124, x125⟩, h126, hd127⟩ := bnd_some hd114
    obtain ⟨_, G133, hc132, p128, c129, rfl, S134, B131⟩ := W_spec_OpponentsOf fu G121 x111 p115 c116 rs112 a119 (S123.oview (k := 0) rfl B118 (flat_len1 a119 rfl)) a1 xs124 x125 h126
    have S135 := S123.call S134
    refine AO.c rfl (o_call (vs := [.agg [.int .i64 x111, .slice p115 rs112.length c116].toArray, .int .i64 a1]) rfl Try.call56 hc132) ?_
    refine AO.p rfl (p_move rfl) ?_
    refine AO.p rfl (p_extract rfl rfl) ?_
    refine AO.p rfl (p_extract rfl rfl) ?_
    refine AO.p rfl (p_assign rfl) ?_
    refine AO.p rfl (p_assign rfl) ?_
    refine AO.nil ?_
    refine AX.seq ?_
    refine AX.region ?_
    refine AO.c rfl (s_loadN (vs := [.int .i64 a0_0, .slice p_a0_1 a0_1.length c_a0_1]) Try.isAgg64 Try.sizeOf64 rfl rfl (row_cells (S135.get (k := 2) rfl))) ?_
    obtain ⟨⟨x136, rs137⟩, h138, hd139⟩ := bnd_some hd127
    obtain ⟨_, G146, hc145, p140, c141, rfl, S147, B143, a144⟩ := W_laws_toSchedule fu G133 a0_0 p_a0_1 c_a0_1 a0_1 a_a0_1 (S135.view v_a0_1) x136 rs137 h138
    have S148 := S135.call S147
    refine AO.c rfl (o_call (vs := [.agg [.int .i64 a0_0, .slice p_a0_1 a0_1.length c_a0_1].toArray]) rfl Try.call49 hc145) ?_
    obtain ⟨G149, i150, hii150, hHG149, S151⟩ := S148.new (.row false ([.int .i64 0, .slice none 0 0]))
    refine AO.c rfl (s_alloc (i := i150) (cs := [.int .i64 0, .slice none 0 0]) Try.zeroValue33 rfl rfl hii150 hHG149) ?_
    obtain ⟨G153, hHG153, S154⟩ := S151.set (k := 0) (i := i150) rfl (.row false ([.int .i64 x136, .slice p140 rs137.length c141]))
    refine AO.s (s_storeAll (vs := [.int .i64 x136, .slice p140 rs137.length c141]) Try.sizeOf33 rfl rfl (ones_list rfl) (S151.get (k := 0) rfl) rfl rfl hHG153) ?_
    refine AO.nil ?_
    refine AX.seq ?_
    refine AX.region ?_
    refine AO.c rfl (s_loadN (vs := [.int .i64 x136, .slice p140 rs137.length c141]) Try.isAgg33 Try.sizeOf33 rfl rfl (row_cells (S154.get (k := 0) rfl))) ?_
    refine AO.p rfl (p_move rfl) ?_
    obtain ⟨⟨xs155, x156⟩, h157, hd158⟩ := bnd_some hd139
    obtain ⟨_, G164, hc163, p159, c160, rfl, S165, B162⟩ := W_impl_OpponentsOf fu G153 x136 p140 c141 rs137 a144 (S154.oview (k := 1) rfl B143 (flat_len1 a144 rfl)) a1 xs155 x156 h157
    have S166 := S154.call S165
    refine AO.c rfl (o_call (vs := [.agg [.int .i64 x136, .slice p140 rs137.length c141].toArray, .int .i64 a1]) rfl Try.call57 hc163) ?_
    refine AO.p rfl (p_move rfl) ?_
    refine AO.p rfl (p_extract rfl rfl) ?_
    refine AO.p rfl (p_extract rfl rfl) ?_
    refine AO.p rfl (p_assign rfl) ?_
    refine AO.p rfl (p_assign rfl) ?_
    refine AO.nil ?_
    refine AX.seq ?_
    obtain ⟨r180, hb181, hd182⟩ := bnd_some hd158
    refine AX.cut (fun t' H' => ∃ (b179 : Bool), b179 = r180 ∧ St [] H H' [[(i101, AObj.row false ([.int .i64 a0_0, .slice p_a0_1 a0_1.length c_a0_1]))], oseg p128 (ints xs124), [(i150, AObj.row false ([.int .i64 x136, .slice p140 rs137.length c141]))], oseg p140 (ints rs137.flatten), oseg p159 (ints xs155)] ∧ Am.Sub [(1, .int .i64 a1), (2, .pointer (some ⟨i101, 0, none⟩)), (6, .slice p128 xs124.length c129), (7, .int .i64 x125), (8, .pointer (some ⟨i150, 0, none⟩)), (9, .slice p159 xs155.length c160), (10, .int .i64 x156), (44, .bool b179)] t') ?_ ?_
    · skip
      refine AX.region ?_
      refine AO.p rfl (p_move rfl) ?_
      refine AO.p rfl (p_move rfl) ?_
      obtain ⟨b183, h184, hd185⟩ := bnd_some hb181
      refine AO.c rfl (o_call (vs := [.slice p159 xs155.length c160, .slice p128 xs124.length c129]) rfl Try.call53 (W_laws_eqInt64S fu G164 p159 c160 xs155 (S166.oview (k := 0) rfl B162 (ints_len1 rfl)) p128 c129 xs124 (S166.oview (k := 3) rfl B131 (ints_len1 rfl)) b183 h184)) ?_
      refine AO.p rfl (p_not rfl) ?_
      refine AO.p rfl (p_move rfl) ?_
      refine AO.cases (d := 40) rfl (fun c187 => ?_) (fun c187 => ?_)
      · have hd188 := bif_t c187 hd185
        refine AO.gn rfl rfl rfl ?_
        refine AO.gn rfl rfl rfl ?_
        refine AO.gn rfl rfl rfl ?_
        refine AO.p rfl (p_pickT rfl rfl) ?_
        refine AO.nil ?_
        have S189 := S166.front 0 rfl
        have S190 := S189.front 2 rfl
        have S191 := S190.front 2 rfl
        have S192 := S191.front 3 rfl
        have S193 := S192.front 5 rfl
        have S194 := S193.keep 5
        exact ⟨true, (some_inj hd188), S194, Sub.cons' rfl rfl (Sub.cons' rfl rfl (Sub.cons' rfl rfl (Sub.cons' rfl rfl (Sub.cons' rfl rfl (Sub.cons' rfl rfl (Sub.cons' rfl rfl (Sub.cons' rfl rfl (Sub.nil _))))))))⟩
      · have hd195 := bif_f c187 hd185
        refine AO.gp rfl rfl rfl (p_move rfl) ?_
        refine AO.gp rfl rfl rfl (p_move rfl) ?_
        refine AO.gp rfl rfl rfl (p_neq rfl rfl) ?_
        refine AO.p rfl (p_pickF rfl rfl) ?_
        refine AO.nil ?_
        have S196 := S166.front 0 rfl
        have S197 := S196.front 2 rfl
        have S198 := S197.front 2 rfl
        have S199 := S198.front 3 rfl
        have S200 := S199.front 5 rfl
        have S201 := S200.keep 5
        exact ⟨(!decide (x156 = x125)), (some_inj hd195), S201, Sub.cons' rfl rfl (Sub.cons' rfl rfl (Sub.cons' rfl rfl (Sub.cons' rfl rfl (Sub.cons' rfl rfl (Sub.cons' rfl rfl (Sub.cons' rfl rfl (Sub.cons' rfl rfl (Sub.nil _))))))))⟩
    · rintro t' G203 ⟨b179, rfl, S202, hsub204⟩
      refine AX.sub hsub204 ?_
      refine AX.cond rfl (fun c205 => ?_) (fun c205 => ?_)
      · have hd206 := bif_t c205 hd182
        refine AX.seq ?_
        refine AX.region ?_
        refine AO.p rfl (p_assign rfl) ?_
        refine AO.nil ?_
        refine AX.ret ?_
        obtain rfl := some_inj hd206
        exact ⟨.inr rfl, _, res1 rfl (rv_tmp rfl), rfl, (flatB_ok rfl), S202.hold⟩
      · have hd207 := bif_f c205 hd182
        refine AX.skip ?_
        refine AX.seq ?_
        refine AX.seq ?_
        refine DR.startS [false, false, true, true, false] mix (by kernel_rfl) (fun hst => ?_)
        refine DR.r rfl rfl (r_loadN (vs := [.int .i64 x136, .slice p140 rs137.length c141]) rfl Try.isAgg33 Try.sizeOf33 rfl) (many_row (row_cells (S202.get (k := 2) rfl)) (bel_cons (.of_flat0 rfl) (bel_cons (S202.oin (k := 3) rfl B143).bel bel_nil))) ?_
        refine DR.r rfl rfl (r_loadN (vs := [.int .i64 a0_0, .slice p_a0_1 a0_1.length c_a0_1]) rfl Try.isAgg64 Try.sizeOf64 rfl) (many_row (row_cells (S202.get (k := 0) rfl)) (bel_cons (.of_flat0 rfl) (bel_cons (S202.view v_a0_1).inn.bel bel_nil))) ?_
        obtain ⟨⟨x208, rs209⟩, h210, hd211⟩ := bnd_some hd207
        obtain ⟨_, G218, hc217, p212, c213, rfl, S219, B215, a216⟩ := W_laws_toSchedule fu G203 a0_0 p_a0_1 c_a0_1 a0_1 a_a0_1 (S202.view v_a0_1) x208 rs209 h210
        have S220 := S202.call S219
        refine DR.w rfl rfl (o_call (vs := [.agg [.int .i64 a0_0, .slice p_a0_1 a0_1.length c_a0_1].toArray]) rfl Try.call49 hc217) (S219.len) ?_
        obtain ⟨b221, h222, hd223⟩ := bnd_some hd211
        refine DR.w rfl rfl (o_call (vs := [.agg [.int .i64 x136, .slice p140 rs137.length c141].toArray, .agg [.int .i64 x208, .slice p212 rs209.length c213].toArray]) rfl Try.call23 (W_laws_eqSchedule fu G218 x136 p140 c141 rs137 a144 (S220.oview (k := 4) rfl B143 (flat_len1 a144 rfl)) x208 p212 c213 rs209 a216 (S220.oview (k := 0) rfl B215 (flat_len1 a216 rfl)) b221 h222)) (Nat.le_refl _) ?_
        refine DR.p rfl rfl (p_not rfl) ?_
        refine DR.nil 5 [(0, 2)] hst (by kernel_rfl) ⟨(rdN (fun h => S219.hold _ h)), trivial⟩ ?_
        refine AX.cond rfl (fun c225 => ?_) (fun c225 => ?_)
        · have hd226 := bif_t c225 hd223
          refine AX.seq ?_
          refine AX.region ?_
          refine AO.p rfl (p_assign rfl) ?_
          refine AO.nil ?_
          refine AX.ret ?_
          obtain rfl := some_inj hd226
          exact ⟨.inr rfl, _, res1 rfl (rv_tmp rfl), rfl, (flatB_ok rfl), S220.hold⟩
        · have hd227 := bif_f c225 hd223
          refine AX.skip ?_
          refine AX.seq ?_
          refine AX.region ?_
          refine AO.p rfl (p_assign rfl) ?_
          refine AO.nil ?_
          refine AX.seq ?_
          refine AX.region ?_
          refine AO.c rfl (s_loadN (vs := [.int .i64 x136, .slice p140 rs137.length c141]) Try.isAgg33 Try.sizeOf33 rfl rfl (row_cells (S220.get (k := 3) rfl))) ?_
          refine AO.p rfl (p_move rfl) ?_
          have S228 := S220.front 4 rfl
          obtain ⟨⟨x229, rs230⟩, h231, hd232⟩ := bnd_some hd227
          obtain ⟨_, G236, hc235, rfl, S237, l233, a234⟩ := W_laws_markSchedule fu G218 x136 p140 c141 rs137 a144 B143 1 (S228.onodup (k := 0) rfl) (S228.omem (k := 0) rfl) x229 rs230 h231
          have S238 := St.callM (A := [oseg p140 (ints rs137.flatten)]) S228 S237 (by simp)
          refine AO.c rfl (o_call (vs := [.agg [.int .i64 x136, .slice p140 rs137.length c141].toArray, .int .i64 1]) rfl Try.call24 hc235) ?_
          refine AO.p rfl (p_assign rfl) ?_
          refine AO.nil ?_
          refine AX.seq ?_
          obtain ⟨r253, hb254, hd255⟩ := bnd_some hd232
          refine AX.cut (fun t' H' => ∃ (b252 : Bool), b252 = r253 ∧ St [] H H' [[(i101, AObj.row false ([.int .i64 a0_0, .slice p_a0_1 a0_1.length c_a0_1]))], oseg p128 (ints xs124), oseg p159 (ints xs155)] ∧ Am.Sub [(1, .int .i64 a1), (2, .pointer (some ⟨i101, 0, none⟩)), (6, .slice p128 xs124.length c129), (7, .int .i64 x125), (9, .slice p159 xs155.length c160), (65, .bool b252)] t') ?_ ?_
          · skip
            refine AX.region ?_
            refine AO.p rfl (p_move rfl) ?_
            refine AO.p rfl (p_lss rfl rfl) ?_
            refine AO.p rfl (p_move rfl) ?_
            refine AO.cases (d := 55) rfl (fun c256 => ?_) (fun c256 => ?_)
            · have hd257 := bif_t c256 hb254
              refine AO.gn rfl rfl rfl ?_
              refine AO.gn rfl rfl rfl ?_
              refine AO.gn rfl rfl rfl ?_
              refine AO.gn rfl rfl rfl ?_
              refine AO.p rfl (p_pickT rfl rfl) ?_
              refine AO.p rfl (p_move rfl) ?_
              refine AO.gn rfl rfl rfl ?_
              refine AO.gn rfl rfl rfl ?_
              refine AO.gn rfl rfl rfl ?_
              refine AO.p rfl (p_pickT rfl rfl) ?_
              refine AO.nil ?_
              have S258 := S238.front 5 rfl
              have S259 := S258.front 4 rfl
              have S260 := S259.front 4 rfl
              have S261 := S260.keep 3
              exact ⟨true, (some_inj hd257), S261, Sub.cons' rfl rfl (Sub.cons' rfl rfl (Sub.cons' rfl rfl (Sub.cons' rfl rfl (Sub.cons' rfl rfl (Sub.cons' rfl rfl (Sub.nil _))))))⟩
            · have hd262 := bif_f c256 hb254
              refine AO.gp rfl rfl rfl (p_move rfl) ?_
              refine AO.gp rfl rfl rfl (p_move rfl) ?_
              obtain ⟨b263, h264, hd265⟩ := bnd_some hd262
              refine AO.gc rfl rfl rfl (o_call (vs := [.slice p159 xs155.length c160, .slice p128 xs124.length c129]) rfl Try.call53 (W_laws_eqInt64S fu G236 p159 c160 xs155 (S238.oview (k := 5) rfl B162 (ints_len1 rfl)) p128 c129 xs124 (S238.oview (k := 3) rfl B131 (ints_len1 rfl)) b263 h264)) ?_
              refine AO.gp rfl rfl rfl (p_not rfl) ?_
              refine AO.p rfl (p_pickF rfl rfl) ?_
              refine AO.p rfl (p_move rfl) ?_
              refine AO.cases (d := 61) rfl (fun c267 => ?_) (fun c267 => ?_)
              · have hd268 := bif_t c267 hd265
                refine AO.gn rfl rfl rfl ?_
                refine AO.gn rfl rfl rfl ?_
                refine AO.gn rfl rfl rfl ?_
                refine AO.p rfl (p_pickT rfl rfl) ?_
                refine AO.nil ?_
                have S269 := S238.front 5 rfl
                have S270 := S269.front 4 rfl
                have S271 := S270.front 4 rfl
                have S272 := S271.keep 3
                exact ⟨true, (some_inj hd268), S272, Sub.cons' rfl rfl (Sub.cons' rfl rfl (Sub.cons' rfl rfl (Sub.cons' rfl rfl (Sub.cons' rfl rfl (Sub.cons' rfl rfl (Sub.nil _))))))⟩
              · have hd273 := bif_f c267 hd265
                refine AO.gp rfl rfl rfl (p_move rfl) ?_
                refine AO.gp rfl rfl rfl (p_move rfl) ?_
                refine AO.gp rfl rfl rfl (p_neq rfl rfl) ?_
                refine AO.p rfl (p_pickF rfl rfl) ?_
                refine AO.nil ?_
                have S274 := S238.front 5 rfl
                have S275 := S274.front 4 rfl
                have S276 := S275.front 4 rfl
                have S277 := S276.keep 3
                exact ⟨(!decide (x156 = x125)), (some_inj hd273), S277, Sub.cons' rfl rfl (Sub.cons' rfl rfl (Sub.cons' rfl rfl (Sub.cons' rfl rfl (Sub.cons' rfl rfl (Sub.cons' rfl rfl (Sub.nil _))))))⟩
          · rintro t' G279 ⟨b252, rfl, S278, hsub280⟩
            refine AX.sub hsub280 ?_
            refine AX.cond rfl (fun c281 => ?_) (fun c281 => ?_)
            · have hd282 := bif_t c281 hd255
              refine AX.seq ?_
              refine AX.region ?_
              refine AO.p rfl (p_assign rfl) ?_
              refine AO.nil ?_
              refine AX.ret ?_
              obtain rfl := some_inj hd282
              exact ⟨.inr rfl, _, res1 rfl (rv_tmp rfl), rfl, (flatB_ok rfl), S278.hold⟩
            · have hd283 := bif_f c281 hd255
              refine AX.skip ?_
              refine AX.seq ?_
              refine AX.region ?_
              refine AO.p rfl (p_assign rfl) ?_
              refine AO.nil ?_
              refine AX.seq ?_
              refine AX.region ?_
              refine AO.p rfl (p_move rfl) ?_
              refine AO.p rfl (p_move rfl) ?_
              have S284 := S278.front 2 rfl
              obtain ⟨⟨x285, xs286⟩, h287, hd288⟩ := bnd_some hd283
              obtain ⟨_, G291, hc290, rfl, S292, l289⟩ := W_laws_markInt64S fu G279 p159 c160 xs155 B162 1 (S284.onodup (k := 0) rfl) (S284.omem (k := 0) rfl) x285 xs286 h287
              have S293 := St.callM (A := [oseg p159 (ints xs155)]) S284 S292 (by simp)
              refine AO.c rfl (o_call (vs := [.slice p159 xs155.length c160, .int .i64 1]) rfl Try.call54 hc290) ?_
              refine AO.p rfl (p_assign rfl) ?_
              refine AO.nil ?_
              refine AX.seq ?_
              refine AX.region ?_
              refine AO.p rfl (p_assign rfl) ?_
              refine AO.nil ?_
              refine AX.seq ?_
              refine AX.region ?_
              refine AO.p rfl (p_move rfl) ?_
              refine AO.p rfl (p_move rfl) ?_
              obtain ⟨x294, h295, hd296⟩ := bnd_some hd288
              refine AO.c rfl (o_call (vs := [.slice p159 xs155.length c160, .int .i64 1]) rfl Try.call55 (by have h' := W_laws_heldInt64S fu G291 p159 c160 xs286 (by rw [show List.length xs286 = xs155.length from l289]; exact (S293.oview (k := 0) rfl B162 (ints_len1 l289))) 1 x294 h295; rw [show List.length xs286 = xs155.length from l289] at h'; exact h')) ?_
              refine AO.p rfl (p_assign rfl) ?_
              refine AO.nil ?_
              refine AX.seq ?_
              refine AX.seq ?_
              refine AX.region ?_
              refine AO.p rfl (p_move rfl) ?_
              refine AO.p rfl (p_lss rfl rfl) ?_
              refine AO.nil ?_
              refine AX.cond rfl (fun c298 => ?_) (fun c298 => ?_)
              · have hd299 := bif_t c298 hd296
                refine AX.seq ?_
                refine AX.region ?_
                refine AO.p rfl (p_assign rfl) ?_
                refine AO.nil ?_
                refine AX.ret ?_
                obtain rfl := some_inj hd299
                exact ⟨.inr rfl, _, res1 rfl (rv_tmp rfl), rfl, (flatB_ok rfl), S293.hold⟩
              · have hd300 := bif_f c298 hd296
                refine AX.skip ?_
                refine AX.seq ?_
                refine AX.seq ?_
                refine AX.region ?_
                refine AO.p rfl (p_move rfl) ?_
                refine AO.p rfl (p_move rfl) ?_
                refine AO.p rfl (p_neq rfl rfl) ?_
                refine AO.nil ?_
                refine AX.cond rfl (fun c301 => ?_) (fun c301 => ?_)
                · have hd302 := bif_t c301 hd300
                  refine AX.seq ?_
                  refine AX.region ?_
                  refine AO.p rfl (p_assign rfl) ?_
                  refine AO.nil ?_
                  refine AX.ret ?_
                  obtain rfl := some_inj hd302
                  exact ⟨.inr rfl, _, res1 rfl (rv_tmp rfl), rfl, (flatB_ok rfl), S293.hold⟩
                · have hd303 := bif_f c301 hd300
                  refine AX.skip ?_
                  refine AX.seq ?_
                  refine AX.region ?_
                  refine AO.c rfl (s_loadN (vs := [.int .i64 a0_0, .slice p_a0_1 a0_1.length c_a0_1]) Try.isAgg64 Try.sizeOf64 rfl rfl (row_cells (S293.get (k := 1) rfl))) ?_
                  obtain ⟨⟨x304, rs305⟩, h306, hd307⟩ := bnd_some hd303
                  obtain ⟨_, G314, hc313, p308, c309, rfl, S315, B311, a312⟩ := W_laws_toSchedule fu G291 a0_0 p_a0_1 c_a0_1 a0_1 a_a0_1 (S293.view v_a0_1) x304 rs305 h306
                  have S316 := S293.call S315
                  refine AO.c rfl (o_call (vs := [.agg [.int .i64 a0_0, .slice p_a0_1 a0_1.length c_a0_1].toArray]) rfl Try.call49 hc313) ?_
                  refine AO.p rfl (p_move rfl) ?_
                  obtain ⟨⟨xs317, x318⟩, h319, hd320⟩ := bnd_some hd307
                  obtain ⟨_, G326, hc325, p321, c322, rfl, S327, B324⟩ := W_impl_OpponentsOf fu G314 x304 p308 c309 rs305 a312 (S316.oview (k := 0) rfl B311 (flat_len1 a312 rfl)) a1 xs317 x318 h319
                  have S328 := S316.call S327
                  refine AO.c rfl (o_call (vs := [.agg [.int .i64 x304, .slice p308 rs305.length c309].toArray, .int .i64 a1]) rfl Try.call57 hc325) ?_
                  refine AO.p rfl (p_move rfl) ?_
                  refine AO.p rfl (p_extract rfl rfl) ?_
                  refine AO.p rfl (p_extract rfl rfl) ?_
                  refine AO.p rfl (p_assign rfl) ?_
                  refine AO.p rfl (p_assign rfl) ?_
                  refine AO.nil ?_
                  refine AX.seq ?_
                  obtain ⟨r338, hb339, hd340⟩ := bnd_some hd320
                  refine AX.cut (fun t' H' => ∃ (b337 : Bool), b337 = r338 ∧ St [] H H' [oseg p159 (ints xs286)] ∧ Am.Sub [(9, .slice p159 xs155.length c160), (12, .int .i64 x285), (92, .bool b337)] t') ?_ ?_
                  · skip
                    refine AX.region ?_
                    refine AO.p rfl (p_move rfl) ?_
                    refine AO.p rfl (p_move rfl) ?_
                    obtain ⟨b341, h342, hd343⟩ := bnd_some hb339
                    refine AO.c rfl (o_call (vs := [.slice p321 xs317.length c322, .slice p128 xs124.length c129]) rfl Try.call53 (W_laws_eqInt64S fu G326 p321 c322 xs317 (S328.oview (k := 0) rfl B324 (ints_len1 rfl)) p128 c129 xs124 (S328.oview (k := 4) rfl B131 (ints_len1 rfl)) b341 h342)) ?_
                    refine AO.p rfl (p_not rfl) ?_
                    refine AO.p rfl (p_move rfl) ?_
                    refine AO.cases (d := 88) rfl (fun c345 => ?_) (fun c345 => ?_)
                    · have hd346 := bif_t c345 hd343
                      refine AO.gn rfl rfl rfl ?_
                      refine AO.gn rfl rfl rfl ?_
                      refine AO.gn rfl rfl rfl ?_
                      refine AO.p rfl (p_pickT rfl rfl) ?_
                      refine AO.nil ?_
                      have S347 := S328.front 2 rfl
                      have S348 := S347.keep 1
                      exact ⟨true, (some_inj hd346), S348, Sub.cons' rfl rfl (Sub.cons' rfl rfl (Sub.cons' rfl rfl (Sub.nil _)))⟩
                    · have hd349 := bif_f c345 hd343
                      refine AO.gp rfl rfl rfl (p_move rfl) ?_
                      refine AO.gp rfl rfl rfl (p_move rfl) ?_
                      refine AO.gp rfl rfl rfl (p_neq rfl rfl) ?_
                      refine AO.p rfl (p_pickF rfl rfl) ?_
                      refine AO.nil ?_
                      have S350 := S328.front 2 rfl
                      have S351 := S350.keep 1
                      exact ⟨(!decide (x318 = x125)), (some_inj hd349), S351, Sub.cons' rfl rfl (Sub.cons' rfl rfl (Sub.cons' rfl rfl (Sub.nil _)))⟩
                  · rintro t' G353 ⟨b337, rfl, S352, hsub354⟩
                    refine AX.sub hsub354 ?_
                    refine AX.cond rfl (fun c355 => ?_) (fun c355 => ?_)
                    · have hd356 := bif_t c355 hd340
                      refine AX.seq ?_
                      refine AX.region ?_
                      refine AO.p rfl (p_assign rfl) ?_
                      refine AO.nil ?_
                      refine AX.ret ?_
                      obtain rfl := some_inj hd356
                      exact ⟨.inr rfl, _, res1 rfl (rv_tmp rfl), rfl, (flatB_ok rfl), S352.hold⟩
                    · have hd357 := bif_f c355 hd340
                      refine AX.skip ?_
                      refine AX.seq ?_
                      refine AX.region ?_
                      refine AO.p rfl (p_assign rfl) ?_
                      refine AO.nil ?_
                      refine AX.seq ?_
                      refine AX.region ?_
                      refine AO.p rfl (p_move rfl) ?_
                      refine AO.p rfl (p_move rfl) ?_
                      obtain ⟨x358, h359, hd360⟩ := bnd_some hd357
                      refine AO.c rfl (o_call (vs := [.slice p159 xs155.length c160, .int .i64 1]) rfl Try.call55 (by have h' := W_laws_heldInt64S fu G353 p159 c160 xs286 (by rw [show List.length xs286 = xs155.length from l289]; exact (S352.oview (k := 0) rfl B162 (ints_len1 l289))) 1 x358 h359; rw [show List.length xs286 = xs155.length from l289] at h'; exact h')) ?_
                      refine AO.p rfl (p_assign rfl) ?_
                      refine AO.nil ?_
                      refine AX.seq ?_
                      refine AX.seq ?_
                      refine AX.region ?_
                      refine AO.p rfl (p_move rfl) ?_
                      refine AO.p rfl (p_lss rfl rfl) ?_
                      refine AO.nil ?_
                      refine AX.cond rfl (fun c362 => ?_) (fun c362 => ?_)
                      · have hd363 := bif_t c362 hd360
                        refine AX.seq ?_
                        refine AX.region ?_
                        refine AO.p rfl (p_assign rfl) ?_
                        refine AO.nil ?_
                        refine AX.ret ?_
                        obtain rfl := some_inj hd363
                        exact ⟨.inr rfl, _, res1 rfl (rv_tmp rfl), rfl, (flatB_ok rfl), S352.hold⟩
                      · have hd364 := bif_f c362 hd360
                        refine AX.skip ?_
                        refine AX.seq ?_
                        refine AX.seq ?_
                        refine AX.region ?_
                        refine AO.p rfl (p_move rfl) ?_
                        refine AO.p rfl (p_move rfl) ?_
                        refine AO.p rfl (p_neq rfl rfl) ?_
                        refine AO.nil ?_
                        refine AX.cond rfl (fun c365 => ?_) (fun c365 => ?_)
                        · have hd366 := bif_t c365 hd364
                          refine AX.seq ?_
                          refine AX.region ?_
                          refine AO.p rfl (p_assign rfl) ?_
                          refine AO.nil ?_
                          refine AX.ret ?_
                          obtain rfl := some_inj hd366
                          exact ⟨.inr rfl, _, res1 rfl (rv_tmp rfl), rfl, (flatB_ok rfl), S352.hold⟩
                        · have hd367 := bif_f c365 hd364
                          refine AX.skip ?_
                          refine AX.seq ?_
                          refine AX.region ?_
                          refine AO.p rfl (p_assign rfl) ?_
                          refine AO.nil ?_
                          refine AX.ret ?_
                          obtain rfl := some_inj hd367
                          exact ⟨.inr rfl, _, res1 rfl (rv_tmp rfl), rfl, (flatB_ok rfl), S352.hold⟩

set_option maxHeartbeats 4000000 in
theorem W_laws_FnExactRoundsBetween (fu : Nat) (H : AHeap) (a0_0 : Int) (p_a0_1 : Option Addr) (c_a0_1 : Nat) (a0_1 : List (List Int)) (a_a0_1 : All 14 a0_1) (v_a0_1 : Vw H p_a0_1 a0_1.length c_a0_1 (ints a0_1.flatten)) (a1 : Int) (a2 : Int) (r0 : Bool) (hd : D_laws_FnExactRoundsBetween fu a0_0 a0_1 a1 a2 = some r0) : ACall Try.prog 14 [.agg [.int .i64 a0_0, .slice p_a0_1 a0_1.length c_a0_1].toArray, .int .i64 a1, .int .i64 a2] H (.bool r0) H := by
  refine ACall.bodyP (N := 106) [(0, .agg [.int .i64 a0_0, .slice p_a0_1 a0_1.length c_a0_1].toArray), (1, .int .i64 a1), (2, .int .i64 a2)] Try.func14 rfl rfl rfl rfl ?_
  unfold D_laws_FnExactRoundsBetween at hd
  have S0 : St [] H H [] := St.nil H
  refine AX.seq ?_
  refine AX.region ?_
  obtain ⟨G100, i101, hii101, hHG100, S102⟩ := S0.new (.row false ([.int .i64 a0_0, .slice p_a0_1 a0_1.length c_a0_1]))
  refine AO.c rfl (s_box (i := i101) (cs := [.int .i64 a0_0, .slice p_a0_1 a0_1.length c_a0_1]) rfl hii101 rfl hHG100) ?_
  refine AO.p rfl (p_assign rfl) ?_
  refine AO.nil ?_
  refine AX.seq ?_
  refine AX.region ?_
  refine AO.p rfl (p_assign rfl) ?_
  refine AO.nil ?_
  refine AX.seq ?_
  refine AX.region ?_
  refine AO.c rfl (s_loadN (vs := [.int .i64 a0_0, .slice p_a0_1 a0_1.length c_a0_1]) Try.isAgg64 Try.sizeOf64 rfl rfl (row_cells (S102.get (k := 0) rfl))) ?_
  refine AO.p rfl (p_move rfl) ?_
  obtain ⟨x104, h105, hd106⟩ := bnd_some hd
  refine AO.c rfl (o_call (vs := [.agg [.int .i64 a0_0, .slice p_a0_1 a0_1.length c_a0_1].toArray, .int .i64 1048576]) rfl Try.call47 (W_laws_szSchedule fu G100 a0_0 p_a0_1 c_a0_1 a0_1 a_a0_1 (S102.view v_a0_1) 1048576 x104 h105)) ?_
  refine AO.p rfl (p_assign rfl) ?_
  refine AO.nil ?_
  refine AX.seq ?_
  refine AX.seq ?_
  refine AX.region ?_
  refine AO.p rfl (p_move rfl) ?_
  refine AO.p rfl (p_lss rfl rfl) ?_
  refine AO.nil ?_
  refine AX.cond rfl (fun c108 => ?_) (fun c108 => ?_)
  · have hd109 := bif_t c108 hd106
    refine AX.seq ?_
    refine AX.region ?_
    refine AO.p rfl (p_assign rfl) ?_
    refine AO.nil ?_
    refine AX.ret ?_
    obtain rfl := some_inj hd109
    exact ⟨.inr rfl, _, res1 rfl (rv_tmp rfl), rfl, (flatB_ok rfl), S102.hold⟩
  · have hd110 := bif_f c108 hd106
    refine AX.skip ?_
    refine AX.seq ?_
    refine AX.region ?_
    refine AO.c rfl (s_loadN (vs := [.int .i64 a0_0, .slice p_a0_1 a0_1.length c_a0_1]) Try.isAgg64 Try.sizeOf64 rfl rfl (row_cells (S102.get (k := 0) rfl))) ?_
    obtain ⟨⟨x111, rs112⟩, h113, hd114⟩ := bnd_some hd110
    obtain ⟨_, G121, hc120, p115, c116, rfl, S122, B118, a119⟩ := W_laws_toSchedule fu G100 a0_0 p_a0_1 c_a0_1 a0_1 a_a0_1 (S102.view v_a0_1) x111 rs112 h113
    have S123 := S102.call S122
    refine AO.c rfl (o_call (vs := [.agg [.int .i64 a0_0, .slice p_a0_1 a0_1.length c_a0_1].toArray]) rfl Try.call49 hc120) ?_
    refine AO.p rfl (p_move rfl) ?_
    refine AO.p rfl (p_move rfl) ?_
    obtain ⟨⟨xs124, x125⟩, h126, hd127⟩ := bnd_some hd114
    obtain ⟨_, G133, hc132, p128, c129, rfl, S134, B131⟩ := W_spec_RoundsBetween fu G121 x111 p115 c116 rs112 a119 (S123.oview (k := 0) rfl B118 (flat_len1 a119 rfl)) a1 a2 xs124 x125 h126
    have S135 := S123.call S134
    refine AO.c rfl (o_call (vs := [.agg [.int .i64 x111, .slice p115 rs112.length c116].toArray, .int .i64 a1, .int .i64 a2]) rfl Try.call58 hc132) ?_
    refine AO.p rfl (p_move rfl) ?_
    refine AO.p rfl (p_extract rfl rfl) ?_
    refine AO.p rfl (p_extract rfl rfl) ?_
    refine AO.p rfl (p_assign rfl) ?_
    refine AO.p rfl (p_assign rfl) ?_
    refine AO.nil ?_
    refine AX.seq ?_
    refine AX.region ?_
    refine AO.c rfl (s_loadN (vs := [.int .i64 a0_0, .slice p_a0_1 a0_1.length c_a0_1]) Try.isAgg64 Try.sizeOf64 rfl rfl (row_cells (S135.get (k := 2) rfl))) ?_
    obtain ⟨⟨x136, rs137⟩, h138, hd139⟩ := bnd_some hd127
    obtain ⟨_, G146, hc145, p140, c141, rfl, S147, B143, a144⟩ := W_laws_toSchedule fu G133 a0_0 p_a0_1 c_a0_1 a0_1 a_a0_1 (S135.view v_a0_1) x136 rs137 h138
    have S148 := S135.call S147
    refine AO.c rfl (o_call (vs := [.agg [.int .i64 a0_0, .slice p_a0_1 a0_1.length c_a0_1].toArray]) rfl Try.call49 hc145) ?_
    obtain ⟨G149, i150, hii150, hHG149, S151⟩ := S148.new (.row false ([.int .i64 0, .slice none 0 0]))
    refine AO.c rfl (s_alloc (i := i150) (cs := [.int .i64 0, .slice none 0 0]) Try.zeroValue33 rfl rfl hii150 hHG149) ?_
    obtain ⟨G153, hHG153, S154⟩ := S151.set (k := 0) (i := i150) rfl (.row false ([.int .i64 x136, .slice p140 rs137.length c141]))
    refine AO.s (s_storeAll (vs := [.int .i64 x136, .slice p140 rs137.length c141]) Try.sizeOf33 rfl rfl (ones_list rfl) (S151.get (k := 0) rfl) rfl rfl hHG153) ?_
    refine AO.nil ?_
    refine AX.seq ?_
    refine AX.region ?_
    refine AO.c rfl (s_loadN (vs := [.int .i64 x136, .slice p140 rs137.length c141]) Try.isAgg33 Try.sizeOf33 rfl rfl (row_cells (S154.get (k := 0) rfl))) ?_
    refine AO.p rfl (p_move rfl) ?_
    refine AO.p rfl (p_move rfl) ?_
    obtain ⟨⟨xs155, x156⟩, h157, hd158⟩ := bnd_some hd139
    obtain ⟨_, G164, hc163, p159, c160, rfl, S165, B162⟩ := W_impl_RoundsBetween fu G153 x136 p140 c141 rs137 a144 (S154.oview (k := 1) rfl B143 (flat_len1 a144 rfl)) a1 a2 xs155 x156 h157
    have S166 := S154.call S165
    refine AO.c rfl (o_call (vs := [.agg [.int .i64 x136, .slice p140 rs137.length c141].toArray, .int .i64 a1, .int .i64 a2]) rfl Try.call59 hc163) ?_
    refine AO.p rfl (p_move rfl) ?_
    refine AO.p rfl (p_extract rfl rfl) ?_
    refine AO.p rfl (p_extract rfl rfl) ?_
    refine AO.p rfl (p_assign rfl) ?_
    refine AO.p rfl (p_assign rfl) ?_
    refine AO.nil ?_
    refine AX.seq ?_
    obtain ⟨r180, hb181, hd182⟩ := bnd_some hd158
    refine AX.cut (fun t' H' => ∃ (b179 : Bool), b179 = r180 ∧ St [] H H' [[(i101, AObj.row false ([.int .i64 a0_0, .slice p_a0_1 a0_1.length c_a0_1]))], oseg p128 (ints xs124), [(i150, AObj.row false ([.int .i64 x136, .slice p140 rs137.length c141]))], oseg p140 (ints rs137.flatten), oseg p159 (ints xs155)] ∧ Am.Sub [(1, .int .i64 a1), (2, .int .i64 a2), (3, .pointer (some ⟨i101, 0, none⟩)), (8, .slice p128 xs124.length c129), (9, .int .i64 x125), (10, .pointer (some ⟨i150, 0, none⟩)), (11, .slice p159 xs155.length c160), (12, .int .i64 x156), (48, .bool b179)] t') ?_ ?_
    · skip
      refine AX.region ?_
      refine AO.p rfl (p_move rfl) ?_
      refine AO.p rfl (p_move rfl) ?_
      obtain ⟨b183, h184, hd185⟩ := bnd_some hb181
      refine AO.c rfl (o_call (vs := [.slice p159 xs155.length c160, .slice p128 xs124.length c129]) rfl Try.call53 (W_laws_eqInt64S fu G164 p159 c160 xs155 (S166.oview (k := 0) rfl B162 (ints_len1 rfl)) p128 c129 xs124 (S166.oview (k := 3) rfl B131 (ints_len1 rfl)) b183 h184)) ?_
      refine AO.p rfl (p_not rfl) ?_
      refine AO.p rfl (p_move rfl) ?_
      refine AO.cases (d := 44) rfl (fun c187 => ?_) (fun c187 => ?_)
      · have hd188 := bif_t c187 hd185
        refine AO.gn rfl rfl rfl ?_
        refine AO.gn rfl rfl rfl ?_
        refine AO.gn rfl rfl rfl ?_
        refine AO.p rfl (p_pickT rfl rfl) ?_
        refine AO.nil ?_
        have S189 := S166.front 0 rfl
        have S190 := S189.front 2 rfl
        have S191 := S190.front 2 rfl
        have S192 := S191.front 3 rfl
        have S193 := S192.front 5 rfl
        have S194 := S193.keep 5
        exact ⟨true, (some_inj hd188), S194, Sub.cons' rfl rfl (Sub.cons' rfl rfl (Sub.cons' rfl rfl (Sub.cons' rfl rfl (Sub.cons' rfl rfl (Sub.cons' rfl rfl (Sub.cons' rfl rfl (Sub.cons' rfl rfl (Sub.cons' rfl rfl (Sub.nil _)))))))))⟩
      · have hd195 := bif_f c187 hd185
        refine AO.gp rfl rfl rfl (p_move rfl) ?_
        refine AO.gp rfl rfl rfl (p_move rfl) ?_
        refine AO.gp rfl rfl rfl (p_neq rfl rfl) ?_
        refine AO.p rfl (p_pickF rfl rfl) ?_
        refine AO.nil ?_
        have S196 := S166.front 0 rfl
        have S197 := S196.front 2 rfl
        have S198 := S197.front 2 rfl
        have S199 := S198.front 3 rfl
        have S200 := S199.front 5 rfl
        have S201 := S200.keep 5
        exact ⟨(!decide (x156 = x125)), (some_inj hd195), S201, Sub.cons' rfl rfl (Sub.cons' rfl rfl (Sub.cons' rfl rfl (Sub.cons' rfl rfl (Sub.cons' rfl rfl (Sub.cons' rfl rfl (Sub.cons' rfl rfl (Sub.cons' rfl rfl (Sub.cons' rfl rfl (Sub.nil _)))))))))⟩
    · rintro t' G203 ⟨b179, rfl, S202, hsub204⟩
      refine AX.sub hsub204 ?_
      refine AX.cond rfl (fun c205 => ?_) (fun c205 => ?_)
      · have hd206 := bif_t c205 hd182
        refine AX.seq ?_
        refine AX.region ?_
        refine AO.p rfl (p_assign rfl) ?_
        refine AO.nil ?_
        refine AX.ret ?_
        obtain rfl := some_inj hd206
        exact ⟨.inr rfl, _, res1 rfl (rv_tmp rfl), rfl, (flatB_ok rfl), S202.hold⟩
      · have hd207 := bif_f c205 hd182
        refine AX.skip ?_
        refine AX.seq ?_
        refine AX.seq ?_
        refine DR.startS [false, false, true, true, false] mix (by kernel_rfl) (fun hst => ?_)
        refine DR.r rfl rfl (r_loadN (vs := [.int .i64 x136, .slice p140 rs137.length c141]) rfl Try.isAgg33 Try.sizeOf33 rfl) (many_row (row_cells (S202.get (k := 2) rfl)) (bel_cons (.of_flat0 rfl) (bel_cons (S202.oin (k := 3) rfl B143).bel bel_nil))) ?_
        refine DR.r rfl rfl (r_loadN (vs := [.int .i64 a0_0, .slice p_a0_1 a0_1.length c_a0_1]) rfl Try.isAgg64 Try.sizeOf64 rfl) (many_row (row_cells (S202.get (k := 0) rfl)) (bel_cons (.of_flat0 rfl) (bel_cons (S202.view v_a0_1).inn.bel bel_nil))) ?_
        obtain ⟨⟨x208, rs209⟩, h210, hd211⟩ := bnd_some hd207
        obtain ⟨_, G218, hc217, p212, c213, rfl, S219, B215, a216⟩ := W_laws_toSchedule fu G203 a0_0 p_a0_1 c_a0_1 a0_1 a_a0_1 (S202.view v_a0_1) x208 rs209 h210
        have S220 := S202.call S219
        refine DR.w rfl rfl (o_call (vs := [.agg [.int .i64 a0_0, .slice p_a0_1 a0_1.length c_a0_1].toArray]) rfl Try.call49 hc217) (S219.len) ?_
        obtain ⟨b221, h222, hd223⟩ := bnd_some hd211
        refine DR.w rfl rfl (o_call (vs := [.agg [.int .i64 x136, .slice p140 rs137.length c141].toArray, .agg [.int .i64 x208, .slice p212 rs209.length c213].toArray]) rfl Try.call23 (W_laws_eqSchedule fu G218 x136 p140 c141 rs137 a144 (S220.oview (k := 4) rfl B143 (flat_len1 a144 rfl)) x208 p212 c213 rs209 a216 (S220.oview (k := 0) rfl B215 (flat_len1 a216 rfl)) b221 h222)) (Nat.le_refl _) ?_
        refine DR.p rfl rfl (p_not rfl) ?_
        refine DR.nil 5 [(0, 2)] hst (by kernel_rfl) ⟨(rdN (fun h => S219.hold _ h)), trivial⟩ ?_
        refine AX.cond rfl (fun c225 => ?_) (fun c225 => ?_)
        · have hd226 := bif_t c225 hd223
          refine AX.seq ?_
          refine AX.region ?_
          refine AO.p rfl (p_assign rfl) ?_
          refine AO.nil ?_
          refine AX.ret ?_
          obtain rfl := some_inj hd226
          exact ⟨.inr rfl, _, res1 rfl (rv_tmp rfl), rfl, (flatB_ok rfl), S220.hold⟩
        · have hd227 := bif_f c225 hd223
          refine AX.skip ?_
          refine AX.seq ?_
          refine AX.region ?_
          refine AO.p rfl (p_assign rfl) ?_
          refine AO.nil ?_
          refine AX.seq ?_
          refine AX.region ?_
          refine AO.c rfl (s_loadN (vs := [.int .i64 x136, .slice p140 rs137.length c141]) Try.isAgg33 Try.sizeOf33 rfl rfl (row_cells (S220.get (k := 3) rfl))) ?_
          refine AO.p rfl (p_move rfl) ?_
          have S228 := S220.front 4 rfl
          obtain ⟨⟨x229, rs230⟩, h231, hd232⟩ := bnd_some hd227
          obtain ⟨_, G236, hc235, rfl, S237, l233, a234⟩ := W_laws_markSchedule fu G218 x136 p140 c141 rs137 a144 B143 1 (S228.onodup (k := 0) rfl) (S228.omem (k := 0) rfl) x229 rs230 h231
          have S238 := St.callM (A := [oseg p140 (ints rs137.flatten)]) S228 S237 (by simp)
          refine AO.c rfl (o_call (vs := [.agg [.int .i64 x136, .slice p140 rs137.length c141].toArray, .int .i64 1]) rfl Try.call24 hc235) ?_
          refine AO.p rfl (p_assign rfl) ?_
          refine AO.nil ?_
          refine AX.seq ?_
          obtain ⟨r253, hb254, hd255⟩ := bnd_some hd232
          refine AX.cut (fun t' H' => ∃ (b252 : Bool), b252 = r253 ∧ St [] H H' [[(i101, AObj.row false ([.int .i64 a0_0, .slice p_a0_1 a0_1.length c_a0_1]))], oseg p128 (ints xs124), oseg p159 (ints xs155)] ∧ Am.Sub [(1, .int .i64 a1), (2, .int .i64 a2), (3, .pointer (some ⟨i101, 0, none⟩)), (8, .slice p128 xs124.length c129), (9, .int .i64 x125), (11, .slice p159 xs155.length c160), (69, .bool b252)] t') ?_ ?_
          · skip
            refine AX.region ?_
            refine AO.p rfl (p_move rfl) ?_
            refine AO.p rfl (p_lss rfl rfl) ?_
            refine AO.p rfl (p_move rfl) ?_
            refine AO.cases (d := 59) rfl (fun c256 => ?_) (fun c256 => ?_)
            · have hd257 := bif_t c256 hb254
              refine AO.gn rfl rfl rfl ?_
              refine AO.gn rfl rfl rfl ?_
              refine AO.gn rfl rfl rfl ?_
              refine AO.gn rfl rfl rfl ?_
              refine AO.p rfl (p_pickT rfl rfl) ?_
              refine AO.p rfl (p_move rfl) ?_
              refine AO.gn rfl rfl rfl ?_
              refine AO.gn rfl rfl rfl ?_
              refine AO.gn rfl rfl rfl ?_
              refine AO.p rfl (p_pickT rfl rfl) ?_
              refine AO.nil ?_
              have S258 := S238.front 5 rfl
              have S259 := S258.front 4 rfl
              have S260 := S259.front 4 rfl
              have S261 := S260.keep 3
              exact ⟨true, (some_inj hd257), S261, Sub.cons' rfl rfl (Sub.cons' rfl rfl (Sub.cons' rfl rfl (Sub.cons' rfl rfl (Sub.cons' rfl rfl (Sub.cons' rfl rfl (Sub.cons' rfl rfl (Sub.nil _)))))))⟩
            · have hd262 := bif_f c256 hb254
              refine AO.gp rfl rfl rfl (p_move rfl) ?_
              refine AO.gp rfl rfl rfl (p_move rfl) ?_
              obtain ⟨b263, h264, hd265⟩ := bnd_some hd262
              refine AO.gc rfl rfl rfl (o_call (vs := [.slice p159 xs155.length c160, .slice p128 xs124.length c129]) rfl Try.call53 (W_laws_eqInt64S fu G236 p159 c160 xs155 (S238.oview (k := 5) rfl B162 (ints_len1 rfl)) p128 c129 xs124 (S238.oview (k := 3) rfl B131 (ints_len1 rfl)) b263 h264)) ?_
              refine AO.gp rfl rfl rfl (p_not rfl) ?_
              refine AO.p rfl (p_pickF rfl rfl) ?_
              refine AO.p rfl (p_move rfl) ?_
              refine AO.cases (d := 65) rfl (fun c267 => ?_) (fun c267 => ?_)
              · have hd268 := bif_t c267 hd265
                refine AO.gn rfl rfl rfl ?_
                refine AO.gn rfl rfl rfl ?_
                refine AO.gn rfl rfl rfl ?_
                refine AO.p rfl (p_pickT rfl rfl) ?_
                refine AO.nil ?_
                have S269 := S238.front 5 rfl
                have S270 := S269.front 4 rfl
                have S271 := S270.front 4 rfl
                have S272 := S271.keep 3
                exact ⟨true, (some_inj hd268), S272, Sub.cons' rfl rfl (Sub.cons' rfl rfl (Sub.cons' rfl rfl (Sub.cons' rfl rfl (Sub.cons' rfl rfl (Sub.cons' rfl rfl (Sub.cons' rfl rfl (Sub.nil _)))))))⟩
              · have hd273 := bif_f c267 hd265
                refine AO.gp rfl rfl rfl (p_move rfl) ?_
                refine AO.gp rfl rfl rfl (p_move rfl) ?_
                refine AO.gp rfl rfl rfl (p_neq rfl rfl) ?_
                refine AO.p rfl (p_pickF rfl rfl) ?_
                refine AO.nil ?_
                have S274 := S238.front 5 rfl
                have S275 := S274.front 4 rfl
                have S276 := S275.front 4 rfl
                have S277 := S276.keep 3
                exact ⟨(!decide (x156 = x125)), (some_inj hd273), S277, Sub.cons' rfl rfl (Sub.cons' rfl rfl (Sub.cons' rfl rfl (Sub.cons' rfl rfl (Sub.cons' rfl rfl (Sub.cons' rfl rfl (Sub.cons' rfl rfl (Sub.nil _)))))))⟩
          · rintro t' G279 ⟨b252, rfl, S278, hsub280⟩
            refine AX.sub hsub280 ?_
            refine AX.cond rfl (fun c281 => ?_) (fun c281 => ?_)
            · have hd282 := bif_t c281 hd255
              refine AX.seq ?_
              refine AX.region ?_
              refine AO.p rfl (p_assign rfl) ?_
              refine AO.nil ?_
              refine AX.ret ?_
              obtain rfl := some_inj hd282
              exact ⟨.inr rfl, _, res1 rfl (rv_tmp rfl), rfl, (flatB_ok rfl), S278.hold⟩
            · have hd283 := bif_f c281 hd255
              refine AX.skip ?_
              refine AX.seq ?_
              refine AX.region ?_
              refine AO.p rfl (p_assign rfl) ?_
              refine AO.nil ?_
              refine AX.seq ?_
              refine AX.region ?_
              refine AO.p rfl (p_move rfl) ?_
              refine AO.p rfl (p_move rfl) ?_
              have S284 := S278.front 2 rfl
              obtain ⟨⟨x285, xs286⟩, h287, hd288⟩ := bnd_some hd283
              obtain ⟨_, G291, hc290, rfl, S292, l289⟩ := W_laws_markInt64S fu G279 p159 c160 xs155 B162 1 (S284.onodup (k := 0) rfl) (S284.omem (k := 0) rfl) x285 xs286 h287
              have S293 := St.callM (A := [oseg p159 (ints xs155)]) S284 S292 (by simp)
              refine AO.c rfl (o_call (vs := [.slice p159 xs155.length c160, .int .i64 1]) rfl Try.call54 hc290) ?_
              refine AO.p rfl (p_assign rfl) ?_
              refine AO.nil ?_
              refine AX.seq ?_
              refine AX.region ?_
              refine AO.p rfl (p_assign rfl) ?_
              refine AO.nil ?_
              refine AX.seq ?_
              refine AX.region ?_
              refine AO.p rfl (p_move rfl) ?_
              refine AO.p rfl (p_move rfl) ?_
              obtain ⟨x294, h295, hd296⟩ := bnd_some hd288
              refine AO.c rfl (o_call (vs := [.slice p159 xs155.length c160, .int .i64 1]) rfl Try.call55 (by have h' := W_laws_heldInt64S fu G291 p159 c160 xs286 (by rw [show List.length xs286 = xs155.length from l289]; exact (S293.oview (k := 0) rfl B162 (ints_len1 l289))) 1 x294 h295; rw [show List.length xs286 = xs155.length from l289] at h'; exact h')) ?_
              refine AO.p rfl (p_assign rfl) ?_
              refine AO.nil ?_
              refine AX.seq ?_
              refine AX.seq ?_
              refine AX.region ?_
              refine AO.p rfl (p_move rfl) ?_
              refine AO.p rfl (p_lss rfl rfl) ?_
              refine AO.nil ?_
              refine AX.cond rfl (fun c298 => ?_) (fun c298 => ?_)
              · have hd299 := bif_t c298 hd296
                refine AX.seq ?_
                refine AX.region ?_
                refine AO.p rfl (p_assign rfl) ?_
                refine AO.nil ?_
                refine AX.ret ?_
                obtain rfl := some_inj hd299
                exact ⟨.inr rfl, _, res1 rfl (rv_tmp rfl), rfl, (flatB_ok rfl), S293.hold⟩
              · have hd300 := bif_f c298 hd296
                refine AX.skip ?_
                refine AX.seq ?_
                refine AX.seq ?_
                refine AX.region ?_
                refine AO.p rfl (p_move rfl) ?_
                refine AO.p rfl (p_move rfl) ?_
                refine AO.p rfl (p_neq rfl rfl) ?_
                refine AO.nil ?_
                refine AX.cond rfl (fun c301 => ?_) (fun c301 => ?_)
                · have hd302 := bif_t c301 hd300
                  refine AX.seq ?_
                  refine AX.region ?_
                  refine AO.p rfl (p_assign rfl) ?_
                  refine AO.nil ?_
                  refine AX.ret ?_
                  obtain rfl := some_inj hd302
                  exact ⟨.inr rfl, _, res1 rfl (rv_tmp rfl), rfl, (flatB_ok rfl), S293.hold⟩
                · have hd303 := bif_f c301 hd300
                  refine AX.skip ?_
                  refine AX.seq ?_
                  refine AX.region ?_
                  refine AO.c rfl (s_loadN (vs := [.int .i64 a0_0, .slice p_a0_1 a0_1.length c_a0_1]) Try.isAgg64 Try.sizeOf64 rfl rfl (row_cells (S293.get (k := 1) rfl))) ?_
                  obtain ⟨⟨x304, rs305⟩, h306, hd307⟩ := bnd_some hd303
                  obtain ⟨_, G314, hc313, p308, c309, rfl, S315, B311, a312⟩ := W_laws_toSchedule fu G291 a0_0 p_a0_1 c_a0_1 a0_1 a_a0_1 (S293.view v_a0_1) x304 rs305 h306
                  have S316 := S293.call S315
                  refine AO.c rfl (o_call (vs := [.agg [.int .i64 a0_0, .slice p_a0_1 a0_1.length c_a0_1].toArray]) rfl Try.call49 hc313) ?_
                  refine AO.p rfl (p_move rfl) ?_
                  refine AO.p rfl (p_move rfl) ?_
                  obtain ⟨⟨xs317, x318⟩, h319, hd320⟩ := bnd_some hd307
                  obtain ⟨_, G326, hc325, p321, c322, rfl, S327, B324⟩ := W_impl_RoundsBetween fu G314 x304 p308 c309 rs305 a312 (S316.oview (k := 0) rfl B311 (flat_len1 a312 rfl)) a1 a2 xs317 x318 h319
                  have S328 := S316.call S327
                  refine AO.c rfl (o_call (vs := [.agg [.int .i64 x304, .slice p308 rs305.length c309].toArray, .int .i64 a1, .int .i64 a2]) rfl Try.call59 hc325) ?_
                  refine AO.p rfl (p_move rfl) ?_
                  refine AO.p rfl (p_extract rfl rfl) ?_
                  refine AO.p rfl (p_extract rfl rfl) ?_
                  refine AO.p rfl (p_assign rfl) ?_
                  refine AO.p rfl (p_assign rfl) ?_
                  refine AO.nil ?_
                  refine AX.seq ?_
                  obtain ⟨r338, hb339, hd340⟩ := bnd_some hd320
                  refine AX.cut (fun t' H' => ∃ (b337 : Bool), b337 = r338 ∧ St [] H H' [oseg p159 (ints xs286)] ∧ Am.Sub [(11, .slice p159 xs155.length c160), (14, .int .i64 x285), (97, .bool b337)] t') ?_ ?_
                  · skip
                    refine AX.region ?_
                    refine AO.p rfl (p_move rfl) ?_
                    refine AO.p rfl (p_move rfl) ?_
                    obtain ⟨b341, h342, hd343⟩ := bnd_some hb339
                    refine AO.c rfl (o_call (vs := [.slice p321 xs317.length c322, .slice p128 xs124.length c129]) rfl Try.call53 (W_laws_eqInt64S fu G326 p321 c322 xs317 (S328.oview (k := 0) rfl B324 (ints_len1 rfl)) p128 c129 xs124 (S328.oview (k := 4) rfl B131 (ints_len1 rfl)) b341 h342)) ?_
                    refine AO.p rfl (p_not rfl) ?_
                    refine AO.p rfl (p_move rfl) ?_
                    refine AO.cases (d := 93) rfl (fun c345 => ?_) (fun c345 => ?_)
                    · have hd346 := bif_t c345 hd343
                      refine AO.gn rfl rfl rfl ?_
                      refine AO.gn rfl rfl rfl ?_
                      refine AO.gn rfl rfl rfl ?_
                      refine AO.p rfl (p_pickT rfl rfl) ?_
                      refine AO.nil ?_
                      have S347 := S328.front 2 rfl
                      have S348 := S347.keep 1
                      exact ⟨true, (some_inj hd346), S348, Sub.cons' rfl rfl (Sub.cons' rfl rfl (Sub.cons' rfl rfl (Sub.nil _)))⟩
                    · have hd349 := bif_f c345 hd343
                      refine AO.gp rfl rfl rfl (p_move rfl) ?_
                      refine AO.gp rfl rfl rfl (p_move rfl) ?_
                      refine AO.gp rfl rfl rfl (p_neq rfl rfl) ?_
                      refine AO.p rfl (p_pickF rfl rfl) ?_
                      refine AO.nil ?_
                      have S350 := S328.front 2 rfl
                      have S351 := S350.keep 1
                      exact ⟨(!decide (x318 = x125)), (some_inj hd349), S351, Sub.cons' rfl rfl (Sub.cons' rfl rfl (Sub.cons' rfl rfl (Sub.nil _)))⟩
                  · rintro t' G353 ⟨b337, rfl, S352, hsub354⟩
                    refine AX.sub hsub354 ?_
                    refine AX.cond rfl (fun c355 => ?_) (fun c355 => ?_)
                    · have hd356 := bif_t c355 hd340
                      refine AX.seq ?_
                      refine AX.region ?_
                      refine AO.p rfl (p_assign rfl) ?_
                      refine AO.nil ?_
                      refine AX.ret ?_
                      obtain rfl := some_inj hd356
                      exact ⟨.inr rfl, _, res1 rfl (rv_tmp rfl), rfl, (flatB_ok rfl), S352.hold⟩
                    · have hd357 := bif_f c355 hd340
                      refine AX.skip ?_
                      refine AX.seq ?_
                      refine AX.region ?_
                      refine AO.p rfl (p_assign rfl) ?_
                      refine AO.nil ?_
                      refine AX.seq ?_
                      refine AX.region ?_
                      refine AO.p rfl (p_move rfl) ?_
                      refine AO.p rfl (p_move rfl) ?_
                      obtain ⟨x358, h359, hd360⟩ := bnd_some hd357
                      refine AO.c rfl (o_call (vs := [.slice p159 xs155.length c160, .int .i64 1]) rfl Try.call55 (by have h' := W_laws_heldInt64S fu G353 p159 c160 xs286 (by rw [show List.length xs286 = xs155.length from l289]; exact (S352.oview (k := 0) rfl B162 (ints_len1 l289))) 1 x358 h359; rw [show List.length xs286 = xs155.length from l289] at h'; exact h')) ?_
                      refine AO.p rfl (p_assign rfl) ?_
                      refine AO.nil ?_
                      refine AX.seq ?_
                      refine AX.seq ?_
                      refine AX.region ?_
                      refine AO.p rfl (p_move rfl) ?_
                      refine AO.p rfl (p_lss rfl rfl) ?_
                      refine AO.nil ?_
                      refine AX.cond rfl (fun c362 => ?_) (fun c362 => ?_)
                      · have hd363 := bif_t c362 hd360
                        refine AX.seq ?_
                        refine AX.region ?_
                        refine AO.p rfl (p_assign rfl) ?_
                        refine AO.nil ?_
                        refine AX.ret ?_
                        obtain rfl := some_inj hd363
                        exact ⟨.inr rfl, _, res1 rfl (rv_tmp rfl), rfl, (flatB_ok rfl), S352.hold⟩
                      · have hd364 := bif_f c362 hd360
                        refine AX.skip ?_
                        refine AX.seq ?_
                        refine AX.seq ?_
                        refine AX.region ?_
                        refine AO.p rfl (p_move rfl) ?_
                        refine AO.p rfl (p_move rfl) ?_
                        refine AO.p rfl (p_neq rfl rfl) ?_
                        refine AO.nil ?_
                        refine AX.cond rfl (fun c365 => ?_) (fun c365 => ?_)
                        · have hd366 := bif_t c365 hd364
                          refine AX.seq ?_
                          refine AX.region ?_
                          refine AO.p rfl (p_assign rfl) ?_
                          refine AO.nil ?_
                          refine AX.ret ?_
                          obtain rfl := some_inj hd366
                          exact ⟨.inr rfl, _, res1 rfl (rv_tmp rfl), rfl, (flatB_ok rfl), S352.hold⟩
                        · have hd367 := bif_f c365 hd364
                          refine AX.skip ?_
                          refine AX.seq ?_
                          refine AX.region ?_
                          refine AO.p rfl (p_assign rfl) ?_
                          refine AO.nil ?_
                          refine AX.ret ?_
                          obtain rfl := some_inj hd367
                          exact ⟨.inr rfl, _, res1 rfl (rv_tmp rfl), rfl, (flatB_ok rfl), S352.hold⟩

end Go.Proofs.Ytocaepkkaihiiaa
