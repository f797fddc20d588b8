/-
  The program computes that, printed by a program. No condition.
-/
import Derived.Test.YtnmbjedijgcncaaDV
import Derived.Test.YtnmbjedijgcncaaWN
import Derived.Test.YtnmbjedijgcncaaProg
import Derived.KernelRfl
namespace Go.Proofs.Ytnmbjedijgcncaa
open Go Go.RowKit Am
set_option linter.unusedVariables false
set_option linter.unusedSimpArgs false
set_option maxRecDepth 20000
set_option maxHeartbeats 4000000 in
theorem W_laws_FnExactJoinSchedules (fu : Nat) (H : AHeap) (a0_0 : Int) (p_a0_1 : Option Addr) (c_a0_1 : Nat) (a0_1 : List (List Int)) (a_a0_1 : All 14 a0_1) (v_a0_1 : Vw H p_a0_1 a0_1.length c_a0_1 (ints a0_1.flatten)) (a1_0 : Int) (p_a1_1 : Option Addr) (c_a1_1 : Nat) (a1_1 : List (List Int)) (a_a1_1 : All 14 a1_1) (v_a1_1 : Vw H p_a1_1 a1_1.length c_a1_1 (ints a1_1.flatten)) (r0 : Bool) (hd : D_laws_FnExactJoinSchedules fu a0_0 a0_1 a1_0 a1_1 = some r0) : ACall Try.prog 12 [.agg [.int .i64 a0_0, .slice p_a0_1 a0_1.length c_a0_1].toArray, .agg [.int .i64 a1_0, .slice p_a1_1 a1_1.length c_a1_1].toArray] H (.bool r0) H := by
  refine ACall.bodyP (N := 119) [(0, .agg [.int .i64 a0_0, .slice p_a0_1 a0_1.length c_a0_1].toArray), (1, .agg [.int .i64 a1_0, .slice p_a1_1 a1_1.length c_a1_1].toArray)] Try.func12 rfl rfl rfl rfl ?_
  unfold D_laws_FnExactJoinSchedules at hd
  have S0 : St [] H H [] := St.nil H
  refine AX.seq ?_
  refine AX.region ?_
  obtain ⟨G100, i101, hii101, hHG100, S102⟩ := S0.new (AObj.row false ([.int .i64 a0_0, .slice p_a0_1 a0_1.length c_a0_1]))
  refine AO.c rfl (s_box (i := i101) (cs := [.int .i64 a0_0, .slice p_a0_1 a0_1.length c_a0_1]) rfl hii101 rfl hHG100) ?_
  obtain ⟨G104, i105, hii105, hHG104, S106⟩ := S102.new (AObj.row false ([.int .i64 a1_0, .slice p_a1_1 a1_1.length c_a1_1]))
  refine AO.c rfl (s_box (i := i105) (cs := [.int .i64 a1_0, .slice p_a1_1 a1_1.length c_a1_1]) rfl hii105 rfl hHG104) ?_
  refine AO.p rfl (p_assign rfl) ?_
  refine AO.nil ?_
  refine AX.seq ?_
  refine AX.region ?_
  refine AO.p rfl (p_assign rfl) ?_
  refine AO.nil ?_
  refine AX.seq ?_
  refine AX.region ?_
  refine AO.c rfl (s_loadN (vs := [.int .i64 a0_0, .slice p_a0_1 a0_1.length c_a0_1]) Try.isAgg38 Try.sizeOf38 rfl rfl (row_cells (S106.get (k := 1) rfl))) ?_
  refine AO.p rfl (p_move rfl) ?_
  obtain ⟨x108, h109, hd110⟩ := bnd_some hd
  refine AO.c rfl (o_call (vs := [.agg [.int .i64 a0_0, .slice p_a0_1 a0_1.length c_a0_1].toArray, .int .i64 1048576]) rfl Try.call26 (W_laws_szSchedule fu G104 a0_0 p_a0_1 c_a0_1 a0_1 a_a0_1 (S106.view v_a0_1) 1048576 x108 h109)) ?_
  refine AO.p rfl (p_assign rfl) ?_
  refine AO.nil ?_
  refine AX.seq ?_
  refine AX.seq ?_
  refine AX.region ?_
  refine AO.p rfl (p_move rfl) ?_
  refine AO.p rfl (p_lss rfl rfl) ?_
  refine AO.nil ?_
  refine AX.cond rfl (fun c112 => ?_) (fun c112 => ?_)
  · have hd113 := bif_t c112 hd110
    refine AX.seq ?_
    refine AX.region ?_
    refine AO.p rfl (p_assign rfl) ?_
    refine AO.nil ?_
    refine AX.ret ?_
    obtain rfl := some_inj hd113
    exact ⟨.inr rfl, _, res1 rfl (rv_tmp rfl), rfl, (flatB_ok rfl), S106.hold⟩
  · have hd114 := bif_f c112 hd110
    refine AX.skip ?_
    refine AX.seq ?_
    refine AX.region ?_
    refine AO.c rfl (s_loadN (vs := [.int .i64 a1_0, .slice p_a1_1 a1_1.length c_a1_1]) Try.isAgg38 Try.sizeOf38 rfl rfl (row_cells (S106.get (k := 0) rfl))) ?_
    refine AO.p rfl (p_move rfl) ?_
    obtain ⟨x115, h116, hd117⟩ := bnd_some hd114
    refine AO.c rfl (o_call (vs := [.agg [.int .i64 a1_0, .slice p_a1_1 a1_1.length c_a1_1].toArray, .int .i64 x108]) rfl Try.call26 (W_laws_szSchedule fu G104 a1_0 p_a1_1 c_a1_1 a1_1 a_a1_1 (S106.view v_a1_1) x108 x115 h116)) ?_
    refine AO.p rfl (p_assign rfl) ?_
    refine AO.nil ?_
    refine AX.seq ?_
    refine AX.seq ?_
    refine AX.region ?_
    refine AO.p rfl (p_move rfl) ?_
    refine AO.p rfl (p_lss rfl rfl) ?_
    refine AO.nil ?_
    refine AX.cond rfl (fun c119 => ?_) (fun c119 => ?_)
    · have hd120 := bif_t c119 hd117
      refine AX.seq ?_
      refine AX.region ?_
      refine AO.p rfl (p_assign rfl) ?_
      refine AO.nil ?_
      refine AX.ret ?_
      obtain rfl := some_inj hd120
      exact ⟨.inr rfl, _, res1 rfl (rv_tmp rfl), rfl, (flatB_ok rfl), S106.hold⟩
    · have hd121 := bif_f c119 hd117
      refine AX.skip ?_
      refine AX.seq ?_
      refine DR.startS [false, true, false, true, true, false, false, false, false, true, false] mix (by kernel_rfl) (fun hst => ?_)
      refine DR.r rfl rfl (r_loadN (vs := [.int .i64 a0_0, .slice p_a0_1 a0_1.length c_a0_1]) rfl Try.isAgg38 Try.sizeOf38 rfl) (many_row (row_cells (S106.get (k := 1) rfl)) (bel_cons (.of_flat0 rfl) (bel_cons (S106.view v_a0_1).inn.bel bel_nil))) ?_
      obtain ⟨⟨x122, rs123⟩, h124, hd125⟩ := bnd_some hd121
      obtain ⟨_, G132, hc131, p126, c127, rfl, S133, B129, a130⟩ := W_laws_toSchedule fu G104 a0_0 p_a0_1 c_a0_1 a0_1 a_a0_1 (S106.view v_a0_1) x122 rs123 h124
      have S134 := S106.call S133
      refine DR.w rfl rfl (o_call (vs := [.agg [.int .i64 a0_0, .slice p_a0_1 a0_1.length c_a0_1].toArray]) rfl Try.call28 hc131) (S133.len) ?_
      refine DR.r rfl rfl (r_loadN (vs := [.int .i64 a1_0, .slice p_a1_1 a1_1.length c_a1_1]) rfl Try.isAgg38 Try.sizeOf38 rfl) (many_row (row_cells (S134.get (k := 1) rfl)) (bel_cons (.of_flat0 rfl) (bel_cons (S134.view v_a1_1).inn.bel bel_nil))) ?_
      obtain ⟨⟨x135, rs136⟩, h137, hd138⟩ := bnd_some hd125
      obtain ⟨_, G145, hc144, p139, c140, rfl, S146, B142, a143⟩ := W_laws_toSchedule fu G132 a1_0 p_a1_1 c_a1_1 a1_1 a_a1_1 (S134.view v_a1_1) x135 rs136 h137
      have S147 := S134.call S146
      refine DR.w rfl rfl (o_call (vs := [.agg [.int .i64 a1_0, .slice p_a1_1 a1_1.length c_a1_1].toArray]) rfl Try.call28 hc144) (S146.len) ?_
      obtain ⟨⟨x148, rs149, x150⟩, h151, hd152⟩ := bnd_some hd138
      obtain ⟨_, G159, hc158, p153, c154, rfl, S160, B156, a157⟩ := W_spec_JoinSchedules fu G145 x122 p126 c127 rs123 a130 (S147.oview (k := 1) rfl B129 (flat_len1 a130 rfl)) x135 p139 c140 rs136 a143 (S147.oview (k := 0) rfl B142 (flat_len1 a143 rfl)) x148 rs149 x150 h151
      have S161 := S147.call S160
      refine DR.w rfl rfl (o_call (vs := [.agg [.int .i64 x122, .slice p126 rs123.length c127].toArray, .agg [.int .i64 x135, .slice p139 rs136.length c140].toArray]) rfl Try.call49 hc158) (S160.len) ?_
      refine DR.p rfl rfl (p_move rfl) ?_
      refine DR.p rfl rfl (p_extract rfl rfl) ?_
      refine DR.p rfl rfl (p_extract rfl rfl) ?_
      obtain ⟨G162, i163, hii163, hHG162, S164⟩ := S161.new (AObj.row false ([.int .i64 0, .slice none 0 0]))
      refine DR.a rfl rfl hii163 hHG162 (a_alloc Try.zeroValue43 (flat_list rfl)) ?_
      obtain ⟨G166, hHG166, S167⟩ := S164.set (k := 0) (i := i163) rfl (AObj.row false ([.int .i64 x148, .slice p153 rs149.length c154]))
      refine DR.s rfl (s_storeAll (vs := [.int .i64 x148, .slice p153 rs149.length c154]) Try.sizeOf43 rfl rfl (ones_list rfl) (S164.get (k := 0) rfl) rfl rfl hHG166) (set_le hHG166) ?_
      refine DR.p rfl rfl (p_assign rfl) ?_
      refine DR.nil 11 [(2, 1), (8, 1), (8, 3), (8, 4)] hst (by kernel_rfl) ⟨(rdN (fun h => S133.hold _ h)), (fun h => absurd h (by decide)), (fun h => absurd h (by decide)), (fun h => absurd h (by decide)), trivial⟩ ?_
      refine AX.seq ?_
      refine AX.region ?_
      refine AO.c rfl (s_loadN (vs := [.int .i64 a0_0, .slice p_a0_1 a0_1.length c_a0_1]) Try.isAgg38 Try.sizeOf38 rfl rfl (row_cells (S167.get (k := 5) rfl))) ?_
      obtain ⟨⟨x168, rs169⟩, h170, hd171⟩ := bnd_some hd152
      obtain ⟨_, G178, hc177, p172, c173, rfl, S179, B175, a176⟩ := W_laws_toSchedule fu G166 a0_0 p_a0_1 c_a0_1 a0_1 a_a0_1 (S167.view v_a0_1) x168 rs169 h170
      have S180 := S167.call S179
      refine AO.c rfl (o_call (vs := [.agg [.int .i64 a0_0, .slice p_a0_1 a0_1.length c_a0_1].toArray]) rfl Try.call28 hc177) ?_
      obtain ⟨G181, i182, hii182, hHG181, S183⟩ := S180.new (AObj.row false ([.int .i64 0, .slice none 0 0]))
      refine AO.c rfl (s_alloc (i := i182) (cs := [.int .i64 0, .slice none 0 0]) Try.zeroValue43 rfl rfl hii182 hHG181) ?_
      obtain ⟨G185, hHG185, S186⟩ := S183.set (k := 0) (i := i182) rfl (AObj.row false ([.int .i64 x168, .slice p172 rs169.length c173]))
      refine AO.s (s_storeAll (vs := [.int .i64 x168, .slice p172 rs169.length c173]) Try.sizeOf43 rfl rfl (ones_list rfl) (S183.get (k := 0) rfl) rfl rfl hHG185) ?_
      refine AO.nil ?_
      refine AX.seq ?_
      refine AX.region ?_
      refine AO.c rfl (s_loadN (vs := [.int .i64 a1_0, .slice p_a1_1 a1_1.length c_a1_1]) Try.isAgg38 Try.sizeOf38 rfl rfl (row_cells (S186.get (k := 6) rfl))) ?_
      obtain ⟨⟨x187, rs188⟩, h189, hd190⟩ := bnd_some hd171
      obtain ⟨_, G197, hc196, p191, c192, rfl, S198, B194, a195⟩ := W_laws_toSchedule fu G185 a1_0 p_a1_1 c_a1_1 a1_1 a_a1_1 (S186.view v_a1_1) x187 rs188 h189
      have S199 := S186.call S198
      refine AO.c rfl (o_call (vs := [.agg [.int .i64 a1_0, .slice p_a1_1 a1_1.length c_a1_1].toArray]) rfl Try.call28 hc196) ?_
      obtain ⟨G200, i201, hii201, hHG200, S202⟩ := S199.new (AObj.row false ([.int .i64 0, .slice none 0 0]))
      refine AO.c rfl (s_alloc (i := i201) (cs := [.int .i64 0, .slice none 0 0]) Try.zeroValue43 rfl rfl hii201 hHG200) ?_
      obtain ⟨G204, hHG204, S205⟩ := S202.set (k := 0) (i := i201) rfl (AObj.row false ([.int .i64 x187, .slice p191 rs188.length c192]))
      refine AO.s (s_storeAll (vs := [.int .i64 x187, .slice p191 rs188.length c192]) Try.sizeOf43 rfl rfl (ones_list rfl) (S202.get (k := 0) rfl) rfl rfl hHG204) ?_
      refine AO.nil ?_
      refine AX.seq ?_
      refine AX.region ?_
      refine AO.c rfl (s_loadN (vs := [.int .i64 x168, .slice p172 rs169.length c173]) Try.isAgg43 Try.sizeOf43 rfl rfl (row_cells (S205.get (k := 2) rfl))) ?_
      refine AO.c rfl (s_loadN (vs := [.int .i64 x187, .slice p191 rs188.length c192]) Try.isAgg43 Try.sizeOf43 rfl rfl (row_cells (S205.get (k := 0) rfl))) ?_
      obtain ⟨⟨x206, rs207, x208⟩, h209, hd210⟩ := bnd_some hd190
      obtain ⟨_, G217, hc216, p211, c212, rfl, S218, B214, a215⟩ := W_impl_JoinSchedules fu G204 x168 p172 c173 rs169 a176 (S205.oview (k := 3) rfl B175 (flat_len1 a176 rfl)) x187 p191 c192 rs188 a195 (S205.oview (k := 1) rfl B194 (flat_len1 a195 rfl)) x206 rs207 x208 h209
      have S219 := S205.call S218
      refine AO.c rfl (o_call (vs := [.agg [.int .i64 x168, .slice p172 rs169.length c173].toArray, .agg [.int .i64 x187, .slice p191 rs188.length c192].toArray]) rfl Try.call50 hc216) ?_
      refine AO.p rfl (p_move rfl) ?_
      refine AO.p rfl (p_extract rfl rfl) ?_
      refine AO.p rfl (p_extract rfl rfl) ?_
      obtain ⟨G220, i221, hii221, hHG220, S222⟩ := S219.new (AObj.row false ([.int .i64 0, .slice none 0 0]))
      refine AO.c rfl (s_alloc (i := i221) (cs := [.int .i64 0, .slice none 0 0]) Try.zeroValue43 rfl rfl hii221 hHG220) ?_
      obtain ⟨G224, hHG224, S225⟩ := S222.set (k := 0) (i := i221) rfl (AObj.row false ([.int .i64 x206, .slice p211 rs207.length c212]))
      refine AO.s (s_storeAll (vs := [.int .i64 x206, .slice p211 rs207.length c212]) Try.sizeOf43 rfl rfl (ones_list rfl) (S222.get (k := 0) rfl) rfl rfl hHG224) ?_
      refine AO.p rfl (p_assign rfl) ?_
      refine AO.nil ?_
      refine AX.seq ?_
      obtain ⟨r244, hb245, hd246⟩ := bnd_some hd210
      refine AX.cut (fun t' H' => ∃ (b243 : Bool), b243 = r244 ∧ St [] H H' [[(i101, AObj.row false ([.int .i64 a0_0, .slice p_a0_1 a0_1.length c_a0_1]))], [(i105, AObj.row false ([.int .i64 a1_0, .slice p_a1_1 a1_1.length c_a1_1]))], [(i163, AObj.row false ([.int .i64 x148, .slice p153 rs149.length c154]))], oseg p153 (ints rs149.flatten), [(i182, AObj.row false ([.int .i64 x168, .slice p172 rs169.length c173]))], oseg p172 (ints rs169.flatten), [(i201, AObj.row false ([.int .i64 x187, .slice p191 rs188.length c192]))], oseg p191 (ints rs188.flatten), [(i221, AObj.row false ([.int .i64 x206, .slice p211 rs207.length c212]))], oseg p211 (ints rs207.flatten)] ∧ Am.Sub [(2, .pointer (some ⟨i101, 0, none⟩)), (3, .pointer (some ⟨i105, 0, none⟩)), (6, .pointer (some ⟨i163, 0, none⟩)), (7, .int .i64 x150), (8, .pointer (some ⟨i182, 0, none⟩)), (9, .pointer (some ⟨i201, 0, none⟩)), (10, .pointer (some ⟨i221, 0, none⟩)), (11, .int .i64 x208), (53, .bool b243)] t') ?_ ?_
      · skip
        refine AX.region ?_
        refine AO.c rfl (s_loadN (vs := [.int .i64 x206, .slice p211 rs207.length c212]) Try.isAgg43 Try.sizeOf43 rfl rfl (row_cells (S225.get (k := 0) rfl))) ?_
        refine AO.c rfl (s_loadN (vs := [.int .i64 x148, .slice p153 rs149.length c154]) Try.isAgg43 Try.sizeOf43 rfl rfl (row_cells (S225.get (k := 6) rfl))) ?_
        obtain ⟨b247, h248, hd249⟩ := bnd_some hb245
        refine AO.c rfl (o_call (vs := [.agg [.int .i64 x206, .slice p211 rs207.length c212].toArray, .agg [.int .i64 x148, .slice p153 rs149.length c154].toArray]) rfl Try.call30 (W_laws_eqSchedule fu G224 x206 p211 c212 rs207 a215 (S225.oview (k := 1) rfl B214 (flat_len1 a215 rfl)) x148 p153 c154 rs149 a157 (S225.oview (k := 7) rfl B156 (flat_len1 a157 rfl)) b247 h248)) ?_
        refine AO.p rfl (p_not rfl) ?_
        refine AO.p rfl (p_move rfl) ?_
        refine AO.cases (d := 49) rfl (fun c251 => ?_) (fun c251 => ?_)
        · have hd252 := bif_t c251 hd249
          refine AO.gn rfl rfl rfl ?_
          refine AO.gn rfl rfl rfl ?_
          refine AO.gn rfl rfl rfl ?_
          refine AO.p rfl (p_pickT rfl rfl) ?_
          refine AO.nil ?_
          have S253 := S225.front 1 rfl
          have S254 := S253.front 1 rfl
          have S255 := S254.front 3 rfl
          have S256 := S255.front 3 rfl
          have S257 := S256.front 5 rfl
          have S258 := S257.front 5 rfl
          have S259 := S258.front 7 rfl
          have S260 := S259.front 7 rfl
          have S261 := S260.front 10 rfl
          have S262 := S261.front 11 rfl
          have S263 := S262.keep 10
          exact ⟨true, (some_inj hd252), S263, Sub.cons' rfl rfl (Sub.cons' rfl rfl (Sub.cons' rfl rfl (Sub.cons' rfl rfl (Sub.cons' rfl rfl (Sub.cons' rfl rfl (Sub.cons' rfl rfl (Sub.cons' rfl rfl (Sub.cons' rfl rfl (Sub.nil _)))))))))⟩
        · have hd264 := bif_f c251 hd249
          refine AO.gp rfl rfl rfl (p_move rfl) ?_
          refine AO.gp rfl rfl rfl (p_move rfl) ?_
          refine AO.gp rfl rfl rfl (p_neq rfl rfl) ?_
          refine AO.p rfl (p_pickF rfl rfl) ?_
          refine AO.nil ?_
          have S265 := S225.front 1 rfl
          have S266 := S265.front 1 rfl
          have S267 := S266.front 3 rfl
          have S268 := S267.front 3 rfl
          have S269 := S268.front 5 rfl
          have S270 := S269.front 5 rfl
          have S271 := S270.front 7 rfl
          have S272 := S271.front 7 rfl
          have S273 := S272.front 10 rfl
          have S274 := S273.front 11 rfl
          have S275 := S274.keep 10
          exact ⟨(!decide (x208 = x150)), (some_inj hd264), S275, Sub.cons' rfl rfl (Sub.cons' rfl rfl (Sub.cons' rfl rfl (Sub.cons' rfl rfl (Sub.cons' rfl rfl (Sub.cons' rfl rfl (Sub.cons' rfl rfl (Sub.cons' rfl rfl (Sub.cons' rfl rfl (Sub.nil _)))))))))⟩
      · rintro t' G277 ⟨b243, rfl, S276, hsub278⟩
        refine AX.sub hsub278 ?_
        refine AX.cond rfl (fun c279 => ?_) (fun c279 => ?_)
        · have hd280 := bif_t c279 hd246
          refine AX.seq ?_
          refine AX.region ?_
          refine AO.p rfl (p_assign rfl) ?_
          refine AO.nil ?_
          refine AX.ret ?_
          obtain rfl := some_inj hd280
          exact ⟨.inr rfl, _, res1 rfl (rv_tmp rfl), rfl, (flatB_ok rfl), S276.hold⟩
        · have hd281 := bif_f c279 hd246
          refine AX.skip ?_
          refine AX.seq ?_
          refine AX.seq ?_
          refine DR.startS [false, false, true, true, false] mix (by kernel_rfl) (fun hst => ?_)
          refine DR.r rfl rfl (r_loadN (vs := [.int .i64 x168, .slice p172 rs169.length c173]) rfl Try.isAgg43 Try.sizeOf43 rfl) (many_row (row_cells (S276.get (k := 4) rfl)) (bel_cons (.of_flat0 rfl) (bel_cons (S276.oin (k := 5) rfl B175).bel bel_nil))) ?_
          refine DR.r rfl rfl (r_loadN (vs := [.int .i64 a0_0, .slice p_a0_1 a0_1.length c_a0_1]) rfl Try.isAgg38 Try.sizeOf38 rfl) (many_row (row_cells (S276.get (k := 0) rfl)) (bel_cons (.of_flat0 rfl) (bel_cons (S276.view v_a0_1).inn.bel bel_nil))) ?_
          obtain ⟨⟨x282, rs283⟩, h284, hd285⟩ := bnd_some hd281
          obtain ⟨_, G292, hc291, p286, c287, rfl, S293, B289, a290⟩ := W_laws_toSchedule fu G277 a0_0 p_a0_1 c_a0_1 a0_1 a_a0_1 (S276.view v_a0_1) x282 rs283 h284
          have S294 := S276.call S293
          refine DR.w rfl rfl (o_call (vs := [.agg [.int .i64 a0_0, .slice p_a0_1 a0_1.length c_a0_1].toArray]) rfl Try.call28 hc291) (S293.len) ?_
          obtain ⟨b295, h296, hd297⟩ := bnd_some hd285
          refine DR.w rfl rfl (o_call (vs := [.agg [.int .i64 x168, .slice p172 rs169.length c173].toArray, .agg [.int .i64 x282, .slice p286 rs283.length c287].toArray]) rfl Try.call30 (W_laws_eqSchedule fu G292 x168 p172 c173 rs169 a176 (S294.oview (k := 6) rfl B175 (flat_len1 a176 rfl)) x282 p286 c287 rs283 a290 (S294.oview (k := 0) rfl B289 (flat_len1 a290 rfl)) b295 h296)) (Nat.le_refl _) ?_
          refine DR.p rfl rfl (p_not rfl) ?_
          refine DR.nil 5 [(0, 2)] hst (by kernel_rfl) ⟨(rdN (fun h => S293.hold _ h)), trivial⟩ ?_
          refine AX.cond rfl (fun c299 => ?_) (fun c299 => ?_)
          · have hd300 := bif_t c299 hd297
            refine AX.seq ?_
            refine AX.region ?_
            refine AO.p rfl (p_assign rfl) ?_
            refine AO.nil ?_
            refine AX.ret ?_
            obtain rfl := some_inj hd300
            exact ⟨.inr rfl, _, res1 rfl (rv_tmp rfl), rfl, (flatB_ok rfl), S294.hold⟩
          · have hd301 := bif_f c299 hd297
            refine AX.skip ?_
            refine AX.seq ?_
            refine AX.seq ?_
            refine DR.startS [false, false, true, true, false] mix (by kernel_rfl) (fun hst => ?_)
            refine DR.r rfl rfl (r_loadN (vs := [.int .i64 x187, .slice p191 rs188.length c192]) rfl Try.isAgg43 Try.sizeOf43 rfl) (many_row (row_cells (S294.get (k := 7) rfl)) (bel_cons (.of_flat0 rfl) (bel_cons (S294.oin (k := 8) rfl B194).bel bel_nil))) ?_
            refine DR.r rfl rfl (r_loadN (vs := [.int .i64 a1_0, .slice p_a1_1 a1_1.length c_a1_1]) rfl Try.isAgg38 Try.sizeOf38 rfl) (many_row (row_cells (S294.get (k := 2) rfl)) (bel_cons (.of_flat0 rfl) (bel_cons (S294.view v_a1_1).inn.bel bel_nil))) ?_
            obtain ⟨⟨x302, rs303⟩, h304, hd305⟩ := bnd_some hd301
            obtain ⟨_, G312, hc311, p306, c307, rfl, S313, B309, a310⟩ := W_laws_toSchedule fu G292 a1_0 p_a1_1 c_a1_1 a1_1 a_a1_1 (S294.view v_a1_1) x302 rs303 h304
            have S314 := S294.call S313
            refine DR.w rfl rfl (o_call (vs := [.agg [.int .i64 a1_0, .slice p_a1_1 a1_1.length c_a1_1].toArray]) rfl Try.call28 hc311) (S313.len) ?_
            obtain ⟨b315, h316, hd317⟩ := bnd_some hd305
            refine DR.w rfl rfl (o_call (vs := [.agg [.int .i64 x187, .slice p191 rs188.length c192].toArray, .agg [.int .i64 x302, .slice p306 rs303.length c307].toArray]) rfl Try.call30 (W_laws_eqSchedule fu G312 x187 p191 c192 rs188 a195 (S314.oview (k := 9) rfl B194 (flat_len1 a195 rfl)) x302 p306 c307 rs303 a310 (S314.oview (k := 0) rfl B309 (flat_len1 a310 rfl)) b315 h316)) (Nat.le_refl _) ?_
            refine DR.p rfl rfl (p_not rfl) ?_
            refine DR.nil 5 [(0, 2)] hst (by kernel_rfl) ⟨(rdN (fun h => S313.hold _ h)), trivial⟩ ?_
            refine AX.cond rfl (fun c319 => ?_) (fun c319 => ?_)
            · have hd320 := bif_t c319 hd317
              refine AX.seq ?_
              refine AX.region ?_
              refine AO.p rfl (p_assign rfl) ?_
              refine AO.nil ?_
              refine AX.ret ?_
              obtain rfl := some_inj hd320
              exact ⟨.inr rfl, _, res1 rfl (rv_tmp rfl), rfl, (flatB_ok rfl), S314.hold⟩
            · have hd321 := bif_f c319 hd317
              refine AX.skip ?_
              refine AX.seq ?_
              refine AX.region ?_
              refine AO.p rfl (p_assign rfl) ?_
              refine AO.nil ?_
              refine AX.seq ?_
              refine AX.region ?_
              refine AO.c rfl (s_loadN (vs := [.int .i64 x168, .slice p172 rs169.length c173]) Try.isAgg43 Try.sizeOf43 rfl rfl (row_cells (S314.get (k := 6) rfl))) ?_
              refine AO.p rfl (p_move rfl) ?_
              have S322 := S314.front 7 rfl
              obtain ⟨⟨x323, rs324⟩, h325, hd326⟩ := bnd_some hd321
              obtain ⟨_, G330, hc329, rfl, S331, l327, a328⟩ := W_laws_markSchedule fu G312 x168 p172 c173 rs169 a176 B175 1 (S322.onodup (k := 0) rfl) (S322.omem (k := 0) rfl) x323 rs324 h325
              have S332 := St.callM (A := [oseg p172 (ints rs169.flatten)]) S322 S331 (by simp)
              refine AO.c rfl (o_call (vs := [.agg [.int .i64 x168, .slice p172 rs169.length c173].toArray, .int .i64 1]) rfl Try.call31 hc329) ?_
              refine AO.p rfl (p_assign rfl) ?_
              refine AO.nil ?_
              refine AX.seq ?_
              refine AX.region ?_
              refine AO.c rfl (s_loadN (vs := [.int .i64 x187, .slice p191 rs188.length c192]) Try.isAgg43 Try.sizeOf43 rfl rfl (row_cells (S332.get (k := 8) rfl))) ?_
              refine AO.p rfl (p_move rfl) ?_
              have S333 := S332.front 9 rfl
              obtain ⟨⟨x334, rs335⟩, h336, hd337⟩ := bnd_some hd326
              obtain ⟨_, G341, hc340, rfl, S342, l338, a339⟩ := W_laws_markSchedule fu G330 x187 p191 c192 rs188 a195 B194 x323 (S333.onodup (k := 0) rfl) (S333.omem (k := 0) rfl) x334 rs335 h336
              have S343 := St.callM (A := [oseg p191 (ints rs188.flatten)]) S333 S342 (by simp)
              refine AO.c rfl (o_call (vs := [.agg [.int .i64 x187, .slice p191 rs188.length c192].toArray, .int .i64 x323]) rfl Try.call31 hc340) ?_
              refine AO.p rfl (p_assign rfl) ?_
              refine AO.nil ?_
              refine AX.seq ?_
              obtain ⟨r361, hb362, hd363⟩ := bnd_some hd337
              refine AX.cut (fun t' H' => ∃ (b360 : Bool), b360 = r361 ∧ St [] H H' [[(i101, AObj.row false ([.int .i64 a0_0, .slice p_a0_1 a0_1.length c_a0_1]))], [(i105, AObj.row false ([.int .i64 a1_0, .slice p_a1_1 a1_1.length c_a1_1]))], [(i163, AObj.row false ([.int .i64 x148, .slice p153 rs149.length c154]))], oseg p153 (ints rs149.flatten), [(i221, AObj.row false ([.int .i64 x206, .slice p211 rs207.length c212]))], oseg p211 (ints rs207.flatten)] ∧ Am.Sub [(2, .pointer (some ⟨i101, 0, none⟩)), (3, .pointer (some ⟨i105, 0, none⟩)), (6, .pointer (some ⟨i163, 0, none⟩)), (7, .int .i64 x150), (10, .pointer (some ⟨i221, 0, none⟩)), (82, .bool b360)] t') ?_ ?_
              · skip
                refine AX.region ?_
                refine AO.p rfl (p_move rfl) ?_
                refine AO.p rfl (p_lss rfl rfl) ?_
                refine AO.p rfl (p_move rfl) ?_
                refine AO.cases (d := 72) rfl (fun c364 => ?_) (fun c364 => ?_)
                · have hd365 := bif_t c364 hb362
                  refine AO.gn rfl rfl rfl ?_
                  refine AO.gn rfl rfl rfl ?_
                  refine AO.gn rfl rfl rfl ?_
                  refine AO.gn rfl rfl rfl ?_
                  refine AO.p rfl (p_pickT rfl rfl) ?_
                  refine AO.p rfl (p_move rfl) ?_
                  refine AO.gn rfl rfl rfl ?_
                  refine AO.gn rfl rfl rfl ?_
                  refine AO.gn rfl rfl rfl ?_
                  refine AO.p rfl (p_pickT rfl rfl) ?_
                  refine AO.nil ?_
                  have S366 := S343.front 11 rfl
                  have S367 := S366.front 11 rfl
                  have S368 := S367.front 9 rfl
                  have S369 := S368.front 9 rfl
                  have S370 := S369.front 9 rfl
                  have S371 := S370.front 9 rfl
                  have S372 := S371.keep 6
                  exact ⟨true, (some_inj hd365), S372, Sub.cons' rfl rfl (Sub.cons' rfl rfl (Sub.cons' rfl rfl (Sub.cons' rfl rfl (Sub.cons' rfl rfl (Sub.cons' rfl rfl (Sub.nil _))))))⟩
                · have hd373 := bif_f c364 hb362
                  refine AO.gc rfl rfl rfl (s_loadN (vs := [.int .i64 x206, .slice p211 rs207.length c212]) Try.isAgg43 Try.sizeOf43 rfl rfl (row_cells (S343.get (k := 10) rfl))) ?_
                  refine AO.gc rfl rfl rfl (s_loadN (vs := [.int .i64 x148, .slice p153 rs149.length c154]) Try.isAgg43 Try.sizeOf43 rfl rfl (row_cells (S343.get (k := 6) rfl))) ?_
                  obtain ⟨b374, h375, hd376⟩ := bnd_some hd373
                  refine AO.gc rfl rfl rfl (o_call (vs := [.agg [.int .i64 x206, .slice p211 rs207.length c212].toArray, .agg [.int .i64 x148, .slice p153 rs149.length c154].toArray]) rfl Try.call30 (W_laws_eqSchedule fu G341 x206 p211 c212 rs207 a215 (S343.oview (k := 11) rfl B214 (flat_len1 a215 rfl)) x148 p153 c154 rs149 a157 (S343.oview (k := 7) rfl B156 (flat_len1 a157 rfl)) b374 h375)) ?_
                  refine AO.gp rfl rfl rfl (p_not rfl) ?_
                  refine AO.p rfl (p_pickF rfl rfl) ?_
                  refine AO.p rfl (p_move rfl) ?_
                  refine AO.cases (d := 78) rfl (fun c378 => ?_) (fun c378 => ?_)
                  · have hd379 := bif_t c378 hd376
                    refine AO.gn rfl rfl rfl ?_
                    refine AO.gn rfl rfl rfl ?_
                    refine AO.gn rfl rfl rfl ?_
                    refine AO.p rfl (p_pickT rfl rfl) ?_
                    refine AO.nil ?_
                    have S380 := S343.front 11 rfl
                    have S381 := S380.front 11 rfl
                    have S382 := S381.front 9 rfl
                    have S383 := S382.front 9 rfl
                    have S384 := S383.front 9 rfl
                    have S385 := S384.front 9 rfl
                    have S386 := S385.keep 6
                    exact ⟨true, (some_inj hd379), S386, Sub.cons' rfl rfl (Sub.cons' rfl rfl (Sub.cons' rfl rfl (Sub.cons' rfl rfl (Sub.cons' rfl rfl (Sub.cons' rfl rfl (Sub.nil _))))))⟩
                  · have hd387 := bif_f c378 hd376
                    refine AO.gp rfl rfl rfl (p_move rfl) ?_
                    refine AO.gp rfl rfl rfl (p_move rfl) ?_
                    refine AO.gp rfl rfl rfl (p_neq rfl rfl) ?_
                    refine AO.p rfl (p_pickF rfl rfl) ?_
                    refine AO.nil ?_
                    have S388 := S343.front 11 rfl
                    have S389 := S388.front 11 rfl
                    have S390 := S389.front 9 rfl
                    have S391 := S390.front 9 rfl
                    have S392 := S391.front 9 rfl
                    have S393 := S392.front 9 rfl
                    have S394 := S393.keep 6
                    exact ⟨(!decide (x208 = x150)), (some_inj hd387), S394, Sub.cons' rfl rfl (Sub.cons' rfl rfl (Sub.cons' rfl rfl (Sub.cons' rfl rfl (Sub.cons' rfl rfl (Sub.cons' rfl rfl (Sub.nil _))))))⟩
              · rintro t' G396 ⟨b360, rfl, S395, hsub397⟩
                refine AX.sub hsub397 ?_
                refine AX.cond rfl (fun c398 => ?_) (fun c398 => ?_)
                · have hd399 := bif_t c398 hd363
                  refine AX.seq ?_
                  refine AX.region ?_
                  refine AO.p rfl (p_assign rfl) ?_
                  refine AO.nil ?_
                  refine AX.ret ?_
                  obtain rfl := some_inj hd399
                  exact ⟨.inr rfl, _, res1 rfl (rv_tmp rfl), rfl, (flatB_ok rfl), S395.hold⟩
                · have hd400 := bif_f c398 hd363
                  refine AX.skip ?_
                  refine AX.seq ?_
                  refine AX.region ?_
                  refine AO.p rfl (p_assign rfl) ?_
                  refine AO.nil ?_
                  refine AX.seq ?_
                  refine AX.region ?_
                  refine AO.c rfl (s_loadN (vs := [.int .i64 x206, .slice p211 rs207.length c212]) Try.isAgg43 Try.sizeOf43 rfl rfl (row_cells (S395.get (k := 4) rfl))) ?_
                  refine AO.p rfl (p_move rfl) ?_
                  have S401 := S395.front 5 rfl
                  obtain ⟨⟨x402, rs403⟩, h404, hd405⟩ := bnd_some hd400
                  obtain ⟨_, G409, hc408, rfl, S410, l406, a407⟩ := W_laws_markSchedule fu G396 x206 p211 c212 rs207 a215 B214 1 (S401.onodup (k := 0) rfl) (S401.omem (k := 0) rfl) x402 rs403 h404
                  have S411 := St.callM (A := [oseg p211 (ints rs207.flatten)]) S401 S410 (by simp)
                  refine AO.c rfl (o_call (vs := [.agg [.int .i64 x206, .slice p211 rs207.length c212].toArray, .int .i64 1]) rfl Try.call31 hc408) ?_
                  refine AO.p rfl (p_assign rfl) ?_
                  refine AO.nil ?_
                  refine AX.seq ?_
                  refine AX.region ?_
                  refine AO.p rfl (p_assign rfl) ?_
                  refine AO.nil ?_
                  refine AX.seq ?_
                  refine AX.region ?_
                  refine AO.c rfl (s_loadN (vs := [.int .i64 x206, .slice p211 rs207.length c212]) Try.isAgg43 Try.sizeOf43 rfl rfl (row_cells (S411.get (k := 5) rfl))) ?_
                  refine AO.p rfl (p_move rfl) ?_
                  obtain ⟨x412, h413, hd414⟩ := bnd_some hd405
                  refine AO.c rfl (o_call (vs := [.agg [.int .i64 x206, .slice p211 rs207.length c212].toArray, .int .i64 1]) rfl Try.call51 (by have h' := W_laws_heldSchedule fu G409 x206 p211 c212 rs403 a407 (by rw [show List.length rs403 = rs207.length from l406]; exact (S411.oview (k := 0) rfl B214 (flat_len1 a407 l406))) 1 x412 h413; rw [show List.length rs403 = rs207.length from l406] at h'; exact h')) ?_
                  refine AO.p rfl (p_assign rfl) ?_
                  refine AO.nil ?_
                  refine AX.seq ?_
                  refine AX.seq ?_
                  refine AX.region ?_
                  refine AO.p rfl (p_move rfl) ?_
                  refine AO.p rfl (p_lss rfl rfl) ?_
                  refine AO.nil ?_
                  refine AX.cond rfl (fun c416 => ?_) (fun c416 => ?_)
                  · have hd417 := bif_t c416 hd414
                    refine AX.seq ?_
                    refine AX.region ?_
                    refine AO.p rfl (p_assign rfl) ?_
                    refine AO.nil ?_
                    refine AX.ret ?_
                    obtain rfl := some_inj hd417
                    exact ⟨.inr rfl, _, res1 rfl (rv_tmp rfl), rfl, (flatB_ok rfl), S411.hold⟩
                  · have hd418 := bif_f c416 hd414
                    refine AX.skip ?_
                    refine AX.seq ?_
                    refine AX.seq ?_
                    refine AX.region ?_
                    refine AO.p rfl (p_move rfl) ?_
                    refine AO.p rfl (p_move rfl) ?_
                    refine AO.p rfl (p_neq rfl rfl) ?_
                    refine AO.nil ?_
                    refine AX.cond rfl (fun c419 => ?_) (fun c419 => ?_)
                    · have hd420 := bif_t c419 hd418
                      refine AX.seq ?_
                      refine AX.region ?_
                      refine AO.p rfl (p_assign rfl) ?_
                      refine AO.nil ?_
                      refine AX.ret ?_
                      obtain rfl := some_inj hd420
                      exact ⟨.inr rfl, _, res1 rfl (rv_tmp rfl), rfl, (flatB_ok rfl), S411.hold⟩
                    · have hd421 := bif_f c419 hd418
                      refine AX.skip ?_
                      refine AX.seq ?_
                      refine DR.startS [false, true, false, true, true, false, false, false, false, true, false] mix (by kernel_rfl) (fun hst => ?_)
                      refine DR.r rfl rfl (r_loadN (vs := [.int .i64 a0_0, .slice p_a0_1 a0_1.length c_a0_1]) rfl Try.isAgg38 Try.sizeOf38 rfl) (many_row (row_cells (S411.get (k := 1) rfl)) (bel_cons (.of_flat0 rfl) (bel_cons (S411.view v_a0_1).inn.bel bel_nil))) ?_
                      obtain ⟨⟨x422, rs423⟩, h424, hd425⟩ := bnd_some hd421
                      obtain ⟨_, G432, hc431, p426, c427, rfl, S433, B429, a430⟩ := W_laws_toSchedule fu G409 a0_0 p_a0_1 c_a0_1 a0_1 a_a0_1 (S411.view v_a0_1) x422 rs423 h424
                      have S434 := S411.call S433
                      refine DR.w rfl rfl (o_call (vs := [.agg [.int .i64 a0_0, .slice p_a0_1 a0_1.length c_a0_1].toArray]) rfl Try.call28 hc431) (S433.len) ?_
                      refine DR.r rfl rfl (r_loadN (vs := [.int .i64 a1_0, .slice p_a1_1 a1_1.length c_a1_1]) rfl Try.isAgg38 Try.sizeOf38 rfl) (many_row (row_cells (S434.get (k := 3) rfl)) (bel_cons (.of_flat0 rfl) (bel_cons (S434.view v_a1_1).inn.bel bel_nil))) ?_
                      obtain ⟨⟨x435, rs436⟩, h437, hd438⟩ := bnd_some hd425
                      obtain ⟨_, G445, hc444, p439, c440, rfl, S446, B442, a443⟩ := W_laws_toSchedule fu G432 a1_0 p_a1_1 c_a1_1 a1_1 a_a1_1 (S434.view v_a1_1) x435 rs436 h437
                      have S447 := S434.call S446
                      refine DR.w rfl rfl (o_call (vs := [.agg [.int .i64 a1_0, .slice p_a1_1 a1_1.length c_a1_1].toArray]) rfl Try.call28 hc444) (S446.len) ?_
                      obtain ⟨⟨x448, rs449, x450⟩, h451, hd452⟩ := bnd_some hd438
                      obtain ⟨_, G459, hc458, p453, c454, rfl, S460, B456, a457⟩ := W_impl_JoinSchedules fu G445 x422 p426 c427 rs423 a430 (S447.oview (k := 1) rfl B429 (flat_len1 a430 rfl)) x435 p439 c440 rs436 a443 (S447.oview (k := 0) rfl B442 (flat_len1 a443 rfl)) x448 rs449 x450 h451
                      have S461 := S447.call S460
                      refine DR.w rfl rfl (o_call (vs := [.agg [.int .i64 x422, .slice p426 rs423.length c427].toArray, .agg [.int .i64 x435, .slice p439 rs436.length c440].toArray]) rfl Try.call50 hc458) (S460.len) ?_
                      refine DR.p rfl rfl (p_move rfl) ?_
                      refine DR.p rfl rfl (p_extract rfl rfl) ?_
                      refine DR.p rfl rfl (p_extract rfl rfl) ?_
                      obtain ⟨G462, i463, hii463, hHG462, S464⟩ := S461.new (AObj.row false ([.int .i64 0, .slice none 0 0]))
                      refine DR.a rfl rfl hii463 hHG462 (a_alloc Try.zeroValue43 (flat_list rfl)) ?_
                      obtain ⟨G466, hHG466, S467⟩ := S464.set (k := 0) (i := i463) rfl (AObj.row false ([.int .i64 x448, .slice p453 rs449.length c454]))
                      refine DR.s rfl (s_storeAll (vs := [.int .i64 x448, .slice p453 rs449.length c454]) Try.sizeOf43 rfl rfl (ones_list rfl) (S464.get (k := 0) rfl) rfl rfl hHG466) (set_le hHG466) ?_
                      refine DR.p rfl rfl (p_assign rfl) ?_
                      refine DR.nil 11 [(2, 1), (8, 1), (8, 3), (8, 4)] hst (by kernel_rfl) ⟨(rdN (fun h => S433.hold _ h)), (fun h => absurd h (by decide)), (fun h => absurd h (by decide)), (fun h => absurd h (by decide)), trivial⟩ ?_
                      refine AX.seq ?_
                      obtain ⟨r478, hb479, hd480⟩ := bnd_some hd452
                      refine AX.cut (fun t' H' => ∃ (b477 : Bool), b477 = r478 ∧ St [] H H' [[(i221, AObj.row false ([.int .i64 x206, .slice p211 rs207.length c212]))], oseg p211 (ints rs403.flatten)] ∧ Am.Sub [(10, .pointer (some ⟨i221, 0, none⟩)), (13, .int .i64 x402), (110, .bool b477)] t') ?_ ?_
                      · skip
                        refine AX.region ?_
                        refine AO.c rfl (s_loadN (vs := [.int .i64 x448, .slice p453 rs449.length c454]) Try.isAgg43 Try.sizeOf43 rfl rfl (row_cells (S467.get (k := 0) rfl))) ?_
                        refine AO.c rfl (s_loadN (vs := [.int .i64 x148, .slice p153 rs149.length c154]) Try.isAgg43 Try.sizeOf43 rfl rfl (row_cells (S467.get (k := 7) rfl))) ?_
                        obtain ⟨b481, h482, hd483⟩ := bnd_some hb479
                        refine AO.c rfl (o_call (vs := [.agg [.int .i64 x448, .slice p453 rs449.length c454].toArray, .agg [.int .i64 x148, .slice p153 rs149.length c154].toArray]) rfl Try.call30 (W_laws_eqSchedule fu G466 x448 p453 c454 rs449 a457 (S467.oview (k := 1) rfl B456 (flat_len1 a457 rfl)) x148 p153 c154 rs149 a157 (S467.oview (k := 8) rfl B156 (flat_len1 a157 rfl)) b481 h482)) ?_
                        refine AO.p rfl (p_not rfl) ?_
                        refine AO.p rfl (p_move rfl) ?_
                        refine AO.cases (d := 106) rfl (fun c485 => ?_) (fun c485 => ?_)
                        · have hd486 := bif_t c485 hd483
                          refine AO.gn rfl rfl rfl ?_
                          refine AO.gn rfl rfl rfl ?_
                          refine AO.gn rfl rfl rfl ?_
                          refine AO.p rfl (p_pickT rfl rfl) ?_
                          refine AO.nil ?_
                          have S487 := S467.front 4 rfl
                          have S488 := S487.front 9 rfl
                          have S489 := S488.keep 2
                          exact ⟨true, (some_inj hd486), S489, Sub.cons' rfl rfl (Sub.cons' rfl rfl (Sub.cons' rfl rfl (Sub.nil _)))⟩
                        · have hd490 := bif_f c485 hd483
                          refine AO.gp rfl rfl rfl (p_move rfl) ?_
                          refine AO.gp rfl rfl rfl (p_move rfl) ?_
                          refine AO.gp rfl rfl rfl (p_neq rfl rfl) ?_
                          refine AO.p rfl (p_pickF rfl rfl) ?_
                          refine AO.nil ?_
                          have S491 := S467.front 4 rfl
                          have S492 := S491.front 9 rfl
                          have S493 := S492.keep 2
                          exact ⟨(!decide (x450 = x150)), (some_inj hd490), S493, Sub.cons' rfl rfl (Sub.cons' rfl rfl (Sub.cons' rfl rfl (Sub.nil _)))⟩
                      · rintro t' G495 ⟨b477, rfl, S494, hsub496⟩
                        refine AX.sub hsub496 ?_
                        refine AX.cond rfl (fun c497 => ?_) (fun c497 => ?_)
                        · have hd498 := bif_t c497 hd480
                          refine AX.seq ?_
                          refine AX.region ?_
                          refine AO.p rfl (p_assign rfl) ?_
                          refine AO.nil ?_
                          refine AX.ret ?_
                          obtain rfl := some_inj hd498
                          exact ⟨.inr rfl, _, res1 rfl (rv_tmp rfl), rfl, (flatB_ok rfl), S494.hold⟩
                        · have hd499 := bif_f c497 hd480
                          refine AX.skip ?_
                          refine AX.seq ?_
                          refine AX.region ?_
                          refine AO.p rfl (p_assign rfl) ?_
                          refine AO.nil ?_
                          refine AX.seq ?_
                          refine AX.region ?_
                          refine AO.c rfl (s_loadN (vs := [.int .i64 x206, .slice p211 rs207.length c212]) Try.isAgg43 Try.sizeOf43 rfl rfl (row_cells (S494.get (k := 0) rfl))) ?_
                          refine AO.p rfl (p_move rfl) ?_
                          obtain ⟨x500, h501, hd502⟩ := bnd_some hd499
                          refine AO.c rfl (o_call (vs := [.agg [.int .i64 x206, .slice p211 rs207.length c212].toArray, .int .i64 1]) rfl Try.call51 (by have h' := W_laws_heldSchedule fu G495 x206 p211 c212 rs403 a407 (by rw [show List.length rs403 = rs207.length from l406]; exact (S494.oview (k := 1) rfl B214 (flat_len1 a407 l406))) 1 x500 h501; rw [show List.length rs403 = rs207.length from l406] at h'; exact h')) ?_
                          refine AO.p rfl (p_assign rfl) ?_
                          refine AO.nil ?_
                          refine AX.seq ?_
                          refine AX.seq ?_
                          refine AX.region ?_
                          refine AO.p rfl (p_move rfl) ?_
                          refine AO.p rfl (p_lss rfl rfl) ?_
                          refine AO.nil ?_
                          refine AX.cond rfl (fun c504 => ?_) (fun c504 => ?_)
                          · have hd505 := bif_t c504 hd502
                            refine AX.seq ?_
                            refine AX.region ?_
                            refine AO.p rfl (p_assign rfl) ?_
                            refine AO.nil ?_
                            refine AX.ret ?_
                            obtain rfl := some_inj hd505
                            exact ⟨.inr rfl, _, res1 rfl (rv_tmp rfl), rfl, (flatB_ok rfl), S494.hold⟩
                          · have hd506 := bif_f c504 hd502
                            refine AX.skip ?_
                            refine AX.seq ?_
                            refine AX.seq ?_
                            refine AX.region ?_
                            refine AO.p rfl (p_move rfl) ?_
                            refine AO.p rfl (p_move rfl) ?_
                            refine AO.p rfl (p_neq rfl rfl) ?_
                            refine AO.nil ?_
                            refine AX.cond rfl (fun c507 => ?_) (fun c507 => ?_)
                            · have hd508 := bif_t c507 hd506
                              refine AX.seq ?_
                              refine AX.region ?_
                              refine AO.p rfl (p_assign rfl) ?_
                              refine AO.nil ?_
                              refine AX.ret ?_
                              obtain rfl := some_inj hd508
                              exact ⟨.inr rfl, _, res1 rfl (rv_tmp rfl), rfl, (flatB_ok rfl), S494.hold⟩
                            · have hd509 := bif_f c507 hd506
                              refine AX.skip ?_
                              refine AX.seq ?_
                              refine AX.region ?_
                              refine AO.p rfl (p_assign rfl) ?_
                              refine AO.nil ?_
                              refine AX.ret ?_
                              obtain rfl := some_inj hd509
                              exact ⟨.inr rfl, _, res1 rfl (rv_tmp rfl), rfl, (flatB_ok rfl), S494.hold⟩

end Go.Proofs.Ytnmbjedijgcncaa
