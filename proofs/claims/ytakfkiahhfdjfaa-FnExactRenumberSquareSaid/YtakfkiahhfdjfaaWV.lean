/-
  The program computes that, printed by a program. No condition.
-/
import Derived.Test.YtakfkiahhfdjfaaDV
import Derived.Test.YtakfkiahhfdjfaaWI
import Derived.Test.YtakfkiahhfdjfaaProg
import Derived.KernelRfl
namespace Go.Proofs.Ytakfkiahhfdjfaa
open Go Go.RowKit Am
set_option linter.unusedVariables false
set_option linter.unusedSimpArgs false
set_option maxRecDepth 20000
set_option maxHeartbeats 4000000 in
theorem W_laws_FnExactRenumberSquare (fu : Nat) (H : AHeap) (a0_0 : Int) (p_a0_1 : Option Addr) (c_a0_1 : Nat) (T_a0_1 : Tb) (a0_1 : List (List Int)) (t_a0_1 : trows T_a0_1 = a0_1) (v_a0_1 : Vw H p_a0_1 a0_1.length c_a0_1 (tcells T_a0_1)) (w_a0_1 : TVw H T_a0_1) (p_a1 : Option Addr) (c_a1 : Nat) (a1 : List Int) (v_a1 : Vw H p_a1 a1.length c_a1 (ints a1)) (r0 : Bool) (hd : D_laws_FnExactRenumberSquare fu a0_0 a0_1 a1 = some r0) : ACall Try.prog 7 [.agg [.int .i64 a0_0, .slice p_a0_1 a0_1.length c_a0_1].toArray, .slice p_a1 a1.length c_a1] H (.bool r0) H := by
  refine ACall.bodyP (N := 117) [(0, .agg [.int .i64 a0_0, .slice p_a0_1 a0_1.length c_a0_1].toArray), (1, .slice p_a1 a1.length c_a1)] Try.func7 rfl rfl rfl rfl ?_
  unfold D_laws_FnExactRenumberSquare at hd
  have S0 : St [] H H [] := St.nil H
  refine AX.seq ?_
  refine AX.region ?_
  obtain ⟨G100, i101, hii101, hHG100, S102⟩ := S0.new (AObj.row false ([.int .i64 a0_0, .slice p_a0_1 a0_1.length c_a0_1]))
  refine AO.c rfl (s_box (i := i101) (cs := [.int .i64 a0_0, .slice p_a0_1 a0_1.length c_a0_1]) rfl hii101 rfl hHG100) ?_
  refine AO.p rfl (p_assign rfl) ?_
  refine AO.nil ?_
  refine AX.seq ?_
  refine AX.seq ?_
  refine AX.region ?_
  refine AO.p rfl (p_move rfl) ?_
  refine AO.p rfl (p_len_slice rfl Try.underlying34) ?_
  refine AO.p rfl (p_gtr rfl rfl) ?_
  refine AO.nil ?_
  refine AX.cond rfl (fun c104 => ?_) (fun c104 => ?_)
  · have hd105 := bif_t c104 hd
    refine AX.seq ?_
    refine AX.region ?_
    refine AO.p rfl (p_assign rfl) ?_
    refine AO.nil ?_
    refine AX.ret ?_
    obtain rfl := some_inj hd105
    exact ⟨.inr rfl, _, res1 rfl (rv_tmp rfl), rfl, (flatB_ok rfl), S102.hold⟩
  · have hd106 := bif_f c104 hd
    refine AX.skip ?_
    refine AX.seq ?_
    refine AX.region ?_
    refine AO.p rfl (p_assign rfl) ?_
    refine AO.nil ?_
    refine AX.seq ?_
    refine AX.region ?_
    refine AO.c rfl (s_loadN (vs := [.int .i64 a0_0, .slice p_a0_1 a0_1.length c_a0_1]) Try.isAgg51 Try.sizeOf51 rfl rfl (row_cells (S102.get (k := 0) rfl))) ?_
    refine AO.p rfl (p_move rfl) ?_
    obtain ⟨x107, h108, hd109⟩ := bnd_some hd106
    refine AO.c rfl (o_call (vs := [.agg [.int .i64 a0_0, .slice p_a0_1 a0_1.length c_a0_1].toArray, .int .i64 1048576]) rfl Try.call32 (W_laws_szSquare fu G100 a0_0 p_a0_1 c_a0_1 T_a0_1 a0_1 t_a0_1 (S102.view v_a0_1) (S102.tview w_a0_1) 1048576 x107 h108)) ?_
    refine AO.p rfl (p_assign rfl) ?_
    refine AO.nil ?_
    refine AX.seq ?_
    refine AX.seq ?_
    refine AX.region ?_
    refine AO.p rfl (p_move rfl) ?_
    refine AO.p rfl (p_lss rfl rfl) ?_
    refine AO.nil ?_
    refine AX.cond rfl (fun c111 => ?_) (fun c111 => ?_)
    · have hd112 := bif_t c111 hd109
      refine AX.seq ?_
      refine AX.region ?_
      refine AO.p rfl (p_assign rfl) ?_
      refine AO.nil ?_
      refine AX.ret ?_
      obtain rfl := some_inj hd112
      exact ⟨.inr rfl, _, res1 rfl (rv_tmp rfl), rfl, (flatB_ok rfl), S102.hold⟩
    · have hd113 := bif_f c111 hd109
      refine AX.skip ?_
      refine AX.seq ?_
      refine AX.region ?_
      refine AO.c rfl (s_loadN (vs := [.int .i64 a0_0, .slice p_a0_1 a0_1.length c_a0_1]) Try.isAgg51 Try.sizeOf51 rfl rfl (row_cells (S102.get (k := 0) rfl))) ?_
      obtain ⟨⟨x114, rs115⟩, h116, hd117⟩ := bnd_some hd113
      obtain ⟨_, G126, hc125, p118, c119, T122, rfl, S127, B121, t123, s124⟩ := W_laws_toSquare fu G100 a0_0 p_a0_1 c_a0_1 T_a0_1 a0_1 t_a0_1 (S102.view v_a0_1) (S102.tview w_a0_1) x114 rs115 h116
      have S128 := S102.call S127
      refine AO.c rfl (o_call (vs := [.agg [.int .i64 a0_0, .slice p_a0_1 a0_1.length c_a0_1].toArray]) rfl Try.call34 hc125) ?_
      refine AO.p rfl (p_move rfl) ?_
      obtain ⟨xs129, h130, hd131⟩ := bnd_some hd117
      obtain ⟨_, G137, hc136, p132, c133, rfl, S138, B135⟩ := W_laws_toInt64S fu G126 p_a1 c_a1 a1 (S128.view v_a1) xs129 h130
      have S139 := S128.call S138
      refine AO.c rfl (o_call (vs := [.slice p_a1 a1.length c_a1]) rfl Try.call23 hc136) ?_
      obtain ⟨⟨x140, rs141, x142⟩, h143, hd144⟩ := bnd_some hd131
      obtain ⟨_, G153, hc152, p145, c146, T149, rfl, S154, B148, t150, s151⟩ := W_spec_RenumberSquare fu G137 x114 p118 c119 T122 rs115 t123 (S139.oview (k := 1) rfl B121 (tc_len1 t123 rfl)) (S139.oviewT (k := 2) rfl s124) p132 c133 xs129 (S139.oview (k := 0) rfl B135 (ints_len1 rfl)) x140 rs141 x142 h143
      have S155 := S139.call S154
      refine AO.c rfl (o_call (vs := [.agg [.int .i64 x114, .slice p118 rs115.length c119].toArray, .slice p132 xs129.length c133]) rfl Try.call33 hc152) ?_
      refine AO.p rfl (p_move rfl) ?_
      refine AO.p rfl (p_extract rfl rfl) ?_
      refine AO.p rfl (p_extract rfl rfl) ?_
      obtain ⟨G156, i157, hii157, hHG156, S158⟩ := S155.new (AObj.row false ([.int .i64 0, .slice none 0 0]))
      refine AO.c rfl (s_alloc (i := i157) (cs := [.int .i64 0, .slice none 0 0]) Try.zeroValue53 rfl rfl hii157 hHG156) ?_
      obtain ⟨G160, hHG160, S161⟩ := S158.set (k := 0) (i := i157) rfl (AObj.row false ([.int .i64 x140, .slice p145 rs141.length c146]))
      refine AO.s (s_storeAll (vs := [.int .i64 x140, .slice p145 rs141.length c146]) Try.sizeOf53 rfl rfl (ones_list rfl) (S158.get (k := 0) rfl) rfl rfl hHG160) ?_
      refine AO.p rfl (p_assign rfl) ?_
      refine AO.nil ?_
      refine AX.seq ?_
      refine AX.region ?_
      refine AO.c rfl (s_loadN (vs := [.int .i64 a0_0, .slice p_a0_1 a0_1.length c_a0_1]) Try.isAgg51 Try.sizeOf51 rfl rfl (row_cells (S161.get (k := 6) rfl))) ?_
      obtain ⟨⟨x162, rs163⟩, h164, hd165⟩ := bnd_some hd144
      obtain ⟨_, G174, hc173, p166, c167, T170, rfl, S175, B169, t171, s172⟩ := W_laws_toSquare fu G160 a0_0 p_a0_1 c_a0_1 T_a0_1 a0_1 t_a0_1 (S161.view v_a0_1) (S161.tview w_a0_1) x162 rs163 h164
      have S176 := S161.call S175
      refine AO.c rfl (o_call (vs := [.agg [.int .i64 a0_0, .slice p_a0_1 a0_1.length c_a0_1].toArray]) rfl Try.call34 hc173) ?_
      obtain ⟨G177, i178, hii178, hHG177, S179⟩ := S176.new (AObj.row false ([.int .i64 0, .slice none 0 0]))
      refine AO.c rfl (s_alloc (i := i178) (cs := [.int .i64 0, .slice none 0 0]) Try.zeroValue53 rfl rfl hii178 hHG177) ?_
      obtain ⟨G181, hHG181, S182⟩ := S179.set (k := 0) (i := i178) rfl (AObj.row false ([.int .i64 x162, .slice p166 rs163.length c167]))
      refine AO.s (s_storeAll (vs := [.int .i64 x162, .slice p166 rs163.length c167]) Try.sizeOf53 rfl rfl (ones_list rfl) (S179.get (k := 0) rfl) rfl rfl hHG181) ?_
      refine AO.nil ?_
      refine AX.seq ?_
      refine AX.region ?_
      refine AO.p rfl (p_move rfl) ?_
      obtain ⟨xs183, h184, hd185⟩ := bnd_some hd165
      obtain ⟨_, G191, hc190, p186, c187, rfl, S192, B189⟩ := W_laws_toInt64S fu G181 p_a1 c_a1 a1 (S182.view v_a1) xs183 h184
      have S193 := S182.call S192
      refine AO.c rfl (o_call (vs := [.slice p_a1 a1.length c_a1]) rfl Try.call23 hc190) ?_
      refine AO.p rfl (p_assign rfl) ?_
      refine AO.nil ?_
      refine AX.seq ?_
      refine AX.region ?_
      refine AO.c rfl (s_loadN (vs := [.int .i64 x162, .slice p166 rs163.length c167]) Try.isAgg53 Try.sizeOf53 rfl rfl (row_cells (S193.get (k := 1) rfl))) ?_
      refine AO.p rfl (p_move rfl) ?_
      obtain ⟨⟨x194, rs195, x196⟩, h197, hd198⟩ := bnd_some hd185
      obtain ⟨_, G207, hc206, p199, c200, T203, rfl, S208, B202, t204, s205⟩ := W_impl_RenumberSquare fu G191 x162 p166 c167 T170 rs163 t171 (S193.oview (k := 2) rfl B169 (tc_len1 t171 rfl)) (S193.oviewT (k := 3) rfl s172) p186 c187 xs183 (S193.oview (k := 0) rfl B189 (ints_len1 rfl)) x194 rs195 x196 h197
      have S209 := S193.call S208
      refine AO.c rfl (o_call (vs := [.agg [.int .i64 x162, .slice p166 rs163.length c167].toArray, .slice p186 xs183.length c187]) rfl Try.call35 hc206) ?_
      refine AO.p rfl (p_move rfl) ?_
      refine AO.p rfl (p_extract rfl rfl) ?_
      refine AO.p rfl (p_extract rfl rfl) ?_
      obtain ⟨G210, i211, hii211, hHG210, S212⟩ := S209.new (AObj.row false ([.int .i64 0, .slice none 0 0]))
      refine AO.c rfl (s_alloc (i := i211) (cs := [.int .i64 0, .slice none 0 0]) Try.zeroValue53 rfl rfl hii211 hHG210) ?_
      obtain ⟨G214, hHG214, S215⟩ := S212.set (k := 0) (i := i211) rfl (AObj.row false ([.int .i64 x194, .slice p199 rs195.length c200]))
      refine AO.s (s_storeAll (vs := [.int .i64 x194, .slice p199 rs195.length c200]) Try.sizeOf53 rfl rfl (ones_list rfl) (S212.get (k := 0) rfl) rfl rfl hHG214) ?_
      refine AO.p rfl (p_assign rfl) ?_
      refine AO.nil ?_
      refine AX.seq ?_
      obtain ⟨r232, hb233, hd234⟩ := bnd_some hd198
      refine AX.cut (fun t' H' => ∃ (b231 : Bool), b231 = r232 ∧ St [] H H' [[(i101, AObj.row false ([.int .i64 a0_0, .slice p_a0_1 a0_1.length c_a0_1]))], [(i157, AObj.row false ([.int .i64 x140, .slice p145 rs141.length c146]))], oseg p145 (tcells T149), tseg T149, [(i178, AObj.row false ([.int .i64 x162, .slice p166 rs163.length c167]))], oseg p166 (tcells T170), tseg T170, oseg p186 (ints xs183), [(i211, AObj.row false ([.int .i64 x194, .slice p199 rs195.length c200]))], oseg p199 (tcells T203), tseg T203] ∧ Am.Sub [(1, .slice p_a1 a1.length c_a1), (2, .pointer (some ⟨i101, 0, none⟩)), (6, .pointer (some ⟨i157, 0, none⟩)), (7, .int .i64 x142), (8, .pointer (some ⟨i178, 0, none⟩)), (9, .slice p186 xs183.length c187), (10, .pointer (some ⟨i211, 0, none⟩)), (11, .int .i64 x196), (51, .bool b231)] t') ?_ ?_
      · skip
        refine AX.region ?_
        refine AO.c rfl (s_loadN (vs := [.int .i64 x194, .slice p199 rs195.length c200]) Try.isAgg53 Try.sizeOf53 rfl rfl (row_cells (S215.get (k := 0) rfl))) ?_
        refine AO.c rfl (s_loadN (vs := [.int .i64 x140, .slice p145 rs141.length c146]) Try.isAgg53 Try.sizeOf53 rfl rfl (row_cells (S215.get (k := 7) rfl))) ?_
        obtain ⟨b235, h236, hd237⟩ := bnd_some hb233
        refine AO.c rfl (o_call (vs := [.agg [.int .i64 x194, .slice p199 rs195.length c200].toArray, .agg [.int .i64 x140, .slice p145 rs141.length c146].toArray]) rfl Try.call36 (W_laws_eqSquare fu G214 x194 p199 c200 T203 rs195 t204 (S215.oview (k := 1) rfl B202 (tc_len1 t204 rfl)) (S215.oviewT (k := 2) rfl s205) x140 p145 c146 T149 rs141 t150 (S215.oview (k := 8) rfl B148 (tc_len1 t150 rfl)) (S215.oviewT (k := 9) rfl s151) b235 h236)) ?_
        refine AO.p rfl (p_not rfl) ?_
        refine AO.p rfl (p_move rfl) ?_
        refine AO.cases (d := 47) rfl (fun c239 => ?_) (fun c239 => ?_)
        · have hd240 := bif_t c239 hd237
          refine AO.gn rfl rfl rfl ?_
          refine AO.gn rfl rfl rfl ?_
          refine AO.gn rfl rfl rfl ?_
          refine AO.p rfl (p_pickT rfl rfl) ?_
          refine AO.nil ?_
          have S241 := S215.front 2 rfl
          have S242 := S241.front 2 rfl
          have S243 := S242.front 2 rfl
          have S244 := S243.front 3 rfl
          have S245 := S244.front 6 rfl
          have S246 := S245.front 6 rfl
          have S247 := S246.front 6 rfl
          have S248 := S247.front 9 rfl
          have S249 := S248.front 9 rfl
          have S250 := S249.front 9 rfl
          have S251 := S250.front 13 rfl
          have S252 := S251.keep 11
          exact ⟨true, (some_inj hd240), S252, Sub.cons' rfl rfl (Sub.cons' rfl rfl (Sub.cons' rfl rfl (Sub.cons' rfl rfl (Sub.cons' rfl rfl (Sub.cons' rfl rfl (Sub.cons' rfl rfl (Sub.cons' rfl rfl (Sub.cons' rfl rfl (Sub.nil _)))))))))⟩
        · have hd253 := bif_f c239 hd237
          refine AO.gp rfl rfl rfl (p_move rfl) ?_
          refine AO.gp rfl rfl rfl (p_move rfl) ?_
          refine AO.gp rfl rfl rfl (p_neq rfl rfl) ?_
          refine AO.p rfl (p_pickF rfl rfl) ?_
          refine AO.nil ?_
          have S254 := S215.front 2 rfl
          have S255 := S254.front 2 rfl
          have S256 := S255.front 2 rfl
          have S257 := S256.front 3 rfl
          have S258 := S257.front 6 rfl
          have S259 := S258.front 6 rfl
          have S260 := S259.front 6 rfl
          have S261 := S260.front 9 rfl
          have S262 := S261.front 9 rfl
          have S263 := S262.front 9 rfl
          have S264 := S263.front 13 rfl
          have S265 := S264.keep 11
          exact ⟨(!decide (x196 = x142)), (some_inj hd253), S265, Sub.cons' rfl rfl (Sub.cons' rfl rfl (Sub.cons' rfl rfl (Sub.cons' rfl rfl (Sub.cons' rfl rfl (Sub.cons' rfl rfl (Sub.cons' rfl rfl (Sub.cons' rfl rfl (Sub.cons' rfl rfl (Sub.nil _)))))))))⟩
      · rintro t' G267 ⟨b231, rfl, S266, hsub268⟩
        refine AX.sub hsub268 ?_
        refine AX.cond rfl (fun c269 => ?_) (fun c269 => ?_)
        · have hd270 := bif_t c269 hd234
          refine AX.seq ?_
          refine AX.region ?_
          refine AO.p rfl (p_assign rfl) ?_
          refine AO.nil ?_
          refine AX.ret ?_
          obtain rfl := some_inj hd270
          exact ⟨.inr rfl, _, res1 rfl (rv_tmp rfl), rfl, (flatB_ok rfl), S266.hold⟩
        · have hd271 := bif_f c269 hd234
          refine AX.skip ?_
          refine AX.seq ?_
          refine AX.seq ?_
          refine DR.startS [false, false, true, true, false] mix (by kernel_rfl) (fun hst => ?_)
          refine DR.r rfl rfl (r_loadN (vs := [.int .i64 x162, .slice p166 rs163.length c167]) rfl Try.isAgg53 Try.sizeOf53 rfl) (many_row (row_cells (S266.get (k := 4) rfl)) (bel_cons (.of_flat0 rfl) (bel_cons (S266.oin (k := 5) rfl B169).bel bel_nil))) ?_
          refine DR.r rfl rfl (r_loadN (vs := [.int .i64 a0_0, .slice p_a0_1 a0_1.length c_a0_1]) rfl Try.isAgg51 Try.sizeOf51 rfl) (many_row (row_cells (S266.get (k := 0) rfl)) (bel_cons (.of_flat0 rfl) (bel_cons (S266.view v_a0_1).inn.bel bel_nil))) ?_
          obtain ⟨⟨x272, rs273⟩, h274, hd275⟩ := bnd_some hd271
          obtain ⟨_, G284, hc283, p276, c277, T280, rfl, S285, B279, t281, s282⟩ := W_laws_toSquare fu G267 a0_0 p_a0_1 c_a0_1 T_a0_1 a0_1 t_a0_1 (S266.view v_a0_1) (S266.tview w_a0_1) x272 rs273 h274
          have S286 := S266.call S285
          refine DR.w rfl rfl (o_call (vs := [.agg [.int .i64 a0_0, .slice p_a0_1 a0_1.length c_a0_1].toArray]) rfl Try.call34 hc283) (S285.len) ?_
          obtain ⟨b287, h288, hd289⟩ := bnd_some hd275
          refine DR.w rfl rfl (o_call (vs := [.agg [.int .i64 x162, .slice p166 rs163.length c167].toArray, .agg [.int .i64 x272, .slice p276 rs273.length c277].toArray]) rfl Try.call36 (W_laws_eqSquare fu G284 x162 p166 c167 T170 rs163 t171 (S286.oview (k := 7) rfl B169 (tc_len1 t171 rfl)) (S286.oviewT (k := 8) rfl s172) x272 p276 c277 T280 rs273 t281 (S286.oview (k := 0) rfl B279 (tc_len1 t281 rfl)) (S286.oviewT (k := 1) rfl s282) b287 h288)) (Nat.le_refl _) ?_
          refine DR.p rfl rfl (p_not rfl) ?_
          refine DR.nil 5 [(0, 2)] hst (by kernel_rfl) ⟨(rdN (fun h => S285.hold _ h)), trivial⟩ ?_
          refine AX.cond rfl (fun c291 => ?_) (fun c291 => ?_)
          · have hd292 := bif_t c291 hd289
            refine AX.seq ?_
            refine AX.region ?_
            refine AO.p rfl (p_assign rfl) ?_
            refine AO.nil ?_
            refine AX.ret ?_
            obtain rfl := some_inj hd292
            exact ⟨.inr rfl, _, res1 rfl (rv_tmp rfl), rfl, (flatB_ok rfl), S286.hold⟩
          · have hd293 := bif_f c291 hd289
            refine AX.skip ?_
            refine AX.seq ?_
            refine AX.seq ?_
            refine AX.region ?_
            refine AO.p rfl (p_move rfl) ?_
            refine AO.p rfl (p_move rfl) ?_
            obtain ⟨xs294, h295, hd296⟩ := bnd_some hd293
            obtain ⟨_, G302, hc301, p297, c298, rfl, S303, B300⟩ := W_laws_toInt64S fu G284 p_a1 c_a1 a1 (S286.view v_a1) xs294 h295
            have S304 := S286.call S303
            refine AO.c rfl (o_call (vs := [.slice p_a1 a1.length c_a1]) rfl Try.call23 hc301) ?_
            obtain ⟨b305, h306, hd307⟩ := bnd_some hd296
            refine AO.c rfl (o_call (vs := [.slice p186 xs183.length c187, .slice p297 xs294.length c298]) rfl Try.call26 (W_laws_eqInt64S fu G302 p186 c187 xs183 (S304.oview (k := 10) rfl B189 (ints_len1 rfl)) p297 c298 xs294 (S304.oview (k := 0) rfl B300 (ints_len1 rfl)) b305 h306)) ?_
            refine AO.p rfl (p_not rfl) ?_
            refine AO.nil ?_
            refine AX.cond rfl (fun c309 => ?_) (fun c309 => ?_)
            · have hd310 := bif_t c309 hd307
              refine AX.seq ?_
              refine AX.region ?_
              refine AO.p rfl (p_assign rfl) ?_
              refine AO.nil ?_
              refine AX.ret ?_
              obtain rfl := some_inj hd310
              exact ⟨.inr rfl, _, res1 rfl (rv_tmp rfl), rfl, (flatB_ok rfl), S304.hold⟩
            · have hd311 := bif_f c309 hd307
              refine AX.skip ?_
              refine AX.seq ?_
              refine AX.region ?_
              refine AO.p rfl (p_assign rfl) ?_
              refine AO.nil ?_
              refine AX.seq ?_
              refine AX.region ?_
              refine AO.c rfl (s_loadN (vs := [.int .i64 x162, .slice p166 rs163.length c167]) Try.isAgg53 Try.sizeOf53 rfl rfl (row_cells (S304.get (k := 7) rfl))) ?_
              refine AO.p rfl (p_move rfl) ?_
              have S312 := S304.front 9 rfl
              have S313 := S312.front 9 rfl
              obtain ⟨⟨x314, rs315⟩, h316, hd317⟩ := bnd_some hd311
              obtain ⟨_, G323, hc322, T318, rfl, S324, t319, s320, l321⟩ := W_laws_markSquare fu G302 x162 p166 c167 T170 rs163 t171 B169 s172 1 ((S313).join2.onodup (k := 0) rfl) ((S313).join2.omem (k := 0) rfl) x314 rs315 h316
              have S325 := St.callM (A := [oseg p166 (tcells T170), tseg T170]) S313 S324 (by simp)
              refine AO.c rfl (o_call (vs := [.agg [.int .i64 x162, .slice p166 rs163.length c167].toArray, .int .i64 1]) rfl Try.call37 hc322) ?_
              refine AO.p rfl (p_assign rfl) ?_
              refine AO.nil ?_
              refine AX.seq ?_
              refine AX.region ?_
              refine AO.p rfl (p_move rfl) ?_
              refine AO.p rfl (p_move rfl) ?_
              have S326 := S325.front 10 rfl
              obtain ⟨⟨x327, xs328⟩, h329, hd330⟩ := bnd_some hd317
              obtain ⟨_, G333, hc332, rfl, S334, l331⟩ := W_laws_markInt64S fu G323 p186 c187 xs183 B189 x314 (S326.onodup (k := 0) rfl) (S326.omem (k := 0) rfl) x327 xs328 h329
              have S335 := St.callM (A := [oseg p186 (ints xs183)]) S326 S334 (by simp)
              refine AO.c rfl (o_call (vs := [.slice p186 xs183.length c187, .int .i64 x314]) rfl Try.call28 hc332) ?_
              refine AO.p rfl (p_assign rfl) ?_
              refine AO.nil ?_
              refine AX.seq ?_
              obtain ⟨r352, hb353, hd354⟩ := bnd_some hd330
              refine AX.cut (fun t' H' => ∃ (b351 : Bool), b351 = r352 ∧ St [] H H' [[(i101, AObj.row false ([.int .i64 a0_0, .slice p_a0_1 a0_1.length c_a0_1]))], [(i157, AObj.row false ([.int .i64 x140, .slice p145 rs141.length c146]))], oseg p145 (tcells T149), tseg T149, [(i211, AObj.row false ([.int .i64 x194, .slice p199 rs195.length c200]))], oseg p199 (tcells T203), tseg T203] ∧ Am.Sub [(1, .slice p_a1 a1.length c_a1), (2, .pointer (some ⟨i101, 0, none⟩)), (6, .pointer (some ⟨i157, 0, none⟩)), (7, .int .i64 x142), (10, .pointer (some ⟨i211, 0, none⟩)), (80, .bool b351)] t') ?_ ?_
              · skip
                refine AX.region ?_
                refine AO.p rfl (p_move rfl) ?_
                refine AO.p rfl (p_lss rfl rfl) ?_
                refine AO.p rfl (p_move rfl) ?_
                refine AO.cases (d := 70) rfl (fun c355 => ?_) (fun c355 => ?_)
                · have hd356 := bif_t c355 hb353
                  refine AO.gn rfl rfl rfl ?_
                  refine AO.gn rfl rfl rfl ?_
                  refine AO.gn rfl rfl rfl ?_
                  refine AO.gn rfl rfl rfl ?_
                  refine AO.p rfl (p_pickT rfl rfl) ?_
                  refine AO.p rfl (p_move rfl) ?_
                  refine AO.gn rfl rfl rfl ?_
                  refine AO.gn rfl rfl rfl ?_
                  refine AO.gn rfl rfl rfl ?_
                  refine AO.p rfl (p_pickT rfl rfl) ?_
                  refine AO.nil ?_
                  have S357 := S335.front 13 rfl
                  have S358 := S357.front 13 rfl
                  have S359 := S358.front 13 rfl
                  have S360 := S359.front 12 rfl
                  have S361 := S360.front 12 rfl
                  have S362 := S361.front 12 rfl
                  have S363 := S362.front 12 rfl
                  have S364 := S363.keep 7
                  exact ⟨true, (some_inj hd356), S364, Sub.cons' rfl rfl (Sub.cons' rfl rfl (Sub.cons' rfl rfl (Sub.cons' rfl rfl (Sub.cons' rfl rfl (Sub.cons' rfl rfl (Sub.nil _))))))⟩
                · have hd365 := bif_f c355 hb353
                  refine AO.gc rfl rfl rfl (s_loadN (vs := [.int .i64 x194, .slice p199 rs195.length c200]) Try.isAgg53 Try.sizeOf53 rfl rfl (row_cells (S335.get (k := 11) rfl))) ?_
                  refine AO.gc rfl rfl rfl (s_loadN (vs := [.int .i64 x140, .slice p145 rs141.length c146]) Try.isAgg53 Try.sizeOf53 rfl rfl (row_cells (S335.get (k := 7) rfl))) ?_
                  obtain ⟨b366, h367, hd368⟩ := bnd_some hd365
                  refine AO.gc rfl rfl rfl (o_call (vs := [.agg [.int .i64 x194, .slice p199 rs195.length c200].toArray, .agg [.int .i64 x140, .slice p145 rs141.length c146].toArray]) rfl Try.call36 (W_laws_eqSquare fu G333 x194 p199 c200 T203 rs195 t204 (S335.oview (k := 12) rfl B202 (tc_len1 t204 rfl)) (S335.oviewT (k := 13) rfl s205) x140 p145 c146 T149 rs141 t150 (S335.oview (k := 8) rfl B148 (tc_len1 t150 rfl)) (S335.oviewT (k := 9) rfl s151) b366 h367)) ?_
                  refine AO.gp rfl rfl rfl (p_not rfl) ?_
                  refine AO.p rfl (p_pickF rfl rfl) ?_
                  refine AO.p rfl (p_move rfl) ?_
                  refine AO.cases (d := 76) rfl (fun c370 => ?_) (fun c370 => ?_)
                  · have hd371 := bif_t c370 hd368
                    refine AO.gn rfl rfl rfl ?_
                    refine AO.gn rfl rfl rfl ?_
                    refine AO.gn rfl rfl rfl ?_
                    refine AO.p rfl (p_pickT rfl rfl) ?_
                    refine AO.nil ?_
                    have S372 := S335.front 13 rfl
                    have S373 := S372.front 13 rfl
                    have S374 := S373.front 13 rfl
                    have S375 := S374.front 12 rfl
                    have S376 := S375.front 12 rfl
                    have S377 := S376.front 12 rfl
                    have S378 := S377.front 12 rfl
                    have S379 := S378.keep 7
                    exact ⟨true, (some_inj hd371), S379, Sub.cons' rfl rfl (Sub.cons' rfl rfl (Sub.cons' rfl rfl (Sub.cons' rfl rfl (Sub.cons' rfl rfl (Sub.cons' rfl rfl (Sub.nil _))))))⟩
                  · have hd380 := bif_f c370 hd368
                    refine AO.gp rfl rfl rfl (p_move rfl) ?_
                    refine AO.gp rfl rfl rfl (p_move rfl) ?_
                    refine AO.gp rfl rfl rfl (p_neq rfl rfl) ?_
                    refine AO.p rfl (p_pickF rfl rfl) ?_
                    refine AO.nil ?_
                    have S381 := S335.front 13 rfl
                    have S382 := S381.front 13 rfl
                    have S383 := S382.front 13 rfl
                    have S384 := S383.front 12 rfl
                    have S385 := S384.front 12 rfl
                    have S386 := S385.front 12 rfl
                    have S387 := S386.front 12 rfl
                    have S388 := S387.keep 7
                    exact ⟨(!decide (x196 = x142)), (some_inj hd380), S388, Sub.cons' rfl rfl (Sub.cons' rfl rfl (Sub.cons' rfl rfl (Sub.cons' rfl rfl (Sub.cons' rfl rfl (Sub.cons' rfl rfl (Sub.nil _))))))⟩
              · rintro t' G390 ⟨b351, rfl, S389, hsub391⟩
                refine AX.sub hsub391 ?_
                refine AX.cond rfl (fun c392 => ?_) (fun c392 => ?_)
                · have hd393 := bif_t c392 hd354
                  refine AX.seq ?_
                  refine AX.region ?_
                  refine AO.p rfl (p_assign rfl) ?_
                  refine AO.nil ?_
                  refine AX.ret ?_
                  obtain rfl := some_inj hd393
                  exact ⟨.inr rfl, _, res1 rfl (rv_tmp rfl), rfl, (flatB_ok rfl), S389.hold⟩
                · have hd394 := bif_f c392 hd354
                  refine AX.skip ?_
                  refine AX.seq ?_
                  refine AX.region ?_
                  refine AO.p rfl (p_assign rfl) ?_
                  refine AO.nil ?_
                  refine AX.seq ?_
                  refine AX.region ?_
                  refine AO.c rfl (s_loadN (vs := [.int .i64 x194, .slice p199 rs195.length c200]) Try.isAgg53 Try.sizeOf53 rfl rfl (row_cells (S389.get (k := 4) rfl))) ?_
                  refine AO.p rfl (p_move rfl) ?_
                  have S395 := S389.front 6 rfl
                  have S396 := S395.front 6 rfl
                  obtain ⟨⟨x397, rs398⟩, h399, hd400⟩ := bnd_some hd394
                  obtain ⟨_, G406, hc405, T401, rfl, S407, t402, s403, l404⟩ := W_laws_markSquare fu G390 x194 p199 c200 T203 rs195 t204 B202 s205 1 ((S396).join2.onodup (k := 0) rfl) ((S396).join2.omem (k := 0) rfl) x397 rs398 h399
                  have S408 := St.callM (A := [oseg p199 (tcells T203), tseg T203]) S396 S407 (by simp)
                  refine AO.c rfl (o_call (vs := [.agg [.int .i64 x194, .slice p199 rs195.length c200].toArray, .int .i64 1]) rfl Try.call37 hc405) ?_
                  refine AO.p rfl (p_assign rfl) ?_
                  refine AO.nil ?_
                  refine AX.seq ?_
                  refine AX.region ?_
                  refine AO.p rfl (p_assign rfl) ?_
                  refine AO.nil ?_
                  refine AX.seq ?_
                  refine AX.region ?_
                  refine AO.c rfl (s_loadN (vs := [.int .i64 x194, .slice p199 rs195.length c200]) Try.isAgg53 Try.sizeOf53 rfl rfl (row_cells (S408.get (k := 6) rfl))) ?_
                  refine AO.p rfl (p_move rfl) ?_
                  obtain ⟨x409, h410, hd411⟩ := bnd_some hd400
                  refine AO.c rfl (o_call (vs := [.agg [.int .i64 x194, .slice p199 rs195.length c200].toArray, .int .i64 1]) rfl Try.call38 (by have h' := W_laws_heldSquare fu G406 x194 p199 c200 T401 rs398 t402 (by rw [show List.length rs398 = rs195.length from (Eq.trans l404 rfl)]; exact (S408.oview (k := 0) rfl B202 (tc_len1 t402 (Eq.trans l404 rfl)))) (S408.oviewT (k := 1) rfl s403) 1 x409 h410; rw [show List.length rs398 = rs195.length from (Eq.trans l404 rfl)] at h'; exact h')) ?_
                  refine AO.p rfl (p_assign rfl) ?_
                  refine AO.nil ?_
                  refine AX.seq ?_
                  refine AX.seq ?_
                  refine AX.region ?_
                  refine AO.p rfl (p_move rfl) ?_
                  refine AO.p rfl (p_lss rfl rfl) ?_
                  refine AO.nil ?_
                  refine AX.cond rfl (fun c413 => ?_) (fun c413 => ?_)
                  · have hd414 := bif_t c413 hd411
                    refine AX.seq ?_
                    refine AX.region ?_
                    refine AO.p rfl (p_assign rfl) ?_
                    refine AO.nil ?_
                    refine AX.ret ?_
                    obtain rfl := some_inj hd414
                    exact ⟨.inr rfl, _, res1 rfl (rv_tmp rfl), rfl, (flatB_ok rfl), S408.hold⟩
                  · have hd415 := bif_f c413 hd411
                    refine AX.skip ?_
                    refine AX.seq ?_
                    refine AX.seq ?_
                    refine AX.region ?_
                    refine AO.p rfl (p_move rfl) ?_
                    refine AO.p rfl (p_move rfl) ?_
                    refine AO.p rfl (p_neq rfl rfl) ?_
                    refine AO.nil ?_
                    refine AX.cond rfl (fun c416 => ?_) (fun c416 => ?_)
                    · have hd417 := bif_t c416 hd415
                      refine AX.seq ?_
                      refine AX.region ?_
                      refine AO.p rfl (p_assign rfl) ?_
                      refine AO.nil ?_
                      refine AX.ret ?_
                      obtain rfl := some_inj hd417
                      exact ⟨.inr rfl, _, res1 rfl (rv_tmp rfl), rfl, (flatB_ok rfl), S408.hold⟩
                    · have hd418 := bif_f c416 hd415
                      refine AX.skip ?_
                      refine AX.seq ?_
                      refine AX.region ?_
                      refine AO.c rfl (s_loadN (vs := [.int .i64 a0_0, .slice p_a0_1 a0_1.length c_a0_1]) Try.isAgg51 Try.sizeOf51 rfl rfl (row_cells (S408.get (k := 2) rfl))) ?_
                      obtain ⟨⟨x419, rs420⟩, h421, hd422⟩ := bnd_some hd418
                      obtain ⟨_, G431, hc430, p423, c424, T427, rfl, S432, B426, t428, s429⟩ := W_laws_toSquare fu G406 a0_0 p_a0_1 c_a0_1 T_a0_1 a0_1 t_a0_1 (S408.view v_a0_1) (S408.tview w_a0_1) x419 rs420 h421
                      have S433 := S408.call S432
                      refine AO.c rfl (o_call (vs := [.agg [.int .i64 a0_0, .slice p_a0_1 a0_1.length c_a0_1].toArray]) rfl Try.call34 hc430) ?_
                      refine AO.p rfl (p_move rfl) ?_
                      obtain ⟨xs434, h435, hd436⟩ := bnd_some hd422
                      obtain ⟨_, G442, hc441, p437, c438, rfl, S443, B440⟩ := W_laws_toInt64S fu G431 p_a1 c_a1 a1 (S433.view v_a1) xs434 h435
                      have S444 := S433.call S443
                      refine AO.c rfl (o_call (vs := [.slice p_a1 a1.length c_a1]) rfl Try.call23 hc441) ?_
                      obtain ⟨⟨x445, rs446, x447⟩, h448, hd449⟩ := bnd_some hd436
                      obtain ⟨_, G458, hc457, p450, c451, T454, rfl, S459, B453, t455, s456⟩ := W_impl_RenumberSquare fu G442 x419 p423 c424 T427 rs420 t428 (S444.oview (k := 1) rfl B426 (tc_len1 t428 rfl)) (S444.oviewT (k := 2) rfl s429) p437 c438 xs434 (S444.oview (k := 0) rfl B440 (ints_len1 rfl)) x445 rs446 x447 h448
                      have S460 := S444.call S459
                      refine AO.c rfl (o_call (vs := [.agg [.int .i64 x419, .slice p423 rs420.length c424].toArray, .slice p437 xs434.length c438]) rfl Try.call35 hc457) ?_
                      refine AO.p rfl (p_move rfl) ?_
                      refine AO.p rfl (p_extract rfl rfl) ?_
                      refine AO.p rfl (p_extract rfl rfl) ?_
                      obtain ⟨G461, i462, hii462, hHG461, S463⟩ := S460.new (AObj.row false ([.int .i64 0, .slice none 0 0]))
                      refine AO.c rfl (s_alloc (i := i462) (cs := [.int .i64 0, .slice none 0 0]) Try.zeroValue53 rfl rfl hii462 hHG461) ?_
                      obtain ⟨G465, hHG465, S466⟩ := S463.set (k := 0) (i := i462) rfl (AObj.row false ([.int .i64 x445, .slice p450 rs446.length c451]))
                      refine AO.s (s_storeAll (vs := [.int .i64 x445, .slice p450 rs446.length c451]) Try.sizeOf53 rfl rfl (ones_list rfl) (S463.get (k := 0) rfl) rfl rfl hHG465) ?_
                      refine AO.p rfl (p_assign rfl) ?_
                      refine AO.nil ?_
                      refine AX.seq ?_
                      obtain ⟨r477, hb478, hd479⟩ := bnd_some hd449
                      refine AX.cut (fun t' H' => ∃ (b476 : Bool), b476 = r477 ∧ St [] H H' [[(i211, AObj.row false ([.int .i64 x194, .slice p199 rs195.length c200]))], oseg p199 (tcells T401), tseg T401] ∧ Am.Sub [(10, .pointer (some ⟨i211, 0, none⟩)), (13, .int .i64 x397), (108, .bool b476)] t') ?_ ?_
                      · skip
                        refine AX.region ?_
                        refine AO.c rfl (s_loadN (vs := [.int .i64 x445, .slice p450 rs446.length c451]) Try.isAgg53 Try.sizeOf53 rfl rfl (row_cells (S466.get (k := 0) rfl))) ?_
                        refine AO.c rfl (s_loadN (vs := [.int .i64 x140, .slice p145 rs141.length c146]) Try.isAgg53 Try.sizeOf53 rfl rfl (row_cells (S466.get (k := 9) rfl))) ?_
                        obtain ⟨b480, h481, hd482⟩ := bnd_some hb478
                        refine AO.c rfl (o_call (vs := [.agg [.int .i64 x445, .slice p450 rs446.length c451].toArray, .agg [.int .i64 x140, .slice p145 rs141.length c146].toArray]) rfl Try.call36 (W_laws_eqSquare fu G465 x445 p450 c451 T454 rs446 t455 (S466.oview (k := 1) rfl B453 (tc_len1 t455 rfl)) (S466.oviewT (k := 2) rfl s456) x140 p145 c146 T149 rs141 t150 (S466.oview (k := 10) rfl B148 (tc_len1 t150 rfl)) (S466.oviewT (k := 11) rfl s151) b480 h481)) ?_
                        refine AO.p rfl (p_not rfl) ?_
                        refine AO.p rfl (p_move rfl) ?_
                        refine AO.cases (d := 104) rfl (fun c484 => ?_) (fun c484 => ?_)
                        · have hd485 := bif_t c484 hd482
                          refine AO.gn rfl rfl rfl ?_
                          refine AO.gn rfl rfl rfl ?_
                          refine AO.gn rfl rfl rfl ?_
                          refine AO.p rfl (p_pickT rfl rfl) ?_
                          refine AO.nil ?_
                          have S486 := S466.front 7 rfl
                          have S487 := S486.front 7 rfl
                          have S488 := S487.front 12 rfl
                          have S489 := S488.keep 3
                          exact ⟨true, (some_inj hd485), S489, Sub.cons' rfl rfl (Sub.cons' rfl rfl (Sub.cons' rfl rfl (Sub.nil _)))⟩
                        · have hd490 := bif_f c484 hd482
                          refine AO.gp rfl rfl rfl (p_move rfl) ?_
                          refine AO.gp rfl rfl rfl (p_move rfl) ?_
                          refine AO.gp rfl rfl rfl (p_neq rfl rfl) ?_
                          refine AO.p rfl (p_pickF rfl rfl) ?_
                          refine AO.nil ?_
                          have S491 := S466.front 7 rfl
                          have S492 := S491.front 7 rfl
                          have S493 := S492.front 12 rfl
                          have S494 := S493.keep 3
                          exact ⟨(!decide (x447 = x142)), (some_inj hd490), S494, Sub.cons' rfl rfl (Sub.cons' rfl rfl (Sub.cons' rfl rfl (Sub.nil _)))⟩
                      · rintro t' G496 ⟨b476, rfl, S495, hsub497⟩
                        refine AX.sub hsub497 ?_
                        refine AX.cond rfl (fun c498 => ?_) (fun c498 => ?_)
                        · have hd499 := bif_t c498 hd479
                          refine AX.seq ?_
                          refine AX.region ?_
                          refine AO.p rfl (p_assign rfl) ?_
                          refine AO.nil ?_
                          refine AX.ret ?_
                          obtain rfl := some_inj hd499
                          exact ⟨.inr rfl, _, res1 rfl (rv_tmp rfl), rfl, (flatB_ok rfl), S495.hold⟩
                        · have hd500 := bif_f c498 hd479
                          refine AX.skip ?_
                          refine AX.seq ?_
                          refine AX.region ?_
                          refine AO.p rfl (p_assign rfl) ?_
                          refine AO.nil ?_
                          refine AX.seq ?_
                          refine AX.region ?_
                          refine AO.c rfl (s_loadN (vs := [.int .i64 x194, .slice p199 rs195.length c200]) Try.isAgg53 Try.sizeOf53 rfl rfl (row_cells (S495.get (k := 0) rfl))) ?_
                          refine AO.p rfl (p_move rfl) ?_
                          obtain ⟨x501, h502, hd503⟩ := bnd_some hd500
                          refine AO.c rfl (o_call (vs := [.agg [.int .i64 x194, .slice p199 rs195.length c200].toArray, .int .i64 1]) rfl Try.call38 (by have h' := W_laws_heldSquare fu G496 x194 p199 c200 T401 rs398 t402 (by rw [show List.length rs398 = rs195.length from (Eq.trans l404 rfl)]; exact (S495.oview (k := 1) rfl B202 (tc_len1 t402 (Eq.trans l404 rfl)))) (S495.oviewT (k := 2) rfl s403) 1 x501 h502; rw [show List.length rs398 = rs195.length from (Eq.trans l404 rfl)] at h'; exact h')) ?_
                          refine AO.p rfl (p_assign rfl) ?_
                          refine AO.nil ?_
                          refine AX.seq ?_
                          refine AX.seq ?_
                          refine AX.region ?_
                          refine AO.p rfl (p_move rfl) ?_
                          refine AO.p rfl (p_lss rfl rfl) ?_
                          refine AO.nil ?_
                          refine AX.cond rfl (fun c505 => ?_) (fun c505 => ?_)
                          · have hd506 := bif_t c505 hd503
                            refine AX.seq ?_
                            refine AX.region ?_
                            refine AO.p rfl (p_assign rfl) ?_
                            refine AO.nil ?_
                            refine AX.ret ?_
                            obtain rfl := some_inj hd506
                            exact ⟨.inr rfl, _, res1 rfl (rv_tmp rfl), rfl, (flatB_ok rfl), S495.hold⟩
                          · have hd507 := bif_f c505 hd503
                            refine AX.skip ?_
                            refine AX.seq ?_
                            refine AX.seq ?_
                            refine AX.region ?_
                            refine AO.p rfl (p_move rfl) ?_
                            refine AO.p rfl (p_move rfl) ?_
                            refine AO.p rfl (p_neq rfl rfl) ?_
                            refine AO.nil ?_
                            refine AX.cond rfl (fun c508 => ?_) (fun c508 => ?_)
                            · have hd509 := bif_t c508 hd507
                              refine AX.seq ?_
                              refine AX.region ?_
                              refine AO.p rfl (p_assign rfl) ?_
                              refine AO.nil ?_
                              refine AX.ret ?_
                              obtain rfl := some_inj hd509
                              exact ⟨.inr rfl, _, res1 rfl (rv_tmp rfl), rfl, (flatB_ok rfl), S495.hold⟩
                            · have hd510 := bif_f c508 hd507
                              refine AX.skip ?_
                              refine AX.seq ?_
                              refine AX.region ?_
                              refine AO.p rfl (p_assign rfl) ?_
                              refine AO.nil ?_
                              refine AX.ret ?_
                              obtain rfl := some_inj hd510
                              exact ⟨.inr rfl, _, res1 rfl (rv_tmp rfl), rfl, (flatB_ok rfl), S495.hold⟩

end Go.Proofs.Ytakfkiahhfdjfaa
