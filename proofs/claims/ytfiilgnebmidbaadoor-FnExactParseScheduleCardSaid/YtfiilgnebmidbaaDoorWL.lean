/-
  The program computes that, printed by a program. No condition.
-/
import Derived.Test.YtfiilgnebmidbaaDoorDL
import Derived.Test.YtfiilgnebmidbaaDoorWA
import Derived.Test.YtfiilgnebmidbaaDoorProg
import Derived.KernelRfl
namespace Go.Proofs.YtfiilgnebmidbaaDoor
open Go Go.RowKit Am
set_option linter.unusedVariables false
set_option linter.unusedSimpArgs false
set_option maxRecDepth 20000
set_option maxHeartbeats 4000000 in
theorem W_laws_toRound (fu : Nat) (H : AHeap) (a0 : List Int) (h_a0 : a0.length = 14) (r0 : List Int) (hd : D_laws_toRound fu a0 = some r0) : ACall Tryd.prog 70 [.agg (ints a0).toArray] H (.agg (ints r0).toArray) H ∧ r0.length = 14 := by
  refine ACall.bodyPF (N := 15) [(0, .agg (ints a0).toArray)] Tryd.func70 rfl rfl rfl rfl ?_
  unfold D_laws_toRound at hd
  have S0 : St [] H H [] := St.nil H
  refine AX.seq ?_
  refine AX.region ?_
  obtain ⟨G100, i101, hii101, hHG100, S102⟩ := S0.new (AObj.row false (ints a0))
  refine AO.c rfl (s_box (i := i101) (cs := ints a0) rfl hii101 rfl hHG100) ?_
  obtain ⟨G104, i105, hii105, hHG104, S106⟩ := S102.new (AObj.row false (ints (List.replicate 14 0)))
  refine AO.c rfl (s_alloc (i := i105) (cs := ints (List.replicate 14 0)) Tryd.zeroValue76 rfl rfl hii105 hHG104) ?_
  refine AO.nil ?_
  refine AX.seq ?_
  refine AX.region ?_
  obtain ⟨G108, i109, hii109, hHG108, S110⟩ := S106.new (AObj.row false (ints (List.replicate 14 0)))
  refine AO.c rfl (s_alloc (i := i109) (cs := ints (List.replicate 14 0)) Tryd.zeroValue76 rfl rfl hii109 hHG108) ?_
  refine AO.nil ?_
  refine AX.seq ?_
  refine AX.seq ?_
  refine AX.region ?_
  refine AO.p rfl (p_assign rfl) ?_
  refine AO.nil ?_
  obtain ⟨r166, hl167, hd168⟩ := bnd_some hd
  refine AX.cutS (fun t' H' => ∃ (xs165 : List Int), xs165 = r166 ∧ St [] H H' [[(i105, AObj.row false (ints (List.replicate 14 0)))], [(i109, AObj.row false (ints xs165))]] ∧ xs165.length = 14 ∧ Am.Sub [(2, .pointer (some ⟨i105, 0, none⟩)), (3, .pointer (some ⟨i109, 0, none⟩))] t') ?_ ?_
  · refine AX.block ?_
    refine AX.loopF (fun s' t' H' => ∃ (xs147 : List Int) (x148 : Int), (xs147, x148) = s' ∧ St [] H H' [[(i101, AObj.row false (ints a0))], [(i105, AObj.row false (ints (List.replicate 14 0)))], [(i109, AObj.row false (ints xs147))]] ∧ xs147.length = 14 ∧ Am.Sub [(1, .pointer (some ⟨i101, 0, none⟩)), (2, .pointer (some ⟨i105, 0, none⟩)), (3, .pointer (some ⟨i109, 0, none⟩)), (4, .int .i64 x148)] t') hl167 ?_ ?_
    · skip
      have S169 := S110.front 0 rfl
      have S170 := S169.front 1 rfl
      have S171 := S170.front 2 rfl
      exact ⟨(List.replicate 14 0), 0, rfl, S171, len_rep, Sub.cons' rfl rfl (Sub.cons' rfl rfl (Sub.cons' rfl rfl (Sub.cons' rfl rfl (Sub.nil _))))⟩
    · rintro n172 _ t' G176 ⟨xs147, x148, rfl, S175, lxs147, hsub177⟩ o178 ho173 hk174
      refine AX.sub hsub177 ?_
      unfold D_laws_toRound_s0 at ho173
      refine AX.seq ?_
      refine AX.seq ?_
      refine AX.region ?_
      refine AO.p rfl (p_move rfl) ?_
      refine AO.p rfl (p_lss rfl rfl) ?_
      refine AO.nil ?_
      refine AX.cond rfl (fun c179 => ?_) (fun c179 => ?_)
      · have hd180 := bif_t c179 ho173
        refine AX.skip ?_
        refine AX.seq ?_
        refine AX.block ?_
        refine AX.region ?_
        refine AO.p rfl (p_move rfl) ?_
        refine AO.p rfl (p_move rfl) ?_
        obtain ⟨k181, hd182⟩ := chk_some hd180
        refine AO.p rfl (s_indexAr (q := x148.toNat) Tryd.underlying75 Tryd.sizeOf2 rfl rfl k181 (z1 _)) ?_
        refine AO.c rfl (s_load Tryd.isAgg2 rfl (row_cell (S175.get (k := 0) rfl) (ints_get (lt_len h_a0 (inR_lt k181))))) ?_
        obtain ⟨k183, hd184⟩ := chk_some hd182
        refine AO.p rfl (s_indexAr (q := x148.toNat) Tryd.underlying76 Tryd.sizeOf2 rfl rfl k183 (z1 _)) ?_
        obtain ⟨G185, hHG185, S186⟩ := S175.set (k := 2) (i := i109) rfl (AObj.row false (ints (xs147.set x148.toNat (rd a0 x148.toNat))))
        refine AO.s (s_store Tryd.sizeOf2 rfl rfl rfl (S175.get (k := 2) rfl) (lt_len (ints_len lxs147) (inR_lt k183)) ((congrArg (fun l => List.set _ _ (AObj.row false l)) (ints_set _ _ _)).trans hHG185)) ?_
        refine AO.nil ?_
        refine AX.region ?_
        refine AO.p rfl (p_move rfl) ?_
        obtain ⟨k187, hd188⟩ := chk_some hd184
        refine AO.p rfl (p_addE rfl rfl k187) ?_
        refine AO.p rfl (p_assign rfl) ?_
        refine AO.nil ?_
        obtain rfl := some_inj hd188
        have S190 := S186.front 2 rfl
        have S191 := S190.front 2 rfl
        have S192 := S191.front 2 rfl
        exact ⟨((xs147.set x148.toNat (rd a0 x148.toNat)), x148 + 1), hk174, (xs147.set x148.toNat (rd a0 x148.toNat)), (x148 + 1), rfl, S192, (len_set lxs147), Sub.cons' rfl rfl (Sub.cons' rfl rfl (Sub.cons' rfl rfl (Sub.cons' rfl rfl (Sub.nil _))))⟩
      · have hd193 := bif_f c179 ho173
        refine AX.exit ?_
        obtain rfl := some_inj hd193
        have S194 := S175.front 2 rfl
        have S195 := S194.front 2 rfl
        have S196 := S195.keep 2
        exact ⟨xs147, hk174, S196, lxs147, Sub.cons' rfl rfl (Sub.cons' rfl rfl (Sub.nil _))⟩
  · rintro t' G198 ⟨xs165, rfl, S197, lxs165, hsub199⟩
    refine ⟨_, hsub199, ?_⟩
    refine AX.seq ?_
    refine AX.region ?_
    refine AO.c rfl (s_loadN (vs := ints xs165) Tryd.isAgg76 Tryd.sizeOf76 rfl (ints_len lxs165) (row_cells (S197.get (k := 1) rfl))) ?_
    obtain ⟨G200, hHG200, S201⟩ := S197.set (k := 0) (i := i105) rfl (AObj.row false (ints xs165))
    refine AO.s (s_storeAll (vs := ints xs165) Tryd.sizeOf76 rfl rfl ints_one (S197.get (k := 0) rfl) (ints_len lxs165) (ints_len len_rep) hHG200) ?_
    refine AO.nil ?_
    refine AX.ret ?_
    obtain rfl := some_inj hd168
    exact ⟨.inr rfl, _, res1 rfl (rv_cell (vs := ints xs165) rfl Tryd.isAgg76 Tryd.sizeOf76 (ints_len lxs165) (row_cells (S201.get (k := 0) rfl))), rfl, (flat_arr _), S201.hold, lxs165⟩

set_option maxHeartbeats 4000000 in
theorem W_laws_toRoundS (fu : Nat) (H : AHeap) (p_a0 : Option Addr) (c_a0 : Nat) (a0 : List (List Int)) (a_a0 : All 14 a0) (v_a0 : Vw H p_a0 a0.length c_a0 (ints a0.flatten)) (r0 : List (List Int)) (hd : D_laws_toRoundS fu a0 = some r0) : ∃ v G', ACall Tryd.prog 35 [.slice p_a0 a0.length c_a0] H v G' ∧ ∃ (p_r0 : Option Addr) (c_r0 : Nat), (v = .slice p_r0 r0.length c_r0) ∧ St [] H G' [oseg p_r0 (ints r0.flatten)] ∧ Sb p_r0 r0.length c_r0 14 ∧ All 14 r0 := by
  refine ACall.bodyX (args := [.slice p_a0 a0.length c_a0]) (N := 23) [(0, .slice p_a0 a0.length c_a0)] (fun v G' => ∃ (p_r0 : Option Addr) (c_r0 : Nat), (v = .slice p_r0 r0.length c_r0) ∧ St [] H G' [oseg p_r0 (ints r0.flatten)] ∧ Sb p_r0 r0.length c_r0 14 ∧ All 14 r0) Tryd.func35 rfl rfl rfl rfl ?_
  unfold D_laws_toRoundS at hd
  have S0 : St [] H H [] := St.nil H
  refine AX.seq ?_
  refine AX.region ?_
  refine AO.p rfl (p_assign rfl) ?_
  refine AO.nil ?_
  refine AX.seq ?_
  refine AX.region ?_
  refine AO.p rfl (p_move rfl) ?_
  refine AO.p rfl (p_len_slice rfl Tryd.underlying32) ?_
  obtain ⟨k100, hd101⟩ := chk_some hd
  obtain ⟨G102, i103, hii103, hHG102, S104⟩ := S0.new (AObj.row false (ints (List.replicate ((a0.length : Nat) : Int).toNat (List.replicate 14 0)).flatten))
  refine AO.c rfl (s_makeRowsE (r := List.replicate 14 0) (i := i103) (by_ := 112) Tryd.underlying37 Tryd.typeInfo76 Tryd.sizeOf76 Tryd.zeroValue76 rfl rfl rfl rfl rfl rfl k100 (by decide) hii103 hHG102) ?_
  refine AO.p rfl (p_assign rfl) ?_
  refine AO.nil ?_
  refine AX.seq ?_
  refine AX.seq ?_
  refine AX.region ?_
  refine AO.p rfl (p_assign rfl) ?_
  refine AO.nil ?_
  obtain ⟨r175, hl176, hd177⟩ := bnd_some hd101
  refine AX.cutS (fun t' H' => ∃ (rs174 : List (List Int)), rs174 = r175 ∧ St [] H H' [[(i103, AObj.row false (ints rs174.flatten))]] ∧ rs174.length = ((a0.length : Nat) : Int).toNat ∧ All 14 rs174 ∧ Am.Sub [(3, .slice (some (Addr.mk i103 0 none)) (((a0.length : Nat) : Int).toNat) (((a0.length : Nat) : Int).toNat))] t') ?_ ?_
  · refine AX.block ?_
    refine AX.loopF (fun s' t' H' => ∃ (rs151 : List (List Int)) (x152 : Int), (rs151, x152) = s' ∧ St [] H H' [[(i103, AObj.row false (ints rs151.flatten))]] ∧ rs151.length = ((a0.length : Nat) : Int).toNat ∧ All 14 rs151 ∧ Am.Sub [(0, .slice p_a0 a0.length c_a0), (3, .slice (some (Addr.mk i103 0 none)) (((a0.length : Nat) : Int).toNat) (((a0.length : Nat) : Int).toNat)), (4, .int .i64 x152)] t') hl176 ?_ ?_
    · skip
      have S178 := S104.front 0 rfl
      exact ⟨(List.replicate ((a0.length : Nat) : Int).toNat (List.replicate 14 0)), 0, rfl, S178, len_rep, all_rep, Sub.cons' rfl rfl (Sub.cons' rfl rfl (Sub.cons' rfl rfl (Sub.nil _)))⟩
    · rintro n179 _ t' G183 ⟨rs151, x152, rfl, S182, lrs151, ars151, hsub184⟩ o185 ho180 hk181
      refine AX.sub hsub184 ?_
      unfold D_laws_toRoundS_s0 at ho180
      refine AX.seq ?_
      refine AX.seq ?_
      refine AX.region ?_
      refine AO.p rfl (p_move rfl) ?_
      refine AO.p rfl (p_move rfl) ?_
      refine AO.p rfl (p_len_slice rfl Tryd.underlying32) ?_
      refine AO.p rfl (p_lss rfl rfl) ?_
      refine AO.nil ?_
      refine AX.cond rfl (fun c186 => ?_) (fun c186 => ?_)
      · have hd187 := bif_t c186 ho180
        refine AX.skip ?_
        refine AX.seq ?_
        refine AX.block ?_
        refine AX.region ?_
        refine AO.p rfl (p_move rfl) ?_
        refine AO.p rfl (p_move rfl) ?_
        refine AO.p rfl (p_move rfl) ?_
        refine AO.p rfl (p_move rfl) ?_
        obtain ⟨k188, hd189⟩ := chk_some hd187
        refine AO.p rfl (s_indexV (q := off p_a0 + x152.toNat * 14) Tryd.underlying32 Tryd.sizeOf75 rfl ((S182.view v_a0).rowne a_a0 (by decide) (lt_len rfl (inR_lt k188))) rfl k188 rfl) ?_
        refine AO.c rfl (s_loadN (vs := ints (rw_ a0 x152.toNat)) Tryd.isAgg75 Tryd.sizeOf75 rfl (ints_len (rw_len a_a0 (lt_len rfl (inR_lt k188)))) ((S182.view v_a0).row a_a0 (lt_len rfl (inR_lt k188)))) ?_
        obtain ⟨xs190, h191, hd192⟩ := bnd_some hd189
        obtain ⟨hc194, l195⟩ := W_laws_toRound fu G183 (rw_ a0 x152.toNat) (rw_len a_a0 (lt_len rfl (inR_lt k188))) xs190 h191
        refine AO.c rfl (o_call (vs := [.agg (ints (rw_ a0 x152.toNat)).toArray]) rfl Tryd.call70 hc194) ?_
        obtain ⟨k196, hd197⟩ := chk_some hd192
        refine AO.p rfl (s_indexV (q := x152.toNat * 14) Tryd.underlying37 Tryd.sizeOf76 rfl rfl rfl k196 (Nat.zero_add _)) ?_
        obtain ⟨G198, hHG198, S199⟩ := S182.set (k := 0) (i := i103) rfl (AObj.row false (ints (rs151.set x152.toNat xs190).flatten))
        refine AO.s (s_storeRow (o := x152.toNat) (r := xs190) Tryd.sizeOf76 rfl rfl rfl (S182.get (k := 0) rfl) ars151 l195 (lt_len lrs151 (inR_lt k196)) hHG198) ?_
        refine AO.nil ?_
        refine AX.region ?_
        refine AO.p rfl (p_move rfl) ?_
        obtain ⟨k200, hd201⟩ := chk_some hd197
        refine AO.p rfl (p_addE rfl rfl k200) ?_
        refine AO.p rfl (p_assign rfl) ?_
        refine AO.nil ?_
        obtain rfl := some_inj hd201
        have S203 := S199.front 0 rfl
        exact ⟨((rs151.set x152.toNat xs190), x152 + 1), hk181, (rs151.set x152.toNat xs190), (x152 + 1), rfl, S203, (len_set lrs151), (All.set ars151 l195 _), Sub.cons' rfl rfl (Sub.cons' rfl rfl (Sub.cons' rfl rfl (Sub.nil _)))⟩
      · have hd204 := bif_f c186 ho180
        refine AX.exit ?_
        obtain rfl := some_inj hd204
        have S205 := S182.front 0 rfl
        exact ⟨rs151, hk181, S205, lrs151, ars151, Sub.cons' rfl rfl (Sub.nil _)⟩
  · rintro t' G207 ⟨rs174, rfl, S206, lrs174, ars174, hsub208⟩
    refine ⟨_, hsub208, ?_⟩
    refine AX.seq ?_
    refine AX.region ?_
    refine AO.p rfl (p_move rfl) ?_
    refine AO.p rfl (p_assign rfl) ?_
    refine AO.nil ?_
    refine AX.ret ?_
    obtain rfl := some_inj hd177
    have S209 := S206.front 0 rfl
    exact ⟨.inr rfl, _, res1 rfl (rv_tmp rfl), (some (Addr.mk i103 0 none)), (((a0.length : Nat) : Int).toNat), (by rw [show List.length rs174 = ((a0.length : Nat) : Int).toNat from lrs174]), S209, (by rw [show List.length rs174 = ((a0.length : Nat) : Int).toNat from lrs174]; exact (Sb.lit (mkcap k100))), ars174⟩

set_option maxHeartbeats 4000000 in
theorem W_laws_toSchedule (fu : Nat) (H : AHeap) (a0_0 : Int) (p_a0_1 : Option Addr) (c_a0_1 : Nat) (a0_1 : List (List Int)) (a_a0_1 : All 14 a0_1) (v_a0_1 : Vw H p_a0_1 a0_1.length c_a0_1 (ints a0_1.flatten)) (r0 : Int) (r1 : List (List Int)) (hd : D_laws_toSchedule fu a0_0 a0_1 = some (r0, r1)) : ∃ v G', ACall Tryd.prog 14 [.agg [.int .i64 a0_0, .slice p_a0_1 a0_1.length c_a0_1].toArray] H v G' ∧ ∃ (p_r1 : Option Addr) (c_r1 : Nat), (v = .agg [.int .i64 r0, .slice p_r1 r1.length c_r1].toArray) ∧ St [] H G' [oseg p_r1 (ints r1.flatten)] ∧ Sb p_r1 r1.length c_r1 14 ∧ All 14 r1 := by
  refine ACall.bodyX (args := [.agg [.int .i64 a0_0, .slice p_a0_1 a0_1.length c_a0_1].toArray]) (N := 12) [(0, .agg [.int .i64 a0_0, .slice p_a0_1 a0_1.length c_a0_1].toArray)] (fun v G' => ∃ (p_r1 : Option Addr) (c_r1 : Nat), (v = .agg [.int .i64 r0, .slice p_r1 r1.length c_r1].toArray) ∧ St [] H G' [oseg p_r1 (ints r1.flatten)] ∧ Sb p_r1 r1.length c_r1 14 ∧ All 14 r1) Tryd.func14 rfl rfl rfl rfl ?_
  unfold D_laws_toSchedule at hd
  have S0 : St [] H H [] := St.nil H
  refine AX.seq ?_
  refine AX.region ?_
  obtain ⟨G100, i101, hii101, hHG100, S102⟩ := S0.new (AObj.row false ([.int .i64 a0_0, .slice p_a0_1 a0_1.length c_a0_1]))
  refine AO.c rfl (s_box (i := i101) (cs := [.int .i64 a0_0, .slice p_a0_1 a0_1.length c_a0_1]) rfl hii101 rfl hHG100) ?_
  obtain ⟨G104, i105, hii105, hHG104, S106⟩ := S102.new (AObj.row false ([.int .i64 0, .slice none 0 0]))
  refine AO.c rfl (s_alloc (i := i105) (cs := [.int .i64 0, .slice none 0 0]) Tryd.zeroValue39 rfl rfl hii105 hHG104) ?_
  refine AO.nil ?_
  refine AX.seq ?_
  refine AX.region ?_
  obtain ⟨G108, i109, hii109, hHG108, S110⟩ := S106.new (AObj.row false ([.int .i64 0, .slice none 0 0]))
  refine AO.c rfl (s_alloc (i := i109) (cs := [.int .i64 0, .slice none 0 0]) Tryd.zeroValue39 rfl rfl hii109 hHG108) ?_
  refine AO.nil ?_
  refine AX.seq ?_
  refine AX.region ?_
  refine AO.p rfl (s_fieldAddr Tryd.underlying34 rfl Tryd.sizeOf2 (by decide) rfl rfl) ?_
  refine AO.c rfl (s_load Tryd.isAgg2 rfl (row_cell (S110.get (k := 2) rfl) rfl)) ?_
  refine AO.p rfl (s_fieldAddr Tryd.underlying39 rfl Tryd.sizeOf2 (by decide) rfl rfl) ?_
  obtain ⟨G112, hHG112, S113⟩ := S110.set (k := 0) (i := i109) rfl (AObj.row false ([.int .i64 a0_0, .slice none 0 0]))
  refine AO.s (s_store Tryd.sizeOf2 rfl rfl rfl (S110.get (k := 0) rfl) (Nat.le_of_ble_eq_true rfl) hHG112) ?_
  refine AO.nil ?_
  refine AX.seq ?_
  refine AX.region ?_
  refine AO.p rfl (s_fieldAddr Tryd.underlying34 rfl Tryd.sizeOf32 (by decide) rfl rfl) ?_
  refine AO.c rfl (s_load Tryd.isAgg32 rfl (row_cell (S113.get (k := 2) rfl) rfl)) ?_
  obtain ⟨rs114, h115, hd116⟩ := bnd_some hd
  obtain ⟨_, G123, hc122, p117, c118, rfl, S124, B120, a121⟩ := W_laws_toRoundS fu G112 p_a0_1 c_a0_1 a0_1 a_a0_1 (S113.view v_a0_1) rs114 h115
  have S125 := S113.call S124
  refine AO.c rfl (o_call (vs := [.slice p_a0_1 a0_1.length c_a0_1]) rfl Tryd.call35 hc122) ?_
  refine AO.p rfl (s_fieldAddr Tryd.underlying39 rfl Tryd.sizeOf37 (by decide) rfl rfl) ?_
  obtain ⟨G126, hHG126, S127⟩ := S125.set (k := 1) (i := i109) rfl (AObj.row false ([.int .i64 a0_0, .slice p117 rs114.length c118]))
  refine AO.s (s_store Tryd.sizeOf37 rfl rfl rfl (S125.get (k := 1) rfl) (Nat.le_of_ble_eq_true rfl) hHG126) ?_
  refine AO.nil ?_
  refine AX.seq ?_
  refine AX.region ?_
  refine AO.c rfl (s_loadN (vs := [.int .i64 a0_0, .slice p117 rs114.length c118]) Tryd.isAgg39 Tryd.sizeOf39 rfl rfl (row_cells (S127.get (k := 1) rfl))) ?_
  obtain ⟨G128, hHG128, S129⟩ := S127.set (k := 2) (i := i105) rfl (AObj.row false ([.int .i64 a0_0, .slice p117 rs114.length c118]))
  refine AO.s (s_storeAll (vs := [.int .i64 a0_0, .slice p117 rs114.length c118]) Tryd.sizeOf39 rfl rfl (ones_list rfl) (S127.get (k := 2) rfl) rfl rfl hHG128) ?_
  refine AO.nil ?_
  refine AX.ret ?_
  obtain ⟨rfl, rfl⟩ := Prod.mk.inj (some_inj hd116)
  have S131 := S129.front 0 rfl
  have S132 := S131.keep 1
  exact ⟨.inr rfl, _, res1 rfl (rv_cell (vs := [.int .i64 a0_0, .slice p117 rs114.length c118]) rfl Tryd.isAgg39 Tryd.sizeOf39 rfl (row_cells (S129.get (k := 2) rfl))), p117, c118, rfl, S132, B120, a121⟩

set_option maxHeartbeats 4000000 in
theorem W_laws_szRoundS (fu : Nat) (H : AHeap) (p_a0 : Option Addr) (c_a0 : Nat) (a0 : List (List Int)) (a_a0 : All 14 a0) (v_a0 : Vw H p_a0 a0.length c_a0 (ints a0.flatten)) (a1 : Int) (r0 : Int) (hd : D_laws_szRoundS fu a0 a1 = some r0) : ACall Tryd.prog 32 [.slice p_a0 a0.length c_a0, .int .i64 a1] H (.int .i64 r0) H := by
  refine ACall.bodyP (N := 12) [(0, .slice p_a0 a0.length c_a0), (1, .int .i64 a1)] Tryd.func32 rfl rfl rfl rfl ?_
  unfold D_laws_szRoundS at hd
  have S0 : St [] H H [] := St.nil H
  refine AX.seq ?_
  refine AX.region ?_
  refine AO.p rfl (p_assign rfl) ?_
  refine AO.nil ?_
  refine AX.seq ?_
  refine AX.region ?_
  refine AO.p rfl (p_move rfl) ?_
  refine AO.p rfl (p_move rfl) ?_
  refine AO.p rfl (p_len_slice rfl Tryd.underlying32) ?_
  obtain ⟨k100, hd101⟩ := chk_some hd
  refine AO.p rfl (p_subE rfl rfl k100) ?_
  refine AO.p rfl (p_assign rfl) ?_
  refine AO.nil ?_
  refine AX.seq ?_
  refine AX.seq ?_
  refine AX.region ?_
  refine AO.p rfl (p_move rfl) ?_
  refine AO.p rfl (p_lss rfl rfl) ?_
  refine AO.nil ?_
  refine AX.cond rfl (fun c102 => ?_) (fun c102 => ?_)
  · have hd103 := bif_t c102 hd101
    refine AX.seq ?_
    refine AX.region ?_
    refine AO.p rfl (p_assign rfl) ?_
    refine AO.nil ?_
    refine AX.ret ?_
    obtain rfl := some_inj hd103
    exact ⟨.inr rfl, _, res1 rfl (rv_tmp rfl), rfl, (flatB_ok rfl), S0.hold⟩
  · have hd104 := bif_f c102 hd101
    refine AX.skip ?_
    refine AX.seq ?_
    refine AX.region ?_
    refine AO.p rfl (p_move rfl) ?_
    refine AO.p rfl (p_assign rfl) ?_
    refine AO.nil ?_
    refine AX.ret ?_
    obtain rfl := some_inj hd104
    exact ⟨.inr rfl, _, res1 rfl (rv_tmp rfl), rfl, (flatB_ok rfl), S0.hold⟩

set_option maxHeartbeats 4000000 in
theorem W_laws_szSchedule (fu : Nat) (H : AHeap) (a0_0 : Int) (p_a0_1 : Option Addr) (c_a0_1 : Nat) (a0_1 : List (List Int)) (a_a0_1 : All 14 a0_1) (v_a0_1 : Vw H p_a0_1 a0_1.length c_a0_1 (ints a0_1.flatten)) (a1 : Int) (r0 : Int) (hd : D_laws_szSchedule fu a0_0 a0_1 a1 = some r0) : ACall Tryd.prog 12 [.agg [.int .i64 a0_0, .slice p_a0_1 a0_1.length c_a0_1].toArray, .int .i64 a1] H (.int .i64 r0) H := by
  refine ACall.bodyP (N := 12) [(0, .agg [.int .i64 a0_0, .slice p_a0_1 a0_1.length c_a0_1].toArray), (1, .int .i64 a1)] Tryd.func12 rfl rfl rfl rfl ?_
  unfold D_laws_szSchedule at hd
  have S0 : St [] H H [] := St.nil H
  refine AX.seq ?_
  refine AX.region ?_
  obtain ⟨G100, i101, hii101, hHG100, S102⟩ := S0.new (AObj.row false ([.int .i64 a0_0, .slice p_a0_1 a0_1.length c_a0_1]))
  refine AO.c rfl (s_box (i := i101) (cs := [.int .i64 a0_0, .slice p_a0_1 a0_1.length c_a0_1]) rfl hii101 rfl hHG100) ?_
  refine AO.p rfl (p_assign rfl) ?_
  refine AO.nil ?_
  refine AX.seq ?_
  refine AX.region ?_
  refine AO.p rfl (s_fieldAddr Tryd.underlying34 rfl Tryd.sizeOf32 (by decide) rfl rfl) ?_
  refine AO.c rfl (s_load Tryd.isAgg32 rfl (row_cell (S102.get (k := 0) rfl) rfl)) ?_
  refine AO.p rfl (p_move rfl) ?_
  obtain ⟨x104, h105, hd106⟩ := bnd_some hd
  refine AO.c rfl (o_call (vs := [.slice p_a0_1 a0_1.length c_a0_1, .int .i64 a1]) rfl Tryd.call32 (W_laws_szRoundS fu G100 p_a0_1 c_a0_1 a0_1 a_a0_1 (S102.view v_a0_1) a1 x104 h105)) ?_
  refine AO.p rfl (p_assign rfl) ?_
  refine AO.nil ?_
  refine AX.seq ?_
  refine AX.seq ?_
  refine AX.region ?_
  refine AO.p rfl (p_move rfl) ?_
  refine AO.p rfl (p_lss rfl rfl) ?_
  refine AO.nil ?_
  refine AX.cond rfl (fun c108 => ?_) (fun c108 => ?_)
  · have hd109 := bif_t c108 hd106
    refine AX.seq ?_
    refine AX.region ?_
    refine AO.p rfl (p_assign rfl) ?_
    refine AO.nil ?_
    refine AX.ret ?_
    obtain rfl := some_inj hd109
    exact ⟨.inr rfl, _, res1 rfl (rv_tmp rfl), rfl, (flatB_ok rfl), S102.hold⟩
  · have hd110 := bif_f c108 hd106
    refine AX.skip ?_
    refine AX.seq ?_
    refine AX.region ?_
    refine AO.p rfl (p_move rfl) ?_
    refine AO.p rfl (p_assign rfl) ?_
    refine AO.nil ?_
    refine AX.ret ?_
    obtain rfl := some_inj hd110
    exact ⟨.inr rfl, _, res1 rfl (rv_tmp rfl), rfl, (flatB_ok rfl), S102.hold⟩

set_option maxHeartbeats 4000000 in
theorem W_laws_eqRound (fu : Nat) (H : AHeap) (a0 : List Int) (h_a0 : a0.length = 14) (a1 : List Int) (h_a1 : a1.length = 14) (r0 : Bool) (hd : D_laws_eqRound fu a0 a1 = some r0) : ACall Tryd.prog 72 [.agg (ints a0).toArray, .agg (ints a1).toArray] H (.bool r0) H := by
  refine ACall.bodyP (N := 17) [(0, .agg (ints a0).toArray), (1, .agg (ints a1).toArray)] Tryd.func72 rfl rfl rfl rfl ?_
  unfold D_laws_eqRound at hd
  have S0 : St [] H H [] := St.nil H
  refine AX.seq ?_
  refine AX.region ?_
  obtain ⟨G100, i101, hii101, hHG100, S102⟩ := S0.new (AObj.row false (ints a0))
  refine AO.c rfl (s_box (i := i101) (cs := ints a0) rfl hii101 rfl hHG100) ?_
  obtain ⟨G104, i105, hii105, hHG104, S106⟩ := S102.new (AObj.row false (ints a1))
  refine AO.c rfl (s_box (i := i105) (cs := ints a1) rfl hii105 rfl hHG104) ?_
  refine AO.p rfl (p_assign rfl) ?_
  refine AO.nil ?_
  refine AX.seq ?_
  refine AX.seq ?_
  refine AX.region ?_
  refine AO.p rfl (p_assign rfl) ?_
  refine AO.nil ?_
  obtain ⟨r157, hl158, hd159⟩ := bnd_some hd
  refine AX.cutS (fun t' H' => .inl () = r157 ∧ St [] H H' [] ∧ Am.Sub [] t') ?_ ?_
  · refine AX.block ?_
    refine AX.loopF (fun s' t' H' => ∃ (x141 : Int), x141 = s' ∧ St [] H H' [[(i101, AObj.row false (ints a0))], [(i105, AObj.row false (ints a1))]] ∧ Am.Sub [(2, .pointer (some ⟨i101, 0, none⟩)), (3, .pointer (some ⟨i105, 0, none⟩)), (5, .int .i64 x141)] t') hl158 ?_ ?_
    · skip
      have S160 := S106.front 0 rfl
      have S161 := S160.front 1 rfl
      exact ⟨0, rfl, S161, Sub.cons' rfl rfl (Sub.cons' rfl rfl (Sub.cons' rfl rfl (Sub.nil _)))⟩
    · rintro n162 _ t' G166 ⟨x141, rfl, S165, hsub167⟩ o168 ho163 hk164
      refine AX.sub hsub167 ?_
      unfold D_laws_eqRound_s0 at ho163
      refine AX.seq ?_
      refine AX.seq ?_
      refine AX.region ?_
      refine AO.p rfl (p_move rfl) ?_
      refine AO.p rfl (p_lss rfl rfl) ?_
      refine AO.nil ?_
      refine AX.cond rfl (fun c169 => ?_) (fun c169 => ?_)
      · have hd170 := bif_t c169 ho163
        refine AX.skip ?_
        refine AX.seq ?_
        refine AX.block ?_
        refine AX.seq ?_
        refine DR.startS [false, false, false, false, false, false, false] mix (by kernel_rfl) (fun hst => ?_)
        refine DR.p rfl rfl (p_move rfl) ?_
        obtain ⟨k171, hd172⟩ := chk_some hd170
        refine DR.p rfl rfl (s_indexAr (q := x141.toNat) Tryd.underlying76 Tryd.sizeOf2 rfl rfl k171 (z1 _)) ?_
        refine DR.r rfl rfl (r_load rfl Tryd.isAgg2) (one_read (row_cell (S165.get (k := 0) rfl) (ints_get (lt_len h_a0 (inR_lt k171)))) (.of_flat0 rfl)) ?_
        refine DR.p rfl rfl (p_move rfl) ?_
        obtain ⟨k173, hd174⟩ := chk_some hd172
        refine DR.p rfl rfl (s_indexAr (q := x141.toNat) Tryd.underlying76 Tryd.sizeOf2 rfl rfl k173 (z1 _)) ?_
        refine DR.r rfl rfl (r_load rfl Tryd.isAgg2) (one_read (row_cell (S165.get (k := 1) rfl) (ints_get (lt_len h_a1 (inR_lt k173)))) (.of_flat0 rfl)) ?_
        refine DR.p rfl rfl (p_neq rfl rfl) ?_
        refine DR.nil 7 [] hst (by kernel_rfl) trivial ?_
        refine AX.cond rfl (fun c175 => ?_) (fun c175 => ?_)
        · have hd176 := bif_t c175 hd174
          refine AX.seq ?_
          refine AX.region ?_
          refine AO.p rfl (p_assign rfl) ?_
          refine AO.nil ?_
          refine AX.ret ?_
          obtain rfl := some_inj hd176
          have z177 : _ = r157 := hk164
          subst z177
          obtain rfl := some_inj hd159
          exact ⟨.inr rfl, _, res1 rfl (rv_tmp rfl), rfl, (flatB_ok rfl), S165.hold⟩
        · have hd178 := bif_f c175 hd174
          refine AX.skip ?_
          refine AX.region ?_
          refine AO.p rfl (p_move rfl) ?_
          obtain ⟨k179, hd180⟩ := chk_some hd178
          refine AO.p rfl (p_addE rfl rfl k179) ?_
          refine AO.p rfl (p_assign rfl) ?_
          refine AO.nil ?_
          obtain rfl := some_inj hd180
          have S182 := S165.front 1 rfl
          have S183 := S182.front 1 rfl
          exact ⟨x141 + 1, hk164, (x141 + 1), rfl, S183, Sub.cons' rfl rfl (Sub.cons' rfl rfl (Sub.cons' rfl rfl (Sub.nil _)))⟩
      · have hd184 := bif_f c169 ho163
        refine AX.exit ?_
        obtain rfl := some_inj hd184
        have S185 := S165.keep 0
        exact ⟨hk164, S185, Sub.nil _⟩
  · rintro t' G187 ⟨rfl, S186, hsub188⟩
    refine ⟨_, hsub188, ?_⟩
    refine AX.seq ?_
    refine AX.region ?_
    refine AO.p rfl (p_assign rfl) ?_
    refine AO.nil ?_
    refine AX.ret ?_
    obtain rfl := some_inj hd159
    exact ⟨.inr rfl, _, res1 rfl (rv_tmp rfl), rfl, (flatB_ok rfl), S186.hold⟩

set_option maxHeartbeats 4000000 in
theorem W_laws_eqRoundS (fu : Nat) (H : AHeap) (p_a0 : Option Addr) (c_a0 : Nat) (a0 : List (List Int)) (a_a0 : All 14 a0) (v_a0 : Vw H p_a0 a0.length c_a0 (ints a0.flatten)) (p_a1 : Option Addr) (c_a1 : Nat) (a1 : List (List Int)) (a_a1 : All 14 a1) (v_a1 : Vw H p_a1 a1.length c_a1 (ints a1.flatten)) (r0 : Bool) (hd : D_laws_eqRoundS fu a0 a1 = some r0) : ACall Tryd.prog 39 [.slice p_a0 a0.length c_a0, .slice p_a1 a1.length c_a1] H (.bool r0) H := by
  refine ACall.bodyP (N := 27) [(0, .slice p_a0 a0.length c_a0), (1, .slice p_a1 a1.length c_a1)] Tryd.func39 rfl rfl rfl rfl ?_
  unfold D_laws_eqRoundS at hd
  have S0 : St [] H H [] := St.nil H
  refine AX.seq ?_
  refine AX.region ?_
  refine AO.p rfl (p_assign rfl) ?_
  refine AO.nil ?_
  refine AX.seq ?_
  refine AX.seq ?_
  refine AX.region ?_
  refine AO.p rfl (p_move rfl) ?_
  refine AO.p rfl (p_len_slice rfl Tryd.underlying37) ?_
  refine AO.p rfl (p_move rfl) ?_
  refine AO.p rfl (p_len_slice rfl Tryd.underlying37) ?_
  refine AO.p rfl (p_neq rfl rfl) ?_
  refine AO.nil ?_
  refine AX.cond rfl (fun c100 => ?_) (fun c100 => ?_)
  · have hd101 := bif_t c100 hd
    refine AX.seq ?_
    refine AX.region ?_
    refine AO.p rfl (p_assign rfl) ?_
    refine AO.nil ?_
    refine AX.ret ?_
    obtain rfl := some_inj hd101
    exact ⟨.inr rfl, _, res1 rfl (rv_tmp rfl), rfl, (flatB_ok rfl), S0.hold⟩
  · have hd102 := bif_f c100 hd
    refine AX.skip ?_
    refine AX.seq ?_
    refine AX.seq ?_
    refine AX.region ?_
    refine AO.p rfl (p_assign rfl) ?_
    refine AO.nil ?_
    obtain ⟨r162, hl163, hd164⟩ := bnd_some hd102
    refine AX.cutS (fun t' H' => .inl () = r162 ∧ St [] H H' [] ∧ Am.Sub [] t') ?_ ?_
    · refine AX.block ?_
      refine AX.loopF (fun s' t' H' => ∃ (x142 : Int), x142 = s' ∧ St [] H H' [] ∧ Am.Sub [(0, .slice p_a0 a0.length c_a0), (1, .slice p_a1 a1.length c_a1), (5, .int .i64 x142)] t') hl163 ?_ ?_
      · skip
        exact ⟨0, rfl, S0, Sub.cons' rfl rfl (Sub.cons' rfl rfl (Sub.cons' rfl rfl (Sub.nil _)))⟩
      · rintro n165 _ t' G169 ⟨x142, rfl, S168, hsub170⟩ o171 ho166 hk167
        refine AX.sub hsub170 ?_
        unfold D_laws_eqRoundS_s0 at ho166
        refine AX.seq ?_
        refine AX.seq ?_
        refine AX.region ?_
        refine AO.p rfl (p_move rfl) ?_
        refine AO.p rfl (p_move rfl) ?_
        refine AO.p rfl (p_len_slice rfl Tryd.underlying37) ?_
        refine AO.p rfl (p_lss rfl rfl) ?_
        refine AO.nil ?_
        refine AX.cond rfl (fun c172 => ?_) (fun c172 => ?_)
        · have hd173 := bif_t c172 ho166
          refine AX.skip ?_
          refine AX.seq ?_
          refine AX.block ?_
          refine AX.seq ?_
          refine DR.startS [false, false, false, false, false, false, false, false, true, false] mix (by kernel_rfl) (fun hst => ?_)
          refine DR.p rfl rfl (p_move rfl) ?_
          refine DR.p rfl rfl (p_move rfl) ?_
          obtain ⟨k174, hd175⟩ := chk_some hd173
          refine DR.p rfl rfl (s_indexV (q := off p_a0 + x142.toNat * 14) Tryd.underlying37 Tryd.sizeOf76 rfl ((S168.view v_a0).rowne a_a0 (by decide) (lt_len rfl (inR_lt k174))) rfl k174 rfl) ?_
          refine DR.r rfl rfl (r_loadN (vs := ints (rw_ a0 x142.toNat)) rfl Tryd.isAgg76 Tryd.sizeOf76 (ints_len (rw_len a_a0 (lt_len rfl (inR_lt k174))))) (many_row ((S168.view v_a0).row a_a0 (lt_len rfl (inR_lt k174))) bel_ints) ?_
          refine DR.p rfl rfl (p_move rfl) ?_
          refine DR.p rfl rfl (p_move rfl) ?_
          obtain ⟨k176, hd177⟩ := chk_some hd175
          refine DR.p rfl rfl (s_indexV (q := off p_a1 + x142.toNat * 14) Tryd.underlying37 Tryd.sizeOf76 rfl ((S168.view v_a1).rowne a_a1 (by decide) (lt_len rfl (inR_lt k176))) rfl k176 rfl) ?_
          refine DR.r rfl rfl (r_loadN (vs := ints (rw_ a1 x142.toNat)) rfl Tryd.isAgg76 Tryd.sizeOf76 (ints_len (rw_len a_a1 (lt_len rfl (inR_lt k176))))) (many_row ((S168.view v_a1).row a_a1 (lt_len rfl (inR_lt k176))) bel_ints) ?_
          obtain ⟨b178, h179, hd180⟩ := bnd_some hd177
          refine DR.w rfl rfl (o_call (vs := [.agg (ints (rw_ a0 x142.toNat)).toArray, .agg (ints (rw_ a1 x142.toNat)).toArray]) rfl Tryd.call72 (W_laws_eqRound fu G169 (rw_ a0 x142.toNat) (rw_len a_a0 (lt_len rfl (inR_lt k174))) (rw_ a1 x142.toNat) (rw_len a_a1 (lt_len rfl (inR_lt k176))) b178 h179)) (Nat.le_refl _) ?_
          refine DR.p rfl rfl (p_not rfl) ?_
          refine DR.nil 10 [] hst (by kernel_rfl) trivial ?_
          refine AX.cond rfl (fun c182 => ?_) (fun c182 => ?_)
          · have hd183 := bif_t c182 hd180
            refine AX.seq ?_
            refine AX.region ?_
            refine AO.p rfl (p_assign rfl) ?_
            refine AO.nil ?_
            refine AX.ret ?_
            obtain rfl := some_inj hd183
            have z184 : _ = r162 := hk167
            subst z184
            obtain rfl := some_inj hd164
            exact ⟨.inr rfl, _, res1 rfl (rv_tmp rfl), rfl, (flatB_ok rfl), S168.hold⟩
          · have hd185 := bif_f c182 hd180
            refine AX.skip ?_
            refine AX.region ?_
            refine AO.p rfl (p_move rfl) ?_
            obtain ⟨k186, hd187⟩ := chk_some hd185
            refine AO.p rfl (p_addE rfl rfl k186) ?_
            refine AO.p rfl (p_assign rfl) ?_
            refine AO.nil ?_
            obtain rfl := some_inj hd187
            exact ⟨x142 + 1, hk167, (x142 + 1), rfl, S168, Sub.cons' rfl rfl (Sub.cons' rfl rfl (Sub.cons' rfl rfl (Sub.nil _)))⟩
        · have hd189 := bif_f c172 ho166
          refine AX.exit ?_
          obtain rfl := some_inj hd189
          exact ⟨hk167, S168, Sub.nil _⟩
    · rintro t' G191 ⟨rfl, S190, hsub192⟩
      refine ⟨_, hsub192, ?_⟩
      refine AX.seq ?_
      refine AX.region ?_
      refine AO.p rfl (p_assign rfl) ?_
      refine AO.nil ?_
      refine AX.ret ?_
      obtain rfl := some_inj hd164
      exact ⟨.inr rfl, _, res1 rfl (rv_tmp rfl), rfl, (flatB_ok rfl), S190.hold⟩

set_option maxHeartbeats 4000000 in
theorem W_laws_eqSchedule (fu : Nat) (H : AHeap) (a0_0 : Int) (p_a0_1 : Option Addr) (c_a0_1 : Nat) (a0_1 : List (List Int)) (a_a0_1 : All 14 a0_1) (v_a0_1 : Vw H p_a0_1 a0_1.length c_a0_1 (ints a0_1.flatten)) (a1_0 : Int) (p_a1_1 : Option Addr) (c_a1_1 : Nat) (a1_1 : List (List Int)) (a_a1_1 : All 14 a1_1) (v_a1_1 : Vw H p_a1_1 a1_1.length c_a1_1 (ints a1_1.flatten)) (r0 : Bool) (hd : D_laws_eqSchedule fu a0_0 a0_1 a1_0 a1_1 = some r0) : ACall Tryd.prog 16 [.agg [.int .i64 a0_0, .slice p_a0_1 a0_1.length c_a0_1].toArray, .agg [.int .i64 a1_0, .slice p_a1_1 a1_1.length c_a1_1].toArray] H (.bool r0) H := by
  refine ACall.bodyP (N := 16) [(0, .agg [.int .i64 a0_0, .slice p_a0_1 a0_1.length c_a0_1].toArray), (1, .agg [.int .i64 a1_0, .slice p_a1_1 a1_1.length c_a1_1].toArray)] Tryd.func16 rfl rfl rfl rfl ?_
  unfold D_laws_eqSchedule at hd
  have S0 : St [] H H [] := St.nil H
  refine AX.seq ?_
  refine AX.region ?_
  obtain ⟨G100, i101, hii101, hHG100, S102⟩ := S0.new (AObj.row false ([.int .i64 a0_0, .slice p_a0_1 a0_1.length c_a0_1]))
  refine AO.c rfl (s_box (i := i101) (cs := [.int .i64 a0_0, .slice p_a0_1 a0_1.length c_a0_1]) rfl hii101 rfl hHG100) ?_
  obtain ⟨G104, i105, hii105, hHG104, S106⟩ := S102.new (AObj.row false ([.int .i64 a1_0, .slice p_a1_1 a1_1.length c_a1_1]))
  refine AO.c rfl (s_box (i := i105) (cs := [.int .i64 a1_0, .slice p_a1_1 a1_1.length c_a1_1]) rfl hii105 rfl hHG104) ?_
  refine AO.p rfl (p_assign rfl) ?_
  refine AO.nil ?_
  refine AX.seq ?_
  refine AX.seq ?_
  refine AX.region ?_
  refine AO.p rfl (s_fieldAddr Tryd.underlying39 rfl Tryd.sizeOf2 (by decide) rfl rfl) ?_
  refine AO.c rfl (s_load Tryd.isAgg2 rfl (row_cell (S106.get (k := 1) rfl) rfl)) ?_
  refine AO.p rfl (s_fieldAddr Tryd.underlying39 rfl Tryd.sizeOf2 (by decide) rfl rfl) ?_
  refine AO.c rfl (s_load Tryd.isAgg2 rfl (row_cell (S106.get (k := 0) rfl) rfl)) ?_
  refine AO.p rfl (p_neq rfl rfl) ?_
  refine AO.nil ?_
  refine AX.cond rfl (fun c108 => ?_) (fun c108 => ?_)
  · have hd109 := bif_t c108 hd
    refine AX.seq ?_
    refine AX.region ?_
    refine AO.p rfl (p_assign rfl) ?_
    refine AO.nil ?_
    refine AX.ret ?_
    obtain rfl := some_inj hd109
    exact ⟨.inr rfl, _, res1 rfl (rv_tmp rfl), rfl, (flatB_ok rfl), S106.hold⟩
  · have hd110 := bif_f c108 hd
    refine AX.skip ?_
    refine AX.seq ?_
    refine AX.seq ?_
    refine AX.region ?_
    refine AO.p rfl (s_fieldAddr Tryd.underlying39 rfl Tryd.sizeOf37 (by decide) rfl rfl) ?_
    refine AO.c rfl (s_load Tryd.isAgg37 rfl (row_cell (S106.get (k := 1) rfl) rfl)) ?_
    refine AO.p rfl (s_fieldAddr Tryd.underlying39 rfl Tryd.sizeOf37 (by decide) rfl rfl) ?_
    refine AO.c rfl (s_load Tryd.isAgg37 rfl (row_cell (S106.get (k := 0) rfl) rfl)) ?_
    obtain ⟨b111, h112, hd113⟩ := bnd_some hd110
    refine AO.c rfl (o_call (vs := [.slice p_a0_1 a0_1.length c_a0_1, .slice p_a1_1 a1_1.length c_a1_1]) rfl Tryd.call39 (W_laws_eqRoundS fu G104 p_a0_1 c_a0_1 a0_1 a_a0_1 (S106.view v_a0_1) p_a1_1 c_a1_1 a1_1 a_a1_1 (S106.view v_a1_1) b111 h112)) ?_
    refine AO.p rfl (p_not rfl) ?_
    refine AO.nil ?_
    refine AX.cond rfl (fun c115 => ?_) (fun c115 => ?_)
    · have hd116 := bif_t c115 hd113
      refine AX.seq ?_
      refine AX.region ?_
      refine AO.p rfl (p_assign rfl) ?_
      refine AO.nil ?_
      refine AX.ret ?_
      obtain rfl := some_inj hd116
      exact ⟨.inr rfl, _, res1 rfl (rv_tmp rfl), rfl, (flatB_ok rfl), S106.hold⟩
    · have hd117 := bif_f c115 hd113
      refine AX.skip ?_
      refine AX.seq ?_
      refine AX.region ?_
      refine AO.p rfl (p_assign rfl) ?_
      refine AO.nil ?_
      refine AX.ret ?_
      obtain rfl := some_inj hd117
      exact ⟨.inr rfl, _, res1 rfl (rv_tmp rfl), rfl, (flatB_ok rfl), S106.hold⟩

set_option maxHeartbeats 4000000 in
theorem W_laws_markRoundS (fu : Nat) (H : AHeap) (p_a0 : Option Addr) (c_a0 : Nat) (a0 : List (List Int)) (h_a0 : All 14 a0) (s_a0 : Sb p_a0 a0.length c_a0 14) (a1 : Int) (hn : ((oseg p_a0 (ints a0.flatten)).map (·.1)).Nodup) (ho : ∀ x ∈ oseg p_a0 (ints a0.flatten), x.1 < H.length ∧ hget H x.1 = x.2) (r0 : Int) (m_a0 : List (List Int)) (hd : D_laws_markRoundS fu a0 a1 = some (r0, m_a0)) : ∃ v G', ACall Tryd.prog 52 [.slice p_a0 a0.length c_a0, .int .i64 a1] H v G' ∧ (v = .int .i64 r0) ∧ St ((oseg p_a0 (ints a0.flatten)).map (·.1)) H G' [oseg p_a0 (ints m_a0.flatten)] ∧ m_a0.length = a0.length ∧ All 14 m_a0 := by
  refine ACall.bodyX (args := [.slice p_a0 a0.length c_a0, .int .i64 a1]) (N := 26) [(0, .slice p_a0 a0.length c_a0), (1, .int .i64 a1)] (fun v G' => (v = .int .i64 r0) ∧ St ((oseg p_a0 (ints a0.flatten)).map (·.1)) H G' [oseg p_a0 (ints m_a0.flatten)] ∧ m_a0.length = a0.length ∧ All 14 m_a0) Tryd.func52 rfl rfl rfl rfl ?_
  unfold D_laws_markRoundS at hd
  have S0 : St ((oseg p_a0 (ints a0.flatten)).map (·.1)) H H [oseg p_a0 (ints a0.flatten)] := (St.init (l := oseg p_a0 (ints a0.flatten)) hn ho).same (by simp)
  refine AX.seq ?_
  refine AX.region ?_
  refine AO.p rfl (p_assign rfl) ?_
  refine AO.nil ?_
  refine AX.seq ?_
  refine AX.seq ?_
  refine AX.region ?_
  refine AO.p rfl (p_assign rfl) ?_
  refine AO.nil ?_
  obtain ⟨r400, hl401, hd402⟩ := bnd_some hd
  refine AX.cutS (fun t' H' => ∃ (rs398 : List (List Int)) (x399 : Int), (rs398, x399) = r400 ∧ St ((oseg p_a0 (ints a0.flatten)).map (·.1)) H H' [oseg p_a0 (ints rs398.flatten)] ∧ rs398.length = a0.length ∧ All 14 rs398 ∧ Am.Sub [(1, .int .i64 x399)] t') ?_ ?_
  · refine AX.block ?_
    refine AX.loopF (fun s' t' H' => ∃ (rs298 : List (List Int)) (x299 : Int) (x300 : Int), (rs298, x299, x300) = s' ∧ St ((oseg p_a0 (ints a0.flatten)).map (·.1)) H H' [oseg p_a0 (ints rs298.flatten)] ∧ rs298.length = a0.length ∧ All 14 rs298 ∧ Am.Sub [(0, .slice p_a0 a0.length c_a0), (1, .int .i64 x299), (5, .int .i64 x300)] t') hl401 ?_ ?_
    · skip
      have S403 := S0.front 0 rfl
      exact ⟨a0, a1, 0, rfl, S403, rfl, h_a0, Sub.cons' rfl rfl (Sub.cons' rfl rfl (Sub.cons' rfl rfl (Sub.nil _)))⟩
    · rintro n404 _ t' G408 ⟨rs298, x299, x300, rfl, S407, lrs298, ars298, hsub409⟩ o410 ho405 hk406
      refine AX.sub hsub409 ?_
      unfold D_laws_markRoundS_s0 at ho405
      refine AX.seq ?_
      refine AX.seq ?_
      refine AX.region ?_
      refine AO.p rfl (p_move rfl) ?_
      refine AO.p rfl (p_move rfl) ?_
      refine AO.p rfl (p_len_slice rfl Tryd.underlying37) ?_
      refine AO.p rfl (p_lss rfl rfl) ?_
      refine AO.nil ?_
      refine AX.cond rfl (fun c411 => ?_) (fun c411 => ?_)
      · have hd412 := bif_t c411 ho405
        refine AX.skip ?_
        refine AX.seq ?_
        refine AX.block ?_
        refine AX.seq ?_
        refine AX.region ?_
        refine AO.p rfl (p_assign rfl) ?_
        refine AO.nil ?_
        obtain ⟨r471, hl472, hd473⟩ := bnd_some hd412
        refine AX.cutS (fun t' H' => ∃ (rs469 : List (List Int)) (x470 : Int), (rs469, x470) = r471 ∧ St ((oseg p_a0 (ints a0.flatten)).map (·.1)) H H' [oseg p_a0 (ints rs469.flatten)] ∧ rs469.length = a0.length ∧ All 14 rs469 ∧ Am.Sub [(0, .slice p_a0 a0.length c_a0), (1, .int .i64 x470), (5, .int .i64 x300)] t') ?_ ?_
        · refine AX.block ?_
          refine AX.loopF (fun s' t' H' => ∃ (rs449 : List (List Int)) (x450 : Int) (x451 : Int), (rs449, x450, x451) = s' ∧ St ((oseg p_a0 (ints a0.flatten)).map (·.1)) H H' [oseg p_a0 (ints rs449.flatten)] ∧ rs449.length = a0.length ∧ All 14 rs449 ∧ Am.Sub [(0, .slice p_a0 a0.length c_a0), (1, .int .i64 x450), (5, .int .i64 x300), (6, .int .i64 x451)] t') hl472 ?_ ?_
          · skip
            have S474 := S407.front 0 rfl
            exact ⟨rs298, x299, 0, rfl, S474, lrs298, ars298, Sub.cons' rfl rfl (Sub.cons' rfl rfl (Sub.cons' rfl rfl (Sub.cons' rfl rfl (Sub.nil _))))⟩
          · rintro n475 _ t' G479 ⟨rs449, x450, x451, rfl, S478, lrs449, ars449, hsub480⟩ o481 ho476 hk477
            refine AX.sub hsub480 ?_
            unfold D_laws_markRoundS_s1 at ho476
            refine AX.seq ?_
            refine AX.seq ?_
            refine AX.region ?_
            refine AO.p rfl (p_move rfl) ?_
            refine AO.p rfl (p_lss rfl rfl) ?_
            refine AO.nil ?_
            refine AX.cond rfl (fun c482 => ?_) (fun c482 => ?_)
            · have hd483 := bif_t c482 ho476
              refine AX.skip ?_
              refine AX.seq ?_
              refine AX.block ?_
              refine AX.seq ?_
              refine AX.region ?_
              refine AO.p rfl (p_move rfl) ?_
              refine AO.p rfl (p_move rfl) ?_
              refine AO.p rfl (p_move rfl) ?_
              refine AO.p rfl (p_move rfl) ?_
              obtain ⟨k484, hd485⟩ := chk_some hd483
              refine AO.p rfl (s_indexV (q := x300.toNat * 14) Tryd.underlying37 Tryd.sizeOf76 rfl (s_a0.at (inR_pos k484)) rfl k484 (Nat.zero_add _)) ?_
              obtain ⟨k486, hd487⟩ := chk_some hd485
              refine AO.p rfl (s_indexAr (q := x300.toNat * 14 + x451.toNat) Tryd.underlying76 Tryd.sizeOf2 rfl rfl k486 (o1 _ _)) ?_
              obtain ⟨G488, hHG488, S489⟩ := S478.oset (k := 0) (p := p_a0) rfl (s_a0.at (inR_pos k484)) (ints (rs449.set x300.toNat ((rw_ rs449 x300.toNat).set x451.toNat x450)).flatten)
              refine AO.s (s_store Tryd.sizeOf2 rfl rfl rfl (S478.oat (k := 0) rfl (s_a0.at (inR_pos k484))) (flat_lt ars449 (lt_len lrs449 (inR_lt k484)) (inR_lt k486)) ((congrArg (fun l => List.set _ _ (AObj.row false l)) (flat_set ars449 (lt_len lrs449 (inR_lt k484)) (inR_lt k486))).trans hHG488)) ?_
              refine AO.nil ?_
              refine AX.region ?_
              refine AO.p rfl (p_move rfl) ?_
              obtain ⟨k490, hd491⟩ := chk_some hd487
              refine AO.p rfl (p_addE rfl rfl k490) ?_
              refine AO.p rfl (p_assign rfl) ?_
              refine AO.nil ?_
              refine AX.region ?_
              refine AO.p rfl (p_move rfl) ?_
              obtain ⟨k492, hd493⟩ := chk_some hd491
              refine AO.p rfl (p_addE rfl rfl k492) ?_
              refine AO.p rfl (p_assign rfl) ?_
              refine AO.nil ?_
              obtain rfl := some_inj hd493
              have S495 := S489.front 0 rfl
              exact ⟨((rs449.set x300.toNat ((rw_ rs449 x300.toNat).set x451.toNat x450)), x450 + 1, x451 + 1), hk477, (rs449.set x300.toNat ((rw_ rs449 x300.toNat).set x451.toNat x450)), (x450 + 1), (x451 + 1), rfl, S495, (len_set lrs449), (All.set ars449 (len_set (rw_len ars449 (lt_len lrs449 (inR_lt k484)))) _), Sub.cons' rfl rfl (Sub.cons' rfl rfl (Sub.cons' rfl rfl (Sub.cons' rfl rfl (Sub.nil _))))⟩
            · have hd496 := bif_f c482 ho476
              refine AX.exit ?_
              obtain rfl := some_inj hd496
              have S497 := S478.front 0 rfl
              exact ⟨rs449, x450, hk477, S497, lrs449, ars449, Sub.cons' rfl rfl (Sub.cons' rfl rfl (Sub.cons' rfl rfl (Sub.nil _)))⟩
        · rintro t' G499 ⟨rs469, x470, rfl, S498, lrs469, ars469, hsub500⟩
          refine ⟨_, hsub500, ?_⟩
          refine AX.region ?_
          refine AO.p rfl (p_move rfl) ?_
          obtain ⟨k501, hd502⟩ := chk_some hd473
          refine AO.p rfl (p_addE rfl rfl k501) ?_
          refine AO.p rfl (p_assign rfl) ?_
          refine AO.nil ?_
          obtain rfl := some_inj hd502
          have S504 := S498.front 0 rfl
          exact ⟨(rs469, x470, x300 + 1), hk406, rs469, x470, (x300 + 1), rfl, S504, lrs469, ars469, Sub.cons' rfl rfl (Sub.cons' rfl rfl (Sub.cons' rfl rfl (Sub.nil _)))⟩
      · have hd505 := bif_f c411 ho405
        refine AX.exit ?_
        obtain rfl := some_inj hd505
        have S506 := S407.front 0 rfl
        exact ⟨rs298, x299, hk406, S506, lrs298, ars298, Sub.cons' rfl rfl (Sub.nil _)⟩
  · rintro t' G508 ⟨rs398, x399, rfl, S507, lrs398, ars398, hsub509⟩
    refine ⟨_, hsub509, ?_⟩
    refine AX.seq ?_
    refine AX.region ?_
    refine AO.p rfl (p_move rfl) ?_
    refine AO.p rfl (p_assign rfl) ?_
    refine AO.nil ?_
    refine AX.ret ?_
    obtain ⟨rfl, rfl⟩ := Prod.mk.inj (some_inj hd402)
    have S511 := S507.front 0 rfl
    exact ⟨.inr rfl, _, res1 rfl (rv_tmp rfl), rfl, S511, lrs398, ars398⟩

set_option maxHeartbeats 4000000 in
theorem W_laws_markSchedule (fu : Nat) (H : AHeap) (a0_0 : Int) (p_a0_1 : Option Addr) (c_a0_1 : Nat) (a0_1 : List (List Int)) (h_a0_1 : All 14 a0_1) (s_a0_1 : Sb p_a0_1 a0_1.length c_a0_1 14) (a1 : Int) (hn : ((oseg p_a0_1 (ints a0_1.flatten)).map (·.1)).Nodup) (ho : ∀ x ∈ oseg p_a0_1 (ints a0_1.flatten), x.1 < H.length ∧ hget H x.1 = x.2) (r0 : Int) (m_a0_1 : List (List Int)) (hd : D_laws_markSchedule fu a0_0 a0_1 a1 = some (r0, m_a0_1)) : ∃ v G', ACall Tryd.prog 23 [.agg [.int .i64 a0_0, .slice p_a0_1 a0_1.length c_a0_1].toArray, .int .i64 a1] H v G' ∧ (v = .int .i64 r0) ∧ St ((oseg p_a0_1 (ints a0_1.flatten)).map (·.1)) H G' [oseg p_a0_1 (ints m_a0_1.flatten)] ∧ m_a0_1.length = a0_1.length ∧ All 14 m_a0_1 := by
  refine ACall.bodyX (args := [.agg [.int .i64 a0_0, .slice p_a0_1 a0_1.length c_a0_1].toArray, .int .i64 a1]) (N := 10) [(0, .agg [.int .i64 a0_0, .slice p_a0_1 a0_1.length c_a0_1].toArray), (1, .int .i64 a1)] (fun v G' => (v = .int .i64 r0) ∧ St ((oseg p_a0_1 (ints a0_1.flatten)).map (·.1)) H G' [oseg p_a0_1 (ints m_a0_1.flatten)] ∧ m_a0_1.length = a0_1.length ∧ All 14 m_a0_1) Tryd.func23 rfl rfl rfl rfl ?_
  unfold D_laws_markSchedule at hd
  have S0 : St ((oseg p_a0_1 (ints a0_1.flatten)).map (·.1)) H H [oseg p_a0_1 (ints a0_1.flatten)] := (St.init (l := oseg p_a0_1 (ints a0_1.flatten)) hn ho).same (by simp)
  refine AX.seq ?_
  refine AX.region ?_
  obtain ⟨G100, i101, hii101, hHG100, S102⟩ := S0.new (AObj.row false ([.int .i64 a0_0, .slice p_a0_1 a0_1.length c_a0_1]))
  refine AO.c rfl (s_box (i := i101) (cs := [.int .i64 a0_0, .slice p_a0_1 a0_1.length c_a0_1]) rfl hii101 rfl hHG100) ?_
  refine AO.p rfl (p_assign rfl) ?_
  refine AO.nil ?_
  refine AX.seq ?_
  refine AX.region ?_
  refine AO.p rfl (s_fieldAddr Tryd.underlying39 rfl Tryd.sizeOf37 (by decide) rfl rfl) ?_
  refine AO.c rfl (s_load Tryd.isAgg37 rfl (row_cell (S102.get (k := 0) rfl) rfl)) ?_
  refine AO.p rfl (p_move rfl) ?_
  have S104 := S102.front 1 rfl
  obtain ⟨⟨x105, rs106⟩, h107, hd108⟩ := bnd_some hd
  obtain ⟨_, G112, hc111, rfl, S113, l109, a110⟩ := W_laws_markRoundS fu G100 p_a0_1 c_a0_1 a0_1 h_a0_1 s_a0_1 a1 (S104.onodup (k := 0) rfl) (S104.omem (k := 0) rfl) x105 rs106 h107
  have S114 := St.callM (A := [oseg p_a0_1 (ints a0_1.flatten)]) S104 S113 (by simp)
  refine AO.c rfl (o_call (vs := [.slice p_a0_1 a0_1.length c_a0_1, .int .i64 a1]) rfl Tryd.call52 hc111) ?_
  refine AO.p rfl (p_assign rfl) ?_
  refine AO.nil ?_
  refine AX.seq ?_
  refine AX.region ?_
  refine AO.p rfl (p_move rfl) ?_
  refine AO.p rfl (p_assign rfl) ?_
  refine AO.nil ?_
  refine AX.ret ?_
  obtain ⟨rfl, rfl⟩ := Prod.mk.inj (some_inj hd108)
  have S116 := S114.front 0 rfl
  have S117 := S116.keep 1
  exact ⟨.inr rfl, _, res1 rfl (rv_tmp rfl), rfl, S117, l109, a110⟩

set_option maxHeartbeats 4000000 in
theorem W_laws_heldRoundS (fu : Nat) (H : AHeap) (p_a0 : Option Addr) (c_a0 : Nat) (a0 : List (List Int)) (a_a0 : All 14 a0) (v_a0 : Vw H p_a0 a0.length c_a0 (ints a0.flatten)) (a1 : Int) (r0 : Int) (hd : D_laws_heldRoundS fu a0 a1 = some r0) : ACall Tryd.prog 53 [.slice p_a0 a0.length c_a0, .int .i64 a1] H (.int .i64 r0) H := by
  refine ACall.bodyP (N := 28) [(0, .slice p_a0 a0.length c_a0), (1, .int .i64 a1)] Tryd.func53 rfl rfl rfl rfl ?_
  unfold D_laws_heldRoundS at hd
  have S0 : St [] H H [] := St.nil H
  refine AX.seq ?_
  refine AX.region ?_
  refine AO.p rfl (p_assign rfl) ?_
  refine AO.nil ?_
  refine AX.seq ?_
  refine AX.seq ?_
  refine AX.region ?_
  refine AO.p rfl (p_assign rfl) ?_
  refine AO.nil ?_
  obtain ⟨r381, hl382, hd383⟩ := bnd_some hd
  refine AX.cutS (fun t' H' => ∃ (x380 : Int), .inl x380 = r381 ∧ St [] H H' [] ∧ Am.Sub [(1, .int .i64 x380)] t') ?_ ?_
  · refine AX.block ?_
    refine AX.loopF (fun s' t' H' => ∃ (x286 : Int) (x287 : Int), (x286, x287) = s' ∧ St [] H H' [] ∧ Am.Sub [(0, .slice p_a0 a0.length c_a0), (1, .int .i64 x286), (5, .int .i64 x287)] t') hl382 ?_ ?_
    · skip
      exact ⟨a1, 0, rfl, S0, Sub.cons' rfl rfl (Sub.cons' rfl rfl (Sub.cons' rfl rfl (Sub.nil _)))⟩
    · rintro n384 _ t' G388 ⟨x286, x287, rfl, S387, hsub389⟩ o390 ho385 hk386
      refine AX.sub hsub389 ?_
      unfold D_laws_heldRoundS_s0 at ho385
      refine AX.seq ?_
      refine AX.seq ?_
      refine AX.region ?_
      refine AO.p rfl (p_move rfl) ?_
      refine AO.p rfl (p_move rfl) ?_
      refine AO.p rfl (p_len_slice rfl Tryd.underlying37) ?_
      refine AO.p rfl (p_lss rfl rfl) ?_
      refine AO.nil ?_
      refine AX.cond rfl (fun c391 => ?_) (fun c391 => ?_)
      · have hd392 := bif_t c391 ho385
        refine AX.skip ?_
        refine AX.seq ?_
        refine AX.block ?_
        refine AX.seq ?_
        refine AX.region ?_
        refine AO.p rfl (p_assign rfl) ?_
        refine AO.nil ?_
        obtain ⟨r450, hl451, hd452⟩ := bnd_some hd392
        refine AX.cutS (fun t' H' => ∃ (x449 : Int), .inl x449 = r450 ∧ St [] H H' [] ∧ Am.Sub [(0, .slice p_a0 a0.length c_a0), (1, .int .i64 x449), (5, .int .i64 x287)] t') ?_ ?_
        · refine AX.block ?_
          refine AX.loopF (fun s' t' H' => ∃ (x429 : Int) (x430 : Int), (x429, x430) = s' ∧ St [] H H' [] ∧ Am.Sub [(0, .slice p_a0 a0.length c_a0), (1, .int .i64 x429), (5, .int .i64 x287), (6, .int .i64 x430)] t') hl451 ?_ ?_
          · skip
            exact ⟨x286, 0, rfl, S387, Sub.cons' rfl rfl (Sub.cons' rfl rfl (Sub.cons' rfl rfl (Sub.cons' rfl rfl (Sub.nil _))))⟩
          · rintro n453 _ t' G457 ⟨x429, x430, rfl, S456, hsub458⟩ o459 ho454 hk455
            refine AX.sub hsub458 ?_
            unfold D_laws_heldRoundS_s1 at ho454
            refine AX.seq ?_
            refine AX.seq ?_
            refine AX.region ?_
            refine AO.p rfl (p_move rfl) ?_
            refine AO.p rfl (p_lss rfl rfl) ?_
            refine AO.nil ?_
            refine AX.cond rfl (fun c460 => ?_) (fun c460 => ?_)
            · have hd461 := bif_t c460 ho454
              refine AX.skip ?_
              refine AX.seq ?_
              refine AX.block ?_
              refine AX.seq ?_
              refine AX.seq ?_
              refine AX.region ?_
              refine AO.p rfl (p_move rfl) ?_
              refine AO.p rfl (p_move rfl) ?_
              refine AO.p rfl (p_move rfl) ?_
              obtain ⟨k462, hd463⟩ := chk_some hd461
              refine AO.p rfl (s_indexV (q := off p_a0 + x287.toNat * 14) Tryd.underlying37 Tryd.sizeOf76 rfl ((S456.view v_a0).rowne a_a0 (by decide) (lt_len rfl (inR_lt k462))) rfl k462 rfl) ?_
              obtain ⟨k464, hd465⟩ := chk_some hd463
              refine AO.p rfl (s_indexAr (q := off p_a0 + x287.toNat * 14 + x430.toNat) Tryd.underlying76 Tryd.sizeOf2 rfl rfl k464 (o1 _ _)) ?_
              refine AO.c rfl (s_load Tryd.isAgg2 rfl ((S456.view v_a0).row a_a0 (lt_len rfl (inR_lt k462)) _ _ (ints_get (lt_len (rw_len a_a0 (lt_len rfl (inR_lt k462))) (inR_lt k464))))) ?_
              refine AO.p rfl (p_move rfl) ?_
              refine AO.p rfl (p_neq rfl rfl) ?_
              refine AO.nil ?_
              refine AX.cond rfl (fun c466 => ?_) (fun c466 => ?_)
              · have hd467 := bif_t c466 hd465
                refine AX.seq ?_
                refine AX.region ?_
                refine AO.p rfl (p_assign rfl) ?_
                refine AO.nil ?_
                refine AX.ret ?_
                obtain rfl := some_inj hd467
                have z468 : _ = r450 := hk455
                subst z468
                obtain rfl := some_inj hd452
                have z469 : _ = r381 := hk386
                subst z469
                obtain rfl := some_inj hd383
                exact ⟨.inr rfl, _, res1 rfl (rv_tmp rfl), rfl, (flatB_ok rfl), S456.hold⟩
              · have hd470 := bif_f c466 hd465
                refine AX.skip ?_
                refine AX.region ?_
                refine AO.p rfl (p_move rfl) ?_
                obtain ⟨k471, hd472⟩ := chk_some hd470
                refine AO.p rfl (p_addE rfl rfl k471) ?_
                refine AO.p rfl (p_assign rfl) ?_
                refine AO.nil ?_
                refine AX.region ?_
                refine AO.p rfl (p_move rfl) ?_
                obtain ⟨k473, hd474⟩ := chk_some hd472
                refine AO.p rfl (p_addE rfl rfl k473) ?_
                refine AO.p rfl (p_assign rfl) ?_
                refine AO.nil ?_
                obtain rfl := some_inj hd474
                exact ⟨(x429 + 1, x430 + 1), hk455, (x429 + 1), (x430 + 1), rfl, S456, Sub.cons' rfl rfl (Sub.cons' rfl rfl (Sub.cons' rfl rfl (Sub.cons' rfl rfl (Sub.nil _))))⟩
            · have hd476 := bif_f c460 ho454
              refine AX.exit ?_
              obtain rfl := some_inj hd476
              exact ⟨x429, hk455, S456, Sub.cons' rfl rfl (Sub.cons' rfl rfl (Sub.cons' rfl rfl (Sub.nil _)))⟩
        · rintro t' G478 ⟨x449, rfl, S477, hsub479⟩
          refine ⟨_, hsub479, ?_⟩
          refine AX.region ?_
          refine AO.p rfl (p_move rfl) ?_
          obtain ⟨k480, hd481⟩ := chk_some hd452
          refine AO.p rfl (p_addE rfl rfl k480) ?_
          refine AO.p rfl (p_assign rfl) ?_
          refine AO.nil ?_
          obtain rfl := some_inj hd481
          exact ⟨(x449, x287 + 1), hk386, x449, (x287 + 1), rfl, S477, Sub.cons' rfl rfl (Sub.cons' rfl rfl (Sub.cons' rfl rfl (Sub.nil _)))⟩
      · have hd484 := bif_f c391 ho385
        refine AX.exit ?_
        obtain rfl := some_inj hd484
        exact ⟨x286, hk386, S387, Sub.cons' rfl rfl (Sub.nil _)⟩
  · rintro t' G486 ⟨x380, rfl, S485, hsub487⟩
    refine ⟨_, hsub487, ?_⟩
    refine AX.seq ?_
    refine AX.region ?_
    refine AO.p rfl (p_move rfl) ?_
    refine AO.p rfl (p_assign rfl) ?_
    refine AO.nil ?_
    refine AX.ret ?_
    obtain rfl := some_inj hd383
    exact ⟨.inr rfl, _, res1 rfl (rv_tmp rfl), rfl, (flatB_ok rfl), S485.hold⟩

set_option maxHeartbeats 4000000 in
theorem W_laws_heldSchedule (fu : Nat) (H : AHeap) (a0_0 : Int) (p_a0_1 : Option Addr) (c_a0_1 : Nat) (a0_1 : List (List Int)) (a_a0_1 : All 14 a0_1) (v_a0_1 : Vw H p_a0_1 a0_1.length c_a0_1 (ints a0_1.flatten)) (a1 : Int) (r0 : Int) (hd : D_laws_heldSchedule fu a0_0 a0_1 a1 = some r0) : ACall Tryd.prog 24 [.agg [.int .i64 a0_0, .slice p_a0_1 a0_1.length c_a0_1].toArray, .int .i64 a1] H (.int .i64 r0) H := by
  refine ACall.bodyP (N := 12) [(0, .agg [.int .i64 a0_0, .slice p_a0_1 a0_1.length c_a0_1].toArray), (1, .int .i64 a1)] Tryd.func24 rfl rfl rfl rfl ?_
  unfold D_laws_heldSchedule at hd
  have S0 : St [] H H [] := St.nil H
  refine AX.seq ?_
  refine AX.region ?_
  obtain ⟨G100, i101, hii101, hHG100, S102⟩ := S0.new (AObj.row false ([.int .i64 a0_0, .slice p_a0_1 a0_1.length c_a0_1]))
  refine AO.c rfl (s_box (i := i101) (cs := [.int .i64 a0_0, .slice p_a0_1 a0_1.length c_a0_1]) rfl hii101 rfl hHG100) ?_
  refine AO.p rfl (p_assign rfl) ?_
  refine AO.nil ?_
  refine AX.seq ?_
  refine AX.region ?_
  refine AO.p rfl (s_fieldAddr Tryd.underlying39 rfl Tryd.sizeOf37 (by decide) rfl rfl) ?_
  refine AO.c rfl (s_load Tryd.isAgg37 rfl (row_cell (S102.get (k := 0) rfl) rfl)) ?_
  refine AO.p rfl (p_move rfl) ?_
  obtain ⟨x104, h105, hd106⟩ := bnd_some hd
  refine AO.c rfl (o_call (vs := [.slice p_a0_1 a0_1.length c_a0_1, .int .i64 a1]) rfl Tryd.call53 (W_laws_heldRoundS fu G100 p_a0_1 c_a0_1 a0_1 a_a0_1 (S102.view v_a0_1) a1 x104 h105)) ?_
  refine AO.p rfl (p_assign rfl) ?_
  refine AO.nil ?_
  refine AX.seq ?_
  refine AX.seq ?_
  refine AX.region ?_
  refine AO.p rfl (p_move rfl) ?_
  refine AO.p rfl (p_lss rfl rfl) ?_
  refine AO.nil ?_
  refine AX.cond rfl (fun c108 => ?_) (fun c108 => ?_)
  · have hd109 := bif_t c108 hd106
    refine AX.seq ?_
    refine AX.region ?_
    refine AO.p rfl (p_assign rfl) ?_
    refine AO.nil ?_
    refine AX.ret ?_
    obtain rfl := some_inj hd109
    exact ⟨.inr rfl, _, res1 rfl (rv_tmp rfl), rfl, (flatB_ok rfl), S102.hold⟩
  · have hd110 := bif_f c108 hd106
    refine AX.skip ?_
    refine AX.seq ?_
    refine AX.region ?_
    refine AO.p rfl (p_move rfl) ?_
    refine AO.p rfl (p_assign rfl) ?_
    refine AO.nil ?_
    refine AX.ret ?_
    obtain rfl := some_inj hd110
    exact ⟨.inr rfl, _, res1 rfl (rv_tmp rfl), rfl, (flatB_ok rfl), S102.hold⟩

end Go.Proofs.YtfiilgnebmidbaaDoor
