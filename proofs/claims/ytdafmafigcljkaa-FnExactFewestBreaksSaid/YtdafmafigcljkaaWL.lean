/-
  The program computes that, printed by a program. No condition.
-/
import Derived.Test.YtdafmafigcljkaaDL
import Derived.Test.YtdafmafigcljkaaWA
import Derived.Test.YtdafmafigcljkaaProg
import Derived.KernelRfl
namespace Go.Proofs.Ytdafmafigcljkaa
open Go Go.RowKit Am
set_option linter.unusedVariables false
set_option linter.unusedSimpArgs false
set_option maxRecDepth 20000
set_option maxHeartbeats 4000000 in
theorem W_laws_toRound (fu : Nat) (H : AHeap) (a0 : List Int) (h_a0 : a0.length = 14) (r0 : List Int) (hd : D_laws_toRound fu a0 = some r0) : ACall Try.prog 119 [.agg (ints a0).toArray] H (.agg (ints r0).toArray) H ∧ r0.length = 14 := by
  refine ACall.bodyPF (N := 15) [(0, .agg (ints a0).toArray)] Try.func119 rfl rfl rfl rfl ?_
  unfold D_laws_toRound at hd
  have S0 : St [] H H [] := St.nil H
  refine AX.seq ?_
  refine AX.region ?_
  obtain ⟨G100, i101, hii101, hHG100, S102⟩ := S0.new (AObj.row false (ints a0))
  refine AO.c rfl (s_box (i := i101) (cs := ints a0) rfl hii101 rfl hHG100) ?_
  obtain ⟨G104, i105, hii105, hHG104, S106⟩ := S102.new (AObj.row false (ints (List.replicate 14 0)))
  refine AO.c rfl (s_alloc (i := i105) (cs := ints (List.replicate 14 0)) Try.zeroValue54 rfl rfl hii105 hHG104) ?_
  refine AO.nil ?_
  refine AX.seq ?_
  refine AX.region ?_
  obtain ⟨G108, i109, hii109, hHG108, S110⟩ := S106.new (AObj.row false (ints (List.replicate 14 0)))
  refine AO.c rfl (s_alloc (i := i109) (cs := ints (List.replicate 14 0)) Try.zeroValue54 rfl rfl hii109 hHG108) ?_
  refine AO.nil ?_
  refine AX.seq ?_
  refine AX.seq ?_
  refine AX.region ?_
  refine AO.p rfl (p_assign rfl) ?_
  refine AO.nil ?_
  obtain ⟨r166, hl167, hd168⟩ := bnd_some hd
  refine AX.cutS (fun t' H' => ∃ (xs165 : List Int), xs165 = r166 ∧ St [] H H' [[(i105, AObj.row false (ints (List.replicate 14 0)))], [(i109, AObj.row false (ints xs165))]] ∧ xs165.length = 14 ∧ Am.Sub [(2, .pointer (some ⟨i105, 0, none⟩)), (3, .pointer (some ⟨i109, 0, none⟩))] t') ?_ ?_
  · refine AX.block ?_
    refine AX.loopF (fun s' t' H' => ∃ (xs147 : List Int) (x148 : Int), (xs147, x148) = s' ∧ St [] H H' [[(i101, AObj.row false (ints a0))], [(i105, AObj.row false (ints (List.replicate 14 0)))], [(i109, AObj.row false (ints xs147))]] ∧ xs147.length = 14 ∧ Am.Sub [(1, .pointer (some ⟨i101, 0, none⟩)), (2, .pointer (some ⟨i105, 0, none⟩)), (3, .pointer (some ⟨i109, 0, none⟩)), (4, .int .i64 x148)] t') hl167 ?_ ?_
    · skip
      have S169 := S110.front 0 rfl
      have S170 := S169.front 1 rfl
      have S171 := S170.front 2 rfl
      exact ⟨(List.replicate 14 0), 0, rfl, S171, len_rep, Sub.cons' rfl rfl (Sub.cons' rfl rfl (Sub.cons' rfl rfl (Sub.cons' rfl rfl (Sub.nil _))))⟩
    · rintro n172 _ t' G176 ⟨xs147, x148, rfl, S175, lxs147, hsub177⟩ o178 ho173 hk174
      refine AX.sub hsub177 ?_
      unfold D_laws_toRound_s0 at ho173
      refine AX.seq ?_
      refine AX.seq ?_
      refine AX.region ?_
      refine AO.p rfl (p_move rfl) ?_
      refine AO.p rfl (p_lss rfl rfl) ?_
      refine AO.nil ?_
      refine AX.cond rfl (fun c179 => ?_) (fun c179 => ?_)
      · have hd180 := bif_t c179 ho173
        refine AX.skip ?_
        refine AX.seq ?_
        refine AX.block ?_
        refine AX.region ?_
        refine AO.p rfl (p_move rfl) ?_
        refine AO.p rfl (p_move rfl) ?_
        obtain ⟨k181, hd182⟩ := chk_some hd180
        refine AO.p rfl (s_indexAr (q := x148.toNat) Try.underlying53 Try.sizeOf2 rfl rfl k181 (z1 _)) ?_
        refine AO.c rfl (s_load Try.isAgg2 rfl (row_cell (S175.get (k := 0) rfl) (ints_get (lt_len h_a0 (inR_lt k181))))) ?_
        obtain ⟨k183, hd184⟩ := chk_some hd182
        refine AO.p rfl (s_indexAr (q := x148.toNat) Try.underlying54 Try.sizeOf2 rfl rfl k183 (z1 _)) ?_
        obtain ⟨G185, hHG185, S186⟩ := S175.set (k := 2) (i := i109) rfl (AObj.row false (ints (xs147.set x148.toNat (rd a0 x148.toNat))))
        refine AO.s (s_store Try.sizeOf2 rfl rfl rfl (S175.get (k := 2) rfl) (lt_len (ints_len lxs147) (inR_lt k183)) ((congrArg (fun l => List.set _ _ (AObj.row false l)) (ints_set _ _ _)).trans hHG185)) ?_
        refine AO.nil ?_
        refine AX.region ?_
        refine AO.p rfl (p_move rfl) ?_
        obtain ⟨k187, hd188⟩ := chk_some hd184
        refine AO.p rfl (p_addE rfl rfl k187) ?_
        refine AO.p rfl (p_assign rfl) ?_
        refine AO.nil ?_
        obtain rfl := some_inj hd188
        have S190 := S186.front 2 rfl
        have S191 := S190.front 2 rfl
        have S192 := S191.front 2 rfl
        exact ⟨((xs147.set x148.toNat (rd a0 x148.toNat)), x148 + 1), hk174, (xs147.set x148.toNat (rd a0 x148.toNat)), (x148 + 1), rfl, S192, (len_set lxs147), Sub.cons' rfl rfl (Sub.cons' rfl rfl (Sub.cons' rfl rfl (Sub.cons' rfl rfl (Sub.nil _))))⟩
      · have hd193 := bif_f c179 ho173
        refine AX.exit ?_
        obtain rfl := some_inj hd193
        have S194 := S175.front 2 rfl
        have S195 := S194.front 2 rfl
        have S196 := S195.keep 2
        exact ⟨xs147, hk174, S196, lxs147, Sub.cons' rfl rfl (Sub.cons' rfl rfl (Sub.nil _))⟩
  · rintro t' G198 ⟨xs165, rfl, S197, lxs165, hsub199⟩
    refine ⟨_, hsub199, ?_⟩
    refine AX.seq ?_
    refine AX.region ?_
    refine AO.c rfl (s_loadN (vs := ints xs165) Try.isAgg54 Try.sizeOf54 rfl (ints_len lxs165) (row_cells (S197.get (k := 1) rfl))) ?_
    obtain ⟨G200, hHG200, S201⟩ := S197.set (k := 0) (i := i105) rfl (AObj.row false (ints xs165))
    refine AO.s (s_storeAll (vs := ints xs165) Try.sizeOf54 rfl rfl ints_one (S197.get (k := 0) rfl) (ints_len lxs165) (ints_len len_rep) hHG200) ?_
    refine AO.nil ?_
    refine AX.ret ?_
    obtain rfl := some_inj hd168
    exact ⟨.inr rfl, _, res1 rfl (rv_cell (vs := ints xs165) rfl Try.isAgg54 Try.sizeOf54 (ints_len lxs165) (row_cells (S201.get (k := 0) rfl))), rfl, (flat_arr _), S201.hold, lxs165⟩

set_option maxHeartbeats 4000000 in
theorem W_laws_toRoundS (fu : Nat) (H : AHeap) (p_a0 : Option Addr) (c_a0 : Nat) (a0 : List (List Int)) (a_a0 : All 14 a0) (v_a0 : Vw H p_a0 a0.length c_a0 (ints a0.flatten)) (r0 : List (List Int)) (hd : D_laws_toRoundS fu a0 = some r0) : ∃ v G', ACall Try.prog 67 [.slice p_a0 a0.length c_a0] H v G' ∧ ∃ (p_r0 : Option Addr) (c_r0 : Nat), (v = .slice p_r0 r0.length c_r0) ∧ St [] H G' [oseg p_r0 (ints r0.flatten)] ∧ Sb p_r0 r0.length c_r0 14 ∧ All 14 r0 := by
  refine ACall.bodyX (args := [.slice p_a0 a0.length c_a0]) (N := 23) [(0, .slice p_a0 a0.length c_a0)] (fun v G' => ∃ (p_r0 : Option Addr) (c_r0 : Nat), (v = .slice p_r0 r0.length c_r0) ∧ St [] H G' [oseg p_r0 (ints r0.flatten)] ∧ Sb p_r0 r0.length c_r0 14 ∧ All 14 r0) Try.func67 rfl rfl rfl rfl ?_
  unfold D_laws_toRoundS at hd
  have S0 : St [] H H [] := St.nil H
  refine AX.seq ?_
  refine AX.region ?_
  refine AO.p rfl (p_assign rfl) ?_
  refine AO.nil ?_
  refine AX.seq ?_
  refine AX.region ?_
  refine AO.p rfl (p_move rfl) ?_
  refine AO.p rfl (p_len_slice rfl Try.underlying30) ?_
  obtain ⟨k100, hd101⟩ := chk_some hd
  obtain ⟨G102, i103, hii103, hHG102, S104⟩ := S0.new (AObj.row false (ints (List.replicate ((a0.length : Nat) : Int).toNat (List.replicate 14 0)).flatten))
  refine AO.c rfl (s_makeRowsE (r := List.replicate 14 0) (i := i103) (by_ := 112) Try.underlying35 Try.typeInfo54 Try.sizeOf54 Try.zeroValue54 rfl rfl rfl rfl rfl rfl k100 (by decide) hii103 hHG102) ?_
  refine AO.p rfl (p_assign rfl) ?_
  refine AO.nil ?_
  refine AX.seq ?_
  refine AX.seq ?_
  refine AX.region ?_
  refine AO.p rfl (p_assign rfl) ?_
  refine AO.nil ?_
  obtain ⟨r175, hl176, hd177⟩ := bnd_some hd101
  refine AX.cutS (fun t' H' => ∃ (rs174 : List (List Int)), rs174 = r175 ∧ St [] H H' [[(i103, AObj.row false (ints rs174.flatten))]] ∧ rs174.length = ((a0.length : Nat) : Int).toNat ∧ All 14 rs174 ∧ Am.Sub [(3, .slice (some (Addr.mk i103 0 none)) (((a0.length : Nat) : Int).toNat) (((a0.length : Nat) : Int).toNat))] t') ?_ ?_
  · refine AX.block ?_
    refine AX.loopF (fun s' t' H' => ∃ (rs151 : List (List Int)) (x152 : Int), (rs151, x152) = s' ∧ St [] H H' [[(i103, AObj.row false (ints rs151.flatten))]] ∧ rs151.length = ((a0.length : Nat) : Int).toNat ∧ All 14 rs151 ∧ Am.Sub [(0, .slice p_a0 a0.length c_a0), (3, .slice (some (Addr.mk i103 0 none)) (((a0.length : Nat) : Int).toNat) (((a0.length : Nat) : Int).toNat)), (4, .int .i64 x152)] t') hl176 ?_ ?_
    · skip
      have S178 := S104.front 0 rfl
      exact ⟨(List.replicate ((a0.length : Nat) : Int).toNat (List.replicate 14 0)), 0, rfl, S178, len_rep, all_rep, Sub.cons' rfl rfl (Sub.cons' rfl rfl (Sub.cons' rfl rfl (Sub.nil _)))⟩
    · rintro n179 _ t' G183 ⟨rs151, x152, rfl, S182, lrs151, ars151, hsub184⟩ o185 ho180 hk181
      refine AX.sub hsub184 ?_
      unfold D_laws_toRoundS_s0 at ho180
      refine AX.seq ?_
      refine AX.seq ?_
      refine AX.region ?_
      refine AO.p rfl (p_move rfl) ?_
      refine AO.p rfl (p_move rfl) ?_
      refine AO.p rfl (p_len_slice rfl Try.underlying30) ?_
      refine AO.p rfl (p_lss rfl rfl) ?_
      refine AO.nil ?_
      refine AX.cond rfl (fun c186 => ?_) (fun c186 => ?_)
      · have hd187 := bif_t c186 ho180
        refine AX.skip ?_
        refine AX.seq ?_
        refine AX.block ?_
        refine AX.region ?_
        refine AO.p rfl (p_move rfl) ?_
        refine AO.p rfl (p_move rfl) ?_
        refine AO.p rfl (p_move rfl) ?_
        refine AO.p rfl (p_move rfl) ?_
        obtain ⟨k188, hd189⟩ := chk_some hd187
        refine AO.p rfl (s_indexV (q := off p_a0 + x152.toNat * 14) Try.underlying30 Try.sizeOf53 rfl ((S182.view v_a0).rowne a_a0 (by decide) (lt_len rfl (inR_lt k188))) rfl k188 rfl) ?_
        refine AO.c rfl (s_loadN (vs := ints (rw_ a0 x152.toNat)) Try.isAgg53 Try.sizeOf53 rfl (ints_len (rw_len a_a0 (lt_len rfl (inR_lt k188)))) ((S182.view v_a0).row a_a0 (lt_len rfl (inR_lt k188)))) ?_
        obtain ⟨xs190, h191, hd192⟩ := bnd_some hd189
        obtain ⟨hc194, l195⟩ := W_laws_toRound fu G183 (rw_ a0 x152.toNat) (rw_len a_a0 (lt_len rfl (inR_lt k188))) xs190 h191
        refine AO.c rfl (o_call (vs := [.agg (ints (rw_ a0 x152.toNat)).toArray]) rfl Try.call119 hc194) ?_
        obtain ⟨k196, hd197⟩ := chk_some hd192
        refine AO.p rfl (s_indexV (q := x152.toNat * 14) Try.underlying35 Try.sizeOf54 rfl rfl rfl k196 (Nat.zero_add _)) ?_
        obtain ⟨G198, hHG198, S199⟩ := S182.set (k := 0) (i := i103) rfl (AObj.row false (ints (rs151.set x152.toNat xs190).flatten))
        refine AO.s (s_storeRow (o := x152.toNat) (r := xs190) Try.sizeOf54 rfl rfl rfl (S182.get (k := 0) rfl) ars151 l195 (lt_len lrs151 (inR_lt k196)) hHG198) ?_
        refine AO.nil ?_
        refine AX.region ?_
        refine AO.p rfl (p_move rfl) ?_
        obtain ⟨k200, hd201⟩ := chk_some hd197
        refine AO.p rfl (p_addE rfl rfl k200) ?_
        refine AO.p rfl (p_assign rfl) ?_
        refine AO.nil ?_
        obtain rfl := some_inj hd201
        have S203 := S199.front 0 rfl
        exact ⟨((rs151.set x152.toNat xs190), x152 + 1), hk181, (rs151.set x152.toNat xs190), (x152 + 1), rfl, S203, (len_set lrs151), (All.set ars151 l195 _), Sub.cons' rfl rfl (Sub.cons' rfl rfl (Sub.cons' rfl rfl (Sub.nil _)))⟩
      · have hd204 := bif_f c186 ho180
        refine AX.exit ?_
        obtain rfl := some_inj hd204
        have S205 := S182.front 0 rfl
        exact ⟨rs151, hk181, S205, lrs151, ars151, Sub.cons' rfl rfl (Sub.nil _)⟩
  · rintro t' G207 ⟨rs174, rfl, S206, lrs174, ars174, hsub208⟩
    refine ⟨_, hsub208, ?_⟩
    refine AX.seq ?_
    refine AX.region ?_
    refine AO.p rfl (p_move rfl) ?_
    refine AO.p rfl (p_assign rfl) ?_
    refine AO.nil ?_
    refine AX.ret ?_
    obtain rfl := some_inj hd177
    have S209 := S206.front 0 rfl
    exact ⟨.inr rfl, _, res1 rfl (rv_tmp rfl), (some (Addr.mk i103 0 none)), (((a0.length : Nat) : Int).toNat), (by rw [show List.length rs174 = ((a0.length : Nat) : Int).toNat from lrs174]), S209, (by rw [show List.length rs174 = ((a0.length : Nat) : Int).toNat from lrs174]; exact (Sb.lit (mkcap k100))), ars174⟩

set_option maxHeartbeats 4000000 in
theorem W_laws_toSchedule (fu : Nat) (H : AHeap) (a0_0 : Int) (p_a0_1 : Option Addr) (c_a0_1 : Nat) (a0_1 : List (List Int)) (a_a0_1 : All 14 a0_1) (v_a0_1 : Vw H p_a0_1 a0_1.length c_a0_1 (ints a0_1.flatten)) (r0 : Int) (r1 : List (List Int)) (hd : D_laws_toSchedule fu a0_0 a0_1 = some (r0, r1)) : ∃ v G', ACall Try.prog 19 [.agg [.int .i64 a0_0, .slice p_a0_1 a0_1.length c_a0_1].toArray] H v G' ∧ ∃ (p_r1 : Option Addr) (c_r1 : Nat), (v = .agg [.int .i64 r0, .slice p_r1 r1.length c_r1].toArray) ∧ St [] H G' [oseg p_r1 (ints r1.flatten)] ∧ Sb p_r1 r1.length c_r1 14 ∧ All 14 r1 := by
  refine ACall.bodyX (args := [.agg [.int .i64 a0_0, .slice p_a0_1 a0_1.length c_a0_1].toArray]) (N := 12) [(0, .agg [.int .i64 a0_0, .slice p_a0_1 a0_1.length c_a0_1].toArray)] (fun v G' => ∃ (p_r1 : Option Addr) (c_r1 : Nat), (v = .agg [.int .i64 r0, .slice p_r1 r1.length c_r1].toArray) ∧ St [] H G' [oseg p_r1 (ints r1.flatten)] ∧ Sb p_r1 r1.length c_r1 14 ∧ All 14 r1) Try.func19 rfl rfl rfl rfl ?_
  unfold D_laws_toSchedule at hd
  have S0 : St [] H H [] := St.nil H
  refine AX.seq ?_
  refine AX.region ?_
  obtain ⟨G100, i101, hii101, hHG100, S102⟩ := S0.new (AObj.row false ([.int .i64 a0_0, .slice p_a0_1 a0_1.length c_a0_1]))
  refine AO.c rfl (s_box (i := i101) (cs := [.int .i64 a0_0, .slice p_a0_1 a0_1.length c_a0_1]) rfl hii101 rfl hHG100) ?_
  obtain ⟨G104, i105, hii105, hHG104, S106⟩ := S102.new (AObj.row false ([.int .i64 0, .slice none 0 0]))
  refine AO.c rfl (s_alloc (i := i105) (cs := [.int .i64 0, .slice none 0 0]) Try.zeroValue37 rfl rfl hii105 hHG104) ?_
  refine AO.nil ?_
  refine AX.seq ?_
  refine AX.region ?_
  obtain ⟨G108, i109, hii109, hHG108, S110⟩ := S106.new (AObj.row false ([.int .i64 0, .slice none 0 0]))
  refine AO.c rfl (s_alloc (i := i109) (cs := [.int .i64 0, .slice none 0 0]) Try.zeroValue37 rfl rfl hii109 hHG108) ?_
  refine AO.nil ?_
  refine AX.seq ?_
  refine AX.region ?_
  refine AO.p rfl (s_fieldAddr Try.underlying32 rfl Try.sizeOf2 (by decide) rfl rfl) ?_
  refine AO.c rfl (s_load Try.isAgg2 rfl (row_cell (S110.get (k := 2) rfl) rfl)) ?_
  refine AO.p rfl (s_fieldAddr Try.underlying37 rfl Try.sizeOf2 (by decide) rfl rfl) ?_
  obtain ⟨G112, hHG112, S113⟩ := S110.set (k := 0) (i := i109) rfl (AObj.row false ([.int .i64 a0_0, .slice none 0 0]))
  refine AO.s (s_store Try.sizeOf2 rfl rfl rfl (S110.get (k := 0) rfl) (Nat.le_of_ble_eq_true rfl) hHG112) ?_
  refine AO.nil ?_
  refine AX.seq ?_
  refine AX.region ?_
  refine AO.p rfl (s_fieldAddr Try.underlying32 rfl Try.sizeOf30 (by decide) rfl rfl) ?_
  refine AO.c rfl (s_load Try.isAgg30 rfl (row_cell (S113.get (k := 2) rfl) rfl)) ?_
  obtain ⟨rs114, h115, hd116⟩ := bnd_some hd
  obtain ⟨_, G123, hc122, p117, c118, rfl, S124, B120, a121⟩ := W_laws_toRoundS fu G112 p_a0_1 c_a0_1 a0_1 a_a0_1 (S113.view v_a0_1) rs114 h115
  have S125 := S113.call S124
  refine AO.c rfl (o_call (vs := [.slice p_a0_1 a0_1.length c_a0_1]) rfl Try.call67 hc122) ?_
  refine AO.p rfl (s_fieldAddr Try.underlying37 rfl Try.sizeOf35 (by decide) rfl rfl) ?_
  obtain ⟨G126, hHG126, S127⟩ := S125.set (k := 1) (i := i109) rfl (AObj.row false ([.int .i64 a0_0, .slice p117 rs114.length c118]))
  refine AO.s (s_store Try.sizeOf35 rfl rfl rfl (S125.get (k := 1) rfl) (Nat.le_of_ble_eq_true rfl) hHG126) ?_
  refine AO.nil ?_
  refine AX.seq ?_
  refine AX.region ?_
  refine AO.c rfl (s_loadN (vs := [.int .i64 a0_0, .slice p117 rs114.length c118]) Try.isAgg37 Try.sizeOf37 rfl rfl (row_cells (S127.get (k := 1) rfl))) ?_
  obtain ⟨G128, hHG128, S129⟩ := S127.set (k := 2) (i := i105) rfl (AObj.row false ([.int .i64 a0_0, .slice p117 rs114.length c118]))
  refine AO.s (s_storeAll (vs := [.int .i64 a0_0, .slice p117 rs114.length c118]) Try.sizeOf37 rfl rfl (ones_list rfl) (S127.get (k := 2) rfl) rfl rfl hHG128) ?_
  refine AO.nil ?_
  refine AX.ret ?_
  obtain ⟨rfl, rfl⟩ := Prod.mk.inj (some_inj hd116)
  have S131 := S129.front 0 rfl
  have S132 := S131.keep 1
  exact ⟨.inr rfl, _, res1 rfl (rv_cell (vs := [.int .i64 a0_0, .slice p117 rs114.length c118]) rfl Try.isAgg37 Try.sizeOf37 rfl (row_cells (S129.get (k := 2) rfl))), p117, c118, rfl, S132, B120, a121⟩

set_option maxHeartbeats 4000000 in
theorem W_laws_szRoundS (fu : Nat) (H : AHeap) (p_a0 : Option Addr) (c_a0 : Nat) (a0 : List (List Int)) (a_a0 : All 14 a0) (v_a0 : Vw H p_a0 a0.length c_a0 (ints a0.flatten)) (a1 : Int) (r0 : Int) (hd : D_laws_szRoundS fu a0 a1 = some r0) : ACall Try.prog 62 [.slice p_a0 a0.length c_a0, .int .i64 a1] H (.int .i64 r0) H := by
  refine ACall.bodyP (N := 12) [(0, .slice p_a0 a0.length c_a0), (1, .int .i64 a1)] Try.func62 rfl rfl rfl rfl ?_
  unfold D_laws_szRoundS at hd
  have S0 : St [] H H [] := St.nil H
  refine AX.seq ?_
  refine AX.region ?_
  refine AO.p rfl (p_assign rfl) ?_
  refine AO.nil ?_
  refine AX.seq ?_
  refine AX.region ?_
  refine AO.p rfl (p_move rfl) ?_
  refine AO.p rfl (p_move rfl) ?_
  refine AO.p rfl (p_len_slice rfl Try.underlying30) ?_
  obtain ⟨k100, hd101⟩ := chk_some hd
  refine AO.p rfl (p_subE rfl rfl k100) ?_
  refine AO.p rfl (p_assign rfl) ?_
  refine AO.nil ?_
  refine AX.seq ?_
  refine AX.seq ?_
  refine AX.region ?_
  refine AO.p rfl (p_move rfl) ?_
  refine AO.p rfl (p_lss rfl rfl) ?_
  refine AO.nil ?_
  refine AX.cond rfl (fun c102 => ?_) (fun c102 => ?_)
  · have hd103 := bif_t c102 hd101
    refine AX.seq ?_
    refine AX.region ?_
    refine AO.p rfl (p_assign rfl) ?_
    refine AO.nil ?_
    refine AX.ret ?_
    obtain rfl := some_inj hd103
    exact ⟨.inr rfl, _, res1 rfl (rv_tmp rfl), rfl, (flatB_ok rfl), S0.hold⟩
  · have hd104 := bif_f c102 hd101
    refine AX.skip ?_
    refine AX.seq ?_
    refine AX.region ?_
    refine AO.p rfl (p_move rfl) ?_
    refine AO.p rfl (p_assign rfl) ?_
    refine AO.nil ?_
    refine AX.ret ?_
    obtain rfl := some_inj hd104
    exact ⟨.inr rfl, _, res1 rfl (rv_tmp rfl), rfl, (flatB_ok rfl), S0.hold⟩

set_option maxHeartbeats 4000000 in
theorem W_laws_szSchedule (fu : Nat) (H : AHeap) (a0_0 : Int) (p_a0_1 : Option Addr) (c_a0_1 : Nat) (a0_1 : List (List Int)) (a_a0_1 : All 14 a0_1) (v_a0_1 : Vw H p_a0_1 a0_1.length c_a0_1 (ints a0_1.flatten)) (a1 : Int) (r0 : Int) (hd : D_laws_szSchedule fu a0_0 a0_1 a1 = some r0) : ACall Try.prog 17 [.agg [.int .i64 a0_0, .slice p_a0_1 a0_1.length c_a0_1].toArray, .int .i64 a1] H (.int .i64 r0) H := by
  refine ACall.bodyP (N := 12) [(0, .agg [.int .i64 a0_0, .slice p_a0_1 a0_1.length c_a0_1].toArray), (1, .int .i64 a1)] Try.func17 rfl rfl rfl rfl ?_
  unfold D_laws_szSchedule at hd
  have S0 : St [] H H [] := St.nil H
  refine AX.seq ?_
  refine AX.region ?_
  obtain ⟨G100, i101, hii101, hHG100, S102⟩ := S0.new (AObj.row false ([.int .i64 a0_0, .slice p_a0_1 a0_1.length c_a0_1]))
  refine AO.c rfl (s_box (i := i101) (cs := [.int .i64 a0_0, .slice p_a0_1 a0_1.length c_a0_1]) rfl hii101 rfl hHG100) ?_
  refine AO.p rfl (p_assign rfl) ?_
  refine AO.nil ?_
  refine AX.seq ?_
  refine AX.region ?_
  refine AO.p rfl (s_fieldAddr Try.underlying32 rfl Try.sizeOf30 (by decide) rfl rfl) ?_
  refine AO.c rfl (s_load Try.isAgg30 rfl (row_cell (S102.get (k := 0) rfl) rfl)) ?_
  refine AO.p rfl (p_move rfl) ?_
  obtain ⟨x104, h105, hd106⟩ := bnd_some hd
  refine AO.c rfl (o_call (vs := [.slice p_a0_1 a0_1.length c_a0_1, .int .i64 a1]) rfl Try.call62 (W_laws_szRoundS fu G100 p_a0_1 c_a0_1 a0_1 a_a0_1 (S102.view v_a0_1) a1 x104 h105)) ?_
  refine AO.p rfl (p_assign rfl) ?_
  refine AO.nil ?_
  refine AX.seq ?_
  refine AX.seq ?_
  refine AX.region ?_
  refine AO.p rfl (p_move rfl) ?_
  refine AO.p rfl (p_lss rfl rfl) ?_
  refine AO.nil ?_
  refine AX.cond rfl (fun c108 => ?_) (fun c108 => ?_)
  · have hd109 := bif_t c108 hd106
    refine AX.seq ?_
    refine AX.region ?_
    refine AO.p rfl (p_assign rfl) ?_
    refine AO.nil ?_
    refine AX.ret ?_
    obtain rfl := some_inj hd109
    exact ⟨.inr rfl, _, res1 rfl (rv_tmp rfl), rfl, (flatB_ok rfl), S102.hold⟩
  · have hd110 := bif_f c108 hd106
    refine AX.skip ?_
    refine AX.seq ?_
    refine AX.region ?_
    refine AO.p rfl (p_move rfl) ?_
    refine AO.p rfl (p_assign rfl) ?_
    refine AO.nil ?_
    refine AX.ret ?_
    obtain rfl := some_inj hd110
    exact ⟨.inr rfl, _, res1 rfl (rv_tmp rfl), rfl, (flatB_ok rfl), S102.hold⟩

set_option maxHeartbeats 4000000 in
theorem W_laws_eqRound (fu : Nat) (H : AHeap) (a0 : List Int) (h_a0 : a0.length = 14) (a1 : List Int) (h_a1 : a1.length = 14) (r0 : Bool) (hd : D_laws_eqRound fu a0 a1 = some r0) : ACall Try.prog 121 [.agg (ints a0).toArray, .agg (ints a1).toArray] H (.bool r0) H := by
  refine ACall.bodyP (N := 17) [(0, .agg (ints a0).toArray), (1, .agg (ints a1).toArray)] Try.func121 rfl rfl rfl rfl ?_
  unfold D_laws_eqRound at hd
  have S0 : St [] H H [] := St.nil H
  refine AX.seq ?_
  refine AX.region ?_
  obtain ⟨G100, i101, hii101, hHG100, S102⟩ := S0.new (AObj.row false (ints a0))
  refine AO.c rfl (s_box (i := i101) (cs := ints a0) rfl hii101 rfl hHG100) ?_
  obtain ⟨G104, i105, hii105, hHG104, S106⟩ := S102.new (AObj.row false (ints a1))
  refine AO.c rfl (s_box (i := i105) (cs := ints a1) rfl hii105 rfl hHG104) ?_
  refine AO.p rfl (p_assign rfl) ?_
  refine AO.nil ?_
  refine AX.seq ?_
  refine AX.seq ?_
  refine AX.region ?_
  refine AO.p rfl (p_assign rfl) ?_
  refine AO.nil ?_
  obtain ⟨r157, hl158, hd159⟩ := bnd_some hd
  refine AX.cutS (fun t' H' => .inl () = r157 ∧ St [] H H' [] ∧ Am.Sub [] t') ?_ ?_
  · refine AX.block ?_
    refine AX.loopF (fun s' t' H' => ∃ (x141 : Int), x141 = s' ∧ St [] H H' [[(i101, AObj.row false (ints a0))], [(i105, AObj.row false (ints a1))]] ∧ Am.Sub [(2, .pointer (some ⟨i101, 0, none⟩)), (3, .pointer (some ⟨i105, 0, none⟩)), (5, .int .i64 x141)] t') hl158 ?_ ?_
    · skip
      have S160 := S106.front 0 rfl
      have S161 := S160.front 1 rfl
      exact ⟨0, rfl, S161, Sub.cons' rfl rfl (Sub.cons' rfl rfl (Sub.cons' rfl rfl (Sub.nil _)))⟩
    · rintro n162 _ t' G166 ⟨x141, rfl, S165, hsub167⟩ o168 ho163 hk164
      refine AX.sub hsub167 ?_
      unfold D_laws_eqRound_s0 at ho163
      refine AX.seq ?_
      refine AX.seq ?_
      refine AX.region ?_
      refine AO.p rfl (p_move rfl) ?_
      refine AO.p rfl (p_lss rfl rfl) ?_
      refine AO.nil ?_
      refine AX.cond rfl (fun c169 => ?_) (fun c169 => ?_)
      · have hd170 := bif_t c169 ho163
        refine AX.skip ?_
        refine AX.seq ?_
        refine AX.block ?_
        refine AX.seq ?_
        refine DR.startS [false, false, false, false, false, false, false] mix (by kernel_rfl) (fun hst => ?_)
        refine DR.p rfl rfl (p_move rfl) ?_
        obtain ⟨k171, hd172⟩ := chk_some hd170
        refine DR.p rfl rfl (s_indexAr (q := x141.toNat) Try.underlying54 Try.sizeOf2 rfl rfl k171 (z1 _)) ?_
        refine DR.r rfl rfl (r_load rfl Try.isAgg2) (one_read (row_cell (S165.get (k := 0) rfl) (ints_get (lt_len h_a0 (inR_lt k171)))) (.of_flat0 rfl)) ?_
        refine DR.p rfl rfl (p_move rfl) ?_
        obtain ⟨k173, hd174⟩ := chk_some hd172
        refine DR.p rfl rfl (s_indexAr (q := x141.toNat) Try.underlying54 Try.sizeOf2 rfl rfl k173 (z1 _)) ?_
        refine DR.r rfl rfl (r_load rfl Try.isAgg2) (one_read (row_cell (S165.get (k := 1) rfl) (ints_get (lt_len h_a1 (inR_lt k173)))) (.of_flat0 rfl)) ?_
        refine DR.p rfl rfl (p_neq rfl rfl) ?_
        refine DR.nil 7 [] hst (by kernel_rfl) trivial ?_
        refine AX.cond rfl (fun c175 => ?_) (fun c175 => ?_)
        · have hd176 := bif_t c175 hd174
          refine AX.seq ?_
          refine AX.region ?_
          refine AO.p rfl (p_assign rfl) ?_
          refine AO.nil ?_
          refine AX.ret ?_
          obtain rfl := some_inj hd176
          have z177 : _ = r157 := hk164
          subst z177
          obtain rfl := some_inj hd159
          exact ⟨.inr rfl, _, res1 rfl (rv_tmp rfl), rfl, (flatB_ok rfl), S165.hold⟩
        · have hd178 := bif_f c175 hd174
          refine AX.skip ?_
          refine AX.region ?_
          refine AO.p rfl (p_move rfl) ?_
          obtain ⟨k179, hd180⟩ := chk_some hd178
          refine AO.p rfl (p_addE rfl rfl k179) ?_
          refine AO.p rfl (p_assign rfl) ?_
          refine AO.nil ?_
          obtain rfl := some_inj hd180
          have S182 := S165.front 1 rfl
          have S183 := S182.front 1 rfl
          exact ⟨x141 + 1, hk164, (x141 + 1), rfl, S183, Sub.cons' rfl rfl (Sub.cons' rfl rfl (Sub.cons' rfl rfl (Sub.nil _)))⟩
      · have hd184 := bif_f c169 ho163
        refine AX.exit ?_
        obtain rfl := some_inj hd184
        have S185 := S165.keep 0
        exact ⟨hk164, S185, Sub.nil _⟩
  · rintro t' G187 ⟨rfl, S186, hsub188⟩
    refine ⟨_, hsub188, ?_⟩
    refine AX.seq ?_
    refine AX.region ?_
    refine AO.p rfl (p_assign rfl) ?_
    refine AO.nil ?_
    refine AX.ret ?_
    obtain rfl := some_inj hd159
    exact ⟨.inr rfl, _, res1 rfl (rv_tmp rfl), rfl, (flatB_ok rfl), S186.hold⟩

set_option maxHeartbeats 4000000 in
theorem W_laws_eqRoundS (fu : Nat) (H : AHeap) (p_a0 : Option Addr) (c_a0 : Nat) (a0 : List (List Int)) (a_a0 : All 14 a0) (v_a0 : Vw H p_a0 a0.length c_a0 (ints a0.flatten)) (p_a1 : Option Addr) (c_a1 : Nat) (a1 : List (List Int)) (a_a1 : All 14 a1) (v_a1 : Vw H p_a1 a1.length c_a1 (ints a1.flatten)) (r0 : Bool) (hd : D_laws_eqRoundS fu a0 a1 = some r0) : ACall Try.prog 74 [.slice p_a0 a0.length c_a0, .slice p_a1 a1.length c_a1] H (.bool r0) H := by
  refine ACall.bodyP (N := 27) [(0, .slice p_a0 a0.length c_a0), (1, .slice p_a1 a1.length c_a1)] Try.func74 rfl rfl rfl rfl ?_
  unfold D_laws_eqRoundS at hd
  have S0 : St [] H H [] := St.nil H
  refine AX.seq ?_
  refine AX.region ?_
  refine AO.p rfl (p_assign rfl) ?_
  refine AO.nil ?_
  refine AX.seq ?_
  refine AX.seq ?_
  refine AX.region ?_
  refine AO.p rfl (p_move rfl) ?_
  refine AO.p rfl (p_len_slice rfl Try.underlying35) ?_
  refine AO.p rfl (p_move rfl) ?_
  refine AO.p rfl (p_len_slice rfl Try.underlying35) ?_
  refine AO.p rfl (p_neq rfl rfl) ?_
  refine AO.nil ?_
  refine AX.cond rfl (fun c100 => ?_) (fun c100 => ?_)
  · have hd101 := bif_t c100 hd
    refine AX.seq ?_
    refine AX.region ?_
    refine AO.p rfl (p_assign rfl) ?_
    refine AO.nil ?_
    refine AX.ret ?_
    obtain rfl := some_inj hd101
    exact ⟨.inr rfl, _, res1 rfl (rv_tmp rfl), rfl, (flatB_ok rfl), S0.hold⟩
  · have hd102 := bif_f c100 hd
    refine AX.skip ?_
    refine AX.seq ?_
    refine AX.seq ?_
    refine AX.region ?_
    refine AO.p rfl (p_assign rfl) ?_
    refine AO.nil ?_
    obtain ⟨r162, hl163, hd164⟩ := bnd_some hd102
    refine AX.cutS (fun t' H' => .inl () = r162 ∧ St [] H H' [] ∧ Am.Sub [] t') ?_ ?_
    · refine AX.block ?_
      refine AX.loopF (fun s' t' H' => ∃ (x142 : Int), x142 = s' ∧ St [] H H' [] ∧ Am.Sub [(0, .slice p_a0 a0.length c_a0), (1, .slice p_a1 a1.length c_a1), (5, .int .i64 x142)] t') hl163 ?_ ?_
      · skip
        exact ⟨0, rfl, S0, Sub.cons' rfl rfl (Sub.cons' rfl rfl (Sub.cons' rfl rfl (Sub.nil _)))⟩
      · rintro n165 _ t' G169 ⟨x142, rfl, S168, hsub170⟩ o171 ho166 hk167
        refine AX.sub hsub170 ?_
        unfold D_laws_eqRoundS_s0 at ho166
        refine AX.seq ?_
        refine AX.seq ?_
        refine AX.region ?_
        refine AO.p rfl (p_move rfl) ?_
        refine AO.p rfl (p_move rfl) ?_
        refine AO.p rfl (p_len_slice rfl Try.underlying35) ?_
        refine AO.p rfl (p_lss rfl rfl) ?_
        refine AO.nil ?_
        refine AX.cond rfl (fun c172 => ?_) (fun c172 => ?_)
        · have hd173 := bif_t c172 ho166
          refine AX.skip ?_
          refine AX.seq ?_
          refine AX.block ?_
          refine AX.seq ?_
          refine DR.startS [false, false, false, false, false, false, false, false, true, false] mix (by kernel_rfl) (fun hst => ?_)
          refine DR.p rfl rfl (p_move rfl) ?_
          refine DR.p rfl rfl (p_move rfl) ?_
          obtain ⟨k174, hd175⟩ := chk_some hd173
          refine DR.p rfl rfl (s_indexV (q := off p_a0 + x142.toNat * 14) Try.underlying35 Try.sizeOf54 rfl ((S168.view v_a0).rowne a_a0 (by decide) (lt_len rfl (inR_lt k174))) rfl k174 rfl) ?_
          refine DR.r rfl rfl (r_loadN (vs := ints (rw_ a0 x142.toNat)) rfl Try.isAgg54 Try.sizeOf54 (ints_len (rw_len a_a0 (lt_len rfl (inR_lt k174))))) (many_row ((S168.view v_a0).row a_a0 (lt_len rfl (inR_lt k174))) bel_ints) ?_
          refine DR.p rfl rfl (p_move rfl) ?_
          refine DR.p rfl rfl (p_move rfl) ?_
          obtain ⟨k176, hd177⟩ := chk_some hd175
          refine DR.p rfl rfl (s_indexV (q := off p_a1 + x142.toNat * 14) Try.underlying35 Try.sizeOf54 rfl ((S168.view v_a1).rowne a_a1 (by decide) (lt_len rfl (inR_lt k176))) rfl k176 rfl) ?_
          refine DR.r rfl rfl (r_loadN (vs := ints (rw_ a1 x142.toNat)) rfl Try.isAgg54 Try.sizeOf54 (ints_len (rw_len a_a1 (lt_len rfl (inR_lt k176))))) (many_row ((S168.view v_a1).row a_a1 (lt_len rfl (inR_lt k176))) bel_ints) ?_
          obtain ⟨b178, h179, hd180⟩ := bnd_some hd177
          refine DR.w rfl rfl (o_call (vs := [.agg (ints (rw_ a0 x142.toNat)).toArray, .agg (ints (rw_ a1 x142.toNat)).toArray]) rfl Try.call121 (W_laws_eqRound fu G169 (rw_ a0 x142.toNat) (rw_len a_a0 (lt_len rfl (inR_lt k174))) (rw_ a1 x142.toNat) (rw_len a_a1 (lt_len rfl (inR_lt k176))) b178 h179)) (Nat.le_refl _) ?_
          refine DR.p rfl rfl (p_not rfl) ?_
          refine DR.nil 10 [] hst (by kernel_rfl) trivial ?_
          refine AX.cond rfl (fun c182 => ?_) (fun c182 => ?_)
          · have hd183 := bif_t c182 hd180
            refine AX.seq ?_
            refine AX.region ?_
            refine AO.p rfl (p_assign rfl) ?_
            refine AO.nil ?_
            refine AX.ret ?_
            obtain rfl := some_inj hd183
            have z184 : _ = r162 := hk167
            subst z184
            obtain rfl := some_inj hd164
            exact ⟨.inr rfl, _, res1 rfl (rv_tmp rfl), rfl, (flatB_ok rfl), S168.hold⟩
          · have hd185 := bif_f c182 hd180
            refine AX.skip ?_
            refine AX.region ?_
            refine AO.p rfl (p_move rfl) ?_
            obtain ⟨k186, hd187⟩ := chk_some hd185
            refine AO.p rfl (p_addE rfl rfl k186) ?_
            refine AO.p rfl (p_assign rfl) ?_
            refine AO.nil ?_
            obtain rfl := some_inj hd187
            exact ⟨x142 + 1, hk167, (x142 + 1), rfl, S168, Sub.cons' rfl rfl (Sub.cons' rfl rfl (Sub.cons' rfl rfl (Sub.nil _)))⟩
        · have hd189 := bif_f c172 ho166
          refine AX.exit ?_
          obtain rfl := some_inj hd189
          exact ⟨hk167, S168, Sub.nil _⟩
    · rintro t' G191 ⟨rfl, S190, hsub192⟩
      refine ⟨_, hsub192, ?_⟩
      refine AX.seq ?_
      refine AX.region ?_
      refine AO.p rfl (p_assign rfl) ?_
      refine AO.nil ?_
      refine AX.ret ?_
      obtain rfl := some_inj hd164
      exact ⟨.inr rfl, _, res1 rfl (rv_tmp rfl), rfl, (flatB_ok rfl), S190.hold⟩

set_option maxHeartbeats 4000000 in
theorem W_laws_eqSchedule (fu : Nat) (H : AHeap) (a0_0 : Int) (p_a0_1 : Option Addr) (c_a0_1 : Nat) (a0_1 : List (List Int)) (a_a0_1 : All 14 a0_1) (v_a0_1 : Vw H p_a0_1 a0_1.length c_a0_1 (ints a0_1.flatten)) (a1_0 : Int) (p_a1_1 : Option Addr) (c_a1_1 : Nat) (a1_1 : List (List Int)) (a_a1_1 : All 14 a1_1) (v_a1_1 : Vw H p_a1_1 a1_1.length c_a1_1 (ints a1_1.flatten)) (r0 : Bool) (hd : D_laws_eqSchedule fu a0_0 a0_1 a1_0 a1_1 = some r0) : ACall Try.prog 21 [.agg [.int .i64 a0_0, .slice p_a0_1 a0_1.length c_a0_1].toArray, .agg [.int .i64 a1_0, .slice p_a1_1 a1_1.length c_a1_1].toArray] H (.bool r0) H := by
  refine ACall.bodyP (N := 16) [(0, .agg [.int .i64 a0_0, .slice p_a0_1 a0_1.length c_a0_1].toArray), (1, .agg [.int .i64 a1_0, .slice p_a1_1 a1_1.length c_a1_1].toArray)] Try.func21 rfl rfl rfl rfl ?_
  unfold D_laws_eqSchedule at hd
  have S0 : St [] H H [] := St.nil H
  refine AX.seq ?_
  refine AX.region ?_
  obtain ⟨G100, i101, hii101, hHG100, S102⟩ := S0.new (AObj.row false ([.int .i64 a0_0, .slice p_a0_1 a0_1.length c_a0_1]))
  refine AO.c rfl (s_box (i := i101) (cs := [.int .i64 a0_0, .slice p_a0_1 a0_1.length c_a0_1]) rfl hii101 rfl hHG100) ?_
  obtain ⟨G104, i105, hii105, hHG104, S106⟩ := S102.new (AObj.row false ([.int .i64 a1_0, .slice p_a1_1 a1_1.length c_a1_1]))
  refine AO.c rfl (s_box (i := i105) (cs := [.int .i64 a1_0, .slice p_a1_1 a1_1.length c_a1_1]) rfl hii105 rfl hHG104) ?_
  refine AO.p rfl (p_assign rfl) ?_
  refine AO.nil ?_
  refine AX.seq ?_
  refine AX.seq ?_
  refine AX.region ?_
  refine AO.p rfl (s_fieldAddr Try.underlying37 rfl Try.sizeOf2 (by decide) rfl rfl) ?_
  refine AO.c rfl (s_load Try.isAgg2 rfl (row_cell (S106.get (k := 1) rfl) rfl)) ?_
  refine AO.p rfl (s_fieldAddr Try.underlying37 rfl Try.sizeOf2 (by decide) rfl rfl) ?_
  refine AO.c rfl (s_load Try.isAgg2 rfl (row_cell (S106.get (k := 0) rfl) rfl)) ?_
  refine AO.p rfl (p_neq rfl rfl) ?_
  refine AO.nil ?_
  refine AX.cond rfl (fun c108 => ?_) (fun c108 => ?_)
  · have hd109 := bif_t c108 hd
    refine AX.seq ?_
    refine AX.region ?_
    refine AO.p rfl (p_assign rfl) ?_
    refine AO.nil ?_
    refine AX.ret ?_
    obtain rfl := some_inj hd109
    exact ⟨.inr rfl, _, res1 rfl (rv_tmp rfl), rfl, (flatB_ok rfl), S106.hold⟩
  · have hd110 := bif_f c108 hd
    refine AX.skip ?_
    refine AX.seq ?_
    refine AX.seq ?_
    refine AX.region ?_
    refine AO.p rfl (s_fieldAddr Try.underlying37 rfl Try.sizeOf35 (by decide) rfl rfl) ?_
    refine AO.c rfl (s_load Try.isAgg35 rfl (row_cell (S106.get (k := 1) rfl) rfl)) ?_
    refine AO.p rfl (s_fieldAddr Try.underlying37 rfl Try.sizeOf35 (by decide) rfl rfl) ?_
    refine AO.c rfl (s_load Try.isAgg35 rfl (row_cell (S106.get (k := 0) rfl) rfl)) ?_
    obtain ⟨b111, h112, hd113⟩ := bnd_some hd110
    refine AO.c rfl (o_call (vs := [.slice p_a0_1 a0_1.length c_a0_1, .slice p_a1_1 a1_1.length c_a1_1]) rfl Try.call74 (W_laws_eqRoundS fu G104 p_a0_1 c_a0_1 a0_1 a_a0_1 (S106.view v_a0_1) p_a1_1 c_a1_1 a1_1 a_a1_1 (S106.view v_a1_1) b111 h112)) ?_
    refine AO.p rfl (p_not rfl) ?_
    refine AO.nil ?_
    refine AX.cond rfl (fun c115 => ?_) (fun c115 => ?_)
    · have hd116 := bif_t c115 hd113
      refine AX.seq ?_
      refine AX.region ?_
      refine AO.p rfl (p_assign rfl) ?_
      refine AO.nil ?_
      refine AX.ret ?_
      obtain rfl := some_inj hd116
      exact ⟨.inr rfl, _, res1 rfl (rv_tmp rfl), rfl, (flatB_ok rfl), S106.hold⟩
    · have hd117 := bif_f c115 hd113
      refine AX.skip ?_
      refine AX.seq ?_
      refine AX.region ?_
      refine AO.p rfl (p_assign rfl) ?_
      refine AO.nil ?_
      refine AX.ret ?_
      obtain rfl := some_inj hd117
      exact ⟨.inr rfl, _, res1 rfl (rv_tmp rfl), rfl, (flatB_ok rfl), S106.hold⟩

end Go.Proofs.Ytdafmafigcljkaa
