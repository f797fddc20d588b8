/-
  The program computes that, printed by a program. No condition.
-/
import Derived.Test.YtdafmafigcljkaaDF
import Derived.Test.YtdafmafigcljkaaWC
import Derived.Test.YtdafmafigcljkaaPl
import Derived.Test.YtdafmafigcljkaaProg
import Derived.KernelRfl
namespace Go.Proofs.Ytdafmafigcljkaa
open Go Go.RowKit Am
set_option linter.unusedVariables false
set_option linter.unusedSimpArgs false
set_option maxRecDepth 20000
set_option maxHeartbeats 4000000 in
theorem W_impl_copyRows (fu : Nat) (H : AHeap) (p_a0 : Option Addr) (c_a0 : Nat) (T_a0 : Tb) (a0 : List (List Int)) (t_a0 : trows T_a0 = a0) (v_a0 : Vw H p_a0 a0.length c_a0 (tcells T_a0)) (w_a0 : TVw H T_a0) (g_a0 : TNe T_a0) (r0 : List (List Int)) (hd : D_impl_copyRows fu a0 = some r0) : ∃ v G', ACall Try.prog 61 [.slice p_a0 a0.length c_a0] H v G' ∧ ∃ (p_r0 : Option Addr) (c_r0 : Nat) (T_r0 : Tb), (v = .slice p_r0 r0.length c_r0) ∧ St [] H G' [oseg p_r0 (tcells T_r0), tseg T_r0] ∧ Sb p_r0 r0.length c_r0 1 ∧ trows T_r0 = r0 ∧ TSb T_r0 := by
  refine ACall.bodyX (args := [.slice p_a0 a0.length c_a0]) (N := 20) [(0, .slice p_a0 a0.length c_a0)] (fun v G' => ∃ (p_r0 : Option Addr) (c_r0 : Nat) (T_r0 : Tb), (v = .slice p_r0 r0.length c_r0) ∧ St [] H G' [oseg p_r0 (tcells T_r0), tseg T_r0] ∧ Sb p_r0 r0.length c_r0 1 ∧ trows T_r0 = r0 ∧ TSb T_r0) Try.func61 rfl rfl rfl rfl ?_
  unfold D_impl_copyRows at hd
  have S0 : St [] H H [] := St.nil H
  refine AX.seq ?_
  refine AX.region ?_
  refine AO.p rfl (p_assign rfl) ?_
  refine AO.nil ?_
  refine AX.seq ?_
  refine AX.region ?_
  obtain ⟨G100, i101, hii101, hHG100, S102⟩ := S0.new (AObj.row false (tcells []))
  have S102t := S102.nilseg 1
  refine AO.c rfl (s_build0 (i := i101) Try.underlying43 Try.sizeOf58 hii101 hHG100) ?_
  refine AO.p rfl (p_assign rfl) ?_
  refine AO.nil ?_
  refine AX.seq ?_
  refine AX.seq ?_
  refine AX.region ?_
  refine AO.p rfl (p_move rfl) ?_
  refine AO.p rfl (p_len_slice rfl Try.underlying43) ?_
  refine AO.p rfl (p_move rfl) ?_
  refine AO.nil ?_
  obtain ⟨r242, hl243, hd244⟩ := bnd_some hd
  refine AX.cutS (fun t' H' => ∃ (rs240 : List (List Int)) (p238 : Option Addr) (c239 : Nat) (T241 : Tb), rs240 = r242 ∧ St [] H H' [oseg p238 (tcells T241), tseg T241] ∧ trows T241 = rs240 ∧ TSb T241 ∧ Sb p238 (rs240.length) c239 1 ∧ Am.Sub [(3, .slice p238 rs240.length c239)] t') ?_ ?_
  · refine AX.block ?_
    refine AX.loopF (fun s' t' H' => ∃ (rs194 : List (List Int)) (x196 : Int) (p192 : Option Addr) (c193 : Nat) (T195 : Tb), (rs194, x196) = s' ∧ St [] H H' [oseg p192 (tcells T195), tseg T195] ∧ trows T195 = rs194 ∧ TSb T195 ∧ Sb p192 (rs194.length) c193 1 ∧ Am.Sub [(3, .slice p192 rs194.length c193), (7, .slice p_a0 a0.length c_a0), (8, .int .i64 ((a0.length : Nat) : Int)), (9, .int .i64 x196)] t') hl243 ?_ ?_
    · skip
      have S245 := S102t.front 1 rfl
      have S246 := S245.front 1 rfl
      exact ⟨[], 0, (some (Addr.mk i101 0 none)), 0, [], rfl, S246, rfl, TSb.nil, (Sb.lit (n := 0) (by decide)), Sub.cons' rfl rfl (Sub.cons' rfl rfl (Sub.cons' rfl rfl (Sub.cons' rfl rfl (Sub.nil _))))⟩
    · rintro n247 _ t' G251 ⟨rs194, x196, p192, c193, T195, rfl, S250, tT195, sT195, Bo191, hsub252⟩ o253 ho248 hk249
      refine AX.sub hsub252 ?_
      unfold D_impl_copyRows_s0 at ho248
      refine AX.seq ?_
      refine AX.region ?_
      refine AO.p rfl (p_lss rfl rfl) ?_
      refine AO.nil ?_
      refine AX.seq ?_
      refine AX.cond rfl (fun c254 => ?_) (fun c254 => ?_)
      · have hd255 := bif_t c254 ho248
        refine AX.skip ?_
        refine AX.seq ?_
        refine AX.block ?_
        refine AX.seq ?_
        refine AX.region ?_
        obtain ⟨k256, hd257⟩ := chk_some hd255
        obtain ⟨p258, c259, e260, f261⟩ := tget t_a0 (lt_len rfl (inR_lt k256))
        refine AO.p rfl (s_indexV (q := off p_a0 + x196.toNat) Try.underlying43 Try.sizeOf58 rfl ((S250.view v_a0).p f261) rfl k256 (o1 _ _)) ?_
        refine AO.c rfl (s_load Try.isAgg58 rfl ((S250.view v_a0).get _ _ f261)) ?_
        refine AO.p rfl (p_assign rfl) ?_
        refine AO.nil ?_
        refine AX.region ?_
        refine AO.p rfl (p_move rfl) ?_
        refine AO.p rfl (p_move rfl) ?_
        obtain ⟨xs262, h263, hd264⟩ := bnd_some hd257
        obtain ⟨_, G270, hc269, p265, c266, rfl, S271, B268⟩ := W_slices_Clone_Sint64_int64 fu G251 p258 c259 (rw_ a0 x196.toNat) (TVw.at (S250.tview w_a0) e260) (g_a0.at e260) xs262 h263
        have S272 := S250.call S271
        refine AO.c rfl (o_call (vs := [.slice p258 ((rw_ a0 x196.toNat).length) c259]) rfl Try.call117 hc269) ?_
        obtain ⟨G273, i274, hii274, hHG273, S275⟩ := S272.new (AObj.row false (tcells [(p265, c266, xs262)]))
        have S277 := (S275.front 1 rfl).tone p265 c266 xs262 rfl
        refine AO.c rfl (s_buildT1 (i := i274) (X := [(p265, c266, xs262)]) (n := xs262.length) rfl Try.underlying43 Try.sizeOf58 Try.zeroValue58 rfl rfl hii274 hHG273) ?_
        obtain ⟨k278, hd279⟩ := chk_some hd264
        obtain ⟨p280, c281, G282, haG282, S283, Bp280⟩ := S277.app (k := 2) rfl Bo191 (tcells [(p265, c266, xs262)]) 1 (tc_len1 rfl rfl)
        have S284 := S283.cellsEq (k := 2) (us' := tcells (T195 ++ [(p265, c266, xs262)])) (tcells_app _ _).symm rfl
        have BS284 : Sb p280 ((rs194 ++ [xs262]).length) c281 1 := (show rs194.length + 1 = (rs194 ++ [xs262]).length from len_app (a := rs194) (b := [xs262]) rfl rfl) ▸ Bp280
        have S285 := S284.front 0 rfl
        have S286 := (S285.front 3 rfl).tmerge
        have S287 := S286.drop 1 rfl
        refine AO.c rfl (s_app (by_ := 24) (us := tcells T195) (vs := tcells [(p265, c266, xs262)]) Try.underlying43 Try.underlying43 Try.typeInfo58 Try.sizeOf58 Try.zeroValue58 rfl rfl rfl rfl rfl rfl rfl (S277.buf (k := 2) rfl Bo191 (tc_len1 tT195 rfl)) (S277.oview (k := 1) rfl (Sb.lit (n := 1) (by decide)) (tc_len1 rfl rfl)) (tc_len1 rfl rfl) tcells_one k278 haG282 (show rs194.length + 1 = (rs194 ++ [xs262]).length from len_app (a := rs194) (b := [xs262]) rfl rfl)) ?_
        refine AO.p rfl (p_assign rfl) ?_
        refine AO.nil ?_
        refine AX.region ?_
        obtain ⟨k288, hd289⟩ := chk_some hd279
        refine AO.p rfl (p_addE rfl rfl k288) ?_
        refine AO.p rfl (p_move rfl) ?_
        refine AO.nil ?_
        obtain rfl := some_inj hd289
        have S291 := S287.front 0 rfl
        have S292 := S291.front 1 rfl
        exact ⟨((rs194 ++ [xs262]), x196 + 1), hk249, (rs194 ++ [xs262]), (x196 + 1), p280, c281, (T195 ++ [(p265, c266, xs262)]), rfl, S292, (trows_apps tT195 rfl), (TSb.app sT195 (TSb.one (sb_len rfl B268))), BS284, Sub.cons' rfl rfl (Sub.cons' rfl rfl (Sub.cons' rfl rfl (Sub.cons' rfl rfl (Sub.nil _))))⟩
      · have hd293 := bif_f c254 ho248
        refine AX.exit ?_
        obtain rfl := some_inj hd293
        have S294 := S250.front 1 rfl
        have S295 := S294.front 1 rfl
        exact ⟨rs194, p192, c193, T195, hk249, S295, tT195, sT195, Bo191, Sub.cons' rfl rfl (Sub.nil _)⟩
  · rintro t' G297 ⟨rs240, p238, c239, T241, rfl, S296, tT241, sT241, Bo237, hsub298⟩
    refine ⟨_, hsub298, ?_⟩
    refine AX.seq ?_
    refine AX.region ?_
    refine AO.p rfl (p_move rfl) ?_
    refine AO.p rfl (p_assign rfl) ?_
    refine AO.nil ?_
    refine AX.ret ?_
    obtain rfl := some_inj hd244
    have S299 := S296.front 1 rfl
    have S300 := S299.front 1 rfl
    exact ⟨.inr rfl, _, res1 rfl (rv_tmp rfl), p238, c239, T241, rfl, S300, Bo237, tT241, sT241⟩

set_option maxHeartbeats 4000000 in
theorem W_impl_StarterList_1 (fu : Nat) (H : AHeap) (F : Sg) (p_a0 : Option Addr) (c_a0 : Nat) (T_a0 : Tb) (a0 : List (List Int)) (t_a0 : trows T_a0 = a0) (q_a0 : PT F p_a0 c_a0 T_a0) (i_n0 : Nat) (p_n1 : Option Addr) (k_n1 c_n1 : Nat) (T_n1 : Tb3) (n1 : List (List (List Int))) (l_n1 : n1.length = k_n1) (s_n1 : Sb p_n1 k_n1 c_n1 1) (t_n1 : trows3 T_n1 = n1) (z_n1 : TSb3 T_n1) (hn : (([[(i_n0, AObj.row false ([.slice p_n1 k_n1 c_n1]))], oseg p_n1 (tcells3 T_n1), t3seg T_n1, F] : List Sg).flatten.map (·.1)).Nodup) (ho : ∀ x ∈ ([[(i_n0, AObj.row false ([.slice p_n1 k_n1 c_n1]))], oseg p_n1 (tcells3 T_n1), t3seg T_n1, F] : List Sg).flatten, x.1 < H.length ∧ hget H x.1 = x.2) (r0 : Bool) (m_n1 : List (List (List Int))) (hd : D_impl_StarterList_1 fu a0 k_n1 n1 = some (r0, m_n1)) : ∃ v G', ACall Try.prog 60 [.slice p_a0 a0.length c_a0, .pointer (some ⟨i_n0, 0, none⟩)] H v G' ∧ ∃ (p_m_n1 : Option Addr) (c_m_n1 : Nat) (T_m_n1 : Tb3) (F' : Sg), (v = .bool r0) ∧ St (([[(i_n0, AObj.row false ([.slice p_n1 k_n1 c_n1]))], oseg p_n1 (tcells3 T_n1), t3seg T_n1, F] : List Sg).flatten.map (·.1)) H G' [[(i_n0, AObj.row false ([.slice p_m_n1 m_n1.length c_m_n1]))], oseg p_m_n1 (tcells3 T_m_n1), t3seg T_m_n1, F'] ∧ Sb p_m_n1 m_n1.length c_m_n1 1 ∧ trows3 T_m_n1 = m_n1 ∧ TSb3 T_m_n1 ∧ Pin F' F := by
  refine ACall.bodyX (args := [.slice p_a0 a0.length c_a0, .pointer (some ⟨i_n0, 0, none⟩)]) (N := 9) [(0, .slice p_a0 a0.length c_a0), (1, .pointer (some ⟨i_n0, 0, none⟩))] (fun v G' => ∃ (p_m_n1 : Option Addr) (c_m_n1 : Nat) (T_m_n1 : Tb3) (F' : Sg), (v = .bool r0) ∧ St (([[(i_n0, AObj.row false ([.slice p_n1 k_n1 c_n1]))], oseg p_n1 (tcells3 T_n1), t3seg T_n1, F] : List Sg).flatten.map (·.1)) H G' [[(i_n0, AObj.row false ([.slice p_m_n1 m_n1.length c_m_n1]))], oseg p_m_n1 (tcells3 T_m_n1), t3seg T_m_n1, F'] ∧ Sb p_m_n1 m_n1.length c_m_n1 1 ∧ trows3 T_m_n1 = m_n1 ∧ TSb3 T_m_n1 ∧ Pin F' F) Try.func60 rfl rfl rfl rfl ?_
  unfold D_impl_StarterList_1 at hd
  have S0 := St.initF hn ho
  generalize hM0 : (([[(i_n0, AObj.row false ([.slice p_n1 k_n1 c_n1]))], oseg p_n1 (tcells3 T_n1), t3seg T_n1, F] : List Sg).flatten.map (·.1)) = M0 at S0 ⊢
  refine AX.seq ?_
  refine AX.region ?_
  refine AO.p rfl (p_assign rfl) ?_
  refine AO.nil ?_
  refine AX.seq ?_
  refine DR.startS [false, false, true, false, true, true] mix (by kernel_rfl) (fun hst => ?_)
  refine DR.r rfl rfl (r_load rfl Try.isAgg25) (one_read (row_cell (S0.get (k := 0) rfl) rfl) (S0.oin (k := 1) rfl s_n1).bel) ?_
  refine DR.p rfl rfl (p_move rfl) ?_
  obtain ⟨rs100, h101, hd102⟩ := bnd_some hd
  obtain ⟨_, G111, hc110, p103, c104, T107, rfl, S112, B106, t108, s109⟩ := W_impl_copyRows fu H p_a0 c_a0 T_a0 a0 t_a0 (S0.ptview (k := 3) rfl q_a0 (tlen t_a0)) (S0.prview (k := 3) rfl (q_a0).rs) ((q_a0).rs.sb.tne) rs100 h101
  have S113 := S0.call S112
  refine DR.w rfl rfl (o_call (vs := [.slice p_a0 a0.length c_a0]) rfl Try.call61 hc110) (S112.len) ?_
  obtain ⟨G114, i115, hii115, hHG114, S116⟩ := S113.new (AObj.row false ([.slice p103 rs100.length c104]))
  refine DR.a rfl rfl hii115 hHG114 (a_buildSl (vs := [(0, .slice p103 rs100.length c104)]) (cs := [.slice p103 rs100.length c104]) Try.underlying25 Try.sizeOf43 Try.zeroValue43 rfl rfl (by decide) rfl rfl) ?_
  have S118 := S116.cellsEq (k := 0) (p := some ⟨i115, 0, none⟩) (us' := tcells3 [(p103, c104, T107)]) (congrArg (fun n => [Value.slice p103 n c104]) (tlen t108).symm) rfl
  have S119 := S118.front 2 rfl
  have S120 := S119.front 2 rfl
  have S121 : St M0 H G114 [oseg p103 (tcells T107), tseg T107, [(i115, AObj.row false (tcells3 [(p103, c104, T107)]))], [(i_n0, AObj.row false ([.slice p_n1 k_n1 c_n1]))], oseg p_n1 (tcells3 T_n1), t3seg T_n1, F] := S120
  have S122 := S121.t3one c104
  obtain ⟨k123, hd124⟩ := chk_some hd102
  obtain ⟨p125, c126, G127, haG127, S128, Bp125⟩ := S122.app (k := 3) rfl s_n1 (tcells3 [(p103, c104, T107)]) 1 (tc3_len1 (trows3_1 t108) rfl)
  have S129 := S128.cellsEq (k := 3) (us' := tcells3 (T_n1 ++ [(p103, c104, T107)])) (tcells3_app _ _).symm rfl
  have BS129 : Sb p125 ((n1 ++ [rs100]).length) c126 1 := (show k_n1 + 1 = (n1 ++ [rs100]).length from len_app (a := n1) (b := [rs100]) l_n1 rfl) ▸ Bp125
  have S130 := S129.front 0 rfl
  have S131 := S130.front 4 rfl
  have S132 := S131.t3merge
  have S133 := S132.drop 1 rfl
  refine DR.w rfl rfl (s_app (by_ := 24) (us := tcells3 T_n1) (vs := tcells3 [(p103, c104, T107)]) Try.underlying25 Try.underlying25 Try.typeInfo43 Try.sizeOf43 Try.zeroValue43 rfl rfl rfl rfl rfl rfl rfl (S122.buf (k := 3) rfl s_n1 (tc3_len1 t_n1 l_n1)) (S122.oview (k := 1) rfl (Sb.lit (n := 1) (by decide)) (tc3_len1 (trows3_1 t108) rfl)) (tc3_len1 (trows3_1 t108) rfl) tcells3_one k123 haG127 (show k_n1 + 1 = (n1 ++ [rs100]).length from len_app (a := n1) (b := [rs100]) l_n1 rfl)) (appR_len haG127) ?_
  obtain ⟨G134, hHG134, S135⟩ := S133.set (k := 1) (i := i_n0) rfl (AObj.row false ([.slice p125 ((n1 ++ [rs100]).length) c126]))
  have S136 : St M0 H G134 [t3seg (T_n1 ++ [(p103, c104, T107)]), [(i_n0, AObj.row false ([.slice p125 ((n1 ++ [rs100]).length) c126]))], oseg p125 (tcells3 (T_n1 ++ [(p103, c104, T107)])), F] := S135
  refine DR.s rfl (s_store Try.sizeOf25 rfl rfl rfl (S133.get (k := 1) rfl) (Nat.le_of_ble_eq_true rfl) hHG134) (set_le hHG134) ?_
  refine DR.nil 6 [(0, 2)] hst (by kernel_rfl) ⟨(rd1 (fun h => S112.hold _ h)), trivial⟩ ?_
  refine AX.seq ?_
  refine AX.region ?_
  refine AO.p rfl (p_assign rfl) ?_
  refine AO.nil ?_
  refine AX.ret ?_
  obtain ⟨rfl, rfl⟩ := Prod.mk.inj (some_inj hd124)
  have S138 := S136.front 3 rfl
  have S139 := S138.front 1 rfl
  have S140 := S139.front 3 rfl
  have S141 := S140.front 3 rfl
  exact ⟨.inr rfl, _, res1 rfl (rv_tmp rfl), p125, c126, (T_n1 ++ [(p103, c104, T107)]), F, rfl, S141, BS129, (trows3_apps t_n1 (trows3_1 t108)), (TSb3.app z_n1 (TSb3.one B106 (tlen t108) s109)), (Pin.refl F)⟩

set_option maxHeartbeats 4000000 in
theorem W_impl_starters_1__impl_StarterList_1 : ∀ (fu : Nat) (H : AHeap) (F : Sg) (p_a0 : Option Addr) (c_a0 : Nat) (T_a0 : Tb) (a0 : List (List Int)) (t_a0 : trows T_a0 = a0) (q_a0 : PT F p_a0 c_a0 T_a0) (y_a0 : a0 = [] → p_a0 = none) (i_n0 : Nat) (n0_0 : Int) (i_n1 : Nat) (p_n2 : Option Addr) (k_n2 c_n2 : Nat) (n2 : List Bool) (l_n2 : n2.length = k_n2) (s_n2 : Sb p_n2 k_n2 c_n2 1) (i_n3 : Nat) (i_n4 : Nat) (p_n5 : Option Addr) (k_n5 c_n5 : Nat) (T_n5 : Tb3) (n5 : List (List (List Int))) (l_n5 : n5.length = k_n5) (s_n5 : Sb p_n5 k_n5 c_n5 1) (t_n5 : trows3 T_n5 = n5) (z_n5 : TSb3 T_n5) (i_n6 : Nat) (p_n7 : Option Addr) (k_n7 c_n7 : Nat) (n7 : List Bool) (l_n7 : n7.length = k_n7) (s_n7 : Sb p_n7 k_n7 c_n7 1) (i_n8 : Nat) (hn : (([[(i_n0, AObj.row false ([.int .i64 n0_0]))], [(i_n1, AObj.row false ([.slice p_n2 k_n2 c_n2]))], oseg p_n2 (bls n2), [(i_n3, AObj.row false ([.func (.func 60) #[] #[.pointer (some ⟨i_n4, 0, none⟩)]]))], [(i_n4, AObj.row false ([.slice p_n5 k_n5 c_n5]))], oseg p_n5 (tcells3 T_n5), t3seg T_n5, [(i_n6, AObj.row false ([.slice p_n7 k_n7 c_n7]))], oseg p_n7 (bls n7), [(i_n8, AObj.row false ([.func (.func 115) #[] #[.pointer (some ⟨i_n0, 0, none⟩), .pointer (some ⟨i_n1, 0, none⟩), .pointer (some ⟨i_n3, 0, none⟩), .pointer (some ⟨i_n6, 0, none⟩), .pointer (some ⟨i_n8, 0, none⟩)]]))], F] : List Sg).flatten.map (·.1)).Nodup) (ho : ∀ x ∈ ([[(i_n0, AObj.row false ([.int .i64 n0_0]))], [(i_n1, AObj.row false ([.slice p_n2 k_n2 c_n2]))], oseg p_n2 (bls n2), [(i_n3, AObj.row false ([.func (.func 60) #[] #[.pointer (some ⟨i_n4, 0, none⟩)]]))], [(i_n4, AObj.row false ([.slice p_n5 k_n5 c_n5]))], oseg p_n5 (tcells3 T_n5), t3seg T_n5, [(i_n6, AObj.row false ([.slice p_n7 k_n7 c_n7]))], oseg p_n7 (bls n7), [(i_n8, AObj.row false ([.func (.func 115) #[] #[.pointer (some ⟨i_n0, 0, none⟩), .pointer (some ⟨i_n1, 0, none⟩), .pointer (some ⟨i_n3, 0, none⟩), .pointer (some ⟨i_n6, 0, none⟩), .pointer (some ⟨i_n8, 0, none⟩)]]))], F] : List Sg).flatten, x.1 < H.length ∧ hget H x.1 = x.2) (r0 : Bool) (m_n2 : List Bool) (m_n5 : List (List (List Int))) (m_n7 : List Bool) (hd : D_impl_starters_1__impl_StarterList_1 fu a0 n0_0 k_n2 n2 k_n5 n5 k_n7 n7 = some (r0, m_n2, m_n5, m_n7)), ∃ v G', ACall Try.prog 115 [.slice p_a0 a0.length c_a0, .pointer (some ⟨i_n0, 0, none⟩), .pointer (some ⟨i_n1, 0, none⟩), .pointer (some ⟨i_n3, 0, none⟩), .pointer (some ⟨i_n6, 0, none⟩), .pointer (some ⟨i_n8, 0, none⟩)] H v G' ∧ ∃ (p_m_n5 : Option Addr) (c_m_n5 : Nat) (T_m_n5 : Tb3) (F' : Sg), (v = .bool r0) ∧ St (([[(i_n0, AObj.row false ([.int .i64 n0_0]))], [(i_n1, AObj.row false ([.slice p_n2 k_n2 c_n2]))], oseg p_n2 (bls n2), [(i_n3, AObj.row false ([.func (.func 60) #[] #[.pointer (some ⟨i_n4, 0, none⟩)]]))], [(i_n4, AObj.row false ([.slice p_n5 k_n5 c_n5]))], oseg p_n5 (tcells3 T_n5), t3seg T_n5, [(i_n6, AObj.row false ([.slice p_n7 k_n7 c_n7]))], oseg p_n7 (bls n7), [(i_n8, AObj.row false ([.func (.func 115) #[] #[.pointer (some ⟨i_n0, 0, none⟩), .pointer (some ⟨i_n1, 0, none⟩), .pointer (some ⟨i_n3, 0, none⟩), .pointer (some ⟨i_n6, 0, none⟩), .pointer (some ⟨i_n8, 0, none⟩)]]))], F] : List Sg).flatten.map (·.1)) H G' [[(i_n0, AObj.row false ([.int .i64 n0_0]))], [(i_n1, AObj.row false ([.slice p_n2 k_n2 c_n2]))], oseg p_n2 (bls m_n2), [(i_n3, AObj.row false ([.func (.func 60) #[] #[.pointer (some ⟨i_n4, 0, none⟩)]]))], [(i_n4, AObj.row false ([.slice p_m_n5 m_n5.length c_m_n5]))], oseg p_m_n5 (tcells3 T_m_n5), t3seg T_m_n5, [(i_n6, AObj.row false ([.slice p_n7 k_n7 c_n7]))], oseg p_n7 (bls m_n7), [(i_n8, AObj.row false ([.func (.func 115) #[] #[.pointer (some ⟨i_n0, 0, none⟩), .pointer (some ⟨i_n1, 0, none⟩), .pointer (some ⟨i_n3, 0, none⟩), .pointer (some ⟨i_n6, 0, none⟩), .pointer (some ⟨i_n8, 0, none⟩)]]))], F'] ∧ m_n2.length = k_n2 ∧ Sb p_m_n5 m_n5.length c_m_n5 1 ∧ trows3 T_m_n5 = m_n5 ∧ TSb3 T_m_n5 ∧ m_n7.length = k_n7 ∧ Pin F' F := by
  intro fu
  induction fu with
  | zero => intros; rename_i hd; cases hd
  | succ fu ih =>
  intro H F p_a0 c_a0 T_a0 a0 t_a0 q_a0 y_a0 i_n0 n0_0 i_n1 p_n2 k_n2 c_n2 n2 l_n2 s_n2 i_n3 i_n4 p_n5 k_n5 c_n5 T_n5 n5 l_n5 s_n5 t_n5 z_n5 i_n6 p_n7 k_n7 c_n7 n7 l_n7 s_n7 i_n8 hn ho r0 m_n2 m_n5 m_n7 hd
  refine ACall.bodyX (args := [.slice p_a0 a0.length c_a0, .pointer (some ⟨i_n0, 0, none⟩), .pointer (some ⟨i_n1, 0, none⟩), .pointer (some ⟨i_n3, 0, none⟩), .pointer (some ⟨i_n6, 0, none⟩), .pointer (some ⟨i_n8, 0, none⟩)]) (N := 84) [(0, .slice p_a0 a0.length c_a0), (1, .pointer (some ⟨i_n0, 0, none⟩)), (2, .pointer (some ⟨i_n1, 0, none⟩)), (3, .pointer (some ⟨i_n3, 0, none⟩)), (4, .pointer (some ⟨i_n6, 0, none⟩)), (5, .pointer (some ⟨i_n8, 0, none⟩))] (fun v G' => ∃ (p_m_n5 : Option Addr) (c_m_n5 : Nat) (T_m_n5 : Tb3) (F' : Sg), (v = .bool r0) ∧ St (([[(i_n0, AObj.row false ([.int .i64 n0_0]))], [(i_n1, AObj.row false ([.slice p_n2 k_n2 c_n2]))], oseg p_n2 (bls n2), [(i_n3, AObj.row false ([.func (.func 60) #[] #[.pointer (some ⟨i_n4, 0, none⟩)]]))], [(i_n4, AObj.row false ([.slice p_n5 k_n5 c_n5]))], oseg p_n5 (tcells3 T_n5), t3seg T_n5, [(i_n6, AObj.row false ([.slice p_n7 k_n7 c_n7]))], oseg p_n7 (bls n7), [(i_n8, AObj.row false ([.func (.func 115) #[] #[.pointer (some ⟨i_n0, 0, none⟩), .pointer (some ⟨i_n1, 0, none⟩), .pointer (some ⟨i_n3, 0, none⟩), .pointer (some ⟨i_n6, 0, none⟩), .pointer (some ⟨i_n8, 0, none⟩)]]))], F] : List Sg).flatten.map (·.1)) H G' [[(i_n0, AObj.row false ([.int .i64 n0_0]))], [(i_n1, AObj.row false ([.slice p_n2 k_n2 c_n2]))], oseg p_n2 (bls m_n2), [(i_n3, AObj.row false ([.func (.func 60) #[] #[.pointer (some ⟨i_n4, 0, none⟩)]]))], [(i_n4, AObj.row false ([.slice p_m_n5 m_n5.length c_m_n5]))], oseg p_m_n5 (tcells3 T_m_n5), t3seg T_m_n5, [(i_n6, AObj.row false ([.slice p_n7 k_n7 c_n7]))], oseg p_n7 (bls m_n7), [(i_n8, AObj.row false ([.func (.func 115) #[] #[.pointer (some ⟨i_n0, 0, none⟩), .pointer (some ⟨i_n1, 0, none⟩), .pointer (some ⟨i_n3, 0, none⟩), .pointer (some ⟨i_n6, 0, none⟩), .pointer (some ⟨i_n8, 0, none⟩)]]))], F'] ∧ m_n2.length = k_n2 ∧ Sb p_m_n5 m_n5.length c_m_n5 1 ∧ trows3 T_m_n5 = m_n5 ∧ TSb3 T_m_n5 ∧ m_n7.length = k_n7 ∧ Pin F' F) Try.func115 rfl rfl rfl rfl ?_
  unfold D_impl_starters_1__impl_StarterList_1 at hd
  have S0 := St.initF hn ho
  generalize hM0 : (([[(i_n0, AObj.row false ([.int .i64 n0_0]))], [(i_n1, AObj.row false ([.slice p_n2 k_n2 c_n2]))], oseg p_n2 (bls n2), [(i_n3, AObj.row false ([.func (.func 60) #[] #[.pointer (some ⟨i_n4, 0, none⟩)]]))], [(i_n4, AObj.row false ([.slice p_n5 k_n5 c_n5]))], oseg p_n5 (tcells3 T_n5), t3seg T_n5, [(i_n6, AObj.row false ([.slice p_n7 k_n7 c_n7]))], oseg p_n7 (bls n7), [(i_n8, AObj.row false ([.func (.func 115) #[] #[.pointer (some ⟨i_n0, 0, none⟩), .pointer (some ⟨i_n1, 0, none⟩), .pointer (some ⟨i_n3, 0, none⟩), .pointer (some ⟨i_n6, 0, none⟩), .pointer (some ⟨i_n8, 0, none⟩)]]))], F] : List Sg).flatten.map (·.1)) = M0 at S0 ⊢
  refine AX.seq ?_
  refine AX.region ?_
  refine AO.p rfl (p_assign rfl) ?_
  refine AO.nil ?_
  refine AX.seq ?_
  refine AX.region ?_
  refine AO.p rfl (p_assign rfl) ?_
  refine AO.nil ?_
  obtain ⟨r335, hl336, hd337⟩ := bnd_some hd
  refine AX.cut (fun t' H' => ∃ (x334 : Int), x334 = r335 ∧ St M0 H H' [F, [(i_n0, AObj.row false ([.int .i64 n0_0]))], [(i_n1, AObj.row false ([.slice p_n2 k_n2 c_n2]))], oseg p_n2 (bls n2), [(i_n3, AObj.row false ([.func (.func 60) #[] #[.pointer (some ⟨i_n4, 0, none⟩)]]))], [(i_n4, AObj.row false ([.slice p_n5 k_n5 c_n5]))], oseg p_n5 (tcells3 T_n5), t3seg T_n5, [(i_n6, AObj.row false ([.slice p_n7 k_n7 c_n7]))], oseg p_n7 (bls n7), [(i_n8, AObj.row false ([.func (.func 115) #[] #[.pointer (some ⟨i_n0, 0, none⟩), .pointer (some ⟨i_n1, 0, none⟩), .pointer (some ⟨i_n3, 0, none⟩), .pointer (some ⟨i_n6, 0, none⟩), .pointer (some ⟨i_n8, 0, none⟩)]]))]] ∧ Pin F F ∧ PT F p_a0 c_a0 T_a0 ∧ (a0 = [] → p_a0 = none) ∧ Am.Sub [(0, .slice p_a0 a0.length c_a0), (1, .pointer (some ⟨i_n0, 0, none⟩)), (2, .pointer (some ⟨i_n1, 0, none⟩)), (3, .pointer (some ⟨i_n3, 0, none⟩)), (4, .pointer (some ⟨i_n6, 0, none⟩)), (5, .pointer (some ⟨i_n8, 0, none⟩)), (8, .int .i64 x334)] t') ?_ ?_
  · refine AX.block ?_
    refine AX.loopF (fun s' t' H' => ∃ (x260 : Int), x260 = s' ∧ St M0 H H' [F, [(i_n0, AObj.row false ([.int .i64 n0_0]))], [(i_n1, AObj.row false ([.slice p_n2 k_n2 c_n2]))], oseg p_n2 (bls n2), [(i_n3, AObj.row false ([.func (.func 60) #[] #[.pointer (some ⟨i_n4, 0, none⟩)]]))], [(i_n4, AObj.row false ([.slice p_n5 k_n5 c_n5]))], oseg p_n5 (tcells3 T_n5), t3seg T_n5, [(i_n6, AObj.row false ([.slice p_n7 k_n7 c_n7]))], oseg p_n7 (bls n7), [(i_n8, AObj.row false ([.func (.func 115) #[] #[.pointer (some ⟨i_n0, 0, none⟩), .pointer (some ⟨i_n1, 0, none⟩), .pointer (some ⟨i_n3, 0, none⟩), .pointer (some ⟨i_n6, 0, none⟩), .pointer (some ⟨i_n8, 0, none⟩)]]))]] ∧ Pin F F ∧ PT F p_a0 c_a0 T_a0 ∧ (a0 = [] → p_a0 = none) ∧ Am.Sub [(0, .slice p_a0 a0.length c_a0), (1, .pointer (some ⟨i_n0, 0, none⟩)), (2, .pointer (some ⟨i_n1, 0, none⟩)), (3, .pointer (some ⟨i_n3, 0, none⟩)), (4, .pointer (some ⟨i_n6, 0, none⟩)), (5, .pointer (some ⟨i_n8, 0, none⟩)), (8, .int .i64 x260)] t') hl336 ?_ ?_
    · skip
      have S338 := S0.front 9 rfl
      have S339 := S338.front 9 rfl
      have S340 := S339.front 9 rfl
      have S341 := S340.front 9 rfl
      have S342 := S341.front 9 rfl
      have S343 := S342.front 9 rfl
      have S344 := S343.front 9 rfl
      have S345 := S344.front 9 rfl
      have S346 := S345.front 9 rfl
      have S347 := S346.front 9 rfl
      have S348 := S347.front 10 rfl
      exact ⟨1, rfl, S348, (Pin.refl F), q_a0, y_a0, Sub.cons' rfl rfl (Sub.cons' rfl rfl (Sub.cons' rfl rfl (Sub.cons' rfl rfl (Sub.cons' rfl rfl (Sub.cons' rfl rfl (Sub.cons' rfl rfl (Sub.nil _)))))))⟩
    · rintro n349 _ t' G353 ⟨x260, rfl, S352, hF247, hv258, nl259, hsub354⟩ o355 ho350 hk351
      refine AX.sub hsub354 ?_
      unfold D_impl_starters_1__impl_StarterList_1_s0 at ho350
      refine AX.seq ?_
      obtain ⟨r375, hb376, hd377⟩ := bnd_some ho350
      refine AX.cut (fun t' H' => ∃ (b374 : Bool), b374 = r375 ∧ St M0 H H' [F, [(i_n0, AObj.row false ([.int .i64 n0_0]))], [(i_n1, AObj.row false ([.slice p_n2 k_n2 c_n2]))], oseg p_n2 (bls n2), [(i_n3, AObj.row false ([.func (.func 60) #[] #[.pointer (some ⟨i_n4, 0, none⟩)]]))], [(i_n4, AObj.row false ([.slice p_n5 k_n5 c_n5]))], oseg p_n5 (tcells3 T_n5), t3seg T_n5, [(i_n6, AObj.row false ([.slice p_n7 k_n7 c_n7]))], oseg p_n7 (bls n7), [(i_n8, AObj.row false ([.func (.func 115) #[] #[.pointer (some ⟨i_n0, 0, none⟩), .pointer (some ⟨i_n1, 0, none⟩), .pointer (some ⟨i_n3, 0, none⟩), .pointer (some ⟨i_n6, 0, none⟩), .pointer (some ⟨i_n8, 0, none⟩)]]))]] ∧ Pin F F ∧ PT F p_a0 c_a0 T_a0 ∧ (a0 = [] → p_a0 = none) ∧ Am.Sub [(0, .slice p_a0 a0.length c_a0), (1, .pointer (some ⟨i_n0, 0, none⟩)), (2, .pointer (some ⟨i_n1, 0, none⟩)), (3, .pointer (some ⟨i_n3, 0, none⟩)), (4, .pointer (some ⟨i_n6, 0, none⟩)), (5, .pointer (some ⟨i_n8, 0, none⟩)), (8, .int .i64 x260), (20, .bool b374)] t') ?_ ?_
      · skip
        refine AX.region ?_
        refine AO.p rfl (p_move rfl) ?_
        refine AO.c rfl (s_load Try.isAgg2 rfl (row_cell (S352.get (k := 1) rfl) rfl)) ?_
        refine AO.p rfl (p_lss rfl rfl) ?_
        refine AO.p rfl (p_move rfl) ?_
        refine AO.cases (d := 15) rfl (fun c378 => ?_) (fun c378 => ?_)
        · have hd379 := bif_t c378 hb376
          refine AO.gc rfl rfl rfl (s_load Try.isAgg111 rfl (row_cell (S352.get (k := 2) rfl) rfl)) ?_
          refine AO.gp rfl rfl rfl (p_move rfl) ?_
          obtain ⟨k380, hd381⟩ := chk_some hd379
          refine AO.gp rfl rfl rfl (s_indexV (q := x260.toNat) Try.underlying111 Try.sizeOf4 rfl (s_n2.at (inR_pos k380)) rfl k380 (z1 _)) ?_
          refine AO.gc rfl rfl rfl (s_load Try.isAgg4 rfl (row_cell (S352.oat (k := 3) rfl (s_n2.at (inR_pos k380))) (bls_get (lt_len l_n2 (inR_lt k380))))) ?_
          refine AO.p rfl (p_pickT rfl rfl) ?_
          refine AO.nil ?_
          have S382 := S352.front 10 rfl
          have S383 := S382.front 10 rfl
          have S384 := S383.front 10 rfl
          have S385 := S384.front 10 rfl
          have S386 := S385.front 10 rfl
          have S387 := S386.front 10 rfl
          have S388 := S387.front 10 rfl
          have S389 := S388.front 10 rfl
          have S390 := S389.front 10 rfl
          have S391 := S390.front 10 rfl
          have S392 := S391.front 10 rfl
          exact ⟨(rdb n2 x260.toNat), (some_inj hd381), S392, hF247, hv258, nl259, Sub.cons' rfl rfl (Sub.cons' rfl rfl (Sub.cons' rfl rfl (Sub.cons' rfl rfl (Sub.cons' rfl rfl (Sub.cons' rfl rfl (Sub.cons' rfl rfl (Sub.cons' rfl rfl (Sub.nil _))))))))⟩
        · have hd393 := bif_f c378 hb376
          refine AO.gn rfl rfl rfl ?_
          refine AO.gn rfl rfl rfl ?_
          refine AO.gn rfl rfl rfl ?_
          refine AO.gn rfl rfl rfl ?_
          refine AO.p rfl (p_pickF rfl rfl) ?_
          refine AO.nil ?_
          have S394 := S352.front 10 rfl
          have S395 := S394.front 10 rfl
          have S396 := S395.front 10 rfl
          have S397 := S396.front 10 rfl
          have S398 := S397.front 10 rfl
          have S399 := S398.front 10 rfl
          have S400 := S399.front 10 rfl
          have S401 := S400.front 10 rfl
          have S402 := S401.front 10 rfl
          have S403 := S402.front 10 rfl
          have S404 := S403.front 10 rfl
          exact ⟨false, (some_inj hd393), S404, hF247, hv258, nl259, Sub.cons' rfl rfl (Sub.cons' rfl rfl (Sub.cons' rfl rfl (Sub.cons' rfl rfl (Sub.cons' rfl rfl (Sub.cons' rfl rfl (Sub.cons' rfl rfl (Sub.cons' rfl rfl (Sub.nil _))))))))⟩
      · rintro t' G406 ⟨b374, rfl, S405, hF361, hv372, nl373, hsub407⟩
        refine AX.sub hsub407 ?_
        refine AX.cond rfl (fun c408 => ?_) (fun c408 => ?_)
        · have hd409 := bif_t c408 hd377
          refine AX.skip ?_
          refine AX.block ?_
          refine AX.region ?_
          refine AO.p rfl (p_move rfl) ?_
          obtain ⟨k410, hd411⟩ := chk_some hd409
          refine AO.p rfl (p_addE rfl rfl k410) ?_
          refine AO.p rfl (p_assign rfl) ?_
          refine AO.nil ?_
          obtain rfl := some_inj hd411
          have S413 := S405.front 10 rfl
          have S414 := S413.front 10 rfl
          have S415 := S414.front 10 rfl
          have S416 := S415.front 10 rfl
          have S417 := S416.front 10 rfl
          have S418 := S417.front 10 rfl
          have S419 := S418.front 10 rfl
          have S420 := S419.front 10 rfl
          have S421 := S420.front 10 rfl
          have S422 := S421.front 10 rfl
          have S423 := S422.front 10 rfl
          exact ⟨x260 + 1, hk351, (x260 + 1), rfl, S423, hF361, hv372, nl373, Sub.cons' rfl rfl (Sub.cons' rfl rfl (Sub.cons' rfl rfl (Sub.cons' rfl rfl (Sub.cons' rfl rfl (Sub.cons' rfl rfl (Sub.cons' rfl rfl (Sub.nil _)))))))⟩
        · have hd424 := bif_f c408 hd377
          refine AX.exit ?_
          obtain rfl := some_inj hd424
          have S425 := S405.front 10 rfl
          have S426 := S425.front 10 rfl
          have S427 := S426.front 10 rfl
          have S428 := S427.front 10 rfl
          have S429 := S428.front 10 rfl
          have S430 := S429.front 10 rfl
          have S431 := S430.front 10 rfl
          have S432 := S431.front 10 rfl
          have S433 := S432.front 10 rfl
          have S434 := S433.front 10 rfl
          have S435 := S434.front 10 rfl
          exact ⟨x260, hk351, S435, hF361, hv372, nl373, Sub.cons' rfl rfl (Sub.cons' rfl rfl (Sub.cons' rfl rfl (Sub.cons' rfl rfl (Sub.cons' rfl rfl (Sub.cons' rfl rfl (Sub.cons' rfl rfl (Sub.nil _)))))))⟩
  · rintro t' G437 ⟨x334, rfl, S436, hF321, hv332, nl333, hsub438⟩
    refine AX.sub hsub438 ?_
    refine AX.seq ?_
    refine AX.seq ?_
    refine AX.region ?_
    refine AO.p rfl (p_move rfl) ?_
    refine AO.c rfl (s_load Try.isAgg2 rfl (row_cell (S436.get (k := 1) rfl) rfl)) ?_
    refine AO.p rfl (p_eql rfl rfl) ?_
    refine AO.nil ?_
    refine AX.cond rfl (fun c439 => ?_) (fun c439 => ?_)
    · have hd440 := bif_t c439 hd337
      refine AX.seq ?_
      refine AX.region ?_
      refine AO.c rfl (s_load Try.isAgg76 rfl (row_cell (S436.get (k := 4) rfl) rfl)) ?_
      refine AO.p rfl (p_move rfl) ?_
      have S441 := S436.front 0 rfl
      have S442 := S441.front 7 rfl
      have S443 := S442.front 7 rfl
      have S444 := S443.front 7 rfl
      have S445 : St M0 H G437 [[(i_n4, AObj.row false ([.slice p_n5 k_n5 c_n5]))], oseg p_n5 (tcells3 T_n5), t3seg T_n5, F, [(i_n0, AObj.row false ([.int .i64 n0_0]))], [(i_n1, AObj.row false ([.slice p_n2 k_n2 c_n2]))], oseg p_n2 (bls n2), [(i_n3, AObj.row false ([.func (.func 60) #[] #[.pointer (some ⟨i_n4, 0, none⟩)]]))], [(i_n6, AObj.row false ([.slice p_n7 k_n7 c_n7]))], oseg p_n7 (bls n7), [(i_n8, AObj.row false ([.func (.func 115) #[] #[.pointer (some ⟨i_n0, 0, none⟩), .pointer (some ⟨i_n1, 0, none⟩), .pointer (some ⟨i_n3, 0, none⟩), .pointer (some ⟨i_n6, 0, none⟩), .pointer (some ⟨i_n8, 0, none⟩)]]))]] := S444
      obtain ⟨⟨b446, rss447⟩, h448, hd449⟩ := bnd_some hd440
      obtain ⟨_, G458, hc460, p451, c452, T453, F450, rfl, S459, B454, t455, s456, hF457⟩ := W_impl_StarterList_1 fu G437 F p_a0 c_a0 T_a0 a0 t_a0 hv332 i_n4 p_n5 k_n5 c_n5 T_n5 n5 l_n5 s_n5 t_n5 z_n5 (St.fnodup (A := [[(i_n4, AObj.row false ([.slice p_n5 k_n5 c_n5]))], oseg p_n5 (tcells3 T_n5), t3seg T_n5, F]) S445) (St.fmem (A := [[(i_n4, AObj.row false ([.slice p_n5 k_n5 c_n5]))], oseg p_n5 (tcells3 T_n5), t3seg T_n5, F]) S445) b446 rss447 h448
      have S461 := St.callM (A := [[(i_n4, AObj.row false ([.slice p_n5 k_n5 c_n5]))], oseg p_n5 (tcells3 T_n5), t3seg T_n5, F]) S445 S459 (fun j h => h)
      refine AO.c rfl (o_callV (vs := [.slice p_a0 a0.length c_a0]) rfl rfl Try.call60 hc460) ?_
      refine AO.p rfl (p_assign rfl) ?_
      refine AO.nil ?_
      refine AX.ret ?_
      obtain ⟨rfl, z462⟩ := Prod.mk.inj (some_inj hd449)
      obtain ⟨rfl, z463⟩ := Prod.mk.inj z462
      obtain ⟨rfl, rfl⟩ := Prod.mk.inj z463
      have S465 := S461.front 3 rfl
      have S466 := S465.front 10 rfl
      have S467 := S466.front 10 rfl
      have S468 := S467.front 10 rfl
      have S469 := S468.front 6 rfl
      have S470 := S469.front 6 rfl
      have S471 := S470.front 6 rfl
      have S472 := S471.front 10 rfl
      have S473 := S472.front 10 rfl
      have S474 := S473.front 10 rfl
      have S475 := S474.front 10 rfl
      exact ⟨.inr rfl, _, res1 rfl (rv_tmp rfl), p451, c452, T453, F450, rfl, S475, l_n2, B454, t455, s456, l_n7, (hF321.mono hF457)⟩
    · have hd476 := bif_f c439 hd337
      refine AX.skip ?_
      refine AX.seq ?_
      refine AX.seq ?_
      refine AX.region ?_
      refine AO.p rfl (p_move rfl) ?_
      obtain ⟨k477, hd478⟩ := chk_some hd476
      refine AO.p rfl (p_addE rfl rfl k477) ?_
      refine AO.p rfl (p_assign rfl) ?_
      refine AO.nil ?_
      obtain ⟨r1136, hl1137, hd1138⟩ := bnd_some hd478
      refine AX.cutS (fun t' H' => ∃ (bs1124 : List Bool) (rss1130 : List (List (List Int))) (bs1134 : List Bool) (F1119 : Sg) (p1128 : Option Addr) (c1129 : Nat) (T1131 : Tb3), .inl (bs1124, rss1130, bs1134) = r1136 ∧ St M0 H H' [F1119, [(i_n0, AObj.row false ([.int .i64 n0_0]))], [(i_n1, AObj.row false ([.slice p_n2 k_n2 c_n2]))], oseg p_n2 (bls bs1124), [(i_n3, AObj.row false ([.func (.func 60) #[] #[.pointer (some ⟨i_n4, 0, none⟩)]]))], [(i_n4, AObj.row false ([.slice p1128 rss1130.length c1129]))], oseg p1128 (tcells3 T1131), t3seg T1131, [(i_n6, AObj.row false ([.slice p_n7 k_n7 c_n7]))], oseg p_n7 (bls bs1134), [(i_n8, AObj.row false ([.func (.func 115) #[] #[.pointer (some ⟨i_n0, 0, none⟩), .pointer (some ⟨i_n1, 0, none⟩), .pointer (some ⟨i_n3, 0, none⟩), .pointer (some ⟨i_n6, 0, none⟩), .pointer (some ⟨i_n8, 0, none⟩)]]))]] ∧ Pin F1119 F ∧ bs1124.length = k_n2 ∧ trows3 T1131 = rss1130 ∧ TSb3 T1131 ∧ Sb p1128 (rss1130.length) c1129 1 ∧ bs1134.length = k_n7 ∧ Am.Sub [] t') ?_ ?_
      · refine AX.block ?_
        refine AX.loopF (fun s' t' H' => ∃ (bs908 : List Bool) (rss914 : List (List (List Int))) (bs918 : List Bool) (x923 : Int) (F903 : Sg) (p912 : Option Addr) (c913 : Nat) (T915 : Tb3), (bs908, rss914, bs918, x923) = s' ∧ St M0 H H' [F903, [(i_n0, AObj.row false ([.int .i64 n0_0]))], [(i_n1, AObj.row false ([.slice p_n2 k_n2 c_n2]))], oseg p_n2 (bls bs908), [(i_n3, AObj.row false ([.func (.func 60) #[] #[.pointer (some ⟨i_n4, 0, none⟩)]]))], [(i_n4, AObj.row false ([.slice p912 rss914.length c913]))], oseg p912 (tcells3 T915), t3seg T915, [(i_n6, AObj.row false ([.slice p_n7 k_n7 c_n7]))], oseg p_n7 (bls bs918), [(i_n8, AObj.row false ([.func (.func 115) #[] #[.pointer (some ⟨i_n0, 0, none⟩), .pointer (some ⟨i_n1, 0, none⟩), .pointer (some ⟨i_n3, 0, none⟩), .pointer (some ⟨i_n6, 0, none⟩), .pointer (some ⟨i_n8, 0, none⟩)]]))]] ∧ Pin F903 F ∧ bs908.length = k_n2 ∧ trows3 T915 = rss914 ∧ TSb3 T915 ∧ Sb p912 (rss914.length) c913 1 ∧ bs918.length = k_n7 ∧ PT F903 p_a0 c_a0 T_a0 ∧ (a0 = [] → p_a0 = none) ∧ Am.Sub [(0, .slice p_a0 a0.length c_a0), (1, .pointer (some ⟨i_n0, 0, none⟩)), (2, .pointer (some ⟨i_n1, 0, none⟩)), (4, .pointer (some ⟨i_n6, 0, none⟩)), (5, .pointer (some ⟨i_n8, 0, none⟩)), (8, .int .i64 x334), (9, .int .i64 x923)] t') hl1137 ?_ ?_
        · skip
          have S1139 := S436.cellsEq (k := 5) (p := some ⟨i_n4, 0, none⟩) (us' := [.slice p_n5 n5.length c_n5]) (by rw [show List.length n5 = k_n5 from l_n5]) rfl
          have S1140 := S1139.front 10 rfl
          have S1141 := S1140.front 10 rfl
          have S1142 := S1141.front 10 rfl
          have S1143 := S1142.front 10 rfl
          have S1144 := S1143.front 10 rfl
          have S1145 := S1144.front 10 rfl
          have S1146 := S1145.front 10 rfl
          have S1147 := S1146.front 10 rfl
          have S1148 := S1147.front 10 rfl
          have S1149 := S1148.front 10 rfl
          have S1150 := S1149.front 10 rfl
          exact ⟨n2, n5, n7, (x334 + 1), F, p_n5, c_n5, T_n5, rfl, S1150, hF321, l_n2, t_n5, z_n5, (Eq.symm l_n5 ▸ s_n5), l_n7, hv332, nl333, Sub.cons' rfl rfl (Sub.cons' rfl rfl (Sub.cons' rfl rfl (Sub.cons' rfl rfl (Sub.cons' rfl rfl (Sub.cons' rfl rfl (Sub.cons' rfl rfl (Sub.nil _)))))))⟩
        · rintro n1151 _ t' G1155 ⟨bs908, rss914, bs918, x923, F903, p912, c913, T915, rfl, S1154, hF904, lbs908, tT915, sT915, Bo911, lbs918, hv921, nl922, hsub1156⟩ o1157 ho1152 hk1153
          refine AX.sub hsub1156 ?_
          unfold D_impl_starters_1__impl_StarterList_1_s1 at ho1152
          refine AX.seq ?_
          refine AX.seq ?_
          refine AX.region ?_
          refine AO.p rfl (p_move rfl) ?_
          refine AO.c rfl (s_load Try.isAgg2 rfl (row_cell (S1154.get (k := 1) rfl) rfl)) ?_
          refine AO.p rfl (p_lss rfl rfl) ?_
          refine AO.nil ?_
          refine AX.cond rfl (fun c1158 => ?_) (fun c1158 => ?_)
          · have hd1159 := bif_t c1158 ho1152
            refine AX.skip ?_
            refine AX.seq ?_
            refine AX.block ?_
            refine AX.seq ?_
            refine AX.region ?_
            refine AO.p rfl (p_move rfl) ?_
            refine AO.p rfl (p_move rfl) ?_
            obtain ⟨k1160, hd1161⟩ := chk_some hd1159
            refine AO.p rfl (p_subE rfl rfl k1160) ?_
            refine AO.c rfl (s_load Try.isAgg2 rfl (row_cell (S1154.get (k := 1) rfl) rfl)) ?_
            refine AO.p rfl (p_move rfl) ?_
            obtain ⟨k1162, hd1163⟩ := chk_some hd1161
            refine AO.p rfl (p_subE rfl rfl k1162) ?_
            refine AO.p rfl (p_move rfl) ?_
            obtain ⟨k1164, hd1165⟩ := chk_some hd1163
            refine AO.p rfl (p_addE rfl rfl k1164) ?_
            refine AO.p rfl (p_min rfl rfl rfl) ?_
            refine AO.p rfl (p_assign rfl) ?_
            refine AO.nil ?_
            refine AX.seq ?_
            obtain ⟨r1187, hb1188, hd1189⟩ := bnd_some hd1165
            refine AX.cut (fun t' H' => ∃ (b1186 : Bool), b1186 = r1187 ∧ St M0 H H' [F903, [(i_n0, AObj.row false ([.int .i64 n0_0]))], [(i_n1, AObj.row false ([.slice p_n2 k_n2 c_n2]))], oseg p_n2 (bls bs908), [(i_n3, AObj.row false ([.func (.func 60) #[] #[.pointer (some ⟨i_n4, 0, none⟩)]]))], [(i_n4, AObj.row false ([.slice p912 rss914.length c913]))], oseg p912 (tcells3 T915), t3seg T915, [(i_n6, AObj.row false ([.slice p_n7 k_n7 c_n7]))], oseg p_n7 (bls bs918), [(i_n8, AObj.row false ([.func (.func 115) #[] #[.pointer (some ⟨i_n0, 0, none⟩), .pointer (some ⟨i_n1, 0, none⟩), .pointer (some ⟨i_n3, 0, none⟩), .pointer (some ⟨i_n6, 0, none⟩), .pointer (some ⟨i_n8, 0, none⟩)]]))]] ∧ Pin F903 F ∧ PT F903 p_a0 c_a0 T_a0 ∧ (a0 = [] → p_a0 = none) ∧ Am.Sub [(0, .slice p_a0 a0.length c_a0), (1, .pointer (some ⟨i_n0, 0, none⟩)), (2, .pointer (some ⟨i_n1, 0, none⟩)), (4, .pointer (some ⟨i_n6, 0, none⟩)), (5, .pointer (some ⟨i_n8, 0, none⟩)), (8, .int .i64 x334), (9, .int .i64 x923), (10, .int .i64 (if n0_0 - x923 + x334 < x923 - x334 then n0_0 - x923 + x334 else x923 - x334)), (54, .bool b1186)] t') ?_ ?_
            · skip
              refine AX.region ?_
              refine AO.c rfl (s_load Try.isAgg111 rfl (row_cell (S1154.get (k := 2) rfl) rfl)) ?_
              refine AO.p rfl (p_move rfl) ?_
              obtain ⟨k1190, hd1191⟩ := chk_some hb1188
              refine AO.p rfl (s_indexV (q := x923.toNat) Try.underlying111 Try.sizeOf4 rfl (s_n2.at (inR_pos k1190)) rfl k1190 (z1 _)) ?_
              refine AO.c rfl (s_load Try.isAgg4 rfl (row_cell (S1154.oat (k := 3) rfl (s_n2.at (inR_pos k1190))) (bls_get (lt_len lbs908 (inR_lt k1190))))) ?_
              refine AO.p rfl (p_move rfl) ?_
              refine AO.cases (d := 49) rfl (fun c1192 => ?_) (fun c1192 => ?_)
              · have hd1193 := bif_t c1192 hd1191
                refine AO.gn rfl rfl rfl ?_
                refine AO.gn rfl rfl rfl ?_
                refine AO.gn rfl rfl rfl ?_
                refine AO.gn rfl rfl rfl ?_
                refine AO.p rfl (p_pickT rfl rfl) ?_
                refine AO.nil ?_
                have S1194 := S1154.front 10 rfl
                have S1195 := S1194.front 10 rfl
                have S1196 := S1195.front 10 rfl
                have S1197 := S1196.front 10 rfl
                have S1198 := S1197.front 10 rfl
                have S1199 := S1198.front 10 rfl
                have S1200 := S1199.front 10 rfl
                have S1201 := S1200.front 10 rfl
                have S1202 := S1201.front 10 rfl
                have S1203 := S1202.front 10 rfl
                have S1204 := S1203.front 10 rfl
                exact ⟨true, (some_inj hd1193), S1204, hF904, hv921, nl922, Sub.cons' rfl rfl (Sub.cons' rfl rfl (Sub.cons' rfl rfl (Sub.cons' rfl rfl (Sub.cons' rfl rfl (Sub.cons' rfl rfl (Sub.cons' rfl rfl (Sub.cons' rfl rfl (Sub.cons' rfl rfl (Sub.nil _)))))))))⟩
              · have hd1205 := bif_f c1192 hd1191
                refine AO.gc rfl rfl rfl (s_load Try.isAgg111 rfl (row_cell (S1154.get (k := 8) rfl) rfl)) ?_
                refine AO.gp rfl rfl rfl (p_move rfl) ?_
                obtain ⟨k1206, hd1207⟩ := chk_some hd1205
                refine AO.gp rfl rfl rfl (s_indexV (q := (if n0_0 - x923 + x334 < x923 - x334 then n0_0 - x923 + x334 else x923 - x334).toNat) Try.underlying111 Try.sizeOf4 rfl (s_n7.at (inR_pos k1206)) rfl k1206 (z1 _)) ?_
                refine AO.gc rfl rfl rfl (s_load Try.isAgg4 rfl (row_cell (S1154.oat (k := 9) rfl (s_n7.at (inR_pos k1206))) (bls_get (lt_len lbs918 (inR_lt k1206))))) ?_
                refine AO.p rfl (p_pickF rfl rfl) ?_
                refine AO.nil ?_
                have S1208 := S1154.front 10 rfl
                have S1209 := S1208.front 10 rfl
                have S1210 := S1209.front 10 rfl
                have S1211 := S1210.front 10 rfl
                have S1212 := S1211.front 10 rfl
                have S1213 := S1212.front 10 rfl
                have S1214 := S1213.front 10 rfl
                have S1215 := S1214.front 10 rfl
                have S1216 := S1215.front 10 rfl
                have S1217 := S1216.front 10 rfl
                have S1218 := S1217.front 10 rfl
                exact ⟨(rdb bs918 ((if n0_0 - x923 + x334 < x923 - x334 then n0_0 - x923 + x334 else x923 - x334).toNat)), (some_inj hd1207), S1218, hF904, hv921, nl922, Sub.cons' rfl rfl (Sub.cons' rfl rfl (Sub.cons' rfl rfl (Sub.cons' rfl rfl (Sub.cons' rfl rfl (Sub.cons' rfl rfl (Sub.cons' rfl rfl (Sub.cons' rfl rfl (Sub.cons' rfl rfl (Sub.nil _)))))))))⟩
            · rintro t' G1220 ⟨b1186, rfl, S1219, hF1173, hv1184, nl1185, hsub1221⟩
              refine AX.sub hsub1221 ?_
              refine AX.cond rfl (fun c1222 => ?_) (fun c1222 => ?_)
              · have hd1223 := bif_t c1222 hd1189
                refine AX.exit ?_
                refine AX.region ?_
                refine AO.p rfl (p_move rfl) ?_
                obtain ⟨k1224, hd1225⟩ := chk_some hd1223
                refine AO.p rfl (p_addE rfl rfl k1224) ?_
                refine AO.p rfl (p_assign rfl) ?_
                refine AO.nil ?_
                obtain rfl := some_inj hd1225
                have S1227 := S1219.front 10 rfl
                have S1228 := S1227.front 10 rfl
                have S1229 := S1228.front 10 rfl
                have S1230 := S1229.front 10 rfl
                have S1231 := S1230.front 10 rfl
                have S1232 := S1231.front 10 rfl
                have S1233 := S1232.front 10 rfl
                have S1234 := S1233.front 10 rfl
                have S1235 := S1234.front 10 rfl
                have S1236 := S1235.front 10 rfl
                have S1237 := S1236.front 10 rfl
                exact ⟨(bs908, rss914, bs918, x923 + 1), hk1153, bs908, rss914, bs918, (x923 + 1), F903, p912, c913, T915, rfl, S1237, hF1173, lbs908, tT915, sT915, Bo911, lbs918, hv1184, nl1185, Sub.cons' rfl rfl (Sub.cons' rfl rfl (Sub.cons' rfl rfl (Sub.cons' rfl rfl (Sub.cons' rfl rfl (Sub.cons' rfl rfl (Sub.cons' rfl rfl (Sub.nil _)))))))⟩
              · have hd1238 := bif_f c1222 hd1189
                refine AX.skip ?_
                refine AX.seq ?_
                refine DR.startS [false, false, false, false, false, false, false, true, false, true, false, true] mix (by kernel_rfl) (fun hst => ?_)
                refine DR.r rfl rfl (r_load rfl Try.isAgg111) (one_read (row_cell (S1219.get (k := 2) rfl) rfl) (S1219.oin (k := 3) rfl s_n2).bel) ?_
                refine DR.p rfl rfl (p_move rfl) ?_
                refine DR.r rfl rfl (r_load rfl Try.isAgg111) (one_read (row_cell (S1219.get (k := 2) rfl) rfl) (S1219.oin (k := 3) rfl s_n2).bel) ?_
                refine DR.p rfl rfl (p_move rfl) ?_
                refine DR.r rfl rfl (r_load rfl Try.isAgg111) (one_read (row_cell (S1219.get (k := 8) rfl) rfl) (S1219.oin (k := 9) rfl s_n7).bel) ?_
                refine DR.p rfl rfl (p_move rfl) ?_
                obtain ⟨k1239, hd1240⟩ := chk_some hd1238
                refine DR.p rfl rfl (s_indexV (q := x334.toNat) Try.underlying111 Try.sizeOf4 rfl (s_n2.at (inR_pos k1239)) rfl k1239 (z1 _)) ?_
                obtain ⟨G1241, hHG1241, S1242⟩ := S1219.oset (k := 3) (p := p_n2) rfl (s_n2.at (inR_pos k1239)) (bls (bs908.set x334.toNat true))
                have S1243 : St M0 H G1241 [F903, [(i_n0, AObj.row false ([.int .i64 n0_0]))], [(i_n1, AObj.row false ([.slice p_n2 k_n2 c_n2]))], oseg p_n2 (bls (bs908.set x334.toNat true)), [(i_n3, AObj.row false ([.func (.func 60) #[] #[.pointer (some ⟨i_n4, 0, none⟩)]]))], [(i_n4, AObj.row false ([.slice p912 rss914.length c913]))], oseg p912 (tcells3 T915), t3seg T915, [(i_n6, AObj.row false ([.slice p_n7 k_n7 c_n7]))], oseg p_n7 (bls bs918), [(i_n8, AObj.row false ([.func (.func 115) #[] #[.pointer (some ⟨i_n0, 0, none⟩), .pointer (some ⟨i_n1, 0, none⟩), .pointer (some ⟨i_n3, 0, none⟩), .pointer (some ⟨i_n6, 0, none⟩), .pointer (some ⟨i_n8, 0, none⟩)]]))]] := S1242
                refine DR.s rfl (s_store Try.sizeOf4 rfl rfl rfl (S1219.oat (k := 3) rfl (s_n2.at (inR_pos k1239))) (lt_len ((bls_length _).trans lbs908) (inR_lt k1239)) ((congrArg (fun l => List.set _ _ (AObj.row false l)) (bls_set _ _ _)).trans hHG1241)) (set_le hHG1241) ?_
                obtain ⟨k1244, hd1245⟩ := chk_some hd1240
                refine DR.p rfl rfl (s_indexV (q := x923.toNat) Try.underlying111 Try.sizeOf4 rfl (s_n2.at (inR_pos k1244)) rfl k1244 (z1 _)) ?_
                obtain ⟨G1246, hHG1246, S1247⟩ := S1243.oset (k := 3) (p := p_n2) rfl (s_n2.at (inR_pos k1244)) (bls ((bs908.set x334.toNat true).set x923.toNat true))
                have S1248 : St M0 H G1246 [F903, [(i_n0, AObj.row false ([.int .i64 n0_0]))], [(i_n1, AObj.row false ([.slice p_n2 k_n2 c_n2]))], oseg p_n2 (bls ((bs908.set x334.toNat true).set x923.toNat true)), [(i_n3, AObj.row false ([.func (.func 60) #[] #[.pointer (some ⟨i_n4, 0, none⟩)]]))], [(i_n4, AObj.row false ([.slice p912 rss914.length c913]))], oseg p912 (tcells3 T915), t3seg T915, [(i_n6, AObj.row false ([.slice p_n7 k_n7 c_n7]))], oseg p_n7 (bls bs918), [(i_n8, AObj.row false ([.func (.func 115) #[] #[.pointer (some ⟨i_n0, 0, none⟩), .pointer (some ⟨i_n1, 0, none⟩), .pointer (some ⟨i_n3, 0, none⟩), .pointer (some ⟨i_n6, 0, none⟩), .pointer (some ⟨i_n8, 0, none⟩)]]))]] := S1247
                refine DR.s rfl (s_store Try.sizeOf4 rfl rfl rfl (S1243.oat (k := 3) rfl (s_n2.at (inR_pos k1244))) (lt_len ((bls_length _).trans (len_set lbs908)) (inR_lt k1244)) ((congrArg (fun l => List.set _ _ (AObj.row false l)) (bls_set _ _ _)).trans hHG1246)) (set_le hHG1246) ?_
                obtain ⟨k1249, hd1250⟩ := chk_some hd1245
                refine DR.p rfl rfl (s_indexV (q := (if n0_0 - x923 + x334 < x923 - x334 then n0_0 - x923 + x334 else x923 - x334).toNat) Try.underlying111 Try.sizeOf4 rfl (s_n7.at (inR_pos k1249)) rfl k1249 (z1 _)) ?_
                obtain ⟨G1251, hHG1251, S1252⟩ := S1248.oset (k := 9) (p := p_n7) rfl (s_n7.at (inR_pos k1249)) (bls (bs918.set ((if n0_0 - x923 + x334 < x923 - x334 then n0_0 - x923 + x334 else x923 - x334).toNat) true))
                have S1253 : St M0 H G1251 [F903, [(i_n0, AObj.row false ([.int .i64 n0_0]))], [(i_n1, AObj.row false ([.slice p_n2 k_n2 c_n2]))], oseg p_n2 (bls ((bs908.set x334.toNat true).set x923.toNat true)), [(i_n3, AObj.row false ([.func (.func 60) #[] #[.pointer (some ⟨i_n4, 0, none⟩)]]))], [(i_n4, AObj.row false ([.slice p912 rss914.length c913]))], oseg p912 (tcells3 T915), t3seg T915, [(i_n6, AObj.row false ([.slice p_n7 k_n7 c_n7]))], oseg p_n7 (bls (bs918.set ((if n0_0 - x923 + x334 < x923 - x334 then n0_0 - x923 + x334 else x923 - x334).toNat) true)), [(i_n8, AObj.row false ([.func (.func 115) #[] #[.pointer (some ⟨i_n0, 0, none⟩), .pointer (some ⟨i_n1, 0, none⟩), .pointer (some ⟨i_n3, 0, none⟩), .pointer (some ⟨i_n6, 0, none⟩), .pointer (some ⟨i_n8, 0, none⟩)]]))]] := S1252
                refine DR.s rfl (s_store Try.sizeOf4 rfl rfl rfl (S1248.oat (k := 9) rfl (s_n7.at (inR_pos k1249))) (lt_len ((bls_length _).trans lbs918) (inR_lt k1249)) ((congrArg (fun l => List.set _ _ (AObj.row false l)) (bls_set _ _ _)).trans hHG1251)) (set_le hHG1251) ?_
                refine DR.nil 12 [(2, 7), (4, 7), (4, 9)] hst (by kernel_rfl) ⟨(rd1 (fun _ => (S1243.get (k := 2) rfl).trans (S1219.get (k := 2) rfl).symm)), (rd1 (fun _ => (S1243.get (k := 8) rfl).trans (S1219.get (k := 8) rfl).symm)), (rd1 (fun _ => (S1248.get (k := 8) rfl).trans (S1243.get (k := 8) rfl).symm)), trivial⟩ ?_
                refine AX.seq ?_
                refine DR.startS [false, false, true, false, false, false, false, true, true, false] mix (by kernel_rfl) (fun hst => ?_)
                refine DR.r rfl rfl (r_load rfl Try.isAgg76) (one_read (row_cell (S1253.get (k := 10) rfl) rfl) (bel_fn (bel_cons (.ptr _ _ (S1253.lt (k := 1) rfl)) (bel_cons (.ptr _ _ (S1253.lt (k := 2) rfl)) (bel_cons (.ptr _ _ (S1253.lt (k := 4) rfl)) (bel_cons (.ptr _ _ (S1253.lt (k := 8) rfl)) (bel_cons (.ptr _ _ (S1253.lt (k := 10) rfl)) bel_nil))))))) ?_
                refine DR.p rfl rfl (p_move rfl) ?_
                have S1254 := S1253.front 0 rfl
                have S1255 : St M0 H G1251 [F903, [(i_n0, AObj.row false ([.int .i64 n0_0]))], [(i_n1, AObj.row false ([.slice p_n2 k_n2 c_n2]))], oseg p_n2 (bls ((bs908.set x334.toNat true).set x923.toNat true)), [(i_n3, AObj.row false ([.func (.func 60) #[] #[.pointer (some ⟨i_n4, 0, none⟩)]]))], [(i_n4, AObj.row false ([.slice p912 rss914.length c913]))], oseg p912 (tcells3 T915), t3seg T915, [(i_n6, AObj.row false ([.slice p_n7 k_n7 c_n7]))], oseg p_n7 (bls (bs918.set ((if n0_0 - x923 + x334 < x923 - x334 then n0_0 - x923 + x334 else x923 - x334).toNat) true)), [(i_n8, AObj.row false ([.func (.func 115) #[] #[.pointer (some ⟨i_n0, 0, none⟩), .pointer (some ⟨i_n1, 0, none⟩), .pointer (some ⟨i_n3, 0, none⟩), .pointer (some ⟨i_n6, 0, none⟩), .pointer (some ⟨i_n8, 0, none⟩)]]))]] := S1254
                obtain ⟨rs1256, h1257, hd1258⟩ := bnd_some hd1250
                obtain ⟨_, G1268, hc1270, p1260, c1261, T1264, F1259, rfl, S1269, B1262, t1265, hp1266, hF1267⟩ := W_slices_Clone_SSint64_Sint64 fu G1251 F903 p_a0 c_a0 T_a0 a0 t_a0 hv1184 nl1185 (St.fnodup (A := [F903]) S1255) (St.fmem (A := [F903]) S1255) rs1256 h1257
                have S1271 := St.callM (A := [F903]) S1255 S1269 (fun j h => h)
                refine DR.w rfl rfl (o_call (vs := [.slice p_a0 a0.length c_a0]) rfl Try.call116 hc1270) (S1269.len) ?_
                refine DR.p rfl rfl (p_move rfl) ?_
                refine DR.p rfl rfl (p_move rfl) ?_
                obtain ⟨G1272, i1273, hii1273, hHG1272, S1274⟩ := S1271.new (AObj.row false (ints [x334, x923]))
                refine DR.a rfl rfl hii1273 hHG1272 (a_buildInts (vs := [(0, .int .i64 x334), (1, .int .i64 x923)]) (xs := [x334, x923]) Try.underlying58 Try.sizeOf2 Try.zeroValue2 rfl rfl (by decide) rfl rfl) ?_
                obtain ⟨G1276, i1277, hii1277, hHG1276, S1278⟩ := S1274.new (AObj.row false (tcells ([((some (Addr.mk i1273 0 none)), 2, [x334, x923])])))
                have S1280 := (S1278.front 1 rfl).tone (some (Addr.mk i1273 0 none)) 2 [x334, x923] rfl
                refine DR.a rfl rfl hii1277 hHG1276 (a_buildT1 (X := [((some (Addr.mk i1273 0 none)), 2, [x334, x923])]) (n := 2) rfl Try.underlying43 Try.sizeOf58 Try.zeroValue58 rfl rfl) ?_
                obtain ⟨k1281, hd1282⟩ := chk_some hd1258
                obtain ⟨p1283, c1284, G1285, haG1285, S1286, Bp1283⟩ := S1280.app (k := 2) rfl B1262 (tcells ([((some (Addr.mk i1273 0 none)), 2, [x334, x923])])) 1 (tc_len1 rfl rfl)
                have S1287 := S1286.cellsEq (k := 2) (us' := tcells (T1264 ++ [((some (Addr.mk i1273 0 none)), 2, [x334, x923])])) (tcells_app _ _).symm rfl
                have BS1287 : Sb p1283 ((rs1256 ++ [[x334, x923]]).length) c1284 1 := (show rs1256.length + 1 = (rs1256 ++ [[x334, x923]]).length from len_app (a := rs1256) (b := [[x334, x923]]) rfl rfl) ▸ Bp1283
                have S1288 := S1287.front 3 rfl
                have S1289 := S1288.front 1 rfl
                have S1290 : St M0 H G1285 [tseg ([((some (Addr.mk i1273 0 none)), 2, [x334, x923])]), F1259, [(i1277, AObj.row false (tcells ([((some (Addr.mk i1273 0 none)), 2, [x334, x923])])))], oseg p1283 (tcells (T1264 ++ [((some (Addr.mk i1273 0 none)), 2, [x334, x923])])), [(i_n0, AObj.row false ([.int .i64 n0_0]))], [(i_n1, AObj.row false ([.slice p_n2 k_n2 c_n2]))], oseg p_n2 (bls ((bs908.set x334.toNat true).set x923.toNat true)), [(i_n3, AObj.row false ([.func (.func 60) #[] #[.pointer (some ⟨i_n4, 0, none⟩)]]))], [(i_n4, AObj.row false ([.slice p912 rss914.length c913]))], oseg p912 (tcells3 T915), t3seg T915, [(i_n6, AObj.row false ([.slice p_n7 k_n7 c_n7]))], oseg p_n7 (bls (bs918.set ((if n0_0 - x923 + x334 < x923 - x334 then n0_0 - x923 + x334 else x923 - x334).toNat) true)), [(i_n8, AObj.row false ([.func (.func 115) #[] #[.pointer (some ⟨i_n0, 0, none⟩), .pointer (some ⟨i_n1, 0, none⟩), .pointer (some ⟨i_n3, 0, none⟩), .pointer (some ⟨i_n6, 0, none⟩), .pointer (some ⟨i_n8, 0, none⟩)]]))]] := S1289
                obtain ⟨F1291, hF1292, hp1293, S1294⟩ := S1290.poolRows (T := T1264) hp1266 (TSb.one (sb_len rfl (Sb.lit (n := 2) (by decide))))
                have S1295 := S1294.drop 1 rfl
                refine DR.w rfl rfl (s_app (by_ := 24) (us := tcells T1264) (vs := tcells ([((some (Addr.mk i1273 0 none)), 2, [x334, x923])])) Try.underlying43 Try.underlying43 Try.typeInfo58 Try.sizeOf58 Try.zeroValue58 rfl rfl rfl rfl rfl rfl rfl (S1280.buf (k := 2) rfl B1262 (tc_len1 t1265 rfl)) (S1280.oview (k := 1) rfl (Sb.lit (n := 1) (by decide)) (tc_len1 rfl rfl)) (tc_len1 rfl rfl) tcells_one k1281 haG1285 (show rs1256.length + 1 = (rs1256 ++ [[x334, x923]]).length from len_app (a := rs1256) (b := [[x334, x923]]) rfl rfl)) (appR_len haG1285) ?_
                have S1296 := S1295.front 0 rfl
                have S1297 := S1296.front 1 rfl
                have S1298 : St M0 H G1285 [oseg p1283 (tcells (T1264 ++ [((some (Addr.mk i1273 0 none)), 2, [x334, x923])])), F1291, [(i_n0, AObj.row false ([.int .i64 n0_0]))], [(i_n1, AObj.row false ([.slice p_n2 k_n2 c_n2]))], oseg p_n2 (bls ((bs908.set x334.toNat true).set x923.toNat true)), [(i_n3, AObj.row false ([.func (.func 60) #[] #[.pointer (some ⟨i_n4, 0, none⟩)]]))], [(i_n4, AObj.row false ([.slice p912 rss914.length c913]))], oseg p912 (tcells3 T915), t3seg T915, [(i_n6, AObj.row false ([.slice p_n7 k_n7 c_n7]))], oseg p_n7 (bls (bs918.set ((if n0_0 - x923 + x334 < x923 - x334 then n0_0 - x923 + x334 else x923 - x334).toNat) true)), [(i_n8, AObj.row false ([.func (.func 115) #[] #[.pointer (some ⟨i_n0, 0, none⟩), .pointer (some ⟨i_n1, 0, none⟩), .pointer (some ⟨i_n3, 0, none⟩), .pointer (some ⟨i_n6, 0, none⟩), .pointer (some ⟨i_n8, 0, none⟩)]]))]] := S1297
                obtain ⟨F1299, hF1300, hp1301, S1302⟩ := S1298.poolHdr hp1293 BS1287 (tlen (trows_apps t1265 rfl))
                obtain ⟨k1304, hd1305⟩ := chk_some hd1282
                have S1306 := S1302.front 0 rfl
                have S1307 := S1306.front 10 rfl
                have S1308 := S1307.front 10 rfl
                have S1309 := S1308.front 10 rfl
                have S1310 := S1309.front 10 rfl
                have S1311 := S1310.front 10 rfl
                have S1312 := S1311.front 10 rfl
                have S1313 := S1312.front 10 rfl
                have S1314 := S1313.front 10 rfl
                have S1315 := S1314.front 10 rfl
                have S1316 := S1315.front 10 rfl
                have S1317 : St M0 H G1285 [[(i_n0, AObj.row false ([.int .i64 n0_0]))], [(i_n1, AObj.row false ([.slice p_n2 k_n2 c_n2]))], oseg p_n2 (bls ((bs908.set x334.toNat true).set x923.toNat true)), [(i_n3, AObj.row false ([.func (.func 60) #[] #[.pointer (some ⟨i_n4, 0, none⟩)]]))], [(i_n4, AObj.row false ([.slice p912 rss914.length c913]))], oseg p912 (tcells3 T915), t3seg T915, [(i_n6, AObj.row false ([.slice p_n7 k_n7 c_n7]))], oseg p_n7 (bls (bs918.set ((if n0_0 - x923 + x334 < x923 - x334 then n0_0 - x923 + x334 else x923 - x334).toNat) true)), [(i_n8, AObj.row false ([.func (.func 115) #[] #[.pointer (some ⟨i_n0, 0, none⟩), .pointer (some ⟨i_n1, 0, none⟩), .pointer (some ⟨i_n3, 0, none⟩), .pointer (some ⟨i_n6, 0, none⟩), .pointer (some ⟨i_n8, 0, none⟩)]]))], F1299] := S1316
                obtain ⟨⟨b1318, bs1319, rss1320, bs1321⟩, h1322, hd1323⟩ := bnd_some hd1305
                obtain ⟨_, G1334, hc1336, p1326, c1327, T1328, F1324, rfl, S1335, l1325, B1329, t1330, s1331, l1332, hF1333⟩ := ih G1285 F1299 p1283 c1284 (T1264 ++ [((some (Addr.mk i1273 0 none)), 2, [x334, x923])]) (rs1256 ++ [[x334, x923]]) (trows_apps t1265 rfl) hp1301 (nil_pos2 k1304) i_n0 n0_0 i_n1 p_n2 k_n2 c_n2 ((bs908.set x334.toNat true).set x923.toNat true) (len_set (len_set lbs908)) s_n2 i_n3 i_n4 p912 rss914.length c913 T915 rss914 rfl Bo911 tT915 sT915 i_n6 p_n7 k_n7 c_n7 (bs918.set ((if n0_0 - x923 + x334 < x923 - x334 then n0_0 - x923 + x334 else x923 - x334).toNat) true) (len_set lbs918) s_n7 i_n8 (St.fnodup (A := [[(i_n0, AObj.row false ([.int .i64 n0_0]))], [(i_n1, AObj.row false ([.slice p_n2 k_n2 c_n2]))], oseg p_n2 (bls ((bs908.set x334.toNat true).set x923.toNat true)), [(i_n3, AObj.row false ([.func (.func 60) #[] #[.pointer (some ⟨i_n4, 0, none⟩)]]))], [(i_n4, AObj.row false ([.slice p912 rss914.length c913]))], oseg p912 (tcells3 T915), t3seg T915, [(i_n6, AObj.row false ([.slice p_n7 k_n7 c_n7]))], oseg p_n7 (bls (bs918.set ((if n0_0 - x923 + x334 < x923 - x334 then n0_0 - x923 + x334 else x923 - x334).toNat) true)), [(i_n8, AObj.row false ([.func (.func 115) #[] #[.pointer (some ⟨i_n0, 0, none⟩), .pointer (some ⟨i_n1, 0, none⟩), .pointer (some ⟨i_n3, 0, none⟩), .pointer (some ⟨i_n6, 0, none⟩), .pointer (some ⟨i_n8, 0, none⟩)]]))], F1299]) S1317) (St.fmem (A := [[(i_n0, AObj.row false ([.int .i64 n0_0]))], [(i_n1, AObj.row false ([.slice p_n2 k_n2 c_n2]))], oseg p_n2 (bls ((bs908.set x334.toNat true).set x923.toNat true)), [(i_n3, AObj.row false ([.func (.func 60) #[] #[.pointer (some ⟨i_n4, 0, none⟩)]]))], [(i_n4, AObj.row false ([.slice p912 rss914.length c913]))], oseg p912 (tcells3 T915), t3seg T915, [(i_n6, AObj.row false ([.slice p_n7 k_n7 c_n7]))], oseg p_n7 (bls (bs918.set ((if n0_0 - x923 + x334 < x923 - x334 then n0_0 - x923 + x334 else x923 - x334).toNat) true)), [(i_n8, AObj.row false ([.func (.func 115) #[] #[.pointer (some ⟨i_n0, 0, none⟩), .pointer (some ⟨i_n1, 0, none⟩), .pointer (some ⟨i_n3, 0, none⟩), .pointer (some ⟨i_n6, 0, none⟩), .pointer (some ⟨i_n8, 0, none⟩)]]))], F1299]) S1317) b1318 bs1319 rss1320 bs1321 h1322
                have S1337 := St.callM (A := [[(i_n0, AObj.row false ([.int .i64 n0_0]))], [(i_n1, AObj.row false ([.slice p_n2 k_n2 c_n2]))], oseg p_n2 (bls ((bs908.set x334.toNat true).set x923.toNat true)), [(i_n3, AObj.row false ([.func (.func 60) #[] #[.pointer (some ⟨i_n4, 0, none⟩)]]))], [(i_n4, AObj.row false ([.slice p912 rss914.length c913]))], oseg p912 (tcells3 T915), t3seg T915, [(i_n6, AObj.row false ([.slice p_n7 k_n7 c_n7]))], oseg p_n7 (bls (bs918.set ((if n0_0 - x923 + x334 < x923 - x334 then n0_0 - x923 + x334 else x923 - x334).toNat) true)), [(i_n8, AObj.row false ([.func (.func 115) #[] #[.pointer (some ⟨i_n0, 0, none⟩), .pointer (some ⟨i_n1, 0, none⟩), .pointer (some ⟨i_n3, 0, none⟩), .pointer (some ⟨i_n6, 0, none⟩), .pointer (some ⟨i_n8, 0, none⟩)]]))], F1299]) S1317 S1335 (fun j h => h)
                refine DR.w rfl rfl (o_callV (vs := [.slice p1283 ((rs1256 ++ [[x334, x923]]).length) c1284]) rfl rfl Try.call115 hc1336) (S1335.len) ?_
                refine DR.p rfl rfl (p_assign rfl) ?_
                refine DR.nil 10 [(0, 2), (0, 7), (5, 2), (6, 2)] hst (by kernel_rfl) ⟨(rd1 (fun _ => (S1271.get (k := 11) rfl).trans (S1253.get (k := 10) rfl).symm)), (rd1 (fun _ => (S1295.get (k := 11) rfl).trans (S1280.get (k := 13) rfl).symm)), (fun h => absurd h (by decide)), (fun h => absurd h (by decide)), trivial⟩ ?_
                refine AX.seq ?_
                refine DR.startS [false, false, false, false, false, false, false, true, false, true, false, true] mix (by kernel_rfl) (fun hst => ?_)
                refine DR.r rfl rfl (r_load rfl Try.isAgg111) (one_read (row_cell (S1337.get (k := 1) rfl) rfl) (S1337.oin (k := 2) rfl s_n2).bel) ?_
                refine DR.p rfl rfl (p_move rfl) ?_
                refine DR.r rfl rfl (r_load rfl Try.isAgg111) (one_read (row_cell (S1337.get (k := 1) rfl) rfl) (S1337.oin (k := 2) rfl s_n2).bel) ?_
                refine DR.p rfl rfl (p_move rfl) ?_
                refine DR.r rfl rfl (r_load rfl Try.isAgg111) (one_read (row_cell (S1337.get (k := 7) rfl) rfl) (S1337.oin (k := 8) rfl s_n7).bel) ?_
                refine DR.p rfl rfl (p_move rfl) ?_
                obtain ⟨k1338, hd1339⟩ := chk_some hd1323
                refine DR.p rfl rfl (s_indexV (q := x334.toNat) Try.underlying111 Try.sizeOf4 rfl (s_n2.at (inR_pos k1338)) rfl k1338 (z1 _)) ?_
                obtain ⟨G1340, hHG1340, S1341⟩ := S1337.oset (k := 2) (p := p_n2) rfl (s_n2.at (inR_pos k1338)) (bls (bs1319.set x334.toNat false))
                have S1342 : St M0 H G1340 [[(i_n0, AObj.row false ([.int .i64 n0_0]))], [(i_n1, AObj.row false ([.slice p_n2 k_n2 c_n2]))], oseg p_n2 (bls (bs1319.set x334.toNat false)), [(i_n3, AObj.row false ([.func (.func 60) #[] #[.pointer (some ⟨i_n4, 0, none⟩)]]))], [(i_n4, AObj.row false ([.slice p1326 rss1320.length c1327]))], oseg p1326 (tcells3 T1328), t3seg T1328, [(i_n6, AObj.row false ([.slice p_n7 k_n7 c_n7]))], oseg p_n7 (bls bs1321), [(i_n8, AObj.row false ([.func (.func 115) #[] #[.pointer (some ⟨i_n0, 0, none⟩), .pointer (some ⟨i_n1, 0, none⟩), .pointer (some ⟨i_n3, 0, none⟩), .pointer (some ⟨i_n6, 0, none⟩), .pointer (some ⟨i_n8, 0, none⟩)]]))], F1324] := S1341
                refine DR.s rfl (s_store Try.sizeOf4 rfl rfl rfl (S1337.oat (k := 2) rfl (s_n2.at (inR_pos k1338))) (lt_len ((bls_length _).trans l1325) (inR_lt k1338)) ((congrArg (fun l => List.set _ _ (AObj.row false l)) (bls_set _ _ _)).trans hHG1340)) (set_le hHG1340) ?_
                obtain ⟨k1343, hd1344⟩ := chk_some hd1339
                refine DR.p rfl rfl (s_indexV (q := x923.toNat) Try.underlying111 Try.sizeOf4 rfl (s_n2.at (inR_pos k1343)) rfl k1343 (z1 _)) ?_
                obtain ⟨G1345, hHG1345, S1346⟩ := S1342.oset (k := 2) (p := p_n2) rfl (s_n2.at (inR_pos k1343)) (bls ((bs1319.set x334.toNat false).set x923.toNat false))
                have S1347 : St M0 H G1345 [[(i_n0, AObj.row false ([.int .i64 n0_0]))], [(i_n1, AObj.row false ([.slice p_n2 k_n2 c_n2]))], oseg p_n2 (bls ((bs1319.set x334.toNat false).set x923.toNat false)), [(i_n3, AObj.row false ([.func (.func 60) #[] #[.pointer (some ⟨i_n4, 0, none⟩)]]))], [(i_n4, AObj.row false ([.slice p1326 rss1320.length c1327]))], oseg p1326 (tcells3 T1328), t3seg T1328, [(i_n6, AObj.row false ([.slice p_n7 k_n7 c_n7]))], oseg p_n7 (bls bs1321), [(i_n8, AObj.row false ([.func (.func 115) #[] #[.pointer (some ⟨i_n0, 0, none⟩), .pointer (some ⟨i_n1, 0, none⟩), .pointer (some ⟨i_n3, 0, none⟩), .pointer (some ⟨i_n6, 0, none⟩), .pointer (some ⟨i_n8, 0, none⟩)]]))], F1324] := S1346
                refine DR.s rfl (s_store Try.sizeOf4 rfl rfl rfl (S1342.oat (k := 2) rfl (s_n2.at (inR_pos k1343))) (lt_len ((bls_length _).trans (len_set l1325)) (inR_lt k1343)) ((congrArg (fun l => List.set _ _ (AObj.row false l)) (bls_set _ _ _)).trans hHG1345)) (set_le hHG1345) ?_
                obtain ⟨k1348, hd1349⟩ := chk_some hd1344
                refine DR.p rfl rfl (s_indexV (q := (if n0_0 - x923 + x334 < x923 - x334 then n0_0 - x923 + x334 else x923 - x334).toNat) Try.underlying111 Try.sizeOf4 rfl (s_n7.at (inR_pos k1348)) rfl k1348 (z1 _)) ?_
                obtain ⟨G1350, hHG1350, S1351⟩ := S1347.oset (k := 8) (p := p_n7) rfl (s_n7.at (inR_pos k1348)) (bls (bs1321.set ((if n0_0 - x923 + x334 < x923 - x334 then n0_0 - x923 + x334 else x923 - x334).toNat) false))
                have S1352 : St M0 H G1350 [[(i_n0, AObj.row false ([.int .i64 n0_0]))], [(i_n1, AObj.row false ([.slice p_n2 k_n2 c_n2]))], oseg p_n2 (bls ((bs1319.set x334.toNat false).set x923.toNat false)), [(i_n3, AObj.row false ([.func (.func 60) #[] #[.pointer (some ⟨i_n4, 0, none⟩)]]))], [(i_n4, AObj.row false ([.slice p1326 rss1320.length c1327]))], oseg p1326 (tcells3 T1328), t3seg T1328, [(i_n6, AObj.row false ([.slice p_n7 k_n7 c_n7]))], oseg p_n7 (bls (bs1321.set ((if n0_0 - x923 + x334 < x923 - x334 then n0_0 - x923 + x334 else x923 - x334).toNat) false)), [(i_n8, AObj.row false ([.func (.func 115) #[] #[.pointer (some ⟨i_n0, 0, none⟩), .pointer (some ⟨i_n1, 0, none⟩), .pointer (some ⟨i_n3, 0, none⟩), .pointer (some ⟨i_n6, 0, none⟩), .pointer (some ⟨i_n8, 0, none⟩)]]))], F1324] := S1351
                refine DR.s rfl (s_store Try.sizeOf4 rfl rfl rfl (S1347.oat (k := 8) rfl (s_n7.at (inR_pos k1348))) (lt_len ((bls_length _).trans l1332) (inR_lt k1348)) ((congrArg (fun l => List.set _ _ (AObj.row false l)) (bls_set _ _ _)).trans hHG1350)) (set_le hHG1350) ?_
                refine DR.nil 12 [(2, 7), (4, 7), (4, 9)] hst (by kernel_rfl) ⟨(rd1 (fun _ => (S1342.get (k := 1) rfl).trans (S1337.get (k := 1) rfl).symm)), (rd1 (fun _ => (S1342.get (k := 7) rfl).trans (S1337.get (k := 7) rfl).symm)), (rd1 (fun _ => (S1347.get (k := 7) rfl).trans (S1342.get (k := 7) rfl).symm)), trivial⟩ ?_
                refine AX.seq ?_
                refine AX.region ?_
                refine AO.p rfl (p_move rfl) ?_
                refine AO.p rfl (p_not rfl) ?_
                refine AO.nil ?_
                refine AX.cond rfl (fun c1353 => ?_) (fun c1353 => ?_)
                · have hd1354 := bif_t c1353 hd1349
                  refine AX.seq ?_
                  refine AX.region ?_
                  refine AO.p rfl (p_assign rfl) ?_
                  refine AO.nil ?_
                  refine AX.ret ?_
                  obtain rfl := some_inj hd1354
                  have z1355 : _ = r1136 := hk1153
                  subst z1355
                  obtain ⟨rfl, z1356⟩ := Prod.mk.inj (some_inj hd1138)
                  obtain ⟨rfl, z1357⟩ := Prod.mk.inj z1356
                  obtain ⟨rfl, rfl⟩ := Prod.mk.inj z1357
                  have S1359 := S1352.front 10 rfl
                  have S1360 := S1359.front 10 rfl
                  have S1361 := S1360.front 10 rfl
                  have S1362 := S1361.front 10 rfl
                  have S1363 := S1362.front 10 rfl
                  have S1364 := S1363.front 10 rfl
                  have S1365 := S1364.front 10 rfl
                  have S1366 := S1365.front 10 rfl
                  have S1367 := S1366.front 10 rfl
                  have S1368 := S1367.front 10 rfl
                  have S1369 := S1368.front 10 rfl
                  exact ⟨.inr rfl, _, res1 rfl (rv_tmp rfl), p1326, c1327, T1328, F1324, rfl, S1369, (len_set (len_set l1325)), B1329, t1330, s1331, (len_set l1332), ((((hF1173.mono hF1267).mono hF1292).mono hF1300).mono hF1333)⟩
                · have hd1370 := bif_f c1353 hd1349
                  refine AX.skip ?_
                  refine AX.region ?_
                  refine AO.p rfl (p_move rfl) ?_
                  obtain ⟨k1371, hd1372⟩ := chk_some hd1370
                  refine AO.p rfl (p_addE rfl rfl k1371) ?_
                  refine AO.p rfl (p_assign rfl) ?_
                  refine AO.nil ?_
                  obtain rfl := some_inj hd1372
                  have S1374 := S1352.front 9 rfl
                  have S1375 := S1374.front 9 rfl
                  have S1376 := S1375.front 9 rfl
                  have S1377 := S1376.front 9 rfl
                  have S1378 := S1377.front 9 rfl
                  have S1379 := S1378.front 9 rfl
                  have S1380 := S1379.front 9 rfl
                  have S1381 := S1380.front 9 rfl
                  have S1382 := S1381.front 9 rfl
                  have S1383 := S1382.front 9 rfl
                  have S1384 := S1383.front 10 rfl
                  exact ⟨(((bs1319.set x334.toNat false).set x923.toNat false), rss1320, (bs1321.set ((if n0_0 - x923 + x334 < x923 - x334 then n0_0 - x923 + x334 else x923 - x334).toNat) false), x923 + 1), hk1153, ((bs1319.set x334.toNat false).set x923.toNat false), rss1320, (bs1321.set ((if n0_0 - x923 + x334 < x923 - x334 then n0_0 - x923 + x334 else x923 - x334).toNat) false), (x923 + 1), F1324, p1326, c1327, T1328, rfl, S1384, ((((hF1173.mono hF1267).mono hF1292).mono hF1300).mono hF1333), (len_set (len_set l1325)), t1330, s1331, B1329, (len_set l1332), ((((hv1184.mono hF1267).mono hF1292).mono hF1300).mono hF1333), nl1185, Sub.cons' rfl rfl (Sub.cons' rfl rfl (Sub.cons' rfl rfl (Sub.cons' rfl rfl (Sub.cons' rfl rfl (Sub.cons' rfl rfl (Sub.cons' rfl rfl (Sub.nil _)))))))⟩
          · have hd1385 := bif_f c1158 ho1152
            refine AX.exit ?_
            obtain rfl := some_inj hd1385
            have S1386 := S1154.front 10 rfl
            have S1387 := S1386.front 10 rfl
            have S1388 := S1387.front 10 rfl
            have S1389 := S1388.front 10 rfl
            have S1390 := S1389.front 10 rfl
            have S1391 := S1390.front 10 rfl
            have S1392 := S1391.front 10 rfl
            have S1393 := S1392.front 10 rfl
            have S1394 := S1393.front 10 rfl
            have S1395 := S1394.front 10 rfl
            have S1396 := S1395.front 10 rfl
            exact ⟨bs908, rss914, bs918, F903, p912, c913, T915, hk1153, S1396, hF904, lbs908, tT915, sT915, Bo911, lbs918, Sub.nil _⟩
      · rintro t' G1398 ⟨bs1124, rss1130, bs1134, F1119, p1128, c1129, T1131, rfl, S1397, hF1120, lbs1124, tT1131, sT1131, Bo1127, lbs1134, hsub1399⟩
        refine ⟨_, hsub1399, ?_⟩
        refine AX.seq ?_
        refine AX.region ?_
        refine AO.p rfl (p_assign rfl) ?_
        refine AO.nil ?_
        refine AX.ret ?_
        obtain ⟨rfl, z1400⟩ := Prod.mk.inj (some_inj hd1138)
        obtain ⟨rfl, z1401⟩ := Prod.mk.inj z1400
        obtain ⟨rfl, rfl⟩ := Prod.mk.inj z1401
        have S1403 := S1397.front 0 rfl
        have S1404 := S1403.front 10 rfl
        have S1405 := S1404.front 10 rfl
        have S1406 := S1405.front 10 rfl
        have S1407 := S1406.front 10 rfl
        have S1408 := S1407.front 10 rfl
        have S1409 := S1408.front 10 rfl
        have S1410 := S1409.front 10 rfl
        have S1411 := S1410.front 10 rfl
        have S1412 := S1411.front 10 rfl
        have S1413 := S1412.front 10 rfl
        exact ⟨.inr rfl, _, res1 rfl (rv_tmp rfl), p1128, c1129, T1131, F1119, rfl, S1413, lbs1124, Bo1127, tT1131, sT1131, lbs1134, hF1120⟩

set_option maxHeartbeats 4000000 in
theorem W_impl_starters__impl_StarterList_1 (fu : Nat) (H : AHeap) (F : Sg) (a0 : Int) (i_n0 : Nat) (p_n1 : Option Addr) (k_n1 c_n1 : Nat) (T_n1 : Tb3) (n1 : List (List (List Int))) (l_n1 : n1.length = k_n1) (s_n1 : Sb p_n1 k_n1 c_n1 1) (t_n1 : trows3 T_n1 = n1) (z_n1 : TSb3 T_n1) (hn : (([[(i_n0, AObj.row false ([.slice p_n1 k_n1 c_n1]))], oseg p_n1 (tcells3 T_n1), t3seg T_n1, F] : List Sg).flatten.map (·.1)).Nodup) (ho : ∀ x ∈ ([[(i_n0, AObj.row false ([.slice p_n1 k_n1 c_n1]))], oseg p_n1 (tcells3 T_n1), t3seg T_n1, F] : List Sg).flatten, x.1 < H.length ∧ hget H x.1 = x.2) (m_n1 : List (List (List Int))) (hd : D_impl_starters__impl_StarterList_1 fu a0 k_n1 n1 = some m_n1) : ∃ v G', ACall Try.prog 59 [.int .i64 a0, .func (.func 60) #[] #[.pointer (some ⟨i_n0, 0, none⟩)]] H v G' ∧ ∃ (p_m_n1 : Option Addr) (c_m_n1 : Nat) (T_m_n1 : Tb3) (F' : Sg), (v = .tuple #[]) ∧ St (([[(i_n0, AObj.row false ([.slice p_n1 k_n1 c_n1]))], oseg p_n1 (tcells3 T_n1), t3seg T_n1, F] : List Sg).flatten.map (·.1)) H G' [[(i_n0, AObj.row false ([.slice p_m_n1 m_n1.length c_m_n1]))], oseg p_m_n1 (tcells3 T_m_n1), t3seg T_m_n1, F'] ∧ Sb p_m_n1 m_n1.length c_m_n1 1 ∧ trows3 T_m_n1 = m_n1 ∧ TSb3 T_m_n1 ∧ Pin F' F := by
  refine ACall.bodyX (args := [.int .i64 a0, .func (.func 60) #[] #[.pointer (some ⟨i_n0, 0, none⟩)]]) (N := 14) [(0, .int .i64 a0), (1, .func (.func 60) #[] #[.pointer (some ⟨i_n0, 0, none⟩)])] (fun v G' => ∃ (p_m_n1 : Option Addr) (c_m_n1 : Nat) (T_m_n1 : Tb3) (F' : Sg), (v = .tuple #[]) ∧ St (([[(i_n0, AObj.row false ([.slice p_n1 k_n1 c_n1]))], oseg p_n1 (tcells3 T_n1), t3seg T_n1, F] : List Sg).flatten.map (·.1)) H G' [[(i_n0, AObj.row false ([.slice p_m_n1 m_n1.length c_m_n1]))], oseg p_m_n1 (tcells3 T_m_n1), t3seg T_m_n1, F'] ∧ Sb p_m_n1 m_n1.length c_m_n1 1 ∧ trows3 T_m_n1 = m_n1 ∧ TSb3 T_m_n1 ∧ Pin F' F) Try.func59 rfl rfl rfl rfl ?_
  unfold D_impl_starters__impl_StarterList_1 at hd
  have S0 := St.initF hn ho
  generalize hM0 : (([[(i_n0, AObj.row false ([.slice p_n1 k_n1 c_n1]))], oseg p_n1 (tcells3 T_n1), t3seg T_n1, F] : List Sg).flatten.map (·.1)) = M0 at S0 ⊢
  refine AX.seq ?_
  refine AX.region ?_
  obtain ⟨G100, i101, hii101, hHG100, S102⟩ := S0.new (AObj.row false ([.int .i64 a0]))
  refine AO.c rfl (s_box (i := i101) (cs := [.int .i64 a0]) rfl hii101 rfl hHG100) ?_
  obtain ⟨G104, i105, hii105, hHG104, S106⟩ := S102.new (AObj.row false ([.func (.func 60) #[] #[.pointer (some ⟨i_n0, 0, none⟩)]]))
  refine AO.c rfl (s_box (i := i105) (cs := [.func (.func 60) #[] #[.pointer (some ⟨i_n0, 0, none⟩)]]) rfl hii105 rfl hHG104) ?_
  refine AO.nil ?_
  refine AX.seq ?_
  refine DR.startS [false, false, false, false, false, false, true, true] mix (by kernel_rfl) (fun hst => ?_)
  refine DR.r rfl rfl (r_load rfl Try.isAgg2) (one_read (row_cell (S106.get (k := 1) rfl) rfl) (.of_flat0 rfl)) ?_
  obtain ⟨k108, hd109⟩ := chk_some hd
  obtain ⟨G110, i111, hii111, hHG110, S112⟩ := S106.new (AObj.row false (bls (List.replicate a0.toNat false)))
  refine DR.a rfl rfl hii111 hHG110 (a_make1 (v := .bool false) (by_ := 1) Try.underlying111 Try.typeInfo4 Try.sizeOf4 Try.zeroValue4 rfl rfl rfl rfl rfl rfl k108 bls_rep) ?_
  refine DR.r rfl rfl (r_load rfl Try.isAgg2) (one_read (row_cell (S112.get (k := 2) rfl) rfl) (.of_flat0 rfl)) ?_
  obtain ⟨k114, hd115⟩ := chk_some hd109
  obtain ⟨G116, i117, hii117, hHG116, S118⟩ := S112.new (AObj.row false (bls (List.replicate a0.toNat false)))
  refine DR.a rfl rfl hii117 hHG116 (a_make1 (v := .bool false) (by_ := 1) Try.underlying111 Try.typeInfo4 Try.sizeOf4 Try.zeroValue4 rfl rfl rfl rfl rfl rfl k114 bls_rep) ?_
  obtain ⟨G120, i121, hii121, hHG120, S122⟩ := S118.new (AObj.row false ([.slice none 0 0]))
  refine DR.a rfl rfl hii121 hHG120 (a_alloc Try.zeroValue111 (flat_list rfl)) ?_
  obtain ⟨G124, i125, hii125, hHG124, S126⟩ := S122.new (AObj.row false ([.slice none 0 0]))
  refine DR.a rfl rfl hii125 hHG124 (a_alloc Try.zeroValue111 (flat_list rfl)) ?_
  obtain ⟨G128, hHG128, S129⟩ := S126.set (k := 1) (i := i121) rfl (AObj.row false ([.slice (some (Addr.mk i111 0 none)) a0.toNat a0.toNat]))
  have S130 : St M0 H G128 [[(i125, AObj.row false ([.slice none 0 0]))], [(i121, AObj.row false ([.slice (some (Addr.mk i111 0 none)) a0.toNat a0.toNat]))], [(i117, AObj.row false (bls (List.replicate a0.toNat false)))], [(i111, AObj.row false (bls (List.replicate a0.toNat false)))], [(i105, AObj.row false ([.func (.func 60) #[] #[.pointer (some ⟨i_n0, 0, none⟩)]]))], [(i101, AObj.row false ([.int .i64 a0]))], [(i_n0, AObj.row false ([.slice p_n1 k_n1 c_n1]))], oseg p_n1 (tcells3 T_n1), t3seg T_n1, F] := S129
  refine DR.s rfl (s_store Try.sizeOf111 rfl rfl rfl (S126.get (k := 1) rfl) (Nat.le_of_ble_eq_true rfl) hHG128) (set_le hHG128) ?_
  obtain ⟨G131, hHG131, S132⟩ := S130.set (k := 0) (i := i125) rfl (AObj.row false ([.slice (some (Addr.mk i117 0 none)) a0.toNat a0.toNat]))
  have S133 : St M0 H G131 [[(i125, AObj.row false ([.slice (some (Addr.mk i117 0 none)) a0.toNat a0.toNat]))], [(i121, AObj.row false ([.slice (some (Addr.mk i111 0 none)) a0.toNat a0.toNat]))], [(i117, AObj.row false (bls (List.replicate a0.toNat false)))], [(i111, AObj.row false (bls (List.replicate a0.toNat false)))], [(i105, AObj.row false ([.func (.func 60) #[] #[.pointer (some ⟨i_n0, 0, none⟩)]]))], [(i101, AObj.row false ([.int .i64 a0]))], [(i_n0, AObj.row false ([.slice p_n1 k_n1 c_n1]))], oseg p_n1 (tcells3 T_n1), t3seg T_n1, F] := S132
  refine DR.s rfl (s_store Try.sizeOf111 rfl rfl rfl (S130.get (k := 0) rfl) (Nat.le_of_ble_eq_true rfl) hHG131) (set_le hHG131) ?_
  refine DR.nil 8 [(2, 6), (3, 6)] hst (by kernel_rfl) ⟨(rd1 (fun _ => (S130.get (k := 5) rfl).trans (S126.get (k := 5) rfl).symm)), (fun _ => by rw [hii117]; exact (S130.get (k := 2) rfl).trans (S126.get (k := 2) rfl).symm), trivial⟩ ?_
  refine AX.seq ?_
  refine AX.region ?_
  obtain ⟨G134, i135, hii135, hHG134, S136⟩ := S133.new (AObj.row false ([.nilFunc]))
  refine AO.c rfl (s_alloc (i := i135) (cs := [.nilFunc]) Try.zeroValue76 rfl rfl hii135 hHG134) ?_
  refine AO.nil ?_
  refine AX.seq ?_
  refine AX.region ?_
  refine AO.p rfl (p_makeFunc (fs := []) (cs := [.pointer (some ⟨i101, 0, none⟩), .pointer (some ⟨i121, 0, none⟩), .pointer (some ⟨i105, 0, none⟩), .pointer (some ⟨i125, 0, none⟩), .pointer (some ⟨i135, 0, none⟩)]) rfl rfl) ?_
  obtain ⟨G138, hHG138, S139⟩ := S136.set (k := 0) (i := i135) rfl (AObj.row false ([.func (.func 115) #[] #[.pointer (some ⟨i101, 0, none⟩), .pointer (some ⟨i121, 0, none⟩), .pointer (some ⟨i105, 0, none⟩), .pointer (some ⟨i125, 0, none⟩), .pointer (some ⟨i135, 0, none⟩)]]))
  have S140 : St M0 H G138 [[(i135, AObj.row false ([.func (.func 115) #[] #[.pointer (some ⟨i101, 0, none⟩), .pointer (some ⟨i121, 0, none⟩), .pointer (some ⟨i105, 0, none⟩), .pointer (some ⟨i125, 0, none⟩), .pointer (some ⟨i135, 0, none⟩)]]))], [(i125, AObj.row false ([.slice (some (Addr.mk i117 0 none)) a0.toNat a0.toNat]))], [(i121, AObj.row false ([.slice (some (Addr.mk i111 0 none)) a0.toNat a0.toNat]))], [(i117, AObj.row false (bls (List.replicate a0.toNat false)))], [(i111, AObj.row false (bls (List.replicate a0.toNat false)))], [(i105, AObj.row false ([.func (.func 60) #[] #[.pointer (some ⟨i_n0, 0, none⟩)]]))], [(i101, AObj.row false ([.int .i64 a0]))], [(i_n0, AObj.row false ([.slice p_n1 k_n1 c_n1]))], oseg p_n1 (tcells3 T_n1), t3seg T_n1, F] := S139
  refine AO.s (s_store Try.sizeOf76 rfl rfl rfl (S136.get (k := 0) rfl) (Nat.le_of_ble_eq_true rfl) hHG138) ?_
  refine AO.nil ?_
  refine AX.region ?_
  refine AO.c rfl (s_load Try.isAgg76 rfl (row_cell (S140.get (k := 0) rfl) rfl)) ?_
  have S142 := S140.front 10 rfl
  have S143 := S142.front 1 rfl
  have S144 := S143.front 4 rfl
  have S145 := S144.front 3 rfl
  have S146 := S145.front 10 rfl
  have S147 := S146.front 10 rfl
  have S148 := S147.front 10 rfl
  have S149 := S148.front 9 rfl
  have S150 := S149.front 9 rfl
  have S151 := S150.front 9 rfl
  have S152 := S151.front 10 rfl
  have S153 : St M0 H G138 [[(i101, AObj.row false ([.int .i64 a0]))], [(i121, AObj.row false ([.slice (some (Addr.mk i111 0 none)) a0.toNat a0.toNat]))], [(i111, AObj.row false (bls (List.replicate a0.toNat false)))], [(i105, AObj.row false ([.func (.func 60) #[] #[.pointer (some ⟨i_n0, 0, none⟩)]]))], [(i_n0, AObj.row false ([.slice p_n1 k_n1 c_n1]))], oseg p_n1 (tcells3 T_n1), t3seg T_n1, [(i125, AObj.row false ([.slice (some (Addr.mk i117 0 none)) a0.toNat a0.toNat]))], [(i117, AObj.row false (bls (List.replicate a0.toNat false)))], [(i135, AObj.row false ([.func (.func 115) #[] #[.pointer (some ⟨i101, 0, none⟩), .pointer (some ⟨i121, 0, none⟩), .pointer (some ⟨i105, 0, none⟩), .pointer (some ⟨i125, 0, none⟩), .pointer (some ⟨i135, 0, none⟩)]]))], F] := S152
  obtain ⟨⟨b154, bs155, rss156, bs157⟩, h158, hd159⟩ := bnd_some hd115
  obtain ⟨_, G170, hc172, p162, c163, T164, F160, rfl, S171, l161, B165, t166, s167, l168, hF169⟩ := W_impl_starters_1__impl_StarterList_1 fu G138 F none 0 [] [] rfl PT.nil (fun _ => rfl) i101 a0 i121 (some (Addr.mk i111 0 none)) a0.toNat a0.toNat (List.replicate a0.toNat false) len_rep (Sb.lit (mkcap k108)) i105 i_n0 p_n1 k_n1 c_n1 T_n1 n1 l_n1 s_n1 t_n1 z_n1 i125 (some (Addr.mk i117 0 none)) a0.toNat a0.toNat (List.replicate a0.toNat false) len_rep (Sb.lit (mkcap k114)) i135 (St.fnodup (A := [[(i101, AObj.row false ([.int .i64 a0]))], [(i121, AObj.row false ([.slice (some (Addr.mk i111 0 none)) a0.toNat a0.toNat]))], [(i111, AObj.row false (bls (List.replicate a0.toNat false)))], [(i105, AObj.row false ([.func (.func 60) #[] #[.pointer (some ⟨i_n0, 0, none⟩)]]))], [(i_n0, AObj.row false ([.slice p_n1 k_n1 c_n1]))], oseg p_n1 (tcells3 T_n1), t3seg T_n1, [(i125, AObj.row false ([.slice (some (Addr.mk i117 0 none)) a0.toNat a0.toNat]))], [(i117, AObj.row false (bls (List.replicate a0.toNat false)))], [(i135, AObj.row false ([.func (.func 115) #[] #[.pointer (some ⟨i101, 0, none⟩), .pointer (some ⟨i121, 0, none⟩), .pointer (some ⟨i105, 0, none⟩), .pointer (some ⟨i125, 0, none⟩), .pointer (some ⟨i135, 0, none⟩)]]))], F]) S153) (St.fmem (A := [[(i101, AObj.row false ([.int .i64 a0]))], [(i121, AObj.row false ([.slice (some (Addr.mk i111 0 none)) a0.toNat a0.toNat]))], [(i111, AObj.row false (bls (List.replicate a0.toNat false)))], [(i105, AObj.row false ([.func (.func 60) #[] #[.pointer (some ⟨i_n0, 0, none⟩)]]))], [(i_n0, AObj.row false ([.slice p_n1 k_n1 c_n1]))], oseg p_n1 (tcells3 T_n1), t3seg T_n1, [(i125, AObj.row false ([.slice (some (Addr.mk i117 0 none)) a0.toNat a0.toNat]))], [(i117, AObj.row false (bls (List.replicate a0.toNat false)))], [(i135, AObj.row false ([.func (.func 115) #[] #[.pointer (some ⟨i101, 0, none⟩), .pointer (some ⟨i121, 0, none⟩), .pointer (some ⟨i105, 0, none⟩), .pointer (some ⟨i125, 0, none⟩), .pointer (some ⟨i135, 0, none⟩)]]))], F]) S153) b154 bs155 rss156 bs157 h158
  have S173 := St.callM (A := [[(i101, AObj.row false ([.int .i64 a0]))], [(i121, AObj.row false ([.slice (some (Addr.mk i111 0 none)) a0.toNat a0.toNat]))], [(i111, AObj.row false (bls (List.replicate a0.toNat false)))], [(i105, AObj.row false ([.func (.func 60) #[] #[.pointer (some ⟨i_n0, 0, none⟩)]]))], [(i_n0, AObj.row false ([.slice p_n1 k_n1 c_n1]))], oseg p_n1 (tcells3 T_n1), t3seg T_n1, [(i125, AObj.row false ([.slice (some (Addr.mk i117 0 none)) a0.toNat a0.toNat]))], [(i117, AObj.row false (bls (List.replicate a0.toNat false)))], [(i135, AObj.row false ([.func (.func 115) #[] #[.pointer (some ⟨i101, 0, none⟩), .pointer (some ⟨i121, 0, none⟩), .pointer (some ⟨i105, 0, none⟩), .pointer (some ⟨i125, 0, none⟩), .pointer (some ⟨i135, 0, none⟩)]]))], F]) S153 S171 (fun j h => h)
  refine AO.c rfl (o_callV (vs := [.slice none 0 0]) rfl rfl Try.call115 hc172) ?_
  refine AO.nil ?_
  obtain rfl := some_inj hd159
  have S174 := S173.front 10 rfl
  have S175 := S174.front 7 rfl
  have S176 := S175.front 7 rfl
  have S177 := S176.front 7 rfl
  have S178 := S177.keep 4
  exact ⟨.inl rfl, _, res_none rfl, p162, c163, T164, F160, rfl, S178, B165, t166, s167, ((Pin.refl F).mono hF169)⟩

set_option maxHeartbeats 4000000 in
theorem W_impl_StarterList (fu : Nat) (H : AHeap) (a0 : Int) (r0 : List (List (List Int))) (r1 : Int) (hd : D_impl_StarterList fu a0 = some (r0, r1)) : ∃ v G', ACall Try.prog 13 [.int .i64 a0] H v G' ∧ ∃ (p_r0 : Option Addr) (c_r0 : Nat) (T_r0 : Tb3), (v = .tuple #[.slice p_r0 r0.length c_r0, .int .i64 r1]) ∧ St [] H G' [oseg p_r0 (tcells3 T_r0), t3seg T_r0] ∧ Sb p_r0 r0.length c_r0 1 ∧ trows3 T_r0 = r0 ∧ TSb3 T_r0 := by
  refine ACall.bodyX (args := [.int .i64 a0]) (N := 17) [(0, .int .i64 a0)] (fun v G' => ∃ (p_r0 : Option Addr) (c_r0 : Nat) (T_r0 : Tb3), (v = .tuple #[.slice p_r0 r0.length c_r0, .int .i64 r1]) ∧ St [] H G' [oseg p_r0 (tcells3 T_r0), t3seg T_r0] ∧ Sb p_r0 r0.length c_r0 1 ∧ trows3 T_r0 = r0 ∧ TSb3 T_r0) Try.func13 rfl rfl rfl rfl ?_
  unfold D_impl_StarterList at hd
  have S0 : St [] H H [] := St.nil H
  have S0 := S0.poolNew
  refine AX.seq ?_
  refine AX.region ?_
  refine AO.p rfl (p_assign rfl) ?_
  refine AO.p rfl (p_assign rfl) ?_
  refine AO.nil ?_
  refine AX.seq ?_
  refine AX.block ?_
  refine AX.seq ?_
  refine AX.region ?_
  refine AO.p rfl (p_move rfl) ?_
  obtain ⟨b100, h101, hd102⟩ := bnd_some hd
  refine AO.c rfl (o_call (vs := [.int .i64 a0]) rfl Try.call58 (W_impl_isModulus fu H a0 b100 h101)) ?_
  refine AO.p rfl (p_not rfl) ?_
  refine AO.p rfl (p_assign rfl) ?_
  refine AO.nil ?_
  refine AX.cond rfl (fun c104 => ?_) (fun c104 => ?_)
  · have hd105 := bif_t c104 hd102
    refine AX.seq ?_
    refine AX.region ?_
    refine AO.p rfl (p_assign rfl) ?_
    refine AO.p rfl (p_assign rfl) ?_
    refine AO.nil ?_
    refine AX.ret ?_
    obtain ⟨rfl, rfl⟩ := Prod.mk.inj (some_inj hd105)
    have S107 : St [] H H (tseg [] :: _) := S0.nilseg 0
    have S108 : St [] H H (oseg none (tcells3 []) :: _) := S107.nilseg 0
    have S109 := S108.keep 2
    exact ⟨.inr rfl, _, res2 rfl (rv_tmp rfl) (rv_tmp rfl), none, 0, [], rfl, S109, Sb.nil, rfl, TSb3.nil⟩
  · have hd110 := bif_f c104 hd102
    refine AX.seq ?_
    refine AX.region ?_
    refine AO.p rfl (p_move rfl) ?_
    refine AO.p rfl (p_gtr rfl rfl) ?_
    refine AO.p rfl (p_assign rfl) ?_
    refine AO.nil ?_
    refine AX.cond rfl (fun c111 => ?_) (fun c111 => ?_)
    · have hd112 := bif_t c111 hd110
      refine AX.seq ?_
      refine AX.region ?_
      refine AO.p rfl (p_assign rfl) ?_
      refine AO.p rfl (p_assign rfl) ?_
      refine AO.nil ?_
      refine AX.ret ?_
      obtain ⟨rfl, rfl⟩ := Prod.mk.inj (some_inj hd112)
      have S114 : St [] H H (tseg [] :: _) := S0.nilseg 0
      have S115 : St [] H H (oseg none (tcells3 []) :: _) := S114.nilseg 0
      have S116 := S115.keep 2
      exact ⟨.inr rfl, _, res2 rfl (rv_tmp rfl) (rv_tmp rfl), none, 0, [], rfl, S116, Sb.nil, rfl, TSb3.nil⟩
    · have hd117 := bif_f c111 hd110
      refine AX.skip ?_
      refine AX.seq ?_
      refine AX.region ?_
      obtain ⟨G118, i119, hii119, hHG118, S120⟩ := S0.new (AObj.row false (tcells3 []))
      have S120t : St [] H G118 (_ :: t3seg [] :: _) := S120.nilseg 1
      refine AO.c rfl (s_build0 (i := i119) Try.underlying25 Try.sizeOf43 hii119 hHG118) ?_
      obtain ⟨G122, i123, hii123, hHG122, S124⟩ := S120t.new (AObj.row false ([.slice none 0 0]))
      refine AO.c rfl (s_alloc (i := i123) (cs := [.slice none 0 0]) Try.zeroValue25 rfl rfl hii123 hHG122) ?_
      obtain ⟨G126, hHG126, S127⟩ := S124.set (k := 0) (i := i123) rfl (AObj.row false ([.slice (some (Addr.mk i119 0 none)) 0 0]))
      refine AO.s (s_store Try.sizeOf25 rfl rfl rfl (S124.get (k := 0) rfl) (Nat.le_of_ble_eq_true rfl) hHG126) ?_
      refine AO.nil ?_
      refine AX.seq ?_
      refine AX.region ?_
      refine AO.p rfl (p_move rfl) ?_
      refine AO.p rfl (p_makeFunc (fs := []) (cs := [.pointer (some ⟨i123, 0, none⟩)]) rfl rfl) ?_
      have S128 := S127.front 3 rfl
      have S129 := S128.front 3 rfl
      have S130 := S129.front 3 rfl
      have S131 := S130.front 3 rfl
      obtain ⟨rss132, h133, hd134⟩ := bnd_some hd117
      obtain ⟨_, G143, hc145, p136, c137, T138, F135, rfl, S144, B139, t140, s141, hF142⟩ := W_impl_starters__impl_StarterList_1 fu G126 ([] : Sg) a0 i123 (some (Addr.mk i119 0 none)) 0 0 [] [] rfl (Sb.lit (n := 0) (by decide)) rfl TSb3.nil (St.fnodup (A := [[(i123, AObj.row false ([.slice (some (Addr.mk i119 0 none)) 0 0]))], [(i119, AObj.row false (tcells3 []))], t3seg [], ([] : Sg)]) S131) (St.fmem (A := [[(i123, AObj.row false ([.slice (some (Addr.mk i119 0 none)) 0 0]))], [(i119, AObj.row false (tcells3 []))], t3seg [], ([] : Sg)]) S131) rss132 h133
      have S146 := St.callM (A := [[(i123, AObj.row false ([.slice (some (Addr.mk i119 0 none)) 0 0]))], [(i119, AObj.row false (tcells3 []))], t3seg [], ([] : Sg)]) S131 S144 (fun j h => h)
      refine AO.c rfl (o_call (vs := [.int .i64 a0, .func (.func 60) #[] #[.pointer (some ⟨i123, 0, none⟩)]]) rfl Try.call59 hc145) ?_
      refine AO.nil ?_
      refine AX.seq ?_
      refine AX.region ?_
      refine AO.c rfl (s_load Try.isAgg25 rfl (row_cell (S146.get (k := 0) rfl) rfl)) ?_
      refine AO.p rfl (p_assign rfl) ?_
      refine AO.p rfl (p_assign rfl) ?_
      refine AO.nil ?_
      refine AX.ret ?_
      obtain ⟨rfl, rfl⟩ := Prod.mk.inj (some_inj hd134)
      have S148 := S146.front 2 rfl
      have S149 := S148.front 2 rfl
      have S150 := S149.keep 2
      exact ⟨.inr rfl, _, res2 rfl (rv_tmp rfl) (rv_tmp rfl), p136, c137, T138, rfl, S150, B139, t140, s141⟩

end Go.Proofs.Ytdafmafigcljkaa
