/-
  The program computes that, printed by a program. No condition.
-/
import Derived.Test.YtnmbjedijgcncaaDN
import Derived.Test.YtnmbjedijgcncaaWE
import Derived.Test.YtnmbjedijgcncaaWAx
import Derived.Test.YtnmbjedijgcncaaWGr
import Derived.Test.YtnmbjedijgcncaaProg
import Derived.KernelRfl
namespace Go.Proofs.Ytnmbjedijgcncaa
open Go Go.RowKit Am
set_option linter.unusedVariables false
set_option linter.unusedSimpArgs false
set_option maxRecDepth 20000
set_option maxHeartbeats 4000000 in
theorem W_spec_l01Copy (fu : Nat) (H : AHeap) (a0_0 : Int) (p_a0_1 : Option Addr) (c_a0_1 : Nat) (a0_1 : List (List Int)) (a_a0_1 : All 14 a0_1) (v_a0_1 : Vw H p_a0_1 a0_1.length c_a0_1 (ints a0_1.flatten)) (r0 : Int) (r1 : List (List Int)) (hd : D_spec_l01Copy fu a0_0 a0_1 = some (r0, r1)) : ∃ v G', ACall Try.prog 95 [.agg [.int .i64 a0_0, .slice p_a0_1 a0_1.length c_a0_1].toArray] H v G' ∧ ∃ (p_r1 : Option Addr) (c_r1 : Nat), (v = .agg [.int .i64 r0, .slice p_r1 r1.length c_r1].toArray) ∧ St [] H G' [oseg p_r1 (ints r1.flatten)] ∧ Sb p_r1 r1.length c_r1 14 ∧ All 14 r1 := by
  refine ACall.bodyX (args := [.agg [.int .i64 a0_0, .slice p_a0_1 a0_1.length c_a0_1].toArray]) (N := 10) [(0, .agg [.int .i64 a0_0, .slice p_a0_1 a0_1.length c_a0_1].toArray)] (fun v G' => ∃ (p_r1 : Option Addr) (c_r1 : Nat), (v = .agg [.int .i64 r0, .slice p_r1 r1.length c_r1].toArray) ∧ St [] H G' [oseg p_r1 (ints r1.flatten)] ∧ Sb p_r1 r1.length c_r1 14 ∧ All 14 r1) Try.func95 rfl rfl rfl rfl ?_
  unfold D_spec_l01Copy at hd
  have S0 : St [] H H [] := St.nil H
  refine AX.seq ?_
  refine AX.region ?_
  obtain ⟨G100, i101, hii101, hHG100, S102⟩ := S0.new (AObj.row false ([.int .i64 a0_0, .slice p_a0_1 a0_1.length c_a0_1]))
  refine AO.c rfl (s_box (i := i101) (cs := [.int .i64 a0_0, .slice p_a0_1 a0_1.length c_a0_1]) rfl hii101 rfl hHG100) ?_
  obtain ⟨G104, i105, hii105, hHG104, S106⟩ := S102.new (AObj.row false ([.int .i64 0, .slice none 0 0]))
  refine AO.c rfl (s_alloc (i := i105) (cs := [.int .i64 0, .slice none 0 0]) Try.zeroValue43 rfl rfl hii105 hHG104) ?_
  refine AO.nil ?_
  refine AX.seq ?_
  refine DR.startS [false, false, false, false, false, true, false, true] mix (by kernel_rfl) (fun hst => ?_)
  refine DR.p rfl rfl (s_fieldAddr Try.underlying43 rfl Try.sizeOf2 (by decide) rfl rfl) ?_
  refine DR.r rfl rfl (r_load rfl Try.isAgg2) (one_read (row_cell (S106.get (k := 1) rfl) rfl) (.of_flat0 rfl)) ?_
  obtain ⟨G108, i109, hii109, hHG108, S110⟩ := S106.new (AObj.row false (ints [].flatten))
  refine DR.a rfl rfl hii109 hHG108 (a_build0 Try.underlying41 Try.sizeOf26) ?_
  refine DR.p rfl rfl (s_fieldAddr Try.underlying43 rfl Try.sizeOf41 (by decide) rfl rfl) ?_
  refine DR.r rfl rfl (r_load rfl Try.isAgg41) (one_read (row_cell (S110.get (k := 2) rfl) rfl) (S110.view v_a0_1).inn.bel) ?_
  obtain ⟨k112, hd113⟩ := chk_some hd
  obtain ⟨p114, c115, G116, haG116, S117, Bp114⟩ := S110.app (k := 0) rfl (Sb.lit (n := 0) (by decide)) (ints a0_1.flatten) a0_1.length (flat_len1 a_a0_1 rfl)
  have S118 := S117.cellsEq (k := 0) (us' := ints a0_1.flatten) (List.nil_append _) rfl
  have BS118 : Sb p114 (a0_1.length) c115 14 := (show 0 + a0_1.length = a0_1.length from len_nilapp (b := a0_1) rfl) ▸ Bp114
  refine DR.w rfl rfl (s_app (by_ := 112) (us := ints [].flatten) (vs := ints a0_1.flatten) Try.underlying41 Try.underlying41 Try.typeInfo26 Try.sizeOf26 Try.zeroValue26 rfl rfl rfl rfl rfl rfl rfl (S110.buf (k := 0) rfl (Sb.lit (n := 0) (by decide)) (flat_len1 all_nil rfl)) (S110.view v_a0_1) (flat_len1 a_a0_1 rfl) ints_one k112 haG116 (show 0 + a0_1.length = a0_1.length from len_nilapp (b := a0_1) rfl)) (appR_len haG116) ?_
  refine DR.p rfl rfl (p_build2 (vs := [(0, .int .i64 a0_0), (1, .slice p114 a0_1.length c115)]) (cs := [.int .i64 a0_0, .slice p114 a0_1.length c115]) Try.underlying43 rfl rfl rfl Try.sizeOf2 Try.sizeOf41 Try.zeroValue43 rfl rfl rfl rfl rfl) ?_
  obtain ⟨G119, hHG119, S120⟩ := S118.set (k := 1) (i := i105) rfl (AObj.row false ([.int .i64 a0_0, .slice p114 a0_1.length c115]))
  refine DR.s rfl (s_storeAll (vs := [.int .i64 a0_0, .slice p114 a0_1.length c115]) Try.sizeOf43 rfl rfl (ones_list rfl) (S118.get (k := 1) rfl) rfl rfl hHG119) (set_le hHG119) ?_
  refine DR.nil 8 [(1, 5)] hst (by kernel_rfl) ⟨(rd1 (fun _ => (S118.get (k := 2) rfl).trans (S110.get (k := 2) rfl).symm)), trivial⟩ ?_
  refine AX.ret ?_
  obtain ⟨rfl, rfl⟩ := Prod.mk.inj (some_inj hd113)
  have S122 := S120.front 0 rfl
  have S123 := S122.keep 1
  exact ⟨.inr rfl, _, res1 rfl (rv_cell (vs := [.int .i64 a0_0, .slice p114 a0_1.length c115]) rfl Try.isAgg43 Try.sizeOf43 rfl (row_cells (S120.get (k := 1) rfl))), p114, c115, rfl, S123, BS118, a_a0_1⟩

set_option maxHeartbeats 4000000 in
theorem W_spec_JoinSchedules (fu : Nat) (H : AHeap) (a0_0 : Int) (p_a0_1 : Option Addr) (c_a0_1 : Nat) (a0_1 : List (List Int)) (a_a0_1 : All 14 a0_1) (v_a0_1 : Vw H p_a0_1 a0_1.length c_a0_1 (ints a0_1.flatten)) (a1_0 : Int) (p_a1_1 : Option Addr) (c_a1_1 : Nat) (a1_1 : List (List Int)) (a_a1_1 : All 14 a1_1) (v_a1_1 : Vw H p_a1_1 a1_1.length c_a1_1 (ints a1_1.flatten)) (r0 : Int) (r1 : List (List Int)) (r2 : Int) (hd : D_spec_JoinSchedules fu a0_0 a0_1 a1_0 a1_1 = some (r0, r1, r2)) : ∃ v G', ACall Try.prog 49 [.agg [.int .i64 a0_0, .slice p_a0_1 a0_1.length c_a0_1].toArray, .agg [.int .i64 a1_0, .slice p_a1_1 a1_1.length c_a1_1].toArray] H v G' ∧ ∃ (p_r1 : Option Addr) (c_r1 : Nat), (v = .tuple #[.agg [.int .i64 r0, .slice p_r1 r1.length c_r1].toArray, .int .i64 r2]) ∧ St [] H G' [oseg p_r1 (ints r1.flatten)] ∧ Sb p_r1 r1.length c_r1 14 ∧ All 14 r1 := by
  refine ACall.bodyX (args := [.agg [.int .i64 a0_0, .slice p_a0_1 a0_1.length c_a0_1].toArray, .agg [.int .i64 a1_0, .slice p_a1_1 a1_1.length c_a1_1].toArray]) (N := 43) [(0, .agg [.int .i64 a0_0, .slice p_a0_1 a0_1.length c_a0_1].toArray), (1, .agg [.int .i64 a1_0, .slice p_a1_1 a1_1.length c_a1_1].toArray)] (fun v G' => ∃ (p_r1 : Option Addr) (c_r1 : Nat), (v = .tuple #[.agg [.int .i64 r0, .slice p_r1 r1.length c_r1].toArray, .int .i64 r2]) ∧ St [] H G' [oseg p_r1 (ints r1.flatten)] ∧ Sb p_r1 r1.length c_r1 14 ∧ All 14 r1) Try.func49 rfl rfl rfl rfl ?_
  unfold D_spec_JoinSchedules at hd
  have S0 : St [] H H [] := St.nil H
  refine AX.seq ?_
  refine AX.region ?_
  obtain ⟨G100, i101, hii101, hHG100, S102⟩ := S0.new (AObj.row false ([.int .i64 a0_0, .slice p_a0_1 a0_1.length c_a0_1]))
  refine AO.c rfl (s_box (i := i101) (cs := [.int .i64 a0_0, .slice p_a0_1 a0_1.length c_a0_1]) rfl hii101 rfl hHG100) ?_
  obtain ⟨G104, i105, hii105, hHG104, S106⟩ := S102.new (AObj.row false ([.int .i64 a1_0, .slice p_a1_1 a1_1.length c_a1_1]))
  refine AO.c rfl (s_box (i := i105) (cs := [.int .i64 a1_0, .slice p_a1_1 a1_1.length c_a1_1]) rfl hii105 rfl hHG104) ?_
  obtain ⟨G108, i109, hii109, hHG108, S110⟩ := S106.new (AObj.row false ([.int .i64 0, .slice none 0 0]))
  refine AO.c rfl (s_alloc (i := i109) (cs := [.int .i64 0, .slice none 0 0]) Try.zeroValue43 rfl rfl hii109 hHG108) ?_
  refine AO.p rfl (p_assign rfl) ?_
  refine AO.nil ?_
  refine AX.seq ?_
  refine AX.block ?_
  obtain ⟨r127, hb128, hd129⟩ := bnd_some hd
  refine AX.cut (fun t' H' => ∃ (b126 : Bool), b126 = r127 ∧ St [] H H' [[(i101, AObj.row false ([.int .i64 a0_0, .slice p_a0_1 a0_1.length c_a0_1]))], [(i105, AObj.row false ([.int .i64 a1_0, .slice p_a1_1 a1_1.length c_a1_1]))], [(i109, AObj.row false ([.int .i64 0, .slice none 0 0]))]] ∧ Am.Sub [(2, .pointer (some ⟨i101, 0, none⟩)), (3, .pointer (some ⟨i105, 0, none⟩)), (4, .pointer (some ⟨i109, 0, none⟩)), (7, .bool b126)] t') ?_ ?_
  · skip
    refine AX.region ?_
    refine AO.c rfl (s_loadN (vs := [.int .i64 a0_0, .slice p_a0_1 a0_1.length c_a0_1]) Try.isAgg43 Try.sizeOf43 rfl rfl (row_cells (S110.get (k := 2) rfl))) ?_
    obtain ⟨b130, h131, hd132⟩ := bnd_some hb128
    refine AO.c rfl (o_call (vs := [.agg [.int .i64 a0_0, .slice p_a0_1 a0_1.length c_a0_1].toArray]) rfl Try.call63 (W_spec_l01Is fu G108 a0_0 p_a0_1 c_a0_1 a0_1 a_a0_1 (S110.view v_a0_1) b130 h131)) ?_
    refine AO.p rfl (p_not rfl) ?_
    refine AO.p rfl (p_move rfl) ?_
    refine AO.cases (d := 11) rfl (fun c134 => ?_) (fun c134 => ?_)
    · have hd135 := bif_t c134 hd132
      refine AO.gn rfl rfl rfl ?_
      refine AO.gn rfl rfl rfl ?_
      refine AO.gn rfl rfl rfl ?_
      refine AO.p rfl (p_pickT rfl rfl) ?_
      refine AO.p rfl (p_assign rfl) ?_
      refine AO.nil ?_
      have S136 := S110.front 0 rfl
      have S137 := S136.front 1 rfl
      have S138 := S137.front 2 rfl
      exact ⟨true, (some_inj hd135), S138, Sub.cons' rfl rfl (Sub.cons' rfl rfl (Sub.cons' rfl rfl (Sub.cons' rfl rfl (Sub.nil _))))⟩
    · have hd139 := bif_f c134 hd132
      refine AO.gc rfl rfl rfl (s_loadN (vs := [.int .i64 a1_0, .slice p_a1_1 a1_1.length c_a1_1]) Try.isAgg43 Try.sizeOf43 rfl rfl (row_cells (S110.get (k := 1) rfl))) ?_
      obtain ⟨b140, h141, hd142⟩ := bnd_some hd139
      refine AO.gc rfl rfl rfl (o_call (vs := [.agg [.int .i64 a1_0, .slice p_a1_1 a1_1.length c_a1_1].toArray]) rfl Try.call63 (W_spec_l01Is fu G108 a1_0 p_a1_1 c_a1_1 a1_1 a_a1_1 (S110.view v_a1_1) b140 h141)) ?_
      refine AO.gp rfl rfl rfl (p_not rfl) ?_
      refine AO.p rfl (p_pickF rfl rfl) ?_
      refine AO.p rfl (p_assign rfl) ?_
      refine AO.nil ?_
      have S144 := S110.front 0 rfl
      have S145 := S144.front 1 rfl
      have S146 := S145.front 2 rfl
      exact ⟨(!b140), (some_inj hd142), S146, Sub.cons' rfl rfl (Sub.cons' rfl rfl (Sub.cons' rfl rfl (Sub.cons' rfl rfl (Sub.nil _))))⟩
  · rintro t' G148 ⟨b126, rfl, S147, hsub149⟩
    refine AX.sub hsub149 ?_
    refine AX.cond rfl (fun c150 => ?_) (fun c150 => ?_)
    · have hd151 := bif_t c150 hd129
      refine AX.seq ?_
      refine AX.region ?_
      refine AO.p rfl (p_build2 (vs := []) (cs := [.int .i64 0, .slice none 0 0]) Try.underlying43 rfl rfl rfl Try.sizeOf2 Try.sizeOf41 Try.zeroValue43 rfl rfl rfl rfl rfl) ?_
      obtain ⟨G152, hHG152, S153⟩ := S147.set (k := 2) (i := i109) rfl (AObj.row false ([.int .i64 0, .slice none 0 0]))
      refine AO.s (s_storeAll (vs := [.int .i64 0, .slice none 0 0]) Try.sizeOf43 rfl rfl (ones_list rfl) (S147.get (k := 2) rfl) rfl rfl hHG152) ?_
      refine AO.p rfl (p_assign rfl) ?_
      refine AO.nil ?_
      refine AX.ret ?_
      obtain ⟨rfl, z154⟩ := Prod.mk.inj (some_inj hd151)
      obtain ⟨rfl, rfl⟩ := Prod.mk.inj z154
      have S156 : St [] H G152 (oseg none (ints (List.flatten [])) :: _) := S153.nilseg 0
      have S157 := S156.keep 1
      exact ⟨.inr rfl, _, res2 rfl (rv_cell (vs := [.int .i64 0, .slice none 0 0]) rfl Try.isAgg43 Try.sizeOf43 rfl (row_cells (S153.get (k := 2) rfl))) (rv_tmp rfl), none, 0, rfl, S157, Sb.nil, all_nil⟩
    · have hd158 := bif_f c150 hd129
      refine AX.seq ?_
      refine AX.region ?_
      refine AO.p rfl (s_fieldAddr Try.underlying43 rfl Try.sizeOf2 (by decide) rfl rfl) ?_
      refine AO.c rfl (s_load Try.isAgg2 rfl (row_cell (S147.get (k := 0) rfl) rfl)) ?_
      refine AO.p rfl (s_fieldAddr Try.underlying43 rfl Try.sizeOf2 (by decide) rfl rfl) ?_
      refine AO.c rfl (s_load Try.isAgg2 rfl (row_cell (S147.get (k := 1) rfl) rfl)) ?_
      refine AO.p rfl (p_neq rfl rfl) ?_
      refine AO.p rfl (p_assign rfl) ?_
      refine AO.nil ?_
      refine AX.cond rfl (fun c159 => ?_) (fun c159 => ?_)
      · have hd160 := bif_t c159 hd158
        refine AX.seq ?_
        refine AX.region ?_
        refine AO.p rfl (p_build2 (vs := []) (cs := [.int .i64 0, .slice none 0 0]) Try.underlying43 rfl rfl rfl Try.sizeOf2 Try.sizeOf41 Try.zeroValue43 rfl rfl rfl rfl rfl) ?_
        obtain ⟨G161, hHG161, S162⟩ := S147.set (k := 2) (i := i109) rfl (AObj.row false ([.int .i64 0, .slice none 0 0]))
        refine AO.s (s_storeAll (vs := [.int .i64 0, .slice none 0 0]) Try.sizeOf43 rfl rfl (ones_list rfl) (S147.get (k := 2) rfl) rfl rfl hHG161) ?_
        refine AO.p rfl (p_assign rfl) ?_
        refine AO.nil ?_
        refine AX.ret ?_
        obtain ⟨rfl, z163⟩ := Prod.mk.inj (some_inj hd160)
        obtain ⟨rfl, rfl⟩ := Prod.mk.inj z163
        have S165 : St [] H G161 (oseg none (ints (List.flatten [])) :: _) := S162.nilseg 0
        have S166 := S165.keep 1
        exact ⟨.inr rfl, _, res2 rfl (rv_cell (vs := [.int .i64 0, .slice none 0 0]) rfl Try.isAgg43 Try.sizeOf43 rfl (row_cells (S162.get (k := 2) rfl))) (rv_tmp rfl), none, 0, rfl, S166, Sb.nil, all_nil⟩
      · have hd167 := bif_f c159 hd158
        refine AX.seq ?_
        refine AX.region ?_
        refine AO.p rfl (s_fieldAddr Try.underlying43 rfl Try.sizeOf41 (by decide) rfl rfl) ?_
        refine AO.c rfl (s_load Try.isAgg41 rfl (row_cell (S147.get (k := 0) rfl) rfl)) ?_
        refine AO.p rfl (p_len_slice rfl Try.underlying41) ?_
        refine AO.p rfl (s_fieldAddr Try.underlying43 rfl Try.sizeOf41 (by decide) rfl rfl) ?_
        refine AO.c rfl (s_load Try.isAgg41 rfl (row_cell (S147.get (k := 1) rfl) rfl)) ?_
        refine AO.p rfl (p_len_slice rfl Try.underlying41) ?_
        obtain ⟨k168, hd169⟩ := chk_some hd167
        refine AO.p rfl (p_addE rfl rfl k168) ?_
        refine AO.p rfl (p_gtr rfl rfl) ?_
        refine AO.p rfl (p_assign rfl) ?_
        refine AO.nil ?_
        refine AX.cond rfl (fun c170 => ?_) (fun c170 => ?_)
        · have hd171 := bif_t c170 hd169
          refine AX.seq ?_
          refine AX.region ?_
          refine AO.p rfl (p_build2 (vs := []) (cs := [.int .i64 0, .slice none 0 0]) Try.underlying43 rfl rfl rfl Try.sizeOf2 Try.sizeOf41 Try.zeroValue43 rfl rfl rfl rfl rfl) ?_
          obtain ⟨G172, hHG172, S173⟩ := S147.set (k := 2) (i := i109) rfl (AObj.row false ([.int .i64 0, .slice none 0 0]))
          refine AO.s (s_storeAll (vs := [.int .i64 0, .slice none 0 0]) Try.sizeOf43 rfl rfl (ones_list rfl) (S147.get (k := 2) rfl) rfl rfl hHG172) ?_
          refine AO.p rfl (p_assign rfl) ?_
          refine AO.nil ?_
          refine AX.ret ?_
          obtain ⟨rfl, z174⟩ := Prod.mk.inj (some_inj hd171)
          obtain ⟨rfl, rfl⟩ := Prod.mk.inj z174
          have S176 : St [] H G172 (oseg none (ints (List.flatten [])) :: _) := S173.nilseg 0
          have S177 := S176.keep 1
          exact ⟨.inr rfl, _, res2 rfl (rv_cell (vs := [.int .i64 0, .slice none 0 0]) rfl Try.isAgg43 Try.sizeOf43 rfl (row_cells (S173.get (k := 2) rfl))) (rv_tmp rfl), none, 0, rfl, S177, Sb.nil, all_nil⟩
        · have hd178 := bif_f c170 hd169
          refine AX.skip ?_
          refine AX.seq ?_
          refine AX.region ?_
          refine AO.c rfl (s_loadN (vs := [.int .i64 a0_0, .slice p_a0_1 a0_1.length c_a0_1]) Try.isAgg43 Try.sizeOf43 rfl rfl (row_cells (S147.get (k := 0) rfl))) ?_
          obtain ⟨⟨x179, rs180⟩, h181, hd182⟩ := bnd_some hd178
          obtain ⟨_, G189, hc188, p183, c184, rfl, S190, B186, a187⟩ := W_spec_l01Copy fu G148 a0_0 p_a0_1 c_a0_1 a0_1 a_a0_1 (S147.view v_a0_1) x179 rs180 h181
          have S191 := S147.call S190
          refine AO.c rfl (o_call (vs := [.agg [.int .i64 a0_0, .slice p_a0_1 a0_1.length c_a0_1].toArray]) rfl Try.call95 hc188) ?_
          obtain ⟨G192, i193, hii193, hHG192, S194⟩ := S191.new (AObj.row false ([.int .i64 0, .slice none 0 0]))
          refine AO.c rfl (s_alloc (i := i193) (cs := [.int .i64 0, .slice none 0 0]) Try.zeroValue43 rfl rfl hii193 hHG192) ?_
          obtain ⟨G196, hHG196, S197⟩ := S194.set (k := 0) (i := i193) rfl (AObj.row false ([.int .i64 x179, .slice p183 rs180.length c184]))
          refine AO.s (s_storeAll (vs := [.int .i64 x179, .slice p183 rs180.length c184]) Try.sizeOf43 rfl rfl (ones_list rfl) (S194.get (k := 0) rfl) rfl rfl hHG196) ?_
          refine AO.nil ?_
          refine AX.seq ?_
          refine AX.region ?_
          refine AO.p rfl (s_fieldAddr Try.underlying43 rfl Try.sizeOf41 (by decide) rfl rfl) ?_
          refine AO.c rfl (s_load Try.isAgg41 rfl (row_cell (S197.get (k := 0) rfl) rfl)) ?_
          refine AO.p rfl (s_fieldAddr Try.underlying43 rfl Try.sizeOf41 (by decide) rfl rfl) ?_
          refine AO.c rfl (s_load Try.isAgg41 rfl (row_cell (S197.get (k := 3) rfl) rfl)) ?_
          obtain ⟨k198, hd199⟩ := chk_some hd182
          obtain ⟨p200, c201, G202, haG202, S203, Bp200⟩ := S197.app (k := 1) rfl B186 (ints a1_1.flatten) a1_1.length (flat_len1 a_a1_1 rfl)
          have S204 := S203.cellsEq (k := 1) (us' := ints (rs180 ++ a1_1).flatten) (intsf_app _ _) rfl
          have BS204 : Sb p200 ((rs180 ++ a1_1).length) c201 14 := (show rs180.length + a1_1.length = (rs180 ++ a1_1).length from len_app (a := rs180) (b := a1_1) rfl rfl) ▸ Bp200
          refine AO.c rfl (s_app (by_ := 112) (us := ints rs180.flatten) (vs := ints a1_1.flatten) Try.underlying41 Try.underlying41 Try.typeInfo26 Try.sizeOf26 Try.zeroValue26 rfl rfl rfl rfl rfl rfl rfl (S197.buf (k := 1) rfl B186 (flat_len1 a187 rfl)) (S197.view v_a1_1) (flat_len1 a_a1_1 rfl) ints_one k198 haG202 (show rs180.length + a1_1.length = (rs180 ++ a1_1).length from len_app (a := rs180) (b := a1_1) rfl rfl)) ?_
          refine AO.p rfl (s_fieldAddr Try.underlying43 rfl Try.sizeOf41 (by decide) rfl rfl) ?_
          obtain ⟨G205, hHG205, S206⟩ := S204.set (k := 0) (i := i193) rfl (AObj.row false ([.int .i64 x179, .slice p200 ((rs180 ++ a1_1).length) c201]))
          refine AO.s (s_store Try.sizeOf41 rfl rfl rfl (S204.get (k := 0) rfl) (Nat.le_of_ble_eq_true rfl) hHG205) ?_
          refine AO.nil ?_
          refine AX.seq ?_
          refine AX.region ?_
          refine AO.c rfl (s_loadN (vs := [.int .i64 x179, .slice p200 ((rs180 ++ a1_1).length) c201]) Try.isAgg43 Try.sizeOf43 rfl rfl (row_cells (S206.get (k := 0) rfl))) ?_
          obtain ⟨G207, hHG207, S208⟩ := S206.set (k := 4) (i := i109) rfl (AObj.row false ([.int .i64 x179, .slice p200 ((rs180 ++ a1_1).length) c201]))
          refine AO.s (s_storeAll (vs := [.int .i64 x179, .slice p200 ((rs180 ++ a1_1).length) c201]) Try.sizeOf43 rfl rfl (ones_list rfl) (S206.get (k := 4) rfl) rfl rfl hHG207) ?_
          refine AO.p rfl (p_assign rfl) ?_
          refine AO.nil ?_
          refine AX.ret ?_
          obtain ⟨rfl, z209⟩ := Prod.mk.inj (some_inj hd199)
          obtain ⟨rfl, rfl⟩ := Prod.mk.inj z209
          have S211 := S208.front 1 rfl
          have S212 := S211.keep 1
          exact ⟨.inr rfl, _, res2 rfl (rv_cell (vs := [.int .i64 x179, .slice p200 ((rs180 ++ a1_1).length) c201]) rfl Try.isAgg43 Try.sizeOf43 rfl (row_cells (S208.get (k := 4) rfl))) (rv_tmp rfl), p200, c201, rfl, S212, BS204, (all_app a187 a_a1_1)⟩

set_option maxHeartbeats 4000000 in
theorem W_slices_Concat_Simpl_Round_impl_Round (fu : Nat) (H : AHeap) (p_a0 : Option Addr) (c_a0 : Nat) (T_a0 : Tbr) (a0 : List (List (List Int))) (t_a0 : trowsR T_a0 = a0) (v_a0 : Vw H p_a0 a0.length c_a0 (tcellsR T_a0)) (w_a0 : TVwR 14 H T_a0) (r0 : List (List Int)) (hd : D_slices_Concat_Simpl_Round_impl_Round fu a0 = some r0) : ∃ v G', ACall Try.prog 98 [.slice p_a0 a0.length c_a0] H v G' ∧ ∃ (p_r0 : Option Addr) (c_r0 : Nat), (v = .slice p_r0 r0.length c_r0) ∧ St [] H G' [oseg p_r0 (ints r0.flatten)] ∧ Sb p_r0 r0.length c_r0 14 ∧ All 14 r0 := by
  refine ACall.bodyX (args := [.slice p_a0 a0.length c_a0]) (N := 36) [(0, .slice p_a0 a0.length c_a0)] (fun v G' => ∃ (p_r0 : Option Addr) (c_r0 : Nat), (v = .slice p_r0 r0.length c_r0) ∧ St [] H G' [oseg p_r0 (ints r0.flatten)] ∧ Sb p_r0 r0.length c_r0 14 ∧ All 14 r0) Try.func98 rfl rfl rfl rfl ?_
  unfold D_slices_Concat_Simpl_Round_impl_Round at hd
  have S0 : St [] H H [] := St.nil H
  refine AX.seq ?_
  refine AX.region ?_
  refine AO.p rfl (p_assign rfl) ?_
  refine AO.nil ?_
  refine AX.seq ?_
  refine AX.region ?_
  refine AO.p rfl (p_assign rfl) ?_
  refine AO.nil ?_
  refine AX.seq ?_
  refine AX.seq ?_
  refine AX.region ?_
  refine AO.p rfl (p_move rfl) ?_
  refine AO.p rfl (p_len_slice rfl Try.underlying125) ?_
  refine AO.p rfl (p_move rfl) ?_
  refine AO.nil ?_
  obtain ⟨r168, hl169, hd170⟩ := bnd_some hd
  refine AX.cutS (fun t' H' => ∃ (x167 : Int), x167 = r168 ∧ St [] H H' [] ∧ Am.Sub [(0, .slice p_a0 a0.length c_a0), (3, .int .i64 x167)] t') ?_ ?_
  · refine AX.block ?_
    refine AX.loopF (fun s' t' H' => ∃ (x144 : Int) (x145 : Int), (x144, x145) = s' ∧ St [] H H' [] ∧ Am.Sub [(0, .slice p_a0 a0.length c_a0), (3, .int .i64 x144), (9, .slice p_a0 a0.length c_a0), (10, .int .i64 ((a0.length : Nat) : Int)), (11, .int .i64 x145)] t') hl169 ?_ ?_
    · skip
      exact ⟨0, 0, rfl, S0, Sub.cons' rfl rfl (Sub.cons' rfl rfl (Sub.cons' rfl rfl (Sub.cons' rfl rfl (Sub.cons' rfl rfl (Sub.nil _)))))⟩
    · rintro n171 _ t' G175 ⟨x144, x145, rfl, S174, hsub176⟩ o177 ho172 hk173
      refine AX.sub hsub176 ?_
      unfold D_slices_Concat_Simpl_Round_impl_Round_s0 at ho172
      refine AX.seq ?_
      refine AX.region ?_
      refine AO.p rfl (p_lss rfl rfl) ?_
      refine AO.nil ?_
      refine AX.seq ?_
      refine AX.cond rfl (fun c178 => ?_) (fun c178 => ?_)
      · have hd179 := bif_t c178 ho172
        refine AX.skip ?_
        refine AX.seq ?_
        refine AX.block ?_
        refine AX.seq ?_
        refine AX.region ?_
        obtain ⟨k180, hd181⟩ := chk_some hd179
        obtain ⟨p182, c183, T186, e184, f185, t187⟩ := tgetR t_a0 (lt_len rfl (inR_lt k180))
        refine AO.p rfl (s_indexV (q := off p_a0 + x145.toNat) Try.underlying125 Try.sizeOf41 rfl ((S174.view v_a0).p f185) rfl k180 (o1 _ _)) ?_
        refine AO.c rfl (s_load Try.isAgg41 rfl ((S174.view v_a0).get _ _ f185)) ?_
        refine AO.p rfl (p_assign rfl) ?_
        refine AO.nil ?_
        refine AX.seq ?_
        refine AX.region ?_
        refine AO.p rfl (p_move rfl) ?_
        refine AO.p rfl (p_move rfl) ?_
        refine AO.p rfl (p_len_slice rfl Try.underlying41) ?_
        obtain ⟨k188, hd189⟩ := chk_some hd181
        refine AO.p rfl (p_addE rfl rfl k188) ?_
        refine AO.p rfl (p_assign rfl) ?_
        refine AO.nil ?_
        refine AX.seq ?_
        refine AX.region ?_
        refine AO.p rfl (p_move rfl) ?_
        refine AO.p rfl (p_lss rfl rfl) ?_
        refine AO.nil ?_
        refine AX.cond rfl (fun c190 => ?_) (fun c190 => ?_)
        · have hd191 := bif_t c190 hd189
          cases hd191
        · have hd192 := bif_f c190 hd189
          refine AX.skip ?_
          refine AX.region ?_
          obtain ⟨k193, hd194⟩ := chk_some hd192
          refine AO.p rfl (p_addE rfl rfl k193) ?_
          refine AO.p rfl (p_move rfl) ?_
          refine AO.nil ?_
          obtain rfl := some_inj hd194
          exact ⟨(x144 + (((rw3 a0 x145.toNat).length : Nat) : Int), x145 + 1), hk173, (x144 + (((rw3 a0 x145.toNat).length : Nat) : Int)), (x145 + 1), rfl, S174, Sub.cons' rfl rfl (Sub.cons' rfl rfl (Sub.cons' rfl rfl (Sub.cons' rfl rfl (Sub.cons' rfl rfl (Sub.nil _)))))⟩
      · have hd196 := bif_f c178 ho172
        refine AX.exit ?_
        obtain rfl := some_inj hd196
        exact ⟨x144, hk173, S174, Sub.cons' rfl rfl (Sub.cons' rfl rfl (Sub.nil _))⟩
  · rintro t' G198 ⟨x167, rfl, S197, hsub199⟩
    refine ⟨_, hsub199, ?_⟩
    refine AX.seq ?_
    refine AX.region ?_
    refine AO.p rfl (p_move rfl) ?_
    obtain ⟨rs200, h201, hd202⟩ := bnd_some hd170
    obtain ⟨_, G209, hc208, p203, c204, rfl, S210, B206, a207⟩ := W_slices_Grow_Simpl_Round_impl_Round fu G198 x167 rs200 h201
    have S211 := S197.call S210
    refine AO.c rfl (o_call (vs := [.slice none 0 0, .int .i64 x167]) rfl Try.call146 hc208) ?_
    refine AO.p rfl (p_assign rfl) ?_
    refine AO.nil ?_
    refine AX.seq ?_
    refine AX.seq ?_
    refine AX.region ?_
    refine AO.p rfl (p_move rfl) ?_
    refine AO.p rfl (p_len_slice rfl Try.underlying125) ?_
    refine AO.p rfl (p_move rfl) ?_
    refine AO.nil ?_
    obtain ⟨r296, hl297, hd298⟩ := bnd_some hd202
    refine AX.cutS (fun t' H' => ∃ (rs295 : List (List Int)) (p293 : Option Addr) (c294 : Nat), rs295 = r296 ∧ St [] H H' [oseg p293 (ints rs295.flatten)] ∧ All 14 rs295 ∧ Sb p293 (rs295.length) c294 14 ∧ Am.Sub [(6, .slice p293 rs295.length c294)] t') ?_ ?_
    · refine AX.block ?_
      refine AX.loopF (fun s' t' H' => ∃ (rs267 : List (List Int)) (x268 : Int) (p265 : Option Addr) (c266 : Nat), (rs267, x268) = s' ∧ St [] H H' [oseg p265 (ints rs267.flatten)] ∧ All 14 rs267 ∧ Sb p265 (rs267.length) c266 14 ∧ Am.Sub [(6, .slice p265 rs267.length c266), (25, .slice p_a0 a0.length c_a0), (26, .int .i64 ((a0.length : Nat) : Int)), (27, .int .i64 x268)] t') hl297 ?_ ?_
      · skip
        have S299 := S211.front 0 rfl
        exact ⟨rs200, 0, p203, c204, rfl, S299, a207, B206, Sub.cons' rfl rfl (Sub.cons' rfl rfl (Sub.cons' rfl rfl (Sub.cons' rfl rfl (Sub.nil _))))⟩
      · rintro n300 _ t' G304 ⟨rs267, x268, p265, c266, rfl, S303, ars267, Bo264, hsub305⟩ o306 ho301 hk302
        refine AX.sub hsub305 ?_
        unfold D_slices_Concat_Simpl_Round_impl_Round_s1 at ho301
        refine AX.seq ?_
        refine AX.region ?_
        refine AO.p rfl (p_lss rfl rfl) ?_
        refine AO.nil ?_
        refine AX.seq ?_
        refine AX.cond rfl (fun c307 => ?_) (fun c307 => ?_)
        · have hd308 := bif_t c307 ho301
          refine AX.skip ?_
          refine AX.seq ?_
          refine AX.block ?_
          refine AX.seq ?_
          refine AX.region ?_
          obtain ⟨k309, hd310⟩ := chk_some hd308
          obtain ⟨p311, c312, T315, e313, f314, t316⟩ := tgetR t_a0 (lt_len rfl (inR_lt k309))
          refine AO.p rfl (s_indexV (q := off p_a0 + x268.toNat) Try.underlying125 Try.sizeOf41 rfl ((S303.view v_a0).p f314) rfl k309 (o1 _ _)) ?_
          refine AO.c rfl (s_load Try.isAgg41 rfl ((S303.view v_a0).get _ _ f314)) ?_
          refine AO.p rfl (p_assign rfl) ?_
          refine AO.nil ?_
          refine AX.region ?_
          refine AO.p rfl (p_move rfl) ?_
          refine AO.p rfl (p_move rfl) ?_
          obtain ⟨k317, hd318⟩ := chk_some hd310
          obtain ⟨p319, c320, G321, haG321, S322, Bp319⟩ := S303.app (k := 0) rfl Bo264 (ints (rw3 a0 x268.toNat).flatten) ((rw3 a0 x268.toNat).length) (flat_len1 (TVwR.at2 w_a0 e313 t316) rfl)
          have S323 := S322.cellsEq (k := 0) (us' := ints (rs267 ++ (rw3 a0 x268.toNat)).flatten) (intsf_app _ _) rfl
          have BS323 : Sb p319 ((rs267 ++ (rw3 a0 x268.toNat)).length) c320 14 := (show rs267.length + (rw3 a0 x268.toNat).length = (rs267 ++ (rw3 a0 x268.toNat)).length from len_app (a := rs267) (b := (rw3 a0 x268.toNat)) rfl rfl) ▸ Bp319
          refine AO.c rfl (s_app (by_ := 112) (us := ints rs267.flatten) (vs := ints (rw3 a0 x268.toNat).flatten) Try.underlying41 Try.underlying41 Try.typeInfo26 Try.sizeOf26 Try.zeroValue26 rfl rfl rfl rfl rfl rfl rfl (S303.buf (k := 0) rfl Bo264 (flat_len1 ars267 rfl)) (S303.view (TVwR.at1 w_a0 e313 t316 rfl)) (flat_len1 (TVwR.at2 w_a0 e313 t316) rfl) ints_one k317 haG321 (show rs267.length + (rw3 a0 x268.toNat).length = (rs267 ++ (rw3 a0 x268.toNat)).length from len_app (a := rs267) (b := (rw3 a0 x268.toNat)) rfl rfl)) ?_
          refine AO.p rfl (p_assign rfl) ?_
          refine AO.nil ?_
          refine AX.region ?_
          obtain ⟨k324, hd325⟩ := chk_some hd318
          refine AO.p rfl (p_addE rfl rfl k324) ?_
          refine AO.p rfl (p_move rfl) ?_
          refine AO.nil ?_
          obtain rfl := some_inj hd325
          have S327 := S323.front 0 rfl
          exact ⟨((rs267 ++ (rw3 a0 x268.toNat)), x268 + 1), hk302, (rs267 ++ (rw3 a0 x268.toNat)), (x268 + 1), p319, c320, rfl, S327, (all_app ars267 (TVwR.at2 w_a0 e313 t316)), BS323, Sub.cons' rfl rfl (Sub.cons' rfl rfl (Sub.cons' rfl rfl (Sub.cons' rfl rfl (Sub.nil _))))⟩
        · have hd328 := bif_f c307 ho301
          refine AX.exit ?_
          obtain rfl := some_inj hd328
          have S329 := S303.front 0 rfl
          exact ⟨rs267, p265, c266, hk302, S329, ars267, Bo264, Sub.cons' rfl rfl (Sub.nil _)⟩
    · rintro t' G331 ⟨rs295, p293, c294, rfl, S330, ars295, Bo292, hsub332⟩
      refine ⟨_, hsub332, ?_⟩
      refine AX.seq ?_
      refine AX.region ?_
      refine AO.p rfl (p_move rfl) ?_
      refine AO.p rfl (p_assign rfl) ?_
      refine AO.nil ?_
      refine AX.ret ?_
      obtain rfl := some_inj hd298
      have S333 := S330.front 0 rfl
      exact ⟨.inr rfl, _, res1 rfl (rv_tmp rfl), p293, c294, rfl, S333, Bo292, ars295⟩

set_option maxHeartbeats 4000000 in
theorem W_slices_Clone_Simpl_Round_impl_Round (fu : Nat) (H : AHeap) (p_a0 : Option Addr) (c_a0 : Nat) (a0 : List (List Int)) (a_a0 : All 14 a0) (v_a0 : Vw H p_a0 a0.length c_a0 (ints a0.flatten)) (e_a0 : c_a0 ≠ capE) (r0 : List (List Int)) (hd : D_slices_Clone_Simpl_Round_impl_Round fu a0 = some r0) : ∃ v G', ACall Try.prog 145 [.slice p_a0 a0.length c_a0] H v G' ∧ ∃ (p_r0 : Option Addr) (c_r0 : Nat), (v = .slice p_r0 r0.length c_r0) ∧ St [] H G' [oseg p_r0 (ints r0.flatten)] ∧ Sb p_r0 r0.length c_r0 14 ∧ All 14 r0 := by
  refine ACall.bodyX (args := [.slice p_a0 a0.length c_a0]) (N := 8) [(0, .slice p_a0 a0.length c_a0)] (fun v G' => ∃ (p_r0 : Option Addr) (c_r0 : Nat), (v = .slice p_r0 r0.length c_r0) ∧ St [] H G' [oseg p_r0 (ints r0.flatten)] ∧ Sb p_r0 r0.length c_r0 14 ∧ All 14 r0) Try.func145 rfl rfl rfl rfl ?_
  unfold D_slices_Clone_Simpl_Round_impl_Round at hd
  have S0 : St [] H H [] := St.nil H
  refine AX.seq ?_
  refine AX.region ?_
  refine AO.p rfl (p_assign rfl) ?_
  refine AO.nil ?_
  refine AX.seq ?_
  refine AX.seq ?_
  refine AX.region ?_
  refine AO.p rfl (p_move rfl) ?_
  refine AO.p rfl (p_eqlNil Try.underlying41 rfl e_a0) ?_
  refine AO.nil ?_
  refine AX.cond rfl (fun c100 => ?_) (fun c100 => ?_)
  · obtain rfl : a0 = [] := List.eq_nil_of_length_eq_zero (vw_nil v_a0 c100).1
    obtain ⟨_, hd101⟩ := chk_some hd
    refine AX.seq ?_
    refine AX.region ?_
    refine AO.p rfl (p_assign rfl) ?_
    refine AO.nil ?_
    refine AX.ret ?_
    obtain rfl := some_inj hd101
    have S102 : St [] H H (oseg none (ints (List.flatten [])) :: _) := S0.nilseg 0
    exact ⟨.inr rfl, _, res1 rfl (rv_tmp rfl), none, 0, rfl, S102, Sb.nil, all_nil⟩
  · skip
    refine AX.skip ?_
    refine AX.seq ?_
    refine AX.region ?_
    obtain ⟨G103, i104, hii104, hHG103, S105⟩ := S0.new (AObj.row false (ints [].flatten))
    refine AO.c rfl (s_build0 (i := i104) Try.underlying41 Try.sizeOf26 hii104 hHG103) ?_
    refine AO.p rfl (p_move rfl) ?_
    obtain ⟨k107, hd108⟩ := chk_some hd
    obtain ⟨p109, c110, G111, haG111, S112, Bp109⟩ := S105.app (k := 0) rfl (Sb.lit (n := 0) (by decide)) (ints a0.flatten) a0.length (flat_len1 a_a0 rfl)
    have S113 := S112.cellsEq (k := 0) (us' := ints a0.flatten) (List.nil_append _) rfl
    have BS113 : Sb p109 (a0.length) c110 14 := (show 0 + a0.length = a0.length from len_nilapp (b := a0) rfl) ▸ Bp109
    refine AO.c rfl (s_app (by_ := 112) (us := ints [].flatten) (vs := ints a0.flatten) Try.underlying41 Try.underlying41 Try.typeInfo26 Try.sizeOf26 Try.zeroValue26 rfl rfl rfl rfl rfl rfl rfl (S105.buf (k := 0) rfl (Sb.lit (n := 0) (by decide)) (flat_len1 all_nil rfl)) (S105.view v_a0) (flat_len1 a_a0 rfl) ints_one k107 haG111 (show 0 + a0.length = a0.length from len_nilapp (b := a0) rfl)) ?_
    refine AO.p rfl (p_assign rfl) ?_
    refine AO.nil ?_
    refine AX.ret ?_
    obtain rfl := some_inj hd108
    have S114 := S113.front 0 rfl
    exact ⟨.inr rfl, _, res1 rfl (rv_tmp rfl), p109, c110, rfl, S114, BS113, a_a0⟩

set_option maxHeartbeats 4000000 in
theorem W_impl_Schedule_with (fu : Nat) (H : AHeap) (a0_0 : Int) (p_a0_1 : Option Addr) (c_a0_1 : Nat) (a0_1 : List (List Int)) (a_a0_1 : All 14 a0_1) (v_a0_1 : Vw H p_a0_1 a0_1.length c_a0_1 (ints a0_1.flatten)) (p_a1 : Option Addr) (c_a1 : Nat) (a1 : List (List Int)) (a_a1 : All 14 a1) (v_a1 : Vw H p_a1 a1.length c_a1 (ints a1.flatten)) (e_a1 : c_a1 ≠ capE) (r0 : Int) (r1 : List (List Int)) (hd : D_impl_Schedule_with fu a0_0 a0_1 a1 = some (r0, r1)) : ∃ v G', ACall Try.prog 97 [.agg [.int .i64 a0_0, .slice p_a0_1 a0_1.length c_a0_1].toArray, .slice p_a1 a1.length c_a1] H v G' ∧ ∃ (p_r1 : Option Addr) (c_r1 : Nat), (v = .agg [.int .i64 r0, .slice p_r1 r1.length c_r1].toArray) ∧ St [] H G' [oseg p_r1 (ints r1.flatten)] ∧ Sb p_r1 r1.length c_r1 14 ∧ All 14 r1 := by
  refine ACall.bodyX (args := [.agg [.int .i64 a0_0, .slice p_a0_1 a0_1.length c_a0_1].toArray, .slice p_a1 a1.length c_a1]) (N := 10) [(0, .agg [.int .i64 a0_0, .slice p_a0_1 a0_1.length c_a0_1].toArray), (1, .slice p_a1 a1.length c_a1)] (fun v G' => ∃ (p_r1 : Option Addr) (c_r1 : Nat), (v = .agg [.int .i64 r0, .slice p_r1 r1.length c_r1].toArray) ∧ St [] H G' [oseg p_r1 (ints r1.flatten)] ∧ Sb p_r1 r1.length c_r1 14 ∧ All 14 r1) Try.func97 rfl rfl rfl rfl ?_
  unfold D_impl_Schedule_with at hd
  have S0 : St [] H H [] := St.nil H
  refine AX.seq ?_
  refine AX.region ?_
  obtain ⟨G100, i101, hii101, hHG100, S102⟩ := S0.new (AObj.row false ([.int .i64 a0_0, .slice p_a0_1 a0_1.length c_a0_1]))
  refine AO.c rfl (s_box (i := i101) (cs := [.int .i64 a0_0, .slice p_a0_1 a0_1.length c_a0_1]) rfl hii101 rfl hHG100) ?_
  obtain ⟨G104, i105, hii105, hHG104, S106⟩ := S102.new (AObj.row false ([.int .i64 0, .slice none 0 0]))
  refine AO.c rfl (s_alloc (i := i105) (cs := [.int .i64 0, .slice none 0 0]) Try.zeroValue43 rfl rfl hii105 hHG104) ?_
  refine AO.nil ?_
  refine AX.seq ?_
  refine DR.startS [false, false, false, true, false, true] mix (by kernel_rfl) (fun hst => ?_)
  refine DR.p rfl rfl (s_fieldAddr Try.underlying43 rfl Try.sizeOf2 (by decide) rfl rfl) ?_
  refine DR.r rfl rfl (r_load rfl Try.isAgg2) (one_read (row_cell (S106.get (k := 1) rfl) rfl) (.of_flat0 rfl)) ?_
  refine DR.p rfl rfl (p_move rfl) ?_
  obtain ⟨rs108, h109, hd110⟩ := bnd_some hd
  obtain ⟨_, G117, hc116, p111, c112, rfl, S118, B114, a115⟩ := W_slices_Clone_Simpl_Round_impl_Round fu G104 p_a1 c_a1 a1 a_a1 (S106.view v_a1) e_a1 rs108 h109
  have S119 := S106.call S118
  refine DR.w rfl rfl (o_call (vs := [.slice p_a1 a1.length c_a1]) rfl Try.call145 hc116) (S118.len) ?_
  refine DR.p rfl rfl (p_build2 (vs := [(0, .int .i64 a0_0), (1, .slice p111 rs108.length c112)]) (cs := [.int .i64 a0_0, .slice p111 rs108.length c112]) Try.underlying43 rfl rfl rfl Try.sizeOf2 Try.sizeOf41 Try.zeroValue43 rfl rfl rfl rfl rfl) ?_
  obtain ⟨G120, hHG120, S121⟩ := S119.set (k := 1) (i := i105) rfl (AObj.row false ([.int .i64 a0_0, .slice p111 rs108.length c112]))
  refine DR.s rfl (s_storeAll (vs := [.int .i64 a0_0, .slice p111 rs108.length c112]) Try.sizeOf43 rfl rfl (ones_list rfl) (S119.get (k := 1) rfl) rfl rfl hHG120) (set_le hHG120) ?_
  refine DR.nil 6 [(1, 3)] hst (by kernel_rfl) ⟨(rd1 (fun h => S118.hold _ h)), trivial⟩ ?_
  refine AX.ret ?_
  obtain ⟨rfl, rfl⟩ := Prod.mk.inj (some_inj hd110)
  have S123 := S121.front 0 rfl
  have S124 := S123.keep 1
  exact ⟨.inr rfl, _, res1 rfl (rv_cell (vs := [.int .i64 a0_0, .slice p111 rs108.length c112]) rfl Try.isAgg43 Try.sizeOf43 rfl (row_cells (S121.get (k := 1) rfl))), p111, c112, rfl, S124, B114, a115⟩

set_option maxHeartbeats 4000000 in
theorem W_impl_JoinSchedules (fu : Nat) (H : AHeap) (a0_0 : Int) (p_a0_1 : Option Addr) (c_a0_1 : Nat) (a0_1 : List (List Int)) (a_a0_1 : All 14 a0_1) (v_a0_1 : Vw H p_a0_1 a0_1.length c_a0_1 (ints a0_1.flatten)) (a1_0 : Int) (p_a1_1 : Option Addr) (c_a1_1 : Nat) (a1_1 : List (List Int)) (a_a1_1 : All 14 a1_1) (v_a1_1 : Vw H p_a1_1 a1_1.length c_a1_1 (ints a1_1.flatten)) (r0 : Int) (r1 : List (List Int)) (r2 : Int) (hd : D_impl_JoinSchedules fu a0_0 a0_1 a1_0 a1_1 = some (r0, r1, r2)) : ∃ v G', ACall Try.prog 50 [.agg [.int .i64 a0_0, .slice p_a0_1 a0_1.length c_a0_1].toArray, .agg [.int .i64 a1_0, .slice p_a1_1 a1_1.length c_a1_1].toArray] H v G' ∧ ∃ (p_r1 : Option Addr) (c_r1 : Nat), (v = .tuple #[.agg [.int .i64 r0, .slice p_r1 r1.length c_r1].toArray, .int .i64 r2]) ∧ St [] H G' [oseg p_r1 (ints r1.flatten)] ∧ Sb p_r1 r1.length c_r1 14 ∧ All 14 r1 := by
  refine ACall.bodyX (args := [.agg [.int .i64 a0_0, .slice p_a0_1 a0_1.length c_a0_1].toArray, .agg [.int .i64 a1_0, .slice p_a1_1 a1_1.length c_a1_1].toArray]) (N := 41) [(0, .agg [.int .i64 a0_0, .slice p_a0_1 a0_1.length c_a0_1].toArray), (1, .agg [.int .i64 a1_0, .slice p_a1_1 a1_1.length c_a1_1].toArray)] (fun v G' => ∃ (p_r1 : Option Addr) (c_r1 : Nat), (v = .tuple #[.agg [.int .i64 r0, .slice p_r1 r1.length c_r1].toArray, .int .i64 r2]) ∧ St [] H G' [oseg p_r1 (ints r1.flatten)] ∧ Sb p_r1 r1.length c_r1 14 ∧ All 14 r1) Try.func50 rfl rfl rfl rfl ?_
  unfold D_impl_JoinSchedules at hd
  have S0 : St [] H H [] := St.nil H
  refine AX.seq ?_
  refine AX.region ?_
  obtain ⟨G100, i101, hii101, hHG100, S102⟩ := S0.new (AObj.row false ([.int .i64 a0_0, .slice p_a0_1 a0_1.length c_a0_1]))
  refine AO.c rfl (s_box (i := i101) (cs := [.int .i64 a0_0, .slice p_a0_1 a0_1.length c_a0_1]) rfl hii101 rfl hHG100) ?_
  obtain ⟨G104, i105, hii105, hHG104, S106⟩ := S102.new (AObj.row false ([.int .i64 a1_0, .slice p_a1_1 a1_1.length c_a1_1]))
  refine AO.c rfl (s_box (i := i105) (cs := [.int .i64 a1_0, .slice p_a1_1 a1_1.length c_a1_1]) rfl hii105 rfl hHG104) ?_
  obtain ⟨G108, i109, hii109, hHG108, S110⟩ := S106.new (AObj.row false ([.int .i64 0, .slice none 0 0]))
  refine AO.c rfl (s_alloc (i := i109) (cs := [.int .i64 0, .slice none 0 0]) Try.zeroValue43 rfl rfl hii109 hHG108) ?_
  refine AO.p rfl (p_assign rfl) ?_
  refine AO.nil ?_
  refine AX.seq ?_
  refine AX.block ?_
  obtain ⟨r127, hb128, hd129⟩ := bnd_some hd
  refine AX.cut (fun t' H' => ∃ (b126 : Bool), b126 = r127 ∧ St [] H H' [[(i101, AObj.row false ([.int .i64 a0_0, .slice p_a0_1 a0_1.length c_a0_1]))], [(i105, AObj.row false ([.int .i64 a1_0, .slice p_a1_1 a1_1.length c_a1_1]))], [(i109, AObj.row false ([.int .i64 0, .slice none 0 0]))]] ∧ Am.Sub [(2, .pointer (some ⟨i101, 0, none⟩)), (3, .pointer (some ⟨i105, 0, none⟩)), (4, .pointer (some ⟨i109, 0, none⟩)), (6, .bool b126)] t') ?_ ?_
  · skip
    refine AX.region ?_
    refine AO.c rfl (s_loadN (vs := [.int .i64 a0_0, .slice p_a0_1 a0_1.length c_a0_1]) Try.isAgg43 Try.sizeOf43 rfl rfl (row_cells (S110.get (k := 2) rfl))) ?_
    obtain ⟨b130, h131, hd132⟩ := bnd_some hb128
    refine AO.c rfl (o_call (vs := [.agg [.int .i64 a0_0, .slice p_a0_1 a0_1.length c_a0_1].toArray]) rfl Try.call96 (W_impl_IsSchedule fu G108 a0_0 p_a0_1 c_a0_1 a0_1 a_a0_1 (S110.view v_a0_1) b130 h131)) ?_
    refine AO.p rfl (p_not rfl) ?_
    refine AO.p rfl (p_move rfl) ?_
    refine AO.cases (d := 10) rfl (fun c134 => ?_) (fun c134 => ?_)
    · have hd135 := bif_t c134 hd132
      refine AO.gn rfl rfl rfl ?_
      refine AO.gn rfl rfl rfl ?_
      refine AO.gn rfl rfl rfl ?_
      refine AO.p rfl (p_pickT rfl rfl) ?_
      refine AO.p rfl (p_assign rfl) ?_
      refine AO.nil ?_
      have S136 := S110.front 0 rfl
      have S137 := S136.front 1 rfl
      have S138 := S137.front 2 rfl
      exact ⟨true, (some_inj hd135), S138, Sub.cons' rfl rfl (Sub.cons' rfl rfl (Sub.cons' rfl rfl (Sub.cons' rfl rfl (Sub.nil _))))⟩
    · have hd139 := bif_f c134 hd132
      refine AO.gc rfl rfl rfl (s_loadN (vs := [.int .i64 a1_0, .slice p_a1_1 a1_1.length c_a1_1]) Try.isAgg43 Try.sizeOf43 rfl rfl (row_cells (S110.get (k := 1) rfl))) ?_
      obtain ⟨b140, h141, hd142⟩ := bnd_some hd139
      refine AO.gc rfl rfl rfl (o_call (vs := [.agg [.int .i64 a1_0, .slice p_a1_1 a1_1.length c_a1_1].toArray]) rfl Try.call96 (W_impl_IsSchedule fu G108 a1_0 p_a1_1 c_a1_1 a1_1 a_a1_1 (S110.view v_a1_1) b140 h141)) ?_
      refine AO.gp rfl rfl rfl (p_not rfl) ?_
      refine AO.p rfl (p_pickF rfl rfl) ?_
      refine AO.p rfl (p_assign rfl) ?_
      refine AO.nil ?_
      have S144 := S110.front 0 rfl
      have S145 := S144.front 1 rfl
      have S146 := S145.front 2 rfl
      exact ⟨(!b140), (some_inj hd142), S146, Sub.cons' rfl rfl (Sub.cons' rfl rfl (Sub.cons' rfl rfl (Sub.cons' rfl rfl (Sub.nil _))))⟩
  · rintro t' G148 ⟨b126, rfl, S147, hsub149⟩
    refine AX.sub hsub149 ?_
    refine AX.cond rfl (fun c150 => ?_) (fun c150 => ?_)
    · have hd151 := bif_t c150 hd129
      refine AX.seq ?_
      refine AX.region ?_
      refine AO.p rfl (p_build2 (vs := []) (cs := [.int .i64 0, .slice none 0 0]) Try.underlying43 rfl rfl rfl Try.sizeOf2 Try.sizeOf41 Try.zeroValue43 rfl rfl rfl rfl rfl) ?_
      obtain ⟨G152, hHG152, S153⟩ := S147.set (k := 2) (i := i109) rfl (AObj.row false ([.int .i64 0, .slice none 0 0]))
      refine AO.s (s_storeAll (vs := [.int .i64 0, .slice none 0 0]) Try.sizeOf43 rfl rfl (ones_list rfl) (S147.get (k := 2) rfl) rfl rfl hHG152) ?_
      refine AO.p rfl (p_assign rfl) ?_
      refine AO.nil ?_
      refine AX.ret ?_
      obtain ⟨rfl, z154⟩ := Prod.mk.inj (some_inj hd151)
      obtain ⟨rfl, rfl⟩ := Prod.mk.inj z154
      have S156 : St [] H G152 (oseg none (ints (List.flatten [])) :: _) := S153.nilseg 0
      have S157 := S156.keep 1
      exact ⟨.inr rfl, _, res2 rfl (rv_cell (vs := [.int .i64 0, .slice none 0 0]) rfl Try.isAgg43 Try.sizeOf43 rfl (row_cells (S153.get (k := 2) rfl))) (rv_tmp rfl), none, 0, rfl, S157, Sb.nil, all_nil⟩
    · have hd158 := bif_f c150 hd129
      refine AX.seq ?_
      refine AX.region ?_
      refine AO.p rfl (s_fieldAddr Try.underlying43 rfl Try.sizeOf2 (by decide) rfl rfl) ?_
      refine AO.c rfl (s_load Try.isAgg2 rfl (row_cell (S147.get (k := 0) rfl) rfl)) ?_
      refine AO.p rfl (s_fieldAddr Try.underlying43 rfl Try.sizeOf2 (by decide) rfl rfl) ?_
      refine AO.c rfl (s_load Try.isAgg2 rfl (row_cell (S147.get (k := 1) rfl) rfl)) ?_
      refine AO.p rfl (p_neq rfl rfl) ?_
      refine AO.p rfl (p_assign rfl) ?_
      refine AO.nil ?_
      refine AX.cond rfl (fun c159 => ?_) (fun c159 => ?_)
      · have hd160 := bif_t c159 hd158
        refine AX.seq ?_
        refine AX.region ?_
        refine AO.p rfl (p_build2 (vs := []) (cs := [.int .i64 0, .slice none 0 0]) Try.underlying43 rfl rfl rfl Try.sizeOf2 Try.sizeOf41 Try.zeroValue43 rfl rfl rfl rfl rfl) ?_
        obtain ⟨G161, hHG161, S162⟩ := S147.set (k := 2) (i := i109) rfl (AObj.row false ([.int .i64 0, .slice none 0 0]))
        refine AO.s (s_storeAll (vs := [.int .i64 0, .slice none 0 0]) Try.sizeOf43 rfl rfl (ones_list rfl) (S147.get (k := 2) rfl) rfl rfl hHG161) ?_
        refine AO.p rfl (p_assign rfl) ?_
        refine AO.nil ?_
        refine AX.ret ?_
        obtain ⟨rfl, z163⟩ := Prod.mk.inj (some_inj hd160)
        obtain ⟨rfl, rfl⟩ := Prod.mk.inj z163
        have S165 : St [] H G161 (oseg none (ints (List.flatten [])) :: _) := S162.nilseg 0
        have S166 := S165.keep 1
        exact ⟨.inr rfl, _, res2 rfl (rv_cell (vs := [.int .i64 0, .slice none 0 0]) rfl Try.isAgg43 Try.sizeOf43 rfl (row_cells (S162.get (k := 2) rfl))) (rv_tmp rfl), none, 0, rfl, S166, Sb.nil, all_nil⟩
      · have hd167 := bif_f c159 hd158
        refine AX.seq ?_
        refine AX.region ?_
        refine AO.p rfl (s_fieldAddr Try.underlying43 rfl Try.sizeOf41 (by decide) rfl rfl) ?_
        refine AO.c rfl (s_load Try.isAgg41 rfl (row_cell (S147.get (k := 0) rfl) rfl)) ?_
        refine AO.p rfl (p_len_slice rfl Try.underlying41) ?_
        refine AO.p rfl (s_fieldAddr Try.underlying43 rfl Try.sizeOf41 (by decide) rfl rfl) ?_
        refine AO.c rfl (s_load Try.isAgg41 rfl (row_cell (S147.get (k := 1) rfl) rfl)) ?_
        refine AO.p rfl (p_len_slice rfl Try.underlying41) ?_
        obtain ⟨k168, hd169⟩ := chk_some hd167
        refine AO.p rfl (p_addE rfl rfl k168) ?_
        refine AO.p rfl (p_gtr rfl rfl) ?_
        refine AO.p rfl (p_assign rfl) ?_
        refine AO.nil ?_
        refine AX.cond rfl (fun c170 => ?_) (fun c170 => ?_)
        · have hd171 := bif_t c170 hd169
          refine AX.seq ?_
          refine AX.region ?_
          refine AO.p rfl (p_build2 (vs := []) (cs := [.int .i64 0, .slice none 0 0]) Try.underlying43 rfl rfl rfl Try.sizeOf2 Try.sizeOf41 Try.zeroValue43 rfl rfl rfl rfl rfl) ?_
          obtain ⟨G172, hHG172, S173⟩ := S147.set (k := 2) (i := i109) rfl (AObj.row false ([.int .i64 0, .slice none 0 0]))
          refine AO.s (s_storeAll (vs := [.int .i64 0, .slice none 0 0]) Try.sizeOf43 rfl rfl (ones_list rfl) (S147.get (k := 2) rfl) rfl rfl hHG172) ?_
          refine AO.p rfl (p_assign rfl) ?_
          refine AO.nil ?_
          refine AX.ret ?_
          obtain ⟨rfl, z174⟩ := Prod.mk.inj (some_inj hd171)
          obtain ⟨rfl, rfl⟩ := Prod.mk.inj z174
          have S176 : St [] H G172 (oseg none (ints (List.flatten [])) :: _) := S173.nilseg 0
          have S177 := S176.keep 1
          exact ⟨.inr rfl, _, res2 rfl (rv_cell (vs := [.int .i64 0, .slice none 0 0]) rfl Try.isAgg43 Try.sizeOf43 rfl (row_cells (S173.get (k := 2) rfl))) (rv_tmp rfl), none, 0, rfl, S177, Sb.nil, all_nil⟩
        · have hd178 := bif_f c170 hd169
          refine AX.skip ?_
          refine AX.seq ?_
          refine DR.startS [false, false, false, false, false, false, true, true, true, false] mix (by kernel_rfl) (fun hst => ?_)
          refine DR.r rfl rfl (r_loadN (vs := [.int .i64 a0_0, .slice p_a0_1 a0_1.length c_a0_1]) rfl Try.isAgg43 Try.sizeOf43 rfl) (many_row (row_cells (S147.get (k := 0) rfl)) (bel_cons (.of_flat0 rfl) (bel_cons (S147.view v_a0_1).inn.bel bel_nil))) ?_
          refine DR.p rfl rfl (s_fieldAddr Try.underlying43 rfl Try.sizeOf41 (by decide) rfl rfl) ?_
          refine DR.r rfl rfl (r_load rfl Try.isAgg41) (one_read (row_cell (S147.get (k := 0) rfl) rfl) (S147.view v_a0_1).inn.bel) ?_
          refine DR.p rfl rfl (s_fieldAddr Try.underlying43 rfl Try.sizeOf41 (by decide) rfl rfl) ?_
          refine DR.r rfl rfl (r_load rfl Try.isAgg41) (one_read (row_cell (S147.get (k := 1) rfl) rfl) (S147.view v_a1_1).inn.bel) ?_
          obtain ⟨G179, i180, hii180, hHG179, S181⟩ := S147.new (AObj.row false ([.slice p_a0_1 a0_1.length c_a0_1, .slice p_a1_1 a1_1.length c_a1_1]))
          refine DR.a rfl rfl hii180 hHG179 (a_buildSl (vs := [(0, .slice p_a0_1 a0_1.length c_a0_1), (1, .slice p_a1_1 a1_1.length c_a1_1)]) (cs := [.slice p_a0_1 a0_1.length c_a0_1, .slice p_a1_1 a1_1.length c_a1_1]) Try.underlying125 Try.sizeOf41 Try.zeroValue41 rfl rfl (by decide) rfl rfl) ?_
          obtain ⟨rs183, h184, hd185⟩ := bnd_some hd178
          obtain ⟨_, G192, hc191, p186, c187, rfl, S193, B189, a190⟩ := W_slices_Concat_Simpl_Round_impl_Round fu G179 (some (Addr.mk i180 0 none)) 2 [(p_a0_1, c_a0_1, a0_1), (p_a1_1, c_a1_1, a1_1)] [a0_1, a1_1] rfl (vwR_2 (S181.get (k := 0) rfl) rfl rfl) (TVwR.cons (S181.view v_a0_1) rfl a_a0_1 (TVwR.cons (S181.view v_a1_1) rfl a_a1_1 TVwR.nil)) rs183 h184
          have S194 := S181.call S193
          refine DR.w rfl rfl (o_call (vs := [.slice (some (Addr.mk i180 0 none)) 2 2]) rfl Try.call98 hc191) (S193.len) ?_
          obtain ⟨⟨x195, rs196⟩, h197, hd198⟩ := bnd_some hd185
          obtain ⟨_, G205, hc204, p199, c200, rfl, S206, B202, a203⟩ := W_impl_Schedule_with fu G192 a0_0 p_a0_1 c_a0_1 a0_1 a_a0_1 (S194.view v_a0_1) p186 c187 rs183 a190 (S194.oview (k := 0) rfl B189 (flat_len1 a190 rfl)) (B189.ne rfl) x195 rs196 h197
          have S207 := S194.call S206
          refine DR.w rfl rfl (o_call (vs := [.agg [.int .i64 a0_0, .slice p_a0_1 a0_1.length c_a0_1].toArray, .slice p186 rs183.length c187]) rfl Try.call97 hc204) (S206.len) ?_
          obtain ⟨G208, hHG208, S209⟩ := S207.set (k := 5) (i := i109) rfl (AObj.row false ([.int .i64 x195, .slice p199 rs196.length c200]))
          refine DR.s rfl (s_storeAll (vs := [.int .i64 x195, .slice p199 rs196.length c200]) Try.sizeOf43 rfl rfl (ones_list rfl) (S207.get (k := 5) rfl) rfl rfl hHG208) (set_le hHG208) ?_
          refine DR.p rfl rfl (p_assign rfl) ?_
          refine DR.nil 10 [(0, 6)] hst (by kernel_rfl) ⟨(rdN (fun h => S193.hold _ h)), trivial⟩ ?_
          refine AX.ret ?_
          obtain ⟨rfl, z210⟩ := Prod.mk.inj (some_inj hd198)
          obtain ⟨rfl, rfl⟩ := Prod.mk.inj z210
          have S212 := S209.front 0 rfl
          have S213 := S212.keep 1
          exact ⟨.inr rfl, _, res2 rfl (rv_cell (vs := [.int .i64 x195, .slice p199 rs196.length c200]) rfl Try.isAgg43 Try.sizeOf43 rfl (row_cells (S209.get (k := 5) rfl))) (rv_tmp rfl), p199, c200, rfl, S213, B202, a203⟩

end Go.Proofs.Ytnmbjedijgcncaa
