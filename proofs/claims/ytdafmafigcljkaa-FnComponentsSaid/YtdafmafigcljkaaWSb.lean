/-
 The program computes that, printed by a program. No condition.
-/
import Derived.Test.YtdafmafigcljkaaDSb
import Derived.Test.YtdafmafigcljkaaWSa
import Derived.Test.YtdafmafigcljkaaProg
import Derived.KernelRfl
namespace Go.Proofs.Ytdafmafigcljkaa
open Go Go.RowKit Am
set_option linter.unusedVariables false
set_option linter.unusedSimpArgs false
set_option maxRecDepth 20000
set_option maxHeartbeats 4000000 in
theorem W_spec_l01Near (fu : Nat) (H : AHeap) (F : Sg) (a1 : Int) (i_n0 : Nat) (p_n0_0 : Option Addr) (c_n0_0 : Nat) (n0_0 : List Int) (q_n0_0 : PV F p_n0_0 c_n0_0 n0_0) (n0_1 : Int) (n0_2 : Int) (hn : (([[(i_n0, AObj.row false ([.slice p_n0_0 n0_0.length c_n0_0, .int .i64 n0_1, .int .u64 n0_2]))], F] : List Sg).flatten.map (·.1)).Nodup) (ho : ∀ x ∈ ([[(i_n0, AObj.row false ([.slice p_n0_0 n0_0.length c_n0_0, .int .i64 n0_1, .int .u64 n0_2]))], F] : List Sg).flatten, x.1 < H.length ∧ hget H x.1 = x.2) (r0 : Int) (m_n0_1 : Int) (m_n0_2 : Int) (hd : D_spec_l01Near fu a1 n0_0 n0_1 n0_2 = some (r0, m_n0_1, m_n0_2)) : ∃ v G', ACall Try.prog 95 [.pointer (some ⟨i_n0, 0, none⟩), .int .i64 a1] H v G' ∧ ∃ (F' : Sg), (v = .int .i64 r0) ∧ St (([[(i_n0, AObj.row false ([.slice p_n0_0 n0_0.length c_n0_0, .int .i64 n0_1, .int .u64 n0_2]))], F] : List Sg).flatten.map (·.1)) H G' [[(i_n0, AObj.row false ([.slice p_n0_0 n0_0.length c_n0_0, .int .i64 m_n0_1, .int .u64 m_n0_2]))], F'] ∧ Pin F' F := by
 refine ACall.bodyX (args := [.pointer (some ⟨i_n0, 0, none⟩), .int .i64 a1]) (N := 17) [(0, .pointer (some ⟨i_n0, 0, none⟩)), (1, .int .i64 a1)] (fun v G' => ∃ (F' : Sg), (v = .int .i64 r0) ∧ St (([[(i_n0, AObj.row false ([.slice p_n0_0 n0_0.length c_n0_0, .int .i64 n0_1, .int .u64 n0_2]))], F] : List Sg).flatten.map (·.1)) H G' [[(i_n0, AObj.row false ([.slice p_n0_0 n0_0.length c_n0_0, .int .i64 m_n0_1, .int .u64 m_n0_2]))], F'] ∧ Pin F' F) Try.func95 rfl rfl rfl rfl ?_
 unfold D_spec_l01Near at hd
 have S0 := St.initF hn ho
 generalize hM0 : (([[(i_n0, AObj.row false ([.slice p_n0_0 n0_0.length c_n0_0, .int .i64 n0_1, .int .u64 n0_2]))], F] : List Sg).flatten.map (·.1)) = M0 at S0 ⊢
 refine AX.seq ?_
 refine AX.region ?_
 refine AO.p rfl (p_assign rfl) ?_
 refine AO.nil ?_
 refine AX.seq ?_
 refine AX.seq ?_
 refine AX.region ?_
 refine AO.p rfl (p_move rfl) ?_
 have S100 := S0.front 1 rfl
 have S101 := S100.front 1 rfl
 have S102 : St M0 H H [[(i_n0, AObj.row false ([.slice p_n0_0 n0_0.length c_n0_0, .int .i64 n0_1, .int .u64 n0_2]))], F] := S101
 obtain ⟨⟨x103, x104, x105⟩, h106, hd107⟩ := bnd_some hd
 obtain ⟨_, G110, hc112, F108, rfl, S111, hF109⟩ := W_spec_l01Next fu H F 14 i_n0 p_n0_0 c_n0_0 n0_0 q_n0_0 n0_1 n0_2 (St.fnodup (A := [[(i_n0, AObj.row false ([.slice p_n0_0 n0_0.length c_n0_0, .int .i64 n0_1, .int .u64 n0_2]))], F]) S102) (St.fmem (A := [[(i_n0, AObj.row false ([.slice p_n0_0 n0_0.length c_n0_0, .int .i64 n0_1, .int .u64 n0_2]))], F]) S102) x103 x104 x105 h106
 have S113 := St.callM (A := [[(i_n0, AObj.row false ([.slice p_n0_0 n0_0.length c_n0_0, .int .i64 n0_1, .int .u64 n0_2]))], F]) S102 S111 (fun j h => h)
 refine AO.c rfl (o_call (vs := [.pointer (some ⟨i_n0, 0, none⟩), .int .i64 14]) rfl Try.call102 hc112) ?_
 refine AO.p rfl (p_eql rfl rfl) ?_
 refine AO.nil ?_
 refine AX.cond rfl (fun c114 => ?_) (fun c114 => ?_)
 ·have hd115 := bif_t c114 hd107
  refine AX.seq ?_
  refine AX.region ?_
  refine AO.p rfl (p_move rfl) ?_
  refine AO.p rfl (p_move rfl) ?_
  obtain ⟨k116, hd117⟩ := chk_some hd115
  refine AO.p rfl (p_addE rfl rfl k116) ?_
  obtain ⟨G118, i119, hii119, hHG118, S120⟩ := S113.new (AObj.row false (ints [(-1), a1 + 1, 1099511627776, (-4611686018427387904)]))
  refine AO.c rfl (s_buildInts (i := i119) (vs := [(0, .int .i64 (-1)), (1, .int .i64 (a1 + 1)), (2, .int .i64 1099511627776), (3, .int .i64 (-4611686018427387904))]) (xs := [(-1), a1 + 1, 1099511627776, (-4611686018427387904)]) Try.underlying58 Try.sizeOf2 Try.zeroValue2 rfl rfl (by decide) rfl rfl hii119 hHG118) ?_
  have S122 := S120.front 2 rfl
  have S123 := S122.front 1 rfl
  have S124 := S123.front 2 rfl
  have S125 : St M0 H G118 [[(i_n0, AObj.row false ([.slice p_n0_0 n0_0.length c_n0_0, .int .i64 x104, .int .u64 x105]))], [(i119, AObj.row false (ints [(-1), a1 + 1, 1099511627776, (-4611686018427387904)]))], F108] := S124
  obtain ⟨⟨x126, x127, x128⟩, h129, hd130⟩ := bnd_some hd117
  obtain ⟨_, G133, hc135, F131, rfl, S134, hF132⟩ := W_spec_l01Pick fu G118 F108 i_n0 p_n0_0 c_n0_0 n0_0 (q_n0_0.mono hF109) x104 x105 (some (Addr.mk i119 0 none)) 4 4 [(-1), a1 + 1, 1099511627776, (-4611686018427387904)] rfl (Sb.lit (n := 4) (by decide)) (St.fnodup (A := [[(i_n0, AObj.row false ([.slice p_n0_0 n0_0.length c_n0_0, .int .i64 x104, .int .u64 x105]))], [(i119, AObj.row false (ints [(-1), a1 + 1, 1099511627776, (-4611686018427387904)]))], F108]) S125) (St.fmem (A := [[(i_n0, AObj.row false ([.slice p_n0_0 n0_0.length c_n0_0, .int .i64 x104, .int .u64 x105]))], [(i119, AObj.row false (ints [(-1), a1 + 1, 1099511627776, (-4611686018427387904)]))], F108]) S125) x126 x127 x128 h129
  have S136 := St.callM (A := [[(i_n0, AObj.row false ([.slice p_n0_0 n0_0.length c_n0_0, .int .i64 x104, .int .u64 x105]))], [(i119, AObj.row false (ints [(-1), a1 + 1, 1099511627776, (-4611686018427387904)]))], F108]) S125 S134 (fun j h => h)
  refine AO.c rfl (o_call (vs := [.pointer (some ⟨i_n0, 0, none⟩), .slice (some (Addr.mk i119 0 none)) 4 4]) rfl Try.call135 hc135) ?_
  refine AO.p rfl (p_assign rfl) ?_
  refine AO.nil ?_
  refine AX.ret ?_
  obtain ⟨rfl, z137⟩ := Prod.mk.inj (some_inj hd130)
  obtain ⟨rfl, rfl⟩ := Prod.mk.inj z137
  have S139 := S136.front 2 rfl
  have S140 := S139.front 1 rfl
  have S141 := S140.keep 2
  exact ⟨.inr rfl, _, res1 rfl (rv_tmp rfl), F131, rfl, S141, (((Pin.refl F).mono hF109).mono hF132)⟩
 ·have hd142 := bif_f c114 hd107
  refine AX.skip ?_
  refine AX.seq ?_
  refine AX.region ?_
  refine AO.p rfl (p_move rfl) ?_
  refine AO.p rfl (p_move rfl) ?_
  obtain ⟨k143, hd144⟩ := chk_some hd142
  refine AO.p rfl (p_addE rfl rfl k143) ?_
  have S145 := S113.front 1 rfl
  have S146 := S145.front 1 rfl
  have S147 : St M0 H G110 [[(i_n0, AObj.row false ([.slice p_n0_0 n0_0.length c_n0_0, .int .i64 x104, .int .u64 x105]))], F108] := S146
  obtain ⟨⟨x148, x149, x150⟩, h151, hd152⟩ := bnd_some hd144
  obtain ⟨_, G155, hc157, F153, rfl, S156, hF154⟩ := W_spec_l01Next fu G110 F108 (a1 + 1) i_n0 p_n0_0 c_n0_0 n0_0 (q_n0_0.mono hF109) x104 x105 (St.fnodup (A := [[(i_n0, AObj.row false ([.slice p_n0_0 n0_0.length c_n0_0, .int .i64 x104, .int .u64 x105]))], F108]) S147) (St.fmem (A := [[(i_n0, AObj.row false ([.slice p_n0_0 n0_0.length c_n0_0, .int .i64 x104, .int .u64 x105]))], F108]) S147) x148 x149 x150 h151
  have S158 := St.callM (A := [[(i_n0, AObj.row false ([.slice p_n0_0 n0_0.length c_n0_0, .int .i64 x104, .int .u64 x105]))], F108]) S147 S156 (fun j h => h)
  refine AO.c rfl (o_call (vs := [.pointer (some ⟨i_n0, 0, none⟩), .int .i64 (a1 + 1)]) rfl Try.call102 hc157) ?_
  refine AO.p rfl (p_assign rfl) ?_
  refine AO.nil ?_
  refine AX.ret ?_
  obtain ⟨rfl, z159⟩ := Prod.mk.inj (some_inj hd152)
  obtain ⟨rfl, rfl⟩ := Prod.mk.inj z159
  have S161 := S158.front 1 rfl
  have S162 := S161.front 1 rfl
  exact ⟨.inr rfl, _, res1 rfl (rv_tmp rfl), F153, rfl, S162, (((Pin.refl F).mono hF109).mono hF154)⟩

set_option maxHeartbeats 4000000 in
theorem W_spec_DrawChainFrom (fu : Nat) (H : AHeap) (F : Sg) (p_a0 : Option Addr) (c_a0 : Nat) (a0 : List Int) (q_a0 : PV F p_a0 c_a0 a0) (hn : (([F] : List Sg).flatten.map (·.1)).Nodup) (ho : ∀ x ∈ ([F] : List Sg).flatten, x.1 < H.length ∧ hget H x.1 = x.2) (r0 : Int) (r1 : List Int) (r2 : List Int) (r3 : Int) (hd : D_spec_DrawChainFrom fu a0 = some (r0, r1, r2, r3)) : ∃ v G', ACall Try.prog 34 [.slice p_a0 a0.length c_a0] H v G' ∧ ∃ (F' : Sg), (v = .tuple #[.int .i64 r0, .agg (ints r1).toArray, .agg (ints r2).toArray, .int .i64 r3]) ∧ St (([F] : List Sg).flatten.map (·.1)) H G' [F'] ∧ r1.length = 14 ∧ r2.length = 14 ∧ Pin F' F := by
 refine ACall.bodyX (args := [.slice p_a0 a0.length c_a0]) (N := 27) [(0, .slice p_a0 a0.length c_a0)] (fun v G' => ∃ (F' : Sg), (v = .tuple #[.int .i64 r0, .agg (ints r1).toArray, .agg (ints r2).toArray, .int .i64 r3]) ∧ St (([F] : List Sg).flatten.map (·.1)) H G' [F'] ∧ r1.length = 14 ∧ r2.length = 14 ∧ Pin F' F) Try.func34 rfl rfl rfl rfl ?_
 unfold D_spec_DrawChainFrom at hd
 have S0 := St.initF hn ho
 generalize hM0 : (([F] : List Sg).flatten.map (·.1)) = M0 at S0 ⊢
 refine AX.seq ?_
 refine AX.region ?_
 refine AO.p rfl (p_assign rfl) ?_
 obtain ⟨G100, i101, hii101, hHG100, S102⟩ := S0.new (AObj.row false (ints (List.replicate 14 0)))
 refine AO.c rfl (s_alloc (i := i101) (cs := ints (List.replicate 14 0)) Try.zeroValue54 rfl rfl hii101 hHG100) ?_
 obtain ⟨G104, i105, hii105, hHG104, S106⟩ := S102.new (AObj.row false (ints (List.replicate 14 0)))
 refine AO.c rfl (s_alloc (i := i105) (cs := ints (List.replicate 14 0)) Try.zeroValue54 rfl rfl hii105 hHG104) ?_
 refine AO.p rfl (p_assign rfl) ?_
 refine AO.nil ?_
 refine AX.seq ?_
 refine AX.region ?_
 refine AO.p rfl (p_move rfl) ?_
 have S108 := S106.front 2 rfl
 have S109 : St M0 H G104 [F, [(i105, AObj.row false (ints (List.replicate 14 0)))], [(i101, AObj.row false (ints (List.replicate 14 0)))]] := S108
 obtain ⟨⟨x110, x111⟩, h112, hd113⟩ := bnd_some hd
 obtain ⟨_, G118, hc120, i115, F114, rfl, S119, hF117⟩ := W_spec_l01From fu G104 F p_a0 c_a0 a0 q_a0 (St.fnodup (A := [F]) S109) (St.fmem (A := [F]) S109) x110 x111 h112
 have S121 := St.callM (A := [F]) S109 S119 (fun j h => h)
 refine AO.c rfl (o_call (vs := [.slice p_a0 a0.length c_a0]) rfl Try.call93 hc120) ?_
 refine AO.p rfl (p_assign rfl) ?_
 refine AO.nil ?_
 refine AX.seq ?_
 refine AX.region ?_
 refine AO.p rfl (p_move rfl) ?_
 have S122 := S121.front 1 rfl
 have S123 : St M0 H G118 [F114, [(i115, AObj.row false ([.slice p_a0 a0.length c_a0, .int .i64 x110, .int .u64 x111]))], [(i105, AObj.row false (ints (List.replicate 14 0)))], [(i101, AObj.row false (ints (List.replicate 14 0)))]] := S122
 obtain ⟨⟨x124, xs125, xs126⟩, h127, hd128⟩ := bnd_some hd113
 obtain ⟨_, G133, hc135, F129, rfl, S134, l130, l131, hF132⟩ := W_spec_l02Two fu G118 F114 p_a0 c_a0 a0 (q_a0.mono hF117) (St.fnodup (A := [F114]) S123) (St.fmem (A := [F114]) S123) x124 xs125 xs126 h127
 have S136 := St.callM (A := [F114]) S123 S134 (fun j h => h)
 refine AO.c rfl (o_call (vs := [.slice p_a0 a0.length c_a0]) rfl Try.call94 hc135) ?_
 refine AO.p rfl (p_move rfl) ?_
 refine AO.p rfl (p_extract rfl rfl) ?_
 refine AO.p rfl (p_extract rfl rfl) ?_
 refine AO.p rfl (p_extract rfl rfl) ?_
 obtain ⟨G137, i138, hii138, hHG137, S139⟩ := S136.new (AObj.row false (ints (List.replicate 14 0)))
 refine AO.c rfl (s_alloc (i := i138) (cs := ints (List.replicate 14 0)) Try.zeroValue54 rfl rfl hii138 hHG137) ?_
 obtain ⟨G141, i142, hii142, hHG141, S143⟩ := S139.new (AObj.row false (ints (List.replicate 14 0)))
 refine AO.c rfl (s_alloc (i := i142) (cs := ints (List.replicate 14 0)) Try.zeroValue54 rfl rfl hii142 hHG141) ?_
 refine AO.p rfl (p_assign rfl) ?_
 obtain ⟨G145, hHG145, S146⟩ := S143.set (k := 1) (i := i138) rfl (AObj.row false (ints xs125))
 have S147 : St M0 H G145 [[(i142, AObj.row false (ints (List.replicate 14 0)))], [(i138, AObj.row false (ints xs125))], F129, [(i115, AObj.row false ([.slice p_a0 a0.length c_a0, .int .i64 x110, .int .u64 x111]))], [(i105, AObj.row false (ints (List.replicate 14 0)))], [(i101, AObj.row false (ints (List.replicate 14 0)))]] := S146
 refine AO.s (s_storeAll (vs := ints xs125) Try.sizeOf54 rfl rfl ints_one (S143.get (k := 1) rfl) (ints_len l130) (ints_len len_rep) hHG145) ?_
 obtain ⟨G148, hHG148, S149⟩ := S147.set (k := 0) (i := i142) rfl (AObj.row false (ints xs126))
 have S150 : St M0 H G148 [[(i142, AObj.row false (ints xs126))], [(i138, AObj.row false (ints xs125))], F129, [(i115, AObj.row false ([.slice p_a0 a0.length c_a0, .int .i64 x110, .int .u64 x111]))], [(i105, AObj.row false (ints (List.replicate 14 0)))], [(i101, AObj.row false (ints (List.replicate 14 0)))]] := S149
 refine AO.s (s_storeAll (vs := ints xs126) Try.sizeOf54 rfl rfl ints_one (S147.get (k := 0) rfl) (ints_len l131) (ints_len len_rep) hHG148) ?_
 refine AO.nil ?_
 refine AX.seq ?_
 refine DR.startS [false, false, false, false, false, false, false, false, true, false, true, true, false] mix (by kernel_rfl) (fun hst => ?_)
 refine DR.p rfl rfl (p_move rfl) ?_
 refine DR.r rfl rfl (r_loadN (vs := ints xs125) rfl Try.isAgg54 Try.sizeOf54 (ints_len l130)) (many_row (row_cells (S150.get (k := 1) rfl)) bel_ints) ?_
 refine DR.r rfl rfl (r_loadN (vs := ints xs126) rfl Try.isAgg54 Try.sizeOf54 (ints_len l131)) (many_row (row_cells (S150.get (k := 0) rfl)) bel_ints) ?_
 refine DR.p rfl rfl (p_move rfl) ?_
 refine DR.p rfl rfl (p_move rfl) ?_
 obtain ⟨k151, hd152⟩ := chk_some hd128
 refine DR.p rfl rfl (p_subE rfl rfl k151) ?_
 refine DR.p rfl rfl (p_max rfl rfl rfl) ?_
 refine DR.p rfl rfl (p_min rfl rfl rfl) ?_
 have S153 := S150.front 2 rfl
 have S154 := S153.front 3 rfl
 have S155 : St M0 H G148 [[(i115, AObj.row false ([.slice p_a0 a0.length c_a0, .int .i64 x110, .int .u64 x111]))], F129, [(i142, AObj.row false (ints xs126))], [(i138, AObj.row false (ints xs125))], [(i105, AObj.row false (ints (List.replicate 14 0)))], [(i101, AObj.row false (ints (List.replicate 14 0)))]] := S154
 obtain ⟨⟨x156, x157, x158⟩, h159, hd160⟩ := bnd_some hd152
 obtain ⟨_, G163, hc165, F161, rfl, S164, hF162⟩ := W_spec_l01Near fu G148 F129 (if 13 < (if 0 > x124 - 1 then 0 else x124 - 1) then 13 else (if 0 > x124 - 1 then 0 else x124 - 1)) i115 p_a0 c_a0 a0 ((q_a0.mono hF117).mono hF132) x110 x111 (St.fnodup (A := [[(i115, AObj.row false ([.slice p_a0 a0.length c_a0, .int .i64 x110, .int .u64 x111]))], F129]) S155) (St.fmem (A := [[(i115, AObj.row false ([.slice p_a0 a0.length c_a0, .int .i64 x110, .int .u64 x111]))], F129]) S155) x156 x157 x158 h159
 have S166 := St.callM (A := [[(i115, AObj.row false ([.slice p_a0 a0.length c_a0, .int .i64 x110, .int .u64 x111]))], F129]) S155 S164 (fun j h => h)
 refine DR.w rfl rfl (o_call (vs := [.pointer (some ⟨i115, 0, none⟩), .int .i64 (if 13 < (if 0 > x124 - 1 then 0 else x124 - 1) then 13 else (if 0 > x124 - 1 then 0 else x124 - 1))]) rfl Try.call95 hc165) (S164.len) ?_
 refine DR.p rfl rfl (p_assign rfl) ?_
 obtain ⟨G167, hHG167, S168⟩ := S166.set (k := 5) (i := i101) rfl (AObj.row false (ints xs125))
 have S169 : St M0 H G167 [[(i115, AObj.row false ([.slice p_a0 a0.length c_a0, .int .i64 x157, .int .u64 x158]))], F161, [(i142, AObj.row false (ints xs126))], [(i138, AObj.row false (ints xs125))], [(i105, AObj.row false (ints (List.replicate 14 0)))], [(i101, AObj.row false (ints xs125))]] := S168
 refine DR.s rfl (s_storeAll (vs := ints xs125) Try.sizeOf54 rfl rfl ints_one (S166.get (k := 5) rfl) (ints_len l130) (ints_len len_rep) hHG167) (set_le hHG167) ?_
 obtain ⟨G170, hHG170, S171⟩ := S169.set (k := 4) (i := i105) rfl (AObj.row false (ints xs126))
 have S172 : St M0 H G170 [[(i115, AObj.row false ([.slice p_a0 a0.length c_a0, .int .i64 x157, .int .u64 x158]))], F161, [(i142, AObj.row false (ints xs126))], [(i138, AObj.row false (ints xs125))], [(i105, AObj.row false (ints xs126))], [(i101, AObj.row false (ints xs125))]] := S171
 refine DR.s rfl (s_storeAll (vs := ints xs126) Try.sizeOf54 rfl rfl ints_one (S169.get (k := 4) rfl) (ints_len l131) (ints_len len_rep) hHG170) (set_le hHG170) ?_
 refine DR.p rfl rfl (p_assign rfl) ?_
 refine DR.nil 13 [(1, 8), (2, 8), (2, 10)] hst (by kernel_rfl) ⟨(rdN (fun _ => (S166.get (k := 3) rfl).trans (S150.get (k := 1) rfl).symm)), (rdN (fun _ => (S166.get (k := 2) rfl).trans (S150.get (k := 0) rfl).symm)), (rdN (fun _ => (S169.get (k := 2) rfl).trans (S166.get (k := 2) rfl).symm)), trivial⟩ ?_
 refine AX.ret ?_
 obtain ⟨rfl, z173⟩ := Prod.mk.inj (some_inj hd160)
 obtain ⟨rfl, z174⟩ := Prod.mk.inj z173
 obtain ⟨rfl, rfl⟩ := Prod.mk.inj z174
 have S176 := S172.front 1 rfl
 have S177 := S176.keep 1
 exact ⟨.inr rfl, _, res4 rfl (rv_tmp rfl) (rv_cell (vs := ints xs125) rfl Try.isAgg54 Try.sizeOf54 (ints_len l130) (row_cells (S172.get (k := 5) rfl))) (rv_cell (vs := ints xs126) rfl Try.isAgg54 Try.sizeOf54 (ints_len l131) (row_cells (S172.get (k := 4) rfl))) (rv_tmp rfl), F161, rfl, S177, l130, l131, ((((Pin.refl F).mono hF117).mono hF132).mono hF162)⟩

end Go.Proofs.Ytdafmafigcljkaa
