/-
 The program computes that, printed by a program. No condition.
-/
import Derived.Test.YtdafmafigcljkaaDSc
import Derived.Test.YtdafmafigcljkaaWSb
import Derived.Test.YtdafmafigcljkaaProg
import Derived.KernelRfl
namespace Go.Proofs.Ytdafmafigcljkaa
open Go Go.RowKit Am
set_option linter.unusedVariables false
set_option linter.unusedSimpArgs false
set_option maxRecDepth 20000
set_option maxHeartbeats 4000000 in
theorem W_spec_l01Draw (fu : Nat) (H : AHeap) (F : Sg) (i_n0 : Nat) (p_n0_0 : Option Addr) (c_n0_0 : Nat) (n0_0 : List Int) (q_n0_0 : PV F p_n0_0 c_n0_0 n0_0) (n0_1 : Int) (n0_2 : Int) (hn : (([[(i_n0, AObj.row false ([.slice p_n0_0 n0_0.length c_n0_0, .int .i64 n0_1, .int .u64 n0_2]))], F] : List Sg).flatten.map (·.1)).Nodup) (ho : ∀ x ∈ ([[(i_n0, AObj.row false ([.slice p_n0_0 n0_0.length c_n0_0, .int .i64 n0_1, .int .u64 n0_2]))], F] : List Sg).flatten, x.1 < H.length ∧ hget H x.1 = x.2) (r0 : Int) (r1 : List (List Int)) (m_n0_1 : Int) (m_n0_2 : Int) (hd : D_spec_l01Draw fu n0_0 n0_1 n0_2 = some (r0, r1, m_n0_1, m_n0_2)) : ∃ v G', ACall Try.prog 145 [.pointer (some ⟨i_n0, 0, none⟩)] H v G' ∧ ∃ (p_r1 : Option Addr) (c_r1 : Nat) (F' : Sg), (v = .agg [.int .i64 r0, .slice p_r1 r1.length c_r1].toArray) ∧ St (([[(i_n0, AObj.row false ([.slice p_n0_0 n0_0.length c_n0_0, .int .i64 n0_1, .int .u64 n0_2]))], F] : List Sg).flatten.map (·.1)) H G' [[(i_n0, AObj.row false ([.slice p_n0_0 n0_0.length c_n0_0, .int .i64 m_n0_1, .int .u64 m_n0_2]))], F'] ∧ PW F' p_r1 c_r1 14 r1 ∧ Pin F' F := by
 refine ACall.bodyX (args := [.pointer (some ⟨i_n0, 0, none⟩)]) (N := 92) [(0, .pointer (some ⟨i_n0, 0, none⟩))] (fun v G' => ∃ (p_r1 : Option Addr) (c_r1 : Nat) (F' : Sg), (v = .agg [.int .i64 r0, .slice p_r1 r1.length c_r1].toArray) ∧ St (([[(i_n0, AObj.row false ([.slice p_n0_0 n0_0.length c_n0_0, .int .i64 n0_1, .int .u64 n0_2]))], F] : List Sg).flatten.map (·.1)) H G' [[(i_n0, AObj.row false ([.slice p_n0_0 n0_0.length c_n0_0, .int .i64 m_n0_1, .int .u64 m_n0_2]))], F'] ∧ PW F' p_r1 c_r1 14 r1 ∧ Pin F' F) Try.func145 rfl rfl rfl rfl ?_
 unfold D_spec_l01Draw at hd
 have S0 := St.initF hn ho
 generalize hM0 : (([[(i_n0, AObj.row false ([.slice p_n0_0 n0_0.length c_n0_0, .int .i64 n0_1, .int .u64 n0_2]))], F] : List Sg).flatten.map (·.1)) = M0 at S0 ⊢
 refine AX.seq ?_
 refine AX.region ?_
 obtain ⟨G100, i101, hii101, hHG100, S102⟩ := S0.new (AObj.row false ([.int .i64 0, .slice none 0 0]))
 refine AO.c rfl (s_alloc (i := i101) (cs := [.int .i64 0, .slice none 0 0]) Try.zeroValue37 rfl rfl hii101 hHG100) ?_
 refine AO.nil ?_
 refine AX.seq ?_
 refine AX.region ?_
 refine AO.p rfl (p_move rfl) ?_
 have S104 := S102.front 2 rfl
 have S105 := S104.front 2 rfl
 have S106 : St M0 H G100 [[(i_n0, AObj.row false ([.slice p_n0_0 n0_0.length c_n0_0, .int .i64 n0_1, .int .u64 n0_2]))], F, [(i101, AObj.row false ([.int .i64 0, .slice none 0 0]))]] := S105
 obtain ⟨⟨x107, rs108, x109, x110⟩, h111, hd112⟩ := bnd_some hd
 obtain ⟨_, G120, hc122, p114, c115, F113, rfl, S121, B116, a118, hF119⟩ := W_spec_l01DrawRobin fu G100 F i_n0 p_n0_0 c_n0_0 n0_0 q_n0_0 n0_1 n0_2 (St.fnodup (A := [[(i_n0, AObj.row false ([.slice p_n0_0 n0_0.length c_n0_0, .int .i64 n0_1, .int .u64 n0_2]))], F]) S106) (St.fmem (A := [[(i_n0, AObj.row false ([.slice p_n0_0 n0_0.length c_n0_0, .int .i64 n0_1, .int .u64 n0_2]))], F]) S106) x107 rs108 x109 x110 h111
 have S123 := St.callM (A := [[(i_n0, AObj.row false ([.slice p_n0_0 n0_0.length c_n0_0, .int .i64 n0_1, .int .u64 n0_2]))], F]) S106 S121 (fun j h => h)
 refine AO.c rfl (o_call (vs := [.pointer (some ⟨i_n0, 0, none⟩)]) rfl Try.call137 hc122) ?_
 obtain ⟨G124, i125, hii125, hHG124, S126⟩ := S123.new (AObj.row false ([.int .i64 0, .slice none 0 0]))
 refine AO.c rfl (s_alloc (i := i125) (cs := [.int .i64 0, .slice none 0 0]) Try.zeroValue37 rfl rfl hii125 hHG124) ?_
 obtain ⟨G128, hHG128, S129⟩ := S126.set (k := 0) (i := i125) rfl (AObj.row false ([.int .i64 x107, .slice p114 rs108.length c115]))
 have S130 : St M0 H G128 [[(i125, AObj.row false ([.int .i64 x107, .slice p114 rs108.length c115]))], oseg p114 (ints rs108.flatten), [(i_n0, AObj.row false ([.slice p_n0_0 n0_0.length c_n0_0, .int .i64 x109, .int .u64 x110]))], F113, [(i101, AObj.row false ([.int .i64 0, .slice none 0 0]))]] := S129
 refine AO.s (s_storeAll (vs := [.int .i64 x107, .slice p114 rs108.length c115]) Try.sizeOf37 rfl rfl (ones_list rfl) (S126.get (k := 0) rfl) rfl rfl hHG128) ?_
 refine AO.nil ?_
 refine AX.seq ?_
 refine AX.seq ?_
 refine AX.region ?_
 refine AO.p rfl (p_move rfl) ?_
 have S131 := S130.front 3 rfl
 have S132 := S131.front 3 rfl
 have S133 : St M0 H G128 [[(i_n0, AObj.row false ([.slice p_n0_0 n0_0.length c_n0_0, .int .i64 x109, .int .u64 x110]))], F113, [(i125, AObj.row false ([.int .i64 x107, .slice p114 rs108.length c115]))], oseg p114 (ints rs108.flatten), [(i101, AObj.row false ([.int .i64 0, .slice none 0 0]))]] := S132
 obtain ⟨⟨x134, x135, x136⟩, h137, hd138⟩ := bnd_some hd112
 obtain ⟨_, G141, hc143, F139, rfl, S142, hF140⟩ := W_spec_l01Next fu G128 F113 4 i_n0 p_n0_0 c_n0_0 n0_0 (q_n0_0.mono hF119) x109 x110 (St.fnodup (A := [[(i_n0, AObj.row false ([.slice p_n0_0 n0_0.length c_n0_0, .int .i64 x109, .int .u64 x110]))], F113]) S133) (St.fmem (A := [[(i_n0, AObj.row false ([.slice p_n0_0 n0_0.length c_n0_0, .int .i64 x109, .int .u64 x110]))], F113]) S133) x134 x135 x136 h137
 have S144 := St.callM (A := [[(i_n0, AObj.row false ([.slice p_n0_0 n0_0.length c_n0_0, .int .i64 x109, .int .u64 x110]))], F113]) S133 S142 (fun j h => h)
 refine AO.c rfl (o_call (vs := [.pointer (some ⟨i_n0, 0, none⟩), .int .i64 4]) rfl Try.call102 hc143) ?_
 refine AO.nil ?_
 refine AX.block ?_
 refine AX.seq ?_
 refine AX.region ?_
 refine AO.p rfl (p_eql rfl rfl) ?_
 refine AO.p rfl (p_assign rfl) ?_
 refine AO.nil ?_
 refine AX.cond rfl (fun c145 => ?_) (fun c145 => ?_)
 ·have hd146 := bif_t c145 hd138
  refine AX.seq ?_
  refine AX.region ?_
  refine AO.c rfl (s_loadN (vs := [.int .i64 x107, .slice p114 rs108.length c115]) Try.isAgg37 Try.sizeOf37 rfl rfl (row_cells (S144.get (k := 2) rfl))) ?_
  obtain ⟨G147, hHG147, S148⟩ := S144.set (k := 4) (i := i101) rfl (AObj.row false ([.int .i64 x107, .slice p114 rs108.length c115]))
  have S149 : St M0 H G147 [[(i_n0, AObj.row false ([.slice p_n0_0 n0_0.length c_n0_0, .int .i64 x135, .int .u64 x136]))], F139, [(i125, AObj.row false ([.int .i64 x107, .slice p114 rs108.length c115]))], oseg p114 (ints rs108.flatten), [(i101, AObj.row false ([.int .i64 x107, .slice p114 rs108.length c115]))]] := S148
  refine AO.s (s_storeAll (vs := [.int .i64 x107, .slice p114 rs108.length c115]) Try.sizeOf37 rfl rfl (ones_list rfl) (S144.get (k := 4) rfl) rfl rfl hHG147) ?_
  refine AO.nil ?_
  refine AX.ret ?_
  have S150 := S149.front 1 rfl
  have S151 := S150.front 3 rfl
  have S152 : St M0 H G147 [oseg p114 (ints rs108.flatten), F139, [(i_n0, AObj.row false ([.slice p_n0_0 n0_0.length c_n0_0, .int .i64 x135, .int .u64 x136]))], [(i125, AObj.row false ([.int .i64 x107, .slice p114 rs108.length c115]))], [(i101, AObj.row false ([.int .i64 x107, .slice p114 rs108.length c115]))]] := S151
  obtain ⟨F153, hF154, hp155, S156⟩ := S152.poolW (rs := rs108) B116 rfl a118
  obtain ⟨rfl, z158⟩ := Prod.mk.inj (some_inj hd146)
  obtain ⟨rfl, z159⟩ := Prod.mk.inj z158
  obtain ⟨rfl, rfl⟩ := Prod.mk.inj z159
  have S161 := S156.front 0 rfl
  have S162 := S161.front 1 rfl
  have S163 := S162.keep 2
  exact ⟨.inr rfl, _, res1 rfl (rv_cell (vs := [.int .i64 x107, .slice p114 rs108.length c115]) rfl Try.isAgg37 Try.sizeOf37 rfl (row_cells (S149.get (k := 4) rfl))), p114, c115, F153, rfl, S163, hp155, ((((Pin.refl F).mono hF119).mono hF140).mono hF154)⟩
 ·have hd164 := bif_f c145 hd138
  refine AX.seq ?_
  refine AX.region ?_
  refine AO.p rfl (p_eql rfl rfl) ?_
  refine AO.p rfl (p_assign rfl) ?_
  refine AO.nil ?_
  refine AX.cond rfl (fun c165 => ?_) (fun c165 => ?_)
  ·have hd166 := bif_t c165 hd164
   refine AX.seq ?_
   refine DR.startS [false, false, false, false, false, false, false, true, true, false, true] mix (by kernel_rfl) (fun hst => ?_)
   refine DR.p rfl rfl (s_fieldAddr Try.underlying37 rfl Try.sizeOf35 (by decide) rfl rfl) ?_
   refine DR.r rfl rfl (r_load rfl Try.isAgg35) (one_read (row_cell (S144.get (k := 2) rfl) rfl) (S144.oin (k := 3) rfl B116).bel) ?_
   refine DR.p rfl rfl (p_move rfl) ?_
   refine DR.p rfl rfl (s_fieldAddr Try.underlying37 rfl Try.sizeOf35 (by decide) rfl rfl) ?_
   refine DR.r rfl rfl (r_load rfl Try.isAgg35) (one_read (row_cell (S144.get (k := 2) rfl) rfl) (S144.oin (k := 3) rfl B116).bel) ?_
   refine DR.p rfl rfl (p_len_slice rfl Try.underlying35) ?_
   obtain ⟨k167, hd168⟩ := chk_some hd166
   refine DR.p rfl rfl (p_addE rfl rfl k167) ?_
   have S169 := S144.front 1 rfl
   have S170 := S169.front 1 rfl
   have S171 : St M0 H G141 [[(i_n0, AObj.row false ([.slice p_n0_0 n0_0.length c_n0_0, .int .i64 x135, .int .u64 x136]))], F139, [(i125, AObj.row false ([.int .i64 x107, .slice p114 rs108.length c115]))], oseg p114 (ints rs108.flatten), [(i101, AObj.row false ([.int .i64 0, .slice none 0 0]))]] := S170
   obtain ⟨⟨x172, x173, x174⟩, h175, hd176⟩ := bnd_some hd168
   obtain ⟨_, G179, hc181, F177, rfl, S180, hF178⟩ := W_spec_l01Next fu G141 F139 (((rs108.length : Nat) : Int) + 1) i_n0 p_n0_0 c_n0_0 n0_0 ((q_n0_0.mono hF119).mono hF140) x135 x136 (St.fnodup (A := [[(i_n0, AObj.row false ([.slice p_n0_0 n0_0.length c_n0_0, .int .i64 x135, .int .u64 x136]))], F139]) S171) (St.fmem (A := [[(i_n0, AObj.row false ([.slice p_n0_0 n0_0.length c_n0_0, .int .i64 x135, .int .u64 x136]))], F139]) S171) x172 x173 x174 h175
   have S182 := St.callM (A := [[(i_n0, AObj.row false ([.slice p_n0_0 n0_0.length c_n0_0, .int .i64 x135, .int .u64 x136]))], F139]) S171 S180 (fun j h => h)
   refine DR.w rfl rfl (o_call (vs := [.pointer (some ⟨i_n0, 0, none⟩), .int .i64 (((rs108.length : Nat) : Int) + 1)]) rfl Try.call102 hc181) (S180.len) ?_
   obtain ⟨k183, hd184⟩ := chk_some hd176
   obtain ⟨G185, hHG185, S186, B187⟩ := S182.cutR (k := 3) (p := p114) (rs := rs108) (z := x172.toNat) rfl B116 (z_le k183.2)
   have S188 : St M0 H G185 [[(i_n0, AObj.row false ([.slice p_n0_0 n0_0.length c_n0_0, .int .i64 x173, .int .u64 x174]))], F177, [(i125, AObj.row false ([.int .i64 x107, .slice p114 rs108.length c115]))], oseg p114 (ints (rs108.take x172.toNat).flatten), [(i101, AObj.row false ([.int .i64 0, .slice none 0 0]))]] := S186
   refine DR.w rfl rfl (s_cut (p := p114) (m := 14) Try.underlying35 Try.sizeOf54 rfl rfl B116 rfl k183 (S182.cutg (k := 3) (p := p114) rfl) (flat_len1 a118 rfl) a118 hHG185) (cut_le hHG185) ?_
   refine DR.p rfl rfl (s_fieldAddr Try.underlying37 rfl Try.sizeOf35 (by decide) rfl rfl) ?_
   obtain ⟨G189, hHG189, S190⟩ := S188.set (k := 2) (i := i125) rfl (AObj.row false ([.int .i64 x107, .slice p114 x172.toNat (cutc rs108.length c115 14)]))
   have S191 : St M0 H G189 [[(i_n0, AObj.row false ([.slice p_n0_0 n0_0.length c_n0_0, .int .i64 x173, .int .u64 x174]))], F177, [(i125, AObj.row false ([.int .i64 x107, .slice p114 x172.toNat (cutc rs108.length c115 14)]))], oseg p114 (ints (rs108.take x172.toNat).flatten), [(i101, AObj.row false ([.int .i64 0, .slice none 0 0]))]] := S190
   refine DR.s rfl (s_store Try.sizeOf35 rfl rfl rfl (S188.get (k := 2) rfl) (Nat.le_of_ble_eq_true rfl) hHG189) (set_le hHG189) ?_
   refine DR.nil 11 [(1, 7)] hst (by kernel_rfl) ⟨(rd1 (fun _ => (S182.get (k := 2) rfl).trans (S144.get (k := 2) rfl).symm)), trivial⟩ ?_
   refine AX.seq ?_
   refine AX.seq ?_
   refine AX.region ?_
   refine AO.p rfl (p_move rfl) ?_
   have S192 := S191.front 1 rfl
   have S193 := S192.front 1 rfl
   have S194 : St M0 H G189 [[(i_n0, AObj.row false ([.slice p_n0_0 n0_0.length c_n0_0, .int .i64 x173, .int .u64 x174]))], F177, [(i125, AObj.row false ([.int .i64 x107, .slice p114 x172.toNat (cutc rs108.length c115 14)]))], oseg p114 (ints (rs108.take x172.toNat).flatten), [(i101, AObj.row false ([.int .i64 0, .slice none 0 0]))]] := S193
   obtain ⟨⟨x195, x196, x197⟩, h198, hd199⟩ := bnd_some hd184
   obtain ⟨_, G202, hc204, F200, rfl, S203, hF201⟩ := W_spec_l01Next fu G189 F177 3 i_n0 p_n0_0 c_n0_0 n0_0 (((q_n0_0.mono hF119).mono hF140).mono hF178) x173 x174 (St.fnodup (A := [[(i_n0, AObj.row false ([.slice p_n0_0 n0_0.length c_n0_0, .int .i64 x173, .int .u64 x174]))], F177]) S194) (St.fmem (A := [[(i_n0, AObj.row false ([.slice p_n0_0 n0_0.length c_n0_0, .int .i64 x173, .int .u64 x174]))], F177]) S194) x195 x196 x197 h198
   have S205 := St.callM (A := [[(i_n0, AObj.row false ([.slice p_n0_0 n0_0.length c_n0_0, .int .i64 x173, .int .u64 x174]))], F177]) S194 S203 (fun j h => h)
   refine AO.c rfl (o_call (vs := [.pointer (some ⟨i_n0, 0, none⟩), .int .i64 3]) rfl Try.call102 hc204) ?_
   refine AO.p rfl (p_assign rfl) ?_
   refine AO.nil ?_
   obtain ⟨r368, hl369, hd370⟩ := bnd_some hd199
   refine AX.cutS (fun t' H' => ∃ (x360 : Int) (x361 : Int) (rs367 : List (List Int)) (F355 : Sg) (p365 : Option Addr) (c366 : Nat), (x360, x361, rs367) = r368 ∧ St M0 H H' [F355, [(i_n0, AObj.row false ([.slice p_n0_0 n0_0.length c_n0_0, .int .i64 x360, .int .u64 x361]))], [(i101, AObj.row false ([.int .i64 0, .slice none 0 0]))], [(i125, AObj.row false ([.int .i64 x107, .slice p365 rs367.length c366]))], oseg p365 (ints rs367.flatten)] ∧ Pin F355 F ∧ PV F355 p_n0_0 c_n0_0 n0_0 ∧ All 14 rs367 ∧ Sb p365 (rs367.length) c366 14 ∧ Am.Sub [(2, .pointer (some ⟨i101, 0, none⟩)), (3, .pointer (some ⟨i125, 0, none⟩))] t') ?_ ?_
   ·refine AX.block ?_
    refine AX.loopF (fun s' t' H' => ∃ (x308 : Int) (x309 : Int) (rs315 : List (List Int)) (x316 : Int) (F303 : Sg) (p313 : Option Addr) (c314 : Nat), (x308, x309, rs315, x316) = s' ∧ St M0 H H' [F303, [(i_n0, AObj.row false ([.slice p_n0_0 n0_0.length c_n0_0, .int .i64 x308, .int .u64 x309]))], [(i101, AObj.row false ([.int .i64 0, .slice none 0 0]))], [(i125, AObj.row false ([.int .i64 x107, .slice p313 rs315.length c314]))], oseg p313 (ints rs315.flatten)] ∧ Pin F303 F ∧ PV F303 p_n0_0 c_n0_0 n0_0 ∧ All 14 rs315 ∧ Sb p313 (rs315.length) c314 14 ∧ Am.Sub [(0, .pointer (some ⟨i_n0, 0, none⟩)), (2, .pointer (some ⟨i101, 0, none⟩)), (3, .pointer (some ⟨i125, 0, none⟩)), (4, .int .i64 x316)] t') hl369 ?_ ?_
    ·skip
     have S371 := S205.cellsEq (k := 2) (p := some ⟨i125, 0, none⟩) (us' := [.int .i64 x107, .slice p114 ((rs108.take x172.toNat).length) (cutc rs108.length c115 14)]) (by rw [show List.length (rs108.take x172.toNat) = x172.toNat from (len_takeL rfl (z_le k183.2))]) rfl
     have S372 := S371.front 3 rfl
     have S373 := S372.front 3 rfl
     have S374 := S373.front 4 rfl
     have S375 := S374.front 3 rfl
     have S376 := S375.front 4 rfl
     exact ⟨x196, x197, (rs108.take x172.toNat), x195, F200, p114, (cutc rs108.length c115 14), rfl, S376, (((((Pin.refl F).mono hF119).mono hF140).mono hF178).mono hF201), ((((q_n0_0.mono hF119).mono hF140).mono hF178).mono hF201), (all_take a118), (Eq.symm (len_takeL rfl (z_le k183.2)) ▸ B187), Sub.cons' rfl rfl (Sub.cons' rfl rfl (Sub.cons' rfl rfl (Sub.cons' rfl rfl (Sub.nil _))))⟩
    ·rintro n377 _ t' G381 ⟨x308, x309, rs315, x316, F303, p313, c314, rfl, S380, hF304, hv307, ars315, Bo312, hsub382⟩ o383 ho378 hk379
     refine AX.sub hsub382 ?_
     unfold D_spec_l01Draw_s0 at ho378
     refine AX.seq ?_
     refine AX.seq ?_
     refine AX.region ?_
     refine AO.p rfl (p_move rfl) ?_
     refine AO.p rfl (p_gtr rfl rfl) ?_
     refine AO.nil ?_
     refine AX.cond rfl (fun c384 => ?_) (fun c384 => ?_)
     ·have hd385 := bif_t c384 ho378
      refine AX.skip ?_
      refine AX.seq ?_
      refine AX.block ?_
      refine DR.startS [false, false, false, false, false, true, false, true, false, true] mix (by kernel_rfl) (fun hst => ?_)
      refine DR.p rfl rfl (s_fieldAddr Try.underlying37 rfl Try.sizeOf35 (by decide) rfl rfl) ?_
      refine DR.r rfl rfl (r_load rfl Try.isAgg35) (one_read (row_cell (S380.get (k := 3) rfl) rfl) (S380.oin (k := 4) rfl Bo312).bel) ?_
      refine DR.p rfl rfl (p_move rfl) ?_
      refine DR.p rfl rfl (s_fieldAddr Try.underlying37 rfl Try.sizeOf2 (by decide) rfl rfl) ?_
      refine DR.r rfl rfl (r_load rfl Try.isAgg2) (one_read (row_cell (S380.get (k := 3) rfl) rfl) (.of_flat0 rfl)) ?_
      have S386 := S380.front 0 rfl
      have S387 := S386.front 1 rfl
      have S388 : St M0 H G381 [[(i_n0, AObj.row false ([.slice p_n0_0 n0_0.length c_n0_0, .int .i64 x308, .int .u64 x309]))], F303, [(i101, AObj.row false ([.int .i64 0, .slice none 0 0]))], [(i125, AObj.row false ([.int .i64 x107, .slice p313 rs315.length c314]))], oseg p313 (ints rs315.flatten)] := S387
      obtain ⟨⟨xs389, x390, x391⟩, h392, hd393⟩ := bnd_some hd385
      obtain ⟨_, G397, hc399, F394, rfl, S398, l395, hF396⟩ := W_spec_l01DrawRound fu G381 F303 x107 i_n0 p_n0_0 c_n0_0 n0_0 hv307 x308 x309 (St.fnodup (A := [[(i_n0, AObj.row false ([.slice p_n0_0 n0_0.length c_n0_0, .int .i64 x308, .int .u64 x309]))], F303]) S388) (St.fmem (A := [[(i_n0, AObj.row false ([.slice p_n0_0 n0_0.length c_n0_0, .int .i64 x308, .int .u64 x309]))], F303]) S388) xs389 x390 x391 h392
      have S400 := St.callM (A := [[(i_n0, AObj.row false ([.slice p_n0_0 n0_0.length c_n0_0, .int .i64 x308, .int .u64 x309]))], F303]) S388 S398 (fun j h => h)
      refine DR.w rfl rfl (o_call (vs := [.pointer (some ⟨i_n0, 0, none⟩), .int .i64 x107]) rfl Try.call136 hc399) (S398.len) ?_
      obtain ⟨G401, i402, hii402, hHG401, S403⟩ := S400.new (AObj.row false (ints [xs389].flatten))
      refine DR.a rfl rfl hii402 hHG401 (a_build1 (r := xs389) (zr := List.replicate 14 0) Try.underlying35 Try.sizeOf54 Try.zeroValue54 rfl rfl (by decide) (by decide) rfl l395) ?_
      obtain ⟨k405, hd406⟩ := chk_some hd393
      obtain ⟨p407, c408, G409, haG409, S410, Bp407⟩ := S403.app (k := 5) rfl Bo312 (ints [xs389].flatten) 1 (flat_len1 (all_one l395) rfl)
      have S411 := S410.cellsEq (k := 5) (us' := ints (rs315 ++ [xs389]).flatten) (intsf_app _ _) rfl
      have BS411 : Sb p407 ((rs315 ++ [xs389]).length) c408 14 := (show rs315.length + 1 = (rs315 ++ [xs389]).length from len_app (a := rs315) (b := [xs389]) rfl rfl) ▸ Bp407
      have S412 := S411.drop 0 rfl
      refine DR.w rfl rfl (s_app (by_ := 112) (us := ints rs315.flatten) (vs := ints [xs389].flatten) Try.underlying35 Try.underlying35 Try.typeInfo54 Try.sizeOf54 Try.zeroValue54 rfl rfl rfl rfl rfl rfl rfl (S403.buf (k := 5) rfl Bo312 (flat_len1 ars315 rfl)) (S403.oview (k := 0) rfl (Sb.lit (n := 1) (by decide)) (flat_len1 (all_one l395) rfl)) (flat_len1 (all_one l395) rfl) ints_one k405 haG409 (show rs315.length + 1 = (rs315 ++ [xs389]).length from len_app (a := rs315) (b := [xs389]) rfl rfl)) (appR_len haG409) ?_
      refine DR.p rfl rfl (s_fieldAddr Try.underlying37 rfl Try.sizeOf35 (by decide) rfl rfl) ?_
      obtain ⟨G413, hHG413, S414⟩ := S412.set (k := 3) (i := i125) rfl (AObj.row false ([.int .i64 x107, .slice p407 ((rs315 ++ [xs389]).length) c408]))
      have S415 : St M0 H G413 [[(i_n0, AObj.row false ([.slice p_n0_0 n0_0.length c_n0_0, .int .i64 x390, .int .u64 x391]))], F394, [(i101, AObj.row false ([.int .i64 0, .slice none 0 0]))], [(i125, AObj.row false ([.int .i64 x107, .slice p407 ((rs315 ++ [xs389]).length) c408]))], oseg p407 (ints (rs315 ++ [xs389]).flatten)] := S414
      refine DR.s rfl (s_store Try.sizeOf35 rfl rfl rfl (S412.get (k := 3) rfl) (Nat.le_of_ble_eq_true rfl) hHG413) (set_le hHG413) ?_
      refine DR.nil 10 [(1, 5)] hst (by kernel_rfl) ⟨(rd1 (fun _ => (S400.get (k := 3) rfl).trans (S380.get (k := 3) rfl).symm)), trivial⟩ ?_
      refine AX.region ?_
      refine AO.p rfl (p_move rfl) ?_
      obtain ⟨k416, hd417⟩ := chk_some hd406
      refine AO.p rfl (p_subE rfl rfl k416) ?_
      refine AO.p rfl (p_assign rfl) ?_
      refine AO.nil ?_
      obtain rfl := some_inj hd417
      have S419 := S415.front 4 rfl
      have S420 := S419.front 4 rfl
      have S421 := S420.front 4 rfl
      have S422 := S421.front 3 rfl
      have S423 := S422.front 4 rfl
      exact ⟨(x390, x391, (rs315 ++ [xs389]), x316 - 1), hk379, x390, x391, (rs315 ++ [xs389]), (x316 - 1), F394, p407, c408, rfl, S423, (hF304.mono hF396), (hv307.mono hF396), (all_app ars315 (all_one l395)), BS411, Sub.cons' rfl rfl (Sub.cons' rfl rfl (Sub.cons' rfl rfl (Sub.cons' rfl rfl (Sub.nil _))))⟩
     ·have hd424 := bif_f c384 ho378
      refine AX.exit ?_
      obtain rfl := some_inj hd424
      have S425 := S380.front 4 rfl
      have S426 := S425.front 4 rfl
      have S427 := S426.front 4 rfl
      have S428 := S427.front 4 rfl
      have S429 := S428.front 4 rfl
      exact ⟨x308, x309, rs315, F303, p313, c314, hk379, S429, hF304, hv307, ars315, Bo312, Sub.cons' rfl rfl (Sub.cons' rfl rfl (Sub.nil _))⟩
   ·rintro t' G431 ⟨x360, x361, rs367, F355, p365, c366, rfl, S430, hF356, hv359, ars367, Bo364, hsub432⟩
    refine ⟨_, hsub432, ?_⟩
    refine AX.seq ?_
    refine AX.region ?_
    refine AO.c rfl (s_loadN (vs := [.int .i64 x107, .slice p365 rs367.length c366]) Try.isAgg37 Try.sizeOf37 rfl rfl (row_cells (S430.get (k := 3) rfl))) ?_
    obtain ⟨G433, hHG433, S434⟩ := S430.set (k := 2) (i := i101) rfl (AObj.row false ([.int .i64 x107, .slice p365 rs367.length c366]))
    have S435 : St M0 H G433 [F355, [(i_n0, AObj.row false ([.slice p_n0_0 n0_0.length c_n0_0, .int .i64 x360, .int .u64 x361]))], [(i101, AObj.row false ([.int .i64 x107, .slice p365 rs367.length c366]))], [(i125, AObj.row false ([.int .i64 x107, .slice p365 rs367.length c366]))], oseg p365 (ints rs367.flatten)] := S434
    refine AO.s (s_storeAll (vs := [.int .i64 x107, .slice p365 rs367.length c366]) Try.sizeOf37 rfl rfl (ones_list rfl) (S430.get (k := 2) rfl) rfl rfl hHG433) ?_
    refine AO.nil ?_
    refine AX.ret ?_
    have S436 := S435.front 0 rfl
    have S437 := S436.front 4 rfl
    have S438 : St M0 H G433 [oseg p365 (ints rs367.flatten), F355, [(i_n0, AObj.row false ([.slice p_n0_0 n0_0.length c_n0_0, .int .i64 x360, .int .u64 x361]))], [(i101, AObj.row false ([.int .i64 x107, .slice p365 rs367.length c366]))], [(i125, AObj.row false ([.int .i64 x107, .slice p365 rs367.length c366]))]] := S437
    obtain ⟨F439, hF440, hp441, S442⟩ := S438.poolW (rs := rs367) Bo364 rfl ars367
    obtain ⟨rfl, z444⟩ := Prod.mk.inj (some_inj hd370)
    obtain ⟨rfl, z445⟩ := Prod.mk.inj z444
    obtain ⟨rfl, rfl⟩ := Prod.mk.inj z445
    have S447 := S442.front 0 rfl
    have S448 := S447.front 1 rfl
    have S449 := S448.keep 2
    exact ⟨.inr rfl, _, res1 rfl (rv_cell (vs := [.int .i64 x107, .slice p365 rs367.length c366]) rfl Try.isAgg37 Try.sizeOf37 rfl (row_cells (S435.get (k := 2) rfl))), p365, c366, F439, rfl, S449, hp441, (hF356.mono hF440)⟩
  ·have hd450 := bif_f c165 hd164
   refine AX.seq ?_
   refine AX.region ?_
   refine AO.p rfl (p_eql rfl rfl) ?_
   refine AO.p rfl (p_assign rfl) ?_
   refine AO.nil ?_
   refine AX.cond rfl (fun c451 => ?_) (fun c451 => ?_)
   ·have hd452 := bif_t c451 hd450
    refine AX.seq ?_
    obtain ⟨r483, hb484, hd485⟩ := bnd_some hd452
    refine AX.cut (fun t' H' => ∃ (x477 : Int) (x478 : Int) (b482 : Bool) (F472 : Sg), (x477, x478, b482) = r483 ∧ St M0 H H' [F472, [(i_n0, AObj.row false ([.slice p_n0_0 n0_0.length c_n0_0, .int .i64 x477, .int .u64 x478]))], [(i101, AObj.row false ([.int .i64 0, .slice none 0 0]))], [(i125, AObj.row false ([.int .i64 x107, .slice p114 rs108.length c115]))], oseg p114 (ints rs108.flatten)] ∧ Pin F472 F ∧ PV F472 p_n0_0 c_n0_0 n0_0 ∧ Am.Sub [(0, .pointer (some ⟨i_n0, 0, none⟩)), (2, .pointer (some ⟨i101, 0, none⟩)), (3, .pointer (some ⟨i125, 0, none⟩)), (54, .bool b482)] t') ?_ ?_
    ·skip
     refine AX.region ?_
     refine AO.p rfl (s_fieldAddr Try.underlying37 rfl Try.sizeOf35 (by decide) rfl rfl) ?_
     refine AO.c rfl (s_load Try.isAgg35 rfl (row_cell (S144.get (k := 2) rfl) rfl)) ?_
     refine AO.p rfl (p_len_slice rfl Try.underlying35) ?_
     obtain ⟨k486, hd487⟩ := chk_some hb484
     refine AO.p rfl (p_mulE rfl rfl k486) ?_
     refine AO.p rfl (p_leq rfl rfl) ?_
     refine AO.p rfl (p_move rfl) ?_
     refine AO.cases (d := 50) rfl (fun c488 => ?_) (fun c488 => ?_)
     ·have hd489 := bif_t c488 hd487
      refine AO.gp rfl rfl rfl (p_move rfl) ?_
      have S490 := S144.front 1 rfl
      have S491 := S490.front 1 rfl
      have S492 : St M0 H G141 [[(i_n0, AObj.row false ([.slice p_n0_0 n0_0.length c_n0_0, .int .i64 x135, .int .u64 x136]))], F139, [(i125, AObj.row false ([.int .i64 x107, .slice p114 rs108.length c115]))], oseg p114 (ints rs108.flatten), [(i101, AObj.row false ([.int .i64 0, .slice none 0 0]))]] := S491
      obtain ⟨⟨x493, x494, x495⟩, h496, hd497⟩ := bnd_some hd489
      obtain ⟨_, G500, hc502, F498, rfl, S501, hF499⟩ := W_spec_l01Next fu G141 F139 2 i_n0 p_n0_0 c_n0_0 n0_0 ((q_n0_0.mono hF119).mono hF140) x135 x136 (St.fnodup (A := [[(i_n0, AObj.row false ([.slice p_n0_0 n0_0.length c_n0_0, .int .i64 x135, .int .u64 x136]))], F139]) S492) (St.fmem (A := [[(i_n0, AObj.row false ([.slice p_n0_0 n0_0.length c_n0_0, .int .i64 x135, .int .u64 x136]))], F139]) S492) x493 x494 x495 h496
      have S503 := St.callM (A := [[(i_n0, AObj.row false ([.slice p_n0_0 n0_0.length c_n0_0, .int .i64 x135, .int .u64 x136]))], F139]) S492 S501 (fun j h => h)
      refine AO.gc rfl rfl rfl (o_call (vs := [.pointer (some ⟨i_n0, 0, none⟩), .int .i64 2]) rfl Try.call102 hc502) ?_
      refine AO.gp rfl rfl rfl (p_eql rfl rfl) ?_
      refine AO.p rfl (p_pickT rfl rfl) ?_
      refine AO.nil ?_
      have S504 := S503.front 3 rfl
      have S505 := S504.front 3 rfl
      have S506 := S505.front 4 rfl
      have S507 := S506.front 3 rfl
      have S508 := S507.front 4 rfl
      exact ⟨x494, x495, (decide (x493 = 0)), F498, (some_inj hd497), S508, ((((Pin.refl F).mono hF119).mono hF140).mono hF499), (((q_n0_0.mono hF119).mono hF140).mono hF499), Sub.cons' rfl rfl (Sub.cons' rfl rfl (Sub.cons' rfl rfl (Sub.cons' rfl rfl (Sub.nil _))))⟩
     ·have hd509 := bif_f c488 hd487
      refine AO.gn rfl rfl rfl ?_
      refine AO.gn rfl rfl rfl ?_
      refine AO.gn rfl rfl rfl ?_
      refine AO.p rfl (p_pickF rfl rfl) ?_
      refine AO.nil ?_
      have S510 := S144.front 3 rfl
      have S511 := S510.front 3 rfl
      have S512 := S511.front 4 rfl
      have S513 := S512.front 3 rfl
      have S514 := S513.front 4 rfl
      exact ⟨x135, x136, false, F139, (some_inj hd509), S514, (((Pin.refl F).mono hF119).mono hF140), ((q_n0_0.mono hF119).mono hF140), Sub.cons' rfl rfl (Sub.cons' rfl rfl (Sub.cons' rfl rfl (Sub.cons' rfl rfl (Sub.nil _))))⟩
    ·rintro t' G516 ⟨x477, x478, b482, F472, rfl, S515, hF473, hv476, hsub517⟩
     refine AX.sub hsub517 ?_
     obtain ⟨r583, hb584, hd585⟩ := bnd_some hd485
     refine AX.cutS (fun t' H' => ∃ (x575 : Int) (x576 : Int) (rs582 : List (List Int)) (F570 : Sg) (p580 : Option Addr) (c581 : Nat), (x575, x576, rs582) = r583 ∧ St M0 H H' [F570, [(i_n0, AObj.row false ([.slice p_n0_0 n0_0.length c_n0_0, .int .i64 x575, .int .u64 x576]))], [(i101, AObj.row false ([.int .i64 0, .slice none 0 0]))], [(i125, AObj.row false ([.int .i64 x107, .slice p580 rs582.length c581]))], oseg p580 (ints rs582.flatten)] ∧ Pin F570 F ∧ PV F570 p_n0_0 c_n0_0 n0_0 ∧ All 14 rs582 ∧ Sb p580 (rs582.length) c581 14 ∧ Am.Sub [(2, .pointer (some ⟨i101, 0, none⟩)), (3, .pointer (some ⟨i125, 0, none⟩))] t') ?_ ?_
     ·skip
      refine AX.cond rfl (fun c586 => ?_) (fun c586 => ?_)
      ·have hd587 := bif_t c586 hb584
       refine AX.seq ?_
       refine DR.startS [false, false, false, false, true, true, false, true] mix (by kernel_rfl) (fun hst => ?_)
       refine DR.r rfl rfl (r_loadN (vs := [.int .i64 x107, .slice p114 rs108.length c115]) rfl Try.isAgg37 Try.sizeOf37 rfl) (many_row (row_cells (S515.get (k := 3) rfl)) (bel_cons (.of_flat0 rfl) (bel_cons (S515.oin (k := 4) rfl B116).bel bel_nil))) ?_
       refine DR.p rfl rfl (p_move rfl) ?_
       refine DR.p rfl rfl (s_fieldAddr Try.underlying37 rfl Try.sizeOf2 (by decide) rfl rfl) ?_
       refine DR.r rfl rfl (r_load rfl Try.isAgg2) (one_read (row_cell (S515.get (k := 3) rfl) rfl) (.of_flat0 rfl)) ?_
       have S588 := S515.front 0 rfl
       have S589 := S588.front 1 rfl
       have S590 : St M0 H G516 [[(i_n0, AObj.row false ([.slice p_n0_0 n0_0.length c_n0_0, .int .i64 x477, .int .u64 x478]))], F472, [(i101, AObj.row false ([.int .i64 0, .slice none 0 0]))], [(i125, AObj.row false ([.int .i64 x107, .slice p114 rs108.length c115]))], oseg p114 (ints rs108.flatten)] := S589
       obtain ⟨⟨xs591, x592, x593⟩, h594, hd595⟩ := bnd_some hd587
       obtain ⟨_, G602, hc604, p597, c598, F596, rfl, S603, B599, hF601⟩ := W_spec_l01DrawOrder fu G516 F472 x107 i_n0 p_n0_0 c_n0_0 n0_0 hv476 x477 x478 (St.fnodup (A := [[(i_n0, AObj.row false ([.slice p_n0_0 n0_0.length c_n0_0, .int .i64 x477, .int .u64 x478]))], F472]) S590) (St.fmem (A := [[(i_n0, AObj.row false ([.slice p_n0_0 n0_0.length c_n0_0, .int .i64 x477, .int .u64 x478]))], F472]) S590) xs591 x592 x593 h594
       have S605 := St.callM (A := [[(i_n0, AObj.row false ([.slice p_n0_0 n0_0.length c_n0_0, .int .i64 x477, .int .u64 x478]))], F472]) S590 S603 (fun j h => h)
       refine DR.w rfl rfl (o_call (vs := [.pointer (some ⟨i_n0, 0, none⟩), .int .i64 x107]) rfl Try.call163 hc604) (S603.len) ?_
       obtain ⟨⟨x606, rs607⟩, h608, hd609⟩ := bnd_some hd595
       obtain ⟨_, G616, hc615, p610, c611, rfl, S617, B613, a614⟩ := W_spec_l01Renamed fu G602 x107 p114 c115 rs108 a118 (S605.oview (k := 5) rfl B116 (flat_len1 a118 rfl)) p597 c598 xs591 (S605.oview (k := 0) rfl B599 (ints_len1 rfl)) x606 rs607 h608
       have S618 := S605.call S617
       refine DR.w rfl rfl (o_call (vs := [.agg [.int .i64 x107, .slice p114 rs108.length c115].toArray, .slice p597 xs591.length c598]) rfl Try.call165 hc615) (S617.len) ?_
       obtain ⟨G619, i620, hii620, hHG619, S621⟩ := S618.new (AObj.row false ([.int .i64 0, .slice none 0 0]))
       refine DR.a rfl rfl hii620 hHG619 (a_alloc Try.zeroValue37 (flat_list rfl)) ?_
       obtain ⟨G623, hHG623, S624⟩ := S621.set (k := 0) (i := i620) rfl (AObj.row false ([.int .i64 x606, .slice p610 rs607.length c611]))
       have S625 : St M0 H G623 [[(i620, AObj.row false ([.int .i64 x606, .slice p610 rs607.length c611]))], oseg p610 (ints rs607.flatten), oseg p597 (ints xs591), [(i_n0, AObj.row false ([.slice p_n0_0 n0_0.length c_n0_0, .int .i64 x592, .int .u64 x593]))], F596, [(i101, AObj.row false ([.int .i64 0, .slice none 0 0]))], [(i125, AObj.row false ([.int .i64 x107, .slice p114 rs108.length c115]))], oseg p114 (ints rs108.flatten)] := S624
       refine DR.s rfl (s_storeAll (vs := [.int .i64 x606, .slice p610 rs607.length c611]) Try.sizeOf37 rfl rfl (ones_list rfl) (S621.get (k := 0) rfl) rfl rfl hHG623) (set_le hHG623) ?_
       refine DR.nil 8 [(0, 4), (6, 4), (6, 5)] hst (by kernel_rfl) ⟨(rdN (fun _ => (S605.get (k := 4) rfl).trans (S515.get (k := 3) rfl).symm)), (fun h => absurd h (by decide)), (fun h => absurd h (by decide)), trivial⟩ ?_
       refine AX.region ?_
       refine AO.p rfl (s_fieldAddr Try.underlying37 rfl Try.sizeOf35 (by decide) rfl rfl) ?_
       refine AO.c rfl (s_load Try.isAgg35 rfl (row_cell (S625.get (k := 6) rfl) rfl)) ?_
       refine AO.p rfl (s_fieldAddr Try.underlying37 rfl Try.sizeOf35 (by decide) rfl rfl) ?_
       refine AO.c rfl (s_load Try.isAgg35 rfl (row_cell (S625.get (k := 0) rfl) rfl)) ?_
       obtain ⟨k626, hd627⟩ := chk_some hd609
       obtain ⟨p628, c629, G630, haG630, S631, Bp628⟩ := S625.app (k := 7) rfl B116 (ints rs607.flatten) rs607.length (flat_len1 a614 rfl)
       have S632 := S631.cellsEq (k := 7) (us' := ints (rs108 ++ rs607).flatten) (intsf_app _ _) rfl
       have BS632 : Sb p628 ((rs108 ++ rs607).length) c629 14 := (show rs108.length + rs607.length = (rs108 ++ rs607).length from len_app (a := rs108) (b := rs607) rfl rfl) ▸ Bp628
       have S633 := S632.drop 1 rfl
       refine AO.c rfl (s_app (by_ := 112) (us := ints rs108.flatten) (vs := ints rs607.flatten) Try.underlying35 Try.underlying35 Try.typeInfo54 Try.sizeOf54 Try.zeroValue54 rfl rfl rfl rfl rfl rfl rfl (S625.buf (k := 7) rfl B116 (flat_len1 a118 rfl)) (S625.oview (k := 1) rfl B613 (flat_len1 a614 rfl)) (flat_len1 a614 rfl) ints_one k626 haG630 (show rs108.length + rs607.length = (rs108 ++ rs607).length from len_app (a := rs108) (b := rs607) rfl rfl)) ?_
       refine AO.p rfl (s_fieldAddr Try.underlying37 rfl Try.sizeOf35 (by decide) rfl rfl) ?_
       obtain ⟨G634, hHG634, S635⟩ := S633.set (k := 5) (i := i125) rfl (AObj.row false ([.int .i64 x107, .slice p628 ((rs108 ++ rs607).length) c629]))
       have S636 : St M0 H G634 [[(i620, AObj.row false ([.int .i64 x606, .slice p610 rs607.length c611]))], oseg p597 (ints xs591), [(i_n0, AObj.row false ([.slice p_n0_0 n0_0.length c_n0_0, .int .i64 x592, .int .u64 x593]))], F596, [(i101, AObj.row false ([.int .i64 0, .slice none 0 0]))], [(i125, AObj.row false ([.int .i64 x107, .slice p628 ((rs108 ++ rs607).length) c629]))], oseg p628 (ints (rs108 ++ rs607).flatten)] := S635
       refine AO.s (s_store Try.sizeOf35 rfl rfl rfl (S633.get (k := 5) rfl) (Nat.le_of_ble_eq_true rfl) hHG634) ?_
       refine AO.nil ?_
       have S637 := S636.front 6 rfl
       have S638 := S637.front 6 rfl
       have S639 := S638.front 6 rfl
       have S640 := S639.front 5 rfl
       have S641 := S640.front 6 rfl
       have S642 := S641.keep 5
       exact ⟨x592, x593, (rs108 ++ rs607), F596, p628, c629, (some_inj hd627), S642, (hF473.mono hF601), (hv476.mono hF601), (all_app a118 a614), BS632, Sub.cons' rfl rfl (Sub.cons' rfl rfl (Sub.nil _))⟩
      ·have hd643 := bif_f c586 hb584
       refine AX.skip ?_
       have S644 := S515.front 4 rfl
       have S645 := S644.front 4 rfl
       have S646 := S645.front 4 rfl
       have S647 := S646.front 4 rfl
       have S648 := S647.front 4 rfl
       exact ⟨x477, x478, rs108, F472, p114, c115, (some_inj hd643), S648, hF473, hv476, a118, B116, Sub.cons' rfl rfl (Sub.cons' rfl rfl (Sub.nil _))⟩
     ·rintro t' G650 ⟨x575, x576, rs582, F570, p580, c581, rfl, S649, hF571, hv574, ars582, Bo579, hsub651⟩
      refine ⟨_, hsub651, ?_⟩
      refine AX.seq ?_
      refine AX.region ?_
      refine AO.c rfl (s_loadN (vs := [.int .i64 x107, .slice p580 rs582.length c581]) Try.isAgg37 Try.sizeOf37 rfl rfl (row_cells (S649.get (k := 3) rfl))) ?_
      obtain ⟨G652, hHG652, S653⟩ := S649.set (k := 2) (i := i101) rfl (AObj.row false ([.int .i64 x107, .slice p580 rs582.length c581]))
      have S654 : St M0 H G652 [F570, [(i_n0, AObj.row false ([.slice p_n0_0 n0_0.length c_n0_0, .int .i64 x575, .int .u64 x576]))], [(i101, AObj.row false ([.int .i64 x107, .slice p580 rs582.length c581]))], [(i125, AObj.row false ([.int .i64 x107, .slice p580 rs582.length c581]))], oseg p580 (ints rs582.flatten)] := S653
      refine AO.s (s_storeAll (vs := [.int .i64 x107, .slice p580 rs582.length c581]) Try.sizeOf37 rfl rfl (ones_list rfl) (S649.get (k := 2) rfl) rfl rfl hHG652) ?_
      refine AO.nil ?_
      refine AX.ret ?_
      have S655 := S654.front 0 rfl
      have S656 := S655.front 4 rfl
      have S657 : St M0 H G652 [oseg p580 (ints rs582.flatten), F570, [(i_n0, AObj.row false ([.slice p_n0_0 n0_0.length c_n0_0, .int .i64 x575, .int .u64 x576]))], [(i101, AObj.row false ([.int .i64 x107, .slice p580 rs582.length c581]))], [(i125, AObj.row false ([.int .i64 x107, .slice p580 rs582.length c581]))]] := S656
      obtain ⟨F658, hF659, hp660, S661⟩ := S657.poolW (rs := rs582) Bo579 rfl ars582
      obtain ⟨rfl, z663⟩ := Prod.mk.inj (some_inj hd585)
      obtain ⟨rfl, z664⟩ := Prod.mk.inj z663
      obtain ⟨rfl, rfl⟩ := Prod.mk.inj z664
      have S666 := S661.front 0 rfl
      have S667 := S666.front 1 rfl
      have S668 := S667.keep 2
      exact ⟨.inr rfl, _, res1 rfl (rv_cell (vs := [.int .i64 x107, .slice p580 rs582.length c581]) rfl Try.isAgg37 Try.sizeOf37 rfl (row_cells (S654.get (k := 2) rfl))), p580, c581, F658, rfl, S668, hp660, (hF571.mono hF659)⟩
   ·have hd669 := bif_f c451 hd450
    refine AX.skip ?_
    refine AX.seq ?_
    refine AX.region ?_
    refine AO.p rfl (p_move rfl) ?_
    have S670 := S144.front 1 rfl
    have S671 := S670.front 1 rfl
    have S672 : St M0 H G141 [[(i_n0, AObj.row false ([.slice p_n0_0 n0_0.length c_n0_0, .int .i64 x135, .int .u64 x136]))], F139, [(i125, AObj.row false ([.int .i64 x107, .slice p114 rs108.length c115]))], oseg p114 (ints rs108.flatten), [(i101, AObj.row false ([.int .i64 0, .slice none 0 0]))]] := S671
    obtain ⟨⟨x673, x674, x675⟩, h676, hd677⟩ := bnd_some hd669
    obtain ⟨_, G680, hc682, F678, rfl, S681, hF679⟩ := W_spec_l01Next fu G141 F139 13 i_n0 p_n0_0 c_n0_0 n0_0 ((q_n0_0.mono hF119).mono hF140) x135 x136 (St.fnodup (A := [[(i_n0, AObj.row false ([.slice p_n0_0 n0_0.length c_n0_0, .int .i64 x135, .int .u64 x136]))], F139]) S672) (St.fmem (A := [[(i_n0, AObj.row false ([.slice p_n0_0 n0_0.length c_n0_0, .int .i64 x135, .int .u64 x136]))], F139]) S672) x673 x674 x675 h676
    have S683 := St.callM (A := [[(i_n0, AObj.row false ([.slice p_n0_0 n0_0.length c_n0_0, .int .i64 x135, .int .u64 x136]))], F139]) S672 S681 (fun j h => h)
    refine AO.c rfl (o_call (vs := [.pointer (some ⟨i_n0, 0, none⟩), .int .i64 13]) rfl Try.call102 hc682) ?_
    obtain ⟨k684, hd685⟩ := chk_some hd677
    refine AO.p rfl (p_addE rfl rfl k684) ?_
    obtain ⟨G686, i687, hii687, hHG686, S688⟩ := S683.new (AObj.row false (ints [].flatten))
    refine AO.c rfl (s_build0 (i := i687) Try.underlying35 Try.sizeOf54 hii687 hHG686) ?_
    refine AO.p rfl (p_build2 (vs := [(0, .int .i64 (2 + x673)), (1, .slice (some (Addr.mk i687 0 none)) 0 0)]) (cs := [.int .i64 (2 + x673), .slice (some (Addr.mk i687 0 none)) 0 0]) Try.underlying37 rfl rfl rfl Try.sizeOf2 Try.sizeOf35 Try.zeroValue37 rfl rfl rfl rfl rfl) ?_
    obtain ⟨G690, i691, hii691, hHG690, S692⟩ := S688.new (AObj.row false ([.int .i64 0, .slice none 0 0]))
    refine AO.c rfl (s_alloc (i := i691) (cs := [.int .i64 0, .slice none 0 0]) Try.zeroValue37 rfl rfl hii691 hHG690) ?_
    obtain ⟨G694, hHG694, S695⟩ := S692.set (k := 0) (i := i691) rfl (AObj.row false ([.int .i64 (2 + x673), .slice (some (Addr.mk i687 0 none)) 0 0]))
    have S696 : St M0 H G694 [[(i691, AObj.row false ([.int .i64 (2 + x673), .slice (some (Addr.mk i687 0 none)) 0 0]))], [(i687, AObj.row false (ints [].flatten))], [(i_n0, AObj.row false ([.slice p_n0_0 n0_0.length c_n0_0, .int .i64 x674, .int .u64 x675]))], F678, [(i125, AObj.row false ([.int .i64 x107, .slice p114 rs108.length c115]))], oseg p114 (ints rs108.flatten), [(i101, AObj.row false ([.int .i64 0, .slice none 0 0]))]] := S695
    refine AO.s (s_storeAll (vs := [.int .i64 (2 + x673), .slice (some (Addr.mk i687 0 none)) 0 0]) Try.sizeOf37 rfl rfl (ones_list rfl) (S692.get (k := 0) rfl) rfl rfl hHG694) ?_
    refine AO.nil ?_
    refine AX.seq ?_
    refine AX.seq ?_
    refine AX.region ?_
    refine AO.p rfl (p_move rfl) ?_
    refine AO.p rfl (p_move rfl) ?_
    obtain ⟨G697, i698, hii698, hHG697, S699⟩ := S696.new (AObj.row false (ints [4, 10, 41]))
    refine AO.c rfl (s_buildInts (i := i698) (vs := [(0, .int .i64 4), (1, .int .i64 10), (2, .int .i64 41)]) (xs := [4, 10, 41]) Try.underlying58 Try.sizeOf2 Try.zeroValue2 rfl rfl (by decide) rfl rfl hii698 hHG697) ?_
    have S701 := S699.front 4 rfl
    have S702 := S701.front 1 rfl
    have S703 := S702.front 4 rfl
    have S704 : St M0 H G697 [[(i_n0, AObj.row false ([.slice p_n0_0 n0_0.length c_n0_0, .int .i64 x674, .int .u64 x675]))], [(i698, AObj.row false (ints [4, 10, 41]))], F678, [(i691, AObj.row false ([.int .i64 (2 + x673), .slice (some (Addr.mk i687 0 none)) 0 0]))], [(i687, AObj.row false (ints [].flatten))], [(i125, AObj.row false ([.int .i64 x107, .slice p114 rs108.length c115]))], oseg p114 (ints rs108.flatten), [(i101, AObj.row false ([.int .i64 0, .slice none 0 0]))]] := S703
    obtain ⟨⟨x705, x706, x707⟩, h708, hd709⟩ := bnd_some hd685
    obtain ⟨_, G712, hc714, F710, rfl, S713, hF711⟩ := W_spec_l01Pick fu G697 F678 i_n0 p_n0_0 c_n0_0 n0_0 (((q_n0_0.mono hF119).mono hF140).mono hF679) x674 x675 (some (Addr.mk i698 0 none)) 3 3 [4, 10, 41] rfl (Sb.lit (n := 3) (by decide)) (St.fnodup (A := [[(i_n0, AObj.row false ([.slice p_n0_0 n0_0.length c_n0_0, .int .i64 x674, .int .u64 x675]))], [(i698, AObj.row false (ints [4, 10, 41]))], F678]) S704) (St.fmem (A := [[(i_n0, AObj.row false ([.slice p_n0_0 n0_0.length c_n0_0, .int .i64 x674, .int .u64 x675]))], [(i698, AObj.row false (ints [4, 10, 41]))], F678]) S704) x705 x706 x707 h708
    have S715 := St.callM (A := [[(i_n0, AObj.row false ([.slice p_n0_0 n0_0.length c_n0_0, .int .i64 x674, .int .u64 x675]))], [(i698, AObj.row false (ints [4, 10, 41]))], F678]) S704 S713 (fun j h => h)
    refine AO.c rfl (o_call (vs := [.pointer (some ⟨i_n0, 0, none⟩), .slice (some (Addr.mk i698 0 none)) 3 3]) rfl Try.call135 hc714) ?_
    have S716 := S715.front 2 rfl
    have S717 := S716.front 1 rfl
    have S718 : St M0 H G712 [[(i_n0, AObj.row false ([.slice p_n0_0 n0_0.length c_n0_0, .int .i64 x706, .int .u64 x707]))], F710, [(i698, AObj.row false (ints [4, 10, 41]))], [(i691, AObj.row false ([.int .i64 (2 + x673), .slice (some (Addr.mk i687 0 none)) 0 0]))], [(i687, AObj.row false (ints [].flatten))], [(i125, AObj.row false ([.int .i64 x107, .slice p114 rs108.length c115]))], oseg p114 (ints rs108.flatten), [(i101, AObj.row false ([.int .i64 0, .slice none 0 0]))]] := S717
    obtain ⟨⟨x719, x720, x721⟩, h722, hd723⟩ := bnd_some hd709
    obtain ⟨_, G726, hc728, F724, rfl, S727, hF725⟩ := W_spec_l01Next fu G712 F710 x705 i_n0 p_n0_0 c_n0_0 n0_0 ((((q_n0_0.mono hF119).mono hF140).mono hF679).mono hF711) x706 x707 (St.fnodup (A := [[(i_n0, AObj.row false ([.slice p_n0_0 n0_0.length c_n0_0, .int .i64 x706, .int .u64 x707]))], F710]) S718) (St.fmem (A := [[(i_n0, AObj.row false ([.slice p_n0_0 n0_0.length c_n0_0, .int .i64 x706, .int .u64 x707]))], F710]) S718) x719 x720 x721 h722
    have S729 := St.callM (A := [[(i_n0, AObj.row false ([.slice p_n0_0 n0_0.length c_n0_0, .int .i64 x706, .int .u64 x707]))], F710]) S718 S727 (fun j h => h)
    refine AO.c rfl (o_call (vs := [.pointer (some ⟨i_n0, 0, none⟩), .int .i64 x705]) rfl Try.call102 hc728) ?_
    refine AO.p rfl (p_assign rfl) ?_
    refine AO.nil ?_
    obtain ⟨r892, hl893, hd894⟩ := bnd_some hd723
    refine AX.cutS (fun t' H' => ∃ (x884 : Int) (x885 : Int) (rs891 : List (List Int)) (F879 : Sg) (p889 : Option Addr) (c890 : Nat), (x884, x885, rs891) = r892 ∧ St M0 H H' [F879, [(i_n0, AObj.row false ([.slice p_n0_0 n0_0.length c_n0_0, .int .i64 x884, .int .u64 x885]))], [(i101, AObj.row false ([.int .i64 0, .slice none 0 0]))], [(i691, AObj.row false ([.int .i64 (2 + x673), .slice p889 rs891.length c890]))], oseg p889 (ints rs891.flatten)] ∧ Pin F879 F ∧ PV F879 p_n0_0 c_n0_0 n0_0 ∧ All 14 rs891 ∧ Sb p889 (rs891.length) c890 14 ∧ Am.Sub [(2, .pointer (some ⟨i101, 0, none⟩)), (6, .pointer (some ⟨i691, 0, none⟩))] t') ?_ ?_
    ·refine AX.block ?_
     refine AX.loopF (fun s' t' H' => ∃ (x832 : Int) (x833 : Int) (rs839 : List (List Int)) (x840 : Int) (F827 : Sg) (p837 : Option Addr) (c838 : Nat), (x832, x833, rs839, x840) = s' ∧ St M0 H H' [F827, [(i_n0, AObj.row false ([.slice p_n0_0 n0_0.length c_n0_0, .int .i64 x832, .int .u64 x833]))], [(i101, AObj.row false ([.int .i64 0, .slice none 0 0]))], [(i691, AObj.row false ([.int .i64 (2 + x673), .slice p837 rs839.length c838]))], oseg p837 (ints rs839.flatten)] ∧ Pin F827 F ∧ PV F827 p_n0_0 c_n0_0 n0_0 ∧ All 14 rs839 ∧ Sb p837 (rs839.length) c838 14 ∧ Am.Sub [(0, .pointer (some ⟨i_n0, 0, none⟩)), (2, .pointer (some ⟨i101, 0, none⟩)), (6, .pointer (some ⟨i691, 0, none⟩)), (7, .int .i64 x840)] t') hl893 ?_ ?_
     ·skip
      have S895 := S729.front 4 rfl
      have S896 := S895.front 4 rfl
      have S897 := S896.front 7 rfl
      have S898 := S897.front 3 rfl
      have S899 := S898.front 4 rfl
      have S900 := S899.keep 5
      exact ⟨x720, x721, [], x719, F724, (some (Addr.mk i687 0 none)), 0, rfl, S900, ((((((Pin.refl F).mono hF119).mono hF140).mono hF679).mono hF711).mono hF725), (((((q_n0_0.mono hF119).mono hF140).mono hF679).mono hF711).mono hF725), all_nil, (Sb.lit (n := 0) (by decide)), Sub.cons' rfl rfl (Sub.cons' rfl rfl (Sub.cons' rfl rfl (Sub.cons' rfl rfl (Sub.nil _))))⟩
     ·rintro n901 _ t' G905 ⟨x832, x833, rs839, x840, F827, p837, c838, rfl, S904, hF828, hv831, ars839, Bo836, hsub906⟩ o907 ho902 hk903
      refine AX.sub hsub906 ?_
      unfold D_spec_l01Draw_s1 at ho902
      refine AX.seq ?_
      refine AX.seq ?_
      refine AX.region ?_
      refine AO.p rfl (p_move rfl) ?_
      refine AO.p rfl (p_gtr rfl rfl) ?_
      refine AO.nil ?_
      refine AX.cond rfl (fun c908 => ?_) (fun c908 => ?_)
      ·have hd909 := bif_t c908 ho902
       refine AX.skip ?_
       refine AX.seq ?_
       refine AX.block ?_
       refine DR.startS [false, false, false, false, false, true, false, true, false, true] mix (by kernel_rfl) (fun hst => ?_)
       refine DR.p rfl rfl (s_fieldAddr Try.underlying37 rfl Try.sizeOf35 (by decide) rfl rfl) ?_
       refine DR.r rfl rfl (r_load rfl Try.isAgg35) (one_read (row_cell (S904.get (k := 3) rfl) rfl) (S904.oin (k := 4) rfl Bo836).bel) ?_
       refine DR.p rfl rfl (p_move rfl) ?_
       refine DR.p rfl rfl (s_fieldAddr Try.underlying37 rfl Try.sizeOf2 (by decide) rfl rfl) ?_
       refine DR.r rfl rfl (r_load rfl Try.isAgg2) (one_read (row_cell (S904.get (k := 3) rfl) rfl) (.of_flat0 rfl)) ?_
       have S910 := S904.front 0 rfl
       have S911 := S910.front 1 rfl
       have S912 : St M0 H G905 [[(i_n0, AObj.row false ([.slice p_n0_0 n0_0.length c_n0_0, .int .i64 x832, .int .u64 x833]))], F827, [(i101, AObj.row false ([.int .i64 0, .slice none 0 0]))], [(i691, AObj.row false ([.int .i64 (2 + x673), .slice p837 rs839.length c838]))], oseg p837 (ints rs839.flatten)] := S911
       obtain ⟨⟨xs913, x914, x915⟩, h916, hd917⟩ := bnd_some hd909
       obtain ⟨_, G921, hc923, F918, rfl, S922, l919, hF920⟩ := W_spec_l01DrawRound fu G905 F827 (2 + x673) i_n0 p_n0_0 c_n0_0 n0_0 hv831 x832 x833 (St.fnodup (A := [[(i_n0, AObj.row false ([.slice p_n0_0 n0_0.length c_n0_0, .int .i64 x832, .int .u64 x833]))], F827]) S912) (St.fmem (A := [[(i_n0, AObj.row false ([.slice p_n0_0 n0_0.length c_n0_0, .int .i64 x832, .int .u64 x833]))], F827]) S912) xs913 x914 x915 h916
       have S924 := St.callM (A := [[(i_n0, AObj.row false ([.slice p_n0_0 n0_0.length c_n0_0, .int .i64 x832, .int .u64 x833]))], F827]) S912 S922 (fun j h => h)
       refine DR.w rfl rfl (o_call (vs := [.pointer (some ⟨i_n0, 0, none⟩), .int .i64 (2 + x673)]) rfl Try.call136 hc923) (S922.len) ?_
       obtain ⟨G925, i926, hii926, hHG925, S927⟩ := S924.new (AObj.row false (ints [xs913].flatten))
       refine DR.a rfl rfl hii926 hHG925 (a_build1 (r := xs913) (zr := List.replicate 14 0) Try.underlying35 Try.sizeOf54 Try.zeroValue54 rfl rfl (by decide) (by decide) rfl l919) ?_
       obtain ⟨k929, hd930⟩ := chk_some hd917
       obtain ⟨p931, c932, G933, haG933, S934, Bp931⟩ := S927.app (k := 5) rfl Bo836 (ints [xs913].flatten) 1 (flat_len1 (all_one l919) rfl)
       have S935 := S934.cellsEq (k := 5) (us' := ints (rs839 ++ [xs913]).flatten) (intsf_app _ _) rfl
       have BS935 : Sb p931 ((rs839 ++ [xs913]).length) c932 14 := (show rs839.length + 1 = (rs839 ++ [xs913]).length from len_app (a := rs839) (b := [xs913]) rfl rfl) ▸ Bp931
       have S936 := S935.drop 0 rfl
       refine DR.w rfl rfl (s_app (by_ := 112) (us := ints rs839.flatten) (vs := ints [xs913].flatten) Try.underlying35 Try.underlying35 Try.typeInfo54 Try.sizeOf54 Try.zeroValue54 rfl rfl rfl rfl rfl rfl rfl (S927.buf (k := 5) rfl Bo836 (flat_len1 ars839 rfl)) (S927.oview (k := 0) rfl (Sb.lit (n := 1) (by decide)) (flat_len1 (all_one l919) rfl)) (flat_len1 (all_one l919) rfl) ints_one k929 haG933 (show rs839.length + 1 = (rs839 ++ [xs913]).length from len_app (a := rs839) (b := [xs913]) rfl rfl)) (appR_len haG933) ?_
       refine DR.p rfl rfl (s_fieldAddr Try.underlying37 rfl Try.sizeOf35 (by decide) rfl rfl) ?_
       obtain ⟨G937, hHG937, S938⟩ := S936.set (k := 3) (i := i691) rfl (AObj.row false ([.int .i64 (2 + x673), .slice p931 ((rs839 ++ [xs913]).length) c932]))
       have S939 : St M0 H G937 [[(i_n0, AObj.row false ([.slice p_n0_0 n0_0.length c_n0_0, .int .i64 x914, .int .u64 x915]))], F918, [(i101, AObj.row false ([.int .i64 0, .slice none 0 0]))], [(i691, AObj.row false ([.int .i64 (2 + x673), .slice p931 ((rs839 ++ [xs913]).length) c932]))], oseg p931 (ints (rs839 ++ [xs913]).flatten)] := S938
       refine DR.s rfl (s_store Try.sizeOf35 rfl rfl rfl (S936.get (k := 3) rfl) (Nat.le_of_ble_eq_true rfl) hHG937) (set_le hHG937) ?_
       refine DR.nil 10 [(1, 5)] hst (by kernel_rfl) ⟨(rd1 (fun _ => (S924.get (k := 3) rfl).trans (S904.get (k := 3) rfl).symm)), trivial⟩ ?_
       refine AX.region ?_
       refine AO.p rfl (p_move rfl) ?_
       obtain ⟨k940, hd941⟩ := chk_some hd930
       refine AO.p rfl (p_subE rfl rfl k940) ?_
       refine AO.p rfl (p_assign rfl) ?_
       refine AO.nil ?_
       obtain rfl := some_inj hd941
       have S943 := S939.front 4 rfl
       have S944 := S943.front 4 rfl
       have S945 := S944.front 4 rfl
       have S946 := S945.front 3 rfl
       have S947 := S946.front 4 rfl
       exact ⟨(x914, x915, (rs839 ++ [xs913]), x840 - 1), hk903, x914, x915, (rs839 ++ [xs913]), (x840 - 1), F918, p931, c932, rfl, S947, (hF828.mono hF920), (hv831.mono hF920), (all_app ars839 (all_one l919)), BS935, Sub.cons' rfl rfl (Sub.cons' rfl rfl (Sub.cons' rfl rfl (Sub.cons' rfl rfl (Sub.nil _))))⟩
      ·have hd948 := bif_f c908 ho902
       refine AX.exit ?_
       obtain rfl := some_inj hd948
       have S949 := S904.front 4 rfl
       have S950 := S949.front 4 rfl
       have S951 := S950.front 4 rfl
       have S952 := S951.front 4 rfl
       have S953 := S952.front 4 rfl
       exact ⟨x832, x833, rs839, F827, p837, c838, hk903, S953, hF828, hv831, ars839, Bo836, Sub.cons' rfl rfl (Sub.cons' rfl rfl (Sub.nil _))⟩
    ·rintro t' G955 ⟨x884, x885, rs891, F879, p889, c890, rfl, S954, hF880, hv883, ars891, Bo888, hsub956⟩
     refine ⟨_, hsub956, ?_⟩
     refine AX.seq ?_
     refine AX.region ?_
     refine AO.c rfl (s_loadN (vs := [.int .i64 (2 + x673), .slice p889 rs891.length c890]) Try.isAgg37 Try.sizeOf37 rfl rfl (row_cells (S954.get (k := 3) rfl))) ?_
     obtain ⟨G957, hHG957, S958⟩ := S954.set (k := 2) (i := i101) rfl (AObj.row false ([.int .i64 (2 + x673), .slice p889 rs891.length c890]))
     have S959 : St M0 H G957 [F879, [(i_n0, AObj.row false ([.slice p_n0_0 n0_0.length c_n0_0, .int .i64 x884, .int .u64 x885]))], [(i101, AObj.row false ([.int .i64 (2 + x673), .slice p889 rs891.length c890]))], [(i691, AObj.row false ([.int .i64 (2 + x673), .slice p889 rs891.length c890]))], oseg p889 (ints rs891.flatten)] := S958
     refine AO.s (s_storeAll (vs := [.int .i64 (2 + x673), .slice p889 rs891.length c890]) Try.sizeOf37 rfl rfl (ones_list rfl) (S954.get (k := 2) rfl) rfl rfl hHG957) ?_
     refine AO.nil ?_
     refine AX.ret ?_
     have S960 := S959.front 0 rfl
     have S961 := S960.front 4 rfl
     have S962 : St M0 H G957 [oseg p889 (ints rs891.flatten), F879, [(i_n0, AObj.row false ([.slice p_n0_0 n0_0.length c_n0_0, .int .i64 x884, .int .u64 x885]))], [(i101, AObj.row false ([.int .i64 (2 + x673), .slice p889 rs891.length c890]))], [(i691, AObj.row false ([.int .i64 (2 + x673), .slice p889 rs891.length c890]))]] := S961
     obtain ⟨F963, hF964, hp965, S966⟩ := S962.poolW (rs := rs891) Bo888 rfl ars891
     obtain ⟨rfl, z968⟩ := Prod.mk.inj (some_inj hd894)
     obtain ⟨rfl, z969⟩ := Prod.mk.inj z968
     obtain ⟨rfl, rfl⟩ := Prod.mk.inj z969
     have S971 := S966.front 0 rfl
     have S972 := S971.front 1 rfl
     have S973 := S972.keep 2
     exact ⟨.inr rfl, _, res1 rfl (rv_cell (vs := [.int .i64 (2 + x673), .slice p889 rs891.length c890]) rfl Try.isAgg37 Try.sizeOf37 rfl (row_cells (S959.get (k := 2) rfl))), p889, c890, F963, rfl, S973, hp965, (hF880.mono hF964)⟩

set_option maxHeartbeats 4000000 in
theorem W_spec_l01Copy (fu : Nat) (H : AHeap) (a0_0 : Int) (p_a0_1 : Option Addr) (c_a0_1 : Nat) (a0_1 : List (List Int)) (a_a0_1 : All 14 a0_1) (v_a0_1 : Vw H p_a0_1 a0_1.length c_a0_1 (ints a0_1.flatten)) (r0 : Int) (r1 : List (List Int)) (hd : D_spec_l01Copy fu a0_0 a0_1 = some (r0, r1)) : ∃ v G', ACall Try.prog 168 [.agg [.int .i64 a0_0, .slice p_a0_1 a0_1.length c_a0_1].toArray] H v G' ∧ ∃ (p_r1 : Option Addr) (c_r1 : Nat), (v = .agg [.int .i64 r0, .slice p_r1 r1.length c_r1].toArray) ∧ St [] H G' [oseg p_r1 (ints r1.flatten)] ∧ Sb p_r1 r1.length c_r1 14 ∧ All 14 r1 := by
 refine ACall.bodyX (args := [.agg [.int .i64 a0_0, .slice p_a0_1 a0_1.length c_a0_1].toArray]) (N := 10) [(0, .agg [.int .i64 a0_0, .slice p_a0_1 a0_1.length c_a0_1].toArray)] (fun v G' => ∃ (p_r1 : Option Addr) (c_r1 : Nat), (v = .agg [.int .i64 r0, .slice p_r1 r1.length c_r1].toArray) ∧ St [] H G' [oseg p_r1 (ints r1.flatten)] ∧ Sb p_r1 r1.length c_r1 14 ∧ All 14 r1) Try.func168 rfl rfl rfl rfl ?_
 unfold D_spec_l01Copy at hd
 have S0 : St [] H H [] := St.nil H
 refine AX.seq ?_
 refine AX.region ?_
 obtain ⟨G100, i101, hii101, hHG100, S102⟩ := S0.new (AObj.row false ([.int .i64 a0_0, .slice p_a0_1 a0_1.length c_a0_1]))
 refine AO.c rfl (s_box (i := i101) (cs := [.int .i64 a0_0, .slice p_a0_1 a0_1.length c_a0_1]) rfl hii101 rfl hHG100) ?_
 obtain ⟨G104, i105, hii105, hHG104, S106⟩ := S102.new (AObj.row false ([.int .i64 0, .slice none 0 0]))
 refine AO.c rfl (s_alloc (i := i105) (cs := [.int .i64 0, .slice none 0 0]) Try.zeroValue37 rfl rfl hii105 hHG104) ?_
 refine AO.nil ?_
 refine AX.seq ?_
 refine DR.startS [false, false, false, false, false, true, false, true] mix (by kernel_rfl) (fun hst => ?_)
 refine DR.p rfl rfl (s_fieldAddr Try.underlying37 rfl Try.sizeOf2 (by decide) rfl rfl) ?_
 refine DR.r rfl rfl (r_load rfl Try.isAgg2) (one_read (row_cell (S106.get (k := 1) rfl) rfl) (.of_flat0 rfl)) ?_
 obtain ⟨G108, i109, hii109, hHG108, S110⟩ := S106.new (AObj.row false (ints [].flatten))
 refine DR.a rfl rfl hii109 hHG108 (a_build0 Try.underlying35 Try.sizeOf54) ?_
 refine DR.p rfl rfl (s_fieldAddr Try.underlying37 rfl Try.sizeOf35 (by decide) rfl rfl) ?_
 refine DR.r rfl rfl (r_load rfl Try.isAgg35) (one_read (row_cell (S110.get (k := 2) rfl) rfl) (S110.view v_a0_1).inn.bel) ?_
 obtain ⟨k112, hd113⟩ := chk_some hd
 obtain ⟨p114, c115, G116, haG116, S117, Bp114⟩ := S110.app (k := 0) rfl (Sb.lit (n := 0) (by decide)) (ints a0_1.flatten) a0_1.length (flat_len1 a_a0_1 rfl)
 have S118 := S117.cellsEq (k := 0) (us' := ints a0_1.flatten) (List.nil_append _) rfl
 have BS118 : Sb p114 (a0_1.length) c115 14 := (show 0 + a0_1.length = a0_1.length from len_nilapp (b := a0_1) rfl) ▸ Bp114
 refine DR.w rfl rfl (s_app (by_ := 112) (us := ints [].flatten) (vs := ints a0_1.flatten) Try.underlying35 Try.underlying35 Try.typeInfo54 Try.sizeOf54 Try.zeroValue54 rfl rfl rfl rfl rfl rfl rfl (S110.buf (k := 0) rfl (Sb.lit (n := 0) (by decide)) (flat_len1 all_nil rfl)) (S110.view v_a0_1) (flat_len1 a_a0_1 rfl) ints_one k112 haG116 (show 0 + a0_1.length = a0_1.length from len_nilapp (b := a0_1) rfl)) (appR_len haG116) ?_
 refine DR.p rfl rfl (p_build2 (vs := [(0, .int .i64 a0_0), (1, .slice p114 a0_1.length c115)]) (cs := [.int .i64 a0_0, .slice p114 a0_1.length c115]) Try.underlying37 rfl rfl rfl Try.sizeOf2 Try.sizeOf35 Try.zeroValue37 rfl rfl rfl rfl rfl) ?_
 obtain ⟨G119, hHG119, S120⟩ := S118.set (k := 1) (i := i105) rfl (AObj.row false ([.int .i64 a0_0, .slice p114 a0_1.length c115]))
 refine DR.s rfl (s_storeAll (vs := [.int .i64 a0_0, .slice p114 a0_1.length c115]) Try.sizeOf37 rfl rfl (ones_list rfl) (S118.get (k := 1) rfl) rfl rfl hHG119) (set_le hHG119) ?_
 refine DR.nil 8 [(1, 5)] hst (by kernel_rfl) ⟨(rd1 (fun _ => (S118.get (k := 2) rfl).trans (S110.get (k := 2) rfl).symm)), trivial⟩ ?_
 refine AX.ret ?_
 obtain ⟨rfl, rfl⟩ := Prod.mk.inj (some_inj hd113)
 have S122 := S120.front 0 rfl
 have S123 := S122.keep 1
 exact ⟨.inr rfl, _, res1 rfl (rv_cell (vs := [.int .i64 a0_0, .slice p114 a0_1.length c115]) rfl Try.isAgg37 Try.sizeOf37 rfl (row_cells (S120.get (k := 1) rfl))), p114, c115, rfl, S123, BS118, a_a0_1⟩

set_option maxHeartbeats 4000000 in
theorem W_spec_l01Bad (fu : Nat) (H : AHeap) (F : Sg) (a1_0 : Int) (p_a1_1 : Option Addr) (c_a1_1 : Nat) (a1_1 : List (List Int)) (q_a1_1 : PW F p_a1_1 c_a1_1 14 a1_1) (i_n0 : Nat) (p_n0_0 : Option Addr) (c_n0_0 : Nat) (n0_0 : List Int) (q_n0_0 : PV F p_n0_0 c_n0_0 n0_0) (n0_1 : Int) (n0_2 : Int) (hn : (([[(i_n0, AObj.row false ([.slice p_n0_0 n0_0.length c_n0_0, .int .i64 n0_1, .int .u64 n0_2]))], F] : List Sg).flatten.map (·.1)).Nodup) (ho : ∀ x ∈ ([[(i_n0, AObj.row false ([.slice p_n0_0 n0_0.length c_n0_0, .int .i64 n0_1, .int .u64 n0_2]))], F] : List Sg).flatten, x.1 < H.length ∧ hget H x.1 = x.2) (r0 : Int) (r1 : List (List Int)) (m_n0_1 : Int) (m_n0_2 : Int) (hd : D_spec_l01Bad fu a1_0 a1_1 n0_0 n0_1 n0_2 = some (r0, r1, m_n0_1, m_n0_2)) : ∃ v G', ACall Try.prog 144 [.pointer (some ⟨i_n0, 0, none⟩), .agg [.int .i64 a1_0, .slice p_a1_1 a1_1.length c_a1_1].toArray] H v G' ∧ ∃ (p_r1 : Option Addr) (c_r1 : Nat) (F' : Sg), (v = .agg [.int .i64 r0, .slice p_r1 r1.length c_r1].toArray) ∧ St (([[(i_n0, AObj.row false ([.slice p_n0_0 n0_0.length c_n0_0, .int .i64 n0_1, .int .u64 n0_2]))], F] : List Sg).flatten.map (·.1)) H G' [[(i_n0, AObj.row false ([.slice p_n0_0 n0_0.length c_n0_0, .int .i64 m_n0_1, .int .u64 m_n0_2]))], F'] ∧ PW F' p_r1 c_r1 14 r1 ∧ Pin F' F := by
 refine ACall.bodyX (args := [.pointer (some ⟨i_n0, 0, none⟩), .agg [.int .i64 a1_0, .slice p_a1_1 a1_1.length c_a1_1].toArray]) (N := 58) [(0, .pointer (some ⟨i_n0, 0, none⟩)), (1, .agg [.int .i64 a1_0, .slice p_a1_1 a1_1.length c_a1_1].toArray)] (fun v G' => ∃ (p_r1 : Option Addr) (c_r1 : Nat) (F' : Sg), (v = .agg [.int .i64 r0, .slice p_r1 r1.length c_r1].toArray) ∧ St (([[(i_n0, AObj.row false ([.slice p_n0_0 n0_0.length c_n0_0, .int .i64 n0_1, .int .u64 n0_2]))], F] : List Sg).flatten.map (·.1)) H G' [[(i_n0, AObj.row false ([.slice p_n0_0 n0_0.length c_n0_0, .int .i64 m_n0_1, .int .u64 m_n0_2]))], F'] ∧ PW F' p_r1 c_r1 14 r1 ∧ Pin F' F) Try.func144 rfl rfl rfl rfl ?_
 unfold D_spec_l01Bad at hd
 have S0 := St.initF hn ho
 generalize hM0 : (([[(i_n0, AObj.row false ([.slice p_n0_0 n0_0.length c_n0_0, .int .i64 n0_1, .int .u64 n0_2]))], F] : List Sg).flatten.map (·.1)) = M0 at S0 ⊢
 refine AX.seq ?_
 refine AX.region ?_
 obtain ⟨G100, i101, hii101, hHG100, S102⟩ := S0.new (AObj.row false ([.int .i64 a1_0, .slice p_a1_1 a1_1.length c_a1_1]))
 refine AO.c rfl (s_box (i := i101) (cs := [.int .i64 a1_0, .slice p_a1_1 a1_1.length c_a1_1]) rfl hii101 rfl hHG100) ?_
 obtain ⟨G104, i105, hii105, hHG104, S106⟩ := S102.new (AObj.row false ([.int .i64 0, .slice none 0 0]))
 refine AO.c rfl (s_alloc (i := i105) (cs := [.int .i64 0, .slice none 0 0]) Try.zeroValue37 rfl rfl hii105 hHG104) ?_
 refine AO.nil ?_
 refine AX.seq ?_
 refine AX.region ?_
 refine AO.c rfl (s_loadN (vs := [.int .i64 a1_0, .slice p_a1_1 a1_1.length c_a1_1]) Try.isAgg37 Try.sizeOf37 rfl rfl (row_cells (S106.get (k := 1) rfl))) ?_
 obtain ⟨⟨x108, rs109⟩, h110, hd111⟩ := bnd_some hd
 obtain ⟨_, G118, hc117, p112, c113, rfl, S119, B115, a116⟩ := W_spec_l01Copy fu G104 a1_0 p_a1_1 c_a1_1 a1_1 ((q_a1_1).all) (S106.pwview (k := 3) rfl q_a1_1) x108 rs109 h110
 have S120 := S106.call S119
 refine AO.c rfl (o_call (vs := [.agg [.int .i64 a1_0, .slice p_a1_1 a1_1.length c_a1_1].toArray]) rfl Try.call168 hc117) ?_
 obtain ⟨G121, i122, hii122, hHG121, S123⟩ := S120.new (AObj.row false ([.int .i64 0, .slice none 0 0]))
 refine AO.c rfl (s_alloc (i := i122) (cs := [.int .i64 0, .slice none 0 0]) Try.zeroValue37 rfl rfl hii122 hHG121) ?_
 obtain ⟨G125, hHG125, S126⟩ := S123.set (k := 0) (i := i122) rfl (AObj.row false ([.int .i64 x108, .slice p112 rs109.length c113]))
 have S127 : St M0 H G125 [[(i122, AObj.row false ([.int .i64 x108, .slice p112 rs109.length c113]))], oseg p112 (ints rs109.flatten), [(i105, AObj.row false ([.int .i64 0, .slice none 0 0]))], [(i101, AObj.row false ([.int .i64 a1_0, .slice p_a1_1 a1_1.length c_a1_1]))], [(i_n0, AObj.row false ([.slice p_n0_0 n0_0.length c_n0_0, .int .i64 n0_1, .int .u64 n0_2]))], F] := S126
 refine AO.s (s_storeAll (vs := [.int .i64 x108, .slice p112 rs109.length c113]) Try.sizeOf37 rfl rfl (ones_list rfl) (S123.get (k := 0) rfl) rfl rfl hHG125) ?_
 refine AO.nil ?_
 refine AX.seq ?_
 refine AX.seq ?_
 refine AX.region ?_
 refine AO.p rfl (p_move rfl) ?_
 have S128 := S127.front 5 rfl
 have S129 := S128.front 5 rfl
 have S130 : St M0 H G125 [[(i_n0, AObj.row false ([.slice p_n0_0 n0_0.length c_n0_0, .int .i64 n0_1, .int .u64 n0_2]))], F, [(i122, AObj.row false ([.int .i64 x108, .slice p112 rs109.length c113]))], oseg p112 (ints rs109.flatten), [(i105, AObj.row false ([.int .i64 0, .slice none 0 0]))], [(i101, AObj.row false ([.int .i64 a1_0, .slice p_a1_1 a1_1.length c_a1_1]))]] := S129
 obtain ⟨⟨x131, x132, x133⟩, h134, hd135⟩ := bnd_some hd111
 obtain ⟨_, G138, hc140, F136, rfl, S139, hF137⟩ := W_spec_l01Next fu G125 F 50 i_n0 p_n0_0 c_n0_0 n0_0 q_n0_0 n0_1 n0_2 (St.fnodup (A := [[(i_n0, AObj.row false ([.slice p_n0_0 n0_0.length c_n0_0, .int .i64 n0_1, .int .u64 n0_2]))], F]) S130) (St.fmem (A := [[(i_n0, AObj.row false ([.slice p_n0_0 n0_0.length c_n0_0, .int .i64 n0_1, .int .u64 n0_2]))], F]) S130) x131 x132 x133 h134
 have S141 := St.callM (A := [[(i_n0, AObj.row false ([.slice p_n0_0 n0_0.length c_n0_0, .int .i64 n0_1, .int .u64 n0_2]))], F]) S130 S139 (fun j h => h)
 refine AO.c rfl (o_call (vs := [.pointer (some ⟨i_n0, 0, none⟩), .int .i64 50]) rfl Try.call102 hc140) ?_
 refine AO.nil ?_
 refine AX.block ?_
 refine AX.seq ?_
 refine AX.region ?_
 refine AO.p rfl (p_eql rfl rfl) ?_
 refine AO.p rfl (p_assign rfl) ?_
 refine AO.nil ?_
 refine AX.cond rfl (fun c142 => ?_) (fun c142 => ?_)
 ·have hd143 := bif_t c142 hd135
  refine AX.seq ?_
  refine AX.region ?_
  refine AO.p rfl (p_move rfl) ?_
  refine AO.p rfl (s_fieldAddr Try.underlying37 rfl Try.sizeOf2 (by decide) rfl rfl) ?_
  refine AO.c rfl (s_load Try.isAgg2 rfl (row_cell (S141.get (k := 5) rfl) rfl)) ?_
  obtain ⟨k144, hd145⟩ := chk_some hd143
  refine AO.p rfl (p_addE rfl rfl k144) ?_
  obtain ⟨G146, i147, hii147, hHG146, S148⟩ := S141.new (AObj.row false (ints [1, 15, 0, (-1), a1_0 + 1]))
  refine AO.c rfl (s_buildInts (i := i147) (vs := [(0, .int .i64 1), (1, .int .i64 15), (2, .int .i64 0), (3, .int .i64 (-1)), (4, .int .i64 (a1_0 + 1))]) (xs := [1, 15, 0, (-1), a1_0 + 1]) Try.underlying58 Try.sizeOf2 Try.zeroValue2 rfl rfl (by decide) rfl rfl hii147 hHG146) ?_
  have S150 := S148.front 2 rfl
  have S151 := S150.front 1 rfl
  have S152 := S151.front 2 rfl
  have S153 : St M0 H G146 [[(i_n0, AObj.row false ([.slice p_n0_0 n0_0.length c_n0_0, .int .i64 x132, .int .u64 x133]))], [(i147, AObj.row false (ints [1, 15, 0, (-1), a1_0 + 1]))], F136, [(i122, AObj.row false ([.int .i64 x108, .slice p112 rs109.length c113]))], oseg p112 (ints rs109.flatten), [(i105, AObj.row false ([.int .i64 0, .slice none 0 0]))], [(i101, AObj.row false ([.int .i64 a1_0, .slice p_a1_1 a1_1.length c_a1_1]))]] := S152
  obtain ⟨⟨x154, x155, x156⟩, h157, hd158⟩ := bnd_some hd145
  obtain ⟨_, G161, hc163, F159, rfl, S162, hF160⟩ := W_spec_l01Pick fu G146 F136 i_n0 p_n0_0 c_n0_0 n0_0 (q_n0_0.mono hF137) x132 x133 (some (Addr.mk i147 0 none)) 5 5 [1, 15, 0, (-1), a1_0 + 1] rfl (Sb.lit (n := 5) (by decide)) (St.fnodup (A := [[(i_n0, AObj.row false ([.slice p_n0_0 n0_0.length c_n0_0, .int .i64 x132, .int .u64 x133]))], [(i147, AObj.row false (ints [1, 15, 0, (-1), a1_0 + 1]))], F136]) S153) (St.fmem (A := [[(i_n0, AObj.row false ([.slice p_n0_0 n0_0.length c_n0_0, .int .i64 x132, .int .u64 x133]))], [(i147, AObj.row false (ints [1, 15, 0, (-1), a1_0 + 1]))], F136]) S153) x154 x155 x156 h157
  have S164 := St.callM (A := [[(i_n0, AObj.row false ([.slice p_n0_0 n0_0.length c_n0_0, .int .i64 x132, .int .u64 x133]))], [(i147, AObj.row false (ints [1, 15, 0, (-1), a1_0 + 1]))], F136]) S153 S162 (fun j h => h)
  refine AO.c rfl (o_call (vs := [.pointer (some ⟨i_n0, 0, none⟩), .slice (some (Addr.mk i147 0 none)) 5 5]) rfl Try.call135 hc163) ?_
  refine AO.p rfl (s_fieldAddr Try.underlying37 rfl Try.sizeOf2 (by decide) rfl rfl) ?_
  obtain ⟨G165, hHG165, S166⟩ := S164.set (k := 3) (i := i122) rfl (AObj.row false ([.int .i64 x154, .slice p112 rs109.length c113]))
  have S167 : St M0 H G165 [[(i_n0, AObj.row false ([.slice p_n0_0 n0_0.length c_n0_0, .int .i64 x155, .int .u64 x156]))], [(i147, AObj.row false (ints [1, 15, 0, (-1), a1_0 + 1]))], F159, [(i122, AObj.row false ([.int .i64 x154, .slice p112 rs109.length c113]))], oseg p112 (ints rs109.flatten), [(i105, AObj.row false ([.int .i64 0, .slice none 0 0]))], [(i101, AObj.row false ([.int .i64 a1_0, .slice p_a1_1 a1_1.length c_a1_1]))]] := S166
  refine AO.s (s_store Try.sizeOf2 rfl rfl rfl (S164.get (k := 3) rfl) (Nat.le_of_ble_eq_true rfl) hHG165) ?_
  refine AO.nil ?_
  refine AX.seq ?_
  refine AX.region ?_
  refine AO.c rfl (s_loadN (vs := [.int .i64 x154, .slice p112 rs109.length c113]) Try.isAgg37 Try.sizeOf37 rfl rfl (row_cells (S167.get (k := 3) rfl))) ?_
  obtain ⟨G168, hHG168, S169⟩ := S167.set (k := 5) (i := i105) rfl (AObj.row false ([.int .i64 x154, .slice p112 rs109.length c113]))
  have S170 : St M0 H G168 [[(i_n0, AObj.row false ([.slice p_n0_0 n0_0.length c_n0_0, .int .i64 x155, .int .u64 x156]))], [(i147, AObj.row false (ints [1, 15, 0, (-1), a1_0 + 1]))], F159, [(i122, AObj.row false ([.int .i64 x154, .slice p112 rs109.length c113]))], oseg p112 (ints rs109.flatten), [(i105, AObj.row false ([.int .i64 x154, .slice p112 rs109.length c113]))], [(i101, AObj.row false ([.int .i64 a1_0, .slice p_a1_1 a1_1.length c_a1_1]))]] := S169
  refine AO.s (s_storeAll (vs := [.int .i64 x154, .slice p112 rs109.length c113]) Try.sizeOf37 rfl rfl (ones_list rfl) (S167.get (k := 5) rfl) rfl rfl hHG168) ?_
  refine AO.nil ?_
  refine AX.ret ?_
  have S171 := S170.front 2 rfl
  have S172 := S171.front 4 rfl
  have S173 : St M0 H G168 [oseg p112 (ints rs109.flatten), F159, [(i_n0, AObj.row false ([.slice p_n0_0 n0_0.length c_n0_0, .int .i64 x155, .int .u64 x156]))], [(i147, AObj.row false (ints [1, 15, 0, (-1), a1_0 + 1]))], [(i122, AObj.row false ([.int .i64 x154, .slice p112 rs109.length c113]))], [(i105, AObj.row false ([.int .i64 x154, .slice p112 rs109.length c113]))], [(i101, AObj.row false ([.int .i64 a1_0, .slice p_a1_1 a1_1.length c_a1_1]))]] := S172
  obtain ⟨F174, hF175, hp176, S177⟩ := S173.poolW (rs := rs109) B115 rfl a116
  obtain ⟨rfl, z179⟩ := Prod.mk.inj (some_inj hd158)
  obtain ⟨rfl, z180⟩ := Prod.mk.inj z179
  obtain ⟨rfl, rfl⟩ := Prod.mk.inj z180
  have S182 := S177.front 0 rfl
  have S183 := S182.front 1 rfl
  have S184 := S183.keep 2
  exact ⟨.inr rfl, _, res1 rfl (rv_cell (vs := [.int .i64 x154, .slice p112 rs109.length c113]) rfl Try.isAgg37 Try.sizeOf37 rfl (row_cells (S170.get (k := 5) rfl))), p112, c113, F174, rfl, S184, hp176, ((((Pin.refl F).mono hF137).mono hF160).mono hF175)⟩
 ·have hd185 := bif_f c142 hd135
  refine AX.seq ?_
  refine AX.region ?_
  refine AO.p rfl (p_eql rfl rfl) ?_
  refine AO.p rfl (p_assign rfl) ?_
  refine AO.nil ?_
  refine AX.cond rfl (fun c186 => ?_) (fun c186 => ?_)
  ·have hd187 := bif_t c186 hd185
   refine AX.seq ?_
   refine AX.region ?_
   refine AO.p rfl (s_fieldAddr Try.underlying37 rfl Try.sizeOf35 (by decide) rfl rfl) ?_
   refine AO.c rfl (s_load Try.isAgg35 rfl (row_cell (S141.get (k := 2) rfl) rfl)) ?_
   refine AO.p rfl (p_len_slice rfl Try.underlying35) ?_
   refine AO.p rfl (p_gtr rfl rfl) ?_
   refine AO.nil ?_
   refine AX.cond rfl (fun c188 => ?_) (fun c188 => ?_)
   ·have hd189 := bif_t c188 hd187
    refine AX.seq ?_
    refine AX.region ?_
    refine AO.p rfl (s_fieldAddr Try.underlying37 rfl Try.sizeOf35 (by decide) rfl rfl) ?_
    refine AO.c rfl (s_load Try.isAgg35 rfl (row_cell (S141.get (k := 2) rfl) rfl)) ?_
    obtain ⟨k190, hd191⟩ := chk_some hd189
    refine AO.p rfl (s_indexV (q := 0) Try.underlying35 Try.sizeOf54 rfl (B115.at (inR_pos k190)) rfl k190 rfl) ?_
    refine AO.c rfl (s_loadN (vs := ints (rw_ rs109 0)) Try.isAgg54 Try.sizeOf54 rfl (ints_len (rw_len a116 (lt_len rfl (inR_lt k190)))) (row_part (S141.oat (k := 3) rfl (B115.at (inR_pos k190))) (flat_cells a116 (lt_len rfl (inR_lt k190))))) ?_
    obtain ⟨G192, i193, hii193, hHG192, S194⟩ := S141.new (AObj.row false (ints (List.replicate 14 0)))
    refine AO.c rfl (s_alloc (i := i193) (cs := ints (List.replicate 14 0)) Try.zeroValue54 rfl rfl hii193 hHG192) ?_
    obtain ⟨G196, hHG196, S197⟩ := S194.set (k := 0) (i := i193) rfl (AObj.row false (ints (rw_ rs109 0)))
    have S198 : St M0 H G196 [[(i193, AObj.row false (ints (rw_ rs109 0)))], [(i_n0, AObj.row false ([.slice p_n0_0 n0_0.length c_n0_0, .int .i64 x132, .int .u64 x133]))], F136, [(i122, AObj.row false ([.int .i64 x108, .slice p112 rs109.length c113]))], oseg p112 (ints rs109.flatten), [(i105, AObj.row false ([.int .i64 0, .slice none 0 0]))], [(i101, AObj.row false ([.int .i64 a1_0, .slice p_a1_1 a1_1.length c_a1_1]))]] := S197
    refine AO.s (s_storeAll (vs := ints (rw_ rs109 0)) Try.sizeOf54 rfl rfl ints_one (S194.get (k := 0) rfl) (ints_len (rw_len a116 (lt_len rfl (inR_lt k190)))) (ints_len len_rep) hHG196) ?_
    refine AO.nil ?_
    refine AX.seq ?_
    refine AX.region ?_
    refine AO.p rfl (p_move rfl) ?_
    have S199 := S198.front 2 rfl
    have S200 := S199.front 2 rfl
    have S201 : St M0 H G196 [[(i_n0, AObj.row false ([.slice p_n0_0 n0_0.length c_n0_0, .int .i64 x132, .int .u64 x133]))], F136, [(i193, AObj.row false (ints (rw_ rs109 0)))], [(i122, AObj.row false ([.int .i64 x108, .slice p112 rs109.length c113]))], oseg p112 (ints rs109.flatten), [(i105, AObj.row false ([.int .i64 0, .slice none 0 0]))], [(i101, AObj.row false ([.int .i64 a1_0, .slice p_a1_1 a1_1.length c_a1_1]))]] := S200
    obtain ⟨⟨x202, x203, x204⟩, h205, hd206⟩ := bnd_some hd191
    obtain ⟨_, G209, hc211, F207, rfl, S210, hF208⟩ := W_spec_l01Next fu G196 F136 14 i_n0 p_n0_0 c_n0_0 n0_0 (q_n0_0.mono hF137) x132 x133 (St.fnodup (A := [[(i_n0, AObj.row false ([.slice p_n0_0 n0_0.length c_n0_0, .int .i64 x132, .int .u64 x133]))], F136]) S201) (St.fmem (A := [[(i_n0, AObj.row false ([.slice p_n0_0 n0_0.length c_n0_0, .int .i64 x132, .int .u64 x133]))], F136]) S201) x202 x203 x204 h205
    have S212 := St.callM (A := [[(i_n0, AObj.row false ([.slice p_n0_0 n0_0.length c_n0_0, .int .i64 x132, .int .u64 x133]))], F136]) S201 S210 (fun j h => h)
    refine AO.c rfl (o_call (vs := [.pointer (some ⟨i_n0, 0, none⟩), .int .i64 14]) rfl Try.call102 hc211) ?_
    refine AO.p rfl (p_move rfl) ?_
    obtain ⟨G213, i214, hii214, hHG213, S215⟩ := S212.new (AObj.row false (ints [1, 0, (-1), 14]))
    refine AO.c rfl (s_buildInts (i := i214) (vs := [(0, .int .i64 1), (1, .int .i64 0), (2, .int .i64 (-1)), (3, .int .i64 14)]) (xs := [1, 0, (-1), 14]) Try.underlying58 Try.sizeOf2 Try.zeroValue2 rfl rfl (by decide) rfl rfl hii214 hHG213) ?_
    have S217 := S215.front 2 rfl
    have S218 := S217.front 1 rfl
    have S219 := S218.front 2 rfl
    have S220 : St M0 H G213 [[(i_n0, AObj.row false ([.slice p_n0_0 n0_0.length c_n0_0, .int .i64 x203, .int .u64 x204]))], [(i214, AObj.row false (ints [1, 0, (-1), 14]))], F207, [(i193, AObj.row false (ints (rw_ rs109 0)))], [(i122, AObj.row false ([.int .i64 x108, .slice p112 rs109.length c113]))], oseg p112 (ints rs109.flatten), [(i105, AObj.row false ([.int .i64 0, .slice none 0 0]))], [(i101, AObj.row false ([.int .i64 a1_0, .slice p_a1_1 a1_1.length c_a1_1]))]] := S219
    obtain ⟨⟨x221, x222, x223⟩, h224, hd225⟩ := bnd_some hd206
    obtain ⟨_, G228, hc230, F226, rfl, S229, hF227⟩ := W_spec_l01Pick fu G213 F207 i_n0 p_n0_0 c_n0_0 n0_0 ((q_n0_0.mono hF137).mono hF208) x203 x204 (some (Addr.mk i214 0 none)) 4 4 [1, 0, (-1), 14] rfl (Sb.lit (n := 4) (by decide)) (St.fnodup (A := [[(i_n0, AObj.row false ([.slice p_n0_0 n0_0.length c_n0_0, .int .i64 x203, .int .u64 x204]))], [(i214, AObj.row false (ints [1, 0, (-1), 14]))], F207]) S220) (St.fmem (A := [[(i_n0, AObj.row false ([.slice p_n0_0 n0_0.length c_n0_0, .int .i64 x203, .int .u64 x204]))], [(i214, AObj.row false (ints [1, 0, (-1), 14]))], F207]) S220) x221 x222 x223 h224
    have S231 := St.callM (A := [[(i_n0, AObj.row false ([.slice p_n0_0 n0_0.length c_n0_0, .int .i64 x203, .int .u64 x204]))], [(i214, AObj.row false (ints [1, 0, (-1), 14]))], F207]) S220 S229 (fun j h => h)
    refine AO.c rfl (o_call (vs := [.pointer (some ⟨i_n0, 0, none⟩), .slice (some (Addr.mk i214 0 none)) 4 4]) rfl Try.call135 hc230) ?_
    obtain ⟨k232, hd233⟩ := chk_some hd225
    refine AO.p rfl (s_indexAr (q := x202.toNat) Try.underlying54 Try.sizeOf2 rfl rfl k232 (z1 _)) ?_
    obtain ⟨G234, hHG234, S235⟩ := S231.set (k := 3) (i := i193) rfl (AObj.row false (ints ((rw_ rs109 0).set x202.toNat x221)))
    have S236 : St M0 H G234 [[(i_n0, AObj.row false ([.slice p_n0_0 n0_0.length c_n0_0, .int .i64 x222, .int .u64 x223]))], [(i214, AObj.row false (ints [1, 0, (-1), 14]))], F226, [(i193, AObj.row false (ints ((rw_ rs109 0).set x202.toNat x221)))], [(i122, AObj.row false ([.int .i64 x108, .slice p112 rs109.length c113]))], oseg p112 (ints rs109.flatten), [(i105, AObj.row false ([.int .i64 0, .slice none 0 0]))], [(i101, AObj.row false ([.int .i64 a1_0, .slice p_a1_1 a1_1.length c_a1_1]))]] := S235
    refine AO.s (s_store Try.sizeOf2 rfl rfl rfl (S231.get (k := 3) rfl) (lt_len (ints_len (rw_len a116 (lt_len rfl (inR_lt k190)))) (inR_lt k232)) ((congrArg (fun l => List.set _ _ (AObj.row false l)) (ints_set _ _ _)).trans hHG234)) ?_
    refine AO.nil ?_
    refine AX.seq ?_
    refine AX.region ?_
    refine AO.p rfl (s_fieldAddr Try.underlying37 rfl Try.sizeOf35 (by decide) rfl rfl) ?_
    refine AO.c rfl (s_load Try.isAgg35 rfl (row_cell (S236.get (k := 4) rfl) rfl)) ?_
    refine AO.c rfl (s_loadN (vs := ints ((rw_ rs109 0).set x202.toNat x221)) Try.isAgg54 Try.sizeOf54 rfl (ints_len (len_set (rw_len a116 (lt_len rfl (inR_lt k190))))) (row_cells (S236.get (k := 3) rfl))) ?_
    obtain ⟨k237, hd238⟩ := chk_some hd233
    refine AO.p rfl (s_indexV (q := 0) Try.underlying35 Try.sizeOf54 rfl (B115.at (inR_pos k237)) rfl k237 rfl) ?_
    obtain ⟨G239, hHG239, S240⟩ := S236.oset (k := 5) (p := p112) rfl (B115.at (inR_pos k237)) (ints (rs109.set 0 ((rw_ rs109 0).set x202.toNat x221)).flatten)
    have S241 : St M0 H G239 [[(i_n0, AObj.row false ([.slice p_n0_0 n0_0.length c_n0_0, .int .i64 x222, .int .u64 x223]))], [(i214, AObj.row false (ints [1, 0, (-1), 14]))], F226, [(i193, AObj.row false (ints ((rw_ rs109 0).set x202.toNat x221)))], [(i122, AObj.row false ([.int .i64 x108, .slice p112 rs109.length c113]))], oseg p112 (ints (rs109.set 0 ((rw_ rs109 0).set x202.toNat x221)).flatten), [(i105, AObj.row false ([.int .i64 0, .slice none 0 0]))], [(i101, AObj.row false ([.int .i64 a1_0, .slice p_a1_1 a1_1.length c_a1_1]))]] := S240
    refine AO.s (s_storeRow (o := 0) (r := ((rw_ rs109 0).set x202.toNat x221)) Try.sizeOf54 rfl rfl rfl (S236.oat (k := 5) rfl (B115.at (inR_pos k237))) a116 (len_set (rw_len a116 (lt_len rfl (inR_lt k190)))) (lt_len rfl (inR_lt k237)) hHG239) ?_
    refine AO.nil ?_
    refine AX.seq ?_
    refine AX.region ?_
    refine AO.c rfl (s_loadN (vs := [.int .i64 x108, .slice p112 rs109.length c113]) Try.isAgg37 Try.sizeOf37 rfl rfl (row_cells (S241.get (k := 4) rfl))) ?_
    obtain ⟨G242, hHG242, S243⟩ := S241.set (k := 6) (i := i105) rfl (AObj.row false ([.int .i64 x108, .slice p112 rs109.length c113]))
    have S244 : St M0 H G242 [[(i_n0, AObj.row false ([.slice p_n0_0 n0_0.length c_n0_0, .int .i64 x222, .int .u64 x223]))], [(i214, AObj.row false (ints [1, 0, (-1), 14]))], F226, [(i193, AObj.row false (ints ((rw_ rs109 0).set x202.toNat x221)))], [(i122, AObj.row false ([.int .i64 x108, .slice p112 rs109.length c113]))], oseg p112 (ints (rs109.set 0 ((rw_ rs109 0).set x202.toNat x221)).flatten), [(i105, AObj.row false ([.int .i64 x108, .slice p112 rs109.length c113]))], [(i101, AObj.row false ([.int .i64 a1_0, .slice p_a1_1 a1_1.length c_a1_1]))]] := S243
    refine AO.s (s_storeAll (vs := [.int .i64 x108, .slice p112 rs109.length c113]) Try.sizeOf37 rfl rfl (ones_list rfl) (S241.get (k := 6) rfl) rfl rfl hHG242) ?_
    refine AO.nil ?_
    refine AX.ret ?_
    have S245 := S244.front 2 rfl
    have S246 := S245.front 5 rfl
    have S247 : St M0 H G242 [oseg p112 (ints (rs109.set 0 ((rw_ rs109 0).set x202.toNat x221)).flatten), F226, [(i_n0, AObj.row false ([.slice p_n0_0 n0_0.length c_n0_0, .int .i64 x222, .int .u64 x223]))], [(i214, AObj.row false (ints [1, 0, (-1), 14]))], [(i193, AObj.row false (ints ((rw_ rs109 0).set x202.toNat x221)))], [(i122, AObj.row false ([.int .i64 x108, .slice p112 rs109.length c113]))], [(i105, AObj.row false ([.int .i64 x108, .slice p112 rs109.length c113]))], [(i101, AObj.row false ([.int .i64 a1_0, .slice p_a1_1 a1_1.length c_a1_1]))]] := S246
    obtain ⟨F248, hF249, hp250, S251⟩ := S247.poolW (rs := (rs109.set 0 ((rw_ rs109 0).set x202.toNat x221))) B115 (len_set rfl) (All.set a116 (len_set (rw_len a116 (lt_len rfl (inR_lt k190)))) _)
    obtain ⟨rfl, z253⟩ := Prod.mk.inj (some_inj hd238)
    obtain ⟨rfl, z254⟩ := Prod.mk.inj z253
    obtain ⟨rfl, rfl⟩ := Prod.mk.inj z254
    have S256 := S251.front 0 rfl
    have S257 := S256.front 1 rfl
    have S258 := S257.keep 2
    exact ⟨.inr rfl, _, res1 rfl (rv_cell (vs := [.int .i64 x108, .slice p112 rs109.length c113]) rfl Try.isAgg37 Try.sizeOf37 rfl (row_cells (S244.get (k := 6) rfl))), p112, c113, F248, (by rw [show List.length (rs109.set 0 ((rw_ rs109 0).set x202.toNat x221)) = rs109.length from (len_set rfl)]), S258, hp250, (((((Pin.refl F).mono hF137).mono hF208).mono hF227).mono hF249)⟩
   ·have hd259 := bif_f c188 hd187
    refine AX.skip ?_
    refine AX.seq ?_
    refine AX.region ?_
    refine AO.c rfl (s_loadN (vs := [.int .i64 a1_0, .slice p_a1_1 a1_1.length c_a1_1]) Try.isAgg37 Try.sizeOf37 rfl rfl (row_cells (S141.get (k := 5) rfl))) ?_
    obtain ⟨G260, hHG260, S261⟩ := S141.set (k := 4) (i := i105) rfl (AObj.row false ([.int .i64 a1_0, .slice p_a1_1 a1_1.length c_a1_1]))
    have S262 : St M0 H G260 [[(i_n0, AObj.row false ([.slice p_n0_0 n0_0.length c_n0_0, .int .i64 x132, .int .u64 x133]))], F136, [(i122, AObj.row false ([.int .i64 x108, .slice p112 rs109.length c113]))], oseg p112 (ints rs109.flatten), [(i105, AObj.row false ([.int .i64 a1_0, .slice p_a1_1 a1_1.length c_a1_1]))], [(i101, AObj.row false ([.int .i64 a1_0, .slice p_a1_1 a1_1.length c_a1_1]))]] := S261
    refine AO.s (s_storeAll (vs := [.int .i64 a1_0, .slice p_a1_1 a1_1.length c_a1_1]) Try.sizeOf37 rfl rfl (ones_list rfl) (S141.get (k := 4) rfl) rfl rfl hHG260) ?_
    refine AO.nil ?_
    refine AX.ret ?_
    obtain ⟨rfl, z263⟩ := Prod.mk.inj (some_inj hd259)
    obtain ⟨rfl, z264⟩ := Prod.mk.inj z263
    obtain ⟨rfl, rfl⟩ := Prod.mk.inj z264
    have S266 := S262.front 1 rfl
    have S267 := S266.front 1 rfl
    have S268 := S267.keep 2
    exact ⟨.inr rfl, _, res1 rfl (rv_cell (vs := [.int .i64 a1_0, .slice p_a1_1 a1_1.length c_a1_1]) rfl Try.isAgg37 Try.sizeOf37 rfl (row_cells (S262.get (k := 4) rfl))), p_a1_1, c_a1_1, F136, rfl, S268, (q_a1_1.mono hF137), ((Pin.refl F).mono hF137)⟩
  ·have hd269 := bif_f c186 hd185
   refine AX.seq ?_
   refine AX.region ?_
   refine AO.p rfl (p_eql rfl rfl) ?_
   refine AO.p rfl (p_assign rfl) ?_
   refine AO.nil ?_
   refine AX.cond rfl (fun c270 => ?_) (fun c270 => ?_)
   ·have hd271 := bif_t c270 hd269
    obtain ⟨r399, hl400, hd401⟩ := bnd_some hd271
    refine AX.cut (fun t' H' => ∃ (rs398 : List (List Int)) (p396 : Option Addr) (c397 : Nat), rs398 = r399 ∧ St M0 H H' [F136, [(i_n0, AObj.row false ([.slice p_n0_0 n0_0.length c_n0_0, .int .i64 x132, .int .u64 x133]))], [(i105, AObj.row false ([.int .i64 0, .slice none 0 0]))], [(i122, AObj.row false ([.int .i64 x108, .slice p396 rs398.length c397]))], oseg p396 (ints rs398.flatten)] ∧ Pin F136 F ∧ PV F136 p_n0_0 c_n0_0 n0_0 ∧ All 14 rs398 ∧ Sb p396 (rs398.length) c397 14 ∧ Am.Sub [(4, .pointer (some ⟨i105, 0, none⟩)), (5, .pointer (some ⟨i122, 0, none⟩))] t') ?_ ?_
    ·refine AX.block ?_
     refine AX.loopF (fun s' t' H' => ∃ (rs361 : List (List Int)) (p359 : Option Addr) (c360 : Nat), rs361 = s' ∧ St M0 H H' [F136, [(i_n0, AObj.row false ([.slice p_n0_0 n0_0.length c_n0_0, .int .i64 x132, .int .u64 x133]))], [(i101, AObj.row false ([.int .i64 a1_0, .slice p_a1_1 a1_1.length c_a1_1]))], [(i105, AObj.row false ([.int .i64 0, .slice none 0 0]))], [(i122, AObj.row false ([.int .i64 x108, .slice p359 rs361.length c360]))], oseg p359 (ints rs361.flatten)] ∧ Pin F136 F ∧ PV F136 p_n0_0 c_n0_0 n0_0 ∧ PW F136 p_a1_1 c_a1_1 14 a1_1 ∧ All 14 rs361 ∧ Sb p359 (rs361.length) c360 14 ∧ Am.Sub [(3, .pointer (some ⟨i101, 0, none⟩)), (4, .pointer (some ⟨i105, 0, none⟩)), (5, .pointer (some ⟨i122, 0, none⟩))] t') hl400 ?_ ?_
     ·skip
      have S402 := S141.front 3 rfl
      have S403 := S402.front 3 rfl
      have S404 := S403.front 4 rfl
      have S405 := S404.front 5 rfl
      have S406 := S405.front 4 rfl
      have S407 := S406.front 5 rfl
      exact ⟨rs109, p112, c113, rfl, S407, ((Pin.refl F).mono hF137), (q_n0_0.mono hF137), (q_a1_1.mono hF137), a116, B115, Sub.cons' rfl rfl (Sub.cons' rfl rfl (Sub.cons' rfl rfl (Sub.nil _)))⟩
     ·rintro n408 _ t' G412 ⟨rs361, p359, c360, rfl, S411, hF349, hv352, hv355, ars361, Bo358, hsub413⟩ o414 ho409 hk410
      refine AX.sub hsub413 ?_
      unfold D_spec_l01Bad_s0 at ho409
      refine AX.seq ?_
      refine AX.seq ?_
      refine AX.region ?_
      refine AO.p rfl (s_fieldAddr Try.underlying37 rfl Try.sizeOf35 (by decide) rfl rfl) ?_
      refine AO.c rfl (s_load Try.isAgg35 rfl (row_cell (S411.get (k := 4) rfl) rfl)) ?_
      refine AO.p rfl (p_len_slice rfl Try.underlying35) ?_
      refine AO.p rfl (p_leq rfl rfl) ?_
      refine AO.nil ?_
      refine AX.cond rfl (fun c415 => ?_) (fun c415 => ?_)
      ·have hd416 := bif_t c415 ho409
       refine AX.skip ?_
       refine AX.block ?_
       refine DR.startS [false, false, false, false, true, false, true, false, true] mix (by kernel_rfl) (fun hst => ?_)
       refine DR.p rfl rfl (s_fieldAddr Try.underlying37 rfl Try.sizeOf35 (by decide) rfl rfl) ?_
       refine DR.r rfl rfl (r_load rfl Try.isAgg35) (one_read (row_cell (S411.get (k := 4) rfl) rfl) (S411.oin (k := 5) rfl Bo358).bel) ?_
       refine DR.p rfl rfl (s_fieldAddr Try.underlying37 rfl Try.sizeOf2 (by decide) rfl rfl) ?_
       refine DR.r rfl rfl (r_load rfl Try.isAgg2) (one_read (row_cell (S411.get (k := 2) rfl) rfl) (.of_flat0 rfl)) ?_
       obtain ⟨xs417, h418, hd419⟩ := bnd_some hd416
       obtain ⟨hc421, l422⟩ := W_spec_l01Free fu G412 a1_0 xs417 h418
       refine DR.w rfl rfl (o_call (vs := [.int .i64 a1_0]) rfl Try.call108 hc421) (Nat.le_refl _) ?_
       obtain ⟨G423, i424, hii424, hHG423, S425⟩ := S411.new (AObj.row false (ints [xs417].flatten))
       refine DR.a rfl rfl hii424 hHG423 (a_build1 (r := xs417) (zr := List.replicate 14 0) Try.underlying35 Try.sizeOf54 Try.zeroValue54 rfl rfl (by decide) (by decide) rfl l422) ?_
       obtain ⟨k427, hd428⟩ := chk_some hd419
       obtain ⟨p429, c430, G431, haG431, S432, Bp429⟩ := S425.app (k := 6) rfl Bo358 (ints [xs417].flatten) 1 (flat_len1 (all_one l422) rfl)
       have S433 := S432.cellsEq (k := 6) (us' := ints (rs361 ++ [xs417]).flatten) (intsf_app _ _) rfl
       have BS433 : Sb p429 ((rs361 ++ [xs417]).length) c430 14 := (show rs361.length + 1 = (rs361 ++ [xs417]).length from len_app (a := rs361) (b := [xs417]) rfl rfl) ▸ Bp429
       have S434 := S433.drop 0 rfl
       refine DR.w rfl rfl (s_app (by_ := 112) (us := ints rs361.flatten) (vs := ints [xs417].flatten) Try.underlying35 Try.underlying35 Try.typeInfo54 Try.sizeOf54 Try.zeroValue54 rfl rfl rfl rfl rfl rfl rfl (S425.buf (k := 6) rfl Bo358 (flat_len1 ars361 rfl)) (S425.oview (k := 0) rfl (Sb.lit (n := 1) (by decide)) (flat_len1 (all_one l422) rfl)) (flat_len1 (all_one l422) rfl) ints_one k427 haG431 (show rs361.length + 1 = (rs361 ++ [xs417]).length from len_app (a := rs361) (b := [xs417]) rfl rfl)) (appR_len haG431) ?_
       refine DR.p rfl rfl (s_fieldAddr Try.underlying37 rfl Try.sizeOf35 (by decide) rfl rfl) ?_
       obtain ⟨G435, hHG435, S436⟩ := S434.set (k := 4) (i := i122) rfl (AObj.row false ([.int .i64 x108, .slice p429 ((rs361 ++ [xs417]).length) c430]))
       have S437 : St M0 H G435 [F136, [(i_n0, AObj.row false ([.slice p_n0_0 n0_0.length c_n0_0, .int .i64 x132, .int .u64 x133]))], [(i101, AObj.row false ([.int .i64 a1_0, .slice p_a1_1 a1_1.length c_a1_1]))], [(i105, AObj.row false ([.int .i64 0, .slice none 0 0]))], [(i122, AObj.row false ([.int .i64 x108, .slice p429 ((rs361 ++ [xs417]).length) c430]))], oseg p429 (ints (rs361 ++ [xs417]).flatten)] := S436
       refine DR.s rfl (s_store Try.sizeOf35 rfl rfl rfl (S434.get (k := 4) rfl) (Nat.le_of_ble_eq_true rfl) hHG435) (set_le hHG435) ?_
       refine DR.nil 9 [(1, 4)] hst (by kernel_rfl) ⟨(rd1 (fun _ => rfl)), trivial⟩ ?_
       obtain rfl := some_inj hd428
       have S439 := S437.front 5 rfl
       have S440 := S439.front 5 rfl
       have S441 := S440.front 5 rfl
       have S442 := S441.front 5 rfl
       have S443 := S442.front 5 rfl
       have S444 := S443.front 5 rfl
       exact ⟨(rs361 ++ [xs417]), hk410, (rs361 ++ [xs417]), p429, c430, rfl, S444, hF349, hv352, hv355, (all_app ars361 (all_one l422)), BS433, Sub.cons' rfl rfl (Sub.cons' rfl rfl (Sub.cons' rfl rfl (Sub.nil _)))⟩
      ·have hd445 := bif_f c415 ho409
       refine AX.exit ?_
       obtain rfl := some_inj hd445
       have S446 := S411.front 5 rfl
       have S447 := S446.front 5 rfl
       have S448 := S447.front 5 rfl
       have S449 := S448.front 4 rfl
       have S450 := S449.front 4 rfl
       have S451 := S450.keep 5
       exact ⟨rs361, p359, c360, hk410, S451, hF349, hv352, ars361, Bo358, Sub.cons' rfl rfl (Sub.cons' rfl rfl (Sub.nil _))⟩
    ·rintro t' G453 ⟨rs398, p396, c397, rfl, S452, hF389, hv392, ars398, Bo395, hsub454⟩
     refine AX.sub hsub454 ?_
     refine AX.seq ?_
     refine AX.region ?_
     refine AO.c rfl (s_loadN (vs := [.int .i64 x108, .slice p396 rs398.length c397]) Try.isAgg37 Try.sizeOf37 rfl rfl (row_cells (S452.get (k := 3) rfl))) ?_
     obtain ⟨G455, hHG455, S456⟩ := S452.set (k := 2) (i := i105) rfl (AObj.row false ([.int .i64 x108, .slice p396 rs398.length c397]))
     have S457 : St M0 H G455 [F136, [(i_n0, AObj.row false ([.slice p_n0_0 n0_0.length c_n0_0, .int .i64 x132, .int .u64 x133]))], [(i105, AObj.row false ([.int .i64 x108, .slice p396 rs398.length c397]))], [(i122, AObj.row false ([.int .i64 x108, .slice p396 rs398.length c397]))], oseg p396 (ints rs398.flatten)] := S456
     refine AO.s (s_storeAll (vs := [.int .i64 x108, .slice p396 rs398.length c397]) Try.sizeOf37 rfl rfl (ones_list rfl) (S452.get (k := 2) rfl) rfl rfl hHG455) ?_
     refine AO.nil ?_
     refine AX.ret ?_
     have S458 := S457.front 0 rfl
     have S459 := S458.front 4 rfl
     have S460 : St M0 H G455 [oseg p396 (ints rs398.flatten), F136, [(i_n0, AObj.row false ([.slice p_n0_0 n0_0.length c_n0_0, .int .i64 x132, .int .u64 x133]))], [(i105, AObj.row false ([.int .i64 x108, .slice p396 rs398.length c397]))], [(i122, AObj.row false ([.int .i64 x108, .slice p396 rs398.length c397]))]] := S459
     obtain ⟨F461, hF462, hp463, S464⟩ := S460.poolW (rs := rs398) Bo395 rfl ars398
     obtain ⟨rfl, z466⟩ := Prod.mk.inj (some_inj hd401)
     obtain ⟨rfl, z467⟩ := Prod.mk.inj z466
     obtain ⟨rfl, rfl⟩ := Prod.mk.inj z467
     have S469 := S464.front 0 rfl
     have S470 := S469.front 1 rfl
     have S471 := S470.keep 2
     exact ⟨.inr rfl, _, res1 rfl (rv_cell (vs := [.int .i64 x108, .slice p396 rs398.length c397]) rfl Try.isAgg37 Try.sizeOf37 rfl (row_cells (S457.get (k := 2) rfl))), p396, c397, F461, rfl, S471, hp463, (hF389.mono hF462)⟩
   ·have hd472 := bif_f c270 hd269
    refine AX.skip ?_
    refine AX.seq ?_
    refine AX.region ?_
    refine AO.c rfl (s_loadN (vs := [.int .i64 a1_0, .slice p_a1_1 a1_1.length c_a1_1]) Try.isAgg37 Try.sizeOf37 rfl rfl (row_cells (S141.get (k := 5) rfl))) ?_
    obtain ⟨G473, hHG473, S474⟩ := S141.set (k := 4) (i := i105) rfl (AObj.row false ([.int .i64 a1_0, .slice p_a1_1 a1_1.length c_a1_1]))
    have S475 : St M0 H G473 [[(i_n0, AObj.row false ([.slice p_n0_0 n0_0.length c_n0_0, .int .i64 x132, .int .u64 x133]))], F136, [(i122, AObj.row false ([.int .i64 x108, .slice p112 rs109.length c113]))], oseg p112 (ints rs109.flatten), [(i105, AObj.row false ([.int .i64 a1_0, .slice p_a1_1 a1_1.length c_a1_1]))], [(i101, AObj.row false ([.int .i64 a1_0, .slice p_a1_1 a1_1.length c_a1_1]))]] := S474
    refine AO.s (s_storeAll (vs := [.int .i64 a1_0, .slice p_a1_1 a1_1.length c_a1_1]) Try.sizeOf37 rfl rfl (ones_list rfl) (S141.get (k := 4) rfl) rfl rfl hHG473) ?_
    refine AO.nil ?_
    refine AX.ret ?_
    obtain ⟨rfl, z476⟩ := Prod.mk.inj (some_inj hd472)
    obtain ⟨rfl, z477⟩ := Prod.mk.inj z476
    obtain ⟨rfl, rfl⟩ := Prod.mk.inj z477
    have S479 := S475.front 1 rfl
    have S480 := S479.front 1 rfl
    have S481 := S480.keep 2
    exact ⟨.inr rfl, _, res1 rfl (rv_cell (vs := [.int .i64 a1_0, .slice p_a1_1 a1_1.length c_a1_1]) rfl Try.isAgg37 Try.sizeOf37 rfl (row_cells (S475.get (k := 4) rfl))), p_a1_1, c_a1_1, F136, rfl, S481, (q_a1_1.mono hF137), ((Pin.refl F).mono hF137)⟩

set_option maxHeartbeats 4000000 in
theorem W_spec_l01Spoil (fu : Nat) (H : AHeap) (F : Sg) (i_n0 : Nat) (p_n0_0 : Option Addr) (c_n0_0 : Nat) (n0_0 : List Int) (q_n0_0 : PV F p_n0_0 c_n0_0 n0_0) (n0_1 : Int) (n0_2 : Int) (hn : (([[(i_n0, AObj.row false ([.slice p_n0_0 n0_0.length c_n0_0, .int .i64 n0_1, .int .u64 n0_2]))], F] : List Sg).flatten.map (·.1)).Nodup) (ho : ∀ x ∈ ([[(i_n0, AObj.row false ([.slice p_n0_0 n0_0.length c_n0_0, .int .i64 n0_1, .int .u64 n0_2]))], F] : List Sg).flatten, x.1 < H.length ∧ hget H x.1 = x.2) (r0 : Int) (r1 : List (List Int)) (m_n0_1 : Int) (m_n0_2 : Int) (hd : D_spec_l01Spoil fu n0_0 n0_1 n0_2 = some (r0, r1, m_n0_1, m_n0_2)) : ∃ v G', ACall Try.prog 104 [.pointer (some ⟨i_n0, 0, none⟩)] H v G' ∧ ∃ (p_r1 : Option Addr) (c_r1 : Nat) (F' : Sg), (v = .agg [.int .i64 r0, .slice p_r1 r1.length c_r1].toArray) ∧ St (([[(i_n0, AObj.row false ([.slice p_n0_0 n0_0.length c_n0_0, .int .i64 n0_1, .int .u64 n0_2]))], F] : List Sg).flatten.map (·.1)) H G' [[(i_n0, AObj.row false ([.slice p_n0_0 n0_0.length c_n0_0, .int .i64 m_n0_1, .int .u64 m_n0_2]))], F'] ∧ PW F' p_r1 c_r1 14 r1 ∧ Pin F' F := by
 refine ACall.bodyX (args := [.pointer (some ⟨i_n0, 0, none⟩)]) (N := 7) [(0, .pointer (some ⟨i_n0, 0, none⟩))] (fun v G' => ∃ (p_r1 : Option Addr) (c_r1 : Nat) (F' : Sg), (v = .agg [.int .i64 r0, .slice p_r1 r1.length c_r1].toArray) ∧ St (([[(i_n0, AObj.row false ([.slice p_n0_0 n0_0.length c_n0_0, .int .i64 n0_1, .int .u64 n0_2]))], F] : List Sg).flatten.map (·.1)) H G' [[(i_n0, AObj.row false ([.slice p_n0_0 n0_0.length c_n0_0, .int .i64 m_n0_1, .int .u64 m_n0_2]))], F'] ∧ PW F' p_r1 c_r1 14 r1 ∧ Pin F' F) Try.func104 rfl rfl rfl rfl ?_
 unfold D_spec_l01Spoil at hd
 have S0 := St.initF hn ho
 generalize hM0 : (([[(i_n0, AObj.row false ([.slice p_n0_0 n0_0.length c_n0_0, .int .i64 n0_1, .int .u64 n0_2]))], F] : List Sg).flatten.map (·.1)) = M0 at S0 ⊢
 refine AX.seq ?_
 refine AX.region ?_
 obtain ⟨G100, i101, hii101, hHG100, S102⟩ := S0.new (AObj.row false ([.int .i64 0, .slice none 0 0]))
 refine AO.c rfl (s_alloc (i := i101) (cs := [.int .i64 0, .slice none 0 0]) Try.zeroValue37 rfl rfl hii101 hHG100) ?_
 refine AO.nil ?_
 refine AX.seq ?_
 refine AX.region ?_
 refine AO.p rfl (p_move rfl) ?_
 refine AO.p rfl (p_move rfl) ?_
 have S104 := S102.front 2 rfl
 have S105 := S104.front 2 rfl
 have S106 : St M0 H G100 [[(i_n0, AObj.row false ([.slice p_n0_0 n0_0.length c_n0_0, .int .i64 n0_1, .int .u64 n0_2]))], F, [(i101, AObj.row false ([.int .i64 0, .slice none 0 0]))]] := S105
 obtain ⟨⟨x107, rs108, x109, x110⟩, h111, hd112⟩ := bnd_some hd
 obtain ⟨_, G119, hc121, p114, c115, F113, rfl, S120, hv116, hF118⟩ := W_spec_l01Draw fu G100 F i_n0 p_n0_0 c_n0_0 n0_0 q_n0_0 n0_1 n0_2 (St.fnodup (A := [[(i_n0, AObj.row false ([.slice p_n0_0 n0_0.length c_n0_0, .int .i64 n0_1, .int .u64 n0_2]))], F]) S106) (St.fmem (A := [[(i_n0, AObj.row false ([.slice p_n0_0 n0_0.length c_n0_0, .int .i64 n0_1, .int .u64 n0_2]))], F]) S106) x107 rs108 x109 x110 h111
 have S122 := St.callM (A := [[(i_n0, AObj.row false ([.slice p_n0_0 n0_0.length c_n0_0, .int .i64 n0_1, .int .u64 n0_2]))], F]) S106 S120 (fun j h => h)
 refine AO.c rfl (o_call (vs := [.pointer (some ⟨i_n0, 0, none⟩)]) rfl Try.call145 hc121) ?_
 have S123 := S122.front 1 rfl
 have S124 := S123.front 1 rfl
 have S125 : St M0 H G119 [[(i_n0, AObj.row false ([.slice p_n0_0 n0_0.length c_n0_0, .int .i64 x109, .int .u64 x110]))], F113, [(i101, AObj.row false ([.int .i64 0, .slice none 0 0]))]] := S124
 obtain ⟨⟨x126, rs127, x128, x129⟩, h130, hd131⟩ := bnd_some hd112
 obtain ⟨_, G138, hc140, p133, c134, F132, rfl, S139, hv135, hF137⟩ := W_spec_l01Bad fu G119 F113 x107 p114 c115 rs108 hv116 i_n0 p_n0_0 c_n0_0 n0_0 (q_n0_0.mono hF118) x109 x110 (St.fnodup (A := [[(i_n0, AObj.row false ([.slice p_n0_0 n0_0.length c_n0_0, .int .i64 x109, .int .u64 x110]))], F113]) S125) (St.fmem (A := [[(i_n0, AObj.row false ([.slice p_n0_0 n0_0.length c_n0_0, .int .i64 x109, .int .u64 x110]))], F113]) S125) x126 rs127 x128 x129 h130
 have S141 := St.callM (A := [[(i_n0, AObj.row false ([.slice p_n0_0 n0_0.length c_n0_0, .int .i64 x109, .int .u64 x110]))], F113]) S125 S139 (fun j h => h)
 refine AO.c rfl (o_call (vs := [.pointer (some ⟨i_n0, 0, none⟩), .agg [.int .i64 x107, .slice p114 rs108.length c115].toArray]) rfl Try.call144 hc140) ?_
 obtain ⟨G142, hHG142, S143⟩ := S141.set (k := 2) (i := i101) rfl (AObj.row false ([.int .i64 x126, .slice p133 rs127.length c134]))
 have S144 : St M0 H G142 [[(i_n0, AObj.row false ([.slice p_n0_0 n0_0.length c_n0_0, .int .i64 x128, .int .u64 x129]))], F132, [(i101, AObj.row false ([.int .i64 x126, .slice p133 rs127.length c134]))]] := S143
 refine AO.s (s_storeAll (vs := [.int .i64 x126, .slice p133 rs127.length c134]) Try.sizeOf37 rfl rfl (ones_list rfl) (S141.get (k := 2) rfl) rfl rfl hHG142) ?_
 refine AO.nil ?_
 refine AX.ret ?_
 obtain ⟨rfl, z145⟩ := Prod.mk.inj (some_inj hd131)
 obtain ⟨rfl, z146⟩ := Prod.mk.inj z145
 obtain ⟨rfl, rfl⟩ := Prod.mk.inj z146
 have S148 := S144.front 1 rfl
 have S149 := S148.front 1 rfl
 have S150 := S149.keep 2
 exact ⟨.inr rfl, _, res1 rfl (rv_cell (vs := [.int .i64 x126, .slice p133 rs127.length c134]) rfl Try.isAgg37 Try.sizeOf37 rfl (row_cells (S144.get (k := 2) rfl))), p133, c134, F132, rfl, S150, hv135, (((Pin.refl F).mono hF118).mono hF137)⟩

set_option maxHeartbeats 4000000 in
theorem W_spec_DrawIsPerfect (fu : Nat) (H : AHeap) (F : Sg) (p_a0 : Option Addr) (c_a0 : Nat) (a0 : List Int) (q_a0 : PV F p_a0 c_a0 a0) (hn : (([F] : List Sg).flatten.map (·.1)).Nodup) (ho : ∀ x ∈ ([F] : List Sg).flatten, x.1 < H.length ∧ hget H x.1 = x.2) (r0 : Int) (r1 : List (List Int)) (hd : D_spec_DrawIsPerfect fu a0 = some (r0, r1)) : ∃ v G', ACall Try.prog 43 [.slice p_a0 a0.length c_a0] H v G' ∧ ∃ (p_r1 : Option Addr) (c_r1 : Nat) (F' : Sg), (v = .agg [.int .i64 r0, .slice p_r1 r1.length c_r1].toArray) ∧ St (([F] : List Sg).flatten.map (·.1)) H G' [F'] ∧ PW F' p_r1 c_r1 14 r1 ∧ Pin F' F := by
 refine ACall.bodyX (args := [.slice p_a0 a0.length c_a0]) (N := 15) [(0, .slice p_a0 a0.length c_a0)] (fun v G' => ∃ (p_r1 : Option Addr) (c_r1 : Nat) (F' : Sg), (v = .agg [.int .i64 r0, .slice p_r1 r1.length c_r1].toArray) ∧ St (([F] : List Sg).flatten.map (·.1)) H G' [F'] ∧ PW F' p_r1 c_r1 14 r1 ∧ Pin F' F) Try.func43 rfl rfl rfl rfl ?_
 unfold D_spec_DrawIsPerfect at hd
 have S0 := St.initF hn ho
 generalize hM0 : (([F] : List Sg).flatten.map (·.1)) = M0 at S0 ⊢
 refine AX.seq ?_
 refine AX.region ?_
 obtain ⟨G100, i101, hii101, hHG100, S102⟩ := S0.new (AObj.row false ([.int .i64 0, .slice none 0 0]))
 refine AO.c rfl (s_alloc (i := i101) (cs := [.int .i64 0, .slice none 0 0]) Try.zeroValue37 rfl rfl hii101 hHG100) ?_
 refine AO.nil ?_
 refine AX.seq ?_
 refine AX.region ?_
 refine AO.p rfl (p_move rfl) ?_
 have S104 := S102.front 1 rfl
 have S105 : St M0 H G100 [F, [(i101, AObj.row false ([.int .i64 0, .slice none 0 0]))]] := S104
 obtain ⟨⟨x106, x107⟩, h108, hd109⟩ := bnd_some hd
 obtain ⟨_, G114, hc116, i111, F110, rfl, S115, hF113⟩ := W_spec_l01From fu G100 F p_a0 c_a0 a0 q_a0 (St.fnodup (A := [F]) S105) (St.fmem (A := [F]) S105) x106 x107 h108
 have S117 := St.callM (A := [F]) S105 S115 (fun j h => h)
 refine AO.c rfl (o_call (vs := [.slice p_a0 a0.length c_a0]) rfl Try.call93 hc116) ?_
 refine AO.p rfl (p_assign rfl) ?_
 refine AO.nil ?_
 refine AX.seq ?_
 refine AX.seq ?_
 refine AX.region ?_
 refine AO.p rfl (p_move rfl) ?_
 have S118 := S117.front 1 rfl
 have S119 := S118.front 1 rfl
 have S120 : St M0 H G114 [[(i111, AObj.row false ([.slice p_a0 a0.length c_a0, .int .i64 x106, .int .u64 x107]))], F110, [(i101, AObj.row false ([.int .i64 0, .slice none 0 0]))]] := S119
 obtain ⟨⟨x121, x122, x123⟩, h124, hd125⟩ := bnd_some hd109
 obtain ⟨_, G128, hc130, F126, rfl, S129, hF127⟩ := W_spec_l01Next fu G114 F110 2 i111 p_a0 c_a0 a0 (q_a0.mono hF113) x106 x107 (St.fnodup (A := [[(i111, AObj.row false ([.slice p_a0 a0.length c_a0, .int .i64 x106, .int .u64 x107]))], F110]) S120) (St.fmem (A := [[(i111, AObj.row false ([.slice p_a0 a0.length c_a0, .int .i64 x106, .int .u64 x107]))], F110]) S120) x121 x122 x123 h124
 have S131 := St.callM (A := [[(i111, AObj.row false ([.slice p_a0 a0.length c_a0, .int .i64 x106, .int .u64 x107]))], F110]) S120 S129 (fun j h => h)
 refine AO.c rfl (o_call (vs := [.pointer (some ⟨i111, 0, none⟩), .int .i64 2]) rfl Try.call102 hc130) ?_
 refine AO.p rfl (p_eql rfl rfl) ?_
 refine AO.nil ?_
 refine AX.cond rfl (fun c132 => ?_) (fun c132 => ?_)
 ·have hd133 := bif_t c132 hd125
  refine AX.seq ?_
  refine AX.region ?_
  refine AO.p rfl (p_move rfl) ?_
  have S134 := S131.front 1 rfl
  have S135 := S134.front 1 rfl
  have S136 : St M0 H G128 [[(i111, AObj.row false ([.slice p_a0 a0.length c_a0, .int .i64 x122, .int .u64 x123]))], F126, [(i101, AObj.row false ([.int .i64 0, .slice none 0 0]))]] := S135
  obtain ⟨⟨x137, x138, x139⟩, h140, hd141⟩ := bnd_some hd133
  obtain ⟨_, G144, hc146, F142, rfl, S145, hF143⟩ := W_spec_l01Next fu G128 F126 13 i111 p_a0 c_a0 a0 ((q_a0.mono hF113).mono hF127) x122 x123 (St.fnodup (A := [[(i111, AObj.row false ([.slice p_a0 a0.length c_a0, .int .i64 x122, .int .u64 x123]))], F126]) S136) (St.fmem (A := [[(i111, AObj.row false ([.slice p_a0 a0.length c_a0, .int .i64 x122, .int .u64 x123]))], F126]) S136) x137 x138 x139 h140
  have S147 := St.callM (A := [[(i111, AObj.row false ([.slice p_a0 a0.length c_a0, .int .i64 x122, .int .u64 x123]))], F126]) S136 S145 (fun j h => h)
  refine AO.c rfl (o_call (vs := [.pointer (some ⟨i111, 0, none⟩), .int .i64 13]) rfl Try.call102 hc146) ?_
  obtain ⟨k148, hd149⟩ := chk_some hd141
  refine AO.p rfl (p_addE rfl rfl k148) ?_
  obtain ⟨⟨x150, rs151⟩, h152, hd153⟩ := bnd_some hd149
  obtain ⟨_, G160, hc159, p154, c155, rfl, S161, B157, a158⟩ := W_spec_l01Circle fu G144 (2 + x137) x150 rs151 h152
  have S162 := S147.call S161
  refine AO.c rfl (o_call (vs := [.int .i64 (2 + x137)]) rfl Try.call103 hc159) ?_
  obtain ⟨G163, hHG163, S164⟩ := S162.set (k := 3) (i := i101) rfl (AObj.row false ([.int .i64 x150, .slice p154 rs151.length c155]))
  have S165 : St M0 H G163 [oseg p154 (ints rs151.flatten), [(i111, AObj.row false ([.slice p_a0 a0.length c_a0, .int .i64 x138, .int .u64 x139]))], F142, [(i101, AObj.row false ([.int .i64 x150, .slice p154 rs151.length c155]))]] := S164
  refine AO.s (s_storeAll (vs := [.int .i64 x150, .slice p154 rs151.length c155]) Try.sizeOf37 rfl rfl (ones_list rfl) (S162.get (k := 3) rfl) rfl rfl hHG163) ?_
  refine AO.nil ?_
  refine AX.ret ?_
  have S166 := S165.front 2 rfl
  have S167 := S166.front 1 rfl
  have S168 : St M0 H G163 [oseg p154 (ints rs151.flatten), F142, [(i111, AObj.row false ([.slice p_a0 a0.length c_a0, .int .i64 x138, .int .u64 x139]))], [(i101, AObj.row false ([.int .i64 x150, .slice p154 rs151.length c155]))]] := S167
  obtain ⟨F169, hF170, hp171, S172⟩ := S168.poolW (rs := rs151) B157 rfl a158
  obtain ⟨rfl, rfl⟩ := Prod.mk.inj (some_inj hd153)
  have S175 := S172.front 0 rfl
  have S176 := S175.keep 1
  exact ⟨.inr rfl, _, res1 rfl (rv_cell (vs := [.int .i64 x150, .slice p154 rs151.length c155]) rfl Try.isAgg37 Try.sizeOf37 rfl (row_cells (S165.get (k := 3) rfl))), p154, c155, F169, rfl, S176, hp171, (((((Pin.refl F).mono hF113).mono hF127).mono hF143).mono hF170)⟩
 ·have hd177 := bif_f c132 hd125
  refine AX.skip ?_
  refine AX.seq ?_
  refine AX.region ?_
  refine AO.p rfl (p_move rfl) ?_
  have S178 := S131.front 1 rfl
  have S179 := S178.front 1 rfl
  have S180 : St M0 H G128 [[(i111, AObj.row false ([.slice p_a0 a0.length c_a0, .int .i64 x122, .int .u64 x123]))], F126, [(i101, AObj.row false ([.int .i64 0, .slice none 0 0]))]] := S179
  obtain ⟨⟨x181, rs182, x183, x184⟩, h185, hd186⟩ := bnd_some hd177
  obtain ⟨_, G193, hc195, p188, c189, F187, rfl, S194, hv190, hF192⟩ := W_spec_l01Spoil fu G128 F126 i111 p_a0 c_a0 a0 ((q_a0.mono hF113).mono hF127) x122 x123 (St.fnodup (A := [[(i111, AObj.row false ([.slice p_a0 a0.length c_a0, .int .i64 x122, .int .u64 x123]))], F126]) S180) (St.fmem (A := [[(i111, AObj.row false ([.slice p_a0 a0.length c_a0, .int .i64 x122, .int .u64 x123]))], F126]) S180) x181 rs182 x183 x184 h185
  have S196 := St.callM (A := [[(i111, AObj.row false ([.slice p_a0 a0.length c_a0, .int .i64 x122, .int .u64 x123]))], F126]) S180 S194 (fun j h => h)
  refine AO.c rfl (o_call (vs := [.pointer (some ⟨i111, 0, none⟩)]) rfl Try.call104 hc195) ?_
  obtain ⟨G197, hHG197, S198⟩ := S196.set (k := 2) (i := i101) rfl (AObj.row false ([.int .i64 x181, .slice p188 rs182.length c189]))
  have S199 : St M0 H G197 [[(i111, AObj.row false ([.slice p_a0 a0.length c_a0, .int .i64 x183, .int .u64 x184]))], F187, [(i101, AObj.row false ([.int .i64 x181, .slice p188 rs182.length c189]))]] := S198
  refine AO.s (s_storeAll (vs := [.int .i64 x181, .slice p188 rs182.length c189]) Try.sizeOf37 rfl rfl (ones_list rfl) (S196.get (k := 2) rfl) rfl rfl hHG197) ?_
  refine AO.nil ?_
  refine AX.ret ?_
  obtain ⟨rfl, rfl⟩ := Prod.mk.inj (some_inj hd186)
  have S201 := S199.front 1 rfl
  have S202 := S201.keep 1
  exact ⟨.inr rfl, _, res1 rfl (rv_cell (vs := [.int .i64 x181, .slice p188 rs182.length c189]) rfl Try.isAgg37 Try.sizeOf37 rfl (row_cells (S199.get (k := 2) rfl))), p188, c189, F187, rfl, S202, hv190, ((((Pin.refl F).mono hF113).mono hF127).mono hF192)⟩

end Go.Proofs.Ytdafmafigcljkaa
