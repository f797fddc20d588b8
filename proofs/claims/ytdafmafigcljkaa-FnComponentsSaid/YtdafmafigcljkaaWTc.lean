/-
 The program computes that, printed by a program. No condition.
-/
import Derived.Test.YtdafmafigcljkaaDTc
import Derived.Test.YtdafmafigcljkaaWTb
import Derived.Test.YtdafmafigcljkaaProg
import Derived.KernelRfl
namespace Go.Proofs.Ytdafmafigcljkaa
open Go Go.RowKit Am
set_option linter.unusedVariables false
set_option linter.unusedSimpArgs false
set_option maxRecDepth 20000
set_option maxHeartbeats 4000000 in
theorem W_spec_ComponentsOf (fu : Nat) (H : AHeap) (a0 : Int) (a1 : List Int) (h_a1 : a1.length = 14) (a2 : List Int) (h_a2 : a2.length = 14) (r0 : List (List Int)) (r1 : Int) (hd : D_spec_ComponentsOf fu a0 a1 a2 = some (r0, r1)) : ∃ v G', ACall Try.prog 36 [.int .i64 a0, .agg (ints a1).toArray, .agg (ints a2).toArray] H v G' ∧ ∃ (p_r0 : Option Addr) (c_r0 : Nat) (T_r0 : Tb), (v = .tuple #[.slice p_r0 r0.length c_r0, .int .i64 r1]) ∧ St [] H G' [oseg p_r0 (tcells T_r0), tseg T_r0] ∧ Sb p_r0 r0.length c_r0 1 ∧ trows T_r0 = r0 ∧ TSb T_r0 := by
 refine ACall.bodyX (args := [.int .i64 a0, .agg (ints a1).toArray, .agg (ints a2).toArray]) (N := 21) [(0, .int .i64 a0), (1, .agg (ints a1).toArray), (2, .agg (ints a2).toArray)] (fun v G' => ∃ (p_r0 : Option Addr) (c_r0 : Nat) (T_r0 : Tb), (v = .tuple #[.slice p_r0 r0.length c_r0, .int .i64 r1]) ∧ St [] H G' [oseg p_r0 (tcells T_r0), tseg T_r0] ∧ Sb p_r0 r0.length c_r0 1 ∧ trows T_r0 = r0 ∧ TSb T_r0) Try.func36 rfl rfl rfl rfl ?_
 unfold D_spec_ComponentsOf at hd
 have S0 : St [] H H [] := St.nil H
 refine AX.seq ?_
 refine AX.region ?_
 obtain ⟨G100, i101, hii101, hHG100, S102⟩ := S0.new (AObj.row false (ints a1))
 refine AO.c rfl (s_box (i := i101) (cs := ints a1) rfl hii101 rfl hHG100) ?_
 obtain ⟨G104, i105, hii105, hHG104, S106⟩ := S102.new (AObj.row false (ints a2))
 refine AO.c rfl (s_box (i := i105) (cs := ints a2) rfl hii105 rfl hHG104) ?_
 refine AO.p rfl (p_assign rfl) ?_
 refine AO.p rfl (p_assign rfl) ?_
 refine AO.nil ?_
 refine AX.seq ?_
 refine AX.seq ?_
 refine AX.region ?_
 refine AO.p rfl (p_move rfl) ?_
 refine AO.c rfl (s_loadN (vs := ints a1) Try.isAgg54 Try.sizeOf54 rfl (ints_len h_a1) (row_cells (S106.get (k := 1) rfl))) ?_
 refine AO.c rfl (s_loadN (vs := ints a2) Try.isAgg54 Try.sizeOf54 rfl (ints_len h_a2) (row_cells (S106.get (k := 0) rfl))) ?_
 obtain ⟨G108, i109, hii109, hHG108, S110⟩ := S106.new (AObj.row false (ints [a1, a2].flatten))
 refine AO.c rfl (s_build2 (i := i109) (r := a1) (q := a2) (zr := List.replicate 14 0) Try.underlying35 Try.sizeOf54 Try.zeroValue54 rfl rfl (by decide) (by decide) rfl rfl h_a1 h_a2 hii109 hHG108) ?_
 obtain ⟨x112, h113, hd114⟩ := bnd_some hd
 refine AO.c rfl (o_call (vs := [.int .i64 a0, .slice (some (Addr.mk i109 0 none)) 2 2]) rfl Try.call98 (by have h' := W_spec_l02Rounds fu G108 a0 (some (Addr.mk i109 0 none)) 2 [a1, a2] (all_two h_a1 h_a2) (by rw [show List.length [a1, a2] = 2 from rfl]; exact (S110.oview (k := 0) rfl (Sb.lit (n := 2) (by decide)) (flat_len1 (all_two h_a1 h_a2) rfl))) x112 h113; rw [show List.length [a1, a2] = 2 from rfl] at h'; exact h')) ?_
 refine AO.p rfl (p_assign rfl) ?_
 refine AO.nil ?_
 refine AX.seq ?_
 refine AX.region ?_
 refine AO.p rfl (p_move rfl) ?_
 refine AO.p rfl (p_neq rfl rfl) ?_
 refine AO.nil ?_
 refine AX.cond rfl (fun c116 => ?_) (fun c116 => ?_)
 ·have hd117 := bif_t c116 hd114
  refine AX.seq ?_
  refine AX.region ?_
  refine AO.p rfl (p_move rfl) ?_
  refine AO.p rfl (p_assign rfl) ?_
  refine AO.p rfl (p_assign rfl) ?_
  refine AO.nil ?_
  refine AX.ret ?_
  obtain ⟨rfl, rfl⟩ := Prod.mk.inj (some_inj hd117)
  have S119 : St [] H G108 (tseg [] :: _) := S110.nilseg 0
  have S120 : St [] H G108 (oseg none (tcells []) :: _) := S119.nilseg 0
  have S121 := S120.keep 2
  exact ⟨.inr rfl, _, res2 rfl (rv_tmp rfl) (rv_tmp rfl), none, 0, [], rfl, S121, Sb.nil, rfl, TSb.nil⟩
 ·have hd122 := bif_f c116 hd114
  refine AX.skip ?_
  refine AX.seq ?_
  refine AX.region ?_
  refine AO.p rfl (p_move rfl) ?_
  refine AO.c rfl (s_loadN (vs := ints a1) Try.isAgg54 Try.sizeOf54 rfl (ints_len h_a1) (row_cells (S110.get (k := 2) rfl))) ?_
  refine AO.c rfl (s_loadN (vs := ints a2) Try.isAgg54 Try.sizeOf54 rfl (ints_len h_a2) (row_cells (S110.get (k := 1) rfl))) ?_
  obtain ⟨rs123, h124, hd125⟩ := bnd_some hd122
  obtain ⟨_, G134, hc133, p126, c127, T130, rfl, S135, B129, t131, s132⟩ := W_spec_l02Components fu G108 a0 a1 h_a1 a2 h_a2 rs123 h124
  have S136 := S110.call S135
  refine AO.c rfl (o_call (vs := [.int .i64 a0, .agg (ints a1).toArray, .agg (ints a2).toArray]) rfl Try.call99 hc133) ?_
  refine AO.p rfl (p_assign rfl) ?_
  refine AO.p rfl (p_assign rfl) ?_
  refine AO.nil ?_
  refine AX.ret ?_
  obtain ⟨rfl, rfl⟩ := Prod.mk.inj (some_inj hd125)
  have S138 := S136.front 1 rfl
  have S139 := S138.front 1 rfl
  have S140 := S139.keep 2
  exact ⟨.inr rfl, _, res2 rfl (rv_tmp rfl) (rv_tmp rfl), p126, c127, T130, rfl, S140, B129, t131, s132⟩

set_option maxHeartbeats 4000000 in
theorem W_impl_ComponentsOf (fu : Nat) (H : AHeap) (a0 : Int) (a1 : List Int) (h_a1 : a1.length = 14) (a2 : List Int) (h_a2 : a2.length = 14) (r0 : List (List Int)) (r1 : Int) (hd : D_impl_ComponentsOf fu a0 a1 a2 = some (r0, r1)) : ∃ v G', ACall Try.prog 35 [.int .i64 a0, .agg (ints a1).toArray, .agg (ints a2).toArray] H v G' ∧ ∃ (p_r0 : Option Addr) (c_r0 : Nat) (T_r0 : Tb), (v = .tuple #[.slice p_r0 r0.length c_r0, .int .i64 r1]) ∧ St [] H G' [oseg p_r0 (tcells T_r0), tseg T_r0] ∧ Sb p_r0 r0.length c_r0 1 ∧ trows T_r0 = r0 ∧ TSb T_r0 := by
 refine ACall.bodyX (args := [.int .i64 a0, .agg (ints a1).toArray, .agg (ints a2).toArray]) (N := 20) [(0, .int .i64 a0), (1, .agg (ints a1).toArray), (2, .agg (ints a2).toArray)] (fun v G' => ∃ (p_r0 : Option Addr) (c_r0 : Nat) (T_r0 : Tb), (v = .tuple #[.slice p_r0 r0.length c_r0, .int .i64 r1]) ∧ St [] H G' [oseg p_r0 (tcells T_r0), tseg T_r0] ∧ Sb p_r0 r0.length c_r0 1 ∧ trows T_r0 = r0 ∧ TSb T_r0) Try.func35 rfl rfl rfl rfl ?_
 unfold D_impl_ComponentsOf at hd
 have S0 : St [] H H [] := St.nil H
 refine AX.seq ?_
 refine AX.region ?_
 obtain ⟨G100, i101, hii101, hHG100, S102⟩ := S0.new (AObj.row false (ints a1))
 refine AO.c rfl (s_box (i := i101) (cs := ints a1) rfl hii101 rfl hHG100) ?_
 obtain ⟨G104, i105, hii105, hHG104, S106⟩ := S102.new (AObj.row false (ints a2))
 refine AO.c rfl (s_box (i := i105) (cs := ints a2) rfl hii105 rfl hHG104) ?_
 refine AO.p rfl (p_assign rfl) ?_
 refine AO.p rfl (p_assign rfl) ?_
 refine AO.nil ?_
 refine AX.seq ?_
 refine AX.seq ?_
 refine AX.region ?_
 refine AO.p rfl (p_move rfl) ?_
 refine AO.c rfl (s_loadN (vs := ints a1) Try.isAgg54 Try.sizeOf54 rfl (ints_len h_a1) (row_cells (S106.get (k := 1) rfl))) ?_
 refine AO.c rfl (s_loadN (vs := ints a2) Try.isAgg54 Try.sizeOf54 rfl (ints_len h_a2) (row_cells (S106.get (k := 0) rfl))) ?_
 obtain ⟨x108, h109, hd110⟩ := bnd_some hd
 refine AO.c rfl (o_call (vs := [.int .i64 a0, .agg (ints a1).toArray, .agg (ints a2).toArray]) rfl Try.call96 (W_impl_twoCode fu G104 a0 a1 h_a1 a2 h_a2 x108 h109)) ?_
 refine AO.p rfl (p_assign rfl) ?_
 refine AO.nil ?_
 refine AX.seq ?_
 refine AX.region ?_
 refine AO.p rfl (p_move rfl) ?_
 refine AO.p rfl (p_neq rfl rfl) ?_
 refine AO.nil ?_
 refine AX.cond rfl (fun c112 => ?_) (fun c112 => ?_)
 ·have hd113 := bif_t c112 hd110
  refine AX.seq ?_
  refine AX.region ?_
  refine AO.p rfl (p_move rfl) ?_
  refine AO.p rfl (p_assign rfl) ?_
  refine AO.p rfl (p_assign rfl) ?_
  refine AO.nil ?_
  refine AX.ret ?_
  obtain ⟨rfl, rfl⟩ := Prod.mk.inj (some_inj hd113)
  have S115 : St [] H G104 (tseg [] :: _) := S106.nilseg 0
  have S116 : St [] H G104 (oseg none (tcells []) :: _) := S115.nilseg 0
  have S117 := S116.keep 2
  exact ⟨.inr rfl, _, res2 rfl (rv_tmp rfl) (rv_tmp rfl), none, 0, [], rfl, S117, Sb.nil, rfl, TSb.nil⟩
 ·have hd118 := bif_f c112 hd110
  refine AX.skip ?_
  refine AX.seq ?_
  refine AX.region ?_
  refine AO.p rfl (p_move rfl) ?_
  refine AO.c rfl (s_loadN (vs := ints a1) Try.isAgg54 Try.sizeOf54 rfl (ints_len h_a1) (row_cells (S106.get (k := 1) rfl))) ?_
  refine AO.c rfl (s_loadN (vs := ints a2) Try.isAgg54 Try.sizeOf54 rfl (ints_len h_a2) (row_cells (S106.get (k := 0) rfl))) ?_
  obtain ⟨rs119, h120, hd121⟩ := bnd_some hd118
  obtain ⟨_, G130, hc129, p122, c123, T126, rfl, S131, B125, t127, s128⟩ := W_impl_components fu G104 a0 a1 h_a1 a2 h_a2 rs119 h120
  have S132 := S106.call S131
  refine AO.c rfl (o_call (vs := [.int .i64 a0, .agg (ints a1).toArray, .agg (ints a2).toArray]) rfl Try.call97 hc129) ?_
  refine AO.p rfl (p_assign rfl) ?_
  refine AO.p rfl (p_assign rfl) ?_
  refine AO.nil ?_
  refine AX.ret ?_
  obtain ⟨rfl, rfl⟩ := Prod.mk.inj (some_inj hd121)
  have S134 := S132.front 1 rfl
  have S135 := S134.front 1 rfl
  have S136 := S135.keep 2
  exact ⟨.inr rfl, _, res2 rfl (rv_tmp rfl) (rv_tmp rfl), p122, c123, T126, rfl, S136, B125, t127, s128⟩

set_option maxHeartbeats 4000000 in
theorem W_spec_l02Type (fu : Nat) (H : AHeap) (a0 : Int) (a1 : List Int) (h_a1 : a1.length = 14) (a2 : List Int) (h_a2 : a2.length = 14) (r0 : List Int) (hd : D_spec_l02Type fu a0 a1 a2 = some r0) : ∃ v G', ACall Try.prog 101 [.int .i64 a0, .agg (ints a1).toArray, .agg (ints a2).toArray] H v G' ∧ ∃ (p_r0 : Option Addr) (c_r0 : Nat), (v = .slice p_r0 r0.length c_r0) ∧ St [] H G' [oseg p_r0 (ints r0)] ∧ Sb p_r0 r0.length c_r0 1 := by
 refine ACall.bodyX (args := [.int .i64 a0, .agg (ints a1).toArray, .agg (ints a2).toArray]) (N := 49) [(0, .int .i64 a0), (1, .agg (ints a1).toArray), (2, .agg (ints a2).toArray)] (fun v G' => ∃ (p_r0 : Option Addr) (c_r0 : Nat), (v = .slice p_r0 r0.length c_r0) ∧ St [] H G' [oseg p_r0 (ints r0)] ∧ Sb p_r0 r0.length c_r0 1) Try.func101 rfl rfl rfl rfl ?_
 unfold D_spec_l02Type at hd
 have S0 : St [] H H [] := St.nil H
 refine AX.seq ?_
 refine AX.region ?_
 obtain ⟨G100, i101, hii101, hHG100, S102⟩ := S0.new (AObj.row false (ints a1))
 refine AO.c rfl (s_box (i := i101) (cs := ints a1) rfl hii101 rfl hHG100) ?_
 obtain ⟨G104, i105, hii105, hHG104, S106⟩ := S102.new (AObj.row false (ints a2))
 refine AO.c rfl (s_box (i := i105) (cs := ints a2) rfl hii105 rfl hHG104) ?_
 refine AO.p rfl (p_assign rfl) ?_
 refine AO.nil ?_
 refine AX.seq ?_
 refine AX.region ?_
 refine AO.p rfl (p_move rfl) ?_
 refine AO.c rfl (s_loadN (vs := ints a1) Try.isAgg54 Try.sizeOf54 rfl (ints_len h_a1) (row_cells (S106.get (k := 1) rfl))) ?_
 refine AO.c rfl (s_loadN (vs := ints a2) Try.isAgg54 Try.sizeOf54 rfl (ints_len h_a2) (row_cells (S106.get (k := 0) rfl))) ?_
 obtain ⟨rs108, h109, hd110⟩ := bnd_some hd
 obtain ⟨_, G119, hc118, p111, c112, T115, rfl, S120, B114, t116, s117⟩ := W_spec_l02Components fu G104 a0 a1 h_a1 a2 h_a2 rs108 h109
 have S121 := S106.call S120
 refine AO.c rfl (o_call (vs := [.int .i64 a0, .agg (ints a1).toArray, .agg (ints a2).toArray]) rfl Try.call99 hc118) ?_
 obtain ⟨G122, i123, hii123, hHG122, S124⟩ := S121.new (AObj.row false (ints []))
 refine AO.c rfl (s_build0 (i := i123) Try.underlying58 Try.sizeOf2 hii123 hHG122) ?_
 refine AO.p rfl (p_assign rfl) ?_
 refine AO.p rfl (p_assign rfl) ?_
 refine AO.nil ?_
 refine AX.seq ?_
 refine AX.seq ?_
 refine AX.region ?_
 refine AO.p rfl (p_assign rfl) ?_
 refine AO.nil ?_
 obtain ⟨r222, hl223, hd224⟩ := bnd_some hd110
 refine AX.cutS (fun t' H' => ∃ (xs221 : List Int) (p219 : Option Addr) (c220 : Nat), xs221 = r222 ∧ St [] H H' [oseg p219 (ints xs221)] ∧ Sb p219 (xs221.length) c220 1 ∧ Am.Sub [(8, .slice p219 xs221.length c220)] t') ?_ ?_
 ·refine AX.block ?_
  refine AX.loopF (fun s' t' H' => ∃ (xs190 : List Int) (x191 : Int) (p188 : Option Addr) (c189 : Nat), (xs190, x191) = s' ∧ St [] H H' [oseg p111 (tcells T115), tseg T115, oseg p188 (ints xs190)] ∧ Sb p188 (xs190.length) c189 1 ∧ Am.Sub [(7, .slice p111 rs108.length c112), (8, .slice p188 xs190.length c189), (9, .int .i64 x191)] t') hl223 ?_ ?_
  ·skip
   have S225 := S124.front 0 rfl
   have S226 := S225.front 2 rfl
   have S227 := S226.front 2 rfl
   have S228 := S227.keep 3
   exact ⟨[], 0, (some (Addr.mk i123 0 none)), 0, rfl, S228, (Sb.lit (n := 0) (by decide)), Sub.cons' rfl rfl (Sub.cons' rfl rfl (Sub.cons' rfl rfl (Sub.nil _)))⟩
  ·rintro n229 _ t' G233 ⟨xs190, x191, p188, c189, rfl, S232, Bo187, hsub234⟩ o235 ho230 hk231
   refine AX.sub hsub234 ?_
   unfold D_spec_l02Type_s0 at ho230
   refine AX.seq ?_
   refine AX.seq ?_
   refine AX.region ?_
   refine AO.p rfl (p_move rfl) ?_
   refine AO.p rfl (p_move rfl) ?_
   refine AO.p rfl (p_len_slice rfl Try.underlying43) ?_
   refine AO.p rfl (p_lss rfl rfl) ?_
   refine AO.nil ?_
   refine AX.cond rfl (fun c236 => ?_) (fun c236 => ?_)
   ·have hd237 := bif_t c236 ho230
    refine AX.skip ?_
    refine AX.seq ?_
    refine AX.block ?_
    refine AX.region ?_
    refine AO.p rfl (p_move rfl) ?_
    refine AO.p rfl (p_move rfl) ?_
    refine AO.p rfl (p_move rfl) ?_
    obtain ⟨k238, hd239⟩ := chk_some hd237
    refine AO.p rfl (s_indexV (q := x191.toNat) Try.underlying43 Try.sizeOf58 rfl (B114.at (inR_pos k238)) rfl k238 (z1 _)) ?_
    obtain ⟨p240, c241, e242, f243⟩ := tget t116 (lt_len rfl (inR_lt k238))
    refine AO.c rfl (s_load Try.isAgg58 rfl (row_cell (S232.oat (k := 0) rfl (B114.at (inR_pos k238))) f243)) ?_
    refine AO.p rfl (p_len_slice rfl Try.underlying58) ?_
    obtain ⟨G244, i245, hii245, hHG244, S246⟩ := S232.new (AObj.row false (ints [(((rw_ rs108 x191.toNat).length : Nat) : Int)]))
    refine AO.c rfl (s_buildInts (i := i245) (vs := [(0, .int .i64 (((rw_ rs108 x191.toNat).length : Nat) : Int))]) (xs := [(((rw_ rs108 x191.toNat).length : Nat) : Int)]) Try.underlying58 Try.sizeOf2 Try.zeroValue2 rfl rfl (by decide) rfl rfl hii245 hHG244) ?_
    obtain ⟨k248, hd249⟩ := chk_some hd239
    obtain ⟨p250, c251, G252, haG252, S253, Bp250⟩ := S246.app (k := 3) rfl Bo187 (ints [(((rw_ rs108 x191.toNat).length : Nat) : Int)]) 1 (ints_len1 rfl)
    have S254 := S253.cellsEq (k := 3) (us' := ints (xs190 ++ [(((rw_ rs108 x191.toNat).length : Nat) : Int)])) (ints_app _ _) rfl
    have BS254 : Sb p250 ((xs190 ++ [(((rw_ rs108 x191.toNat).length : Nat) : Int)]).length) c251 1 := (show xs190.length + 1 = (xs190 ++ [(((rw_ rs108 x191.toNat).length : Nat) : Int)]).length from len_app (a := xs190) (b := [(((rw_ rs108 x191.toNat).length : Nat) : Int)]) rfl rfl) ▸ Bp250
    have S255 := S254.drop 0 rfl
    refine AO.c rfl (s_app (by_ := 8) (us := ints xs190) (vs := ints [(((rw_ rs108 x191.toNat).length : Nat) : Int)]) Try.underlying58 Try.underlying58 Try.typeInfo2 Try.sizeOf2 Try.zeroValue2 rfl rfl rfl rfl rfl rfl rfl (S246.buf (k := 3) rfl Bo187 (ints_len1 rfl)) (S246.oview (k := 0) rfl (Sb.lit (n := 1) (by decide)) (ints_len1 rfl)) (ints_len1 rfl) ints_one k248 haG252 (show xs190.length + 1 = (xs190 ++ [(((rw_ rs108 x191.toNat).length : Nat) : Int)]).length from len_app (a := xs190) (b := [(((rw_ rs108 x191.toNat).length : Nat) : Int)]) rfl rfl)) ?_
    refine AO.p rfl (p_assign rfl) ?_
    refine AO.nil ?_
    refine AX.region ?_
    refine AO.p rfl (p_move rfl) ?_
    obtain ⟨k256, hd257⟩ := chk_some hd249
    refine AO.p rfl (p_addE rfl rfl k256) ?_
    refine AO.p rfl (p_assign rfl) ?_
    refine AO.nil ?_
    obtain rfl := some_inj hd257
    have S259 := S255.front 2 rfl
    have S260 := S259.front 2 rfl
    have S261 := S260.front 2 rfl
    exact ⟨((xs190 ++ [(((rw_ rs108 x191.toNat).length : Nat) : Int)]), x191 + 1), hk231, (xs190 ++ [(((rw_ rs108 x191.toNat).length : Nat) : Int)]), (x191 + 1), p250, c251, rfl, S261, BS254, Sub.cons' rfl rfl (Sub.cons' rfl rfl (Sub.cons' rfl rfl (Sub.nil _)))⟩
   ·have hd262 := bif_f c236 ho230
    refine AX.exit ?_
    obtain rfl := some_inj hd262
    have S263 := S232.front 2 rfl
    have S264 := S263.keep 1
    exact ⟨xs190, p188, c189, hk231, S264, Bo187, Sub.cons' rfl rfl (Sub.nil _)⟩
 ·rintro t' G266 ⟨xs221, p219, c220, rfl, S265, Bo218, hsub267⟩
  refine ⟨_, hsub267, ?_⟩
  refine AX.seq ?_
  refine AX.region ?_
  refine AO.p rfl (p_move rfl) ?_
  obtain ⟨xs268, h269, hd270⟩ := bnd_some hd224
  obtain ⟨_, G276, hc275, p271, c272, rfl, S277, B274⟩ := W_spec_l02Sorted fu G266 p219 c220 xs221 (S265.oview (k := 0) rfl Bo218 (ints_len1 rfl)) xs268 h269
  have S278 := S265.call S277
  refine AO.c rfl (o_call (vs := [.slice p219 xs221.length c220]) rfl Try.call141 hc275) ?_
  refine AO.p rfl (p_assign rfl) ?_
  refine AO.nil ?_
  refine AX.seq ?_
  refine AX.region ?_
  obtain ⟨G279, i280, hii280, hHG279, S281⟩ := S278.new (AObj.row false (ints []))
  refine AO.c rfl (s_build0 (i := i280) Try.underlying58 Try.sizeOf2 hii280 hHG279) ?_
  refine AO.p rfl (p_assign rfl) ?_
  refine AO.nil ?_
  refine AX.seq ?_
  refine AX.seq ?_
  refine AX.region ?_
  refine AO.p rfl (p_move rfl) ?_
  refine AO.p rfl (p_len_slice rfl Try.underlying58) ?_
  obtain ⟨k283, hd284⟩ := chk_some hd270
  refine AO.p rfl (p_subE rfl rfl k283) ?_
  refine AO.p rfl (p_assign rfl) ?_
  refine AO.nil ?_
  obtain ⟨r369, hl370, hd371⟩ := bnd_some hd284
  refine AX.cutS (fun t' H' => ∃ (xs368 : List Int) (p366 : Option Addr) (c367 : Nat), xs368 = r369 ∧ St [] H H' [oseg p366 (ints xs368)] ∧ Sb p366 (xs368.length) c367 1 ∧ Am.Sub [(10, .slice p366 xs368.length c367)] t') ?_ ?_
  ·refine AX.block ?_
   refine AX.loopF (fun s' t' H' => ∃ (xs341 : List Int) (x342 : Int) (p339 : Option Addr) (c340 : Nat), (xs341, x342) = s' ∧ St [] H H' [oseg p271 (ints xs268), oseg p339 (ints xs341)] ∧ Sb p339 (xs341.length) c340 1 ∧ Am.Sub [(8, .slice p271 xs268.length c272), (10, .slice p339 xs341.length c340), (11, .int .i64 x342)] t') hl370 ?_ ?_
   ·skip
    have S372 := S281.front 0 rfl
    have S373 := S372.front 1 rfl
    have S374 := S373.keep 2
    exact ⟨[], (((xs268.length : Nat) : Int) - 1), (some (Addr.mk i280 0 none)), 0, rfl, S374, (Sb.lit (n := 0) (by decide)), Sub.cons' rfl rfl (Sub.cons' rfl rfl (Sub.cons' rfl rfl (Sub.nil _)))⟩
   ·rintro n375 _ t' G379 ⟨xs341, x342, p339, c340, rfl, S378, Bo338, hsub380⟩ o381 ho376 hk377
    refine AX.sub hsub380 ?_
    unfold D_spec_l02Type_s1 at ho376
    refine AX.seq ?_
    refine AX.seq ?_
    refine AX.region ?_
    refine AO.p rfl (p_move rfl) ?_
    refine AO.p rfl (p_geq rfl rfl) ?_
    refine AO.nil ?_
    refine AX.cond rfl (fun c382 => ?_) (fun c382 => ?_)
    ·have hd383 := bif_t c382 ho376
     refine AX.skip ?_
     refine AX.seq ?_
     refine AX.block ?_
     refine AX.region ?_
     refine AO.p rfl (p_move rfl) ?_
     refine AO.p rfl (p_move rfl) ?_
     refine AO.p rfl (p_move rfl) ?_
     obtain ⟨k384, hd385⟩ := chk_some hd383
     refine AO.p rfl (s_indexV (q := x342.toNat) Try.underlying58 Try.sizeOf2 rfl (B274.at (inR_pos k384)) rfl k384 (z1 _)) ?_
     refine AO.c rfl (s_load Try.isAgg2 rfl (row_cell (S378.oat (k := 0) rfl (B274.at (inR_pos k384))) (ints_get (lt_len rfl (inR_lt k384))))) ?_
     obtain ⟨G386, i387, hii387, hHG386, S388⟩ := S378.new (AObj.row false (ints [rd xs268 x342.toNat]))
     refine AO.c rfl (s_buildInts (i := i387) (vs := [(0, .int .i64 (rd xs268 x342.toNat))]) (xs := [rd xs268 x342.toNat]) Try.underlying58 Try.sizeOf2 Try.zeroValue2 rfl rfl (by decide) rfl rfl hii387 hHG386) ?_
     obtain ⟨k390, hd391⟩ := chk_some hd385
     obtain ⟨p392, c393, G394, haG394, S395, Bp392⟩ := S388.app (k := 2) rfl Bo338 (ints [rd xs268 x342.toNat]) 1 (ints_len1 rfl)
     have S396 := S395.cellsEq (k := 2) (us' := ints (xs341 ++ [rd xs268 x342.toNat])) (ints_app _ _) rfl
     have BS396 : Sb p392 ((xs341 ++ [rd xs268 x342.toNat]).length) c393 1 := (show xs341.length + 1 = (xs341 ++ [rd xs268 x342.toNat]).length from len_app (a := xs341) (b := [rd xs268 x342.toNat]) rfl rfl) ▸ Bp392
     have S397 := S396.drop 0 rfl
     refine AO.c rfl (s_app (by_ := 8) (us := ints xs341) (vs := ints [rd xs268 x342.toNat]) Try.underlying58 Try.underlying58 Try.typeInfo2 Try.sizeOf2 Try.zeroValue2 rfl rfl rfl rfl rfl rfl rfl (S388.buf (k := 2) rfl Bo338 (ints_len1 rfl)) (S388.oview (k := 0) rfl (Sb.lit (n := 1) (by decide)) (ints_len1 rfl)) (ints_len1 rfl) ints_one k390 haG394 (show xs341.length + 1 = (xs341 ++ [rd xs268 x342.toNat]).length from len_app (a := xs341) (b := [rd xs268 x342.toNat]) rfl rfl)) ?_
     refine AO.p rfl (p_assign rfl) ?_
     refine AO.nil ?_
     refine AX.region ?_
     refine AO.p rfl (p_move rfl) ?_
     obtain ⟨k398, hd399⟩ := chk_some hd391
     refine AO.p rfl (p_subE rfl rfl k398) ?_
     refine AO.p rfl (p_assign rfl) ?_
     refine AO.nil ?_
     obtain rfl := some_inj hd399
     have S401 := S397.front 1 rfl
     have S402 := S401.front 1 rfl
     exact ⟨((xs341 ++ [rd xs268 x342.toNat]), x342 - 1), hk377, (xs341 ++ [rd xs268 x342.toNat]), (x342 - 1), p392, c393, rfl, S402, BS396, Sub.cons' rfl rfl (Sub.cons' rfl rfl (Sub.cons' rfl rfl (Sub.nil _)))⟩
    ·have hd403 := bif_f c382 ho376
     refine AX.exit ?_
     obtain rfl := some_inj hd403
     have S404 := S378.front 1 rfl
     have S405 := S404.keep 1
     exact ⟨xs341, p339, c340, hk377, S405, Bo338, Sub.cons' rfl rfl (Sub.nil _)⟩
  ·rintro t' G407 ⟨xs368, p366, c367, rfl, S406, Bo365, hsub408⟩
   refine ⟨_, hsub408, ?_⟩
   refine AX.seq ?_
   refine AX.region ?_
   refine AO.p rfl (p_move rfl) ?_
   refine AO.p rfl (p_assign rfl) ?_
   refine AO.nil ?_
   refine AX.ret ?_
   obtain rfl := some_inj hd371
   have S409 := S406.front 0 rfl
   exact ⟨.inr rfl, _, res1 rfl (rv_tmp rfl), p366, c367, rfl, S409, Bo365⟩

set_option maxHeartbeats 4000000 in
theorem W_spec_TypeOfRounds (fu : Nat) (H : AHeap) (a0 : Int) (a1 : List Int) (h_a1 : a1.length = 14) (a2 : List Int) (h_a2 : a2.length = 14) (r0 : List Int) (r1 : Int) (hd : D_spec_TypeOfRounds fu a0 a1 a2 = some (r0, r1)) : ∃ v G', ACall Try.prog 39 [.int .i64 a0, .agg (ints a1).toArray, .agg (ints a2).toArray] H v G' ∧ ∃ (p_r0 : Option Addr) (c_r0 : Nat), (v = .tuple #[.slice p_r0 r0.length c_r0, .int .i64 r1]) ∧ St [] H G' [oseg p_r0 (ints r0)] ∧ Sb p_r0 r0.length c_r0 1 := by
 refine ACall.bodyX (args := [.int .i64 a0, .agg (ints a1).toArray, .agg (ints a2).toArray]) (N := 21) [(0, .int .i64 a0), (1, .agg (ints a1).toArray), (2, .agg (ints a2).toArray)] (fun v G' => ∃ (p_r0 : Option Addr) (c_r0 : Nat), (v = .tuple #[.slice p_r0 r0.length c_r0, .int .i64 r1]) ∧ St [] H G' [oseg p_r0 (ints r0)] ∧ Sb p_r0 r0.length c_r0 1) Try.func39 rfl rfl rfl rfl ?_
 unfold D_spec_TypeOfRounds at hd
 have S0 : St [] H H [] := St.nil H
 refine AX.seq ?_
 refine AX.region ?_
 obtain ⟨G100, i101, hii101, hHG100, S102⟩ := S0.new (AObj.row false (ints a1))
 refine AO.c rfl (s_box (i := i101) (cs := ints a1) rfl hii101 rfl hHG100) ?_
 obtain ⟨G104, i105, hii105, hHG104, S106⟩ := S102.new (AObj.row false (ints a2))
 refine AO.c rfl (s_box (i := i105) (cs := ints a2) rfl hii105 rfl hHG104) ?_
 refine AO.p rfl (p_assign rfl) ?_
 refine AO.p rfl (p_assign rfl) ?_
 refine AO.nil ?_
 refine AX.seq ?_
 refine AX.seq ?_
 refine AX.region ?_
 refine AO.p rfl (p_move rfl) ?_
 refine AO.c rfl (s_loadN (vs := ints a1) Try.isAgg54 Try.sizeOf54 rfl (ints_len h_a1) (row_cells (S106.get (k := 1) rfl))) ?_
 refine AO.c rfl (s_loadN (vs := ints a2) Try.isAgg54 Try.sizeOf54 rfl (ints_len h_a2) (row_cells (S106.get (k := 0) rfl))) ?_
 obtain ⟨G108, i109, hii109, hHG108, S110⟩ := S106.new (AObj.row false (ints [a1, a2].flatten))
 refine AO.c rfl (s_build2 (i := i109) (r := a1) (q := a2) (zr := List.replicate 14 0) Try.underlying35 Try.sizeOf54 Try.zeroValue54 rfl rfl (by decide) (by decide) rfl rfl h_a1 h_a2 hii109 hHG108) ?_
 obtain ⟨x112, h113, hd114⟩ := bnd_some hd
 refine AO.c rfl (o_call (vs := [.int .i64 a0, .slice (some (Addr.mk i109 0 none)) 2 2]) rfl Try.call98 (by have h' := W_spec_l02Rounds fu G108 a0 (some (Addr.mk i109 0 none)) 2 [a1, a2] (all_two h_a1 h_a2) (by rw [show List.length [a1, a2] = 2 from rfl]; exact (S110.oview (k := 0) rfl (Sb.lit (n := 2) (by decide)) (flat_len1 (all_two h_a1 h_a2) rfl))) x112 h113; rw [show List.length [a1, a2] = 2 from rfl] at h'; exact h')) ?_
 refine AO.p rfl (p_assign rfl) ?_
 refine AO.nil ?_
 refine AX.seq ?_
 refine AX.region ?_
 refine AO.p rfl (p_move rfl) ?_
 refine AO.p rfl (p_neq rfl rfl) ?_
 refine AO.nil ?_
 refine AX.cond rfl (fun c116 => ?_) (fun c116 => ?_)
 ·have hd117 := bif_t c116 hd114
  refine AX.seq ?_
  refine AX.region ?_
  refine AO.p rfl (p_move rfl) ?_
  refine AO.p rfl (p_assign rfl) ?_
  refine AO.p rfl (p_assign rfl) ?_
  refine AO.nil ?_
  refine AX.ret ?_
  obtain ⟨rfl, rfl⟩ := Prod.mk.inj (some_inj hd117)
  have S119 : St [] H G108 (oseg none (ints []) :: _) := S110.nilseg 0
  have S120 := S119.keep 1
  exact ⟨.inr rfl, _, res2 rfl (rv_tmp rfl) (rv_tmp rfl), none, 0, rfl, S120, Sb.nil⟩
 ·have hd121 := bif_f c116 hd114
  refine AX.skip ?_
  refine AX.seq ?_
  refine AX.region ?_
  refine AO.p rfl (p_move rfl) ?_
  refine AO.c rfl (s_loadN (vs := ints a1) Try.isAgg54 Try.sizeOf54 rfl (ints_len h_a1) (row_cells (S110.get (k := 2) rfl))) ?_
  refine AO.c rfl (s_loadN (vs := ints a2) Try.isAgg54 Try.sizeOf54 rfl (ints_len h_a2) (row_cells (S110.get (k := 1) rfl))) ?_
  obtain ⟨xs122, h123, hd124⟩ := bnd_some hd121
  obtain ⟨_, G130, hc129, p125, c126, rfl, S131, B128⟩ := W_spec_l02Type fu G108 a0 a1 h_a1 a2 h_a2 xs122 h123
  have S132 := S110.call S131
  refine AO.c rfl (o_call (vs := [.int .i64 a0, .agg (ints a1).toArray, .agg (ints a2).toArray]) rfl Try.call101 hc129) ?_
  refine AO.p rfl (p_assign rfl) ?_
  refine AO.p rfl (p_assign rfl) ?_
  refine AO.nil ?_
  refine AX.ret ?_
  obtain ⟨rfl, rfl⟩ := Prod.mk.inj (some_inj hd124)
  have S134 := S132.front 0 rfl
  have S135 := S134.keep 1
  exact ⟨.inr rfl, _, res2 rfl (rv_tmp rfl) (rv_tmp rfl), p125, c126, rfl, S135, B128⟩

set_option maxHeartbeats 4000000 in
theorem W_impl_size_int64 (fu : Nat) (H : AHeap) (p_a0 : Option Addr) (c_a0 : Nat) (a0 : List Int) (v_a0 : Vw H p_a0 a0.length c_a0 (ints a0)) (r0 : Int) (hd : D_impl_size_int64 fu a0 = some r0) : ACall Try.prog 142 [.slice p_a0 a0.length c_a0] H (.int .i64 r0) H := by
 refine ACall.bodyP (N := 5) [(0, .slice p_a0 a0.length c_a0)] Try.func142 rfl rfl rfl rfl ?_
 unfold D_impl_size_int64 at hd
 have S0 : St [] H H [] := St.nil H
 refine AX.seq ?_
 refine AX.region ?_
 refine AO.p rfl (p_assign rfl) ?_
 refine AO.nil ?_
 refine AX.seq ?_
 refine AX.region ?_
 refine AO.p rfl (p_move rfl) ?_
 refine AO.p rfl (p_len_slice rfl Try.underlying58) ?_
 refine AO.p rfl (p_assign rfl) ?_
 refine AO.nil ?_
 refine AX.ret ?_
 obtain rfl := some_inj hd
 exact ⟨.inr rfl, _, res1 rfl (rv_tmp rfl), rfl, (flatB_ok rfl), S0.hold⟩

set_option maxHeartbeats 4000000 in
theorem W_impl_kind (fu : Nat) (H : AHeap) (a0 : Int) (a1 : List Int) (h_a1 : a1.length = 14) (a2 : List Int) (h_a2 : a2.length = 14) (r0 : List Int) (hd : D_impl_kind fu a0 a1 a2 = some r0) : ∃ v G', ACall Try.prog 100 [.int .i64 a0, .agg (ints a1).toArray, .agg (ints a2).toArray] H v G' ∧ ∃ (p_r0 : Option Addr) (c_r0 : Nat), (v = .slice p_r0 r0.length c_r0) ∧ St [] H G' [oseg p_r0 (ints r0)] ∧ Sb p_r0 r0.length c_r0 1 := by
 refine ACall.bodyX (args := [.int .i64 a0, .agg (ints a1).toArray, .agg (ints a2).toArray]) (N := 31) [(0, .int .i64 a0), (1, .agg (ints a1).toArray), (2, .agg (ints a2).toArray)] (fun v G' => ∃ (p_r0 : Option Addr) (c_r0 : Nat), (v = .slice p_r0 r0.length c_r0) ∧ St [] H G' [oseg p_r0 (ints r0)] ∧ Sb p_r0 r0.length c_r0 1) Try.func100 rfl rfl rfl rfl ?_
 unfold D_impl_kind at hd
 have S0 : St [] H H [] := St.nil H
 refine AX.seq ?_
 refine AX.region ?_
 obtain ⟨G100, i101, hii101, hHG100, S102⟩ := S0.new (AObj.row false (ints a1))
 refine AO.c rfl (s_box (i := i101) (cs := ints a1) rfl hii101 rfl hHG100) ?_
 obtain ⟨G104, i105, hii105, hHG104, S106⟩ := S102.new (AObj.row false (ints a2))
 refine AO.c rfl (s_box (i := i105) (cs := ints a2) rfl hii105 rfl hHG104) ?_
 refine AO.p rfl (p_assign rfl) ?_
 refine AO.nil ?_
 refine AX.seq ?_
 refine AX.region ?_
 obtain ⟨G108, i109, hii109, hHG108, S110⟩ := S106.new (AObj.row false (ints []))
 refine AO.c rfl (s_build0 (i := i109) Try.underlying58 Try.sizeOf2 hii109 hHG108) ?_
 refine AO.p rfl (p_assign rfl) ?_
 refine AO.nil ?_
 refine AX.seq ?_
 refine AX.seq ?_
 refine AX.region ?_
 refine AO.p rfl (p_move rfl) ?_
 refine AO.c rfl (s_loadN (vs := ints a1) Try.isAgg54 Try.sizeOf54 rfl (ints_len h_a1) (row_cells (S110.get (k := 2) rfl))) ?_
 refine AO.c rfl (s_loadN (vs := ints a2) Try.isAgg54 Try.sizeOf54 rfl (ints_len h_a2) (row_cells (S110.get (k := 1) rfl))) ?_
 obtain ⟨rs112, h113, hd114⟩ := bnd_some hd
 obtain ⟨_, G123, hc122, p115, c116, T119, rfl, S124, B118, t120, s121⟩ := W_impl_components fu G108 a0 a1 h_a1 a2 h_a2 rs112 h113
 have S125 := S110.call S124
 refine AO.c rfl (o_call (vs := [.int .i64 a0, .agg (ints a1).toArray, .agg (ints a2).toArray]) rfl Try.call97 hc122) ?_
 refine AO.p rfl (p_len_slice rfl Try.underlying43) ?_
 refine AO.p rfl (p_move rfl) ?_
 refine AO.nil ?_
 obtain ⟨r234, hl235, hd236⟩ := bnd_some hd114
 refine AX.cutS (fun t' H' => ∃ (xs233 : List Int) (p231 : Option Addr) (c232 : Nat), xs233 = r234 ∧ St [] H H' [oseg p231 (ints xs233)] ∧ Sb p231 (xs233.length) c232 1 ∧ Am.Sub [(7, .slice p231 xs233.length c232)] t') ?_ ?_
 ·refine AX.block ?_
  refine AX.loopF (fun s' t' H' => ∃ (xs197 : List Int) (x199 : Int) (p195 : Option Addr) (c196 : Nat), (xs197, x199) = s' ∧ St [] H H' [oseg p195 (ints xs197), oseg p115 (tcells T119), tseg T119] ∧ Sb p195 (xs197.length) c196 1 ∧ Am.Sub [(7, .slice p195 xs197.length c196), (14, .slice p115 rs112.length c116), (15, .int .i64 ((rs112.length : Nat) : Int)), (16, .int .i64 x199)] t') hl235 ?_ ?_
  ·skip
   have S237 := S125.front 1 rfl
   have S238 := S237.front 1 rfl
   have S239 := S238.front 2 rfl
   have S240 := S239.keep 3
   exact ⟨[], 0, (some (Addr.mk i109 0 none)), 0, rfl, S240, (Sb.lit (n := 0) (by decide)), Sub.cons' rfl rfl (Sub.cons' rfl rfl (Sub.cons' rfl rfl (Sub.cons' rfl rfl (Sub.nil _))))⟩
  ·rintro n241 _ t' G245 ⟨xs197, x199, p195, c196, rfl, S244, Bo194, hsub246⟩ o247 ho242 hk243
   refine AX.sub hsub246 ?_
   unfold D_impl_kind_s0 at ho242
   refine AX.seq ?_
   refine AX.region ?_
   refine AO.p rfl (p_lss rfl rfl) ?_
   refine AO.nil ?_
   refine AX.seq ?_
   refine AX.cond rfl (fun c248 => ?_) (fun c248 => ?_)
   ·have hd249 := bif_t c248 ho242
    refine AX.skip ?_
    refine AX.seq ?_
    refine AX.block ?_
    refine AX.seq ?_
    refine AX.region ?_
    obtain ⟨k250, hd251⟩ := chk_some hd249
    refine AO.p rfl (s_indexV (q := x199.toNat) Try.underlying43 Try.sizeOf58 rfl (B118.at (inR_pos k250)) rfl k250 (z1 _)) ?_
    obtain ⟨p252, c253, e254, f255⟩ := tget t120 (lt_len rfl (inR_lt k250))
    refine AO.c rfl (s_load Try.isAgg58 rfl (row_cell (S244.oat (k := 1) rfl (B118.at (inR_pos k250))) f255)) ?_
    refine AO.p rfl (p_assign rfl) ?_
    refine AO.nil ?_
    refine AX.region ?_
    refine AO.p rfl (p_move rfl) ?_
    refine AO.p rfl (p_move rfl) ?_
    obtain ⟨x256, h257, hd258⟩ := bnd_some hd251
    refine AO.c rfl (o_call (vs := [.slice p252 ((rw_ rs112 x199.toNat).length) c253]) rfl Try.call142 (W_impl_size_int64 fu G245 p252 c253 (rw_ rs112 x199.toNat) (TVw.at (S244.oviewT (k := 2) rfl s121) e254) x256 h257)) ?_
    obtain ⟨G260, i261, hii261, hHG260, S262⟩ := S244.new (AObj.row false (ints [x256]))
    refine AO.c rfl (s_buildInts (i := i261) (vs := [(0, .int .i64 x256)]) (xs := [x256]) Try.underlying58 Try.sizeOf2 Try.zeroValue2 rfl rfl (by decide) rfl rfl hii261 hHG260) ?_
    obtain ⟨k264, hd265⟩ := chk_some hd258
    obtain ⟨p266, c267, G268, haG268, S269, Bp266⟩ := S262.app (k := 1) rfl Bo194 (ints [x256]) 1 (ints_len1 rfl)
    have S270 := S269.cellsEq (k := 1) (us' := ints (xs197 ++ [x256])) (ints_app _ _) rfl
    have BS270 : Sb p266 ((xs197 ++ [x256]).length) c267 1 := (show xs197.length + 1 = (xs197 ++ [x256]).length from len_app (a := xs197) (b := [x256]) rfl rfl) ▸ Bp266
    have S271 := S270.drop 0 rfl
    refine AO.c rfl (s_app (by_ := 8) (us := ints xs197) (vs := ints [x256]) Try.underlying58 Try.underlying58 Try.typeInfo2 Try.sizeOf2 Try.zeroValue2 rfl rfl rfl rfl rfl rfl rfl (S262.buf (k := 1) rfl Bo194 (ints_len1 rfl)) (S262.oview (k := 0) rfl (Sb.lit (n := 1) (by decide)) (ints_len1 rfl)) (ints_len1 rfl) ints_one k264 haG268 (show xs197.length + 1 = (xs197 ++ [x256]).length from len_app (a := xs197) (b := [x256]) rfl rfl)) ?_
    refine AO.p rfl (p_assign rfl) ?_
    refine AO.nil ?_
    refine AX.region ?_
    obtain ⟨k272, hd273⟩ := chk_some hd265
    refine AO.p rfl (p_addE rfl rfl k272) ?_
    refine AO.p rfl (p_move rfl) ?_
    refine AO.nil ?_
    obtain rfl := some_inj hd273
    have S275 := S271.front 2 rfl
    have S276 := S275.front 2 rfl
    have S277 := S276.front 2 rfl
    exact ⟨((xs197 ++ [x256]), x199 + 1), hk243, (xs197 ++ [x256]), (x199 + 1), p266, c267, rfl, S277, BS270, Sub.cons' rfl rfl (Sub.cons' rfl rfl (Sub.cons' rfl rfl (Sub.cons' rfl rfl (Sub.nil _))))⟩
   ·have hd278 := bif_f c248 ho242
    refine AX.exit ?_
    obtain rfl := some_inj hd278
    have S279 := S244.front 0 rfl
    have S280 := S279.keep 1
    exact ⟨xs197, p195, c196, hk243, S280, Bo194, Sub.cons' rfl rfl (Sub.nil _)⟩
 ·rintro t' G282 ⟨xs233, p231, c232, rfl, S281, Bo230, hsub283⟩
  refine ⟨_, hsub283, ?_⟩
  refine AX.seq ?_
  refine AX.region ?_
  refine AO.p rfl (p_move rfl) ?_
  have S284 := S281.front 0 rfl
  obtain ⟨xs285, h286, hd287⟩ := bnd_some hd236
  obtain ⟨_, G290, hc289, rfl, S291, l288⟩ := W_slices_Sort_Sint64_int64 fu G282 p231 c232 xs233 Bo230 (S284.onodup (k := 0) rfl) (S284.omem (k := 0) rfl) xs285 h286
  have S292 := St.callM (A := [oseg p231 (ints xs233)]) S284 S291 (by simp)
  refine AO.c rfl (o_call (vs := [.slice p231 xs233.length c232]) rfl Try.call140 hc289) ?_
  refine AO.nil ?_
  refine AX.seq ?_
  refine AX.region ?_
  refine AO.p rfl (p_move rfl) ?_
  have S293 := S292.front 0 rfl
  obtain ⟨xs294, h295, hd296⟩ := bnd_some hd287
  obtain ⟨_, G299, hc298, rfl, S300, l297⟩ := W_slices_Reverse_Sint64_int64 fu G290 p231 c232 xs285 (by rw [show List.length xs285 = xs233.length from l288]; exact Bo230) (S293.onodup (k := 0) rfl) (S293.omem (k := 0) rfl) xs294 h295
  rw [show List.length xs285 = xs233.length from l288] at hc298
  have S301 := St.callM (A := [oseg p231 (ints xs285)]) S293 S300 (by simp)
  refine AO.c rfl (o_call (vs := [.slice p231 xs233.length c232]) rfl Try.call143 hc298) ?_
  refine AO.nil ?_
  refine AX.seq ?_
  refine AX.region ?_
  refine AO.p rfl (p_move rfl) ?_
  refine AO.p rfl (p_assign rfl) ?_
  refine AO.nil ?_
  refine AX.ret ?_
  obtain rfl := some_inj hd296
  have S302 := S301.front 0 rfl
  exact ⟨.inr rfl, _, res1 rfl (rv_tmp rfl), p231, c232, (by rw [show List.length xs294 = xs233.length from (Eq.trans l297 l288)]), S302, (by rw [show List.length xs294 = xs233.length from (Eq.trans l297 l288)]; exact Bo230)⟩

set_option maxHeartbeats 4000000 in
theorem W_impl_TypeOfRounds (fu : Nat) (H : AHeap) (a0 : Int) (a1 : List Int) (h_a1 : a1.length = 14) (a2 : List Int) (h_a2 : a2.length = 14) (r0 : List Int) (r1 : Int) (hd : D_impl_TypeOfRounds fu a0 a1 a2 = some (r0, r1)) : ∃ v G', ACall Try.prog 38 [.int .i64 a0, .agg (ints a1).toArray, .agg (ints a2).toArray] H v G' ∧ ∃ (p_r0 : Option Addr) (c_r0 : Nat), (v = .tuple #[.slice p_r0 r0.length c_r0, .int .i64 r1]) ∧ St [] H G' [oseg p_r0 (ints r0)] ∧ Sb p_r0 r0.length c_r0 1 := by
 refine ACall.bodyX (args := [.int .i64 a0, .agg (ints a1).toArray, .agg (ints a2).toArray]) (N := 20) [(0, .int .i64 a0), (1, .agg (ints a1).toArray), (2, .agg (ints a2).toArray)] (fun v G' => ∃ (p_r0 : Option Addr) (c_r0 : Nat), (v = .tuple #[.slice p_r0 r0.length c_r0, .int .i64 r1]) ∧ St [] H G' [oseg p_r0 (ints r0)] ∧ Sb p_r0 r0.length c_r0 1) Try.func38 rfl rfl rfl rfl ?_
 unfold D_impl_TypeOfRounds at hd
 have S0 : St [] H H [] := St.nil H
 refine AX.seq ?_
 refine AX.region ?_
 obtain ⟨G100, i101, hii101, hHG100, S102⟩ := S0.new (AObj.row false (ints a1))
 refine AO.c rfl (s_box (i := i101) (cs := ints a1) rfl hii101 rfl hHG100) ?_
 obtain ⟨G104, i105, hii105, hHG104, S106⟩ := S102.new (AObj.row false (ints a2))
 refine AO.c rfl (s_box (i := i105) (cs := ints a2) rfl hii105 rfl hHG104) ?_
 refine AO.p rfl (p_assign rfl) ?_
 refine AO.p rfl (p_assign rfl) ?_
 refine AO.nil ?_
 refine AX.seq ?_
 refine AX.seq ?_
 refine AX.region ?_
 refine AO.p rfl (p_move rfl) ?_
 refine AO.c rfl (s_loadN (vs := ints a1) Try.isAgg54 Try.sizeOf54 rfl (ints_len h_a1) (row_cells (S106.get (k := 1) rfl))) ?_
 refine AO.c rfl (s_loadN (vs := ints a2) Try.isAgg54 Try.sizeOf54 rfl (ints_len h_a2) (row_cells (S106.get (k := 0) rfl))) ?_
 obtain ⟨x108, h109, hd110⟩ := bnd_some hd
 refine AO.c rfl (o_call (vs := [.int .i64 a0, .agg (ints a1).toArray, .agg (ints a2).toArray]) rfl Try.call96 (W_impl_twoCode fu G104 a0 a1 h_a1 a2 h_a2 x108 h109)) ?_
 refine AO.p rfl (p_assign rfl) ?_
 refine AO.nil ?_
 refine AX.seq ?_
 refine AX.region ?_
 refine AO.p rfl (p_move rfl) ?_
 refine AO.p rfl (p_neq rfl rfl) ?_
 refine AO.nil ?_
 refine AX.cond rfl (fun c112 => ?_) (fun c112 => ?_)
 ·have hd113 := bif_t c112 hd110
  refine AX.seq ?_
  refine AX.region ?_
  refine AO.p rfl (p_move rfl) ?_
  refine AO.p rfl (p_assign rfl) ?_
  refine AO.p rfl (p_assign rfl) ?_
  refine AO.nil ?_
  refine AX.ret ?_
  obtain ⟨rfl, rfl⟩ := Prod.mk.inj (some_inj hd113)
  have S115 : St [] H G104 (oseg none (ints []) :: _) := S106.nilseg 0
  have S116 := S115.keep 1
  exact ⟨.inr rfl, _, res2 rfl (rv_tmp rfl) (rv_tmp rfl), none, 0, rfl, S116, Sb.nil⟩
 ·have hd117 := bif_f c112 hd110
  refine AX.skip ?_
  refine AX.seq ?_
  refine AX.region ?_
  refine AO.p rfl (p_move rfl) ?_
  refine AO.c rfl (s_loadN (vs := ints a1) Try.isAgg54 Try.sizeOf54 rfl (ints_len h_a1) (row_cells (S106.get (k := 1) rfl))) ?_
  refine AO.c rfl (s_loadN (vs := ints a2) Try.isAgg54 Try.sizeOf54 rfl (ints_len h_a2) (row_cells (S106.get (k := 0) rfl))) ?_
  obtain ⟨xs118, h119, hd120⟩ := bnd_some hd117
  obtain ⟨_, G126, hc125, p121, c122, rfl, S127, B124⟩ := W_impl_kind fu G104 a0 a1 h_a1 a2 h_a2 xs118 h119
  have S128 := S106.call S127
  refine AO.c rfl (o_call (vs := [.int .i64 a0, .agg (ints a1).toArray, .agg (ints a2).toArray]) rfl Try.call100 hc125) ?_
  refine AO.p rfl (p_assign rfl) ?_
  refine AO.p rfl (p_assign rfl) ?_
  refine AO.nil ?_
  refine AX.ret ?_
  obtain ⟨rfl, rfl⟩ := Prod.mk.inj (some_inj hd120)
  have S130 := S128.front 0 rfl
  have S131 := S130.keep 1
  exact ⟨.inr rfl, _, res2 rfl (rv_tmp rfl) (rv_tmp rfl), p121, c122, rfl, S131, B124⟩

set_option maxHeartbeats 4000000 in
theorem W_spec_ChainFrom (fu : Nat) (H : AHeap) (a0 : Int) (a1 : List Int) (h_a1 : a1.length = 14) (a2 : List Int) (h_a2 : a2.length = 14) (a3 : Int) (r0 : List Int) (r1 : Int) (hd : D_spec_ChainFrom fu a0 a1 a2 a3 = some (r0, r1)) : ∃ v G', ACall Try.prog 42 [.int .i64 a0, .agg (ints a1).toArray, .agg (ints a2).toArray, .int .i64 a3] H v G' ∧ ∃ (p_r0 : Option Addr) (c_r0 : Nat), (v = .tuple #[.slice p_r0 r0.length c_r0, .int .i64 r1]) ∧ St [] H G' [oseg p_r0 (ints r0)] ∧ Sb p_r0 r0.length c_r0 1 := by
 refine ACall.bodyX (args := [.int .i64 a0, .agg (ints a1).toArray, .agg (ints a2).toArray, .int .i64 a3]) (N := 65) [(0, .int .i64 a0), (1, .agg (ints a1).toArray), (2, .agg (ints a2).toArray), (3, .int .i64 a3)] (fun v G' => ∃ (p_r0 : Option Addr) (c_r0 : Nat), (v = .tuple #[.slice p_r0 r0.length c_r0, .int .i64 r1]) ∧ St [] H G' [oseg p_r0 (ints r0)] ∧ Sb p_r0 r0.length c_r0 1) Try.func42 rfl rfl rfl rfl ?_
 unfold D_spec_ChainFrom at hd
 have S0 : St [] H H [] := St.nil H
 refine AX.seq ?_
 refine AX.region ?_
 obtain ⟨G100, i101, hii101, hHG100, S102⟩ := S0.new (AObj.row false (ints a1))
 refine AO.c rfl (s_box (i := i101) (cs := ints a1) rfl hii101 rfl hHG100) ?_
 obtain ⟨G104, i105, hii105, hHG104, S106⟩ := S102.new (AObj.row false (ints a2))
 refine AO.c rfl (s_box (i := i105) (cs := ints a2) rfl hii105 rfl hHG104) ?_
 refine AO.p rfl (p_assign rfl) ?_
 refine AO.p rfl (p_assign rfl) ?_
 refine AO.nil ?_
 refine AX.seq ?_
 refine AX.region ?_
 refine AO.p rfl (p_move rfl) ?_
 refine AO.c rfl (s_loadN (vs := ints a1) Try.isAgg54 Try.sizeOf54 rfl (ints_len h_a1) (row_cells (S106.get (k := 1) rfl))) ?_
 refine AO.c rfl (s_loadN (vs := ints a2) Try.isAgg54 Try.sizeOf54 rfl (ints_len h_a2) (row_cells (S106.get (k := 0) rfl))) ?_
 obtain ⟨G108, i109, hii109, hHG108, S110⟩ := S106.new (AObj.row false (ints [a1, a2].flatten))
 refine AO.c rfl (s_build2 (i := i109) (r := a1) (q := a2) (zr := List.replicate 14 0) Try.underlying35 Try.sizeOf54 Try.zeroValue54 rfl rfl (by decide) (by decide) rfl rfl h_a1 h_a2 hii109 hHG108) ?_
 obtain ⟨x112, h113, hd114⟩ := bnd_some hd
 refine AO.c rfl (o_call (vs := [.int .i64 a0, .slice (some (Addr.mk i109 0 none)) 2 2]) rfl Try.call98 (by have h' := W_spec_l02Rounds fu G108 a0 (some (Addr.mk i109 0 none)) 2 [a1, a2] (all_two h_a1 h_a2) (by rw [show List.length [a1, a2] = 2 from rfl]; exact (S110.oview (k := 0) rfl (Sb.lit (n := 2) (by decide)) (flat_len1 (all_two h_a1 h_a2) rfl))) x112 h113; rw [show List.length [a1, a2] = 2 from rfl] at h'; exact h')) ?_
 refine AO.p rfl (p_assign rfl) ?_
 refine AO.nil ?_
 refine AX.seq ?_
 obtain ⟨r128, hb129, hd130⟩ := bnd_some hd114
 refine AX.cut (fun t' H' => ∃ (b127 : Bool), b127 = r128 ∧ St [] H H' [[(i101, AObj.row false (ints a1))], [(i105, AObj.row false (ints a2))]] ∧ Am.Sub [(3, .int .i64 a3), (5, .pointer (some ⟨i101, 0, none⟩)), (6, .pointer (some ⟨i105, 0, none⟩)), (10, .int .i64 x112), (29, .bool b127)] t') ?_ ?_
 ·skip
  refine AX.region ?_
  refine AO.p rfl (p_move rfl) ?_
  refine AO.p rfl (p_eql rfl rfl) ?_
  refine AO.p rfl (p_move rfl) ?_
  refine AO.cases (d := 23) rfl (fun c131 => ?_) (fun c131 => ?_)
  ·have hd132 := bif_t c131 hb129
   refine AO.gp rfl rfl rfl (p_move rfl) ?_
   refine AO.gp rfl rfl rfl (p_move rfl) ?_
   obtain ⟨k133, hd134⟩ := chk_some hd132
   refine AO.gp rfl rfl rfl (p_subE rfl rfl k133) ?_
   obtain ⟨b135, h136, hd137⟩ := bnd_some hd134
   refine AO.gc rfl rfl rfl (o_call (vs := [.int .i64 a3, .int .i64 0, .int .i64 (a0 - 1)]) rfl Try.call50 (W_spec_l01In fu G108 a3 0 (a0 - 1) b135 h136)) ?_
   refine AO.gp rfl rfl rfl (p_not rfl) ?_
   refine AO.p rfl (p_pickT rfl rfl) ?_
   refine AO.nil ?_
   have S139 := S110.front 1 rfl
   have S140 := S139.front 2 rfl
   have S141 := S140.keep 2
   exact ⟨(!b135), (some_inj hd137), S141, Sub.cons' rfl rfl (Sub.cons' rfl rfl (Sub.cons' rfl rfl (Sub.cons' rfl rfl (Sub.cons' rfl rfl (Sub.nil _)))))⟩
  ·have hd142 := bif_f c131 hb129
   refine AO.gn rfl rfl rfl ?_
   refine AO.gn rfl rfl rfl ?_
   refine AO.gn rfl rfl rfl ?_
   refine AO.gn rfl rfl rfl ?_
   refine AO.gn rfl rfl rfl ?_
   refine AO.p rfl (p_pickF rfl rfl) ?_
   refine AO.nil ?_
   have S143 := S110.front 1 rfl
   have S144 := S143.front 2 rfl
   have S145 := S144.keep 2
   exact ⟨false, (some_inj hd142), S145, Sub.cons' rfl rfl (Sub.cons' rfl rfl (Sub.cons' rfl rfl (Sub.cons' rfl rfl (Sub.cons' rfl rfl (Sub.nil _)))))⟩
 ·rintro t' G147 ⟨b127, rfl, S146, hsub148⟩
  refine AX.sub hsub148 ?_
  obtain ⟨r155, hb156, hd157⟩ := bnd_some hd130
  refine AX.cutS (fun t' H' => ∃ (x154 : Int), x154 = r155 ∧ St [] H H' [[(i101, AObj.row false (ints a1))], [(i105, AObj.row false (ints a2))]] ∧ Am.Sub [(3, .int .i64 a3), (5, .pointer (some ⟨i101, 0, none⟩)), (6, .pointer (some ⟨i105, 0, none⟩)), (10, .int .i64 x154)] t') ?_ ?_
  ·skip
   refine AX.cond rfl (fun c158 => ?_) (fun c158 => ?_)
   ·have hd159 := bif_t c158 hb156
    refine AX.region ?_
    refine AO.p rfl (p_assign rfl) ?_
    refine AO.nil ?_
    have S160 := S146.front 1 rfl
    have S161 := S160.front 1 rfl
    exact ⟨2, (some_inj hd159), S161, Sub.cons' rfl rfl (Sub.cons' rfl rfl (Sub.cons' rfl rfl (Sub.cons' rfl rfl (Sub.nil _))))⟩
   ·have hd162 := bif_f c158 hb156
    refine AX.skip ?_
    have S163 := S146.front 1 rfl
    have S164 := S163.front 1 rfl
    exact ⟨x112, (some_inj hd162), S164, Sub.cons' rfl rfl (Sub.cons' rfl rfl (Sub.cons' rfl rfl (Sub.cons' rfl rfl (Sub.nil _))))⟩
  ·rintro t' G166 ⟨x154, rfl, S165, hsub167⟩
   refine ⟨_, hsub167, ?_⟩
   refine AX.seq ?_
   refine AX.seq ?_
   refine AX.region ?_
   refine AO.p rfl (p_move rfl) ?_
   refine AO.p rfl (p_neq rfl rfl) ?_
   refine AO.nil ?_
   refine AX.cond rfl (fun c168 => ?_) (fun c168 => ?_)
   ·have hd169 := bif_t c168 hd157
    refine AX.seq ?_
    refine AX.region ?_
    refine AO.p rfl (p_move rfl) ?_
    refine AO.p rfl (p_assign rfl) ?_
    refine AO.p rfl (p_assign rfl) ?_
    refine AO.nil ?_
    refine AX.ret ?_
    obtain ⟨rfl, rfl⟩ := Prod.mk.inj (some_inj hd169)
    have S171 : St [] H G166 (oseg none (ints []) :: _) := S165.nilseg 0
    have S172 := S171.keep 1
    exact ⟨.inr rfl, _, res2 rfl (rv_tmp rfl) (rv_tmp rfl), none, 0, rfl, S172, Sb.nil⟩
   ·have hd173 := bif_f c168 hd157
    refine AX.skip ?_
    refine AX.seq ?_
    refine DR.startS [false, false, false, false, false, false, false] mix (by kernel_rfl) (fun hst => ?_)
    refine DR.p rfl rfl (p_move rfl) ?_
    obtain ⟨G174, i175, hii175, hHG174, S176⟩ := S165.new (AObj.row false (ints [a3]))
    refine DR.a rfl rfl hii175 hHG174 (a_buildInts (vs := [(0, .int .i64 a3)]) (xs := [a3]) Try.underlying58 Try.sizeOf2 Try.zeroValue2 rfl rfl (by decide) rfl rfl) ?_
    refine DR.r rfl rfl (r_loadN (vs := ints a1) rfl Try.isAgg54 Try.sizeOf54 (ints_len h_a1)) (many_row (row_cells (S176.get (k := 1) rfl)) bel_ints) ?_
    refine DR.r rfl rfl (r_loadN (vs := ints a2) rfl Try.isAgg54 Try.sizeOf54 (ints_len h_a2)) (many_row (row_cells (S176.get (k := 2) rfl)) bel_ints) ?_
    obtain ⟨G178, i179, hii179, hHG178, S180⟩ := S176.new (AObj.row false (ints [a1, a2].flatten))
    refine DR.a rfl rfl hii179 hHG178 (a_build2 (r := a1) (q := a2) (zr := List.replicate 14 0) Try.underlying35 Try.sizeOf54 Try.zeroValue54 rfl rfl (by decide) (by decide) rfl rfl h_a1 h_a2) ?_
    refine DR.p rfl rfl (p_assign rfl) ?_
    refine DR.p rfl rfl (p_assign rfl) ?_
    refine DR.nil 7 [] hst (by kernel_rfl) trivial ?_
    refine AX.seq ?_
    refine AX.region ?_
    refine AO.p rfl (p_assign rfl) ?_
    refine AO.nil ?_
    obtain ⟨r296, hl297, hd298⟩ := bnd_some hd173
    ·refine AX.block ?_
     refine AX.loopF (fun s' t' H' => ∃ (xs259 : List Int) (x261 : Int) (p257 : Option Addr) (c258 : Nat), (xs259, x261) = s' ∧ St [] H H' [oseg p257 (ints xs259), [(i179, AObj.row false (ints [a1, a2].flatten))]] ∧ Sb p257 (xs259.length) c258 1 ∧ Am.Sub [(3, .int .i64 a3), (11, .slice p257 xs259.length c258), (12, .slice (some (Addr.mk i179 0 none)) 2 2), (13, .int .i64 x261)] t') hl297 ?_ ?_
     ·skip
      have S299 := S180.front 0 rfl
      have S300 := S299.front 1 rfl
      have S301 := S300.keep 2
      exact ⟨[a3], 0, (some (Addr.mk i175 0 none)), 1, rfl, S301, (Sb.lit (n := 1) (by decide)), Sub.cons' rfl rfl (Sub.cons' rfl (sl_n (Eq.symm rfl)) (Sub.cons' rfl rfl (Sub.cons' rfl rfl (Sub.nil _))))⟩
     ·rintro n302 _ t' G306 ⟨xs259, x261, p257, c258, rfl, S305, Bo256, hsub307⟩ o308 ho303 hk304
      refine AX.sub hsub307 ?_
      unfold D_spec_ChainFrom_s0 at ho303
      refine AX.seq ?_
      refine AX.block ?_
      refine AX.seq ?_
      refine AX.region ?_
      refine AO.p rfl (p_move rfl) ?_
      refine AO.p rfl (p_move rfl) ?_
      refine AO.p rfl (p_len_slice rfl Try.underlying58) ?_
      obtain ⟨k309, hd310⟩ := chk_some ho303
      refine AO.p rfl (p_subE rfl rfl k309) ?_
      obtain ⟨k311, hd312⟩ := chk_some hd310
      refine AO.p rfl (s_indexV (q := (((xs259.length : Nat) : Int) - 1).toNat) Try.underlying58 Try.sizeOf2 rfl (Bo256.at (inR_pos k311)) rfl k311 (z1 _)) ?_
      refine AO.c rfl (s_load Try.isAgg2 rfl (row_cell (S305.oat (k := 0) rfl (Bo256.at (inR_pos k311))) (ints_get (lt_len rfl (inR_lt k311))))) ?_
      refine AO.p rfl (p_assign rfl) ?_
      refine AO.nil ?_
      refine AX.seq ?_
      refine AX.region ?_
      refine AO.p rfl (p_move rfl) ?_
      refine AO.p rfl (p_move rfl) ?_
      refine AO.p rfl (p_move rfl) ?_
      obtain ⟨k313, hd314⟩ := chk_some hd312
      refine AO.p rfl (s_indexV (q := x261.toNat * 14) Try.underlying35 Try.sizeOf54 rfl rfl rfl k313 (Nat.zero_add _)) ?_
      obtain ⟨k315, hd316⟩ := chk_some hd314
      refine AO.p rfl (s_indexAr (q := x261.toNat * 14 + (rd xs259 ((((xs259.length : Nat) : Int) - 1).toNat)).toNat) Try.underlying54 Try.sizeOf2 rfl rfl k315 (o1 _ _)) ?_
      refine AO.c rfl (s_load Try.isAgg2 rfl (row_cell (S305.get (k := 1) rfl) (flat_cell (all_two h_a1 h_a2) (lt_len rfl (inR_lt k313)) (inR_lt k315)))) ?_
      refine AO.p rfl (p_assign rfl) ?_
      refine AO.nil ?_
      refine AX.seq ?_
      refine AX.cut (fun t' H' => G306 = H' ∧ Am.Sub [(3, .int .i64 a3), (11, .slice p257 xs259.length c258), (12, .slice (some (Addr.mk i179 0 none)) 2 2), (13, .int .i64 x261), (15, .int .i64 (rd (rw_ [a1, a2] x261.toNat) ((rd xs259 ((((xs259.length : Nat) : Int) - 1).toNat)).toNat))), (59, .bool ((decide (rd (rw_ [a1, a2] x261.toNat) ((rd xs259 ((((xs259.length : Nat) : Int) - 1).toNat)).toNat) = a3)) || (decide (rd (rw_ [a1, a2] x261.toNat) ((rd xs259 ((((xs259.length : Nat) : Int) - 1).toNat)).toNat) = rd xs259 ((((xs259.length : Nat) : Int) - 1).toNat)))))] t') ?_ ?_
      ·skip
       refine AX.region ?_
       refine AO.p rfl (p_move rfl) ?_
       refine AO.p rfl (p_move rfl) ?_
       refine AO.p rfl (p_eql rfl rfl) ?_
       refine AO.p rfl (p_move rfl) ?_
       refine AO.cases (d := 55) rfl (fun c320 => ?_) (fun c320 => ?_)
       ·skip
        refine AO.gn rfl rfl rfl ?_
        refine AO.gn rfl rfl rfl ?_
        refine AO.gn rfl rfl rfl ?_
        refine AO.p rfl (p_pickT rfl rfl) ?_
        refine AO.nil ?_
        exact ⟨rfl, Sub.cons' rfl rfl (Sub.cons' rfl rfl (Sub.cons' rfl rfl (Sub.cons' rfl rfl (Sub.cons' rfl rfl (Sub.cons' rfl (bool_eq (by simp only [c320, Bool.true_and, Bool.false_and, Bool.and_true, Bool.and_false, Bool.true_or, Bool.false_or, Bool.or_true, Bool.or_false, Bool.not_true, Bool.not_false, cond_true, cond_false])) (Sub.nil _))))))⟩
       ·skip
        refine AO.gp rfl rfl rfl (p_move rfl) ?_
        refine AO.gp rfl rfl rfl (p_move rfl) ?_
        refine AO.gp rfl rfl rfl (p_eql rfl rfl) ?_
        refine AO.p rfl (p_pickF rfl rfl) ?_
        refine AO.nil ?_
        exact ⟨rfl, Sub.cons' rfl rfl (Sub.cons' rfl rfl (Sub.cons' rfl rfl (Sub.cons' rfl rfl (Sub.cons' rfl rfl (Sub.cons' rfl (bool_eq (by simp only [c320, Bool.true_and, Bool.false_and, Bool.and_true, Bool.and_false, Bool.true_or, Bool.false_or, Bool.or_true, Bool.or_false, Bool.not_true, Bool.not_false, cond_true, cond_false])) (Sub.nil _))))))⟩
      ·rintro t' _ ⟨rfl, hsub321⟩
       refine AX.sub hsub321 ?_
       refine AX.cond rfl (fun c322 => ?_) (fun c322 => ?_)
       ·have hd323 := bif_t c322 hd316
        refine AX.seq ?_
        refine AX.region ?_
        refine AO.p rfl (p_move rfl) ?_
        refine AO.p rfl (p_assign rfl) ?_
        refine AO.p rfl (p_assign rfl) ?_
        refine AO.nil ?_
        refine AX.ret ?_
        obtain rfl := some_inj hd323
        have z324 : _ = r296 := hk304
        subst z324
        obtain ⟨rfl, rfl⟩ := Prod.mk.inj (some_inj hd298)
        have S326 := S305.front 0 rfl
        have S327 := S326.keep 1
        exact ⟨.inr rfl, _, res2 rfl (rv_tmp rfl) (rv_tmp rfl), p257, c258, rfl, S327, Bo256⟩
       ·have hd328 := bif_f c322 hd316
        refine AX.skip ?_
        refine AX.region ?_
        refine AO.p rfl (p_move rfl) ?_
        refine AO.p rfl (p_move rfl) ?_
        obtain ⟨G329, i330, hii330, hHG329, S331⟩ := S305.new (AObj.row false (ints ([rd (rw_ [a1, a2] x261.toNat) ((rd xs259 ((((xs259.length : Nat) : Int) - 1).toNat)).toNat)])))
        refine AO.c rfl (s_buildInts (i := i330) (vs := [(0, .int .i64 (rd (rw_ [a1, a2] x261.toNat) ((rd xs259 ((((xs259.length : Nat) : Int) - 1).toNat)).toNat)))]) (xs := [rd (rw_ [a1, a2] x261.toNat) ((rd xs259 ((((xs259.length : Nat) : Int) - 1).toNat)).toNat)]) Try.underlying58 Try.sizeOf2 Try.zeroValue2 rfl rfl (by decide) rfl rfl hii330 hHG329) ?_
        obtain ⟨k333, hd334⟩ := chk_some hd328
        obtain ⟨p335, c336, G337, haG337, S338, Bp335⟩ := S331.app (k := 1) rfl Bo256 (ints ([rd (rw_ [a1, a2] x261.toNat) ((rd xs259 ((((xs259.length : Nat) : Int) - 1).toNat)).toNat)])) 1 (ints_len1 rfl)
        have S339 := S338.cellsEq (k := 1) (us' := ints (xs259 ++ [rd (rw_ [a1, a2] x261.toNat) ((rd xs259 ((((xs259.length : Nat) : Int) - 1).toNat)).toNat)])) (ints_app _ _) rfl
        have BS339 : Sb p335 ((xs259 ++ [rd (rw_ [a1, a2] x261.toNat) ((rd xs259 ((((xs259.length : Nat) : Int) - 1).toNat)).toNat)]).length) c336 1 := (show xs259.length + 1 = (xs259 ++ [rd (rw_ [a1, a2] x261.toNat) ((rd xs259 ((((xs259.length : Nat) : Int) - 1).toNat)).toNat)]).length from len_app (a := xs259) (b := [rd (rw_ [a1, a2] x261.toNat) ((rd xs259 ((((xs259.length : Nat) : Int) - 1).toNat)).toNat)]) rfl rfl) ▸ Bp335
        have S340 := S339.drop 0 rfl
        refine AO.c rfl (s_app (by_ := 8) (us := ints xs259) (vs := ints ([rd (rw_ [a1, a2] x261.toNat) ((rd xs259 ((((xs259.length : Nat) : Int) - 1).toNat)).toNat)])) Try.underlying58 Try.underlying58 Try.typeInfo2 Try.sizeOf2 Try.zeroValue2 rfl rfl rfl rfl rfl rfl rfl (S331.buf (k := 1) rfl Bo256 (ints_len1 rfl)) (S331.oview (k := 0) rfl (Sb.lit (n := 1) (by decide)) (ints_len1 rfl)) (ints_len1 rfl) ints_one k333 haG337 (show xs259.length + 1 = (xs259 ++ [rd (rw_ [a1, a2] x261.toNat) ((rd xs259 ((((xs259.length : Nat) : Int) - 1).toNat)).toNat)]).length from len_app (a := xs259) (b := [rd (rw_ [a1, a2] x261.toNat) ((rd xs259 ((((xs259.length : Nat) : Int) - 1).toNat)).toNat)]) rfl rfl)) ?_
        refine AO.p rfl (p_assign rfl) ?_
        refine AO.nil ?_
        refine AX.region ?_
        refine AO.p rfl (p_move rfl) ?_
        obtain ⟨k341, hd342⟩ := chk_some hd334
        refine AO.p rfl (p_subE rfl rfl k341) ?_
        refine AO.p rfl (p_assign rfl) ?_
        refine AO.nil ?_
        obtain rfl := some_inj hd342
        have S344 := S340.front 1 rfl
        have S345 := S344.front 1 rfl
        exact ⟨((xs259 ++ [rd (rw_ [a1, a2] x261.toNat) ((rd xs259 ((((xs259.length : Nat) : Int) - 1).toNat)).toNat)]), 1 - x261), hk304, (xs259 ++ [rd (rw_ [a1, a2] x261.toNat) ((rd xs259 ((((xs259.length : Nat) : Int) - 1).toNat)).toNat)]), (1 - x261), p335, c336, rfl, S345, BS339, Sub.cons' rfl rfl (Sub.cons' rfl rfl (Sub.cons' rfl rfl (Sub.cons' rfl rfl (Sub.nil _))))⟩

set_option maxHeartbeats 4000000 in
theorem W_impl_ChainFrom (fu : Nat) (H : AHeap) (a0 : Int) (a1 : List Int) (h_a1 : a1.length = 14) (a2 : List Int) (h_a2 : a2.length = 14) (a3 : Int) (r0 : List Int) (r1 : Int) (hd : D_impl_ChainFrom fu a0 a1 a2 a3 = some (r0, r1)) : ∃ v G', ACall Try.prog 41 [.int .i64 a0, .agg (ints a1).toArray, .agg (ints a2).toArray, .int .i64 a3] H v G' ∧ ∃ (p_r0 : Option Addr) (c_r0 : Nat), (v = .tuple #[.slice p_r0 r0.length c_r0, .int .i64 r1]) ∧ St [] H G' [oseg p_r0 (ints r0)] ∧ Sb p_r0 r0.length c_r0 1 := by
 refine ACall.bodyX (args := [.int .i64 a0, .agg (ints a1).toArray, .agg (ints a2).toArray, .int .i64 a3]) (N := 60) [(0, .int .i64 a0), (1, .agg (ints a1).toArray), (2, .agg (ints a2).toArray), (3, .int .i64 a3)] (fun v G' => ∃ (p_r0 : Option Addr) (c_r0 : Nat), (v = .tuple #[.slice p_r0 r0.length c_r0, .int .i64 r1]) ∧ St [] H G' [oseg p_r0 (ints r0)] ∧ Sb p_r0 r0.length c_r0 1) Try.func41 rfl rfl rfl rfl ?_
 unfold D_impl_ChainFrom at hd
 have S0 : St [] H H [] := St.nil H
 refine AX.seq ?_
 refine AX.region ?_
 obtain ⟨G100, i101, hii101, hHG100, S102⟩ := S0.new (AObj.row false (ints a1))
 refine AO.c rfl (s_box (i := i101) (cs := ints a1) rfl hii101 rfl hHG100) ?_
 obtain ⟨G104, i105, hii105, hHG104, S106⟩ := S102.new (AObj.row false (ints a2))
 refine AO.c rfl (s_box (i := i105) (cs := ints a2) rfl hii105 rfl hHG104) ?_
 refine AO.p rfl (p_assign rfl) ?_
 refine AO.p rfl (p_assign rfl) ?_
 refine AO.nil ?_
 refine AX.seq ?_
 refine AX.region ?_
 refine AO.p rfl (p_move rfl) ?_
 refine AO.c rfl (s_loadN (vs := ints a1) Try.isAgg54 Try.sizeOf54 rfl (ints_len h_a1) (row_cells (S106.get (k := 1) rfl))) ?_
 refine AO.c rfl (s_loadN (vs := ints a2) Try.isAgg54 Try.sizeOf54 rfl (ints_len h_a2) (row_cells (S106.get (k := 0) rfl))) ?_
 obtain ⟨x108, h109, hd110⟩ := bnd_some hd
 refine AO.c rfl (o_call (vs := [.int .i64 a0, .agg (ints a1).toArray, .agg (ints a2).toArray]) rfl Try.call96 (W_impl_twoCode fu G104 a0 a1 h_a1 a2 h_a2 x108 h109)) ?_
 refine AO.p rfl (p_assign rfl) ?_
 refine AO.nil ?_
 refine AX.seq ?_
 obtain ⟨r124, hb125, hd126⟩ := bnd_some hd110
 refine AX.cut (fun t' H' => ∃ (b123 : Bool), b123 = r124 ∧ St [] H H' [[(i101, AObj.row false (ints a1))], [(i105, AObj.row false (ints a2))]] ∧ Am.Sub [(3, .int .i64 a3), (5, .pointer (some ⟨i101, 0, none⟩)), (6, .pointer (some ⟨i105, 0, none⟩)), (10, .int .i64 x108), (28, .bool b123)] t') ?_ ?_
 ·skip
  refine AX.region ?_
  refine AO.p rfl (p_move rfl) ?_
  refine AO.p rfl (p_eql rfl rfl) ?_
  refine AO.p rfl (p_move rfl) ?_
  refine AO.cases (d := 22) rfl (fun c127 => ?_) (fun c127 => ?_)
  ·have hd128 := bif_t c127 hb125
   refine AO.gp rfl rfl rfl (p_move rfl) ?_
   refine AO.gp rfl rfl rfl (p_move rfl) ?_
   obtain ⟨k129, hd130⟩ := chk_some hd128
   refine AO.gp rfl rfl rfl (p_subE rfl rfl k129) ?_
   obtain ⟨b131, h132, hd133⟩ := bnd_some hd130
   refine AO.gc rfl rfl rfl (o_call (vs := [.int .i64 a3, .int .i64 0, .int .i64 (a0 - 1)]) rfl Try.call52 (W_impl_between fu G104 a3 0 (a0 - 1) b131 h132)) ?_
   refine AO.gp rfl rfl rfl (p_not rfl) ?_
   refine AO.p rfl (p_pickT rfl rfl) ?_
   refine AO.nil ?_
   have S135 := S106.front 0 rfl
   have S136 := S135.front 1 rfl
   exact ⟨(!b131), (some_inj hd133), S136, Sub.cons' rfl rfl (Sub.cons' rfl rfl (Sub.cons' rfl rfl (Sub.cons' rfl rfl (Sub.cons' rfl rfl (Sub.nil _)))))⟩
  ·have hd137 := bif_f c127 hb125
   refine AO.gn rfl rfl rfl ?_
   refine AO.gn rfl rfl rfl ?_
   refine AO.gn rfl rfl rfl ?_
   refine AO.gn rfl rfl rfl ?_
   refine AO.gn rfl rfl rfl ?_
   refine AO.p rfl (p_pickF rfl rfl) ?_
   refine AO.nil ?_
   have S138 := S106.front 0 rfl
   have S139 := S138.front 1 rfl
   exact ⟨false, (some_inj hd137), S139, Sub.cons' rfl rfl (Sub.cons' rfl rfl (Sub.cons' rfl rfl (Sub.cons' rfl rfl (Sub.cons' rfl rfl (Sub.nil _)))))⟩
 ·rintro t' G141 ⟨b123, rfl, S140, hsub142⟩
  refine AX.sub hsub142 ?_
  obtain ⟨r149, hb150, hd151⟩ := bnd_some hd126
  refine AX.cutS (fun t' H' => ∃ (x148 : Int), x148 = r149 ∧ St [] H H' [[(i101, AObj.row false (ints a1))], [(i105, AObj.row false (ints a2))]] ∧ Am.Sub [(3, .int .i64 a3), (5, .pointer (some ⟨i101, 0, none⟩)), (6, .pointer (some ⟨i105, 0, none⟩)), (10, .int .i64 x148)] t') ?_ ?_
  ·skip
   refine AX.cond rfl (fun c152 => ?_) (fun c152 => ?_)
   ·have hd153 := bif_t c152 hb150
    refine AX.region ?_
    refine AO.p rfl (p_assign rfl) ?_
    refine AO.nil ?_
    have S154 := S140.front 1 rfl
    have S155 := S154.front 1 rfl
    exact ⟨2, (some_inj hd153), S155, Sub.cons' rfl rfl (Sub.cons' rfl rfl (Sub.cons' rfl rfl (Sub.cons' rfl rfl (Sub.nil _))))⟩
   ·have hd156 := bif_f c152 hb150
    refine AX.skip ?_
    have S157 := S140.front 1 rfl
    have S158 := S157.front 1 rfl
    exact ⟨x108, (some_inj hd156), S158, Sub.cons' rfl rfl (Sub.cons' rfl rfl (Sub.cons' rfl rfl (Sub.cons' rfl rfl (Sub.nil _))))⟩
  ·rintro t' G160 ⟨x148, rfl, S159, hsub161⟩
   refine ⟨_, hsub161, ?_⟩
   refine AX.seq ?_
   refine AX.seq ?_
   refine AX.region ?_
   refine AO.p rfl (p_move rfl) ?_
   refine AO.p rfl (p_neq rfl rfl) ?_
   refine AO.nil ?_
   refine AX.cond rfl (fun c162 => ?_) (fun c162 => ?_)
   ·have hd163 := bif_t c162 hd151
    refine AX.seq ?_
    refine AX.region ?_
    refine AO.p rfl (p_move rfl) ?_
    refine AO.p rfl (p_assign rfl) ?_
    refine AO.p rfl (p_assign rfl) ?_
    refine AO.nil ?_
    refine AX.ret ?_
    obtain ⟨rfl, rfl⟩ := Prod.mk.inj (some_inj hd163)
    have S165 : St [] H G160 (oseg none (ints []) :: _) := S159.nilseg 0
    have S166 := S165.keep 1
    exact ⟨.inr rfl, _, res2 rfl (rv_tmp rfl) (rv_tmp rfl), none, 0, rfl, S166, Sb.nil⟩
   ·have hd167 := bif_f c162 hd151
    refine AX.skip ?_
    refine AX.seq ?_
    refine DR.startS [false, false, false, false, false, false, false, true, true] mix (by kernel_rfl) (fun hst => ?_)
    refine DR.p rfl rfl (p_move rfl) ?_
    obtain ⟨G168, i169, hii169, hHG168, S170⟩ := S159.new (AObj.row false (ints [a3]))
    refine DR.a rfl rfl hii169 hHG168 (a_buildInts (vs := [(0, .int .i64 a3)]) (xs := [a3]) Try.underlying58 Try.sizeOf2 Try.zeroValue2 rfl rfl (by decide) rfl rfl) ?_
    refine DR.r rfl rfl (r_loadN (vs := ints a1) rfl Try.isAgg54 Try.sizeOf54 (ints_len h_a1)) (many_row (row_cells (S170.get (k := 1) rfl)) bel_ints) ?_
    refine DR.r rfl rfl (r_loadN (vs := ints a2) rfl Try.isAgg54 Try.sizeOf54 (ints_len h_a2)) (many_row (row_cells (S170.get (k := 2) rfl)) bel_ints) ?_
    obtain ⟨G172, i173, hii173, hHG172, S174⟩ := S170.new (AObj.row false (ints (List.replicate 14 0)))
    refine DR.a rfl rfl hii173 hHG172 (a_alloc Try.zeroValue54 (flat_list rfl)) ?_
    obtain ⟨G176, i177, hii177, hHG176, S178⟩ := S174.new (AObj.row false (ints (List.replicate 14 0)))
    refine DR.a rfl rfl hii177 hHG176 (a_alloc Try.zeroValue54 (flat_list rfl)) ?_
    refine DR.p rfl rfl (p_assign rfl) ?_
    obtain ⟨G180, hHG180, S181⟩ := S178.set (k := 1) (i := i173) rfl (AObj.row false (ints a1))
    refine DR.s rfl (s_storeAll (vs := ints a1) Try.sizeOf54 rfl rfl ints_one (S178.get (k := 1) rfl) (ints_len h_a1) (ints_len len_rep) hHG180) (set_le hHG180) ?_
    obtain ⟨G182, hHG182, S183⟩ := S181.set (k := 0) (i := i177) rfl (AObj.row false (ints a2))
    refine DR.s rfl (s_storeAll (vs := ints a2) Try.sizeOf54 rfl rfl ints_one (S181.get (k := 0) rfl) (ints_len h_a2) (ints_len len_rep) hHG182) (set_le hHG182) ?_
    refine DR.nil 9 [(3, 7)] hst (by kernel_rfl) ⟨(rdN (fun _ => (S181.get (k := 4) rfl).trans (S178.get (k := 4) rfl).symm)), trivial⟩ ?_
    obtain ⟨r305, hl306, hd307⟩ := bnd_some hd167
    ·refine AX.block ?_
     refine AX.loopF (fun s' t' H' => ∃ (xs266 : List Int) (xs268 : List Int) (xs270 : List Int) (p264 : Option Addr) (c265 : Nat), (xs266, xs268, xs270) = s' ∧ St [] H H' [oseg p264 (ints xs266), [(i173, AObj.row false (ints xs268))], [(i177, AObj.row false (ints xs270))]] ∧ Sb p264 (xs266.length) c265 1 ∧ xs268.length = 14 ∧ xs270.length = 14 ∧ Am.Sub [(3, .int .i64 a3), (11, .slice p264 xs266.length c265), (12, .pointer (some ⟨i173, 0, none⟩)), (13, .pointer (some ⟨i177, 0, none⟩))] t') hl306 ?_ ?_
     ·skip
      have S308 := S183.front 0 rfl
      have S309 := S308.front 1 rfl
      have S310 := S309.front 2 rfl
      have S311 := S310.keep 3
      exact ⟨[a3], a1, a2, (some (Addr.mk i169 0 none)), 1, rfl, S311, (Sb.lit (n := 1) (by decide)), h_a1, h_a2, Sub.cons' rfl rfl (Sub.cons' rfl (sl_n (Eq.symm rfl)) (Sub.cons' rfl rfl (Sub.cons' rfl rfl (Sub.nil _))))⟩
     ·rintro n312 _ t' G316 ⟨xs266, xs268, xs270, p264, c265, rfl, S315, Bo263, lxs268, lxs270, hsub317⟩ o318 ho313 hk314
      refine AX.sub hsub317 ?_
      unfold D_impl_ChainFrom_s0 at ho313
      refine AX.block ?_
      refine AX.seq ?_
      refine AX.region ?_
      refine AO.p rfl (p_move rfl) ?_
      refine AO.p rfl (p_move rfl) ?_
      refine AO.p rfl (p_len_slice rfl Try.underlying58) ?_
      obtain ⟨k319, hd320⟩ := chk_some ho313
      refine AO.p rfl (p_subE rfl rfl k319) ?_
      obtain ⟨k321, hd322⟩ := chk_some hd320
      refine AO.p rfl (s_indexV (q := (((xs266.length : Nat) : Int) - 1).toNat) Try.underlying58 Try.sizeOf2 rfl (Bo263.at (inR_pos k321)) rfl k321 (z1 _)) ?_
      refine AO.c rfl (s_load Try.isAgg2 rfl (row_cell (S315.oat (k := 0) rfl (Bo263.at (inR_pos k321))) (ints_get (lt_len rfl (inR_lt k321))))) ?_
      refine AO.p rfl (p_assign rfl) ?_
      refine AO.nil ?_
      refine AX.seq ?_
      refine AX.region ?_
      refine AO.p rfl (p_move rfl) ?_
      obtain ⟨k323, hd324⟩ := chk_some hd322
      refine AO.p rfl (s_indexAr (q := (rd xs266 ((((xs266.length : Nat) : Int) - 1).toNat)).toNat) Try.underlying54 Try.sizeOf2 rfl rfl k323 (z1 _)) ?_
      refine AO.c rfl (s_load Try.isAgg2 rfl (row_cell (S315.get (k := 1) rfl) (ints_get (lt_len lxs268 (inR_lt k323))))) ?_
      refine AO.p rfl (p_assign rfl) ?_
      refine AO.nil ?_
      refine AX.seq ?_
      refine AX.cut (fun t' H' => G316 = H' ∧ Am.Sub [(3, .int .i64 a3), (11, .slice p264 xs266.length c265), (12, .pointer (some ⟨i173, 0, none⟩)), (13, .pointer (some ⟨i177, 0, none⟩)), (15, .int .i64 (rd xs268 ((rd xs266 ((((xs266.length : Nat) : Int) - 1).toNat)).toNat))), (52, .bool ((decide (rd xs268 ((rd xs266 ((((xs266.length : Nat) : Int) - 1).toNat)).toNat) = a3)) || (decide (rd xs268 ((rd xs266 ((((xs266.length : Nat) : Int) - 1).toNat)).toNat) = rd xs266 ((((xs266.length : Nat) : Int) - 1).toNat)))))] t') ?_ ?_
      ·skip
       refine AX.region ?_
       refine AO.p rfl (p_move rfl) ?_
       refine AO.p rfl (p_move rfl) ?_
       refine AO.p rfl (p_eql rfl rfl) ?_
       refine AO.p rfl (p_move rfl) ?_
       refine AO.cases (d := 48) rfl (fun c328 => ?_) (fun c328 => ?_)
       ·skip
        refine AO.gn rfl rfl rfl ?_
        refine AO.gn rfl rfl rfl ?_
        refine AO.gn rfl rfl rfl ?_
        refine AO.p rfl (p_pickT rfl rfl) ?_
        refine AO.nil ?_
        exact ⟨rfl, Sub.cons' rfl rfl (Sub.cons' rfl rfl (Sub.cons' rfl rfl (Sub.cons' rfl rfl (Sub.cons' rfl rfl (Sub.cons' rfl (bool_eq (by simp only [c328, Bool.true_and, Bool.false_and, Bool.and_true, Bool.and_false, Bool.true_or, Bool.false_or, Bool.or_true, Bool.or_false, Bool.not_true, Bool.not_false, cond_true, cond_false])) (Sub.nil _))))))⟩
       ·skip
        refine AO.gp rfl rfl rfl (p_move rfl) ?_
        refine AO.gp rfl rfl rfl (p_move rfl) ?_
        refine AO.gp rfl rfl rfl (p_eql rfl rfl) ?_
        refine AO.p rfl (p_pickF rfl rfl) ?_
        refine AO.nil ?_
        exact ⟨rfl, Sub.cons' rfl rfl (Sub.cons' rfl rfl (Sub.cons' rfl rfl (Sub.cons' rfl rfl (Sub.cons' rfl rfl (Sub.cons' rfl (bool_eq (by simp only [c328, Bool.true_and, Bool.false_and, Bool.and_true, Bool.and_false, Bool.true_or, Bool.false_or, Bool.or_true, Bool.or_false, Bool.not_true, Bool.not_false, cond_true, cond_false])) (Sub.nil _))))))⟩
      ·rintro t' _ ⟨rfl, hsub329⟩
       refine AX.sub hsub329 ?_
       refine AX.cond rfl (fun c330 => ?_) (fun c330 => ?_)
       ·have hd331 := bif_t c330 hd324
        refine AX.seq ?_
        refine AX.region ?_
        refine AO.p rfl (p_move rfl) ?_
        refine AO.p rfl (p_assign rfl) ?_
        refine AO.p rfl (p_assign rfl) ?_
        refine AO.nil ?_
        refine AX.ret ?_
        obtain rfl := some_inj hd331
        have z332 : _ = r305 := hk314
        subst z332
        obtain ⟨rfl, rfl⟩ := Prod.mk.inj (some_inj hd307)
        have S334 := S315.front 0 rfl
        have S335 := S334.keep 1
        exact ⟨.inr rfl, _, res2 rfl (rv_tmp rfl) (rv_tmp rfl), p264, c265, rfl, S335, Bo263⟩
       ·have hd336 := bif_f c330 hd324
        refine AX.skip ?_
        refine AX.seq ?_
        refine AX.region ?_
        refine AO.p rfl (p_move rfl) ?_
        refine AO.p rfl (p_move rfl) ?_
        obtain ⟨G337, i338, hii338, hHG337, S339⟩ := S315.new (AObj.row false (ints [rd xs268 ((rd xs266 ((((xs266.length : Nat) : Int) - 1).toNat)).toNat)]))
        refine AO.c rfl (s_buildInts (i := i338) (vs := [(0, .int .i64 (rd xs268 ((rd xs266 ((((xs266.length : Nat) : Int) - 1).toNat)).toNat)))]) (xs := [rd xs268 ((rd xs266 ((((xs266.length : Nat) : Int) - 1).toNat)).toNat)]) Try.underlying58 Try.sizeOf2 Try.zeroValue2 rfl rfl (by decide) rfl rfl hii338 hHG337) ?_
        obtain ⟨k341, hd342⟩ := chk_some hd336
        obtain ⟨p343, c344, G345, haG345, S346, Bp343⟩ := S339.app (k := 1) rfl Bo263 (ints [rd xs268 ((rd xs266 ((((xs266.length : Nat) : Int) - 1).toNat)).toNat)]) 1 (ints_len1 rfl)
        have S347 := S346.cellsEq (k := 1) (us' := ints (xs266 ++ [rd xs268 ((rd xs266 ((((xs266.length : Nat) : Int) - 1).toNat)).toNat)])) (ints_app _ _) rfl
        have BS347 : Sb p343 ((xs266 ++ [rd xs268 ((rd xs266 ((((xs266.length : Nat) : Int) - 1).toNat)).toNat)]).length) c344 1 := (show xs266.length + 1 = (xs266 ++ [rd xs268 ((rd xs266 ((((xs266.length : Nat) : Int) - 1).toNat)).toNat)]).length from len_app (a := xs266) (b := [rd xs268 ((rd xs266 ((((xs266.length : Nat) : Int) - 1).toNat)).toNat)]) rfl rfl) ▸ Bp343
        have S348 := S347.drop 0 rfl
        refine AO.c rfl (s_app (by_ := 8) (us := ints xs266) (vs := ints [rd xs268 ((rd xs266 ((((xs266.length : Nat) : Int) - 1).toNat)).toNat)]) Try.underlying58 Try.underlying58 Try.typeInfo2 Try.sizeOf2 Try.zeroValue2 rfl rfl rfl rfl rfl rfl rfl (S339.buf (k := 1) rfl Bo263 (ints_len1 rfl)) (S339.oview (k := 0) rfl (Sb.lit (n := 1) (by decide)) (ints_len1 rfl)) (ints_len1 rfl) ints_one k341 haG345 (show xs266.length + 1 = (xs266 ++ [rd xs268 ((rd xs266 ((((xs266.length : Nat) : Int) - 1).toNat)).toNat)]).length from len_app (a := xs266) (b := [rd xs268 ((rd xs266 ((((xs266.length : Nat) : Int) - 1).toNat)).toNat)]) rfl rfl)) ?_
        refine AO.p rfl (p_assign rfl) ?_
        refine AO.nil ?_
        refine AX.region ?_
        refine AO.c rfl (s_loadN (vs := ints xs270) Try.isAgg54 Try.sizeOf54 rfl (ints_len lxs270) (row_cells (S348.get (k := 2) rfl))) ?_
        refine AO.c rfl (s_loadN (vs := ints xs268) Try.isAgg54 Try.sizeOf54 rfl (ints_len lxs268) (row_cells (S348.get (k := 1) rfl))) ?_
        obtain ⟨G349, hHG349, S350⟩ := S348.set (k := 1) (i := i173) rfl (AObj.row false (ints xs270))
        refine AO.s (s_storeAll (vs := ints xs270) Try.sizeOf54 rfl rfl ints_one (S348.get (k := 1) rfl) (ints_len lxs270) (ints_len lxs268) hHG349) ?_
        obtain ⟨G351, hHG351, S352⟩ := S350.set (k := 2) (i := i177) rfl (AObj.row false (ints xs268))
        refine AO.s (s_storeAll (vs := ints xs268) Try.sizeOf54 rfl rfl ints_one (S350.get (k := 2) rfl) (ints_len lxs268) (ints_len lxs270) hHG351) ?_
        refine AO.nil ?_
        obtain rfl := some_inj hd342
        have S354 := S352.front 2 rfl
        have S355 := S354.front 2 rfl
        have S356 := S355.front 2 rfl
        exact ⟨((xs266 ++ [rd xs268 ((rd xs266 ((((xs266.length : Nat) : Int) - 1).toNat)).toNat)]), xs270, xs268), hk314, (xs266 ++ [rd xs268 ((rd xs266 ((((xs266.length : Nat) : Int) - 1).toNat)).toNat)]), xs270, xs268, p343, c344, rfl, S356, BS347, lxs270, lxs268, Sub.cons' rfl rfl (Sub.cons' rfl rfl (Sub.cons' rfl rfl (Sub.cons' rfl rfl (Sub.nil _))))⟩

end Go.Proofs.Ytdafmafigcljkaa
