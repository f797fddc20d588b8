/-
 The program computes that, printed by a program. No condition.
-/
import Derived.Test.YtdafmafigcljkaaDSa
import Derived.Test.YtdafmafigcljkaaWA
import Derived.Test.YtdafmafigcljkaaPw
import Derived.Test.YtdafmafigcljkaaAst
import Derived.Test.YtdafmafigcljkaaBit
import Derived.Test.YtdafmafigcljkaaFb
import Derived.Test.YtdafmafigcljkaaSrc
import Derived.Test.YtdafmafigcljkaaProg
import Derived.KernelRfl
namespace Go.Proofs.Ytdafmafigcljkaa
open Go Go.RowKit Am
set_option linter.unusedVariables false
set_option linter.unusedSimpArgs false
set_option maxRecDepth 20000
set_option maxHeartbeats 4000000 in
theorem W_spec_l01From (fu : Nat) (H : AHeap) (F : Sg) (p_a0 : Option Addr) (c_a0 : Nat) (a0 : List Int) (q_a0 : PV F p_a0 c_a0 a0) (hn : (([F] : List Sg).flatten.map (·.1)).Nodup) (ho : ∀ x ∈ ([F] : List Sg).flatten, x.1 < H.length ∧ hget H x.1 = x.2) (r0 : Int) (r1 : Int) (hd : D_spec_l01From fu a0 = some (r0, r1)) : ∃ v G', ACall Try.prog 93 [.slice p_a0 a0.length c_a0] H v G' ∧ ∃ (i_r0 : Nat) (F' : Sg), (v = .pointer (some ⟨i_r0, 0, none⟩)) ∧ St (([F] : List Sg).flatten.map (·.1)) H G' [[(i_r0, AObj.row false [.slice p_a0 a0.length c_a0, .int .i64 r0, .int .u64 r1])], F'] ∧ Pin F' F := by
 refine ACall.bodyX (args := [.slice p_a0 a0.length c_a0]) (N := 38) [(0, .slice p_a0 a0.length c_a0)] (fun v G' => ∃ (i_r0 : Nat) (F' : Sg), (v = .pointer (some ⟨i_r0, 0, none⟩)) ∧ St (([F] : List Sg).flatten.map (·.1)) H G' [[(i_r0, AObj.row false [.slice p_a0 a0.length c_a0, .int .i64 r0, .int .u64 r1])], F'] ∧ Pin F' F) Try.func93 rfl rfl rfl rfl ?_
 unfold D_spec_l01From at hd
 have S0 := St.initF hn ho
 generalize hM0 : (([F] : List Sg).flatten.map (·.1)) = M0 at S0 ⊢
 refine AX.seq ?_
 refine AX.region ?_
 refine AO.p rfl (p_assign rfl) ?_
 refine AO.nil ?_
 refine AX.seq ?_
 refine AX.region ?_
 refine AO.p rfl (p_move rfl) ?_
 refine AO.p rfl (p_move rfl) ?_
 refine AO.p rfl (p_len_slice rfl Try.underlying51) ?_
 refine AO.p rfl (p_conv Try.underlying3 Try.underlying118 rfl rfl) ?_
 refine AO.p rfl (p_add rfl rfl rfl) ?_
 refine AO.p rfl (p_build3 (vs := [(0, .slice p_a0 a0.length c_a0), (2, .int .u64 (IntKind.u64.wrap (13791 + (IntKind.u64.wrap ((a0.length : Nat) : Int)))))]) (cs := [.slice p_a0 a0.length c_a0, .int .i64 0, .int .u64 (IntKind.u64.wrap (13791 + (IntKind.u64.wrap ((a0.length : Nat) : Int))))]) Try.underlying125 rfl rfl rfl rfl Try.sizeOf51 Try.sizeOf3 Try.sizeOf118 Try.zeroValue125 rfl rfl rfl rfl rfl rfl) ?_
 obtain ⟨G100, i101, hii101, hHG100, S102⟩ := S0.new (AObj.row false ([.slice p_a0 a0.length c_a0, .int .i64 0, .int .u64 (IntKind.u64.wrap (13791 + (IntKind.u64.wrap ((a0.length : Nat) : Int))))]))
 refine AO.c rfl (s_box (i := i101) (cs := [.slice p_a0 a0.length c_a0, .int .i64 0, .int .u64 (IntKind.u64.wrap (13791 + (IntKind.u64.wrap ((a0.length : Nat) : Int))))]) rfl hii101 rfl hHG100) ?_
 refine AO.p rfl (p_assign rfl) ?_
 refine AO.nil ?_
 refine AX.seq ?_
 refine AX.seq ?_
 refine AX.region ?_
 refine AO.p rfl (p_assign rfl) ?_
 refine AO.nil ?_
 obtain ⟨r179, hl180, hd181⟩ := bnd_some hd
 refine AX.cutS (fun t' H' => ∃ (x178 : Int), x178 = r179 ∧ St M0 H H' [F, [(i101, AObj.row false ([.slice p_a0 a0.length c_a0, .int .i64 0, .int .u64 x178]))]] ∧ Pin F F ∧ PV F p_a0 c_a0 a0 ∧ Am.Sub [(3, .pointer (some ⟨i101, 0, none⟩))] t') ?_ ?_
 ·refine AX.block ?_
  refine AX.loopF (fun s' t' H' => ∃ (x154 : Int) (x155 : Int), (x154, x155) = s' ∧ St M0 H H' [F, [(i101, AObj.row false ([.slice p_a0 a0.length c_a0, .int .i64 0, .int .u64 x154]))]] ∧ Pin F F ∧ PV F p_a0 c_a0 a0 ∧ Am.Sub [(0, .slice p_a0 a0.length c_a0), (3, .pointer (some ⟨i101, 0, none⟩)), (4, .int .i64 x155)] t') hl180 ?_ ?_
  ·skip
   have S182 := S102.front 0 rfl
   have S183 := S182.front 1 rfl
   exact ⟨(IntKind.u64.wrap (13791 + (IntKind.u64.wrap ((a0.length : Nat) : Int)))), 0, rfl, S183, (Pin.refl F), q_a0, Sub.cons' rfl rfl (Sub.cons' rfl rfl (Sub.cons' rfl rfl (Sub.nil _)))⟩
  ·rintro n184 _ t' G188 ⟨x154, x155, rfl, S187, hF150, hv152, hsub189⟩ o190 ho185 hk186
   refine AX.sub hsub189 ?_
   unfold D_spec_l01From_s0 at ho185
   refine AX.seq ?_
   refine AX.cut (fun t' H' => G188 = H' ∧ Am.Sub [(0, .slice p_a0 a0.length c_a0), (3, .pointer (some ⟨i101, 0, none⟩)), (4, .int .i64 x155), (19, .bool ((decide (x155 < ((a0.length : Nat) : Int))) && (decide (x155 < 4096))))] t') ?_ ?_
   ·skip
    refine AX.region ?_
    refine AO.p rfl (p_move rfl) ?_
    refine AO.p rfl (p_move rfl) ?_
    refine AO.p rfl (p_len_slice rfl Try.underlying51) ?_
    refine AO.p rfl (p_lss rfl rfl) ?_
    refine AO.p rfl (p_move rfl) ?_
    refine AO.cases (d := 16) rfl (fun c194 => ?_) (fun c194 => ?_)
    ·skip
     refine AO.gp rfl rfl rfl (p_move rfl) ?_
     refine AO.gp rfl rfl rfl (p_lss rfl rfl) ?_
     refine AO.p rfl (p_pickT rfl rfl) ?_
     refine AO.nil ?_
     exact ⟨rfl, Sub.cons' rfl rfl (Sub.cons' rfl rfl (Sub.cons' rfl rfl (Sub.cons' rfl (bool_eq (by simp only [c194, Bool.true_and, Bool.false_and, Bool.and_true, Bool.and_false, Bool.true_or, Bool.false_or, Bool.or_true, Bool.or_false, Bool.not_true, Bool.not_false, cond_true, cond_false])) (Sub.nil _))))⟩
    ·skip
     refine AO.gn rfl rfl rfl ?_
     refine AO.gn rfl rfl rfl ?_
     refine AO.p rfl (p_pickF rfl rfl) ?_
     refine AO.nil ?_
     exact ⟨rfl, Sub.cons' rfl rfl (Sub.cons' rfl rfl (Sub.cons' rfl rfl (Sub.cons' rfl (bool_eq (by simp only [c194, Bool.true_and, Bool.false_and, Bool.and_true, Bool.and_false, Bool.true_or, Bool.false_or, Bool.or_true, Bool.or_false, Bool.not_true, Bool.not_false, cond_true, cond_false])) (Sub.nil _))))⟩
   ·rintro t' _ ⟨rfl, hsub195⟩
    refine AX.sub hsub195 ?_
    refine AX.cond rfl (fun c196 => ?_) (fun c196 => ?_)
    ·have hd197 := bif_t c196 ho185
     refine AX.skip ?_
     refine AX.seq ?_
     refine AX.block ?_
     refine DR.startS [false, false, false, false, false, false, false, false, false, false, false, false, false, false, false, true] mix (by kernel_rfl) (fun hst => ?_)
     refine DR.p rfl rfl (p_move rfl) ?_
     refine DR.p rfl rfl (p_move rfl) ?_
     refine DR.p rfl rfl (p_nilCheck rfl) ?_
     refine DR.p rfl rfl (s_fieldAddr Try.underlying125 rfl Try.sizeOf118 (by decide) rfl rfl) ?_
     refine DR.r rfl rfl (r_load rfl Try.isAgg118) (one_read (row_cell (S187.get (k := 1) rfl) rfl) (.of_flat0 rfl)) ?_
     refine DR.p rfl rfl (p_mul rfl rfl rfl) ?_
     refine DR.p rfl rfl (p_move rfl) ?_
     refine DR.p rfl rfl (p_move rfl) ?_
     obtain ⟨k198, hd199⟩ := chk_some hd197
     refine DR.p rfl rfl (s_indexV (q := off p_a0 + x155.toNat) Try.underlying51 Try.sizeOf5 rfl ((S187.pvview (k := 0) rfl hv152).p (bys_get (lt_len rfl (inR_lt k198)))) rfl k198 (o1 _ _)) ?_
     refine DR.r rfl rfl (r_load rfl Try.isAgg5) (one_read ((S187.pvview (k := 0) rfl hv152).get _ _ (bys_get (lt_len rfl (inR_lt k198)))) (.of_flat0 rfl)) ?_
     refine DR.p rfl rfl (p_conv Try.underlying5 Try.underlying118 rfl rfl) ?_
     refine DR.p rfl rfl (p_add rfl rfl rfl) ?_
     refine DR.p rfl rfl (p_add rfl rfl rfl) ?_
     refine DR.p rfl rfl (p_nilCheck rfl) ?_
     refine DR.p rfl rfl (s_fieldAddr Try.underlying125 rfl Try.sizeOf118 (by decide) rfl rfl) ?_
     obtain ⟨G200, hHG200, S201⟩ := S187.set (k := 1) (i := i101) rfl (AObj.row false ([.slice p_a0 a0.length c_a0, .int .i64 0, .int .u64 (IntKind.u64.wrap (IntKind.u64.wrap (IntKind.u64.wrap (x154 * 1099511628211) + (IntKind.u64.wrap (rd a0 x155.toNat))) + 223))]))
     have S202 : St M0 H G200 [F, [(i101, AObj.row false ([.slice p_a0 a0.length c_a0, .int .i64 0, .int .u64 (IntKind.u64.wrap (IntKind.u64.wrap (IntKind.u64.wrap (x154 * 1099511628211) + (IntKind.u64.wrap (rd a0 x155.toNat))) + 223))]))]] := S201
     refine DR.s rfl (s_store Try.sizeOf118 rfl rfl rfl (S187.get (k := 1) rfl) (Nat.le_of_ble_eq_true rfl) hHG200) (set_le hHG200) ?_
     refine DR.nil 16 [] hst (by kernel_rfl) trivial ?_
     refine AX.region ?_
     refine AO.p rfl (p_move rfl) ?_
     obtain ⟨k203, hd204⟩ := chk_some hd199
     refine AO.p rfl (p_addE rfl rfl k203) ?_
     refine AO.p rfl (p_assign rfl) ?_
     refine AO.nil ?_
     obtain rfl := some_inj hd204
     have S206 := S202.front 1 rfl
     have S207 := S206.front 1 rfl
     exact ⟨(IntKind.u64.wrap (IntKind.u64.wrap (IntKind.u64.wrap (x154 * 1099511628211) + (IntKind.u64.wrap (rd a0 x155.toNat))) + 223), x155 + 1), hk186, (IntKind.u64.wrap (IntKind.u64.wrap (IntKind.u64.wrap (x154 * 1099511628211) + (IntKind.u64.wrap (rd a0 x155.toNat))) + 223)), (x155 + 1), rfl, S207, hF150, hv152, Sub.cons' rfl rfl (Sub.cons' rfl rfl (Sub.cons' rfl rfl (Sub.nil _)))⟩
    ·have hd208 := bif_f c196 ho185
     refine AX.exit ?_
     obtain rfl := some_inj hd208
     have S209 := S187.front 1 rfl
     have S210 := S209.front 1 rfl
     exact ⟨x154, hk186, S210, hF150, hv152, Sub.cons' rfl rfl (Sub.nil _)⟩
 ·rintro t' G212 ⟨x178, rfl, S211, hF174, hv177, hsub213⟩
  refine ⟨_, hsub213, ?_⟩
  refine AX.seq ?_
  refine AX.region ?_
  refine AO.p rfl (p_move rfl) ?_
  refine AO.p rfl (p_assign rfl) ?_
  refine AO.nil ?_
  refine AX.ret ?_
  obtain ⟨rfl, rfl⟩ := Prod.mk.inj (some_inj hd181)
  have S215 := S211.front 0 rfl
  have S216 := S215.front 1 rfl
  exact ⟨.inr rfl, _, res1 rfl (rv_tmp rfl), i101, F, rfl, S216, hF174⟩

set_option maxHeartbeats 4000000 in
theorem W_spec_l01Next (fu : Nat) (H : AHeap) (F : Sg) (a1 : Int) (i_n0 : Nat) (p_n0_0 : Option Addr) (c_n0_0 : Nat) (n0_0 : List Int) (q_n0_0 : PV F p_n0_0 c_n0_0 n0_0) (n0_1 : Int) (n0_2 : Int) (hn : (([[(i_n0, AObj.row false ([.slice p_n0_0 n0_0.length c_n0_0, .int .i64 n0_1, .int .u64 n0_2]))], F] : List Sg).flatten.map (·.1)).Nodup) (ho : ∀ x ∈ ([[(i_n0, AObj.row false ([.slice p_n0_0 n0_0.length c_n0_0, .int .i64 n0_1, .int .u64 n0_2]))], F] : List Sg).flatten, x.1 < H.length ∧ hget H x.1 = x.2) (r0 : Int) (m_n0_1 : Int) (m_n0_2 : Int) (hd : D_spec_l01Next fu a1 n0_0 n0_1 n0_2 = some (r0, m_n0_1, m_n0_2)) : ∃ v G', ACall Try.prog 102 [.pointer (some ⟨i_n0, 0, none⟩), .int .i64 a1] H v G' ∧ ∃ (F' : Sg), (v = .int .i64 r0) ∧ St (([[(i_n0, AObj.row false ([.slice p_n0_0 n0_0.length c_n0_0, .int .i64 n0_1, .int .u64 n0_2]))], F] : List Sg).flatten.map (·.1)) H G' [[(i_n0, AObj.row false ([.slice p_n0_0 n0_0.length c_n0_0, .int .i64 m_n0_1, .int .u64 m_n0_2]))], F'] ∧ Pin F' F := by
 refine ACall.bodyX (args := [.pointer (some ⟨i_n0, 0, none⟩), .int .i64 a1]) (N := 58) [(0, .pointer (some ⟨i_n0, 0, none⟩)), (1, .int .i64 a1)] (fun v G' => ∃ (F' : Sg), (v = .int .i64 r0) ∧ St (([[(i_n0, AObj.row false ([.slice p_n0_0 n0_0.length c_n0_0, .int .i64 n0_1, .int .u64 n0_2]))], F] : List Sg).flatten.map (·.1)) H G' [[(i_n0, AObj.row false ([.slice p_n0_0 n0_0.length c_n0_0, .int .i64 m_n0_1, .int .u64 m_n0_2]))], F'] ∧ Pin F' F) Try.func102 rfl rfl rfl rfl ?_
 unfold D_spec_l01Next at hd
 have S0 := St.initF hn ho
 generalize hM0 : (([[(i_n0, AObj.row false ([.slice p_n0_0 n0_0.length c_n0_0, .int .i64 n0_1, .int .u64 n0_2]))], F] : List Sg).flatten.map (·.1)) = M0 at S0 ⊢
 refine AX.seq ?_
 refine AX.region ?_
 refine AO.p rfl (p_assign rfl) ?_
 refine AO.nil ?_
 refine AX.seq ?_
 refine AX.seq ?_
 refine AX.region ?_
 refine AO.p rfl (p_move rfl) ?_
 refine AO.p rfl (p_lss rfl rfl) ?_
 refine AO.nil ?_
 refine AX.cond rfl (fun c100 => ?_) (fun c100 => ?_)
 ·have hd101 := bif_t c100 hd
  refine AX.seq ?_
  refine AX.region ?_
  refine AO.p rfl (p_assign rfl) ?_
  refine AO.nil ?_
  refine AX.ret ?_
  obtain ⟨rfl, z102⟩ := Prod.mk.inj (some_inj hd101)
  obtain ⟨rfl, rfl⟩ := Prod.mk.inj z102
  have S104 := S0.front 1 rfl
  have S105 := S104.front 1 rfl
  exact ⟨.inr rfl, _, res1 rfl (rv_tmp rfl), F, rfl, S105, (Pin.refl F)⟩
 ·have hd106 := bif_f c100 hd
  refine AX.skip ?_
  refine AX.seq ?_
  refine AX.region ?_
  refine AO.p rfl (p_move rfl) ?_
  refine AO.p rfl (p_move rfl) ?_
  refine AO.p rfl (p_nilCheck rfl) ?_
  refine AO.p rfl (s_fieldAddr Try.underlying125 rfl Try.sizeOf118 (by decide) rfl rfl) ?_
  refine AO.c rfl (s_load Try.isAgg118 rfl (row_cell (S0.get (k := 0) rfl) rfl)) ?_
  refine AO.p rfl (p_mul rfl rfl rfl) ?_
  refine AO.p rfl (p_add rfl rfl rfl) ?_
  refine AO.p rfl (p_nilCheck rfl) ?_
  refine AO.p rfl (s_fieldAddr Try.underlying125 rfl Try.sizeOf118 (by decide) rfl rfl) ?_
  obtain ⟨G107, hHG107, S108⟩ := S0.set (k := 0) (i := i_n0) rfl (AObj.row false ([.slice p_n0_0 n0_0.length c_n0_0, .int .i64 n0_1, .int .u64 (IntKind.u64.wrap (IntKind.u64.wrap (n0_2 * 6364136223846793005) + 1442695040888963407))]))
  have S109 : St M0 H G107 [[(i_n0, AObj.row false ([.slice p_n0_0 n0_0.length c_n0_0, .int .i64 n0_1, .int .u64 (IntKind.u64.wrap (IntKind.u64.wrap (n0_2 * 6364136223846793005) + 1442695040888963407))]))], F] := S108
  refine AO.s (s_store Try.sizeOf118 rfl rfl rfl (S0.get (k := 0) rfl) (Nat.le_of_ble_eq_true rfl) hHG107) ?_
  refine AO.nil ?_
  refine AX.seq ?_
  refine AX.region ?_
  refine AO.p rfl (p_move rfl) ?_
  refine AO.p rfl (p_nilCheck rfl) ?_
  refine AO.p rfl (s_fieldAddr Try.underlying125 rfl Try.sizeOf118 (by decide) rfl rfl) ?_
  refine AO.c rfl (s_load Try.isAgg118 rfl (row_cell (S109.get (k := 0) rfl) rfl)) ?_
  refine AO.p rfl (p_shrE rfl rfl (by decide)) ?_
  refine AO.p rfl (p_andE rfl rfl) ?_
  refine AO.p rfl (p_conv Try.underlying118 Try.underlying2 rfl rfl) ?_
  refine AO.p rfl (p_assign rfl) ?_
  refine AO.nil ?_
  refine AX.seq ?_
  refine AX.seq ?_
  refine DR.startS [false, false, false, false, false, false, false, false, false, false] mix (by kernel_rfl) (fun hst => ?_)
  refine DR.p rfl rfl (p_move rfl) ?_
  refine DR.p rfl rfl (p_nilCheck rfl) ?_
  refine DR.p rfl rfl (s_fieldAddr Try.underlying125 rfl Try.sizeOf3 (by decide) rfl rfl) ?_
  refine DR.r rfl rfl (r_load rfl Try.isAgg3) (one_read (row_cell (S109.get (k := 0) rfl) rfl) (.of_flat0 rfl)) ?_
  refine DR.p rfl rfl (p_move rfl) ?_
  refine DR.p rfl rfl (p_nilCheck rfl) ?_
  refine DR.p rfl rfl (s_fieldAddr Try.underlying125 rfl Try.sizeOf51 (by decide) rfl rfl) ?_
  refine DR.r rfl rfl (r_load rfl Try.isAgg51) (one_read (row_cell (S109.get (k := 0) rfl) rfl) (S109.pvview (k := 1) rfl q_n0_0).inn.bel) ?_
  refine DR.p rfl rfl (p_len_slice rfl Try.underlying51) ?_
  refine DR.p rfl rfl (p_lss rfl rfl) ?_
  refine DR.nil 10 [] hst (by kernel_rfl) trivial ?_
  obtain ⟨r130, hb131, hd132⟩ := bnd_some hd106
  refine AX.cutS (fun t' H' => ∃ (x128 : Int) (x129 : Int), (x128, x129) = r130 ∧ St M0 H H' [F, [(i_n0, AObj.row false ([.slice p_n0_0 n0_0.length c_n0_0, .int .i64 x128, .int .u64 (IntKind.u64.wrap (IntKind.u64.wrap (n0_2 * 6364136223846793005) + 1442695040888963407))]))]] ∧ Pin F F ∧ PV F p_n0_0 c_n0_0 n0_0 ∧ Am.Sub [(1, .int .i64 a1), (5, .int .i64 x129)] t') ?_ ?_
  ·skip
   refine AX.cond rfl (fun c133 => ?_) (fun c133 => ?_)
   ·have hd134 := bif_t c133 hb131
    refine AX.seq ?_
    refine DR.startS [false, false, false, false, false, false, false, false, false, false, false, false, false, false] mix (by kernel_rfl) (fun hst => ?_)
    refine DR.p rfl rfl (p_move rfl) ?_
    refine DR.p rfl rfl (p_move rfl) ?_
    refine DR.p rfl rfl (p_nilCheck rfl) ?_
    refine DR.p rfl rfl (s_fieldAddr Try.underlying125 rfl Try.sizeOf51 (by decide) rfl rfl) ?_
    refine DR.r rfl rfl (r_load rfl Try.isAgg51) (one_read (row_cell (S109.get (k := 0) rfl) rfl) (S109.pvview (k := 1) rfl q_n0_0).inn.bel) ?_
    refine DR.p rfl rfl (p_move rfl) ?_
    refine DR.p rfl rfl (p_nilCheck rfl) ?_
    refine DR.p rfl rfl (s_fieldAddr Try.underlying125 rfl Try.sizeOf3 (by decide) rfl rfl) ?_
    refine DR.r rfl rfl (r_load rfl Try.isAgg3) (one_read (row_cell (S109.get (k := 0) rfl) rfl) (.of_flat0 rfl)) ?_
    obtain ⟨k135, hd136⟩ := chk_some hd134
    refine DR.p rfl rfl (s_indexV (q := off p_n0_0 + n0_1.toNat) Try.underlying51 Try.sizeOf5 rfl ((S109.pvview (k := 1) rfl q_n0_0).p (bys_get (lt_len rfl (inR_lt k135)))) rfl k135 (o1 _ _)) ?_
    refine DR.r rfl rfl (r_load rfl Try.isAgg5) (one_read ((S109.pvview (k := 1) rfl q_n0_0).get _ _ (bys_get (lt_len rfl (inR_lt k135)))) (.of_flat0 rfl)) ?_
    obtain ⟨k137, hd138⟩ := chk_some hd136
    refine DR.p rfl rfl (p_convI Try.underlying5 Try.underlying2 rfl k137) ?_
    obtain ⟨k139, hd140⟩ := chk_some hd138
    refine DR.p rfl rfl (p_addE rfl rfl k139) ?_
    refine DR.p rfl rfl (p_assign rfl) ?_
    refine DR.nil 14 [] hst (by kernel_rfl) trivial ?_
    refine AX.region ?_
    refine AO.p rfl (p_move rfl) ?_
    refine AO.p rfl (p_move rfl) ?_
    refine AO.p rfl (p_nilCheck rfl) ?_
    refine AO.p rfl (s_fieldAddr Try.underlying125 rfl Try.sizeOf3 (by decide) rfl rfl) ?_
    refine AO.c rfl (s_load Try.isAgg3 rfl (row_cell (S109.get (k := 0) rfl) rfl)) ?_
    obtain ⟨k141, hd142⟩ := chk_some hd140
    refine AO.p rfl (p_addE rfl rfl k141) ?_
    refine AO.p rfl (p_nilCheck rfl) ?_
    refine AO.p rfl (s_fieldAddr Try.underlying125 rfl Try.sizeOf3 (by decide) rfl rfl) ?_
    obtain ⟨G143, hHG143, S144⟩ := S109.set (k := 0) (i := i_n0) rfl (AObj.row false ([.slice p_n0_0 n0_0.length c_n0_0, .int .i64 (n0_1 + 1), .int .u64 (IntKind.u64.wrap (IntKind.u64.wrap (n0_2 * 6364136223846793005) + 1442695040888963407))]))
    have S145 : St M0 H G143 [[(i_n0, AObj.row false ([.slice p_n0_0 n0_0.length c_n0_0, .int .i64 (n0_1 + 1), .int .u64 (IntKind.u64.wrap (IntKind.u64.wrap (n0_2 * 6364136223846793005) + 1442695040888963407))]))], F] := S144
    refine AO.s (s_store Try.sizeOf3 rfl rfl rfl (S109.get (k := 0) rfl) (Nat.le_of_ble_eq_true rfl) hHG143) ?_
    refine AO.nil ?_
    have S146 := S145.front 0 rfl
    have S147 := S146.front 1 rfl
    exact ⟨(n0_1 + 1), (IntKind.i64.wrap (iand .u64 (ishr .u64 (IntKind.u64.wrap (IntKind.u64.wrap (n0_2 * 6364136223846793005) + 1442695040888963407)) 33) 16777215) + (rd n0_0 n0_1.toNat)), (some_inj hd142), S147, (Pin.refl F), q_n0_0, Sub.cons' rfl rfl (Sub.cons' rfl rfl (Sub.nil _))⟩
   ·have hd148 := bif_f c133 hb131
    refine AX.skip ?_
    have S149 := S109.front 0 rfl
    have S150 := S149.front 1 rfl
    exact ⟨n0_1, (IntKind.i64.wrap (iand .u64 (ishr .u64 (IntKind.u64.wrap (IntKind.u64.wrap (n0_2 * 6364136223846793005) + 1442695040888963407)) 33) 16777215)), (some_inj hd148), S150, (Pin.refl F), q_n0_0, Sub.cons' rfl rfl (Sub.cons' rfl rfl (Sub.nil _))⟩
  ·rintro t' G152 ⟨x128, x129, rfl, S151, hF124, hv127, hsub153⟩
   refine ⟨_, hsub153, ?_⟩
   refine AX.seq ?_
   refine AX.region ?_
   refine AO.p rfl (p_move rfl) ?_
   refine AO.p rfl (p_move rfl) ?_
   obtain ⟨k154, hd155⟩ := chk_some hd132
   refine AO.p rfl (p_remE rfl rfl k154) ?_
   refine AO.p rfl (p_assign rfl) ?_
   refine AO.nil ?_
   refine AX.ret ?_
   obtain ⟨rfl, z156⟩ := Prod.mk.inj (some_inj hd155)
   obtain ⟨rfl, rfl⟩ := Prod.mk.inj z156
   have S158 := S151.front 0 rfl
   have S159 := S158.front 1 rfl
   exact ⟨.inr rfl, _, res1 rfl (rv_tmp rfl), F, rfl, S159, hF124⟩

set_option maxHeartbeats 4000000 in
theorem W_spec_l01Pick (fu : Nat) (H : AHeap) (F : Sg) (i_n0 : Nat) (p_n0_0 : Option Addr) (c_n0_0 : Nat) (n0_0 : List Int) (q_n0_0 : PV F p_n0_0 c_n0_0 n0_0) (n0_1 : Int) (n0_2 : Int) (p_n1 : Option Addr) (k_n1 c_n1 : Nat) (n1 : List Int) (l_n1 : n1.length = k_n1) (s_n1 : Sb p_n1 k_n1 c_n1 1) (hn : (([[(i_n0, AObj.row false ([.slice p_n0_0 n0_0.length c_n0_0, .int .i64 n0_1, .int .u64 n0_2]))], oseg p_n1 (ints n1), F] : List Sg).flatten.map (·.1)).Nodup) (ho : ∀ x ∈ ([[(i_n0, AObj.row false ([.slice p_n0_0 n0_0.length c_n0_0, .int .i64 n0_1, .int .u64 n0_2]))], oseg p_n1 (ints n1), F] : List Sg).flatten, x.1 < H.length ∧ hget H x.1 = x.2) (r0 : Int) (m_n0_1 : Int) (m_n0_2 : Int) (hd : D_spec_l01Pick fu n0_0 n0_1 n0_2 k_n1 n1 = some (r0, m_n0_1, m_n0_2)) : ∃ v G', ACall Try.prog 135 [.pointer (some ⟨i_n0, 0, none⟩), .slice p_n1 k_n1 c_n1] H v G' ∧ ∃ (F' : Sg), (v = .int .i64 r0) ∧ St (([[(i_n0, AObj.row false ([.slice p_n0_0 n0_0.length c_n0_0, .int .i64 n0_1, .int .u64 n0_2]))], oseg p_n1 (ints n1), F] : List Sg).flatten.map (·.1)) H G' [[(i_n0, AObj.row false ([.slice p_n0_0 n0_0.length c_n0_0, .int .i64 m_n0_1, .int .u64 m_n0_2]))], oseg p_n1 (ints n1), F'] ∧ Pin F' F := by
 refine ACall.bodyX (args := [.pointer (some ⟨i_n0, 0, none⟩), .slice p_n1 k_n1 c_n1]) (N := 12) [(0, .pointer (some ⟨i_n0, 0, none⟩)), (1, .slice p_n1 k_n1 c_n1)] (fun v G' => ∃ (F' : Sg), (v = .int .i64 r0) ∧ St (([[(i_n0, AObj.row false ([.slice p_n0_0 n0_0.length c_n0_0, .int .i64 n0_1, .int .u64 n0_2]))], oseg p_n1 (ints n1), F] : List Sg).flatten.map (·.1)) H G' [[(i_n0, AObj.row false ([.slice p_n0_0 n0_0.length c_n0_0, .int .i64 m_n0_1, .int .u64 m_n0_2]))], oseg p_n1 (ints n1), F'] ∧ Pin F' F) Try.func135 rfl rfl rfl rfl ?_
 unfold D_spec_l01Pick at hd
 have S0 := St.initF hn ho
 generalize hM0 : (([[(i_n0, AObj.row false ([.slice p_n0_0 n0_0.length c_n0_0, .int .i64 n0_1, .int .u64 n0_2]))], oseg p_n1 (ints n1), F] : List Sg).flatten.map (·.1)) = M0 at S0 ⊢
 refine AX.seq ?_
 refine AX.region ?_
 refine AO.p rfl (p_assign rfl) ?_
 refine AO.nil ?_
 refine AX.seq ?_
 refine AX.region ?_
 refine AO.p rfl (p_move rfl) ?_
 refine AO.p rfl (p_move rfl) ?_
 refine AO.p rfl (p_move rfl) ?_
 refine AO.p rfl (p_len_slice rfl Try.underlying58) ?_
 have S100 := S0.front 2 rfl
 have S101 := S100.front 1 rfl
 have S102 : St M0 H H [[(i_n0, AObj.row false ([.slice p_n0_0 n0_0.length c_n0_0, .int .i64 n0_1, .int .u64 n0_2]))], F, oseg p_n1 (ints n1)] := S101
 obtain ⟨⟨x103, x104, x105⟩, h106, hd107⟩ := bnd_some hd
 obtain ⟨_, G110, hc112, F108, rfl, S111, hF109⟩ := W_spec_l01Next fu H F ((k_n1 : Nat) : Int) i_n0 p_n0_0 c_n0_0 n0_0 q_n0_0 n0_1 n0_2 (St.fnodup (A := [[(i_n0, AObj.row false ([.slice p_n0_0 n0_0.length c_n0_0, .int .i64 n0_1, .int .u64 n0_2]))], F]) S102) (St.fmem (A := [[(i_n0, AObj.row false ([.slice p_n0_0 n0_0.length c_n0_0, .int .i64 n0_1, .int .u64 n0_2]))], F]) S102) x103 x104 x105 h106
 have S113 := St.callM (A := [[(i_n0, AObj.row false ([.slice p_n0_0 n0_0.length c_n0_0, .int .i64 n0_1, .int .u64 n0_2]))], F]) S102 S111 (fun j h => h)
 refine AO.c rfl (o_call (vs := [.pointer (some ⟨i_n0, 0, none⟩), .int .i64 ((k_n1 : Nat) : Int)]) rfl Try.call102 hc112) ?_
 obtain ⟨k114, hd115⟩ := chk_some hd107
 refine AO.p rfl (s_indexV (q := x103.toNat) Try.underlying58 Try.sizeOf2 rfl (s_n1.at (inR_pos k114)) rfl k114 (z1 _)) ?_
 refine AO.c rfl (s_load Try.isAgg2 rfl (row_cell (S113.oat (k := 2) rfl (s_n1.at (inR_pos k114))) (ints_get (lt_len l_n1 (inR_lt k114))))) ?_
 refine AO.p rfl (p_assign rfl) ?_
 refine AO.nil ?_
 refine AX.ret ?_
 obtain ⟨rfl, z116⟩ := Prod.mk.inj (some_inj hd115)
 obtain ⟨rfl, rfl⟩ := Prod.mk.inj z116
 have S118 := S113.front 1 rfl
 have S119 := S118.front 2 rfl
 have S120 := S119.front 2 rfl
 exact ⟨.inr rfl, _, res1 rfl (rv_tmp rfl), F108, rfl, S120, ((Pin.refl F).mono hF109)⟩

set_option maxHeartbeats 4000000 in
theorem W_spec_l01DrawOrder (fu : Nat) (H : AHeap) (F : Sg) (a1 : Int) (i_n0 : Nat) (p_n0_0 : Option Addr) (c_n0_0 : Nat) (n0_0 : List Int) (q_n0_0 : PV F p_n0_0 c_n0_0 n0_0) (n0_1 : Int) (n0_2 : Int) (hn : (([[(i_n0, AObj.row false ([.slice p_n0_0 n0_0.length c_n0_0, .int .i64 n0_1, .int .u64 n0_2]))], F] : List Sg).flatten.map (·.1)).Nodup) (ho : ∀ x ∈ ([[(i_n0, AObj.row false ([.slice p_n0_0 n0_0.length c_n0_0, .int .i64 n0_1, .int .u64 n0_2]))], F] : List Sg).flatten, x.1 < H.length ∧ hget H x.1 = x.2) (r0 : List Int) (m_n0_1 : Int) (m_n0_2 : Int) (hd : D_spec_l01DrawOrder fu a1 n0_0 n0_1 n0_2 = some (r0, m_n0_1, m_n0_2)) : ∃ v G', ACall Try.prog 163 [.pointer (some ⟨i_n0, 0, none⟩), .int .i64 a1] H v G' ∧ ∃ (p_r0 : Option Addr) (c_r0 : Nat) (F' : Sg), (v = .slice p_r0 r0.length c_r0) ∧ St (([[(i_n0, AObj.row false ([.slice p_n0_0 n0_0.length c_n0_0, .int .i64 n0_1, .int .u64 n0_2]))], F] : List Sg).flatten.map (·.1)) H G' [oseg p_r0 (ints r0), [(i_n0, AObj.row false ([.slice p_n0_0 n0_0.length c_n0_0, .int .i64 m_n0_1, .int .u64 m_n0_2]))], F'] ∧ Sb p_r0 r0.length c_r0 1 ∧ Pin F' F := by
 refine ACall.bodyX (args := [.pointer (some ⟨i_n0, 0, none⟩), .int .i64 a1]) (N := 30) [(0, .pointer (some ⟨i_n0, 0, none⟩)), (1, .int .i64 a1)] (fun v G' => ∃ (p_r0 : Option Addr) (c_r0 : Nat) (F' : Sg), (v = .slice p_r0 r0.length c_r0) ∧ St (([[(i_n0, AObj.row false ([.slice p_n0_0 n0_0.length c_n0_0, .int .i64 n0_1, .int .u64 n0_2]))], F] : List Sg).flatten.map (·.1)) H G' [oseg p_r0 (ints r0), [(i_n0, AObj.row false ([.slice p_n0_0 n0_0.length c_n0_0, .int .i64 m_n0_1, .int .u64 m_n0_2]))], F'] ∧ Sb p_r0 r0.length c_r0 1 ∧ Pin F' F) Try.func163 rfl rfl rfl rfl ?_
 unfold D_spec_l01DrawOrder at hd
 have S0 := St.initF hn ho
 generalize hM0 : (([[(i_n0, AObj.row false ([.slice p_n0_0 n0_0.length c_n0_0, .int .i64 n0_1, .int .u64 n0_2]))], F] : List Sg).flatten.map (·.1)) = M0 at S0 ⊢
 refine AX.seq ?_
 refine AX.region ?_
 refine AO.p rfl (p_assign rfl) ?_
 refine AO.nil ?_
 refine AX.seq ?_
 refine AX.region ?_
 obtain ⟨G100, i101, hii101, hHG100, S102⟩ := S0.new (AObj.row false (ints []))
 refine AO.c rfl (s_build0 (i := i101) Try.underlying58 Try.sizeOf2 hii101 hHG100) ?_
 refine AO.p rfl (p_assign rfl) ?_
 refine AO.nil ?_
 refine AX.seq ?_
 refine AX.seq ?_
 refine AX.region ?_
 refine AO.p rfl (p_assign rfl) ?_
 refine AO.nil ?_
 obtain ⟨r318, hl319, hd320⟩ := bnd_some hd
 refine AX.cutS (fun t' H' => ∃ (x312 : Int) (x313 : Int) (xs317 : List Int) (F307 : Sg) (p315 : Option Addr) (c316 : Nat), (x312, x313, xs317) = r318 ∧ St M0 H H' [F307, [(i_n0, AObj.row false ([.slice p_n0_0 n0_0.length c_n0_0, .int .i64 x312, .int .u64 x313]))], oseg p315 (ints xs317)] ∧ Pin F307 F ∧ PV F307 p_n0_0 c_n0_0 n0_0 ∧ Sb p315 (xs317.length) c316 1 ∧ Am.Sub [(5, .slice p315 xs317.length c316)] t') ?_ ?_
 ·refine AX.block ?_
  refine AX.loopF (fun s' t' H' => ∃ (x242 : Int) (x243 : Int) (xs247 : List Int) (x248 : Int) (F237 : Sg) (p245 : Option Addr) (c246 : Nat), (x242, x243, xs247, x248) = s' ∧ St M0 H H' [F237, [(i_n0, AObj.row false ([.slice p_n0_0 n0_0.length c_n0_0, .int .i64 x242, .int .u64 x243]))], oseg p245 (ints xs247)] ∧ Pin F237 F ∧ PV F237 p_n0_0 c_n0_0 n0_0 ∧ Sb p245 (xs247.length) c246 1 ∧ Am.Sub [(0, .pointer (some ⟨i_n0, 0, none⟩)), (1, .int .i64 a1), (5, .slice p245 xs247.length c246), (6, .int .i64 x248)] t') hl319 ?_ ?_
  ·skip
   have S321 := S102.front 0 rfl
   have S322 := S321.front 1 rfl
   have S323 := S322.front 2 rfl
   exact ⟨n0_1, n0_2, [], 0, F, (some (Addr.mk i101 0 none)), 0, rfl, S323, (Pin.refl F), q_n0_0, (Sb.lit (n := 0) (by decide)), Sub.cons' rfl rfl (Sub.cons' rfl rfl (Sub.cons' rfl rfl (Sub.cons' rfl rfl (Sub.nil _))))⟩
  ·rintro n324 _ t' G328 ⟨x242, x243, xs247, x248, F237, p245, c246, rfl, S327, hF238, hv241, Bo244, hsub329⟩ o330 ho325 hk326
   refine AX.sub hsub329 ?_
   unfold D_spec_l01DrawOrder_s0 at ho325
   refine AX.seq ?_
   refine AX.seq ?_
   refine AX.region ?_
   refine AO.p rfl (p_move rfl) ?_
   refine AO.p rfl (p_move rfl) ?_
   refine AO.p rfl (p_lss rfl rfl) ?_
   refine AO.nil ?_
   refine AX.cond rfl (fun c331 => ?_) (fun c331 => ?_)
   ·have hd332 := bif_t c331 ho325
    refine AX.skip ?_
    refine AX.seq ?_
    refine AX.block ?_
    refine AX.seq ?_
    refine AX.region ?_
    refine AO.p rfl (p_move rfl) ?_
    refine AO.p rfl (p_move rfl) ?_
    obtain ⟨k333, hd334⟩ := chk_some hd332
    refine AO.p rfl (p_addE rfl rfl k333) ?_
    have S335 := S327.front 0 rfl
    have S336 := S335.front 1 rfl
    have S337 : St M0 H G328 [[(i_n0, AObj.row false ([.slice p_n0_0 n0_0.length c_n0_0, .int .i64 x242, .int .u64 x243]))], F237, oseg p245 (ints xs247)] := S336
    obtain ⟨⟨x338, x339, x340⟩, h341, hd342⟩ := bnd_some hd334
    obtain ⟨_, G345, hc347, F343, rfl, S346, hF344⟩ := W_spec_l01Next fu G328 F237 (x248 + 1) i_n0 p_n0_0 c_n0_0 n0_0 hv241 x242 x243 (St.fnodup (A := [[(i_n0, AObj.row false ([.slice p_n0_0 n0_0.length c_n0_0, .int .i64 x242, .int .u64 x243]))], F237]) S337) (St.fmem (A := [[(i_n0, AObj.row false ([.slice p_n0_0 n0_0.length c_n0_0, .int .i64 x242, .int .u64 x243]))], F237]) S337) x338 x339 x340 h341
    have S348 := St.callM (A := [[(i_n0, AObj.row false ([.slice p_n0_0 n0_0.length c_n0_0, .int .i64 x242, .int .u64 x243]))], F237]) S337 S346 (fun j h => h)
    refine AO.c rfl (o_call (vs := [.pointer (some ⟨i_n0, 0, none⟩), .int .i64 (x248 + 1)]) rfl Try.call102 hc347) ?_
    refine AO.p rfl (p_assign rfl) ?_
    refine AO.nil ?_
    refine DR.startS [false, false, false, true, false, false, true, false, false, false, true, false] mix (by kernel_rfl) (fun hst => ?_)
    refine DR.p rfl rfl (p_move rfl) ?_
    refine DR.p rfl rfl (p_move rfl) ?_
    obtain ⟨k349, hd350⟩ := chk_some hd342
    refine DR.p rfl rfl (p_subT Try.underlying58 Try.sizeOf2 rfl rfl Bo244 rfl k349) ?_
    obtain ⟨xs351, h352, hd353⟩ := bnd_some hd350
    obtain ⟨_, G359, hc358, p354, c355, rfl, S360, B357⟩ := W_spec_l01Own fu G345 p245 c246 (xs247.take x338.toNat) (by rw [show List.length (xs247.take x338.toNat) = x338.toNat from (len_takeI rfl (z_le k349.2))]; exact (Vw.takeI (S348.oview (k := 2) rfl Bo244 (ints_len1 rfl)) rfl (z_le k349.2))) xs351 h352
    rw [show List.length (xs247.take x338.toNat) = x338.toNat from (len_takeI rfl (z_le k349.2))] at hc358
    have S361 := S348.call S360
    refine DR.w rfl rfl (o_call (vs := [.slice p245 x338.toNat c246]) rfl Try.call114 hc358) (S360.len) ?_
    refine DR.p rfl rfl (p_move rfl) ?_
    obtain ⟨G362, i363, hii363, hHG362, S364⟩ := S361.new (AObj.row false (ints [x248]))
    refine DR.a rfl rfl hii363 hHG362 (a_buildInts (vs := [(0, .int .i64 x248)]) (xs := [x248]) Try.underlying58 Try.sizeOf2 Try.zeroValue2 rfl rfl (by decide) rfl rfl) ?_
    obtain ⟨k366, hd367⟩ := chk_some hd353
    obtain ⟨p368, c369, G370, haG370, S371, Bp368⟩ := S364.app (k := 1) rfl B357 (ints [x248]) 1 (ints_len1 rfl)
    have S372 := S371.cellsEq (k := 1) (us' := ints (xs351 ++ [x248])) (ints_app _ _) rfl
    have BS372 : Sb p368 ((xs351 ++ [x248]).length) c369 1 := (show xs351.length + 1 = (xs351 ++ [x248]).length from len_app (a := xs351) (b := [x248]) rfl rfl) ▸ Bp368
    have S373 := S372.drop 0 rfl
    refine DR.w rfl rfl (s_app (by_ := 8) (us := ints xs351) (vs := ints [x248]) Try.underlying58 Try.underlying58 Try.typeInfo2 Try.sizeOf2 Try.zeroValue2 rfl rfl rfl rfl rfl rfl rfl (S364.buf (k := 1) rfl B357 (ints_len1 rfl)) (S364.oview (k := 0) rfl (Sb.lit (n := 1) (by decide)) (ints_len1 rfl)) (ints_len1 rfl) ints_one k366 haG370 (show xs351.length + 1 = (xs351 ++ [x248]).length from len_app (a := xs351) (b := [x248]) rfl rfl)) (appR_len haG370) ?_
    refine DR.p rfl rfl (p_move rfl) ?_
    refine DR.p rfl rfl (p_move rfl) ?_
    obtain ⟨k374, hd375⟩ := chk_some hd367
    refine DR.p rfl rfl (p_subD Try.underlying58 Try.sizeOf2 rfl Bo244 rfl k374) ?_
    obtain ⟨k376, hd377⟩ := chk_some hd375
    obtain ⟨p378, c379, G380, haG380, S381, Bp378⟩ := S373.app (k := 0) rfl BS372 (ints (xs247.drop x338.toNat)) (xs247.length - x338.toNat) (ints_len1 (len_dropI (l := x338.toNat) rfl))
    have S382 := S381.cellsEq (k := 0) (us' := ints ((xs351 ++ [x248]) ++ (xs247.drop x338.toNat))) (ints_app _ _) rfl
    have BS382 : Sb p378 (((xs351 ++ [x248]) ++ (xs247.drop x338.toNat)).length) c379 1 := (show (xs351 ++ [x248]).length + (xs247.length - x338.toNat) = ((xs351 ++ [x248]) ++ (xs247.drop x338.toNat)).length from len_app (a := (xs351 ++ [x248])) (b := (xs247.drop x338.toNat)) rfl (len_dropI (l := x338.toNat) rfl)) ▸ Bp378
    refine DR.w rfl rfl (s_app (by_ := 8) (us := ints (xs351 ++ [x248])) (vs := ints (xs247.drop x338.toNat)) Try.underlying58 Try.underlying58 Try.typeInfo2 Try.sizeOf2 Try.zeroValue2 rfl rfl rfl rfl rfl rfl rfl (S373.buf (k := 0) rfl BS372 (ints_len1 rfl)) (Vw.dropI (S373.oview (k := 3) rfl Bo244 (ints_len1 rfl)) rfl (z_le k374.2)) (ints_len1 (len_dropI (l := x338.toNat) rfl)) ints_one k376 haG380 (show (xs351 ++ [x248]).length + (xs247.length - x338.toNat) = ((xs351 ++ [x248]) ++ (xs247.drop x338.toNat)).length from len_app (a := (xs351 ++ [x248])) (b := (xs247.drop x338.toNat)) rfl (len_dropI (l := x338.toNat) rfl))) (appR_len haG380) ?_
    refine DR.p rfl rfl (p_assign rfl) ?_
    refine DR.nil 12 [(5, 3)] hst (by kernel_rfl) ⟨(fun h => absurd h (by decide)), trivial⟩ ?_
    refine AX.region ?_
    refine AO.p rfl (p_move rfl) ?_
    obtain ⟨k383, hd384⟩ := chk_some hd377
    refine AO.p rfl (p_addE rfl rfl k383) ?_
    refine AO.p rfl (p_assign rfl) ?_
    refine AO.nil ?_
    obtain rfl := some_inj hd384
    have S386 := S382.front 0 rfl
    have S387 := S386.front 1 rfl
    have S388 := S387.front 2 rfl
    have S389 := S388.keep 3
    exact ⟨(x339, x340, ((xs351 ++ [x248]) ++ (xs247.drop x338.toNat)), x248 + 1), hk326, x339, x340, ((xs351 ++ [x248]) ++ (xs247.drop x338.toNat)), (x248 + 1), F343, p378, c379, rfl, S389, (hF238.mono hF344), (hv241.mono hF344), BS382, Sub.cons' rfl rfl (Sub.cons' rfl rfl (Sub.cons' rfl rfl (Sub.cons' rfl rfl (Sub.nil _))))⟩
   ·have hd390 := bif_f c331 ho325
    refine AX.exit ?_
    obtain rfl := some_inj hd390
    have S391 := S327.front 2 rfl
    have S392 := S391.front 2 rfl
    have S393 := S392.front 2 rfl
    exact ⟨x242, x243, xs247, F237, p245, c246, hk326, S393, hF238, hv241, Bo244, Sub.cons' rfl rfl (Sub.nil _)⟩
 ·rintro t' G395 ⟨x312, x313, xs317, F307, p315, c316, rfl, S394, hF308, hv311, Bo314, hsub396⟩
  refine ⟨_, hsub396, ?_⟩
  refine AX.seq ?_
  refine AX.region ?_
  refine AO.p rfl (p_move rfl) ?_
  refine AO.p rfl (p_assign rfl) ?_
  refine AO.nil ?_
  refine AX.ret ?_
  obtain ⟨rfl, z397⟩ := Prod.mk.inj (some_inj hd320)
  obtain ⟨rfl, rfl⟩ := Prod.mk.inj z397
  have S399 := S394.front 0 rfl
  have S400 := S399.front 1 rfl
  have S401 := S400.front 2 rfl
  exact ⟨.inr rfl, _, res1 rfl (rv_tmp rfl), p315, c316, F307, rfl, S401, Bo314, hF308⟩

set_option maxHeartbeats 4000000 in
theorem W_spec_l01DrawRound (fu : Nat) (H : AHeap) (F : Sg) (a1 : Int) (i_n0 : Nat) (p_n0_0 : Option Addr) (c_n0_0 : Nat) (n0_0 : List Int) (q_n0_0 : PV F p_n0_0 c_n0_0 n0_0) (n0_1 : Int) (n0_2 : Int) (hn : (([[(i_n0, AObj.row false ([.slice p_n0_0 n0_0.length c_n0_0, .int .i64 n0_1, .int .u64 n0_2]))], F] : List Sg).flatten.map (·.1)).Nodup) (ho : ∀ x ∈ ([[(i_n0, AObj.row false ([.slice p_n0_0 n0_0.length c_n0_0, .int .i64 n0_1, .int .u64 n0_2]))], F] : List Sg).flatten, x.1 < H.length ∧ hget H x.1 = x.2) (r0 : List Int) (m_n0_1 : Int) (m_n0_2 : Int) (hd : D_spec_l01DrawRound fu a1 n0_0 n0_1 n0_2 = some (r0, m_n0_1, m_n0_2)) : ∃ v G', ACall Try.prog 136 [.pointer (some ⟨i_n0, 0, none⟩), .int .i64 a1] H v G' ∧ ∃ (F' : Sg), (v = .agg (ints r0).toArray) ∧ St (([[(i_n0, AObj.row false ([.slice p_n0_0 n0_0.length c_n0_0, .int .i64 n0_1, .int .u64 n0_2]))], F] : List Sg).flatten.map (·.1)) H G' [[(i_n0, AObj.row false ([.slice p_n0_0 n0_0.length c_n0_0, .int .i64 m_n0_1, .int .u64 m_n0_2]))], F'] ∧ r0.length = 14 ∧ Pin F' F := by
 refine ACall.bodyX (args := [.pointer (some ⟨i_n0, 0, none⟩), .int .i64 a1]) (N := 45) [(0, .pointer (some ⟨i_n0, 0, none⟩)), (1, .int .i64 a1)] (fun v G' => ∃ (F' : Sg), (v = .agg (ints r0).toArray) ∧ St (([[(i_n0, AObj.row false ([.slice p_n0_0 n0_0.length c_n0_0, .int .i64 n0_1, .int .u64 n0_2]))], F] : List Sg).flatten.map (·.1)) H G' [[(i_n0, AObj.row false ([.slice p_n0_0 n0_0.length c_n0_0, .int .i64 m_n0_1, .int .u64 m_n0_2]))], F'] ∧ r0.length = 14 ∧ Pin F' F) Try.func136 rfl rfl rfl rfl ?_
 unfold D_spec_l01DrawRound at hd
 have S0 := St.initF hn ho
 generalize hM0 : (([[(i_n0, AObj.row false ([.slice p_n0_0 n0_0.length c_n0_0, .int .i64 n0_1, .int .u64 n0_2]))], F] : List Sg).flatten.map (·.1)) = M0 at S0 ⊢
 refine AX.seq ?_
 refine AX.region ?_
 obtain ⟨G100, i101, hii101, hHG100, S102⟩ := S0.new (AObj.row false (ints (List.replicate 14 0)))
 refine AO.c rfl (s_alloc (i := i101) (cs := ints (List.replicate 14 0)) Try.zeroValue54 rfl rfl hii101 hHG100) ?_
 refine AO.nil ?_
 refine AX.seq ?_
 refine AX.region ?_
 refine AO.p rfl (p_move rfl) ?_
 refine AO.p rfl (p_move rfl) ?_
 have S104 := S102.front 2 rfl
 have S105 := S104.front 2 rfl
 have S106 : St M0 H G100 [[(i_n0, AObj.row false ([.slice p_n0_0 n0_0.length c_n0_0, .int .i64 n0_1, .int .u64 n0_2]))], F, [(i101, AObj.row false (ints (List.replicate 14 0)))]] := S105
 obtain ⟨⟨xs107, x108, x109⟩, h110, hd111⟩ := bnd_some hd
 obtain ⟨_, G118, hc120, p113, c114, F112, rfl, S119, B115, hF117⟩ := W_spec_l01DrawOrder fu G100 F a1 i_n0 p_n0_0 c_n0_0 n0_0 q_n0_0 n0_1 n0_2 (St.fnodup (A := [[(i_n0, AObj.row false ([.slice p_n0_0 n0_0.length c_n0_0, .int .i64 n0_1, .int .u64 n0_2]))], F]) S106) (St.fmem (A := [[(i_n0, AObj.row false ([.slice p_n0_0 n0_0.length c_n0_0, .int .i64 n0_1, .int .u64 n0_2]))], F]) S106) xs107 x108 x109 h110
 have S121 := St.callM (A := [[(i_n0, AObj.row false ([.slice p_n0_0 n0_0.length c_n0_0, .int .i64 n0_1, .int .u64 n0_2]))], F]) S106 S119 (fun j h => h)
 refine AO.c rfl (o_call (vs := [.pointer (some ⟨i_n0, 0, none⟩), .int .i64 a1]) rfl Try.call163 hc120) ?_
 obtain ⟨G122, i123, hii123, hHG122, S124⟩ := S121.new (AObj.row false (tcells []))
 have S124t := S124.nilseg 1
 refine AO.c rfl (s_build0 (i := i123) Try.underlying43 Try.sizeOf58 hii123 hHG122) ?_
 refine AO.p rfl (p_move rfl) ?_
 have S126 := S124t.front 4 rfl
 have S127 := S126.front 4 rfl
 have S128 : St M0 H G122 [[(i_n0, AObj.row false ([.slice p_n0_0 n0_0.length c_n0_0, .int .i64 x108, .int .u64 x109]))], F112, [(i123, AObj.row false (tcells []))], tseg [], oseg p113 (ints xs107), [(i101, AObj.row false (ints (List.replicate 14 0)))]] := S127
 obtain ⟨⟨x129, x130, x131⟩, h132, hd133⟩ := bnd_some hd111
 obtain ⟨_, G136, hc138, F134, rfl, S137, hF135⟩ := W_spec_l01Next fu G122 F112 3 i_n0 p_n0_0 c_n0_0 n0_0 (q_n0_0.mono hF117) x108 x109 (St.fnodup (A := [[(i_n0, AObj.row false ([.slice p_n0_0 n0_0.length c_n0_0, .int .i64 x108, .int .u64 x109]))], F112]) S128) (St.fmem (A := [[(i_n0, AObj.row false ([.slice p_n0_0 n0_0.length c_n0_0, .int .i64 x108, .int .u64 x109]))], F112]) S128) x129 x130 x131 h132
 have S139 := St.callM (A := [[(i_n0, AObj.row false ([.slice p_n0_0 n0_0.length c_n0_0, .int .i64 x108, .int .u64 x109]))], F112]) S128 S137 (fun j h => h)
 refine AO.c rfl (o_call (vs := [.pointer (some ⟨i_n0, 0, none⟩), .int .i64 3]) rfl Try.call102 hc138) ?_
 refine AO.p rfl (p_eql rfl rfl) ?_
 refine AO.p rfl (p_assign rfl) ?_
 refine AO.p rfl (p_assign rfl) ?_
 refine AO.p rfl (p_assign rfl) ?_
 refine AO.nil ?_
 refine AX.seq ?_
 refine AX.seq ?_
 refine AX.region ?_
 refine AO.p rfl (p_assign rfl) ?_
 refine AO.nil ?_
 obtain ⟨r499, hl500, hd501⟩ := bnd_some hd133
 refine AX.cutS (fun t' H' => ∃ (x491 : Int) (x492 : Int) (rs497 : List (List Int)) (F486 : Sg) (p495 : Option Addr) (c496 : Nat) (T498 : Tb), (x491, x492, rs497) = r499 ∧ St M0 H H' [F486, [(i_n0, AObj.row false ([.slice p_n0_0 n0_0.length c_n0_0, .int .i64 x491, .int .u64 x492]))], [(i101, AObj.row false (ints (List.replicate 14 0)))], oseg p495 (tcells T498), tseg T498] ∧ Pin F486 F ∧ PV F486 p_n0_0 c_n0_0 n0_0 ∧ trows T498 = rs497 ∧ TSb T498 ∧ Sb p495 (rs497.length) c496 1 ∧ Am.Sub [(1, .int .i64 a1), (4, .pointer (some ⟨i101, 0, none⟩)), (6, .slice p495 rs497.length c496)] t') ?_ ?_
 ·refine AX.block ?_
  refine AX.loopF (fun s' t' H' => ∃ (x373 : Int) (x374 : Int) (rs380 : List (List Int)) (x382 : Int) (F368 : Sg) (p378 : Option Addr) (c379 : Nat) (T381 : Tb), (x373, x374, rs380, x382) = s' ∧ St M0 H H' [F368, [(i_n0, AObj.row false ([.slice p_n0_0 n0_0.length c_n0_0, .int .i64 x373, .int .u64 x374]))], [(i101, AObj.row false (ints (List.replicate 14 0)))], oseg p113 (ints xs107), oseg p378 (tcells T381), tseg T381] ∧ Pin F368 F ∧ PV F368 p_n0_0 c_n0_0 n0_0 ∧ trows T381 = rs380 ∧ TSb T381 ∧ Sb p378 (rs380.length) c379 1 ∧ Am.Sub [(0, .pointer (some ⟨i_n0, 0, none⟩)), (1, .int .i64 a1), (4, .pointer (some ⟨i101, 0, none⟩)), (5, .slice p113 xs107.length c114), (6, .slice p378 rs380.length c379), (7, .bool (decide (x129 = 0))), (8, .int .i64 x382)] t') hl500 ?_ ?_
  ·skip
   have S502 := S139.front 3 rfl
   have S503 := S502.front 3 rfl
   have S504 := S503.front 4 rfl
   have S505 := S504.front 5 rfl
   have S506 := S505.front 4 rfl
   have S507 := S506.front 5 rfl
   exact ⟨x130, x131, [], 0, F134, (some (Addr.mk i123 0 none)), 0, [], rfl, S507, (((Pin.refl F).mono hF117).mono hF135), ((q_n0_0.mono hF117).mono hF135), rfl, TSb.nil, (Sb.lit (n := 0) (by decide)), Sub.cons' rfl rfl (Sub.cons' rfl rfl (Sub.cons' rfl rfl (Sub.cons' rfl rfl (Sub.cons' rfl rfl (Sub.cons' rfl rfl (Sub.cons' rfl rfl (Sub.nil _)))))))⟩
  ·rintro n508 _ t' G512 ⟨x373, x374, rs380, x382, F368, p378, c379, T381, rfl, S511, hF369, hv372, tT381, sT381, Bo377, hsub513⟩ o514 ho509 hk510
   refine AX.sub hsub513 ?_
   unfold D_spec_l01DrawRound_s0 at ho509
   refine AX.seq ?_
   refine AX.seq ?_
   refine AX.region ?_
   refine AO.p rfl (p_move rfl) ?_
   obtain ⟨k515, hd516⟩ := chk_some ho509
   refine AO.p rfl (p_addE rfl rfl k515) ?_
   refine AO.p rfl (p_move rfl) ?_
   refine AO.p rfl (p_lss rfl rfl) ?_
   refine AO.nil ?_
   refine AX.cond rfl (fun c517 => ?_) (fun c517 => ?_)
   ·have hd518 := bif_t c517 hd516
    refine AX.skip ?_
    refine AX.seq ?_
    refine AX.block ?_
    obtain ⟨r547, hb548, hd549⟩ := bnd_some hd518
    refine AX.cut (fun t' H' => ∃ (x541 : Int) (x542 : Int) (b546 : Bool) (F536 : Sg), (x541, x542, b546) = r547 ∧ St M0 H H' [F536, [(i_n0, AObj.row false ([.slice p_n0_0 n0_0.length c_n0_0, .int .i64 x541, .int .u64 x542]))], [(i101, AObj.row false (ints (List.replicate 14 0)))], oseg p113 (ints xs107), oseg p378 (tcells T381), tseg T381] ∧ Pin F536 F ∧ PV F536 p_n0_0 c_n0_0 n0_0 ∧ Am.Sub [(0, .pointer (some ⟨i_n0, 0, none⟩)), (1, .int .i64 a1), (4, .pointer (some ⟨i101, 0, none⟩)), (5, .slice p113 xs107.length c114), (6, .slice p378 rs380.length c379), (7, .bool (decide (x129 = 0))), (8, .int .i64 x382), (28, .bool b546)] t') ?_ ?_
    ·skip
     refine AX.region ?_
     refine AO.p rfl (p_move rfl) ?_
     refine AO.p rfl (p_not rfl) ?_
     refine AO.p rfl (p_move rfl) ?_
     refine AO.cases (d := 24) rfl (fun c550 => ?_) (fun c550 => ?_)
     ·have hd551 := bif_t c550 hb548
      refine AO.gn rfl rfl rfl ?_
      refine AO.gn rfl rfl rfl ?_
      refine AO.gn rfl rfl rfl ?_
      refine AO.p rfl (p_pickT rfl rfl) ?_
      refine AO.nil ?_
      have S552 := S511.front 5 rfl
      have S553 := S552.front 5 rfl
      have S554 := S553.front 5 rfl
      have S555 := S554.front 5 rfl
      have S556 := S555.front 5 rfl
      have S557 := S556.front 5 rfl
      exact ⟨x373, x374, true, F368, (some_inj hd551), S557, hF369, hv372, Sub.cons' rfl rfl (Sub.cons' rfl rfl (Sub.cons' rfl rfl (Sub.cons' rfl rfl (Sub.cons' rfl rfl (Sub.cons' rfl rfl (Sub.cons' rfl rfl (Sub.cons' rfl rfl (Sub.nil _))))))))⟩
     ·have hd558 := bif_f c550 hb548
      refine AO.gp rfl rfl rfl (p_move rfl) ?_
      have S559 := S511.front 0 rfl
      have S560 := S559.front 1 rfl
      have S561 : St M0 H G512 [[(i_n0, AObj.row false ([.slice p_n0_0 n0_0.length c_n0_0, .int .i64 x373, .int .u64 x374]))], F368, [(i101, AObj.row false (ints (List.replicate 14 0)))], oseg p113 (ints xs107), oseg p378 (tcells T381), tseg T381] := S560
      obtain ⟨⟨x562, x563, x564⟩, h565, hd566⟩ := bnd_some hd558
      obtain ⟨_, G569, hc571, F567, rfl, S570, hF568⟩ := W_spec_l01Next fu G512 F368 2 i_n0 p_n0_0 c_n0_0 n0_0 hv372 x373 x374 (St.fnodup (A := [[(i_n0, AObj.row false ([.slice p_n0_0 n0_0.length c_n0_0, .int .i64 x373, .int .u64 x374]))], F368]) S561) (St.fmem (A := [[(i_n0, AObj.row false ([.slice p_n0_0 n0_0.length c_n0_0, .int .i64 x373, .int .u64 x374]))], F368]) S561) x562 x563 x564 h565
      have S572 := St.callM (A := [[(i_n0, AObj.row false ([.slice p_n0_0 n0_0.length c_n0_0, .int .i64 x373, .int .u64 x374]))], F368]) S561 S570 (fun j h => h)
      refine AO.gc rfl rfl rfl (o_call (vs := [.pointer (some ⟨i_n0, 0, none⟩), .int .i64 2]) rfl Try.call102 hc571) ?_
      refine AO.gp rfl rfl rfl (p_eql rfl rfl) ?_
      refine AO.p rfl (p_pickF rfl rfl) ?_
      refine AO.nil ?_
      have S573 := S572.front 5 rfl
      have S574 := S573.front 5 rfl
      have S575 := S574.front 5 rfl
      have S576 := S575.front 5 rfl
      have S577 := S576.front 4 rfl
      have S578 := S577.front 5 rfl
      exact ⟨x563, x564, (decide (x562 = 0)), F567, (some_inj hd566), S578, (hF369.mono hF568), (hv372.mono hF568), Sub.cons' rfl rfl (Sub.cons' rfl rfl (Sub.cons' rfl rfl (Sub.cons' rfl rfl (Sub.cons' rfl rfl (Sub.cons' rfl rfl (Sub.cons' rfl rfl (Sub.cons' rfl rfl (Sub.nil _))))))))⟩
    ·rintro t' G580 ⟨x541, x542, b546, F536, rfl, S579, hF537, hv540, hsub581⟩
     refine AX.sub hsub581 ?_
     refine AX.cond rfl (fun c582 => ?_) (fun c582 => ?_)
     ·have hd583 := bif_t c582 hd549
      refine DR.startS [false, false, false, false, false, false, false, false, false, false, false, false, true, false] mix (by kernel_rfl) (fun hst => ?_)
      refine DR.p rfl rfl (p_move rfl) ?_
      refine DR.p rfl rfl (p_move rfl) ?_
      refine DR.p rfl rfl (p_move rfl) ?_
      obtain ⟨k584, hd585⟩ := chk_some hd583
      refine DR.p rfl rfl (s_indexV (q := x382.toNat) Try.underlying58 Try.sizeOf2 rfl (B115.at (inR_pos k584)) rfl k584 (z1 _)) ?_
      refine DR.r rfl rfl (r_load rfl Try.isAgg2) (one_read (row_cell (S579.oat (k := 3) rfl (B115.at (inR_pos k584))) (ints_get (lt_len rfl (inR_lt k584)))) (.of_flat0 rfl)) ?_
      refine DR.p rfl rfl (p_move rfl) ?_
      refine DR.p rfl rfl (p_move rfl) ?_
      obtain ⟨k586, hd587⟩ := chk_some hd585
      refine DR.p rfl rfl (p_addE rfl rfl k586) ?_
      obtain ⟨k588, hd589⟩ := chk_some hd587
      refine DR.p rfl rfl (s_indexV (q := (x382 + 1).toNat) Try.underlying58 Try.sizeOf2 rfl (B115.at (inR_pos k588)) rfl k588 (z1 _)) ?_
      refine DR.r rfl rfl (r_load rfl Try.isAgg2) (one_read (row_cell (S579.oat (k := 3) rfl (B115.at (inR_pos k588))) (ints_get (lt_len rfl (inR_lt k588)))) (.of_flat0 rfl)) ?_
      obtain ⟨G590, i591, hii591, hHG590, S592⟩ := S579.new (AObj.row false (ints [rd xs107 x382.toNat, rd xs107 ((x382 + 1).toNat)]))
      refine DR.a rfl rfl hii591 hHG590 (a_buildInts (vs := [(0, .int .i64 (rd xs107 x382.toNat)), (1, .int .i64 (rd xs107 ((x382 + 1).toNat)))]) (xs := [rd xs107 x382.toNat, rd xs107 ((x382 + 1).toNat)]) Try.underlying58 Try.sizeOf2 Try.zeroValue2 rfl rfl (by decide) rfl rfl) ?_
      obtain ⟨G594, i595, hii595, hHG594, S596⟩ := S592.new (AObj.row false (tcells ([((some (Addr.mk i591 0 none)), 2, [rd xs107 x382.toNat, rd xs107 ((x382 + 1).toNat)])])))
      have S598 := (S596.front 1 rfl).tone (some (Addr.mk i591 0 none)) 2 [rd xs107 x382.toNat, rd xs107 ((x382 + 1).toNat)] rfl
      refine DR.a rfl rfl hii595 hHG594 (a_buildT1 (X := [((some (Addr.mk i591 0 none)), 2, [rd xs107 x382.toNat, rd xs107 ((x382 + 1).toNat)])]) (n := 2) rfl Try.underlying43 Try.sizeOf58 Try.zeroValue58 rfl rfl) ?_
      obtain ⟨k599, hd600⟩ := chk_some hd589
      obtain ⟨p601, c602, G603, haG603, S604, Bp601⟩ := S598.app (k := 6) rfl Bo377 (tcells ([((some (Addr.mk i591 0 none)), 2, [rd xs107 x382.toNat, rd xs107 ((x382 + 1).toNat)])])) 1 (tc_len1 rfl rfl)
      have S605 := S604.cellsEq (k := 6) (us' := tcells (T381 ++ [((some (Addr.mk i591 0 none)), 2, [rd xs107 x382.toNat, rd xs107 ((x382 + 1).toNat)])])) (tcells_app _ _).symm rfl
      have BS605 : Sb p601 ((rs380 ++ [[rd xs107 x382.toNat, rd xs107 ((x382 + 1).toNat)]]).length) c602 1 := (show rs380.length + 1 = (rs380 ++ [[rd xs107 x382.toNat, rd xs107 ((x382 + 1).toNat)]]).length from len_app (a := rs380) (b := [[rd xs107 x382.toNat, rd xs107 ((x382 + 1).toNat)]]) rfl rfl) ▸ Bp601
      have S606 := S605.front 0 rfl
      have S607 := (S606.front 7 rfl).tmerge
      have S608 := S607.drop 1 rfl
      refine DR.w rfl rfl (s_app (by_ := 24) (us := tcells T381) (vs := tcells ([((some (Addr.mk i591 0 none)), 2, [rd xs107 x382.toNat, rd xs107 ((x382 + 1).toNat)])])) Try.underlying43 Try.underlying43 Try.typeInfo58 Try.sizeOf58 Try.zeroValue58 rfl rfl rfl rfl rfl rfl rfl (S598.buf (k := 6) rfl Bo377 (tc_len1 tT381 rfl)) (S598.oview (k := 1) rfl (Sb.lit (n := 1) (by decide)) (tc_len1 rfl rfl)) (tc_len1 rfl rfl) tcells_one k599 haG603 (show rs380.length + 1 = (rs380 ++ [[rd xs107 x382.toNat, rd xs107 ((x382 + 1).toNat)]]).length from len_app (a := rs380) (b := [[rd xs107 x382.toNat, rd xs107 ((x382 + 1).toNat)]]) rfl rfl)) (appR_len haG603) ?_
      refine DR.p rfl rfl (p_assign rfl) ?_
      refine DR.nil 14 [] hst (by kernel_rfl) trivial ?_
      refine AX.region ?_
      refine AO.p rfl (p_move rfl) ?_
      obtain ⟨k609, hd610⟩ := chk_some hd600
      refine AO.p rfl (p_addE rfl rfl k609) ?_
      refine AO.p rfl (p_assign rfl) ?_
      refine AO.nil ?_
      obtain rfl := some_inj hd610
      have S612 := S608.front 0 rfl
      have S613 := S612.front 5 rfl
      have S614 := S613.front 5 rfl
      have S615 := S614.front 5 rfl
      have S616 := S615.front 5 rfl
      have S617 := S616.front 5 rfl
      exact ⟨(x541, x542, (rs380 ++ [[rd xs107 x382.toNat, rd xs107 ((x382 + 1).toNat)]]), x382 + 2), hk510, x541, x542, (rs380 ++ [[rd xs107 x382.toNat, rd xs107 ((x382 + 1).toNat)]]), (x382 + 2), F536, p601, c602, (T381 ++ [((some (Addr.mk i591 0 none)), 2, [rd xs107 x382.toNat, rd xs107 ((x382 + 1).toNat)])]), rfl, S617, hF537, hv540, (trows_apps tT381 rfl), (TSb.app sT381 (TSb.one (sb_len rfl (Sb.lit (n := 2) (by decide))))), BS605, Sub.cons' rfl rfl (Sub.cons' rfl rfl (Sub.cons' rfl rfl (Sub.cons' rfl rfl (Sub.cons' rfl rfl (Sub.cons' rfl rfl (Sub.cons' rfl rfl (Sub.nil _)))))))⟩
     ·have hd618 := bif_f c582 hd549
      refine AX.skip ?_
      refine AX.region ?_
      refine AO.p rfl (p_move rfl) ?_
      obtain ⟨k619, hd620⟩ := chk_some hd618
      refine AO.p rfl (p_addE rfl rfl k619) ?_
      refine AO.p rfl (p_assign rfl) ?_
      refine AO.nil ?_
      obtain rfl := some_inj hd620
      have S622 := S579.front 5 rfl
      have S623 := S622.front 5 rfl
      have S624 := S623.front 5 rfl
      have S625 := S624.front 5 rfl
      have S626 := S625.front 5 rfl
      have S627 := S626.front 5 rfl
      exact ⟨(x541, x542, rs380, x382 + 2), hk510, x541, x542, rs380, (x382 + 2), F536, p378, c379, T381, rfl, S627, hF537, hv540, tT381, sT381, Bo377, Sub.cons' rfl rfl (Sub.cons' rfl rfl (Sub.cons' rfl rfl (Sub.cons' rfl rfl (Sub.cons' rfl rfl (Sub.cons' rfl rfl (Sub.cons' rfl rfl (Sub.nil _)))))))⟩
   ·have hd628 := bif_f c517 hd516
    refine AX.exit ?_
    obtain rfl := some_inj hd628
    have S629 := S511.front 5 rfl
    have S630 := S629.front 5 rfl
    have S631 := S630.front 4 rfl
    have S632 := S631.front 4 rfl
    have S633 := S632.front 4 rfl
    have S634 := S633.keep 5
    exact ⟨x373, x374, rs380, F368, p378, c379, T381, hk510, S634, hF369, hv372, tT381, sT381, Bo377, Sub.cons' rfl rfl (Sub.cons' rfl rfl (Sub.cons' rfl rfl (Sub.nil _)))⟩
 ·rintro t' G636 ⟨x491, x492, rs497, F486, p495, c496, T498, rfl, S635, hF487, hv490, tT498, sT498, Bo494, hsub637⟩
  refine ⟨_, hsub637, ?_⟩
  refine AX.seq ?_
  refine AX.region ?_
  refine AO.p rfl (p_move rfl) ?_
  refine AO.p rfl (p_move rfl) ?_
  obtain ⟨xs638, h639, hd640⟩ := bnd_some hd501
  obtain ⟨hc642, l643⟩ := W_spec_l01Made fu G636 a1 p495 c496 T498 rs497 tT498 (S635.oview (k := 3) rfl Bo494 (tc_len1 tT498 rfl)) (S635.oviewT (k := 4) rfl sT498) xs638 h639
  refine AO.c rfl (o_call (vs := [.int .i64 a1, .slice p495 rs497.length c496]) rfl Try.call164 hc642) ?_
  obtain ⟨G644, hHG644, S645⟩ := S635.set (k := 2) (i := i101) rfl (AObj.row false (ints xs638))
  have S646 : St M0 H G644 [F486, [(i_n0, AObj.row false ([.slice p_n0_0 n0_0.length c_n0_0, .int .i64 x491, .int .u64 x492]))], [(i101, AObj.row false (ints xs638))], oseg p495 (tcells T498), tseg T498] := S645
  refine AO.s (s_storeAll (vs := ints xs638) Try.sizeOf54 rfl rfl ints_one (S635.get (k := 2) rfl) (ints_len l643) (ints_len len_rep) hHG644) ?_
  refine AO.nil ?_
  refine AX.ret ?_
  obtain ⟨rfl, z647⟩ := Prod.mk.inj (some_inj hd640)
  obtain ⟨rfl, rfl⟩ := Prod.mk.inj z647
  have S649 := S646.front 0 rfl
  have S650 := S649.front 1 rfl
  have S651 := S650.keep 2
  exact ⟨.inr rfl, _, res1 rfl (rv_cell (vs := ints xs638) rfl Try.isAgg54 Try.sizeOf54 (ints_len l643) (row_cells (S646.get (k := 2) rfl))), F486, rfl, S651, l643, hF487⟩

set_option maxHeartbeats 4000000 in
theorem W_spec_l01Circle (fu : Nat) (H : AHeap) (a0 : Int) (r0 : Int) (r1 : List (List Int)) (hd : D_spec_l01Circle fu a0 = some (r0, r1)) : ∃ v G', ACall Try.prog 103 [.int .i64 a0] H v G' ∧ ∃ (p_r1 : Option Addr) (c_r1 : Nat), (v = .agg [.int .i64 r0, .slice p_r1 r1.length c_r1].toArray) ∧ St [] H G' [oseg p_r1 (ints r1.flatten)] ∧ Sb p_r1 r1.length c_r1 14 ∧ All 14 r1 := by
 refine ACall.bodyX (args := [.int .i64 a0]) (N := 56) [(0, .int .i64 a0)] (fun v G' => ∃ (p_r1 : Option Addr) (c_r1 : Nat), (v = .agg [.int .i64 r0, .slice p_r1 r1.length c_r1].toArray) ∧ St [] H G' [oseg p_r1 (ints r1.flatten)] ∧ Sb p_r1 r1.length c_r1 14 ∧ All 14 r1) Try.func103 rfl rfl rfl rfl ?_
 unfold D_spec_l01Circle at hd
 have S0 : St [] H H [] := St.nil H
 refine AX.seq ?_
 refine AX.region ?_
 obtain ⟨G100, i101, hii101, hHG100, S102⟩ := S0.new (AObj.row false ([.int .i64 0, .slice none 0 0]))
 refine AO.c rfl (s_alloc (i := i101) (cs := [.int .i64 0, .slice none 0 0]) Try.zeroValue37 rfl rfl hii101 hHG100) ?_
 refine AO.nil ?_
 refine AX.seq ?_
 refine AX.region ?_
 refine AO.p rfl (p_move rfl) ?_
 obtain ⟨k104, hd105⟩ := chk_some hd
 refine AO.p rfl (p_subE rfl rfl k104) ?_
 refine AO.p rfl (p_move rfl) ?_
 refine AO.p rfl (p_remE rfl rfl (by decide)) ?_
 obtain ⟨k106, hd107⟩ := chk_some hd105
 refine AO.p rfl (p_addE rfl rfl k106) ?_
 refine AO.p rfl (p_move rfl) ?_
 obtain ⟨G108, i109, hii109, hHG108, S110⟩ := S102.new (AObj.row false (ints [].flatten))
 refine AO.c rfl (s_build0 (i := i109) Try.underlying35 Try.sizeOf54 hii109 hHG108) ?_
 refine AO.p rfl (p_build2 (vs := [(0, .int .i64 a0), (1, .slice (some (Addr.mk i109 0 none)) 0 0)]) (cs := [.int .i64 a0, .slice (some (Addr.mk i109 0 none)) 0 0]) Try.underlying37 rfl rfl rfl Try.sizeOf2 Try.sizeOf35 Try.zeroValue37 rfl rfl rfl rfl rfl) ?_
 obtain ⟨G112, i113, hii113, hHG112, S114⟩ := S110.new (AObj.row false ([.int .i64 0, .slice none 0 0]))
 refine AO.c rfl (s_alloc (i := i113) (cs := [.int .i64 0, .slice none 0 0]) Try.zeroValue37 rfl rfl hii113 hHG112) ?_
 refine AO.p rfl (p_assign rfl) ?_
 obtain ⟨G116, hHG116, S117⟩ := S114.set (k := 0) (i := i113) rfl (AObj.row false ([.int .i64 a0, .slice (some (Addr.mk i109 0 none)) 0 0]))
 refine AO.s (s_storeAll (vs := [.int .i64 a0, .slice (some (Addr.mk i109 0 none)) 0 0]) Try.sizeOf37 rfl rfl (ones_list rfl) (S114.get (k := 0) rfl) rfl rfl hHG116) ?_
 refine AO.nil ?_
 refine AX.seq ?_
 refine AX.seq ?_
 refine AX.region ?_
 refine AO.p rfl (p_assign rfl) ?_
 refine AO.nil ?_
 obtain ⟨r752, hl753, hd754⟩ := bnd_some hd107
 refine AX.cutS (fun t' H' => ∃ (rs751 : List (List Int)) (p749 : Option Addr) (c750 : Nat), rs751 = r752 ∧ St [] H H' [[(i101, AObj.row false ([.int .i64 0, .slice none 0 0]))], [(i113, AObj.row false ([.int .i64 a0, .slice p749 rs751.length c750]))], oseg p749 (ints rs751.flatten)] ∧ All 14 rs751 ∧ Sb p749 (rs751.length) c750 14 ∧ Am.Sub [(2, .pointer (some ⟨i101, 0, none⟩)), (4, .pointer (some ⟨i113, 0, none⟩))] t') ?_ ?_
 ·refine AX.block ?_
  refine AX.loopF (fun s' t' H' => ∃ (rs539 : List (List Int)) (x540 : Int) (p537 : Option Addr) (c538 : Nat), (rs539, x540) = s' ∧ St [] H H' [[(i101, AObj.row false ([.int .i64 0, .slice none 0 0]))], [(i113, AObj.row false ([.int .i64 a0, .slice p537 rs539.length c538]))], oseg p537 (ints rs539.flatten)] ∧ All 14 rs539 ∧ Sb p537 (rs539.length) c538 14 ∧ Am.Sub [(0, .int .i64 a0), (2, .pointer (some ⟨i101, 0, none⟩)), (3, .int .i64 (a0 - 1 + (a0.tmod 2))), (4, .pointer (some ⟨i113, 0, none⟩)), (5, .int .i64 x540)] t') hl753 ?_ ?_
  ·skip
   have S755 := S117.front 1 rfl
   have S756 := S755.front 1 rfl
   have S757 := S756.front 2 rfl
   exact ⟨[], 0, (some (Addr.mk i109 0 none)), 0, rfl, S757, all_nil, (Sb.lit (n := 0) (by decide)), Sub.cons' rfl rfl (Sub.cons' rfl rfl (Sub.cons' rfl rfl (Sub.cons' rfl rfl (Sub.cons' rfl rfl (Sub.nil _)))))⟩
  ·rintro n758 _ t' G762 ⟨rs539, x540, p537, c538, rfl, S761, ars539, Bo536, hsub763⟩ o764 ho759 hk760
   refine AX.sub hsub763 ?_
   unfold D_spec_l01Circle_s0 at ho759
   refine AX.seq ?_
   refine AX.seq ?_
   refine AX.region ?_
   refine AO.p rfl (p_move rfl) ?_
   refine AO.p rfl (p_move rfl) ?_
   refine AO.p rfl (p_lss rfl rfl) ?_
   refine AO.nil ?_
   refine AX.cond rfl (fun c765 => ?_) (fun c765 => ?_)
   ·have hd766 := bif_t c765 ho759
    refine AX.skip ?_
    refine AX.seq ?_
    refine AX.block ?_
    refine AX.seq ?_
    refine AX.region ?_
    refine AO.p rfl (p_move rfl) ?_
    obtain ⟨xs767, h768, hd769⟩ := bnd_some hd766
    obtain ⟨hc771, l772⟩ := W_spec_l01Free fu G762 a0 xs767 h768
    refine AO.c rfl (o_call (vs := [.int .i64 a0]) rfl Try.call108 hc771) ?_
    obtain ⟨G773, i774, hii774, hHG773, S775⟩ := S761.new (AObj.row false (ints (List.replicate 14 0)))
    refine AO.c rfl (s_alloc (i := i774) (cs := ints (List.replicate 14 0)) Try.zeroValue54 rfl rfl hii774 hHG773) ?_
    obtain ⟨G777, hHG777, S778⟩ := S775.set (k := 0) (i := i774) rfl (AObj.row false (ints xs767))
    refine AO.s (s_storeAll (vs := ints xs767) Try.sizeOf54 rfl rfl ints_one (S775.get (k := 0) rfl) (ints_len l772) (ints_len len_rep) hHG777) ?_
    refine AO.nil ?_
    refine AX.seq ?_
    refine AX.seq ?_
    refine AX.region ?_
    refine AO.p rfl (p_assign rfl) ?_
    refine AO.nil ?_
    obtain ⟨r858, hl859, hd860⟩ := bnd_some hd769
    refine AX.cutS (fun t' H' => ∃ (xs857 : List Int), xs857 = r858 ∧ St [] H H' [[(i101, AObj.row false ([.int .i64 0, .slice none 0 0]))], [(i113, AObj.row false ([.int .i64 a0, .slice p537 rs539.length c538]))], oseg p537 (ints rs539.flatten), [(i774, AObj.row false (ints xs857))]] ∧ xs857.length = 14 ∧ Am.Sub [(0, .int .i64 a0), (2, .pointer (some ⟨i101, 0, none⟩)), (3, .int .i64 (a0 - 1 + (a0.tmod 2))), (4, .pointer (some ⟨i113, 0, none⟩)), (5, .int .i64 x540), (6, .pointer (some ⟨i774, 0, none⟩))] t') ?_ ?_
    ·refine AX.block ?_
     refine AX.loopF (fun s' t' H' => ∃ (xs831 : List Int) (x832 : Int), (xs831, x832) = s' ∧ St [] H H' [[(i101, AObj.row false ([.int .i64 0, .slice none 0 0]))], [(i113, AObj.row false ([.int .i64 a0, .slice p537 rs539.length c538]))], oseg p537 (ints rs539.flatten), [(i774, AObj.row false (ints xs831))]] ∧ xs831.length = 14 ∧ Am.Sub [(0, .int .i64 a0), (2, .pointer (some ⟨i101, 0, none⟩)), (3, .int .i64 (a0 - 1 + (a0.tmod 2))), (4, .pointer (some ⟨i113, 0, none⟩)), (5, .int .i64 x540), (6, .pointer (some ⟨i774, 0, none⟩)), (7, .int .i64 x832)] t') hl859 ?_ ?_
     ·skip
      have S861 := S778.front 0 rfl
      have S862 := S861.front 3 rfl
      have S863 := S862.front 3 rfl
      have S864 := S863.front 3 rfl
      exact ⟨xs767, 0, rfl, S864, l772, Sub.cons' rfl rfl (Sub.cons' rfl rfl (Sub.cons' rfl rfl (Sub.cons' rfl rfl (Sub.cons' rfl rfl (Sub.cons' rfl rfl (Sub.cons' rfl rfl (Sub.nil _)))))))⟩
     ·rintro n865 _ t' G869 ⟨xs831, x832, rfl, S868, lxs831, hsub870⟩ o871 ho866 hk867
      refine AX.sub hsub870 ?_
      unfold D_spec_l01Circle_s1 at ho866
      refine AX.seq ?_
      refine AX.seq ?_
      refine AX.region ?_
      refine AO.p rfl (p_move rfl) ?_
      refine AO.p rfl (p_move rfl) ?_
      refine AO.p rfl (p_lss rfl rfl) ?_
      refine AO.nil ?_
      refine AX.cond rfl (fun c872 => ?_) (fun c872 => ?_)
      ·have hd873 := bif_t c872 ho866
       refine AX.skip ?_
       refine AX.seq ?_
       refine AX.block ?_
       refine AX.region ?_
       refine AO.p rfl (p_move rfl) ?_
       refine AO.p rfl (p_move rfl) ?_
       obtain ⟨k874, hd875⟩ := chk_some hd873
       refine AO.p rfl (p_mulE rfl rfl k874) ?_
       refine AO.p rfl (p_move rfl) ?_
       obtain ⟨k876, hd877⟩ := chk_some hd875
       refine AO.p rfl (p_addE rfl rfl k876) ?_
       refine AO.p rfl (p_move rfl) ?_
       obtain ⟨k878, hd879⟩ := chk_some hd877
       refine AO.p rfl (p_subE rfl rfl k878) ?_
       refine AO.p rfl (p_move rfl) ?_
       obtain ⟨k880, hd881⟩ := chk_some hd879
       refine AO.p rfl (p_remE rfl rfl k880) ?_
       obtain ⟨k882, hd883⟩ := chk_some hd881
       refine AO.p rfl (s_indexAr (q := x832.toNat) Try.underlying54 Try.sizeOf2 rfl rfl k882 (z1 _)) ?_
       obtain ⟨G884, hHG884, S885⟩ := S868.set (k := 3) (i := i774) rfl (AObj.row false (ints (xs831.set x832.toNat ((2 * x540 + (a0 - 1 + (a0.tmod 2)) - x832).tmod (a0 - 1 + (a0.tmod 2))))))
       refine AO.s (s_store Try.sizeOf2 rfl rfl rfl (S868.get (k := 3) rfl) (lt_len (ints_len lxs831) (inR_lt k882)) ((congrArg (fun l => List.set _ _ (AObj.row false l)) (ints_set _ _ _)).trans hHG884)) ?_
       refine AO.nil ?_
       refine AX.region ?_
       refine AO.p rfl (p_move rfl) ?_
       obtain ⟨k886, hd887⟩ := chk_some hd883
       refine AO.p rfl (p_addE rfl rfl k886) ?_
       refine AO.p rfl (p_assign rfl) ?_
       refine AO.nil ?_
       obtain rfl := some_inj hd887
       have S889 := S885.front 3 rfl
       have S890 := S889.front 3 rfl
       have S891 := S890.front 3 rfl
       have S892 := S891.front 3 rfl
       exact ⟨((xs831.set x832.toNat ((2 * x540 + (a0 - 1 + (a0.tmod 2)) - x832).tmod (a0 - 1 + (a0.tmod 2)))), x832 + 1), hk867, (xs831.set x832.toNat ((2 * x540 + (a0 - 1 + (a0.tmod 2)) - x832).tmod (a0 - 1 + (a0.tmod 2)))), (x832 + 1), rfl, S892, (len_set lxs831), Sub.cons' rfl rfl (Sub.cons' rfl rfl (Sub.cons' rfl rfl (Sub.cons' rfl rfl (Sub.cons' rfl rfl (Sub.cons' rfl rfl (Sub.cons' rfl rfl (Sub.nil _)))))))⟩
      ·have hd893 := bif_f c872 ho866
       refine AX.exit ?_
       obtain rfl := some_inj hd893
       have S894 := S868.front 3 rfl
       have S895 := S894.front 3 rfl
       have S896 := S895.front 3 rfl
       have S897 := S896.front 3 rfl
       exact ⟨xs831, hk867, S897, lxs831, Sub.cons' rfl rfl (Sub.cons' rfl rfl (Sub.cons' rfl rfl (Sub.cons' rfl rfl (Sub.cons' rfl rfl (Sub.cons' rfl rfl (Sub.nil _))))))⟩
    ·rintro t' G899 ⟨xs857, rfl, S898, lxs857, hsub900⟩
     refine ⟨_, hsub900, ?_⟩
     refine AX.seq ?_
     refine AX.seq ?_
     refine AX.region ?_
     refine AO.p rfl (p_move rfl) ?_
     refine AO.p rfl (p_remE rfl rfl (by decide)) ?_
     refine AO.p rfl (p_eql rfl rfl) ?_
     refine AO.nil ?_
     obtain ⟨r921, hb922, hd923⟩ := bnd_some hd860
     refine AX.cutS (fun t' H' => ∃ (xs920 : List Int), xs920 = r921 ∧ St [] H H' [[(i101, AObj.row false ([.int .i64 0, .slice none 0 0]))], [(i113, AObj.row false ([.int .i64 a0, .slice p537 rs539.length c538]))], oseg p537 (ints rs539.flatten), [(i774, AObj.row false (ints xs920))]] ∧ xs920.length = 14 ∧ Am.Sub [(0, .int .i64 a0), (2, .pointer (some ⟨i101, 0, none⟩)), (3, .int .i64 (a0 - 1 + (a0.tmod 2))), (4, .pointer (some ⟨i113, 0, none⟩)), (5, .int .i64 x540), (6, .pointer (some ⟨i774, 0, none⟩))] t') ?_ ?_
     ·skip
      refine AX.cond rfl (fun c924 => ?_) (fun c924 => ?_)
      ·have hd925 := bif_t c924 hb922
       refine AX.seq ?_
       refine AX.region ?_
       refine AO.p rfl (p_move rfl) ?_
       refine AO.p rfl (p_move rfl) ?_
       obtain ⟨k926, hd927⟩ := chk_some hd925
       refine AO.p rfl (p_subE rfl rfl k926) ?_
       obtain ⟨k928, hd929⟩ := chk_some hd927
       refine AO.p rfl (s_indexAr (q := x540.toNat) Try.underlying54 Try.sizeOf2 rfl rfl k928 (z1 _)) ?_
       obtain ⟨G930, hHG930, S931⟩ := S898.set (k := 3) (i := i774) rfl (AObj.row false (ints (xs857.set x540.toNat (a0 - 1))))
       refine AO.s (s_store Try.sizeOf2 rfl rfl rfl (S898.get (k := 3) rfl) (lt_len (ints_len lxs857) (inR_lt k928)) ((congrArg (fun l => List.set _ _ (AObj.row false l)) (ints_set _ _ _)).trans hHG930)) ?_
       refine AO.nil ?_
       refine AX.region ?_
       refine AO.p rfl (p_move rfl) ?_
       obtain ⟨k932, hd933⟩ := chk_some hd929
       refine AO.p rfl (p_subE rfl rfl k932) ?_
       refine AO.p rfl (p_move rfl) ?_
       obtain ⟨k934, hd935⟩ := chk_some hd933
       refine AO.p rfl (s_indexAr (q := (a0 - 1).toNat) Try.underlying54 Try.sizeOf2 rfl rfl k934 (z1 _)) ?_
       obtain ⟨G936, hHG936, S937⟩ := S931.set (k := 3) (i := i774) rfl (AObj.row false (ints ((xs857.set x540.toNat (a0 - 1)).set ((a0 - 1).toNat) x540)))
       refine AO.s (s_store Try.sizeOf2 rfl rfl rfl (S931.get (k := 3) rfl) (lt_len (ints_len (len_set lxs857)) (inR_lt k934)) ((congrArg (fun l => List.set _ _ (AObj.row false l)) (ints_set _ _ _)).trans hHG936)) ?_
       refine AO.nil ?_
       have S938 := S937.front 3 rfl
       have S939 := S938.front 3 rfl
       have S940 := S939.front 3 rfl
       have S941 := S940.front 3 rfl
       exact ⟨((xs857.set x540.toNat (a0 - 1)).set ((a0 - 1).toNat) x540), (some_inj hd935), S941, (len_set (len_set lxs857)), Sub.cons' rfl rfl (Sub.cons' rfl rfl (Sub.cons' rfl rfl (Sub.cons' rfl rfl (Sub.cons' rfl rfl (Sub.cons' rfl rfl (Sub.nil _))))))⟩
      ·have hd942 := bif_f c924 hb922
       refine AX.skip ?_
       have S943 := S898.front 3 rfl
       have S944 := S943.front 3 rfl
       have S945 := S944.front 3 rfl
       have S946 := S945.front 3 rfl
       exact ⟨xs857, (some_inj hd942), S946, lxs857, Sub.cons' rfl rfl (Sub.cons' rfl rfl (Sub.cons' rfl rfl (Sub.cons' rfl rfl (Sub.cons' rfl rfl (Sub.cons' rfl rfl (Sub.nil _))))))⟩
     ·rintro t' G948 ⟨xs920, rfl, S947, lxs920, hsub949⟩
      refine ⟨_, hsub949, ?_⟩
      refine AX.region ?_
      refine AO.p rfl (s_fieldAddr Try.underlying37 rfl Try.sizeOf35 (by decide) rfl rfl) ?_
      refine AO.c rfl (s_load Try.isAgg35 rfl (row_cell (S947.get (k := 1) rfl) rfl)) ?_
      refine AO.c rfl (s_loadN (vs := ints xs920) Try.isAgg54 Try.sizeOf54 rfl (ints_len lxs920) (row_cells (S947.get (k := 3) rfl))) ?_
      obtain ⟨G950, i951, hii951, hHG950, S952⟩ := S947.new (AObj.row false (ints [xs920].flatten))
      refine AO.c rfl (s_build1 (i := i951) (r := xs920) (zr := List.replicate 14 0) Try.underlying35 Try.sizeOf54 Try.zeroValue54 rfl rfl (by decide) (by decide) rfl lxs920 hii951 hHG950) ?_
      obtain ⟨k954, hd955⟩ := chk_some hd923
      obtain ⟨p956, c957, G958, haG958, S959, Bp956⟩ := S952.app (k := 3) rfl Bo536 (ints [xs920].flatten) 1 (flat_len1 (all_one lxs920) rfl)
      have S960 := S959.cellsEq (k := 3) (us' := ints (rs539 ++ [xs920]).flatten) (intsf_app _ _) rfl
      have BS960 : Sb p956 ((rs539 ++ [xs920]).length) c957 14 := (show rs539.length + 1 = (rs539 ++ [xs920]).length from len_app (a := rs539) (b := [xs920]) rfl rfl) ▸ Bp956
      have S961 := S960.drop 0 rfl
      refine AO.c rfl (s_app (by_ := 112) (us := ints rs539.flatten) (vs := ints [xs920].flatten) Try.underlying35 Try.underlying35 Try.typeInfo54 Try.sizeOf54 Try.zeroValue54 rfl rfl rfl rfl rfl rfl rfl (S952.buf (k := 3) rfl Bo536 (flat_len1 ars539 rfl)) (S952.oview (k := 0) rfl (Sb.lit (n := 1) (by decide)) (flat_len1 (all_one lxs920) rfl)) (flat_len1 (all_one lxs920) rfl) ints_one k954 haG958 (show rs539.length + 1 = (rs539 ++ [xs920]).length from len_app (a := rs539) (b := [xs920]) rfl rfl)) ?_
      refine AO.p rfl (s_fieldAddr Try.underlying37 rfl Try.sizeOf35 (by decide) rfl rfl) ?_
      obtain ⟨G962, hHG962, S963⟩ := S961.set (k := 1) (i := i113) rfl (AObj.row false ([.int .i64 a0, .slice p956 ((rs539 ++ [xs920]).length) c957]))
      refine AO.s (s_store Try.sizeOf35 rfl rfl rfl (S961.get (k := 1) rfl) (Nat.le_of_ble_eq_true rfl) hHG962) ?_
      refine AO.nil ?_
      refine AX.region ?_
      refine AO.p rfl (p_move rfl) ?_
      obtain ⟨k964, hd965⟩ := chk_some hd955
      refine AO.p rfl (p_addE rfl rfl k964) ?_
      refine AO.p rfl (p_assign rfl) ?_
      refine AO.nil ?_
      obtain rfl := some_inj hd965
      have S967 := S963.front 2 rfl
      have S968 := S967.front 2 rfl
      have S969 := S968.front 2 rfl
      have S970 := S969.keep 3
      exact ⟨((rs539 ++ [xs920]), x540 + 1), hk760, (rs539 ++ [xs920]), (x540 + 1), p956, c957, rfl, S970, (all_app ars539 (all_one lxs920)), BS960, Sub.cons' rfl rfl (Sub.cons' rfl rfl (Sub.cons' rfl rfl (Sub.cons' rfl rfl (Sub.cons' rfl rfl (Sub.nil _)))))⟩
   ·have hd971 := bif_f c765 ho759
    refine AX.exit ?_
    obtain rfl := some_inj hd971
    have S972 := S761.front 2 rfl
    have S973 := S972.front 2 rfl
    have S974 := S973.front 2 rfl
    exact ⟨rs539, p537, c538, hk760, S974, ars539, Bo536, Sub.cons' rfl rfl (Sub.cons' rfl rfl (Sub.nil _))⟩
 ·rintro t' G976 ⟨rs751, p749, c750, rfl, S975, ars751, Bo748, hsub977⟩
  refine ⟨_, hsub977, ?_⟩
  refine AX.seq ?_
  refine AX.region ?_
  refine AO.c rfl (s_loadN (vs := [.int .i64 a0, .slice p749 rs751.length c750]) Try.isAgg37 Try.sizeOf37 rfl rfl (row_cells (S975.get (k := 1) rfl))) ?_
  obtain ⟨G978, hHG978, S979⟩ := S975.set (k := 0) (i := i101) rfl (AObj.row false ([.int .i64 a0, .slice p749 rs751.length c750]))
  refine AO.s (s_storeAll (vs := [.int .i64 a0, .slice p749 rs751.length c750]) Try.sizeOf37 rfl rfl (ones_list rfl) (S975.get (k := 0) rfl) rfl rfl hHG978) ?_
  refine AO.nil ?_
  refine AX.ret ?_
  obtain ⟨rfl, rfl⟩ := Prod.mk.inj (some_inj hd754)
  have S981 := S979.front 2 rfl
  have S982 := S981.keep 1
  exact ⟨.inr rfl, _, res1 rfl (rv_cell (vs := [.int .i64 a0, .slice p749 rs751.length c750]) rfl Try.isAgg37 Try.sizeOf37 rfl (row_cells (S979.get (k := 0) rfl))), p749, c750, rfl, S982, Bo748, ars751⟩

set_option maxHeartbeats 4000000 in
theorem W_spec_l01Renamed (fu : Nat) (H : AHeap) (a0_0 : Int) (p_a0_1 : Option Addr) (c_a0_1 : Nat) (a0_1 : List (List Int)) (a_a0_1 : All 14 a0_1) (v_a0_1 : Vw H p_a0_1 a0_1.length c_a0_1 (ints a0_1.flatten)) (p_a1 : Option Addr) (c_a1 : Nat) (a1 : List Int) (v_a1 : Vw H p_a1 a1.length c_a1 (ints a1)) (r0 : Int) (r1 : List (List Int)) (hd : D_spec_l01Renamed fu a0_0 a0_1 a1 = some (r0, r1)) : ∃ v G', ACall Try.prog 165 [.agg [.int .i64 a0_0, .slice p_a0_1 a0_1.length c_a0_1].toArray, .slice p_a1 a1.length c_a1] H v G' ∧ ∃ (p_r1 : Option Addr) (c_r1 : Nat), (v = .agg [.int .i64 r0, .slice p_r1 r1.length c_r1].toArray) ∧ St [] H G' [oseg p_r1 (ints r1.flatten)] ∧ Sb p_r1 r1.length c_r1 14 ∧ All 14 r1 := by
 refine ACall.bodyX (args := [.agg [.int .i64 a0_0, .slice p_a0_1 a0_1.length c_a0_1].toArray, .slice p_a1 a1.length c_a1]) (N := 49) [(0, .agg [.int .i64 a0_0, .slice p_a0_1 a0_1.length c_a0_1].toArray), (1, .slice p_a1 a1.length c_a1)] (fun v G' => ∃ (p_r1 : Option Addr) (c_r1 : Nat), (v = .agg [.int .i64 r0, .slice p_r1 r1.length c_r1].toArray) ∧ St [] H G' [oseg p_r1 (ints r1.flatten)] ∧ Sb p_r1 r1.length c_r1 14 ∧ All 14 r1) Try.func165 rfl rfl rfl rfl ?_
 unfold D_spec_l01Renamed at hd
 have S0 : St [] H H [] := St.nil H
 refine AX.seq ?_
 refine AX.region ?_
 obtain ⟨G100, i101, hii101, hHG100, S102⟩ := S0.new (AObj.row false ([.int .i64 a0_0, .slice p_a0_1 a0_1.length c_a0_1]))
 refine AO.c rfl (s_box (i := i101) (cs := [.int .i64 a0_0, .slice p_a0_1 a0_1.length c_a0_1]) rfl hii101 rfl hHG100) ?_
 obtain ⟨G104, i105, hii105, hHG104, S106⟩ := S102.new (AObj.row false ([.int .i64 0, .slice none 0 0]))
 refine AO.c rfl (s_alloc (i := i105) (cs := [.int .i64 0, .slice none 0 0]) Try.zeroValue37 rfl rfl hii105 hHG104) ?_
 refine AO.nil ?_
 refine AX.seq ?_
 refine AX.region ?_
 refine AO.p rfl (s_fieldAddr Try.underlying37 rfl Try.sizeOf2 (by decide) rfl rfl) ?_
 refine AO.c rfl (s_load Try.isAgg2 rfl (row_cell (S106.get (k := 1) rfl) rfl)) ?_
 obtain ⟨G108, i109, hii109, hHG108, S110⟩ := S106.new (AObj.row false (ints [].flatten))
 refine AO.c rfl (s_build0 (i := i109) Try.underlying35 Try.sizeOf54 hii109 hHG108) ?_
 refine AO.p rfl (p_build2 (vs := [(0, .int .i64 a0_0), (1, .slice (some (Addr.mk i109 0 none)) 0 0)]) (cs := [.int .i64 a0_0, .slice (some (Addr.mk i109 0 none)) 0 0]) Try.underlying37 rfl rfl rfl Try.sizeOf2 Try.sizeOf35 Try.zeroValue37 rfl rfl rfl rfl rfl) ?_
 obtain ⟨G112, i113, hii113, hHG112, S114⟩ := S110.new (AObj.row false ([.int .i64 0, .slice none 0 0]))
 refine AO.c rfl (s_alloc (i := i113) (cs := [.int .i64 0, .slice none 0 0]) Try.zeroValue37 rfl rfl hii113 hHG112) ?_
 obtain ⟨G116, hHG116, S117⟩ := S114.set (k := 0) (i := i113) rfl (AObj.row false ([.int .i64 a0_0, .slice (some (Addr.mk i109 0 none)) 0 0]))
 refine AO.s (s_storeAll (vs := [.int .i64 a0_0, .slice (some (Addr.mk i109 0 none)) 0 0]) Try.sizeOf37 rfl rfl (ones_list rfl) (S114.get (k := 0) rfl) rfl rfl hHG116) ?_
 refine AO.nil ?_
 refine AX.seq ?_
 refine AX.seq ?_
 refine AX.region ?_
 refine AO.p rfl (p_assign rfl) ?_
 refine AO.nil ?_
 obtain ⟨r615, hl616, hd617⟩ := bnd_some hd
 refine AX.cutS (fun t' H' => ∃ (rs614 : List (List Int)) (p612 : Option Addr) (c613 : Nat), rs614 = r615 ∧ St [] H H' [[(i105, AObj.row false ([.int .i64 0, .slice none 0 0]))], [(i113, AObj.row false ([.int .i64 a0_0, .slice p612 rs614.length c613]))], oseg p612 (ints rs614.flatten)] ∧ All 14 rs614 ∧ Sb p612 (rs614.length) c613 14 ∧ Am.Sub [(4, .pointer (some ⟨i105, 0, none⟩)), (5, .pointer (some ⟨i113, 0, none⟩))] t') ?_ ?_
 ·refine AX.block ?_
  refine AX.loopF (fun s' t' H' => ∃ (rs450 : List (List Int)) (x451 : Int) (p448 : Option Addr) (c449 : Nat), (rs450, x451) = s' ∧ St [] H H' [[(i101, AObj.row false ([.int .i64 a0_0, .slice p_a0_1 a0_1.length c_a0_1]))], [(i105, AObj.row false ([.int .i64 0, .slice none 0 0]))], [(i113, AObj.row false ([.int .i64 a0_0, .slice p448 rs450.length c449]))], oseg p448 (ints rs450.flatten)] ∧ All 14 rs450 ∧ Sb p448 (rs450.length) c449 14 ∧ Am.Sub [(1, .slice p_a1 a1.length c_a1), (2, .pointer (some ⟨i101, 0, none⟩)), (4, .pointer (some ⟨i105, 0, none⟩)), (5, .pointer (some ⟨i113, 0, none⟩)), (6, .int .i64 x451)] t') hl616 ?_ ?_
  ·skip
   have S618 := S117.front 1 rfl
   have S619 := S618.front 1 rfl
   have S620 := S619.front 2 rfl
   have S621 := S620.front 3 rfl
   exact ⟨[], 0, (some (Addr.mk i109 0 none)), 0, rfl, S621, all_nil, (Sb.lit (n := 0) (by decide)), Sub.cons' rfl rfl (Sub.cons' rfl rfl (Sub.cons' rfl rfl (Sub.cons' rfl rfl (Sub.cons' rfl rfl (Sub.nil _)))))⟩
  ·rintro n622 _ t' G626 ⟨rs450, x451, p448, c449, rfl, S625, ars450, Bo447, hsub627⟩ o628 ho623 hk624
   refine AX.sub hsub627 ?_
   unfold D_spec_l01Renamed_s0 at ho623
   refine AX.seq ?_
   refine AX.seq ?_
   refine AX.region ?_
   refine AO.p rfl (p_move rfl) ?_
   refine AO.p rfl (s_fieldAddr Try.underlying37 rfl Try.sizeOf35 (by decide) rfl rfl) ?_
   refine AO.c rfl (s_load Try.isAgg35 rfl (row_cell (S625.get (k := 0) rfl) rfl)) ?_
   refine AO.p rfl (p_len_slice rfl Try.underlying35) ?_
   refine AO.p rfl (p_lss rfl rfl) ?_
   refine AO.nil ?_
   refine AX.cond rfl (fun c629 => ?_) (fun c629 => ?_)
   ·have hd630 := bif_t c629 ho623
    refine AX.skip ?_
    refine AX.seq ?_
    refine AX.block ?_
    refine AX.seq ?_
    refine AX.region ?_
    refine AO.p rfl (p_buildZ (z := ints (List.replicate 14 0)) Try.underlying54 Try.sizeOf2 Try.zeroValue54 rfl) ?_
    obtain ⟨G631, i632, hii632, hHG631, S633⟩ := S625.new (AObj.row false (ints (List.replicate 14 0)))
    refine AO.c rfl (s_alloc (i := i632) (cs := ints (List.replicate 14 0)) Try.zeroValue54 rfl rfl hii632 hHG631) ?_
    obtain ⟨G635, hHG635, S636⟩ := S633.set (k := 0) (i := i632) rfl (AObj.row false (ints (List.replicate 14 0)))
    refine AO.s (s_storeAll (vs := ints (List.replicate 14 0)) Try.sizeOf54 rfl rfl ints_one (S633.get (k := 0) rfl) (ints_len len_rep) (ints_len len_rep) hHG635) ?_
    refine AO.nil ?_
    refine AX.seq ?_
    refine AX.seq ?_
    refine AX.region ?_
    refine AO.p rfl (p_assign rfl) ?_
    refine AO.nil ?_
    obtain ⟨r720, hl721, hd722⟩ := bnd_some hd630
    refine AX.cutS (fun t' H' => ∃ (xs719 : List Int), xs719 = r720 ∧ St [] H H' [[(i101, AObj.row false ([.int .i64 a0_0, .slice p_a0_1 a0_1.length c_a0_1]))], [(i105, AObj.row false ([.int .i64 0, .slice none 0 0]))], [(i113, AObj.row false ([.int .i64 a0_0, .slice p448 rs450.length c449]))], oseg p448 (ints rs450.flatten), [(i632, AObj.row false (ints xs719))]] ∧ xs719.length = 14 ∧ Am.Sub [(1, .slice p_a1 a1.length c_a1), (2, .pointer (some ⟨i101, 0, none⟩)), (4, .pointer (some ⟨i105, 0, none⟩)), (5, .pointer (some ⟨i113, 0, none⟩)), (6, .int .i64 x451), (7, .pointer (some ⟨i632, 0, none⟩))] t') ?_ ?_
    ·refine AX.block ?_
     refine AX.loopF (fun s' t' H' => ∃ (xs692 : List Int) (x693 : Int), (xs692, x693) = s' ∧ St [] H H' [[(i101, AObj.row false ([.int .i64 a0_0, .slice p_a0_1 a0_1.length c_a0_1]))], [(i105, AObj.row false ([.int .i64 0, .slice none 0 0]))], [(i113, AObj.row false ([.int .i64 a0_0, .slice p448 rs450.length c449]))], oseg p448 (ints rs450.flatten), [(i632, AObj.row false (ints xs692))]] ∧ xs692.length = 14 ∧ Am.Sub [(1, .slice p_a1 a1.length c_a1), (2, .pointer (some ⟨i101, 0, none⟩)), (4, .pointer (some ⟨i105, 0, none⟩)), (5, .pointer (some ⟨i113, 0, none⟩)), (6, .int .i64 x451), (7, .pointer (some ⟨i632, 0, none⟩)), (8, .int .i64 x693)] t') hl721 ?_ ?_
     ·skip
      have S723 := S636.front 0 rfl
      have S724 := S723.front 4 rfl
      have S725 := S724.front 4 rfl
      have S726 := S725.front 4 rfl
      have S727 := S726.front 4 rfl
      exact ⟨(List.replicate 14 0), 0, rfl, S727, len_rep, Sub.cons' rfl rfl (Sub.cons' rfl rfl (Sub.cons' rfl rfl (Sub.cons' rfl rfl (Sub.cons' rfl rfl (Sub.cons' rfl rfl (Sub.cons' rfl rfl (Sub.nil _)))))))⟩
     ·rintro n728 _ t' G732 ⟨xs692, x693, rfl, S731, lxs692, hsub733⟩ o734 ho729 hk730
      refine AX.sub hsub733 ?_
      unfold D_spec_l01Renamed_s1 at ho729
      refine AX.seq ?_
      refine AX.seq ?_
      refine AX.region ?_
      refine AO.p rfl (p_move rfl) ?_
      refine AO.p rfl (s_fieldAddr Try.underlying37 rfl Try.sizeOf2 (by decide) rfl rfl) ?_
      refine AO.c rfl (s_load Try.isAgg2 rfl (row_cell (S731.get (k := 0) rfl) rfl)) ?_
      refine AO.p rfl (p_lss rfl rfl) ?_
      refine AO.nil ?_
      refine AX.cond rfl (fun c735 => ?_) (fun c735 => ?_)
      ·have hd736 := bif_t c735 ho729
       refine AX.skip ?_
       refine AX.seq ?_
       refine AX.block ?_
       refine DR.startS [false, false, false, false, false, false, false, false, false, false, false, false, false, false, false, true] mix (by kernel_rfl) (fun hst => ?_)
       refine DR.p rfl rfl (p_move rfl) ?_
       refine DR.p rfl rfl (p_move rfl) ?_
       obtain ⟨k737, hd738⟩ := chk_some hd736
       refine DR.p rfl rfl (s_indexV (q := off p_a1 + x693.toNat) Try.underlying58 Try.sizeOf2 rfl ((S731.view v_a1).p (ints_get (lt_len rfl (inR_lt k737)))) rfl k737 (o1 _ _)) ?_
       refine DR.r rfl rfl (r_load rfl Try.isAgg2) (one_read ((S731.view v_a1).get _ _ (ints_get (lt_len rfl (inR_lt k737)))) (.of_flat0 rfl)) ?_
       refine DR.p rfl rfl (p_move rfl) ?_
       refine DR.p rfl rfl (s_fieldAddr Try.underlying37 rfl Try.sizeOf35 (by decide) rfl rfl) ?_
       refine DR.r rfl rfl (r_load rfl Try.isAgg35) (one_read (row_cell (S731.get (k := 0) rfl) rfl) (S731.view v_a0_1).inn.bel) ?_
       refine DR.p rfl rfl (p_move rfl) ?_
       refine DR.p rfl rfl (p_move rfl) ?_
       obtain ⟨k739, hd740⟩ := chk_some hd738
       refine DR.p rfl rfl (s_indexV (q := off p_a0_1 + x451.toNat * 14) Try.underlying35 Try.sizeOf54 rfl ((S731.view v_a0_1).rowne a_a0_1 (by decide) (lt_len rfl (inR_lt k739))) rfl k739 rfl) ?_
       obtain ⟨k741, hd742⟩ := chk_some hd740
       refine DR.p rfl rfl (s_indexAr (q := off p_a0_1 + x451.toNat * 14 + x693.toNat) Try.underlying54 Try.sizeOf2 rfl rfl k741 (o1 _ _)) ?_
       refine DR.r rfl rfl (r_load rfl Try.isAgg2) (one_read ((S731.view v_a0_1).row a_a0_1 (lt_len rfl (inR_lt k739)) _ _ (ints_get (lt_len (rw_len a_a0_1 (lt_len rfl (inR_lt k739))) (inR_lt k741)))) (.of_flat0 rfl)) ?_
       obtain ⟨k743, hd744⟩ := chk_some hd742
       refine DR.p rfl rfl (s_indexV (q := off p_a1 + (rd (rw_ a0_1 x451.toNat) x693.toNat).toNat) Try.underlying58 Try.sizeOf2 rfl ((S731.view v_a1).p (ints_get (lt_len rfl (inR_lt k743)))) rfl k743 (o1 _ _)) ?_
       refine DR.r rfl rfl (r_load rfl Try.isAgg2) (one_read ((S731.view v_a1).get _ _ (ints_get (lt_len rfl (inR_lt k743)))) (.of_flat0 rfl)) ?_
       obtain ⟨k745, hd746⟩ := chk_some hd744
       refine DR.p rfl rfl (s_indexAr (q := (rd a1 x693.toNat).toNat) Try.underlying54 Try.sizeOf2 rfl rfl k745 (z1 _)) ?_
       obtain ⟨G747, hHG747, S748⟩ := S731.set (k := 4) (i := i632) rfl (AObj.row false (ints (xs692.set ((rd a1 x693.toNat).toNat) (rd a1 ((rd (rw_ a0_1 x451.toNat) x693.toNat).toNat)))))
       refine DR.s rfl (s_store Try.sizeOf2 rfl rfl rfl (S731.get (k := 4) rfl) (lt_len (ints_len lxs692) (inR_lt k745)) ((congrArg (fun l => List.set _ _ (AObj.row false l)) (ints_set _ _ _)).trans hHG747)) (set_le hHG747) ?_
       refine DR.nil 16 [] hst (by kernel_rfl) trivial ?_
       refine AX.region ?_
       refine AO.p rfl (p_move rfl) ?_
       obtain ⟨k749, hd750⟩ := chk_some hd746
       refine AO.p rfl (p_addE rfl rfl k749) ?_
       refine AO.p rfl (p_assign rfl) ?_
       refine AO.nil ?_
       obtain rfl := some_inj hd750
       have S752 := S748.front 4 rfl
       have S753 := S752.front 4 rfl
       have S754 := S753.front 4 rfl
       have S755 := S754.front 4 rfl
       have S756 := S755.front 4 rfl
       exact ⟨((xs692.set ((rd a1 x693.toNat).toNat) (rd a1 ((rd (rw_ a0_1 x451.toNat) x693.toNat).toNat))), x693 + 1), hk730, (xs692.set ((rd a1 x693.toNat).toNat) (rd a1 ((rd (rw_ a0_1 x451.toNat) x693.toNat).toNat))), (x693 + 1), rfl, S756, (len_set lxs692), Sub.cons' rfl rfl (Sub.cons' rfl rfl (Sub.cons' rfl rfl (Sub.cons' rfl rfl (Sub.cons' rfl rfl (Sub.cons' rfl rfl (Sub.cons' rfl rfl (Sub.nil _)))))))⟩
      ·have hd757 := bif_f c735 ho729
       refine AX.exit ?_
       obtain rfl := some_inj hd757
       have S758 := S731.front 4 rfl
       have S759 := S758.front 4 rfl
       have S760 := S759.front 4 rfl
       have S761 := S760.front 4 rfl
       have S762 := S761.front 4 rfl
       exact ⟨xs692, hk730, S762, lxs692, Sub.cons' rfl rfl (Sub.cons' rfl rfl (Sub.cons' rfl rfl (Sub.cons' rfl rfl (Sub.cons' rfl rfl (Sub.cons' rfl rfl (Sub.nil _))))))⟩
    ·rintro t' G764 ⟨xs719, rfl, S763, lxs719, hsub765⟩
     refine ⟨_, hsub765, ?_⟩
     refine AX.region ?_
     refine AO.p rfl (s_fieldAddr Try.underlying37 rfl Try.sizeOf35 (by decide) rfl rfl) ?_
     refine AO.c rfl (s_load Try.isAgg35 rfl (row_cell (S763.get (k := 2) rfl) rfl)) ?_
     refine AO.c rfl (s_loadN (vs := ints xs719) Try.isAgg54 Try.sizeOf54 rfl (ints_len lxs719) (row_cells (S763.get (k := 4) rfl))) ?_
     obtain ⟨G766, i767, hii767, hHG766, S768⟩ := S763.new (AObj.row false (ints [xs719].flatten))
     refine AO.c rfl (s_build1 (i := i767) (r := xs719) (zr := List.replicate 14 0) Try.underlying35 Try.sizeOf54 Try.zeroValue54 rfl rfl (by decide) (by decide) rfl lxs719 hii767 hHG766) ?_
     obtain ⟨k770, hd771⟩ := chk_some hd722
     obtain ⟨p772, c773, G774, haG774, S775, Bp772⟩ := S768.app (k := 4) rfl Bo447 (ints [xs719].flatten) 1 (flat_len1 (all_one lxs719) rfl)
     have S776 := S775.cellsEq (k := 4) (us' := ints (rs450 ++ [xs719]).flatten) (intsf_app _ _) rfl
     have BS776 : Sb p772 ((rs450 ++ [xs719]).length) c773 14 := (show rs450.length + 1 = (rs450 ++ [xs719]).length from len_app (a := rs450) (b := [xs719]) rfl rfl) ▸ Bp772
     have S777 := S776.drop 0 rfl
     refine AO.c rfl (s_app (by_ := 112) (us := ints rs450.flatten) (vs := ints [xs719].flatten) Try.underlying35 Try.underlying35 Try.typeInfo54 Try.sizeOf54 Try.zeroValue54 rfl rfl rfl rfl rfl rfl rfl (S768.buf (k := 4) rfl Bo447 (flat_len1 ars450 rfl)) (S768.oview (k := 0) rfl (Sb.lit (n := 1) (by decide)) (flat_len1 (all_one lxs719) rfl)) (flat_len1 (all_one lxs719) rfl) ints_one k770 haG774 (show rs450.length + 1 = (rs450 ++ [xs719]).length from len_app (a := rs450) (b := [xs719]) rfl rfl)) ?_
     refine AO.p rfl (s_fieldAddr Try.underlying37 rfl Try.sizeOf35 (by decide) rfl rfl) ?_
     obtain ⟨G778, hHG778, S779⟩ := S777.set (k := 2) (i := i113) rfl (AObj.row false ([.int .i64 a0_0, .slice p772 ((rs450 ++ [xs719]).length) c773]))
     refine AO.s (s_store Try.sizeOf35 rfl rfl rfl (S777.get (k := 2) rfl) (Nat.le_of_ble_eq_true rfl) hHG778) ?_
     refine AO.nil ?_
     refine AX.region ?_
     refine AO.p rfl (p_move rfl) ?_
     obtain ⟨k780, hd781⟩ := chk_some hd771
     refine AO.p rfl (p_addE rfl rfl k780) ?_
     refine AO.p rfl (p_assign rfl) ?_
     refine AO.nil ?_
     obtain rfl := some_inj hd781
     have S783 := S779.front 3 rfl
     have S784 := S783.front 3 rfl
     have S785 := S784.front 3 rfl
     have S786 := S785.front 3 rfl
     have S787 := S786.keep 4
     exact ⟨((rs450 ++ [xs719]), x451 + 1), hk624, (rs450 ++ [xs719]), (x451 + 1), p772, c773, rfl, S787, (all_app ars450 (all_one lxs719)), BS776, Sub.cons' rfl rfl (Sub.cons' rfl rfl (Sub.cons' rfl rfl (Sub.cons' rfl rfl (Sub.cons' rfl rfl (Sub.nil _)))))⟩
   ·have hd788 := bif_f c629 ho623
    refine AX.exit ?_
    obtain rfl := some_inj hd788
    have S789 := S625.front 3 rfl
    have S790 := S789.front 3 rfl
    have S791 := S790.front 3 rfl
    have S792 := S791.keep 3
    exact ⟨rs450, p448, c449, hk624, S792, ars450, Bo447, Sub.cons' rfl rfl (Sub.cons' rfl rfl (Sub.nil _))⟩
 ·rintro t' G794 ⟨rs614, p612, c613, rfl, S793, ars614, Bo611, hsub795⟩
  refine ⟨_, hsub795, ?_⟩
  refine AX.seq ?_
  refine AX.region ?_
  refine AO.c rfl (s_loadN (vs := [.int .i64 a0_0, .slice p612 rs614.length c613]) Try.isAgg37 Try.sizeOf37 rfl rfl (row_cells (S793.get (k := 1) rfl))) ?_
  obtain ⟨G796, hHG796, S797⟩ := S793.set (k := 0) (i := i105) rfl (AObj.row false ([.int .i64 a0_0, .slice p612 rs614.length c613]))
  refine AO.s (s_storeAll (vs := [.int .i64 a0_0, .slice p612 rs614.length c613]) Try.sizeOf37 rfl rfl (ones_list rfl) (S793.get (k := 0) rfl) rfl rfl hHG796) ?_
  refine AO.nil ?_
  refine AX.ret ?_
  obtain ⟨rfl, rfl⟩ := Prod.mk.inj (some_inj hd617)
  have S799 := S797.front 2 rfl
  have S800 := S799.keep 1
  exact ⟨.inr rfl, _, res1 rfl (rv_cell (vs := [.int .i64 a0_0, .slice p612 rs614.length c613]) rfl Try.isAgg37 Try.sizeOf37 rfl (row_cells (S797.get (k := 0) rfl))), p612, c613, rfl, S800, Bo611, ars614⟩

set_option maxHeartbeats 4000000 in
theorem W_spec_l01Reordered (fu : Nat) (H : AHeap) (a0_0 : Int) (p_a0_1 : Option Addr) (c_a0_1 : Nat) (a0_1 : List (List Int)) (a_a0_1 : All 14 a0_1) (v_a0_1 : Vw H p_a0_1 a0_1.length c_a0_1 (ints a0_1.flatten)) (p_a1 : Option Addr) (c_a1 : Nat) (a1 : List Int) (v_a1 : Vw H p_a1 a1.length c_a1 (ints a1)) (r0 : Int) (r1 : List (List Int)) (hd : D_spec_l01Reordered fu a0_0 a0_1 a1 = some (r0, r1)) : ∃ v G', ACall Try.prog 166 [.agg [.int .i64 a0_0, .slice p_a0_1 a0_1.length c_a0_1].toArray, .slice p_a1 a1.length c_a1] H v G' ∧ ∃ (p_r1 : Option Addr) (c_r1 : Nat), (v = .agg [.int .i64 r0, .slice p_r1 r1.length c_r1].toArray) ∧ St [] H G' [oseg p_r1 (ints r1.flatten)] ∧ Sb p_r1 r1.length c_r1 14 ∧ All 14 r1 := by
 refine ACall.bodyX (args := [.agg [.int .i64 a0_0, .slice p_a0_1 a0_1.length c_a0_1].toArray, .slice p_a1 a1.length c_a1]) (N := 31) [(0, .agg [.int .i64 a0_0, .slice p_a0_1 a0_1.length c_a0_1].toArray), (1, .slice p_a1 a1.length c_a1)] (fun v G' => ∃ (p_r1 : Option Addr) (c_r1 : Nat), (v = .agg [.int .i64 r0, .slice p_r1 r1.length c_r1].toArray) ∧ St [] H G' [oseg p_r1 (ints r1.flatten)] ∧ Sb p_r1 r1.length c_r1 14 ∧ All 14 r1) Try.func166 rfl rfl rfl rfl ?_
 unfold D_spec_l01Reordered at hd
 have S0 : St [] H H [] := St.nil H
 refine AX.seq ?_
 refine AX.region ?_
 obtain ⟨G100, i101, hii101, hHG100, S102⟩ := S0.new (AObj.row false ([.int .i64 a0_0, .slice p_a0_1 a0_1.length c_a0_1]))
 refine AO.c rfl (s_box (i := i101) (cs := [.int .i64 a0_0, .slice p_a0_1 a0_1.length c_a0_1]) rfl hii101 rfl hHG100) ?_
 obtain ⟨G104, i105, hii105, hHG104, S106⟩ := S102.new (AObj.row false ([.int .i64 0, .slice none 0 0]))
 refine AO.c rfl (s_alloc (i := i105) (cs := [.int .i64 0, .slice none 0 0]) Try.zeroValue37 rfl rfl hii105 hHG104) ?_
 refine AO.nil ?_
 refine AX.seq ?_
 refine AX.region ?_
 refine AO.p rfl (s_fieldAddr Try.underlying37 rfl Try.sizeOf2 (by decide) rfl rfl) ?_
 refine AO.c rfl (s_load Try.isAgg2 rfl (row_cell (S106.get (k := 1) rfl) rfl)) ?_
 obtain ⟨G108, i109, hii109, hHG108, S110⟩ := S106.new (AObj.row false (ints [].flatten))
 refine AO.c rfl (s_build0 (i := i109) Try.underlying35 Try.sizeOf54 hii109 hHG108) ?_
 refine AO.p rfl (p_build2 (vs := [(0, .int .i64 a0_0), (1, .slice (some (Addr.mk i109 0 none)) 0 0)]) (cs := [.int .i64 a0_0, .slice (some (Addr.mk i109 0 none)) 0 0]) Try.underlying37 rfl rfl rfl Try.sizeOf2 Try.sizeOf35 Try.zeroValue37 rfl rfl rfl rfl rfl) ?_
 obtain ⟨G112, i113, hii113, hHG112, S114⟩ := S110.new (AObj.row false ([.int .i64 0, .slice none 0 0]))
 refine AO.c rfl (s_alloc (i := i113) (cs := [.int .i64 0, .slice none 0 0]) Try.zeroValue37 rfl rfl hii113 hHG112) ?_
 obtain ⟨G116, hHG116, S117⟩ := S114.set (k := 0) (i := i113) rfl (AObj.row false ([.int .i64 a0_0, .slice (some (Addr.mk i109 0 none)) 0 0]))
 refine AO.s (s_storeAll (vs := [.int .i64 a0_0, .slice (some (Addr.mk i109 0 none)) 0 0]) Try.sizeOf37 rfl rfl (ones_list rfl) (S114.get (k := 0) rfl) rfl rfl hHG116) ?_
 refine AO.nil ?_
 refine AX.seq ?_
 refine AX.seq ?_
 refine AX.region ?_
 refine AO.p rfl (p_assign rfl) ?_
 refine AO.nil ?_
 obtain ⟨r222, hl223, hd224⟩ := bnd_some hd
 refine AX.cutS (fun t' H' => ∃ (rs221 : List (List Int)) (p219 : Option Addr) (c220 : Nat), rs221 = r222 ∧ St [] H H' [[(i105, AObj.row false ([.int .i64 0, .slice none 0 0]))], [(i113, AObj.row false ([.int .i64 a0_0, .slice p219 rs221.length c220]))], oseg p219 (ints rs221.flatten)] ∧ All 14 rs221 ∧ Sb p219 (rs221.length) c220 14 ∧ Am.Sub [(4, .pointer (some ⟨i105, 0, none⟩)), (5, .pointer (some ⟨i113, 0, none⟩))] t') ?_ ?_
 ·refine AX.block ?_
  refine AX.loopF (fun s' t' H' => ∃ (rs188 : List (List Int)) (x189 : Int) (p186 : Option Addr) (c187 : Nat), (rs188, x189) = s' ∧ St [] H H' [[(i101, AObj.row false ([.int .i64 a0_0, .slice p_a0_1 a0_1.length c_a0_1]))], [(i105, AObj.row false ([.int .i64 0, .slice none 0 0]))], [(i113, AObj.row false ([.int .i64 a0_0, .slice p186 rs188.length c187]))], oseg p186 (ints rs188.flatten)] ∧ All 14 rs188 ∧ Sb p186 (rs188.length) c187 14 ∧ Am.Sub [(1, .slice p_a1 a1.length c_a1), (2, .pointer (some ⟨i101, 0, none⟩)), (4, .pointer (some ⟨i105, 0, none⟩)), (5, .pointer (some ⟨i113, 0, none⟩)), (6, .int .i64 x189)] t') hl223 ?_ ?_
  ·skip
   have S225 := S117.front 1 rfl
   have S226 := S225.front 1 rfl
   have S227 := S226.front 2 rfl
   have S228 := S227.front 3 rfl
   exact ⟨[], 0, (some (Addr.mk i109 0 none)), 0, rfl, S228, all_nil, (Sb.lit (n := 0) (by decide)), Sub.cons' rfl rfl (Sub.cons' rfl rfl (Sub.cons' rfl rfl (Sub.cons' rfl rfl (Sub.cons' rfl rfl (Sub.nil _)))))⟩
  ·rintro n229 _ t' G233 ⟨rs188, x189, p186, c187, rfl, S232, ars188, Bo185, hsub234⟩ o235 ho230 hk231
   refine AX.sub hsub234 ?_
   unfold D_spec_l01Reordered_s0 at ho230
   refine AX.seq ?_
   refine AX.seq ?_
   refine AX.region ?_
   refine AO.p rfl (p_move rfl) ?_
   refine AO.p rfl (p_move rfl) ?_
   refine AO.p rfl (p_len_slice rfl Try.underlying58) ?_
   refine AO.p rfl (p_lss rfl rfl) ?_
   refine AO.nil ?_
   refine AX.cond rfl (fun c236 => ?_) (fun c236 => ?_)
   ·have hd237 := bif_t c236 ho230
    refine AX.skip ?_
    refine AX.seq ?_
    refine AX.block ?_
    refine DR.startS [false, false, false, false, false, false, false, false, false, false, false, true, false, true] mix (by kernel_rfl) (fun hst => ?_)
    refine DR.p rfl rfl (s_fieldAddr Try.underlying37 rfl Try.sizeOf35 (by decide) rfl rfl) ?_
    refine DR.r rfl rfl (r_load rfl Try.isAgg35) (one_read (row_cell (S232.get (k := 2) rfl) rfl) (S232.oin (k := 3) rfl Bo185).bel) ?_
    refine DR.p rfl rfl (s_fieldAddr Try.underlying37 rfl Try.sizeOf35 (by decide) rfl rfl) ?_
    refine DR.r rfl rfl (r_load rfl Try.isAgg35) (one_read (row_cell (S232.get (k := 0) rfl) rfl) (S232.view v_a0_1).inn.bel) ?_
    refine DR.p rfl rfl (p_move rfl) ?_
    refine DR.p rfl rfl (p_move rfl) ?_
    obtain ⟨k238, hd239⟩ := chk_some hd237
    refine DR.p rfl rfl (s_indexV (q := off p_a1 + x189.toNat) Try.underlying58 Try.sizeOf2 rfl ((S232.view v_a1).p (ints_get (lt_len rfl (inR_lt k238)))) rfl k238 (o1 _ _)) ?_
    refine DR.r rfl rfl (r_load rfl Try.isAgg2) (one_read ((S232.view v_a1).get _ _ (ints_get (lt_len rfl (inR_lt k238)))) (.of_flat0 rfl)) ?_
    obtain ⟨k240, hd241⟩ := chk_some hd239
    refine DR.p rfl rfl (s_indexV (q := off p_a0_1 + ((rd a1 x189.toNat).toNat) * 14) Try.underlying35 Try.sizeOf54 rfl ((S232.view v_a0_1).rowne a_a0_1 (by decide) (lt_len rfl (inR_lt k240))) rfl k240 rfl) ?_
    refine DR.r rfl rfl (r_loadN (vs := ints (rw_ a0_1 ((rd a1 x189.toNat).toNat))) rfl Try.isAgg54 Try.sizeOf54 (ints_len (rw_len a_a0_1 (lt_len rfl (inR_lt k240))))) (many_row ((S232.view v_a0_1).row a_a0_1 (lt_len rfl (inR_lt k240))) bel_ints) ?_
    obtain ⟨G242, i243, hii243, hHG242, S244⟩ := S232.new (AObj.row false (ints [(rw_ a0_1 ((rd a1 x189.toNat).toNat))].flatten))
    refine DR.a rfl rfl hii243 hHG242 (a_build1 (r := (rw_ a0_1 ((rd a1 x189.toNat).toNat))) (zr := List.replicate 14 0) Try.underlying35 Try.sizeOf54 Try.zeroValue54 rfl rfl (by decide) (by decide) rfl (rw_len a_a0_1 (lt_len rfl (inR_lt k240)))) ?_
    obtain ⟨k246, hd247⟩ := chk_some hd241
    obtain ⟨p248, c249, G250, haG250, S251, Bp248⟩ := S244.app (k := 4) rfl Bo185 (ints [(rw_ a0_1 ((rd a1 x189.toNat).toNat))].flatten) 1 (flat_len1 (all_one (rw_len a_a0_1 (lt_len rfl (inR_lt k240)))) rfl)
    have S252 := S251.cellsEq (k := 4) (us' := ints (rs188 ++ [(rw_ a0_1 ((rd a1 x189.toNat).toNat))]).flatten) (intsf_app _ _) rfl
    have BS252 : Sb p248 ((rs188 ++ [(rw_ a0_1 ((rd a1 x189.toNat).toNat))]).length) c249 14 := (show rs188.length + 1 = (rs188 ++ [(rw_ a0_1 ((rd a1 x189.toNat).toNat))]).length from len_app (a := rs188) (b := [(rw_ a0_1 ((rd a1 x189.toNat).toNat))]) rfl rfl) ▸ Bp248
    have S253 := S252.drop 0 rfl
    refine DR.w rfl rfl (s_app (by_ := 112) (us := ints rs188.flatten) (vs := ints [(rw_ a0_1 ((rd a1 x189.toNat).toNat))].flatten) Try.underlying35 Try.underlying35 Try.typeInfo54 Try.sizeOf54 Try.zeroValue54 rfl rfl rfl rfl rfl rfl rfl (S244.buf (k := 4) rfl Bo185 (flat_len1 ars188 rfl)) (S244.oview (k := 0) rfl (Sb.lit (n := 1) (by decide)) (flat_len1 (all_one (rw_len a_a0_1 (lt_len rfl (inR_lt k240)))) rfl)) (flat_len1 (all_one (rw_len a_a0_1 (lt_len rfl (inR_lt k240)))) rfl) ints_one k246 haG250 (show rs188.length + 1 = (rs188 ++ [(rw_ a0_1 ((rd a1 x189.toNat).toNat))]).length from len_app (a := rs188) (b := [(rw_ a0_1 ((rd a1 x189.toNat).toNat))]) rfl rfl)) (appR_len haG250) ?_
    refine DR.p rfl rfl (s_fieldAddr Try.underlying37 rfl Try.sizeOf35 (by decide) rfl rfl) ?_
    obtain ⟨G254, hHG254, S255⟩ := S253.set (k := 2) (i := i113) rfl (AObj.row false ([.int .i64 a0_0, .slice p248 ((rs188 ++ [(rw_ a0_1 ((rd a1 x189.toNat).toNat))]).length) c249]))
    refine DR.s rfl (s_store Try.sizeOf35 rfl rfl rfl (S253.get (k := 2) rfl) (Nat.le_of_ble_eq_true rfl) hHG254) (set_le hHG254) ?_
    refine DR.nil 14 [] hst (by kernel_rfl) trivial ?_
    refine AX.region ?_
    refine AO.p rfl (p_move rfl) ?_
    obtain ⟨k256, hd257⟩ := chk_some hd247
    refine AO.p rfl (p_addE rfl rfl k256) ?_
    refine AO.p rfl (p_assign rfl) ?_
    refine AO.nil ?_
    obtain rfl := some_inj hd257
    have S259 := S255.front 3 rfl
    have S260 := S259.front 3 rfl
    have S261 := S260.front 3 rfl
    have S262 := S261.front 3 rfl
    exact ⟨((rs188 ++ [(rw_ a0_1 ((rd a1 x189.toNat).toNat))]), x189 + 1), hk231, (rs188 ++ [(rw_ a0_1 ((rd a1 x189.toNat).toNat))]), (x189 + 1), p248, c249, rfl, S262, (all_app ars188 (all_one (rw_len a_a0_1 (lt_len rfl (inR_lt k240))))), BS252, Sub.cons' rfl rfl (Sub.cons' rfl rfl (Sub.cons' rfl rfl (Sub.cons' rfl rfl (Sub.cons' rfl rfl (Sub.nil _)))))⟩
   ·have hd263 := bif_f c236 ho230
    refine AX.exit ?_
    obtain rfl := some_inj hd263
    have S264 := S232.front 3 rfl
    have S265 := S264.front 3 rfl
    have S266 := S265.front 3 rfl
    have S267 := S266.keep 3
    exact ⟨rs188, p186, c187, hk231, S267, ars188, Bo185, Sub.cons' rfl rfl (Sub.cons' rfl rfl (Sub.nil _))⟩
 ·rintro t' G269 ⟨rs221, p219, c220, rfl, S268, ars221, Bo218, hsub270⟩
  refine ⟨_, hsub270, ?_⟩
  refine AX.seq ?_
  refine AX.region ?_
  refine AO.c rfl (s_loadN (vs := [.int .i64 a0_0, .slice p219 rs221.length c220]) Try.isAgg37 Try.sizeOf37 rfl rfl (row_cells (S268.get (k := 1) rfl))) ?_
  obtain ⟨G271, hHG271, S272⟩ := S268.set (k := 0) (i := i105) rfl (AObj.row false ([.int .i64 a0_0, .slice p219 rs221.length c220]))
  refine AO.s (s_storeAll (vs := [.int .i64 a0_0, .slice p219 rs221.length c220]) Try.sizeOf37 rfl rfl (ones_list rfl) (S268.get (k := 0) rfl) rfl rfl hHG271) ?_
  refine AO.nil ?_
  refine AX.ret ?_
  obtain ⟨rfl, rfl⟩ := Prod.mk.inj (some_inj hd224)
  have S274 := S272.front 2 rfl
  have S275 := S274.keep 1
  exact ⟨.inr rfl, _, res1 rfl (rv_cell (vs := [.int .i64 a0_0, .slice p219 rs221.length c220]) rfl Try.isAgg37 Try.sizeOf37 rfl (row_cells (S272.get (k := 0) rfl))), p219, c220, rfl, S275, Bo218, ars221⟩

set_option maxHeartbeats 4000000 in
theorem W_spec_l01DrawRobin (fu : Nat) (H : AHeap) (F : Sg) (i_n0 : Nat) (p_n0_0 : Option Addr) (c_n0_0 : Nat) (n0_0 : List Int) (q_n0_0 : PV F p_n0_0 c_n0_0 n0_0) (n0_1 : Int) (n0_2 : Int) (hn : (([[(i_n0, AObj.row false ([.slice p_n0_0 n0_0.length c_n0_0, .int .i64 n0_1, .int .u64 n0_2]))], F] : List Sg).flatten.map (·.1)).Nodup) (ho : ∀ x ∈ ([[(i_n0, AObj.row false ([.slice p_n0_0 n0_0.length c_n0_0, .int .i64 n0_1, .int .u64 n0_2]))], F] : List Sg).flatten, x.1 < H.length ∧ hget H x.1 = x.2) (r0 : Int) (r1 : List (List Int)) (m_n0_1 : Int) (m_n0_2 : Int) (hd : D_spec_l01DrawRobin fu n0_0 n0_1 n0_2 = some (r0, r1, m_n0_1, m_n0_2)) : ∃ v G', ACall Try.prog 137 [.pointer (some ⟨i_n0, 0, none⟩)] H v G' ∧ ∃ (p_r1 : Option Addr) (c_r1 : Nat) (F' : Sg), (v = .agg [.int .i64 r0, .slice p_r1 r1.length c_r1].toArray) ∧ St (([[(i_n0, AObj.row false ([.slice p_n0_0 n0_0.length c_n0_0, .int .i64 n0_1, .int .u64 n0_2]))], F] : List Sg).flatten.map (·.1)) H G' [oseg p_r1 (ints r1.flatten), [(i_n0, AObj.row false ([.slice p_n0_0 n0_0.length c_n0_0, .int .i64 m_n0_1, .int .u64 m_n0_2]))], F'] ∧ Sb p_r1 r1.length c_r1 14 ∧ All 14 r1 ∧ Pin F' F := by
 refine ACall.bodyX (args := [.pointer (some ⟨i_n0, 0, none⟩)]) (N := 28) [(0, .pointer (some ⟨i_n0, 0, none⟩))] (fun v G' => ∃ (p_r1 : Option Addr) (c_r1 : Nat) (F' : Sg), (v = .agg [.int .i64 r0, .slice p_r1 r1.length c_r1].toArray) ∧ St (([[(i_n0, AObj.row false ([.slice p_n0_0 n0_0.length c_n0_0, .int .i64 n0_1, .int .u64 n0_2]))], F] : List Sg).flatten.map (·.1)) H G' [oseg p_r1 (ints r1.flatten), [(i_n0, AObj.row false ([.slice p_n0_0 n0_0.length c_n0_0, .int .i64 m_n0_1, .int .u64 m_n0_2]))], F'] ∧ Sb p_r1 r1.length c_r1 14 ∧ All 14 r1 ∧ Pin F' F) Try.func137 rfl rfl rfl rfl ?_
 unfold D_spec_l01DrawRobin at hd
 have S0 := St.initF hn ho
 generalize hM0 : (([[(i_n0, AObj.row false ([.slice p_n0_0 n0_0.length c_n0_0, .int .i64 n0_1, .int .u64 n0_2]))], F] : List Sg).flatten.map (·.1)) = M0 at S0 ⊢
 refine AX.seq ?_
 refine AX.region ?_
 obtain ⟨G100, i101, hii101, hHG100, S102⟩ := S0.new (AObj.row false ([.int .i64 0, .slice none 0 0]))
 refine AO.c rfl (s_alloc (i := i101) (cs := [.int .i64 0, .slice none 0 0]) Try.zeroValue37 rfl rfl hii101 hHG100) ?_
 refine AO.nil ?_
 refine AX.seq ?_
 refine AX.region ?_
 refine AO.p rfl (p_move rfl) ?_
 obtain ⟨G104, i105, hii105, hHG104, S106⟩ := S102.new (AObj.row false (ints [2, 3, 4, 4, 5, 6, 6, 7, 8, 8, 9, 10, 12, 14]))
 refine AO.c rfl (s_buildInts (i := i105) (vs := [(0, .int .i64 2), (1, .int .i64 3), (2, .int .i64 4), (3, .int .i64 4), (4, .int .i64 5), (5, .int .i64 6), (6, .int .i64 6), (7, .int .i64 7), (8, .int .i64 8), (9, .int .i64 8), (10, .int .i64 9), (11, .int .i64 10), (12, .int .i64 12), (13, .int .i64 14)]) (xs := [2, 3, 4, 4, 5, 6, 6, 7, 8, 8, 9, 10, 12, 14]) Try.underlying58 Try.sizeOf2 Try.zeroValue2 rfl rfl (by decide) rfl rfl hii105 hHG104) ?_
 have S108 := S106.front 3 rfl
 have S109 := S108.front 1 rfl
 have S110 := S109.front 3 rfl
 have S111 : St M0 H G104 [[(i_n0, AObj.row false ([.slice p_n0_0 n0_0.length c_n0_0, .int .i64 n0_1, .int .u64 n0_2]))], [(i105, AObj.row false (ints [2, 3, 4, 4, 5, 6, 6, 7, 8, 8, 9, 10, 12, 14]))], F, [(i101, AObj.row false ([.int .i64 0, .slice none 0 0]))]] := S110
 obtain ⟨⟨x112, x113, x114⟩, h115, hd116⟩ := bnd_some hd
 obtain ⟨_, G119, hc121, F117, rfl, S120, hF118⟩ := W_spec_l01Pick fu G104 F i_n0 p_n0_0 c_n0_0 n0_0 q_n0_0 n0_1 n0_2 (some (Addr.mk i105 0 none)) 14 14 [2, 3, 4, 4, 5, 6, 6, 7, 8, 8, 9, 10, 12, 14] rfl (Sb.lit (n := 14) (by decide)) (St.fnodup (A := [[(i_n0, AObj.row false ([.slice p_n0_0 n0_0.length c_n0_0, .int .i64 n0_1, .int .u64 n0_2]))], [(i105, AObj.row false (ints [2, 3, 4, 4, 5, 6, 6, 7, 8, 8, 9, 10, 12, 14]))], F]) S111) (St.fmem (A := [[(i_n0, AObj.row false ([.slice p_n0_0 n0_0.length c_n0_0, .int .i64 n0_1, .int .u64 n0_2]))], [(i105, AObj.row false (ints [2, 3, 4, 4, 5, 6, 6, 7, 8, 8, 9, 10, 12, 14]))], F]) S111) x112 x113 x114 h115
 have S122 := St.callM (A := [[(i_n0, AObj.row false ([.slice p_n0_0 n0_0.length c_n0_0, .int .i64 n0_1, .int .u64 n0_2]))], [(i105, AObj.row false (ints [2, 3, 4, 4, 5, 6, 6, 7, 8, 8, 9, 10, 12, 14]))], F]) S111 S120 (fun j h => h)
 refine AO.c rfl (o_call (vs := [.pointer (some ⟨i_n0, 0, none⟩), .slice (some (Addr.mk i105 0 none)) 14 14]) rfl Try.call135 hc121) ?_
 obtain ⟨⟨x123, rs124⟩, h125, hd126⟩ := bnd_some hd116
 obtain ⟨_, G133, hc132, p127, c128, rfl, S134, B130, a131⟩ := W_spec_l01Circle fu G119 x112 x123 rs124 h125
 have S135 := S122.call S134
 refine AO.c rfl (o_call (vs := [.int .i64 x112]) rfl Try.call103 hc132) ?_
 obtain ⟨G136, i137, hii137, hHG136, S138⟩ := S135.new (AObj.row false ([.int .i64 0, .slice none 0 0]))
 refine AO.c rfl (s_alloc (i := i137) (cs := [.int .i64 0, .slice none 0 0]) Try.zeroValue37 rfl rfl hii137 hHG136) ?_
 obtain ⟨G140, hHG140, S141⟩ := S138.set (k := 0) (i := i137) rfl (AObj.row false ([.int .i64 x123, .slice p127 rs124.length c128]))
 have S142 : St M0 H G140 [[(i137, AObj.row false ([.int .i64 x123, .slice p127 rs124.length c128]))], oseg p127 (ints rs124.flatten), [(i_n0, AObj.row false ([.slice p_n0_0 n0_0.length c_n0_0, .int .i64 x113, .int .u64 x114]))], [(i105, AObj.row false (ints [2, 3, 4, 4, 5, 6, 6, 7, 8, 8, 9, 10, 12, 14]))], F117, [(i101, AObj.row false ([.int .i64 0, .slice none 0 0]))]] := S141
 refine AO.s (s_storeAll (vs := [.int .i64 x123, .slice p127 rs124.length c128]) Try.sizeOf37 rfl rfl (ones_list rfl) (S138.get (k := 0) rfl) rfl rfl hHG140) ?_
 refine AO.nil ?_
 refine AX.seq ?_
 refine AX.seq ?_
 refine AX.region ?_
 refine AO.p rfl (p_move rfl) ?_
 have S143 := S142.front 4 rfl
 have S144 := S143.front 3 rfl
 have S145 : St M0 H G140 [[(i_n0, AObj.row false ([.slice p_n0_0 n0_0.length c_n0_0, .int .i64 x113, .int .u64 x114]))], F117, [(i137, AObj.row false ([.int .i64 x123, .slice p127 rs124.length c128]))], oseg p127 (ints rs124.flatten), [(i105, AObj.row false (ints [2, 3, 4, 4, 5, 6, 6, 7, 8, 8, 9, 10, 12, 14]))], [(i101, AObj.row false ([.int .i64 0, .slice none 0 0]))]] := S144
 obtain ⟨⟨x146, x147, x148⟩, h149, hd150⟩ := bnd_some hd126
 obtain ⟨_, G153, hc155, F151, rfl, S154, hF152⟩ := W_spec_l01Next fu G140 F117 3 i_n0 p_n0_0 c_n0_0 n0_0 (q_n0_0.mono hF118) x113 x114 (St.fnodup (A := [[(i_n0, AObj.row false ([.slice p_n0_0 n0_0.length c_n0_0, .int .i64 x113, .int .u64 x114]))], F117]) S145) (St.fmem (A := [[(i_n0, AObj.row false ([.slice p_n0_0 n0_0.length c_n0_0, .int .i64 x113, .int .u64 x114]))], F117]) S145) x146 x147 x148 h149
 have S156 := St.callM (A := [[(i_n0, AObj.row false ([.slice p_n0_0 n0_0.length c_n0_0, .int .i64 x113, .int .u64 x114]))], F117]) S145 S154 (fun j h => h)
 refine AO.c rfl (o_call (vs := [.pointer (some ⟨i_n0, 0, none⟩), .int .i64 3]) rfl Try.call102 hc155) ?_
 refine AO.p rfl (p_gtr rfl rfl) ?_
 refine AO.nil ?_
 obtain ⟨r208, hb209, hd210⟩ := bnd_some hd150
 refine AX.cutS (fun t' H' => ∃ (x199 : Int) (x200 : Int) (x203 : Int) (rs207 : List (List Int)) (F194 : Sg) (p205 : Option Addr) (c206 : Nat), (x199, x200, x203, rs207) = r208 ∧ St M0 H H' [F194, [(i_n0, AObj.row false ([.slice p_n0_0 n0_0.length c_n0_0, .int .i64 x199, .int .u64 x200]))], [(i101, AObj.row false ([.int .i64 0, .slice none 0 0]))], [(i137, AObj.row false ([.int .i64 x203, .slice p205 rs207.length c206]))], oseg p205 (ints rs207.flatten)] ∧ Pin F194 F ∧ PV F194 p_n0_0 c_n0_0 n0_0 ∧ All 14 rs207 ∧ Sb p205 (rs207.length) c206 14 ∧ Am.Sub [(0, .pointer (some ⟨i_n0, 0, none⟩)), (2, .pointer (some ⟨i101, 0, none⟩)), (3, .pointer (some ⟨i137, 0, none⟩))] t') ?_ ?_
 ·skip
  refine AX.cond rfl (fun c211 => ?_) (fun c211 => ?_)
  ·have hd212 := bif_t c211 hb209
   refine DR.startS [false, false, false, false, true, true, true] mix (by kernel_rfl) (fun hst => ?_)
   refine DR.r rfl rfl (r_loadN (vs := [.int .i64 x123, .slice p127 rs124.length c128]) rfl Try.isAgg37 Try.sizeOf37 rfl) (many_row (row_cells (S156.get (k := 2) rfl)) (bel_cons (.of_flat0 rfl) (bel_cons (S156.oin (k := 3) rfl B130).bel bel_nil))) ?_
   refine DR.p rfl rfl (p_move rfl) ?_
   refine DR.p rfl rfl (s_fieldAddr Try.underlying37 rfl Try.sizeOf2 (by decide) rfl rfl) ?_
   refine DR.r rfl rfl (r_load rfl Try.isAgg2) (one_read (row_cell (S156.get (k := 2) rfl) rfl) (.of_flat0 rfl)) ?_
   have S213 := S156.front 1 rfl
   have S214 := S213.front 1 rfl
   have S215 : St M0 H G153 [[(i_n0, AObj.row false ([.slice p_n0_0 n0_0.length c_n0_0, .int .i64 x147, .int .u64 x148]))], F151, [(i137, AObj.row false ([.int .i64 x123, .slice p127 rs124.length c128]))], oseg p127 (ints rs124.flatten), [(i105, AObj.row false (ints [2, 3, 4, 4, 5, 6, 6, 7, 8, 8, 9, 10, 12, 14]))], [(i101, AObj.row false ([.int .i64 0, .slice none 0 0]))]] := S214
   obtain ⟨⟨xs216, x217, x218⟩, h219, hd220⟩ := bnd_some hd212
   obtain ⟨_, G227, hc229, p222, c223, F221, rfl, S228, B224, hF226⟩ := W_spec_l01DrawOrder fu G153 F151 x123 i_n0 p_n0_0 c_n0_0 n0_0 ((q_n0_0.mono hF118).mono hF152) x147 x148 (St.fnodup (A := [[(i_n0, AObj.row false ([.slice p_n0_0 n0_0.length c_n0_0, .int .i64 x147, .int .u64 x148]))], F151]) S215) (St.fmem (A := [[(i_n0, AObj.row false ([.slice p_n0_0 n0_0.length c_n0_0, .int .i64 x147, .int .u64 x148]))], F151]) S215) xs216 x217 x218 h219
   have S230 := St.callM (A := [[(i_n0, AObj.row false ([.slice p_n0_0 n0_0.length c_n0_0, .int .i64 x147, .int .u64 x148]))], F151]) S215 S228 (fun j h => h)
   refine DR.w rfl rfl (o_call (vs := [.pointer (some ⟨i_n0, 0, none⟩), .int .i64 x123]) rfl Try.call163 hc229) (S228.len) ?_
   obtain ⟨⟨x231, rs232⟩, h233, hd234⟩ := bnd_some hd220
   obtain ⟨_, G241, hc240, p235, c236, rfl, S242, B238, a239⟩ := W_spec_l01Renamed fu G227 x123 p127 c128 rs124 a131 (S230.oview (k := 4) rfl B130 (flat_len1 a131 rfl)) p222 c223 xs216 (S230.oview (k := 0) rfl B224 (ints_len1 rfl)) x231 rs232 h233
   have S243 := S230.call S242
   refine DR.w rfl rfl (o_call (vs := [.agg [.int .i64 x123, .slice p127 rs124.length c128].toArray, .slice p222 xs216.length c223]) rfl Try.call165 hc240) (S242.len) ?_
   obtain ⟨G244, hHG244, S245⟩ := S243.set (k := 4) (i := i137) rfl (AObj.row false ([.int .i64 x231, .slice p235 rs232.length c236]))
   have S246 : St M0 H G244 [oseg p235 (ints rs232.flatten), oseg p222 (ints xs216), [(i_n0, AObj.row false ([.slice p_n0_0 n0_0.length c_n0_0, .int .i64 x217, .int .u64 x218]))], F221, [(i137, AObj.row false ([.int .i64 x231, .slice p235 rs232.length c236]))], oseg p127 (ints rs124.flatten), [(i105, AObj.row false (ints [2, 3, 4, 4, 5, 6, 6, 7, 8, 8, 9, 10, 12, 14]))], [(i101, AObj.row false ([.int .i64 0, .slice none 0 0]))]] := S245
   refine DR.s rfl (s_storeAll (vs := [.int .i64 x231, .slice p235 rs232.length c236]) Try.sizeOf37 rfl rfl (ones_list rfl) (S243.get (k := 4) rfl) rfl rfl hHG244) (set_le hHG244) ?_
   refine DR.nil 7 [(0, 4)] hst (by kernel_rfl) ⟨(rdN (fun _ => (S230.get (k := 3) rfl).trans (S156.get (k := 2) rfl).symm)), trivial⟩ ?_
   have S247 := S246.front 0 rfl
   have S248 := S247.front 4 rfl
   have S249 := S248.front 7 rfl
   have S250 := S249.front 4 rfl
   have S251 := S250.front 5 rfl
   have S252 := S251.keep 5
   exact ⟨x217, x218, x231, rs232, F221, p235, c236, (some_inj hd234), S252, ((((Pin.refl F).mono hF118).mono hF152).mono hF226), (((q_n0_0.mono hF118).mono hF152).mono hF226), a239, B238, Sub.cons' rfl rfl (Sub.cons' rfl rfl (Sub.cons' rfl rfl (Sub.nil _)))⟩
  ·have hd253 := bif_f c211 hb209
   refine AX.skip ?_
   have S254 := S156.front 3 rfl
   have S255 := S254.front 3 rfl
   have S256 := S255.front 5 rfl
   have S257 := S256.front 3 rfl
   have S258 := S257.front 4 rfl
   have S259 := S258.keep 5
   exact ⟨x147, x148, x123, rs124, F151, p127, c128, (some_inj hd253), S259, (((Pin.refl F).mono hF118).mono hF152), ((q_n0_0.mono hF118).mono hF152), a131, B130, Sub.cons' rfl rfl (Sub.cons' rfl rfl (Sub.cons' rfl rfl (Sub.nil _)))⟩
 ·rintro t' G261 ⟨x199, x200, x203, rs207, F194, p205, c206, rfl, S260, hF195, hv198, ars207, Bo204, hsub262⟩
  refine ⟨_, hsub262, ?_⟩
  refine AX.seq ?_
  refine AX.seq ?_
  refine AX.region ?_
  refine AO.p rfl (p_move rfl) ?_
  have S263 := S260.front 0 rfl
  have S264 := S263.front 1 rfl
  have S265 : St M0 H G261 [[(i_n0, AObj.row false ([.slice p_n0_0 n0_0.length c_n0_0, .int .i64 x199, .int .u64 x200]))], F194, [(i101, AObj.row false ([.int .i64 0, .slice none 0 0]))], [(i137, AObj.row false ([.int .i64 x203, .slice p205 rs207.length c206]))], oseg p205 (ints rs207.flatten)] := S264
  obtain ⟨⟨x266, x267, x268⟩, h269, hd270⟩ := bnd_some hd210
  obtain ⟨_, G273, hc275, F271, rfl, S274, hF272⟩ := W_spec_l01Next fu G261 F194 3 i_n0 p_n0_0 c_n0_0 n0_0 hv198 x199 x200 (St.fnodup (A := [[(i_n0, AObj.row false ([.slice p_n0_0 n0_0.length c_n0_0, .int .i64 x199, .int .u64 x200]))], F194]) S265) (St.fmem (A := [[(i_n0, AObj.row false ([.slice p_n0_0 n0_0.length c_n0_0, .int .i64 x199, .int .u64 x200]))], F194]) S265) x266 x267 x268 h269
  have S276 := St.callM (A := [[(i_n0, AObj.row false ([.slice p_n0_0 n0_0.length c_n0_0, .int .i64 x199, .int .u64 x200]))], F194]) S265 S274 (fun j h => h)
  refine AO.c rfl (o_call (vs := [.pointer (some ⟨i_n0, 0, none⟩), .int .i64 3]) rfl Try.call102 hc275) ?_
  refine AO.p rfl (p_gtr rfl rfl) ?_
  refine AO.nil ?_
  refine AX.cond rfl (fun c277 => ?_) (fun c277 => ?_)
  ·have hd278 := bif_t c277 hd270
   refine DR.startS [false, false, false, false, false, true, true, true] mix (by kernel_rfl) (fun hst => ?_)
   refine DR.r rfl rfl (r_loadN (vs := [.int .i64 x203, .slice p205 rs207.length c206]) rfl Try.isAgg37 Try.sizeOf37 rfl) (many_row (row_cells (S276.get (k := 3) rfl)) (bel_cons (.of_flat0 rfl) (bel_cons (S276.oin (k := 4) rfl Bo204).bel bel_nil))) ?_
   refine DR.p rfl rfl (p_move rfl) ?_
   refine DR.p rfl rfl (s_fieldAddr Try.underlying37 rfl Try.sizeOf35 (by decide) rfl rfl) ?_
   refine DR.r rfl rfl (r_load rfl Try.isAgg35) (one_read (row_cell (S276.get (k := 3) rfl) rfl) (S276.oin (k := 4) rfl Bo204).bel) ?_
   refine DR.p rfl rfl (p_len_slice rfl Try.underlying35) ?_
   have S279 := S276.front 1 rfl
   have S280 := S279.front 1 rfl
   have S281 : St M0 H G273 [[(i_n0, AObj.row false ([.slice p_n0_0 n0_0.length c_n0_0, .int .i64 x267, .int .u64 x268]))], F271, [(i101, AObj.row false ([.int .i64 0, .slice none 0 0]))], [(i137, AObj.row false ([.int .i64 x203, .slice p205 rs207.length c206]))], oseg p205 (ints rs207.flatten)] := S280
   obtain ⟨⟨xs282, x283, x284⟩, h285, hd286⟩ := bnd_some hd278
   obtain ⟨_, G293, hc295, p288, c289, F287, rfl, S294, B290, hF292⟩ := W_spec_l01DrawOrder fu G273 F271 ((rs207.length : Nat) : Int) i_n0 p_n0_0 c_n0_0 n0_0 (hv198.mono hF272) x267 x268 (St.fnodup (A := [[(i_n0, AObj.row false ([.slice p_n0_0 n0_0.length c_n0_0, .int .i64 x267, .int .u64 x268]))], F271]) S281) (St.fmem (A := [[(i_n0, AObj.row false ([.slice p_n0_0 n0_0.length c_n0_0, .int .i64 x267, .int .u64 x268]))], F271]) S281) xs282 x283 x284 h285
   have S296 := St.callM (A := [[(i_n0, AObj.row false ([.slice p_n0_0 n0_0.length c_n0_0, .int .i64 x267, .int .u64 x268]))], F271]) S281 S294 (fun j h => h)
   refine DR.w rfl rfl (o_call (vs := [.pointer (some ⟨i_n0, 0, none⟩), .int .i64 ((rs207.length : Nat) : Int)]) rfl Try.call163 hc295) (S294.len) ?_
   obtain ⟨⟨x297, rs298⟩, h299, hd300⟩ := bnd_some hd286
   obtain ⟨_, G307, hc306, p301, c302, rfl, S308, B304, a305⟩ := W_spec_l01Reordered fu G293 x203 p205 c206 rs207 ars207 (S296.oview (k := 5) rfl Bo204 (flat_len1 ars207 rfl)) p288 c289 xs282 (S296.oview (k := 0) rfl B290 (ints_len1 rfl)) x297 rs298 h299
   have S309 := S296.call S308
   refine DR.w rfl rfl (o_call (vs := [.agg [.int .i64 x203, .slice p205 rs207.length c206].toArray, .slice p288 xs282.length c289]) rfl Try.call166 hc306) (S308.len) ?_
   obtain ⟨G310, hHG310, S311⟩ := S309.set (k := 5) (i := i137) rfl (AObj.row false ([.int .i64 x297, .slice p301 rs298.length c302]))
   have S312 : St M0 H G310 [oseg p301 (ints rs298.flatten), oseg p288 (ints xs282), [(i_n0, AObj.row false ([.slice p_n0_0 n0_0.length c_n0_0, .int .i64 x283, .int .u64 x284]))], F287, [(i101, AObj.row false ([.int .i64 0, .slice none 0 0]))], [(i137, AObj.row false ([.int .i64 x297, .slice p301 rs298.length c302]))], oseg p205 (ints rs207.flatten)] := S311
   refine DR.s rfl (s_storeAll (vs := [.int .i64 x297, .slice p301 rs298.length c302]) Try.sizeOf37 rfl rfl (ones_list rfl) (S309.get (k := 5) rfl) rfl rfl hHG310) (set_le hHG310) ?_
   refine DR.nil 8 [(0, 5)] hst (by kernel_rfl) ⟨(rdN (fun _ => (S296.get (k := 4) rfl).trans (S276.get (k := 3) rfl).symm)), trivial⟩ ?_
   refine AX.seq ?_
   refine AX.region ?_
   refine AO.c rfl (s_loadN (vs := [.int .i64 x297, .slice p301 rs298.length c302]) Try.isAgg37 Try.sizeOf37 rfl rfl (row_cells (S312.get (k := 5) rfl))) ?_
   obtain ⟨G313, hHG313, S314⟩ := S312.set (k := 4) (i := i101) rfl (AObj.row false ([.int .i64 x297, .slice p301 rs298.length c302]))
   have S315 : St M0 H G313 [oseg p301 (ints rs298.flatten), oseg p288 (ints xs282), [(i_n0, AObj.row false ([.slice p_n0_0 n0_0.length c_n0_0, .int .i64 x283, .int .u64 x284]))], F287, [(i101, AObj.row false ([.int .i64 x297, .slice p301 rs298.length c302]))], [(i137, AObj.row false ([.int .i64 x297, .slice p301 rs298.length c302]))], oseg p205 (ints rs207.flatten)] := S314
   refine AO.s (s_storeAll (vs := [.int .i64 x297, .slice p301 rs298.length c302]) Try.sizeOf37 rfl rfl (ones_list rfl) (S312.get (k := 4) rfl) rfl rfl hHG313) ?_
   refine AO.nil ?_
   refine AX.ret ?_
   obtain ⟨rfl, z316⟩ := Prod.mk.inj (some_inj hd300)
   obtain ⟨rfl, z317⟩ := Prod.mk.inj z316
   obtain ⟨rfl, rfl⟩ := Prod.mk.inj z317
   have S319 := S315.front 3 rfl
   have S320 := S319.front 3 rfl
   have S321 := S320.front 2 rfl
   have S322 := S321.keep 3
   exact ⟨.inr rfl, _, res1 rfl (rv_cell (vs := [.int .i64 x297, .slice p301 rs298.length c302]) rfl Try.isAgg37 Try.sizeOf37 rfl (row_cells (S315.get (k := 4) rfl))), p301, c302, F287, rfl, S322, B304, a305, ((hF195.mono hF272).mono hF292)⟩
  ·have hd323 := bif_f c277 hd270
   refine AX.skip ?_
   refine AX.seq ?_
   refine AX.region ?_
   refine AO.c rfl (s_loadN (vs := [.int .i64 x203, .slice p205 rs207.length c206]) Try.isAgg37 Try.sizeOf37 rfl rfl (row_cells (S276.get (k := 3) rfl))) ?_
   obtain ⟨G324, hHG324, S325⟩ := S276.set (k := 2) (i := i101) rfl (AObj.row false ([.int .i64 x203, .slice p205 rs207.length c206]))
   have S326 : St M0 H G324 [[(i_n0, AObj.row false ([.slice p_n0_0 n0_0.length c_n0_0, .int .i64 x267, .int .u64 x268]))], F271, [(i101, AObj.row false ([.int .i64 x203, .slice p205 rs207.length c206]))], [(i137, AObj.row false ([.int .i64 x203, .slice p205 rs207.length c206]))], oseg p205 (ints rs207.flatten)] := S325
   refine AO.s (s_storeAll (vs := [.int .i64 x203, .slice p205 rs207.length c206]) Try.sizeOf37 rfl rfl (ones_list rfl) (S276.get (k := 2) rfl) rfl rfl hHG324) ?_
   refine AO.nil ?_
   refine AX.ret ?_
   obtain ⟨rfl, z327⟩ := Prod.mk.inj (some_inj hd323)
   obtain ⟨rfl, z328⟩ := Prod.mk.inj z327
   obtain ⟨rfl, rfl⟩ := Prod.mk.inj z328
   have S330 := S326.front 1 rfl
   have S331 := S330.front 1 rfl
   have S332 := S331.front 4 rfl
   have S333 := S332.keep 3
   exact ⟨.inr rfl, _, res1 rfl (rv_cell (vs := [.int .i64 x203, .slice p205 rs207.length c206]) rfl Try.isAgg37 Try.sizeOf37 rfl (row_cells (S326.get (k := 2) rfl))), p205, c206, F271, rfl, S333, Bo204, ars207, (hF195.mono hF272)⟩

set_option maxHeartbeats 4000000 in
theorem W_spec_l01BadRound (fu : Nat) (H : AHeap) (F : Sg) (a1 : List Int) (h_a1 : a1.length = 14) (i_n0 : Nat) (p_n0_0 : Option Addr) (c_n0_0 : Nat) (n0_0 : List Int) (q_n0_0 : PV F p_n0_0 c_n0_0 n0_0) (n0_1 : Int) (n0_2 : Int) (hn : (([[(i_n0, AObj.row false ([.slice p_n0_0 n0_0.length c_n0_0, .int .i64 n0_1, .int .u64 n0_2]))], F] : List Sg).flatten.map (·.1)).Nodup) (ho : ∀ x ∈ ([[(i_n0, AObj.row false ([.slice p_n0_0 n0_0.length c_n0_0, .int .i64 n0_1, .int .u64 n0_2]))], F] : List Sg).flatten, x.1 < H.length ∧ hget H x.1 = x.2) (r0 : List Int) (m_n0_1 : Int) (m_n0_2 : Int) (hd : D_spec_l01BadRound fu a1 n0_0 n0_1 n0_2 = some (r0, m_n0_1, m_n0_2)) : ∃ v G', ACall Try.prog 138 [.pointer (some ⟨i_n0, 0, none⟩), .agg (ints a1).toArray] H v G' ∧ ∃ (F' : Sg), (v = .agg (ints r0).toArray) ∧ St (([[(i_n0, AObj.row false ([.slice p_n0_0 n0_0.length c_n0_0, .int .i64 n0_1, .int .u64 n0_2]))], F] : List Sg).flatten.map (·.1)) H G' [[(i_n0, AObj.row false ([.slice p_n0_0 n0_0.length c_n0_0, .int .i64 m_n0_1, .int .u64 m_n0_2]))], F'] ∧ r0.length = 14 ∧ Pin F' F := by
 refine ACall.bodyX (args := [.pointer (some ⟨i_n0, 0, none⟩), .agg (ints a1).toArray]) (N := 15) [(0, .pointer (some ⟨i_n0, 0, none⟩)), (1, .agg (ints a1).toArray)] (fun v G' => ∃ (F' : Sg), (v = .agg (ints r0).toArray) ∧ St (([[(i_n0, AObj.row false ([.slice p_n0_0 n0_0.length c_n0_0, .int .i64 n0_1, .int .u64 n0_2]))], F] : List Sg).flatten.map (·.1)) H G' [[(i_n0, AObj.row false ([.slice p_n0_0 n0_0.length c_n0_0, .int .i64 m_n0_1, .int .u64 m_n0_2]))], F'] ∧ r0.length = 14 ∧ Pin F' F) Try.func138 rfl rfl rfl rfl ?_
 unfold D_spec_l01BadRound at hd
 have S0 := St.initF hn ho
 generalize hM0 : (([[(i_n0, AObj.row false ([.slice p_n0_0 n0_0.length c_n0_0, .int .i64 n0_1, .int .u64 n0_2]))], F] : List Sg).flatten.map (·.1)) = M0 at S0 ⊢
 refine AX.seq ?_
 refine AX.region ?_
 obtain ⟨G100, i101, hii101, hHG100, S102⟩ := S0.new (AObj.row false (ints a1))
 refine AO.c rfl (s_box (i := i101) (cs := ints a1) rfl hii101 rfl hHG100) ?_
 obtain ⟨G104, i105, hii105, hHG104, S106⟩ := S102.new (AObj.row false (ints (List.replicate 14 0)))
 refine AO.c rfl (s_alloc (i := i105) (cs := ints (List.replicate 14 0)) Try.zeroValue54 rfl rfl hii105 hHG104) ?_
 refine AO.nil ?_
 refine AX.seq ?_
 refine AX.seq ?_
 refine AX.region ?_
 refine AO.p rfl (p_move rfl) ?_
 have S108 := S106.front 3 rfl
 have S109 := S108.front 3 rfl
 have S110 : St M0 H G104 [[(i_n0, AObj.row false ([.slice p_n0_0 n0_0.length c_n0_0, .int .i64 n0_1, .int .u64 n0_2]))], F, [(i105, AObj.row false (ints (List.replicate 14 0)))], [(i101, AObj.row false (ints a1))]] := S109
 obtain ⟨⟨x111, x112, x113⟩, h114, hd115⟩ := bnd_some hd
 obtain ⟨_, G118, hc120, F116, rfl, S119, hF117⟩ := W_spec_l01Next fu G104 F 24 i_n0 p_n0_0 c_n0_0 n0_0 q_n0_0 n0_1 n0_2 (St.fnodup (A := [[(i_n0, AObj.row false ([.slice p_n0_0 n0_0.length c_n0_0, .int .i64 n0_1, .int .u64 n0_2]))], F]) S110) (St.fmem (A := [[(i_n0, AObj.row false ([.slice p_n0_0 n0_0.length c_n0_0, .int .i64 n0_1, .int .u64 n0_2]))], F]) S110) x111 x112 x113 h114
 have S121 := St.callM (A := [[(i_n0, AObj.row false ([.slice p_n0_0 n0_0.length c_n0_0, .int .i64 n0_1, .int .u64 n0_2]))], F]) S110 S119 (fun j h => h)
 refine AO.c rfl (o_call (vs := [.pointer (some ⟨i_n0, 0, none⟩), .int .i64 24]) rfl Try.call102 hc120) ?_
 refine AO.p rfl (p_eql rfl rfl) ?_
 refine AO.nil ?_
 refine AX.cond rfl (fun c122 => ?_) (fun c122 => ?_)
 ·have hd123 := bif_t c122 hd115
  refine AX.region ?_
  refine AO.p rfl (p_move rfl) ?_
  have S124 := S121.front 1 rfl
  have S125 := S124.front 1 rfl
  have S126 : St M0 H G118 [[(i_n0, AObj.row false ([.slice p_n0_0 n0_0.length c_n0_0, .int .i64 x112, .int .u64 x113]))], F116, [(i105, AObj.row false (ints (List.replicate 14 0)))], [(i101, AObj.row false (ints a1))]] := S125
  obtain ⟨⟨x127, x128, x129⟩, h130, hd131⟩ := bnd_some hd123
  obtain ⟨_, G134, hc136, F132, rfl, S135, hF133⟩ := W_spec_l01Next fu G118 F116 14 i_n0 p_n0_0 c_n0_0 n0_0 (q_n0_0.mono hF117) x112 x113 (St.fnodup (A := [[(i_n0, AObj.row false ([.slice p_n0_0 n0_0.length c_n0_0, .int .i64 x112, .int .u64 x113]))], F116]) S126) (St.fmem (A := [[(i_n0, AObj.row false ([.slice p_n0_0 n0_0.length c_n0_0, .int .i64 x112, .int .u64 x113]))], F116]) S126) x127 x128 x129 h130
  have S137 := St.callM (A := [[(i_n0, AObj.row false ([.slice p_n0_0 n0_0.length c_n0_0, .int .i64 x112, .int .u64 x113]))], F116]) S126 S135 (fun j h => h)
  refine AO.c rfl (o_call (vs := [.pointer (some ⟨i_n0, 0, none⟩), .int .i64 14]) rfl Try.call102 hc136) ?_
  refine AO.p rfl (p_move rfl) ?_
  obtain ⟨G138, i139, hii139, hHG138, S140⟩ := S137.new (AObj.row false (ints [0, 1, (-1), 14]))
  refine AO.c rfl (s_buildInts (i := i139) (vs := [(0, .int .i64 0), (1, .int .i64 1), (2, .int .i64 (-1)), (3, .int .i64 14)]) (xs := [0, 1, (-1), 14]) Try.underlying58 Try.sizeOf2 Try.zeroValue2 rfl rfl (by decide) rfl rfl hii139 hHG138) ?_
  have S142 := S140.front 2 rfl
  have S143 := S142.front 1 rfl
  have S144 := S143.front 2 rfl
  have S145 : St M0 H G138 [[(i_n0, AObj.row false ([.slice p_n0_0 n0_0.length c_n0_0, .int .i64 x128, .int .u64 x129]))], [(i139, AObj.row false (ints [0, 1, (-1), 14]))], F132, [(i105, AObj.row false (ints (List.replicate 14 0)))], [(i101, AObj.row false (ints a1))]] := S144
  obtain ⟨⟨x146, x147, x148⟩, h149, hd150⟩ := bnd_some hd131
  obtain ⟨_, G153, hc155, F151, rfl, S154, hF152⟩ := W_spec_l01Pick fu G138 F132 i_n0 p_n0_0 c_n0_0 n0_0 ((q_n0_0.mono hF117).mono hF133) x128 x129 (some (Addr.mk i139 0 none)) 4 4 [0, 1, (-1), 14] rfl (Sb.lit (n := 4) (by decide)) (St.fnodup (A := [[(i_n0, AObj.row false ([.slice p_n0_0 n0_0.length c_n0_0, .int .i64 x128, .int .u64 x129]))], [(i139, AObj.row false (ints [0, 1, (-1), 14]))], F132]) S145) (St.fmem (A := [[(i_n0, AObj.row false ([.slice p_n0_0 n0_0.length c_n0_0, .int .i64 x128, .int .u64 x129]))], [(i139, AObj.row false (ints [0, 1, (-1), 14]))], F132]) S145) x146 x147 x148 h149
  have S156 := St.callM (A := [[(i_n0, AObj.row false ([.slice p_n0_0 n0_0.length c_n0_0, .int .i64 x128, .int .u64 x129]))], [(i139, AObj.row false (ints [0, 1, (-1), 14]))], F132]) S145 S154 (fun j h => h)
  refine AO.c rfl (o_call (vs := [.pointer (some ⟨i_n0, 0, none⟩), .slice (some (Addr.mk i139 0 none)) 4 4]) rfl Try.call135 hc155) ?_
  obtain ⟨k157, hd158⟩ := chk_some hd150
  refine AO.p rfl (s_indexAr (q := x127.toNat) Try.underlying54 Try.sizeOf2 rfl rfl k157 (z1 _)) ?_
  obtain ⟨G159, hHG159, S160⟩ := S156.set (k := 4) (i := i101) rfl (AObj.row false (ints (a1.set x127.toNat x146)))
  have S161 : St M0 H G159 [[(i_n0, AObj.row false ([.slice p_n0_0 n0_0.length c_n0_0, .int .i64 x147, .int .u64 x148]))], [(i139, AObj.row false (ints [0, 1, (-1), 14]))], F151, [(i105, AObj.row false (ints (List.replicate 14 0)))], [(i101, AObj.row false (ints (a1.set x127.toNat x146)))]] := S160
  refine AO.s (s_store Try.sizeOf2 rfl rfl rfl (S156.get (k := 4) rfl) (lt_len (ints_len h_a1) (inR_lt k157)) ((congrArg (fun l => List.set _ _ (AObj.row false l)) (ints_set _ _ _)).trans hHG159)) ?_
  refine AO.nil ?_
  refine AX.seq ?_
  refine AX.region ?_
  refine AO.c rfl (s_loadN (vs := ints (a1.set x127.toNat x146)) Try.isAgg54 Try.sizeOf54 rfl (ints_len (len_set h_a1)) (row_cells (S161.get (k := 4) rfl))) ?_
  obtain ⟨G162, hHG162, S163⟩ := S161.set (k := 3) (i := i105) rfl (AObj.row false (ints (a1.set x127.toNat x146)))
  have S164 : St M0 H G162 [[(i_n0, AObj.row false ([.slice p_n0_0 n0_0.length c_n0_0, .int .i64 x147, .int .u64 x148]))], [(i139, AObj.row false (ints [0, 1, (-1), 14]))], F151, [(i105, AObj.row false (ints (a1.set x127.toNat x146)))], [(i101, AObj.row false (ints (a1.set x127.toNat x146)))]] := S163
  refine AO.s (s_storeAll (vs := ints (a1.set x127.toNat x146)) Try.sizeOf54 rfl rfl ints_one (S161.get (k := 3) rfl) (ints_len (len_set h_a1)) (ints_len len_rep) hHG162) ?_
  refine AO.nil ?_
  refine AX.ret ?_
  obtain ⟨rfl, z165⟩ := Prod.mk.inj (some_inj hd158)
  obtain ⟨rfl, rfl⟩ := Prod.mk.inj z165
  have S167 := S164.front 2 rfl
  have S168 := S167.front 1 rfl
  have S169 := S168.keep 2
  exact ⟨.inr rfl, _, res1 rfl (rv_cell (vs := ints (a1.set x127.toNat x146)) rfl Try.isAgg54 Try.sizeOf54 (ints_len (len_set h_a1)) (row_cells (S164.get (k := 3) rfl))), F151, rfl, S169, (len_set h_a1), ((((Pin.refl F).mono hF117).mono hF133).mono hF152)⟩
 ·have hd170 := bif_f c122 hd115
  refine AX.skip ?_
  refine AX.seq ?_
  refine AX.region ?_
  refine AO.c rfl (s_loadN (vs := ints a1) Try.isAgg54 Try.sizeOf54 rfl (ints_len h_a1) (row_cells (S121.get (k := 3) rfl))) ?_
  obtain ⟨G171, hHG171, S172⟩ := S121.set (k := 2) (i := i105) rfl (AObj.row false (ints a1))
  have S173 : St M0 H G171 [[(i_n0, AObj.row false ([.slice p_n0_0 n0_0.length c_n0_0, .int .i64 x112, .int .u64 x113]))], F116, [(i105, AObj.row false (ints a1))], [(i101, AObj.row false (ints a1))]] := S172
  refine AO.s (s_storeAll (vs := ints a1) Try.sizeOf54 rfl rfl ints_one (S121.get (k := 2) rfl) (ints_len h_a1) (ints_len len_rep) hHG171) ?_
  refine AO.nil ?_
  refine AX.ret ?_
  obtain ⟨rfl, z174⟩ := Prod.mk.inj (some_inj hd170)
  obtain ⟨rfl, rfl⟩ := Prod.mk.inj z174
  have S176 := S173.front 1 rfl
  have S177 := S176.front 1 rfl
  have S178 := S177.keep 2
  exact ⟨.inr rfl, _, res1 rfl (rv_cell (vs := ints a1) rfl Try.isAgg54 Try.sizeOf54 (ints_len h_a1) (row_cells (S173.get (k := 2) rfl))), F116, rfl, S178, h_a1, ((Pin.refl F).mono hF117)⟩

set_option maxHeartbeats 4000000 in
theorem W_spec_l02Two (fu : Nat) (H : AHeap) (F : Sg) (p_a0 : Option Addr) (c_a0 : Nat) (a0 : List Int) (q_a0 : PV F p_a0 c_a0 a0) (hn : (([F] : List Sg).flatten.map (·.1)).Nodup) (ho : ∀ x ∈ ([F] : List Sg).flatten, x.1 < H.length ∧ hget H x.1 = x.2) (r0 : Int) (r1 : List Int) (r2 : List Int) (hd : D_spec_l02Two fu a0 = some (r0, r1, r2)) : ∃ v G', ACall Try.prog 94 [.slice p_a0 a0.length c_a0] H v G' ∧ ∃ (F' : Sg), (v = .tuple #[.int .i64 r0, .agg (ints r1).toArray, .agg (ints r2).toArray]) ∧ St (([F] : List Sg).flatten.map (·.1)) H G' [F'] ∧ r1.length = 14 ∧ r2.length = 14 ∧ Pin F' F := by
 refine ACall.bodyX (args := [.slice p_a0 a0.length c_a0]) (N := 68) [(0, .slice p_a0 a0.length c_a0)] (fun v G' => ∃ (F' : Sg), (v = .tuple #[.int .i64 r0, .agg (ints r1).toArray, .agg (ints r2).toArray]) ∧ St (([F] : List Sg).flatten.map (·.1)) H G' [F'] ∧ r1.length = 14 ∧ r2.length = 14 ∧ Pin F' F) Try.func94 rfl rfl rfl rfl ?_
 unfold D_spec_l02Two at hd
 have S0 := St.initF hn ho
 generalize hM0 : (([F] : List Sg).flatten.map (·.1)) = M0 at S0 ⊢
 refine AX.seq ?_
 refine AX.region ?_
 refine AO.p rfl (p_assign rfl) ?_
 obtain ⟨G100, i101, hii101, hHG100, S102⟩ := S0.new (AObj.row false (ints (List.replicate 14 0)))
 refine AO.c rfl (s_alloc (i := i101) (cs := ints (List.replicate 14 0)) Try.zeroValue54 rfl rfl hii101 hHG100) ?_
 obtain ⟨G104, i105, hii105, hHG104, S106⟩ := S102.new (AObj.row false (ints (List.replicate 14 0)))
 refine AO.c rfl (s_alloc (i := i105) (cs := ints (List.replicate 14 0)) Try.zeroValue54 rfl rfl hii105 hHG104) ?_
 refine AO.nil ?_
 refine AX.seq ?_
 refine AX.region ?_
 refine AO.p rfl (p_move rfl) ?_
 have S108 := S106.front 2 rfl
 have S109 : St M0 H G104 [F, [(i105, AObj.row false (ints (List.replicate 14 0)))], [(i101, AObj.row false (ints (List.replicate 14 0)))]] := S108
 obtain ⟨⟨x110, x111⟩, h112, hd113⟩ := bnd_some hd
 obtain ⟨_, G118, hc120, i115, F114, rfl, S119, hF117⟩ := W_spec_l01From fu G104 F p_a0 c_a0 a0 q_a0 (St.fnodup (A := [F]) S109) (St.fmem (A := [F]) S109) x110 x111 h112
 have S121 := St.callM (A := [F]) S109 S119 (fun j h => h)
 refine AO.c rfl (o_call (vs := [.slice p_a0 a0.length c_a0]) rfl Try.call93 hc120) ?_
 refine AO.p rfl (p_assign rfl) ?_
 refine AO.nil ?_
 refine AX.seq ?_
 refine AX.region ?_
 refine AO.p rfl (p_move rfl) ?_
 refine AO.p rfl (p_move rfl) ?_
 obtain ⟨G122, i123, hii123, hHG122, S124⟩ := S121.new (AObj.row false (ints [6, 9, 13]))
 refine AO.c rfl (s_buildInts (i := i123) (vs := [(0, .int .i64 6), (1, .int .i64 9), (2, .int .i64 13)]) (xs := [6, 9, 13]) Try.underlying58 Try.sizeOf2 Try.zeroValue2 rfl rfl (by decide) rfl rfl hii123 hHG122) ?_
 have S126 := S124.front 2 rfl
 have S127 := S126.front 1 rfl
 have S128 := S127.front 2 rfl
 have S129 : St M0 H G122 [[(i115, AObj.row false ([.slice p_a0 a0.length c_a0, .int .i64 x110, .int .u64 x111]))], [(i123, AObj.row false (ints [6, 9, 13]))], F114, [(i105, AObj.row false (ints (List.replicate 14 0)))], [(i101, AObj.row false (ints (List.replicate 14 0)))]] := S128
 obtain ⟨⟨x130, x131, x132⟩, h133, hd134⟩ := bnd_some hd113
 obtain ⟨_, G137, hc139, F135, rfl, S138, hF136⟩ := W_spec_l01Pick fu G122 F114 i115 p_a0 c_a0 a0 (q_a0.mono hF117) x110 x111 (some (Addr.mk i123 0 none)) 3 3 [6, 9, 13] rfl (Sb.lit (n := 3) (by decide)) (St.fnodup (A := [[(i115, AObj.row false ([.slice p_a0 a0.length c_a0, .int .i64 x110, .int .u64 x111]))], [(i123, AObj.row false (ints [6, 9, 13]))], F114]) S129) (St.fmem (A := [[(i115, AObj.row false ([.slice p_a0 a0.length c_a0, .int .i64 x110, .int .u64 x111]))], [(i123, AObj.row false (ints [6, 9, 13]))], F114]) S129) x130 x131 x132 h133
 have S140 := St.callM (A := [[(i115, AObj.row false ([.slice p_a0 a0.length c_a0, .int .i64 x110, .int .u64 x111]))], [(i123, AObj.row false (ints [6, 9, 13]))], F114]) S129 S138 (fun j h => h)
 refine AO.c rfl (o_call (vs := [.pointer (some ⟨i115, 0, none⟩), .slice (some (Addr.mk i123 0 none)) 3 3]) rfl Try.call135 hc139) ?_
 have S141 := S140.front 2 rfl
 have S142 := S141.front 1 rfl
 have S143 : St M0 H G137 [[(i115, AObj.row false ([.slice p_a0 a0.length c_a0, .int .i64 x131, .int .u64 x132]))], F135, [(i123, AObj.row false (ints [6, 9, 13]))], [(i105, AObj.row false (ints (List.replicate 14 0)))], [(i101, AObj.row false (ints (List.replicate 14 0)))]] := S142
 obtain ⟨⟨x144, x145, x146⟩, h147, hd148⟩ := bnd_some hd134
 obtain ⟨_, G151, hc153, F149, rfl, S152, hF150⟩ := W_spec_l01Next fu G137 F135 x130 i115 p_a0 c_a0 a0 ((q_a0.mono hF117).mono hF136) x131 x132 (St.fnodup (A := [[(i115, AObj.row false ([.slice p_a0 a0.length c_a0, .int .i64 x131, .int .u64 x132]))], F135]) S143) (St.fmem (A := [[(i115, AObj.row false ([.slice p_a0 a0.length c_a0, .int .i64 x131, .int .u64 x132]))], F135]) S143) x144 x145 x146 h147
 have S154 := St.callM (A := [[(i115, AObj.row false ([.slice p_a0 a0.length c_a0, .int .i64 x131, .int .u64 x132]))], F135]) S143 S152 (fun j h => h)
 refine AO.c rfl (o_call (vs := [.pointer (some ⟨i115, 0, none⟩), .int .i64 x130]) rfl Try.call102 hc153) ?_
 obtain ⟨k155, hd156⟩ := chk_some hd148
 refine AO.p rfl (p_addE rfl rfl k155) ?_
 refine AO.p rfl (p_assign rfl) ?_
 refine AO.nil ?_
 refine AX.seq ?_
 refine AX.region ?_
 refine AO.p rfl (p_move rfl) ?_
 refine AO.p rfl (p_move rfl) ?_
 have S157 := S154.front 1 rfl
 have S158 := S157.front 1 rfl
 have S159 : St M0 H G151 [[(i115, AObj.row false ([.slice p_a0 a0.length c_a0, .int .i64 x145, .int .u64 x146]))], F149, [(i123, AObj.row false (ints [6, 9, 13]))], [(i105, AObj.row false (ints (List.replicate 14 0)))], [(i101, AObj.row false (ints (List.replicate 14 0)))]] := S158
 obtain ⟨⟨xs160, x161, x162⟩, h163, hd164⟩ := bnd_some hd156
 obtain ⟨_, G168, hc170, F165, rfl, S169, l166, hF167⟩ := W_spec_l01DrawRound fu G151 F149 (2 + x144) i115 p_a0 c_a0 a0 (((q_a0.mono hF117).mono hF136).mono hF150) x145 x146 (St.fnodup (A := [[(i115, AObj.row false ([.slice p_a0 a0.length c_a0, .int .i64 x145, .int .u64 x146]))], F149]) S159) (St.fmem (A := [[(i115, AObj.row false ([.slice p_a0 a0.length c_a0, .int .i64 x145, .int .u64 x146]))], F149]) S159) xs160 x161 x162 h163
 have S171 := St.callM (A := [[(i115, AObj.row false ([.slice p_a0 a0.length c_a0, .int .i64 x145, .int .u64 x146]))], F149]) S159 S169 (fun j h => h)
 refine AO.c rfl (o_call (vs := [.pointer (some ⟨i115, 0, none⟩), .int .i64 (2 + x144)]) rfl Try.call136 hc170) ?_
 refine AO.p rfl (p_move rfl) ?_
 refine AO.p rfl (p_move rfl) ?_
 have S172 := S171.front 1 rfl
 have S173 := S172.front 1 rfl
 have S174 : St M0 H G168 [[(i115, AObj.row false ([.slice p_a0 a0.length c_a0, .int .i64 x161, .int .u64 x162]))], F165, [(i123, AObj.row false (ints [6, 9, 13]))], [(i105, AObj.row false (ints (List.replicate 14 0)))], [(i101, AObj.row false (ints (List.replicate 14 0)))]] := S173
 obtain ⟨⟨xs175, x176, x177⟩, h178, hd179⟩ := bnd_some hd164
 obtain ⟨_, G183, hc185, F180, rfl, S184, l181, hF182⟩ := W_spec_l01DrawRound fu G168 F165 (2 + x144) i115 p_a0 c_a0 a0 ((((q_a0.mono hF117).mono hF136).mono hF150).mono hF167) x161 x162 (St.fnodup (A := [[(i115, AObj.row false ([.slice p_a0 a0.length c_a0, .int .i64 x161, .int .u64 x162]))], F165]) S174) (St.fmem (A := [[(i115, AObj.row false ([.slice p_a0 a0.length c_a0, .int .i64 x161, .int .u64 x162]))], F165]) S174) xs175 x176 x177 h178
 have S186 := St.callM (A := [[(i115, AObj.row false ([.slice p_a0 a0.length c_a0, .int .i64 x161, .int .u64 x162]))], F165]) S174 S184 (fun j h => h)
 refine AO.c rfl (o_call (vs := [.pointer (some ⟨i115, 0, none⟩), .int .i64 (2 + x144)]) rfl Try.call136 hc185) ?_
 obtain ⟨G187, i188, hii188, hHG187, S189⟩ := S186.new (AObj.row false (ints (List.replicate 14 0)))
 refine AO.c rfl (s_alloc (i := i188) (cs := ints (List.replicate 14 0)) Try.zeroValue54 rfl rfl hii188 hHG187) ?_
 obtain ⟨G191, i192, hii192, hHG191, S193⟩ := S189.new (AObj.row false (ints (List.replicate 14 0)))
 refine AO.c rfl (s_alloc (i := i192) (cs := ints (List.replicate 14 0)) Try.zeroValue54 rfl rfl hii192 hHG191) ?_
 obtain ⟨G195, hHG195, S196⟩ := S193.set (k := 1) (i := i188) rfl (AObj.row false (ints xs160))
 have S197 : St M0 H G195 [[(i192, AObj.row false (ints (List.replicate 14 0)))], [(i188, AObj.row false (ints xs160))], [(i115, AObj.row false ([.slice p_a0 a0.length c_a0, .int .i64 x176, .int .u64 x177]))], F180, [(i123, AObj.row false (ints [6, 9, 13]))], [(i105, AObj.row false (ints (List.replicate 14 0)))], [(i101, AObj.row false (ints (List.replicate 14 0)))]] := S196
 refine AO.s (s_storeAll (vs := ints xs160) Try.sizeOf54 rfl rfl ints_one (S193.get (k := 1) rfl) (ints_len l166) (ints_len len_rep) hHG195) ?_
 obtain ⟨G198, hHG198, S199⟩ := S197.set (k := 0) (i := i192) rfl (AObj.row false (ints xs175))
 have S200 : St M0 H G198 [[(i192, AObj.row false (ints xs175))], [(i188, AObj.row false (ints xs160))], [(i115, AObj.row false ([.slice p_a0 a0.length c_a0, .int .i64 x176, .int .u64 x177]))], F180, [(i123, AObj.row false (ints [6, 9, 13]))], [(i105, AObj.row false (ints (List.replicate 14 0)))], [(i101, AObj.row false (ints (List.replicate 14 0)))]] := S199
 refine AO.s (s_storeAll (vs := ints xs175) Try.sizeOf54 rfl rfl ints_one (S197.get (k := 0) rfl) (ints_len l181) (ints_len len_rep) hHG198) ?_
 refine AO.nil ?_
 refine AX.seq ?_
 refine AX.seq ?_
 refine AX.region ?_
 refine AO.p rfl (p_move rfl) ?_
 have S201 := S200.front 3 rfl
 have S202 := S201.front 3 rfl
 have S203 : St M0 H G198 [[(i115, AObj.row false ([.slice p_a0 a0.length c_a0, .int .i64 x176, .int .u64 x177]))], F180, [(i192, AObj.row false (ints xs175))], [(i188, AObj.row false (ints xs160))], [(i123, AObj.row false (ints [6, 9, 13]))], [(i105, AObj.row false (ints (List.replicate 14 0)))], [(i101, AObj.row false (ints (List.replicate 14 0)))]] := S202
 obtain ⟨⟨x204, rs205, x206, x207⟩, h208, hd209⟩ := bnd_some hd179
 obtain ⟨_, G217, hc219, p211, c212, F210, rfl, S218, B213, a215, hF216⟩ := W_spec_l01DrawRobin fu G198 F180 i115 p_a0 c_a0 a0 (((((q_a0.mono hF117).mono hF136).mono hF150).mono hF167).mono hF182) x176 x177 (St.fnodup (A := [[(i115, AObj.row false ([.slice p_a0 a0.length c_a0, .int .i64 x176, .int .u64 x177]))], F180]) S203) (St.fmem (A := [[(i115, AObj.row false ([.slice p_a0 a0.length c_a0, .int .i64 x176, .int .u64 x177]))], F180]) S203) x204 rs205 x206 x207 h208
 have S220 := St.callM (A := [[(i115, AObj.row false ([.slice p_a0 a0.length c_a0, .int .i64 x176, .int .u64 x177]))], F180]) S203 S218 (fun j h => h)
 refine AO.c rfl (o_call (vs := [.pointer (some ⟨i115, 0, none⟩)]) rfl Try.call137 hc219) ?_
 obtain ⟨G221, i222, hii222, hHG221, S223⟩ := S220.new (AObj.row false ([.int .i64 0, .slice none 0 0]))
 refine AO.c rfl (s_alloc (i := i222) (cs := [.int .i64 0, .slice none 0 0]) Try.zeroValue37 rfl rfl hii222 hHG221) ?_
 obtain ⟨G225, hHG225, S226⟩ := S223.set (k := 0) (i := i222) rfl (AObj.row false ([.int .i64 x204, .slice p211 rs205.length c212]))
 have S227 : St M0 H G225 [[(i222, AObj.row false ([.int .i64 x204, .slice p211 rs205.length c212]))], oseg p211 (ints rs205.flatten), [(i115, AObj.row false ([.slice p_a0 a0.length c_a0, .int .i64 x206, .int .u64 x207]))], F210, [(i192, AObj.row false (ints xs175))], [(i188, AObj.row false (ints xs160))], [(i123, AObj.row false (ints [6, 9, 13]))], [(i105, AObj.row false (ints (List.replicate 14 0)))], [(i101, AObj.row false (ints (List.replicate 14 0)))]] := S226
 refine AO.s (s_storeAll (vs := [.int .i64 x204, .slice p211 rs205.length c212]) Try.sizeOf37 rfl rfl (ones_list rfl) (S223.get (k := 0) rfl) rfl rfl hHG225) ?_
 refine AO.nil ?_
 obtain ⟨r259, hb260, hd261⟩ := bnd_some hd209
 refine AX.cut (fun t' H' => ∃ (x252 : Int) (x253 : Int) (b258 : Bool) (F245 : Sg), (x252, x253, b258) = r259 ∧ St M0 H H' [F245, [(i101, AObj.row false (ints (List.replicate 14 0)))], [(i105, AObj.row false (ints (List.replicate 14 0)))], [(i115, AObj.row false ([.slice p_a0 a0.length c_a0, .int .i64 x252, .int .u64 x253]))], [(i188, AObj.row false (ints xs160))], [(i192, AObj.row false (ints xs175))], [(i222, AObj.row false ([.int .i64 x204, .slice p211 rs205.length c212]))], oseg p211 (ints rs205.flatten)] ∧ Pin F245 F ∧ PV F245 p_a0 c_a0 a0 ∧ Am.Sub [(3, .pointer (some ⟨i101, 0, none⟩)), (4, .pointer (some ⟨i105, 0, none⟩)), (5, .pointer (some ⟨i115, 0, none⟩)), (6, .int .i64 (2 + x144)), (7, .pointer (some ⟨i188, 0, none⟩)), (8, .pointer (some ⟨i192, 0, none⟩)), (9, .pointer (some ⟨i222, 0, none⟩)), (34, .bool b258)] t') ?_ ?_
 ·skip
  refine AX.region ?_
  refine AO.p rfl (s_fieldAddr Try.underlying37 rfl Try.sizeOf35 (by decide) rfl rfl) ?_
  refine AO.c rfl (s_load Try.isAgg35 rfl (row_cell (S227.get (k := 0) rfl) rfl)) ?_
  refine AO.p rfl (p_len_slice rfl Try.underlying35) ?_
  refine AO.p rfl (p_gtr rfl rfl) ?_
  refine AO.p rfl (p_move rfl) ?_
  refine AO.cases (d := 30) rfl (fun c262 => ?_) (fun c262 => ?_)
  ·have hd263 := bif_t c262 hb260
   refine AO.gp rfl rfl rfl (p_move rfl) ?_
   have S264 := S227.front 3 rfl
   have S265 := S264.front 3 rfl
   have S266 : St M0 H G225 [[(i115, AObj.row false ([.slice p_a0 a0.length c_a0, .int .i64 x206, .int .u64 x207]))], F210, [(i222, AObj.row false ([.int .i64 x204, .slice p211 rs205.length c212]))], oseg p211 (ints rs205.flatten), [(i192, AObj.row false (ints xs175))], [(i188, AObj.row false (ints xs160))], [(i123, AObj.row false (ints [6, 9, 13]))], [(i105, AObj.row false (ints (List.replicate 14 0)))], [(i101, AObj.row false (ints (List.replicate 14 0)))]] := S265
   obtain ⟨⟨x267, x268, x269⟩, h270, hd271⟩ := bnd_some hd263
   obtain ⟨_, G274, hc276, F272, rfl, S275, hF273⟩ := W_spec_l01Next fu G225 F210 2 i115 p_a0 c_a0 a0 ((((((q_a0.mono hF117).mono hF136).mono hF150).mono hF167).mono hF182).mono hF216) x206 x207 (St.fnodup (A := [[(i115, AObj.row false ([.slice p_a0 a0.length c_a0, .int .i64 x206, .int .u64 x207]))], F210]) S266) (St.fmem (A := [[(i115, AObj.row false ([.slice p_a0 a0.length c_a0, .int .i64 x206, .int .u64 x207]))], F210]) S266) x267 x268 x269 h270
   have S277 := St.callM (A := [[(i115, AObj.row false ([.slice p_a0 a0.length c_a0, .int .i64 x206, .int .u64 x207]))], F210]) S266 S275 (fun j h => h)
   refine AO.gc rfl rfl rfl (o_call (vs := [.pointer (some ⟨i115, 0, none⟩), .int .i64 2]) rfl Try.call102 hc276) ?_
   refine AO.gp rfl rfl rfl (p_eql rfl rfl) ?_
   refine AO.p rfl (p_pickT rfl rfl) ?_
   refine AO.nil ?_
   have S278 := S277.front 3 rfl
   have S279 := S278.front 3 rfl
   have S280 := S279.front 4 rfl
   have S281 := S280.front 5 rfl
   have S282 := S281.front 4 rfl
   have S283 := S282.front 7 rfl
   have S284 := S283.front 8 rfl
   have S285 := S284.front 7 rfl
   have S286 := S285.keep 8
   exact ⟨x268, x269, (decide (x267 = 0)), F272, (some_inj hd271), S286, ((((((((Pin.refl F).mono hF117).mono hF136).mono hF150).mono hF167).mono hF182).mono hF216).mono hF273), (((((((q_a0.mono hF117).mono hF136).mono hF150).mono hF167).mono hF182).mono hF216).mono hF273), Sub.cons' rfl rfl (Sub.cons' rfl rfl (Sub.cons' rfl rfl (Sub.cons' rfl rfl (Sub.cons' rfl rfl (Sub.cons' rfl rfl (Sub.cons' rfl rfl (Sub.cons' rfl rfl (Sub.nil _))))))))⟩
  ·have hd287 := bif_f c262 hb260
   refine AO.gn rfl rfl rfl ?_
   refine AO.gn rfl rfl rfl ?_
   refine AO.gn rfl rfl rfl ?_
   refine AO.p rfl (p_pickF rfl rfl) ?_
   refine AO.nil ?_
   have S288 := S227.front 1 rfl
   have S289 := S288.front 1 rfl
   have S290 := S289.front 4 rfl
   have S291 := S290.front 5 rfl
   have S292 := S291.front 4 rfl
   have S293 := S292.front 7 rfl
   have S294 := S293.front 8 rfl
   have S295 := S294.front 7 rfl
   have S296 := S295.keep 8
   exact ⟨x206, x207, false, F210, (some_inj hd287), S296, (((((((Pin.refl F).mono hF117).mono hF136).mono hF150).mono hF167).mono hF182).mono hF216), ((((((q_a0.mono hF117).mono hF136).mono hF150).mono hF167).mono hF182).mono hF216), Sub.cons' rfl rfl (Sub.cons' rfl rfl (Sub.cons' rfl rfl (Sub.cons' rfl rfl (Sub.cons' rfl rfl (Sub.cons' rfl rfl (Sub.cons' rfl rfl (Sub.cons' rfl rfl (Sub.nil _))))))))⟩
 ·rintro t' G298 ⟨x252, x253, b258, F245, rfl, S297, hF246, hv251, hsub299⟩
  refine AX.sub hsub299 ?_
  obtain ⟨r355, hb356, hd357⟩ := bnd_some hd261
  refine AX.cutS (fun t' H' => ∃ (x348 : Int) (x349 : Int) (x350 : Int) (xs352 : List Int) (xs354 : List Int) (F341 : Sg), (x348, x349, x350, xs352, xs354) = r355 ∧ St M0 H H' [F341, [(i101, AObj.row false (ints (List.replicate 14 0)))], [(i105, AObj.row false (ints (List.replicate 14 0)))], [(i115, AObj.row false ([.slice p_a0 a0.length c_a0, .int .i64 x348, .int .u64 x349]))], [(i188, AObj.row false (ints xs352))], [(i192, AObj.row false (ints xs354))]] ∧ Pin F341 F ∧ PV F341 p_a0 c_a0 a0 ∧ xs352.length = 14 ∧ xs354.length = 14 ∧ Am.Sub [(3, .pointer (some ⟨i101, 0, none⟩)), (4, .pointer (some ⟨i105, 0, none⟩)), (5, .pointer (some ⟨i115, 0, none⟩)), (6, .int .i64 x350), (7, .pointer (some ⟨i188, 0, none⟩)), (8, .pointer (some ⟨i192, 0, none⟩))] t') ?_ ?_
  ·skip
   refine AX.cond rfl (fun c358 => ?_) (fun c358 => ?_)
   ·have hd359 := bif_t c358 hb356
    refine AX.seq ?_
    refine AX.region ?_
    refine AO.p rfl (s_fieldAddr Try.underlying37 rfl Try.sizeOf2 (by decide) rfl rfl) ?_
    refine AO.c rfl (s_load Try.isAgg2 rfl (row_cell (S297.get (k := 6) rfl) rfl)) ?_
    refine AO.p rfl (p_assign rfl) ?_
    refine AO.nil ?_
    refine AX.seq ?_
    refine DR.startS [false, false, false, false, false, false, true, false, false, true] mix (by kernel_rfl) (fun hst => ?_)
    refine DR.p rfl rfl (s_fieldAddr Try.underlying37 rfl Try.sizeOf35 (by decide) rfl rfl) ?_
    refine DR.r rfl rfl (r_load rfl Try.isAgg35) (one_read (row_cell (S297.get (k := 6) rfl) rfl) (S297.oin (k := 7) rfl B213).bel) ?_
    refine DR.p rfl rfl (p_move rfl) ?_
    refine DR.p rfl rfl (s_fieldAddr Try.underlying37 rfl Try.sizeOf35 (by decide) rfl rfl) ?_
    refine DR.r rfl rfl (r_load rfl Try.isAgg35) (one_read (row_cell (S297.get (k := 6) rfl) rfl) (S297.oin (k := 7) rfl B213).bel) ?_
    refine DR.p rfl rfl (p_len_slice rfl Try.underlying35) ?_
    have S360 := S297.front 0 rfl
    have S361 := S360.front 3 rfl
    have S362 : St M0 H G298 [[(i115, AObj.row false ([.slice p_a0 a0.length c_a0, .int .i64 x252, .int .u64 x253]))], F245, [(i101, AObj.row false (ints (List.replicate 14 0)))], [(i105, AObj.row false (ints (List.replicate 14 0)))], [(i188, AObj.row false (ints xs160))], [(i192, AObj.row false (ints xs175))], [(i222, AObj.row false ([.int .i64 x204, .slice p211 rs205.length c212]))], oseg p211 (ints rs205.flatten)] := S361
    obtain ⟨⟨x363, x364, x365⟩, h366, hd367⟩ := bnd_some hd359
    obtain ⟨_, G370, hc372, F368, rfl, S371, hF369⟩ := W_spec_l01Next fu G298 F245 ((rs205.length : Nat) : Int) i115 p_a0 c_a0 a0 hv251 x252 x253 (St.fnodup (A := [[(i115, AObj.row false ([.slice p_a0 a0.length c_a0, .int .i64 x252, .int .u64 x253]))], F245]) S362) (St.fmem (A := [[(i115, AObj.row false ([.slice p_a0 a0.length c_a0, .int .i64 x252, .int .u64 x253]))], F245]) S362) x363 x364 x365 h366
    have S373 := St.callM (A := [[(i115, AObj.row false ([.slice p_a0 a0.length c_a0, .int .i64 x252, .int .u64 x253]))], F245]) S362 S371 (fun j h => h)
    refine DR.w rfl rfl (o_call (vs := [.pointer (some ⟨i115, 0, none⟩), .int .i64 ((rs205.length : Nat) : Int)]) rfl Try.call102 hc372) (S371.len) ?_
    obtain ⟨k374, hd375⟩ := chk_some hd367
    refine DR.p rfl rfl (s_indexV (q := x363.toNat * 14) Try.underlying35 Try.sizeOf54 rfl (B213.at (inR_pos k374)) rfl k374 (Nat.zero_add _)) ?_
    refine DR.r rfl rfl (r_loadN (vs := ints (rw_ rs205 x363.toNat)) rfl Try.isAgg54 Try.sizeOf54 (ints_len (rw_len a215 (lt_len rfl (inR_lt k374))))) (many_row (row_part (S373.oat (k := 7) rfl (B213.at (inR_pos k374))) (flat_cells a215 (lt_len rfl (inR_lt k374)))) bel_ints) ?_
    obtain ⟨G376, hHG376, S377⟩ := S373.set (k := 4) (i := i188) rfl (AObj.row false (ints (rw_ rs205 x363.toNat)))
    have S378 : St M0 H G376 [[(i115, AObj.row false ([.slice p_a0 a0.length c_a0, .int .i64 x364, .int .u64 x365]))], F368, [(i101, AObj.row false (ints (List.replicate 14 0)))], [(i105, AObj.row false (ints (List.replicate 14 0)))], [(i188, AObj.row false (ints (rw_ rs205 x363.toNat)))], [(i192, AObj.row false (ints xs175))], [(i222, AObj.row false ([.int .i64 x204, .slice p211 rs205.length c212]))], oseg p211 (ints rs205.flatten)] := S377
    refine DR.s rfl (s_storeAll (vs := ints (rw_ rs205 x363.toNat)) Try.sizeOf54 rfl rfl ints_one (S373.get (k := 4) rfl) (ints_len (rw_len a215 (lt_len rfl (inR_lt k374)))) (ints_len l166) hHG376) (set_le hHG376) ?_
    refine DR.nil 10 [(1, 6)] hst (by kernel_rfl) ⟨(rd1 (fun _ => (S373.get (k := 6) rfl).trans (S297.get (k := 6) rfl).symm)), trivial⟩ ?_
    refine DR.startS [false, false, false, false, false, false, true, false, false, true] mix (by kernel_rfl) (fun hst => ?_)
    refine DR.p rfl rfl (s_fieldAddr Try.underlying37 rfl Try.sizeOf35 (by decide) rfl rfl) ?_
    refine DR.r rfl rfl (r_load rfl Try.isAgg35) (one_read (row_cell (S378.get (k := 6) rfl) rfl) (S378.oin (k := 7) rfl B213).bel) ?_
    refine DR.p rfl rfl (p_move rfl) ?_
    refine DR.p rfl rfl (s_fieldAddr Try.underlying37 rfl Try.sizeOf35 (by decide) rfl rfl) ?_
    refine DR.r rfl rfl (r_load rfl Try.isAgg35) (one_read (row_cell (S378.get (k := 6) rfl) rfl) (S378.oin (k := 7) rfl B213).bel) ?_
    refine DR.p rfl rfl (p_len_slice rfl Try.underlying35) ?_
    have S379 := S378.front 1 rfl
    have S380 := S379.front 1 rfl
    have S381 : St M0 H G376 [[(i115, AObj.row false ([.slice p_a0 a0.length c_a0, .int .i64 x364, .int .u64 x365]))], F368, [(i101, AObj.row false (ints (List.replicate 14 0)))], [(i105, AObj.row false (ints (List.replicate 14 0)))], [(i188, AObj.row false (ints (rw_ rs205 x363.toNat)))], [(i192, AObj.row false (ints xs175))], [(i222, AObj.row false ([.int .i64 x204, .slice p211 rs205.length c212]))], oseg p211 (ints rs205.flatten)] := S380
    obtain ⟨⟨x382, x383, x384⟩, h385, hd386⟩ := bnd_some hd375
    obtain ⟨_, G389, hc391, F387, rfl, S390, hF388⟩ := W_spec_l01Next fu G376 F368 ((rs205.length : Nat) : Int) i115 p_a0 c_a0 a0 (hv251.mono hF369) x364 x365 (St.fnodup (A := [[(i115, AObj.row false ([.slice p_a0 a0.length c_a0, .int .i64 x364, .int .u64 x365]))], F368]) S381) (St.fmem (A := [[(i115, AObj.row false ([.slice p_a0 a0.length c_a0, .int .i64 x364, .int .u64 x365]))], F368]) S381) x382 x383 x384 h385
    have S392 := St.callM (A := [[(i115, AObj.row false ([.slice p_a0 a0.length c_a0, .int .i64 x364, .int .u64 x365]))], F368]) S381 S390 (fun j h => h)
    refine DR.w rfl rfl (o_call (vs := [.pointer (some ⟨i115, 0, none⟩), .int .i64 ((rs205.length : Nat) : Int)]) rfl Try.call102 hc391) (S390.len) ?_
    obtain ⟨k393, hd394⟩ := chk_some hd386
    refine DR.p rfl rfl (s_indexV (q := x382.toNat * 14) Try.underlying35 Try.sizeOf54 rfl (B213.at (inR_pos k393)) rfl k393 (Nat.zero_add _)) ?_
    refine DR.r rfl rfl (r_loadN (vs := ints (rw_ rs205 x382.toNat)) rfl Try.isAgg54 Try.sizeOf54 (ints_len (rw_len a215 (lt_len rfl (inR_lt k393))))) (many_row (row_part (S392.oat (k := 7) rfl (B213.at (inR_pos k393))) (flat_cells a215 (lt_len rfl (inR_lt k393)))) bel_ints) ?_
    obtain ⟨G395, hHG395, S396⟩ := S392.set (k := 5) (i := i192) rfl (AObj.row false (ints (rw_ rs205 x382.toNat)))
    have S397 : St M0 H G395 [[(i115, AObj.row false ([.slice p_a0 a0.length c_a0, .int .i64 x383, .int .u64 x384]))], F387, [(i101, AObj.row false (ints (List.replicate 14 0)))], [(i105, AObj.row false (ints (List.replicate 14 0)))], [(i188, AObj.row false (ints (rw_ rs205 x363.toNat)))], [(i192, AObj.row false (ints (rw_ rs205 x382.toNat)))], [(i222, AObj.row false ([.int .i64 x204, .slice p211 rs205.length c212]))], oseg p211 (ints rs205.flatten)] := S396
    refine DR.s rfl (s_storeAll (vs := ints (rw_ rs205 x382.toNat)) Try.sizeOf54 rfl rfl ints_one (S392.get (k := 5) rfl) (ints_len (rw_len a215 (lt_len rfl (inR_lt k393)))) (ints_len l181) hHG395) (set_le hHG395) ?_
    refine DR.nil 10 [(1, 6)] hst (by kernel_rfl) ⟨(rd1 (fun _ => (S392.get (k := 6) rfl).trans (S378.get (k := 6) rfl).symm)), trivial⟩ ?_
    have S398 := S397.front 5 rfl
    have S399 := S398.front 5 rfl
    have S400 := S399.front 2 rfl
    have S401 := S400.front 5 rfl
    have S402 := S401.front 5 rfl
    have S403 := S402.front 5 rfl
    have S404 := S403.keep 6
    exact ⟨x383, x384, x204, (rw_ rs205 x363.toNat), (rw_ rs205 x382.toNat), F387, (some_inj hd394), S404, ((hF246.mono hF369).mono hF388), ((hv251.mono hF369).mono hF388), (rw_len a215 (lt_len rfl (inR_lt k374))), (rw_len a215 (lt_len rfl (inR_lt k393))), Sub.cons' rfl rfl (Sub.cons' rfl rfl (Sub.cons' rfl rfl (Sub.cons' rfl rfl (Sub.cons' rfl rfl (Sub.cons' rfl rfl (Sub.nil _))))))⟩
   ·have hd405 := bif_f c358 hb356
    refine AX.skip ?_
    have S406 := S297.front 5 rfl
    have S407 := S406.front 5 rfl
    have S408 := S407.front 5 rfl
    have S409 := S408.front 5 rfl
    have S410 := S409.front 5 rfl
    have S411 := S410.front 5 rfl
    have S412 := S411.keep 6
    exact ⟨x252, x253, (2 + x144), xs160, xs175, F245, (some_inj hd405), S412, hF246, hv251, l166, l181, Sub.cons' rfl rfl (Sub.cons' rfl rfl (Sub.cons' rfl rfl (Sub.cons' rfl rfl (Sub.cons' rfl rfl (Sub.cons' rfl rfl (Sub.nil _))))))⟩
  ·rintro t' G414 ⟨x348, x349, x350, xs352, xs354, F341, rfl, S413, hF342, hv347, lxs352, lxs354, hsub415⟩
   refine ⟨_, hsub415, ?_⟩
   refine AX.seq ?_
   refine AX.seq ?_
   refine AX.region ?_
   refine AO.p rfl (p_move rfl) ?_
   have S416 := S413.front 0 rfl
   have S417 := S416.front 3 rfl
   have S418 : St M0 H G414 [[(i115, AObj.row false ([.slice p_a0 a0.length c_a0, .int .i64 x348, .int .u64 x349]))], F341, [(i101, AObj.row false (ints (List.replicate 14 0)))], [(i105, AObj.row false (ints (List.replicate 14 0)))], [(i188, AObj.row false (ints xs352))], [(i192, AObj.row false (ints xs354))]] := S417
   obtain ⟨⟨x419, x420, x421⟩, h422, hd423⟩ := bnd_some hd357
   obtain ⟨_, G426, hc428, F424, rfl, S427, hF425⟩ := W_spec_l01Next fu G414 F341 24 i115 p_a0 c_a0 a0 hv347 x348 x349 (St.fnodup (A := [[(i115, AObj.row false ([.slice p_a0 a0.length c_a0, .int .i64 x348, .int .u64 x349]))], F341]) S418) (St.fmem (A := [[(i115, AObj.row false ([.slice p_a0 a0.length c_a0, .int .i64 x348, .int .u64 x349]))], F341]) S418) x419 x420 x421 h422
   have S429 := St.callM (A := [[(i115, AObj.row false ([.slice p_a0 a0.length c_a0, .int .i64 x348, .int .u64 x349]))], F341]) S418 S427 (fun j h => h)
   refine AO.c rfl (o_call (vs := [.pointer (some ⟨i115, 0, none⟩), .int .i64 24]) rfl Try.call102 hc428) ?_
   refine AO.p rfl (p_eql rfl rfl) ?_
   refine AO.nil ?_
   obtain ⟨r466, hb467, hd468⟩ := bnd_some hd423
   refine AX.cutS (fun t' H' => ∃ (x461 : Int) (x462 : Int) (x463 : Int) (F454 : Sg), (x461, x462, x463) = r466 ∧ St M0 H H' [F454, [(i101, AObj.row false (ints (List.replicate 14 0)))], [(i105, AObj.row false (ints (List.replicate 14 0)))], [(i115, AObj.row false ([.slice p_a0 a0.length c_a0, .int .i64 x461, .int .u64 x462]))], [(i188, AObj.row false (ints xs352))], [(i192, AObj.row false (ints xs354))]] ∧ Pin F454 F ∧ PV F454 p_a0 c_a0 a0 ∧ Am.Sub [(3, .pointer (some ⟨i101, 0, none⟩)), (4, .pointer (some ⟨i105, 0, none⟩)), (5, .pointer (some ⟨i115, 0, none⟩)), (6, .int .i64 x463), (7, .pointer (some ⟨i188, 0, none⟩)), (8, .pointer (some ⟨i192, 0, none⟩))] t') ?_ ?_
   ·skip
    refine AX.cond rfl (fun c469 => ?_) (fun c469 => ?_)
    ·have hd470 := bif_t c469 hb467
     refine AX.region ?_
     refine AO.p rfl (p_move rfl) ?_
     refine AO.p rfl (p_move rfl) ?_
     obtain ⟨k471, hd472⟩ := chk_some hd470
     refine AO.p rfl (p_addE rfl rfl k471) ?_
     obtain ⟨G473, i474, hii474, hHG473, S475⟩ := S429.new (AObj.row false (ints [1, 15, x350 + 1, 0]))
     refine AO.c rfl (s_buildInts (i := i474) (vs := [(0, .int .i64 1), (1, .int .i64 15), (2, .int .i64 (x350 + 1)), (3, .int .i64 0)]) (xs := [1, 15, x350 + 1, 0]) Try.underlying58 Try.sizeOf2 Try.zeroValue2 rfl rfl (by decide) rfl rfl hii474 hHG473) ?_
     have S477 := S475.front 2 rfl
     have S478 := S477.front 1 rfl
     have S479 := S478.front 2 rfl
     have S480 : St M0 H G473 [[(i115, AObj.row false ([.slice p_a0 a0.length c_a0, .int .i64 x420, .int .u64 x421]))], [(i474, AObj.row false (ints [1, 15, x350 + 1, 0]))], F424, [(i101, AObj.row false (ints (List.replicate 14 0)))], [(i105, AObj.row false (ints (List.replicate 14 0)))], [(i188, AObj.row false (ints xs352))], [(i192, AObj.row false (ints xs354))]] := S479
     obtain ⟨⟨x481, x482, x483⟩, h484, hd485⟩ := bnd_some hd472
     obtain ⟨_, G488, hc490, F486, rfl, S489, hF487⟩ := W_spec_l01Pick fu G473 F424 i115 p_a0 c_a0 a0 (hv347.mono hF425) x420 x421 (some (Addr.mk i474 0 none)) 4 4 [1, 15, x350 + 1, 0] rfl (Sb.lit (n := 4) (by decide)) (St.fnodup (A := [[(i115, AObj.row false ([.slice p_a0 a0.length c_a0, .int .i64 x420, .int .u64 x421]))], [(i474, AObj.row false (ints [1, 15, x350 + 1, 0]))], F424]) S480) (St.fmem (A := [[(i115, AObj.row false ([.slice p_a0 a0.length c_a0, .int .i64 x420, .int .u64 x421]))], [(i474, AObj.row false (ints [1, 15, x350 + 1, 0]))], F424]) S480) x481 x482 x483 h484
     have S491 := St.callM (A := [[(i115, AObj.row false ([.slice p_a0 a0.length c_a0, .int .i64 x420, .int .u64 x421]))], [(i474, AObj.row false (ints [1, 15, x350 + 1, 0]))], F424]) S480 S489 (fun j h => h)
     refine AO.c rfl (o_call (vs := [.pointer (some ⟨i115, 0, none⟩), .slice (some (Addr.mk i474 0 none)) 4 4]) rfl Try.call135 hc490) ?_
     refine AO.p rfl (p_assign rfl) ?_
     refine AO.nil ?_
     have S492 := S491.front 6 rfl
     have S493 := S492.front 6 rfl
     have S494 := S493.front 2 rfl
     have S495 := S494.front 6 rfl
     have S496 := S495.front 6 rfl
     have S497 := S496.front 6 rfl
     have S498 := S497.keep 6
     exact ⟨x482, x483, x481, F486, (some_inj hd485), S498, ((hF342.mono hF425).mono hF487), ((hv347.mono hF425).mono hF487), Sub.cons' rfl rfl (Sub.cons' rfl rfl (Sub.cons' rfl rfl (Sub.cons' rfl rfl (Sub.cons' rfl rfl (Sub.cons' rfl rfl (Sub.nil _))))))⟩
    ·have hd499 := bif_f c469 hb467
     refine AX.skip ?_
     have S500 := S429.front 5 rfl
     have S501 := S500.front 5 rfl
     have S502 := S501.front 2 rfl
     have S503 := S502.front 5 rfl
     have S504 := S503.front 5 rfl
     have S505 := S504.front 5 rfl
     exact ⟨x420, x421, x350, F424, (some_inj hd499), S505, (hF342.mono hF425), (hv347.mono hF425), Sub.cons' rfl rfl (Sub.cons' rfl rfl (Sub.cons' rfl rfl (Sub.cons' rfl rfl (Sub.cons' rfl rfl (Sub.cons' rfl rfl (Sub.nil _))))))⟩
   ·rintro t' G507 ⟨x461, x462, x463, F454, rfl, S506, hF455, hv460, hsub508⟩
    refine ⟨_, hsub508, ?_⟩
    refine AX.seq ?_
    refine DR.startS [false, false, false, true, false, false, true, true] mix (by kernel_rfl) (fun hst => ?_)
    refine DR.p rfl rfl (p_move rfl) ?_
    refine DR.p rfl rfl (p_move rfl) ?_
    refine DR.r rfl rfl (r_loadN (vs := ints xs352) rfl Try.isAgg54 Try.sizeOf54 (ints_len lxs352)) (many_row (row_cells (S506.get (k := 4) rfl)) bel_ints) ?_
    have S509 := S506.front 0 rfl
    have S510 := S509.front 3 rfl
    have S511 : St M0 H G507 [[(i115, AObj.row false ([.slice p_a0 a0.length c_a0, .int .i64 x461, .int .u64 x462]))], F454, [(i101, AObj.row false (ints (List.replicate 14 0)))], [(i105, AObj.row false (ints (List.replicate 14 0)))], [(i188, AObj.row false (ints xs352))], [(i192, AObj.row false (ints xs354))]] := S510
    obtain ⟨⟨xs512, x513, x514⟩, h515, hd516⟩ := bnd_some hd468
    obtain ⟨_, G520, hc522, F517, rfl, S521, l518, hF519⟩ := W_spec_l01BadRound fu G507 F454 xs352 lxs352 i115 p_a0 c_a0 a0 hv460 x461 x462 (St.fnodup (A := [[(i115, AObj.row false ([.slice p_a0 a0.length c_a0, .int .i64 x461, .int .u64 x462]))], F454]) S511) (St.fmem (A := [[(i115, AObj.row false ([.slice p_a0 a0.length c_a0, .int .i64 x461, .int .u64 x462]))], F454]) S511) xs512 x513 x514 h515
    have S523 := St.callM (A := [[(i115, AObj.row false ([.slice p_a0 a0.length c_a0, .int .i64 x461, .int .u64 x462]))], F454]) S511 S521 (fun j h => h)
    refine DR.w rfl rfl (o_call (vs := [.pointer (some ⟨i115, 0, none⟩), .agg (ints xs352).toArray]) rfl Try.call138 hc522) (S521.len) ?_
    refine DR.r rfl rfl (r_loadN (vs := ints xs354) rfl Try.isAgg54 Try.sizeOf54 (ints_len lxs354)) (many_row (row_cells (S523.get (k := 5) rfl)) bel_ints) ?_
    refine DR.p rfl rfl (p_assign rfl) ?_
    obtain ⟨G524, hHG524, S525⟩ := S523.set (k := 2) (i := i101) rfl (AObj.row false (ints xs512))
    have S526 : St M0 H G524 [[(i115, AObj.row false ([.slice p_a0 a0.length c_a0, .int .i64 x513, .int .u64 x514]))], F517, [(i101, AObj.row false (ints xs512))], [(i105, AObj.row false (ints (List.replicate 14 0)))], [(i188, AObj.row false (ints xs352))], [(i192, AObj.row false (ints xs354))]] := S525
    refine DR.s rfl (s_storeAll (vs := ints xs512) Try.sizeOf54 rfl rfl ints_one (S523.get (k := 2) rfl) (ints_len l518) (ints_len len_rep) hHG524) (set_le hHG524) ?_
    obtain ⟨G527, hHG527, S528⟩ := S526.set (k := 3) (i := i105) rfl (AObj.row false (ints xs354))
    have S529 : St M0 H G527 [[(i115, AObj.row false ([.slice p_a0 a0.length c_a0, .int .i64 x513, .int .u64 x514]))], F517, [(i101, AObj.row false (ints xs512))], [(i105, AObj.row false (ints xs354))], [(i188, AObj.row false (ints xs352))], [(i192, AObj.row false (ints xs354))]] := S528
    refine DR.s rfl (s_storeAll (vs := ints xs354) Try.sizeOf54 rfl rfl ints_one (S526.get (k := 3) rfl) (ints_len lxs354) (ints_len len_rep) hHG527) (set_le hHG527) ?_
    refine DR.nil 8 [(4, 3), (4, 6)] hst (by kernel_rfl) ⟨(rdN (fun _ => (S523.get (k := 5) rfl).trans (S506.get (k := 5) rfl).symm)), (rdN (fun _ => (S526.get (k := 5) rfl).trans (S523.get (k := 5) rfl).symm)), trivial⟩ ?_
    refine AX.ret ?_
    obtain ⟨rfl, z530⟩ := Prod.mk.inj (some_inj hd516)
    obtain ⟨rfl, rfl⟩ := Prod.mk.inj z530
    have S532 := S529.front 1 rfl
    have S533 := S532.keep 1
    exact ⟨.inr rfl, _, res3 rfl (rv_tmp rfl) (rv_cell (vs := ints xs512) rfl Try.isAgg54 Try.sizeOf54 (ints_len l518) (row_cells (S529.get (k := 2) rfl))) (rv_cell (vs := ints xs354) rfl Try.isAgg54 Try.sizeOf54 (ints_len lxs354) (row_cells (S529.get (k := 3) rfl))), F517, rfl, S533, l518, lxs354, (hF455.mono hF519)⟩

end Go.Proofs.Ytdafmafigcljkaa
