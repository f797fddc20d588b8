
/-
 The program computes that, printed by a program. No condition.
-/
import Derived.Test.YtdafmafigcljkaaGreatDSa
import Derived.Test.YtdafmafigcljkaaGreatWE
import Derived.Test.YtdafmafigcljkaaGreatWI
import Derived.Test.YtdafmafigcljkaaGreatCa
import Derived.Test.YtdafmafigcljkaaGreatProg
import Derived.KernelRfl
namespace Go.Proofs.YtdafmafigcljkaaGreat
open Go Go.RowKit Am Go.Proofs.Tryz
set_option linter.unusedVariables false
set_option linter.unusedSimpArgs false
set_option maxRecDepth 20000
set_option maxHeartbeats 4000000 in
theorem W_spec_l01From (fu : Nat) (H : AHeap) (F : Sg) (p_a0 : Option Addr) (c_a0 : Nat) (a0 : List Int) (q_a0 : PV F p_a0 c_a0 a0) (hn : (([F] : List Sg).flatten.map (·.1)).Nodup) (ho : ∀ x ∈ ([F] : List Sg).flatten, x.1 < H.length ∧ hget H x.1 = x.2) (r0 : Int) (r1 : Int) (hd : D_spec_l01From fu a0 = some (r0, r1)) : ∃ v G', ACall Tryz.prog 46 [.slice p_a0 a0.length c_a0] H v G' ∧ ∃ (i_r0 : Nat) (F' : Sg), (v = .pointer (some ⟨i_r0, 0, none⟩)) ∧ St (([F] : List Sg).flatten.map (·.1)) H G' [[(i_r0, AObj.row false [.slice p_a0 a0.length c_a0, .int .i64 r0, .int .u64 r1])], F'] ∧ Pin F' F := by
 refine ACall.bodyX (args := [.slice p_a0 a0.length c_a0]) (N := 38) [(0, .slice p_a0 a0.length c_a0)] (fun v G' => ∃ (i_r0 : Nat) (F' : Sg), (v = .pointer (some ⟨i_r0, 0, none⟩)) ∧ St (([F] : List Sg).flatten.map (·.1)) H G' [[(i_r0, AObj.row false [.slice p_a0 a0.length c_a0, .int .i64 r0, .int .u64 r1])], F'] ∧ Pin F' F) Tryz.func46 rfl rfl rfl rfl ?_
 unfold D_spec_l01From at hd
 have S0 := St.initF hn ho
 generalize hM0 : (([F] : List Sg).flatten.map (·.1)) = M0 at S0 ⊢
 refine AX.sr (AO.a rfl rfl (AO.nil (AX.sr (AO.m rfl rfl (AO.m rfl rfl (AO.p rfl (p_len_slice rfl underlying22) (AO.p rfl (p_conv underlying3 underlying85 rfl rfl) (AO.p rfl (p_add rfl rfl rfl) (AO.p rfl (p_build3 (vs := [(0, .slice p_a0 a0.length c_a0), (2, .int .u64 (IntKind.u64.wrap (13791 + (IntKind.u64.wrap ((a0.length : Nat) : Int)))))]) (cs := [.slice p_a0 a0.length c_a0, .int .i64 0, .int .u64 (IntKind.u64.wrap (13791 + (IntKind.u64.wrap ((a0.length : Nat) : Int))))]) underlying87 rfl rfl rfl rfl sizeOf22 sizeOf3 sizeOf85 zeroValue87 rfl rfl rfl rfl rfl rfl) ?_)))))))))
 obtain ⟨e2, a2, b4, b5, b6⟩ := S0.new (AObj.row false ([.slice p_a0 a0.length c_a0, .int .i64 0, .int .u64 (IntKind.u64.wrap (13791 + (IntKind.u64.wrap ((a0.length : Nat) : Int))))]))
 refine AO.c rfl (s_box (i := a2) (cs := [.slice p_a0 a0.length c_a0, .int .i64 0, .int .u64 (IntKind.u64.wrap (13791 + (IntKind.u64.wrap ((a0.length : Nat) : Int))))]) rfl b4 rfl b5) (AO.a rfl rfl (AO.nil (AX.seq (AX.sr (AO.a rfl rfl (AO.nil ?_))))))
 obtain ⟨b7, b8, b9⟩ := bnd_some hd
 refine AX.cutS (fun t' H' => ∃ (a6 : Int), a6 = b7 ∧ St M0 H H' [F, [(a2, AObj.row false ([.slice p_a0 a0.length c_a0, .int .i64 0, .int .u64 a6]))]] ∧ Pin F F ∧ PV F p_a0 c_a0 a0 ∧ Am.Sub [(3, .pointer (some ⟨a2, 0, none⟩))] t') ?_ ?_
 ·refine AX.block (AX.loopF (fun s' t' H' => ∃ (a3 : Int) (a1 : Int), (a3, a1) = s' ∧ St M0 H H' [F, [(a2, AObj.row false ([.slice p_a0 a0.length c_a0, .int .i64 0, .int .u64 a3]))]] ∧ Pin F F ∧ PV F p_a0 c_a0 a0 ∧ Am.Sub [(0, .slice p_a0 a0.length c_a0), (3, .pointer (some ⟨a2, 0, none⟩)), (4, .int .i64 a1)] t') b8 ?_ ?_)
  ·skip
   have c0 := b6.front 0 rfl
   have c1 := c0.front 1 rfl
   exact ⟨(IntKind.u64.wrap (13791 + (IntKind.u64.wrap ((a0.length : Nat) : Int)))), 0, rfl, c1, (Pin.refl F), q_a0, Sub.k2 rfl rfl (Sub.k1 rfl (Sub.nil _))⟩
  ·rintro e3 _ t' c2 ⟨a3, a1, rfl, a4, b1, a5, c3⟩ e4 a7 b2
   refine AX.sub c3 ?_
   unfold D_spec_l01From_s0 at a7
   refine AX.seq (AX.cut (fun t' H' => c2 = H' ∧ Am.Sub [(0, .slice p_a0 a0.length c_a0), (3, .pointer (some ⟨a2, 0, none⟩)), (4, .int .i64 a1), (19, .bool ((decide (a1 < ((a0.length : Nat) : Int))) && (decide (a1 < 4096))))] t') ?_ ?_)
   ·skip
    refine AX.region (AO.m rfl rfl (AO.m rfl rfl (AO.p rfl (p_len_slice rfl underlying22) (AO.p rfl (p_lss rfl rfl) (AO.m rfl rfl (AO.cases (d := 16) rfl (fun a8 => ?_) (fun a8 => ?_)))))))
    ·skip
     refine AO.gp rfl rfl rfl (p_move rfl) (AO.gp rfl rfl rfl (p_lss rfl rfl) (AO.p rfl (p_pickT rfl rfl) (AO.nil ?_)))
     exact ⟨rfl, Sub.k4 rfl rfl rfl (congrArg some (bool_eq (by simp only [a8, Bool.true_and, Bool.false_and, Bool.and_true, Bool.and_false, Bool.true_or, Bool.false_or, Bool.or_true, Bool.or_false, Bool.not_true, Bool.not_false, cond_true, cond_false]))) (Sub.nil _)⟩
    ·skip
     refine AO.gn rfl rfl rfl (AO.gn rfl rfl rfl (AO.p rfl (p_pickF rfl rfl) (AO.nil ?_)))
     exact ⟨rfl, Sub.k4 rfl rfl rfl (congrArg some (bool_eq (by simp only [a8, Bool.true_and, Bool.false_and, Bool.and_true, Bool.and_false, Bool.true_or, Bool.false_or, Bool.or_true, Bool.or_false, Bool.not_true, Bool.not_false, cond_true, cond_false]))) (Sub.nil _)⟩
   ·rintro t' _ ⟨rfl, c4⟩
    refine AX.sub c4 (AX.cond rfl (fun a9 => ?_) (fun a9 => ?_))
    ·have c5 := bif_t a9 a7
     refine AX.skip (AX.seq (AX.block (DR.startS [false, false, false, false, false, false, false, false, false, false, false, false, false, false, false, true] mix (by kernel_rfl) (fun hst => ?_))))
     refine DR.p rfl rfl (p_move rfl) (DR.p rfl rfl (p_move rfl) (DR.p rfl rfl (p_nilCheck rfl) (DR.p rfl rfl (s_fieldAddr underlying87 rfl sizeOf85 (by decide) rfl rfl) (DR.r rfl rfl (r_load rfl isAgg85) (one_read (row_cell (a4.get (k := 1) rfl) rfl) (.of_flat0 rfl)) (DR.p rfl rfl (p_mul rfl rfl rfl) (DR.p rfl rfl (p_move rfl) (DR.p rfl rfl (p_move rfl) ?_)))))))
     obtain ⟨b0, c6⟩ := chk_some c5
     refine DR.p rfl rfl (s_indexV (q := off p_a0 + a1.toNat) underlying22 sizeOf5 rfl ((a4.pvview (k := 0) rfl a5).p (bys_get (lt_len rfl (inR_lt b0)))) rfl b0 (o1 _ _)) (DR.r rfl rfl (r_load rfl isAgg5) (one_read ((a4.pvview (k := 0) rfl a5).get _ _ (bys_get (lt_len rfl (inR_lt b0)))) (.of_flat0 rfl)) (DR.p rfl rfl (p_conv underlying5 underlying85 rfl rfl) (DR.p rfl rfl (p_add rfl rfl rfl) (DR.p rfl rfl (p_add rfl rfl rfl) (DR.p rfl rfl (p_nilCheck rfl) (DR.p rfl rfl (s_fieldAddr underlying87 rfl sizeOf85 (by decide) rfl rfl) ?_))))))
     obtain ⟨c7, b3, c8⟩ := a4.set (k := 1) (i := a2) rfl (AObj.row false ([.slice p_a0 a0.length c_a0, .int .i64 0, .int .u64 (IntKind.u64.wrap (IntKind.u64.wrap (IntKind.u64.wrap (a3 * 1099511628211) + (IntKind.u64.wrap (rd a0 a1.toNat))) + 223))]))
     have c9 : St M0 H c7 [F, [(a2, AObj.row false ([.slice p_a0 a0.length c_a0, .int .i64 0, .int .u64 (IntKind.u64.wrap (IntKind.u64.wrap (IntKind.u64.wrap (a3 * 1099511628211) + (IntKind.u64.wrap (rd a0 a1.toNat))) + 223))]))]] := c8
     refine DR.s rfl (s_store sizeOf85 rfl rfl rfl (a4.get (k := 1) rfl) (Nat.le_of_ble_eq_true rfl) b3) (set_le b3) (DR.nil 16 [] hst (by kernel_rfl) trivial (AX.region (AO.m rfl rfl ?_)))
     obtain ⟨d0, d1⟩ := chk_some c6
     refine AO.p rfl (p_addE rfl rfl d0) (AO.a rfl rfl (AO.nil ?_))
     obtain rfl := some_inj d1
     have d2 := c9.front 1 rfl
     have d3 := d2.front 1 rfl
     exact ⟨(IntKind.u64.wrap (IntKind.u64.wrap (IntKind.u64.wrap (a3 * 1099511628211) + (IntKind.u64.wrap (rd a0 a1.toNat))) + 223), a1 + 1), b2, (IntKind.u64.wrap (IntKind.u64.wrap (IntKind.u64.wrap (a3 * 1099511628211) + (IntKind.u64.wrap (rd a0 a1.toNat))) + 223)), (a1 + 1), rfl, d3, b1, a5, Sub.k2 rfl rfl (Sub.k1 rfl (Sub.nil _))⟩
    ·have d4 := bif_f a9 a7
     refine AX.exit ?_
     obtain rfl := some_inj d4
     have d5 := a4.front 1 rfl
     have d6 := d5.front 1 rfl
     exact ⟨a3, b2, d6, b1, a5, Sub.k1 rfl (Sub.nil _)⟩
 ·rintro t' e5 ⟨a6, rfl, d7, d8, e6, d9⟩
  refine ⟨_, d9, ?_⟩
  refine AX.sr (AO.m rfl rfl (AO.a rfl rfl (AO.nil (AX.ret ?_))))
  obtain ⟨rfl, rfl⟩ := Prod.mk.inj (some_inj b9)
  have e0 := d7.front 0 rfl
  have e1 := e0.front 1 rfl
  exact ⟨.inr rfl, _, res1 rfl (rv_tmp rfl), a2, F, rfl, e1, d8⟩
set_option maxHeartbeats 4000000 in
theorem W_spec_l01Next (fu : Nat) (H : AHeap) (F : Sg) (a1 : Int) (i_n0 : Nat) (p_n0_0 : Option Addr) (c_n0_0 : Nat) (n0_0 : List Int) (q_n0_0 : PV F p_n0_0 c_n0_0 n0_0) (n0_1 : Int) (n0_2 : Int) (hn : (([[(i_n0, AObj.row false ([.slice p_n0_0 n0_0.length c_n0_0, .int .i64 n0_1, .int .u64 n0_2]))], F] : List Sg).flatten.map (·.1)).Nodup) (ho : ∀ x ∈ ([[(i_n0, AObj.row false ([.slice p_n0_0 n0_0.length c_n0_0, .int .i64 n0_1, .int .u64 n0_2]))], F] : List Sg).flatten, x.1 < H.length ∧ hget H x.1 = x.2) (r0 : Int) (m_n0_1 : Int) (m_n0_2 : Int) (hd : D_spec_l01Next fu a1 n0_0 n0_1 n0_2 = some (r0, m_n0_1, m_n0_2)) : ∃ v G', ACall Tryz.prog 53 [.pointer (some ⟨i_n0, 0, none⟩), .int .i64 a1] H v G' ∧ ∃ (F' : Sg), (v = .int .i64 r0) ∧ St (([[(i_n0, AObj.row false ([.slice p_n0_0 n0_0.length c_n0_0, .int .i64 n0_1, .int .u64 n0_2]))], F] : List Sg).flatten.map (·.1)) H G' [[(i_n0, AObj.row false ([.slice p_n0_0 n0_0.length c_n0_0, .int .i64 m_n0_1, .int .u64 m_n0_2]))], F'] ∧ Pin F' F := by
 refine ACall.bodyX (args := [.pointer (some ⟨i_n0, 0, none⟩), .int .i64 a1]) (N := 58) [(0, .pointer (some ⟨i_n0, 0, none⟩)), (1, .int .i64 a1)] (fun v G' => ∃ (F' : Sg), (v = .int .i64 r0) ∧ St (([[(i_n0, AObj.row false ([.slice p_n0_0 n0_0.length c_n0_0, .int .i64 n0_1, .int .u64 n0_2]))], F] : List Sg).flatten.map (·.1)) H G' [[(i_n0, AObj.row false ([.slice p_n0_0 n0_0.length c_n0_0, .int .i64 m_n0_1, .int .u64 m_n0_2]))], F'] ∧ Pin F' F) Tryz.func53 rfl rfl rfl rfl ?_
 unfold D_spec_l01Next at hd
 have S0 := St.initF hn ho
 generalize hM0 : (([[(i_n0, AObj.row false ([.slice p_n0_0 n0_0.length c_n0_0, .int .i64 n0_1, .int .u64 n0_2]))], F] : List Sg).flatten.map (·.1)) = M0 at S0 ⊢
 refine AX.sr (AO.a rfl rfl (AO.nil (AX.seq (AX.sr (AO.m rfl rfl (AO.p rfl (p_lss rfl rfl) (AO.nil (AX.cond rfl (fun a2 => ?_) (fun a2 => ?_)))))))))
 ·have a8 := bif_t a2 hd
  refine AX.sr (AO.a rfl rfl (AO.nil (AX.ret ?_)))
  obtain ⟨rfl, a9⟩ := Prod.mk.inj (some_inj a8)
  obtain ⟨rfl, rfl⟩ := Prod.mk.inj a9
  have b0 := S0.front 1 rfl
  have b1 := b0.front 1 rfl
  exact ⟨.inr rfl, _, res1 rfl (rv_tmp rfl), F, rfl, b1, (Pin.refl F)⟩
 ·have b2 := bif_f a2 hd
  refine AX.skip (AX.sr (AO.m rfl rfl (AO.m rfl rfl (AO.p rfl (p_nilCheck rfl) (AO.p rfl (s_fieldAddr underlying87 rfl sizeOf85 (by decide) rfl rfl) (AO.c rfl (s_load isAgg85 rfl (row_cell (S0.get (k := 0) rfl) rfl)) (AO.p rfl (p_mul rfl rfl rfl) (AO.p rfl (p_add rfl rfl rfl) (AO.p rfl (p_nilCheck rfl) (AO.p rfl (s_fieldAddr underlying87 rfl sizeOf85 (by decide) rfl rfl) ?_))))))))))
  obtain ⟨b3, b4, b5⟩ := S0.set (k := 0) (i := i_n0) rfl (AObj.row false ([.slice p_n0_0 n0_0.length c_n0_0, .int .i64 n0_1, .int .u64 (IntKind.u64.wrap (IntKind.u64.wrap (n0_2 * 6364136223846793005) + 1442695040888963407))]))
  have a0 : St M0 H b3 [[(i_n0, AObj.row false ([.slice p_n0_0 n0_0.length c_n0_0, .int .i64 n0_1, .int .u64 (IntKind.u64.wrap (IntKind.u64.wrap (n0_2 * 6364136223846793005) + 1442695040888963407))]))], F] := b5
  refine AO.s (s_store sizeOf85 rfl rfl rfl (S0.get (k := 0) rfl) (Nat.le_of_ble_eq_true rfl) b4) (AO.nil (AX.sr (AO.m rfl rfl (AO.p rfl (p_nilCheck rfl) (AO.p rfl (s_fieldAddr underlying87 rfl sizeOf85 (by decide) rfl rfl) (AO.c rfl (s_load isAgg85 rfl (row_cell (a0.get (k := 0) rfl) rfl)) (AO.p rfl (p_shrE rfl rfl (by decide)) (AO.p rfl (p_andE rfl rfl) (AO.p rfl (p_conv underlying85 underlying2 rfl rfl) (AO.a rfl rfl (AO.nil (AX.seq ?_))))))))))))
  refine AX.seq (DR.startS [false, false, false, false, false, false, false, false, false, false] mix (by kernel_rfl) (fun hst => ?_))
  refine DR.p rfl rfl (p_move rfl) (DR.p rfl rfl (p_nilCheck rfl) (DR.p rfl rfl (s_fieldAddr underlying87 rfl sizeOf3 (by decide) rfl rfl) (DR.r rfl rfl (r_load rfl isAgg3) (one_read (row_cell (a0.get (k := 0) rfl) rfl) (.of_flat0 rfl)) (DR.p rfl rfl (p_move rfl) (DR.p rfl rfl (p_nilCheck rfl) (DR.p rfl rfl (s_fieldAddr underlying87 rfl sizeOf22 (by decide) rfl rfl) (DR.r rfl rfl (r_load rfl isAgg22) (one_read (row_cell (a0.get (k := 0) rfl) rfl) (a0.pvview (k := 1) rfl q_n0_0).inn.bel) (DR.p rfl rfl (p_len_slice rfl underlying22) (DR.p rfl rfl (p_lss rfl rfl) (DR.nil 10 [] hst (by kernel_rfl) trivial ?_))))))))))
  obtain ⟨b6, a7, b7⟩ := bnd_some b2
  refine AX.cutS (fun t' H' => ∃ (a3 : Int) (a4 : Int), (a3, a4) = b6 ∧ St M0 H H' [F, [(i_n0, AObj.row false ([.slice p_n0_0 n0_0.length c_n0_0, .int .i64 a3, .int .u64 (IntKind.u64.wrap (IntKind.u64.wrap (n0_2 * 6364136223846793005) + 1442695040888963407))]))]] ∧ Pin F F ∧ PV F p_n0_0 c_n0_0 n0_0 ∧ Am.Sub [(1, .int .i64 a1), (5, .int .i64 a4)] t') ?_ ?_
  ·skip
   refine AX.cond rfl (fun a5 => ?_) (fun a5 => ?_)
   ·have b8 := bif_t a5 a7
    refine AX.seq (DR.startS [false, false, false, false, false, false, false, false, false, false, false, false, false, false] mix (by kernel_rfl) (fun hst => ?_))
    refine DR.p rfl rfl (p_move rfl) (DR.p rfl rfl (p_move rfl) (DR.p rfl rfl (p_nilCheck rfl) (DR.p rfl rfl (s_fieldAddr underlying87 rfl sizeOf22 (by decide) rfl rfl) (DR.r rfl rfl (r_load rfl isAgg22) (one_read (row_cell (a0.get (k := 0) rfl) rfl) (a0.pvview (k := 1) rfl q_n0_0).inn.bel) (DR.p rfl rfl (p_move rfl) (DR.p rfl rfl (p_nilCheck rfl) (DR.p rfl rfl (s_fieldAddr underlying87 rfl sizeOf3 (by decide) rfl rfl) (DR.r rfl rfl (r_load rfl isAgg3) (one_read (row_cell (a0.get (k := 0) rfl) rfl) (.of_flat0 rfl)) ?_))))))))
    obtain ⟨a6, b9⟩ := chk_some b8
    refine DR.p rfl rfl (s_indexV (q := off p_n0_0 + n0_1.toNat) underlying22 sizeOf5 rfl ((a0.pvview (k := 1) rfl q_n0_0).p (bys_get (lt_len rfl (inR_lt a6)))) rfl a6 (o1 _ _)) (DR.r rfl rfl (r_load rfl isAgg5) (one_read ((a0.pvview (k := 1) rfl q_n0_0).get _ _ (bys_get (lt_len rfl (inR_lt a6)))) (.of_flat0 rfl)) ?_)
    obtain ⟨c0, c1⟩ := chk_some b9
    refine DR.p rfl rfl (p_convI underlying5 underlying2 rfl c0) ?_
    obtain ⟨c2, c3⟩ := chk_some c1
    refine DR.p rfl rfl (p_addE rfl rfl c2) (DR.p rfl rfl (p_assign rfl) (DR.nil 14 [] hst (by kernel_rfl) trivial (AX.region (AO.m rfl rfl (AO.m rfl rfl (AO.p rfl (p_nilCheck rfl) (AO.p rfl (s_fieldAddr underlying87 rfl sizeOf3 (by decide) rfl rfl) (AO.c rfl (s_load isAgg3 rfl (row_cell (a0.get (k := 0) rfl) rfl)) ?_))))))))
    obtain ⟨c4, c5⟩ := chk_some c3
    refine AO.p rfl (p_addE rfl rfl c4) (AO.p rfl (p_nilCheck rfl) (AO.p rfl (s_fieldAddr underlying87 rfl sizeOf3 (by decide) rfl rfl) ?_))
    obtain ⟨c6, c7, c8⟩ := a0.set (k := 0) (i := i_n0) rfl (AObj.row false ([.slice p_n0_0 n0_0.length c_n0_0, .int .i64 (n0_1 + 1), .int .u64 (IntKind.u64.wrap (IntKind.u64.wrap (n0_2 * 6364136223846793005) + 1442695040888963407))]))
    have c9 : St M0 H c6 [[(i_n0, AObj.row false ([.slice p_n0_0 n0_0.length c_n0_0, .int .i64 (n0_1 + 1), .int .u64 (IntKind.u64.wrap (IntKind.u64.wrap (n0_2 * 6364136223846793005) + 1442695040888963407))]))], F] := c8
    refine AO.s (s_store sizeOf3 rfl rfl rfl (a0.get (k := 0) rfl) (Nat.le_of_ble_eq_true rfl) c7) (AO.nil ?_)
    have d0 := c9.front 0 rfl
    have d1 := d0.front 1 rfl
    exact ⟨(n0_1 + 1), (IntKind.i64.wrap (iand .u64 (ishr .u64 (IntKind.u64.wrap (IntKind.u64.wrap (n0_2 * 6364136223846793005) + 1442695040888963407)) 33) 16777215) + (rd n0_0 n0_1.toNat)), (some_inj c5), d1, (Pin.refl F), q_n0_0, Sub.k2 rfl rfl (Sub.nil _)⟩
   ·have d2 := bif_f a5 a7
    refine AX.skip ?_
    have d3 := a0.front 0 rfl
    have d4 := d3.front 1 rfl
    exact ⟨n0_1, (IntKind.i64.wrap (iand .u64 (ishr .u64 (IntKind.u64.wrap (IntKind.u64.wrap (n0_2 * 6364136223846793005) + 1442695040888963407)) 33) 16777215)), (some_inj d2), d4, (Pin.refl F), q_n0_0, Sub.k2 rfl rfl (Sub.nil _)⟩
  ·rintro t' e3 ⟨a3, a4, rfl, d5, d6, e4, d7⟩
   refine ⟨_, d7, ?_⟩
   refine AX.sr (AO.m rfl rfl (AO.m rfl rfl ?_))
   obtain ⟨d8, d9⟩ := chk_some b7
   refine AO.p rfl (p_remE rfl rfl d8) (AO.a rfl rfl (AO.nil (AX.ret ?_)))
   obtain ⟨rfl, e0⟩ := Prod.mk.inj (some_inj d9)
   obtain ⟨rfl, rfl⟩ := Prod.mk.inj e0
   have e1 := d5.front 0 rfl
   have e2 := e1.front 1 rfl
   exact ⟨.inr rfl, _, res1 rfl (rv_tmp rfl), F, rfl, e2, d6⟩
set_option maxHeartbeats 4000000 in
theorem W_spec_l01Pick (fu : Nat) (H : AHeap) (F : Sg) (i_n0 : Nat) (p_n0_0 : Option Addr) (c_n0_0 : Nat) (n0_0 : List Int) (q_n0_0 : PV F p_n0_0 c_n0_0 n0_0) (n0_1 : Int) (n0_2 : Int) (p_n1 : Option Addr) (k_n1 c_n1 : Nat) (n1 : List Int) (l_n1 : n1.length = k_n1) (s_n1 : Sb p_n1 k_n1 c_n1 1) (hn : (([[(i_n0, AObj.row false ([.slice p_n0_0 n0_0.length c_n0_0, .int .i64 n0_1, .int .u64 n0_2]))], oseg p_n1 (ints n1), F] : List Sg).flatten.map (·.1)).Nodup) (ho : ∀ x ∈ ([[(i_n0, AObj.row false ([.slice p_n0_0 n0_0.length c_n0_0, .int .i64 n0_1, .int .u64 n0_2]))], oseg p_n1 (ints n1), F] : List Sg).flatten, x.1 < H.length ∧ hget H x.1 = x.2) (r0 : Int) (m_n0_1 : Int) (m_n0_2 : Int) (hd : D_spec_l01Pick fu n0_0 n0_1 n0_2 k_n1 n1 = some (r0, m_n0_1, m_n0_2)) : ∃ v G', ACall Tryz.prog 45 [.pointer (some ⟨i_n0, 0, none⟩), .slice p_n1 k_n1 c_n1] H v G' ∧ ∃ (F' : Sg), (v = .int .i64 r0) ∧ St (([[(i_n0, AObj.row false ([.slice p_n0_0 n0_0.length c_n0_0, .int .i64 n0_1, .int .u64 n0_2]))], oseg p_n1 (ints n1), F] : List Sg).flatten.map (·.1)) H G' [[(i_n0, AObj.row false ([.slice p_n0_0 n0_0.length c_n0_0, .int .i64 m_n0_1, .int .u64 m_n0_2]))], oseg p_n1 (ints n1), F'] ∧ Pin F' F := by
 refine ACall.bodyX (args := [.pointer (some ⟨i_n0, 0, none⟩), .slice p_n1 k_n1 c_n1]) (N := 12) [(0, .pointer (some ⟨i_n0, 0, none⟩)), (1, .slice p_n1 k_n1 c_n1)] (fun v G' => ∃ (F' : Sg), (v = .int .i64 r0) ∧ St (([[(i_n0, AObj.row false ([.slice p_n0_0 n0_0.length c_n0_0, .int .i64 n0_1, .int .u64 n0_2]))], oseg p_n1 (ints n1), F] : List Sg).flatten.map (·.1)) H G' [[(i_n0, AObj.row false ([.slice p_n0_0 n0_0.length c_n0_0, .int .i64 m_n0_1, .int .u64 m_n0_2]))], oseg p_n1 (ints n1), F'] ∧ Pin F' F) Tryz.func45 rfl rfl rfl rfl ?_
 unfold D_spec_l01Pick at hd
 have S0 := St.initF hn ho
 generalize hM0 : (([[(i_n0, AObj.row false ([.slice p_n0_0 n0_0.length c_n0_0, .int .i64 n0_1, .int .u64 n0_2]))], oseg p_n1 (ints n1), F] : List Sg).flatten.map (·.1)) = M0 at S0 ⊢
 refine AX.sr (AO.a rfl rfl (AO.nil (AX.sr (AO.m rfl rfl (AO.m rfl rfl (AO.m rfl rfl (AO.p rfl (p_len_slice rfl underlying27) ?_)))))))
 have a4 := S0.front 2 rfl
 have a5 := a4.front 1 rfl
 have a1 : St M0 H H [[(i_n0, AObj.row false ([.slice p_n0_0 n0_0.length c_n0_0, .int .i64 n0_1, .int .u64 n0_2]))], F, oseg p_n1 (ints n1)] := a5
 obtain ⟨⟨a2, a6, a7⟩, a8, a9⟩ := bnd_some hd
 obtain ⟨_, b9, b0, b1, rfl, b2, b3⟩ := W_spec_l01Next fu H F ((k_n1 : Nat) : Int) i_n0 p_n0_0 c_n0_0 n0_0 q_n0_0 n0_1 n0_2 (St.fnodup (A := [[(i_n0, AObj.row false ([.slice p_n0_0 n0_0.length c_n0_0, .int .i64 n0_1, .int .u64 n0_2]))], F]) a1) (St.fmem (A := [[(i_n0, AObj.row false ([.slice p_n0_0 n0_0.length c_n0_0, .int .i64 n0_1, .int .u64 n0_2]))], F]) a1) a2 a6 a7 a8
 have a3 := St.callM (A := [[(i_n0, AObj.row false ([.slice p_n0_0 n0_0.length c_n0_0, .int .i64 n0_1, .int .u64 n0_2]))], F]) a1 b2 (fun j h => h)
 refine AO.c rfl (o_call (vs := [.pointer (some ⟨i_n0, 0, none⟩), .int .i64 ((k_n1 : Nat) : Int)]) rfl Tryz.call53 b0) ?_
 obtain ⟨a0, b4⟩ := chk_some a9
 refine AO.p rfl (s_indexV (q := a2.toNat) underlying27 sizeOf2 rfl (s_n1.at (inR_pos a0)) rfl a0 (z1 _)) (AO.c rfl (s_load isAgg2 rfl (row_cell (a3.oat (k := 2) rfl (s_n1.at (inR_pos a0))) (ints_get (lt_len l_n1 (inR_lt a0))))) (AO.a rfl rfl (AO.nil (AX.ret ?_))))
 obtain ⟨rfl, b5⟩ := Prod.mk.inj (some_inj b4)
 obtain ⟨rfl, rfl⟩ := Prod.mk.inj b5
 have b6 := a3.front 1 rfl
 have b7 := b6.front 2 rfl
 have b8 := b7.front 2 rfl
 exact ⟨.inr rfl, _, res1 rfl (rv_tmp rfl), b1, rfl, b8, ((Pin.refl F).mono b3)⟩
set_option maxHeartbeats 4000000 in
theorem W_spec_l03Sorted (fu : Nat) (H : AHeap) (F : Sg) (p_n0 : Option Addr) (k_n0 c_n0 : Nat) (T_n0 : Tb) (n0 : List (List Int)) (l_n0 : n0.length = k_n0) (s_n0 : Sb p_n0 k_n0 c_n0 1) (t_n0 : trows T_n0 = n0) (z_n0 : TSb T_n0) (hn : (([oseg p_n0 (tcells T_n0), tseg T_n0, F] : List Sg).flatten.map (·.1)).Nodup) (ho : ∀ x ∈ ([oseg p_n0 (tcells T_n0), tseg T_n0, F] : List Sg).flatten, x.1 < H.length ∧ hget H x.1 = x.2) (r0 : List (List Int)) (hd : D_spec_l03Sorted fu k_n0 n0 = some r0) : ∃ v G', ACall Tryz.prog 81 [.slice p_n0 k_n0 c_n0] H v G' ∧ ∃ (p_r0 : Option Addr) (c_r0 : Nat) (T_r0 : Tb) (F' : Sg), (v = .slice p_r0 r0.length c_r0) ∧ St (([oseg p_n0 (tcells T_n0), tseg T_n0, F] : List Sg).flatten.map (·.1)) H G' [oseg p_n0 (tcells T_n0), tseg T_n0, F'] ∧ trows T_r0 = r0 ∧ PTw F' p_r0 c_r0 T_r0 ∧ Pin F' F := by
 refine ACall.bodyX (args := [.slice p_n0 k_n0 c_n0]) (N := 77) [(0, .slice p_n0 k_n0 c_n0)] (fun v G' => ∃ (p_r0 : Option Addr) (c_r0 : Nat) (T_r0 : Tb) (F' : Sg), (v = .slice p_r0 r0.length c_r0) ∧ St (([oseg p_n0 (tcells T_n0), tseg T_n0, F] : List Sg).flatten.map (·.1)) H G' [oseg p_n0 (tcells T_n0), tseg T_n0, F'] ∧ trows T_r0 = r0 ∧ PTw F' p_r0 c_r0 T_r0 ∧ Pin F' F) Tryz.func81 rfl rfl rfl rfl ?_
 unfold D_spec_l03Sorted at hd
 have S0 := St.initF hn ho
 generalize hM0 : (([oseg p_n0 (tcells T_n0), tseg T_n0, F] : List Sg).flatten.map (·.1)) = M0 at S0 ⊢
 refine AX.sr (AO.a rfl rfl (AO.nil (AX.sr ?_)))
 obtain ⟨v2, f9, h5, h6, h7⟩ := S0.new (AObj.row false (tcells []))
 refine AO.c rfl (s_build0 (i := f9) underlying24 sizeOf27 h5 h6) (AO.a rfl rfl (AO.nil (AX.seq (AX.sr (AO.a rfl rfl (AO.nil ?_))))))
 obtain ⟨h8, h9, i0⟩ := bnd_some hd
 refine AX.cutS (fun t' H' => ∃ (b8 : List (List Int)) (b9 : Sg) (b4 : Option Addr) (c7 : Nat) (b5 : Tb), b8 = h8 ∧ St M0 H H' [b9, oseg p_n0 (tcells T_n0), tseg T_n0, oseg b4 (tcells b5)] ∧ Pin b9 F ∧ trows b5 = b8 ∧ PRw b9 b5 ∧ Sb b4 (b8.length) c7 1 ∧ Am.Sub [(3, .slice b4 b8.length c7)] t') ?_ ?_
 ·refine AX.block (AX.loopF (fun s' t' H' => ∃ (a2 : List (List Int)) (a0 : Int) (b6 : Sg) (c0 : Option Addr) (c8 : Nat) (a9 : Tb), (a2, a0) = s' ∧ St M0 H H' [b6, oseg p_n0 (tcells T_n0), tseg T_n0, oseg c0 (tcells a9)] ∧ Pin b6 F ∧ trows a9 = a2 ∧ PRw b6 a9 ∧ Sb c0 (a2.length) c8 1 ∧ Am.Sub [(0, .slice p_n0 k_n0 c_n0), (3, .slice c0 a2.length c8), (4, .int .i64 a0)] t') h9 ?_ ?_)
  ·skip
   have i1 := h7.front 0 rfl
   have i2 := i1.front 2 rfl
   have i3 := i2.front 2 rfl
   have i4 := i3.front 3 rfl
   exact ⟨[], 0, F, (some (Addr.mk f9 0 none)), 0, [], rfl, i4, (Pin.refl F), rfl, PRw.nil, (Sb.lit (n := 0) (by decide)), Sub.k2 rfl rfl (Sub.k1 rfl (Sub.nil _))⟩
  ·rintro v3 _ t' v4 ⟨a2, a0, b6, c0, c8, a9, rfl, a4, g0, d7, g1, d8, i5⟩ v5 d9 g2
   refine AX.sub i5 ?_
   unfold D_spec_l03Sorted_s0 at d9
   refine AX.seq (AX.sr (AO.m rfl rfl (AO.m rfl rfl (AO.p rfl (p_len_slice rfl underlying24) (AO.p rfl (p_lss rfl rfl) (AO.nil (AX.cond rfl (fun e0 => ?_) (fun e0 => ?_))))))))
   ·have i6 := bif_t e0 d9
    refine AX.skip (AX.seq (AX.block (AX.seq (DR.startS [false, false, false, false, false, false, false, false, false, false, false, false, false, false, false, false, false, false, false, false, false, false, false, false, false, false, false, false] mix (by kernel_rfl) (fun hst => ?_)))))
    refine DR.p rfl rfl (p_move rfl) (DR.p rfl rfl (p_move rfl) ?_)
    obtain ⟨c9, i7⟩ := chk_some i6
    refine DR.p rfl rfl (s_indexV (q := a0.toNat) underlying24 sizeOf27 rfl (s_n0.at (inR_pos c9)) rfl c9 (z1 _)) ?_
    obtain ⟨i8, v6, e1, i9⟩ := tget t_n0 (lt_len l_n0 (inR_lt c9))
    refine DR.r rfl rfl (r_load rfl isAgg27) (one_read (row_cell (a4.oat (k := 1) rfl (s_n0.at (inR_pos c9))) i9) (TVw.at (a4.oviewT (k := 2) rfl z_n0) e1).inn.bel) ?_
    obtain ⟨e2, j0⟩ := chk_some i7
    refine DR.p rfl rfl (s_indexV (q := off i8 + 0) underlying27 sizeOf2 rfl ((TVw.at (a4.oviewT (k := 2) rfl z_n0) e1).p (ints_get (lt_len rfl (inR_lt e2)))) rfl e2 (o1 _ _)) (DR.r rfl rfl (r_load rfl isAgg2) (one_read ((TVw.at (a4.oviewT (k := 2) rfl z_n0) e1).get _ _ (ints_get (lt_len rfl (inR_lt e2)))) (.of_flat0 rfl)) (DR.p rfl rfl (p_move rfl) (DR.p rfl rfl (p_move rfl) ?_)))
    obtain ⟨d0, j1⟩ := chk_some j0
    refine DR.p rfl rfl (s_indexV (q := a0.toNat) underlying24 sizeOf27 rfl (s_n0.at (inR_pos d0)) rfl d0 (z1 _)) ?_
    obtain ⟨j2, v7, e3, j3⟩ := tget t_n0 (lt_len l_n0 (inR_lt d0))
    refine DR.r rfl rfl (r_load rfl isAgg27) (one_read (row_cell (a4.oat (k := 1) rfl (s_n0.at (inR_pos d0))) j3) (TVw.at (a4.oviewT (k := 2) rfl z_n0) e3).inn.bel) ?_
    obtain ⟨e4, j4⟩ := chk_some j1
    refine DR.p rfl rfl (s_indexV (q := off j2 + 1) underlying27 sizeOf2 rfl ((TVw.at (a4.oviewT (k := 2) rfl z_n0) e3).p (ints_get (lt_len rfl (inR_lt e4)))) rfl e4 (o1 _ _)) (DR.r rfl rfl (r_load rfl isAgg2) (one_read ((TVw.at (a4.oviewT (k := 2) rfl z_n0) e3).get _ _ (ints_get (lt_len rfl (inR_lt e4)))) (.of_flat0 rfl)) (DR.p rfl rfl (p_min rfl rfl rfl) (DR.p rfl rfl (p_move rfl) (DR.p rfl rfl (p_move rfl) ?_))))
    obtain ⟨d1, j5⟩ := chk_some j4
    refine DR.p rfl rfl (s_indexV (q := a0.toNat) underlying24 sizeOf27 rfl (s_n0.at (inR_pos d1)) rfl d1 (z1 _)) ?_
    obtain ⟨j6, v8, e5, j7⟩ := tget t_n0 (lt_len l_n0 (inR_lt d1))
    refine DR.r rfl rfl (r_load rfl isAgg27) (one_read (row_cell (a4.oat (k := 1) rfl (s_n0.at (inR_pos d1))) j7) (TVw.at (a4.oviewT (k := 2) rfl z_n0) e5).inn.bel) ?_
    obtain ⟨e6, j8⟩ := chk_some j5
    refine DR.p rfl rfl (s_indexV (q := off j6 + 0) underlying27 sizeOf2 rfl ((TVw.at (a4.oviewT (k := 2) rfl z_n0) e5).p (ints_get (lt_len rfl (inR_lt e6)))) rfl e6 (o1 _ _)) (DR.r rfl rfl (r_load rfl isAgg2) (one_read ((TVw.at (a4.oviewT (k := 2) rfl z_n0) e5).get _ _ (ints_get (lt_len rfl (inR_lt e6)))) (.of_flat0 rfl)) (DR.p rfl rfl (p_move rfl) (DR.p rfl rfl (p_move rfl) ?_)))
    obtain ⟨d2, j9⟩ := chk_some j8
    refine DR.p rfl rfl (s_indexV (q := a0.toNat) underlying24 sizeOf27 rfl (s_n0.at (inR_pos d2)) rfl d2 (z1 _)) ?_
    obtain ⟨k0, v9, e7, k3⟩ := tget t_n0 (lt_len l_n0 (inR_lt d2))
    refine DR.r rfl rfl (r_load rfl isAgg27) (one_read (row_cell (a4.oat (k := 1) rfl (s_n0.at (inR_pos d2))) k3) (TVw.at (a4.oviewT (k := 2) rfl z_n0) e7).inn.bel) ?_
    obtain ⟨e8, k5⟩ := chk_some j9
    refine DR.p rfl rfl (s_indexV (q := off k0 + 1) underlying27 sizeOf2 rfl ((TVw.at (a4.oviewT (k := 2) rfl z_n0) e7).p (ints_get (lt_len rfl (inR_lt e8)))) rfl e8 (o1 _ _)) (DR.r rfl rfl (r_load rfl isAgg2) (one_read ((TVw.at (a4.oviewT (k := 2) rfl z_n0) e7).get _ _ (ints_get (lt_len rfl (inR_lt e8)))) (.of_flat0 rfl)) (DR.p rfl rfl (p_max rfl rfl rfl) ?_))
    obtain ⟨w0, a3, k6, k7, k8⟩ := a4.new (AObj.row false (ints [(if rd (rw_ n0 a0.toNat) 1 < rd (rw_ n0 a0.toNat) 0 then rd (rw_ n0 a0.toNat) 1 else rd (rw_ n0 a0.toNat) 0), (if rd (rw_ n0 a0.toNat) 1 > rd (rw_ n0 a0.toNat) 0 then rd (rw_ n0 a0.toNat) 1 else rd (rw_ n0 a0.toNat) 0)]))
    refine DR.a rfl rfl k6 k7 (a_buildInts (vs := [(0, .int .i64 (if rd (rw_ n0 a0.toNat) 1 < rd (rw_ n0 a0.toNat) 0 then rd (rw_ n0 a0.toNat) 1 else rd (rw_ n0 a0.toNat) 0)), (1, .int .i64 (if rd (rw_ n0 a0.toNat) 1 > rd (rw_ n0 a0.toNat) 0 then rd (rw_ n0 a0.toNat) 1 else rd (rw_ n0 a0.toNat) 0))]) (xs := [(if rd (rw_ n0 a0.toNat) 1 < rd (rw_ n0 a0.toNat) 0 then rd (rw_ n0 a0.toNat) 1 else rd (rw_ n0 a0.toNat) 0), (if rd (rw_ n0 a0.toNat) 1 > rd (rw_ n0 a0.toNat) 0 then rd (rw_ n0 a0.toNat) 1 else rd (rw_ n0 a0.toNat) 0)]) underlying27 sizeOf2 zeroValue2 rfl rfl (by decide) rfl rfl) (DR.p rfl rfl (p_assign rfl) (DR.nil 28 [] hst (by kernel_rfl) trivial (AX.sr (AO.m rfl rfl (AO.p rfl (p_len_slice rfl underlying24) (AO.a rfl rfl (AO.nil (AX.sr (AO.m rfl rfl (AO.m rfl rfl ?_))))))))))
    obtain ⟨w1, g3, k9, l0, l1⟩ := k8.new (AObj.row false (tcells ([((some (Addr.mk a3 0 none)), 2, [(if rd (rw_ n0 a0.toNat) 1 < rd (rw_ n0 a0.toNat) 0 then rd (rw_ n0 a0.toNat) 1 else rd (rw_ n0 a0.toNat) 0), (if rd (rw_ n0 a0.toNat) 1 > rd (rw_ n0 a0.toNat) 0 then rd (rw_ n0 a0.toNat) 1 else rd (rw_ n0 a0.toNat) 0)])])))
    have e9 := (l1.front 1 rfl).tone (some (Addr.mk a3 0 none)) 2 [(if rd (rw_ n0 a0.toNat) 1 < rd (rw_ n0 a0.toNat) 0 then rd (rw_ n0 a0.toNat) 1 else rd (rw_ n0 a0.toNat) 0), (if rd (rw_ n0 a0.toNat) 1 > rd (rw_ n0 a0.toNat) 0 then rd (rw_ n0 a0.toNat) 1 else rd (rw_ n0 a0.toNat) 0)] rfl
    refine AO.c rfl (s_buildT1 (i := g3) (X := [((some (Addr.mk a3 0 none)), 2, [(if rd (rw_ n0 a0.toNat) 1 < rd (rw_ n0 a0.toNat) 0 then rd (rw_ n0 a0.toNat) 1 else rd (rw_ n0 a0.toNat) 0), (if rd (rw_ n0 a0.toNat) 1 > rd (rw_ n0 a0.toNat) 0 then rd (rw_ n0 a0.toNat) 1 else rd (rw_ n0 a0.toNat) 0)])]) (n := 2) rfl underlying24 sizeOf27 zeroValue27 rfl rfl k9 l0) ?_
    obtain ⟨l2, l3⟩ := chk_some k5
    obtain ⟨a6, c1, l4, l5, l6, l7⟩ := e9.app (k := 5) rfl d8 (tcells ([((some (Addr.mk a3 0 none)), 2, [(if rd (rw_ n0 a0.toNat) 1 < rd (rw_ n0 a0.toNat) 0 then rd (rw_ n0 a0.toNat) 1 else rd (rw_ n0 a0.toNat) 0), (if rd (rw_ n0 a0.toNat) 1 > rd (rw_ n0 a0.toNat) 0 then rd (rw_ n0 a0.toNat) 1 else rd (rw_ n0 a0.toNat) 0)])])) 1 (tc_len1 rfl rfl)
    have l8 := l6.cellsEq (k := 5) (us' := tcells (a9 ++ [((some (Addr.mk a3 0 none)), 2, [(if rd (rw_ n0 a0.toNat) 1 < rd (rw_ n0 a0.toNat) 0 then rd (rw_ n0 a0.toNat) 1 else rd (rw_ n0 a0.toNat) 0), (if rd (rw_ n0 a0.toNat) 1 > rd (rw_ n0 a0.toNat) 0 then rd (rw_ n0 a0.toNat) 1 else rd (rw_ n0 a0.toNat) 0)])])) (tcells_app _ _).symm rfl
    have a8 : Sb a6 ((a2 ++ [[(if rd (rw_ n0 a0.toNat) 1 < rd (rw_ n0 a0.toNat) 0 then rd (rw_ n0 a0.toNat) 1 else rd (rw_ n0 a0.toNat) 0), (if rd (rw_ n0 a0.toNat) 1 > rd (rw_ n0 a0.toNat) 0 then rd (rw_ n0 a0.toNat) 1 else rd (rw_ n0 a0.toNat) 0)]]).length) c1 1 := (show a2.length + 1 = (a2 ++ [[(if rd (rw_ n0 a0.toNat) 1 < rd (rw_ n0 a0.toNat) 0 then rd (rw_ n0 a0.toNat) 1 else rd (rw_ n0 a0.toNat) 0), (if rd (rw_ n0 a0.toNat) 1 > rd (rw_ n0 a0.toNat) 0 then rd (rw_ n0 a0.toNat) 1 else rd (rw_ n0 a0.toNat) 0)]]).length from len_app (a := a2) (b := [[(if rd (rw_ n0 a0.toNat) 1 < rd (rw_ n0 a0.toNat) 0 then rd (rw_ n0 a0.toNat) 1 else rd (rw_ n0 a0.toNat) 0), (if rd (rw_ n0 a0.toNat) 1 > rd (rw_ n0 a0.toNat) 0 then rd (rw_ n0 a0.toNat) 1 else rd (rw_ n0 a0.toNat) 0)]]) rfl rfl) ▸ l7
    have l9 := l8.front 2 rfl
    have m0 := l9.front 1 rfl
    have m1 : St M0 H l4 [tseg ([((some (Addr.mk a3 0 none)), 2, [(if rd (rw_ n0 a0.toNat) 1 < rd (rw_ n0 a0.toNat) 0 then rd (rw_ n0 a0.toNat) 1 else rd (rw_ n0 a0.toNat) 0), (if rd (rw_ n0 a0.toNat) 1 > rd (rw_ n0 a0.toNat) 0 then rd (rw_ n0 a0.toNat) 1 else rd (rw_ n0 a0.toNat) 0)])]), b6, [(g3, AObj.row false (tcells ([((some (Addr.mk a3 0 none)), 2, [(if rd (rw_ n0 a0.toNat) 1 < rd (rw_ n0 a0.toNat) 0 then rd (rw_ n0 a0.toNat) 1 else rd (rw_ n0 a0.toNat) 0), (if rd (rw_ n0 a0.toNat) 1 > rd (rw_ n0 a0.toNat) 0 then rd (rw_ n0 a0.toNat) 1 else rd (rw_ n0 a0.toNat) 0)])])))], oseg p_n0 (tcells T_n0), tseg T_n0, oseg a6 (tcells (a9 ++ [((some (Addr.mk a3 0 none)), 2, [(if rd (rw_ n0 a0.toNat) 1 < rd (rw_ n0 a0.toNat) 0 then rd (rw_ n0 a0.toNat) 1 else rd (rw_ n0 a0.toNat) 0), (if rd (rw_ n0 a0.toNat) 1 > rd (rw_ n0 a0.toNat) 0 then rd (rw_ n0 a0.toNat) 1 else rd (rw_ n0 a0.toNat) 0)])]))] := m0
    obtain ⟨a5, m2, g4, m3⟩ := m1.poolRowsW (T := a9) g1 (TSb.one (sb_len rfl (Sb.lit (n := 2) (by decide))))
    have m4 := m3.drop 1 rfl
    refine AO.c rfl (s_app (by_ := 24) (us := tcells a9) (vs := tcells ([((some (Addr.mk a3 0 none)), 2, [(if rd (rw_ n0 a0.toNat) 1 < rd (rw_ n0 a0.toNat) 0 then rd (rw_ n0 a0.toNat) 1 else rd (rw_ n0 a0.toNat) 0), (if rd (rw_ n0 a0.toNat) 1 > rd (rw_ n0 a0.toNat) 0 then rd (rw_ n0 a0.toNat) 1 else rd (rw_ n0 a0.toNat) 0)])])) underlying24 underlying24 typeInfo27 sizeOf27 zeroValue27 rfl rfl rfl rfl rfl rfl rfl (e9.buf (k := 5) rfl d8 (tc_len1 d7 rfl)) (e9.oview (k := 1) rfl (Sb.lit (n := 1) (by decide)) (tc_len1 rfl rfl)) (tc_len1 rfl rfl) tcells_one l2 l5 (show a2.length + 1 = (a2 ++ [[(if rd (rw_ n0 a0.toNat) 1 < rd (rw_ n0 a0.toNat) 0 then rd (rw_ n0 a0.toNat) 1 else rd (rw_ n0 a0.toNat) 0), (if rd (rw_ n0 a0.toNat) 1 > rd (rw_ n0 a0.toNat) 0 then rd (rw_ n0 a0.toNat) 1 else rd (rw_ n0 a0.toNat) 0)]]).length from len_app (a := a2) (b := [[(if rd (rw_ n0 a0.toNat) 1 < rd (rw_ n0 a0.toNat) 0 then rd (rw_ n0 a0.toNat) 1 else rd (rw_ n0 a0.toNat) 0), (if rd (rw_ n0 a0.toNat) 1 > rd (rw_ n0 a0.toNat) 0 then rd (rw_ n0 a0.toNat) 1 else rd (rw_ n0 a0.toNat) 0)]]) rfl rfl)) (AO.a rfl rfl (AO.nil ?_))
    obtain ⟨m5, m6, m7⟩ := bnd_some l3
    refine AX.cut (fun t' H' => ∃ (b7 : List (List Int)) (b1 : Int) (b3 : Tb), (b7, b1) = m5 ∧ St M0 H H' [a5, oseg p_n0 (tcells T_n0), tseg T_n0, oseg a6 (tcells b3)] ∧ Pin a5 F ∧ b7.length = (a2 ++ [[(if rd (rw_ n0 a0.toNat) 1 < rd (rw_ n0 a0.toNat) 0 then rd (rw_ n0 a0.toNat) 1 else rd (rw_ n0 a0.toNat) 0), (if rd (rw_ n0 a0.toNat) 1 > rd (rw_ n0 a0.toNat) 0 then rd (rw_ n0 a0.toNat) 1 else rd (rw_ n0 a0.toNat) 0)]]).length ∧ trows b3 = b7 ∧ PRw a5 b3 ∧ PI a5 (some (Addr.mk a3 0 none)) 2 [(if rd (rw_ n0 a0.toNat) 1 < rd (rw_ n0 a0.toNat) 0 then rd (rw_ n0 a0.toNat) 1 else rd (rw_ n0 a0.toNat) 0), (if rd (rw_ n0 a0.toNat) 1 > rd (rw_ n0 a0.toNat) 0 then rd (rw_ n0 a0.toNat) 1 else rd (rw_ n0 a0.toNat) 0)] ∧ Am.Sub [(0, .slice p_n0 k_n0 c_n0), (3, .slice a6 ((a2 ++ [[(if rd (rw_ n0 a0.toNat) 1 < rd (rw_ n0 a0.toNat) 0 then rd (rw_ n0 a0.toNat) 1 else rd (rw_ n0 a0.toNat) 0), (if rd (rw_ n0 a0.toNat) 1 > rd (rw_ n0 a0.toNat) 0 then rd (rw_ n0 a0.toNat) 1 else rd (rw_ n0 a0.toNat) 0)]]).length) c1), (4, .int .i64 a0), (5, .slice (some (Addr.mk a3 0 none)) 2 2), (6, .int .i64 b1)] t') ?_ ?_
    ·refine AX.block (AX.loopF (fun s' t' H' => ∃ (a7 : List (List Int)) (a1 : Int) (b0 : Tb), (a7, a1) = s' ∧ St M0 H H' [a5, oseg p_n0 (tcells T_n0), tseg T_n0, oseg a6 (tcells b0)] ∧ Pin a5 F ∧ a7.length = (a2 ++ [[(if rd (rw_ n0 a0.toNat) 1 < rd (rw_ n0 a0.toNat) 0 then rd (rw_ n0 a0.toNat) 1 else rd (rw_ n0 a0.toNat) 0), (if rd (rw_ n0 a0.toNat) 1 > rd (rw_ n0 a0.toNat) 0 then rd (rw_ n0 a0.toNat) 1 else rd (rw_ n0 a0.toNat) 0)]]).length ∧ trows b0 = a7 ∧ PRw a5 b0 ∧ PI a5 (some (Addr.mk a3 0 none)) 2 [(if rd (rw_ n0 a0.toNat) 1 < rd (rw_ n0 a0.toNat) 0 then rd (rw_ n0 a0.toNat) 1 else rd (rw_ n0 a0.toNat) 0), (if rd (rw_ n0 a0.toNat) 1 > rd (rw_ n0 a0.toNat) 0 then rd (rw_ n0 a0.toNat) 1 else rd (rw_ n0 a0.toNat) 0)] ∧ Am.Sub [(0, .slice p_n0 k_n0 c_n0), (3, .slice a6 ((a2 ++ [[(if rd (rw_ n0 a0.toNat) 1 < rd (rw_ n0 a0.toNat) 0 then rd (rw_ n0 a0.toNat) 1 else rd (rw_ n0 a0.toNat) 0), (if rd (rw_ n0 a0.toNat) 1 > rd (rw_ n0 a0.toNat) 0 then rd (rw_ n0 a0.toNat) 1 else rd (rw_ n0 a0.toNat) 0)]]).length) c1), (4, .int .i64 a0), (5, .slice (some (Addr.mk a3 0 none)) 2 2), (6, .int .i64 a1)] t') m6 ?_ ?_)
     ·skip
      have m8 := m4.front 3 rfl
      have m9 := m8.front 3 rfl
      have n1 := m9.front 3 rfl
      have n2 := n1.front 3 rfl
      exact ⟨(a2 ++ [[(if rd (rw_ n0 a0.toNat) 1 < rd (rw_ n0 a0.toNat) 0 then rd (rw_ n0 a0.toNat) 1 else rd (rw_ n0 a0.toNat) 0), (if rd (rw_ n0 a0.toNat) 1 > rd (rw_ n0 a0.toNat) 0 then rd (rw_ n0 a0.toNat) 1 else rd (rw_ n0 a0.toNat) 0)]]), ((a2.length : Nat) : Int), (a9 ++ [((some (Addr.mk a3 0 none)), 2, [(if rd (rw_ n0 a0.toNat) 1 < rd (rw_ n0 a0.toNat) 0 then rd (rw_ n0 a0.toNat) 1 else rd (rw_ n0 a0.toNat) 0), (if rd (rw_ n0 a0.toNat) 1 > rd (rw_ n0 a0.toNat) 0 then rd (rw_ n0 a0.toNat) 1 else rd (rw_ n0 a0.toNat) 0)])]), rfl, n2, (g0.mono m2), rfl, (trows_apps d7 rfl), g4, (PRw.at (j := 0) (PRw.right g4) rfl), Sub.k4 rfl rfl rfl rfl (Sub.k1 rfl (Sub.nil _))⟩
     ·rintro w2 _ t' w3 ⟨a7, a1, b0, rfl, b2, g5, c2, c3, c4, d3, n3⟩ w4 g6 g7
      refine AX.sub n3 ?_
      unfold D_spec_l03Sorted_s1 at g6
      refine AX.seq ?_
      obtain ⟨n4, g8, g9⟩ := bnd_some g6
      refine AX.cut (fun t' H' => ∃ (f0 : Bool), f0 = n4 ∧ St M0 H H' [a5, oseg p_n0 (tcells T_n0), tseg T_n0, oseg a6 (tcells b0)] ∧ Pin a5 F ∧ PRw a5 b0 ∧ PI a5 (some (Addr.mk a3 0 none)) 2 [(if rd (rw_ n0 a0.toNat) 1 < rd (rw_ n0 a0.toNat) 0 then rd (rw_ n0 a0.toNat) 1 else rd (rw_ n0 a0.toNat) 0), (if rd (rw_ n0 a0.toNat) 1 > rd (rw_ n0 a0.toNat) 0 then rd (rw_ n0 a0.toNat) 1 else rd (rw_ n0 a0.toNat) 0)] ∧ Am.Sub [(0, .slice p_n0 k_n0 c_n0), (3, .slice a6 ((a2 ++ [[(if rd (rw_ n0 a0.toNat) 1 < rd (rw_ n0 a0.toNat) 0 then rd (rw_ n0 a0.toNat) 1 else rd (rw_ n0 a0.toNat) 0), (if rd (rw_ n0 a0.toNat) 1 > rd (rw_ n0 a0.toNat) 0 then rd (rw_ n0 a0.toNat) 1 else rd (rw_ n0 a0.toNat) 0)]]).length) c1), (4, .int .i64 a0), (5, .slice (some (Addr.mk a3 0 none)) 2 2), (6, .int .i64 a1), (61, .bool f0)] t') ?_ ?_
      ·skip
       refine DR.startS [false, false, false, false, false, false, false, false, false, false, false, false, false, false, false] mix (by kernel_rfl) (fun hst => ?_)
       refine DR.p rfl rfl (p_move rfl) (DR.p rfl rfl (p_gtr rfl rfl) (DR.pb rfl rfl (p_move rfl) (fun f1 => ?_) (fun f1 => ?_)))
       ·have n5 := bif_t f1 g8
        refine DR.gp rfl rfl rfl rfl (p_move rfl) (DR.gp rfl rfl rfl rfl (p_move rfl) ?_)
        obtain ⟨n6, n7⟩ := chk_some n5
        refine DR.gp rfl rfl rfl rfl (p_subE rfl rfl n6) ?_
        obtain ⟨d4, n8⟩ := chk_some n7
        refine DR.gp rfl rfl rfl rfl (s_indexV (q := (a1 - 1).toNat) underlying24 sizeOf27 rfl (a8.at (inR_pos d4)) rfl d4 (z1 _)) ?_
        obtain ⟨n9, w5, f2, o0⟩ := tget c3 (lt_len c2 (inR_lt d4))
        refine DR.gr rfl rfl rfl rfl (r_load rfl isAgg27) (one_read (row_cell (b2.oat (k := 3) rfl (a8.at (inR_pos d4))) o0) (TVw.at (b2.prwview (k := 0) rfl c4) f2).inn.bel) ?_
        obtain ⟨f3, o2⟩ := chk_some n8
        refine DR.gp rfl rfl rfl rfl (s_indexV (q := off n9 + 0) underlying27 sizeOf2 rfl ((TVw.at (b2.prwview (k := 0) rfl c4) f2).p (ints_get (lt_len rfl (inR_lt f3)))) rfl f3 (o1 _ _)) (DR.gr rfl rfl rfl rfl (r_load rfl isAgg2) (one_read ((TVw.at (b2.prwview (k := 0) rfl c4) f2).get _ _ (ints_get (lt_len rfl (inR_lt f3)))) (.of_flat0 rfl)) (DR.gp rfl rfl rfl rfl (p_move rfl) (DR.gp rfl rfl rfl rfl (s_indexV (q := off (some (Addr.mk a3 0 none)) + 0) underlying27 sizeOf2 rfl ((b2.piview (k := 0) rfl d3).p (ints_get (lt_len rfl (inR_lt (show inR 0 2 by decide))))) rfl (show inR 0 2 by decide) (o1 _ _)) (DR.gr rfl rfl rfl rfl (r_load rfl isAgg2) (one_read ((b2.piview (k := 0) rfl d3).get _ _ (ints_get (lt_len rfl (inR_lt (show inR 0 2 by decide))))) (.of_flat0 rfl)) (DR.gp rfl rfl rfl rfl (p_gtr rfl rfl) (DR.p rfl rfl (p_pickT rfl rfl) (DR.nil 15 [] hst (by kernel_rfl) trivial ?_)))))))
        have o3 := b2.front 3 rfl
        have o4 := o3.front 3 rfl
        have o5 := o4.front 3 rfl
        have o6 := o5.front 3 rfl
        exact ⟨(decide (rd [(if rd (rw_ n0 a0.toNat) 1 < rd (rw_ n0 a0.toNat) 0 then rd (rw_ n0 a0.toNat) 1 else rd (rw_ n0 a0.toNat) 0), (if rd (rw_ n0 a0.toNat) 1 > rd (rw_ n0 a0.toNat) 0 then rd (rw_ n0 a0.toNat) 1 else rd (rw_ n0 a0.toNat) 0)] 0 < rd (rw_ a7 ((a1 - 1).toNat)) 0)), (some_inj o2), o6, g5, c4, d3, Sub.k4 rfl rfl rfl rfl (Sub.k2 rfl rfl (Sub.nil _))⟩
       ·have o7 := bif_f f1 g8
        refine DR.gn rfl rfl rfl rfl (DR.gn rfl rfl rfl rfl (DR.gn rfl rfl rfl rfl (DR.gn rfl rfl rfl rfl (DR.gn rfl rfl rfl rfl (DR.gn rfl rfl rfl rfl (DR.gn rfl rfl rfl rfl (DR.gn rfl rfl rfl rfl (DR.gn rfl rfl rfl rfl (DR.gn rfl rfl rfl rfl (DR.gn rfl rfl rfl rfl (DR.p rfl rfl (p_pickF rfl rfl) (DR.nil 15 [] hst (by kernel_rfl) trivial ?_))))))))))))
        have o8 := b2.front 3 rfl
        have o9 := o8.front 3 rfl
        have p0 := o9.front 3 rfl
        have p1 := p0.front 3 rfl
        exact ⟨false, (some_inj o7), p1, g5, c4, d3, Sub.k4 rfl rfl rfl rfl (Sub.k2 rfl rfl (Sub.nil _))⟩
      ·rintro t' w6 ⟨f0, rfl, d5, h0, f4, h1, p2⟩
       refine AX.sub p2 (AX.cond rfl (fun f5 => ?_) (fun f5 => ?_))
       ·have p3 := bif_t f5 g9
        refine AX.skip (AX.block (AX.sr (AO.m rfl rfl (AO.m rfl rfl (AO.m rfl rfl (AO.m rfl rfl ?_))))))
        obtain ⟨p4, p5⟩ := chk_some p3
        refine AO.p rfl (p_subE rfl rfl p4) ?_
        obtain ⟨d6, p6⟩ := chk_some p5
        refine AO.p rfl (s_indexV (q := (a1 - 1).toNat) underlying24 sizeOf27 rfl (a8.at (inR_pos d6)) rfl d6 (z1 _)) ?_
        obtain ⟨f6, f7, p7, p8⟩ := tget c3 (lt_len c2 (inR_lt d6))
        refine AO.c rfl (s_load isAgg27 rfl (row_cell (d5.oat (k := 3) rfl (a8.at (inR_pos d6))) p8)) ?_
        obtain ⟨c5, p9⟩ := chk_some p6
        refine AO.p rfl (s_indexV (q := a1.toNat) underlying24 sizeOf27 rfl (a8.at (inR_pos c5)) rfl c5 (z1 _)) ?_
        obtain ⟨q0, q1, q2⟩ := d5.oset (k := 3) (p := a6) rfl (a8.at (inR_pos c5)) (tcells (b0.set a1.toNat (f6, f7, (rw_ a7 ((a1 - 1).toNat)))))
        have q3 : St M0 H q0 [a5, oseg p_n0 (tcells T_n0), tseg T_n0, oseg a6 (tcells (b0.set a1.toNat (f6, f7, (rw_ a7 ((a1 - 1).toNat)))))] := q2
        refine AO.s (s_store sizeOf27 rfl rfl rfl (d5.oat (k := 3) rfl (a8.at (inR_pos c5))) (tc_lt c3 c2 (inR_lt c5)) ((congrArg (fun l => List.set _ _ (AObj.row false l)) (tcells_put _ _ _ _ _)).trans q1)) (AO.nil (AX.region (AO.m rfl rfl ?_)))
        obtain ⟨q4, q5⟩ := chk_some p9
        refine AO.p rfl (p_subE rfl rfl q4) (AO.a rfl rfl (AO.nil ?_))
        obtain rfl := some_inj q5
        have q6 := q3.front 3 rfl
        have q7 := q6.front 3 rfl
        have q8 := q7.front 3 rfl
        have q9 := q8.front 3 rfl
        exact ⟨((a7.set a1.toNat (rw_ a7 ((a1 - 1).toNat))), a1 - 1), g7, (a7.set a1.toNat (rw_ a7 ((a1 - 1).toNat))), (a1 - 1), (b0.set a1.toNat (f6, f7, (rw_ a7 ((a1 - 1).toNat)))), rfl, q9, h0, (len_set c2), (trows_set' c3), (f4.set (f4.at p7)), h1, Sub.k4 rfl rfl rfl rfl (Sub.k1 rfl (Sub.nil _))⟩
       ·have r1 := bif_f f5 g9
        refine AX.exit ?_
        obtain rfl := some_inj r1
        have r2 := d5.front 3 rfl
        have r3 := r2.front 3 rfl
        have r4 := r3.front 3 rfl
        have r5 := r4.front 3 rfl
        exact ⟨a7, a1, b0, g7, r5, h0, c2, c3, f4, h1, Sub.k4 rfl rfl rfl rfl (Sub.k1 rfl (Sub.nil _))⟩
    ·rintro t' w7 ⟨b7, b1, b3, rfl, h2, r6, f8, h3, r7, r8, r9⟩
     refine AX.sub r9 (AX.region (AO.m rfl rfl (AO.m rfl rfl (AO.m rfl rfl ?_))))
     obtain ⟨c6, s0⟩ := chk_some m7
     refine AO.p rfl (s_indexV (q := b1.toNat) underlying24 sizeOf27 rfl (a8.at (inR_pos c6)) rfl c6 (z1 _)) ?_
     obtain ⟨s1, s2, s3⟩ := h2.oset (k := 3) (p := a6) rfl (a8.at (inR_pos c6)) (tcells (b3.set b1.toNat ((some (Addr.mk a3 0 none)), 2, [(if rd (rw_ n0 a0.toNat) 1 < rd (rw_ n0 a0.toNat) 0 then rd (rw_ n0 a0.toNat) 1 else rd (rw_ n0 a0.toNat) 0), (if rd (rw_ n0 a0.toNat) 1 > rd (rw_ n0 a0.toNat) 0 then rd (rw_ n0 a0.toNat) 1 else rd (rw_ n0 a0.toNat) 0)])))
     have s4 : St M0 H s1 [a5, oseg p_n0 (tcells T_n0), tseg T_n0, oseg a6 (tcells (b3.set b1.toNat ((some (Addr.mk a3 0 none)), 2, [(if rd (rw_ n0 a0.toNat) 1 < rd (rw_ n0 a0.toNat) 0 then rd (rw_ n0 a0.toNat) 1 else rd (rw_ n0 a0.toNat) 0), (if rd (rw_ n0 a0.toNat) 1 > rd (rw_ n0 a0.toNat) 0 then rd (rw_ n0 a0.toNat) 1 else rd (rw_ n0 a0.toNat) 0)])))] := s3
     refine AO.s (s_store sizeOf27 rfl rfl rfl (h2.oat (k := 3) rfl (a8.at (inR_pos c6))) (tc_lt h3 f8 (inR_lt c6)) ((congrArg (fun l => List.set _ _ (AObj.row false l)) (tcells_put _ _ _ _ _)).trans s2)) (AO.nil (AX.region (AO.m rfl rfl ?_)))
     obtain ⟨s5, s6⟩ := chk_some s0
     refine AO.p rfl (p_addE rfl rfl s5) (AO.a rfl rfl (AO.nil ?_))
     obtain rfl := some_inj s6
     have s7 := s4.front 3 rfl
     have s8 := s7.front 3 rfl
     have s9 := s8.front 3 rfl
     have t0 := s9.front 3 rfl
     exact ⟨((b7.set b1.toNat [(if rd (rw_ n0 a0.toNat) 1 < rd (rw_ n0 a0.toNat) 0 then rd (rw_ n0 a0.toNat) 1 else rd (rw_ n0 a0.toNat) 0), (if rd (rw_ n0 a0.toNat) 1 > rd (rw_ n0 a0.toNat) 0 then rd (rw_ n0 a0.toNat) 1 else rd (rw_ n0 a0.toNat) 0)]), a0 + 1), g2, (b7.set b1.toNat [(if rd (rw_ n0 a0.toNat) 1 < rd (rw_ n0 a0.toNat) 0 then rd (rw_ n0 a0.toNat) 1 else rd (rw_ n0 a0.toNat) 0), (if rd (rw_ n0 a0.toNat) 1 > rd (rw_ n0 a0.toNat) 0 then rd (rw_ n0 a0.toNat) 1 else rd (rw_ n0 a0.toNat) 0)]), (a0 + 1), a5, a6, c1, (b3.set b1.toNat ((some (Addr.mk a3 0 none)), 2, [(if rd (rw_ n0 a0.toNat) 1 < rd (rw_ n0 a0.toNat) 0 then rd (rw_ n0 a0.toNat) 1 else rd (rw_ n0 a0.toNat) 0), (if rd (rw_ n0 a0.toNat) 1 > rd (rw_ n0 a0.toNat) 0 then rd (rw_ n0 a0.toNat) 1 else rd (rw_ n0 a0.toNat) 0)])), rfl, t0, r6, (trows_set' h3), (r7.set r8), (Eq.symm (len_set f8) ▸ a8), Sub.k2 rfl (congrArg some (sl_n (Eq.symm (len_set f8)))) (Sub.k1 rfl (Sub.nil _))⟩
   ·have t1 := bif_f e0 d9
    refine AX.exit ?_
    obtain rfl := some_inj t1
    have t2 := a4.front 3 rfl
    have t3 := t2.front 3 rfl
    have t4 := t3.front 3 rfl
    have t5 := t4.front 3 rfl
    exact ⟨a2, b6, c0, c8, a9, g2, t5, g0, d7, g1, d8, Sub.k1 rfl (Sub.nil _)⟩
 ·rintro t' t6 ⟨b8, b9, b4, c7, b5, rfl, t7, t8, h4, t9, u0, u1⟩
  refine ⟨_, u1, ?_⟩
  refine AX.sr (AO.m rfl rfl (AO.a rfl rfl (AO.nil (AX.ret ?_))))
  have u2 := t7.front 0 rfl
  have u3 := u2.front 3 rfl
  have u4 : St M0 H t6 [oseg b4 (tcells b5), b9, oseg p_n0 (tcells T_n0), tseg T_n0] := u3
  obtain ⟨u5, u6, u7, u8⟩ := u4.poolHdrW t9 u0 (tlen h4)
  obtain rfl := some_inj i0
  have u9 := u8.front 0 rfl
  have v0 := u9.front 2 rfl
  have v1 := v0.front 2 rfl
  exact ⟨.inr rfl, _, res1 rfl (rv_tmp rfl), b4, c7, b5, u5, rfl, v1, h4, u7, (t8.mono u6)⟩
set_option maxHeartbeats 4000000 in
theorem W_spec_l03Multiple (fu : Nat) (H : AHeap) (F : Sg) (a0 : Int) (p_a1 : Option Addr) (c_a1 : Nat) (T_a1 : Tb) (a1 : List (List Int)) (t_a1 : trows T_a1 = a1) (q_a1 : PT F p_a1 c_a1 T_a1) (a2 : Int) (hn : (([F] : List Sg).flatten.map (·.1)).Nodup) (ho : ∀ x ∈ ([F] : List Sg).flatten, x.1 < H.length ∧ hget H x.1 = x.2) (r0 : List (List Int)) (hd : D_spec_l03Multiple fu a0 a1 a2 = some r0) : ∃ v G', ACall Tryz.prog 59 [.int .i64 a0, .slice p_a1 a1.length c_a1, .int .i64 a2] H v G' ∧ ∃ (p_r0 : Option Addr) (c_r0 : Nat) (T_r0 : Tb) (F' : Sg), (v = .slice p_r0 r0.length c_r0) ∧ St (([F] : List Sg).flatten.map (·.1)) H G' [F'] ∧ trows T_r0 = r0 ∧ PTw F' p_r0 c_r0 T_r0 ∧ Pin F' F := by
 refine ACall.bodyX (args := [.int .i64 a0, .slice p_a1 a1.length c_a1, .int .i64 a2]) (N := 42) [(0, .int .i64 a0), (1, .slice p_a1 a1.length c_a1), (2, .int .i64 a2)] (fun v G' => ∃ (p_r0 : Option Addr) (c_r0 : Nat) (T_r0 : Tb) (F' : Sg), (v = .slice p_r0 r0.length c_r0) ∧ St (([F] : List Sg).flatten.map (·.1)) H G' [F'] ∧ trows T_r0 = r0 ∧ PTw F' p_r0 c_r0 T_r0 ∧ Pin F' F) Tryz.func59 rfl rfl rfl rfl ?_
 unfold D_spec_l03Multiple at hd
 have S0 := St.initF hn ho
 generalize hM0 : (([F] : List Sg).flatten.map (·.1)) = M0 at S0 ⊢
 refine AX.sr (AO.a rfl rfl (AO.nil (AX.sr ?_)))
 obtain ⟨l2, c5, d7, d8, d9⟩ := S0.new (AObj.row false (tcells []))
 have S102t := d9.nilseg 1
 refine AO.c rfl (s_build0 (i := c5) underlying24 sizeOf27 d7 d8) (AO.a rfl rfl (AO.nil (AX.seq (AX.sr (AO.a rfl rfl (AO.nil ?_))))))
 obtain ⟨e0, e1, e2⟩ := bnd_some hd
 refine AX.cutS (fun t' H' => ∃ (b0 : List (List Int)) (a8 : Option Addr) (b2 : Nat) (a5 : Tb), b0 = e0 ∧ St M0 H H' [F, oseg a8 (tcells a5), tseg a5] ∧ Pin F F ∧ trows a5 = b0 ∧ TSb a5 ∧ Sb a8 (b0.length) b2 1 ∧ Am.Sub [(7, .slice a8 b0.length b2)] t') ?_ ?_
 ·refine AX.block (AX.loopF (fun s' t' H' => ∃ (a4 : List (List Int)) (a3 : Int) (b3 : Option Addr) (b4 : Nat) (a9 : Tb), (a4, a3) = s' ∧ St M0 H H' [F, oseg b3 (tcells a9), tseg a9] ∧ Pin F F ∧ PT F p_a1 c_a1 T_a1 ∧ trows a9 = a4 ∧ TSb a9 ∧ Sb b3 (a4.length) b4 1 ∧ Am.Sub [(0, .int .i64 a0), (1, .slice p_a1 a1.length c_a1), (2, .int .i64 a2), (7, .slice b3 a4.length b4), (8, .int .i64 a3)] t') e1 ?_ ?_)
  ·skip
   have e3 := S102t.front 1 rfl
   have e4 := e3.front 1 rfl
   have e5 := e4.front 2 rfl
   exact ⟨[], 0, (some (Addr.mk c5 0 none)), 0, [], rfl, e5, (Pin.refl F), q_a1, rfl, TSb.nil, (Sb.lit (n := 0) (by decide)), Sub.k4 rfl rfl rfl rfl (Sub.k1 rfl (Sub.nil _))⟩
  ·rintro l3 _ t' l4 ⟨a4, a3, b3, b4, a9, rfl, a6, c6, a7, b5, c7, b6, e6⟩ l5 b7 c8
   refine AX.sub e6 ?_
   unfold D_spec_l03Multiple_s0 at b7
   refine AX.seq (AX.sr (AO.m rfl rfl (AO.m rfl rfl (AO.p rfl (p_len_slice rfl underlying24) (AO.p rfl (p_lss rfl rfl) (AO.nil (AX.cond rfl (fun b8 => ?_) (fun b8 => ?_))))))))
   ·have e7 := bif_t b8 b7
    refine AX.skip (AX.seq (AX.block (DR.startS [false, false, false, false, false, false, false, false, false, false, false, false, false, false, false, false, false, false, false, false, false, false, false, true, false] mix (by kernel_rfl) (fun hst => ?_))))
    refine DR.p rfl rfl (p_move rfl) (DR.p rfl rfl (p_move rfl) (DR.p rfl rfl (p_move rfl) ?_))
    obtain ⟨c9, e8⟩ := chk_some e7
    obtain ⟨e9, l6, b9, d0⟩ := tget t_a1 (lt_len rfl (inR_lt c9))
    refine DR.p rfl rfl (s_indexV (q := off p_a1 + a3.toNat) underlying24 sizeOf27 rfl ((a6.ptview (k := 0) rfl a7 (tlen t_a1)).p d0) rfl c9 (o1 _ _)) (DR.r rfl rfl (r_load rfl isAgg27) (one_read ((a6.ptview (k := 0) rfl a7 (tlen t_a1)).get _ _ d0) (TVw.at (a6.prview (k := 0) rfl (a7).rs) b9).inn.bel) ?_)
    obtain ⟨c0, f0⟩ := chk_some e8
    refine DR.p rfl rfl (s_indexV (q := off e9 + 0) underlying27 sizeOf2 rfl ((TVw.at (a6.prview (k := 0) rfl (a7).rs) b9).p (ints_get (lt_len rfl (inR_lt c0)))) rfl c0 (o1 _ _)) (DR.r rfl rfl (r_load rfl isAgg2) (one_read ((TVw.at (a6.prview (k := 0) rfl (a7).rs) b9).get _ _ (ints_get (lt_len rfl (inR_lt c0)))) (.of_flat0 rfl)) (DR.p rfl rfl (p_move rfl) ?_))
    obtain ⟨f1, f2⟩ := chk_some f0
    refine DR.p rfl rfl (p_mulE rfl rfl f1) (DR.p rfl rfl (p_move rfl) ?_)
    obtain ⟨f3, f4⟩ := chk_some f2
    refine DR.p rfl rfl (p_remE rfl rfl f3) (DR.p rfl rfl (p_move rfl) (DR.p rfl rfl (p_move rfl) ?_))
    obtain ⟨d1, f5⟩ := chk_some f4
    obtain ⟨f6, l7, c1, d2⟩ := tget t_a1 (lt_len rfl (inR_lt d1))
    refine DR.p rfl rfl (s_indexV (q := off p_a1 + a3.toNat) underlying24 sizeOf27 rfl ((a6.ptview (k := 0) rfl a7 (tlen t_a1)).p d2) rfl d1 (o1 _ _)) (DR.r rfl rfl (r_load rfl isAgg27) (one_read ((a6.ptview (k := 0) rfl a7 (tlen t_a1)).get _ _ d2) (TVw.at (a6.prview (k := 0) rfl (a7).rs) c1).inn.bel) ?_)
    obtain ⟨c2, f7⟩ := chk_some f5
    refine DR.p rfl rfl (s_indexV (q := off f6 + 1) underlying27 sizeOf2 rfl ((TVw.at (a6.prview (k := 0) rfl (a7).rs) c1).p (ints_get (lt_len rfl (inR_lt c2)))) rfl c2 (o1 _ _)) (DR.r rfl rfl (r_load rfl isAgg2) (one_read ((TVw.at (a6.prview (k := 0) rfl (a7).rs) c1).get _ _ (ints_get (lt_len rfl (inR_lt c2)))) (.of_flat0 rfl)) (DR.p rfl rfl (p_move rfl) ?_))
    obtain ⟨f8, f9⟩ := chk_some f7
    refine DR.p rfl rfl (p_mulE rfl rfl f8) (DR.p rfl rfl (p_move rfl) ?_)
    obtain ⟨g0, g1⟩ := chk_some f9
    refine DR.p rfl rfl (p_remE rfl rfl g0) ?_
    obtain ⟨l8, b1, g2, g3, g4⟩ := a6.new (AObj.row false (ints [((rd (rw_ a1 a3.toNat) 0) * a2).tmod a0, ((rd (rw_ a1 a3.toNat) 1) * a2).tmod a0]))
    refine DR.a rfl rfl g2 g3 (a_buildInts (vs := [(0, .int .i64 (((rd (rw_ a1 a3.toNat) 0) * a2).tmod a0)), (1, .int .i64 (((rd (rw_ a1 a3.toNat) 1) * a2).tmod a0))]) (xs := [((rd (rw_ a1 a3.toNat) 0) * a2).tmod a0, ((rd (rw_ a1 a3.toNat) 1) * a2).tmod a0]) underlying27 sizeOf2 zeroValue2 rfl rfl (by decide) rfl rfl) ?_
    obtain ⟨l9, m0, g5, g6, g7⟩ := g4.new (AObj.row false (tcells ([((some (Addr.mk b1 0 none)), 2, [((rd (rw_ a1 a3.toNat) 0) * a2).tmod a0, ((rd (rw_ a1 a3.toNat) 1) * a2).tmod a0])])))
    have c3 := (g7.front 1 rfl).tone (some (Addr.mk b1 0 none)) 2 [((rd (rw_ a1 a3.toNat) 0) * a2).tmod a0, ((rd (rw_ a1 a3.toNat) 1) * a2).tmod a0] rfl
    refine DR.a rfl rfl g5 g6 (a_buildT1 (X := [((some (Addr.mk b1 0 none)), 2, [((rd (rw_ a1 a3.toNat) 0) * a2).tmod a0, ((rd (rw_ a1 a3.toNat) 1) * a2).tmod a0])]) (n := 2) rfl underlying24 sizeOf27 zeroValue27 rfl rfl) ?_
    obtain ⟨g8, g9⟩ := chk_some g1
    obtain ⟨d3, d4, m1, d5, h0, h1⟩ := c3.app (k := 3) rfl b6 (tcells ([((some (Addr.mk b1 0 none)), 2, [((rd (rw_ a1 a3.toNat) 0) * a2).tmod a0, ((rd (rw_ a1 a3.toNat) 1) * a2).tmod a0])])) 1 (tc_len1 rfl rfl)
    have h2 := h0.cellsEq (k := 3) (us' := tcells (a9 ++ [((some (Addr.mk b1 0 none)), 2, [((rd (rw_ a1 a3.toNat) 0) * a2).tmod a0, ((rd (rw_ a1 a3.toNat) 1) * a2).tmod a0])])) (tcells_app _ _).symm rfl
    have h3 : Sb d3 ((a4 ++ [[((rd (rw_ a1 a3.toNat) 0) * a2).tmod a0, ((rd (rw_ a1 a3.toNat) 1) * a2).tmod a0]]).length) d4 1 := (show a4.length + 1 = (a4 ++ [[((rd (rw_ a1 a3.toNat) 0) * a2).tmod a0, ((rd (rw_ a1 a3.toNat) 1) * a2).tmod a0]]).length from len_app (a := a4) (b := [[((rd (rw_ a1 a3.toNat) 0) * a2).tmod a0, ((rd (rw_ a1 a3.toNat) 1) * a2).tmod a0]]) rfl rfl) ▸ h1
    have h4 := h2.front 0 rfl
    have h5 := (h4.front 4 rfl).tmerge
    have h6 := h5.drop 1 rfl
    refine DR.w rfl rfl (s_app (by_ := 24) (us := tcells a9) (vs := tcells ([((some (Addr.mk b1 0 none)), 2, [((rd (rw_ a1 a3.toNat) 0) * a2).tmod a0, ((rd (rw_ a1 a3.toNat) 1) * a2).tmod a0])])) underlying24 underlying24 typeInfo27 sizeOf27 zeroValue27 rfl rfl rfl rfl rfl rfl rfl (c3.buf (k := 3) rfl b6 (tc_len1 b5 rfl)) (c3.oview (k := 1) rfl (Sb.lit (n := 1) (by decide)) (tc_len1 rfl rfl)) (tc_len1 rfl rfl) tcells_one g8 d5 (show a4.length + 1 = (a4 ++ [[((rd (rw_ a1 a3.toNat) 0) * a2).tmod a0, ((rd (rw_ a1 a3.toNat) 1) * a2).tmod a0]]).length from len_app (a := a4) (b := [[((rd (rw_ a1 a3.toNat) 0) * a2).tmod a0, ((rd (rw_ a1 a3.toNat) 1) * a2).tmod a0]]) rfl rfl)) (appR_len d5) (DR.p rfl rfl (p_assign rfl) (DR.nil 25 [] hst (by kernel_rfl) trivial (AX.region (AO.m rfl rfl ?_))))
    obtain ⟨h7, h8⟩ := chk_some g9
    refine AO.p rfl (p_addE rfl rfl h7) (AO.a rfl rfl (AO.nil ?_))
    obtain rfl := some_inj h8
    have h9 := h6.front 0 rfl
    have i0 := h9.front 2 rfl
    have i1 := i0.front 2 rfl
    exact ⟨((a4 ++ [[((rd (rw_ a1 a3.toNat) 0) * a2).tmod a0, ((rd (rw_ a1 a3.toNat) 1) * a2).tmod a0]]), a3 + 1), c8, (a4 ++ [[((rd (rw_ a1 a3.toNat) 0) * a2).tmod a0, ((rd (rw_ a1 a3.toNat) 1) * a2).tmod a0]]), (a3 + 1), d3, d4, (a9 ++ [((some (Addr.mk b1 0 none)), 2, [((rd (rw_ a1 a3.toNat) 0) * a2).tmod a0, ((rd (rw_ a1 a3.toNat) 1) * a2).tmod a0])]), rfl, i1, c6, a7, (trows_apps b5 rfl), (TSb.app c7 (TSb.one (sb_len rfl (Sb.lit (n := 2) (by decide))))), h3, Sub.k4 rfl rfl rfl rfl (Sub.k1 rfl (Sub.nil _))⟩
   ·have i2 := bif_f b8 b7
    refine AX.exit ?_
    obtain rfl := some_inj i2
    have i3 := a6.front 2 rfl
    have i4 := i3.front 2 rfl
    have i5 := i4.front 2 rfl
    exact ⟨a4, b3, b4, a9, c8, i5, c6, b5, c7, b6, Sub.k1 rfl (Sub.nil _)⟩
 ·rintro t' d6 ⟨b0, a8, b2, a5, rfl, i6, i7, i8, i9, j0, j1⟩
  refine ⟨_, j1, ?_⟩
  refine AX.sr (AO.m rfl rfl ?_)
  have j2 := i6.front 0 rfl
  have j3 := j2.front 2 rfl
  have j4 := j3.front 2 rfl
  have c4 : St M0 H d6 [oseg a8 (tcells a5), tseg a5, F] := j4
  obtain ⟨j5, j6, j7⟩ := bnd_some e2
  obtain ⟨_, m2, j8, j9, k0, k2, k3, rfl, k5, k6, k7, k8⟩ := W_spec_l03Sorted fu d6 F a8 b0.length b2 a5 b0 rfl j0 i8 i9 (St.fnodup (A := [oseg a8 (tcells a5), tseg a5, F]) c4) (St.fmem (A := [oseg a8 (tcells a5), tseg a5, F]) c4) j5 j6
  have k9 := St.callM (A := [oseg a8 (tcells a5), tseg a5, F]) c4 k5 (fun j h => h)
  refine AO.c rfl (o_call (vs := [.slice a8 b0.length b2]) rfl Tryz.call81 j8) (AO.a rfl rfl (AO.nil (AX.ret ?_)))
  obtain rfl := some_inj j7
  have l0 := k9.front 2 rfl
  have l1 := l0.keep 1
  exact ⟨.inr rfl, _, res1 rfl (rv_tmp rfl), j9, k0, k2, k3, rfl, l1, k6, k7, (i7.mono k8)⟩
set_option maxHeartbeats 4000000 in
theorem W_spec_l03DrawOf (fu : Nat) (H : AHeap) (F : Sg) (a1 : Int) (i_n0 : Nat) (p_n0_0 : Option Addr) (c_n0_0 : Nat) (n0_0 : List Int) (q_n0_0 : PV F p_n0_0 c_n0_0 n0_0) (n0_1 : Int) (n0_2 : Int) (hn : (([[(i_n0, AObj.row false ([.slice p_n0_0 n0_0.length c_n0_0, .int .i64 n0_1, .int .u64 n0_2]))], F] : List Sg).flatten.map (·.1)).Nodup) (ho : ∀ x ∈ ([[(i_n0, AObj.row false ([.slice p_n0_0 n0_0.length c_n0_0, .int .i64 n0_1, .int .u64 n0_2]))], F] : List Sg).flatten, x.1 < H.length ∧ hget H x.1 = x.2) (r0 : List (List Int)) (m_n0_1 : Int) (m_n0_2 : Int) (hd : D_spec_l03DrawOf fu a1 n0_0 n0_1 n0_2 = some (r0, m_n0_1, m_n0_2)) : ∃ v G', ACall Tryz.prog 60 [.pointer (some ⟨i_n0, 0, none⟩), .int .i64 a1] H v G' ∧ ∃ (p_r0 : Option Addr) (c_r0 : Nat) (T_r0 : Tb) (F' : Sg), (v = .slice p_r0 r0.length c_r0) ∧ St (([[(i_n0, AObj.row false ([.slice p_n0_0 n0_0.length c_n0_0, .int .i64 n0_1, .int .u64 n0_2]))], F] : List Sg).flatten.map (·.1)) H G' [oseg p_r0 (tcells T_r0), tseg T_r0, [(i_n0, AObj.row false ([.slice p_n0_0 n0_0.length c_n0_0, .int .i64 m_n0_1, .int .u64 m_n0_2]))], F'] ∧ Sb p_r0 r0.length c_r0 1 ∧ trows T_r0 = r0 ∧ TSb T_r0 ∧ Pin F' F := by
 refine ACall.bodyX (args := [.pointer (some ⟨i_n0, 0, none⟩), .int .i64 a1]) (N := 49) [(0, .pointer (some ⟨i_n0, 0, none⟩)), (1, .int .i64 a1)] (fun v G' => ∃ (p_r0 : Option Addr) (c_r0 : Nat) (T_r0 : Tb) (F' : Sg), (v = .slice p_r0 r0.length c_r0) ∧ St (([[(i_n0, AObj.row false ([.slice p_n0_0 n0_0.length c_n0_0, .int .i64 n0_1, .int .u64 n0_2]))], F] : List Sg).flatten.map (·.1)) H G' [oseg p_r0 (tcells T_r0), tseg T_r0, [(i_n0, AObj.row false ([.slice p_n0_0 n0_0.length c_n0_0, .int .i64 m_n0_1, .int .u64 m_n0_2]))], F'] ∧ Sb p_r0 r0.length c_r0 1 ∧ trows T_r0 = r0 ∧ TSb T_r0 ∧ Pin F' F) Tryz.func60 rfl rfl rfl rfl ?_
 unfold D_spec_l03DrawOf at hd
 have S0 := St.initF hn ho
 generalize hM0 : (([[(i_n0, AObj.row false ([.slice p_n0_0 n0_0.length c_n0_0, .int .i64 n0_1, .int .u64 n0_2]))], F] : List Sg).flatten.map (·.1)) = M0 at S0 ⊢
 refine AX.sr (AO.a rfl rfl (AO.nil (AX.sr (AO.m rfl rfl ?_))))
 obtain ⟨e0, c1, k8, k9, l0⟩ := S0.new (AObj.row false (tcells []))
 have S102t := l0.nilseg 1
 refine AO.c rfl (s_build0 (i := c1) underlying24 sizeOf27 k8 k9) ?_
 have l1 := S102t.front 3 rfl
 have l2 := l1.front 2 rfl
 have l3 : St M0 H e0 [tseg [], F, [(c1, AObj.row false (tcells []))], [(i_n0, AObj.row false ([.slice p_n0_0 n0_0.length c_n0_0, .int .i64 n0_1, .int .u64 n0_2]))]] := l2
 obtain ⟨l4, b0, l5, l6⟩ := l3.poolRows PR.nil TSb.nil
 have l7 := l6.front 0 rfl
 have l8 := l7.front 1 rfl
 have l9 : St M0 H e0 [[(c1, AObj.row false (tcells []))], l4, [(i_n0, AObj.row false ([.slice p_n0_0 n0_0.length c_n0_0, .int .i64 n0_1, .int .u64 n0_2]))]] := l8
 obtain ⟨c2, b1, m0, m1⟩ := l9.poolHdr l5 (Sb.lit (n := 0) (by decide)) (tlen rfl)
 have m2 := m1.front 0 rfl
 have f0 : St M0 H e0 [c2, [(i_n0, AObj.row false ([.slice p_n0_0 n0_0.length c_n0_0, .int .i64 n0_1, .int .u64 n0_2]))]] := m2
 obtain ⟨f1, m3, m4⟩ := bnd_some hd
 obtain ⟨_, h0, m5, h1, h2, h3, c3, rfl, m6, h4, h5, b2⟩ := W_spec_l03Search fu e0 c2 a1 (some (Addr.mk c1 0 none)) 0 [] [] rfl m0 false 12 (St.fnodup (A := [c2]) f0) (St.fmem (A := [c2]) f0) f1 m3
 have m7 := St.callM (A := [c2]) f0 m6 (fun j h => h)
 refine AO.c rfl (o_call (vs := [.int .i64 a1, .slice (some (Addr.mk c1 0 none)) 0 0, .bool false, .int .i64 12]) rfl Tryz.call51 m5) (AO.a rfl rfl (AO.nil (AX.seq (AX.sr (AO.m rfl rfl ?_)))))
 have m8 := m7.front 0 rfl
 have m9 := m8.front 1 rfl
 have f2 : St M0 H h0 [[(i_n0, AObj.row false ([.slice p_n0_0 n0_0.length c_n0_0, .int .i64 n0_1, .int .u64 n0_2]))], c3] := m9
 obtain ⟨⟨n0, a2, a3⟩, n1, n2⟩ := bnd_some m4
 obtain ⟨_, C7, n3, h6, rfl, n4, a6⟩ := W_spec_l01Next fu h0 c3 3 i_n0 p_n0_0 c_n0_0 n0_0 (((q_n0_0.mono b0).mono b1).mono b2) n0_1 n0_2 (St.fnodup (A := [[(i_n0, AObj.row false ([.slice p_n0_0 n0_0.length c_n0_0, .int .i64 n0_1, .int .u64 n0_2]))], c3]) f2) (St.fmem (A := [[(i_n0, AObj.row false ([.slice p_n0_0 n0_0.length c_n0_0, .int .i64 n0_1, .int .u64 n0_2]))], c3]) f2) n0 a2 a3 n1
 have h7 := St.callM (A := [[(i_n0, AObj.row false ([.slice p_n0_0 n0_0.length c_n0_0, .int .i64 n0_1, .int .u64 n0_2]))], c3]) f2 n4 (fun j h => h)
 refine AO.c rfl (o_call (vs := [.pointer (some ⟨i_n0, 0, none⟩), .int .i64 3]) rfl Tryz.call53 n3) (AO.p rfl (p_eql rfl rfl) (AO.nil ?_))
 obtain ⟨n5, h8, n6⟩ := bnd_some n2
 refine AX.cutS (fun t' H' => ∃ (b3 : List (List (List Int))) (a5 : Sg) (e1 : Option Addr) (f3 : Nat) (f4 : Tb3), b3 = n5 ∧ St M0 H H' [a5, [(i_n0, AObj.row false ([.slice p_n0_0 n0_0.length c_n0_0, .int .i64 a2, .int .u64 a3]))]] ∧ Pin a5 F ∧ PV a5 p_n0_0 c_n0_0 n0_0 ∧ trows3 f4 = b3 ∧ PT3 a5 e1 f3 f4 ∧ Am.Sub [(0, .pointer (some ⟨i_n0, 0, none⟩)), (1, .int .i64 a1), (5, .slice e1 b3.length f3)] t') ?_ ?_
 ·skip
  refine AX.cond rfl (fun f5 => ?_) (fun f5 => ?_)
  ·have n7 := bif_t f5 h8
   refine AX.sr (AO.m rfl rfl ?_)
   obtain ⟨e2, c4, n8, n9, o0⟩ := h7.new (AObj.row false (tcells []))
   have S233t := o0.nilseg 1
   refine AO.c rfl (s_build0 (i := c4) underlying24 sizeOf27 n8 n9) ?_
   have o2 := S233t.front 3 rfl
   have o3 := o2.front 2 rfl
   have o4 : St M0 H e2 [tseg [], h6, [(c4, AObj.row false (tcells []))], [(i_n0, AObj.row false ([.slice p_n0_0 n0_0.length c_n0_0, .int .i64 a2, .int .u64 a3]))]] := o3
   obtain ⟨o5, c5, o6, o7⟩ := o4.poolRows PR.nil TSb.nil
   have o8 := o7.front 0 rfl
   have o9 := o8.front 1 rfl
   have p0 : St M0 H e2 [[(c4, AObj.row false (tcells []))], o5, [(i_n0, AObj.row false ([.slice p_n0_0 n0_0.length c_n0_0, .int .i64 a2, .int .u64 a3]))]] := o9
   obtain ⟨c6, c7, p1, p2⟩ := p0.poolHdr o6 (Sb.lit (n := 0) (by decide)) (tlen rfl)
   have p3 := p2.front 0 rfl
   have f6 : St M0 H e2 [c6, [(i_n0, AObj.row false ([.slice p_n0_0 n0_0.length c_n0_0, .int .i64 a2, .int .u64 a3]))]] := p3
   obtain ⟨h9, p4, p5⟩ := bnd_some n7
   obtain ⟨_, C8, p6, p7, p8, p9, c8, rfl, q0, q1, q2, c9⟩ := W_spec_l03Search fu e2 c6 a1 (some (Addr.mk c4 0 none)) 0 [] [] rfl p1 true 6 (St.fnodup (A := [c6]) f6) (St.fmem (A := [c6]) f6) h9 p4
   have i0 := St.callM (A := [c6]) f6 q0 (fun j h => h)
   refine AO.c rfl (o_call (vs := [.int .i64 a1, .slice (some (Addr.mk c4 0 none)) 0 0, .bool true, .int .i64 6]) rfl Tryz.call51 p6) (AO.a rfl rfl (AO.nil (AX.sr (AO.m rfl rfl (AO.p rfl (p_len_slice rfl underlying66) (AO.p rfl (p_gtr rfl rfl) (AO.nil ?_)))))))
   obtain ⟨q3, i1, q4⟩ := bnd_some p5
   refine AX.cutS (fun t' H' => ∃ (d0 : List (List (List Int))) (e3 : Option Addr) (e4 : Nat) (e5 : Tb3), d0 = q3 ∧ St M0 H H' [c8, [(i_n0, AObj.row false ([.slice p_n0_0 n0_0.length c_n0_0, .int .i64 a2, .int .u64 a3]))]] ∧ Pin c8 F ∧ PV c8 p_n0_0 c_n0_0 n0_0 ∧ trows3 e5 = d0 ∧ PT3 c8 e3 e4 e5 ∧ Am.Sub [(0, .pointer (some ⟨i_n0, 0, none⟩)), (1, .int .i64 a1), (5, .slice e3 d0.length e4)] t') ?_ ?_
   ·skip
    refine AX.cond rfl (fun f7 => ?_) (fun f7 => ?_)
    ·have q5 := bif_t f7 i1
     refine AX.region (AO.m rfl rfl (AO.a rfl rfl (AO.nil ?_)))
     have q6 := i0.front 1 rfl
     have q7 := q6.front 1 rfl
     exact ⟨h9, p7, p8, p9, (some_inj q5), q7, ((((((((Pin.refl F).mono b0).mono b1).mono b2).mono a6).mono c5).mono c7).mono c9), (((((((q_n0_0.mono b0).mono b1).mono b2).mono a6).mono c5).mono c7).mono c9), q1, q2, Sub.k2 rfl rfl (Sub.k1 rfl (Sub.nil _))⟩
    ·have q8 := bif_f f7 i1
     refine AX.skip ?_
     have q9 := i0.front 1 rfl
     have r1 := q9.front 1 rfl
     exact ⟨f1, h1, h2, h3, (some_inj q8), r1, ((((((((Pin.refl F).mono b0).mono b1).mono b2).mono a6).mono c5).mono c7).mono c9), (((((((q_n0_0.mono b0).mono b1).mono b2).mono a6).mono c5).mono c7).mono c9), h4, ((((h5.mono a6).mono c5).mono c7).mono c9), Sub.k2 rfl rfl (Sub.k1 rfl (Sub.nil _))⟩
   ·rintro t' C9 ⟨d0, e3, e4, e5, rfl, r2, r3, r4, r5, r6, r7⟩
    refine ⟨_, r7, ?_⟩
    have r8 := r2.front 1 rfl
    have r9 := r8.front 1 rfl
    exact ⟨d0, c8, e3, e4, e5, (some_inj q4), r9, r3, r4, r5, r6, Sub.k2 rfl rfl (Sub.k1 rfl (Sub.nil _))⟩
  ·have s0 := bif_f f5 h8
   refine AX.skip ?_
   have s1 := h7.front 0 rfl
   have s2 := s1.front 1 rfl
   exact ⟨f1, h6, h1, h2, h3, (some_inj s0), s2, (((((Pin.refl F).mono b0).mono b1).mono b2).mono a6), ((((q_n0_0.mono b0).mono b1).mono b2).mono a6), h4, (h5.mono a6), Sub.k2 rfl rfl (Sub.k1 rfl (Sub.nil _))⟩
 ·rintro t' i2 ⟨b3, a5, e1, f3, f4, rfl, s3, i3, d1, d2, a7, s4⟩
  refine ⟨_, s4, ?_⟩
  refine AX.seq (DR.startS [false, false, false, false, true, false, false, false, false, false, true, false, false, false] mix (by kernel_rfl) (fun hst => ?_))
  refine DR.p rfl rfl (p_move rfl) (DR.p rfl rfl (p_move rfl) (DR.p rfl rfl (p_move rfl) (DR.p rfl rfl (p_len_slice rfl underlying66) ?_)))
  have s5 := s3.front 0 rfl
  have s6 := s5.front 1 rfl
  have f8 : St M0 H i2 [[(i_n0, AObj.row false ([.slice p_n0_0 n0_0.length c_n0_0, .int .i64 a2, .int .u64 a3]))], a5] := s6
  obtain ⟨⟨f9, b6, b7⟩, s7, s8⟩ := bnd_some n6
  obtain ⟨_, i4, s9, d3, rfl, i5, a0⟩ := W_spec_l01Next fu i2 a5 ((b3.length : Nat) : Int) i_n0 p_n0_0 c_n0_0 n0_0 d1 a2 a3 (St.fnodup (A := [[(i_n0, AObj.row false ([.slice p_n0_0 n0_0.length c_n0_0, .int .i64 a2, .int .u64 a3]))], a5]) f8) (St.fmem (A := [[(i_n0, AObj.row false ([.slice p_n0_0 n0_0.length c_n0_0, .int .i64 a2, .int .u64 a3]))], a5]) f8) f9 b6 b7 s7
  have d4 := St.callM (A := [[(i_n0, AObj.row false ([.slice p_n0_0 n0_0.length c_n0_0, .int .i64 a2, .int .u64 a3]))], a5]) f8 i5 (fun j h => h)
  refine DR.w rfl rfl (o_call (vs := [.pointer (some ⟨i_n0, 0, none⟩), .int .i64 ((b3.length : Nat) : Int)]) rfl Tryz.call53 s9) (i5.len) ?_
  obtain ⟨e6, t0⟩ := chk_some s8
  obtain ⟨t1, t2, t3, i6, i7, i8⟩ := tget3 d2 (lt_len rfl (inR_lt e6))
  refine DR.p rfl rfl (s_indexV (q := off e1 + f9.toNat) underlying66 sizeOf24 rfl ((d4.pt3view (k := 1) rfl (a7.mono a0) (tlen3 d2)).p i7) rfl e6 (o1 _ _)) (DR.r rfl rfl (r_load rfl isAgg24) (one_read ((d4.pt3view (k := 1) rfl (a7.mono a0) (tlen3 d2)).get _ _ i7) (d4.ptview (k := 1) rfl (PA.at ((a7.mono a0)).rs i6) (tlen i8)).inn.bel) (DR.p rfl rfl (p_move rfl) (DR.p rfl rfl (p_move rfl) ?_)))
  obtain ⟨t4, t5⟩ := chk_some t0
  refine DR.p rfl rfl (p_subE rfl rfl t4) ?_
  have t6 := d4.front 1 rfl
  have t7 := t6.front 1 rfl
  have g0 : St M0 H i4 [[(i_n0, AObj.row false ([.slice p_n0_0 n0_0.length c_n0_0, .int .i64 b6, .int .u64 b7]))], d3] := t7
  obtain ⟨⟨b8, b9, c0⟩, t8, t9⟩ := bnd_some t5
  obtain ⟨_, i9, u0, d5, rfl, j0, a8⟩ := W_spec_l01Next fu i4 d3 (a1 - 1) i_n0 p_n0_0 c_n0_0 n0_0 (d1.mono a0) b6 b7 (St.fnodup (A := [[(i_n0, AObj.row false ([.slice p_n0_0 n0_0.length c_n0_0, .int .i64 b6, .int .u64 b7]))], d3]) g0) (St.fmem (A := [[(i_n0, AObj.row false ([.slice p_n0_0 n0_0.length c_n0_0, .int .i64 b6, .int .u64 b7]))], d3]) g0) b8 b9 c0 t8
  have j1 := St.callM (A := [[(i_n0, AObj.row false ([.slice p_n0_0 n0_0.length c_n0_0, .int .i64 b6, .int .u64 b7]))], d3]) g0 j0 (fun j h => h)
  refine DR.w rfl rfl (o_call (vs := [.pointer (some ⟨i_n0, 0, none⟩), .int .i64 (a1 - 1)]) rfl Tryz.call53 u0) (j0.len) ?_
  obtain ⟨u1, u2⟩ := chk_some t9
  refine DR.p rfl rfl (p_addE rfl rfl u1) (DR.p rfl rfl (p_assign rfl) (DR.p rfl rfl (p_assign rfl) (DR.nil 14 [(6, 10)] hst (by kernel_rfl) ⟨(rd1 (fun _ => (j1.pat (k := 1) rfl (((a7.mono a0).mono a8)).hd (((((a7.mono a0).mono a8)).hsb.len (tlen3 d2)).at (inR_pos e6))).trans (d4.pat (k := 1) rfl ((a7.mono a0)).hd ((((a7.mono a0)).hsb.len (tlen3 d2)).at (inR_pos e6))).symm)), trivial⟩ (AX.seq (AX.sr (AO.m rfl rfl ?_))))))
  have u3 := j1.front 1 rfl
  have u4 := u3.front 1 rfl
  have g1 : St M0 H i9 [[(i_n0, AObj.row false ([.slice p_n0_0 n0_0.length c_n0_0, .int .i64 b9, .int .u64 c0]))], d5] := u4
  obtain ⟨⟨u5, d6, d7⟩, u6, u7⟩ := bnd_some u2
  obtain ⟨_, u8, u9, j2, rfl, v0, d8⟩ := W_spec_l01Next fu i9 d5 4 i_n0 p_n0_0 c_n0_0 n0_0 ((d1.mono a0).mono a8) b9 c0 (St.fnodup (A := [[(i_n0, AObj.row false ([.slice p_n0_0 n0_0.length c_n0_0, .int .i64 b9, .int .u64 c0]))], d5]) g1) (St.fmem (A := [[(i_n0, AObj.row false ([.slice p_n0_0 n0_0.length c_n0_0, .int .i64 b9, .int .u64 c0]))], d5]) g1) u5 d6 d7 u6
  have j3 := St.callM (A := [[(i_n0, AObj.row false ([.slice p_n0_0 n0_0.length c_n0_0, .int .i64 b9, .int .u64 c0]))], d5]) g1 v0 (fun j h => h)
  refine AO.c rfl (o_call (vs := [.pointer (some ⟨i_n0, 0, none⟩), .int .i64 4]) rfl Tryz.call53 u9) (AO.p rfl (p_eql rfl rfl) (AO.nil ?_))
  obtain ⟨v1, j4, v2⟩ := bnd_some u7
  refine AX.cutS (fun t' H' => ∃ (a9 : List (List Int)) (a4 : Sg) (b4 : Option Addr) (b5 : Nat) (d9 : Tb), a9 = v1 ∧ St M0 H H' [a4, [(i_n0, AObj.row false ([.slice p_n0_0 n0_0.length c_n0_0, .int .i64 d6, .int .u64 d7]))]] ∧ Pin a4 F ∧ PV a4 p_n0_0 c_n0_0 n0_0 ∧ trows d9 = a9 ∧ PT a4 b4 b5 d9 ∧ Am.Sub [(1, .int .i64 a1), (7, .slice b4 a9.length b5), (8, .int .i64 (1 + b8))] t') ?_ ?_
  ·skip
   refine AX.cond rfl (fun g2 => ?_) (fun g2 => ?_)
   ·have v3 := bif_t g2 j4
    refine AX.region (AO.m rfl rfl ?_)
    obtain ⟨j5, v4, v5⟩ := bnd_some v3
    obtain ⟨_, j6, v6, g3, v7, e7, rfl, v8, v9, j7, w0⟩ := W_spec_l03Patterned fu u8 a1 j5 v4
    have w1 := j3.call v8
    refine AO.c rfl (o_call (vs := [.int .i64 a1]) rfl Tryz.call61 v6) ?_
    have w2 := w1.front 3 rfl
    have w3 := w2.front 2 rfl
    have w4 : St M0 H j6 [tseg e7, j2, oseg g3 (tcells e7), [(i_n0, AObj.row false ([.slice p_n0_0 n0_0.length c_n0_0, .int .i64 d6, .int .u64 d7]))]] := w3
    obtain ⟨w5, j8, w6, w7⟩ := w4.poolRows PR.nil w0
    have w8 := w7.front 0 rfl
    have w9 := w8.front 1 rfl
    have x0 : St M0 H j6 [oseg g3 (tcells e7), w5, [(i_n0, AObj.row false ([.slice p_n0_0 n0_0.length c_n0_0, .int .i64 d6, .int .u64 d7]))]] := w9
    obtain ⟨x1, j9, x2, x3⟩ := x0.poolHdr w6 v9 (tlen j7)
    refine AO.a rfl rfl (AO.nil ?_)
    have x4 := x3.front 1 rfl
    have x5 := x4.front 1 rfl
    exact ⟨j5, x1, g3, v7, e7, (some_inj v5), x5, (((((i3.mono a0).mono a8).mono d8).mono j8).mono j9), (((((d1.mono a0).mono a8).mono d8).mono j8).mono j9), j7, x2, Sub.k2 rfl rfl (Sub.k1 rfl (Sub.nil _))⟩
   ·have x6 := bif_f g2 j4
    refine AX.skip ?_
    have x7 := j3.front 0 rfl
    have x8 := x7.front 1 rfl
    exact ⟨(rw3 b3 f9.toNat), j2, t1, t2, t3, (some_inj x6), x8, (((i3.mono a0).mono a8).mono d8), (((d1.mono a0).mono a8).mono d8), i8, (((PA.at ((a7.mono a0)).rs i6).mono a8).mono d8), Sub.k2 rfl rfl (Sub.k1 rfl (Sub.nil _))⟩
  ·rintro t' e8 ⟨a9, a4, b4, b5, d9, rfl, e9, k0, D0, g4, g5, x9⟩
   refine ⟨_, x9, ?_⟩
   refine AX.seq (AX.sr (AO.m rfl rfl (AO.m rfl rfl ?_)))
   obtain ⟨y0, y1, k3⟩ := bnd_some v2
   refine AO.c rfl (o_call (vs := [.int .i64 (1 + b8), .int .i64 a1]) rfl Tryz.call82 (W_spec_l03Gcd fu e8 (1 + b8) a1 y0 y1)) (AO.p rfl (p_eql rfl rfl) (AO.nil (AX.cond rfl (fun g6 => ?_) (fun g6 => ?_))))
   ·have y2 := bif_t g6 k3
    refine AX.region (AO.m rfl rfl (AO.m rfl rfl (AO.m rfl rfl ?_)))
    have y3 := e9.front 0 rfl
    have g7 : St M0 H e8 [a4, [(i_n0, AObj.row false ([.slice p_n0_0 n0_0.length c_n0_0, .int .i64 d6, .int .u64 d7]))]] := y3
    obtain ⟨g8, y4, y5⟩ := bnd_some y2
    obtain ⟨_, y6, y7, k4, k5, y8, y9, rfl, z0, k6, k7, z1⟩ := W_spec_l03Multiple fu e8 a4 a1 b4 b5 d9 a9 g4 g5 (1 + b8) (St.fnodup (A := [a4]) g7) (St.fmem (A := [a4]) g7) g8 y4
    have g9 := St.callM (A := [a4]) g7 z0 (fun j h => h)
    refine AO.c rfl (o_call (vs := [.int .i64 a1, .slice b4 a9.length b5, .int .i64 (1 + b8)]) rfl Tryz.call59 y7) (AO.a rfl rfl (AO.nil (AX.sr (AO.m rfl rfl ?_))))
    obtain ⟨z2, z3, z4⟩ := bnd_some y5
    obtain ⟨_, D1, z5, z6, z7, z8, rfl, z9, A0, A1, A2⟩ := W_spec_l03Own fu y6 k4 k5 y8 g8 k6 (g9.ptwview (k := 0) rfl k7 (tlen k6)) (g9.prwview (k := 0) rfl (k7).rs) z2 z3
    have A3 := g9.call z9
    refine AO.c rfl (o_call (vs := [.slice k4 g8.length k5]) rfl Tryz.call58 z5) (AO.a rfl rfl (AO.nil (AX.ret ?_)))
    obtain ⟨rfl, A4⟩ := Prod.mk.inj (some_inj z4)
    obtain ⟨rfl, rfl⟩ := Prod.mk.inj A4
    have A5 := A3.front 2 rfl
    have A6 := A5.front 3 rfl
    have A7 := A6.front 3 rfl
    have A8 := A7.front 3 rfl
    exact ⟨.inr rfl, _, res1 rfl (rv_tmp rfl), z6, z7, z8, y9, rfl, A8, A0, A1, A2, (k0.mono z1)⟩
   ·have A9 := bif_f g6 k3
    refine AX.skip (AX.sr (AO.m rfl rfl ?_))
    obtain ⟨B0, B1, B2⟩ := bnd_some A9
    obtain ⟨_, D2, B3, B4, B5, B6, rfl, B7, B8, B9, C0⟩ := W_spec_l03Own fu e8 b4 b5 d9 a9 g4 (e9.ptview (k := 0) rfl g5 (tlen g4)) (e9.prview (k := 0) rfl (g5).rs) B0 B1
    have C1 := e9.call B7
    refine AO.c rfl (o_call (vs := [.slice b4 a9.length b5]) rfl Tryz.call58 B3) (AO.a rfl rfl (AO.nil (AX.ret ?_)))
    obtain ⟨rfl, C2⟩ := Prod.mk.inj (some_inj B2)
    obtain ⟨rfl, rfl⟩ := Prod.mk.inj C2
    have C3 := C1.front 2 rfl
    have C4 := C3.front 3 rfl
    have C5 := C4.front 3 rfl
    have C6 := C5.front 3 rfl
    exact ⟨.inr rfl, _, res1 rfl (rv_tmp rfl), B4, B5, B6, a4, rfl, C6, B8, B9, C0, k0⟩
set_option maxHeartbeats 4000000 in
theorem W_spec_l03With (fu : Nat) (H : AHeap) (F : Sg) (i_n0 : Nat) (p_n0_0 : Option Addr) (c_n0_0 : Nat) (n0_0 : List Int) (q_n0_0 : PV F p_n0_0 c_n0_0 n0_0) (n0_1 : Int) (n0_2 : Int) (hn : (([[(i_n0, AObj.row false ([.slice p_n0_0 n0_0.length c_n0_0, .int .i64 n0_1, .int .u64 n0_2]))], F] : List Sg).flatten.map (·.1)).Nodup) (ho : ∀ x ∈ ([[(i_n0, AObj.row false ([.slice p_n0_0 n0_0.length c_n0_0, .int .i64 n0_1, .int .u64 n0_2]))], F] : List Sg).flatten, x.1 < H.length ∧ hget H x.1 = x.2) (r0 : Int) (r1 : List (List Int)) (m_n0_1 : Int) (m_n0_2 : Int) (hd : D_spec_l03With fu n0_0 n0_1 n0_2 = some (r0, r1, m_n0_1, m_n0_2)) : ∃ v G', ACall Tryz.prog 52 [.pointer (some ⟨i_n0, 0, none⟩)] H v G' ∧ ∃ (p_r1 : Option Addr) (c_r1 : Nat) (T_r1 : Tb) (F' : Sg), (v = .tuple #[.int .i64 r0, .slice p_r1 r1.length c_r1]) ∧ St (([[(i_n0, AObj.row false ([.slice p_n0_0 n0_0.length c_n0_0, .int .i64 n0_1, .int .u64 n0_2]))], F] : List Sg).flatten.map (·.1)) H G' [[(i_n0, AObj.row false ([.slice p_n0_0 n0_0.length c_n0_0, .int .i64 m_n0_1, .int .u64 m_n0_2]))], F'] ∧ trows T_r1 = r1 ∧ PT F' p_r1 c_r1 T_r1 ∧ Pin F' F := by
 refine ACall.bodyX (args := [.pointer (some ⟨i_n0, 0, none⟩)]) (N := 12) [(0, .pointer (some ⟨i_n0, 0, none⟩))] (fun v G' => ∃ (p_r1 : Option Addr) (c_r1 : Nat) (T_r1 : Tb) (F' : Sg), (v = .tuple #[.int .i64 r0, .slice p_r1 r1.length c_r1]) ∧ St (([[(i_n0, AObj.row false ([.slice p_n0_0 n0_0.length c_n0_0, .int .i64 n0_1, .int .u64 n0_2]))], F] : List Sg).flatten.map (·.1)) H G' [[(i_n0, AObj.row false ([.slice p_n0_0 n0_0.length c_n0_0, .int .i64 m_n0_1, .int .u64 m_n0_2]))], F'] ∧ trows T_r1 = r1 ∧ PT F' p_r1 c_r1 T_r1 ∧ Pin F' F) Tryz.func52 rfl rfl rfl rfl ?_
 unfold D_spec_l03With at hd
 have S0 := St.initF hn ho
 generalize hM0 : (([[(i_n0, AObj.row false ([.slice p_n0_0 n0_0.length c_n0_0, .int .i64 n0_1, .int .u64 n0_2]))], F] : List Sg).flatten.map (·.1)) = M0 at S0 ⊢
 refine AX.sr (AO.a rfl rfl (AO.a rfl rfl (AO.nil (AX.sr (AO.m rfl rfl ?_)))))
 obtain ⟨b1, a0, b6, b7, b8⟩ := S0.new (AObj.row false (ints [3, 5, 5, 7, 7, 9, 9, 11, 13]))
 refine AO.c rfl (s_buildInts (i := a0) (vs := [(0, .int .i64 3), (1, .int .i64 5), (2, .int .i64 5), (3, .int .i64 7), (4, .int .i64 7), (5, .int .i64 9), (6, .int .i64 9), (7, .int .i64 11), (8, .int .i64 13)]) (xs := [3, 5, 5, 7, 7, 9, 9, 11, 13]) underlying27 sizeOf2 zeroValue2 rfl rfl (by decide) rfl rfl b6 b7) ?_
 have b9 := b8.front 2 rfl
 have c0 := b9.front 1 rfl
 have c1 := c0.front 2 rfl
 have a5 : St M0 H b1 [[(i_n0, AObj.row false ([.slice p_n0_0 n0_0.length c_n0_0, .int .i64 n0_1, .int .u64 n0_2]))], [(a0, AObj.row false (ints [3, 5, 5, 7, 7, 9, 9, 11, 13]))], F] := c1
 obtain ⟨⟨a6, a1, a2⟩, c2, c3⟩ := bnd_some hd
 obtain ⟨_, b2, c4, a3, rfl, c5, b3⟩ := W_spec_l01Pick fu b1 F i_n0 p_n0_0 c_n0_0 n0_0 q_n0_0 n0_1 n0_2 (some (Addr.mk a0 0 none)) 9 9 [3, 5, 5, 7, 7, 9, 9, 11, 13] rfl (Sb.lit (n := 9) (by decide)) (St.fnodup (A := [[(i_n0, AObj.row false ([.slice p_n0_0 n0_0.length c_n0_0, .int .i64 n0_1, .int .u64 n0_2]))], [(a0, AObj.row false (ints [3, 5, 5, 7, 7, 9, 9, 11, 13]))], F]) a5) (St.fmem (A := [[(i_n0, AObj.row false ([.slice p_n0_0 n0_0.length c_n0_0, .int .i64 n0_1, .int .u64 n0_2]))], [(a0, AObj.row false (ints [3, 5, 5, 7, 7, 9, 9, 11, 13]))], F]) a5) a6 a1 a2 c2
 have c6 := St.callM (A := [[(i_n0, AObj.row false ([.slice p_n0_0 n0_0.length c_n0_0, .int .i64 n0_1, .int .u64 n0_2]))], [(a0, AObj.row false (ints [3, 5, 5, 7, 7, 9, 9, 11, 13]))], F]) a5 c5 (fun j h => h)
 refine AO.c rfl (o_call (vs := [.pointer (some ⟨i_n0, 0, none⟩), .slice (some (Addr.mk a0 0 none)) 9 9]) rfl Tryz.call45 c4) (AO.a rfl rfl (AO.nil (AX.sr (AO.m rfl rfl (AO.m rfl rfl (AO.m rfl rfl ?_))))))
 have c7 := c6.front 2 rfl
 have c8 := c7.front 1 rfl
 have a7 : St M0 H b2 [[(i_n0, AObj.row false ([.slice p_n0_0 n0_0.length c_n0_0, .int .i64 a1, .int .u64 a2]))], a3, [(a0, AObj.row false (ints [3, 5, 5, 7, 7, 9, 9, 11, 13]))]] := c8
 obtain ⟨⟨c9, a8, a9⟩, d0, d1⟩ := bnd_some c3
 obtain ⟨_, b4, d2, b0, d3, a4, d4, rfl, d5, d6, b5, d7, d8⟩ := W_spec_l03DrawOf fu b2 a3 a6 i_n0 p_n0_0 c_n0_0 n0_0 (q_n0_0.mono b3) a1 a2 (St.fnodup (A := [[(i_n0, AObj.row false ([.slice p_n0_0 n0_0.length c_n0_0, .int .i64 a1, .int .u64 a2]))], a3]) a7) (St.fmem (A := [[(i_n0, AObj.row false ([.slice p_n0_0 n0_0.length c_n0_0, .int .i64 a1, .int .u64 a2]))], a3]) a7) c9 a8 a9 d0
 have d9 := St.callM (A := [[(i_n0, AObj.row false ([.slice p_n0_0 n0_0.length c_n0_0, .int .i64 a1, .int .u64 a2]))], a3]) a7 d5 (fun j h => h)
 refine AO.c rfl (o_call (vs := [.pointer (some ⟨i_n0, 0, none⟩), .int .i64 a6]) rfl Tryz.call60 d2) (AO.a rfl rfl (AO.a rfl rfl (AO.nil (AX.ret ?_))))
 have e0 := d9.front 3 rfl
 have e1 := e0.front 2 rfl
 have e2 : St M0 H b4 [tseg a4, d4, oseg b0 (tcells a4), [(i_n0, AObj.row false ([.slice p_n0_0 n0_0.length c_n0_0, .int .i64 a8, .int .u64 a9]))], [(a0, AObj.row false (ints [3, 5, 5, 7, 7, 9, 9, 11, 13]))]] := e1
 obtain ⟨e3, e4, e5, e6⟩ := e2.poolRows PR.nil d7
 have e7 := e6.front 0 rfl
 have e8 := e7.front 1 rfl
 have e9 : St M0 H b4 [oseg b0 (tcells a4), e3, [(i_n0, AObj.row false ([.slice p_n0_0 n0_0.length c_n0_0, .int .i64 a8, .int .u64 a9]))], [(a0, AObj.row false (ints [3, 5, 5, 7, 7, 9, 9, 11, 13]))]] := e8
 obtain ⟨f0, f1, f2, f3⟩ := e9.poolHdr e5 d6 (tlen b5)
 obtain ⟨rfl, f4⟩ := Prod.mk.inj (some_inj d1)
 obtain ⟨rfl, f5⟩ := Prod.mk.inj f4
 obtain ⟨rfl, rfl⟩ := Prod.mk.inj f5
 have f6 := f3.front 0 rfl
 have f7 := f6.front 1 rfl
 have f8 := f7.keep 2
 exact ⟨.inr rfl, _, res2 rfl (rv_tmp rfl) (rv_tmp rfl), b0, d3, a4, f0, rfl, f8, b5, f2, (((((Pin.refl F).mono b3).mono d8).mono e4).mono f1)⟩
set_option maxHeartbeats 4000000 in
theorem W_spec_l03Bad (fu : Nat) (H : AHeap) (F : Sg) (a1 : Int) (p_a2 : Option Addr) (c_a2 : Nat) (T_a2 : Tb) (a2 : List (List Int)) (t_a2 : trows T_a2 = a2) (q_a2 : PT F p_a2 c_a2 T_a2) (i_n0 : Nat) (p_n0_0 : Option Addr) (c_n0_0 : Nat) (n0_0 : List Int) (q_n0_0 : PV F p_n0_0 c_n0_0 n0_0) (n0_1 : Int) (n0_2 : Int) (hn : (([[(i_n0, AObj.row false ([.slice p_n0_0 n0_0.length c_n0_0, .int .i64 n0_1, .int .u64 n0_2]))], F] : List Sg).flatten.map (·.1)).Nodup) (ho : ∀ x ∈ ([[(i_n0, AObj.row false ([.slice p_n0_0 n0_0.length c_n0_0, .int .i64 n0_1, .int .u64 n0_2]))], F] : List Sg).flatten, x.1 < H.length ∧ hget H x.1 = x.2) (r0 : Int) (r1 : List (List Int)) (m_n0_1 : Int) (m_n0_2 : Int) (hd : D_spec_l03Bad fu a1 a2 n0_0 n0_1 n0_2 = some (r0, r1, m_n0_1, m_n0_2)) : ∃ v G', ACall Tryz.prog 55 [.pointer (some ⟨i_n0, 0, none⟩), .int .i64 a1, .slice p_a2 a2.length c_a2] H v G' ∧ ∃ (p_r1 : Option Addr) (c_r1 : Nat) (T_r1 : Tb) (F' : Sg), (v = .tuple #[.int .i64 r0, .slice p_r1 r1.length c_r1]) ∧ St (([[(i_n0, AObj.row false ([.slice p_n0_0 n0_0.length c_n0_0, .int .i64 n0_1, .int .u64 n0_2]))], F] : List Sg).flatten.map (·.1)) H G' [oseg p_r1 (tcells T_r1), tseg T_r1, [(i_n0, AObj.row false ([.slice p_n0_0 n0_0.length c_n0_0, .int .i64 m_n0_1, .int .u64 m_n0_2]))], F'] ∧ Sb p_r1 r1.length c_r1 1 ∧ trows T_r1 = r1 ∧ TSb T_r1 ∧ Pin F' F := by
 refine ACall.bodyX (args := [.pointer (some ⟨i_n0, 0, none⟩), .int .i64 a1, .slice p_a2 a2.length c_a2]) (N := 67) [(0, .pointer (some ⟨i_n0, 0, none⟩)), (1, .int .i64 a1), (2, .slice p_a2 a2.length c_a2)] (fun v G' => ∃ (p_r1 : Option Addr) (c_r1 : Nat) (T_r1 : Tb) (F' : Sg), (v = .tuple #[.int .i64 r0, .slice p_r1 r1.length c_r1]) ∧ St (([[(i_n0, AObj.row false ([.slice p_n0_0 n0_0.length c_n0_0, .int .i64 n0_1, .int .u64 n0_2]))], F] : List Sg).flatten.map (·.1)) H G' [oseg p_r1 (tcells T_r1), tseg T_r1, [(i_n0, AObj.row false ([.slice p_n0_0 n0_0.length c_n0_0, .int .i64 m_n0_1, .int .u64 m_n0_2]))], F'] ∧ Sb p_r1 r1.length c_r1 1 ∧ trows T_r1 = r1 ∧ TSb T_r1 ∧ Pin F' F) Tryz.func55 rfl rfl rfl rfl ?_
 unfold D_spec_l03Bad at hd
 have S0 := St.initF hn ho
 generalize hM0 : (([[(i_n0, AObj.row false ([.slice p_n0_0 n0_0.length c_n0_0, .int .i64 n0_1, .int .u64 n0_2]))], F] : List Sg).flatten.map (·.1)) = M0 at S0 ⊢
 refine AX.sr (AO.a rfl rfl (AO.a rfl rfl (AO.nil (AX.sr (AO.m rfl rfl ?_)))))
 obtain ⟨a0, k4, k5⟩ := bnd_some hd
 obtain ⟨_, h8, k6, a6, c0, a3, rfl, k7, a5, b0, b1⟩ := W_spec_l03Own fu H p_a2 c_a2 T_a2 a2 t_a2 (S0.ptview (k := 1) rfl q_a2 (tlen t_a2)) (S0.prview (k := 1) rfl (q_a2).rs) a0 k4
 have k8 := S0.call k7
 refine AO.c rfl (o_call (vs := [.slice p_a2 a2.length c_a2]) rfl Tryz.call58 k6) (AO.a rfl rfl (AO.nil (AX.seq (AX.sr (AO.m rfl rfl ?_)))))
 have k9 := k8.front 3 rfl
 have l0 := k9.front 3 rfl
 have g1 : St M0 H h8 [[(i_n0, AObj.row false ([.slice p_n0_0 n0_0.length c_n0_0, .int .i64 n0_1, .int .u64 n0_2]))], F, oseg a6 (tcells a3), tseg a3] := l0
 obtain ⟨⟨l1, a7, a8⟩, l2, l3⟩ := bnd_some k5
 obtain ⟨_, h9, l4, a4, rfl, l5, a9⟩ := W_spec_l01Next fu h8 F 24 i_n0 p_n0_0 c_n0_0 n0_0 q_n0_0 n0_1 n0_2 (St.fnodup (A := [[(i_n0, AObj.row false ([.slice p_n0_0 n0_0.length c_n0_0, .int .i64 n0_1, .int .u64 n0_2]))], F]) g1) (St.fmem (A := [[(i_n0, AObj.row false ([.slice p_n0_0 n0_0.length c_n0_0, .int .i64 n0_1, .int .u64 n0_2]))], F]) g1) l1 a7 a8 l2
 have b2 := St.callM (A := [[(i_n0, AObj.row false ([.slice p_n0_0 n0_0.length c_n0_0, .int .i64 n0_1, .int .u64 n0_2]))], F]) g1 l5 (fun j h => h)
 refine AO.c rfl (o_call (vs := [.pointer (some ⟨i_n0, 0, none⟩), .int .i64 24]) rfl Tryz.call53 l4) (AO.nil (AX.block (AX.sr (AO.p rfl (p_eql rfl rfl) (AO.a rfl rfl (AO.nil ?_))))))
 obtain ⟨l6, i0, l7⟩ := bnd_some l3
 refine AX.cutS (fun t' H' => ∃ (g2 : Int) (g3 : Int) (g4 : Int) (d2 : List (List Int)) (d3 : Sg) (d4 : Option Addr) (f2 : Nat) (c1 : Tb), (g2, g3, g4, d2) = l6 ∧ St M0 H H' [d3, [(i_n0, AObj.row false ([.slice p_n0_0 n0_0.length c_n0_0, .int .i64 g2, .int .u64 g3]))], oseg d4 (tcells c1), tseg c1] ∧ Pin d3 F ∧ PV d3 p_n0_0 c_n0_0 n0_0 ∧ trows c1 = d2 ∧ TSb c1 ∧ Sb d4 (d2.length) f2 1 ∧ Am.Sub [(1, .int .i64 g4), (8, .slice d4 d2.length f2)] t') ?_ ?_
 ·skip
  refine AX.cond rfl (fun g5 => ?_) (fun g5 => ?_)
  ·have l8 := bif_t g5 i0
   refine AX.region (AO.m rfl rfl (AO.m rfl rfl ?_))
   obtain ⟨l9, m0⟩ := chk_some l8
   refine AO.p rfl (p_addE rfl rfl l9) ?_
   obtain ⟨i1, b6, m1, m2, m3⟩ := b2.new (AObj.row false (ints [0, 1, 2, 4, 15, (-1), a1 + 2]))
   refine AO.c rfl (s_buildInts (i := b6) (vs := [(0, .int .i64 0), (1, .int .i64 1), (2, .int .i64 2), (3, .int .i64 4), (4, .int .i64 15), (5, .int .i64 (-1)), (6, .int .i64 (a1 + 2))]) (xs := [0, 1, 2, 4, 15, (-1), a1 + 2]) underlying27 sizeOf2 zeroValue2 rfl rfl (by decide) rfl rfl m1 m2) ?_
   have m4 := m3.front 2 rfl
   have m5 := m4.front 1 rfl
   have m6 := m5.front 2 rfl
   have g6 : St M0 H i1 [[(i_n0, AObj.row false ([.slice p_n0_0 n0_0.length c_n0_0, .int .i64 a7, .int .u64 a8]))], [(b6, AObj.row false (ints [0, 1, 2, 4, 15, (-1), a1 + 2]))], a4, oseg a6 (tcells a3), tseg a3] := m6
   obtain ⟨⟨i2, i3, i4⟩, m7, m8⟩ := bnd_some m0
   obtain ⟨_, G1, m9, n0, rfl, n1, i5⟩ := W_spec_l01Pick fu i1 a4 i_n0 p_n0_0 c_n0_0 n0_0 (q_n0_0.mono a9) a7 a8 (some (Addr.mk b6 0 none)) 7 7 [0, 1, 2, 4, 15, (-1), a1 + 2] rfl (Sb.lit (n := 7) (by decide)) (St.fnodup (A := [[(i_n0, AObj.row false ([.slice p_n0_0 n0_0.length c_n0_0, .int .i64 a7, .int .u64 a8]))], [(b6, AObj.row false (ints [0, 1, 2, 4, 15, (-1), a1 + 2]))], a4]) g6) (St.fmem (A := [[(i_n0, AObj.row false ([.slice p_n0_0 n0_0.length c_n0_0, .int .i64 a7, .int .u64 a8]))], [(b6, AObj.row false (ints [0, 1, 2, 4, 15, (-1), a1 + 2]))], a4]) g6) i2 i3 i4 m7
   have n2 := St.callM (A := [[(i_n0, AObj.row false ([.slice p_n0_0 n0_0.length c_n0_0, .int .i64 a7, .int .u64 a8]))], [(b6, AObj.row false (ints [0, 1, 2, 4, 15, (-1), a1 + 2]))], a4]) g6 n1 (fun j h => h)
   refine AO.c rfl (o_call (vs := [.pointer (some ⟨i_n0, 0, none⟩), .slice (some (Addr.mk b6 0 none)) 7 7]) rfl Tryz.call45 m9) (AO.a rfl rfl (AO.nil ?_))
   have n3 := n2.front 4 rfl
   have n4 := n3.front 4 rfl
   have n5 := n4.front 2 rfl
   have n6 := n5.front 4 rfl
   have n7 := n6.keep 4
   exact ⟨i3, i4, i2, a0, n0, a6, c0, a3, (some_inj m8), n7, (((Pin.refl F).mono a9).mono i5), ((q_n0_0.mono a9).mono i5), b0, b1, a5, Sub.k2 rfl rfl (Sub.nil _)⟩
  ·have n8 := bif_f g5 i0
   refine AX.sr (AO.p rfl (p_eql rfl rfl) (AO.a rfl rfl (AO.nil ?_)))
   obtain ⟨n9, i6, o0⟩ := bnd_some n8
   refine AX.cutS (fun t' H' => ∃ (f3 : Int) (f4 : Int) (c2 : List (List Int)) (d5 : Sg) (d6 : Option Addr) (f5 : Nat) (c3 : Tb), (f3, f4, c2) = n9 ∧ St M0 H H' [d5, [(i_n0, AObj.row false ([.slice p_n0_0 n0_0.length c_n0_0, .int .i64 f3, .int .u64 f4]))], oseg d6 (tcells c3), tseg c3] ∧ Pin d5 F ∧ PV d5 p_n0_0 c_n0_0 n0_0 ∧ trows c3 = c2 ∧ TSb c3 ∧ Sb d6 (c2.length) f5 1 ∧ Am.Sub [(1, .int .i64 a1), (8, .slice d6 c2.length f5)] t') ?_ ?_
   ·skip
    refine AX.cond rfl (fun g7 => ?_) (fun g7 => ?_)
    ·have o2 := bif_t g7 i6
     refine AX.sr (AO.m rfl rfl ?_)
     obtain ⟨f6, o3⟩ := chk_some o2
     refine AO.p rfl (s_indexV (q := 0) underlying24 sizeOf27 rfl (a5.at (inR_pos f6)) rfl f6 rfl) ?_
     obtain ⟨g8, o4, b3, o5⟩ := tget b0 (lt_len rfl (inR_lt f6))
     refine AO.c rfl (s_load isAgg27 rfl (row_cell (b2.oat (k := 2) rfl (a5.at (inR_pos f6))) o5)) (AO.a rfl rfl (AO.nil (AX.region (AO.m rfl rfl (AO.m rfl rfl ?_)))))
     have o6 := b2.front 1 rfl
     have o7 := o6.front 1 rfl
     have g9 : St M0 H h9 [[(i_n0, AObj.row false ([.slice p_n0_0 n0_0.length c_n0_0, .int .i64 a7, .int .u64 a8]))], a4, oseg a6 (tcells a3), tseg a3] := o7
     obtain ⟨⟨b4, c4, c5⟩, o8, o9⟩ := bnd_some o3
     obtain ⟨_, G2, p0, d7, rfl, p1, h0⟩ := W_spec_l01Next fu h9 a4 2 i_n0 p_n0_0 c_n0_0 n0_0 (q_n0_0.mono a9) a7 a8 (St.fnodup (A := [[(i_n0, AObj.row false ([.slice p_n0_0 n0_0.length c_n0_0, .int .i64 a7, .int .u64 a8]))], a4]) g9) (St.fmem (A := [[(i_n0, AObj.row false ([.slice p_n0_0 n0_0.length c_n0_0, .int .i64 a7, .int .u64 a8]))], a4]) g9) b4 c4 c5 o8
     have p2 := St.callM (A := [[(i_n0, AObj.row false ([.slice p_n0_0 n0_0.length c_n0_0, .int .i64 a7, .int .u64 a8]))], a4]) g9 p1 (fun j h => h)
     refine AO.c rfl (o_call (vs := [.pointer (some ⟨i_n0, 0, none⟩), .int .i64 2]) rfl Tryz.call53 p0) (AO.m rfl rfl (AO.m rfl rfl ?_))
     obtain ⟨i7, b7, p3, p4, p5⟩ := p2.new (AObj.row false (ints [0, a1, 1, 2, (-1)]))
     refine AO.c rfl (s_buildInts (i := b7) (vs := [(0, .int .i64 0), (1, .int .i64 a1), (2, .int .i64 1), (3, .int .i64 2), (4, .int .i64 (-1))]) (xs := [0, a1, 1, 2, (-1)]) underlying27 sizeOf2 zeroValue2 rfl rfl (by decide) rfl rfl p3 p4) ?_
     have p6 := p5.front 2 rfl
     have p7 := p6.front 1 rfl
     have p8 := p7.front 2 rfl
     have h1 : St M0 H i7 [[(i_n0, AObj.row false ([.slice p_n0_0 n0_0.length c_n0_0, .int .i64 c4, .int .u64 c5]))], [(b7, AObj.row false (ints [0, a1, 1, 2, (-1)]))], d7, oseg a6 (tcells a3), tseg a3] := p8
     obtain ⟨⟨d8, i8, i9⟩, p9, q0⟩ := bnd_some o9
     obtain ⟨_, G3, q1, q2, rfl, q3, j0⟩ := W_spec_l01Pick fu i7 d7 i_n0 p_n0_0 c_n0_0 n0_0 ((q_n0_0.mono a9).mono h0) c4 c5 (some (Addr.mk b7 0 none)) 5 5 [0, a1, 1, 2, (-1)] rfl (Sb.lit (n := 5) (by decide)) (St.fnodup (A := [[(i_n0, AObj.row false ([.slice p_n0_0 n0_0.length c_n0_0, .int .i64 c4, .int .u64 c5]))], [(b7, AObj.row false (ints [0, a1, 1, 2, (-1)]))], d7]) h1) (St.fmem (A := [[(i_n0, AObj.row false ([.slice p_n0_0 n0_0.length c_n0_0, .int .i64 c4, .int .u64 c5]))], [(b7, AObj.row false (ints [0, a1, 1, 2, (-1)]))], d7]) h1) d8 i8 i9 p9
     have h2 := St.callM (A := [[(i_n0, AObj.row false ([.slice p_n0_0 n0_0.length c_n0_0, .int .i64 c4, .int .u64 c5]))], [(b7, AObj.row false (ints [0, a1, 1, 2, (-1)]))], d7]) h1 q3 (fun j h => h)
     refine AO.c rfl (o_call (vs := [.pointer (some ⟨i_n0, 0, none⟩), .slice (some (Addr.mk b7 0 none)) 5 5]) rfl Tryz.call45 q1) ?_
     obtain ⟨c6, q4⟩ := chk_some q0
     refine AO.p rfl (s_indexV (q := off g8 + b4.toNat) underlying27 sizeOf2 rfl ((TVw.at (h2.oviewT (k := 4) rfl b1) b3).p (ints_get (lt_len rfl (inR_lt c6)))) rfl c6 (o1 _ _)) ?_
     obtain ⟨G4, q5, q6⟩ := h2.tset (k := 4) rfl b3 ((TSb.at b1 b3).at (inR_pos c6)) ((rw_ a0 0).set b4.toNat d8)
     have q7 := q6.hdr (k := 3) (tcells_set (xs' := ((rw_ a0 0).set b4.toNat d8)) b3 (len_set rfl)).symm rfl
     refine AO.s (s_storeO (o := off g8 + b4.toNat) (q := b4.toNat) (off0 ((TSb.at b1 b3).at (inR_pos c6)) _) sizeOf2 rfl rfl rfl (h2.tat (k := 4) rfl b3 ((TSb.at b1 b3).at (inR_pos c6))) (lt_len (ints_length _) (inR_lt c6)) ((congrArg (fun l => List.set _ _ (AObj.row false l)) (ints_set _ _ _)).trans q5)) (AO.nil ?_)
     have q8 := q7.front 4 rfl
     have q9 := q8.front 4 rfl
     have r2 := q9.front 2 rfl
     have r3 := r2.front 4 rfl
     have r4 := r3.keep 4
     exact ⟨i8, i9, (a0.set 0 ((rw_ a0 0).set b4.toNat d8)), q2, a6, c0, (a3.set 0 (g8, o4, ((rw_ a0 0).set b4.toNat d8))), (some_inj q4), r4, ((((Pin.refl F).mono a9).mono h0).mono j0), (((q_n0_0.mono a9).mono h0).mono j0), (trows_set' b0), (TSb.set b1 b3 (len_set rfl)), (Eq.symm (len_set rfl) ▸ a5), Sub.k2 rfl (congrArg some (sl_n (Eq.symm (len_set rfl)))) (Sub.nil _)⟩
    ·have r5 := bif_f g7 i6
     refine AX.sr (AO.p rfl (p_eql rfl rfl) (AO.a rfl rfl (AO.nil ?_)))
     obtain ⟨r6, j1, r7⟩ := bnd_some r5
     refine AX.cutS (fun t' H' => ∃ (c7 : List (List Int)) (d9 : Option Addr) (f7 : Nat) (c8 : Tb), c7 = r6 ∧ St M0 H H' [a4, [(i_n0, AObj.row false ([.slice p_n0_0 n0_0.length c_n0_0, .int .i64 a7, .int .u64 a8]))], oseg d9 (tcells c8), tseg c8] ∧ Pin a4 F ∧ PV a4 p_n0_0 c_n0_0 n0_0 ∧ trows c8 = c7 ∧ TSb c8 ∧ Sb d9 (c7.length) f7 1 ∧ Am.Sub [(1, .int .i64 a1), (8, .slice d9 c7.length f7)] t') ?_ ?_
     ·skip
      refine AX.cond rfl (fun h3 => ?_) (fun h3 => ?_)
      ·have r8 := bif_t h3 j1
       refine AX.region (AO.m rfl rfl ?_)
       obtain ⟨G5, b5, r9, s0, s1⟩ := b2.new (AObj.row false (ints [1, 2]))
       refine AO.c rfl (s_buildInts (i := b5) (vs := [(0, .int .i64 1), (1, .int .i64 2)]) (xs := [1, 2]) underlying27 sizeOf2 zeroValue2 rfl rfl (by decide) rfl rfl r9 s0) ?_
       obtain ⟨G6, s2, s3, s4, s5⟩ := s1.new (AObj.row false (tcells ([((some (Addr.mk b5 0 none)), 2, [1, 2])])))
       have h4 := (s5.front 1 rfl).tone (some (Addr.mk b5 0 none)) 2 [1, 2] rfl
       refine AO.c rfl (s_buildT1 (i := s2) (X := [((some (Addr.mk b5 0 none)), 2, [1, 2])]) (n := 2) rfl underlying24 sizeOf27 zeroValue27 rfl rfl s3 s4) ?_
       obtain ⟨s6, s7⟩ := chk_some r8
       obtain ⟨j2, j3, G7, s8, s9, t0⟩ := h4.app (k := 4) rfl a5 (tcells ([((some (Addr.mk b5 0 none)), 2, [1, 2])])) 1 (tc_len1 rfl rfl)
       have t1 := s9.cellsEq (k := 4) (us' := tcells (a3 ++ [((some (Addr.mk b5 0 none)), 2, [1, 2])])) (tcells_app _ _).symm rfl
       have t2 : Sb j2 ((a0 ++ [[1, 2]]).length) j3 1 := (show a0.length + 1 = (a0 ++ [[1, 2]]).length from len_app (a := a0) (b := [[1, 2]]) rfl rfl) ▸ t0
       have t3 := t1.front 0 rfl
       have t4 := (t3.front 5 rfl).tmerge
       have t5 := t4.drop 1 rfl
       refine AO.c rfl (s_app (by_ := 24) (us := tcells a3) (vs := tcells ([((some (Addr.mk b5 0 none)), 2, [1, 2])])) underlying24 underlying24 typeInfo27 sizeOf27 zeroValue27 rfl rfl rfl rfl rfl rfl rfl (h4.buf (k := 4) rfl a5 (tc_len1 b0 rfl)) (h4.oview (k := 1) rfl (Sb.lit (n := 1) (by decide)) (tc_len1 rfl rfl)) (tc_len1 rfl rfl) tcells_one s6 s8 (show a0.length + 1 = (a0 ++ [[1, 2]]).length from len_app (a := a0) (b := [[1, 2]]) rfl rfl)) (AO.a rfl rfl (AO.nil ?_))
       have t6 := t5.front 0 rfl
       have t7 := t6.front 3 rfl
       have t8 := t7.front 2 rfl
       have t9 := t8.front 3 rfl
       exact ⟨(a0 ++ [[1, 2]]), j2, j3, (a3 ++ [((some (Addr.mk b5 0 none)), 2, [1, 2])]), (some_inj s7), t9, ((Pin.refl F).mono a9), (q_n0_0.mono a9), (trows_apps b0 rfl), (TSb.app b1 (TSb.one (sb_len rfl (Sb.lit (n := 2) (by decide))))), t2, Sub.k2 rfl rfl (Sub.nil _)⟩
      ·have u0 := bif_f h3 j1
       refine AX.sr (AO.p rfl (p_eql rfl rfl) (AO.a rfl rfl (AO.nil ?_)))
       obtain ⟨u1, j4, u2⟩ := bnd_some u0
       refine AX.cutS (fun t' H' => ∃ (e0 : List (List Int)) (c9 : Tb), e0 = u1 ∧ St M0 H H' [a4, [(i_n0, AObj.row false ([.slice p_n0_0 n0_0.length c_n0_0, .int .i64 a7, .int .u64 a8]))], oseg a6 (tcells c9), tseg c9] ∧ Pin a4 F ∧ PV a4 p_n0_0 c_n0_0 n0_0 ∧ e0.length = a0.length ∧ trows c9 = e0 ∧ TSb c9 ∧ Am.Sub [(1, .int .i64 a1), (8, .slice a6 a0.length c0)] t') ?_ ?_
       ·skip
        refine AX.cond rfl (fun h5 => ?_) (fun h5 => ?_)
        ·have u3 := bif_t h5 j4
         refine AX.region (AO.m rfl rfl (AO.m rfl rfl ?_))
         obtain ⟨f8, u4⟩ := chk_some u3
         refine AO.p rfl (s_indexV (q := 0) underlying24 sizeOf27 rfl (a5.at (inR_pos f8)) rfl f8 rfl) ?_
         obtain ⟨e1, e2, e3, u5⟩ := tget b0 (lt_len rfl (inR_lt f8))
         refine AO.c rfl (s_load isAgg27 rfl (row_cell (b2.oat (k := 2) rfl (a5.at (inR_pos f8))) u5)) ?_
         obtain ⟨e4, u6⟩ := chk_some u4
         obtain ⟨u7, u8, u9⟩ := b2.tcut (k := 3) rfl e3 (TSb.at b1 e3) e4.2.2 1
         have j5 : St M0 H u7 [[(i_n0, AObj.row false ([.slice p_n0_0 n0_0.length c_n0_0, .int .i64 a7, .int .u64 a8]))], a4, oseg a6 (tcells a3), tseg (a3.set 0 (e1, (cutc ((rw_ a0 0).length) e2 1), ((rw_ a0 0).take 1)))] := u9
         refine AO.c rfl (s_cutI underlying27 sizeOf2 rfl (TSb.at b1 e3) rfl ⟨e4.1, e4.2.1⟩ (b2.tcutg (k := 3) rfl e3) rfl u8) ?_
         obtain ⟨e5, v0⟩ := chk_some u6
         refine AO.p rfl (s_indexV (q := 0) underlying24 sizeOf27 rfl (a5.at (inR_pos e5)) rfl e5 rfl) ?_
         obtain ⟨v1, v2, v3⟩ := j5.oset (k := 2) (p := a6) rfl (a5.at (inR_pos e5)) (tcells (a3.set 0 (e1, (cutc ((rw_ a0 0).length) e2 1), ((rw_ a0 0).take 1))))
         have v4 : St M0 H v1 [[(i_n0, AObj.row false ([.slice p_n0_0 n0_0.length c_n0_0, .int .i64 a7, .int .u64 a8]))], a4, oseg a6 (tcells (a3.set 0 (e1, (cutc ((rw_ a0 0).length) e2 1), ((rw_ a0 0).take 1)))), tseg (a3.set 0 (e1, (cutc ((rw_ a0 0).length) e2 1), ((rw_ a0 0).take 1)))] := v3
         refine AO.s (s_store sizeOf27 rfl rfl rfl (j5.oat (k := 2) rfl (a5.at (inR_pos e5))) (tc_lt b0 rfl (inR_lt e5)) ((congrArg (fun l => List.set _ _ (AObj.row false l)) (tcells_putn (len_takeI rfl (z_le e4.2.1)))).trans v2)) (AO.nil ?_)
         have v5 := v4.front 3 rfl
         have v6 := v5.front 3 rfl
         have v7 := v6.front 2 rfl
         have v8 := v7.front 3 rfl
         exact ⟨(a0.set 0 ((rw_ a0 0).take 1)), (a3.set 0 (e1, (cutc ((rw_ a0 0).length) e2 1), ((rw_ a0 0).take 1))), (some_inj v0), v8, ((Pin.refl F).mono a9), (q_n0_0.mono a9), (len_set rfl), (trows_set' b0), (TSb.cutr b1 e3 (z_le e4.2.1)), Sub.k2 rfl rfl (Sub.nil _)⟩
        ·have v9 := bif_f h5 j4
         refine AX.sr (AO.p rfl (p_eql rfl rfl) (AO.a rfl rfl (AO.nil ?_)))
         obtain ⟨w0, j6, w1⟩ := bnd_some v9
         refine AX.cutS (fun t' H' => ∃ (e6 : List (List Int)) (d0 : Tb), e6 = w0 ∧ St M0 H H' [a4, [(i_n0, AObj.row false ([.slice p_n0_0 n0_0.length c_n0_0, .int .i64 a7, .int .u64 a8]))], oseg a6 (tcells d0), tseg d0] ∧ Pin a4 F ∧ PV a4 p_n0_0 c_n0_0 n0_0 ∧ e6.length = a0.length ∧ trows d0 = e6 ∧ TSb d0 ∧ Am.Sub [(1, .int .i64 a1), (8, .slice a6 a0.length c0)] t') ?_ ?_
         ·skip
          refine AX.cond rfl (fun h6 => ?_) (fun h6 => ?_)
          ·have w2 := bif_t h6 j6
           refine AX.sr (AO.m rfl rfl (AO.p rfl (p_len_slice rfl underlying24) (AO.p rfl (p_gtr rfl rfl) (AO.nil ?_))))
           obtain ⟨w3, j7, w4⟩ := bnd_some w2
           refine AX.cutS (fun t' H' => ∃ (e7 : List (List Int)) (d1 : Tb), e7 = w3 ∧ St M0 H H' [a4, [(i_n0, AObj.row false ([.slice p_n0_0 n0_0.length c_n0_0, .int .i64 a7, .int .u64 a8]))], oseg a6 (tcells d1), tseg d1] ∧ Pin a4 F ∧ PV a4 p_n0_0 c_n0_0 n0_0 ∧ e7.length = a0.length ∧ trows d1 = e7 ∧ TSb d1 ∧ Am.Sub [(1, .int .i64 a1), (8, .slice a6 a0.length c0)] t') ?_ ?_
           ·skip
            refine AX.cond rfl (fun h7 => ?_) (fun h7 => ?_)
            ·have w5 := bif_t h7 j7
             refine AX.sr (AO.m rfl rfl ?_)
             obtain ⟨f9, w6⟩ := chk_some w5
             refine AO.p rfl (s_indexV (q := 0) underlying24 sizeOf27 rfl (a5.at (inR_pos f9)) rfl f9 rfl) ?_
             obtain ⟨e8, e9, j8, w7⟩ := tget b0 (lt_len rfl (inR_lt f9))
             refine AO.c rfl (s_load isAgg27 rfl (row_cell (b2.oat (k := 2) rfl (a5.at (inR_pos f9))) w7)) (AO.a rfl rfl (AO.nil (AX.sr (AO.m rfl rfl (AO.m rfl rfl ?_)))))
             obtain ⟨g0, w8⟩ := chk_some w6
             refine AO.p rfl (s_indexV (q := 1) underlying24 sizeOf27 rfl (a5.at (inR_pos g0)) rfl g0 rfl) ?_
             obtain ⟨b8, b9, j9, w9⟩ := tget b0 (lt_len rfl (inR_lt g0))
             refine AO.c rfl (s_load isAgg27 rfl (row_cell (b2.oat (k := 2) rfl (a5.at (inR_pos g0))) w9)) ?_
             obtain ⟨f0, x0⟩ := chk_some w8
             refine AO.p rfl (s_indexV (q := 0) underlying24 sizeOf27 rfl (a5.at (inR_pos f0)) rfl f0 rfl) ?_
             obtain ⟨x1, x2, x3⟩ := b2.oset (k := 2) (p := a6) rfl (a5.at (inR_pos f0)) (tcells (a3.set 0 (b8, b9, (rw_ a0 1))))
             have k0 : St M0 H x1 [[(i_n0, AObj.row false ([.slice p_n0_0 n0_0.length c_n0_0, .int .i64 a7, .int .u64 a8]))], a4, oseg a6 (tcells (a3.set 0 (b8, b9, (rw_ a0 1)))), tseg a3] := x3
             refine AO.s (s_store sizeOf27 rfl rfl rfl (b2.oat (k := 2) rfl (a5.at (inR_pos f0))) (tc_lt b0 rfl (inR_lt f0)) ((congrArg (fun l => List.set _ _ (AObj.row false l)) (tcells_put _ _ _ _ _)).trans x2)) (AO.nil (AX.region (AO.m rfl rfl (AO.m rfl rfl ?_))))
             obtain ⟨f1, x4⟩ := chk_some x0
             refine AO.p rfl (s_indexV (q := 1) underlying24 sizeOf27 rfl (a5.at (inR_pos f1)) rfl f1 rfl) ?_
             obtain ⟨k1, x5, x6⟩ := k0.oset (k := 2) (p := a6) rfl (a5.at (inR_pos f1)) (tcells ((a3.set 0 (b8, b9, (rw_ a0 1))).set 1 (e8, e9, (rw_ a0 0))))
             have x7 : St M0 H k1 [[(i_n0, AObj.row false ([.slice p_n0_0 n0_0.length c_n0_0, .int .i64 a7, .int .u64 a8]))], a4, oseg a6 (tcells ((a3.set 0 (b8, b9, (rw_ a0 1))).set 1 (e8, e9, (rw_ a0 0)))), tseg a3] := x6
             have x8 := x7.front 3 rfl
             have x9 := x8.tswap j8 j9
             have y0 : St M0 H k1 [tseg ((a3.set 0 (b8, b9, (rw_ a0 1))).set 1 (e8, e9, (rw_ a0 0))), [(i_n0, AObj.row false ([.slice p_n0_0 n0_0.length c_n0_0, .int .i64 a7, .int .u64 a8]))], a4, oseg a6 (tcells ((a3.set 0 (b8, b9, (rw_ a0 1))).set 1 (e8, e9, (rw_ a0 0))))] := x9
             refine AO.s (s_store sizeOf27 rfl rfl rfl (k0.oat (k := 2) rfl (a5.at (inR_pos f1))) (tc_lt (trows_set' b0) (len_set rfl) (inR_lt f1)) ((congrArg (fun l => List.set _ _ (AObj.row false l)) (tcells_put _ _ _ _ _)).trans x5)) (AO.nil ?_)
             have y1 := y0.front 0 rfl
             have y2 := y1.front 3 rfl
             have y3 := y2.front 2 rfl
             have y4 := y3.front 3 rfl
             exact ⟨((a0.set 0 (rw_ a0 1)).set 1 (rw_ a0 0)), ((a3.set 0 (b8, b9, (rw_ a0 1))).set 1 (e8, e9, (rw_ a0 0))), (some_inj x4), y4, ((Pin.refl F).mono a9), (q_n0_0.mono a9), (len_set (len_set rfl)), (trows_set' (trows_set' b0)), (TSb.swap b1 j8 j9), Sub.k2 rfl rfl (Sub.nil _)⟩
            ·have y5 := bif_f h7 j7
             refine AX.skip ?_
             have y6 := b2.front 3 rfl
             have y7 := y6.front 3 rfl
             have y8 := y7.front 2 rfl
             have y9 := y8.front 3 rfl
             exact ⟨a0, a3, (some_inj y5), y9, ((Pin.refl F).mono a9), (q_n0_0.mono a9), rfl, b0, b1, Sub.k2 rfl rfl (Sub.nil _)⟩
           ·rintro t' G8 ⟨e7, d1, rfl, z0, z1, z2, z3, z4, z5, z6⟩
            refine ⟨_, z6, ?_⟩
            have z7 := z0.front 3 rfl
            have z8 := z7.front 3 rfl
            have z9 := z8.front 3 rfl
            have A0 := z9.front 3 rfl
            exact ⟨e7, d1, (some_inj w4), A0, z1, z2, z3, z4, z5, Sub.k2 rfl rfl (Sub.nil _)⟩
          ·have A1 := bif_f h6 j6
           refine AX.skip ?_
           have A2 := b2.front 3 rfl
           have A3 := A2.front 3 rfl
           have A4 := A3.front 2 rfl
           have A5 := A4.front 3 rfl
           exact ⟨a0, a3, (some_inj A1), A5, ((Pin.refl F).mono a9), (q_n0_0.mono a9), rfl, b0, b1, Sub.k2 rfl rfl (Sub.nil _)⟩
         ·rintro t' G9 ⟨e6, d0, rfl, A6, A7, A8, A9, B0, B1, B2⟩
          refine ⟨_, B2, ?_⟩
          have B3 := A6.front 3 rfl
          have B4 := B3.front 3 rfl
          have B5 := B4.front 3 rfl
          have B6 := B5.front 3 rfl
          exact ⟨e6, d0, (some_inj w1), B6, A7, A8, A9, B0, B1, Sub.k2 rfl rfl (Sub.nil _)⟩
       ·rintro t' H0 ⟨e0, c9, rfl, B7, B8, B9, k3, C0, C1, C2⟩
        refine ⟨_, C2, ?_⟩
        have C3 := B7.front 3 rfl
        have C4 := C3.front 3 rfl
        have C5 := C4.front 3 rfl
        have C6 := C5.front 3 rfl
        exact ⟨e0, a6, c0, c9, (some_inj u2), C6, B8, B9, C0, C1, (Eq.symm k3 ▸ a5), Sub.k2 rfl (congrArg some (sl_n (Eq.symm k3))) (Sub.nil _)⟩
     ·rintro t' H1 ⟨c7, d9, f7, c8, rfl, C7, C8, C9, D0, D1, D2, D3⟩
      refine ⟨_, D3, ?_⟩
      have D4 := C7.front 3 rfl
      have D5 := D4.front 3 rfl
      have D6 := D5.front 3 rfl
      have D7 := D6.front 3 rfl
      exact ⟨a7, a8, c7, a4, d9, f7, c8, (some_inj r7), D7, C8, C9, D0, D1, D2, Sub.k2 rfl rfl (Sub.nil _)⟩
   ·rintro t' H2 ⟨f3, f4, c2, d5, d6, f5, c3, rfl, D8, D9, E0, E1, E2, E3, E4⟩
    refine ⟨_, E4, ?_⟩
    have E5 := D8.front 3 rfl
    have E6 := E5.front 3 rfl
    have E7 := E6.front 3 rfl
    have E8 := E7.front 3 rfl
    exact ⟨f3, f4, a1, c2, d5, d6, f5, c3, (some_inj o0), E8, D9, E0, E1, E2, E3, Sub.k2 rfl rfl (Sub.nil _)⟩
 ·rintro t' H3 ⟨g2, g3, g4, d2, d3, d4, f2, c1, rfl, E9, F0, H4, F1, F2, F3, F4⟩
  refine ⟨_, F4, ?_⟩
  refine AX.sr (AO.m rfl rfl (AO.m rfl rfl (AO.a rfl rfl (AO.a rfl rfl (AO.nil (AX.ret ?_))))))
  obtain ⟨rfl, F5⟩ := Prod.mk.inj (some_inj l7)
  obtain ⟨rfl, F6⟩ := Prod.mk.inj F5
  obtain ⟨rfl, rfl⟩ := Prod.mk.inj F6
  have F7 := E9.front 0 rfl
  have F8 := F7.front 1 rfl
  have F9 := F8.front 3 rfl
  have G0 := F9.front 3 rfl
  exact ⟨.inr rfl, _, res2 rfl (rv_tmp rfl) (rv_tmp rfl), d4, f2, c1, d3, rfl, G0, F3, F1, F2, F0⟩
set_option maxHeartbeats 4000000 in
theorem W_spec_l03Given (fu : Nat) (H : AHeap) (F : Sg) (p_a0 : Option Addr) (c_a0 : Nat) (a0 : List Int) (q_a0 : PV F p_a0 c_a0 a0) (hn : (([F] : List Sg).flatten.map (·.1)).Nodup) (ho : ∀ x ∈ ([F] : List Sg).flatten, x.1 < H.length ∧ hget H x.1 = x.2) (r0 : Int) (r1 : List (List Int)) (hd : D_spec_l03Given fu a0 = some (r0, r1)) : ∃ v G', ACall Tryz.prog 26 [.slice p_a0 a0.length c_a0] H v G' ∧ ∃ (p_r1 : Option Addr) (c_r1 : Nat) (T_r1 : Tb) (F' : Sg), (v = .tuple #[.int .i64 r0, .slice p_r1 r1.length c_r1]) ∧ St (([F] : List Sg).flatten.map (·.1)) H G' [oseg p_r1 (tcells T_r1), tseg T_r1, F'] ∧ Sb p_r1 r1.length c_r1 1 ∧ trows T_r1 = r1 ∧ TSb T_r1 ∧ Pin F' F := by
 refine ACall.bodyX (args := [.slice p_a0 a0.length c_a0]) (N := 23) [(0, .slice p_a0 a0.length c_a0)] (fun v G' => ∃ (p_r1 : Option Addr) (c_r1 : Nat) (T_r1 : Tb) (F' : Sg), (v = .tuple #[.int .i64 r0, .slice p_r1 r1.length c_r1]) ∧ St (([F] : List Sg).flatten.map (·.1)) H G' [oseg p_r1 (tcells T_r1), tseg T_r1, F'] ∧ Sb p_r1 r1.length c_r1 1 ∧ trows T_r1 = r1 ∧ TSb T_r1 ∧ Pin F' F) Tryz.func26 rfl rfl rfl rfl ?_
 unfold D_spec_l03Given at hd
 have S0 := St.initF hn ho
 generalize hM0 : (([F] : List Sg).flatten.map (·.1)) = M0 at S0 ⊢
 refine AX.sr (AO.a rfl rfl (AO.a rfl rfl (AO.nil (AX.sr (AO.m rfl rfl ?_)))))
 have b9 := S0.front 0 rfl
 have a8 : St M0 H H [F] := b9
 obtain ⟨⟨a2, a3⟩, c0, c1⟩ := bnd_some hd
 obtain ⟨_, b4, c2, a1, a6, rfl, c3, a9⟩ := W_spec_l01From fu H F p_a0 c_a0 a0 q_a0 (St.fnodup (A := [F]) a8) (St.fmem (A := [F]) a8) a2 a3 c0
 have c4 := St.callM (A := [F]) a8 c3 (fun j h => h)
 refine AO.c rfl (o_call (vs := [.slice p_a0 a0.length c_a0]) rfl Tryz.call46 c2) (AO.a rfl rfl (AO.nil (AX.sr (AO.m rfl rfl ?_))))
 have c5 := c4.front 1 rfl
 have c6 := c5.front 1 rfl
 have b0 : St M0 H b4 [[(a1, AObj.row false ([.slice p_a0 a0.length c_a0, .int .i64 a2, .int .u64 a3]))], a6] := c6
 obtain ⟨⟨b1, b2, a4, a5⟩, c7, c8⟩ := bnd_some c1
 obtain ⟨_, b5, c9, b6, b7, d0, a7, rfl, d1, d2, d3, b8⟩ := W_spec_l03With fu b4 a6 a1 p_a0 c_a0 a0 (q_a0.mono a9) a2 a3 (St.fnodup (A := [[(a1, AObj.row false ([.slice p_a0 a0.length c_a0, .int .i64 a2, .int .u64 a3]))], a6]) b0) (St.fmem (A := [[(a1, AObj.row false ([.slice p_a0 a0.length c_a0, .int .i64 a2, .int .u64 a3]))], a6]) b0) b1 b2 a4 a5 c7
 have d4 := St.callM (A := [[(a1, AObj.row false ([.slice p_a0 a0.length c_a0, .int .i64 a2, .int .u64 a3]))], a6]) b0 d1 (fun j h => h)
 refine AO.c rfl (o_call (vs := [.pointer (some ⟨a1, 0, none⟩)]) rfl Tryz.call52 c9) (AO.m rfl rfl (AO.p rfl (p_extract rfl rfl) (AO.p rfl (p_extract rfl rfl) (AO.a rfl rfl (AO.a rfl rfl (AO.nil (AX.sr (AO.m rfl rfl (AO.m rfl rfl (AO.m rfl rfl ?_))))))))))
 have d5 := d4.front 1 rfl
 have d6 := d5.front 1 rfl
 have b3 : St M0 H b5 [[(a1, AObj.row false ([.slice p_a0 a0.length c_a0, .int .i64 a4, .int .u64 a5]))], a7] := d6
 obtain ⟨⟨d7, d8, d9, e0⟩, e1, e2⟩ := bnd_some c8
 obtain ⟨_, f8, e3, e4, e5, e6, e7, rfl, e8, e9, f0, f1, f2⟩ := W_spec_l03Bad fu b5 a7 b1 b6 b7 d0 b2 d2 d3 a1 p_a0 c_a0 a0 ((q_a0.mono a9).mono b8) a4 a5 (St.fnodup (A := [[(a1, AObj.row false ([.slice p_a0 a0.length c_a0, .int .i64 a4, .int .u64 a5]))], a7]) b3) (St.fmem (A := [[(a1, AObj.row false ([.slice p_a0 a0.length c_a0, .int .i64 a4, .int .u64 a5]))], a7]) b3) d7 d8 d9 e0 e1
 have f3 := St.callM (A := [[(a1, AObj.row false ([.slice p_a0 a0.length c_a0, .int .i64 a4, .int .u64 a5]))], a7]) b3 e8 (fun j h => h)
 refine AO.c rfl (o_call (vs := [.pointer (some ⟨a1, 0, none⟩), .int .i64 b1, .slice b6 b2.length b7]) rfl Tryz.call55 e3) (AO.m rfl rfl (AO.p rfl (p_extract rfl rfl) (AO.p rfl (p_extract rfl rfl) (AO.a rfl rfl (AO.a rfl rfl (AO.nil (AX.sr (AO.m rfl rfl (AO.m rfl rfl (AO.a rfl rfl (AO.a rfl rfl (AO.nil ?_))))))))))))
 refine AX.ret ?_
 obtain ⟨rfl, rfl⟩ := Prod.mk.inj (some_inj e2)
 have f4 := f3.front 3 rfl
 have f5 := f4.front 2 rfl
 have f6 := f5.front 2 rfl
 have f7 := f6.keep 3
 exact ⟨.inr rfl, _, res2 rfl (rv_tmp rfl) (rv_tmp rfl), e4, e5, e6, e7, rfl, f7, e9, f0, f1, ((((Pin.refl F).mono a9).mono b8).mono f2)⟩
set_option maxHeartbeats 4000000 in
theorem W_spec_DrawStrongAdder (fu : Nat) (H : AHeap) (F : Sg) (p_a0 : Option Addr) (c_a0 : Nat) (a0 : List Int) (q_a0 : PV F p_a0 c_a0 a0) (hn : (([F] : List Sg).flatten.map (·.1)).Nodup) (ho : ∀ x ∈ ([F] : List Sg).flatten, x.1 < H.length ∧ hget H x.1 = x.2) (r0 : Int) (r1 : List (List Int)) (hd : D_spec_DrawStrongAdder fu a0 = some (r0, r1)) : ∃ v G', ACall Tryz.prog 5 [.slice p_a0 a0.length c_a0] H v G' ∧ ∃ (p_r1 : Option Addr) (c_r1 : Nat) (T_r1 : Tb) (F' : Sg), (v = .tuple #[.int .i64 r0, .slice p_r1 r1.length c_r1]) ∧ St (([F] : List Sg).flatten.map (·.1)) H G' [oseg p_r1 (tcells T_r1), tseg T_r1, F'] ∧ Sb p_r1 r1.length c_r1 1 ∧ trows T_r1 = r1 ∧ TSb T_r1 ∧ Pin F' F := by
 refine ACall.bodyX (args := [.slice p_a0 a0.length c_a0]) (N := 13) [(0, .slice p_a0 a0.length c_a0)] (fun v G' => ∃ (p_r1 : Option Addr) (c_r1 : Nat) (T_r1 : Tb) (F' : Sg), (v = .tuple #[.int .i64 r0, .slice p_r1 r1.length c_r1]) ∧ St (([F] : List Sg).flatten.map (·.1)) H G' [oseg p_r1 (tcells T_r1), tseg T_r1, F'] ∧ Sb p_r1 r1.length c_r1 1 ∧ trows T_r1 = r1 ∧ TSb T_r1 ∧ Pin F' F) Tryz.func5 rfl rfl rfl rfl ?_
 unfold D_spec_DrawStrongAdder at hd
 have S0 := St.initF hn ho
 generalize hM0 : (([F] : List Sg).flatten.map (·.1)) = M0 at S0 ⊢
 refine AX.sr (AO.a rfl rfl (AO.a rfl rfl (AO.nil (AX.sr (AO.m rfl rfl ?_)))))
 have a2 := S0.front 0 rfl
 have a1 : St M0 H H [F] := a2
 obtain ⟨⟨a3, a4⟩, a5, a6⟩ := bnd_some hd
 obtain ⟨_, c1, a7, a8, a9, b0, b1, rfl, b2, b3, b4, b5, b6⟩ := W_spec_l03Given fu H F p_a0 c_a0 a0 q_a0 (St.fnodup (A := [F]) a1) (St.fmem (A := [F]) a1) a3 a4 a5
 have b7 := St.callM (A := [F]) a1 b2 (fun j h => h)
 refine AO.c rfl (o_call (vs := [.slice p_a0 a0.length c_a0]) rfl Tryz.call26 a7) (AO.m rfl rfl (AO.p rfl (p_extract rfl rfl) (AO.p rfl (p_extract rfl rfl) (AO.a rfl rfl (AO.a rfl rfl (AO.nil (AX.sr (AO.m rfl rfl (AO.m rfl rfl (AO.a rfl rfl (AO.a rfl rfl (AO.nil ?_))))))))))))
 refine AX.ret ?_
 obtain ⟨rfl, rfl⟩ := Prod.mk.inj (some_inj a6)
 have b8 := b7.front 2 rfl
 have b9 := b8.front 2 rfl
 have c0 := b9.front 2 rfl
 exact ⟨.inr rfl, _, res2 rfl (rv_tmp rfl) (rv_tmp rfl), a8, a9, b0, b1, rfl, c0, b3, b4, b5, ((Pin.refl F).mono b6)⟩
end Go.Proofs.YtdafmafigcljkaaGreat
