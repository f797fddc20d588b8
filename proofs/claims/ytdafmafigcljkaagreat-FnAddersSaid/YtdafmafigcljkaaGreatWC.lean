
/-
 The program computes that, printed by a program. No condition.
-/
import Derived.Test.YtdafmafigcljkaaGreatDC
import Derived.Test.YtdafmafigcljkaaGreatWB
import Derived.Test.YtdafmafigcljkaaGreatCa
import Derived.Test.YtdafmafigcljkaaGreatProg
import Derived.KernelRfl
namespace Go.Proofs.YtdafmafigcljkaaGreat
open Go Go.RowKit Am Go.Proofs.Tryz
set_option linter.unusedVariables false
set_option linter.unusedSimpArgs false
set_option maxRecDepth 20000
set_option maxHeartbeats 4000000 in
theorem W_impl_CountStarters_1 (fu : Nat) (H : AHeap) (F : Sg) (p_a0 : Option Addr) (c_a0 : Nat) (T_a0 : Tb) (a0 : List (List Int)) (t_a0 : trows T_a0 = a0) (q_a0 : PT F p_a0 c_a0 T_a0) (i_n0 : Nat) (n0_0 : Int) (i_n1 : Nat) (n1_0 : Int) (i_n2 : Nat) (n2_0 : Int) (i_n3 : Nat) (n3_0 : Int) (hn : (([[(i_n0, AObj.row false ([.int .i64 n0_0]))], [(i_n1, AObj.row false ([.int .i64 n1_0]))], [(i_n2, AObj.row false ([.int .i64 n2_0]))], [(i_n3, AObj.row false ([.int .i64 n3_0]))], F] : List Sg).flatten.map (·.1)).Nodup) (ho : ∀ x ∈ ([[(i_n0, AObj.row false ([.int .i64 n0_0]))], [(i_n1, AObj.row false ([.int .i64 n1_0]))], [(i_n2, AObj.row false ([.int .i64 n2_0]))], [(i_n3, AObj.row false ([.int .i64 n3_0]))], F] : List Sg).flatten, x.1 < H.length ∧ hget H x.1 = x.2) (r0 : Bool) (m_n0_0 : Int) (m_n2_0 : Int) (m_n3_0 : Int) (hd : D_impl_CountStarters_1 fu a0 n0_0 n1_0 n2_0 n3_0 = some (r0, m_n0_0, m_n2_0, m_n3_0)) : ∃ v G', ACall Tryz.prog 65 [.slice p_a0 a0.length c_a0, .pointer (some ⟨i_n0, 0, none⟩), .pointer (some ⟨i_n1, 0, none⟩), .pointer (some ⟨i_n2, 0, none⟩), .pointer (some ⟨i_n3, 0, none⟩)] H v G' ∧ ∃ (F' : Sg), (v = .bool r0) ∧ St (([[(i_n0, AObj.row false ([.int .i64 n0_0]))], [(i_n1, AObj.row false ([.int .i64 n1_0]))], [(i_n2, AObj.row false ([.int .i64 n2_0]))], [(i_n3, AObj.row false ([.int .i64 n3_0]))], F] : List Sg).flatten.map (·.1)) H G' [[(i_n0, AObj.row false ([.int .i64 m_n0_0]))], [(i_n1, AObj.row false ([.int .i64 n1_0]))], [(i_n2, AObj.row false ([.int .i64 m_n2_0]))], [(i_n3, AObj.row false ([.int .i64 m_n3_0]))], F'] ∧ Pin F' F := by
 refine ACall.bodyX (args := [.slice p_a0 a0.length c_a0, .pointer (some ⟨i_n0, 0, none⟩), .pointer (some ⟨i_n1, 0, none⟩), .pointer (some ⟨i_n2, 0, none⟩), .pointer (some ⟨i_n3, 0, none⟩)]) (N := 19) [(0, .slice p_a0 a0.length c_a0), (1, .pointer (some ⟨i_n0, 0, none⟩)), (2, .pointer (some ⟨i_n1, 0, none⟩)), (3, .pointer (some ⟨i_n2, 0, none⟩)), (4, .pointer (some ⟨i_n3, 0, none⟩))] (fun v G' => ∃ (F' : Sg), (v = .bool r0) ∧ St (([[(i_n0, AObj.row false ([.int .i64 n0_0]))], [(i_n1, AObj.row false ([.int .i64 n1_0]))], [(i_n2, AObj.row false ([.int .i64 n2_0]))], [(i_n3, AObj.row false ([.int .i64 n3_0]))], F] : List Sg).flatten.map (·.1)) H G' [[(i_n0, AObj.row false ([.int .i64 m_n0_0]))], [(i_n1, AObj.row false ([.int .i64 n1_0]))], [(i_n2, AObj.row false ([.int .i64 m_n2_0]))], [(i_n3, AObj.row false ([.int .i64 m_n3_0]))], F'] ∧ Pin F' F) Tryz.func65 rfl rfl rfl rfl ?_
 unfold D_impl_CountStarters_1 at hd
 have S0 := St.initF hn ho
 generalize hM0 : (([[(i_n0, AObj.row false ([.int .i64 n0_0]))], [(i_n1, AObj.row false ([.int .i64 n1_0]))], [(i_n2, AObj.row false ([.int .i64 n2_0]))], [(i_n3, AObj.row false ([.int .i64 n3_0]))], F] : List Sg).flatten.map (·.1)) = M0 at S0 ⊢
 refine AX.sr (AO.a rfl rfl (AO.nil (AX.sr (AO.c rfl (s_load isAgg2 rfl (row_cell (S0.get (k := 0) rfl) rfl)) ?_))))
 obtain ⟨b1, b2⟩ := chk_some hd
 refine AO.p rfl (p_addE rfl rfl b1) ?_
 obtain ⟨a6, b3, b4⟩ := S0.set (k := 0) (i := i_n0) rfl (AObj.row false ([.int .i64 (n0_0 + 1)]))
 have a1 : St M0 H a6 [[(i_n0, AObj.row false ([.int .i64 (n0_0 + 1)]))], [(i_n1, AObj.row false ([.int .i64 n1_0]))], [(i_n2, AObj.row false ([.int .i64 n2_0]))], [(i_n3, AObj.row false ([.int .i64 n3_0]))], F] := b4
 refine AO.s (s_store sizeOf2 rfl rfl rfl (S0.get (k := 0) rfl) (Nat.le_of_ble_eq_true rfl) b3) (AO.nil (AX.seq (AX.sr (AO.c rfl (s_load isAgg2 rfl (row_cell (a1.get (k := 1) rfl) rfl)) (AO.m rfl rfl ?_)))))
 obtain ⟨b5, b6, b7⟩ := bnd_some b2
 refine AO.c rfl (o_call (vs := [.int .i64 n1_0, .slice p_a0 a0.length c_a0]) rfl Tryz.call29 (W_impl_isStrong fu a6 n1_0 p_a0 c_a0 T_a0 a0 t_a0 (a1.ptview (k := 4) rfl q_a0 (tlen t_a0)) (a1.prview (k := 4) rfl (q_a0).rs) b5 b6)) (AO.nil ?_)
 obtain ⟨b8, a7, b9⟩ := bnd_some b7
 refine AX.cutS (fun t' H' => ∃ (a3 : Int), a3 = b8 ∧ St M0 H H' [F, [(i_n0, AObj.row false ([.int .i64 (n0_0 + 1)]))], [(i_n1, AObj.row false ([.int .i64 n1_0]))], [(i_n2, AObj.row false ([.int .i64 a3]))], [(i_n3, AObj.row false ([.int .i64 n3_0]))]] ∧ Pin F F ∧ PT F p_a0 c_a0 T_a0 ∧ Am.Sub [(0, .slice p_a0 a0.length c_a0), (2, .pointer (some ⟨i_n1, 0, none⟩)), (4, .pointer (some ⟨i_n3, 0, none⟩))] t') ?_ ?_
 ·skip
  refine AX.cond rfl (fun a4 => ?_) (fun a4 => ?_)
  ·have c0 := bif_t a4 a7
   refine AX.region (AO.c rfl (s_load isAgg2 rfl (row_cell (a1.get (k := 2) rfl) rfl)) ?_)
   obtain ⟨c1, c2⟩ := chk_some c0
   refine AO.p rfl (p_addE rfl rfl c1) ?_
   obtain ⟨c3, c4, c5⟩ := a1.set (k := 2) (i := i_n2) rfl (AObj.row false ([.int .i64 (n2_0 + 1)]))
   have c6 : St M0 H c3 [[(i_n0, AObj.row false ([.int .i64 (n0_0 + 1)]))], [(i_n1, AObj.row false ([.int .i64 n1_0]))], [(i_n2, AObj.row false ([.int .i64 (n2_0 + 1)]))], [(i_n3, AObj.row false ([.int .i64 n3_0]))], F] := c5
   refine AO.s (s_store sizeOf2 rfl rfl rfl (a1.get (k := 2) rfl) (Nat.le_of_ble_eq_true rfl) c4) (AO.nil ?_)
   have c7 := c6.front 3 rfl
   have c8 := c7.front 3 rfl
   have c9 := c8.front 3 rfl
   have d0 := c9.front 3 rfl
   have d1 := d0.front 4 rfl
   exact ⟨(n2_0 + 1), (some_inj c2), d1, (Pin.refl F), q_a0, Sub.k2 rfl rfl (Sub.k1 rfl (Sub.nil _))⟩
  ·have d2 := bif_f a4 a7
   refine AX.skip ?_
   have d3 := a1.front 3 rfl
   have d4 := d3.front 3 rfl
   have d5 := d4.front 3 rfl
   have d6 := d5.front 3 rfl
   have d7 := d6.front 4 rfl
   exact ⟨n2_0, (some_inj d2), d7, (Pin.refl F), q_a0, Sub.k2 rfl rfl (Sub.k1 rfl (Sub.nil _))⟩
 ·rintro t' d8 ⟨a3, rfl, a2, a8, a9, d9⟩
  refine ⟨_, d9, ?_⟩
  refine AX.seq (AX.sr (AO.c rfl (s_load isAgg2 rfl (row_cell (a2.get (k := 2) rfl) rfl)) (AO.m rfl rfl ?_)))
  obtain ⟨e0, e1, b0⟩ := bnd_some b9
  refine AO.c rfl (o_call (vs := [.int .i64 n1_0, .slice p_a0 a0.length c_a0]) rfl Tryz.call66 (W_impl_isSkew fu d8 n1_0 p_a0 c_a0 T_a0 a0 t_a0 (a2.ptview (k := 0) rfl a9 (tlen t_a0)) (a2.prview (k := 0) rfl (a9).rs) e0 e1)) (AO.nil (AX.cond rfl (fun a5 => ?_) (fun a5 => ?_)))
  ·have e2 := bif_t a5 b0
   refine AX.region (AO.c rfl (s_load isAgg2 rfl (row_cell (a2.get (k := 4) rfl) rfl)) ?_)
   obtain ⟨e3, e4⟩ := chk_some e2
   refine AO.p rfl (p_addE rfl rfl e3) ?_
   obtain ⟨e5, e6, e7⟩ := a2.set (k := 4) (i := i_n3) rfl (AObj.row false ([.int .i64 (n3_0 + 1)]))
   have e8 : St M0 H e5 [F, [(i_n0, AObj.row false ([.int .i64 (n0_0 + 1)]))], [(i_n1, AObj.row false ([.int .i64 n1_0]))], [(i_n2, AObj.row false ([.int .i64 a3]))], [(i_n3, AObj.row false ([.int .i64 (n3_0 + 1)]))]] := e7
   refine AO.s (s_store sizeOf2 rfl rfl rfl (a2.get (k := 4) rfl) (Nat.le_of_ble_eq_true rfl) e6) (AO.nil (AX.sr (AO.a rfl rfl (AO.nil (AX.ret ?_)))))
   obtain ⟨rfl, e9⟩ := Prod.mk.inj (some_inj e4)
   obtain ⟨rfl, f0⟩ := Prod.mk.inj e9
   obtain ⟨rfl, rfl⟩ := Prod.mk.inj f0
   have f1 := e8.front 0 rfl
   have f2 := f1.front 4 rfl
   have f3 := f2.front 4 rfl
   have f4 := f3.front 4 rfl
   have f5 := f4.front 4 rfl
   exact ⟨.inr rfl, _, res1 rfl (rv_tmp rfl), F, rfl, f5, a8⟩
  ·have f6 := bif_f a5 b0
   refine AX.skip (AX.sr (AO.a rfl rfl (AO.nil (AX.ret ?_))))
   obtain ⟨rfl, f7⟩ := Prod.mk.inj (some_inj f6)
   obtain ⟨rfl, f8⟩ := Prod.mk.inj f7
   obtain ⟨rfl, rfl⟩ := Prod.mk.inj f8
   have f9 := a2.front 0 rfl
   have g0 := f9.front 4 rfl
   have g1 := g0.front 4 rfl
   have g2 := g1.front 4 rfl
   have g3 := g2.front 4 rfl
   exact ⟨.inr rfl, _, res1 rfl (rv_tmp rfl), F, rfl, g3, a8⟩
set_option maxHeartbeats 4000000 in
theorem W_slices_Clone_SSint64_Sint64 (fu : Nat) (H : AHeap) (F : Sg) (p_a0 : Option Addr) (c_a0 : Nat) (T_a0 : Tb) (a0 : List (List Int)) (t_a0 : trows T_a0 = a0) (q_a0 : PT F p_a0 c_a0 T_a0) (y_a0 : a0 = [] → p_a0 = none) (hn : (([F] : List Sg).flatten.map (·.1)).Nodup) (ho : ∀ x ∈ ([F] : List Sg).flatten, x.1 < H.length ∧ hget H x.1 = x.2) (r0 : List (List Int)) (hd : D_slices_Clone_SSint64_Sint64 fu a0 = some r0) : ∃ v G', ACall Tryz.prog 79 [.slice p_a0 a0.length c_a0] H v G' ∧ ∃ (p_r0 : Option Addr) (c_r0 : Nat) (T_r0 : Tb) (F' : Sg), (v = .slice p_r0 r0.length c_r0) ∧ St (([F] : List Sg).flatten.map (·.1)) H G' [oseg p_r0 (tcells T_r0), F'] ∧ Sb p_r0 r0.length c_r0 1 ∧ trows T_r0 = r0 ∧ PR F' T_r0 ∧ Pin F' F := by
 refine ACall.bodyX (args := [.slice p_a0 a0.length c_a0]) (N := 8) [(0, .slice p_a0 a0.length c_a0)] (fun v G' => ∃ (p_r0 : Option Addr) (c_r0 : Nat) (T_r0 : Tb) (F' : Sg), (v = .slice p_r0 r0.length c_r0) ∧ St (([F] : List Sg).flatten.map (·.1)) H G' [oseg p_r0 (tcells T_r0), F'] ∧ Sb p_r0 r0.length c_r0 1 ∧ trows T_r0 = r0 ∧ PR F' T_r0 ∧ Pin F' F) Tryz.func79 rfl rfl rfl rfl ?_
 unfold D_slices_Clone_SSint64_Sint64 at hd
 have S0 := St.initF hn ho
 generalize hM0 : (([F] : List Sg).flatten.map (·.1)) = M0 at S0 ⊢
 refine AX.sr (AO.a rfl rfl (AO.nil (AX.seq (AX.sr (AO.m rfl rfl (AO.p rfl (p_eqlNilB underlying24 rfl ((q_a0).hsb.ne rfl) (PT.isNone q_a0 t_a0 y_a0)) (AO.nil (AX.cond rfl (fun a1 => ?_) (fun a1 => ?_)))))))))
 ·have a5 := bif_t a1 hd
  refine AX.sr (AO.a rfl rfl (AO.nil (AX.ret ?_)))
  obtain rfl := some_inj a5
  have a6 := S0.front 0 rfl
  have a7 : St M0 H H (oseg none (tcells []) :: _) := a6.nilseg 0
  exact ⟨.inr rfl, _, res1 rfl (rv_tmp rfl), none, 0, [], F, rfl, a7, Sb.nil, rfl, PR.nil, (Pin.refl F)⟩
 ·have a8 := bif_f a1 hd
  refine AX.skip (AX.sr ?_)
  obtain ⟨c1, a9, b0, b1, a2⟩ := S0.new (AObj.row false (tcells []))
  refine AO.c rfl (s_build0 (i := a9) underlying24 sizeOf27 b0 b1) (AO.m rfl rfl ?_)
  obtain ⟨b2, b3⟩ := chk_some a8
  obtain ⟨a3, a4, c2, b4, b5, b6⟩ := a2.app (k := 0) rfl (Sb.lit (n := 0) (by decide)) (tcells T_a0) a0.length (tc_len1 t_a0 rfl)
  have b7 := b5.cellsEq (k := 0) (us' := tcells T_a0) (List.nil_append _) rfl
  have b8 : Sb a3 (a0.length) a4 1 := (show 0 + a0.length = a0.length from len_nilapp (b := a0) rfl) ▸ b6
  refine AO.c rfl (s_app (by_ := 24) (us := tcells []) (vs := tcells T_a0) underlying24 underlying24 typeInfo27 sizeOf27 zeroValue27 rfl rfl rfl rfl rfl rfl rfl (a2.buf (k := 0) rfl (Sb.lit (n := 0) (by decide)) (tc_len1 rfl rfl)) (a2.ptview (k := 1) rfl q_a0 (tlen t_a0)) (tc_len1 t_a0 rfl) tcells_one b2 b4 (show 0 + a0.length = a0.length from len_nilapp (b := a0) rfl)) (AO.a rfl rfl (AO.nil (AX.ret ?_)))
  obtain rfl := some_inj b3
  have b9 := b7.front 1 rfl
  have c0 := b9.front 1 rfl
  exact ⟨.inr rfl, _, res1 rfl (rv_tmp rfl), a3, a4, T_a0, F, rfl, c0, b8, t_a0, (q_a0).rs, (Pin.refl F)⟩
set_option maxHeartbeats 4000000 in
theorem W_impl_starters_1__impl_CountStarters_1 : ∀ (fu : Nat) (H : AHeap) (F : Sg) (p_a0 : Option Addr) (c_a0 : Nat) (T_a0 : Tb) (a0 : List (List Int)) (t_a0 : trows T_a0 = a0) (q_a0 : PT F p_a0 c_a0 T_a0) (y_a0 : a0 = [] → p_a0 = none) (i_n0 : Nat) (n0_0 : Int) (i_n1 : Nat) (p_n2 : Option Addr) (k_n2 c_n2 : Nat) (n2 : List Bool) (l_n2 : n2.length = k_n2) (s_n2 : Sb p_n2 k_n2 c_n2 1) (i_n3 : Nat) (i_n4 : Nat) (n4_0 : Int) (i_n5 : Nat) (n5_0 : Int) (i_n6 : Nat) (n6_0 : Int) (i_n7 : Nat) (n7_0 : Int) (i_n8 : Nat) (p_n9 : Option Addr) (k_n9 c_n9 : Nat) (n9 : List Bool) (l_n9 : n9.length = k_n9) (s_n9 : Sb p_n9 k_n9 c_n9 1) (i_n10 : Nat) (hn : (([[(i_n0, AObj.row false ([.int .i64 n0_0]))], [(i_n1, AObj.row false ([.slice p_n2 k_n2 c_n2]))], oseg p_n2 (bls n2), [(i_n3, AObj.row false ([.func (.func 65) #[] #[.pointer (some ⟨i_n4, 0, none⟩), .pointer (some ⟨i_n5, 0, none⟩), .pointer (some ⟨i_n6, 0, none⟩), .pointer (some ⟨i_n7, 0, none⟩)]]))], [(i_n4, AObj.row false ([.int .i64 n4_0]))], [(i_n5, AObj.row false ([.int .i64 n5_0]))], [(i_n6, AObj.row false ([.int .i64 n6_0]))], [(i_n7, AObj.row false ([.int .i64 n7_0]))], [(i_n8, AObj.row false ([.slice p_n9 k_n9 c_n9]))], oseg p_n9 (bls n9), [(i_n10, AObj.row false ([.func (.func 78) #[] #[.pointer (some ⟨i_n0, 0, none⟩), .pointer (some ⟨i_n1, 0, none⟩), .pointer (some ⟨i_n3, 0, none⟩), .pointer (some ⟨i_n8, 0, none⟩), .pointer (some ⟨i_n10, 0, none⟩)]]))], F] : List Sg).flatten.map (·.1)).Nodup) (ho : ∀ x ∈ ([[(i_n0, AObj.row false ([.int .i64 n0_0]))], [(i_n1, AObj.row false ([.slice p_n2 k_n2 c_n2]))], oseg p_n2 (bls n2), [(i_n3, AObj.row false ([.func (.func 65) #[] #[.pointer (some ⟨i_n4, 0, none⟩), .pointer (some ⟨i_n5, 0, none⟩), .pointer (some ⟨i_n6, 0, none⟩), .pointer (some ⟨i_n7, 0, none⟩)]]))], [(i_n4, AObj.row false ([.int .i64 n4_0]))], [(i_n5, AObj.row false ([.int .i64 n5_0]))], [(i_n6, AObj.row false ([.int .i64 n6_0]))], [(i_n7, AObj.row false ([.int .i64 n7_0]))], [(i_n8, AObj.row false ([.slice p_n9 k_n9 c_n9]))], oseg p_n9 (bls n9), [(i_n10, AObj.row false ([.func (.func 78) #[] #[.pointer (some ⟨i_n0, 0, none⟩), .pointer (some ⟨i_n1, 0, none⟩), .pointer (some ⟨i_n3, 0, none⟩), .pointer (some ⟨i_n8, 0, none⟩), .pointer (some ⟨i_n10, 0, none⟩)]]))], F] : List Sg).flatten, x.1 < H.length ∧ hget H x.1 = x.2) (r0 : Bool) (m_n2 : List Bool) (m_n4_0 : Int) (m_n6_0 : Int) (m_n7_0 : Int) (m_n9 : List Bool) (hd : D_impl_starters_1__impl_CountStarters_1 fu a0 n0_0 k_n2 n2 n4_0 n5_0 n6_0 n7_0 k_n9 n9 = some (r0, m_n2, m_n4_0, m_n6_0, m_n7_0, m_n9)), ∃ v G', ACall Tryz.prog 78 [.slice p_a0 a0.length c_a0, .pointer (some ⟨i_n0, 0, none⟩), .pointer (some ⟨i_n1, 0, none⟩), .pointer (some ⟨i_n3, 0, none⟩), .pointer (some ⟨i_n8, 0, none⟩), .pointer (some ⟨i_n10, 0, none⟩)] H v G' ∧ ∃ (F' : Sg), (v = .bool r0) ∧ St (([[(i_n0, AObj.row false ([.int .i64 n0_0]))], [(i_n1, AObj.row false ([.slice p_n2 k_n2 c_n2]))], oseg p_n2 (bls n2), [(i_n3, AObj.row false ([.func (.func 65) #[] #[.pointer (some ⟨i_n4, 0, none⟩), .pointer (some ⟨i_n5, 0, none⟩), .pointer (some ⟨i_n6, 0, none⟩), .pointer (some ⟨i_n7, 0, none⟩)]]))], [(i_n4, AObj.row false ([.int .i64 n4_0]))], [(i_n5, AObj.row false ([.int .i64 n5_0]))], [(i_n6, AObj.row false ([.int .i64 n6_0]))], [(i_n7, AObj.row false ([.int .i64 n7_0]))], [(i_n8, AObj.row false ([.slice p_n9 k_n9 c_n9]))], oseg p_n9 (bls n9), [(i_n10, AObj.row false ([.func (.func 78) #[] #[.pointer (some ⟨i_n0, 0, none⟩), .pointer (some ⟨i_n1, 0, none⟩), .pointer (some ⟨i_n3, 0, none⟩), .pointer (some ⟨i_n8, 0, none⟩), .pointer (some ⟨i_n10, 0, none⟩)]]))], F] : List Sg).flatten.map (·.1)) H G' [[(i_n0, AObj.row false ([.int .i64 n0_0]))], [(i_n1, AObj.row false ([.slice p_n2 k_n2 c_n2]))], oseg p_n2 (bls m_n2), [(i_n3, AObj.row false ([.func (.func 65) #[] #[.pointer (some ⟨i_n4, 0, none⟩), .pointer (some ⟨i_n5, 0, none⟩), .pointer (some ⟨i_n6, 0, none⟩), .pointer (some ⟨i_n7, 0, none⟩)]]))], [(i_n4, AObj.row false ([.int .i64 m_n4_0]))], [(i_n5, AObj.row false ([.int .i64 n5_0]))], [(i_n6, AObj.row false ([.int .i64 m_n6_0]))], [(i_n7, AObj.row false ([.int .i64 m_n7_0]))], [(i_n8, AObj.row false ([.slice p_n9 k_n9 c_n9]))], oseg p_n9 (bls m_n9), [(i_n10, AObj.row false ([.func (.func 78) #[] #[.pointer (some ⟨i_n0, 0, none⟩), .pointer (some ⟨i_n1, 0, none⟩), .pointer (some ⟨i_n3, 0, none⟩), .pointer (some ⟨i_n8, 0, none⟩), .pointer (some ⟨i_n10, 0, none⟩)]]))], F'] ∧ m_n2.length = k_n2 ∧ m_n9.length = k_n9 ∧ Pin F' F := by
 intro fu
 induction fu with
 | zero => intros; rename_i hd; cases hd
 | succ fu ih =>
 intro H F p_a0 c_a0 T_a0 a0 t_a0 q_a0 y_a0 i_n0 n0_0 i_n1 p_n2 k_n2 c_n2 n2 l_n2 s_n2 i_n3 i_n4 n4_0 i_n5 n5_0 i_n6 n6_0 i_n7 n7_0 i_n8 p_n9 k_n9 c_n9 n9 l_n9 s_n9 i_n10 hn ho r0 m_n2 m_n4_0 m_n6_0 m_n7_0 m_n9 hd
 refine ACall.bodyX (args := [.slice p_a0 a0.length c_a0, .pointer (some ⟨i_n0, 0, none⟩), .pointer (some ⟨i_n1, 0, none⟩), .pointer (some ⟨i_n3, 0, none⟩), .pointer (some ⟨i_n8, 0, none⟩), .pointer (some ⟨i_n10, 0, none⟩)]) (N := 84) [(0, .slice p_a0 a0.length c_a0), (1, .pointer (some ⟨i_n0, 0, none⟩)), (2, .pointer (some ⟨i_n1, 0, none⟩)), (3, .pointer (some ⟨i_n3, 0, none⟩)), (4, .pointer (some ⟨i_n8, 0, none⟩)), (5, .pointer (some ⟨i_n10, 0, none⟩))] (fun v G' => ∃ (F' : Sg), (v = .bool r0) ∧ St (([[(i_n0, AObj.row false ([.int .i64 n0_0]))], [(i_n1, AObj.row false ([.slice p_n2 k_n2 c_n2]))], oseg p_n2 (bls n2), [(i_n3, AObj.row false ([.func (.func 65) #[] #[.pointer (some ⟨i_n4, 0, none⟩), .pointer (some ⟨i_n5, 0, none⟩), .pointer (some ⟨i_n6, 0, none⟩), .pointer (some ⟨i_n7, 0, none⟩)]]))], [(i_n4, AObj.row false ([.int .i64 n4_0]))], [(i_n5, AObj.row false ([.int .i64 n5_0]))], [(i_n6, AObj.row false ([.int .i64 n6_0]))], [(i_n7, AObj.row false ([.int .i64 n7_0]))], [(i_n8, AObj.row false ([.slice p_n9 k_n9 c_n9]))], oseg p_n9 (bls n9), [(i_n10, AObj.row false ([.func (.func 78) #[] #[.pointer (some ⟨i_n0, 0, none⟩), .pointer (some ⟨i_n1, 0, none⟩), .pointer (some ⟨i_n3, 0, none⟩), .pointer (some ⟨i_n8, 0, none⟩), .pointer (some ⟨i_n10, 0, none⟩)]]))], F] : List Sg).flatten.map (·.1)) H G' [[(i_n0, AObj.row false ([.int .i64 n0_0]))], [(i_n1, AObj.row false ([.slice p_n2 k_n2 c_n2]))], oseg p_n2 (bls m_n2), [(i_n3, AObj.row false ([.func (.func 65) #[] #[.pointer (some ⟨i_n4, 0, none⟩), .pointer (some ⟨i_n5, 0, none⟩), .pointer (some ⟨i_n6, 0, none⟩), .pointer (some ⟨i_n7, 0, none⟩)]]))], [(i_n4, AObj.row false ([.int .i64 m_n4_0]))], [(i_n5, AObj.row false ([.int .i64 n5_0]))], [(i_n6, AObj.row false ([.int .i64 m_n6_0]))], [(i_n7, AObj.row false ([.int .i64 m_n7_0]))], [(i_n8, AObj.row false ([.slice p_n9 k_n9 c_n9]))], oseg p_n9 (bls m_n9), [(i_n10, AObj.row false ([.func (.func 78) #[] #[.pointer (some ⟨i_n0, 0, none⟩), .pointer (some ⟨i_n1, 0, none⟩), .pointer (some ⟨i_n3, 0, none⟩), .pointer (some ⟨i_n8, 0, none⟩), .pointer (some ⟨i_n10, 0, none⟩)]]))], F'] ∧ m_n2.length = k_n2 ∧ m_n9.length = k_n9 ∧ Pin F' F) Tryz.func78 rfl rfl rfl rfl ?_
 unfold D_impl_starters_1__impl_CountStarters_1 at hd
 have S0 := St.initF hn ho
 generalize hM0 : (([[(i_n0, AObj.row false ([.int .i64 n0_0]))], [(i_n1, AObj.row false ([.slice p_n2 k_n2 c_n2]))], oseg p_n2 (bls n2), [(i_n3, AObj.row false ([.func (.func 65) #[] #[.pointer (some ⟨i_n4, 0, none⟩), .pointer (some ⟨i_n5, 0, none⟩), .pointer (some ⟨i_n6, 0, none⟩), .pointer (some ⟨i_n7, 0, none⟩)]]))], [(i_n4, AObj.row false ([.int .i64 n4_0]))], [(i_n5, AObj.row false ([.int .i64 n5_0]))], [(i_n6, AObj.row false ([.int .i64 n6_0]))], [(i_n7, AObj.row false ([.int .i64 n7_0]))], [(i_n8, AObj.row false ([.slice p_n9 k_n9 c_n9]))], oseg p_n9 (bls n9), [(i_n10, AObj.row false ([.func (.func 78) #[] #[.pointer (some ⟨i_n0, 0, none⟩), .pointer (some ⟨i_n1, 0, none⟩), .pointer (some ⟨i_n3, 0, none⟩), .pointer (some ⟨i_n8, 0, none⟩), .pointer (some ⟨i_n10, 0, none⟩)]]))], F] : List Sg).flatten.map (·.1)) = M0 at S0 ⊢
 refine AX.sr (AO.a rfl rfl (AO.nil (AX.sr (AO.a rfl rfl (AO.nil ?_)))))
 obtain ⟨l6, l7, h7⟩ := bnd_some hd
 refine AX.cut (fun t' H' => ∃ (a1 : Int), a1 = l6 ∧ St M0 H H' [F, [(i_n0, AObj.row false ([.int .i64 n0_0]))], [(i_n1, AObj.row false ([.slice p_n2 k_n2 c_n2]))], oseg p_n2 (bls n2), [(i_n3, AObj.row false ([.func (.func 65) #[] #[.pointer (some ⟨i_n4, 0, none⟩), .pointer (some ⟨i_n5, 0, none⟩), .pointer (some ⟨i_n6, 0, none⟩), .pointer (some ⟨i_n7, 0, none⟩)]]))], [(i_n4, AObj.row false ([.int .i64 n4_0]))], [(i_n5, AObj.row false ([.int .i64 n5_0]))], [(i_n6, AObj.row false ([.int .i64 n6_0]))], [(i_n7, AObj.row false ([.int .i64 n7_0]))], [(i_n8, AObj.row false ([.slice p_n9 k_n9 c_n9]))], oseg p_n9 (bls n9), [(i_n10, AObj.row false ([.func (.func 78) #[] #[.pointer (some ⟨i_n0, 0, none⟩), .pointer (some ⟨i_n1, 0, none⟩), .pointer (some ⟨i_n3, 0, none⟩), .pointer (some ⟨i_n8, 0, none⟩), .pointer (some ⟨i_n10, 0, none⟩)]]))]] ∧ Pin F F ∧ PT F p_a0 c_a0 T_a0 ∧ (a0 = [] → p_a0 = none) ∧ Am.Sub [(0, .slice p_a0 a0.length c_a0), (1, .pointer (some ⟨i_n0, 0, none⟩)), (2, .pointer (some ⟨i_n1, 0, none⟩)), (3, .pointer (some ⟨i_n3, 0, none⟩)), (4, .pointer (some ⟨i_n8, 0, none⟩)), (5, .pointer (some ⟨i_n10, 0, none⟩)), (8, .int .i64 a1)] t') ?_ ?_
 ·refine AX.block (AX.loopF (fun s' t' H' => ∃ (b3 : Int), b3 = s' ∧ St M0 H H' [F, [(i_n0, AObj.row false ([.int .i64 n0_0]))], [(i_n1, AObj.row false ([.slice p_n2 k_n2 c_n2]))], oseg p_n2 (bls n2), [(i_n3, AObj.row false ([.func (.func 65) #[] #[.pointer (some ⟨i_n4, 0, none⟩), .pointer (some ⟨i_n5, 0, none⟩), .pointer (some ⟨i_n6, 0, none⟩), .pointer (some ⟨i_n7, 0, none⟩)]]))], [(i_n4, AObj.row false ([.int .i64 n4_0]))], [(i_n5, AObj.row false ([.int .i64 n5_0]))], [(i_n6, AObj.row false ([.int .i64 n6_0]))], [(i_n7, AObj.row false ([.int .i64 n7_0]))], [(i_n8, AObj.row false ([.slice p_n9 k_n9 c_n9]))], oseg p_n9 (bls n9), [(i_n10, AObj.row false ([.func (.func 78) #[] #[.pointer (some ⟨i_n0, 0, none⟩), .pointer (some ⟨i_n1, 0, none⟩), .pointer (some ⟨i_n3, 0, none⟩), .pointer (some ⟨i_n8, 0, none⟩), .pointer (some ⟨i_n10, 0, none⟩)]]))]] ∧ Pin F F ∧ PT F p_a0 c_a0 T_a0 ∧ (a0 = [] → p_a0 = none) ∧ Am.Sub [(0, .slice p_a0 a0.length c_a0), (1, .pointer (some ⟨i_n0, 0, none⟩)), (2, .pointer (some ⟨i_n1, 0, none⟩)), (3, .pointer (some ⟨i_n3, 0, none⟩)), (4, .pointer (some ⟨i_n8, 0, none⟩)), (5, .pointer (some ⟨i_n10, 0, none⟩)), (8, .int .i64 b3)] t') l7 ?_ ?_)
  ·skip
   have l8 := S0.front 10 rfl
   have l9 := l8.front 10 rfl
   have m0 := l9.front 10 rfl
   have m1 := m0.front 10 rfl
   have m2 := m1.front 10 rfl
   have m3 := m2.front 10 rfl
   have m4 := m3.front 10 rfl
   have m5 := m4.front 10 rfl
   have m6 := m5.front 10 rfl
   have m7 := m6.front 10 rfl
   have m8 := m7.front 10 rfl
   have m9 := m8.front 11 rfl
   exact ⟨1, rfl, m9, (Pin.refl F), q_a0, y_a0, Sub.k4 rfl rfl rfl rfl (Sub.k2 rfl rfl (Sub.k1 rfl (Sub.nil _)))⟩
  ·rintro Q9 _ t' R0 ⟨b3, rfl, c3, h8, h9, i0, n0⟩ R1 i1 i2
   refine AX.sub n0 ?_
   unfold D_impl_starters_1__impl_CountStarters_1_s0 at i1
   refine AX.seq ?_
   obtain ⟨n1, i3, i4⟩ := bnd_some i1
   refine AX.cut (fun t' H' => ∃ (e7 : Bool), e7 = n1 ∧ St M0 H H' [F, [(i_n0, AObj.row false ([.int .i64 n0_0]))], [(i_n1, AObj.row false ([.slice p_n2 k_n2 c_n2]))], oseg p_n2 (bls n2), [(i_n3, AObj.row false ([.func (.func 65) #[] #[.pointer (some ⟨i_n4, 0, none⟩), .pointer (some ⟨i_n5, 0, none⟩), .pointer (some ⟨i_n6, 0, none⟩), .pointer (some ⟨i_n7, 0, none⟩)]]))], [(i_n4, AObj.row false ([.int .i64 n4_0]))], [(i_n5, AObj.row false ([.int .i64 n5_0]))], [(i_n6, AObj.row false ([.int .i64 n6_0]))], [(i_n7, AObj.row false ([.int .i64 n7_0]))], [(i_n8, AObj.row false ([.slice p_n9 k_n9 c_n9]))], oseg p_n9 (bls n9), [(i_n10, AObj.row false ([.func (.func 78) #[] #[.pointer (some ⟨i_n0, 0, none⟩), .pointer (some ⟨i_n1, 0, none⟩), .pointer (some ⟨i_n3, 0, none⟩), .pointer (some ⟨i_n8, 0, none⟩), .pointer (some ⟨i_n10, 0, none⟩)]]))]] ∧ Pin F F ∧ PT F p_a0 c_a0 T_a0 ∧ (a0 = [] → p_a0 = none) ∧ Am.Sub [(0, .slice p_a0 a0.length c_a0), (1, .pointer (some ⟨i_n0, 0, none⟩)), (2, .pointer (some ⟨i_n1, 0, none⟩)), (3, .pointer (some ⟨i_n3, 0, none⟩)), (4, .pointer (some ⟨i_n8, 0, none⟩)), (5, .pointer (some ⟨i_n10, 0, none⟩)), (8, .int .i64 b3), (20, .bool e7)] t') ?_ ?_
   ·skip
    refine AX.region (AO.m rfl rfl (AO.c rfl (s_load isAgg2 rfl (row_cell (c3.get (k := 1) rfl) rfl)) (AO.p rfl (p_lss rfl rfl) (AO.m rfl rfl (AO.cases (d := 15) rfl (fun e8 => ?_) (fun e8 => ?_))))))
    ·have n3 := bif_t e8 i3
     refine AO.gc rfl rfl rfl (s_load isAgg76 rfl (row_cell (c3.get (k := 2) rfl) rfl)) (AO.gp rfl rfl rfl (p_move rfl) ?_)
     obtain ⟨d6, n4⟩ := chk_some n3
     refine AO.gp rfl rfl rfl (s_indexV (q := b3.toNat) underlying76 sizeOf4 rfl (s_n2.at (inR_pos d6)) rfl d6 (z1 _)) (AO.gc rfl rfl rfl (s_load isAgg4 rfl (row_cell (c3.oat (k := 3) rfl (s_n2.at (inR_pos d6))) (bls_get (lt_len l_n2 (inR_lt d6))))) (AO.p rfl (p_pickT rfl rfl) (AO.nil ?_)))
     have n5 := c3.front 11 rfl
     have n6 := n5.front 11 rfl
     have n7 := n6.front 11 rfl
     have n8 := n7.front 11 rfl
     have o0 := n8.front 11 rfl
     have o1 := o0.front 11 rfl
     have o2 := o1.front 11 rfl
     have o3 := o2.front 11 rfl
     have o4 := o3.front 11 rfl
     have o5 := o4.front 11 rfl
     have o6 := o5.front 11 rfl
     have o7 := o6.front 11 rfl
     exact ⟨(rdb n2 b3.toNat), (some_inj n4), o7, h8, h9, i0, Sub.k8 rfl rfl rfl rfl rfl rfl rfl rfl (Sub.nil _)⟩
    ·have o8 := bif_f e8 i3
     refine AO.gn rfl rfl rfl (AO.gn rfl rfl rfl (AO.gn rfl rfl rfl (AO.gn rfl rfl rfl (AO.p rfl (p_pickF rfl rfl) (AO.nil ?_)))))
     have o9 := c3.front 11 rfl
     have p0 := o9.front 11 rfl
     have p1 := p0.front 11 rfl
     have p2 := p1.front 11 rfl
     have p3 := p2.front 11 rfl
     have p4 := p3.front 11 rfl
     have p5 := p4.front 11 rfl
     have p6 := p5.front 11 rfl
     have p7 := p6.front 11 rfl
     have p8 := p7.front 11 rfl
     have p9 := p8.front 11 rfl
     have q0 := p9.front 11 rfl
     exact ⟨false, (some_inj o8), q0, h8, h9, i0, Sub.k8 rfl rfl rfl rfl rfl rfl rfl rfl (Sub.nil _)⟩
   ·rintro t' R2 ⟨e7, rfl, i5, i6, i7, i8, q1⟩
    refine AX.sub q1 (AX.cond rfl (fun e9 => ?_) (fun e9 => ?_))
    ·have q2 := bif_t e9 i4
     refine AX.skip (AX.block (AX.region (AO.m rfl rfl ?_)))
     obtain ⟨q3, q4⟩ := chk_some q2
     refine AO.p rfl (p_addE rfl rfl q3) (AO.a rfl rfl (AO.nil ?_))
     obtain rfl := some_inj q4
     have q5 := i5.front 11 rfl
     have q6 := q5.front 11 rfl
     have q7 := q6.front 11 rfl
     have q8 := q7.front 11 rfl
     have q9 := q8.front 11 rfl
     have r1 := q9.front 11 rfl
     have r2 := r1.front 11 rfl
     have r3 := r2.front 11 rfl
     have r4 := r3.front 11 rfl
     have r5 := r4.front 11 rfl
     have r6 := r5.front 11 rfl
     have r7 := r6.front 11 rfl
     exact ⟨b3 + 1, i2, (b3 + 1), rfl, r7, i6, i7, i8, Sub.k4 rfl rfl rfl rfl (Sub.k2 rfl rfl (Sub.k1 rfl (Sub.nil _)))⟩
    ·have r8 := bif_f e9 i4
     refine AX.exit ?_
     obtain rfl := some_inj r8
     have r9 := i5.front 11 rfl
     have s0 := r9.front 11 rfl
     have s1 := s0.front 11 rfl
     have s2 := s1.front 11 rfl
     have s3 := s2.front 11 rfl
     have s4 := s3.front 11 rfl
     have s5 := s4.front 11 rfl
     have s6 := s5.front 11 rfl
     have s7 := s6.front 11 rfl
     have s8 := s7.front 11 rfl
     have s9 := s8.front 11 rfl
     have t0 := s9.front 11 rfl
     exact ⟨b3, i2, t0, i6, i7, i8, Sub.k4 rfl rfl rfl rfl (Sub.k2 rfl rfl (Sub.k1 rfl (Sub.nil _)))⟩
 ·rintro t' i9 ⟨a1, rfl, d7, j0, j1, t1, t2⟩
  refine AX.sub t2 (AX.seq (AX.sr (AO.m rfl rfl (AO.c rfl (s_load isAgg2 rfl (row_cell (d7.get (k := 1) rfl) rfl)) (AO.p rfl (p_eql rfl rfl) (AO.nil (AX.cond rfl (fun f0 => ?_) (fun f0 => ?_))))))))
  ·have t3 := bif_t f0 h7
   refine AX.sr (AO.c rfl (s_load isAgg65 rfl (row_cell (d7.get (k := 4) rfl) rfl)) (AO.m rfl rfl ?_))
   have t4 := d7.front 0 rfl
   have t5 := t4.front 8 rfl
   have t6 := t5.front 8 rfl
   have t7 := t6.front 8 rfl
   have t8 := t7.front 8 rfl
   have f1 : St M0 H i9 [[(i_n4, AObj.row false ([.int .i64 n4_0]))], [(i_n5, AObj.row false ([.int .i64 n5_0]))], [(i_n6, AObj.row false ([.int .i64 n6_0]))], [(i_n7, AObj.row false ([.int .i64 n7_0]))], F, [(i_n0, AObj.row false ([.int .i64 n0_0]))], [(i_n1, AObj.row false ([.slice p_n2 k_n2 c_n2]))], oseg p_n2 (bls n2), [(i_n3, AObj.row false ([.func (.func 65) #[] #[.pointer (some ⟨i_n4, 0, none⟩), .pointer (some ⟨i_n5, 0, none⟩), .pointer (some ⟨i_n6, 0, none⟩), .pointer (some ⟨i_n7, 0, none⟩)]]))], [(i_n8, AObj.row false ([.slice p_n9 k_n9 c_n9]))], oseg p_n9 (bls n9), [(i_n10, AObj.row false ([.func (.func 78) #[] #[.pointer (some ⟨i_n0, 0, none⟩), .pointer (some ⟨i_n1, 0, none⟩), .pointer (some ⟨i_n3, 0, none⟩), .pointer (some ⟨i_n8, 0, none⟩), .pointer (some ⟨i_n10, 0, none⟩)]]))]] := t8
   obtain ⟨⟨t9, u0, u1, u2⟩, u3, u4⟩ := bnd_some t3
   obtain ⟨_, R3, u5, u6, rfl, u7, u8⟩ := W_impl_CountStarters_1 fu i9 F p_a0 c_a0 T_a0 a0 t_a0 j1 i_n4 n4_0 i_n5 n5_0 i_n6 n6_0 i_n7 n7_0 (St.fnodup (A := [[(i_n4, AObj.row false ([.int .i64 n4_0]))], [(i_n5, AObj.row false ([.int .i64 n5_0]))], [(i_n6, AObj.row false ([.int .i64 n6_0]))], [(i_n7, AObj.row false ([.int .i64 n7_0]))], F]) f1) (St.fmem (A := [[(i_n4, AObj.row false ([.int .i64 n4_0]))], [(i_n5, AObj.row false ([.int .i64 n5_0]))], [(i_n6, AObj.row false ([.int .i64 n6_0]))], [(i_n7, AObj.row false ([.int .i64 n7_0]))], F]) f1) t9 u0 u1 u2 u3
   have u9 := St.callM (A := [[(i_n4, AObj.row false ([.int .i64 n4_0]))], [(i_n5, AObj.row false ([.int .i64 n5_0]))], [(i_n6, AObj.row false ([.int .i64 n6_0]))], [(i_n7, AObj.row false ([.int .i64 n7_0]))], F]) f1 u7 (fun j h => h)
   refine AO.c rfl (o_callV (vs := [.slice p_a0 a0.length c_a0]) rfl rfl Tryz.call65 u5) (AO.a rfl rfl (AO.nil (AX.ret ?_)))
   obtain ⟨rfl, v0⟩ := Prod.mk.inj (some_inj u4)
   obtain ⟨rfl, v1⟩ := Prod.mk.inj v0
   obtain ⟨rfl, v2⟩ := Prod.mk.inj v1
   obtain ⟨rfl, v3⟩ := Prod.mk.inj v2
   obtain ⟨rfl, rfl⟩ := Prod.mk.inj v3
   have v4 := u9.front 4 rfl
   have v5 := v4.front 11 rfl
   have v6 := v5.front 11 rfl
   have v7 := v6.front 11 rfl
   have v8 := v7.front 7 rfl
   have v9 := v8.front 7 rfl
   have w0 := v9.front 7 rfl
   have w1 := w0.front 7 rfl
   have w2 := w1.front 11 rfl
   have w3 := w2.front 11 rfl
   have w4 := w3.front 11 rfl
   have w5 := w4.front 11 rfl
   exact ⟨.inr rfl, _, res1 rfl (rv_tmp rfl), u6, rfl, w5, l_n2, l_n9, (j0.mono u8)⟩
  ·have w6 := bif_f f0 h7
   refine AX.skip (AX.seq (AX.sr (AO.m rfl rfl ?_)))
   obtain ⟨w7, w8⟩ := chk_some w6
   refine AO.p rfl (p_addE rfl rfl w7) (AO.a rfl rfl (AO.nil ?_))
   obtain ⟨j2, w9, j3⟩ := bnd_some w8
   refine AX.cutS (fun t' H' => ∃ (d8 : List Bool) (f2 : Int) (f3 : Int) (f4 : Int) (d9 : List Bool) (e0 : Sg), .inl (d8, f2, f3, f4, d9) = j2 ∧ St M0 H H' [e0, [(i_n0, AObj.row false ([.int .i64 n0_0]))], [(i_n1, AObj.row false ([.slice p_n2 k_n2 c_n2]))], oseg p_n2 (bls d8), [(i_n3, AObj.row false ([.func (.func 65) #[] #[.pointer (some ⟨i_n4, 0, none⟩), .pointer (some ⟨i_n5, 0, none⟩), .pointer (some ⟨i_n6, 0, none⟩), .pointer (some ⟨i_n7, 0, none⟩)]]))], [(i_n4, AObj.row false ([.int .i64 f2]))], [(i_n5, AObj.row false ([.int .i64 n5_0]))], [(i_n6, AObj.row false ([.int .i64 f3]))], [(i_n7, AObj.row false ([.int .i64 f4]))], [(i_n8, AObj.row false ([.slice p_n9 k_n9 c_n9]))], oseg p_n9 (bls d9), [(i_n10, AObj.row false ([.func (.func 78) #[] #[.pointer (some ⟨i_n0, 0, none⟩), .pointer (some ⟨i_n1, 0, none⟩), .pointer (some ⟨i_n3, 0, none⟩), .pointer (some ⟨i_n8, 0, none⟩), .pointer (some ⟨i_n10, 0, none⟩)]]))]] ∧ Pin e0 F ∧ d8.length = k_n2 ∧ d9.length = k_n9 ∧ Am.Sub [] t') ?_ ?_
   ·refine AX.block (AX.loopF (fun s' t' H' => ∃ (a3 : List Bool) (a5 : Int) (a6 : Int) (a7 : Int) (a4 : List Bool) (a2 : Int) (a8 : Sg), (a3, a5, a6, a7, a4, a2) = s' ∧ St M0 H H' [a8, [(i_n0, AObj.row false ([.int .i64 n0_0]))], [(i_n1, AObj.row false ([.slice p_n2 k_n2 c_n2]))], oseg p_n2 (bls a3), [(i_n3, AObj.row false ([.func (.func 65) #[] #[.pointer (some ⟨i_n4, 0, none⟩), .pointer (some ⟨i_n5, 0, none⟩), .pointer (some ⟨i_n6, 0, none⟩), .pointer (some ⟨i_n7, 0, none⟩)]]))], [(i_n4, AObj.row false ([.int .i64 a5]))], [(i_n5, AObj.row false ([.int .i64 n5_0]))], [(i_n6, AObj.row false ([.int .i64 a6]))], [(i_n7, AObj.row false ([.int .i64 a7]))], [(i_n8, AObj.row false ([.slice p_n9 k_n9 c_n9]))], oseg p_n9 (bls a4), [(i_n10, AObj.row false ([.func (.func 78) #[] #[.pointer (some ⟨i_n0, 0, none⟩), .pointer (some ⟨i_n1, 0, none⟩), .pointer (some ⟨i_n3, 0, none⟩), .pointer (some ⟨i_n8, 0, none⟩), .pointer (some ⟨i_n10, 0, none⟩)]]))]] ∧ Pin a8 F ∧ a3.length = k_n2 ∧ a4.length = k_n9 ∧ PT a8 p_a0 c_a0 T_a0 ∧ (a0 = [] → p_a0 = none) ∧ Am.Sub [(0, .slice p_a0 a0.length c_a0), (1, .pointer (some ⟨i_n0, 0, none⟩)), (2, .pointer (some ⟨i_n1, 0, none⟩)), (4, .pointer (some ⟨i_n8, 0, none⟩)), (5, .pointer (some ⟨i_n10, 0, none⟩)), (8, .int .i64 a1), (9, .int .i64 a2)] t') w9 ?_ ?_)
    ·skip
     have x0 := d7.front 11 rfl
     have x1 := x0.front 11 rfl
     have x2 := x1.front 11 rfl
     have x3 := x2.front 11 rfl
     have x4 := x3.front 11 rfl
     have x5 := x4.front 11 rfl
     have x6 := x5.front 11 rfl
     have x7 := x6.front 11 rfl
     have x8 := x7.front 11 rfl
     have x9 := x8.front 11 rfl
     have y0 := x9.front 11 rfl
     have y1 := y0.front 11 rfl
     exact ⟨n2, n4_0, n6_0, n7_0, n9, (a1 + 1), F, rfl, y1, j0, l_n2, l_n9, j1, t1, Sub.k4 rfl rfl rfl rfl (Sub.k2 rfl rfl (Sub.k1 rfl (Sub.nil _)))⟩
    ·rintro R4 _ t' R5 ⟨a3, a5, a6, a7, a4, a2, a8, rfl, b4, f5, b8, c4, j4, j5, y2⟩ R6 f6 e1
     refine AX.sub y2 ?_
     unfold D_impl_starters_1__impl_CountStarters_1_s1 at f6
     refine AX.seq (AX.sr (AO.m rfl rfl (AO.c rfl (s_load isAgg2 rfl (row_cell (b4.get (k := 1) rfl) rfl)) (AO.p rfl (p_lss rfl rfl) (AO.nil (AX.cond rfl (fun f7 => ?_) (fun f7 => ?_)))))))
     ·have y3 := bif_t f7 f6
      refine AX.skip (AX.seq (AX.block (AX.sr (AO.m rfl rfl (AO.m rfl rfl ?_)))))
      obtain ⟨y4, y5⟩ := chk_some y3
      refine AO.p rfl (p_subE rfl rfl y4) (AO.c rfl (s_load isAgg2 rfl (row_cell (b4.get (k := 1) rfl) rfl)) (AO.m rfl rfl ?_))
      obtain ⟨y6, y7⟩ := chk_some y5
      refine AO.p rfl (p_subE rfl rfl y6) (AO.m rfl rfl ?_)
      obtain ⟨y8, y9⟩ := chk_some y7
      refine AO.p rfl (p_addE rfl rfl y8) (AO.p rfl (p_min rfl rfl rfl) (AO.a rfl rfl (AO.nil (AX.seq ?_))))
      obtain ⟨z0, z2, j6⟩ := bnd_some y9
      refine AX.cut (fun t' H' => ∃ (f8 : Bool), f8 = z0 ∧ St M0 H H' [a8, [(i_n0, AObj.row false ([.int .i64 n0_0]))], [(i_n1, AObj.row false ([.slice p_n2 k_n2 c_n2]))], oseg p_n2 (bls a3), [(i_n3, AObj.row false ([.func (.func 65) #[] #[.pointer (some ⟨i_n4, 0, none⟩), .pointer (some ⟨i_n5, 0, none⟩), .pointer (some ⟨i_n6, 0, none⟩), .pointer (some ⟨i_n7, 0, none⟩)]]))], [(i_n4, AObj.row false ([.int .i64 a5]))], [(i_n5, AObj.row false ([.int .i64 n5_0]))], [(i_n6, AObj.row false ([.int .i64 a6]))], [(i_n7, AObj.row false ([.int .i64 a7]))], [(i_n8, AObj.row false ([.slice p_n9 k_n9 c_n9]))], oseg p_n9 (bls a4), [(i_n10, AObj.row false ([.func (.func 78) #[] #[.pointer (some ⟨i_n0, 0, none⟩), .pointer (some ⟨i_n1, 0, none⟩), .pointer (some ⟨i_n3, 0, none⟩), .pointer (some ⟨i_n8, 0, none⟩), .pointer (some ⟨i_n10, 0, none⟩)]]))]] ∧ Pin a8 F ∧ PT a8 p_a0 c_a0 T_a0 ∧ (a0 = [] → p_a0 = none) ∧ Am.Sub [(0, .slice p_a0 a0.length c_a0), (1, .pointer (some ⟨i_n0, 0, none⟩)), (2, .pointer (some ⟨i_n1, 0, none⟩)), (4, .pointer (some ⟨i_n8, 0, none⟩)), (5, .pointer (some ⟨i_n10, 0, none⟩)), (8, .int .i64 a1), (9, .int .i64 a2), (10, .int .i64 (if n0_0 - a2 + a1 < a2 - a1 then n0_0 - a2 + a1 else a2 - a1)), (54, .bool f8)] t') ?_ ?_
      ·skip
       refine AX.region (AO.c rfl (s_load isAgg76 rfl (row_cell (b4.get (k := 2) rfl) rfl)) (AO.m rfl rfl ?_))
       obtain ⟨e2, j7⟩ := chk_some z2
       refine AO.p rfl (s_indexV (q := a2.toNat) underlying76 sizeOf4 rfl (s_n2.at (inR_pos e2)) rfl e2 (z1 _)) (AO.c rfl (s_load isAgg4 rfl (row_cell (b4.oat (k := 3) rfl (s_n2.at (inR_pos e2))) (bls_get (lt_len b8 (inR_lt e2))))) (AO.m rfl rfl (AO.cases (d := 49) rfl (fun f9 => ?_) (fun f9 => ?_))))
       ·have z3 := bif_t f9 j7
        refine AO.gn rfl rfl rfl (AO.gn rfl rfl rfl (AO.gn rfl rfl rfl (AO.gn rfl rfl rfl (AO.p rfl (p_pickT rfl rfl) (AO.nil ?_)))))
        have z4 := b4.front 11 rfl
        have z5 := z4.front 11 rfl
        have z6 := z5.front 11 rfl
        have z7 := z6.front 11 rfl
        have z8 := z7.front 11 rfl
        have z9 := z8.front 11 rfl
        have A0 := z9.front 11 rfl
        have A1 := A0.front 11 rfl
        have A2 := A1.front 11 rfl
        have A3 := A2.front 11 rfl
        have A4 := A3.front 11 rfl
        have A5 := A4.front 11 rfl
        exact ⟨true, (some_inj z3), A5, f5, j4, j5, Sub.k8 rfl rfl rfl rfl rfl rfl rfl rfl (Sub.k1 rfl (Sub.nil _))⟩
       ·have A6 := bif_f f9 j7
        refine AO.gc rfl rfl rfl (s_load isAgg76 rfl (row_cell (b4.get (k := 9) rfl) rfl)) (AO.gp rfl rfl rfl (p_move rfl) ?_)
        obtain ⟨e3, A7⟩ := chk_some A6
        refine AO.gp rfl rfl rfl (s_indexV (q := (if n0_0 - a2 + a1 < a2 - a1 then n0_0 - a2 + a1 else a2 - a1).toNat) underlying76 sizeOf4 rfl (s_n9.at (inR_pos e3)) rfl e3 (z1 _)) (AO.gc rfl rfl rfl (s_load isAgg4 rfl (row_cell (b4.oat (k := 10) rfl (s_n9.at (inR_pos e3))) (bls_get (lt_len c4 (inR_lt e3))))) (AO.p rfl (p_pickF rfl rfl) (AO.nil ?_)))
        have A8 := b4.front 11 rfl
        have A9 := A8.front 11 rfl
        have B0 := A9.front 11 rfl
        have B1 := B0.front 11 rfl
        have B2 := B1.front 11 rfl
        have B3 := B2.front 11 rfl
        have B4 := B3.front 11 rfl
        have B5 := B4.front 11 rfl
        have B6 := B5.front 11 rfl
        have B7 := B6.front 11 rfl
        have B8 := B7.front 11 rfl
        have B9 := B8.front 11 rfl
        exact ⟨(rdb a4 ((if n0_0 - a2 + a1 < a2 - a1 then n0_0 - a2 + a1 else a2 - a1).toNat)), (some_inj A7), B9, f5, j4, j5, Sub.k8 rfl rfl rfl rfl rfl rfl rfl rfl (Sub.k1 rfl (Sub.nil _))⟩
      ·rintro t' R7 ⟨f8, rfl, a9, g0, g1, g2, C0⟩
       refine AX.sub C0 (AX.cond rfl (fun g3 => ?_) (fun g3 => ?_))
       ·have C1 := bif_t g3 j6
        refine AX.exit (AX.region (AO.m rfl rfl ?_))
        obtain ⟨C2, C3⟩ := chk_some C1
        refine AO.p rfl (p_addE rfl rfl C2) (AO.a rfl rfl (AO.nil ?_))
        obtain rfl := some_inj C3
        have C4 := a9.front 11 rfl
        have C5 := C4.front 11 rfl
        have C6 := C5.front 11 rfl
        have C7 := C6.front 11 rfl
        have C8 := C7.front 11 rfl
        have C9 := C8.front 11 rfl
        have D0 := C9.front 11 rfl
        have D1 := D0.front 11 rfl
        have D2 := D1.front 11 rfl
        have D3 := D2.front 11 rfl
        have D4 := D3.front 11 rfl
        have D5 := D4.front 11 rfl
        exact ⟨(a3, a5, a6, a7, a4, a2 + 1), e1, a3, a5, a6, a7, a4, (a2 + 1), a8, rfl, D5, g0, b8, c4, g1, g2, Sub.k4 rfl rfl rfl rfl (Sub.k2 rfl rfl (Sub.k1 rfl (Sub.nil _)))⟩
       ·have D6 := bif_f g3 j6
        refine AX.skip (AX.seq (DR.startS [false, false, false, false, false, false, false, true, false, true, false, true] mix (by kernel_rfl) (fun hst => ?_)))
        refine DR.r rfl rfl (r_load rfl isAgg76) (one_read (row_cell (a9.get (k := 2) rfl) rfl) (a9.oin (k := 3) rfl s_n2).bel) (DR.p rfl rfl (p_move rfl) (DR.r rfl rfl (r_load rfl isAgg76) (one_read (row_cell (a9.get (k := 2) rfl) rfl) (a9.oin (k := 3) rfl s_n2).bel) (DR.p rfl rfl (p_move rfl) (DR.r rfl rfl (r_load rfl isAgg76) (one_read (row_cell (a9.get (k := 9) rfl) rfl) (a9.oin (k := 10) rfl s_n9).bel) (DR.p rfl rfl (p_move rfl) ?_)))))
        obtain ⟨c5, D7⟩ := chk_some D6
        refine DR.p rfl rfl (s_indexV (q := a1.toNat) underlying76 sizeOf4 rfl (s_n2.at (inR_pos c5)) rfl c5 (z1 _)) ?_
        obtain ⟨D8, j8, D9⟩ := a9.oset (k := 3) (p := p_n2) rfl (s_n2.at (inR_pos c5)) (bls (a3.set a1.toNat true))
        have c6 : St M0 H D8 [a8, [(i_n0, AObj.row false ([.int .i64 n0_0]))], [(i_n1, AObj.row false ([.slice p_n2 k_n2 c_n2]))], oseg p_n2 (bls (a3.set a1.toNat true)), [(i_n3, AObj.row false ([.func (.func 65) #[] #[.pointer (some ⟨i_n4, 0, none⟩), .pointer (some ⟨i_n5, 0, none⟩), .pointer (some ⟨i_n6, 0, none⟩), .pointer (some ⟨i_n7, 0, none⟩)]]))], [(i_n4, AObj.row false ([.int .i64 a5]))], [(i_n5, AObj.row false ([.int .i64 n5_0]))], [(i_n6, AObj.row false ([.int .i64 a6]))], [(i_n7, AObj.row false ([.int .i64 a7]))], [(i_n8, AObj.row false ([.slice p_n9 k_n9 c_n9]))], oseg p_n9 (bls a4), [(i_n10, AObj.row false ([.func (.func 78) #[] #[.pointer (some ⟨i_n0, 0, none⟩), .pointer (some ⟨i_n1, 0, none⟩), .pointer (some ⟨i_n3, 0, none⟩), .pointer (some ⟨i_n8, 0, none⟩), .pointer (some ⟨i_n10, 0, none⟩)]]))]] := D9
        refine DR.s rfl (s_store sizeOf4 rfl rfl rfl (a9.oat (k := 3) rfl (s_n2.at (inR_pos c5))) (lt_len ((bls_length _).trans b8) (inR_lt c5)) ((congrArg (fun l => List.set _ _ (AObj.row false l)) (bls_set _ _ _)).trans j8)) (set_le j8) ?_
        obtain ⟨c7, E0⟩ := chk_some D7
        refine DR.p rfl rfl (s_indexV (q := a2.toNat) underlying76 sizeOf4 rfl (s_n2.at (inR_pos c7)) rfl c7 (z1 _)) ?_
        obtain ⟨E1, j9, E2⟩ := c6.oset (k := 3) (p := p_n2) rfl (s_n2.at (inR_pos c7)) (bls ((a3.set a1.toNat true).set a2.toNat true))
        have g4 : St M0 H E1 [a8, [(i_n0, AObj.row false ([.int .i64 n0_0]))], [(i_n1, AObj.row false ([.slice p_n2 k_n2 c_n2]))], oseg p_n2 (bls ((a3.set a1.toNat true).set a2.toNat true)), [(i_n3, AObj.row false ([.func (.func 65) #[] #[.pointer (some ⟨i_n4, 0, none⟩), .pointer (some ⟨i_n5, 0, none⟩), .pointer (some ⟨i_n6, 0, none⟩), .pointer (some ⟨i_n7, 0, none⟩)]]))], [(i_n4, AObj.row false ([.int .i64 a5]))], [(i_n5, AObj.row false ([.int .i64 n5_0]))], [(i_n6, AObj.row false ([.int .i64 a6]))], [(i_n7, AObj.row false ([.int .i64 a7]))], [(i_n8, AObj.row false ([.slice p_n9 k_n9 c_n9]))], oseg p_n9 (bls a4), [(i_n10, AObj.row false ([.func (.func 78) #[] #[.pointer (some ⟨i_n0, 0, none⟩), .pointer (some ⟨i_n1, 0, none⟩), .pointer (some ⟨i_n3, 0, none⟩), .pointer (some ⟨i_n8, 0, none⟩), .pointer (some ⟨i_n10, 0, none⟩)]]))]] := E2
        refine DR.s rfl (s_store sizeOf4 rfl rfl rfl (c6.oat (k := 3) rfl (s_n2.at (inR_pos c7))) (lt_len ((bls_length _).trans (len_set b8)) (inR_lt c7)) ((congrArg (fun l => List.set _ _ (AObj.row false l)) (bls_set _ _ _)).trans j9)) (set_le j9) ?_
        obtain ⟨c8, E3⟩ := chk_some E0
        refine DR.p rfl rfl (s_indexV (q := (if n0_0 - a2 + a1 < a2 - a1 then n0_0 - a2 + a1 else a2 - a1).toNat) underlying76 sizeOf4 rfl (s_n9.at (inR_pos c8)) rfl c8 (z1 _)) ?_
        obtain ⟨g5, k0, E4⟩ := g4.oset (k := 10) (p := p_n9) rfl (s_n9.at (inR_pos c8)) (bls (a4.set ((if n0_0 - a2 + a1 < a2 - a1 then n0_0 - a2 + a1 else a2 - a1).toNat) true))
        have b5 : St M0 H g5 [a8, [(i_n0, AObj.row false ([.int .i64 n0_0]))], [(i_n1, AObj.row false ([.slice p_n2 k_n2 c_n2]))], oseg p_n2 (bls ((a3.set a1.toNat true).set a2.toNat true)), [(i_n3, AObj.row false ([.func (.func 65) #[] #[.pointer (some ⟨i_n4, 0, none⟩), .pointer (some ⟨i_n5, 0, none⟩), .pointer (some ⟨i_n6, 0, none⟩), .pointer (some ⟨i_n7, 0, none⟩)]]))], [(i_n4, AObj.row false ([.int .i64 a5]))], [(i_n5, AObj.row false ([.int .i64 n5_0]))], [(i_n6, AObj.row false ([.int .i64 a6]))], [(i_n7, AObj.row false ([.int .i64 a7]))], [(i_n8, AObj.row false ([.slice p_n9 k_n9 c_n9]))], oseg p_n9 (bls (a4.set ((if n0_0 - a2 + a1 < a2 - a1 then n0_0 - a2 + a1 else a2 - a1).toNat) true)), [(i_n10, AObj.row false ([.func (.func 78) #[] #[.pointer (some ⟨i_n0, 0, none⟩), .pointer (some ⟨i_n1, 0, none⟩), .pointer (some ⟨i_n3, 0, none⟩), .pointer (some ⟨i_n8, 0, none⟩), .pointer (some ⟨i_n10, 0, none⟩)]]))]] := E4
        refine DR.s rfl (s_store sizeOf4 rfl rfl rfl (g4.oat (k := 10) rfl (s_n9.at (inR_pos c8))) (lt_len ((bls_length _).trans c4) (inR_lt c8)) ((congrArg (fun l => List.set _ _ (AObj.row false l)) (bls_set _ _ _)).trans k0)) (set_le k0) (DR.nil 12 [(2, 7), (4, 7), (4, 9)] hst (by kernel_rfl) ⟨(rd1 (fun _ => (c6.get (k := 2) rfl).trans (a9.get (k := 2) rfl).symm)), (rd1 (fun _ => (c6.get (k := 9) rfl).trans (a9.get (k := 9) rfl).symm)), (rd1 (fun _ => (g4.get (k := 9) rfl).trans (c6.get (k := 9) rfl).symm)), trivial⟩ (AX.seq (DR.startS [false, false, true, false, false, false, false, true, true, false] mix (by kernel_rfl) (fun hst => ?_))))
        refine DR.r rfl rfl (r_load rfl isAgg65) (one_read (row_cell (b5.get (k := 11) rfl) rfl) (bel_fn (bel_cons (.ptr _ _ (b5.lt (k := 1) rfl)) (bel_cons (.ptr _ _ (b5.lt (k := 2) rfl)) (bel_cons (.ptr _ _ (b5.lt (k := 4) rfl)) (bel_cons (.ptr _ _ (b5.lt (k := 9) rfl)) (bel_cons (.ptr _ _ (b5.lt (k := 11) rfl)) bel_nil))))))) (DR.p rfl rfl (p_move rfl) ?_)
        have E5 := b5.front 0 rfl
        have g6 : St M0 H g5 [a8, [(i_n0, AObj.row false ([.int .i64 n0_0]))], [(i_n1, AObj.row false ([.slice p_n2 k_n2 c_n2]))], oseg p_n2 (bls ((a3.set a1.toNat true).set a2.toNat true)), [(i_n3, AObj.row false ([.func (.func 65) #[] #[.pointer (some ⟨i_n4, 0, none⟩), .pointer (some ⟨i_n5, 0, none⟩), .pointer (some ⟨i_n6, 0, none⟩), .pointer (some ⟨i_n7, 0, none⟩)]]))], [(i_n4, AObj.row false ([.int .i64 a5]))], [(i_n5, AObj.row false ([.int .i64 n5_0]))], [(i_n6, AObj.row false ([.int .i64 a6]))], [(i_n7, AObj.row false ([.int .i64 a7]))], [(i_n8, AObj.row false ([.slice p_n9 k_n9 c_n9]))], oseg p_n9 (bls (a4.set ((if n0_0 - a2 + a1 < a2 - a1 then n0_0 - a2 + a1 else a2 - a1).toNat) true)), [(i_n10, AObj.row false ([.func (.func 78) #[] #[.pointer (some ⟨i_n0, 0, none⟩), .pointer (some ⟨i_n1, 0, none⟩), .pointer (some ⟨i_n3, 0, none⟩), .pointer (some ⟨i_n8, 0, none⟩), .pointer (some ⟨i_n10, 0, none⟩)]]))]] := E5
        obtain ⟨b1, E6, E7⟩ := bnd_some E3
        obtain ⟨_, R8, E8, R9, S1, b9, E9, rfl, k3, k5, g7, F0, g8⟩ := W_slices_Clone_SSint64_Sint64 fu g5 a8 p_a0 c_a0 T_a0 a0 t_a0 g1 g2 (St.fnodup (A := [a8]) g6) (St.fmem (A := [a8]) g6) b1 E6
        have k6 := St.callM (A := [a8]) g6 k3 (fun j h => h)
        refine DR.w rfl rfl (o_call (vs := [.slice p_a0 a0.length c_a0]) rfl Tryz.call79 E8) (k3.len) (DR.p rfl rfl (p_move rfl) (DR.p rfl rfl (p_move rfl) ?_))
        obtain ⟨S2, b0, F1, F2, F3⟩ := k6.new (AObj.row false (ints [a1, a2]))
        refine DR.a rfl rfl F1 F2 (a_buildInts (vs := [(0, .int .i64 a1), (1, .int .i64 a2)]) (xs := [a1, a2]) underlying27 sizeOf2 zeroValue2 rfl rfl (by decide) rfl rfl) ?_
        obtain ⟨S3, F4, F5, F6, F7⟩ := F3.new (AObj.row false (tcells ([((some (Addr.mk b0 0 none)), 2, [a1, a2])])))
        have e4 := (F7.front 1 rfl).tone (some (Addr.mk b0 0 none)) 2 [a1, a2] rfl
        refine DR.a rfl rfl F5 F6 (a_buildT1 (X := [((some (Addr.mk b0 0 none)), 2, [a1, a2])]) (n := 2) rfl underlying24 sizeOf27 zeroValue27 rfl rfl) ?_
        obtain ⟨F8, F9⟩ := chk_some E7
        obtain ⟨c9, g9, e5, k7, G0, G1⟩ := e4.app (k := 2) rfl k5 (tcells ([((some (Addr.mk b0 0 none)), 2, [a1, a2])])) 1 (tc_len1 rfl rfl)
        have G2 := G0.cellsEq (k := 2) (us' := tcells (b9 ++ [((some (Addr.mk b0 0 none)), 2, [a1, a2])])) (tcells_app _ _).symm rfl
        have G3 : Sb c9 ((b1 ++ [[a1, a2]]).length) g9 1 := (show b1.length + 1 = (b1 ++ [[a1, a2]]).length from len_app (a := b1) (b := [[a1, a2]]) rfl rfl) ▸ G1
        have G4 := G2.front 3 rfl
        have G5 := G4.front 1 rfl
        have G6 : St M0 H e5 [tseg ([((some (Addr.mk b0 0 none)), 2, [a1, a2])]), E9, [(F4, AObj.row false (tcells ([((some (Addr.mk b0 0 none)), 2, [a1, a2])])))], oseg c9 (tcells (b9 ++ [((some (Addr.mk b0 0 none)), 2, [a1, a2])])), [(i_n0, AObj.row false ([.int .i64 n0_0]))], [(i_n1, AObj.row false ([.slice p_n2 k_n2 c_n2]))], oseg p_n2 (bls ((a3.set a1.toNat true).set a2.toNat true)), [(i_n3, AObj.row false ([.func (.func 65) #[] #[.pointer (some ⟨i_n4, 0, none⟩), .pointer (some ⟨i_n5, 0, none⟩), .pointer (some ⟨i_n6, 0, none⟩), .pointer (some ⟨i_n7, 0, none⟩)]]))], [(i_n4, AObj.row false ([.int .i64 a5]))], [(i_n5, AObj.row false ([.int .i64 n5_0]))], [(i_n6, AObj.row false ([.int .i64 a6]))], [(i_n7, AObj.row false ([.int .i64 a7]))], [(i_n8, AObj.row false ([.slice p_n9 k_n9 c_n9]))], oseg p_n9 (bls (a4.set ((if n0_0 - a2 + a1 < a2 - a1 then n0_0 - a2 + a1 else a2 - a1).toNat) true)), [(i_n10, AObj.row false ([.func (.func 78) #[] #[.pointer (some ⟨i_n0, 0, none⟩), .pointer (some ⟨i_n1, 0, none⟩), .pointer (some ⟨i_n3, 0, none⟩), .pointer (some ⟨i_n8, 0, none⟩), .pointer (some ⟨i_n10, 0, none⟩)]]))]] := G5
        obtain ⟨G7, h0, G8, G9⟩ := G6.poolRows (T := b9) F0 (TSb.one (sb_len rfl (Sb.lit (n := 2) (by decide))))
        have k9 := G9.drop 1 rfl
        refine DR.w rfl rfl (s_app (by_ := 24) (us := tcells b9) (vs := tcells ([((some (Addr.mk b0 0 none)), 2, [a1, a2])])) underlying24 underlying24 typeInfo27 sizeOf27 zeroValue27 rfl rfl rfl rfl rfl rfl rfl (e4.buf (k := 2) rfl k5 (tc_len1 g7 rfl)) (e4.oview (k := 1) rfl (Sb.lit (n := 1) (by decide)) (tc_len1 rfl rfl)) (tc_len1 rfl rfl) tcells_one F8 k7 (show b1.length + 1 = (b1 ++ [[a1, a2]]).length from len_app (a := b1) (b := [[a1, a2]]) rfl rfl)) (appR_len k7) ?_
        have H0 := k9.front 0 rfl
        have H1 := H0.front 1 rfl
        have H2 : St M0 H e5 [oseg c9 (tcells (b9 ++ [((some (Addr.mk b0 0 none)), 2, [a1, a2])])), G7, [(i_n0, AObj.row false ([.int .i64 n0_0]))], [(i_n1, AObj.row false ([.slice p_n2 k_n2 c_n2]))], oseg p_n2 (bls ((a3.set a1.toNat true).set a2.toNat true)), [(i_n3, AObj.row false ([.func (.func 65) #[] #[.pointer (some ⟨i_n4, 0, none⟩), .pointer (some ⟨i_n5, 0, none⟩), .pointer (some ⟨i_n6, 0, none⟩), .pointer (some ⟨i_n7, 0, none⟩)]]))], [(i_n4, AObj.row false ([.int .i64 a5]))], [(i_n5, AObj.row false ([.int .i64 n5_0]))], [(i_n6, AObj.row false ([.int .i64 a6]))], [(i_n7, AObj.row false ([.int .i64 a7]))], [(i_n8, AObj.row false ([.slice p_n9 k_n9 c_n9]))], oseg p_n9 (bls (a4.set ((if n0_0 - a2 + a1 < a2 - a1 then n0_0 - a2 + a1 else a2 - a1).toNat) true)), [(i_n10, AObj.row false ([.func (.func 78) #[] #[.pointer (some ⟨i_n0, 0, none⟩), .pointer (some ⟨i_n1, 0, none⟩), .pointer (some ⟨i_n3, 0, none⟩), .pointer (some ⟨i_n8, 0, none⟩), .pointer (some ⟨i_n10, 0, none⟩)]]))]] := H1
        obtain ⟨d0, h1, H3, H4⟩ := H2.poolHdr G8 G3 (tlen (trows_apps g7 rfl))
        obtain ⟨H5, H6⟩ := chk_some F9
        have H7 := H4.front 0 rfl
        have H8 := H7.front 11 rfl
        have H9 := H8.front 11 rfl
        have I0 := H9.front 11 rfl
        have I1 := I0.front 11 rfl
        have I2 := I1.front 11 rfl
        have I3 := I2.front 11 rfl
        have I4 := I3.front 11 rfl
        have I5 := I4.front 11 rfl
        have I6 := I5.front 11 rfl
        have I7 := I6.front 11 rfl
        have I8 := I7.front 11 rfl
        have h2 : St M0 H e5 [[(i_n0, AObj.row false ([.int .i64 n0_0]))], [(i_n1, AObj.row false ([.slice p_n2 k_n2 c_n2]))], oseg p_n2 (bls ((a3.set a1.toNat true).set a2.toNat true)), [(i_n3, AObj.row false ([.func (.func 65) #[] #[.pointer (some ⟨i_n4, 0, none⟩), .pointer (some ⟨i_n5, 0, none⟩), .pointer (some ⟨i_n6, 0, none⟩), .pointer (some ⟨i_n7, 0, none⟩)]]))], [(i_n4, AObj.row false ([.int .i64 a5]))], [(i_n5, AObj.row false ([.int .i64 n5_0]))], [(i_n6, AObj.row false ([.int .i64 a6]))], [(i_n7, AObj.row false ([.int .i64 a7]))], [(i_n8, AObj.row false ([.slice p_n9 k_n9 c_n9]))], oseg p_n9 (bls (a4.set ((if n0_0 - a2 + a1 < a2 - a1 then n0_0 - a2 + a1 else a2 - a1).toNat) true)), [(i_n10, AObj.row false ([.func (.func 78) #[] #[.pointer (some ⟨i_n0, 0, none⟩), .pointer (some ⟨i_n1, 0, none⟩), .pointer (some ⟨i_n3, 0, none⟩), .pointer (some ⟨i_n8, 0, none⟩), .pointer (some ⟨i_n10, 0, none⟩)]]))], d0] := I8
        obtain ⟨⟨I9, b6, c0, c1, c2, b7⟩, J0, J1⟩ := bnd_some H6
        obtain ⟨_, S4, J2, d1, rfl, l0, e6, h3, h4⟩ := ih e5 d0 c9 g9 (b9 ++ [((some (Addr.mk b0 0 none)), 2, [a1, a2])]) (b1 ++ [[a1, a2]]) (trows_apps g7 rfl) H3 (nil_pos2 H5) i_n0 n0_0 i_n1 p_n2 k_n2 c_n2 ((a3.set a1.toNat true).set a2.toNat true) (len_set (len_set b8)) s_n2 i_n3 i_n4 a5 i_n5 n5_0 i_n6 a6 i_n7 a7 i_n8 p_n9 k_n9 c_n9 (a4.set ((if n0_0 - a2 + a1 < a2 - a1 then n0_0 - a2 + a1 else a2 - a1).toNat) true) (len_set c4) s_n9 i_n10 (St.fnodup (A := [[(i_n0, AObj.row false ([.int .i64 n0_0]))], [(i_n1, AObj.row false ([.slice p_n2 k_n2 c_n2]))], oseg p_n2 (bls ((a3.set a1.toNat true).set a2.toNat true)), [(i_n3, AObj.row false ([.func (.func 65) #[] #[.pointer (some ⟨i_n4, 0, none⟩), .pointer (some ⟨i_n5, 0, none⟩), .pointer (some ⟨i_n6, 0, none⟩), .pointer (some ⟨i_n7, 0, none⟩)]]))], [(i_n4, AObj.row false ([.int .i64 a5]))], [(i_n5, AObj.row false ([.int .i64 n5_0]))], [(i_n6, AObj.row false ([.int .i64 a6]))], [(i_n7, AObj.row false ([.int .i64 a7]))], [(i_n8, AObj.row false ([.slice p_n9 k_n9 c_n9]))], oseg p_n9 (bls (a4.set ((if n0_0 - a2 + a1 < a2 - a1 then n0_0 - a2 + a1 else a2 - a1).toNat) true)), [(i_n10, AObj.row false ([.func (.func 78) #[] #[.pointer (some ⟨i_n0, 0, none⟩), .pointer (some ⟨i_n1, 0, none⟩), .pointer (some ⟨i_n3, 0, none⟩), .pointer (some ⟨i_n8, 0, none⟩), .pointer (some ⟨i_n10, 0, none⟩)]]))], d0]) h2) (St.fmem (A := [[(i_n0, AObj.row false ([.int .i64 n0_0]))], [(i_n1, AObj.row false ([.slice p_n2 k_n2 c_n2]))], oseg p_n2 (bls ((a3.set a1.toNat true).set a2.toNat true)), [(i_n3, AObj.row false ([.func (.func 65) #[] #[.pointer (some ⟨i_n4, 0, none⟩), .pointer (some ⟨i_n5, 0, none⟩), .pointer (some ⟨i_n6, 0, none⟩), .pointer (some ⟨i_n7, 0, none⟩)]]))], [(i_n4, AObj.row false ([.int .i64 a5]))], [(i_n5, AObj.row false ([.int .i64 n5_0]))], [(i_n6, AObj.row false ([.int .i64 a6]))], [(i_n7, AObj.row false ([.int .i64 a7]))], [(i_n8, AObj.row false ([.slice p_n9 k_n9 c_n9]))], oseg p_n9 (bls (a4.set ((if n0_0 - a2 + a1 < a2 - a1 then n0_0 - a2 + a1 else a2 - a1).toNat) true)), [(i_n10, AObj.row false ([.func (.func 78) #[] #[.pointer (some ⟨i_n0, 0, none⟩), .pointer (some ⟨i_n1, 0, none⟩), .pointer (some ⟨i_n3, 0, none⟩), .pointer (some ⟨i_n8, 0, none⟩), .pointer (some ⟨i_n10, 0, none⟩)]]))], d0]) h2) I9 b6 c0 c1 c2 b7 J0
        have b2 := St.callM (A := [[(i_n0, AObj.row false ([.int .i64 n0_0]))], [(i_n1, AObj.row false ([.slice p_n2 k_n2 c_n2]))], oseg p_n2 (bls ((a3.set a1.toNat true).set a2.toNat true)), [(i_n3, AObj.row false ([.func (.func 65) #[] #[.pointer (some ⟨i_n4, 0, none⟩), .pointer (some ⟨i_n5, 0, none⟩), .pointer (some ⟨i_n6, 0, none⟩), .pointer (some ⟨i_n7, 0, none⟩)]]))], [(i_n4, AObj.row false ([.int .i64 a5]))], [(i_n5, AObj.row false ([.int .i64 n5_0]))], [(i_n6, AObj.row false ([.int .i64 a6]))], [(i_n7, AObj.row false ([.int .i64 a7]))], [(i_n8, AObj.row false ([.slice p_n9 k_n9 c_n9]))], oseg p_n9 (bls (a4.set ((if n0_0 - a2 + a1 < a2 - a1 then n0_0 - a2 + a1 else a2 - a1).toNat) true)), [(i_n10, AObj.row false ([.func (.func 78) #[] #[.pointer (some ⟨i_n0, 0, none⟩), .pointer (some ⟨i_n1, 0, none⟩), .pointer (some ⟨i_n3, 0, none⟩), .pointer (some ⟨i_n8, 0, none⟩), .pointer (some ⟨i_n10, 0, none⟩)]]))], d0]) h2 l0 (fun j h => h)
        refine DR.w rfl rfl (o_callV (vs := [.slice c9 ((b1 ++ [[a1, a2]]).length) g9]) rfl rfl Tryz.call78 J2) (l0.len) (DR.p rfl rfl (p_assign rfl) (DR.nil 10 [(0, 2), (0, 7), (5, 2), (6, 2)] hst (by kernel_rfl) ⟨(rd1 (fun _ => (k6.get (k := 12) rfl).trans (b5.get (k := 11) rfl).symm)), (rd1 (fun _ => (k9.get (k := 12) rfl).trans (e4.get (k := 14) rfl).symm)), (fun h => absurd h (by decide)), (fun h => absurd h (by decide)), trivial⟩ (AX.seq (DR.startS [false, false, false, false, false, false, false, true, false, true, false, true] mix (by kernel_rfl) (fun hst => ?_)))))
        refine DR.r rfl rfl (r_load rfl isAgg76) (one_read (row_cell (b2.get (k := 1) rfl) rfl) (b2.oin (k := 2) rfl s_n2).bel) (DR.p rfl rfl (p_move rfl) (DR.r rfl rfl (r_load rfl isAgg76) (one_read (row_cell (b2.get (k := 1) rfl) rfl) (b2.oin (k := 2) rfl s_n2).bel) (DR.p rfl rfl (p_move rfl) (DR.r rfl rfl (r_load rfl isAgg76) (one_read (row_cell (b2.get (k := 8) rfl) rfl) (b2.oin (k := 9) rfl s_n9).bel) (DR.p rfl rfl (p_move rfl) ?_)))))
        obtain ⟨d2, J3⟩ := chk_some J1
        refine DR.p rfl rfl (s_indexV (q := a1.toNat) underlying76 sizeOf4 rfl (s_n2.at (inR_pos d2)) rfl d2 (z1 _)) ?_
        obtain ⟨J4, l1, J5⟩ := b2.oset (k := 2) (p := p_n2) rfl (s_n2.at (inR_pos d2)) (bls (b6.set a1.toNat false))
        have d3 : St M0 H J4 [[(i_n0, AObj.row false ([.int .i64 n0_0]))], [(i_n1, AObj.row false ([.slice p_n2 k_n2 c_n2]))], oseg p_n2 (bls (b6.set a1.toNat false)), [(i_n3, AObj.row false ([.func (.func 65) #[] #[.pointer (some ⟨i_n4, 0, none⟩), .pointer (some ⟨i_n5, 0, none⟩), .pointer (some ⟨i_n6, 0, none⟩), .pointer (some ⟨i_n7, 0, none⟩)]]))], [(i_n4, AObj.row false ([.int .i64 c0]))], [(i_n5, AObj.row false ([.int .i64 n5_0]))], [(i_n6, AObj.row false ([.int .i64 c1]))], [(i_n7, AObj.row false ([.int .i64 c2]))], [(i_n8, AObj.row false ([.slice p_n9 k_n9 c_n9]))], oseg p_n9 (bls b7), [(i_n10, AObj.row false ([.func (.func 78) #[] #[.pointer (some ⟨i_n0, 0, none⟩), .pointer (some ⟨i_n1, 0, none⟩), .pointer (some ⟨i_n3, 0, none⟩), .pointer (some ⟨i_n8, 0, none⟩), .pointer (some ⟨i_n10, 0, none⟩)]]))], d1] := J5
        refine DR.s rfl (s_store sizeOf4 rfl rfl rfl (b2.oat (k := 2) rfl (s_n2.at (inR_pos d2))) (lt_len ((bls_length _).trans e6) (inR_lt d2)) ((congrArg (fun l => List.set _ _ (AObj.row false l)) (bls_set _ _ _)).trans l1)) (set_le l1) ?_
        obtain ⟨d4, J6⟩ := chk_some J3
        refine DR.p rfl rfl (s_indexV (q := a2.toNat) underlying76 sizeOf4 rfl (s_n2.at (inR_pos d4)) rfl d4 (z1 _)) ?_
        obtain ⟨J7, l2, J8⟩ := d3.oset (k := 2) (p := p_n2) rfl (s_n2.at (inR_pos d4)) (bls ((b6.set a1.toNat false).set a2.toNat false))
        have h5 : St M0 H J7 [[(i_n0, AObj.row false ([.int .i64 n0_0]))], [(i_n1, AObj.row false ([.slice p_n2 k_n2 c_n2]))], oseg p_n2 (bls ((b6.set a1.toNat false).set a2.toNat false)), [(i_n3, AObj.row false ([.func (.func 65) #[] #[.pointer (some ⟨i_n4, 0, none⟩), .pointer (some ⟨i_n5, 0, none⟩), .pointer (some ⟨i_n6, 0, none⟩), .pointer (some ⟨i_n7, 0, none⟩)]]))], [(i_n4, AObj.row false ([.int .i64 c0]))], [(i_n5, AObj.row false ([.int .i64 n5_0]))], [(i_n6, AObj.row false ([.int .i64 c1]))], [(i_n7, AObj.row false ([.int .i64 c2]))], [(i_n8, AObj.row false ([.slice p_n9 k_n9 c_n9]))], oseg p_n9 (bls b7), [(i_n10, AObj.row false ([.func (.func 78) #[] #[.pointer (some ⟨i_n0, 0, none⟩), .pointer (some ⟨i_n1, 0, none⟩), .pointer (some ⟨i_n3, 0, none⟩), .pointer (some ⟨i_n8, 0, none⟩), .pointer (some ⟨i_n10, 0, none⟩)]]))], d1] := J8
        refine DR.s rfl (s_store sizeOf4 rfl rfl rfl (d3.oat (k := 2) rfl (s_n2.at (inR_pos d4))) (lt_len ((bls_length _).trans (len_set e6)) (inR_lt d4)) ((congrArg (fun l => List.set _ _ (AObj.row false l)) (bls_set _ _ _)).trans l2)) (set_le l2) ?_
        obtain ⟨d5, l3⟩ := chk_some J6
        refine DR.p rfl rfl (s_indexV (q := (if n0_0 - a2 + a1 < a2 - a1 then n0_0 - a2 + a1 else a2 - a1).toNat) underlying76 sizeOf4 rfl (s_n9.at (inR_pos d5)) rfl d5 (z1 _)) ?_
        obtain ⟨J9, l4, K0⟩ := h5.oset (k := 9) (p := p_n9) rfl (s_n9.at (inR_pos d5)) (bls (b7.set ((if n0_0 - a2 + a1 < a2 - a1 then n0_0 - a2 + a1 else a2 - a1).toNat) false))
        have l5 : St M0 H J9 [[(i_n0, AObj.row false ([.int .i64 n0_0]))], [(i_n1, AObj.row false ([.slice p_n2 k_n2 c_n2]))], oseg p_n2 (bls ((b6.set a1.toNat false).set a2.toNat false)), [(i_n3, AObj.row false ([.func (.func 65) #[] #[.pointer (some ⟨i_n4, 0, none⟩), .pointer (some ⟨i_n5, 0, none⟩), .pointer (some ⟨i_n6, 0, none⟩), .pointer (some ⟨i_n7, 0, none⟩)]]))], [(i_n4, AObj.row false ([.int .i64 c0]))], [(i_n5, AObj.row false ([.int .i64 n5_0]))], [(i_n6, AObj.row false ([.int .i64 c1]))], [(i_n7, AObj.row false ([.int .i64 c2]))], [(i_n8, AObj.row false ([.slice p_n9 k_n9 c_n9]))], oseg p_n9 (bls (b7.set ((if n0_0 - a2 + a1 < a2 - a1 then n0_0 - a2 + a1 else a2 - a1).toNat) false)), [(i_n10, AObj.row false ([.func (.func 78) #[] #[.pointer (some ⟨i_n0, 0, none⟩), .pointer (some ⟨i_n1, 0, none⟩), .pointer (some ⟨i_n3, 0, none⟩), .pointer (some ⟨i_n8, 0, none⟩), .pointer (some ⟨i_n10, 0, none⟩)]]))], d1] := K0
        refine DR.s rfl (s_store sizeOf4 rfl rfl rfl (h5.oat (k := 9) rfl (s_n9.at (inR_pos d5))) (lt_len ((bls_length _).trans h3) (inR_lt d5)) ((congrArg (fun l => List.set _ _ (AObj.row false l)) (bls_set _ _ _)).trans l4)) (set_le l4) (DR.nil 12 [(2, 7), (4, 7), (4, 9)] hst (by kernel_rfl) ⟨(rd1 (fun _ => (d3.get (k := 1) rfl).trans (b2.get (k := 1) rfl).symm)), (rd1 (fun _ => (d3.get (k := 8) rfl).trans (b2.get (k := 8) rfl).symm)), (rd1 (fun _ => (h5.get (k := 8) rfl).trans (d3.get (k := 8) rfl).symm)), trivial⟩ (AX.sr (AO.m rfl rfl (AO.p rfl (p_not rfl) (AO.nil (AX.cond rfl (fun h6 => ?_) (fun h6 => ?_)))))))
        ·have K1 := bif_t h6 l3
         refine AX.sr (AO.a rfl rfl (AO.nil (AX.ret ?_)))
         obtain rfl := some_inj K1
         have K2 : _ = j2 := e1
         subst K2
         obtain ⟨rfl, K3⟩ := Prod.mk.inj (some_inj j3)
         obtain ⟨rfl, K4⟩ := Prod.mk.inj K3
         obtain ⟨rfl, K5⟩ := Prod.mk.inj K4
         obtain ⟨rfl, K6⟩ := Prod.mk.inj K5
         obtain ⟨rfl, rfl⟩ := Prod.mk.inj K6
         have K7 := l5.front 11 rfl
         have K8 := K7.front 11 rfl
         have K9 := K8.front 11 rfl
         have L0 := K9.front 11 rfl
         have L1 := L0.front 11 rfl
         have L2 := L1.front 11 rfl
         have L3 := L2.front 11 rfl
         have L4 := L3.front 11 rfl
         have L5 := L4.front 11 rfl
         have L6 := L5.front 11 rfl
         have L7 := L6.front 11 rfl
         have L8 := L7.front 11 rfl
         exact ⟨.inr rfl, _, res1 rfl (rv_tmp rfl), d1, rfl, L8, (len_set (len_set e6)), (len_set h3), ((((g0.mono g8).mono h0).mono h1).mono h4)⟩
        ·have L9 := bif_f h6 l3
         refine AX.skip (AX.region (AO.m rfl rfl ?_))
         obtain ⟨M1, M2⟩ := chk_some L9
         refine AO.p rfl (p_addE rfl rfl M1) (AO.a rfl rfl (AO.nil ?_))
         obtain rfl := some_inj M2
         have M3 := l5.front 10 rfl
         have M4 := M3.front 10 rfl
         have M5 := M4.front 10 rfl
         have M6 := M5.front 10 rfl
         have M7 := M6.front 10 rfl
         have M8 := M7.front 10 rfl
         have M9 := M8.front 10 rfl
         have N0 := M9.front 10 rfl
         have N1 := N0.front 10 rfl
         have N2 := N1.front 10 rfl
         have N3 := N2.front 10 rfl
         have N4 := N3.front 11 rfl
         exact ⟨(((b6.set a1.toNat false).set a2.toNat false), c0, c1, c2, (b7.set ((if n0_0 - a2 + a1 < a2 - a1 then n0_0 - a2 + a1 else a2 - a1).toNat) false), a2 + 1), e1, ((b6.set a1.toNat false).set a2.toNat false), c0, c1, c2, (b7.set ((if n0_0 - a2 + a1 < a2 - a1 then n0_0 - a2 + a1 else a2 - a1).toNat) false), (a2 + 1), d1, rfl, N4, ((((g0.mono g8).mono h0).mono h1).mono h4), (len_set (len_set e6)), (len_set h3), ((((g1.mono g8).mono h0).mono h1).mono h4), g2, Sub.k4 rfl rfl rfl rfl (Sub.k2 rfl rfl (Sub.k1 rfl (Sub.nil _)))⟩
     ·have N5 := bif_f f7 f6
      refine AX.exit ?_
      obtain rfl := some_inj N5
      have N6 := b4.front 11 rfl
      have N7 := N6.front 11 rfl
      have N8 := N7.front 11 rfl
      have N9 := N8.front 11 rfl
      have O0 := N9.front 11 rfl
      have O1 := O0.front 11 rfl
      have O2 := O1.front 11 rfl
      have O3 := O2.front 11 rfl
      have O4 := O3.front 11 rfl
      have O5 := O4.front 11 rfl
      have O6 := O5.front 11 rfl
      have O7 := O6.front 11 rfl
      exact ⟨a3, a5, a6, a7, a4, a8, e1, O7, f5, b8, c4, Sub.nil _⟩
   ·rintro t' S5 ⟨d8, f2, f3, f4, d9, e0, rfl, O8, O9, P0, P1, P2⟩
    refine ⟨_, P2, ?_⟩
    refine AX.sr (AO.a rfl rfl (AO.nil (AX.ret ?_)))
    obtain ⟨rfl, P3⟩ := Prod.mk.inj (some_inj j3)
    obtain ⟨rfl, P4⟩ := Prod.mk.inj P3
    obtain ⟨rfl, P5⟩ := Prod.mk.inj P4
    obtain ⟨rfl, P6⟩ := Prod.mk.inj P5
    obtain ⟨rfl, rfl⟩ := Prod.mk.inj P6
    have P7 := O8.front 0 rfl
    have P8 := P7.front 11 rfl
    have P9 := P8.front 11 rfl
    have Q0 := P9.front 11 rfl
    have Q1 := Q0.front 11 rfl
    have Q2 := Q1.front 11 rfl
    have Q3 := Q2.front 11 rfl
    have Q4 := Q3.front 11 rfl
    have Q5 := Q4.front 11 rfl
    have Q6 := Q5.front 11 rfl
    have Q7 := Q6.front 11 rfl
    have Q8 := Q7.front 11 rfl
    exact ⟨.inr rfl, _, res1 rfl (rv_tmp rfl), e0, rfl, Q8, P0, P1, O9⟩
set_option maxHeartbeats 4000000 in
theorem W_impl_starters__impl_CountStarters_1 (fu : Nat) (H : AHeap) (F : Sg) (a0 : Int) (i_n0 : Nat) (n0_0 : Int) (i_n1 : Nat) (n1_0 : Int) (i_n2 : Nat) (n2_0 : Int) (i_n3 : Nat) (n3_0 : Int) (hn : (([[(i_n0, AObj.row false ([.int .i64 n0_0]))], [(i_n1, AObj.row false ([.int .i64 n1_0]))], [(i_n2, AObj.row false ([.int .i64 n2_0]))], [(i_n3, AObj.row false ([.int .i64 n3_0]))], F] : List Sg).flatten.map (·.1)).Nodup) (ho : ∀ x ∈ ([[(i_n0, AObj.row false ([.int .i64 n0_0]))], [(i_n1, AObj.row false ([.int .i64 n1_0]))], [(i_n2, AObj.row false ([.int .i64 n2_0]))], [(i_n3, AObj.row false ([.int .i64 n3_0]))], F] : List Sg).flatten, x.1 < H.length ∧ hget H x.1 = x.2) (m_n0_0 : Int) (m_n2_0 : Int) (m_n3_0 : Int) (hd : D_impl_starters__impl_CountStarters_1 fu a0 n0_0 n1_0 n2_0 n3_0 = some (m_n0_0, m_n2_0, m_n3_0)) : ∃ v G', ACall Tryz.prog 48 [.int .i64 a0, .func (.func 65) #[] #[.pointer (some ⟨i_n0, 0, none⟩), .pointer (some ⟨i_n1, 0, none⟩), .pointer (some ⟨i_n2, 0, none⟩), .pointer (some ⟨i_n3, 0, none⟩)]] H v G' ∧ ∃ (F' : Sg), (v = .tuple #[]) ∧ St (([[(i_n0, AObj.row false ([.int .i64 n0_0]))], [(i_n1, AObj.row false ([.int .i64 n1_0]))], [(i_n2, AObj.row false ([.int .i64 n2_0]))], [(i_n3, AObj.row false ([.int .i64 n3_0]))], F] : List Sg).flatten.map (·.1)) H G' [[(i_n0, AObj.row false ([.int .i64 m_n0_0]))], [(i_n1, AObj.row false ([.int .i64 n1_0]))], [(i_n2, AObj.row false ([.int .i64 m_n2_0]))], [(i_n3, AObj.row false ([.int .i64 m_n3_0]))], F'] ∧ Pin F' F := by
 refine ACall.bodyX (args := [.int .i64 a0, .func (.func 65) #[] #[.pointer (some ⟨i_n0, 0, none⟩), .pointer (some ⟨i_n1, 0, none⟩), .pointer (some ⟨i_n2, 0, none⟩), .pointer (some ⟨i_n3, 0, none⟩)]]) (N := 14) [(0, .int .i64 a0), (1, .func (.func 65) #[] #[.pointer (some ⟨i_n0, 0, none⟩), .pointer (some ⟨i_n1, 0, none⟩), .pointer (some ⟨i_n2, 0, none⟩), .pointer (some ⟨i_n3, 0, none⟩)])] (fun v G' => ∃ (F' : Sg), (v = .tuple #[]) ∧ St (([[(i_n0, AObj.row false ([.int .i64 n0_0]))], [(i_n1, AObj.row false ([.int .i64 n1_0]))], [(i_n2, AObj.row false ([.int .i64 n2_0]))], [(i_n3, AObj.row false ([.int .i64 n3_0]))], F] : List Sg).flatten.map (·.1)) H G' [[(i_n0, AObj.row false ([.int .i64 m_n0_0]))], [(i_n1, AObj.row false ([.int .i64 n1_0]))], [(i_n2, AObj.row false ([.int .i64 m_n2_0]))], [(i_n3, AObj.row false ([.int .i64 m_n3_0]))], F'] ∧ Pin F' F) Tryz.func48 rfl rfl rfl rfl ?_
 unfold D_impl_starters__impl_CountStarters_1 at hd
 have S0 := St.initF hn ho
 generalize hM0 : (([[(i_n0, AObj.row false ([.int .i64 n0_0]))], [(i_n1, AObj.row false ([.int .i64 n1_0]))], [(i_n2, AObj.row false ([.int .i64 n2_0]))], [(i_n3, AObj.row false ([.int .i64 n3_0]))], F] : List Sg).flatten.map (·.1)) = M0 at S0 ⊢
 refine AX.sr ?_
 obtain ⟨h8, a1, c1, c2, c3⟩ := S0.new (AObj.row false ([.int .i64 a0]))
 refine AO.c rfl (s_box (i := a1) (cs := [.int .i64 a0]) rfl c1 rfl c2) ?_
 obtain ⟨h9, a2, c4, c5, b2⟩ := c3.new (AObj.row false ([.func (.func 65) #[] #[.pointer (some ⟨i_n0, 0, none⟩), .pointer (some ⟨i_n1, 0, none⟩), .pointer (some ⟨i_n2, 0, none⟩), .pointer (some ⟨i_n3, 0, none⟩)]]))
 refine AO.c rfl (s_box (i := a2) (cs := [.func (.func 65) #[] #[.pointer (some ⟨i_n0, 0, none⟩), .pointer (some ⟨i_n1, 0, none⟩), .pointer (some ⟨i_n2, 0, none⟩), .pointer (some ⟨i_n3, 0, none⟩)]]) rfl c4 rfl c5) (AO.nil (AX.seq (DR.startS [false, false, false, false, false, false, true, true] mix (by kernel_rfl) (fun hst => ?_))))
 refine DR.r rfl rfl (r_load rfl isAgg2) (one_read (row_cell (b2.get (k := 1) rfl) rfl) (.of_flat0 rfl)) ?_
 obtain ⟨b3, c6⟩ := chk_some hd
 obtain ⟨i0, a3, c7, c8, b4⟩ := b2.new (AObj.row false (bls (List.replicate a0.toNat false)))
 refine DR.a rfl rfl c7 c8 (a_make1 (v := .bool false) (by_ := 1) underlying76 typeInfo4 sizeOf4 zeroValue4 rfl rfl rfl rfl rfl rfl b3 bls_rep) (DR.r rfl rfl (r_load rfl isAgg2) (one_read (row_cell (b4.get (k := 2) rfl) rfl) (.of_flat0 rfl)) ?_)
 obtain ⟨b5, c9⟩ := chk_some c6
 obtain ⟨i1, a6, b6, d0, d1⟩ := b4.new (AObj.row false (bls (List.replicate a0.toNat false)))
 refine DR.a rfl rfl b6 d0 (a_make1 (v := .bool false) (by_ := 1) underlying76 typeInfo4 sizeOf4 zeroValue4 rfl rfl rfl rfl rfl rfl b5 bls_rep) ?_
 obtain ⟨i2, a4, d2, d3, d4⟩ := d1.new (AObj.row false ([.slice none 0 0]))
 refine DR.a rfl rfl d2 d3 (a_alloc zeroValue76 (flat_list rfl)) ?_
 obtain ⟨i3, a5, d5, d6, a8⟩ := d4.new (AObj.row false ([.slice none 0 0]))
 refine DR.a rfl rfl d5 d6 (a_alloc zeroValue76 (flat_list rfl)) ?_
 obtain ⟨d7, b7, d8⟩ := a8.set (k := 1) (i := a4) rfl (AObj.row false ([.slice (some (Addr.mk a3 0 none)) a0.toNat a0.toNat]))
 have a9 : St M0 H d7 [[(a5, AObj.row false ([.slice none 0 0]))], [(a4, AObj.row false ([.slice (some (Addr.mk a3 0 none)) a0.toNat a0.toNat]))], [(a6, AObj.row false (bls (List.replicate a0.toNat false)))], [(a3, AObj.row false (bls (List.replicate a0.toNat false)))], [(a2, AObj.row false ([.func (.func 65) #[] #[.pointer (some ⟨i_n0, 0, none⟩), .pointer (some ⟨i_n1, 0, none⟩), .pointer (some ⟨i_n2, 0, none⟩), .pointer (some ⟨i_n3, 0, none⟩)]]))], [(a1, AObj.row false ([.int .i64 a0]))], [(i_n0, AObj.row false ([.int .i64 n0_0]))], [(i_n1, AObj.row false ([.int .i64 n1_0]))], [(i_n2, AObj.row false ([.int .i64 n2_0]))], [(i_n3, AObj.row false ([.int .i64 n3_0]))], F] := d8
 refine DR.s rfl (s_store sizeOf76 rfl rfl rfl (a8.get (k := 1) rfl) (Nat.le_of_ble_eq_true rfl) b7) (set_le b7) ?_
 obtain ⟨d9, b8, e0⟩ := a9.set (k := 0) (i := a5) rfl (AObj.row false ([.slice (some (Addr.mk a6 0 none)) a0.toNat a0.toNat]))
 have e1 : St M0 H d9 [[(a5, AObj.row false ([.slice (some (Addr.mk a6 0 none)) a0.toNat a0.toNat]))], [(a4, AObj.row false ([.slice (some (Addr.mk a3 0 none)) a0.toNat a0.toNat]))], [(a6, AObj.row false (bls (List.replicate a0.toNat false)))], [(a3, AObj.row false (bls (List.replicate a0.toNat false)))], [(a2, AObj.row false ([.func (.func 65) #[] #[.pointer (some ⟨i_n0, 0, none⟩), .pointer (some ⟨i_n1, 0, none⟩), .pointer (some ⟨i_n2, 0, none⟩), .pointer (some ⟨i_n3, 0, none⟩)]]))], [(a1, AObj.row false ([.int .i64 a0]))], [(i_n0, AObj.row false ([.int .i64 n0_0]))], [(i_n1, AObj.row false ([.int .i64 n1_0]))], [(i_n2, AObj.row false ([.int .i64 n2_0]))], [(i_n3, AObj.row false ([.int .i64 n3_0]))], F] := e0
 refine DR.s rfl (s_store sizeOf76 rfl rfl rfl (a9.get (k := 0) rfl) (Nat.le_of_ble_eq_true rfl) b8) (set_le b8) (DR.nil 8 [(2, 6), (3, 6)] hst (by kernel_rfl) ⟨(rd1 (fun _ => (a9.get (k := 5) rfl).trans (a8.get (k := 5) rfl).symm)), (fun _ => by rw [b6]; exact (a9.get (k := 2) rfl).trans (a8.get (k := 2) rfl).symm), trivial⟩ (AX.sr ?_))
 obtain ⟨i4, a7, e2, e3, b9⟩ := e1.new (AObj.row false ([.nilFunc]))
 refine AO.c rfl (s_alloc (i := a7) (cs := [.nilFunc]) zeroValue65 rfl rfl e2 e3) (AO.nil (AX.sr (AO.p rfl (p_makeFunc (fs := []) (cs := [.pointer (some ⟨a1, 0, none⟩), .pointer (some ⟨a4, 0, none⟩), .pointer (some ⟨a2, 0, none⟩), .pointer (some ⟨a5, 0, none⟩), .pointer (some ⟨a7, 0, none⟩)]) rfl rfl) ?_)))
 obtain ⟨b0, e4, e5⟩ := b9.set (k := 0) (i := a7) rfl (AObj.row false ([.func (.func 78) #[] #[.pointer (some ⟨a1, 0, none⟩), .pointer (some ⟨a4, 0, none⟩), .pointer (some ⟨a2, 0, none⟩), .pointer (some ⟨a5, 0, none⟩), .pointer (some ⟨a7, 0, none⟩)]]))
 have c0 : St M0 H b0 [[(a7, AObj.row false ([.func (.func 78) #[] #[.pointer (some ⟨a1, 0, none⟩), .pointer (some ⟨a4, 0, none⟩), .pointer (some ⟨a2, 0, none⟩), .pointer (some ⟨a5, 0, none⟩), .pointer (some ⟨a7, 0, none⟩)]]))], [(a5, AObj.row false ([.slice (some (Addr.mk a6 0 none)) a0.toNat a0.toNat]))], [(a4, AObj.row false ([.slice (some (Addr.mk a3 0 none)) a0.toNat a0.toNat]))], [(a6, AObj.row false (bls (List.replicate a0.toNat false)))], [(a3, AObj.row false (bls (List.replicate a0.toNat false)))], [(a2, AObj.row false ([.func (.func 65) #[] #[.pointer (some ⟨i_n0, 0, none⟩), .pointer (some ⟨i_n1, 0, none⟩), .pointer (some ⟨i_n2, 0, none⟩), .pointer (some ⟨i_n3, 0, none⟩)]]))], [(a1, AObj.row false ([.int .i64 a0]))], [(i_n0, AObj.row false ([.int .i64 n0_0]))], [(i_n1, AObj.row false ([.int .i64 n1_0]))], [(i_n2, AObj.row false ([.int .i64 n2_0]))], [(i_n3, AObj.row false ([.int .i64 n3_0]))], F] := e5
 refine AO.s (s_store sizeOf65 rfl rfl rfl (b9.get (k := 0) rfl) (Nat.le_of_ble_eq_true rfl) e4) (AO.nil (AX.region (AO.c rfl (s_load isAgg65 rfl (row_cell (c0.get (k := 0) rfl) rfl)) ?_)))
 have e6 := c0.front 11 rfl
 have e7 := e6.front 1 rfl
 have e8 := e7.front 4 rfl
 have e9 := e8.front 3 rfl
 have f0 := e9.front 11 rfl
 have f1 := f0.front 11 rfl
 have f2 := f1.front 11 rfl
 have f3 := f2.front 11 rfl
 have f4 := f3.front 10 rfl
 have f5 := f4.front 10 rfl
 have f6 := f5.front 10 rfl
 have f7 := f6.front 11 rfl
 have b1 : St M0 H b0 [[(a1, AObj.row false ([.int .i64 a0]))], [(a4, AObj.row false ([.slice (some (Addr.mk a3 0 none)) a0.toNat a0.toNat]))], [(a3, AObj.row false (bls (List.replicate a0.toNat false)))], [(a2, AObj.row false ([.func (.func 65) #[] #[.pointer (some ⟨i_n0, 0, none⟩), .pointer (some ⟨i_n1, 0, none⟩), .pointer (some ⟨i_n2, 0, none⟩), .pointer (some ⟨i_n3, 0, none⟩)]]))], [(i_n0, AObj.row false ([.int .i64 n0_0]))], [(i_n1, AObj.row false ([.int .i64 n1_0]))], [(i_n2, AObj.row false ([.int .i64 n2_0]))], [(i_n3, AObj.row false ([.int .i64 n3_0]))], [(a5, AObj.row false ([.slice (some (Addr.mk a6 0 none)) a0.toNat a0.toNat]))], [(a6, AObj.row false (bls (List.replicate a0.toNat false)))], [(a7, AObj.row false ([.func (.func 78) #[] #[.pointer (some ⟨a1, 0, none⟩), .pointer (some ⟨a4, 0, none⟩), .pointer (some ⟨a2, 0, none⟩), .pointer (some ⟨a5, 0, none⟩), .pointer (some ⟨a7, 0, none⟩)]]))], F] := f7
 obtain ⟨⟨f8, f9, g0, g1, g2, g3⟩, g4, g5⟩ := bnd_some c9
 obtain ⟨_, i5, g6, g7, rfl, g8, i6, i7, g9⟩ := W_impl_starters_1__impl_CountStarters_1 fu b0 F none 0 [] [] rfl PT.nil (fun _ => rfl) a1 a0 a4 (some (Addr.mk a3 0 none)) a0.toNat a0.toNat (List.replicate a0.toNat false) len_rep (Sb.lit (mkcap b3)) a2 i_n0 n0_0 i_n1 n1_0 i_n2 n2_0 i_n3 n3_0 a5 (some (Addr.mk a6 0 none)) a0.toNat a0.toNat (List.replicate a0.toNat false) len_rep (Sb.lit (mkcap b5)) a7 (St.fnodup (A := [[(a1, AObj.row false ([.int .i64 a0]))], [(a4, AObj.row false ([.slice (some (Addr.mk a3 0 none)) a0.toNat a0.toNat]))], [(a3, AObj.row false (bls (List.replicate a0.toNat false)))], [(a2, AObj.row false ([.func (.func 65) #[] #[.pointer (some ⟨i_n0, 0, none⟩), .pointer (some ⟨i_n1, 0, none⟩), .pointer (some ⟨i_n2, 0, none⟩), .pointer (some ⟨i_n3, 0, none⟩)]]))], [(i_n0, AObj.row false ([.int .i64 n0_0]))], [(i_n1, AObj.row false ([.int .i64 n1_0]))], [(i_n2, AObj.row false ([.int .i64 n2_0]))], [(i_n3, AObj.row false ([.int .i64 n3_0]))], [(a5, AObj.row false ([.slice (some (Addr.mk a6 0 none)) a0.toNat a0.toNat]))], [(a6, AObj.row false (bls (List.replicate a0.toNat false)))], [(a7, AObj.row false ([.func (.func 78) #[] #[.pointer (some ⟨a1, 0, none⟩), .pointer (some ⟨a4, 0, none⟩), .pointer (some ⟨a2, 0, none⟩), .pointer (some ⟨a5, 0, none⟩), .pointer (some ⟨a7, 0, none⟩)]]))], F]) b1) (St.fmem (A := [[(a1, AObj.row false ([.int .i64 a0]))], [(a4, AObj.row false ([.slice (some (Addr.mk a3 0 none)) a0.toNat a0.toNat]))], [(a3, AObj.row false (bls (List.replicate a0.toNat false)))], [(a2, AObj.row false ([.func (.func 65) #[] #[.pointer (some ⟨i_n0, 0, none⟩), .pointer (some ⟨i_n1, 0, none⟩), .pointer (some ⟨i_n2, 0, none⟩), .pointer (some ⟨i_n3, 0, none⟩)]]))], [(i_n0, AObj.row false ([.int .i64 n0_0]))], [(i_n1, AObj.row false ([.int .i64 n1_0]))], [(i_n2, AObj.row false ([.int .i64 n2_0]))], [(i_n3, AObj.row false ([.int .i64 n3_0]))], [(a5, AObj.row false ([.slice (some (Addr.mk a6 0 none)) a0.toNat a0.toNat]))], [(a6, AObj.row false (bls (List.replicate a0.toNat false)))], [(a7, AObj.row false ([.func (.func 78) #[] #[.pointer (some ⟨a1, 0, none⟩), .pointer (some ⟨a4, 0, none⟩), .pointer (some ⟨a2, 0, none⟩), .pointer (some ⟨a5, 0, none⟩), .pointer (some ⟨a7, 0, none⟩)]]))], F]) b1) f8 f9 g0 g1 g2 g3 g4
 have h0 := St.callM (A := [[(a1, AObj.row false ([.int .i64 a0]))], [(a4, AObj.row false ([.slice (some (Addr.mk a3 0 none)) a0.toNat a0.toNat]))], [(a3, AObj.row false (bls (List.replicate a0.toNat false)))], [(a2, AObj.row false ([.func (.func 65) #[] #[.pointer (some ⟨i_n0, 0, none⟩), .pointer (some ⟨i_n1, 0, none⟩), .pointer (some ⟨i_n2, 0, none⟩), .pointer (some ⟨i_n3, 0, none⟩)]]))], [(i_n0, AObj.row false ([.int .i64 n0_0]))], [(i_n1, AObj.row false ([.int .i64 n1_0]))], [(i_n2, AObj.row false ([.int .i64 n2_0]))], [(i_n3, AObj.row false ([.int .i64 n3_0]))], [(a5, AObj.row false ([.slice (some (Addr.mk a6 0 none)) a0.toNat a0.toNat]))], [(a6, AObj.row false (bls (List.replicate a0.toNat false)))], [(a7, AObj.row false ([.func (.func 78) #[] #[.pointer (some ⟨a1, 0, none⟩), .pointer (some ⟨a4, 0, none⟩), .pointer (some ⟨a2, 0, none⟩), .pointer (some ⟨a5, 0, none⟩), .pointer (some ⟨a7, 0, none⟩)]]))], F]) b1 g8 (fun j h => h)
 refine AO.c rfl (o_callV (vs := [.slice none 0 0]) rfl rfl Tryz.call78 g6) (AO.nil ?_)
 obtain ⟨rfl, h1⟩ := Prod.mk.inj (some_inj g5)
 obtain ⟨rfl, rfl⟩ := Prod.mk.inj h1
 have h2 := h0.front 11 rfl
 have h3 := h2.front 8 rfl
 have h4 := h3.front 8 rfl
 have h5 := h4.front 8 rfl
 have h6 := h5.front 8 rfl
 have h7 := h6.keep 5
 exact ⟨.inl rfl, _, res_none rfl, g7, rfl, h7, ((Pin.refl F).mono g9)⟩
set_option maxHeartbeats 4000000 in
theorem W_impl_CountStarters (fu : Nat) (H : AHeap) (a0 : Int) (r0 : Int) (r1 : Int) (r2 : Int) (r3 : Int) (hd : D_impl_CountStarters fu a0 = some (r0, r1, r2, r3)) : ACall Tryz.prog 24 [.int .i64 a0] H (.tuple #[.int .i64 r0, .int .i64 r1, .int .i64 r2, .int .i64 r3]) H := by
 refine ACall.bodyP (N := 18) [(0, .int .i64 a0)] Tryz.func24 rfl rfl rfl rfl ?_
 unfold D_impl_CountStarters at hd
 have S0 : St [] H H [] := St.nil H
 have S0 := S0.poolNew
 refine AX.sr ?_
 obtain ⟨b4, a4, b5, b6, a6⟩ := S0.new (AObj.row false ([.int .i64 a0]))
 refine AO.c rfl (s_box (i := a4) (cs := [.int .i64 a0]) rfl b5 rfl b6) (AO.a rfl rfl (AO.a rfl rfl (AO.a rfl rfl (AO.a rfl rfl (AO.nil (AX.seq (AX.sr (AO.c rfl (s_load isAgg2 rfl (row_cell (a6.get (k := 0) rfl) rfl)) ?_))))))))
 obtain ⟨b7, b8, a9⟩ := bnd_some hd
 refine AO.c rfl (o_call (vs := [.int .i64 a0]) rfl Tryz.call47 (W_impl_isModulus fu b4 a0 b7 b8)) (AO.p rfl (p_not rfl) (AO.nil (AX.cond rfl (fun a7 => ?_) (fun a7 => ?_))))
 ·have b9 := bif_t a7 a9
  refine AX.sr (AO.a rfl rfl (AO.a rfl rfl (AO.a rfl rfl (AO.a rfl rfl (AO.nil (AX.ret ?_))))))
  obtain ⟨rfl, c0⟩ := Prod.mk.inj (some_inj b9)
  obtain ⟨rfl, c1⟩ := Prod.mk.inj c0
  obtain ⟨rfl, rfl⟩ := Prod.mk.inj c1
  exact ⟨.inr rfl, _, res4 rfl (rv_tmp rfl) (rv_tmp rfl) (rv_tmp rfl) (rv_tmp rfl), rfl, (flat_t4 (flatB_ok rfl) (flatB_ok rfl) (flatB_ok rfl) (flatB_ok rfl)), a6.hold⟩
 ·have c2 := bif_f a7 a9
  refine AX.skip (AX.sr ?_)
  obtain ⟨e8, a1, c3, c4, c5⟩ := a6.new (AObj.row false ([.int .i64 0]))
  refine AO.c rfl (s_alloc (i := a1) (cs := [.int .i64 0]) zeroValue2 rfl rfl c3 c4) ?_
  obtain ⟨e9, a2, c6, c7, c8⟩ := c5.new (AObj.row false ([.int .i64 0]))
  refine AO.c rfl (s_alloc (i := a2) (cs := [.int .i64 0]) zeroValue2 rfl rfl c6 c7) ?_
  obtain ⟨f0, a3, c9, d0, b0⟩ := c8.new (AObj.row false ([.int .i64 0]))
  refine AO.c rfl (s_alloc (i := a3) (cs := [.int .i64 0]) zeroValue2 rfl rfl c9 d0) ?_
  obtain ⟨f1, d1, b1⟩ := b0.set (k := 2) (i := a1) rfl (AObj.row false ([.int .i64 0]))
  refine AO.s (s_store sizeOf2 rfl rfl rfl (b0.get (k := 2) rfl) (Nat.le_of_ble_eq_true rfl) d1) ?_
  obtain ⟨f2, d2, b2⟩ := b1.set (k := 1) (i := a2) rfl (AObj.row false ([.int .i64 0]))
  refine AO.s (s_store sizeOf2 rfl rfl rfl (b1.get (k := 1) rfl) (Nat.le_of_ble_eq_true rfl) d2) ?_
  obtain ⟨d3, d4, b3⟩ := b2.set (k := 0) (i := a3) rfl (AObj.row false ([.int .i64 0]))
  refine AO.s (s_store sizeOf2 rfl rfl rfl (b2.get (k := 0) rfl) (Nat.le_of_ble_eq_true rfl) d4) (AO.nil (AX.sr (AO.c rfl (s_load isAgg2 rfl (row_cell (b3.get (k := 3) rfl) rfl)) (AO.p rfl (p_makeFunc (fs := []) (cs := [.pointer (some ⟨a1, 0, none⟩), .pointer (some ⟨a4, 0, none⟩), .pointer (some ⟨a2, 0, none⟩), .pointer (some ⟨a3, 0, none⟩)]) rfl rfl) ?_))))
  have d5 := b3.front 4 rfl
  have d6 := d5.front 1 rfl
  have d7 := d6.front 2 rfl
  have d8 := d7.front 4 rfl
  have a8 := d8.front 4 rfl
  obtain ⟨⟨d9, e0, e1⟩, e2, e3⟩ := bnd_some c2
  obtain ⟨_, f3, e4, f4, rfl, e5, f5⟩ := W_impl_starters__impl_CountStarters_1 fu d3 ([] : Sg) a0 a1 0 a4 a0 a2 0 a3 0 (St.fnodup (A := [[(a1, AObj.row false ([.int .i64 0]))], [(a4, AObj.row false ([.int .i64 a0]))], [(a2, AObj.row false ([.int .i64 0]))], [(a3, AObj.row false ([.int .i64 0]))], ([] : Sg)]) a8) (St.fmem (A := [[(a1, AObj.row false ([.int .i64 0]))], [(a4, AObj.row false ([.int .i64 a0]))], [(a2, AObj.row false ([.int .i64 0]))], [(a3, AObj.row false ([.int .i64 0]))], ([] : Sg)]) a8) d9 e0 e1 e2
  have a5 := St.callM (A := [[(a1, AObj.row false ([.int .i64 0]))], [(a4, AObj.row false ([.int .i64 a0]))], [(a2, AObj.row false ([.int .i64 0]))], [(a3, AObj.row false ([.int .i64 0]))], ([] : Sg)]) a8 e5 (fun j h => h)
  refine AO.c rfl (o_call (vs := [.int .i64 a0, .func (.func 65) #[] #[.pointer (some ⟨a1, 0, none⟩), .pointer (some ⟨a4, 0, none⟩), .pointer (some ⟨a2, 0, none⟩), .pointer (some ⟨a3, 0, none⟩)]]) rfl Tryz.call48 e4) (AO.nil (AX.seq (DR.startS [false, false, false, false, false, false, false] mix (by kernel_rfl) (fun hst => ?_))))
  refine DR.r rfl rfl (r_load rfl isAgg2) (one_read (row_cell (a5.get (k := 0) rfl) rfl) (.of_flat0 rfl)) (DR.r rfl rfl (r_load rfl isAgg2) (one_read (row_cell (a5.get (k := 2) rfl) rfl) (.of_flat0 rfl)) (DR.r rfl rfl (r_load rfl isAgg2) (one_read (row_cell (a5.get (k := 3) rfl) rfl) (.of_flat0 rfl)) (DR.p rfl rfl (p_assign rfl) (DR.p rfl rfl (p_assign rfl) (DR.p rfl rfl (p_assign rfl) (DR.p rfl rfl (p_assign rfl) (DR.nil 7 [] hst (by kernel_rfl) trivial (AX.ret ?_))))))))
  obtain ⟨rfl, e6⟩ := Prod.mk.inj (some_inj e3)
  obtain ⟨rfl, e7⟩ := Prod.mk.inj e6
  obtain ⟨rfl, rfl⟩ := Prod.mk.inj e7
  exact ⟨.inr rfl, _, res4 rfl (rv_tmp rfl) (rv_tmp rfl) (rv_tmp rfl) (rv_tmp rfl), rfl, (flat_t4 (flatB_ok rfl) (flatB_ok rfl) (flatB_ok rfl) (flatB_ok rfl)), a5.hold⟩
end Go.Proofs.YtdafmafigcljkaaGreat
