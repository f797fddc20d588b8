
/-
 The program computes that, printed by a program. No condition.
-/
import Derived.Test.YtdafmafigcljkaaGreatDD
import Derived.Test.YtdafmafigcljkaaGreatWC
import Derived.Test.YtdafmafigcljkaaGreatProg
import Derived.KernelRfl
namespace Go.Proofs.YtdafmafigcljkaaGreat
open Go Go.RowKit Am Go.Proofs.Tryz
set_option linter.unusedVariables false
set_option linter.unusedSimpArgs false
set_option maxRecDepth 20000
set_option maxHeartbeats 4000000 in
theorem W_impl_FirstStrong_1 (fu : Nat) (H : AHeap) (F : Sg) (p_a0 : Option Addr) (c_a0 : Nat) (T_a0 : Tb) (a0 : List (List Int)) (t_a0 : trows T_a0 = a0) (q_a0 : PT F p_a0 c_a0 T_a0) (y_a0 : a0 = [] → p_a0 = none) (i_n0 : Nat) (n0_0 : Int) (i_n1 : Nat) (p_n1_0 : Option Addr) (c_n1_0 : Nat) (T_n1_0 : Tb) (n1_0 : List (List Int)) (t_n1_0 : trows T_n1_0 = n1_0) (q_n1_0 : PT F p_n1_0 c_n1_0 T_n1_0) (y_n1_0 : n1_0 = [] → p_n1_0 = none) (hn : (([[(i_n0, AObj.row false ([.int .i64 n0_0]))], [(i_n1, AObj.row false ([.slice p_n1_0 n1_0.length c_n1_0]))], F] : List Sg).flatten.map (·.1)).Nodup) (ho : ∀ x ∈ ([[(i_n0, AObj.row false ([.int .i64 n0_0]))], [(i_n1, AObj.row false ([.slice p_n1_0 n1_0.length c_n1_0]))], F] : List Sg).flatten, x.1 < H.length ∧ hget H x.1 = x.2) (r0 : Bool) (m_n1_0 : List (List Int)) (hd : D_impl_FirstStrong_1 fu a0 n0_0 n1_0 = some (r0, m_n1_0)) : ∃ v G', ACall Tryz.prog 49 [.slice p_a0 a0.length c_a0, .pointer (some ⟨i_n0, 0, none⟩), .pointer (some ⟨i_n1, 0, none⟩)] H v G' ∧ ∃ (p_m_n1_0 : Option Addr) (c_m_n1_0 : Nat) (T_m_n1_0 : Tb) (F' : Sg), (v = .bool r0) ∧ St (([[(i_n0, AObj.row false ([.int .i64 n0_0]))], [(i_n1, AObj.row false ([.slice p_n1_0 n1_0.length c_n1_0]))], F] : List Sg).flatten.map (·.1)) H G' [[(i_n0, AObj.row false ([.int .i64 n0_0]))], [(i_n1, AObj.row false ([.slice p_m_n1_0 m_n1_0.length c_m_n1_0]))], F'] ∧ trows T_m_n1_0 = m_n1_0 ∧ PT F' p_m_n1_0 c_m_n1_0 T_m_n1_0 ∧ (m_n1_0 = [] → p_m_n1_0 = none) ∧ Pin F' F := by
 refine ACall.bodyX (args := [.slice p_a0 a0.length c_a0, .pointer (some ⟨i_n0, 0, none⟩), .pointer (some ⟨i_n1, 0, none⟩)]) (N := 11) [(0, .slice p_a0 a0.length c_a0), (1, .pointer (some ⟨i_n0, 0, none⟩)), (2, .pointer (some ⟨i_n1, 0, none⟩))] (fun v G' => ∃ (p_m_n1_0 : Option Addr) (c_m_n1_0 : Nat) (T_m_n1_0 : Tb) (F' : Sg), (v = .bool r0) ∧ St (([[(i_n0, AObj.row false ([.int .i64 n0_0]))], [(i_n1, AObj.row false ([.slice p_n1_0 n1_0.length c_n1_0]))], F] : List Sg).flatten.map (·.1)) H G' [[(i_n0, AObj.row false ([.int .i64 n0_0]))], [(i_n1, AObj.row false ([.slice p_m_n1_0 m_n1_0.length c_m_n1_0]))], F'] ∧ trows T_m_n1_0 = m_n1_0 ∧ PT F' p_m_n1_0 c_m_n1_0 T_m_n1_0 ∧ (m_n1_0 = [] → p_m_n1_0 = none) ∧ Pin F' F) Tryz.func49 rfl rfl rfl rfl ?_
 unfold D_impl_FirstStrong_1 at hd
 have S0 := St.initF hn ho
 generalize hM0 : (([[(i_n0, AObj.row false ([.int .i64 n0_0]))], [(i_n1, AObj.row false ([.slice p_n1_0 n1_0.length c_n1_0]))], F] : List Sg).flatten.map (·.1)) = M0 at S0 ⊢
 refine AX.sr (AO.a rfl rfl (AO.nil (AX.seq (AX.sr (AO.c rfl (s_load isAgg2 rfl (row_cell (S0.get (k := 0) rfl) rfl)) (AO.m rfl rfl ?_))))))
 obtain ⟨a4, a5, a2⟩ := bnd_some hd
 refine AO.c rfl (o_call (vs := [.int .i64 n0_0, .slice p_a0 a0.length c_a0]) rfl Tryz.call29 (W_impl_isStrong fu H n0_0 p_a0 c_a0 T_a0 a0 t_a0 (S0.ptview (k := 2) rfl q_a0 (tlen t_a0)) (S0.prview (k := 2) rfl (q_a0).rs) a4 a5)) (AO.nil (AX.cond rfl (fun a1 => ?_) (fun a1 => ?_)))
 ·have a6 := bif_t a1 a2
  refine AX.region (AO.m rfl rfl ?_)
  obtain ⟨a7, a8, a9⟩ := S0.set (k := 1) (i := i_n1) rfl (AObj.row false ([.slice p_a0 a0.length c_a0]))
  have a3 : St M0 H a7 [[(i_n0, AObj.row false ([.int .i64 n0_0]))], [(i_n1, AObj.row false ([.slice p_a0 a0.length c_a0]))], F] := a9
  refine AO.s (s_store sizeOf24 rfl rfl rfl (S0.get (k := 1) rfl) (Nat.le_of_ble_eq_true rfl) a8) (AO.nil (AX.sr (AO.c rfl (s_load isAgg24 rfl (row_cell (a3.get (k := 1) rfl) rfl)) (AO.p rfl (p_eqlNilB underlying24 rfl ((q_a0).hsb.ne rfl) (PT.isNone q_a0 t_a0 y_a0)) (AO.a rfl rfl (AO.nil (AX.ret ?_)))))))
  obtain ⟨rfl, rfl⟩ := Prod.mk.inj (some_inj a6)
  have b0 := a3.front 2 rfl
  have b1 := b0.front 2 rfl
  have b2 := b1.front 2 rfl
  exact ⟨.inr rfl, _, res1 rfl (rv_tmp rfl), p_a0, c_a0, T_a0, F, rfl, b2, t_a0, q_a0, y_a0, (Pin.refl F)⟩
 ·have b3 := bif_f a1 a2
  refine AX.skip (AX.sr (AO.c rfl (s_load isAgg24 rfl (row_cell (S0.get (k := 1) rfl) rfl)) (AO.p rfl (p_eqlNilB underlying24 rfl ((q_n1_0).hsb.ne rfl) (PT.isNone q_n1_0 t_n1_0 y_n1_0)) (AO.a rfl rfl (AO.nil (AX.ret ?_))))))
  obtain ⟨rfl, rfl⟩ := Prod.mk.inj (some_inj b3)
  have b4 := S0.front 2 rfl
  have b5 := b4.front 2 rfl
  have b6 := b5.front 2 rfl
  exact ⟨.inr rfl, _, res1 rfl (rv_tmp rfl), p_n1_0, c_n1_0, T_n1_0, F, rfl, b6, t_n1_0, q_n1_0, y_n1_0, (Pin.refl F)⟩
set_option maxHeartbeats 4000000 in
theorem W_impl_starters_1__impl_FirstStrong_1 : ∀ (fu : Nat) (H : AHeap) (F : Sg) (p_a0 : Option Addr) (c_a0 : Nat) (T_a0 : Tb) (a0 : List (List Int)) (t_a0 : trows T_a0 = a0) (q_a0 : PT F p_a0 c_a0 T_a0) (y_a0 : a0 = [] → p_a0 = none) (i_n0 : Nat) (n0_0 : Int) (i_n1 : Nat) (p_n2 : Option Addr) (k_n2 c_n2 : Nat) (n2 : List Bool) (l_n2 : n2.length = k_n2) (s_n2 : Sb p_n2 k_n2 c_n2 1) (i_n3 : Nat) (i_n4 : Nat) (n4_0 : Int) (i_n5 : Nat) (p_n5_0 : Option Addr) (c_n5_0 : Nat) (T_n5_0 : Tb) (n5_0 : List (List Int)) (t_n5_0 : trows T_n5_0 = n5_0) (q_n5_0 : PT F p_n5_0 c_n5_0 T_n5_0) (y_n5_0 : n5_0 = [] → p_n5_0 = none) (i_n6 : Nat) (p_n7 : Option Addr) (k_n7 c_n7 : Nat) (n7 : List Bool) (l_n7 : n7.length = k_n7) (s_n7 : Sb p_n7 k_n7 c_n7 1) (i_n8 : Nat) (hn : (([[(i_n0, AObj.row false ([.int .i64 n0_0]))], [(i_n1, AObj.row false ([.slice p_n2 k_n2 c_n2]))], oseg p_n2 (bls n2), [(i_n3, AObj.row false ([.func (.func 49) #[] #[.pointer (some ⟨i_n4, 0, none⟩), .pointer (some ⟨i_n5, 0, none⟩)]]))], [(i_n4, AObj.row false ([.int .i64 n4_0]))], [(i_n5, AObj.row false ([.slice p_n5_0 n5_0.length c_n5_0]))], [(i_n6, AObj.row false ([.slice p_n7 k_n7 c_n7]))], oseg p_n7 (bls n7), [(i_n8, AObj.row false ([.func (.func 78) #[] #[.pointer (some ⟨i_n0, 0, none⟩), .pointer (some ⟨i_n1, 0, none⟩), .pointer (some ⟨i_n3, 0, none⟩), .pointer (some ⟨i_n6, 0, none⟩), .pointer (some ⟨i_n8, 0, none⟩)]]))], F] : List Sg).flatten.map (·.1)).Nodup) (ho : ∀ x ∈ ([[(i_n0, AObj.row false ([.int .i64 n0_0]))], [(i_n1, AObj.row false ([.slice p_n2 k_n2 c_n2]))], oseg p_n2 (bls n2), [(i_n3, AObj.row false ([.func (.func 49) #[] #[.pointer (some ⟨i_n4, 0, none⟩), .pointer (some ⟨i_n5, 0, none⟩)]]))], [(i_n4, AObj.row false ([.int .i64 n4_0]))], [(i_n5, AObj.row false ([.slice p_n5_0 n5_0.length c_n5_0]))], [(i_n6, AObj.row false ([.slice p_n7 k_n7 c_n7]))], oseg p_n7 (bls n7), [(i_n8, AObj.row false ([.func (.func 78) #[] #[.pointer (some ⟨i_n0, 0, none⟩), .pointer (some ⟨i_n1, 0, none⟩), .pointer (some ⟨i_n3, 0, none⟩), .pointer (some ⟨i_n6, 0, none⟩), .pointer (some ⟨i_n8, 0, none⟩)]]))], F] : List Sg).flatten, x.1 < H.length ∧ hget H x.1 = x.2) (r0 : Bool) (m_n2 : List Bool) (m_n5_0 : List (List Int)) (m_n7 : List Bool) (hd : D_impl_starters_1__impl_FirstStrong_1 fu a0 n0_0 k_n2 n2 n4_0 n5_0 k_n7 n7 = some (r0, m_n2, m_n5_0, m_n7)), ∃ v G', ACall Tryz.prog 78 [.slice p_a0 a0.length c_a0, .pointer (some ⟨i_n0, 0, none⟩), .pointer (some ⟨i_n1, 0, none⟩), .pointer (some ⟨i_n3, 0, none⟩), .pointer (some ⟨i_n6, 0, none⟩), .pointer (some ⟨i_n8, 0, none⟩)] H v G' ∧ ∃ (p_m_n5_0 : Option Addr) (c_m_n5_0 : Nat) (T_m_n5_0 : Tb) (F' : Sg), (v = .bool r0) ∧ St (([[(i_n0, AObj.row false ([.int .i64 n0_0]))], [(i_n1, AObj.row false ([.slice p_n2 k_n2 c_n2]))], oseg p_n2 (bls n2), [(i_n3, AObj.row false ([.func (.func 49) #[] #[.pointer (some ⟨i_n4, 0, none⟩), .pointer (some ⟨i_n5, 0, none⟩)]]))], [(i_n4, AObj.row false ([.int .i64 n4_0]))], [(i_n5, AObj.row false ([.slice p_n5_0 n5_0.length c_n5_0]))], [(i_n6, AObj.row false ([.slice p_n7 k_n7 c_n7]))], oseg p_n7 (bls n7), [(i_n8, AObj.row false ([.func (.func 78) #[] #[.pointer (some ⟨i_n0, 0, none⟩), .pointer (some ⟨i_n1, 0, none⟩), .pointer (some ⟨i_n3, 0, none⟩), .pointer (some ⟨i_n6, 0, none⟩), .pointer (some ⟨i_n8, 0, none⟩)]]))], F] : List Sg).flatten.map (·.1)) H G' [[(i_n0, AObj.row false ([.int .i64 n0_0]))], [(i_n1, AObj.row false ([.slice p_n2 k_n2 c_n2]))], oseg p_n2 (bls m_n2), [(i_n3, AObj.row false ([.func (.func 49) #[] #[.pointer (some ⟨i_n4, 0, none⟩), .pointer (some ⟨i_n5, 0, none⟩)]]))], [(i_n4, AObj.row false ([.int .i64 n4_0]))], [(i_n5, AObj.row false ([.slice p_m_n5_0 m_n5_0.length c_m_n5_0]))], [(i_n6, AObj.row false ([.slice p_n7 k_n7 c_n7]))], oseg p_n7 (bls m_n7), [(i_n8, AObj.row false ([.func (.func 78) #[] #[.pointer (some ⟨i_n0, 0, none⟩), .pointer (some ⟨i_n1, 0, none⟩), .pointer (some ⟨i_n3, 0, none⟩), .pointer (some ⟨i_n6, 0, none⟩), .pointer (some ⟨i_n8, 0, none⟩)]]))], F'] ∧ m_n2.length = k_n2 ∧ m_n7.length = k_n7 ∧ trows T_m_n5_0 = m_n5_0 ∧ PT F' p_m_n5_0 c_m_n5_0 T_m_n5_0 ∧ (m_n5_0 = [] → p_m_n5_0 = none) ∧ Pin F' F := by
 intro fu
 induction fu with
 | zero => intros; rename_i hd; cases hd
 | succ fu ih =>
 intro H F p_a0 c_a0 T_a0 a0 t_a0 q_a0 y_a0 i_n0 n0_0 i_n1 p_n2 k_n2 c_n2 n2 l_n2 s_n2 i_n3 i_n4 n4_0 i_n5 p_n5_0 c_n5_0 T_n5_0 n5_0 t_n5_0 q_n5_0 y_n5_0 i_n6 p_n7 k_n7 c_n7 n7 l_n7 s_n7 i_n8 hn ho r0 m_n2 m_n5_0 m_n7 hd
 refine ACall.bodyX (args := [.slice p_a0 a0.length c_a0, .pointer (some ⟨i_n0, 0, none⟩), .pointer (some ⟨i_n1, 0, none⟩), .pointer (some ⟨i_n3, 0, none⟩), .pointer (some ⟨i_n6, 0, none⟩), .pointer (some ⟨i_n8, 0, none⟩)]) (N := 84) [(0, .slice p_a0 a0.length c_a0), (1, .pointer (some ⟨i_n0, 0, none⟩)), (2, .pointer (some ⟨i_n1, 0, none⟩)), (3, .pointer (some ⟨i_n3, 0, none⟩)), (4, .pointer (some ⟨i_n6, 0, none⟩)), (5, .pointer (some ⟨i_n8, 0, none⟩))] (fun v G' => ∃ (p_m_n5_0 : Option Addr) (c_m_n5_0 : Nat) (T_m_n5_0 : Tb) (F' : Sg), (v = .bool r0) ∧ St (([[(i_n0, AObj.row false ([.int .i64 n0_0]))], [(i_n1, AObj.row false ([.slice p_n2 k_n2 c_n2]))], oseg p_n2 (bls n2), [(i_n3, AObj.row false ([.func (.func 49) #[] #[.pointer (some ⟨i_n4, 0, none⟩), .pointer (some ⟨i_n5, 0, none⟩)]]))], [(i_n4, AObj.row false ([.int .i64 n4_0]))], [(i_n5, AObj.row false ([.slice p_n5_0 n5_0.length c_n5_0]))], [(i_n6, AObj.row false ([.slice p_n7 k_n7 c_n7]))], oseg p_n7 (bls n7), [(i_n8, AObj.row false ([.func (.func 78) #[] #[.pointer (some ⟨i_n0, 0, none⟩), .pointer (some ⟨i_n1, 0, none⟩), .pointer (some ⟨i_n3, 0, none⟩), .pointer (some ⟨i_n6, 0, none⟩), .pointer (some ⟨i_n8, 0, none⟩)]]))], F] : List Sg).flatten.map (·.1)) H G' [[(i_n0, AObj.row false ([.int .i64 n0_0]))], [(i_n1, AObj.row false ([.slice p_n2 k_n2 c_n2]))], oseg p_n2 (bls m_n2), [(i_n3, AObj.row false ([.func (.func 49) #[] #[.pointer (some ⟨i_n4, 0, none⟩), .pointer (some ⟨i_n5, 0, none⟩)]]))], [(i_n4, AObj.row false ([.int .i64 n4_0]))], [(i_n5, AObj.row false ([.slice p_m_n5_0 m_n5_0.length c_m_n5_0]))], [(i_n6, AObj.row false ([.slice p_n7 k_n7 c_n7]))], oseg p_n7 (bls m_n7), [(i_n8, AObj.row false ([.func (.func 78) #[] #[.pointer (some ⟨i_n0, 0, none⟩), .pointer (some ⟨i_n1, 0, none⟩), .pointer (some ⟨i_n3, 0, none⟩), .pointer (some ⟨i_n6, 0, none⟩), .pointer (some ⟨i_n8, 0, none⟩)]]))], F'] ∧ m_n2.length = k_n2 ∧ m_n7.length = k_n7 ∧ trows T_m_n5_0 = m_n5_0 ∧ PT F' p_m_n5_0 c_m_n5_0 T_m_n5_0 ∧ (m_n5_0 = [] → p_m_n5_0 = none) ∧ Pin F' F) Tryz.func78 rfl rfl rfl rfl ?_
 unfold D_impl_starters_1__impl_FirstStrong_1 at hd
 have S0 := St.initF hn ho
 generalize hM0 : (([[(i_n0, AObj.row false ([.int .i64 n0_0]))], [(i_n1, AObj.row false ([.slice p_n2 k_n2 c_n2]))], oseg p_n2 (bls n2), [(i_n3, AObj.row false ([.func (.func 49) #[] #[.pointer (some ⟨i_n4, 0, none⟩), .pointer (some ⟨i_n5, 0, none⟩)]]))], [(i_n4, AObj.row false ([.int .i64 n4_0]))], [(i_n5, AObj.row false ([.slice p_n5_0 n5_0.length c_n5_0]))], [(i_n6, AObj.row false ([.slice p_n7 k_n7 c_n7]))], oseg p_n7 (bls n7), [(i_n8, AObj.row false ([.func (.func 78) #[] #[.pointer (some ⟨i_n0, 0, none⟩), .pointer (some ⟨i_n1, 0, none⟩), .pointer (some ⟨i_n3, 0, none⟩), .pointer (some ⟨i_n6, 0, none⟩), .pointer (some ⟨i_n8, 0, none⟩)]]))], F] : List Sg).flatten.map (·.1)) = M0 at S0 ⊢
 refine AX.sr (AO.a rfl rfl (AO.nil (AX.sr (AO.a rfl rfl (AO.nil ?_)))))
 obtain ⟨n5, n6, i2⟩ := bnd_some hd
 refine AX.cut (fun t' H' => ∃ (a1 : Int), a1 = n5 ∧ St M0 H H' [F, [(i_n0, AObj.row false ([.int .i64 n0_0]))], [(i_n1, AObj.row false ([.slice p_n2 k_n2 c_n2]))], oseg p_n2 (bls n2), [(i_n3, AObj.row false ([.func (.func 49) #[] #[.pointer (some ⟨i_n4, 0, none⟩), .pointer (some ⟨i_n5, 0, none⟩)]]))], [(i_n4, AObj.row false ([.int .i64 n4_0]))], [(i_n5, AObj.row false ([.slice p_n5_0 n5_0.length c_n5_0]))], [(i_n6, AObj.row false ([.slice p_n7 k_n7 c_n7]))], oseg p_n7 (bls n7), [(i_n8, AObj.row false ([.func (.func 78) #[] #[.pointer (some ⟨i_n0, 0, none⟩), .pointer (some ⟨i_n1, 0, none⟩), .pointer (some ⟨i_n3, 0, none⟩), .pointer (some ⟨i_n6, 0, none⟩), .pointer (some ⟨i_n8, 0, none⟩)]]))]] ∧ Pin F F ∧ PT F p_n5_0 c_n5_0 T_n5_0 ∧ (n5_0 = [] → p_n5_0 = none) ∧ PT F p_a0 c_a0 T_a0 ∧ (a0 = [] → p_a0 = none) ∧ Am.Sub [(0, .slice p_a0 a0.length c_a0), (1, .pointer (some ⟨i_n0, 0, none⟩)), (2, .pointer (some ⟨i_n1, 0, none⟩)), (3, .pointer (some ⟨i_n3, 0, none⟩)), (4, .pointer (some ⟨i_n6, 0, none⟩)), (5, .pointer (some ⟨i_n8, 0, none⟩)), (8, .int .i64 a1)] t') ?_ ?_
 ·refine AX.block (AX.loopF (fun s' t' H' => ∃ (b3 : Int), b3 = s' ∧ St M0 H H' [F, [(i_n0, AObj.row false ([.int .i64 n0_0]))], [(i_n1, AObj.row false ([.slice p_n2 k_n2 c_n2]))], oseg p_n2 (bls n2), [(i_n3, AObj.row false ([.func (.func 49) #[] #[.pointer (some ⟨i_n4, 0, none⟩), .pointer (some ⟨i_n5, 0, none⟩)]]))], [(i_n4, AObj.row false ([.int .i64 n4_0]))], [(i_n5, AObj.row false ([.slice p_n5_0 n5_0.length c_n5_0]))], [(i_n6, AObj.row false ([.slice p_n7 k_n7 c_n7]))], oseg p_n7 (bls n7), [(i_n8, AObj.row false ([.func (.func 78) #[] #[.pointer (some ⟨i_n0, 0, none⟩), .pointer (some ⟨i_n1, 0, none⟩), .pointer (some ⟨i_n3, 0, none⟩), .pointer (some ⟨i_n6, 0, none⟩), .pointer (some ⟨i_n8, 0, none⟩)]]))]] ∧ Pin F F ∧ PT F p_n5_0 c_n5_0 T_n5_0 ∧ (n5_0 = [] → p_n5_0 = none) ∧ PT F p_a0 c_a0 T_a0 ∧ (a0 = [] → p_a0 = none) ∧ Am.Sub [(0, .slice p_a0 a0.length c_a0), (1, .pointer (some ⟨i_n0, 0, none⟩)), (2, .pointer (some ⟨i_n1, 0, none⟩)), (3, .pointer (some ⟨i_n3, 0, none⟩)), (4, .pointer (some ⟨i_n6, 0, none⟩)), (5, .pointer (some ⟨i_n8, 0, none⟩)), (8, .int .i64 b3)] t') n6 ?_ ?_)
  ·skip
   have n8 := S0.front 8 rfl
   have n9 := n8.front 8 rfl
   have o0 := n9.front 8 rfl
   have o1 := o0.front 8 rfl
   have o2 := o1.front 8 rfl
   have o3 := o2.front 8 rfl
   have o4 := o3.front 8 rfl
   have o5 := o4.front 8 rfl
   have o6 := o5.front 8 rfl
   have o7 := o6.front 9 rfl
   exact ⟨1, rfl, o7, (Pin.refl F), q_n5_0, y_n5_0, q_a0, y_a0, Sub.k4 rfl rfl rfl rfl (Sub.k2 rfl rfl (Sub.k1 rfl (Sub.nil _)))⟩
  ·rintro P5 _ t' P6 ⟨b3, rfl, c2, i3, i4, i5, i6, i7, o8⟩ P7 i8 i9
   refine AX.sub o8 ?_
   unfold D_impl_starters_1__impl_FirstStrong_1_s0 at i8
   refine AX.seq ?_
   obtain ⟨o9, j0, j1⟩ := bnd_some i8
   refine AX.cut (fun t' H' => ∃ (f5 : Bool), f5 = o9 ∧ St M0 H H' [F, [(i_n0, AObj.row false ([.int .i64 n0_0]))], [(i_n1, AObj.row false ([.slice p_n2 k_n2 c_n2]))], oseg p_n2 (bls n2), [(i_n3, AObj.row false ([.func (.func 49) #[] #[.pointer (some ⟨i_n4, 0, none⟩), .pointer (some ⟨i_n5, 0, none⟩)]]))], [(i_n4, AObj.row false ([.int .i64 n4_0]))], [(i_n5, AObj.row false ([.slice p_n5_0 n5_0.length c_n5_0]))], [(i_n6, AObj.row false ([.slice p_n7 k_n7 c_n7]))], oseg p_n7 (bls n7), [(i_n8, AObj.row false ([.func (.func 78) #[] #[.pointer (some ⟨i_n0, 0, none⟩), .pointer (some ⟨i_n1, 0, none⟩), .pointer (some ⟨i_n3, 0, none⟩), .pointer (some ⟨i_n6, 0, none⟩), .pointer (some ⟨i_n8, 0, none⟩)]]))]] ∧ Pin F F ∧ PT F p_n5_0 c_n5_0 T_n5_0 ∧ (n5_0 = [] → p_n5_0 = none) ∧ PT F p_a0 c_a0 T_a0 ∧ (a0 = [] → p_a0 = none) ∧ Am.Sub [(0, .slice p_a0 a0.length c_a0), (1, .pointer (some ⟨i_n0, 0, none⟩)), (2, .pointer (some ⟨i_n1, 0, none⟩)), (3, .pointer (some ⟨i_n3, 0, none⟩)), (4, .pointer (some ⟨i_n6, 0, none⟩)), (5, .pointer (some ⟨i_n8, 0, none⟩)), (8, .int .i64 b3), (20, .bool f5)] t') ?_ ?_
   ·skip
    refine AX.region (AO.m rfl rfl (AO.c rfl (s_load isAgg2 rfl (row_cell (c2.get (k := 1) rfl) rfl)) (AO.p rfl (p_lss rfl rfl) (AO.m rfl rfl (AO.cases (d := 15) rfl (fun f6 => ?_) (fun f6 => ?_))))))
    ·have p0 := bif_t f6 j0
     refine AO.gc rfl rfl rfl (s_load isAgg76 rfl (row_cell (c2.get (k := 2) rfl) rfl)) (AO.gp rfl rfl rfl (p_move rfl) ?_)
     obtain ⟨e0, p1⟩ := chk_some p0
     refine AO.gp rfl rfl rfl (s_indexV (q := b3.toNat) underlying76 sizeOf4 rfl (s_n2.at (inR_pos e0)) rfl e0 (z1 _)) (AO.gc rfl rfl rfl (s_load isAgg4 rfl (row_cell (c2.oat (k := 3) rfl (s_n2.at (inR_pos e0))) (bls_get (lt_len l_n2 (inR_lt e0))))) (AO.p rfl (p_pickT rfl rfl) (AO.nil ?_)))
     have p2 := c2.front 9 rfl
     have p3 := p2.front 9 rfl
     have p4 := p3.front 9 rfl
     have p5 := p4.front 9 rfl
     have p6 := p5.front 9 rfl
     have p7 := p6.front 9 rfl
     have p8 := p7.front 9 rfl
     have p9 := p8.front 9 rfl
     have q0 := p9.front 9 rfl
     have q1 := q0.front 9 rfl
     exact ⟨(rdb n2 b3.toNat), (some_inj p1), q1, i3, i4, i5, i6, i7, Sub.k8 rfl rfl rfl rfl rfl rfl rfl rfl (Sub.nil _)⟩
    ·have q2 := bif_f f6 j0
     refine AO.gn rfl rfl rfl (AO.gn rfl rfl rfl (AO.gn rfl rfl rfl (AO.gn rfl rfl rfl (AO.p rfl (p_pickF rfl rfl) (AO.nil ?_)))))
     have q3 := c2.front 9 rfl
     have q4 := q3.front 9 rfl
     have q5 := q4.front 9 rfl
     have q6 := q5.front 9 rfl
     have q7 := q6.front 9 rfl
     have q8 := q7.front 9 rfl
     have q9 := q8.front 9 rfl
     have r1 := q9.front 9 rfl
     have r2 := r1.front 9 rfl
     have r3 := r2.front 9 rfl
     exact ⟨false, (some_inj q2), r3, i3, i4, i5, i6, i7, Sub.k8 rfl rfl rfl rfl rfl rfl rfl rfl (Sub.nil _)⟩
   ·rintro t' P8 ⟨f5, rfl, j2, j3, j4, j5, j6, j7, r4⟩
    refine AX.sub r4 (AX.cond rfl (fun f7 => ?_) (fun f7 => ?_))
    ·have r5 := bif_t f7 j1
     refine AX.skip (AX.block (AX.region (AO.m rfl rfl ?_)))
     obtain ⟨r6, r7⟩ := chk_some r5
     refine AO.p rfl (p_addE rfl rfl r6) (AO.a rfl rfl (AO.nil ?_))
     obtain rfl := some_inj r7
     have r8 := j2.front 9 rfl
     have r9 := r8.front 9 rfl
     have s0 := r9.front 9 rfl
     have s1 := s0.front 9 rfl
     have s2 := s1.front 9 rfl
     have s3 := s2.front 9 rfl
     have s4 := s3.front 9 rfl
     have s5 := s4.front 9 rfl
     have s6 := s5.front 9 rfl
     have s7 := s6.front 9 rfl
     exact ⟨b3 + 1, i9, (b3 + 1), rfl, s7, j3, j4, j5, j6, j7, Sub.k4 rfl rfl rfl rfl (Sub.k2 rfl rfl (Sub.k1 rfl (Sub.nil _)))⟩
    ·have s8 := bif_f f7 j1
     refine AX.exit ?_
     obtain rfl := some_inj s8
     have s9 := j2.front 9 rfl
     have t0 := s9.front 9 rfl
     have t1 := t0.front 9 rfl
     have t2 := t1.front 9 rfl
     have t3 := t2.front 9 rfl
     have t4 := t3.front 9 rfl
     have t5 := t4.front 9 rfl
     have t6 := t5.front 9 rfl
     have t7 := t6.front 9 rfl
     have t8 := t7.front 9 rfl
     exact ⟨b3, i9, t8, j3, j4, j5, j6, j7, Sub.k4 rfl rfl rfl rfl (Sub.k2 rfl rfl (Sub.k1 rfl (Sub.nil _)))⟩
 ·rintro t' j8 ⟨a1, rfl, e1, j9, k0, k3, k5, k6, t9⟩
  refine AX.sub t9 (AX.seq (AX.sr (AO.m rfl rfl (AO.c rfl (s_load isAgg2 rfl (row_cell (e1.get (k := 1) rfl) rfl)) (AO.p rfl (p_eql rfl rfl) (AO.nil (AX.cond rfl (fun f8 => ?_) (fun f8 => ?_))))))))
  ·have u0 := bif_t f8 i2
   refine AX.sr (AO.c rfl (s_load isAgg65 rfl (row_cell (e1.get (k := 4) rfl) rfl)) (AO.m rfl rfl ?_))
   have u1 := e1.front 0 rfl
   have u2 := u1.front 6 rfl
   have u3 := u2.front 6 rfl
   have f9 : St M0 H j8 [[(i_n4, AObj.row false ([.int .i64 n4_0]))], [(i_n5, AObj.row false ([.slice p_n5_0 n5_0.length c_n5_0]))], F, [(i_n0, AObj.row false ([.int .i64 n0_0]))], [(i_n1, AObj.row false ([.slice p_n2 k_n2 c_n2]))], oseg p_n2 (bls n2), [(i_n3, AObj.row false ([.func (.func 49) #[] #[.pointer (some ⟨i_n4, 0, none⟩), .pointer (some ⟨i_n5, 0, none⟩)]]))], [(i_n6, AObj.row false ([.slice p_n7 k_n7 c_n7]))], oseg p_n7 (bls n7), [(i_n8, AObj.row false ([.func (.func 78) #[] #[.pointer (some ⟨i_n0, 0, none⟩), .pointer (some ⟨i_n1, 0, none⟩), .pointer (some ⟨i_n3, 0, none⟩), .pointer (some ⟨i_n6, 0, none⟩), .pointer (some ⟨i_n8, 0, none⟩)]]))]] := u3
   obtain ⟨⟨u4, u5⟩, u6, u7⟩ := bnd_some u0
   obtain ⟨_, P9, u8, u9, v0, v1, v2, rfl, v3, v4, v5, v6, v7⟩ := W_impl_FirstStrong_1 fu j8 F p_a0 c_a0 T_a0 a0 t_a0 k5 k6 i_n4 n4_0 i_n5 p_n5_0 c_n5_0 T_n5_0 n5_0 t_n5_0 k0 k3 (St.fnodup (A := [[(i_n4, AObj.row false ([.int .i64 n4_0]))], [(i_n5, AObj.row false ([.slice p_n5_0 n5_0.length c_n5_0]))], F]) f9) (St.fmem (A := [[(i_n4, AObj.row false ([.int .i64 n4_0]))], [(i_n5, AObj.row false ([.slice p_n5_0 n5_0.length c_n5_0]))], F]) f9) u4 u5 u6
   have v8 := St.callM (A := [[(i_n4, AObj.row false ([.int .i64 n4_0]))], [(i_n5, AObj.row false ([.slice p_n5_0 n5_0.length c_n5_0]))], F]) f9 v3 (fun j h => h)
   refine AO.c rfl (o_callV (vs := [.slice p_a0 a0.length c_a0]) rfl rfl Tryz.call49 u8) (AO.a rfl rfl (AO.nil (AX.ret ?_)))
   obtain ⟨rfl, v9⟩ := Prod.mk.inj (some_inj u7)
   obtain ⟨rfl, w0⟩ := Prod.mk.inj v9
   obtain ⟨rfl, rfl⟩ := Prod.mk.inj w0
   have w1 := v8.front 2 rfl
   have w2 := w1.front 9 rfl
   have w3 := w2.front 9 rfl
   have w4 := w3.front 9 rfl
   have w5 := w4.front 5 rfl
   have w6 := w5.front 5 rfl
   have w7 := w6.front 9 rfl
   have w8 := w7.front 9 rfl
   have w9 := w8.front 9 rfl
   have x0 := w9.front 9 rfl
   exact ⟨.inr rfl, _, res1 rfl (rv_tmp rfl), u9, v0, v1, v2, rfl, x0, l_n2, l_n7, v4, v5, v6, (j9.mono v7)⟩
  ·have x1 := bif_f f8 i2
   refine AX.skip (AX.seq (AX.sr (AO.m rfl rfl ?_)))
   obtain ⟨x2, x3⟩ := chk_some x1
   refine AO.p rfl (p_addE rfl rfl x2) (AO.a rfl rfl (AO.nil ?_))
   obtain ⟨k7, x4, k9⟩ := bnd_some x3
   refine AX.cutS (fun t' H' => ∃ (e2 : List Bool) (c3 : List (List Int)) (e3 : List Bool) (c4 : Sg) (c5 : Option Addr) (e4 : Nat) (e5 : Tb), .inl (e2, c3, e3) = k7 ∧ St M0 H H' [c4, [(i_n0, AObj.row false ([.int .i64 n0_0]))], [(i_n1, AObj.row false ([.slice p_n2 k_n2 c_n2]))], oseg p_n2 (bls e2), [(i_n3, AObj.row false ([.func (.func 49) #[] #[.pointer (some ⟨i_n4, 0, none⟩), .pointer (some ⟨i_n5, 0, none⟩)]]))], [(i_n4, AObj.row false ([.int .i64 n4_0]))], [(i_n5, AObj.row false ([.slice c5 c3.length e4]))], [(i_n6, AObj.row false ([.slice p_n7 k_n7 c_n7]))], oseg p_n7 (bls e3), [(i_n8, AObj.row false ([.func (.func 78) #[] #[.pointer (some ⟨i_n0, 0, none⟩), .pointer (some ⟨i_n1, 0, none⟩), .pointer (some ⟨i_n3, 0, none⟩), .pointer (some ⟨i_n6, 0, none⟩), .pointer (some ⟨i_n8, 0, none⟩)]]))]] ∧ Pin c4 F ∧ e2.length = k_n2 ∧ trows e5 = c3 ∧ PT c4 c5 e4 e5 ∧ (c3 = [] → c5 = none) ∧ e3.length = k_n7 ∧ Am.Sub [] t') ?_ ?_
   ·refine AX.block (AX.loopF (fun s' t' H' => ∃ (a3 : List Bool) (a4 : List (List Int)) (a5 : List Bool) (a2 : Int) (a7 : Sg) (a6 : Option Addr) (a8 : Nat) (b7 : Tb), (a3, a4, a5, a2) = s' ∧ St M0 H H' [a7, [(i_n0, AObj.row false ([.int .i64 n0_0]))], [(i_n1, AObj.row false ([.slice p_n2 k_n2 c_n2]))], oseg p_n2 (bls a3), [(i_n3, AObj.row false ([.func (.func 49) #[] #[.pointer (some ⟨i_n4, 0, none⟩), .pointer (some ⟨i_n5, 0, none⟩)]]))], [(i_n4, AObj.row false ([.int .i64 n4_0]))], [(i_n5, AObj.row false ([.slice a6 a4.length a8]))], [(i_n6, AObj.row false ([.slice p_n7 k_n7 c_n7]))], oseg p_n7 (bls a5), [(i_n8, AObj.row false ([.func (.func 78) #[] #[.pointer (some ⟨i_n0, 0, none⟩), .pointer (some ⟨i_n1, 0, none⟩), .pointer (some ⟨i_n3, 0, none⟩), .pointer (some ⟨i_n6, 0, none⟩), .pointer (some ⟨i_n8, 0, none⟩)]]))]] ∧ Pin a7 F ∧ a3.length = k_n2 ∧ trows b7 = a4 ∧ PT a7 a6 a8 b7 ∧ (a4 = [] → a6 = none) ∧ a5.length = k_n7 ∧ PT a7 p_a0 c_a0 T_a0 ∧ (a0 = [] → p_a0 = none) ∧ Am.Sub [(0, .slice p_a0 a0.length c_a0), (1, .pointer (some ⟨i_n0, 0, none⟩)), (2, .pointer (some ⟨i_n1, 0, none⟩)), (4, .pointer (some ⟨i_n6, 0, none⟩)), (5, .pointer (some ⟨i_n8, 0, none⟩)), (8, .int .i64 a1), (9, .int .i64 a2)] t') x4 ?_ ?_)
    ·skip
     have x5 := e1.front 9 rfl
     have x6 := x5.front 9 rfl
     have x7 := x6.front 9 rfl
     have x8 := x7.front 9 rfl
     have x9 := x8.front 9 rfl
     have y0 := x9.front 9 rfl
     have y1 := y0.front 9 rfl
     have y2 := y1.front 9 rfl
     have y3 := y2.front 9 rfl
     have y4 := y3.front 9 rfl
     exact ⟨n2, n5_0, n7, (a1 + 1), F, p_n5_0, c_n5_0, T_n5_0, rfl, y4, j9, l_n2, t_n5_0, k0, k3, l_n7, k5, k6, Sub.k4 rfl rfl rfl rfl (Sub.k2 rfl rfl (Sub.k1 rfl (Sub.nil _)))⟩
    ·rintro Q0 _ t' Q1 ⟨a3, a4, a5, a2, a7, a6, a8, b7, rfl, b4, g0, b9, g1, g2, g3, c6, l0, l1, y5⟩ Q2 g4 e6
     refine AX.sub y5 ?_
     unfold D_impl_starters_1__impl_FirstStrong_1_s1 at g4
     refine AX.seq (AX.sr (AO.m rfl rfl (AO.c rfl (s_load isAgg2 rfl (row_cell (b4.get (k := 1) rfl) rfl)) (AO.p rfl (p_lss rfl rfl) (AO.nil (AX.cond rfl (fun g5 => ?_) (fun g5 => ?_)))))))
     ·have y6 := bif_t g5 g4
      refine AX.skip (AX.seq (AX.block (AX.sr (AO.m rfl rfl (AO.m rfl rfl ?_)))))
      obtain ⟨y7, y8⟩ := chk_some y6
      refine AO.p rfl (p_subE rfl rfl y7) (AO.c rfl (s_load isAgg2 rfl (row_cell (b4.get (k := 1) rfl) rfl)) (AO.m rfl rfl ?_))
      obtain ⟨y9, z0⟩ := chk_some y8
      refine AO.p rfl (p_subE rfl rfl y9) (AO.m rfl rfl ?_)
      obtain ⟨z2, z3⟩ := chk_some z0
      refine AO.p rfl (p_addE rfl rfl z2) (AO.p rfl (p_min rfl rfl rfl) (AO.a rfl rfl (AO.nil (AX.seq ?_))))
      obtain ⟨z4, z5, l2⟩ := bnd_some z3
      refine AX.cut (fun t' H' => ∃ (g6 : Bool), g6 = z4 ∧ St M0 H H' [a7, [(i_n0, AObj.row false ([.int .i64 n0_0]))], [(i_n1, AObj.row false ([.slice p_n2 k_n2 c_n2]))], oseg p_n2 (bls a3), [(i_n3, AObj.row false ([.func (.func 49) #[] #[.pointer (some ⟨i_n4, 0, none⟩), .pointer (some ⟨i_n5, 0, none⟩)]]))], [(i_n4, AObj.row false ([.int .i64 n4_0]))], [(i_n5, AObj.row false ([.slice a6 a4.length a8]))], [(i_n6, AObj.row false ([.slice p_n7 k_n7 c_n7]))], oseg p_n7 (bls a5), [(i_n8, AObj.row false ([.func (.func 78) #[] #[.pointer (some ⟨i_n0, 0, none⟩), .pointer (some ⟨i_n1, 0, none⟩), .pointer (some ⟨i_n3, 0, none⟩), .pointer (some ⟨i_n6, 0, none⟩), .pointer (some ⟨i_n8, 0, none⟩)]]))]] ∧ Pin a7 F ∧ PT a7 a6 a8 b7 ∧ (a4 = [] → a6 = none) ∧ PT a7 p_a0 c_a0 T_a0 ∧ (a0 = [] → p_a0 = none) ∧ Am.Sub [(0, .slice p_a0 a0.length c_a0), (1, .pointer (some ⟨i_n0, 0, none⟩)), (2, .pointer (some ⟨i_n1, 0, none⟩)), (4, .pointer (some ⟨i_n6, 0, none⟩)), (5, .pointer (some ⟨i_n8, 0, none⟩)), (8, .int .i64 a1), (9, .int .i64 a2), (10, .int .i64 (if n0_0 - a2 + a1 < a2 - a1 then n0_0 - a2 + a1 else a2 - a1)), (54, .bool g6)] t') ?_ ?_
      ·skip
       refine AX.region (AO.c rfl (s_load isAgg76 rfl (row_cell (b4.get (k := 2) rfl) rfl)) (AO.m rfl rfl ?_))
       obtain ⟨e7, l3⟩ := chk_some z5
       refine AO.p rfl (s_indexV (q := a2.toNat) underlying76 sizeOf4 rfl (s_n2.at (inR_pos e7)) rfl e7 (z1 _)) (AO.c rfl (s_load isAgg4 rfl (row_cell (b4.oat (k := 3) rfl (s_n2.at (inR_pos e7))) (bls_get (lt_len b9 (inR_lt e7))))) (AO.m rfl rfl (AO.cases (d := 49) rfl (fun g7 => ?_) (fun g7 => ?_))))
       ·have z6 := bif_t g7 l3
        refine AO.gn rfl rfl rfl (AO.gn rfl rfl rfl (AO.gn rfl rfl rfl (AO.gn rfl rfl rfl (AO.p rfl (p_pickT rfl rfl) (AO.nil ?_)))))
        have z7 := b4.front 9 rfl
        have z8 := z7.front 9 rfl
        have z9 := z8.front 9 rfl
        have A0 := z9.front 9 rfl
        have A1 := A0.front 9 rfl
        have A2 := A1.front 9 rfl
        have A3 := A2.front 9 rfl
        have A4 := A3.front 9 rfl
        have A5 := A4.front 9 rfl
        have A6 := A5.front 9 rfl
        exact ⟨true, (some_inj z6), A6, g0, g2, g3, l0, l1, Sub.k8 rfl rfl rfl rfl rfl rfl rfl rfl (Sub.k1 rfl (Sub.nil _))⟩
       ·have A7 := bif_f g7 l3
        refine AO.gc rfl rfl rfl (s_load isAgg76 rfl (row_cell (b4.get (k := 7) rfl) rfl)) (AO.gp rfl rfl rfl (p_move rfl) ?_)
        obtain ⟨e8, A8⟩ := chk_some A7
        refine AO.gp rfl rfl rfl (s_indexV (q := (if n0_0 - a2 + a1 < a2 - a1 then n0_0 - a2 + a1 else a2 - a1).toNat) underlying76 sizeOf4 rfl (s_n7.at (inR_pos e8)) rfl e8 (z1 _)) (AO.gc rfl rfl rfl (s_load isAgg4 rfl (row_cell (b4.oat (k := 8) rfl (s_n7.at (inR_pos e8))) (bls_get (lt_len c6 (inR_lt e8))))) (AO.p rfl (p_pickF rfl rfl) (AO.nil ?_)))
        have A9 := b4.front 9 rfl
        have B0 := A9.front 9 rfl
        have B1 := B0.front 9 rfl
        have B2 := B1.front 9 rfl
        have B3 := B2.front 9 rfl
        have B4 := B3.front 9 rfl
        have B5 := B4.front 9 rfl
        have B6 := B5.front 9 rfl
        have B7 := B6.front 9 rfl
        have B8 := B7.front 9 rfl
        exact ⟨(rdb a5 ((if n0_0 - a2 + a1 < a2 - a1 then n0_0 - a2 + a1 else a2 - a1).toNat)), (some_inj A8), B8, g0, g2, g3, l0, l1, Sub.k8 rfl rfl rfl rfl rfl rfl rfl rfl (Sub.k1 rfl (Sub.nil _))⟩
      ·rintro t' Q3 ⟨g6, rfl, a9, g8, l4, l5, g9, h0, B9⟩
       refine AX.sub B9 (AX.cond rfl (fun h1 => ?_) (fun h1 => ?_))
       ·have C0 := bif_t h1 l2
        refine AX.exit (AX.region (AO.m rfl rfl ?_))
        obtain ⟨C1, C2⟩ := chk_some C0
        refine AO.p rfl (p_addE rfl rfl C1) (AO.a rfl rfl (AO.nil ?_))
        obtain rfl := some_inj C2
        have C3 := a9.front 9 rfl
        have C4 := C3.front 9 rfl
        have C5 := C4.front 9 rfl
        have C6 := C5.front 9 rfl
        have C7 := C6.front 9 rfl
        have C8 := C7.front 9 rfl
        have C9 := C8.front 9 rfl
        have D0 := C9.front 9 rfl
        have D1 := D0.front 9 rfl
        have D2 := D1.front 9 rfl
        exact ⟨(a3, a4, a5, a2 + 1), e6, a3, a4, a5, (a2 + 1), a7, a6, a8, b7, rfl, D2, g8, b9, g1, l4, l5, c6, g9, h0, Sub.k4 rfl rfl rfl rfl (Sub.k2 rfl rfl (Sub.k1 rfl (Sub.nil _)))⟩
       ·have D3 := bif_f h1 l2
        refine AX.skip (AX.seq (DR.startS [false, false, false, false, false, false, false, true, false, true, false, true] mix (by kernel_rfl) (fun hst => ?_)))
        refine DR.r rfl rfl (r_load rfl isAgg76) (one_read (row_cell (a9.get (k := 2) rfl) rfl) (a9.oin (k := 3) rfl s_n2).bel) (DR.p rfl rfl (p_move rfl) (DR.r rfl rfl (r_load rfl isAgg76) (one_read (row_cell (a9.get (k := 2) rfl) rfl) (a9.oin (k := 3) rfl s_n2).bel) (DR.p rfl rfl (p_move rfl) (DR.r rfl rfl (r_load rfl isAgg76) (one_read (row_cell (a9.get (k := 7) rfl) rfl) (a9.oin (k := 8) rfl s_n7).bel) (DR.p rfl rfl (p_move rfl) ?_)))))
        obtain ⟨c7, D4⟩ := chk_some D3
        refine DR.p rfl rfl (s_indexV (q := a1.toNat) underlying76 sizeOf4 rfl (s_n2.at (inR_pos c7)) rfl c7 (z1 _)) ?_
        obtain ⟨D5, l6, D6⟩ := a9.oset (k := 3) (p := p_n2) rfl (s_n2.at (inR_pos c7)) (bls (a3.set a1.toNat true))
        have c8 : St M0 H D5 [a7, [(i_n0, AObj.row false ([.int .i64 n0_0]))], [(i_n1, AObj.row false ([.slice p_n2 k_n2 c_n2]))], oseg p_n2 (bls (a3.set a1.toNat true)), [(i_n3, AObj.row false ([.func (.func 49) #[] #[.pointer (some ⟨i_n4, 0, none⟩), .pointer (some ⟨i_n5, 0, none⟩)]]))], [(i_n4, AObj.row false ([.int .i64 n4_0]))], [(i_n5, AObj.row false ([.slice a6 a4.length a8]))], [(i_n6, AObj.row false ([.slice p_n7 k_n7 c_n7]))], oseg p_n7 (bls a5), [(i_n8, AObj.row false ([.func (.func 78) #[] #[.pointer (some ⟨i_n0, 0, none⟩), .pointer (some ⟨i_n1, 0, none⟩), .pointer (some ⟨i_n3, 0, none⟩), .pointer (some ⟨i_n6, 0, none⟩), .pointer (some ⟨i_n8, 0, none⟩)]]))]] := D6
        refine DR.s rfl (s_store sizeOf4 rfl rfl rfl (a9.oat (k := 3) rfl (s_n2.at (inR_pos c7))) (lt_len ((bls_length _).trans b9) (inR_lt c7)) ((congrArg (fun l => List.set _ _ (AObj.row false l)) (bls_set _ _ _)).trans l6)) (set_le l6) ?_
        obtain ⟨c9, D7⟩ := chk_some D4
        refine DR.p rfl rfl (s_indexV (q := a2.toNat) underlying76 sizeOf4 rfl (s_n2.at (inR_pos c9)) rfl c9 (z1 _)) ?_
        obtain ⟨D8, l7, D9⟩ := c8.oset (k := 3) (p := p_n2) rfl (s_n2.at (inR_pos c9)) (bls ((a3.set a1.toNat true).set a2.toNat true))
        have h2 : St M0 H D8 [a7, [(i_n0, AObj.row false ([.int .i64 n0_0]))], [(i_n1, AObj.row false ([.slice p_n2 k_n2 c_n2]))], oseg p_n2 (bls ((a3.set a1.toNat true).set a2.toNat true)), [(i_n3, AObj.row false ([.func (.func 49) #[] #[.pointer (some ⟨i_n4, 0, none⟩), .pointer (some ⟨i_n5, 0, none⟩)]]))], [(i_n4, AObj.row false ([.int .i64 n4_0]))], [(i_n5, AObj.row false ([.slice a6 a4.length a8]))], [(i_n6, AObj.row false ([.slice p_n7 k_n7 c_n7]))], oseg p_n7 (bls a5), [(i_n8, AObj.row false ([.func (.func 78) #[] #[.pointer (some ⟨i_n0, 0, none⟩), .pointer (some ⟨i_n1, 0, none⟩), .pointer (some ⟨i_n3, 0, none⟩), .pointer (some ⟨i_n6, 0, none⟩), .pointer (some ⟨i_n8, 0, none⟩)]]))]] := D9
        refine DR.s rfl (s_store sizeOf4 rfl rfl rfl (c8.oat (k := 3) rfl (s_n2.at (inR_pos c9))) (lt_len ((bls_length _).trans (len_set b9)) (inR_lt c9)) ((congrArg (fun l => List.set _ _ (AObj.row false l)) (bls_set _ _ _)).trans l7)) (set_le l7) ?_
        obtain ⟨d0, E0⟩ := chk_some D7
        refine DR.p rfl rfl (s_indexV (q := (if n0_0 - a2 + a1 < a2 - a1 then n0_0 - a2 + a1 else a2 - a1).toNat) underlying76 sizeOf4 rfl (s_n7.at (inR_pos d0)) rfl d0 (z1 _)) ?_
        obtain ⟨h3, l8, E1⟩ := h2.oset (k := 8) (p := p_n7) rfl (s_n7.at (inR_pos d0)) (bls (a5.set ((if n0_0 - a2 + a1 < a2 - a1 then n0_0 - a2 + a1 else a2 - a1).toNat) true))
        have b5 : St M0 H h3 [a7, [(i_n0, AObj.row false ([.int .i64 n0_0]))], [(i_n1, AObj.row false ([.slice p_n2 k_n2 c_n2]))], oseg p_n2 (bls ((a3.set a1.toNat true).set a2.toNat true)), [(i_n3, AObj.row false ([.func (.func 49) #[] #[.pointer (some ⟨i_n4, 0, none⟩), .pointer (some ⟨i_n5, 0, none⟩)]]))], [(i_n4, AObj.row false ([.int .i64 n4_0]))], [(i_n5, AObj.row false ([.slice a6 a4.length a8]))], [(i_n6, AObj.row false ([.slice p_n7 k_n7 c_n7]))], oseg p_n7 (bls (a5.set ((if n0_0 - a2 + a1 < a2 - a1 then n0_0 - a2 + a1 else a2 - a1).toNat) true)), [(i_n8, AObj.row false ([.func (.func 78) #[] #[.pointer (some ⟨i_n0, 0, none⟩), .pointer (some ⟨i_n1, 0, none⟩), .pointer (some ⟨i_n3, 0, none⟩), .pointer (some ⟨i_n6, 0, none⟩), .pointer (some ⟨i_n8, 0, none⟩)]]))]] := E1
        refine DR.s rfl (s_store sizeOf4 rfl rfl rfl (h2.oat (k := 8) rfl (s_n7.at (inR_pos d0))) (lt_len ((bls_length _).trans c6) (inR_lt d0)) ((congrArg (fun l => List.set _ _ (AObj.row false l)) (bls_set _ _ _)).trans l8)) (set_le l8) (DR.nil 12 [(2, 7), (4, 7), (4, 9)] hst (by kernel_rfl) ⟨(rd1 (fun _ => (c8.get (k := 2) rfl).trans (a9.get (k := 2) rfl).symm)), (rd1 (fun _ => (c8.get (k := 7) rfl).trans (a9.get (k := 7) rfl).symm)), (rd1 (fun _ => (h2.get (k := 7) rfl).trans (c8.get (k := 7) rfl).symm)), trivial⟩ (AX.seq (DR.startS [false, false, true, false, false, false, false, true, true, false] mix (by kernel_rfl) (fun hst => ?_))))
        refine DR.r rfl rfl (r_load rfl isAgg65) (one_read (row_cell (b5.get (k := 9) rfl) rfl) (bel_fn (bel_cons (.ptr _ _ (b5.lt (k := 1) rfl)) (bel_cons (.ptr _ _ (b5.lt (k := 2) rfl)) (bel_cons (.ptr _ _ (b5.lt (k := 4) rfl)) (bel_cons (.ptr _ _ (b5.lt (k := 7) rfl)) (bel_cons (.ptr _ _ (b5.lt (k := 9) rfl)) bel_nil))))))) (DR.p rfl rfl (p_move rfl) ?_)
        have E2 := b5.front 0 rfl
        have h4 : St M0 H h3 [a7, [(i_n0, AObj.row false ([.int .i64 n0_0]))], [(i_n1, AObj.row false ([.slice p_n2 k_n2 c_n2]))], oseg p_n2 (bls ((a3.set a1.toNat true).set a2.toNat true)), [(i_n3, AObj.row false ([.func (.func 49) #[] #[.pointer (some ⟨i_n4, 0, none⟩), .pointer (some ⟨i_n5, 0, none⟩)]]))], [(i_n4, AObj.row false ([.int .i64 n4_0]))], [(i_n5, AObj.row false ([.slice a6 a4.length a8]))], [(i_n6, AObj.row false ([.slice p_n7 k_n7 c_n7]))], oseg p_n7 (bls (a5.set ((if n0_0 - a2 + a1 < a2 - a1 then n0_0 - a2 + a1 else a2 - a1).toNat) true)), [(i_n8, AObj.row false ([.func (.func 78) #[] #[.pointer (some ⟨i_n0, 0, none⟩), .pointer (some ⟨i_n1, 0, none⟩), .pointer (some ⟨i_n3, 0, none⟩), .pointer (some ⟨i_n6, 0, none⟩), .pointer (some ⟨i_n8, 0, none⟩)]]))]] := E2
        obtain ⟨b1, E3, E4⟩ := bnd_some E0
        obtain ⟨_, Q4, E5, Q5, Q6, c0, E6, rfl, l9, m0, h5, E7, e9⟩ := W_slices_Clone_SSint64_Sint64 fu h3 a7 p_a0 c_a0 T_a0 a0 t_a0 g9 h0 (St.fnodup (A := [a7]) h4) (St.fmem (A := [a7]) h4) b1 E3
        have m1 := St.callM (A := [a7]) h4 l9 (fun j h => h)
        refine DR.w rfl rfl (o_call (vs := [.slice p_a0 a0.length c_a0]) rfl Tryz.call79 E5) (l9.len) (DR.p rfl rfl (p_move rfl) (DR.p rfl rfl (p_move rfl) ?_))
        obtain ⟨Q7, b0, E8, E9, F0⟩ := m1.new (AObj.row false (ints [a1, a2]))
        refine DR.a rfl rfl E8 E9 (a_buildInts (vs := [(0, .int .i64 a1), (1, .int .i64 a2)]) (xs := [a1, a2]) underlying27 sizeOf2 zeroValue2 rfl rfl (by decide) rfl rfl) ?_
        obtain ⟨Q8, F1, F2, F3, F4⟩ := F0.new (AObj.row false (tcells ([((some (Addr.mk b0 0 none)), 2, [a1, a2])])))
        have f0 := (F4.front 1 rfl).tone (some (Addr.mk b0 0 none)) 2 [a1, a2] rfl
        refine DR.a rfl rfl F2 F3 (a_buildT1 (X := [((some (Addr.mk b0 0 none)), 2, [a1, a2])]) (n := 2) rfl underlying24 sizeOf27 zeroValue27 rfl rfl) ?_
        obtain ⟨F5, F6⟩ := chk_some E4
        obtain ⟨d1, h6, f1, m2, F7, F8⟩ := f0.app (k := 2) rfl m0 (tcells ([((some (Addr.mk b0 0 none)), 2, [a1, a2])])) 1 (tc_len1 rfl rfl)
        have F9 := F7.cellsEq (k := 2) (us' := tcells (c0 ++ [((some (Addr.mk b0 0 none)), 2, [a1, a2])])) (tcells_app _ _).symm rfl
        have G0 : Sb d1 ((b1 ++ [[a1, a2]]).length) h6 1 := (show b1.length + 1 = (b1 ++ [[a1, a2]]).length from len_app (a := b1) (b := [[a1, a2]]) rfl rfl) ▸ F8
        have G1 := F9.front 3 rfl
        have G2 := G1.front 1 rfl
        have G3 : St M0 H f1 [tseg ([((some (Addr.mk b0 0 none)), 2, [a1, a2])]), E6, [(F1, AObj.row false (tcells ([((some (Addr.mk b0 0 none)), 2, [a1, a2])])))], oseg d1 (tcells (c0 ++ [((some (Addr.mk b0 0 none)), 2, [a1, a2])])), [(i_n0, AObj.row false ([.int .i64 n0_0]))], [(i_n1, AObj.row false ([.slice p_n2 k_n2 c_n2]))], oseg p_n2 (bls ((a3.set a1.toNat true).set a2.toNat true)), [(i_n3, AObj.row false ([.func (.func 49) #[] #[.pointer (some ⟨i_n4, 0, none⟩), .pointer (some ⟨i_n5, 0, none⟩)]]))], [(i_n4, AObj.row false ([.int .i64 n4_0]))], [(i_n5, AObj.row false ([.slice a6 a4.length a8]))], [(i_n6, AObj.row false ([.slice p_n7 k_n7 c_n7]))], oseg p_n7 (bls (a5.set ((if n0_0 - a2 + a1 < a2 - a1 then n0_0 - a2 + a1 else a2 - a1).toNat) true)), [(i_n8, AObj.row false ([.func (.func 78) #[] #[.pointer (some ⟨i_n0, 0, none⟩), .pointer (some ⟨i_n1, 0, none⟩), .pointer (some ⟨i_n3, 0, none⟩), .pointer (some ⟨i_n6, 0, none⟩), .pointer (some ⟨i_n8, 0, none⟩)]]))]] := G2
        obtain ⟨G4, f2, G5, G6⟩ := G3.poolRows (T := c0) E7 (TSb.one (sb_len rfl (Sb.lit (n := 2) (by decide))))
        have m3 := G6.drop 1 rfl
        refine DR.w rfl rfl (s_app (by_ := 24) (us := tcells c0) (vs := tcells ([((some (Addr.mk b0 0 none)), 2, [a1, a2])])) underlying24 underlying24 typeInfo27 sizeOf27 zeroValue27 rfl rfl rfl rfl rfl rfl rfl (f0.buf (k := 2) rfl m0 (tc_len1 h5 rfl)) (f0.oview (k := 1) rfl (Sb.lit (n := 1) (by decide)) (tc_len1 rfl rfl)) (tc_len1 rfl rfl) tcells_one F5 m2 (show b1.length + 1 = (b1 ++ [[a1, a2]]).length from len_app (a := b1) (b := [[a1, a2]]) rfl rfl)) (appR_len m2) ?_
        have G7 := m3.front 0 rfl
        have G8 := G7.front 1 rfl
        have G9 : St M0 H f1 [oseg d1 (tcells (c0 ++ [((some (Addr.mk b0 0 none)), 2, [a1, a2])])), G4, [(i_n0, AObj.row false ([.int .i64 n0_0]))], [(i_n1, AObj.row false ([.slice p_n2 k_n2 c_n2]))], oseg p_n2 (bls ((a3.set a1.toNat true).set a2.toNat true)), [(i_n3, AObj.row false ([.func (.func 49) #[] #[.pointer (some ⟨i_n4, 0, none⟩), .pointer (some ⟨i_n5, 0, none⟩)]]))], [(i_n4, AObj.row false ([.int .i64 n4_0]))], [(i_n5, AObj.row false ([.slice a6 a4.length a8]))], [(i_n6, AObj.row false ([.slice p_n7 k_n7 c_n7]))], oseg p_n7 (bls (a5.set ((if n0_0 - a2 + a1 < a2 - a1 then n0_0 - a2 + a1 else a2 - a1).toNat) true)), [(i_n8, AObj.row false ([.func (.func 78) #[] #[.pointer (some ⟨i_n0, 0, none⟩), .pointer (some ⟨i_n1, 0, none⟩), .pointer (some ⟨i_n3, 0, none⟩), .pointer (some ⟨i_n6, 0, none⟩), .pointer (some ⟨i_n8, 0, none⟩)]]))]] := G8
        obtain ⟨d2, f3, H0, H1⟩ := G9.poolHdr G5 G0 (tlen (trows_apps h5 rfl))
        obtain ⟨H2, H3⟩ := chk_some F6
        have H4 := H1.front 0 rfl
        have H5 := H4.front 9 rfl
        have H6 := H5.front 9 rfl
        have H7 := H6.front 9 rfl
        have H8 := H7.front 9 rfl
        have H9 := H8.front 9 rfl
        have I0 := H9.front 9 rfl
        have I1 := I0.front 9 rfl
        have I2 := I1.front 9 rfl
        have I3 := I2.front 9 rfl
        have h7 : St M0 H f1 [[(i_n0, AObj.row false ([.int .i64 n0_0]))], [(i_n1, AObj.row false ([.slice p_n2 k_n2 c_n2]))], oseg p_n2 (bls ((a3.set a1.toNat true).set a2.toNat true)), [(i_n3, AObj.row false ([.func (.func 49) #[] #[.pointer (some ⟨i_n4, 0, none⟩), .pointer (some ⟨i_n5, 0, none⟩)]]))], [(i_n4, AObj.row false ([.int .i64 n4_0]))], [(i_n5, AObj.row false ([.slice a6 a4.length a8]))], [(i_n6, AObj.row false ([.slice p_n7 k_n7 c_n7]))], oseg p_n7 (bls (a5.set ((if n0_0 - a2 + a1 < a2 - a1 then n0_0 - a2 + a1 else a2 - a1).toNat) true)), [(i_n8, AObj.row false ([.func (.func 78) #[] #[.pointer (some ⟨i_n0, 0, none⟩), .pointer (some ⟨i_n1, 0, none⟩), .pointer (some ⟨i_n3, 0, none⟩), .pointer (some ⟨i_n6, 0, none⟩), .pointer (some ⟨i_n8, 0, none⟩)]]))], d2] := I3
        obtain ⟨⟨I4, b6, c1, b8⟩, I5, I6⟩ := bnd_some H3
        obtain ⟨_, Q9, I7, d3, d4, m4, d5, rfl, m5, f4, h8, m6, m7, m8, h9⟩ := ih f1 d2 d1 h6 (c0 ++ [((some (Addr.mk b0 0 none)), 2, [a1, a2])]) (b1 ++ [[a1, a2]]) (trows_apps h5 rfl) H0 (nil_pos2 H2) i_n0 n0_0 i_n1 p_n2 k_n2 c_n2 ((a3.set a1.toNat true).set a2.toNat true) (len_set (len_set b9)) s_n2 i_n3 i_n4 n4_0 i_n5 a6 a8 b7 a4 g1 (((l4.mono e9).mono f2).mono f3) l5 i_n6 p_n7 k_n7 c_n7 (a5.set ((if n0_0 - a2 + a1 < a2 - a1 then n0_0 - a2 + a1 else a2 - a1).toNat) true) (len_set c6) s_n7 i_n8 (St.fnodup (A := [[(i_n0, AObj.row false ([.int .i64 n0_0]))], [(i_n1, AObj.row false ([.slice p_n2 k_n2 c_n2]))], oseg p_n2 (bls ((a3.set a1.toNat true).set a2.toNat true)), [(i_n3, AObj.row false ([.func (.func 49) #[] #[.pointer (some ⟨i_n4, 0, none⟩), .pointer (some ⟨i_n5, 0, none⟩)]]))], [(i_n4, AObj.row false ([.int .i64 n4_0]))], [(i_n5, AObj.row false ([.slice a6 a4.length a8]))], [(i_n6, AObj.row false ([.slice p_n7 k_n7 c_n7]))], oseg p_n7 (bls (a5.set ((if n0_0 - a2 + a1 < a2 - a1 then n0_0 - a2 + a1 else a2 - a1).toNat) true)), [(i_n8, AObj.row false ([.func (.func 78) #[] #[.pointer (some ⟨i_n0, 0, none⟩), .pointer (some ⟨i_n1, 0, none⟩), .pointer (some ⟨i_n3, 0, none⟩), .pointer (some ⟨i_n6, 0, none⟩), .pointer (some ⟨i_n8, 0, none⟩)]]))], d2]) h7) (St.fmem (A := [[(i_n0, AObj.row false ([.int .i64 n0_0]))], [(i_n1, AObj.row false ([.slice p_n2 k_n2 c_n2]))], oseg p_n2 (bls ((a3.set a1.toNat true).set a2.toNat true)), [(i_n3, AObj.row false ([.func (.func 49) #[] #[.pointer (some ⟨i_n4, 0, none⟩), .pointer (some ⟨i_n5, 0, none⟩)]]))], [(i_n4, AObj.row false ([.int .i64 n4_0]))], [(i_n5, AObj.row false ([.slice a6 a4.length a8]))], [(i_n6, AObj.row false ([.slice p_n7 k_n7 c_n7]))], oseg p_n7 (bls (a5.set ((if n0_0 - a2 + a1 < a2 - a1 then n0_0 - a2 + a1 else a2 - a1).toNat) true)), [(i_n8, AObj.row false ([.func (.func 78) #[] #[.pointer (some ⟨i_n0, 0, none⟩), .pointer (some ⟨i_n1, 0, none⟩), .pointer (some ⟨i_n3, 0, none⟩), .pointer (some ⟨i_n6, 0, none⟩), .pointer (some ⟨i_n8, 0, none⟩)]]))], d2]) h7) I4 b6 c1 b8 I5
        have b2 := St.callM (A := [[(i_n0, AObj.row false ([.int .i64 n0_0]))], [(i_n1, AObj.row false ([.slice p_n2 k_n2 c_n2]))], oseg p_n2 (bls ((a3.set a1.toNat true).set a2.toNat true)), [(i_n3, AObj.row false ([.func (.func 49) #[] #[.pointer (some ⟨i_n4, 0, none⟩), .pointer (some ⟨i_n5, 0, none⟩)]]))], [(i_n4, AObj.row false ([.int .i64 n4_0]))], [(i_n5, AObj.row false ([.slice a6 a4.length a8]))], [(i_n6, AObj.row false ([.slice p_n7 k_n7 c_n7]))], oseg p_n7 (bls (a5.set ((if n0_0 - a2 + a1 < a2 - a1 then n0_0 - a2 + a1 else a2 - a1).toNat) true)), [(i_n8, AObj.row false ([.func (.func 78) #[] #[.pointer (some ⟨i_n0, 0, none⟩), .pointer (some ⟨i_n1, 0, none⟩), .pointer (some ⟨i_n3, 0, none⟩), .pointer (some ⟨i_n6, 0, none⟩), .pointer (some ⟨i_n8, 0, none⟩)]]))], d2]) h7 m5 (fun j h => h)
        refine DR.w rfl rfl (o_callV (vs := [.slice d1 ((b1 ++ [[a1, a2]]).length) h6]) rfl rfl Tryz.call78 I7) (m5.len) (DR.p rfl rfl (p_assign rfl) (DR.nil 10 [(0, 2), (0, 7), (5, 2), (6, 2)] hst (by kernel_rfl) ⟨(rd1 (fun _ => (m1.get (k := 10) rfl).trans (b5.get (k := 9) rfl).symm)), (rd1 (fun _ => (m3.get (k := 10) rfl).trans (f0.get (k := 12) rfl).symm)), (fun h => absurd h (by decide)), (fun h => absurd h (by decide)), trivial⟩ (AX.seq (DR.startS [false, false, false, false, false, false, false, true, false, true, false, true] mix (by kernel_rfl) (fun hst => ?_)))))
        refine DR.r rfl rfl (r_load rfl isAgg76) (one_read (row_cell (b2.get (k := 1) rfl) rfl) (b2.oin (k := 2) rfl s_n2).bel) (DR.p rfl rfl (p_move rfl) (DR.r rfl rfl (r_load rfl isAgg76) (one_read (row_cell (b2.get (k := 1) rfl) rfl) (b2.oin (k := 2) rfl s_n2).bel) (DR.p rfl rfl (p_move rfl) (DR.r rfl rfl (r_load rfl isAgg76) (one_read (row_cell (b2.get (k := 6) rfl) rfl) (b2.oin (k := 7) rfl s_n7).bel) (DR.p rfl rfl (p_move rfl) ?_)))))
        obtain ⟨d6, I8⟩ := chk_some I6
        refine DR.p rfl rfl (s_indexV (q := a1.toNat) underlying76 sizeOf4 rfl (s_n2.at (inR_pos d6)) rfl d6 (z1 _)) ?_
        obtain ⟨I9, m9, J0⟩ := b2.oset (k := 2) (p := p_n2) rfl (s_n2.at (inR_pos d6)) (bls (b6.set a1.toNat false))
        have d7 : St M0 H I9 [[(i_n0, AObj.row false ([.int .i64 n0_0]))], [(i_n1, AObj.row false ([.slice p_n2 k_n2 c_n2]))], oseg p_n2 (bls (b6.set a1.toNat false)), [(i_n3, AObj.row false ([.func (.func 49) #[] #[.pointer (some ⟨i_n4, 0, none⟩), .pointer (some ⟨i_n5, 0, none⟩)]]))], [(i_n4, AObj.row false ([.int .i64 n4_0]))], [(i_n5, AObj.row false ([.slice d3 c1.length d4]))], [(i_n6, AObj.row false ([.slice p_n7 k_n7 c_n7]))], oseg p_n7 (bls b8), [(i_n8, AObj.row false ([.func (.func 78) #[] #[.pointer (some ⟨i_n0, 0, none⟩), .pointer (some ⟨i_n1, 0, none⟩), .pointer (some ⟨i_n3, 0, none⟩), .pointer (some ⟨i_n6, 0, none⟩), .pointer (some ⟨i_n8, 0, none⟩)]]))], d5] := J0
        refine DR.s rfl (s_store sizeOf4 rfl rfl rfl (b2.oat (k := 2) rfl (s_n2.at (inR_pos d6))) (lt_len ((bls_length _).trans f4) (inR_lt d6)) ((congrArg (fun l => List.set _ _ (AObj.row false l)) (bls_set _ _ _)).trans m9)) (set_le m9) ?_
        obtain ⟨d8, J1⟩ := chk_some I8
        refine DR.p rfl rfl (s_indexV (q := a2.toNat) underlying76 sizeOf4 rfl (s_n2.at (inR_pos d8)) rfl d8 (z1 _)) ?_
        obtain ⟨J2, n0, J3⟩ := d7.oset (k := 2) (p := p_n2) rfl (s_n2.at (inR_pos d8)) (bls ((b6.set a1.toNat false).set a2.toNat false))
        have i0 : St M0 H J2 [[(i_n0, AObj.row false ([.int .i64 n0_0]))], [(i_n1, AObj.row false ([.slice p_n2 k_n2 c_n2]))], oseg p_n2 (bls ((b6.set a1.toNat false).set a2.toNat false)), [(i_n3, AObj.row false ([.func (.func 49) #[] #[.pointer (some ⟨i_n4, 0, none⟩), .pointer (some ⟨i_n5, 0, none⟩)]]))], [(i_n4, AObj.row false ([.int .i64 n4_0]))], [(i_n5, AObj.row false ([.slice d3 c1.length d4]))], [(i_n6, AObj.row false ([.slice p_n7 k_n7 c_n7]))], oseg p_n7 (bls b8), [(i_n8, AObj.row false ([.func (.func 78) #[] #[.pointer (some ⟨i_n0, 0, none⟩), .pointer (some ⟨i_n1, 0, none⟩), .pointer (some ⟨i_n3, 0, none⟩), .pointer (some ⟨i_n6, 0, none⟩), .pointer (some ⟨i_n8, 0, none⟩)]]))], d5] := J3
        refine DR.s rfl (s_store sizeOf4 rfl rfl rfl (d7.oat (k := 2) rfl (s_n2.at (inR_pos d8))) (lt_len ((bls_length _).trans (len_set f4)) (inR_lt d8)) ((congrArg (fun l => List.set _ _ (AObj.row false l)) (bls_set _ _ _)).trans n0)) (set_le n0) ?_
        obtain ⟨d9, n1⟩ := chk_some J1
        refine DR.p rfl rfl (s_indexV (q := (if n0_0 - a2 + a1 < a2 - a1 then n0_0 - a2 + a1 else a2 - a1).toNat) underlying76 sizeOf4 rfl (s_n7.at (inR_pos d9)) rfl d9 (z1 _)) ?_
        obtain ⟨J4, n3, J5⟩ := i0.oset (k := 7) (p := p_n7) rfl (s_n7.at (inR_pos d9)) (bls (b8.set ((if n0_0 - a2 + a1 < a2 - a1 then n0_0 - a2 + a1 else a2 - a1).toNat) false))
        have n4 : St M0 H J4 [[(i_n0, AObj.row false ([.int .i64 n0_0]))], [(i_n1, AObj.row false ([.slice p_n2 k_n2 c_n2]))], oseg p_n2 (bls ((b6.set a1.toNat false).set a2.toNat false)), [(i_n3, AObj.row false ([.func (.func 49) #[] #[.pointer (some ⟨i_n4, 0, none⟩), .pointer (some ⟨i_n5, 0, none⟩)]]))], [(i_n4, AObj.row false ([.int .i64 n4_0]))], [(i_n5, AObj.row false ([.slice d3 c1.length d4]))], [(i_n6, AObj.row false ([.slice p_n7 k_n7 c_n7]))], oseg p_n7 (bls (b8.set ((if n0_0 - a2 + a1 < a2 - a1 then n0_0 - a2 + a1 else a2 - a1).toNat) false)), [(i_n8, AObj.row false ([.func (.func 78) #[] #[.pointer (some ⟨i_n0, 0, none⟩), .pointer (some ⟨i_n1, 0, none⟩), .pointer (some ⟨i_n3, 0, none⟩), .pointer (some ⟨i_n6, 0, none⟩), .pointer (some ⟨i_n8, 0, none⟩)]]))], d5] := J5
        refine DR.s rfl (s_store sizeOf4 rfl rfl rfl (i0.oat (k := 7) rfl (s_n7.at (inR_pos d9))) (lt_len ((bls_length _).trans h8) (inR_lt d9)) ((congrArg (fun l => List.set _ _ (AObj.row false l)) (bls_set _ _ _)).trans n3)) (set_le n3) (DR.nil 12 [(2, 7), (4, 7), (4, 9)] hst (by kernel_rfl) ⟨(rd1 (fun _ => (d7.get (k := 1) rfl).trans (b2.get (k := 1) rfl).symm)), (rd1 (fun _ => (d7.get (k := 6) rfl).trans (b2.get (k := 6) rfl).symm)), (rd1 (fun _ => (i0.get (k := 6) rfl).trans (d7.get (k := 6) rfl).symm)), trivial⟩ (AX.sr (AO.m rfl rfl (AO.p rfl (p_not rfl) (AO.nil (AX.cond rfl (fun i1 => ?_) (fun i1 => ?_)))))))
        ·have J6 := bif_t i1 n1
         refine AX.sr (AO.a rfl rfl (AO.nil (AX.ret ?_)))
         obtain rfl := some_inj J6
         have J7 : _ = k7 := e6
         subst J7
         obtain ⟨rfl, J8⟩ := Prod.mk.inj (some_inj k9)
         obtain ⟨rfl, J9⟩ := Prod.mk.inj J8
         obtain ⟨rfl, rfl⟩ := Prod.mk.inj J9
         have K0 := n4.front 9 rfl
         have K1 := K0.front 9 rfl
         have K2 := K1.front 9 rfl
         have K3 := K2.front 9 rfl
         have K4 := K3.front 9 rfl
         have K5 := K4.front 9 rfl
         have K6 := K5.front 9 rfl
         have K7 := K6.front 9 rfl
         have K8 := K7.front 9 rfl
         have K9 := K8.front 9 rfl
         exact ⟨.inr rfl, _, res1 rfl (rv_tmp rfl), d3, d4, m4, d5, rfl, K9, (len_set (len_set f4)), (len_set h8), m6, m7, m8, ((((g8.mono e9).mono f2).mono f3).mono h9)⟩
        ·have L0 := bif_f i1 n1
         refine AX.skip (AX.region (AO.m rfl rfl ?_))
         obtain ⟨L1, L2⟩ := chk_some L0
         refine AO.p rfl (p_addE rfl rfl L1) (AO.a rfl rfl (AO.nil ?_))
         obtain rfl := some_inj L2
         have L3 := n4.front 8 rfl
         have L4 := L3.front 8 rfl
         have L5 := L4.front 8 rfl
         have L6 := L5.front 8 rfl
         have L7 := L6.front 8 rfl
         have L8 := L7.front 8 rfl
         have L9 := L8.front 8 rfl
         have M1 := L9.front 8 rfl
         have M2 := M1.front 8 rfl
         have M3 := M2.front 9 rfl
         exact ⟨(((b6.set a1.toNat false).set a2.toNat false), c1, (b8.set ((if n0_0 - a2 + a1 < a2 - a1 then n0_0 - a2 + a1 else a2 - a1).toNat) false), a2 + 1), e6, ((b6.set a1.toNat false).set a2.toNat false), c1, (b8.set ((if n0_0 - a2 + a1 < a2 - a1 then n0_0 - a2 + a1 else a2 - a1).toNat) false), (a2 + 1), d5, d3, d4, m4, rfl, M3, ((((g8.mono e9).mono f2).mono f3).mono h9), (len_set (len_set f4)), m6, m7, m8, (len_set h8), ((((g9.mono e9).mono f2).mono f3).mono h9), h0, Sub.k4 rfl rfl rfl rfl (Sub.k2 rfl rfl (Sub.k1 rfl (Sub.nil _)))⟩
     ·have M4 := bif_f g5 g4
      refine AX.exit ?_
      obtain rfl := some_inj M4
      have M5 := b4.front 9 rfl
      have M6 := M5.front 9 rfl
      have M7 := M6.front 9 rfl
      have M8 := M7.front 9 rfl
      have M9 := M8.front 9 rfl
      have N0 := M9.front 9 rfl
      have N1 := N0.front 9 rfl
      have N2 := N1.front 9 rfl
      have N3 := N2.front 9 rfl
      have N4 := N3.front 9 rfl
      exact ⟨a3, a4, a5, a7, a6, a8, b7, e6, N4, g0, b9, g1, g2, g3, c6, Sub.nil _⟩
   ·rintro t' R0 ⟨e2, c3, e3, c4, c5, e4, e5, rfl, N5, N6, N7, N8, N9, O0, O1, O2⟩
    refine ⟨_, O2, ?_⟩
    refine AX.sr (AO.a rfl rfl (AO.nil (AX.ret ?_)))
    obtain ⟨rfl, O3⟩ := Prod.mk.inj (some_inj k9)
    obtain ⟨rfl, O4⟩ := Prod.mk.inj O3
    obtain ⟨rfl, rfl⟩ := Prod.mk.inj O4
    have O5 := N5.front 0 rfl
    have O6 := O5.front 9 rfl
    have O7 := O6.front 9 rfl
    have O8 := O7.front 9 rfl
    have O9 := O8.front 9 rfl
    have P0 := O9.front 9 rfl
    have P1 := P0.front 9 rfl
    have P2 := P1.front 9 rfl
    have P3 := P2.front 9 rfl
    have P4 := P3.front 9 rfl
    exact ⟨.inr rfl, _, res1 rfl (rv_tmp rfl), c5, e4, e5, c4, rfl, P4, N7, O1, N8, N9, O0, N6⟩
set_option maxHeartbeats 4000000 in
theorem W_impl_starters__impl_FirstStrong_1 (fu : Nat) (H : AHeap) (F : Sg) (a0 : Int) (i_n0 : Nat) (n0_0 : Int) (i_n1 : Nat) (p_n1_0 : Option Addr) (c_n1_0 : Nat) (T_n1_0 : Tb) (n1_0 : List (List Int)) (t_n1_0 : trows T_n1_0 = n1_0) (q_n1_0 : PT F p_n1_0 c_n1_0 T_n1_0) (y_n1_0 : n1_0 = [] → p_n1_0 = none) (hn : (([[(i_n0, AObj.row false ([.int .i64 n0_0]))], [(i_n1, AObj.row false ([.slice p_n1_0 n1_0.length c_n1_0]))], F] : List Sg).flatten.map (·.1)).Nodup) (ho : ∀ x ∈ ([[(i_n0, AObj.row false ([.int .i64 n0_0]))], [(i_n1, AObj.row false ([.slice p_n1_0 n1_0.length c_n1_0]))], F] : List Sg).flatten, x.1 < H.length ∧ hget H x.1 = x.2) (m_n1_0 : List (List Int)) (hd : D_impl_starters__impl_FirstStrong_1 fu a0 n0_0 n1_0 = some m_n1_0) : ∃ v G', ACall Tryz.prog 48 [.int .i64 a0, .func (.func 49) #[] #[.pointer (some ⟨i_n0, 0, none⟩), .pointer (some ⟨i_n1, 0, none⟩)]] H v G' ∧ ∃ (p_m_n1_0 : Option Addr) (c_m_n1_0 : Nat) (T_m_n1_0 : Tb) (F' : Sg), (v = .tuple #[]) ∧ St (([[(i_n0, AObj.row false ([.int .i64 n0_0]))], [(i_n1, AObj.row false ([.slice p_n1_0 n1_0.length c_n1_0]))], F] : List Sg).flatten.map (·.1)) H G' [[(i_n0, AObj.row false ([.int .i64 n0_0]))], [(i_n1, AObj.row false ([.slice p_m_n1_0 m_n1_0.length c_m_n1_0]))], F'] ∧ trows T_m_n1_0 = m_n1_0 ∧ PT F' p_m_n1_0 c_m_n1_0 T_m_n1_0 ∧ (m_n1_0 = [] → p_m_n1_0 = none) ∧ Pin F' F := by
 refine ACall.bodyX (args := [.int .i64 a0, .func (.func 49) #[] #[.pointer (some ⟨i_n0, 0, none⟩), .pointer (some ⟨i_n1, 0, none⟩)]]) (N := 14) [(0, .int .i64 a0), (1, .func (.func 49) #[] #[.pointer (some ⟨i_n0, 0, none⟩), .pointer (some ⟨i_n1, 0, none⟩)])] (fun v G' => ∃ (p_m_n1_0 : Option Addr) (c_m_n1_0 : Nat) (T_m_n1_0 : Tb) (F' : Sg), (v = .tuple #[]) ∧ St (([[(i_n0, AObj.row false ([.int .i64 n0_0]))], [(i_n1, AObj.row false ([.slice p_n1_0 n1_0.length c_n1_0]))], F] : List Sg).flatten.map (·.1)) H G' [[(i_n0, AObj.row false ([.int .i64 n0_0]))], [(i_n1, AObj.row false ([.slice p_m_n1_0 m_n1_0.length c_m_n1_0]))], F'] ∧ trows T_m_n1_0 = m_n1_0 ∧ PT F' p_m_n1_0 c_m_n1_0 T_m_n1_0 ∧ (m_n1_0 = [] → p_m_n1_0 = none) ∧ Pin F' F) Tryz.func48 rfl rfl rfl rfl ?_
 unfold D_impl_starters__impl_FirstStrong_1 at hd
 have S0 := St.initF hn ho
 generalize hM0 : (([[(i_n0, AObj.row false ([.int .i64 n0_0]))], [(i_n1, AObj.row false ([.slice p_n1_0 n1_0.length c_n1_0]))], F] : List Sg).flatten.map (·.1)) = M0 at S0 ⊢
 refine AX.sr ?_
 obtain ⟨h7, a1, c1, c2, c3⟩ := S0.new (AObj.row false ([.int .i64 a0]))
 refine AO.c rfl (s_box (i := a1) (cs := [.int .i64 a0]) rfl c1 rfl c2) ?_
 obtain ⟨h8, a2, c4, c5, b2⟩ := c3.new (AObj.row false ([.func (.func 49) #[] #[.pointer (some ⟨i_n0, 0, none⟩), .pointer (some ⟨i_n1, 0, none⟩)]]))
 refine AO.c rfl (s_box (i := a2) (cs := [.func (.func 49) #[] #[.pointer (some ⟨i_n0, 0, none⟩), .pointer (some ⟨i_n1, 0, none⟩)]]) rfl c4 rfl c5) (AO.nil (AX.seq (DR.startS [false, false, false, false, false, false, true, true] mix (by kernel_rfl) (fun hst => ?_))))
 refine DR.r rfl rfl (r_load rfl isAgg2) (one_read (row_cell (b2.get (k := 1) rfl) rfl) (.of_flat0 rfl)) ?_
 obtain ⟨b3, c6⟩ := chk_some hd
 obtain ⟨h9, a3, c7, c8, b4⟩ := b2.new (AObj.row false (bls (List.replicate a0.toNat false)))
 refine DR.a rfl rfl c7 c8 (a_make1 (v := .bool false) (by_ := 1) underlying76 typeInfo4 sizeOf4 zeroValue4 rfl rfl rfl rfl rfl rfl b3 bls_rep) (DR.r rfl rfl (r_load rfl isAgg2) (one_read (row_cell (b4.get (k := 2) rfl) rfl) (.of_flat0 rfl)) ?_)
 obtain ⟨b5, c9⟩ := chk_some c6
 obtain ⟨i0, a6, b6, d0, d1⟩ := b4.new (AObj.row false (bls (List.replicate a0.toNat false)))
 refine DR.a rfl rfl b6 d0 (a_make1 (v := .bool false) (by_ := 1) underlying76 typeInfo4 sizeOf4 zeroValue4 rfl rfl rfl rfl rfl rfl b5 bls_rep) ?_
 obtain ⟨i1, a4, d2, d3, d4⟩ := d1.new (AObj.row false ([.slice none 0 0]))
 refine DR.a rfl rfl d2 d3 (a_alloc zeroValue76 (flat_list rfl)) ?_
 obtain ⟨i2, a5, d5, d6, a8⟩ := d4.new (AObj.row false ([.slice none 0 0]))
 refine DR.a rfl rfl d5 d6 (a_alloc zeroValue76 (flat_list rfl)) ?_
 obtain ⟨d7, b7, d8⟩ := a8.set (k := 1) (i := a4) rfl (AObj.row false ([.slice (some (Addr.mk a3 0 none)) a0.toNat a0.toNat]))
 have a9 : St M0 H d7 [[(a5, AObj.row false ([.slice none 0 0]))], [(a4, AObj.row false ([.slice (some (Addr.mk a3 0 none)) a0.toNat a0.toNat]))], [(a6, AObj.row false (bls (List.replicate a0.toNat false)))], [(a3, AObj.row false (bls (List.replicate a0.toNat false)))], [(a2, AObj.row false ([.func (.func 49) #[] #[.pointer (some ⟨i_n0, 0, none⟩), .pointer (some ⟨i_n1, 0, none⟩)]]))], [(a1, AObj.row false ([.int .i64 a0]))], [(i_n0, AObj.row false ([.int .i64 n0_0]))], [(i_n1, AObj.row false ([.slice p_n1_0 n1_0.length c_n1_0]))], F] := d8
 refine DR.s rfl (s_store sizeOf76 rfl rfl rfl (a8.get (k := 1) rfl) (Nat.le_of_ble_eq_true rfl) b7) (set_le b7) ?_
 obtain ⟨d9, b8, e0⟩ := a9.set (k := 0) (i := a5) rfl (AObj.row false ([.slice (some (Addr.mk a6 0 none)) a0.toNat a0.toNat]))
 have e1 : St M0 H d9 [[(a5, AObj.row false ([.slice (some (Addr.mk a6 0 none)) a0.toNat a0.toNat]))], [(a4, AObj.row false ([.slice (some (Addr.mk a3 0 none)) a0.toNat a0.toNat]))], [(a6, AObj.row false (bls (List.replicate a0.toNat false)))], [(a3, AObj.row false (bls (List.replicate a0.toNat false)))], [(a2, AObj.row false ([.func (.func 49) #[] #[.pointer (some ⟨i_n0, 0, none⟩), .pointer (some ⟨i_n1, 0, none⟩)]]))], [(a1, AObj.row false ([.int .i64 a0]))], [(i_n0, AObj.row false ([.int .i64 n0_0]))], [(i_n1, AObj.row false ([.slice p_n1_0 n1_0.length c_n1_0]))], F] := e0
 refine DR.s rfl (s_store sizeOf76 rfl rfl rfl (a9.get (k := 0) rfl) (Nat.le_of_ble_eq_true rfl) b8) (set_le b8) (DR.nil 8 [(2, 6), (3, 6)] hst (by kernel_rfl) ⟨(rd1 (fun _ => (a9.get (k := 5) rfl).trans (a8.get (k := 5) rfl).symm)), (fun _ => by rw [b6]; exact (a9.get (k := 2) rfl).trans (a8.get (k := 2) rfl).symm), trivial⟩ (AX.sr ?_))
 obtain ⟨i3, a7, e2, e3, b9⟩ := e1.new (AObj.row false ([.nilFunc]))
 refine AO.c rfl (s_alloc (i := a7) (cs := [.nilFunc]) zeroValue65 rfl rfl e2 e3) (AO.nil (AX.sr (AO.p rfl (p_makeFunc (fs := []) (cs := [.pointer (some ⟨a1, 0, none⟩), .pointer (some ⟨a4, 0, none⟩), .pointer (some ⟨a2, 0, none⟩), .pointer (some ⟨a5, 0, none⟩), .pointer (some ⟨a7, 0, none⟩)]) rfl rfl) ?_)))
 obtain ⟨b0, e4, e5⟩ := b9.set (k := 0) (i := a7) rfl (AObj.row false ([.func (.func 78) #[] #[.pointer (some ⟨a1, 0, none⟩), .pointer (some ⟨a4, 0, none⟩), .pointer (some ⟨a2, 0, none⟩), .pointer (some ⟨a5, 0, none⟩), .pointer (some ⟨a7, 0, none⟩)]]))
 have c0 : St M0 H b0 [[(a7, AObj.row false ([.func (.func 78) #[] #[.pointer (some ⟨a1, 0, none⟩), .pointer (some ⟨a4, 0, none⟩), .pointer (some ⟨a2, 0, none⟩), .pointer (some ⟨a5, 0, none⟩), .pointer (some ⟨a7, 0, none⟩)]]))], [(a5, AObj.row false ([.slice (some (Addr.mk a6 0 none)) a0.toNat a0.toNat]))], [(a4, AObj.row false ([.slice (some (Addr.mk a3 0 none)) a0.toNat a0.toNat]))], [(a6, AObj.row false (bls (List.replicate a0.toNat false)))], [(a3, AObj.row false (bls (List.replicate a0.toNat false)))], [(a2, AObj.row false ([.func (.func 49) #[] #[.pointer (some ⟨i_n0, 0, none⟩), .pointer (some ⟨i_n1, 0, none⟩)]]))], [(a1, AObj.row false ([.int .i64 a0]))], [(i_n0, AObj.row false ([.int .i64 n0_0]))], [(i_n1, AObj.row false ([.slice p_n1_0 n1_0.length c_n1_0]))], F] := e5
 refine AO.s (s_store sizeOf65 rfl rfl rfl (b9.get (k := 0) rfl) (Nat.le_of_ble_eq_true rfl) e4) (AO.nil (AX.region (AO.c rfl (s_load isAgg65 rfl (row_cell (c0.get (k := 0) rfl) rfl)) ?_)))
 have e6 := c0.front 9 rfl
 have e7 := e6.front 1 rfl
 have e8 := e7.front 4 rfl
 have e9 := e8.front 3 rfl
 have f0 := e9.front 9 rfl
 have f1 := f0.front 9 rfl
 have f2 := f1.front 8 rfl
 have f3 := f2.front 8 rfl
 have f4 := f3.front 8 rfl
 have f5 := f4.front 9 rfl
 have b1 : St M0 H b0 [[(a1, AObj.row false ([.int .i64 a0]))], [(a4, AObj.row false ([.slice (some (Addr.mk a3 0 none)) a0.toNat a0.toNat]))], [(a3, AObj.row false (bls (List.replicate a0.toNat false)))], [(a2, AObj.row false ([.func (.func 49) #[] #[.pointer (some ⟨i_n0, 0, none⟩), .pointer (some ⟨i_n1, 0, none⟩)]]))], [(i_n0, AObj.row false ([.int .i64 n0_0]))], [(i_n1, AObj.row false ([.slice p_n1_0 n1_0.length c_n1_0]))], [(a5, AObj.row false ([.slice (some (Addr.mk a6 0 none)) a0.toNat a0.toNat]))], [(a6, AObj.row false (bls (List.replicate a0.toNat false)))], [(a7, AObj.row false ([.func (.func 78) #[] #[.pointer (some ⟨a1, 0, none⟩), .pointer (some ⟨a4, 0, none⟩), .pointer (some ⟨a2, 0, none⟩), .pointer (some ⟨a5, 0, none⟩), .pointer (some ⟨a7, 0, none⟩)]]))], F] := f5
 obtain ⟨⟨f6, f7, f8, f9⟩, g0, g1⟩ := bnd_some c9
 obtain ⟨_, i4, g2, g3, g4, g5, g6, rfl, g7, i5, i6, g8, g9, h0, h1⟩ := W_impl_starters_1__impl_FirstStrong_1 fu b0 F none 0 [] [] rfl PT.nil (fun _ => rfl) a1 a0 a4 (some (Addr.mk a3 0 none)) a0.toNat a0.toNat (List.replicate a0.toNat false) len_rep (Sb.lit (mkcap b3)) a2 i_n0 n0_0 i_n1 p_n1_0 c_n1_0 T_n1_0 n1_0 t_n1_0 q_n1_0 y_n1_0 a5 (some (Addr.mk a6 0 none)) a0.toNat a0.toNat (List.replicate a0.toNat false) len_rep (Sb.lit (mkcap b5)) a7 (St.fnodup (A := [[(a1, AObj.row false ([.int .i64 a0]))], [(a4, AObj.row false ([.slice (some (Addr.mk a3 0 none)) a0.toNat a0.toNat]))], [(a3, AObj.row false (bls (List.replicate a0.toNat false)))], [(a2, AObj.row false ([.func (.func 49) #[] #[.pointer (some ⟨i_n0, 0, none⟩), .pointer (some ⟨i_n1, 0, none⟩)]]))], [(i_n0, AObj.row false ([.int .i64 n0_0]))], [(i_n1, AObj.row false ([.slice p_n1_0 n1_0.length c_n1_0]))], [(a5, AObj.row false ([.slice (some (Addr.mk a6 0 none)) a0.toNat a0.toNat]))], [(a6, AObj.row false (bls (List.replicate a0.toNat false)))], [(a7, AObj.row false ([.func (.func 78) #[] #[.pointer (some ⟨a1, 0, none⟩), .pointer (some ⟨a4, 0, none⟩), .pointer (some ⟨a2, 0, none⟩), .pointer (some ⟨a5, 0, none⟩), .pointer (some ⟨a7, 0, none⟩)]]))], F]) b1) (St.fmem (A := [[(a1, AObj.row false ([.int .i64 a0]))], [(a4, AObj.row false ([.slice (some (Addr.mk a3 0 none)) a0.toNat a0.toNat]))], [(a3, AObj.row false (bls (List.replicate a0.toNat false)))], [(a2, AObj.row false ([.func (.func 49) #[] #[.pointer (some ⟨i_n0, 0, none⟩), .pointer (some ⟨i_n1, 0, none⟩)]]))], [(i_n0, AObj.row false ([.int .i64 n0_0]))], [(i_n1, AObj.row false ([.slice p_n1_0 n1_0.length c_n1_0]))], [(a5, AObj.row false ([.slice (some (Addr.mk a6 0 none)) a0.toNat a0.toNat]))], [(a6, AObj.row false (bls (List.replicate a0.toNat false)))], [(a7, AObj.row false ([.func (.func 78) #[] #[.pointer (some ⟨a1, 0, none⟩), .pointer (some ⟨a4, 0, none⟩), .pointer (some ⟨a2, 0, none⟩), .pointer (some ⟨a5, 0, none⟩), .pointer (some ⟨a7, 0, none⟩)]]))], F]) b1) f6 f7 f8 f9 g0
 have h2 := St.callM (A := [[(a1, AObj.row false ([.int .i64 a0]))], [(a4, AObj.row false ([.slice (some (Addr.mk a3 0 none)) a0.toNat a0.toNat]))], [(a3, AObj.row false (bls (List.replicate a0.toNat false)))], [(a2, AObj.row false ([.func (.func 49) #[] #[.pointer (some ⟨i_n0, 0, none⟩), .pointer (some ⟨i_n1, 0, none⟩)]]))], [(i_n0, AObj.row false ([.int .i64 n0_0]))], [(i_n1, AObj.row false ([.slice p_n1_0 n1_0.length c_n1_0]))], [(a5, AObj.row false ([.slice (some (Addr.mk a6 0 none)) a0.toNat a0.toNat]))], [(a6, AObj.row false (bls (List.replicate a0.toNat false)))], [(a7, AObj.row false ([.func (.func 78) #[] #[.pointer (some ⟨a1, 0, none⟩), .pointer (some ⟨a4, 0, none⟩), .pointer (some ⟨a2, 0, none⟩), .pointer (some ⟨a5, 0, none⟩), .pointer (some ⟨a7, 0, none⟩)]]))], F]) b1 g7 (fun j h => h)
 refine AO.c rfl (o_callV (vs := [.slice none 0 0]) rfl rfl Tryz.call78 g2) (AO.nil ?_)
 obtain rfl := some_inj g1
 have h3 := h2.front 9 rfl
 have h4 := h3.front 6 rfl
 have h5 := h4.front 6 rfl
 have h6 := h5.keep 3
 exact ⟨.inl rfl, _, res_none rfl, g3, g4, g5, g6, rfl, h6, g8, g9, h0, ((Pin.refl F).mono h1)⟩
set_option maxHeartbeats 4000000 in
theorem W_impl_FirstStrong (fu : Nat) (H : AHeap) (a0 : Int) (r0 : List (List Int)) (r1 : Int) (hd : D_impl_FirstStrong fu a0 = some (r0, r1)) : ∃ v G', ACall Tryz.prog 15 [.int .i64 a0] H v G' ∧ ∃ (p_r0 : Option Addr) (c_r0 : Nat) (T_r0 : Tb), (v = .tuple #[.slice p_r0 r0.length c_r0, .int .i64 r1]) ∧ St [] H G' [oseg p_r0 (tcells T_r0), tseg T_r0] ∧ Sb p_r0 r0.length c_r0 1 ∧ trows T_r0 = r0 ∧ TSb T_r0 := by
 refine ACall.bodyX (args := [.int .i64 a0]) (N := 14) [(0, .int .i64 a0)] (fun v G' => ∃ (p_r0 : Option Addr) (c_r0 : Nat) (T_r0 : Tb), (v = .tuple #[.slice p_r0 r0.length c_r0, .int .i64 r1]) ∧ St [] H G' [oseg p_r0 (tcells T_r0), tseg T_r0] ∧ Sb p_r0 r0.length c_r0 1 ∧ trows T_r0 = r0 ∧ TSb T_r0) Tryz.func15 rfl rfl rfl rfl ?_
 unfold D_impl_FirstStrong at hd
 have S0 : St [] H H [] := St.nil H
 have S0 := S0.poolNew
 refine AX.sr ?_
 obtain ⟨a5, a1, b5, b6, a6⟩ := S0.new (AObj.row false ([.int .i64 a0]))
 refine AO.c rfl (s_box (i := a1) (cs := [.int .i64 a0]) rfl b5 rfl b6) (AO.a rfl rfl (AO.a rfl rfl (AO.nil (AX.seq (AX.sr (AO.c rfl (s_load isAgg2 rfl (row_cell (a6.get (k := 0) rfl) rfl)) ?_))))))
 obtain ⟨b7, b8, b1⟩ := bnd_some hd
 refine AO.c rfl (o_call (vs := [.int .i64 a0]) rfl Tryz.call47 (W_impl_isModulus fu a5 a0 b7 b8)) (AO.p rfl (p_not rfl) (AO.nil (AX.cond rfl (fun a7 => ?_) (fun a7 => ?_))))
 ·have b9 := bif_t a7 b1
  refine AX.sr (AO.a rfl rfl (AO.a rfl rfl (AO.nil (AX.ret ?_))))
  obtain ⟨rfl, rfl⟩ := Prod.mk.inj (some_inj b9)
  have c0 : St [] H a5 (tseg [] :: _) := a6.nilseg 0
  have c1 : St [] H a5 (oseg none (tcells []) :: _) := c0.nilseg 0
  have c2 := c1.keep 2
  exact ⟨.inr rfl, _, res2 rfl (rv_tmp rfl) (rv_tmp rfl), none, 0, [], rfl, c2, Sb.nil, rfl, TSb.nil⟩
 ·have c3 := bif_f a7 b1
  refine AX.skip (AX.sr ?_)
  obtain ⟨c4, a2, c5, c6, b2⟩ := a6.new (AObj.row false ([.slice none 0 0]))
  refine AO.c rfl (s_alloc (i := a2) (cs := [.slice none 0 0]) zeroValue24 rfl rfl c5 c6) (AO.nil (AX.sr (AO.c rfl (s_load isAgg2 rfl (row_cell (b2.get (k := 1) rfl) rfl)) (AO.p rfl (p_makeFunc (fs := []) (cs := [.pointer (some ⟨a1, 0, none⟩), .pointer (some ⟨a2, 0, none⟩)]) rfl rfl) ?_))))
  have c7 := b2.front 2 rfl
  have c8 := c7.front 1 rfl
  have a8 := c8.front 2 rfl
  obtain ⟨c9, d0, b3⟩ := bnd_some c3
  obtain ⟨_, b4, d1, d2, d3, d4, e7, rfl, d5, a9, a3, d6, e8⟩ := W_impl_starters__impl_FirstStrong_1 fu c4 ([] : Sg) a0 a1 a0 a2 none 0 [] [] rfl PT.nil (fun _ => rfl) (St.fnodup (A := [[(a1, AObj.row false ([.int .i64 a0]))], [(a2, AObj.row false ([.slice none 0 0]))], ([] : Sg)]) a8) (St.fmem (A := [[(a1, AObj.row false ([.int .i64 a0]))], [(a2, AObj.row false ([.slice none 0 0]))], ([] : Sg)]) a8) c9 d0
  have a4 := St.callM (A := [[(a1, AObj.row false ([.int .i64 a0]))], [(a2, AObj.row false ([.slice none 0 0]))], ([] : Sg)]) a8 d5 (fun j h => h)
  refine AO.c rfl (o_call (vs := [.int .i64 a0, .func (.func 49) #[] #[.pointer (some ⟨a1, 0, none⟩), .pointer (some ⟨a2, 0, none⟩)]]) rfl Tryz.call48 d1) (AO.nil (AX.seq (AX.sr (AO.c rfl (s_load isAgg24 rfl (row_cell (a4.get (k := 1) rfl) rfl)) (AO.p rfl (p_eqlNilB underlying24 rfl ((a3).hsb.ne rfl) (PT.isNone a3 a9 d6)) (AO.nil (AX.cond rfl (fun b0 => ?_) (fun b0 => ?_))))))))
  ·have d7 := bif_t b0 b3
   refine AX.sr (AO.a rfl rfl (AO.a rfl rfl (AO.nil (AX.ret ?_))))
   obtain ⟨rfl, rfl⟩ := Prod.mk.inj (some_inj d7)
   have d8 : St [] H b4 (tseg [] :: _) := a4.nilseg 0
   have d9 : St [] H b4 (oseg none (tcells []) :: _) := d8.nilseg 0
   have e0 := d9.keep 2
   exact ⟨.inr rfl, _, res2 rfl (rv_tmp rfl) (rv_tmp rfl), none, 0, [], rfl, e0, Sb.nil, rfl, TSb.nil⟩
  ·have e1 := bif_f b0 b3
   refine AX.skip (AX.sr (AO.c rfl (s_load isAgg24 rfl (row_cell (a4.get (k := 1) rfl) rfl)) (AO.a rfl rfl (AO.a rfl rfl (AO.nil (AX.ret ?_))))))
   have e2 := a4.front 2 rfl
   have e3 := e2.thaw a3
   obtain ⟨rfl, rfl⟩ := Prod.mk.inj (some_inj e1)
   have e4 := e3.front 1 rfl
   have e5 := e4.front 1 rfl
   have e6 := e5.keep 2
   exact ⟨.inr rfl, _, res2 rfl (rv_tmp rfl) (rv_tmp rfl), d2, d3, d4, rfl, e6, (sb_tlen a9 (a3).hsb), a9, (a3).rs.sb⟩
end Go.Proofs.YtdafmafigcljkaaGreat
