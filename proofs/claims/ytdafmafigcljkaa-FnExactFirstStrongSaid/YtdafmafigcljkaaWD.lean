/-
  The program computes that, printed by a program. No condition.
-/
import Derived.Test.YtdafmafigcljkaaDD
import Derived.Test.YtdafmafigcljkaaWC
import Derived.Test.YtdafmafigcljkaaProg
import Derived.KernelRfl
namespace Go.Proofs.Ytdafmafigcljkaa
open Go Go.RowKit Am
set_option linter.unusedVariables false
set_option linter.unusedSimpArgs false
set_option maxRecDepth 20000
set_option maxHeartbeats 4000000 in
theorem W_impl_FirstStrong_1 (fu : Nat) (H : AHeap) (F : Sg) (p_a0 : Option Addr) (c_a0 : Nat) (T_a0 : Tb) (a0 : List (List Int)) (t_a0 : trows T_a0 = a0) (q_a0 : PT F p_a0 c_a0 T_a0) (y_a0 : a0 = [] → p_a0 = none) (i_n0 : Nat) (n0_0 : Int) (i_n1 : Nat) (p_n1_0 : Option Addr) (c_n1_0 : Nat) (T_n1_0 : Tb) (n1_0 : List (List Int)) (t_n1_0 : trows T_n1_0 = n1_0) (q_n1_0 : PT F p_n1_0 c_n1_0 T_n1_0) (y_n1_0 : n1_0 = [] → p_n1_0 = none) (hn : (([[(i_n0, AObj.row false ([.int .i64 n0_0]))], [(i_n1, AObj.row false ([.slice p_n1_0 n1_0.length c_n1_0]))], F] : List Sg).flatten.map (·.1)).Nodup) (ho : ∀ x ∈ ([[(i_n0, AObj.row false ([.int .i64 n0_0]))], [(i_n1, AObj.row false ([.slice p_n1_0 n1_0.length c_n1_0]))], F] : List Sg).flatten, x.1 < H.length ∧ hget H x.1 = x.2) (r0 : Bool) (m_n1_0 : List (List Int)) (hd : D_impl_FirstStrong_1 fu a0 n0_0 n1_0 = some (r0, m_n1_0)) : ∃ v G', ACall Try.prog 80 [.slice p_a0 a0.length c_a0, .pointer (some ⟨i_n0, 0, none⟩), .pointer (some ⟨i_n1, 0, none⟩)] H v G' ∧ ∃ (p_m_n1_0 : Option Addr) (c_m_n1_0 : Nat) (T_m_n1_0 : Tb) (F' : Sg), (v = .bool r0) ∧ St (([[(i_n0, AObj.row false ([.int .i64 n0_0]))], [(i_n1, AObj.row false ([.slice p_n1_0 n1_0.length c_n1_0]))], F] : List Sg).flatten.map (·.1)) H G' [[(i_n0, AObj.row false ([.int .i64 n0_0]))], [(i_n1, AObj.row false ([.slice p_m_n1_0 m_n1_0.length c_m_n1_0]))], F'] ∧ trows T_m_n1_0 = m_n1_0 ∧ PT F' p_m_n1_0 c_m_n1_0 T_m_n1_0 ∧ (m_n1_0 = [] → p_m_n1_0 = none) ∧ Pin F' F := by
  refine ACall.bodyX (args := [.slice p_a0 a0.length c_a0, .pointer (some ⟨i_n0, 0, none⟩), .pointer (some ⟨i_n1, 0, none⟩)]) (N := 11) [(0, .slice p_a0 a0.length c_a0), (1, .pointer (some ⟨i_n0, 0, none⟩)), (2, .pointer (some ⟨i_n1, 0, none⟩))] (fun v G' => ∃ (p_m_n1_0 : Option Addr) (c_m_n1_0 : Nat) (T_m_n1_0 : Tb) (F' : Sg), (v = .bool r0) ∧ St (([[(i_n0, AObj.row false ([.int .i64 n0_0]))], [(i_n1, AObj.row false ([.slice p_n1_0 n1_0.length c_n1_0]))], F] : List Sg).flatten.map (·.1)) H G' [[(i_n0, AObj.row false ([.int .i64 n0_0]))], [(i_n1, AObj.row false ([.slice p_m_n1_0 m_n1_0.length c_m_n1_0]))], F'] ∧ trows T_m_n1_0 = m_n1_0 ∧ PT F' p_m_n1_0 c_m_n1_0 T_m_n1_0 ∧ (m_n1_0 = [] → p_m_n1_0 = none) ∧ Pin F' F) Try.func80 rfl rfl rfl rfl ?_
  unfold D_impl_FirstStrong_1 at hd
  have S0 := St.initF hn ho
  generalize hM0 : (([[(i_n0, AObj.row false ([.int .i64 n0_0]))], [(i_n1, AObj.row false ([.slice p_n1_0 n1_0.length c_n1_0]))], F] : List Sg).flatten.map (·.1)) = M0 at S0 ⊢
  refine AX.seq ?_
  refine AX.region ?_
  refine AO.p rfl (p_assign rfl) ?_
  refine AO.nil ?_
  refine AX.seq ?_
  refine AX.seq ?_
  refine AX.region ?_
  refine AO.c rfl (s_load Try.isAgg2 rfl (row_cell (S0.get (k := 0) rfl) rfl)) ?_
  refine AO.p rfl (p_move rfl) ?_
  obtain ⟨b100, h101, hd102⟩ := bnd_some hd
  refine AO.c rfl (o_call (vs := [.int .i64 n0_0, .slice p_a0 a0.length c_a0]) rfl Try.call78 (W_impl_isStrong fu H n0_0 p_a0 c_a0 T_a0 a0 t_a0 (S0.ptview (k := 2) rfl q_a0 (tlen t_a0)) (S0.prview (k := 2) rfl (q_a0).rs) b100 h101)) ?_
  refine AO.nil ?_
  refine AX.cond rfl (fun c104 => ?_) (fun c104 => ?_)
  · have hd105 := bif_t c104 hd102
    refine AX.region ?_
    refine AO.p rfl (p_move rfl) ?_
    obtain ⟨G106, hHG106, S107⟩ := S0.set (k := 1) (i := i_n1) rfl (AObj.row false ([.slice p_a0 a0.length c_a0]))
    have S108 : St M0 H G106 [[(i_n0, AObj.row false ([.int .i64 n0_0]))], [(i_n1, AObj.row false ([.slice p_a0 a0.length c_a0]))], F] := S107
    refine AO.s (s_store Try.sizeOf43 rfl rfl rfl (S0.get (k := 1) rfl) (Nat.le_of_ble_eq_true rfl) hHG106) ?_
    refine AO.nil ?_
    refine AX.seq ?_
    refine AX.region ?_
    refine AO.c rfl (s_load Try.isAgg43 rfl (row_cell (S108.get (k := 1) rfl) rfl)) ?_
    refine AO.p rfl (p_eqlNilB Try.underlying43 rfl ((q_a0).hsb.ne rfl) (PT.isNone q_a0 t_a0 y_a0)) ?_
    refine AO.p rfl (p_assign rfl) ?_
    refine AO.nil ?_
    refine AX.ret ?_
    obtain ⟨rfl, rfl⟩ := Prod.mk.inj (some_inj hd105)
    have S110 := S108.front 2 rfl
    have S111 := S110.front 2 rfl
    have S112 := S111.front 2 rfl
    exact ⟨.inr rfl, _, res1 rfl (rv_tmp rfl), p_a0, c_a0, T_a0, F, rfl, S112, t_a0, q_a0, y_a0, (Pin.refl F)⟩
  · have hd113 := bif_f c104 hd102
    refine AX.skip ?_
    refine AX.seq ?_
    refine AX.region ?_
    refine AO.c rfl (s_load Try.isAgg43 rfl (row_cell (S0.get (k := 1) rfl) rfl)) ?_
    refine AO.p rfl (p_eqlNilB Try.underlying43 rfl ((q_n1_0).hsb.ne rfl) (PT.isNone q_n1_0 t_n1_0 y_n1_0)) ?_
    refine AO.p rfl (p_assign rfl) ?_
    refine AO.nil ?_
    refine AX.ret ?_
    obtain ⟨rfl, rfl⟩ := Prod.mk.inj (some_inj hd113)
    have S115 := S0.front 2 rfl
    have S116 := S115.front 2 rfl
    have S117 := S116.front 2 rfl
    exact ⟨.inr rfl, _, res1 rfl (rv_tmp rfl), p_n1_0, c_n1_0, T_n1_0, F, rfl, S117, t_n1_0, q_n1_0, y_n1_0, (Pin.refl F)⟩

set_option maxHeartbeats 4000000 in
theorem W_impl_starters_1__impl_FirstStrong_1 : ∀ (fu : Nat) (H : AHeap) (F : Sg) (p_a0 : Option Addr) (c_a0 : Nat) (T_a0 : Tb) (a0 : List (List Int)) (t_a0 : trows T_a0 = a0) (q_a0 : PT F p_a0 c_a0 T_a0) (y_a0 : a0 = [] → p_a0 = none) (i_n0 : Nat) (n0_0 : Int) (i_n1 : Nat) (p_n2 : Option Addr) (k_n2 c_n2 : Nat) (n2 : List Bool) (l_n2 : n2.length = k_n2) (s_n2 : Sb p_n2 k_n2 c_n2 1) (i_n3 : Nat) (i_n4 : Nat) (n4_0 : Int) (i_n5 : Nat) (p_n5_0 : Option Addr) (c_n5_0 : Nat) (T_n5_0 : Tb) (n5_0 : List (List Int)) (t_n5_0 : trows T_n5_0 = n5_0) (q_n5_0 : PT F p_n5_0 c_n5_0 T_n5_0) (y_n5_0 : n5_0 = [] → p_n5_0 = none) (i_n6 : Nat) (p_n7 : Option Addr) (k_n7 c_n7 : Nat) (n7 : List Bool) (l_n7 : n7.length = k_n7) (s_n7 : Sb p_n7 k_n7 c_n7 1) (i_n8 : Nat) (hn : (([[(i_n0, AObj.row false ([.int .i64 n0_0]))], [(i_n1, AObj.row false ([.slice p_n2 k_n2 c_n2]))], oseg p_n2 (bls n2), [(i_n3, AObj.row false ([.func (.func 80) #[] #[.pointer (some ⟨i_n4, 0, none⟩), .pointer (some ⟨i_n5, 0, none⟩)]]))], [(i_n4, AObj.row false ([.int .i64 n4_0]))], [(i_n5, AObj.row false ([.slice p_n5_0 n5_0.length c_n5_0]))], [(i_n6, AObj.row false ([.slice p_n7 k_n7 c_n7]))], oseg p_n7 (bls n7), [(i_n8, AObj.row false ([.func (.func 115) #[] #[.pointer (some ⟨i_n0, 0, none⟩), .pointer (some ⟨i_n1, 0, none⟩), .pointer (some ⟨i_n3, 0, none⟩), .pointer (some ⟨i_n6, 0, none⟩), .pointer (some ⟨i_n8, 0, none⟩)]]))], F] : List Sg).flatten.map (·.1)).Nodup) (ho : ∀ x ∈ ([[(i_n0, AObj.row false ([.int .i64 n0_0]))], [(i_n1, AObj.row false ([.slice p_n2 k_n2 c_n2]))], oseg p_n2 (bls n2), [(i_n3, AObj.row false ([.func (.func 80) #[] #[.pointer (some ⟨i_n4, 0, none⟩), .pointer (some ⟨i_n5, 0, none⟩)]]))], [(i_n4, AObj.row false ([.int .i64 n4_0]))], [(i_n5, AObj.row false ([.slice p_n5_0 n5_0.length c_n5_0]))], [(i_n6, AObj.row false ([.slice p_n7 k_n7 c_n7]))], oseg p_n7 (bls n7), [(i_n8, AObj.row false ([.func (.func 115) #[] #[.pointer (some ⟨i_n0, 0, none⟩), .pointer (some ⟨i_n1, 0, none⟩), .pointer (some ⟨i_n3, 0, none⟩), .pointer (some ⟨i_n6, 0, none⟩), .pointer (some ⟨i_n8, 0, none⟩)]]))], F] : List Sg).flatten, x.1 < H.length ∧ hget H x.1 = x.2) (r0 : Bool) (m_n2 : List Bool) (m_n5_0 : List (List Int)) (m_n7 : List Bool) (hd : D_impl_starters_1__impl_FirstStrong_1 fu a0 n0_0 k_n2 n2 n4_0 n5_0 k_n7 n7 = some (r0, m_n2, m_n5_0, m_n7)), ∃ v G', ACall Try.prog 115 [.slice p_a0 a0.length c_a0, .pointer (some ⟨i_n0, 0, none⟩), .pointer (some ⟨i_n1, 0, none⟩), .pointer (some ⟨i_n3, 0, none⟩), .pointer (some ⟨i_n6, 0, none⟩), .pointer (some ⟨i_n8, 0, none⟩)] H v G' ∧ ∃ (p_m_n5_0 : Option Addr) (c_m_n5_0 : Nat) (T_m_n5_0 : Tb) (F' : Sg), (v = .bool r0) ∧ St (([[(i_n0, AObj.row false ([.int .i64 n0_0]))], [(i_n1, AObj.row false ([.slice p_n2 k_n2 c_n2]))], oseg p_n2 (bls n2), [(i_n3, AObj.row false ([.func (.func 80) #[] #[.pointer (some ⟨i_n4, 0, none⟩), .pointer (some ⟨i_n5, 0, none⟩)]]))], [(i_n4, AObj.row false ([.int .i64 n4_0]))], [(i_n5, AObj.row false ([.slice p_n5_0 n5_0.length c_n5_0]))], [(i_n6, AObj.row false ([.slice p_n7 k_n7 c_n7]))], oseg p_n7 (bls n7), [(i_n8, AObj.row false ([.func (.func 115) #[] #[.pointer (some ⟨i_n0, 0, none⟩), .pointer (some ⟨i_n1, 0, none⟩), .pointer (some ⟨i_n3, 0, none⟩), .pointer (some ⟨i_n6, 0, none⟩), .pointer (some ⟨i_n8, 0, none⟩)]]))], F] : List Sg).flatten.map (·.1)) H G' [[(i_n0, AObj.row false ([.int .i64 n0_0]))], [(i_n1, AObj.row false ([.slice p_n2 k_n2 c_n2]))], oseg p_n2 (bls m_n2), [(i_n3, AObj.row false ([.func (.func 80) #[] #[.pointer (some ⟨i_n4, 0, none⟩), .pointer (some ⟨i_n5, 0, none⟩)]]))], [(i_n4, AObj.row false ([.int .i64 n4_0]))], [(i_n5, AObj.row false ([.slice p_m_n5_0 m_n5_0.length c_m_n5_0]))], [(i_n6, AObj.row false ([.slice p_n7 k_n7 c_n7]))], oseg p_n7 (bls m_n7), [(i_n8, AObj.row false ([.func (.func 115) #[] #[.pointer (some ⟨i_n0, 0, none⟩), .pointer (some ⟨i_n1, 0, none⟩), .pointer (some ⟨i_n3, 0, none⟩), .pointer (some ⟨i_n6, 0, none⟩), .pointer (some ⟨i_n8, 0, none⟩)]]))], F'] ∧ m_n2.length = k_n2 ∧ m_n7.length = k_n7 ∧ trows T_m_n5_0 = m_n5_0 ∧ PT F' p_m_n5_0 c_m_n5_0 T_m_n5_0 ∧ (m_n5_0 = [] → p_m_n5_0 = none) ∧ Pin F' F := by
  intro fu
  induction fu with
  | zero => intros; rename_i hd; cases hd
  | succ fu ih =>
  intro H F p_a0 c_a0 T_a0 a0 t_a0 q_a0 y_a0 i_n0 n0_0 i_n1 p_n2 k_n2 c_n2 n2 l_n2 s_n2 i_n3 i_n4 n4_0 i_n5 p_n5_0 c_n5_0 T_n5_0 n5_0 t_n5_0 q_n5_0 y_n5_0 i_n6 p_n7 k_n7 c_n7 n7 l_n7 s_n7 i_n8 hn ho r0 m_n2 m_n5_0 m_n7 hd
  refine ACall.bodyX (args := [.slice p_a0 a0.length c_a0, .pointer (some ⟨i_n0, 0, none⟩), .pointer (some ⟨i_n1, 0, none⟩), .pointer (some ⟨i_n3, 0, none⟩), .pointer (some ⟨i_n6, 0, none⟩), .pointer (some ⟨i_n8, 0, none⟩)]) (N := 84) [(0, .slice p_a0 a0.length c_a0), (1, .pointer (some ⟨i_n0, 0, none⟩)), (2, .pointer (some ⟨i_n1, 0, none⟩)), (3, .pointer (some ⟨i_n3, 0, none⟩)), (4, .pointer (some ⟨i_n6, 0, none⟩)), (5, .pointer (some ⟨i_n8, 0, none⟩))] (fun v G' => ∃ (p_m_n5_0 : Option Addr) (c_m_n5_0 : Nat) (T_m_n5_0 : Tb) (F' : Sg), (v = .bool r0) ∧ St (([[(i_n0, AObj.row false ([.int .i64 n0_0]))], [(i_n1, AObj.row false ([.slice p_n2 k_n2 c_n2]))], oseg p_n2 (bls n2), [(i_n3, AObj.row false ([.func (.func 80) #[] #[.pointer (some ⟨i_n4, 0, none⟩), .pointer (some ⟨i_n5, 0, none⟩)]]))], [(i_n4, AObj.row false ([.int .i64 n4_0]))], [(i_n5, AObj.row false ([.slice p_n5_0 n5_0.length c_n5_0]))], [(i_n6, AObj.row false ([.slice p_n7 k_n7 c_n7]))], oseg p_n7 (bls n7), [(i_n8, AObj.row false ([.func (.func 115) #[] #[.pointer (some ⟨i_n0, 0, none⟩), .pointer (some ⟨i_n1, 0, none⟩), .pointer (some ⟨i_n3, 0, none⟩), .pointer (some ⟨i_n6, 0, none⟩), .pointer (some ⟨i_n8, 0, none⟩)]]))], F] : List Sg).flatten.map (·.1)) H G' [[(i_n0, AObj.row false ([.int .i64 n0_0]))], [(i_n1, AObj.row false ([.slice p_n2 k_n2 c_n2]))], oseg p_n2 (bls m_n2), [(i_n3, AObj.row false ([.func (.func 80) #[] #[.pointer (some ⟨i_n4, 0, none⟩), .pointer (some ⟨i_n5, 0, none⟩)]]))], [(i_n4, AObj.row false ([.int .i64 n4_0]))], [(i_n5, AObj.row false ([.slice p_m_n5_0 m_n5_0.length c_m_n5_0]))], [(i_n6, AObj.row false ([.slice p_n7 k_n7 c_n7]))], oseg p_n7 (bls m_n7), [(i_n8, AObj.row false ([.func (.func 115) #[] #[.pointer (some ⟨i_n0, 0, none⟩), .pointer (some ⟨i_n1, 0, none⟩), .pointer (some ⟨i_n3, 0, none⟩), .pointer (some ⟨i_n6, 0, none⟩), .pointer (some ⟨i_n8, 0, none⟩)]]))], F'] ∧ m_n2.length = k_n2 ∧ m_n7.length = k_n7 ∧ trows T_m_n5_0 = m_n5_0 ∧ PT F' p_m_n5_0 c_m_n5_0 T_m_n5_0 ∧ (m_n5_0 = [] → p_m_n5_0 = none) ∧ Pin F' F) Try.func115 rfl rfl rfl rfl ?_
  unfold D_impl_starters_1__impl_FirstStrong_1 at hd
  have S0 := St.initF hn ho
  generalize hM0 : (([[(i_n0, AObj.row false ([.int .i64 n0_0]))], [(i_n1, AObj.row false ([.slice p_n2 k_n2 c_n2]))], oseg p_n2 (bls n2), [(i_n3, AObj.row false ([.func (.func 80) #[] #[.pointer (some ⟨i_n4, 0, none⟩), .pointer (some ⟨i_n5, 0, none⟩)]]))], [(i_n4, AObj.row false ([.int .i64 n4_0]))], [(i_n5, AObj.row false ([.slice p_n5_0 n5_0.length c_n5_0]))], [(i_n6, AObj.row false ([.slice p_n7 k_n7 c_n7]))], oseg p_n7 (bls n7), [(i_n8, AObj.row false ([.func (.func 115) #[] #[.pointer (some ⟨i_n0, 0, none⟩), .pointer (some ⟨i_n1, 0, none⟩), .pointer (some ⟨i_n3, 0, none⟩), .pointer (some ⟨i_n6, 0, none⟩), .pointer (some ⟨i_n8, 0, none⟩)]]))], F] : List Sg).flatten.map (·.1)) = M0 at S0 ⊢
  refine AX.seq ?_
  refine AX.region ?_
  refine AO.p rfl (p_assign rfl) ?_
  refine AO.nil ?_
  refine AX.seq ?_
  refine AX.region ?_
  refine AO.p rfl (p_assign rfl) ?_
  refine AO.nil ?_
  obtain ⟨r350, hl351, hd352⟩ := bnd_some hd
  refine AX.cut (fun t' H' => ∃ (x349 : Int), x349 = r350 ∧ St M0 H H' [F, [(i_n0, AObj.row false ([.int .i64 n0_0]))], [(i_n1, AObj.row false ([.slice p_n2 k_n2 c_n2]))], oseg p_n2 (bls n2), [(i_n3, AObj.row false ([.func (.func 80) #[] #[.pointer (some ⟨i_n4, 0, none⟩), .pointer (some ⟨i_n5, 0, none⟩)]]))], [(i_n4, AObj.row false ([.int .i64 n4_0]))], [(i_n5, AObj.row false ([.slice p_n5_0 n5_0.length c_n5_0]))], [(i_n6, AObj.row false ([.slice p_n7 k_n7 c_n7]))], oseg p_n7 (bls n7), [(i_n8, AObj.row false ([.func (.func 115) #[] #[.pointer (some ⟨i_n0, 0, none⟩), .pointer (some ⟨i_n1, 0, none⟩), .pointer (some ⟨i_n3, 0, none⟩), .pointer (some ⟨i_n6, 0, none⟩), .pointer (some ⟨i_n8, 0, none⟩)]]))]] ∧ Pin F F ∧ PT F p_n5_0 c_n5_0 T_n5_0 ∧ (n5_0 = [] → p_n5_0 = none) ∧ PT F p_a0 c_a0 T_a0 ∧ (a0 = [] → p_a0 = none) ∧ Am.Sub [(0, .slice p_a0 a0.length c_a0), (1, .pointer (some ⟨i_n0, 0, none⟩)), (2, .pointer (some ⟨i_n1, 0, none⟩)), (3, .pointer (some ⟨i_n3, 0, none⟩)), (4, .pointer (some ⟨i_n6, 0, none⟩)), (5, .pointer (some ⟨i_n8, 0, none⟩)), (8, .int .i64 x349)] t') ?_ ?_
  · refine AX.block ?_
    refine AX.loopF (fun s' t' H' => ∃ (x271 : Int), x271 = s' ∧ St M0 H H' [F, [(i_n0, AObj.row false ([.int .i64 n0_0]))], [(i_n1, AObj.row false ([.slice p_n2 k_n2 c_n2]))], oseg p_n2 (bls n2), [(i_n3, AObj.row false ([.func (.func 80) #[] #[.pointer (some ⟨i_n4, 0, none⟩), .pointer (some ⟨i_n5, 0, none⟩)]]))], [(i_n4, AObj.row false ([.int .i64 n4_0]))], [(i_n5, AObj.row false ([.slice p_n5_0 n5_0.length c_n5_0]))], [(i_n6, AObj.row false ([.slice p_n7 k_n7 c_n7]))], oseg p_n7 (bls n7), [(i_n8, AObj.row false ([.func (.func 115) #[] #[.pointer (some ⟨i_n0, 0, none⟩), .pointer (some ⟨i_n1, 0, none⟩), .pointer (some ⟨i_n3, 0, none⟩), .pointer (some ⟨i_n6, 0, none⟩), .pointer (some ⟨i_n8, 0, none⟩)]]))]] ∧ Pin F F ∧ PT F p_n5_0 c_n5_0 T_n5_0 ∧ (n5_0 = [] → p_n5_0 = none) ∧ PT F p_a0 c_a0 T_a0 ∧ (a0 = [] → p_a0 = none) ∧ Am.Sub [(0, .slice p_a0 a0.length c_a0), (1, .pointer (some ⟨i_n0, 0, none⟩)), (2, .pointer (some ⟨i_n1, 0, none⟩)), (3, .pointer (some ⟨i_n3, 0, none⟩)), (4, .pointer (some ⟨i_n6, 0, none⟩)), (5, .pointer (some ⟨i_n8, 0, none⟩)), (8, .int .i64 x271)] t') hl351 ?_ ?_
    · skip
      have S353 := S0.front 8 rfl
      have S354 := S353.front 8 rfl
      have S355 := S354.front 8 rfl
      have S356 := S355.front 8 rfl
      have S357 := S356.front 8 rfl
      have S358 := S357.front 8 rfl
      have S359 := S358.front 8 rfl
      have S360 := S359.front 8 rfl
      have S361 := S360.front 8 rfl
      have S362 := S361.front 9 rfl
      exact ⟨1, rfl, S362, (Pin.refl F), q_n5_0, y_n5_0, q_a0, y_a0, Sub.cons' rfl rfl (Sub.cons' rfl rfl (Sub.cons' rfl rfl (Sub.cons' rfl rfl (Sub.cons' rfl rfl (Sub.cons' rfl rfl (Sub.cons' rfl rfl (Sub.nil _)))))))⟩
    · rintro n363 _ t' G367 ⟨x271, rfl, S366, hF255, hv263, nl264, hv269, nl270, hsub368⟩ o369 ho364 hk365
      refine AX.sub hsub368 ?_
      unfold D_impl_starters_1__impl_FirstStrong_1_s0 at ho364
      refine AX.seq ?_
      obtain ⟨r392, hb393, hd394⟩ := bnd_some ho364
      refine AX.cut (fun t' H' => ∃ (b391 : Bool), b391 = r392 ∧ St M0 H H' [F, [(i_n0, AObj.row false ([.int .i64 n0_0]))], [(i_n1, AObj.row false ([.slice p_n2 k_n2 c_n2]))], oseg p_n2 (bls n2), [(i_n3, AObj.row false ([.func (.func 80) #[] #[.pointer (some ⟨i_n4, 0, none⟩), .pointer (some ⟨i_n5, 0, none⟩)]]))], [(i_n4, AObj.row false ([.int .i64 n4_0]))], [(i_n5, AObj.row false ([.slice p_n5_0 n5_0.length c_n5_0]))], [(i_n6, AObj.row false ([.slice p_n7 k_n7 c_n7]))], oseg p_n7 (bls n7), [(i_n8, AObj.row false ([.func (.func 115) #[] #[.pointer (some ⟨i_n0, 0, none⟩), .pointer (some ⟨i_n1, 0, none⟩), .pointer (some ⟨i_n3, 0, none⟩), .pointer (some ⟨i_n6, 0, none⟩), .pointer (some ⟨i_n8, 0, none⟩)]]))]] ∧ Pin F F ∧ PT F p_n5_0 c_n5_0 T_n5_0 ∧ (n5_0 = [] → p_n5_0 = none) ∧ PT F p_a0 c_a0 T_a0 ∧ (a0 = [] → p_a0 = none) ∧ Am.Sub [(0, .slice p_a0 a0.length c_a0), (1, .pointer (some ⟨i_n0, 0, none⟩)), (2, .pointer (some ⟨i_n1, 0, none⟩)), (3, .pointer (some ⟨i_n3, 0, none⟩)), (4, .pointer (some ⟨i_n6, 0, none⟩)), (5, .pointer (some ⟨i_n8, 0, none⟩)), (8, .int .i64 x271), (20, .bool b391)] t') ?_ ?_
      · skip
        refine AX.region ?_
        refine AO.p rfl (p_move rfl) ?_
        refine AO.c rfl (s_load Try.isAgg2 rfl (row_cell (S366.get (k := 1) rfl) rfl)) ?_
        refine AO.p rfl (p_lss rfl rfl) ?_
        refine AO.p rfl (p_move rfl) ?_
        refine AO.cases (d := 15) rfl (fun c395 => ?_) (fun c395 => ?_)
        · have hd396 := bif_t c395 hb393
          refine AO.gc rfl rfl rfl (s_load Try.isAgg111 rfl (row_cell (S366.get (k := 2) rfl) rfl)) ?_
          refine AO.gp rfl rfl rfl (p_move rfl) ?_
          obtain ⟨k397, hd398⟩ := chk_some hd396
          refine AO.gp rfl rfl rfl (s_indexV (q := x271.toNat) Try.underlying111 Try.sizeOf4 rfl (s_n2.at (inR_pos k397)) rfl k397 (z1 _)) ?_
          refine AO.gc rfl rfl rfl (s_load Try.isAgg4 rfl (row_cell (S366.oat (k := 3) rfl (s_n2.at (inR_pos k397))) (bls_get (lt_len l_n2 (inR_lt k397))))) ?_
          refine AO.p rfl (p_pickT rfl rfl) ?_
          refine AO.nil ?_
          have S399 := S366.front 9 rfl
          have S400 := S399.front 9 rfl
          have S401 := S400.front 9 rfl
          have S402 := S401.front 9 rfl
          have S403 := S402.front 9 rfl
          have S404 := S403.front 9 rfl
          have S405 := S404.front 9 rfl
          have S406 := S405.front 9 rfl
          have S407 := S406.front 9 rfl
          have S408 := S407.front 9 rfl
          exact ⟨(rdb n2 x271.toNat), (some_inj hd398), S408, hF255, hv263, nl264, hv269, nl270, Sub.cons' rfl rfl (Sub.cons' rfl rfl (Sub.cons' rfl rfl (Sub.cons' rfl rfl (Sub.cons' rfl rfl (Sub.cons' rfl rfl (Sub.cons' rfl rfl (Sub.cons' rfl rfl (Sub.nil _))))))))⟩
        · have hd409 := bif_f c395 hb393
          refine AO.gn rfl rfl rfl ?_
          refine AO.gn rfl rfl rfl ?_
          refine AO.gn rfl rfl rfl ?_
          refine AO.gn rfl rfl rfl ?_
          refine AO.p rfl (p_pickF rfl rfl) ?_
          refine AO.nil ?_
          have S410 := S366.front 9 rfl
          have S411 := S410.front 9 rfl
          have S412 := S411.front 9 rfl
          have S413 := S412.front 9 rfl
          have S414 := S413.front 9 rfl
          have S415 := S414.front 9 rfl
          have S416 := S415.front 9 rfl
          have S417 := S416.front 9 rfl
          have S418 := S417.front 9 rfl
          have S419 := S418.front 9 rfl
          exact ⟨false, (some_inj hd409), S419, hF255, hv263, nl264, hv269, nl270, Sub.cons' rfl rfl (Sub.cons' rfl rfl (Sub.cons' rfl rfl (Sub.cons' rfl rfl (Sub.cons' rfl rfl (Sub.cons' rfl rfl (Sub.cons' rfl rfl (Sub.cons' rfl rfl (Sub.nil _))))))))⟩
      · rintro t' G421 ⟨b391, rfl, S420, hF375, hv383, nl384, hv389, nl390, hsub422⟩
        refine AX.sub hsub422 ?_
        refine AX.cond rfl (fun c423 => ?_) (fun c423 => ?_)
        · have hd424 := bif_t c423 hd394
          refine AX.skip ?_
          refine AX.block ?_
          refine AX.region ?_
          refine AO.p rfl (p_move rfl) ?_
          obtain ⟨k425, hd426⟩ := chk_some hd424
          refine AO.p rfl (p_addE rfl rfl k425) ?_
          refine AO.p rfl (p_assign rfl) ?_
          refine AO.nil ?_
          obtain rfl := some_inj hd426
          have S428 := S420.front 9 rfl
          have S429 := S428.front 9 rfl
          have S430 := S429.front 9 rfl
          have S431 := S430.front 9 rfl
          have S432 := S431.front 9 rfl
          have S433 := S432.front 9 rfl
          have S434 := S433.front 9 rfl
          have S435 := S434.front 9 rfl
          have S436 := S435.front 9 rfl
          have S437 := S436.front 9 rfl
          exact ⟨x271 + 1, hk365, (x271 + 1), rfl, S437, hF375, hv383, nl384, hv389, nl390, Sub.cons' rfl rfl (Sub.cons' rfl rfl (Sub.cons' rfl rfl (Sub.cons' rfl rfl (Sub.cons' rfl rfl (Sub.cons' rfl rfl (Sub.cons' rfl rfl (Sub.nil _)))))))⟩
        · have hd438 := bif_f c423 hd394
          refine AX.exit ?_
          obtain rfl := some_inj hd438
          have S439 := S420.front 9 rfl
          have S440 := S439.front 9 rfl
          have S441 := S440.front 9 rfl
          have S442 := S441.front 9 rfl
          have S443 := S442.front 9 rfl
          have S444 := S443.front 9 rfl
          have S445 := S444.front 9 rfl
          have S446 := S445.front 9 rfl
          have S447 := S446.front 9 rfl
          have S448 := S447.front 9 rfl
          exact ⟨x271, hk365, S448, hF375, hv383, nl384, hv389, nl390, Sub.cons' rfl rfl (Sub.cons' rfl rfl (Sub.cons' rfl rfl (Sub.cons' rfl rfl (Sub.cons' rfl rfl (Sub.cons' rfl rfl (Sub.cons' rfl rfl (Sub.nil _)))))))⟩
  · rintro t' G450 ⟨x349, rfl, S449, hF333, hv341, nl342, hv347, nl348, hsub451⟩
    refine AX.sub hsub451 ?_
    refine AX.seq ?_
    refine AX.seq ?_
    refine AX.region ?_
    refine AO.p rfl (p_move rfl) ?_
    refine AO.c rfl (s_load Try.isAgg2 rfl (row_cell (S449.get (k := 1) rfl) rfl)) ?_
    refine AO.p rfl (p_eql rfl rfl) ?_
    refine AO.nil ?_
    refine AX.cond rfl (fun c452 => ?_) (fun c452 => ?_)
    · have hd453 := bif_t c452 hd352
      refine AX.seq ?_
      refine AX.region ?_
      refine AO.c rfl (s_load Try.isAgg76 rfl (row_cell (S449.get (k := 4) rfl) rfl)) ?_
      refine AO.p rfl (p_move rfl) ?_
      have S454 := S449.front 0 rfl
      have S455 := S454.front 6 rfl
      have S456 := S455.front 6 rfl
      have S457 : St M0 H G450 [[(i_n4, AObj.row false ([.int .i64 n4_0]))], [(i_n5, AObj.row false ([.slice p_n5_0 n5_0.length c_n5_0]))], F, [(i_n0, AObj.row false ([.int .i64 n0_0]))], [(i_n1, AObj.row false ([.slice p_n2 k_n2 c_n2]))], oseg p_n2 (bls n2), [(i_n3, AObj.row false ([.func (.func 80) #[] #[.pointer (some ⟨i_n4, 0, none⟩), .pointer (some ⟨i_n5, 0, none⟩)]]))], [(i_n6, AObj.row false ([.slice p_n7 k_n7 c_n7]))], oseg p_n7 (bls n7), [(i_n8, AObj.row false ([.func (.func 115) #[] #[.pointer (some ⟨i_n0, 0, none⟩), .pointer (some ⟨i_n1, 0, none⟩), .pointer (some ⟨i_n3, 0, none⟩), .pointer (some ⟨i_n6, 0, none⟩), .pointer (some ⟨i_n8, 0, none⟩)]]))]] := S456
      obtain ⟨⟨b458, rs459⟩, h460, hd461⟩ := bnd_some hd453
      obtain ⟨_, G471, hc473, p463, c464, T465, F462, rfl, S472, t466, hv467, nl469, hF470⟩ := W_impl_FirstStrong_1 fu G450 F p_a0 c_a0 T_a0 a0 t_a0 hv347 nl348 i_n4 n4_0 i_n5 p_n5_0 c_n5_0 T_n5_0 n5_0 t_n5_0 hv341 nl342 (St.fnodup (A := [[(i_n4, AObj.row false ([.int .i64 n4_0]))], [(i_n5, AObj.row false ([.slice p_n5_0 n5_0.length c_n5_0]))], F]) S457) (St.fmem (A := [[(i_n4, AObj.row false ([.int .i64 n4_0]))], [(i_n5, AObj.row false ([.slice p_n5_0 n5_0.length c_n5_0]))], F]) S457) b458 rs459 h460
      have S474 := St.callM (A := [[(i_n4, AObj.row false ([.int .i64 n4_0]))], [(i_n5, AObj.row false ([.slice p_n5_0 n5_0.length c_n5_0]))], F]) S457 S472 (fun j h => h)
      refine AO.c rfl (o_callV (vs := [.slice p_a0 a0.length c_a0]) rfl rfl Try.call80 hc473) ?_
      refine AO.p rfl (p_assign rfl) ?_
      refine AO.nil ?_
      refine AX.ret ?_
      obtain ⟨rfl, z475⟩ := Prod.mk.inj (some_inj hd461)
      obtain ⟨rfl, z476⟩ := Prod.mk.inj z475
      obtain ⟨rfl, rfl⟩ := Prod.mk.inj z476
      have S478 := S474.front 2 rfl
      have S479 := S478.front 9 rfl
      have S480 := S479.front 9 rfl
      have S481 := S480.front 9 rfl
      have S482 := S481.front 5 rfl
      have S483 := S482.front 5 rfl
      have S484 := S483.front 9 rfl
      have S485 := S484.front 9 rfl
      have S486 := S485.front 9 rfl
      have S487 := S486.front 9 rfl
      exact ⟨.inr rfl, _, res1 rfl (rv_tmp rfl), p463, c464, T465, F462, rfl, S487, l_n2, l_n7, t466, hv467, nl469, (hF333.mono hF470)⟩
    · have hd488 := bif_f c452 hd352
      refine AX.skip ?_
      refine AX.seq ?_
      refine AX.seq ?_
      refine AX.region ?_
      refine AO.p rfl (p_move rfl) ?_
      obtain ⟨k489, hd490⟩ := chk_some hd488
      refine AO.p rfl (p_addE rfl rfl k489) ?_
      refine AO.p rfl (p_assign rfl) ?_
      refine AO.nil ?_
      obtain ⟨r1163, hl1164, hd1165⟩ := bnd_some hd490
      refine AX.cutS (fun t' H' => ∃ (bs1148 : List Bool) (rs1152 : List (List Int)) (bs1161 : List Bool) (F1143 : Sg) (p1153 : Option Addr) (c1154 : Nat) (T1155 : Tb), .inl (bs1148, rs1152, bs1161) = r1163 ∧ St M0 H H' [F1143, [(i_n0, AObj.row false ([.int .i64 n0_0]))], [(i_n1, AObj.row false ([.slice p_n2 k_n2 c_n2]))], oseg p_n2 (bls bs1148), [(i_n3, AObj.row false ([.func (.func 80) #[] #[.pointer (some ⟨i_n4, 0, none⟩), .pointer (some ⟨i_n5, 0, none⟩)]]))], [(i_n4, AObj.row false ([.int .i64 n4_0]))], [(i_n5, AObj.row false ([.slice p1153 rs1152.length c1154]))], [(i_n6, AObj.row false ([.slice p_n7 k_n7 c_n7]))], oseg p_n7 (bls bs1161), [(i_n8, AObj.row false ([.func (.func 115) #[] #[.pointer (some ⟨i_n0, 0, none⟩), .pointer (some ⟨i_n1, 0, none⟩), .pointer (some ⟨i_n3, 0, none⟩), .pointer (some ⟨i_n6, 0, none⟩), .pointer (some ⟨i_n8, 0, none⟩)]]))]] ∧ Pin F1143 F ∧ bs1148.length = k_n2 ∧ trows T1155 = rs1152 ∧ PT F1143 p1153 c1154 T1155 ∧ (rs1152 = [] → p1153 = none) ∧ bs1161.length = k_n7 ∧ Am.Sub [] t') ?_ ?_
      · refine AX.block ?_
        refine AX.loopF (fun s' t' H' => ∃ (bs928 : List Bool) (rs932 : List (List Int)) (bs941 : List Bool) (x946 : Int) (F923 : Sg) (p933 : Option Addr) (c934 : Nat) (T935 : Tb), (bs928, rs932, bs941, x946) = s' ∧ St M0 H H' [F923, [(i_n0, AObj.row false ([.int .i64 n0_0]))], [(i_n1, AObj.row false ([.slice p_n2 k_n2 c_n2]))], oseg p_n2 (bls bs928), [(i_n3, AObj.row false ([.func (.func 80) #[] #[.pointer (some ⟨i_n4, 0, none⟩), .pointer (some ⟨i_n5, 0, none⟩)]]))], [(i_n4, AObj.row false ([.int .i64 n4_0]))], [(i_n5, AObj.row false ([.slice p933 rs932.length c934]))], [(i_n6, AObj.row false ([.slice p_n7 k_n7 c_n7]))], oseg p_n7 (bls bs941), [(i_n8, AObj.row false ([.func (.func 115) #[] #[.pointer (some ⟨i_n0, 0, none⟩), .pointer (some ⟨i_n1, 0, none⟩), .pointer (some ⟨i_n3, 0, none⟩), .pointer (some ⟨i_n6, 0, none⟩), .pointer (some ⟨i_n8, 0, none⟩)]]))]] ∧ Pin F923 F ∧ bs928.length = k_n2 ∧ trows T935 = rs932 ∧ PT F923 p933 c934 T935 ∧ (rs932 = [] → p933 = none) ∧ bs941.length = k_n7 ∧ PT F923 p_a0 c_a0 T_a0 ∧ (a0 = [] → p_a0 = none) ∧ Am.Sub [(0, .slice p_a0 a0.length c_a0), (1, .pointer (some ⟨i_n0, 0, none⟩)), (2, .pointer (some ⟨i_n1, 0, none⟩)), (4, .pointer (some ⟨i_n6, 0, none⟩)), (5, .pointer (some ⟨i_n8, 0, none⟩)), (8, .int .i64 x349), (9, .int .i64 x946)] t') hl1164 ?_ ?_
        · skip
          have S1166 := S449.front 9 rfl
          have S1167 := S1166.front 9 rfl
          have S1168 := S1167.front 9 rfl
          have S1169 := S1168.front 9 rfl
          have S1170 := S1169.front 9 rfl
          have S1171 := S1170.front 9 rfl
          have S1172 := S1171.front 9 rfl
          have S1173 := S1172.front 9 rfl
          have S1174 := S1173.front 9 rfl
          have S1175 := S1174.front 9 rfl
          exact ⟨n2, n5_0, n7, (x349 + 1), F, p_n5_0, c_n5_0, T_n5_0, rfl, S1175, hF333, l_n2, t_n5_0, hv341, nl342, l_n7, hv347, nl348, Sub.cons' rfl rfl (Sub.cons' rfl rfl (Sub.cons' rfl rfl (Sub.cons' rfl rfl (Sub.cons' rfl rfl (Sub.cons' rfl rfl (Sub.cons' rfl rfl (Sub.nil _)))))))⟩
        · rintro n1176 _ t' G1180 ⟨bs928, rs932, bs941, x946, F923, p933, c934, T935, rfl, S1179, hF924, lbs928, tT935, hv937, nl938, lbs941, hv944, nl945, hsub1181⟩ o1182 ho1177 hk1178
          refine AX.sub hsub1181 ?_
          unfold D_impl_starters_1__impl_FirstStrong_1_s1 at ho1177
          refine AX.seq ?_
          refine AX.seq ?_
          refine AX.region ?_
          refine AO.p rfl (p_move rfl) ?_
          refine AO.c rfl (s_load Try.isAgg2 rfl (row_cell (S1179.get (k := 1) rfl) rfl)) ?_
          refine AO.p rfl (p_lss rfl rfl) ?_
          refine AO.nil ?_
          refine AX.cond rfl (fun c1183 => ?_) (fun c1183 => ?_)
          · have hd1184 := bif_t c1183 ho1177
            refine AX.skip ?_
            refine AX.seq ?_
            refine AX.block ?_
            refine AX.seq ?_
            refine AX.region ?_
            refine AO.p rfl (p_move rfl) ?_
            refine AO.p rfl (p_move rfl) ?_
            obtain ⟨k1185, hd1186⟩ := chk_some hd1184
            refine AO.p rfl (p_subE rfl rfl k1185) ?_
            refine AO.c rfl (s_load Try.isAgg2 rfl (row_cell (S1179.get (k := 1) rfl) rfl)) ?_
            refine AO.p rfl (p_move rfl) ?_
            obtain ⟨k1187, hd1188⟩ := chk_some hd1186
            refine AO.p rfl (p_subE rfl rfl k1187) ?_
            refine AO.p rfl (p_move rfl) ?_
            obtain ⟨k1189, hd1190⟩ := chk_some hd1188
            refine AO.p rfl (p_addE rfl rfl k1189) ?_
            refine AO.p rfl (p_min rfl rfl rfl) ?_
            refine AO.p rfl (p_assign rfl) ?_
            refine AO.nil ?_
            refine AX.seq ?_
            obtain ⟨r1215, hb1216, hd1217⟩ := bnd_some hd1190
            refine AX.cut (fun t' H' => ∃ (b1214 : Bool), b1214 = r1215 ∧ St M0 H H' [F923, [(i_n0, AObj.row false ([.int .i64 n0_0]))], [(i_n1, AObj.row false ([.slice p_n2 k_n2 c_n2]))], oseg p_n2 (bls bs928), [(i_n3, AObj.row false ([.func (.func 80) #[] #[.pointer (some ⟨i_n4, 0, none⟩), .pointer (some ⟨i_n5, 0, none⟩)]]))], [(i_n4, AObj.row false ([.int .i64 n4_0]))], [(i_n5, AObj.row false ([.slice p933 rs932.length c934]))], [(i_n6, AObj.row false ([.slice p_n7 k_n7 c_n7]))], oseg p_n7 (bls bs941), [(i_n8, AObj.row false ([.func (.func 115) #[] #[.pointer (some ⟨i_n0, 0, none⟩), .pointer (some ⟨i_n1, 0, none⟩), .pointer (some ⟨i_n3, 0, none⟩), .pointer (some ⟨i_n6, 0, none⟩), .pointer (some ⟨i_n8, 0, none⟩)]]))]] ∧ Pin F923 F ∧ PT F923 p933 c934 T935 ∧ (rs932 = [] → p933 = none) ∧ PT F923 p_a0 c_a0 T_a0 ∧ (a0 = [] → p_a0 = none) ∧ Am.Sub [(0, .slice p_a0 a0.length c_a0), (1, .pointer (some ⟨i_n0, 0, none⟩)), (2, .pointer (some ⟨i_n1, 0, none⟩)), (4, .pointer (some ⟨i_n6, 0, none⟩)), (5, .pointer (some ⟨i_n8, 0, none⟩)), (8, .int .i64 x349), (9, .int .i64 x946), (10, .int .i64 (if n0_0 - x946 + x349 < x946 - x349 then n0_0 - x946 + x349 else x946 - x349)), (54, .bool b1214)] t') ?_ ?_
            · skip
              refine AX.region ?_
              refine AO.c rfl (s_load Try.isAgg111 rfl (row_cell (S1179.get (k := 2) rfl) rfl)) ?_
              refine AO.p rfl (p_move rfl) ?_
              obtain ⟨k1218, hd1219⟩ := chk_some hb1216
              refine AO.p rfl (s_indexV (q := x946.toNat) Try.underlying111 Try.sizeOf4 rfl (s_n2.at (inR_pos k1218)) rfl k1218 (z1 _)) ?_
              refine AO.c rfl (s_load Try.isAgg4 rfl (row_cell (S1179.oat (k := 3) rfl (s_n2.at (inR_pos k1218))) (bls_get (lt_len lbs928 (inR_lt k1218))))) ?_
              refine AO.p rfl (p_move rfl) ?_
              refine AO.cases (d := 49) rfl (fun c1220 => ?_) (fun c1220 => ?_)
              · have hd1221 := bif_t c1220 hd1219
                refine AO.gn rfl rfl rfl ?_
                refine AO.gn rfl rfl rfl ?_
                refine AO.gn rfl rfl rfl ?_
                refine AO.gn rfl rfl rfl ?_
                refine AO.p rfl (p_pickT rfl rfl) ?_
                refine AO.nil ?_
                have S1222 := S1179.front 9 rfl
                have S1223 := S1222.front 9 rfl
                have S1224 := S1223.front 9 rfl
                have S1225 := S1224.front 9 rfl
                have S1226 := S1225.front 9 rfl
                have S1227 := S1226.front 9 rfl
                have S1228 := S1227.front 9 rfl
                have S1229 := S1228.front 9 rfl
                have S1230 := S1229.front 9 rfl
                have S1231 := S1230.front 9 rfl
                exact ⟨true, (some_inj hd1221), S1231, hF924, hv937, nl938, hv944, nl945, Sub.cons' rfl rfl (Sub.cons' rfl rfl (Sub.cons' rfl rfl (Sub.cons' rfl rfl (Sub.cons' rfl rfl (Sub.cons' rfl rfl (Sub.cons' rfl rfl (Sub.cons' rfl rfl (Sub.cons' rfl rfl (Sub.nil _)))))))))⟩
              · have hd1232 := bif_f c1220 hd1219
                refine AO.gc rfl rfl rfl (s_load Try.isAgg111 rfl (row_cell (S1179.get (k := 7) rfl) rfl)) ?_
                refine AO.gp rfl rfl rfl (p_move rfl) ?_
                obtain ⟨k1233, hd1234⟩ := chk_some hd1232
                refine AO.gp rfl rfl rfl (s_indexV (q := (if n0_0 - x946 + x349 < x946 - x349 then n0_0 - x946 + x349 else x946 - x349).toNat) Try.underlying111 Try.sizeOf4 rfl (s_n7.at (inR_pos k1233)) rfl k1233 (z1 _)) ?_
                refine AO.gc rfl rfl rfl (s_load Try.isAgg4 rfl (row_cell (S1179.oat (k := 8) rfl (s_n7.at (inR_pos k1233))) (bls_get (lt_len lbs941 (inR_lt k1233))))) ?_
                refine AO.p rfl (p_pickF rfl rfl) ?_
                refine AO.nil ?_
                have S1235 := S1179.front 9 rfl
                have S1236 := S1235.front 9 rfl
                have S1237 := S1236.front 9 rfl
                have S1238 := S1237.front 9 rfl
                have S1239 := S1238.front 9 rfl
                have S1240 := S1239.front 9 rfl
                have S1241 := S1240.front 9 rfl
                have S1242 := S1241.front 9 rfl
                have S1243 := S1242.front 9 rfl
                have S1244 := S1243.front 9 rfl
                exact ⟨(rdb bs941 ((if n0_0 - x946 + x349 < x946 - x349 then n0_0 - x946 + x349 else x946 - x349).toNat)), (some_inj hd1234), S1244, hF924, hv937, nl938, hv944, nl945, Sub.cons' rfl rfl (Sub.cons' rfl rfl (Sub.cons' rfl rfl (Sub.cons' rfl rfl (Sub.cons' rfl rfl (Sub.cons' rfl rfl (Sub.cons' rfl rfl (Sub.cons' rfl rfl (Sub.cons' rfl rfl (Sub.nil _)))))))))⟩
            · rintro t' G1246 ⟨b1214, rfl, S1245, hF1198, hv1206, nl1207, hv1212, nl1213, hsub1247⟩
              refine AX.sub hsub1247 ?_
              refine AX.cond rfl (fun c1248 => ?_) (fun c1248 => ?_)
              · have hd1249 := bif_t c1248 hd1217
                refine AX.exit ?_
                refine AX.region ?_
                refine AO.p rfl (p_move rfl) ?_
                obtain ⟨k1250, hd1251⟩ := chk_some hd1249
                refine AO.p rfl (p_addE rfl rfl k1250) ?_
                refine AO.p rfl (p_assign rfl) ?_
                refine AO.nil ?_
                obtain rfl := some_inj hd1251
                have S1253 := S1245.front 9 rfl
                have S1254 := S1253.front 9 rfl
                have S1255 := S1254.front 9 rfl
                have S1256 := S1255.front 9 rfl
                have S1257 := S1256.front 9 rfl
                have S1258 := S1257.front 9 rfl
                have S1259 := S1258.front 9 rfl
                have S1260 := S1259.front 9 rfl
                have S1261 := S1260.front 9 rfl
                have S1262 := S1261.front 9 rfl
                exact ⟨(bs928, rs932, bs941, x946 + 1), hk1178, bs928, rs932, bs941, (x946 + 1), F923, p933, c934, T935, rfl, S1262, hF1198, lbs928, tT935, hv1206, nl1207, lbs941, hv1212, nl1213, Sub.cons' rfl rfl (Sub.cons' rfl rfl (Sub.cons' rfl rfl (Sub.cons' rfl rfl (Sub.cons' rfl rfl (Sub.cons' rfl rfl (Sub.cons' rfl rfl (Sub.nil _)))))))⟩
              · have hd1263 := bif_f c1248 hd1217
                refine AX.skip ?_
                refine AX.seq ?_
                refine DR.startS [false, false, false, false, false, false, false, true, false, true, false, true] mix (by kernel_rfl) (fun hst => ?_)
                refine DR.r rfl rfl (r_load rfl Try.isAgg111) (one_read (row_cell (S1245.get (k := 2) rfl) rfl) (S1245.oin (k := 3) rfl s_n2).bel) ?_
                refine DR.p rfl rfl (p_move rfl) ?_
                refine DR.r rfl rfl (r_load rfl Try.isAgg111) (one_read (row_cell (S1245.get (k := 2) rfl) rfl) (S1245.oin (k := 3) rfl s_n2).bel) ?_
                refine DR.p rfl rfl (p_move rfl) ?_
                refine DR.r rfl rfl (r_load rfl Try.isAgg111) (one_read (row_cell (S1245.get (k := 7) rfl) rfl) (S1245.oin (k := 8) rfl s_n7).bel) ?_
                refine DR.p rfl rfl (p_move rfl) ?_
                obtain ⟨k1264, hd1265⟩ := chk_some hd1263
                refine DR.p rfl rfl (s_indexV (q := x349.toNat) Try.underlying111 Try.sizeOf4 rfl (s_n2.at (inR_pos k1264)) rfl k1264 (z1 _)) ?_
                obtain ⟨G1266, hHG1266, S1267⟩ := S1245.oset (k := 3) (p := p_n2) rfl (s_n2.at (inR_pos k1264)) (bls (bs928.set x349.toNat true))
                have S1268 : St M0 H G1266 [F923, [(i_n0, AObj.row false ([.int .i64 n0_0]))], [(i_n1, AObj.row false ([.slice p_n2 k_n2 c_n2]))], oseg p_n2 (bls (bs928.set x349.toNat true)), [(i_n3, AObj.row false ([.func (.func 80) #[] #[.pointer (some ⟨i_n4, 0, none⟩), .pointer (some ⟨i_n5, 0, none⟩)]]))], [(i_n4, AObj.row false ([.int .i64 n4_0]))], [(i_n5, AObj.row false ([.slice p933 rs932.length c934]))], [(i_n6, AObj.row false ([.slice p_n7 k_n7 c_n7]))], oseg p_n7 (bls bs941), [(i_n8, AObj.row false ([.func (.func 115) #[] #[.pointer (some ⟨i_n0, 0, none⟩), .pointer (some ⟨i_n1, 0, none⟩), .pointer (some ⟨i_n3, 0, none⟩), .pointer (some ⟨i_n6, 0, none⟩), .pointer (some ⟨i_n8, 0, none⟩)]]))]] := S1267
                refine DR.s rfl (s_store Try.sizeOf4 rfl rfl rfl (S1245.oat (k := 3) rfl (s_n2.at (inR_pos k1264))) (lt_len ((bls_length _).trans lbs928) (inR_lt k1264)) ((congrArg (fun l => List.set _ _ (AObj.row false l)) (bls_set _ _ _)).trans hHG1266)) (set_le hHG1266) ?_
                obtain ⟨k1269, hd1270⟩ := chk_some hd1265
                refine DR.p rfl rfl (s_indexV (q := x946.toNat) Try.underlying111 Try.sizeOf4 rfl (s_n2.at (inR_pos k1269)) rfl k1269 (z1 _)) ?_
                obtain ⟨G1271, hHG1271, S1272⟩ := S1268.oset (k := 3) (p := p_n2) rfl (s_n2.at (inR_pos k1269)) (bls ((bs928.set x349.toNat true).set x946.toNat true))
                have S1273 : St M0 H G1271 [F923, [(i_n0, AObj.row false ([.int .i64 n0_0]))], [(i_n1, AObj.row false ([.slice p_n2 k_n2 c_n2]))], oseg p_n2 (bls ((bs928.set x349.toNat true).set x946.toNat true)), [(i_n3, AObj.row false ([.func (.func 80) #[] #[.pointer (some ⟨i_n4, 0, none⟩), .pointer (some ⟨i_n5, 0, none⟩)]]))], [(i_n4, AObj.row false ([.int .i64 n4_0]))], [(i_n5, AObj.row false ([.slice p933 rs932.length c934]))], [(i_n6, AObj.row false ([.slice p_n7 k_n7 c_n7]))], oseg p_n7 (bls bs941), [(i_n8, AObj.row false ([.func (.func 115) #[] #[.pointer (some ⟨i_n0, 0, none⟩), .pointer (some ⟨i_n1, 0, none⟩), .pointer (some ⟨i_n3, 0, none⟩), .pointer (some ⟨i_n6, 0, none⟩), .pointer (some ⟨i_n8, 0, none⟩)]]))]] := S1272
                refine DR.s rfl (s_store Try.sizeOf4 rfl rfl rfl (S1268.oat (k := 3) rfl (s_n2.at (inR_pos k1269))) (lt_len ((bls_length _).trans (len_set lbs928)) (inR_lt k1269)) ((congrArg (fun l => List.set _ _ (AObj.row false l)) (bls_set _ _ _)).trans hHG1271)) (set_le hHG1271) ?_
                obtain ⟨k1274, hd1275⟩ := chk_some hd1270
                refine DR.p rfl rfl (s_indexV (q := (if n0_0 - x946 + x349 < x946 - x349 then n0_0 - x946 + x349 else x946 - x349).toNat) Try.underlying111 Try.sizeOf4 rfl (s_n7.at (inR_pos k1274)) rfl k1274 (z1 _)) ?_
                obtain ⟨G1276, hHG1276, S1277⟩ := S1273.oset (k := 8) (p := p_n7) rfl (s_n7.at (inR_pos k1274)) (bls (bs941.set ((if n0_0 - x946 + x349 < x946 - x349 then n0_0 - x946 + x349 else x946 - x349).toNat) true))
                have S1278 : St M0 H G1276 [F923, [(i_n0, AObj.row false ([.int .i64 n0_0]))], [(i_n1, AObj.row false ([.slice p_n2 k_n2 c_n2]))], oseg p_n2 (bls ((bs928.set x349.toNat true).set x946.toNat true)), [(i_n3, AObj.row false ([.func (.func 80) #[] #[.pointer (some ⟨i_n4, 0, none⟩), .pointer (some ⟨i_n5, 0, none⟩)]]))], [(i_n4, AObj.row false ([.int .i64 n4_0]))], [(i_n5, AObj.row false ([.slice p933 rs932.length c934]))], [(i_n6, AObj.row false ([.slice p_n7 k_n7 c_n7]))], oseg p_n7 (bls (bs941.set ((if n0_0 - x946 + x349 < x946 - x349 then n0_0 - x946 + x349 else x946 - x349).toNat) true)), [(i_n8, AObj.row false ([.func (.func 115) #[] #[.pointer (some ⟨i_n0, 0, none⟩), .pointer (some ⟨i_n1, 0, none⟩), .pointer (some ⟨i_n3, 0, none⟩), .pointer (some ⟨i_n6, 0, none⟩), .pointer (some ⟨i_n8, 0, none⟩)]]))]] := S1277
                refine DR.s rfl (s_store Try.sizeOf4 rfl rfl rfl (S1273.oat (k := 8) rfl (s_n7.at (inR_pos k1274))) (lt_len ((bls_length _).trans lbs941) (inR_lt k1274)) ((congrArg (fun l => List.set _ _ (AObj.row false l)) (bls_set _ _ _)).trans hHG1276)) (set_le hHG1276) ?_
                refine DR.nil 12 [(2, 7), (4, 7), (4, 9)] hst (by kernel_rfl) ⟨(rd1 (fun _ => (S1268.get (k := 2) rfl).trans (S1245.get (k := 2) rfl).symm)), (rd1 (fun _ => (S1268.get (k := 7) rfl).trans (S1245.get (k := 7) rfl).symm)), (rd1 (fun _ => (S1273.get (k := 7) rfl).trans (S1268.get (k := 7) rfl).symm)), trivial⟩ ?_
                refine AX.seq ?_
                refine DR.startS [false, false, true, false, false, false, false, true, true, false] mix (by kernel_rfl) (fun hst => ?_)
                refine DR.r rfl rfl (r_load rfl Try.isAgg76) (one_read (row_cell (S1278.get (k := 9) rfl) rfl) (bel_fn (bel_cons (.ptr _ _ (S1278.lt (k := 1) rfl)) (bel_cons (.ptr _ _ (S1278.lt (k := 2) rfl)) (bel_cons (.ptr _ _ (S1278.lt (k := 4) rfl)) (bel_cons (.ptr _ _ (S1278.lt (k := 7) rfl)) (bel_cons (.ptr _ _ (S1278.lt (k := 9) rfl)) bel_nil))))))) ?_
                refine DR.p rfl rfl (p_move rfl) ?_
                have S1279 := S1278.front 0 rfl
                have S1280 : St M0 H G1276 [F923, [(i_n0, AObj.row false ([.int .i64 n0_0]))], [(i_n1, AObj.row false ([.slice p_n2 k_n2 c_n2]))], oseg p_n2 (bls ((bs928.set x349.toNat true).set x946.toNat true)), [(i_n3, AObj.row false ([.func (.func 80) #[] #[.pointer (some ⟨i_n4, 0, none⟩), .pointer (some ⟨i_n5, 0, none⟩)]]))], [(i_n4, AObj.row false ([.int .i64 n4_0]))], [(i_n5, AObj.row false ([.slice p933 rs932.length c934]))], [(i_n6, AObj.row false ([.slice p_n7 k_n7 c_n7]))], oseg p_n7 (bls (bs941.set ((if n0_0 - x946 + x349 < x946 - x349 then n0_0 - x946 + x349 else x946 - x349).toNat) true)), [(i_n8, AObj.row false ([.func (.func 115) #[] #[.pointer (some ⟨i_n0, 0, none⟩), .pointer (some ⟨i_n1, 0, none⟩), .pointer (some ⟨i_n3, 0, none⟩), .pointer (some ⟨i_n6, 0, none⟩), .pointer (some ⟨i_n8, 0, none⟩)]]))]] := S1279
                obtain ⟨rs1281, h1282, hd1283⟩ := bnd_some hd1275
                obtain ⟨_, G1293, hc1295, p1285, c1286, T1289, F1284, rfl, S1294, B1287, t1290, hp1291, hF1292⟩ := W_slices_Clone_SSint64_Sint64 fu G1276 F923 p_a0 c_a0 T_a0 a0 t_a0 hv1212 nl1213 (St.fnodup (A := [F923]) S1280) (St.fmem (A := [F923]) S1280) rs1281 h1282
                have S1296 := St.callM (A := [F923]) S1280 S1294 (fun j h => h)
                refine DR.w rfl rfl (o_call (vs := [.slice p_a0 a0.length c_a0]) rfl Try.call116 hc1295) (S1294.len) ?_
                refine DR.p rfl rfl (p_move rfl) ?_
                refine DR.p rfl rfl (p_move rfl) ?_
                obtain ⟨G1297, i1298, hii1298, hHG1297, S1299⟩ := S1296.new (AObj.row false (ints [x349, x946]))
                refine DR.a rfl rfl hii1298 hHG1297 (a_buildInts (vs := [(0, .int .i64 x349), (1, .int .i64 x946)]) (xs := [x349, x946]) Try.underlying58 Try.sizeOf2 Try.zeroValue2 rfl rfl (by decide) rfl rfl) ?_
                obtain ⟨G1301, i1302, hii1302, hHG1301, S1303⟩ := S1299.new (AObj.row false (tcells ([((some (Addr.mk i1298 0 none)), 2, [x349, x946])])))
                have S1305 := (S1303.front 1 rfl).tone (some (Addr.mk i1298 0 none)) 2 [x349, x946] rfl
                refine DR.a rfl rfl hii1302 hHG1301 (a_buildT1 (X := [((some (Addr.mk i1298 0 none)), 2, [x349, x946])]) (n := 2) rfl Try.underlying43 Try.sizeOf58 Try.zeroValue58 rfl rfl) ?_
                obtain ⟨k1306, hd1307⟩ := chk_some hd1283
                obtain ⟨p1308, c1309, G1310, haG1310, S1311, Bp1308⟩ := S1305.app (k := 2) rfl B1287 (tcells ([((some (Addr.mk i1298 0 none)), 2, [x349, x946])])) 1 (tc_len1 rfl rfl)
                have S1312 := S1311.cellsEq (k := 2) (us' := tcells (T1289 ++ [((some (Addr.mk i1298 0 none)), 2, [x349, x946])])) (tcells_app _ _).symm rfl
                have BS1312 : Sb p1308 ((rs1281 ++ [[x349, x946]]).length) c1309 1 := (show rs1281.length + 1 = (rs1281 ++ [[x349, x946]]).length from len_app (a := rs1281) (b := [[x349, x946]]) rfl rfl) ▸ Bp1308
                have S1313 := S1312.front 3 rfl
                have S1314 := S1313.front 1 rfl
                have S1315 : St M0 H G1310 [tseg ([((some (Addr.mk i1298 0 none)), 2, [x349, x946])]), F1284, [(i1302, AObj.row false (tcells ([((some (Addr.mk i1298 0 none)), 2, [x349, x946])])))], oseg p1308 (tcells (T1289 ++ [((some (Addr.mk i1298 0 none)), 2, [x349, x946])])), [(i_n0, AObj.row false ([.int .i64 n0_0]))], [(i_n1, AObj.row false ([.slice p_n2 k_n2 c_n2]))], oseg p_n2 (bls ((bs928.set x349.toNat true).set x946.toNat true)), [(i_n3, AObj.row false ([.func (.func 80) #[] #[.pointer (some ⟨i_n4, 0, none⟩), .pointer (some ⟨i_n5, 0, none⟩)]]))], [(i_n4, AObj.row false ([.int .i64 n4_0]))], [(i_n5, AObj.row false ([.slice p933 rs932.length c934]))], [(i_n6, AObj.row false ([.slice p_n7 k_n7 c_n7]))], oseg p_n7 (bls (bs941.set ((if n0_0 - x946 + x349 < x946 - x349 then n0_0 - x946 + x349 else x946 - x349).toNat) true)), [(i_n8, AObj.row false ([.func (.func 115) #[] #[.pointer (some ⟨i_n0, 0, none⟩), .pointer (some ⟨i_n1, 0, none⟩), .pointer (some ⟨i_n3, 0, none⟩), .pointer (some ⟨i_n6, 0, none⟩), .pointer (some ⟨i_n8, 0, none⟩)]]))]] := S1314
                obtain ⟨F1316, hF1317, hp1318, S1319⟩ := S1315.poolRows (T := T1289) hp1291 (TSb.one (sb_len rfl (Sb.lit (n := 2) (by decide))))
                have S1320 := S1319.drop 1 rfl
                refine DR.w rfl rfl (s_app (by_ := 24) (us := tcells T1289) (vs := tcells ([((some (Addr.mk i1298 0 none)), 2, [x349, x946])])) Try.underlying43 Try.underlying43 Try.typeInfo58 Try.sizeOf58 Try.zeroValue58 rfl rfl rfl rfl rfl rfl rfl (S1305.buf (k := 2) rfl B1287 (tc_len1 t1290 rfl)) (S1305.oview (k := 1) rfl (Sb.lit (n := 1) (by decide)) (tc_len1 rfl rfl)) (tc_len1 rfl rfl) tcells_one k1306 haG1310 (show rs1281.length + 1 = (rs1281 ++ [[x349, x946]]).length from len_app (a := rs1281) (b := [[x349, x946]]) rfl rfl)) (appR_len haG1310) ?_
                have S1321 := S1320.front 0 rfl
                have S1322 := S1321.front 1 rfl
                have S1323 : St M0 H G1310 [oseg p1308 (tcells (T1289 ++ [((some (Addr.mk i1298 0 none)), 2, [x349, x946])])), F1316, [(i_n0, AObj.row false ([.int .i64 n0_0]))], [(i_n1, AObj.row false ([.slice p_n2 k_n2 c_n2]))], oseg p_n2 (bls ((bs928.set x349.toNat true).set x946.toNat true)), [(i_n3, AObj.row false ([.func (.func 80) #[] #[.pointer (some ⟨i_n4, 0, none⟩), .pointer (some ⟨i_n5, 0, none⟩)]]))], [(i_n4, AObj.row false ([.int .i64 n4_0]))], [(i_n5, AObj.row false ([.slice p933 rs932.length c934]))], [(i_n6, AObj.row false ([.slice p_n7 k_n7 c_n7]))], oseg p_n7 (bls (bs941.set ((if n0_0 - x946 + x349 < x946 - x349 then n0_0 - x946 + x349 else x946 - x349).toNat) true)), [(i_n8, AObj.row false ([.func (.func 115) #[] #[.pointer (some ⟨i_n0, 0, none⟩), .pointer (some ⟨i_n1, 0, none⟩), .pointer (some ⟨i_n3, 0, none⟩), .pointer (some ⟨i_n6, 0, none⟩), .pointer (some ⟨i_n8, 0, none⟩)]]))]] := S1322
                obtain ⟨F1324, hF1325, hp1326, S1327⟩ := S1323.poolHdr hp1318 BS1312 (tlen (trows_apps t1290 rfl))
                obtain ⟨k1329, hd1330⟩ := chk_some hd1307
                have S1331 := S1327.front 0 rfl
                have S1332 := S1331.front 9 rfl
                have S1333 := S1332.front 9 rfl
                have S1334 := S1333.front 9 rfl
                have S1335 := S1334.front 9 rfl
                have S1336 := S1335.front 9 rfl
                have S1337 := S1336.front 9 rfl
                have S1338 := S1337.front 9 rfl
                have S1339 := S1338.front 9 rfl
                have S1340 := S1339.front 9 rfl
                have S1341 : St M0 H G1310 [[(i_n0, AObj.row false ([.int .i64 n0_0]))], [(i_n1, AObj.row false ([.slice p_n2 k_n2 c_n2]))], oseg p_n2 (bls ((bs928.set x349.toNat true).set x946.toNat true)), [(i_n3, AObj.row false ([.func (.func 80) #[] #[.pointer (some ⟨i_n4, 0, none⟩), .pointer (some ⟨i_n5, 0, none⟩)]]))], [(i_n4, AObj.row false ([.int .i64 n4_0]))], [(i_n5, AObj.row false ([.slice p933 rs932.length c934]))], [(i_n6, AObj.row false ([.slice p_n7 k_n7 c_n7]))], oseg p_n7 (bls (bs941.set ((if n0_0 - x946 + x349 < x946 - x349 then n0_0 - x946 + x349 else x946 - x349).toNat) true)), [(i_n8, AObj.row false ([.func (.func 115) #[] #[.pointer (some ⟨i_n0, 0, none⟩), .pointer (some ⟨i_n1, 0, none⟩), .pointer (some ⟨i_n3, 0, none⟩), .pointer (some ⟨i_n6, 0, none⟩), .pointer (some ⟨i_n8, 0, none⟩)]]))], F1324] := S1340
                obtain ⟨⟨b1342, bs1343, rs1344, bs1345⟩, h1346, hd1347⟩ := bnd_some hd1330
                obtain ⟨_, G1359, hc1361, p1351, c1352, T1353, F1348, rfl, S1360, l1349, l1350, t1354, hv1355, nl1357, hF1358⟩ := ih G1310 F1324 p1308 c1309 (T1289 ++ [((some (Addr.mk i1298 0 none)), 2, [x349, x946])]) (rs1281 ++ [[x349, x946]]) (trows_apps t1290 rfl) hp1326 (nil_pos2 k1329) i_n0 n0_0 i_n1 p_n2 k_n2 c_n2 ((bs928.set x349.toNat true).set x946.toNat true) (len_set (len_set lbs928)) s_n2 i_n3 i_n4 n4_0 i_n5 p933 c934 T935 rs932 tT935 (((hv1206.mono hF1292).mono hF1317).mono hF1325) nl1207 i_n6 p_n7 k_n7 c_n7 (bs941.set ((if n0_0 - x946 + x349 < x946 - x349 then n0_0 - x946 + x349 else x946 - x349).toNat) true) (len_set lbs941) s_n7 i_n8 (St.fnodup (A := [[(i_n0, AObj.row false ([.int .i64 n0_0]))], [(i_n1, AObj.row false ([.slice p_n2 k_n2 c_n2]))], oseg p_n2 (bls ((bs928.set x349.toNat true).set x946.toNat true)), [(i_n3, AObj.row false ([.func (.func 80) #[] #[.pointer (some ⟨i_n4, 0, none⟩), .pointer (some ⟨i_n5, 0, none⟩)]]))], [(i_n4, AObj.row false ([.int .i64 n4_0]))], [(i_n5, AObj.row false ([.slice p933 rs932.length c934]))], [(i_n6, AObj.row false ([.slice p_n7 k_n7 c_n7]))], oseg p_n7 (bls (bs941.set ((if n0_0 - x946 + x349 < x946 - x349 then n0_0 - x946 + x349 else x946 - x349).toNat) true)), [(i_n8, AObj.row false ([.func (.func 115) #[] #[.pointer (some ⟨i_n0, 0, none⟩), .pointer (some ⟨i_n1, 0, none⟩), .pointer (some ⟨i_n3, 0, none⟩), .pointer (some ⟨i_n6, 0, none⟩), .pointer (some ⟨i_n8, 0, none⟩)]]))], F1324]) S1341) (St.fmem (A := [[(i_n0, AObj.row false ([.int .i64 n0_0]))], [(i_n1, AObj.row false ([.slice p_n2 k_n2 c_n2]))], oseg p_n2 (bls ((bs928.set x349.toNat true).set x946.toNat true)), [(i_n3, AObj.row false ([.func (.func 80) #[] #[.pointer (some ⟨i_n4, 0, none⟩), .pointer (some ⟨i_n5, 0, none⟩)]]))], [(i_n4, AObj.row false ([.int .i64 n4_0]))], [(i_n5, AObj.row false ([.slice p933 rs932.length c934]))], [(i_n6, AObj.row false ([.slice p_n7 k_n7 c_n7]))], oseg p_n7 (bls (bs941.set ((if n0_0 - x946 + x349 < x946 - x349 then n0_0 - x946 + x349 else x946 - x349).toNat) true)), [(i_n8, AObj.row false ([.func (.func 115) #[] #[.pointer (some ⟨i_n0, 0, none⟩), .pointer (some ⟨i_n1, 0, none⟩), .pointer (some ⟨i_n3, 0, none⟩), .pointer (some ⟨i_n6, 0, none⟩), .pointer (some ⟨i_n8, 0, none⟩)]]))], F1324]) S1341) b1342 bs1343 rs1344 bs1345 h1346
                have S1362 := St.callM (A := [[(i_n0, AObj.row false ([.int .i64 n0_0]))], [(i_n1, AObj.row false ([.slice p_n2 k_n2 c_n2]))], oseg p_n2 (bls ((bs928.set x349.toNat true).set x946.toNat true)), [(i_n3, AObj.row false ([.func (.func 80) #[] #[.pointer (some ⟨i_n4, 0, none⟩), .pointer (some ⟨i_n5, 0, none⟩)]]))], [(i_n4, AObj.row false ([.int .i64 n4_0]))], [(i_n5, AObj.row false ([.slice p933 rs932.length c934]))], [(i_n6, AObj.row false ([.slice p_n7 k_n7 c_n7]))], oseg p_n7 (bls (bs941.set ((if n0_0 - x946 + x349 < x946 - x349 then n0_0 - x946 + x349 else x946 - x349).toNat) true)), [(i_n8, AObj.row false ([.func (.func 115) #[] #[.pointer (some ⟨i_n0, 0, none⟩), .pointer (some ⟨i_n1, 0, none⟩), .pointer (some ⟨i_n3, 0, none⟩), .pointer (some ⟨i_n6, 0, none⟩), .pointer (some ⟨i_n8, 0, none⟩)]]))], F1324]) S1341 S1360 (fun j h => h)
                refine DR.w rfl rfl (o_callV (vs := [.slice p1308 ((rs1281 ++ [[x349, x946]]).length) c1309]) rfl rfl Try.call115 hc1361) (S1360.len) ?_
                refine DR.p rfl rfl (p_assign rfl) ?_
                refine DR.nil 10 [(0, 2), (0, 7), (5, 2), (6, 2)] hst (by kernel_rfl) ⟨(rd1 (fun _ => (S1296.get (k := 10) rfl).trans (S1278.get (k := 9) rfl).symm)), (rd1 (fun _ => (S1320.get (k := 10) rfl).trans (S1305.get (k := 12) rfl).symm)), (fun h => absurd h (by decide)), (fun h => absurd h (by decide)), trivial⟩ ?_
                refine AX.seq ?_
                refine DR.startS [false, false, false, false, false, false, false, true, false, true, false, true] mix (by kernel_rfl) (fun hst => ?_)
                refine DR.r rfl rfl (r_load rfl Try.isAgg111) (one_read (row_cell (S1362.get (k := 1) rfl) rfl) (S1362.oin (k := 2) rfl s_n2).bel) ?_
                refine DR.p rfl rfl (p_move rfl) ?_
                refine DR.r rfl rfl (r_load rfl Try.isAgg111) (one_read (row_cell (S1362.get (k := 1) rfl) rfl) (S1362.oin (k := 2) rfl s_n2).bel) ?_
                refine DR.p rfl rfl (p_move rfl) ?_
                refine DR.r rfl rfl (r_load rfl Try.isAgg111) (one_read (row_cell (S1362.get (k := 6) rfl) rfl) (S1362.oin (k := 7) rfl s_n7).bel) ?_
                refine DR.p rfl rfl (p_move rfl) ?_
                obtain ⟨k1363, hd1364⟩ := chk_some hd1347
                refine DR.p rfl rfl (s_indexV (q := x349.toNat) Try.underlying111 Try.sizeOf4 rfl (s_n2.at (inR_pos k1363)) rfl k1363 (z1 _)) ?_
                obtain ⟨G1365, hHG1365, S1366⟩ := S1362.oset (k := 2) (p := p_n2) rfl (s_n2.at (inR_pos k1363)) (bls (bs1343.set x349.toNat false))
                have S1367 : St M0 H G1365 [[(i_n0, AObj.row false ([.int .i64 n0_0]))], [(i_n1, AObj.row false ([.slice p_n2 k_n2 c_n2]))], oseg p_n2 (bls (bs1343.set x349.toNat false)), [(i_n3, AObj.row false ([.func (.func 80) #[] #[.pointer (some ⟨i_n4, 0, none⟩), .pointer (some ⟨i_n5, 0, none⟩)]]))], [(i_n4, AObj.row false ([.int .i64 n4_0]))], [(i_n5, AObj.row false ([.slice p1351 rs1344.length c1352]))], [(i_n6, AObj.row false ([.slice p_n7 k_n7 c_n7]))], oseg p_n7 (bls bs1345), [(i_n8, AObj.row false ([.func (.func 115) #[] #[.pointer (some ⟨i_n0, 0, none⟩), .pointer (some ⟨i_n1, 0, none⟩), .pointer (some ⟨i_n3, 0, none⟩), .pointer (some ⟨i_n6, 0, none⟩), .pointer (some ⟨i_n8, 0, none⟩)]]))], F1348] := S1366
                refine DR.s rfl (s_store Try.sizeOf4 rfl rfl rfl (S1362.oat (k := 2) rfl (s_n2.at (inR_pos k1363))) (lt_len ((bls_length _).trans l1349) (inR_lt k1363)) ((congrArg (fun l => List.set _ _ (AObj.row false l)) (bls_set _ _ _)).trans hHG1365)) (set_le hHG1365) ?_
                obtain ⟨k1368, hd1369⟩ := chk_some hd1364
                refine DR.p rfl rfl (s_indexV (q := x946.toNat) Try.underlying111 Try.sizeOf4 rfl (s_n2.at (inR_pos k1368)) rfl k1368 (z1 _)) ?_
                obtain ⟨G1370, hHG1370, S1371⟩ := S1367.oset (k := 2) (p := p_n2) rfl (s_n2.at (inR_pos k1368)) (bls ((bs1343.set x349.toNat false).set x946.toNat false))
                have S1372 : St M0 H G1370 [[(i_n0, AObj.row false ([.int .i64 n0_0]))], [(i_n1, AObj.row false ([.slice p_n2 k_n2 c_n2]))], oseg p_n2 (bls ((bs1343.set x349.toNat false).set x946.toNat false)), [(i_n3, AObj.row false ([.func (.func 80) #[] #[.pointer (some ⟨i_n4, 0, none⟩), .pointer (some ⟨i_n5, 0, none⟩)]]))], [(i_n4, AObj.row false ([.int .i64 n4_0]))], [(i_n5, AObj.row false ([.slice p1351 rs1344.length c1352]))], [(i_n6, AObj.row false ([.slice p_n7 k_n7 c_n7]))], oseg p_n7 (bls bs1345), [(i_n8, AObj.row false ([.func (.func 115) #[] #[.pointer (some ⟨i_n0, 0, none⟩), .pointer (some ⟨i_n1, 0, none⟩), .pointer (some ⟨i_n3, 0, none⟩), .pointer (some ⟨i_n6, 0, none⟩), .pointer (some ⟨i_n8, 0, none⟩)]]))], F1348] := S1371
                refine DR.s rfl (s_store Try.sizeOf4 rfl rfl rfl (S1367.oat (k := 2) rfl (s_n2.at (inR_pos k1368))) (lt_len ((bls_length _).trans (len_set l1349)) (inR_lt k1368)) ((congrArg (fun l => List.set _ _ (AObj.row false l)) (bls_set _ _ _)).trans hHG1370)) (set_le hHG1370) ?_
                obtain ⟨k1373, hd1374⟩ := chk_some hd1369
                refine DR.p rfl rfl (s_indexV (q := (if n0_0 - x946 + x349 < x946 - x349 then n0_0 - x946 + x349 else x946 - x349).toNat) Try.underlying111 Try.sizeOf4 rfl (s_n7.at (inR_pos k1373)) rfl k1373 (z1 _)) ?_
                obtain ⟨G1375, hHG1375, S1376⟩ := S1372.oset (k := 7) (p := p_n7) rfl (s_n7.at (inR_pos k1373)) (bls (bs1345.set ((if n0_0 - x946 + x349 < x946 - x349 then n0_0 - x946 + x349 else x946 - x349).toNat) false))
                have S1377 : St M0 H G1375 [[(i_n0, AObj.row false ([.int .i64 n0_0]))], [(i_n1, AObj.row false ([.slice p_n2 k_n2 c_n2]))], oseg p_n2 (bls ((bs1343.set x349.toNat false).set x946.toNat false)), [(i_n3, AObj.row false ([.func (.func 80) #[] #[.pointer (some ⟨i_n4, 0, none⟩), .pointer (some ⟨i_n5, 0, none⟩)]]))], [(i_n4, AObj.row false ([.int .i64 n4_0]))], [(i_n5, AObj.row false ([.slice p1351 rs1344.length c1352]))], [(i_n6, AObj.row false ([.slice p_n7 k_n7 c_n7]))], oseg p_n7 (bls (bs1345.set ((if n0_0 - x946 + x349 < x946 - x349 then n0_0 - x946 + x349 else x946 - x349).toNat) false)), [(i_n8, AObj.row false ([.func (.func 115) #[] #[.pointer (some ⟨i_n0, 0, none⟩), .pointer (some ⟨i_n1, 0, none⟩), .pointer (some ⟨i_n3, 0, none⟩), .pointer (some ⟨i_n6, 0, none⟩), .pointer (some ⟨i_n8, 0, none⟩)]]))], F1348] := S1376
                refine DR.s rfl (s_store Try.sizeOf4 rfl rfl rfl (S1372.oat (k := 7) rfl (s_n7.at (inR_pos k1373))) (lt_len ((bls_length _).trans l1350) (inR_lt k1373)) ((congrArg (fun l => List.set _ _ (AObj.row false l)) (bls_set _ _ _)).trans hHG1375)) (set_le hHG1375) ?_
                refine DR.nil 12 [(2, 7), (4, 7), (4, 9)] hst (by kernel_rfl) ⟨(rd1 (fun _ => (S1367.get (k := 1) rfl).trans (S1362.get (k := 1) rfl).symm)), (rd1 (fun _ => (S1367.get (k := 6) rfl).trans (S1362.get (k := 6) rfl).symm)), (rd1 (fun _ => (S1372.get (k := 6) rfl).trans (S1367.get (k := 6) rfl).symm)), trivial⟩ ?_
                refine AX.seq ?_
                refine AX.region ?_
                refine AO.p rfl (p_move rfl) ?_
                refine AO.p rfl (p_not rfl) ?_
                refine AO.nil ?_
                refine AX.cond rfl (fun c1378 => ?_) (fun c1378 => ?_)
                · have hd1379 := bif_t c1378 hd1374
                  refine AX.seq ?_
                  refine AX.region ?_
                  refine AO.p rfl (p_assign rfl) ?_
                  refine AO.nil ?_
                  refine AX.ret ?_
                  obtain rfl := some_inj hd1379
                  have z1380 : _ = r1163 := hk1178
                  subst z1380
                  obtain ⟨rfl, z1381⟩ := Prod.mk.inj (some_inj hd1165)
                  obtain ⟨rfl, z1382⟩ := Prod.mk.inj z1381
                  obtain ⟨rfl, rfl⟩ := Prod.mk.inj z1382
                  have S1384 := S1377.front 9 rfl
                  have S1385 := S1384.front 9 rfl
                  have S1386 := S1385.front 9 rfl
                  have S1387 := S1386.front 9 rfl
                  have S1388 := S1387.front 9 rfl
                  have S1389 := S1388.front 9 rfl
                  have S1390 := S1389.front 9 rfl
                  have S1391 := S1390.front 9 rfl
                  have S1392 := S1391.front 9 rfl
                  have S1393 := S1392.front 9 rfl
                  exact ⟨.inr rfl, _, res1 rfl (rv_tmp rfl), p1351, c1352, T1353, F1348, rfl, S1393, (len_set (len_set l1349)), (len_set l1350), t1354, hv1355, nl1357, ((((hF1198.mono hF1292).mono hF1317).mono hF1325).mono hF1358)⟩
                · have hd1394 := bif_f c1378 hd1374
                  refine AX.skip ?_
                  refine AX.region ?_
                  refine AO.p rfl (p_move rfl) ?_
                  obtain ⟨k1395, hd1396⟩ := chk_some hd1394
                  refine AO.p rfl (p_addE rfl rfl k1395) ?_
                  refine AO.p rfl (p_assign rfl) ?_
                  refine AO.nil ?_
                  obtain rfl := some_inj hd1396
                  have S1398 := S1377.front 8 rfl
                  have S1399 := S1398.front 8 rfl
                  have S1400 := S1399.front 8 rfl
                  have S1401 := S1400.front 8 rfl
                  have S1402 := S1401.front 8 rfl
                  have S1403 := S1402.front 8 rfl
                  have S1404 := S1403.front 8 rfl
                  have S1405 := S1404.front 8 rfl
                  have S1406 := S1405.front 8 rfl
                  have S1407 := S1406.front 9 rfl
                  exact ⟨(((bs1343.set x349.toNat false).set x946.toNat false), rs1344, (bs1345.set ((if n0_0 - x946 + x349 < x946 - x349 then n0_0 - x946 + x349 else x946 - x349).toNat) false), x946 + 1), hk1178, ((bs1343.set x349.toNat false).set x946.toNat false), rs1344, (bs1345.set ((if n0_0 - x946 + x349 < x946 - x349 then n0_0 - x946 + x349 else x946 - x349).toNat) false), (x946 + 1), F1348, p1351, c1352, T1353, rfl, S1407, ((((hF1198.mono hF1292).mono hF1317).mono hF1325).mono hF1358), (len_set (len_set l1349)), t1354, hv1355, nl1357, (len_set l1350), ((((hv1212.mono hF1292).mono hF1317).mono hF1325).mono hF1358), nl1213, Sub.cons' rfl rfl (Sub.cons' rfl rfl (Sub.cons' rfl rfl (Sub.cons' rfl rfl (Sub.cons' rfl rfl (Sub.cons' rfl rfl (Sub.cons' rfl rfl (Sub.nil _)))))))⟩
          · have hd1408 := bif_f c1183 ho1177
            refine AX.exit ?_
            obtain rfl := some_inj hd1408
            have S1409 := S1179.front 9 rfl
            have S1410 := S1409.front 9 rfl
            have S1411 := S1410.front 9 rfl
            have S1412 := S1411.front 9 rfl
            have S1413 := S1412.front 9 rfl
            have S1414 := S1413.front 9 rfl
            have S1415 := S1414.front 9 rfl
            have S1416 := S1415.front 9 rfl
            have S1417 := S1416.front 9 rfl
            have S1418 := S1417.front 9 rfl
            exact ⟨bs928, rs932, bs941, F923, p933, c934, T935, hk1178, S1418, hF924, lbs928, tT935, hv937, nl938, lbs941, Sub.nil _⟩
      · rintro t' G1420 ⟨bs1148, rs1152, bs1161, F1143, p1153, c1154, T1155, rfl, S1419, hF1144, lbs1148, tT1155, hv1157, nl1158, lbs1161, hsub1421⟩
        refine ⟨_, hsub1421, ?_⟩
        refine AX.seq ?_
        refine AX.region ?_
        refine AO.p rfl (p_assign rfl) ?_
        refine AO.nil ?_
        refine AX.ret ?_
        obtain ⟨rfl, z1422⟩ := Prod.mk.inj (some_inj hd1165)
        obtain ⟨rfl, z1423⟩ := Prod.mk.inj z1422
        obtain ⟨rfl, rfl⟩ := Prod.mk.inj z1423
        have S1425 := S1419.front 0 rfl
        have S1426 := S1425.front 9 rfl
        have S1427 := S1426.front 9 rfl
        have S1428 := S1427.front 9 rfl
        have S1429 := S1428.front 9 rfl
        have S1430 := S1429.front 9 rfl
        have S1431 := S1430.front 9 rfl
        have S1432 := S1431.front 9 rfl
        have S1433 := S1432.front 9 rfl
        have S1434 := S1433.front 9 rfl
        exact ⟨.inr rfl, _, res1 rfl (rv_tmp rfl), p1153, c1154, T1155, F1143, rfl, S1434, lbs1148, lbs1161, tT1155, hv1157, nl1158, hF1144⟩

set_option maxHeartbeats 4000000 in
theorem W_impl_starters__impl_FirstStrong_1 (fu : Nat) (H : AHeap) (F : Sg) (a0 : Int) (i_n0 : Nat) (n0_0 : Int) (i_n1 : Nat) (p_n1_0 : Option Addr) (c_n1_0 : Nat) (T_n1_0 : Tb) (n1_0 : List (List Int)) (t_n1_0 : trows T_n1_0 = n1_0) (q_n1_0 : PT F p_n1_0 c_n1_0 T_n1_0) (y_n1_0 : n1_0 = [] → p_n1_0 = none) (hn : (([[(i_n0, AObj.row false ([.int .i64 n0_0]))], [(i_n1, AObj.row false ([.slice p_n1_0 n1_0.length c_n1_0]))], F] : List Sg).flatten.map (·.1)).Nodup) (ho : ∀ x ∈ ([[(i_n0, AObj.row false ([.int .i64 n0_0]))], [(i_n1, AObj.row false ([.slice p_n1_0 n1_0.length c_n1_0]))], F] : List Sg).flatten, x.1 < H.length ∧ hget H x.1 = x.2) (m_n1_0 : List (List Int)) (hd : D_impl_starters__impl_FirstStrong_1 fu a0 n0_0 n1_0 = some m_n1_0) : ∃ v G', ACall Try.prog 59 [.int .i64 a0, .func (.func 80) #[] #[.pointer (some ⟨i_n0, 0, none⟩), .pointer (some ⟨i_n1, 0, none⟩)]] H v G' ∧ ∃ (p_m_n1_0 : Option Addr) (c_m_n1_0 : Nat) (T_m_n1_0 : Tb) (F' : Sg), (v = .tuple #[]) ∧ St (([[(i_n0, AObj.row false ([.int .i64 n0_0]))], [(i_n1, AObj.row false ([.slice p_n1_0 n1_0.length c_n1_0]))], F] : List Sg).flatten.map (·.1)) H G' [[(i_n0, AObj.row false ([.int .i64 n0_0]))], [(i_n1, AObj.row false ([.slice p_m_n1_0 m_n1_0.length c_m_n1_0]))], F'] ∧ trows T_m_n1_0 = m_n1_0 ∧ PT F' p_m_n1_0 c_m_n1_0 T_m_n1_0 ∧ (m_n1_0 = [] → p_m_n1_0 = none) ∧ Pin F' F := by
  refine ACall.bodyX (args := [.int .i64 a0, .func (.func 80) #[] #[.pointer (some ⟨i_n0, 0, none⟩), .pointer (some ⟨i_n1, 0, none⟩)]]) (N := 14) [(0, .int .i64 a0), (1, .func (.func 80) #[] #[.pointer (some ⟨i_n0, 0, none⟩), .pointer (some ⟨i_n1, 0, none⟩)])] (fun v G' => ∃ (p_m_n1_0 : Option Addr) (c_m_n1_0 : Nat) (T_m_n1_0 : Tb) (F' : Sg), (v = .tuple #[]) ∧ St (([[(i_n0, AObj.row false ([.int .i64 n0_0]))], [(i_n1, AObj.row false ([.slice p_n1_0 n1_0.length c_n1_0]))], F] : List Sg).flatten.map (·.1)) H G' [[(i_n0, AObj.row false ([.int .i64 n0_0]))], [(i_n1, AObj.row false ([.slice p_m_n1_0 m_n1_0.length c_m_n1_0]))], F'] ∧ trows T_m_n1_0 = m_n1_0 ∧ PT F' p_m_n1_0 c_m_n1_0 T_m_n1_0 ∧ (m_n1_0 = [] → p_m_n1_0 = none) ∧ Pin F' F) Try.func59 rfl rfl rfl rfl ?_
  unfold D_impl_starters__impl_FirstStrong_1 at hd
  have S0 := St.initF hn ho
  generalize hM0 : (([[(i_n0, AObj.row false ([.int .i64 n0_0]))], [(i_n1, AObj.row false ([.slice p_n1_0 n1_0.length c_n1_0]))], F] : List Sg).flatten.map (·.1)) = M0 at S0 ⊢
  refine AX.seq ?_
  refine AX.region ?_
  obtain ⟨G100, i101, hii101, hHG100, S102⟩ := S0.new (AObj.row false ([.int .i64 a0]))
  refine AO.c rfl (s_box (i := i101) (cs := [.int .i64 a0]) rfl hii101 rfl hHG100) ?_
  obtain ⟨G104, i105, hii105, hHG104, S106⟩ := S102.new (AObj.row false ([.func (.func 80) #[] #[.pointer (some ⟨i_n0, 0, none⟩), .pointer (some ⟨i_n1, 0, none⟩)]]))
  refine AO.c rfl (s_box (i := i105) (cs := [.func (.func 80) #[] #[.pointer (some ⟨i_n0, 0, none⟩), .pointer (some ⟨i_n1, 0, none⟩)]]) rfl hii105 rfl hHG104) ?_
  refine AO.nil ?_
  refine AX.seq ?_
  refine DR.startS [false, false, false, false, false, false, true, true] mix (by kernel_rfl) (fun hst => ?_)
  refine DR.r rfl rfl (r_load rfl Try.isAgg2) (one_read (row_cell (S106.get (k := 1) rfl) rfl) (.of_flat0 rfl)) ?_
  obtain ⟨k108, hd109⟩ := chk_some hd
  obtain ⟨G110, i111, hii111, hHG110, S112⟩ := S106.new (AObj.row false (bls (List.replicate a0.toNat false)))
  refine DR.a rfl rfl hii111 hHG110 (a_make1 (v := .bool false) (by_ := 1) Try.underlying111 Try.typeInfo4 Try.sizeOf4 Try.zeroValue4 rfl rfl rfl rfl rfl rfl k108 bls_rep) ?_
  refine DR.r rfl rfl (r_load rfl Try.isAgg2) (one_read (row_cell (S112.get (k := 2) rfl) rfl) (.of_flat0 rfl)) ?_
  obtain ⟨k114, hd115⟩ := chk_some hd109
  obtain ⟨G116, i117, hii117, hHG116, S118⟩ := S112.new (AObj.row false (bls (List.replicate a0.toNat false)))
  refine DR.a rfl rfl hii117 hHG116 (a_make1 (v := .bool false) (by_ := 1) Try.underlying111 Try.typeInfo4 Try.sizeOf4 Try.zeroValue4 rfl rfl rfl rfl rfl rfl k114 bls_rep) ?_
  obtain ⟨G120, i121, hii121, hHG120, S122⟩ := S118.new (AObj.row false ([.slice none 0 0]))
  refine DR.a rfl rfl hii121 hHG120 (a_alloc Try.zeroValue111 (flat_list rfl)) ?_
  obtain ⟨G124, i125, hii125, hHG124, S126⟩ := S122.new (AObj.row false ([.slice none 0 0]))
  refine DR.a rfl rfl hii125 hHG124 (a_alloc Try.zeroValue111 (flat_list rfl)) ?_
  obtain ⟨G128, hHG128, S129⟩ := S126.set (k := 1) (i := i121) rfl (AObj.row false ([.slice (some (Addr.mk i111 0 none)) a0.toNat a0.toNat]))
  have S130 : St M0 H G128 [[(i125, AObj.row false ([.slice none 0 0]))], [(i121, AObj.row false ([.slice (some (Addr.mk i111 0 none)) a0.toNat a0.toNat]))], [(i117, AObj.row false (bls (List.replicate a0.toNat false)))], [(i111, AObj.row false (bls (List.replicate a0.toNat false)))], [(i105, AObj.row false ([.func (.func 80) #[] #[.pointer (some ⟨i_n0, 0, none⟩), .pointer (some ⟨i_n1, 0, none⟩)]]))], [(i101, AObj.row false ([.int .i64 a0]))], [(i_n0, AObj.row false ([.int .i64 n0_0]))], [(i_n1, AObj.row false ([.slice p_n1_0 n1_0.length c_n1_0]))], F] := S129
  refine DR.s rfl (s_store Try.sizeOf111 rfl rfl rfl (S126.get (k := 1) rfl) (Nat.le_of_ble_eq_true rfl) hHG128) (set_le hHG128) ?_
  obtain ⟨G131, hHG131, S132⟩ := S130.set (k := 0) (i := i125) rfl (AObj.row false ([.slice (some (Addr.mk i117 0 none)) a0.toNat a0.toNat]))
  have S133 : St M0 H G131 [[(i125, AObj.row false ([.slice (some (Addr.mk i117 0 none)) a0.toNat a0.toNat]))], [(i121, AObj.row false ([.slice (some (Addr.mk i111 0 none)) a0.toNat a0.toNat]))], [(i117, AObj.row false (bls (List.replicate a0.toNat false)))], [(i111, AObj.row false (bls (List.replicate a0.toNat false)))], [(i105, AObj.row false ([.func (.func 80) #[] #[.pointer (some ⟨i_n0, 0, none⟩), .pointer (some ⟨i_n1, 0, none⟩)]]))], [(i101, AObj.row false ([.int .i64 a0]))], [(i_n0, AObj.row false ([.int .i64 n0_0]))], [(i_n1, AObj.row false ([.slice p_n1_0 n1_0.length c_n1_0]))], F] := S132
  refine DR.s rfl (s_store Try.sizeOf111 rfl rfl rfl (S130.get (k := 0) rfl) (Nat.le_of_ble_eq_true rfl) hHG131) (set_le hHG131) ?_
  refine DR.nil 8 [(2, 6), (3, 6)] hst (by kernel_rfl) ⟨(rd1 (fun _ => (S130.get (k := 5) rfl).trans (S126.get (k := 5) rfl).symm)), (fun _ => by rw [hii117]; exact (S130.get (k := 2) rfl).trans (S126.get (k := 2) rfl).symm), trivial⟩ ?_
  refine AX.seq ?_
  refine AX.region ?_
  obtain ⟨G134, i135, hii135, hHG134, S136⟩ := S133.new (AObj.row false ([.nilFunc]))
  refine AO.c rfl (s_alloc (i := i135) (cs := [.nilFunc]) Try.zeroValue76 rfl rfl hii135 hHG134) ?_
  refine AO.nil ?_
  refine AX.seq ?_
  refine AX.region ?_
  refine AO.p rfl (p_makeFunc (fs := []) (cs := [.pointer (some ⟨i101, 0, none⟩), .pointer (some ⟨i121, 0, none⟩), .pointer (some ⟨i105, 0, none⟩), .pointer (some ⟨i125, 0, none⟩), .pointer (some ⟨i135, 0, none⟩)]) rfl rfl) ?_
  obtain ⟨G138, hHG138, S139⟩ := S136.set (k := 0) (i := i135) rfl (AObj.row false ([.func (.func 115) #[] #[.pointer (some ⟨i101, 0, none⟩), .pointer (some ⟨i121, 0, none⟩), .pointer (some ⟨i105, 0, none⟩), .pointer (some ⟨i125, 0, none⟩), .pointer (some ⟨i135, 0, none⟩)]]))
  have S140 : St M0 H G138 [[(i135, AObj.row false ([.func (.func 115) #[] #[.pointer (some ⟨i101, 0, none⟩), .pointer (some ⟨i121, 0, none⟩), .pointer (some ⟨i105, 0, none⟩), .pointer (some ⟨i125, 0, none⟩), .pointer (some ⟨i135, 0, none⟩)]]))], [(i125, AObj.row false ([.slice (some (Addr.mk i117 0 none)) a0.toNat a0.toNat]))], [(i121, AObj.row false ([.slice (some (Addr.mk i111 0 none)) a0.toNat a0.toNat]))], [(i117, AObj.row false (bls (List.replicate a0.toNat false)))], [(i111, AObj.row false (bls (List.replicate a0.toNat false)))], [(i105, AObj.row false ([.func (.func 80) #[] #[.pointer (some ⟨i_n0, 0, none⟩), .pointer (some ⟨i_n1, 0, none⟩)]]))], [(i101, AObj.row false ([.int .i64 a0]))], [(i_n0, AObj.row false ([.int .i64 n0_0]))], [(i_n1, AObj.row false ([.slice p_n1_0 n1_0.length c_n1_0]))], F] := S139
  refine AO.s (s_store Try.sizeOf76 rfl rfl rfl (S136.get (k := 0) rfl) (Nat.le_of_ble_eq_true rfl) hHG138) ?_
  refine AO.nil ?_
  refine AX.region ?_
  refine AO.c rfl (s_load Try.isAgg76 rfl (row_cell (S140.get (k := 0) rfl) rfl)) ?_
  have S142 := S140.front 9 rfl
  have S143 := S142.front 1 rfl
  have S144 := S143.front 4 rfl
  have S145 := S144.front 3 rfl
  have S146 := S145.front 9 rfl
  have S147 := S146.front 9 rfl
  have S148 := S147.front 8 rfl
  have S149 := S148.front 8 rfl
  have S150 := S149.front 8 rfl
  have S151 := S150.front 9 rfl
  have S152 : St M0 H G138 [[(i101, AObj.row false ([.int .i64 a0]))], [(i121, AObj.row false ([.slice (some (Addr.mk i111 0 none)) a0.toNat a0.toNat]))], [(i111, AObj.row false (bls (List.replicate a0.toNat false)))], [(i105, AObj.row false ([.func (.func 80) #[] #[.pointer (some ⟨i_n0, 0, none⟩), .pointer (some ⟨i_n1, 0, none⟩)]]))], [(i_n0, AObj.row false ([.int .i64 n0_0]))], [(i_n1, AObj.row false ([.slice p_n1_0 n1_0.length c_n1_0]))], [(i125, AObj.row false ([.slice (some (Addr.mk i117 0 none)) a0.toNat a0.toNat]))], [(i117, AObj.row false (bls (List.replicate a0.toNat false)))], [(i135, AObj.row false ([.func (.func 115) #[] #[.pointer (some ⟨i101, 0, none⟩), .pointer (some ⟨i121, 0, none⟩), .pointer (some ⟨i105, 0, none⟩), .pointer (some ⟨i125, 0, none⟩), .pointer (some ⟨i135, 0, none⟩)]]))], F] := S151
  obtain ⟨⟨b153, bs154, rs155, bs156⟩, h157, hd158⟩ := bnd_some hd115
  obtain ⟨_, G170, hc172, p162, c163, T164, F159, rfl, S171, l160, l161, t165, hv166, nl168, hF169⟩ := W_impl_starters_1__impl_FirstStrong_1 fu G138 F none 0 [] [] rfl PT.nil (fun _ => rfl) i101 a0 i121 (some (Addr.mk i111 0 none)) a0.toNat a0.toNat (List.replicate a0.toNat false) len_rep (Sb.lit (mkcap k108)) i105 i_n0 n0_0 i_n1 p_n1_0 c_n1_0 T_n1_0 n1_0 t_n1_0 q_n1_0 y_n1_0 i125 (some (Addr.mk i117 0 none)) a0.toNat a0.toNat (List.replicate a0.toNat false) len_rep (Sb.lit (mkcap k114)) i135 (St.fnodup (A := [[(i101, AObj.row false ([.int .i64 a0]))], [(i121, AObj.row false ([.slice (some (Addr.mk i111 0 none)) a0.toNat a0.toNat]))], [(i111, AObj.row false (bls (List.replicate a0.toNat false)))], [(i105, AObj.row false ([.func (.func 80) #[] #[.pointer (some ⟨i_n0, 0, none⟩), .pointer (some ⟨i_n1, 0, none⟩)]]))], [(i_n0, AObj.row false ([.int .i64 n0_0]))], [(i_n1, AObj.row false ([.slice p_n1_0 n1_0.length c_n1_0]))], [(i125, AObj.row false ([.slice (some (Addr.mk i117 0 none)) a0.toNat a0.toNat]))], [(i117, AObj.row false (bls (List.replicate a0.toNat false)))], [(i135, AObj.row false ([.func (.func 115) #[] #[.pointer (some ⟨i101, 0, none⟩), .pointer (some ⟨i121, 0, none⟩), .pointer (some ⟨i105, 0, none⟩), .pointer (some ⟨i125, 0, none⟩), .pointer (some ⟨i135, 0, none⟩)]]))], F]) S152) (St.fmem (A := [[(i101, AObj.row false ([.int .i64 a0]))], [(i121, AObj.row false ([.slice (some (Addr.mk i111 0 none)) a0.toNat a0.toNat]))], [(i111, AObj.row false (bls (List.replicate a0.toNat false)))], [(i105, AObj.row false ([.func (.func 80) #[] #[.pointer (some ⟨i_n0, 0, none⟩), .pointer (some ⟨i_n1, 0, none⟩)]]))], [(i_n0, AObj.row false ([.int .i64 n0_0]))], [(i_n1, AObj.row false ([.slice p_n1_0 n1_0.length c_n1_0]))], [(i125, AObj.row false ([.slice (some (Addr.mk i117 0 none)) a0.toNat a0.toNat]))], [(i117, AObj.row false (bls (List.replicate a0.toNat false)))], [(i135, AObj.row false ([.func (.func 115) #[] #[.pointer (some ⟨i101, 0, none⟩), .pointer (some ⟨i121, 0, none⟩), .pointer (some ⟨i105, 0, none⟩), .pointer (some ⟨i125, 0, none⟩), .pointer (some ⟨i135, 0, none⟩)]]))], F]) S152) b153 bs154 rs155 bs156 h157
  have S173 := St.callM (A := [[(i101, AObj.row false ([.int .i64 a0]))], [(i121, AObj.row false ([.slice (some (Addr.mk i111 0 none)) a0.toNat a0.toNat]))], [(i111, AObj.row false (bls (List.replicate a0.toNat false)))], [(i105, AObj.row false ([.func (.func 80) #[] #[.pointer (some ⟨i_n0, 0, none⟩), .pointer (some ⟨i_n1, 0, none⟩)]]))], [(i_n0, AObj.row false ([.int .i64 n0_0]))], [(i_n1, AObj.row false ([.slice p_n1_0 n1_0.length c_n1_0]))], [(i125, AObj.row false ([.slice (some (Addr.mk i117 0 none)) a0.toNat a0.toNat]))], [(i117, AObj.row false (bls (List.replicate a0.toNat false)))], [(i135, AObj.row false ([.func (.func 115) #[] #[.pointer (some ⟨i101, 0, none⟩), .pointer (some ⟨i121, 0, none⟩), .pointer (some ⟨i105, 0, none⟩), .pointer (some ⟨i125, 0, none⟩), .pointer (some ⟨i135, 0, none⟩)]]))], F]) S152 S171 (fun j h => h)
  refine AO.c rfl (o_callV (vs := [.slice none 0 0]) rfl rfl Try.call115 hc172) ?_
  refine AO.nil ?_
  obtain rfl := some_inj hd158
  have S174 := S173.front 9 rfl
  have S175 := S174.front 6 rfl
  have S176 := S175.front 6 rfl
  have S177 := S176.keep 3
  exact ⟨.inl rfl, _, res_none rfl, p162, c163, T164, F159, rfl, S177, t165, hv166, nl168, ((Pin.refl F).mono hF169)⟩

set_option maxHeartbeats 4000000 in
theorem W_impl_FirstStrong (fu : Nat) (H : AHeap) (a0 : Int) (r0 : List (List Int)) (r1 : Int) (hd : D_impl_FirstStrong fu a0 = some (r0, r1)) : ∃ v G', ACall Try.prog 25 [.int .i64 a0] H v G' ∧ ∃ (p_r0 : Option Addr) (c_r0 : Nat) (T_r0 : Tb), (v = .tuple #[.slice p_r0 r0.length c_r0, .int .i64 r1]) ∧ St [] H G' [oseg p_r0 (tcells T_r0), tseg T_r0] ∧ Sb p_r0 r0.length c_r0 1 ∧ trows T_r0 = r0 ∧ TSb T_r0 := by
  refine ACall.bodyX (args := [.int .i64 a0]) (N := 14) [(0, .int .i64 a0)] (fun v G' => ∃ (p_r0 : Option Addr) (c_r0 : Nat) (T_r0 : Tb), (v = .tuple #[.slice p_r0 r0.length c_r0, .int .i64 r1]) ∧ St [] H G' [oseg p_r0 (tcells T_r0), tseg T_r0] ∧ Sb p_r0 r0.length c_r0 1 ∧ trows T_r0 = r0 ∧ TSb T_r0) Try.func25 rfl rfl rfl rfl ?_
  unfold D_impl_FirstStrong at hd
  have S0 : St [] H H [] := St.nil H
  have S0 := S0.poolNew
  refine AX.seq ?_
  refine AX.region ?_
  obtain ⟨G100, i101, hii101, hHG100, S102⟩ := S0.new (AObj.row false ([.int .i64 a0]))
  refine AO.c rfl (s_box (i := i101) (cs := [.int .i64 a0]) rfl hii101 rfl hHG100) ?_
  refine AO.p rfl (p_assign rfl) ?_
  refine AO.p rfl (p_assign rfl) ?_
  refine AO.nil ?_
  refine AX.seq ?_
  refine AX.seq ?_
  refine AX.region ?_
  refine AO.c rfl (s_load Try.isAgg2 rfl (row_cell (S102.get (k := 0) rfl) rfl)) ?_
  obtain ⟨b104, h105, hd106⟩ := bnd_some hd
  refine AO.c rfl (o_call (vs := [.int .i64 a0]) rfl Try.call58 (W_impl_isModulus fu G100 a0 b104 h105)) ?_
  refine AO.p rfl (p_not rfl) ?_
  refine AO.nil ?_
  refine AX.cond rfl (fun c108 => ?_) (fun c108 => ?_)
  · have hd109 := bif_t c108 hd106
    refine AX.seq ?_
    refine AX.region ?_
    refine AO.p rfl (p_assign rfl) ?_
    refine AO.p rfl (p_assign rfl) ?_
    refine AO.nil ?_
    refine AX.ret ?_
    obtain ⟨rfl, rfl⟩ := Prod.mk.inj (some_inj hd109)
    have S111 : St [] H G100 (tseg [] :: _) := S102.nilseg 0
    have S112 : St [] H G100 (oseg none (tcells []) :: _) := S111.nilseg 0
    have S113 := S112.keep 2
    exact ⟨.inr rfl, _, res2 rfl (rv_tmp rfl) (rv_tmp rfl), none, 0, [], rfl, S113, Sb.nil, rfl, TSb.nil⟩
  · have hd114 := bif_f c108 hd106
    refine AX.skip ?_
    refine AX.seq ?_
    refine AX.region ?_
    obtain ⟨G115, i116, hii116, hHG115, S117⟩ := S102.new (AObj.row false ([.slice none 0 0]))
    refine AO.c rfl (s_alloc (i := i116) (cs := [.slice none 0 0]) Try.zeroValue43 rfl rfl hii116 hHG115) ?_
    refine AO.nil ?_
    refine AX.seq ?_
    refine AX.region ?_
    refine AO.c rfl (s_load Try.isAgg2 rfl (row_cell (S117.get (k := 1) rfl) rfl)) ?_
    refine AO.p rfl (p_makeFunc (fs := []) (cs := [.pointer (some ⟨i101, 0, none⟩), .pointer (some ⟨i116, 0, none⟩)]) rfl rfl) ?_
    have S120 := S117.front 2 rfl
    have S121 := S120.front 1 rfl
    have S122 := S121.front 2 rfl
    obtain ⟨rs123, h124, hd125⟩ := bnd_some hd114
    obtain ⟨_, G135, hc137, p127, c128, T129, F126, rfl, S136, t130, hv131, nl133, hF134⟩ := W_impl_starters__impl_FirstStrong_1 fu G115 ([] : Sg) a0 i101 a0 i116 none 0 [] [] rfl PT.nil (fun _ => rfl) (St.fnodup (A := [[(i101, AObj.row false ([.int .i64 a0]))], [(i116, AObj.row false ([.slice none 0 0]))], ([] : Sg)]) S122) (St.fmem (A := [[(i101, AObj.row false ([.int .i64 a0]))], [(i116, AObj.row false ([.slice none 0 0]))], ([] : Sg)]) S122) rs123 h124
    have S138 := St.callM (A := [[(i101, AObj.row false ([.int .i64 a0]))], [(i116, AObj.row false ([.slice none 0 0]))], ([] : Sg)]) S122 S136 (fun j h => h)
    refine AO.c rfl (o_call (vs := [.int .i64 a0, .func (.func 80) #[] #[.pointer (some ⟨i101, 0, none⟩), .pointer (some ⟨i116, 0, none⟩)]]) rfl Try.call59 hc137) ?_
    refine AO.nil ?_
    refine AX.seq ?_
    refine AX.seq ?_
    refine AX.region ?_
    refine AO.c rfl (s_load Try.isAgg43 rfl (row_cell (S138.get (k := 1) rfl) rfl)) ?_
    refine AO.p rfl (p_eqlNilB Try.underlying43 rfl ((hv131).hsb.ne rfl) (PT.isNone hv131 t130 nl133)) ?_
    refine AO.nil ?_
    refine AX.cond rfl (fun c139 => ?_) (fun c139 => ?_)
    · have hd140 := bif_t c139 hd125
      refine AX.seq ?_
      refine AX.region ?_
      refine AO.p rfl (p_assign rfl) ?_
      refine AO.p rfl (p_assign rfl) ?_
      refine AO.nil ?_
      refine AX.ret ?_
      obtain ⟨rfl, rfl⟩ := Prod.mk.inj (some_inj hd140)
      have S142 : St [] H G135 (tseg [] :: _) := S138.nilseg 0
      have S143 : St [] H G135 (oseg none (tcells []) :: _) := S142.nilseg 0
      have S144 := S143.keep 2
      exact ⟨.inr rfl, _, res2 rfl (rv_tmp rfl) (rv_tmp rfl), none, 0, [], rfl, S144, Sb.nil, rfl, TSb.nil⟩
    · have hd145 := bif_f c139 hd125
      refine AX.skip ?_
      refine AX.seq ?_
      refine AX.region ?_
      refine AO.c rfl (s_load Try.isAgg43 rfl (row_cell (S138.get (k := 1) rfl) rfl)) ?_
      refine AO.p rfl (p_assign rfl) ?_
      refine AO.p rfl (p_assign rfl) ?_
      refine AO.nil ?_
      refine AX.ret ?_
      have S146 := S138.front 2 rfl
      have S147 := S146.thaw hv131
      obtain ⟨rfl, rfl⟩ := Prod.mk.inj (some_inj hd145)
      have S150 := S147.front 1 rfl
      have S151 := S150.front 1 rfl
      have S152 := S151.keep 2
      exact ⟨.inr rfl, _, res2 rfl (rv_tmp rfl) (rv_tmp rfl), p127, c128, T129, rfl, S152, (sb_tlen t130 (hv131).hsb), t130, (hv131).rs.sb⟩

end Go.Proofs.Ytdafmafigcljkaa
