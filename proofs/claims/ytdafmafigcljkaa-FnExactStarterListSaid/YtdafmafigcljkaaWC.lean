/-
  The program computes that, printed by a program. No condition.
-/
import Derived.Test.YtdafmafigcljkaaDC
import Derived.Test.YtdafmafigcljkaaWB
import Derived.Test.YtdafmafigcljkaaPl
import Derived.Test.YtdafmafigcljkaaProg
import Derived.KernelRfl
namespace Go.Proofs.Ytdafmafigcljkaa
open Go Go.RowKit Am
set_option linter.unusedVariables false
set_option linter.unusedSimpArgs false
set_option maxRecDepth 20000
set_option maxHeartbeats 4000000 in
theorem W_impl_CountStarters_1 (fu : Nat) (H : AHeap) (F : Sg) (p_a0 : Option Addr) (c_a0 : Nat) (T_a0 : Tb) (a0 : List (List Int)) (t_a0 : trows T_a0 = a0) (q_a0 : PT F p_a0 c_a0 T_a0) (i_n0 : Nat) (n0_0 : Int) (i_n1 : Nat) (n1_0 : Int) (i_n2 : Nat) (n2_0 : Int) (i_n3 : Nat) (n3_0 : Int) (hn : (([[(i_n0, AObj.row false ([.int .i64 n0_0]))], [(i_n1, AObj.row false ([.int .i64 n1_0]))], [(i_n2, AObj.row false ([.int .i64 n2_0]))], [(i_n3, AObj.row false ([.int .i64 n3_0]))], F] : List Sg).flatten.map (·.1)).Nodup) (ho : ∀ x ∈ ([[(i_n0, AObj.row false ([.int .i64 n0_0]))], [(i_n1, AObj.row false ([.int .i64 n1_0]))], [(i_n2, AObj.row false ([.int .i64 n2_0]))], [(i_n3, AObj.row false ([.int .i64 n3_0]))], F] : List Sg).flatten, x.1 < H.length ∧ hget H x.1 = x.2) (r0 : Bool) (m_n0_0 : Int) (m_n2_0 : Int) (m_n3_0 : Int) (hd : D_impl_CountStarters_1 fu a0 n0_0 n1_0 n2_0 n3_0 = some (r0, m_n0_0, m_n2_0, m_n3_0)) : ∃ v G', ACall Try.prog 77 [.slice p_a0 a0.length c_a0, .pointer (some ⟨i_n0, 0, none⟩), .pointer (some ⟨i_n1, 0, none⟩), .pointer (some ⟨i_n2, 0, none⟩), .pointer (some ⟨i_n3, 0, none⟩)] H v G' ∧ ∃ (F' : Sg), (v = .bool r0) ∧ St (([[(i_n0, AObj.row false ([.int .i64 n0_0]))], [(i_n1, AObj.row false ([.int .i64 n1_0]))], [(i_n2, AObj.row false ([.int .i64 n2_0]))], [(i_n3, AObj.row false ([.int .i64 n3_0]))], F] : List Sg).flatten.map (·.1)) H G' [[(i_n0, AObj.row false ([.int .i64 m_n0_0]))], [(i_n1, AObj.row false ([.int .i64 n1_0]))], [(i_n2, AObj.row false ([.int .i64 m_n2_0]))], [(i_n3, AObj.row false ([.int .i64 m_n3_0]))], F'] ∧ Pin F' F := by
  refine ACall.bodyX (args := [.slice p_a0 a0.length c_a0, .pointer (some ⟨i_n0, 0, none⟩), .pointer (some ⟨i_n1, 0, none⟩), .pointer (some ⟨i_n2, 0, none⟩), .pointer (some ⟨i_n3, 0, none⟩)]) (N := 19) [(0, .slice p_a0 a0.length c_a0), (1, .pointer (some ⟨i_n0, 0, none⟩)), (2, .pointer (some ⟨i_n1, 0, none⟩)), (3, .pointer (some ⟨i_n2, 0, none⟩)), (4, .pointer (some ⟨i_n3, 0, none⟩))] (fun v G' => ∃ (F' : Sg), (v = .bool r0) ∧ St (([[(i_n0, AObj.row false ([.int .i64 n0_0]))], [(i_n1, AObj.row false ([.int .i64 n1_0]))], [(i_n2, AObj.row false ([.int .i64 n2_0]))], [(i_n3, AObj.row false ([.int .i64 n3_0]))], F] : List Sg).flatten.map (·.1)) H G' [[(i_n0, AObj.row false ([.int .i64 m_n0_0]))], [(i_n1, AObj.row false ([.int .i64 n1_0]))], [(i_n2, AObj.row false ([.int .i64 m_n2_0]))], [(i_n3, AObj.row false ([.int .i64 m_n3_0]))], F'] ∧ Pin F' F) Try.func77 rfl rfl rfl rfl ?_
  unfold D_impl_CountStarters_1 at hd
  have S0 := St.initF hn ho
  generalize hM0 : (([[(i_n0, AObj.row false ([.int .i64 n0_0]))], [(i_n1, AObj.row false ([.int .i64 n1_0]))], [(i_n2, AObj.row false ([.int .i64 n2_0]))], [(i_n3, AObj.row false ([.int .i64 n3_0]))], F] : List Sg).flatten.map (·.1)) = M0 at S0 ⊢
  refine AX.seq ?_
  refine AX.region ?_
  refine AO.p rfl (p_assign rfl) ?_
  refine AO.nil ?_
  refine AX.seq ?_
  refine AX.region ?_
  refine AO.c rfl (s_load Try.isAgg2 rfl (row_cell (S0.get (k := 0) rfl) rfl)) ?_
  obtain ⟨k100, hd101⟩ := chk_some hd
  refine AO.p rfl (p_addE rfl rfl k100) ?_
  obtain ⟨G102, hHG102, S103⟩ := S0.set (k := 0) (i := i_n0) rfl (AObj.row false ([.int .i64 (n0_0 + 1)]))
  have S104 : St M0 H G102 [[(i_n0, AObj.row false ([.int .i64 (n0_0 + 1)]))], [(i_n1, AObj.row false ([.int .i64 n1_0]))], [(i_n2, AObj.row false ([.int .i64 n2_0]))], [(i_n3, AObj.row false ([.int .i64 n3_0]))], F] := S103
  refine AO.s (s_store Try.sizeOf2 rfl rfl rfl (S0.get (k := 0) rfl) (Nat.le_of_ble_eq_true rfl) hHG102) ?_
  refine AO.nil ?_
  refine AX.seq ?_
  refine AX.seq ?_
  refine AX.region ?_
  refine AO.c rfl (s_load Try.isAgg2 rfl (row_cell (S104.get (k := 1) rfl) rfl)) ?_
  refine AO.p rfl (p_move rfl) ?_
  obtain ⟨b105, h106, hd107⟩ := bnd_some hd101
  refine AO.c rfl (o_call (vs := [.int .i64 n1_0, .slice p_a0 a0.length c_a0]) rfl Try.call78 (W_impl_isStrong fu G102 n1_0 p_a0 c_a0 T_a0 a0 t_a0 (S104.ptview (k := 4) rfl q_a0 (tlen t_a0)) (S104.prview (k := 4) rfl (q_a0).rs) b105 h106)) ?_
  refine AO.nil ?_
  obtain ⟨r125, hb126, hd127⟩ := bnd_some hd107
  refine AX.cutS (fun t' H' => ∃ (x121 : Int), x121 = r125 ∧ St M0 H H' [F, [(i_n0, AObj.row false ([.int .i64 (n0_0 + 1)]))], [(i_n1, AObj.row false ([.int .i64 n1_0]))], [(i_n2, AObj.row false ([.int .i64 x121]))], [(i_n3, AObj.row false ([.int .i64 n3_0]))]] ∧ Pin F F ∧ PT F p_a0 c_a0 T_a0 ∧ Am.Sub [(0, .slice p_a0 a0.length c_a0), (2, .pointer (some ⟨i_n1, 0, none⟩)), (4, .pointer (some ⟨i_n3, 0, none⟩))] t') ?_ ?_
  · skip
    refine AX.cond rfl (fun c128 => ?_) (fun c128 => ?_)
    · have hd129 := bif_t c128 hb126
      refine AX.region ?_
      refine AO.c rfl (s_load Try.isAgg2 rfl (row_cell (S104.get (k := 2) rfl) rfl)) ?_
      obtain ⟨k130, hd131⟩ := chk_some hd129
      refine AO.p rfl (p_addE rfl rfl k130) ?_
      obtain ⟨G132, hHG132, S133⟩ := S104.set (k := 2) (i := i_n2) rfl (AObj.row false ([.int .i64 (n2_0 + 1)]))
      have S134 : St M0 H G132 [[(i_n0, AObj.row false ([.int .i64 (n0_0 + 1)]))], [(i_n1, AObj.row false ([.int .i64 n1_0]))], [(i_n2, AObj.row false ([.int .i64 (n2_0 + 1)]))], [(i_n3, AObj.row false ([.int .i64 n3_0]))], F] := S133
      refine AO.s (s_store Try.sizeOf2 rfl rfl rfl (S104.get (k := 2) rfl) (Nat.le_of_ble_eq_true rfl) hHG132) ?_
      refine AO.nil ?_
      have S135 := S134.front 3 rfl
      have S136 := S135.front 3 rfl
      have S137 := S136.front 3 rfl
      have S138 := S137.front 3 rfl
      have S139 := S138.front 4 rfl
      exact ⟨(n2_0 + 1), (some_inj hd131), S139, (Pin.refl F), q_a0, Sub.cons' rfl rfl (Sub.cons' rfl rfl (Sub.cons' rfl rfl (Sub.nil _)))⟩
    · have hd140 := bif_f c128 hb126
      refine AX.skip ?_
      have S141 := S104.front 3 rfl
      have S142 := S141.front 3 rfl
      have S143 := S142.front 3 rfl
      have S144 := S143.front 3 rfl
      have S145 := S144.front 4 rfl
      exact ⟨n2_0, (some_inj hd140), S145, (Pin.refl F), q_a0, Sub.cons' rfl rfl (Sub.cons' rfl rfl (Sub.cons' rfl rfl (Sub.nil _)))⟩
  · rintro t' G147 ⟨x121, rfl, S146, hF117, hv124, hsub148⟩
    refine ⟨_, hsub148, ?_⟩
    refine AX.seq ?_
    refine AX.seq ?_
    refine AX.region ?_
    refine AO.c rfl (s_load Try.isAgg2 rfl (row_cell (S146.get (k := 2) rfl) rfl)) ?_
    refine AO.p rfl (p_move rfl) ?_
    obtain ⟨b149, h150, hd151⟩ := bnd_some hd127
    refine AO.c rfl (o_call (vs := [.int .i64 n1_0, .slice p_a0 a0.length c_a0]) rfl Try.call79 (W_impl_isSkew fu G147 n1_0 p_a0 c_a0 T_a0 a0 t_a0 (S146.ptview (k := 0) rfl hv124 (tlen t_a0)) (S146.prview (k := 0) rfl (hv124).rs) b149 h150)) ?_
    refine AO.nil ?_
    refine AX.cond rfl (fun c153 => ?_) (fun c153 => ?_)
    · have hd154 := bif_t c153 hd151
      refine AX.region ?_
      refine AO.c rfl (s_load Try.isAgg2 rfl (row_cell (S146.get (k := 4) rfl) rfl)) ?_
      obtain ⟨k155, hd156⟩ := chk_some hd154
      refine AO.p rfl (p_addE rfl rfl k155) ?_
      obtain ⟨G157, hHG157, S158⟩ := S146.set (k := 4) (i := i_n3) rfl (AObj.row false ([.int .i64 (n3_0 + 1)]))
      have S159 : St M0 H G157 [F, [(i_n0, AObj.row false ([.int .i64 (n0_0 + 1)]))], [(i_n1, AObj.row false ([.int .i64 n1_0]))], [(i_n2, AObj.row false ([.int .i64 x121]))], [(i_n3, AObj.row false ([.int .i64 (n3_0 + 1)]))]] := S158
      refine AO.s (s_store Try.sizeOf2 rfl rfl rfl (S146.get (k := 4) rfl) (Nat.le_of_ble_eq_true rfl) hHG157) ?_
      refine AO.nil ?_
      refine AX.seq ?_
      refine AX.region ?_
      refine AO.p rfl (p_assign rfl) ?_
      refine AO.nil ?_
      refine AX.ret ?_
      obtain ⟨rfl, z160⟩ := Prod.mk.inj (some_inj hd156)
      obtain ⟨rfl, z161⟩ := Prod.mk.inj z160
      obtain ⟨rfl, rfl⟩ := Prod.mk.inj z161
      have S163 := S159.front 0 rfl
      have S164 := S163.front 4 rfl
      have S165 := S164.front 4 rfl
      have S166 := S165.front 4 rfl
      have S167 := S166.front 4 rfl
      exact ⟨.inr rfl, _, res1 rfl (rv_tmp rfl), F, rfl, S167, hF117⟩
    · have hd168 := bif_f c153 hd151
      refine AX.skip ?_
      refine AX.seq ?_
      refine AX.region ?_
      refine AO.p rfl (p_assign rfl) ?_
      refine AO.nil ?_
      refine AX.ret ?_
      obtain ⟨rfl, z169⟩ := Prod.mk.inj (some_inj hd168)
      obtain ⟨rfl, z170⟩ := Prod.mk.inj z169
      obtain ⟨rfl, rfl⟩ := Prod.mk.inj z170
      have S172 := S146.front 0 rfl
      have S173 := S172.front 4 rfl
      have S174 := S173.front 4 rfl
      have S175 := S174.front 4 rfl
      have S176 := S175.front 4 rfl
      exact ⟨.inr rfl, _, res1 rfl (rv_tmp rfl), F, rfl, S176, hF117⟩

set_option maxHeartbeats 4000000 in
theorem W_slices_Clone_SSint64_Sint64 (fu : Nat) (H : AHeap) (F : Sg) (p_a0 : Option Addr) (c_a0 : Nat) (T_a0 : Tb) (a0 : List (List Int)) (t_a0 : trows T_a0 = a0) (q_a0 : PT F p_a0 c_a0 T_a0) (y_a0 : a0 = [] → p_a0 = none) (hn : (([F] : List Sg).flatten.map (·.1)).Nodup) (ho : ∀ x ∈ ([F] : List Sg).flatten, x.1 < H.length ∧ hget H x.1 = x.2) (r0 : List (List Int)) (hd : D_slices_Clone_SSint64_Sint64 fu a0 = some r0) : ∃ v G', ACall Try.prog 116 [.slice p_a0 a0.length c_a0] H v G' ∧ ∃ (p_r0 : Option Addr) (c_r0 : Nat) (T_r0 : Tb) (F' : Sg), (v = .slice p_r0 r0.length c_r0) ∧ St (([F] : List Sg).flatten.map (·.1)) H G' [oseg p_r0 (tcells T_r0), F'] ∧ Sb p_r0 r0.length c_r0 1 ∧ trows T_r0 = r0 ∧ PR F' T_r0 ∧ Pin F' F := by
  refine ACall.bodyX (args := [.slice p_a0 a0.length c_a0]) (N := 8) [(0, .slice p_a0 a0.length c_a0)] (fun v G' => ∃ (p_r0 : Option Addr) (c_r0 : Nat) (T_r0 : Tb) (F' : Sg), (v = .slice p_r0 r0.length c_r0) ∧ St (([F] : List Sg).flatten.map (·.1)) H G' [oseg p_r0 (tcells T_r0), F'] ∧ Sb p_r0 r0.length c_r0 1 ∧ trows T_r0 = r0 ∧ PR F' T_r0 ∧ Pin F' F) Try.func116 rfl rfl rfl rfl ?_
  unfold D_slices_Clone_SSint64_Sint64 at hd
  have S0 := St.initF hn ho
  generalize hM0 : (([F] : List Sg).flatten.map (·.1)) = M0 at S0 ⊢
  refine AX.seq ?_
  refine AX.region ?_
  refine AO.p rfl (p_assign rfl) ?_
  refine AO.nil ?_
  refine AX.seq ?_
  refine AX.seq ?_
  refine AX.region ?_
  refine AO.p rfl (p_move rfl) ?_
  refine AO.p rfl (p_eqlNilB Try.underlying43 rfl ((q_a0).hsb.ne rfl) (PT.isNone q_a0 t_a0 y_a0)) ?_
  refine AO.nil ?_
  refine AX.cond rfl (fun c100 => ?_) (fun c100 => ?_)
  · have hd101 := bif_t c100 hd
    refine AX.seq ?_
    refine AX.region ?_
    refine AO.p rfl (p_assign rfl) ?_
    refine AO.nil ?_
    refine AX.ret ?_
    obtain rfl := some_inj hd101
    have S102 := S0.front 0 rfl
    have S103 : St M0 H H (oseg none (tcells []) :: _) := S102.nilseg 0
    exact ⟨.inr rfl, _, res1 rfl (rv_tmp rfl), none, 0, [], F, rfl, S103, Sb.nil, rfl, PR.nil, (Pin.refl F)⟩
  · have hd104 := bif_f c100 hd
    refine AX.skip ?_
    refine AX.seq ?_
    refine AX.region ?_
    obtain ⟨G105, i106, hii106, hHG105, S107⟩ := S0.new (AObj.row false (tcells []))
    refine AO.c rfl (s_build0 (i := i106) Try.underlying43 Try.sizeOf58 hii106 hHG105) ?_
    refine AO.p rfl (p_move rfl) ?_
    obtain ⟨k109, hd110⟩ := chk_some hd104
    obtain ⟨p111, c112, G113, haG113, S114, Bp111⟩ := S107.app (k := 0) rfl (Sb.lit (n := 0) (by decide)) (tcells T_a0) a0.length (tc_len1 t_a0 rfl)
    have S115 := S114.cellsEq (k := 0) (us' := tcells T_a0) (List.nil_append _) rfl
    have BS115 : Sb p111 (a0.length) c112 1 := (show 0 + a0.length = a0.length from len_nilapp (b := a0) rfl) ▸ Bp111
    refine AO.c rfl (s_app (by_ := 24) (us := tcells []) (vs := tcells T_a0) Try.underlying43 Try.underlying43 Try.typeInfo58 Try.sizeOf58 Try.zeroValue58 rfl rfl rfl rfl rfl rfl rfl (S107.buf (k := 0) rfl (Sb.lit (n := 0) (by decide)) (tc_len1 rfl rfl)) (S107.ptview (k := 1) rfl q_a0 (tlen t_a0)) (tc_len1 t_a0 rfl) tcells_one k109 haG113 (show 0 + a0.length = a0.length from len_nilapp (b := a0) rfl)) ?_
    refine AO.p rfl (p_assign rfl) ?_
    refine AO.nil ?_
    refine AX.ret ?_
    obtain rfl := some_inj hd110
    have S116 := S115.front 1 rfl
    have S117 := S116.front 1 rfl
    exact ⟨.inr rfl, _, res1 rfl (rv_tmp rfl), p111, c112, T_a0, F, rfl, S117, BS115, t_a0, (q_a0).rs, (Pin.refl F)⟩

set_option maxHeartbeats 4000000 in
theorem W_impl_starters_1__impl_CountStarters_1 : ∀ (fu : Nat) (H : AHeap) (F : Sg) (p_a0 : Option Addr) (c_a0 : Nat) (T_a0 : Tb) (a0 : List (List Int)) (t_a0 : trows T_a0 = a0) (q_a0 : PT F p_a0 c_a0 T_a0) (y_a0 : a0 = [] → p_a0 = none) (i_n0 : Nat) (n0_0 : Int) (i_n1 : Nat) (p_n2 : Option Addr) (k_n2 c_n2 : Nat) (n2 : List Bool) (l_n2 : n2.length = k_n2) (s_n2 : Sb p_n2 k_n2 c_n2 1) (i_n3 : Nat) (i_n4 : Nat) (n4_0 : Int) (i_n5 : Nat) (n5_0 : Int) (i_n6 : Nat) (n6_0 : Int) (i_n7 : Nat) (n7_0 : Int) (i_n8 : Nat) (p_n9 : Option Addr) (k_n9 c_n9 : Nat) (n9 : List Bool) (l_n9 : n9.length = k_n9) (s_n9 : Sb p_n9 k_n9 c_n9 1) (i_n10 : Nat) (hn : (([[(i_n0, AObj.row false ([.int .i64 n0_0]))], [(i_n1, AObj.row false ([.slice p_n2 k_n2 c_n2]))], oseg p_n2 (bls n2), [(i_n3, AObj.row false ([.func (.func 77) #[] #[.pointer (some ⟨i_n4, 0, none⟩), .pointer (some ⟨i_n5, 0, none⟩), .pointer (some ⟨i_n6, 0, none⟩), .pointer (some ⟨i_n7, 0, none⟩)]]))], [(i_n4, AObj.row false ([.int .i64 n4_0]))], [(i_n5, AObj.row false ([.int .i64 n5_0]))], [(i_n6, AObj.row false ([.int .i64 n6_0]))], [(i_n7, AObj.row false ([.int .i64 n7_0]))], [(i_n8, AObj.row false ([.slice p_n9 k_n9 c_n9]))], oseg p_n9 (bls n9), [(i_n10, AObj.row false ([.func (.func 115) #[] #[.pointer (some ⟨i_n0, 0, none⟩), .pointer (some ⟨i_n1, 0, none⟩), .pointer (some ⟨i_n3, 0, none⟩), .pointer (some ⟨i_n8, 0, none⟩), .pointer (some ⟨i_n10, 0, none⟩)]]))], F] : List Sg).flatten.map (·.1)).Nodup) (ho : ∀ x ∈ ([[(i_n0, AObj.row false ([.int .i64 n0_0]))], [(i_n1, AObj.row false ([.slice p_n2 k_n2 c_n2]))], oseg p_n2 (bls n2), [(i_n3, AObj.row false ([.func (.func 77) #[] #[.pointer (some ⟨i_n4, 0, none⟩), .pointer (some ⟨i_n5, 0, none⟩), .pointer (some ⟨i_n6, 0, none⟩), .pointer (some ⟨i_n7, 0, none⟩)]]))], [(i_n4, AObj.row false ([.int .i64 n4_0]))], [(i_n5, AObj.row false ([.int .i64 n5_0]))], [(i_n6, AObj.row false ([.int .i64 n6_0]))], [(i_n7, AObj.row false ([.int .i64 n7_0]))], [(i_n8, AObj.row false ([.slice p_n9 k_n9 c_n9]))], oseg p_n9 (bls n9), [(i_n10, AObj.row false ([.func (.func 115) #[] #[.pointer (some ⟨i_n0, 0, none⟩), .pointer (some ⟨i_n1, 0, none⟩), .pointer (some ⟨i_n3, 0, none⟩), .pointer (some ⟨i_n8, 0, none⟩), .pointer (some ⟨i_n10, 0, none⟩)]]))], F] : List Sg).flatten, x.1 < H.length ∧ hget H x.1 = x.2) (r0 : Bool) (m_n2 : List Bool) (m_n4_0 : Int) (m_n6_0 : Int) (m_n7_0 : Int) (m_n9 : List Bool) (hd : D_impl_starters_1__impl_CountStarters_1 fu a0 n0_0 k_n2 n2 n4_0 n5_0 n6_0 n7_0 k_n9 n9 = some (r0, m_n2, m_n4_0, m_n6_0, m_n7_0, m_n9)), ∃ v G', ACall Try.prog 115 [.slice p_a0 a0.length c_a0, .pointer (some ⟨i_n0, 0, none⟩), .pointer (some ⟨i_n1, 0, none⟩), .pointer (some ⟨i_n3, 0, none⟩), .pointer (some ⟨i_n8, 0, none⟩), .pointer (some ⟨i_n10, 0, none⟩)] H v G' ∧ ∃ (F' : Sg), (v = .bool r0) ∧ St (([[(i_n0, AObj.row false ([.int .i64 n0_0]))], [(i_n1, AObj.row false ([.slice p_n2 k_n2 c_n2]))], oseg p_n2 (bls n2), [(i_n3, AObj.row false ([.func (.func 77) #[] #[.pointer (some ⟨i_n4, 0, none⟩), .pointer (some ⟨i_n5, 0, none⟩), .pointer (some ⟨i_n6, 0, none⟩), .pointer (some ⟨i_n7, 0, none⟩)]]))], [(i_n4, AObj.row false ([.int .i64 n4_0]))], [(i_n5, AObj.row false ([.int .i64 n5_0]))], [(i_n6, AObj.row false ([.int .i64 n6_0]))], [(i_n7, AObj.row false ([.int .i64 n7_0]))], [(i_n8, AObj.row false ([.slice p_n9 k_n9 c_n9]))], oseg p_n9 (bls n9), [(i_n10, AObj.row false ([.func (.func 115) #[] #[.pointer (some ⟨i_n0, 0, none⟩), .pointer (some ⟨i_n1, 0, none⟩), .pointer (some ⟨i_n3, 0, none⟩), .pointer (some ⟨i_n8, 0, none⟩), .pointer (some ⟨i_n10, 0, none⟩)]]))], F] : List Sg).flatten.map (·.1)) H G' [[(i_n0, AObj.row false ([.int .i64 n0_0]))], [(i_n1, AObj.row false ([.slice p_n2 k_n2 c_n2]))], oseg p_n2 (bls m_n2), [(i_n3, AObj.row false ([.func (.func 77) #[] #[.pointer (some ⟨i_n4, 0, none⟩), .pointer (some ⟨i_n5, 0, none⟩), .pointer (some ⟨i_n6, 0, none⟩), .pointer (some ⟨i_n7, 0, none⟩)]]))], [(i_n4, AObj.row false ([.int .i64 m_n4_0]))], [(i_n5, AObj.row false ([.int .i64 n5_0]))], [(i_n6, AObj.row false ([.int .i64 m_n6_0]))], [(i_n7, AObj.row false ([.int .i64 m_n7_0]))], [(i_n8, AObj.row false ([.slice p_n9 k_n9 c_n9]))], oseg p_n9 (bls m_n9), [(i_n10, AObj.row false ([.func (.func 115) #[] #[.pointer (some ⟨i_n0, 0, none⟩), .pointer (some ⟨i_n1, 0, none⟩), .pointer (some ⟨i_n3, 0, none⟩), .pointer (some ⟨i_n8, 0, none⟩), .pointer (some ⟨i_n10, 0, none⟩)]]))], F'] ∧ m_n2.length = k_n2 ∧ m_n9.length = k_n9 ∧ Pin F' F := by
  intro fu
  induction fu with
  | zero => intros; rename_i hd; cases hd
  | succ fu ih =>
  intro H F p_a0 c_a0 T_a0 a0 t_a0 q_a0 y_a0 i_n0 n0_0 i_n1 p_n2 k_n2 c_n2 n2 l_n2 s_n2 i_n3 i_n4 n4_0 i_n5 n5_0 i_n6 n6_0 i_n7 n7_0 i_n8 p_n9 k_n9 c_n9 n9 l_n9 s_n9 i_n10 hn ho r0 m_n2 m_n4_0 m_n6_0 m_n7_0 m_n9 hd
  refine ACall.bodyX (args := [.slice p_a0 a0.length c_a0, .pointer (some ⟨i_n0, 0, none⟩), .pointer (some ⟨i_n1, 0, none⟩), .pointer (some ⟨i_n3, 0, none⟩), .pointer (some ⟨i_n8, 0, none⟩), .pointer (some ⟨i_n10, 0, none⟩)]) (N := 84) [(0, .slice p_a0 a0.length c_a0), (1, .pointer (some ⟨i_n0, 0, none⟩)), (2, .pointer (some ⟨i_n1, 0, none⟩)), (3, .pointer (some ⟨i_n3, 0, none⟩)), (4, .pointer (some ⟨i_n8, 0, none⟩)), (5, .pointer (some ⟨i_n10, 0, none⟩))] (fun v G' => ∃ (F' : Sg), (v = .bool r0) ∧ St (([[(i_n0, AObj.row false ([.int .i64 n0_0]))], [(i_n1, AObj.row false ([.slice p_n2 k_n2 c_n2]))], oseg p_n2 (bls n2), [(i_n3, AObj.row false ([.func (.func 77) #[] #[.pointer (some ⟨i_n4, 0, none⟩), .pointer (some ⟨i_n5, 0, none⟩), .pointer (some ⟨i_n6, 0, none⟩), .pointer (some ⟨i_n7, 0, none⟩)]]))], [(i_n4, AObj.row false ([.int .i64 n4_0]))], [(i_n5, AObj.row false ([.int .i64 n5_0]))], [(i_n6, AObj.row false ([.int .i64 n6_0]))], [(i_n7, AObj.row false ([.int .i64 n7_0]))], [(i_n8, AObj.row false ([.slice p_n9 k_n9 c_n9]))], oseg p_n9 (bls n9), [(i_n10, AObj.row false ([.func (.func 115) #[] #[.pointer (some ⟨i_n0, 0, none⟩), .pointer (some ⟨i_n1, 0, none⟩), .pointer (some ⟨i_n3, 0, none⟩), .pointer (some ⟨i_n8, 0, none⟩), .pointer (some ⟨i_n10, 0, none⟩)]]))], F] : List Sg).flatten.map (·.1)) H G' [[(i_n0, AObj.row false ([.int .i64 n0_0]))], [(i_n1, AObj.row false ([.slice p_n2 k_n2 c_n2]))], oseg p_n2 (bls m_n2), [(i_n3, AObj.row false ([.func (.func 77) #[] #[.pointer (some ⟨i_n4, 0, none⟩), .pointer (some ⟨i_n5, 0, none⟩), .pointer (some ⟨i_n6, 0, none⟩), .pointer (some ⟨i_n7, 0, none⟩)]]))], [(i_n4, AObj.row false ([.int .i64 m_n4_0]))], [(i_n5, AObj.row false ([.int .i64 n5_0]))], [(i_n6, AObj.row false ([.int .i64 m_n6_0]))], [(i_n7, AObj.row false ([.int .i64 m_n7_0]))], [(i_n8, AObj.row false ([.slice p_n9 k_n9 c_n9]))], oseg p_n9 (bls m_n9), [(i_n10, AObj.row false ([.func (.func 115) #[] #[.pointer (some ⟨i_n0, 0, none⟩), .pointer (some ⟨i_n1, 0, none⟩), .pointer (some ⟨i_n3, 0, none⟩), .pointer (some ⟨i_n8, 0, none⟩), .pointer (some ⟨i_n10, 0, none⟩)]]))], F'] ∧ m_n2.length = k_n2 ∧ m_n9.length = k_n9 ∧ Pin F' F) Try.func115 rfl rfl rfl rfl ?_
  unfold D_impl_starters_1__impl_CountStarters_1 at hd
  have S0 := St.initF hn ho
  generalize hM0 : (([[(i_n0, AObj.row false ([.int .i64 n0_0]))], [(i_n1, AObj.row false ([.slice p_n2 k_n2 c_n2]))], oseg p_n2 (bls n2), [(i_n3, AObj.row false ([.func (.func 77) #[] #[.pointer (some ⟨i_n4, 0, none⟩), .pointer (some ⟨i_n5, 0, none⟩), .pointer (some ⟨i_n6, 0, none⟩), .pointer (some ⟨i_n7, 0, none⟩)]]))], [(i_n4, AObj.row false ([.int .i64 n4_0]))], [(i_n5, AObj.row false ([.int .i64 n5_0]))], [(i_n6, AObj.row false ([.int .i64 n6_0]))], [(i_n7, AObj.row false ([.int .i64 n7_0]))], [(i_n8, AObj.row false ([.slice p_n9 k_n9 c_n9]))], oseg p_n9 (bls n9), [(i_n10, AObj.row false ([.func (.func 115) #[] #[.pointer (some ⟨i_n0, 0, none⟩), .pointer (some ⟨i_n1, 0, none⟩), .pointer (some ⟨i_n3, 0, none⟩), .pointer (some ⟨i_n8, 0, none⟩), .pointer (some ⟨i_n10, 0, none⟩)]]))], F] : List Sg).flatten.map (·.1)) = M0 at S0 ⊢
  refine AX.seq ?_
  refine AX.region ?_
  refine AO.p rfl (p_assign rfl) ?_
  refine AO.nil ?_
  refine AX.seq ?_
  refine AX.region ?_
  refine AO.p rfl (p_assign rfl) ?_
  refine AO.nil ?_
  obtain ⟨r355, hl356, hd357⟩ := bnd_some hd
  refine AX.cut (fun t' H' => ∃ (x354 : Int), x354 = r355 ∧ St M0 H H' [F, [(i_n0, AObj.row false ([.int .i64 n0_0]))], [(i_n1, AObj.row false ([.slice p_n2 k_n2 c_n2]))], oseg p_n2 (bls n2), [(i_n3, AObj.row false ([.func (.func 77) #[] #[.pointer (some ⟨i_n4, 0, none⟩), .pointer (some ⟨i_n5, 0, none⟩), .pointer (some ⟨i_n6, 0, none⟩), .pointer (some ⟨i_n7, 0, none⟩)]]))], [(i_n4, AObj.row false ([.int .i64 n4_0]))], [(i_n5, AObj.row false ([.int .i64 n5_0]))], [(i_n6, AObj.row false ([.int .i64 n6_0]))], [(i_n7, AObj.row false ([.int .i64 n7_0]))], [(i_n8, AObj.row false ([.slice p_n9 k_n9 c_n9]))], oseg p_n9 (bls n9), [(i_n10, AObj.row false ([.func (.func 115) #[] #[.pointer (some ⟨i_n0, 0, none⟩), .pointer (some ⟨i_n1, 0, none⟩), .pointer (some ⟨i_n3, 0, none⟩), .pointer (some ⟨i_n8, 0, none⟩), .pointer (some ⟨i_n10, 0, none⟩)]]))]] ∧ Pin F F ∧ PT F p_a0 c_a0 T_a0 ∧ (a0 = [] → p_a0 = none) ∧ Am.Sub [(0, .slice p_a0 a0.length c_a0), (1, .pointer (some ⟨i_n0, 0, none⟩)), (2, .pointer (some ⟨i_n1, 0, none⟩)), (3, .pointer (some ⟨i_n3, 0, none⟩)), (4, .pointer (some ⟨i_n8, 0, none⟩)), (5, .pointer (some ⟨i_n10, 0, none⟩)), (8, .int .i64 x354)] t') ?_ ?_
  · refine AX.block ?_
    refine AX.loopF (fun s' t' H' => ∃ (x274 : Int), x274 = s' ∧ St M0 H H' [F, [(i_n0, AObj.row false ([.int .i64 n0_0]))], [(i_n1, AObj.row false ([.slice p_n2 k_n2 c_n2]))], oseg p_n2 (bls n2), [(i_n3, AObj.row false ([.func (.func 77) #[] #[.pointer (some ⟨i_n4, 0, none⟩), .pointer (some ⟨i_n5, 0, none⟩), .pointer (some ⟨i_n6, 0, none⟩), .pointer (some ⟨i_n7, 0, none⟩)]]))], [(i_n4, AObj.row false ([.int .i64 n4_0]))], [(i_n5, AObj.row false ([.int .i64 n5_0]))], [(i_n6, AObj.row false ([.int .i64 n6_0]))], [(i_n7, AObj.row false ([.int .i64 n7_0]))], [(i_n8, AObj.row false ([.slice p_n9 k_n9 c_n9]))], oseg p_n9 (bls n9), [(i_n10, AObj.row false ([.func (.func 115) #[] #[.pointer (some ⟨i_n0, 0, none⟩), .pointer (some ⟨i_n1, 0, none⟩), .pointer (some ⟨i_n3, 0, none⟩), .pointer (some ⟨i_n8, 0, none⟩), .pointer (some ⟨i_n10, 0, none⟩)]]))]] ∧ Pin F F ∧ PT F p_a0 c_a0 T_a0 ∧ (a0 = [] → p_a0 = none) ∧ Am.Sub [(0, .slice p_a0 a0.length c_a0), (1, .pointer (some ⟨i_n0, 0, none⟩)), (2, .pointer (some ⟨i_n1, 0, none⟩)), (3, .pointer (some ⟨i_n3, 0, none⟩)), (4, .pointer (some ⟨i_n8, 0, none⟩)), (5, .pointer (some ⟨i_n10, 0, none⟩)), (8, .int .i64 x274)] t') hl356 ?_ ?_
    · skip
      have S358 := S0.front 10 rfl
      have S359 := S358.front 10 rfl
      have S360 := S359.front 10 rfl
      have S361 := S360.front 10 rfl
      have S362 := S361.front 10 rfl
      have S363 := S362.front 10 rfl
      have S364 := S363.front 10 rfl
      have S365 := S364.front 10 rfl
      have S366 := S365.front 10 rfl
      have S367 := S366.front 10 rfl
      have S368 := S367.front 10 rfl
      have S369 := S368.front 11 rfl
      exact ⟨1, rfl, S369, (Pin.refl F), q_a0, y_a0, Sub.cons' rfl rfl (Sub.cons' rfl rfl (Sub.cons' rfl rfl (Sub.cons' rfl rfl (Sub.cons' rfl rfl (Sub.cons' rfl rfl (Sub.cons' rfl rfl (Sub.nil _)))))))⟩
    · rintro n370 _ t' G374 ⟨x274, rfl, S373, hF259, hv272, nl273, hsub375⟩ o376 ho371 hk372
      refine AX.sub hsub375 ?_
      unfold D_impl_starters_1__impl_CountStarters_1_s0 at ho371
      refine AX.seq ?_
      obtain ⟨r398, hb399, hd400⟩ := bnd_some ho371
      refine AX.cut (fun t' H' => ∃ (b397 : Bool), b397 = r398 ∧ St M0 H H' [F, [(i_n0, AObj.row false ([.int .i64 n0_0]))], [(i_n1, AObj.row false ([.slice p_n2 k_n2 c_n2]))], oseg p_n2 (bls n2), [(i_n3, AObj.row false ([.func (.func 77) #[] #[.pointer (some ⟨i_n4, 0, none⟩), .pointer (some ⟨i_n5, 0, none⟩), .pointer (some ⟨i_n6, 0, none⟩), .pointer (some ⟨i_n7, 0, none⟩)]]))], [(i_n4, AObj.row false ([.int .i64 n4_0]))], [(i_n5, AObj.row false ([.int .i64 n5_0]))], [(i_n6, AObj.row false ([.int .i64 n6_0]))], [(i_n7, AObj.row false ([.int .i64 n7_0]))], [(i_n8, AObj.row false ([.slice p_n9 k_n9 c_n9]))], oseg p_n9 (bls n9), [(i_n10, AObj.row false ([.func (.func 115) #[] #[.pointer (some ⟨i_n0, 0, none⟩), .pointer (some ⟨i_n1, 0, none⟩), .pointer (some ⟨i_n3, 0, none⟩), .pointer (some ⟨i_n8, 0, none⟩), .pointer (some ⟨i_n10, 0, none⟩)]]))]] ∧ Pin F F ∧ PT F p_a0 c_a0 T_a0 ∧ (a0 = [] → p_a0 = none) ∧ Am.Sub [(0, .slice p_a0 a0.length c_a0), (1, .pointer (some ⟨i_n0, 0, none⟩)), (2, .pointer (some ⟨i_n1, 0, none⟩)), (3, .pointer (some ⟨i_n3, 0, none⟩)), (4, .pointer (some ⟨i_n8, 0, none⟩)), (5, .pointer (some ⟨i_n10, 0, none⟩)), (8, .int .i64 x274), (20, .bool b397)] t') ?_ ?_
      · skip
        refine AX.region ?_
        refine AO.p rfl (p_move rfl) ?_
        refine AO.c rfl (s_load Try.isAgg2 rfl (row_cell (S373.get (k := 1) rfl) rfl)) ?_
        refine AO.p rfl (p_lss rfl rfl) ?_
        refine AO.p rfl (p_move rfl) ?_
        refine AO.cases (d := 15) rfl (fun c401 => ?_) (fun c401 => ?_)
        · have hd402 := bif_t c401 hb399
          refine AO.gc rfl rfl rfl (s_load Try.isAgg111 rfl (row_cell (S373.get (k := 2) rfl) rfl)) ?_
          refine AO.gp rfl rfl rfl (p_move rfl) ?_
          obtain ⟨k403, hd404⟩ := chk_some hd402
          refine AO.gp rfl rfl rfl (s_indexV (q := x274.toNat) Try.underlying111 Try.sizeOf4 rfl (s_n2.at (inR_pos k403)) rfl k403 (z1 _)) ?_
          refine AO.gc rfl rfl rfl (s_load Try.isAgg4 rfl (row_cell (S373.oat (k := 3) rfl (s_n2.at (inR_pos k403))) (bls_get (lt_len l_n2 (inR_lt k403))))) ?_
          refine AO.p rfl (p_pickT rfl rfl) ?_
          refine AO.nil ?_
          have S405 := S373.front 11 rfl
          have S406 := S405.front 11 rfl
          have S407 := S406.front 11 rfl
          have S408 := S407.front 11 rfl
          have S409 := S408.front 11 rfl
          have S410 := S409.front 11 rfl
          have S411 := S410.front 11 rfl
          have S412 := S411.front 11 rfl
          have S413 := S412.front 11 rfl
          have S414 := S413.front 11 rfl
          have S415 := S414.front 11 rfl
          have S416 := S415.front 11 rfl
          exact ⟨(rdb n2 x274.toNat), (some_inj hd404), S416, hF259, hv272, nl273, Sub.cons' rfl rfl (Sub.cons' rfl rfl (Sub.cons' rfl rfl (Sub.cons' rfl rfl (Sub.cons' rfl rfl (Sub.cons' rfl rfl (Sub.cons' rfl rfl (Sub.cons' rfl rfl (Sub.nil _))))))))⟩
        · have hd417 := bif_f c401 hb399
          refine AO.gn rfl rfl rfl ?_
          refine AO.gn rfl rfl rfl ?_
          refine AO.gn rfl rfl rfl ?_
          refine AO.gn rfl rfl rfl ?_
          refine AO.p rfl (p_pickF rfl rfl) ?_
          refine AO.nil ?_
          have S418 := S373.front 11 rfl
          have S419 := S418.front 11 rfl
          have S420 := S419.front 11 rfl
          have S421 := S420.front 11 rfl
          have S422 := S421.front 11 rfl
          have S423 := S422.front 11 rfl
          have S424 := S423.front 11 rfl
          have S425 := S424.front 11 rfl
          have S426 := S425.front 11 rfl
          have S427 := S426.front 11 rfl
          have S428 := S427.front 11 rfl
          have S429 := S428.front 11 rfl
          exact ⟨false, (some_inj hd417), S429, hF259, hv272, nl273, Sub.cons' rfl rfl (Sub.cons' rfl rfl (Sub.cons' rfl rfl (Sub.cons' rfl rfl (Sub.cons' rfl rfl (Sub.cons' rfl rfl (Sub.cons' rfl rfl (Sub.cons' rfl rfl (Sub.nil _))))))))⟩
      · rintro t' G431 ⟨b397, rfl, S430, hF382, hv395, nl396, hsub432⟩
        refine AX.sub hsub432 ?_
        refine AX.cond rfl (fun c433 => ?_) (fun c433 => ?_)
        · have hd434 := bif_t c433 hd400
          refine AX.skip ?_
          refine AX.block ?_
          refine AX.region ?_
          refine AO.p rfl (p_move rfl) ?_
          obtain ⟨k435, hd436⟩ := chk_some hd434
          refine AO.p rfl (p_addE rfl rfl k435) ?_
          refine AO.p rfl (p_assign rfl) ?_
          refine AO.nil ?_
          obtain rfl := some_inj hd436
          have S438 := S430.front 11 rfl
          have S439 := S438.front 11 rfl
          have S440 := S439.front 11 rfl
          have S441 := S440.front 11 rfl
          have S442 := S441.front 11 rfl
          have S443 := S442.front 11 rfl
          have S444 := S443.front 11 rfl
          have S445 := S444.front 11 rfl
          have S446 := S445.front 11 rfl
          have S447 := S446.front 11 rfl
          have S448 := S447.front 11 rfl
          have S449 := S448.front 11 rfl
          exact ⟨x274 + 1, hk372, (x274 + 1), rfl, S449, hF382, hv395, nl396, Sub.cons' rfl rfl (Sub.cons' rfl rfl (Sub.cons' rfl rfl (Sub.cons' rfl rfl (Sub.cons' rfl rfl (Sub.cons' rfl rfl (Sub.cons' rfl rfl (Sub.nil _)))))))⟩
        · have hd450 := bif_f c433 hd400
          refine AX.exit ?_
          obtain rfl := some_inj hd450
          have S451 := S430.front 11 rfl
          have S452 := S451.front 11 rfl
          have S453 := S452.front 11 rfl
          have S454 := S453.front 11 rfl
          have S455 := S454.front 11 rfl
          have S456 := S455.front 11 rfl
          have S457 := S456.front 11 rfl
          have S458 := S457.front 11 rfl
          have S459 := S458.front 11 rfl
          have S460 := S459.front 11 rfl
          have S461 := S460.front 11 rfl
          have S462 := S461.front 11 rfl
          exact ⟨x274, hk372, S462, hF382, hv395, nl396, Sub.cons' rfl rfl (Sub.cons' rfl rfl (Sub.cons' rfl rfl (Sub.cons' rfl rfl (Sub.cons' rfl rfl (Sub.cons' rfl rfl (Sub.cons' rfl rfl (Sub.nil _)))))))⟩
  · rintro t' G464 ⟨x354, rfl, S463, hF339, hv352, nl353, hsub465⟩
    refine AX.sub hsub465 ?_
    refine AX.seq ?_
    refine AX.seq ?_
    refine AX.region ?_
    refine AO.p rfl (p_move rfl) ?_
    refine AO.c rfl (s_load Try.isAgg2 rfl (row_cell (S463.get (k := 1) rfl) rfl)) ?_
    refine AO.p rfl (p_eql rfl rfl) ?_
    refine AO.nil ?_
    refine AX.cond rfl (fun c466 => ?_) (fun c466 => ?_)
    · have hd467 := bif_t c466 hd357
      refine AX.seq ?_
      refine AX.region ?_
      refine AO.c rfl (s_load Try.isAgg76 rfl (row_cell (S463.get (k := 4) rfl) rfl)) ?_
      refine AO.p rfl (p_move rfl) ?_
      have S468 := S463.front 0 rfl
      have S469 := S468.front 8 rfl
      have S470 := S469.front 8 rfl
      have S471 := S470.front 8 rfl
      have S472 := S471.front 8 rfl
      have S473 : St M0 H G464 [[(i_n4, AObj.row false ([.int .i64 n4_0]))], [(i_n5, AObj.row false ([.int .i64 n5_0]))], [(i_n6, AObj.row false ([.int .i64 n6_0]))], [(i_n7, AObj.row false ([.int .i64 n7_0]))], F, [(i_n0, AObj.row false ([.int .i64 n0_0]))], [(i_n1, AObj.row false ([.slice p_n2 k_n2 c_n2]))], oseg p_n2 (bls n2), [(i_n3, AObj.row false ([.func (.func 77) #[] #[.pointer (some ⟨i_n4, 0, none⟩), .pointer (some ⟨i_n5, 0, none⟩), .pointer (some ⟨i_n6, 0, none⟩), .pointer (some ⟨i_n7, 0, none⟩)]]))], [(i_n8, AObj.row false ([.slice p_n9 k_n9 c_n9]))], oseg p_n9 (bls n9), [(i_n10, AObj.row false ([.func (.func 115) #[] #[.pointer (some ⟨i_n0, 0, none⟩), .pointer (some ⟨i_n1, 0, none⟩), .pointer (some ⟨i_n3, 0, none⟩), .pointer (some ⟨i_n8, 0, none⟩), .pointer (some ⟨i_n10, 0, none⟩)]]))]] := S472
      obtain ⟨⟨b474, x475, x476, x477⟩, h478, hd479⟩ := bnd_some hd467
      obtain ⟨_, G482, hc484, F480, rfl, S483, hF481⟩ := W_impl_CountStarters_1 fu G464 F p_a0 c_a0 T_a0 a0 t_a0 hv352 i_n4 n4_0 i_n5 n5_0 i_n6 n6_0 i_n7 n7_0 (St.fnodup (A := [[(i_n4, AObj.row false ([.int .i64 n4_0]))], [(i_n5, AObj.row false ([.int .i64 n5_0]))], [(i_n6, AObj.row false ([.int .i64 n6_0]))], [(i_n7, AObj.row false ([.int .i64 n7_0]))], F]) S473) (St.fmem (A := [[(i_n4, AObj.row false ([.int .i64 n4_0]))], [(i_n5, AObj.row false ([.int .i64 n5_0]))], [(i_n6, AObj.row false ([.int .i64 n6_0]))], [(i_n7, AObj.row false ([.int .i64 n7_0]))], F]) S473) b474 x475 x476 x477 h478
      have S485 := St.callM (A := [[(i_n4, AObj.row false ([.int .i64 n4_0]))], [(i_n5, AObj.row false ([.int .i64 n5_0]))], [(i_n6, AObj.row false ([.int .i64 n6_0]))], [(i_n7, AObj.row false ([.int .i64 n7_0]))], F]) S473 S483 (fun j h => h)
      refine AO.c rfl (o_callV (vs := [.slice p_a0 a0.length c_a0]) rfl rfl Try.call77 hc484) ?_
      refine AO.p rfl (p_assign rfl) ?_
      refine AO.nil ?_
      refine AX.ret ?_
      obtain ⟨rfl, z486⟩ := Prod.mk.inj (some_inj hd479)
      obtain ⟨rfl, z487⟩ := Prod.mk.inj z486
      obtain ⟨rfl, z488⟩ := Prod.mk.inj z487
      obtain ⟨rfl, z489⟩ := Prod.mk.inj z488
      obtain ⟨rfl, rfl⟩ := Prod.mk.inj z489
      have S491 := S485.front 4 rfl
      have S492 := S491.front 11 rfl
      have S493 := S492.front 11 rfl
      have S494 := S493.front 11 rfl
      have S495 := S494.front 7 rfl
      have S496 := S495.front 7 rfl
      have S497 := S496.front 7 rfl
      have S498 := S497.front 7 rfl
      have S499 := S498.front 11 rfl
      have S500 := S499.front 11 rfl
      have S501 := S500.front 11 rfl
      have S502 := S501.front 11 rfl
      exact ⟨.inr rfl, _, res1 rfl (rv_tmp rfl), F480, rfl, S502, l_n2, l_n9, (hF339.mono hF481)⟩
    · have hd503 := bif_f c466 hd357
      refine AX.skip ?_
      refine AX.seq ?_
      refine AX.seq ?_
      refine AX.region ?_
      refine AO.p rfl (p_move rfl) ?_
      obtain ⟨k504, hd505⟩ := chk_some hd503
      refine AO.p rfl (p_addE rfl rfl k504) ?_
      refine AO.p rfl (p_assign rfl) ?_
      refine AO.nil ?_
      obtain ⟨r1177, hl1178, hd1179⟩ := bnd_some hd505
      refine AX.cutS (fun t' H' => ∃ (bs1164 : List Bool) (x1167 : Int) (x1170 : Int) (x1172 : Int) (bs1175 : List Bool) (F1159 : Sg), .inl (bs1164, x1167, x1170, x1172, bs1175) = r1177 ∧ St M0 H H' [F1159, [(i_n0, AObj.row false ([.int .i64 n0_0]))], [(i_n1, AObj.row false ([.slice p_n2 k_n2 c_n2]))], oseg p_n2 (bls bs1164), [(i_n3, AObj.row false ([.func (.func 77) #[] #[.pointer (some ⟨i_n4, 0, none⟩), .pointer (some ⟨i_n5, 0, none⟩), .pointer (some ⟨i_n6, 0, none⟩), .pointer (some ⟨i_n7, 0, none⟩)]]))], [(i_n4, AObj.row false ([.int .i64 x1167]))], [(i_n5, AObj.row false ([.int .i64 n5_0]))], [(i_n6, AObj.row false ([.int .i64 x1170]))], [(i_n7, AObj.row false ([.int .i64 x1172]))], [(i_n8, AObj.row false ([.slice p_n9 k_n9 c_n9]))], oseg p_n9 (bls bs1175), [(i_n10, AObj.row false ([.func (.func 115) #[] #[.pointer (some ⟨i_n0, 0, none⟩), .pointer (some ⟨i_n1, 0, none⟩), .pointer (some ⟨i_n3, 0, none⟩), .pointer (some ⟨i_n8, 0, none⟩), .pointer (some ⟨i_n10, 0, none⟩)]]))]] ∧ Pin F1159 F ∧ bs1164.length = k_n2 ∧ bs1175.length = k_n9 ∧ Am.Sub [] t') ?_ ?_
      · refine AX.block ?_
        refine AX.loopF (fun s' t' H' => ∃ (bs944 : List Bool) (x947 : Int) (x950 : Int) (x952 : Int) (bs955 : List Bool) (x960 : Int) (F939 : Sg), (bs944, x947, x950, x952, bs955, x960) = s' ∧ St M0 H H' [F939, [(i_n0, AObj.row false ([.int .i64 n0_0]))], [(i_n1, AObj.row false ([.slice p_n2 k_n2 c_n2]))], oseg p_n2 (bls bs944), [(i_n3, AObj.row false ([.func (.func 77) #[] #[.pointer (some ⟨i_n4, 0, none⟩), .pointer (some ⟨i_n5, 0, none⟩), .pointer (some ⟨i_n6, 0, none⟩), .pointer (some ⟨i_n7, 0, none⟩)]]))], [(i_n4, AObj.row false ([.int .i64 x947]))], [(i_n5, AObj.row false ([.int .i64 n5_0]))], [(i_n6, AObj.row false ([.int .i64 x950]))], [(i_n7, AObj.row false ([.int .i64 x952]))], [(i_n8, AObj.row false ([.slice p_n9 k_n9 c_n9]))], oseg p_n9 (bls bs955), [(i_n10, AObj.row false ([.func (.func 115) #[] #[.pointer (some ⟨i_n0, 0, none⟩), .pointer (some ⟨i_n1, 0, none⟩), .pointer (some ⟨i_n3, 0, none⟩), .pointer (some ⟨i_n8, 0, none⟩), .pointer (some ⟨i_n10, 0, none⟩)]]))]] ∧ Pin F939 F ∧ bs944.length = k_n2 ∧ bs955.length = k_n9 ∧ PT F939 p_a0 c_a0 T_a0 ∧ (a0 = [] → p_a0 = none) ∧ Am.Sub [(0, .slice p_a0 a0.length c_a0), (1, .pointer (some ⟨i_n0, 0, none⟩)), (2, .pointer (some ⟨i_n1, 0, none⟩)), (4, .pointer (some ⟨i_n8, 0, none⟩)), (5, .pointer (some ⟨i_n10, 0, none⟩)), (8, .int .i64 x354), (9, .int .i64 x960)] t') hl1178 ?_ ?_
        · skip
          have S1180 := S463.front 11 rfl
          have S1181 := S1180.front 11 rfl
          have S1182 := S1181.front 11 rfl
          have S1183 := S1182.front 11 rfl
          have S1184 := S1183.front 11 rfl
          have S1185 := S1184.front 11 rfl
          have S1186 := S1185.front 11 rfl
          have S1187 := S1186.front 11 rfl
          have S1188 := S1187.front 11 rfl
          have S1189 := S1188.front 11 rfl
          have S1190 := S1189.front 11 rfl
          have S1191 := S1190.front 11 rfl
          exact ⟨n2, n4_0, n6_0, n7_0, n9, (x354 + 1), F, rfl, S1191, hF339, l_n2, l_n9, hv352, nl353, Sub.cons' rfl rfl (Sub.cons' rfl rfl (Sub.cons' rfl rfl (Sub.cons' rfl rfl (Sub.cons' rfl rfl (Sub.cons' rfl rfl (Sub.cons' rfl rfl (Sub.nil _)))))))⟩
        · rintro n1192 _ t' G1196 ⟨bs944, x947, x950, x952, bs955, x960, F939, rfl, S1195, hF940, lbs944, lbs955, hv958, nl959, hsub1197⟩ o1198 ho1193 hk1194
          refine AX.sub hsub1197 ?_
          unfold D_impl_starters_1__impl_CountStarters_1_s1 at ho1193
          refine AX.seq ?_
          refine AX.seq ?_
          refine AX.region ?_
          refine AO.p rfl (p_move rfl) ?_
          refine AO.c rfl (s_load Try.isAgg2 rfl (row_cell (S1195.get (k := 1) rfl) rfl)) ?_
          refine AO.p rfl (p_lss rfl rfl) ?_
          refine AO.nil ?_
          refine AX.cond rfl (fun c1199 => ?_) (fun c1199 => ?_)
          · have hd1200 := bif_t c1199 ho1193
            refine AX.skip ?_
            refine AX.seq ?_
            refine AX.block ?_
            refine AX.seq ?_
            refine AX.region ?_
            refine AO.p rfl (p_move rfl) ?_
            refine AO.p rfl (p_move rfl) ?_
            obtain ⟨k1201, hd1202⟩ := chk_some hd1200
            refine AO.p rfl (p_subE rfl rfl k1201) ?_
            refine AO.c rfl (s_load Try.isAgg2 rfl (row_cell (S1195.get (k := 1) rfl) rfl)) ?_
            refine AO.p rfl (p_move rfl) ?_
            obtain ⟨k1203, hd1204⟩ := chk_some hd1202
            refine AO.p rfl (p_subE rfl rfl k1203) ?_
            refine AO.p rfl (p_move rfl) ?_
            obtain ⟨k1205, hd1206⟩ := chk_some hd1204
            refine AO.p rfl (p_addE rfl rfl k1205) ?_
            refine AO.p rfl (p_min rfl rfl rfl) ?_
            refine AO.p rfl (p_assign rfl) ?_
            refine AO.nil ?_
            refine AX.seq ?_
            obtain ⟨r1230, hb1231, hd1232⟩ := bnd_some hd1206
            refine AX.cut (fun t' H' => ∃ (b1229 : Bool), b1229 = r1230 ∧ St M0 H H' [F939, [(i_n0, AObj.row false ([.int .i64 n0_0]))], [(i_n1, AObj.row false ([.slice p_n2 k_n2 c_n2]))], oseg p_n2 (bls bs944), [(i_n3, AObj.row false ([.func (.func 77) #[] #[.pointer (some ⟨i_n4, 0, none⟩), .pointer (some ⟨i_n5, 0, none⟩), .pointer (some ⟨i_n6, 0, none⟩), .pointer (some ⟨i_n7, 0, none⟩)]]))], [(i_n4, AObj.row false ([.int .i64 x947]))], [(i_n5, AObj.row false ([.int .i64 n5_0]))], [(i_n6, AObj.row false ([.int .i64 x950]))], [(i_n7, AObj.row false ([.int .i64 x952]))], [(i_n8, AObj.row false ([.slice p_n9 k_n9 c_n9]))], oseg p_n9 (bls bs955), [(i_n10, AObj.row false ([.func (.func 115) #[] #[.pointer (some ⟨i_n0, 0, none⟩), .pointer (some ⟨i_n1, 0, none⟩), .pointer (some ⟨i_n3, 0, none⟩), .pointer (some ⟨i_n8, 0, none⟩), .pointer (some ⟨i_n10, 0, none⟩)]]))]] ∧ Pin F939 F ∧ PT F939 p_a0 c_a0 T_a0 ∧ (a0 = [] → p_a0 = none) ∧ Am.Sub [(0, .slice p_a0 a0.length c_a0), (1, .pointer (some ⟨i_n0, 0, none⟩)), (2, .pointer (some ⟨i_n1, 0, none⟩)), (4, .pointer (some ⟨i_n8, 0, none⟩)), (5, .pointer (some ⟨i_n10, 0, none⟩)), (8, .int .i64 x354), (9, .int .i64 x960), (10, .int .i64 (if n0_0 - x960 + x354 < x960 - x354 then n0_0 - x960 + x354 else x960 - x354)), (54, .bool b1229)] t') ?_ ?_
            · skip
              refine AX.region ?_
              refine AO.c rfl (s_load Try.isAgg111 rfl (row_cell (S1195.get (k := 2) rfl) rfl)) ?_
              refine AO.p rfl (p_move rfl) ?_
              obtain ⟨k1233, hd1234⟩ := chk_some hb1231
              refine AO.p rfl (s_indexV (q := x960.toNat) Try.underlying111 Try.sizeOf4 rfl (s_n2.at (inR_pos k1233)) rfl k1233 (z1 _)) ?_
              refine AO.c rfl (s_load Try.isAgg4 rfl (row_cell (S1195.oat (k := 3) rfl (s_n2.at (inR_pos k1233))) (bls_get (lt_len lbs944 (inR_lt k1233))))) ?_
              refine AO.p rfl (p_move rfl) ?_
              refine AO.cases (d := 49) rfl (fun c1235 => ?_) (fun c1235 => ?_)
              · have hd1236 := bif_t c1235 hd1234
                refine AO.gn rfl rfl rfl ?_
                refine AO.gn rfl rfl rfl ?_
                refine AO.gn rfl rfl rfl ?_
                refine AO.gn rfl rfl rfl ?_
                refine AO.p rfl (p_pickT rfl rfl) ?_
                refine AO.nil ?_
                have S1237 := S1195.front 11 rfl
                have S1238 := S1237.front 11 rfl
                have S1239 := S1238.front 11 rfl
                have S1240 := S1239.front 11 rfl
                have S1241 := S1240.front 11 rfl
                have S1242 := S1241.front 11 rfl
                have S1243 := S1242.front 11 rfl
                have S1244 := S1243.front 11 rfl
                have S1245 := S1244.front 11 rfl
                have S1246 := S1245.front 11 rfl
                have S1247 := S1246.front 11 rfl
                have S1248 := S1247.front 11 rfl
                exact ⟨true, (some_inj hd1236), S1248, hF940, hv958, nl959, Sub.cons' rfl rfl (Sub.cons' rfl rfl (Sub.cons' rfl rfl (Sub.cons' rfl rfl (Sub.cons' rfl rfl (Sub.cons' rfl rfl (Sub.cons' rfl rfl (Sub.cons' rfl rfl (Sub.cons' rfl rfl (Sub.nil _)))))))))⟩
              · have hd1249 := bif_f c1235 hd1234
                refine AO.gc rfl rfl rfl (s_load Try.isAgg111 rfl (row_cell (S1195.get (k := 9) rfl) rfl)) ?_
                refine AO.gp rfl rfl rfl (p_move rfl) ?_
                obtain ⟨k1250, hd1251⟩ := chk_some hd1249
                refine AO.gp rfl rfl rfl (s_indexV (q := (if n0_0 - x960 + x354 < x960 - x354 then n0_0 - x960 + x354 else x960 - x354).toNat) Try.underlying111 Try.sizeOf4 rfl (s_n9.at (inR_pos k1250)) rfl k1250 (z1 _)) ?_
                refine AO.gc rfl rfl rfl (s_load Try.isAgg4 rfl (row_cell (S1195.oat (k := 10) rfl (s_n9.at (inR_pos k1250))) (bls_get (lt_len lbs955 (inR_lt k1250))))) ?_
                refine AO.p rfl (p_pickF rfl rfl) ?_
                refine AO.nil ?_
                have S1252 := S1195.front 11 rfl
                have S1253 := S1252.front 11 rfl
                have S1254 := S1253.front 11 rfl
                have S1255 := S1254.front 11 rfl
                have S1256 := S1255.front 11 rfl
                have S1257 := S1256.front 11 rfl
                have S1258 := S1257.front 11 rfl
                have S1259 := S1258.front 11 rfl
                have S1260 := S1259.front 11 rfl
                have S1261 := S1260.front 11 rfl
                have S1262 := S1261.front 11 rfl
                have S1263 := S1262.front 11 rfl
                exact ⟨(rdb bs955 ((if n0_0 - x960 + x354 < x960 - x354 then n0_0 - x960 + x354 else x960 - x354).toNat)), (some_inj hd1251), S1263, hF940, hv958, nl959, Sub.cons' rfl rfl (Sub.cons' rfl rfl (Sub.cons' rfl rfl (Sub.cons' rfl rfl (Sub.cons' rfl rfl (Sub.cons' rfl rfl (Sub.cons' rfl rfl (Sub.cons' rfl rfl (Sub.cons' rfl rfl (Sub.nil _)))))))))⟩
            · rintro t' G1265 ⟨b1229, rfl, S1264, hF1214, hv1227, nl1228, hsub1266⟩
              refine AX.sub hsub1266 ?_
              refine AX.cond rfl (fun c1267 => ?_) (fun c1267 => ?_)
              · have hd1268 := bif_t c1267 hd1232
                refine AX.exit ?_
                refine AX.region ?_
                refine AO.p rfl (p_move rfl) ?_
                obtain ⟨k1269, hd1270⟩ := chk_some hd1268
                refine AO.p rfl (p_addE rfl rfl k1269) ?_
                refine AO.p rfl (p_assign rfl) ?_
                refine AO.nil ?_
                obtain rfl := some_inj hd1270
                have S1272 := S1264.front 11 rfl
                have S1273 := S1272.front 11 rfl
                have S1274 := S1273.front 11 rfl
                have S1275 := S1274.front 11 rfl
                have S1276 := S1275.front 11 rfl
                have S1277 := S1276.front 11 rfl
                have S1278 := S1277.front 11 rfl
                have S1279 := S1278.front 11 rfl
                have S1280 := S1279.front 11 rfl
                have S1281 := S1280.front 11 rfl
                have S1282 := S1281.front 11 rfl
                have S1283 := S1282.front 11 rfl
                exact ⟨(bs944, x947, x950, x952, bs955, x960 + 1), hk1194, bs944, x947, x950, x952, bs955, (x960 + 1), F939, rfl, S1283, hF1214, lbs944, lbs955, hv1227, nl1228, Sub.cons' rfl rfl (Sub.cons' rfl rfl (Sub.cons' rfl rfl (Sub.cons' rfl rfl (Sub.cons' rfl rfl (Sub.cons' rfl rfl (Sub.cons' rfl rfl (Sub.nil _)))))))⟩
              · have hd1284 := bif_f c1267 hd1232
                refine AX.skip ?_
                refine AX.seq ?_
                refine DR.startS [false, false, false, false, false, false, false, true, false, true, false, true] mix (by kernel_rfl) (fun hst => ?_)
                refine DR.r rfl rfl (r_load rfl Try.isAgg111) (one_read (row_cell (S1264.get (k := 2) rfl) rfl) (S1264.oin (k := 3) rfl s_n2).bel) ?_
                refine DR.p rfl rfl (p_move rfl) ?_
                refine DR.r rfl rfl (r_load rfl Try.isAgg111) (one_read (row_cell (S1264.get (k := 2) rfl) rfl) (S1264.oin (k := 3) rfl s_n2).bel) ?_
                refine DR.p rfl rfl (p_move rfl) ?_
                refine DR.r rfl rfl (r_load rfl Try.isAgg111) (one_read (row_cell (S1264.get (k := 9) rfl) rfl) (S1264.oin (k := 10) rfl s_n9).bel) ?_
                refine DR.p rfl rfl (p_move rfl) ?_
                obtain ⟨k1285, hd1286⟩ := chk_some hd1284
                refine DR.p rfl rfl (s_indexV (q := x354.toNat) Try.underlying111 Try.sizeOf4 rfl (s_n2.at (inR_pos k1285)) rfl k1285 (z1 _)) ?_
                obtain ⟨G1287, hHG1287, S1288⟩ := S1264.oset (k := 3) (p := p_n2) rfl (s_n2.at (inR_pos k1285)) (bls (bs944.set x354.toNat true))
                have S1289 : St M0 H G1287 [F939, [(i_n0, AObj.row false ([.int .i64 n0_0]))], [(i_n1, AObj.row false ([.slice p_n2 k_n2 c_n2]))], oseg p_n2 (bls (bs944.set x354.toNat true)), [(i_n3, AObj.row false ([.func (.func 77) #[] #[.pointer (some ⟨i_n4, 0, none⟩), .pointer (some ⟨i_n5, 0, none⟩), .pointer (some ⟨i_n6, 0, none⟩), .pointer (some ⟨i_n7, 0, none⟩)]]))], [(i_n4, AObj.row false ([.int .i64 x947]))], [(i_n5, AObj.row false ([.int .i64 n5_0]))], [(i_n6, AObj.row false ([.int .i64 x950]))], [(i_n7, AObj.row false ([.int .i64 x952]))], [(i_n8, AObj.row false ([.slice p_n9 k_n9 c_n9]))], oseg p_n9 (bls bs955), [(i_n10, AObj.row false ([.func (.func 115) #[] #[.pointer (some ⟨i_n0, 0, none⟩), .pointer (some ⟨i_n1, 0, none⟩), .pointer (some ⟨i_n3, 0, none⟩), .pointer (some ⟨i_n8, 0, none⟩), .pointer (some ⟨i_n10, 0, none⟩)]]))]] := S1288
                refine DR.s rfl (s_store Try.sizeOf4 rfl rfl rfl (S1264.oat (k := 3) rfl (s_n2.at (inR_pos k1285))) (lt_len ((bls_length _).trans lbs944) (inR_lt k1285)) ((congrArg (fun l => List.set _ _ (AObj.row false l)) (bls_set _ _ _)).trans hHG1287)) (set_le hHG1287) ?_
                obtain ⟨k1290, hd1291⟩ := chk_some hd1286
                refine DR.p rfl rfl (s_indexV (q := x960.toNat) Try.underlying111 Try.sizeOf4 rfl (s_n2.at (inR_pos k1290)) rfl k1290 (z1 _)) ?_
                obtain ⟨G1292, hHG1292, S1293⟩ := S1289.oset (k := 3) (p := p_n2) rfl (s_n2.at (inR_pos k1290)) (bls ((bs944.set x354.toNat true).set x960.toNat true))
                have S1294 : St M0 H G1292 [F939, [(i_n0, AObj.row false ([.int .i64 n0_0]))], [(i_n1, AObj.row false ([.slice p_n2 k_n2 c_n2]))], oseg p_n2 (bls ((bs944.set x354.toNat true).set x960.toNat true)), [(i_n3, AObj.row false ([.func (.func 77) #[] #[.pointer (some ⟨i_n4, 0, none⟩), .pointer (some ⟨i_n5, 0, none⟩), .pointer (some ⟨i_n6, 0, none⟩), .pointer (some ⟨i_n7, 0, none⟩)]]))], [(i_n4, AObj.row false ([.int .i64 x947]))], [(i_n5, AObj.row false ([.int .i64 n5_0]))], [(i_n6, AObj.row false ([.int .i64 x950]))], [(i_n7, AObj.row false ([.int .i64 x952]))], [(i_n8, AObj.row false ([.slice p_n9 k_n9 c_n9]))], oseg p_n9 (bls bs955), [(i_n10, AObj.row false ([.func (.func 115) #[] #[.pointer (some ⟨i_n0, 0, none⟩), .pointer (some ⟨i_n1, 0, none⟩), .pointer (some ⟨i_n3, 0, none⟩), .pointer (some ⟨i_n8, 0, none⟩), .pointer (some ⟨i_n10, 0, none⟩)]]))]] := S1293
                refine DR.s rfl (s_store Try.sizeOf4 rfl rfl rfl (S1289.oat (k := 3) rfl (s_n2.at (inR_pos k1290))) (lt_len ((bls_length _).trans (len_set lbs944)) (inR_lt k1290)) ((congrArg (fun l => List.set _ _ (AObj.row false l)) (bls_set _ _ _)).trans hHG1292)) (set_le hHG1292) ?_
                obtain ⟨k1295, hd1296⟩ := chk_some hd1291
                refine DR.p rfl rfl (s_indexV (q := (if n0_0 - x960 + x354 < x960 - x354 then n0_0 - x960 + x354 else x960 - x354).toNat) Try.underlying111 Try.sizeOf4 rfl (s_n9.at (inR_pos k1295)) rfl k1295 (z1 _)) ?_
                obtain ⟨G1297, hHG1297, S1298⟩ := S1294.oset (k := 10) (p := p_n9) rfl (s_n9.at (inR_pos k1295)) (bls (bs955.set ((if n0_0 - x960 + x354 < x960 - x354 then n0_0 - x960 + x354 else x960 - x354).toNat) true))
                have S1299 : St M0 H G1297 [F939, [(i_n0, AObj.row false ([.int .i64 n0_0]))], [(i_n1, AObj.row false ([.slice p_n2 k_n2 c_n2]))], oseg p_n2 (bls ((bs944.set x354.toNat true).set x960.toNat true)), [(i_n3, AObj.row false ([.func (.func 77) #[] #[.pointer (some ⟨i_n4, 0, none⟩), .pointer (some ⟨i_n5, 0, none⟩), .pointer (some ⟨i_n6, 0, none⟩), .pointer (some ⟨i_n7, 0, none⟩)]]))], [(i_n4, AObj.row false ([.int .i64 x947]))], [(i_n5, AObj.row false ([.int .i64 n5_0]))], [(i_n6, AObj.row false ([.int .i64 x950]))], [(i_n7, AObj.row false ([.int .i64 x952]))], [(i_n8, AObj.row false ([.slice p_n9 k_n9 c_n9]))], oseg p_n9 (bls (bs955.set ((if n0_0 - x960 + x354 < x960 - x354 then n0_0 - x960 + x354 else x960 - x354).toNat) true)), [(i_n10, AObj.row false ([.func (.func 115) #[] #[.pointer (some ⟨i_n0, 0, none⟩), .pointer (some ⟨i_n1, 0, none⟩), .pointer (some ⟨i_n3, 0, none⟩), .pointer (some ⟨i_n8, 0, none⟩), .pointer (some ⟨i_n10, 0, none⟩)]]))]] := S1298
                refine DR.s rfl (s_store Try.sizeOf4 rfl rfl rfl (S1294.oat (k := 10) rfl (s_n9.at (inR_pos k1295))) (lt_len ((bls_length _).trans lbs955) (inR_lt k1295)) ((congrArg (fun l => List.set _ _ (AObj.row false l)) (bls_set _ _ _)).trans hHG1297)) (set_le hHG1297) ?_
                refine DR.nil 12 [(2, 7), (4, 7), (4, 9)] hst (by kernel_rfl) ⟨(rd1 (fun _ => (S1289.get (k := 2) rfl).trans (S1264.get (k := 2) rfl).symm)), (rd1 (fun _ => (S1289.get (k := 9) rfl).trans (S1264.get (k := 9) rfl).symm)), (rd1 (fun _ => (S1294.get (k := 9) rfl).trans (S1289.get (k := 9) rfl).symm)), trivial⟩ ?_
                refine AX.seq ?_
                refine DR.startS [false, false, true, false, false, false, false, true, true, false] mix (by kernel_rfl) (fun hst => ?_)
                refine DR.r rfl rfl (r_load rfl Try.isAgg76) (one_read (row_cell (S1299.get (k := 11) rfl) rfl) (bel_fn (bel_cons (.ptr _ _ (S1299.lt (k := 1) rfl)) (bel_cons (.ptr _ _ (S1299.lt (k := 2) rfl)) (bel_cons (.ptr _ _ (S1299.lt (k := 4) rfl)) (bel_cons (.ptr _ _ (S1299.lt (k := 9) rfl)) (bel_cons (.ptr _ _ (S1299.lt (k := 11) rfl)) bel_nil))))))) ?_
                refine DR.p rfl rfl (p_move rfl) ?_
                have S1300 := S1299.front 0 rfl
                have S1301 : St M0 H G1297 [F939, [(i_n0, AObj.row false ([.int .i64 n0_0]))], [(i_n1, AObj.row false ([.slice p_n2 k_n2 c_n2]))], oseg p_n2 (bls ((bs944.set x354.toNat true).set x960.toNat true)), [(i_n3, AObj.row false ([.func (.func 77) #[] #[.pointer (some ⟨i_n4, 0, none⟩), .pointer (some ⟨i_n5, 0, none⟩), .pointer (some ⟨i_n6, 0, none⟩), .pointer (some ⟨i_n7, 0, none⟩)]]))], [(i_n4, AObj.row false ([.int .i64 x947]))], [(i_n5, AObj.row false ([.int .i64 n5_0]))], [(i_n6, AObj.row false ([.int .i64 x950]))], [(i_n7, AObj.row false ([.int .i64 x952]))], [(i_n8, AObj.row false ([.slice p_n9 k_n9 c_n9]))], oseg p_n9 (bls (bs955.set ((if n0_0 - x960 + x354 < x960 - x354 then n0_0 - x960 + x354 else x960 - x354).toNat) true)), [(i_n10, AObj.row false ([.func (.func 115) #[] #[.pointer (some ⟨i_n0, 0, none⟩), .pointer (some ⟨i_n1, 0, none⟩), .pointer (some ⟨i_n3, 0, none⟩), .pointer (some ⟨i_n8, 0, none⟩), .pointer (some ⟨i_n10, 0, none⟩)]]))]] := S1300
                obtain ⟨rs1302, h1303, hd1304⟩ := bnd_some hd1296
                obtain ⟨_, G1314, hc1316, p1306, c1307, T1310, F1305, rfl, S1315, B1308, t1311, hp1312, hF1313⟩ := W_slices_Clone_SSint64_Sint64 fu G1297 F939 p_a0 c_a0 T_a0 a0 t_a0 hv1227 nl1228 (St.fnodup (A := [F939]) S1301) (St.fmem (A := [F939]) S1301) rs1302 h1303
                have S1317 := St.callM (A := [F939]) S1301 S1315 (fun j h => h)
                refine DR.w rfl rfl (o_call (vs := [.slice p_a0 a0.length c_a0]) rfl Try.call116 hc1316) (S1315.len) ?_
                refine DR.p rfl rfl (p_move rfl) ?_
                refine DR.p rfl rfl (p_move rfl) ?_
                obtain ⟨G1318, i1319, hii1319, hHG1318, S1320⟩ := S1317.new (AObj.row false (ints [x354, x960]))
                refine DR.a rfl rfl hii1319 hHG1318 (a_buildInts (vs := [(0, .int .i64 x354), (1, .int .i64 x960)]) (xs := [x354, x960]) Try.underlying58 Try.sizeOf2 Try.zeroValue2 rfl rfl (by decide) rfl rfl) ?_
                obtain ⟨G1322, i1323, hii1323, hHG1322, S1324⟩ := S1320.new (AObj.row false (tcells ([((some (Addr.mk i1319 0 none)), 2, [x354, x960])])))
                have S1326 := (S1324.front 1 rfl).tone (some (Addr.mk i1319 0 none)) 2 [x354, x960] rfl
                refine DR.a rfl rfl hii1323 hHG1322 (a_buildT1 (X := [((some (Addr.mk i1319 0 none)), 2, [x354, x960])]) (n := 2) rfl Try.underlying43 Try.sizeOf58 Try.zeroValue58 rfl rfl) ?_
                obtain ⟨k1327, hd1328⟩ := chk_some hd1304
                obtain ⟨p1329, c1330, G1331, haG1331, S1332, Bp1329⟩ := S1326.app (k := 2) rfl B1308 (tcells ([((some (Addr.mk i1319 0 none)), 2, [x354, x960])])) 1 (tc_len1 rfl rfl)
                have S1333 := S1332.cellsEq (k := 2) (us' := tcells (T1310 ++ [((some (Addr.mk i1319 0 none)), 2, [x354, x960])])) (tcells_app _ _).symm rfl
                have BS1333 : Sb p1329 ((rs1302 ++ [[x354, x960]]).length) c1330 1 := (show rs1302.length + 1 = (rs1302 ++ [[x354, x960]]).length from len_app (a := rs1302) (b := [[x354, x960]]) rfl rfl) ▸ Bp1329
                have S1334 := S1333.front 3 rfl
                have S1335 := S1334.front 1 rfl
                have S1336 : St M0 H G1331 [tseg ([((some (Addr.mk i1319 0 none)), 2, [x354, x960])]), F1305, [(i1323, AObj.row false (tcells ([((some (Addr.mk i1319 0 none)), 2, [x354, x960])])))], oseg p1329 (tcells (T1310 ++ [((some (Addr.mk i1319 0 none)), 2, [x354, x960])])), [(i_n0, AObj.row false ([.int .i64 n0_0]))], [(i_n1, AObj.row false ([.slice p_n2 k_n2 c_n2]))], oseg p_n2 (bls ((bs944.set x354.toNat true).set x960.toNat true)), [(i_n3, AObj.row false ([.func (.func 77) #[] #[.pointer (some ⟨i_n4, 0, none⟩), .pointer (some ⟨i_n5, 0, none⟩), .pointer (some ⟨i_n6, 0, none⟩), .pointer (some ⟨i_n7, 0, none⟩)]]))], [(i_n4, AObj.row false ([.int .i64 x947]))], [(i_n5, AObj.row false ([.int .i64 n5_0]))], [(i_n6, AObj.row false ([.int .i64 x950]))], [(i_n7, AObj.row false ([.int .i64 x952]))], [(i_n8, AObj.row false ([.slice p_n9 k_n9 c_n9]))], oseg p_n9 (bls (bs955.set ((if n0_0 - x960 + x354 < x960 - x354 then n0_0 - x960 + x354 else x960 - x354).toNat) true)), [(i_n10, AObj.row false ([.func (.func 115) #[] #[.pointer (some ⟨i_n0, 0, none⟩), .pointer (some ⟨i_n1, 0, none⟩), .pointer (some ⟨i_n3, 0, none⟩), .pointer (some ⟨i_n8, 0, none⟩), .pointer (some ⟨i_n10, 0, none⟩)]]))]] := S1335
                obtain ⟨F1337, hF1338, hp1339, S1340⟩ := S1336.poolRows (T := T1310) hp1312 (TSb.one (sb_len rfl (Sb.lit (n := 2) (by decide))))
                have S1341 := S1340.drop 1 rfl
                refine DR.w rfl rfl (s_app (by_ := 24) (us := tcells T1310) (vs := tcells ([((some (Addr.mk i1319 0 none)), 2, [x354, x960])])) Try.underlying43 Try.underlying43 Try.typeInfo58 Try.sizeOf58 Try.zeroValue58 rfl rfl rfl rfl rfl rfl rfl (S1326.buf (k := 2) rfl B1308 (tc_len1 t1311 rfl)) (S1326.oview (k := 1) rfl (Sb.lit (n := 1) (by decide)) (tc_len1 rfl rfl)) (tc_len1 rfl rfl) tcells_one k1327 haG1331 (show rs1302.length + 1 = (rs1302 ++ [[x354, x960]]).length from len_app (a := rs1302) (b := [[x354, x960]]) rfl rfl)) (appR_len haG1331) ?_
                have S1342 := S1341.front 0 rfl
                have S1343 := S1342.front 1 rfl
                have S1344 : St M0 H G1331 [oseg p1329 (tcells (T1310 ++ [((some (Addr.mk i1319 0 none)), 2, [x354, x960])])), F1337, [(i_n0, AObj.row false ([.int .i64 n0_0]))], [(i_n1, AObj.row false ([.slice p_n2 k_n2 c_n2]))], oseg p_n2 (bls ((bs944.set x354.toNat true).set x960.toNat true)), [(i_n3, AObj.row false ([.func (.func 77) #[] #[.pointer (some ⟨i_n4, 0, none⟩), .pointer (some ⟨i_n5, 0, none⟩), .pointer (some ⟨i_n6, 0, none⟩), .pointer (some ⟨i_n7, 0, none⟩)]]))], [(i_n4, AObj.row false ([.int .i64 x947]))], [(i_n5, AObj.row false ([.int .i64 n5_0]))], [(i_n6, AObj.row false ([.int .i64 x950]))], [(i_n7, AObj.row false ([.int .i64 x952]))], [(i_n8, AObj.row false ([.slice p_n9 k_n9 c_n9]))], oseg p_n9 (bls (bs955.set ((if n0_0 - x960 + x354 < x960 - x354 then n0_0 - x960 + x354 else x960 - x354).toNat) true)), [(i_n10, AObj.row false ([.func (.func 115) #[] #[.pointer (some ⟨i_n0, 0, none⟩), .pointer (some ⟨i_n1, 0, none⟩), .pointer (some ⟨i_n3, 0, none⟩), .pointer (some ⟨i_n8, 0, none⟩), .pointer (some ⟨i_n10, 0, none⟩)]]))]] := S1343
                obtain ⟨F1345, hF1346, hp1347, S1348⟩ := S1344.poolHdr hp1339 BS1333 (tlen (trows_apps t1311 rfl))
                obtain ⟨k1350, hd1351⟩ := chk_some hd1328
                have S1352 := S1348.front 0 rfl
                have S1353 := S1352.front 11 rfl
                have S1354 := S1353.front 11 rfl
                have S1355 := S1354.front 11 rfl
                have S1356 := S1355.front 11 rfl
                have S1357 := S1356.front 11 rfl
                have S1358 := S1357.front 11 rfl
                have S1359 := S1358.front 11 rfl
                have S1360 := S1359.front 11 rfl
                have S1361 := S1360.front 11 rfl
                have S1362 := S1361.front 11 rfl
                have S1363 := S1362.front 11 rfl
                have S1364 : St M0 H G1331 [[(i_n0, AObj.row false ([.int .i64 n0_0]))], [(i_n1, AObj.row false ([.slice p_n2 k_n2 c_n2]))], oseg p_n2 (bls ((bs944.set x354.toNat true).set x960.toNat true)), [(i_n3, AObj.row false ([.func (.func 77) #[] #[.pointer (some ⟨i_n4, 0, none⟩), .pointer (some ⟨i_n5, 0, none⟩), .pointer (some ⟨i_n6, 0, none⟩), .pointer (some ⟨i_n7, 0, none⟩)]]))], [(i_n4, AObj.row false ([.int .i64 x947]))], [(i_n5, AObj.row false ([.int .i64 n5_0]))], [(i_n6, AObj.row false ([.int .i64 x950]))], [(i_n7, AObj.row false ([.int .i64 x952]))], [(i_n8, AObj.row false ([.slice p_n9 k_n9 c_n9]))], oseg p_n9 (bls (bs955.set ((if n0_0 - x960 + x354 < x960 - x354 then n0_0 - x960 + x354 else x960 - x354).toNat) true)), [(i_n10, AObj.row false ([.func (.func 115) #[] #[.pointer (some ⟨i_n0, 0, none⟩), .pointer (some ⟨i_n1, 0, none⟩), .pointer (some ⟨i_n3, 0, none⟩), .pointer (some ⟨i_n8, 0, none⟩), .pointer (some ⟨i_n10, 0, none⟩)]]))], F1345] := S1363
                obtain ⟨⟨b1365, bs1366, x1367, x1368, x1369, bs1370⟩, h1371, hd1372⟩ := bnd_some hd1351
                obtain ⟨_, G1377, hc1379, F1373, rfl, S1378, l1374, l1375, hF1376⟩ := ih G1331 F1345 p1329 c1330 (T1310 ++ [((some (Addr.mk i1319 0 none)), 2, [x354, x960])]) (rs1302 ++ [[x354, x960]]) (trows_apps t1311 rfl) hp1347 (nil_pos2 k1350) i_n0 n0_0 i_n1 p_n2 k_n2 c_n2 ((bs944.set x354.toNat true).set x960.toNat true) (len_set (len_set lbs944)) s_n2 i_n3 i_n4 x947 i_n5 n5_0 i_n6 x950 i_n7 x952 i_n8 p_n9 k_n9 c_n9 (bs955.set ((if n0_0 - x960 + x354 < x960 - x354 then n0_0 - x960 + x354 else x960 - x354).toNat) true) (len_set lbs955) s_n9 i_n10 (St.fnodup (A := [[(i_n0, AObj.row false ([.int .i64 n0_0]))], [(i_n1, AObj.row false ([.slice p_n2 k_n2 c_n2]))], oseg p_n2 (bls ((bs944.set x354.toNat true).set x960.toNat true)), [(i_n3, AObj.row false ([.func (.func 77) #[] #[.pointer (some ⟨i_n4, 0, none⟩), .pointer (some ⟨i_n5, 0, none⟩), .pointer (some ⟨i_n6, 0, none⟩), .pointer (some ⟨i_n7, 0, none⟩)]]))], [(i_n4, AObj.row false ([.int .i64 x947]))], [(i_n5, AObj.row false ([.int .i64 n5_0]))], [(i_n6, AObj.row false ([.int .i64 x950]))], [(i_n7, AObj.row false ([.int .i64 x952]))], [(i_n8, AObj.row false ([.slice p_n9 k_n9 c_n9]))], oseg p_n9 (bls (bs955.set ((if n0_0 - x960 + x354 < x960 - x354 then n0_0 - x960 + x354 else x960 - x354).toNat) true)), [(i_n10, AObj.row false ([.func (.func 115) #[] #[.pointer (some ⟨i_n0, 0, none⟩), .pointer (some ⟨i_n1, 0, none⟩), .pointer (some ⟨i_n3, 0, none⟩), .pointer (some ⟨i_n8, 0, none⟩), .pointer (some ⟨i_n10, 0, none⟩)]]))], F1345]) S1364) (St.fmem (A := [[(i_n0, AObj.row false ([.int .i64 n0_0]))], [(i_n1, AObj.row false ([.slice p_n2 k_n2 c_n2]))], oseg p_n2 (bls ((bs944.set x354.toNat true).set x960.toNat true)), [(i_n3, AObj.row false ([.func (.func 77) #[] #[.pointer (some ⟨i_n4, 0, none⟩), .pointer (some ⟨i_n5, 0, none⟩), .pointer (some ⟨i_n6, 0, none⟩), .pointer (some ⟨i_n7, 0, none⟩)]]))], [(i_n4, AObj.row false ([.int .i64 x947]))], [(i_n5, AObj.row false ([.int .i64 n5_0]))], [(i_n6, AObj.row false ([.int .i64 x950]))], [(i_n7, AObj.row false ([.int .i64 x952]))], [(i_n8, AObj.row false ([.slice p_n9 k_n9 c_n9]))], oseg p_n9 (bls (bs955.set ((if n0_0 - x960 + x354 < x960 - x354 then n0_0 - x960 + x354 else x960 - x354).toNat) true)), [(i_n10, AObj.row false ([.func (.func 115) #[] #[.pointer (some ⟨i_n0, 0, none⟩), .pointer (some ⟨i_n1, 0, none⟩), .pointer (some ⟨i_n3, 0, none⟩), .pointer (some ⟨i_n8, 0, none⟩), .pointer (some ⟨i_n10, 0, none⟩)]]))], F1345]) S1364) b1365 bs1366 x1367 x1368 x1369 bs1370 h1371
                have S1380 := St.callM (A := [[(i_n0, AObj.row false ([.int .i64 n0_0]))], [(i_n1, AObj.row false ([.slice p_n2 k_n2 c_n2]))], oseg p_n2 (bls ((bs944.set x354.toNat true).set x960.toNat true)), [(i_n3, AObj.row false ([.func (.func 77) #[] #[.pointer (some ⟨i_n4, 0, none⟩), .pointer (some ⟨i_n5, 0, none⟩), .pointer (some ⟨i_n6, 0, none⟩), .pointer (some ⟨i_n7, 0, none⟩)]]))], [(i_n4, AObj.row false ([.int .i64 x947]))], [(i_n5, AObj.row false ([.int .i64 n5_0]))], [(i_n6, AObj.row false ([.int .i64 x950]))], [(i_n7, AObj.row false ([.int .i64 x952]))], [(i_n8, AObj.row false ([.slice p_n9 k_n9 c_n9]))], oseg p_n9 (bls (bs955.set ((if n0_0 - x960 + x354 < x960 - x354 then n0_0 - x960 + x354 else x960 - x354).toNat) true)), [(i_n10, AObj.row false ([.func (.func 115) #[] #[.pointer (some ⟨i_n0, 0, none⟩), .pointer (some ⟨i_n1, 0, none⟩), .pointer (some ⟨i_n3, 0, none⟩), .pointer (some ⟨i_n8, 0, none⟩), .pointer (some ⟨i_n10, 0, none⟩)]]))], F1345]) S1364 S1378 (fun j h => h)
                refine DR.w rfl rfl (o_callV (vs := [.slice p1329 ((rs1302 ++ [[x354, x960]]).length) c1330]) rfl rfl Try.call115 hc1379) (S1378.len) ?_
                refine DR.p rfl rfl (p_assign rfl) ?_
                refine DR.nil 10 [(0, 2), (0, 7), (5, 2), (6, 2)] hst (by kernel_rfl) ⟨(rd1 (fun _ => (S1317.get (k := 12) rfl).trans (S1299.get (k := 11) rfl).symm)), (rd1 (fun _ => (S1341.get (k := 12) rfl).trans (S1326.get (k := 14) rfl).symm)), (fun h => absurd h (by decide)), (fun h => absurd h (by decide)), trivial⟩ ?_
                refine AX.seq ?_
                refine DR.startS [false, false, false, false, false, false, false, true, false, true, false, true] mix (by kernel_rfl) (fun hst => ?_)
                refine DR.r rfl rfl (r_load rfl Try.isAgg111) (one_read (row_cell (S1380.get (k := 1) rfl) rfl) (S1380.oin (k := 2) rfl s_n2).bel) ?_
                refine DR.p rfl rfl (p_move rfl) ?_
                refine DR.r rfl rfl (r_load rfl Try.isAgg111) (one_read (row_cell (S1380.get (k := 1) rfl) rfl) (S1380.oin (k := 2) rfl s_n2).bel) ?_
                refine DR.p rfl rfl (p_move rfl) ?_
                refine DR.r rfl rfl (r_load rfl Try.isAgg111) (one_read (row_cell (S1380.get (k := 8) rfl) rfl) (S1380.oin (k := 9) rfl s_n9).bel) ?_
                refine DR.p rfl rfl (p_move rfl) ?_
                obtain ⟨k1381, hd1382⟩ := chk_some hd1372
                refine DR.p rfl rfl (s_indexV (q := x354.toNat) Try.underlying111 Try.sizeOf4 rfl (s_n2.at (inR_pos k1381)) rfl k1381 (z1 _)) ?_
                obtain ⟨G1383, hHG1383, S1384⟩ := S1380.oset (k := 2) (p := p_n2) rfl (s_n2.at (inR_pos k1381)) (bls (bs1366.set x354.toNat false))
                have S1385 : St M0 H G1383 [[(i_n0, AObj.row false ([.int .i64 n0_0]))], [(i_n1, AObj.row false ([.slice p_n2 k_n2 c_n2]))], oseg p_n2 (bls (bs1366.set x354.toNat false)), [(i_n3, AObj.row false ([.func (.func 77) #[] #[.pointer (some ⟨i_n4, 0, none⟩), .pointer (some ⟨i_n5, 0, none⟩), .pointer (some ⟨i_n6, 0, none⟩), .pointer (some ⟨i_n7, 0, none⟩)]]))], [(i_n4, AObj.row false ([.int .i64 x1367]))], [(i_n5, AObj.row false ([.int .i64 n5_0]))], [(i_n6, AObj.row false ([.int .i64 x1368]))], [(i_n7, AObj.row false ([.int .i64 x1369]))], [(i_n8, AObj.row false ([.slice p_n9 k_n9 c_n9]))], oseg p_n9 (bls bs1370), [(i_n10, AObj.row false ([.func (.func 115) #[] #[.pointer (some ⟨i_n0, 0, none⟩), .pointer (some ⟨i_n1, 0, none⟩), .pointer (some ⟨i_n3, 0, none⟩), .pointer (some ⟨i_n8, 0, none⟩), .pointer (some ⟨i_n10, 0, none⟩)]]))], F1373] := S1384
                refine DR.s rfl (s_store Try.sizeOf4 rfl rfl rfl (S1380.oat (k := 2) rfl (s_n2.at (inR_pos k1381))) (lt_len ((bls_length _).trans l1374) (inR_lt k1381)) ((congrArg (fun l => List.set _ _ (AObj.row false l)) (bls_set _ _ _)).trans hHG1383)) (set_le hHG1383) ?_
                obtain ⟨k1386, hd1387⟩ := chk_some hd1382
                refine DR.p rfl rfl (s_indexV (q := x960.toNat) Try.underlying111 Try.sizeOf4 rfl (s_n2.at (inR_pos k1386)) rfl k1386 (z1 _)) ?_
                obtain ⟨G1388, hHG1388, S1389⟩ := S1385.oset (k := 2) (p := p_n2) rfl (s_n2.at (inR_pos k1386)) (bls ((bs1366.set x354.toNat false).set x960.toNat false))
                have S1390 : St M0 H G1388 [[(i_n0, AObj.row false ([.int .i64 n0_0]))], [(i_n1, AObj.row false ([.slice p_n2 k_n2 c_n2]))], oseg p_n2 (bls ((bs1366.set x354.toNat false).set x960.toNat false)), [(i_n3, AObj.row false ([.func (.func 77) #[] #[.pointer (some ⟨i_n4, 0, none⟩), .pointer (some ⟨i_n5, 0, none⟩), .pointer (some ⟨i_n6, 0, none⟩), .pointer (some ⟨i_n7, 0, none⟩)]]))], [(i_n4, AObj.row false ([.int .i64 x1367]))], [(i_n5, AObj.row false ([.int .i64 n5_0]))], [(i_n6, AObj.row false ([.int .i64 x1368]))], [(i_n7, AObj.row false ([.int .i64 x1369]))], [(i_n8, AObj.row false ([.slice p_n9 k_n9 c_n9]))], oseg p_n9 (bls bs1370), [(i_n10, AObj.row false ([.func (.func 115) #[] #[.pointer (some ⟨i_n0, 0, none⟩), .pointer (some ⟨i_n1, 0, none⟩), .pointer (some ⟨i_n3, 0, none⟩), .pointer (some ⟨i_n8, 0, none⟩), .pointer (some ⟨i_n10, 0, none⟩)]]))], F1373] := S1389
                refine DR.s rfl (s_store Try.sizeOf4 rfl rfl rfl (S1385.oat (k := 2) rfl (s_n2.at (inR_pos k1386))) (lt_len ((bls_length _).trans (len_set l1374)) (inR_lt k1386)) ((congrArg (fun l => List.set _ _ (AObj.row false l)) (bls_set _ _ _)).trans hHG1388)) (set_le hHG1388) ?_
                obtain ⟨k1391, hd1392⟩ := chk_some hd1387
                refine DR.p rfl rfl (s_indexV (q := (if n0_0 - x960 + x354 < x960 - x354 then n0_0 - x960 + x354 else x960 - x354).toNat) Try.underlying111 Try.sizeOf4 rfl (s_n9.at (inR_pos k1391)) rfl k1391 (z1 _)) ?_
                obtain ⟨G1393, hHG1393, S1394⟩ := S1390.oset (k := 9) (p := p_n9) rfl (s_n9.at (inR_pos k1391)) (bls (bs1370.set ((if n0_0 - x960 + x354 < x960 - x354 then n0_0 - x960 + x354 else x960 - x354).toNat) false))
                have S1395 : St M0 H G1393 [[(i_n0, AObj.row false ([.int .i64 n0_0]))], [(i_n1, AObj.row false ([.slice p_n2 k_n2 c_n2]))], oseg p_n2 (bls ((bs1366.set x354.toNat false).set x960.toNat false)), [(i_n3, AObj.row false ([.func (.func 77) #[] #[.pointer (some ⟨i_n4, 0, none⟩), .pointer (some ⟨i_n5, 0, none⟩), .pointer (some ⟨i_n6, 0, none⟩), .pointer (some ⟨i_n7, 0, none⟩)]]))], [(i_n4, AObj.row false ([.int .i64 x1367]))], [(i_n5, AObj.row false ([.int .i64 n5_0]))], [(i_n6, AObj.row false ([.int .i64 x1368]))], [(i_n7, AObj.row false ([.int .i64 x1369]))], [(i_n8, AObj.row false ([.slice p_n9 k_n9 c_n9]))], oseg p_n9 (bls (bs1370.set ((if n0_0 - x960 + x354 < x960 - x354 then n0_0 - x960 + x354 else x960 - x354).toNat) false)), [(i_n10, AObj.row false ([.func (.func 115) #[] #[.pointer (some ⟨i_n0, 0, none⟩), .pointer (some ⟨i_n1, 0, none⟩), .pointer (some ⟨i_n3, 0, none⟩), .pointer (some ⟨i_n8, 0, none⟩), .pointer (some ⟨i_n10, 0, none⟩)]]))], F1373] := S1394
                refine DR.s rfl (s_store Try.sizeOf4 rfl rfl rfl (S1390.oat (k := 9) rfl (s_n9.at (inR_pos k1391))) (lt_len ((bls_length _).trans l1375) (inR_lt k1391)) ((congrArg (fun l => List.set _ _ (AObj.row false l)) (bls_set _ _ _)).trans hHG1393)) (set_le hHG1393) ?_
                refine DR.nil 12 [(2, 7), (4, 7), (4, 9)] hst (by kernel_rfl) ⟨(rd1 (fun _ => (S1385.get (k := 1) rfl).trans (S1380.get (k := 1) rfl).symm)), (rd1 (fun _ => (S1385.get (k := 8) rfl).trans (S1380.get (k := 8) rfl).symm)), (rd1 (fun _ => (S1390.get (k := 8) rfl).trans (S1385.get (k := 8) rfl).symm)), trivial⟩ ?_
                refine AX.seq ?_
                refine AX.region ?_
                refine AO.p rfl (p_move rfl) ?_
                refine AO.p rfl (p_not rfl) ?_
                refine AO.nil ?_
                refine AX.cond rfl (fun c1396 => ?_) (fun c1396 => ?_)
                · have hd1397 := bif_t c1396 hd1392
                  refine AX.seq ?_
                  refine AX.region ?_
                  refine AO.p rfl (p_assign rfl) ?_
                  refine AO.nil ?_
                  refine AX.ret ?_
                  obtain rfl := some_inj hd1397
                  have z1398 : _ = r1177 := hk1194
                  subst z1398
                  obtain ⟨rfl, z1399⟩ := Prod.mk.inj (some_inj hd1179)
                  obtain ⟨rfl, z1400⟩ := Prod.mk.inj z1399
                  obtain ⟨rfl, z1401⟩ := Prod.mk.inj z1400
                  obtain ⟨rfl, z1402⟩ := Prod.mk.inj z1401
                  obtain ⟨rfl, rfl⟩ := Prod.mk.inj z1402
                  have S1404 := S1395.front 11 rfl
                  have S1405 := S1404.front 11 rfl
                  have S1406 := S1405.front 11 rfl
                  have S1407 := S1406.front 11 rfl
                  have S1408 := S1407.front 11 rfl
                  have S1409 := S1408.front 11 rfl
                  have S1410 := S1409.front 11 rfl
                  have S1411 := S1410.front 11 rfl
                  have S1412 := S1411.front 11 rfl
                  have S1413 := S1412.front 11 rfl
                  have S1414 := S1413.front 11 rfl
                  have S1415 := S1414.front 11 rfl
                  exact ⟨.inr rfl, _, res1 rfl (rv_tmp rfl), F1373, rfl, S1415, (len_set (len_set l1374)), (len_set l1375), ((((hF1214.mono hF1313).mono hF1338).mono hF1346).mono hF1376)⟩
                · have hd1416 := bif_f c1396 hd1392
                  refine AX.skip ?_
                  refine AX.region ?_
                  refine AO.p rfl (p_move rfl) ?_
                  obtain ⟨k1417, hd1418⟩ := chk_some hd1416
                  refine AO.p rfl (p_addE rfl rfl k1417) ?_
                  refine AO.p rfl (p_assign rfl) ?_
                  refine AO.nil ?_
                  obtain rfl := some_inj hd1418
                  have S1420 := S1395.front 10 rfl
                  have S1421 := S1420.front 10 rfl
                  have S1422 := S1421.front 10 rfl
                  have S1423 := S1422.front 10 rfl
                  have S1424 := S1423.front 10 rfl
                  have S1425 := S1424.front 10 rfl
                  have S1426 := S1425.front 10 rfl
                  have S1427 := S1426.front 10 rfl
                  have S1428 := S1427.front 10 rfl
                  have S1429 := S1428.front 10 rfl
                  have S1430 := S1429.front 10 rfl
                  have S1431 := S1430.front 11 rfl
                  exact ⟨(((bs1366.set x354.toNat false).set x960.toNat false), x1367, x1368, x1369, (bs1370.set ((if n0_0 - x960 + x354 < x960 - x354 then n0_0 - x960 + x354 else x960 - x354).toNat) false), x960 + 1), hk1194, ((bs1366.set x354.toNat false).set x960.toNat false), x1367, x1368, x1369, (bs1370.set ((if n0_0 - x960 + x354 < x960 - x354 then n0_0 - x960 + x354 else x960 - x354).toNat) false), (x960 + 1), F1373, rfl, S1431, ((((hF1214.mono hF1313).mono hF1338).mono hF1346).mono hF1376), (len_set (len_set l1374)), (len_set l1375), ((((hv1227.mono hF1313).mono hF1338).mono hF1346).mono hF1376), nl1228, Sub.cons' rfl rfl (Sub.cons' rfl rfl (Sub.cons' rfl rfl (Sub.cons' rfl rfl (Sub.cons' rfl rfl (Sub.cons' rfl rfl (Sub.cons' rfl rfl (Sub.nil _)))))))⟩
          · have hd1432 := bif_f c1199 ho1193
            refine AX.exit ?_
            obtain rfl := some_inj hd1432
            have S1433 := S1195.front 11 rfl
            have S1434 := S1433.front 11 rfl
            have S1435 := S1434.front 11 rfl
            have S1436 := S1435.front 11 rfl
            have S1437 := S1436.front 11 rfl
            have S1438 := S1437.front 11 rfl
            have S1439 := S1438.front 11 rfl
            have S1440 := S1439.front 11 rfl
            have S1441 := S1440.front 11 rfl
            have S1442 := S1441.front 11 rfl
            have S1443 := S1442.front 11 rfl
            have S1444 := S1443.front 11 rfl
            exact ⟨bs944, x947, x950, x952, bs955, F939, hk1194, S1444, hF940, lbs944, lbs955, Sub.nil _⟩
      · rintro t' G1446 ⟨bs1164, x1167, x1170, x1172, bs1175, F1159, rfl, S1445, hF1160, lbs1164, lbs1175, hsub1447⟩
        refine ⟨_, hsub1447, ?_⟩
        refine AX.seq ?_
        refine AX.region ?_
        refine AO.p rfl (p_assign rfl) ?_
        refine AO.nil ?_
        refine AX.ret ?_
        obtain ⟨rfl, z1448⟩ := Prod.mk.inj (some_inj hd1179)
        obtain ⟨rfl, z1449⟩ := Prod.mk.inj z1448
        obtain ⟨rfl, z1450⟩ := Prod.mk.inj z1449
        obtain ⟨rfl, z1451⟩ := Prod.mk.inj z1450
        obtain ⟨rfl, rfl⟩ := Prod.mk.inj z1451
        have S1453 := S1445.front 0 rfl
        have S1454 := S1453.front 11 rfl
        have S1455 := S1454.front 11 rfl
        have S1456 := S1455.front 11 rfl
        have S1457 := S1456.front 11 rfl
        have S1458 := S1457.front 11 rfl
        have S1459 := S1458.front 11 rfl
        have S1460 := S1459.front 11 rfl
        have S1461 := S1460.front 11 rfl
        have S1462 := S1461.front 11 rfl
        have S1463 := S1462.front 11 rfl
        have S1464 := S1463.front 11 rfl
        exact ⟨.inr rfl, _, res1 rfl (rv_tmp rfl), F1159, rfl, S1464, lbs1164, lbs1175, hF1160⟩

set_option maxHeartbeats 4000000 in
theorem W_impl_starters__impl_CountStarters_1 (fu : Nat) (H : AHeap) (F : Sg) (a0 : Int) (i_n0 : Nat) (n0_0 : Int) (i_n1 : Nat) (n1_0 : Int) (i_n2 : Nat) (n2_0 : Int) (i_n3 : Nat) (n3_0 : Int) (hn : (([[(i_n0, AObj.row false ([.int .i64 n0_0]))], [(i_n1, AObj.row false ([.int .i64 n1_0]))], [(i_n2, AObj.row false ([.int .i64 n2_0]))], [(i_n3, AObj.row false ([.int .i64 n3_0]))], F] : List Sg).flatten.map (·.1)).Nodup) (ho : ∀ x ∈ ([[(i_n0, AObj.row false ([.int .i64 n0_0]))], [(i_n1, AObj.row false ([.int .i64 n1_0]))], [(i_n2, AObj.row false ([.int .i64 n2_0]))], [(i_n3, AObj.row false ([.int .i64 n3_0]))], F] : List Sg).flatten, x.1 < H.length ∧ hget H x.1 = x.2) (m_n0_0 : Int) (m_n2_0 : Int) (m_n3_0 : Int) (hd : D_impl_starters__impl_CountStarters_1 fu a0 n0_0 n1_0 n2_0 n3_0 = some (m_n0_0, m_n2_0, m_n3_0)) : ∃ v G', ACall Try.prog 59 [.int .i64 a0, .func (.func 77) #[] #[.pointer (some ⟨i_n0, 0, none⟩), .pointer (some ⟨i_n1, 0, none⟩), .pointer (some ⟨i_n2, 0, none⟩), .pointer (some ⟨i_n3, 0, none⟩)]] H v G' ∧ ∃ (F' : Sg), (v = .tuple #[]) ∧ St (([[(i_n0, AObj.row false ([.int .i64 n0_0]))], [(i_n1, AObj.row false ([.int .i64 n1_0]))], [(i_n2, AObj.row false ([.int .i64 n2_0]))], [(i_n3, AObj.row false ([.int .i64 n3_0]))], F] : List Sg).flatten.map (·.1)) H G' [[(i_n0, AObj.row false ([.int .i64 m_n0_0]))], [(i_n1, AObj.row false ([.int .i64 n1_0]))], [(i_n2, AObj.row false ([.int .i64 m_n2_0]))], [(i_n3, AObj.row false ([.int .i64 m_n3_0]))], F'] ∧ Pin F' F := by
  refine ACall.bodyX (args := [.int .i64 a0, .func (.func 77) #[] #[.pointer (some ⟨i_n0, 0, none⟩), .pointer (some ⟨i_n1, 0, none⟩), .pointer (some ⟨i_n2, 0, none⟩), .pointer (some ⟨i_n3, 0, none⟩)]]) (N := 14) [(0, .int .i64 a0), (1, .func (.func 77) #[] #[.pointer (some ⟨i_n0, 0, none⟩), .pointer (some ⟨i_n1, 0, none⟩), .pointer (some ⟨i_n2, 0, none⟩), .pointer (some ⟨i_n3, 0, none⟩)])] (fun v G' => ∃ (F' : Sg), (v = .tuple #[]) ∧ St (([[(i_n0, AObj.row false ([.int .i64 n0_0]))], [(i_n1, AObj.row false ([.int .i64 n1_0]))], [(i_n2, AObj.row false ([.int .i64 n2_0]))], [(i_n3, AObj.row false ([.int .i64 n3_0]))], F] : List Sg).flatten.map (·.1)) H G' [[(i_n0, AObj.row false ([.int .i64 m_n0_0]))], [(i_n1, AObj.row false ([.int .i64 n1_0]))], [(i_n2, AObj.row false ([.int .i64 m_n2_0]))], [(i_n3, AObj.row false ([.int .i64 m_n3_0]))], F'] ∧ Pin F' F) Try.func59 rfl rfl rfl rfl ?_
  unfold D_impl_starters__impl_CountStarters_1 at hd
  have S0 := St.initF hn ho
  generalize hM0 : (([[(i_n0, AObj.row false ([.int .i64 n0_0]))], [(i_n1, AObj.row false ([.int .i64 n1_0]))], [(i_n2, AObj.row false ([.int .i64 n2_0]))], [(i_n3, AObj.row false ([.int .i64 n3_0]))], F] : List Sg).flatten.map (·.1)) = M0 at S0 ⊢
  refine AX.seq ?_
  refine AX.region ?_
  obtain ⟨G100, i101, hii101, hHG100, S102⟩ := S0.new (AObj.row false ([.int .i64 a0]))
  refine AO.c rfl (s_box (i := i101) (cs := [.int .i64 a0]) rfl hii101 rfl hHG100) ?_
  obtain ⟨G104, i105, hii105, hHG104, S106⟩ := S102.new (AObj.row false ([.func (.func 77) #[] #[.pointer (some ⟨i_n0, 0, none⟩), .pointer (some ⟨i_n1, 0, none⟩), .pointer (some ⟨i_n2, 0, none⟩), .pointer (some ⟨i_n3, 0, none⟩)]]))
  refine AO.c rfl (s_box (i := i105) (cs := [.func (.func 77) #[] #[.pointer (some ⟨i_n0, 0, none⟩), .pointer (some ⟨i_n1, 0, none⟩), .pointer (some ⟨i_n2, 0, none⟩), .pointer (some ⟨i_n3, 0, none⟩)]]) rfl hii105 rfl hHG104) ?_
  refine AO.nil ?_
  refine AX.seq ?_
  refine DR.startS [false, false, false, false, false, false, true, true] mix (by kernel_rfl) (fun hst => ?_)
  refine DR.r rfl rfl (r_load rfl Try.isAgg2) (one_read (row_cell (S106.get (k := 1) rfl) rfl) (.of_flat0 rfl)) ?_
  obtain ⟨k108, hd109⟩ := chk_some hd
  obtain ⟨G110, i111, hii111, hHG110, S112⟩ := S106.new (AObj.row false (bls (List.replicate a0.toNat false)))
  refine DR.a rfl rfl hii111 hHG110 (a_make1 (v := .bool false) (by_ := 1) Try.underlying111 Try.typeInfo4 Try.sizeOf4 Try.zeroValue4 rfl rfl rfl rfl rfl rfl k108 bls_rep) ?_
  refine DR.r rfl rfl (r_load rfl Try.isAgg2) (one_read (row_cell (S112.get (k := 2) rfl) rfl) (.of_flat0 rfl)) ?_
  obtain ⟨k114, hd115⟩ := chk_some hd109
  obtain ⟨G116, i117, hii117, hHG116, S118⟩ := S112.new (AObj.row false (bls (List.replicate a0.toNat false)))
  refine DR.a rfl rfl hii117 hHG116 (a_make1 (v := .bool false) (by_ := 1) Try.underlying111 Try.typeInfo4 Try.sizeOf4 Try.zeroValue4 rfl rfl rfl rfl rfl rfl k114 bls_rep) ?_
  obtain ⟨G120, i121, hii121, hHG120, S122⟩ := S118.new (AObj.row false ([.slice none 0 0]))
  refine DR.a rfl rfl hii121 hHG120 (a_alloc Try.zeroValue111 (flat_list rfl)) ?_
  obtain ⟨G124, i125, hii125, hHG124, S126⟩ := S122.new (AObj.row false ([.slice none 0 0]))
  refine DR.a rfl rfl hii125 hHG124 (a_alloc Try.zeroValue111 (flat_list rfl)) ?_
  obtain ⟨G128, hHG128, S129⟩ := S126.set (k := 1) (i := i121) rfl (AObj.row false ([.slice (some (Addr.mk i111 0 none)) a0.toNat a0.toNat]))
  have S130 : St M0 H G128 [[(i125, AObj.row false ([.slice none 0 0]))], [(i121, AObj.row false ([.slice (some (Addr.mk i111 0 none)) a0.toNat a0.toNat]))], [(i117, AObj.row false (bls (List.replicate a0.toNat false)))], [(i111, AObj.row false (bls (List.replicate a0.toNat false)))], [(i105, AObj.row false ([.func (.func 77) #[] #[.pointer (some ⟨i_n0, 0, none⟩), .pointer (some ⟨i_n1, 0, none⟩), .pointer (some ⟨i_n2, 0, none⟩), .pointer (some ⟨i_n3, 0, none⟩)]]))], [(i101, AObj.row false ([.int .i64 a0]))], [(i_n0, AObj.row false ([.int .i64 n0_0]))], [(i_n1, AObj.row false ([.int .i64 n1_0]))], [(i_n2, AObj.row false ([.int .i64 n2_0]))], [(i_n3, AObj.row false ([.int .i64 n3_0]))], F] := S129
  refine DR.s rfl (s_store Try.sizeOf111 rfl rfl rfl (S126.get (k := 1) rfl) (Nat.le_of_ble_eq_true rfl) hHG128) (set_le hHG128) ?_
  obtain ⟨G131, hHG131, S132⟩ := S130.set (k := 0) (i := i125) rfl (AObj.row false ([.slice (some (Addr.mk i117 0 none)) a0.toNat a0.toNat]))
  have S133 : St M0 H G131 [[(i125, AObj.row false ([.slice (some (Addr.mk i117 0 none)) a0.toNat a0.toNat]))], [(i121, AObj.row false ([.slice (some (Addr.mk i111 0 none)) a0.toNat a0.toNat]))], [(i117, AObj.row false (bls (List.replicate a0.toNat false)))], [(i111, AObj.row false (bls (List.replicate a0.toNat false)))], [(i105, AObj.row false ([.func (.func 77) #[] #[.pointer (some ⟨i_n0, 0, none⟩), .pointer (some ⟨i_n1, 0, none⟩), .pointer (some ⟨i_n2, 0, none⟩), .pointer (some ⟨i_n3, 0, none⟩)]]))], [(i101, AObj.row false ([.int .i64 a0]))], [(i_n0, AObj.row false ([.int .i64 n0_0]))], [(i_n1, AObj.row false ([.int .i64 n1_0]))], [(i_n2, AObj.row false ([.int .i64 n2_0]))], [(i_n3, AObj.row false ([.int .i64 n3_0]))], F] := S132
  refine DR.s rfl (s_store Try.sizeOf111 rfl rfl rfl (S130.get (k := 0) rfl) (Nat.le_of_ble_eq_true rfl) hHG131) (set_le hHG131) ?_
  refine DR.nil 8 [(2, 6), (3, 6)] hst (by kernel_rfl) ⟨(rd1 (fun _ => (S130.get (k := 5) rfl).trans (S126.get (k := 5) rfl).symm)), (fun _ => by rw [hii117]; exact (S130.get (k := 2) rfl).trans (S126.get (k := 2) rfl).symm), trivial⟩ ?_
  refine AX.seq ?_
  refine AX.region ?_
  obtain ⟨G134, i135, hii135, hHG134, S136⟩ := S133.new (AObj.row false ([.nilFunc]))
  refine AO.c rfl (s_alloc (i := i135) (cs := [.nilFunc]) Try.zeroValue76 rfl rfl hii135 hHG134) ?_
  refine AO.nil ?_
  refine AX.seq ?_
  refine AX.region ?_
  refine AO.p rfl (p_makeFunc (fs := []) (cs := [.pointer (some ⟨i101, 0, none⟩), .pointer (some ⟨i121, 0, none⟩), .pointer (some ⟨i105, 0, none⟩), .pointer (some ⟨i125, 0, none⟩), .pointer (some ⟨i135, 0, none⟩)]) rfl rfl) ?_
  obtain ⟨G138, hHG138, S139⟩ := S136.set (k := 0) (i := i135) rfl (AObj.row false ([.func (.func 115) #[] #[.pointer (some ⟨i101, 0, none⟩), .pointer (some ⟨i121, 0, none⟩), .pointer (some ⟨i105, 0, none⟩), .pointer (some ⟨i125, 0, none⟩), .pointer (some ⟨i135, 0, none⟩)]]))
  have S140 : St M0 H G138 [[(i135, AObj.row false ([.func (.func 115) #[] #[.pointer (some ⟨i101, 0, none⟩), .pointer (some ⟨i121, 0, none⟩), .pointer (some ⟨i105, 0, none⟩), .pointer (some ⟨i125, 0, none⟩), .pointer (some ⟨i135, 0, none⟩)]]))], [(i125, AObj.row false ([.slice (some (Addr.mk i117 0 none)) a0.toNat a0.toNat]))], [(i121, AObj.row false ([.slice (some (Addr.mk i111 0 none)) a0.toNat a0.toNat]))], [(i117, AObj.row false (bls (List.replicate a0.toNat false)))], [(i111, AObj.row false (bls (List.replicate a0.toNat false)))], [(i105, AObj.row false ([.func (.func 77) #[] #[.pointer (some ⟨i_n0, 0, none⟩), .pointer (some ⟨i_n1, 0, none⟩), .pointer (some ⟨i_n2, 0, none⟩), .pointer (some ⟨i_n3, 0, none⟩)]]))], [(i101, AObj.row false ([.int .i64 a0]))], [(i_n0, AObj.row false ([.int .i64 n0_0]))], [(i_n1, AObj.row false ([.int .i64 n1_0]))], [(i_n2, AObj.row false ([.int .i64 n2_0]))], [(i_n3, AObj.row false ([.int .i64 n3_0]))], F] := S139
  refine AO.s (s_store Try.sizeOf76 rfl rfl rfl (S136.get (k := 0) rfl) (Nat.le_of_ble_eq_true rfl) hHG138) ?_
  refine AO.nil ?_
  refine AX.region ?_
  refine AO.c rfl (s_load Try.isAgg76 rfl (row_cell (S140.get (k := 0) rfl) rfl)) ?_
  have S142 := S140.front 11 rfl
  have S143 := S142.front 1 rfl
  have S144 := S143.front 4 rfl
  have S145 := S144.front 3 rfl
  have S146 := S145.front 11 rfl
  have S147 := S146.front 11 rfl
  have S148 := S147.front 11 rfl
  have S149 := S148.front 11 rfl
  have S150 := S149.front 10 rfl
  have S151 := S150.front 10 rfl
  have S152 := S151.front 10 rfl
  have S153 := S152.front 11 rfl
  have S154 : St M0 H G138 [[(i101, AObj.row false ([.int .i64 a0]))], [(i121, AObj.row false ([.slice (some (Addr.mk i111 0 none)) a0.toNat a0.toNat]))], [(i111, AObj.row false (bls (List.replicate a0.toNat false)))], [(i105, AObj.row false ([.func (.func 77) #[] #[.pointer (some ⟨i_n0, 0, none⟩), .pointer (some ⟨i_n1, 0, none⟩), .pointer (some ⟨i_n2, 0, none⟩), .pointer (some ⟨i_n3, 0, none⟩)]]))], [(i_n0, AObj.row false ([.int .i64 n0_0]))], [(i_n1, AObj.row false ([.int .i64 n1_0]))], [(i_n2, AObj.row false ([.int .i64 n2_0]))], [(i_n3, AObj.row false ([.int .i64 n3_0]))], [(i125, AObj.row false ([.slice (some (Addr.mk i117 0 none)) a0.toNat a0.toNat]))], [(i117, AObj.row false (bls (List.replicate a0.toNat false)))], [(i135, AObj.row false ([.func (.func 115) #[] #[.pointer (some ⟨i101, 0, none⟩), .pointer (some ⟨i121, 0, none⟩), .pointer (some ⟨i105, 0, none⟩), .pointer (some ⟨i125, 0, none⟩), .pointer (some ⟨i135, 0, none⟩)]]))], F] := S153
  obtain ⟨⟨b155, bs156, x157, x158, x159, bs160⟩, h161, hd162⟩ := bnd_some hd115
  obtain ⟨_, G167, hc169, F163, rfl, S168, l164, l165, hF166⟩ := W_impl_starters_1__impl_CountStarters_1 fu G138 F none 0 [] [] rfl PT.nil (fun _ => rfl) i101 a0 i121 (some (Addr.mk i111 0 none)) a0.toNat a0.toNat (List.replicate a0.toNat false) len_rep (Sb.lit (mkcap k108)) i105 i_n0 n0_0 i_n1 n1_0 i_n2 n2_0 i_n3 n3_0 i125 (some (Addr.mk i117 0 none)) a0.toNat a0.toNat (List.replicate a0.toNat false) len_rep (Sb.lit (mkcap k114)) i135 (St.fnodup (A := [[(i101, AObj.row false ([.int .i64 a0]))], [(i121, AObj.row false ([.slice (some (Addr.mk i111 0 none)) a0.toNat a0.toNat]))], [(i111, AObj.row false (bls (List.replicate a0.toNat false)))], [(i105, AObj.row false ([.func (.func 77) #[] #[.pointer (some ⟨i_n0, 0, none⟩), .pointer (some ⟨i_n1, 0, none⟩), .pointer (some ⟨i_n2, 0, none⟩), .pointer (some ⟨i_n3, 0, none⟩)]]))], [(i_n0, AObj.row false ([.int .i64 n0_0]))], [(i_n1, AObj.row false ([.int .i64 n1_0]))], [(i_n2, AObj.row false ([.int .i64 n2_0]))], [(i_n3, AObj.row false ([.int .i64 n3_0]))], [(i125, AObj.row false ([.slice (some (Addr.mk i117 0 none)) a0.toNat a0.toNat]))], [(i117, AObj.row false (bls (List.replicate a0.toNat false)))], [(i135, AObj.row false ([.func (.func 115) #[] #[.pointer (some ⟨i101, 0, none⟩), .pointer (some ⟨i121, 0, none⟩), .pointer (some ⟨i105, 0, none⟩), .pointer (some ⟨i125, 0, none⟩), .pointer (some ⟨i135, 0, none⟩)]]))], F]) S154) (St.fmem (A := [[(i101, AObj.row false ([.int .i64 a0]))], [(i121, AObj.row false ([.slice (some (Addr.mk i111 0 none)) a0.toNat a0.toNat]))], [(i111, AObj.row false (bls (List.replicate a0.toNat false)))], [(i105, AObj.row false ([.func (.func 77) #[] #[.pointer (some ⟨i_n0, 0, none⟩), .pointer (some ⟨i_n1, 0, none⟩), .pointer (some ⟨i_n2, 0, none⟩), .pointer (some ⟨i_n3, 0, none⟩)]]))], [(i_n0, AObj.row false ([.int .i64 n0_0]))], [(i_n1, AObj.row false ([.int .i64 n1_0]))], [(i_n2, AObj.row false ([.int .i64 n2_0]))], [(i_n3, AObj.row false ([.int .i64 n3_0]))], [(i125, AObj.row false ([.slice (some (Addr.mk i117 0 none)) a0.toNat a0.toNat]))], [(i117, AObj.row false (bls (List.replicate a0.toNat false)))], [(i135, AObj.row false ([.func (.func 115) #[] #[.pointer (some ⟨i101, 0, none⟩), .pointer (some ⟨i121, 0, none⟩), .pointer (some ⟨i105, 0, none⟩), .pointer (some ⟨i125, 0, none⟩), .pointer (some ⟨i135, 0, none⟩)]]))], F]) S154) b155 bs156 x157 x158 x159 bs160 h161
  have S170 := St.callM (A := [[(i101, AObj.row false ([.int .i64 a0]))], [(i121, AObj.row false ([.slice (some (Addr.mk i111 0 none)) a0.toNat a0.toNat]))], [(i111, AObj.row false (bls (List.replicate a0.toNat false)))], [(i105, AObj.row false ([.func (.func 77) #[] #[.pointer (some ⟨i_n0, 0, none⟩), .pointer (some ⟨i_n1, 0, none⟩), .pointer (some ⟨i_n2, 0, none⟩), .pointer (some ⟨i_n3, 0, none⟩)]]))], [(i_n0, AObj.row false ([.int .i64 n0_0]))], [(i_n1, AObj.row false ([.int .i64 n1_0]))], [(i_n2, AObj.row false ([.int .i64 n2_0]))], [(i_n3, AObj.row false ([.int .i64 n3_0]))], [(i125, AObj.row false ([.slice (some (Addr.mk i117 0 none)) a0.toNat a0.toNat]))], [(i117, AObj.row false (bls (List.replicate a0.toNat false)))], [(i135, AObj.row false ([.func (.func 115) #[] #[.pointer (some ⟨i101, 0, none⟩), .pointer (some ⟨i121, 0, none⟩), .pointer (some ⟨i105, 0, none⟩), .pointer (some ⟨i125, 0, none⟩), .pointer (some ⟨i135, 0, none⟩)]]))], F]) S154 S168 (fun j h => h)
  refine AO.c rfl (o_callV (vs := [.slice none 0 0]) rfl rfl Try.call115 hc169) ?_
  refine AO.nil ?_
  obtain ⟨rfl, z171⟩ := Prod.mk.inj (some_inj hd162)
  obtain ⟨rfl, rfl⟩ := Prod.mk.inj z171
  have S173 := S170.front 11 rfl
  have S174 := S173.front 8 rfl
  have S175 := S174.front 8 rfl
  have S176 := S175.front 8 rfl
  have S177 := S176.front 8 rfl
  have S178 := S177.keep 5
  exact ⟨.inl rfl, _, res_none rfl, F163, rfl, S178, ((Pin.refl F).mono hF166)⟩

set_option maxHeartbeats 4000000 in
theorem W_impl_CountStarters (fu : Nat) (H : AHeap) (a0 : Int) (r0 : Int) (r1 : Int) (r2 : Int) (r3 : Int) (hd : D_impl_CountStarters fu a0 = some (r0, r1, r2, r3)) : ACall Try.prog 23 [.int .i64 a0] H (.tuple #[.int .i64 r0, .int .i64 r1, .int .i64 r2, .int .i64 r3]) H := by
  refine ACall.bodyP (N := 18) [(0, .int .i64 a0)] Try.func23 rfl rfl rfl rfl ?_
  unfold D_impl_CountStarters at hd
  have S0 : St [] H H [] := St.nil H
  have S0 := S0.poolNew
  refine AX.seq ?_
  refine AX.region ?_
  obtain ⟨G100, i101, hii101, hHG100, S102⟩ := S0.new (AObj.row false ([.int .i64 a0]))
  refine AO.c rfl (s_box (i := i101) (cs := [.int .i64 a0]) rfl hii101 rfl hHG100) ?_
  refine AO.p rfl (p_assign rfl) ?_
  refine AO.p rfl (p_assign rfl) ?_
  refine AO.p rfl (p_assign rfl) ?_
  refine AO.p rfl (p_assign rfl) ?_
  refine AO.nil ?_
  refine AX.seq ?_
  refine AX.seq ?_
  refine AX.region ?_
  refine AO.c rfl (s_load Try.isAgg2 rfl (row_cell (S102.get (k := 0) rfl) rfl)) ?_
  obtain ⟨b104, h105, hd106⟩ := bnd_some hd
  refine AO.c rfl (o_call (vs := [.int .i64 a0]) rfl Try.call58 (W_impl_isModulus fu G100 a0 b104 h105)) ?_
  refine AO.p rfl (p_not rfl) ?_
  refine AO.nil ?_
  refine AX.cond rfl (fun c108 => ?_) (fun c108 => ?_)
  · have hd109 := bif_t c108 hd106
    refine AX.seq ?_
    refine AX.region ?_
    refine AO.p rfl (p_assign rfl) ?_
    refine AO.p rfl (p_assign rfl) ?_
    refine AO.p rfl (p_assign rfl) ?_
    refine AO.p rfl (p_assign rfl) ?_
    refine AO.nil ?_
    refine AX.ret ?_
    obtain ⟨rfl, z110⟩ := Prod.mk.inj (some_inj hd109)
    obtain ⟨rfl, z111⟩ := Prod.mk.inj z110
    obtain ⟨rfl, rfl⟩ := Prod.mk.inj z111
    exact ⟨.inr rfl, _, res4 rfl (rv_tmp rfl) (rv_tmp rfl) (rv_tmp rfl) (rv_tmp rfl), rfl, (flat_t4 (flatB_ok rfl) (flatB_ok rfl) (flatB_ok rfl) (flatB_ok rfl)), S102.hold⟩
  · have hd113 := bif_f c108 hd106
    refine AX.skip ?_
    refine AX.seq ?_
    refine AX.region ?_
    obtain ⟨G114, i115, hii115, hHG114, S116⟩ := S102.new (AObj.row false ([.int .i64 0]))
    refine AO.c rfl (s_alloc (i := i115) (cs := [.int .i64 0]) Try.zeroValue2 rfl rfl hii115 hHG114) ?_
    obtain ⟨G118, i119, hii119, hHG118, S120⟩ := S116.new (AObj.row false ([.int .i64 0]))
    refine AO.c rfl (s_alloc (i := i119) (cs := [.int .i64 0]) Try.zeroValue2 rfl rfl hii119 hHG118) ?_
    obtain ⟨G122, i123, hii123, hHG122, S124⟩ := S120.new (AObj.row false ([.int .i64 0]))
    refine AO.c rfl (s_alloc (i := i123) (cs := [.int .i64 0]) Try.zeroValue2 rfl rfl hii123 hHG122) ?_
    obtain ⟨G126, hHG126, S127⟩ := S124.set (k := 2) (i := i115) rfl (AObj.row false ([.int .i64 0]))
    refine AO.s (s_store Try.sizeOf2 rfl rfl rfl (S124.get (k := 2) rfl) (Nat.le_of_ble_eq_true rfl) hHG126) ?_
    obtain ⟨G128, hHG128, S129⟩ := S127.set (k := 1) (i := i119) rfl (AObj.row false ([.int .i64 0]))
    refine AO.s (s_store Try.sizeOf2 rfl rfl rfl (S127.get (k := 1) rfl) (Nat.le_of_ble_eq_true rfl) hHG128) ?_
    obtain ⟨G130, hHG130, S131⟩ := S129.set (k := 0) (i := i123) rfl (AObj.row false ([.int .i64 0]))
    refine AO.s (s_store Try.sizeOf2 rfl rfl rfl (S129.get (k := 0) rfl) (Nat.le_of_ble_eq_true rfl) hHG130) ?_
    refine AO.nil ?_
    refine AX.seq ?_
    refine AX.region ?_
    refine AO.c rfl (s_load Try.isAgg2 rfl (row_cell (S131.get (k := 3) rfl) rfl)) ?_
    refine AO.p rfl (p_makeFunc (fs := []) (cs := [.pointer (some ⟨i115, 0, none⟩), .pointer (some ⟨i101, 0, none⟩), .pointer (some ⟨i119, 0, none⟩), .pointer (some ⟨i123, 0, none⟩)]) rfl rfl) ?_
    have S132 := S131.front 4 rfl
    have S133 := S132.front 1 rfl
    have S134 := S133.front 2 rfl
    have S135 := S134.front 4 rfl
    have S136 := S135.front 4 rfl
    obtain ⟨⟨x137, x138, x139⟩, h140, hd141⟩ := bnd_some hd113
    obtain ⟨_, G144, hc146, F142, rfl, S145, hF143⟩ := W_impl_starters__impl_CountStarters_1 fu G130 ([] : Sg) a0 i115 0 i101 a0 i119 0 i123 0 (St.fnodup (A := [[(i115, AObj.row false ([.int .i64 0]))], [(i101, AObj.row false ([.int .i64 a0]))], [(i119, AObj.row false ([.int .i64 0]))], [(i123, AObj.row false ([.int .i64 0]))], ([] : Sg)]) S136) (St.fmem (A := [[(i115, AObj.row false ([.int .i64 0]))], [(i101, AObj.row false ([.int .i64 a0]))], [(i119, AObj.row false ([.int .i64 0]))], [(i123, AObj.row false ([.int .i64 0]))], ([] : Sg)]) S136) x137 x138 x139 h140
    have S147 := St.callM (A := [[(i115, AObj.row false ([.int .i64 0]))], [(i101, AObj.row false ([.int .i64 a0]))], [(i119, AObj.row false ([.int .i64 0]))], [(i123, AObj.row false ([.int .i64 0]))], ([] : Sg)]) S136 S145 (fun j h => h)
    refine AO.c rfl (o_call (vs := [.int .i64 a0, .func (.func 77) #[] #[.pointer (some ⟨i115, 0, none⟩), .pointer (some ⟨i101, 0, none⟩), .pointer (some ⟨i119, 0, none⟩), .pointer (some ⟨i123, 0, none⟩)]]) rfl Try.call59 hc146) ?_
    refine AO.nil ?_
    refine AX.seq ?_
    refine DR.startS [false, false, false, false, false, false, false] mix (by kernel_rfl) (fun hst => ?_)
    refine DR.r rfl rfl (r_load rfl Try.isAgg2) (one_read (row_cell (S147.get (k := 0) rfl) rfl) (.of_flat0 rfl)) ?_
    refine DR.r rfl rfl (r_load rfl Try.isAgg2) (one_read (row_cell (S147.get (k := 2) rfl) rfl) (.of_flat0 rfl)) ?_
    refine DR.r rfl rfl (r_load rfl Try.isAgg2) (one_read (row_cell (S147.get (k := 3) rfl) rfl) (.of_flat0 rfl)) ?_
    refine DR.p rfl rfl (p_assign rfl) ?_
    refine DR.p rfl rfl (p_assign rfl) ?_
    refine DR.p rfl rfl (p_assign rfl) ?_
    refine DR.p rfl rfl (p_assign rfl) ?_
    refine DR.nil 7 [] hst (by kernel_rfl) trivial ?_
    refine AX.ret ?_
    obtain ⟨rfl, z148⟩ := Prod.mk.inj (some_inj hd141)
    obtain ⟨rfl, z149⟩ := Prod.mk.inj z148
    obtain ⟨rfl, rfl⟩ := Prod.mk.inj z149
    exact ⟨.inr rfl, _, res4 rfl (rv_tmp rfl) (rv_tmp rfl) (rv_tmp rfl) (rv_tmp rfl), rfl, (flat_t4 (flatB_ok rfl) (flatB_ok rfl) (flatB_ok rfl) (flatB_ok rfl)), S147.hold⟩

end Go.Proofs.Ytdafmafigcljkaa
