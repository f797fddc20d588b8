/-
  The program computes that, printed by a program. No condition.
-/
import Derived.Test.YtdafmafigcljkaaDRc
import Derived.Test.YtdafmafigcljkaaWRa
import Derived.Test.YtdafmafigcljkaaProg
import Derived.KernelRfl
namespace Go.Proofs.Ytdafmafigcljkaa
open Go Go.RowKit Am
set_option linter.unusedVariables false
set_option linter.unusedSimpArgs false
set_option maxRecDepth 20000
set_option maxHeartbeats 4000000 in
theorem W_impl_countRobins_1 (self_impl_countRobins : Int → Int → Nat → (List (List Int)) → Option (Int × (List (List Int)))) (ih_impl_countRobins : ∀ (H : AHeap) (a0 : Int) (a2 : Int) (p_n0 : Option Addr) (k_n0 c_n0 : Nat) (T_n0 : Tb) (n0 : List (List Int)) (l_n0 : n0.length = k_n0) (s_n0 : Sb p_n0 k_n0 c_n0 1) (t_n0 : trows T_n0 = n0) (z_n0 : TSb T_n0) (hn : (([oseg p_n0 (tcells T_n0), tseg T_n0] : List Sg).flatten.map (·.1)).Nodup) (ho : ∀ x ∈ ([oseg p_n0 (tcells T_n0), tseg T_n0] : List Sg).flatten, x.1 < H.length ∧ hget H x.1 = x.2) (r0 : Int) (m_n0 : List (List Int)) (hd : self_impl_countRobins a0 a2 k_n0 n0 = some (r0, m_n0)), ∃ v G', ACall Try.prog 53 [.int .i64 a0, .slice p_n0 k_n0 c_n0, .int .i64 a2] H v G' ∧ ∃ (T_m_n0 : Tb), (v = .int .i64 r0) ∧ St (([oseg p_n0 (tcells T_n0), tseg T_n0] : List Sg).flatten.map (·.1)) H G' [oseg p_n0 (tcells T_m_n0), tseg T_m_n0] ∧ m_n0.length = k_n0 ∧ trows T_m_n0 = m_n0 ∧ TSb T_m_n0) (fu : Nat) (H : AHeap) (a0 : List Int) (h_a0 : a0.length = 14) (i_n0 : Nat) (n0_0 : Int) (i_n1 : Nat) (p_n2 : Option Addr) (k_n2 c_n2 : Nat) (T_n2 : Tb) (n2 : List (List Int)) (l_n2 : n2.length = k_n2) (s_n2 : Sb p_n2 k_n2 c_n2 1) (t_n2 : trows T_n2 = n2) (z_n2 : TSb T_n2) (i_n3 : Nat) (n3_0 : Int) (i_n4 : Nat) (n4_0 : Int) (hn : (([[(i_n0, AObj.row false ([.int .i64 n0_0]))], [(i_n1, AObj.row false ([.slice p_n2 k_n2 c_n2]))], oseg p_n2 (tcells T_n2), tseg T_n2, [(i_n3, AObj.row false ([.int .i64 n3_0]))], [(i_n4, AObj.row false ([.int .i64 n4_0]))]] : List Sg).flatten.map (·.1)).Nodup) (ho : ∀ x ∈ ([[(i_n0, AObj.row false ([.int .i64 n0_0]))], [(i_n1, AObj.row false ([.slice p_n2 k_n2 c_n2]))], oseg p_n2 (tcells T_n2), tseg T_n2, [(i_n3, AObj.row false ([.int .i64 n3_0]))], [(i_n4, AObj.row false ([.int .i64 n4_0]))]] : List Sg).flatten, x.1 < H.length ∧ hget H x.1 = x.2) (r0 : Bool) (m_n2 : List (List Int)) (m_n3_0 : Int) (hd : D_impl_countRobins_1 self_impl_countRobins fu a0 n0_0 k_n2 n2 n3_0 n4_0 = some (r0, m_n2, m_n3_0)) : ∃ v G', ACall Try.prog 111 [.agg (ints a0).toArray, .pointer (some ⟨i_n0, 0, none⟩), .pointer (some ⟨i_n1, 0, none⟩), .pointer (some ⟨i_n3, 0, none⟩), .pointer (some ⟨i_n4, 0, none⟩)] H v G' ∧ ∃ (T_m_n2 : Tb), (v = .bool r0) ∧ St (([[(i_n0, AObj.row false ([.int .i64 n0_0]))], [(i_n1, AObj.row false ([.slice p_n2 k_n2 c_n2]))], oseg p_n2 (tcells T_n2), tseg T_n2, [(i_n3, AObj.row false ([.int .i64 n3_0]))], [(i_n4, AObj.row false ([.int .i64 n4_0]))]] : List Sg).flatten.map (·.1)) H G' [[(i_n0, AObj.row false ([.int .i64 n0_0]))], [(i_n1, AObj.row false ([.slice p_n2 k_n2 c_n2]))], oseg p_n2 (tcells T_m_n2), tseg T_m_n2, [(i_n3, AObj.row false ([.int .i64 m_n3_0]))], [(i_n4, AObj.row false ([.int .i64 n4_0]))]] ∧ m_n2.length = k_n2 ∧ trows T_m_n2 = m_n2 ∧ TSb T_m_n2 := by
  refine ACall.bodyX (args := [.agg (ints a0).toArray, .pointer (some ⟨i_n0, 0, none⟩), .pointer (some ⟨i_n1, 0, none⟩), .pointer (some ⟨i_n3, 0, none⟩), .pointer (some ⟨i_n4, 0, none⟩)]) (N := 24) [(0, .agg (ints a0).toArray), (1, .pointer (some ⟨i_n0, 0, none⟩)), (2, .pointer (some ⟨i_n1, 0, none⟩)), (3, .pointer (some ⟨i_n3, 0, none⟩)), (4, .pointer (some ⟨i_n4, 0, none⟩))] (fun v G' => ∃ (T_m_n2 : Tb), (v = .bool r0) ∧ St (([[(i_n0, AObj.row false ([.int .i64 n0_0]))], [(i_n1, AObj.row false ([.slice p_n2 k_n2 c_n2]))], oseg p_n2 (tcells T_n2), tseg T_n2, [(i_n3, AObj.row false ([.int .i64 n3_0]))], [(i_n4, AObj.row false ([.int .i64 n4_0]))]] : List Sg).flatten.map (·.1)) H G' [[(i_n0, AObj.row false ([.int .i64 n0_0]))], [(i_n1, AObj.row false ([.slice p_n2 k_n2 c_n2]))], oseg p_n2 (tcells T_m_n2), tseg T_m_n2, [(i_n3, AObj.row false ([.int .i64 m_n3_0]))], [(i_n4, AObj.row false ([.int .i64 n4_0]))]] ∧ m_n2.length = k_n2 ∧ trows T_m_n2 = m_n2 ∧ TSb T_m_n2) Try.func111 rfl rfl rfl rfl ?_
  unfold D_impl_countRobins_1 at hd
  have S0 := St.initF hn ho
  generalize hM0 : (([[(i_n0, AObj.row false ([.int .i64 n0_0]))], [(i_n1, AObj.row false ([.slice p_n2 k_n2 c_n2]))], oseg p_n2 (tcells T_n2), tseg T_n2, [(i_n3, AObj.row false ([.int .i64 n3_0]))], [(i_n4, AObj.row false ([.int .i64 n4_0]))]] : List Sg).flatten.map (·.1)) = M0 at S0 ⊢
  refine AX.seq ?_
  refine AX.region ?_
  obtain ⟨G100, i101, hii101, hHG100, S102⟩ := S0.new (AObj.row false (ints a0))
  refine AO.c rfl (s_box (i := i101) (cs := ints a0) rfl hii101 rfl hHG100) ?_
  refine AO.p rfl (p_assign rfl) ?_
  refine AO.nil ?_
  refine AX.seq ?_
  refine AX.seq ?_
  refine AX.region ?_
  refine AO.p rfl (s_indexAr (q := 0) Try.underlying54 Try.sizeOf2 rfl rfl (show inR 0 14 by decide) rfl) ?_
  refine AO.c rfl (s_load Try.isAgg2 rfl (row_cell (S102.get (k := 0) rfl) (ints_get (lt_len h_a0 (inR_lt (show inR 0 14 by decide)))))) ?_
  refine AO.c rfl (s_load Try.isAgg2 rfl (row_cell (S102.get (k := 1) rfl) rfl)) ?_
  refine AO.p rfl (p_eql rfl rfl) ?_
  refine AO.nil ?_
  refine AX.cond rfl (fun c104 => ?_) (fun c104 => ?_)
  · have hd105 := bif_t c104 hd
    refine AX.seq ?_
    refine AX.region ?_
    refine AO.c rfl (s_load Try.isAgg43 rfl (row_cell (S102.get (k := 2) rfl) rfl)) ?_
    refine AO.c rfl (s_loadN (vs := ints a0) Try.isAgg54 Try.sizeOf54 rfl (ints_len h_a0) (row_cells (S102.get (k := 0) rfl))) ?_
    have S106 := S102.front 4 rfl
    have S107 := S106.front 4 rfl
    obtain ⟨rs108, h109, hd110⟩ := bnd_some hd105
    obtain ⟨_, G116, hc115, T111, rfl, S117, t112, s113, l114⟩ := W_impl_mark fu G100 p_n2 c_n2 T_n2 n2 t_n2 (by rw [show List.length n2 = k_n2 from l_n2]; exact s_n2) z_n2 a0 h_a0 1 ((S107).join2.onodup (k := 0) rfl) ((S107).join2.omem (k := 0) rfl) rs108 h109
    rw [show List.length n2 = k_n2 from l_n2] at hc115
    have S118 := St.callM (A := [oseg p_n2 (tcells T_n2), tseg T_n2]) S107 S117 (by simp)
    refine AO.c rfl (o_call (vs := [.slice p_n2 k_n2 c_n2, .agg (ints a0).toArray, .int .i64 1]) rfl Try.call112 hc115) ?_
    refine AO.nil ?_
    refine AX.seq ?_
    refine DR.startS [false, false, false, false, false, true, false, true] mix (by kernel_rfl) (fun hst => ?_)
    refine DR.r rfl rfl (r_load rfl Try.isAgg2) (one_read (row_cell (S118.get (k := 5) rfl) rfl) (.of_flat0 rfl)) ?_
    refine DR.r rfl rfl (r_load rfl Try.isAgg2) (one_read (row_cell (S118.get (k := 6) rfl) rfl) (.of_flat0 rfl)) ?_
    refine DR.r rfl rfl (r_load rfl Try.isAgg43) (one_read (row_cell (S118.get (k := 4) rfl) rfl) (S118.oin (k := 0) rfl s_n2).bel) ?_
    refine DR.r rfl rfl (r_load rfl Try.isAgg2) (one_read (row_cell (S118.get (k := 3) rfl) rfl) (.of_flat0 rfl)) ?_
    obtain ⟨k119, hd120⟩ := chk_some hd110
    refine DR.p rfl rfl (p_addE rfl rfl k119) ?_
    have S121 := S118.front 1 rfl
    have S122 := S121.front 1 rfl
    have S123 : St M0 H G116 [oseg p_n2 (tcells T111), tseg T111, [(i101, AObj.row false (ints a0))], [(i_n0, AObj.row false ([.int .i64 n0_0]))], [(i_n1, AObj.row false ([.slice p_n2 k_n2 c_n2]))], [(i_n3, AObj.row false ([.int .i64 n3_0]))], [(i_n4, AObj.row false ([.int .i64 n4_0]))]] := S122
    obtain ⟨⟨x124, rs125⟩, h126, hd127⟩ := bnd_some hd120
    obtain ⟨_, G132, hc134, T128, rfl, S133, l129, t130, s131⟩ := ih_impl_countRobins G116 n4_0 (n0_0 + 1) p_n2 k_n2 c_n2 T111 rs108 (Eq.trans l114 l_n2) s_n2 t112 s113 (St.fnodup (A := [oseg p_n2 (tcells T111), tseg T111]) S123) (St.fmem (A := [oseg p_n2 (tcells T111), tseg T111]) S123) x124 rs125 h126
    have S135 := St.callM (A := [oseg p_n2 (tcells T111), tseg T111]) S123 S133 (fun j h => h)
    refine DR.w rfl rfl (o_call (vs := [.int .i64 n4_0, .slice p_n2 k_n2 c_n2, .int .i64 (n0_0 + 1)]) rfl Try.call53 hc134) (S133.len) ?_
    obtain ⟨k136, hd137⟩ := chk_some hd127
    refine DR.p rfl rfl (p_addE rfl rfl k136) ?_
    obtain ⟨G138, hHG138, S139⟩ := S135.set (k := 5) (i := i_n3) rfl (AObj.row false ([.int .i64 (n3_0 + x124)]))
    have S140 : St M0 H G138 [oseg p_n2 (tcells T128), tseg T128, [(i101, AObj.row false (ints a0))], [(i_n0, AObj.row false ([.int .i64 n0_0]))], [(i_n1, AObj.row false ([.slice p_n2 k_n2 c_n2]))], [(i_n3, AObj.row false ([.int .i64 (n3_0 + x124)]))], [(i_n4, AObj.row false ([.int .i64 n4_0]))]] := S139
    refine DR.s rfl (s_store Try.sizeOf2 rfl rfl rfl (S135.get (k := 5) rfl) (Nat.le_of_ble_eq_true rfl) hHG138) (set_le hHG138) ?_
    refine DR.nil 8 [(0, 5)] hst (by kernel_rfl) ⟨(rd1 (fun _ => (S135.get (k := 5) rfl).trans (S118.get (k := 5) rfl).symm)), trivial⟩ ?_
    refine AX.region ?_
    refine AO.c rfl (s_load Try.isAgg43 rfl (row_cell (S140.get (k := 4) rfl) rfl)) ?_
    refine AO.c rfl (s_loadN (vs := ints a0) Try.isAgg54 Try.sizeOf54 rfl (ints_len h_a0) (row_cells (S140.get (k := 2) rfl))) ?_
    have S141 := S140.front 1 rfl
    have S142 := S141.front 1 rfl
    obtain ⟨rs143, h144, hd145⟩ := bnd_some hd137
    obtain ⟨_, G151, hc150, T146, rfl, S152, t147, s148, l149⟩ := W_impl_mark fu G138 p_n2 c_n2 T128 rs125 t130 (by rw [show List.length rs125 = k_n2 from l129]; exact s_n2) s131 a0 h_a0 (-1) ((S142).join2.onodup (k := 0) rfl) ((S142).join2.omem (k := 0) rfl) rs143 h144
    rw [show List.length rs125 = k_n2 from l129] at hc150
    have S153 := St.callM (A := [oseg p_n2 (tcells T128), tseg T128]) S142 S152 (by simp)
    refine AO.c rfl (o_call (vs := [.slice p_n2 k_n2 c_n2, .agg (ints a0).toArray, .int .i64 (-1)]) rfl Try.call112 hc150) ?_
    refine AO.nil ?_
    refine AX.seq ?_
    refine AX.region ?_
    refine AO.p rfl (p_assign rfl) ?_
    refine AO.nil ?_
    refine AX.ret ?_
    obtain ⟨rfl, z154⟩ := Prod.mk.inj (some_inj hd145)
    obtain ⟨rfl, rfl⟩ := Prod.mk.inj z154
    have S156 := S153.front 6 rfl
    have S157 := S156.front 6 rfl
    have S158 := S157.front 3 rfl
    have S159 := S158.front 3 rfl
    have S160 := S159.front 6 rfl
    have S161 := S160.front 6 rfl
    have S162 := S161.keep 6
    exact ⟨.inr rfl, _, res1 rfl (rv_tmp rfl), T146, rfl, S162, (Eq.trans l149 l129), t147, s148⟩
  · have hd163 := bif_f c104 hd
    refine AX.skip ?_
    refine AX.seq ?_
    refine AX.region ?_
    refine AO.p rfl (p_assign rfl) ?_
    refine AO.nil ?_
    refine AX.ret ?_
    obtain ⟨rfl, z164⟩ := Prod.mk.inj (some_inj hd163)
    obtain ⟨rfl, rfl⟩ := Prod.mk.inj z164
    have S166 := S102.front 6 rfl
    have S167 := S166.front 6 rfl
    have S168 := S167.front 6 rfl
    have S169 := S168.front 6 rfl
    have S170 := S169.front 6 rfl
    have S171 := S170.front 6 rfl
    have S172 := S171.keep 6
    exact ⟨.inr rfl, _, res1 rfl (rv_tmp rfl), T_n2, rfl, S172, l_n2, t_n2, z_n2⟩

set_option maxHeartbeats 4000000 in
theorem W_impl_rounds_1__impl_countRobins_1 (self_impl_countRobins : Int → Int → Nat → (List (List Int)) → Option (Int × (List (List Int)))) (ih_impl_countRobins : ∀ (H : AHeap) (a0 : Int) (a2 : Int) (p_n0 : Option Addr) (k_n0 c_n0 : Nat) (T_n0 : Tb) (n0 : List (List Int)) (l_n0 : n0.length = k_n0) (s_n0 : Sb p_n0 k_n0 c_n0 1) (t_n0 : trows T_n0 = n0) (z_n0 : TSb T_n0) (hn : (([oseg p_n0 (tcells T_n0), tseg T_n0] : List Sg).flatten.map (·.1)).Nodup) (ho : ∀ x ∈ ([oseg p_n0 (tcells T_n0), tseg T_n0] : List Sg).flatten, x.1 < H.length ∧ hget H x.1 = x.2) (r0 : Int) (m_n0 : List (List Int)) (hd : self_impl_countRobins a0 a2 k_n0 n0 = some (r0, m_n0)), ∃ v G', ACall Try.prog 53 [.int .i64 a0, .slice p_n0 k_n0 c_n0, .int .i64 a2] H v G' ∧ ∃ (T_m_n0 : Tb), (v = .int .i64 r0) ∧ St (([oseg p_n0 (tcells T_n0), tseg T_n0] : List Sg).flatten.map (·.1)) H G' [oseg p_n0 (tcells T_m_n0), tseg T_m_n0] ∧ m_n0.length = k_n0 ∧ trows T_m_n0 = m_n0 ∧ TSb T_m_n0) : ∀ (fu : Nat) (H : AHeap) (a0 : Int) (i_n0 : Nat) (n0_0 : Int) (i_n1 : Nat) (n1 : List Int) (h_n1 : n1.length = 14) (i_n2 : Nat) (i_n3 : Nat) (n3_0 : Int) (i_n4 : Nat) (p_n5 : Option Addr) (k_n5 c_n5 : Nat) (T_n5 : Tb) (n5 : List (List Int)) (l_n5 : n5.length = k_n5) (s_n5 : Sb p_n5 k_n5 c_n5 1) (t_n5 : trows T_n5 = n5) (z_n5 : TSb T_n5) (i_n6 : Nat) (n6_0 : Int) (i_n7 : Nat) (n7_0 : Int) (i_n8 : Nat) (i_n9 : Nat) (hn : (([[(i_n0, AObj.row false ([.int .i64 n0_0]))], [(i_n1, AObj.row false (ints n1))], [(i_n2, AObj.row false ([.func (.func 111) #[] #[.pointer (some ⟨i_n3, 0, none⟩), .pointer (some ⟨i_n4, 0, none⟩), .pointer (some ⟨i_n6, 0, none⟩), .pointer (some ⟨i_n7, 0, none⟩)]]))], [(i_n3, AObj.row false ([.int .i64 n3_0]))], [(i_n4, AObj.row false ([.slice p_n5 k_n5 c_n5]))], oseg p_n5 (tcells T_n5), tseg T_n5, [(i_n6, AObj.row false ([.int .i64 n6_0]))], [(i_n7, AObj.row false ([.int .i64 n7_0]))], [(i_n8, AObj.row false ([.slice p_n5 k_n5 c_n5]))], [(i_n9, AObj.row false ([.func (.func 149) #[] #[.pointer (some ⟨i_n0, 0, none⟩), .pointer (some ⟨i_n1, 0, none⟩), .pointer (some ⟨i_n2, 0, none⟩), .pointer (some ⟨i_n8, 0, none⟩), .pointer (some ⟨i_n9, 0, none⟩)]]))]] : List Sg).flatten.map (·.1)).Nodup) (ho : ∀ x ∈ ([[(i_n0, AObj.row false ([.int .i64 n0_0]))], [(i_n1, AObj.row false (ints n1))], [(i_n2, AObj.row false ([.func (.func 111) #[] #[.pointer (some ⟨i_n3, 0, none⟩), .pointer (some ⟨i_n4, 0, none⟩), .pointer (some ⟨i_n6, 0, none⟩), .pointer (some ⟨i_n7, 0, none⟩)]]))], [(i_n3, AObj.row false ([.int .i64 n3_0]))], [(i_n4, AObj.row false ([.slice p_n5 k_n5 c_n5]))], oseg p_n5 (tcells T_n5), tseg T_n5, [(i_n6, AObj.row false ([.int .i64 n6_0]))], [(i_n7, AObj.row false ([.int .i64 n7_0]))], [(i_n8, AObj.row false ([.slice p_n5 k_n5 c_n5]))], [(i_n9, AObj.row false ([.func (.func 149) #[] #[.pointer (some ⟨i_n0, 0, none⟩), .pointer (some ⟨i_n1, 0, none⟩), .pointer (some ⟨i_n2, 0, none⟩), .pointer (some ⟨i_n8, 0, none⟩), .pointer (some ⟨i_n9, 0, none⟩)]]))]] : List Sg).flatten, x.1 < H.length ∧ hget H x.1 = x.2) (r0 : Bool) (m_n1 : List Int) (m_n5 : List (List Int)) (m_n6_0 : Int) (hd : D_impl_rounds_1__impl_countRobins_1 self_impl_countRobins fu a0 n0_0 n1 n3_0 k_n5 n5 n6_0 n7_0 = some (r0, m_n1, m_n5, m_n6_0)), ∃ v G', ACall Try.prog 149 [.int .i64 a0, .pointer (some ⟨i_n0, 0, none⟩), .pointer (some ⟨i_n1, 0, none⟩), .pointer (some ⟨i_n2, 0, none⟩), .pointer (some ⟨i_n8, 0, none⟩), .pointer (some ⟨i_n9, 0, none⟩)] H v G' ∧ ∃ (T_m_n5 : Tb), (v = .bool r0) ∧ St (([[(i_n0, AObj.row false ([.int .i64 n0_0]))], [(i_n1, AObj.row false (ints n1))], [(i_n2, AObj.row false ([.func (.func 111) #[] #[.pointer (some ⟨i_n3, 0, none⟩), .pointer (some ⟨i_n4, 0, none⟩), .pointer (some ⟨i_n6, 0, none⟩), .pointer (some ⟨i_n7, 0, none⟩)]]))], [(i_n3, AObj.row false ([.int .i64 n3_0]))], [(i_n4, AObj.row false ([.slice p_n5 k_n5 c_n5]))], oseg p_n5 (tcells T_n5), tseg T_n5, [(i_n6, AObj.row false ([.int .i64 n6_0]))], [(i_n7, AObj.row false ([.int .i64 n7_0]))], [(i_n8, AObj.row false ([.slice p_n5 k_n5 c_n5]))], [(i_n9, AObj.row false ([.func (.func 149) #[] #[.pointer (some ⟨i_n0, 0, none⟩), .pointer (some ⟨i_n1, 0, none⟩), .pointer (some ⟨i_n2, 0, none⟩), .pointer (some ⟨i_n8, 0, none⟩), .pointer (some ⟨i_n9, 0, none⟩)]]))]] : List Sg).flatten.map (·.1)) H G' [[(i_n0, AObj.row false ([.int .i64 n0_0]))], [(i_n1, AObj.row false (ints m_n1))], [(i_n2, AObj.row false ([.func (.func 111) #[] #[.pointer (some ⟨i_n3, 0, none⟩), .pointer (some ⟨i_n4, 0, none⟩), .pointer (some ⟨i_n6, 0, none⟩), .pointer (some ⟨i_n7, 0, none⟩)]]))], [(i_n3, AObj.row false ([.int .i64 n3_0]))], [(i_n4, AObj.row false ([.slice p_n5 k_n5 c_n5]))], oseg p_n5 (tcells T_m_n5), tseg T_m_n5, [(i_n6, AObj.row false ([.int .i64 m_n6_0]))], [(i_n7, AObj.row false ([.int .i64 n7_0]))], [(i_n8, AObj.row false ([.slice p_n5 k_n5 c_n5]))], [(i_n9, AObj.row false ([.func (.func 149) #[] #[.pointer (some ⟨i_n0, 0, none⟩), .pointer (some ⟨i_n1, 0, none⟩), .pointer (some ⟨i_n2, 0, none⟩), .pointer (some ⟨i_n8, 0, none⟩), .pointer (some ⟨i_n9, 0, none⟩)]]))]] ∧ m_n1.length = 14 ∧ m_n5.length = k_n5 ∧ trows T_m_n5 = m_n5 ∧ TSb T_m_n5 := by
  intro fu
  induction fu with
  | zero => intros; rename_i hd; cases hd
  | succ fu ih =>
  intro H a0 i_n0 n0_0 i_n1 n1 h_n1 i_n2 i_n3 n3_0 i_n4 p_n5 k_n5 c_n5 T_n5 n5 l_n5 s_n5 t_n5 z_n5 i_n6 n6_0 i_n7 n7_0 i_n8 i_n9 hn ho r0 m_n1 m_n5 m_n6_0 hd
  refine ACall.bodyX (args := [.int .i64 a0, .pointer (some ⟨i_n0, 0, none⟩), .pointer (some ⟨i_n1, 0, none⟩), .pointer (some ⟨i_n2, 0, none⟩), .pointer (some ⟨i_n8, 0, none⟩), .pointer (some ⟨i_n9, 0, none⟩)]) (N := 63) [(0, .int .i64 a0), (1, .pointer (some ⟨i_n0, 0, none⟩)), (2, .pointer (some ⟨i_n1, 0, none⟩)), (3, .pointer (some ⟨i_n2, 0, none⟩)), (4, .pointer (some ⟨i_n8, 0, none⟩)), (5, .pointer (some ⟨i_n9, 0, none⟩))] (fun v G' => ∃ (T_m_n5 : Tb), (v = .bool r0) ∧ St (([[(i_n0, AObj.row false ([.int .i64 n0_0]))], [(i_n1, AObj.row false (ints n1))], [(i_n2, AObj.row false ([.func (.func 111) #[] #[.pointer (some ⟨i_n3, 0, none⟩), .pointer (some ⟨i_n4, 0, none⟩), .pointer (some ⟨i_n6, 0, none⟩), .pointer (some ⟨i_n7, 0, none⟩)]]))], [(i_n3, AObj.row false ([.int .i64 n3_0]))], [(i_n4, AObj.row false ([.slice p_n5 k_n5 c_n5]))], oseg p_n5 (tcells T_n5), tseg T_n5, [(i_n6, AObj.row false ([.int .i64 n6_0]))], [(i_n7, AObj.row false ([.int .i64 n7_0]))], [(i_n8, AObj.row false ([.slice p_n5 k_n5 c_n5]))], [(i_n9, AObj.row false ([.func (.func 149) #[] #[.pointer (some ⟨i_n0, 0, none⟩), .pointer (some ⟨i_n1, 0, none⟩), .pointer (some ⟨i_n2, 0, none⟩), .pointer (some ⟨i_n8, 0, none⟩), .pointer (some ⟨i_n9, 0, none⟩)]]))]] : List Sg).flatten.map (·.1)) H G' [[(i_n0, AObj.row false ([.int .i64 n0_0]))], [(i_n1, AObj.row false (ints m_n1))], [(i_n2, AObj.row false ([.func (.func 111) #[] #[.pointer (some ⟨i_n3, 0, none⟩), .pointer (some ⟨i_n4, 0, none⟩), .pointer (some ⟨i_n6, 0, none⟩), .pointer (some ⟨i_n7, 0, none⟩)]]))], [(i_n3, AObj.row false ([.int .i64 n3_0]))], [(i_n4, AObj.row false ([.slice p_n5 k_n5 c_n5]))], oseg p_n5 (tcells T_m_n5), tseg T_m_n5, [(i_n6, AObj.row false ([.int .i64 m_n6_0]))], [(i_n7, AObj.row false ([.int .i64 n7_0]))], [(i_n8, AObj.row false ([.slice p_n5 k_n5 c_n5]))], [(i_n9, AObj.row false ([.func (.func 149) #[] #[.pointer (some ⟨i_n0, 0, none⟩), .pointer (some ⟨i_n1, 0, none⟩), .pointer (some ⟨i_n2, 0, none⟩), .pointer (some ⟨i_n8, 0, none⟩), .pointer (some ⟨i_n9, 0, none⟩)]]))]] ∧ m_n1.length = 14 ∧ m_n5.length = k_n5 ∧ trows T_m_n5 = m_n5 ∧ TSb T_m_n5) Try.func149 rfl rfl rfl rfl ?_
  unfold D_impl_rounds_1__impl_countRobins_1 at hd
  have S0 := St.initF hn ho
  generalize hM0 : (([[(i_n0, AObj.row false ([.int .i64 n0_0]))], [(i_n1, AObj.row false (ints n1))], [(i_n2, AObj.row false ([.func (.func 111) #[] #[.pointer (some ⟨i_n3, 0, none⟩), .pointer (some ⟨i_n4, 0, none⟩), .pointer (some ⟨i_n6, 0, none⟩), .pointer (some ⟨i_n7, 0, none⟩)]]))], [(i_n3, AObj.row false ([.int .i64 n3_0]))], [(i_n4, AObj.row false ([.slice p_n5 k_n5 c_n5]))], oseg p_n5 (tcells T_n5), tseg T_n5, [(i_n6, AObj.row false ([.int .i64 n6_0]))], [(i_n7, AObj.row false ([.int .i64 n7_0]))], [(i_n8, AObj.row false ([.slice p_n5 k_n5 c_n5]))], [(i_n9, AObj.row false ([.func (.func 149) #[] #[.pointer (some ⟨i_n0, 0, none⟩), .pointer (some ⟨i_n1, 0, none⟩), .pointer (some ⟨i_n2, 0, none⟩), .pointer (some ⟨i_n8, 0, none⟩), .pointer (some ⟨i_n9, 0, none⟩)]]))]] : List Sg).flatten.map (·.1)) = M0 at S0 ⊢
  refine AX.seq ?_
  refine AX.region ?_
  refine AO.p rfl (p_assign rfl) ?_
  refine AO.nil ?_
  obtain ⟨r314, hl315, hd316⟩ := bnd_some hd
  refine AX.cut (fun t' H' => ∃ (x313 : Int), x313 = r314 ∧ St M0 H H' [[(i_n0, AObj.row false ([.int .i64 n0_0]))], [(i_n1, AObj.row false (ints n1))], [(i_n2, AObj.row false ([.func (.func 111) #[] #[.pointer (some ⟨i_n3, 0, none⟩), .pointer (some ⟨i_n4, 0, none⟩), .pointer (some ⟨i_n6, 0, none⟩), .pointer (some ⟨i_n7, 0, none⟩)]]))], [(i_n3, AObj.row false ([.int .i64 n3_0]))], [(i_n4, AObj.row false ([.slice p_n5 k_n5 c_n5]))], oseg p_n5 (tcells T_n5), tseg T_n5, [(i_n6, AObj.row false ([.int .i64 n6_0]))], [(i_n7, AObj.row false ([.int .i64 n7_0]))], [(i_n8, AObj.row false ([.slice p_n5 k_n5 c_n5]))], [(i_n9, AObj.row false ([.func (.func 149) #[] #[.pointer (some ⟨i_n0, 0, none⟩), .pointer (some ⟨i_n1, 0, none⟩), .pointer (some ⟨i_n2, 0, none⟩), .pointer (some ⟨i_n8, 0, none⟩), .pointer (some ⟨i_n9, 0, none⟩)]]))]] ∧ Am.Sub [(0, .int .i64 x313), (1, .pointer (some ⟨i_n0, 0, none⟩)), (2, .pointer (some ⟨i_n1, 0, none⟩)), (3, .pointer (some ⟨i_n2, 0, none⟩)), (4, .pointer (some ⟨i_n8, 0, none⟩)), (5, .pointer (some ⟨i_n9, 0, none⟩))] t') ?_ ?_
  · refine AX.block ?_
    refine AX.loopF (fun s' t' H' => ∃ (x245 : Int), x245 = s' ∧ St M0 H H' [[(i_n0, AObj.row false ([.int .i64 n0_0]))], [(i_n1, AObj.row false (ints n1))], [(i_n2, AObj.row false ([.func (.func 111) #[] #[.pointer (some ⟨i_n3, 0, none⟩), .pointer (some ⟨i_n4, 0, none⟩), .pointer (some ⟨i_n6, 0, none⟩), .pointer (some ⟨i_n7, 0, none⟩)]]))], [(i_n3, AObj.row false ([.int .i64 n3_0]))], [(i_n4, AObj.row false ([.slice p_n5 k_n5 c_n5]))], oseg p_n5 (tcells T_n5), tseg T_n5, [(i_n6, AObj.row false ([.int .i64 n6_0]))], [(i_n7, AObj.row false ([.int .i64 n7_0]))], [(i_n8, AObj.row false ([.slice p_n5 k_n5 c_n5]))], [(i_n9, AObj.row false ([.func (.func 149) #[] #[.pointer (some ⟨i_n0, 0, none⟩), .pointer (some ⟨i_n1, 0, none⟩), .pointer (some ⟨i_n2, 0, none⟩), .pointer (some ⟨i_n8, 0, none⟩), .pointer (some ⟨i_n9, 0, none⟩)]]))]] ∧ Am.Sub [(0, .int .i64 x245), (1, .pointer (some ⟨i_n0, 0, none⟩)), (2, .pointer (some ⟨i_n1, 0, none⟩)), (3, .pointer (some ⟨i_n2, 0, none⟩)), (4, .pointer (some ⟨i_n8, 0, none⟩)), (5, .pointer (some ⟨i_n9, 0, none⟩))] t') hl315 ?_ ?_
    · skip
      have S317 := S0.front 10 rfl
      have S318 := S317.front 10 rfl
      have S319 := S318.front 10 rfl
      have S320 := S319.front 10 rfl
      have S321 := S320.front 10 rfl
      have S322 := S321.front 10 rfl
      have S323 := S322.front 10 rfl
      have S324 := S323.front 10 rfl
      have S325 := S324.front 10 rfl
      have S326 := S325.front 10 rfl
      have S327 := S326.front 10 rfl
      exact ⟨a0, rfl, S327, Sub.cons' rfl rfl (Sub.cons' rfl rfl (Sub.cons' rfl rfl (Sub.cons' rfl rfl (Sub.cons' rfl rfl (Sub.cons' rfl rfl (Sub.nil _))))))⟩
    · rintro n328 _ t' G332 ⟨x245, rfl, S331, hsub333⟩ o334 ho329 hk330
      refine AX.sub hsub333 ?_
      unfold D_impl_rounds_1__impl_countRobins_1_s0 at ho329
      refine AX.seq ?_
      obtain ⟨r351, hb352, hd353⟩ := bnd_some ho329
      refine AX.cut (fun t' H' => ∃ (b350 : Bool), b350 = r351 ∧ St M0 H H' [[(i_n0, AObj.row false ([.int .i64 n0_0]))], [(i_n1, AObj.row false (ints n1))], [(i_n2, AObj.row false ([.func (.func 111) #[] #[.pointer (some ⟨i_n3, 0, none⟩), .pointer (some ⟨i_n4, 0, none⟩), .pointer (some ⟨i_n6, 0, none⟩), .pointer (some ⟨i_n7, 0, none⟩)]]))], [(i_n3, AObj.row false ([.int .i64 n3_0]))], [(i_n4, AObj.row false ([.slice p_n5 k_n5 c_n5]))], oseg p_n5 (tcells T_n5), tseg T_n5, [(i_n6, AObj.row false ([.int .i64 n6_0]))], [(i_n7, AObj.row false ([.int .i64 n7_0]))], [(i_n8, AObj.row false ([.slice p_n5 k_n5 c_n5]))], [(i_n9, AObj.row false ([.func (.func 149) #[] #[.pointer (some ⟨i_n0, 0, none⟩), .pointer (some ⟨i_n1, 0, none⟩), .pointer (some ⟨i_n2, 0, none⟩), .pointer (some ⟨i_n8, 0, none⟩), .pointer (some ⟨i_n9, 0, none⟩)]]))]] ∧ Am.Sub [(0, .int .i64 x245), (1, .pointer (some ⟨i_n0, 0, none⟩)), (2, .pointer (some ⟨i_n1, 0, none⟩)), (3, .pointer (some ⟨i_n2, 0, none⟩)), (4, .pointer (some ⟨i_n8, 0, none⟩)), (5, .pointer (some ⟨i_n9, 0, none⟩)), (18, .bool b350)] t') ?_ ?_
      · skip
        refine AX.region ?_
        refine AO.p rfl (p_move rfl) ?_
        refine AO.c rfl (s_load Try.isAgg2 rfl (row_cell (S331.get (k := 0) rfl) rfl)) ?_
        refine AO.p rfl (p_lss rfl rfl) ?_
        refine AO.p rfl (p_move rfl) ?_
        refine AO.cases (d := 12) rfl (fun c354 => ?_) (fun c354 => ?_)
        · have hd355 := bif_t c354 hb352
          refine AO.gp rfl rfl rfl (p_move rfl) ?_
          obtain ⟨k356, hd357⟩ := chk_some hd355
          refine AO.gp rfl rfl rfl (s_indexAr (q := x245.toNat) Try.underlying54 Try.sizeOf2 rfl rfl k356 (z1 _)) ?_
          refine AO.gc rfl rfl rfl (s_load Try.isAgg2 rfl (row_cell (S331.get (k := 1) rfl) (ints_get (lt_len h_n1 (inR_lt k356))))) ?_
          refine AO.gp rfl rfl rfl (p_move rfl) ?_
          refine AO.gp rfl rfl rfl (p_neq rfl rfl) ?_
          refine AO.p rfl (p_pickT rfl rfl) ?_
          refine AO.nil ?_
          have S358 := S331.front 10 rfl
          have S359 := S358.front 10 rfl
          have S360 := S359.front 10 rfl
          have S361 := S360.front 10 rfl
          have S362 := S361.front 10 rfl
          have S363 := S362.front 10 rfl
          have S364 := S363.front 10 rfl
          have S365 := S364.front 10 rfl
          have S366 := S365.front 10 rfl
          have S367 := S366.front 10 rfl
          have S368 := S367.front 10 rfl
          exact ⟨(!decide (rd n1 x245.toNat = x245)), (some_inj hd357), S368, Sub.cons' rfl rfl (Sub.cons' rfl rfl (Sub.cons' rfl rfl (Sub.cons' rfl rfl (Sub.cons' rfl rfl (Sub.cons' rfl rfl (Sub.cons' rfl rfl (Sub.nil _)))))))⟩
        · have hd369 := bif_f c354 hb352
          refine AO.gn rfl rfl rfl ?_
          refine AO.gn rfl rfl rfl ?_
          refine AO.gn rfl rfl rfl ?_
          refine AO.gn rfl rfl rfl ?_
          refine AO.gn rfl rfl rfl ?_
          refine AO.p rfl (p_pickF rfl rfl) ?_
          refine AO.nil ?_
          have S370 := S331.front 10 rfl
          have S371 := S370.front 10 rfl
          have S372 := S371.front 10 rfl
          have S373 := S372.front 10 rfl
          have S374 := S373.front 10 rfl
          have S375 := S374.front 10 rfl
          have S376 := S375.front 10 rfl
          have S377 := S376.front 10 rfl
          have S378 := S377.front 10 rfl
          have S379 := S378.front 10 rfl
          have S380 := S379.front 10 rfl
          exact ⟨false, (some_inj hd369), S380, Sub.cons' rfl rfl (Sub.cons' rfl rfl (Sub.cons' rfl rfl (Sub.cons' rfl rfl (Sub.cons' rfl rfl (Sub.cons' rfl rfl (Sub.cons' rfl rfl (Sub.nil _)))))))⟩
      · rintro t' G382 ⟨b350, rfl, S381, hsub383⟩
        refine AX.sub hsub383 ?_
        refine AX.cond rfl (fun c384 => ?_) (fun c384 => ?_)
        · have hd385 := bif_t c384 hd353
          refine AX.skip ?_
          refine AX.block ?_
          refine AX.region ?_
          refine AO.p rfl (p_move rfl) ?_
          obtain ⟨k386, hd387⟩ := chk_some hd385
          refine AO.p rfl (p_addE rfl rfl k386) ?_
          refine AO.p rfl (p_assign rfl) ?_
          refine AO.nil ?_
          obtain rfl := some_inj hd387
          have S389 := S381.front 10 rfl
          have S390 := S389.front 10 rfl
          have S391 := S390.front 10 rfl
          have S392 := S391.front 10 rfl
          have S393 := S392.front 10 rfl
          have S394 := S393.front 10 rfl
          have S395 := S394.front 10 rfl
          have S396 := S395.front 10 rfl
          have S397 := S396.front 10 rfl
          have S398 := S397.front 10 rfl
          have S399 := S398.front 10 rfl
          exact ⟨x245 + 1, hk330, (x245 + 1), rfl, S399, Sub.cons' rfl rfl (Sub.cons' rfl rfl (Sub.cons' rfl rfl (Sub.cons' rfl rfl (Sub.cons' rfl rfl (Sub.cons' rfl rfl (Sub.nil _))))))⟩
        · have hd400 := bif_f c384 hd353
          refine AX.exit ?_
          obtain rfl := some_inj hd400
          have S401 := S381.front 10 rfl
          have S402 := S401.front 10 rfl
          have S403 := S402.front 10 rfl
          have S404 := S403.front 10 rfl
          have S405 := S404.front 10 rfl
          have S406 := S405.front 10 rfl
          have S407 := S406.front 10 rfl
          have S408 := S407.front 10 rfl
          have S409 := S408.front 10 rfl
          have S410 := S409.front 10 rfl
          have S411 := S410.front 10 rfl
          exact ⟨x245, hk330, S411, Sub.cons' rfl rfl (Sub.cons' rfl rfl (Sub.cons' rfl rfl (Sub.cons' rfl rfl (Sub.cons' rfl rfl (Sub.cons' rfl rfl (Sub.nil _))))))⟩
  · rintro t' G413 ⟨x313, rfl, S412, hsub414⟩
    refine AX.sub hsub414 ?_
    refine AX.seq ?_
    refine AX.seq ?_
    refine AX.region ?_
    refine AO.p rfl (p_move rfl) ?_
    refine AO.c rfl (s_load Try.isAgg2 rfl (row_cell (S412.get (k := 0) rfl) rfl)) ?_
    refine AO.p rfl (p_eql rfl rfl) ?_
    refine AO.nil ?_
    refine AX.cond rfl (fun c415 => ?_) (fun c415 => ?_)
    · have hd416 := bif_t c415 hd316
      refine AX.seq ?_
      refine AX.region ?_
      refine AO.c rfl (s_load Try.isAgg116 rfl (row_cell (S412.get (k := 2) rfl) rfl)) ?_
      refine AO.c rfl (s_loadN (vs := ints n1) Try.isAgg54 Try.sizeOf54 rfl (ints_len h_n1) (row_cells (S412.get (k := 1) rfl))) ?_
      have S417 := S412.front 8 rfl
      have S418 := S417.front 8 rfl
      have S419 := S418.front 8 rfl
      have S420 := S419.front 8 rfl
      have S421 := S420.front 8 rfl
      have S422 := S421.front 8 rfl
      have S423 : St M0 H G413 [[(i_n3, AObj.row false ([.int .i64 n3_0]))], [(i_n4, AObj.row false ([.slice p_n5 k_n5 c_n5]))], oseg p_n5 (tcells T_n5), tseg T_n5, [(i_n6, AObj.row false ([.int .i64 n6_0]))], [(i_n7, AObj.row false ([.int .i64 n7_0]))], [(i_n0, AObj.row false ([.int .i64 n0_0]))], [(i_n1, AObj.row false (ints n1))], [(i_n2, AObj.row false ([.func (.func 111) #[] #[.pointer (some ⟨i_n3, 0, none⟩), .pointer (some ⟨i_n4, 0, none⟩), .pointer (some ⟨i_n6, 0, none⟩), .pointer (some ⟨i_n7, 0, none⟩)]]))], [(i_n8, AObj.row false ([.slice p_n5 k_n5 c_n5]))], [(i_n9, AObj.row false ([.func (.func 149) #[] #[.pointer (some ⟨i_n0, 0, none⟩), .pointer (some ⟨i_n1, 0, none⟩), .pointer (some ⟨i_n2, 0, none⟩), .pointer (some ⟨i_n8, 0, none⟩), .pointer (some ⟨i_n9, 0, none⟩)]]))]] := S422
      obtain ⟨⟨b424, rs425, x426⟩, h427, hd428⟩ := bnd_some hd416
      obtain ⟨_, G433, hc435, T429, rfl, S434, l430, t431, s432⟩ := W_impl_countRobins_1 self_impl_countRobins ih_impl_countRobins fu G413 n1 h_n1 i_n3 n3_0 i_n4 p_n5 k_n5 c_n5 T_n5 n5 l_n5 s_n5 t_n5 z_n5 i_n6 n6_0 i_n7 n7_0 (St.fnodup (A := [[(i_n3, AObj.row false ([.int .i64 n3_0]))], [(i_n4, AObj.row false ([.slice p_n5 k_n5 c_n5]))], oseg p_n5 (tcells T_n5), tseg T_n5, [(i_n6, AObj.row false ([.int .i64 n6_0]))], [(i_n7, AObj.row false ([.int .i64 n7_0]))]]) S423) (St.fmem (A := [[(i_n3, AObj.row false ([.int .i64 n3_0]))], [(i_n4, AObj.row false ([.slice p_n5 k_n5 c_n5]))], oseg p_n5 (tcells T_n5), tseg T_n5, [(i_n6, AObj.row false ([.int .i64 n6_0]))], [(i_n7, AObj.row false ([.int .i64 n7_0]))]]) S423) b424 rs425 x426 h427
      have S436 := St.callM (A := [[(i_n3, AObj.row false ([.int .i64 n3_0]))], [(i_n4, AObj.row false ([.slice p_n5 k_n5 c_n5]))], oseg p_n5 (tcells T_n5), tseg T_n5, [(i_n6, AObj.row false ([.int .i64 n6_0]))], [(i_n7, AObj.row false ([.int .i64 n7_0]))]]) S423 S434 (fun j h => h)
      refine AO.c rfl (o_callV (vs := [.agg (ints n1).toArray]) rfl rfl Try.call111 hc435) ?_
      refine AO.p rfl (p_assign rfl) ?_
      refine AO.nil ?_
      refine AX.ret ?_
      obtain ⟨rfl, z437⟩ := Prod.mk.inj (some_inj hd428)
      obtain ⟨rfl, z438⟩ := Prod.mk.inj z437
      obtain ⟨rfl, rfl⟩ := Prod.mk.inj z438
      have S440 := S436.front 10 rfl
      have S441 := S440.front 10 rfl
      have S442 := S441.front 7 rfl
      have S443 := S442.front 7 rfl
      have S444 := S443.front 7 rfl
      have S445 := S444.front 7 rfl
      have S446 := S445.front 7 rfl
      have S447 := S446.front 7 rfl
      have S448 := S447.front 10 rfl
      have S449 := S448.front 10 rfl
      have S450 := S449.front 10 rfl
      exact ⟨.inr rfl, _, res1 rfl (rv_tmp rfl), T429, rfl, S450, h_n1, l430, t431, s432⟩
    · have hd451 := bif_f c415 hd316
      refine AX.skip ?_
      refine AX.seq ?_
      refine AX.seq ?_
      refine AX.region ?_
      refine AO.p rfl (p_move rfl) ?_
      obtain ⟨k452, hd453⟩ := chk_some hd451
      refine AO.p rfl (p_addE rfl rfl k452) ?_
      refine AO.p rfl (p_assign rfl) ?_
      refine AO.nil ?_
      obtain ⟨r904, hl905, hd906⟩ := bnd_some hd453
      refine AX.cutS (fun t' H' => ∃ (xs892 : List Int) (rs897 : List (List Int)) (x900 : Int) (T898 : Tb), .inl (xs892, rs897, x900) = r904 ∧ St M0 H H' [[(i_n0, AObj.row false ([.int .i64 n0_0]))], [(i_n1, AObj.row false (ints xs892))], [(i_n2, AObj.row false ([.func (.func 111) #[] #[.pointer (some ⟨i_n3, 0, none⟩), .pointer (some ⟨i_n4, 0, none⟩), .pointer (some ⟨i_n6, 0, none⟩), .pointer (some ⟨i_n7, 0, none⟩)]]))], [(i_n3, AObj.row false ([.int .i64 n3_0]))], [(i_n4, AObj.row false ([.slice p_n5 k_n5 c_n5]))], oseg p_n5 (tcells T898), tseg T898, [(i_n6, AObj.row false ([.int .i64 x900]))], [(i_n7, AObj.row false ([.int .i64 n7_0]))], [(i_n8, AObj.row false ([.slice p_n5 k_n5 c_n5]))], [(i_n9, AObj.row false ([.func (.func 149) #[] #[.pointer (some ⟨i_n0, 0, none⟩), .pointer (some ⟨i_n1, 0, none⟩), .pointer (some ⟨i_n2, 0, none⟩), .pointer (some ⟨i_n8, 0, none⟩), .pointer (some ⟨i_n9, 0, none⟩)]]))]] ∧ xs892.length = 14 ∧ rs897.length = k_n5 ∧ trows T898 = rs897 ∧ TSb T898 ∧ Am.Sub [] t') ?_ ?_
      · refine AX.block ?_
        refine AX.loopF (fun s' t' H' => ∃ (xs745 : List Int) (rs750 : List (List Int)) (x753 : Int) (x757 : Int) (T751 : Tb), (xs745, rs750, x753, x757) = s' ∧ St M0 H H' [[(i_n0, AObj.row false ([.int .i64 n0_0]))], [(i_n1, AObj.row false (ints xs745))], [(i_n2, AObj.row false ([.func (.func 111) #[] #[.pointer (some ⟨i_n3, 0, none⟩), .pointer (some ⟨i_n4, 0, none⟩), .pointer (some ⟨i_n6, 0, none⟩), .pointer (some ⟨i_n7, 0, none⟩)]]))], [(i_n3, AObj.row false ([.int .i64 n3_0]))], [(i_n4, AObj.row false ([.slice p_n5 k_n5 c_n5]))], oseg p_n5 (tcells T751), tseg T751, [(i_n6, AObj.row false ([.int .i64 x753]))], [(i_n7, AObj.row false ([.int .i64 n7_0]))], [(i_n8, AObj.row false ([.slice p_n5 k_n5 c_n5]))], [(i_n9, AObj.row false ([.func (.func 149) #[] #[.pointer (some ⟨i_n0, 0, none⟩), .pointer (some ⟨i_n1, 0, none⟩), .pointer (some ⟨i_n2, 0, none⟩), .pointer (some ⟨i_n8, 0, none⟩), .pointer (some ⟨i_n9, 0, none⟩)]]))]] ∧ xs745.length = 14 ∧ rs750.length = k_n5 ∧ trows T751 = rs750 ∧ TSb T751 ∧ Am.Sub [(0, .int .i64 x313), (1, .pointer (some ⟨i_n0, 0, none⟩)), (2, .pointer (some ⟨i_n1, 0, none⟩)), (4, .pointer (some ⟨i_n8, 0, none⟩)), (5, .pointer (some ⟨i_n9, 0, none⟩)), (8, .int .i64 x757)] t') hl905 ?_ ?_
        · skip
          have S907 := S412.front 10 rfl
          have S908 := S907.front 10 rfl
          have S909 := S908.front 10 rfl
          have S910 := S909.front 10 rfl
          have S911 := S910.front 10 rfl
          have S912 := S911.front 10 rfl
          have S913 := S912.front 10 rfl
          have S914 := S913.front 10 rfl
          have S915 := S914.front 10 rfl
          have S916 := S915.front 10 rfl
          have S917 := S916.front 10 rfl
          exact ⟨n1, n5, n6_0, (x313 + 1), T_n5, rfl, S917, h_n1, l_n5, t_n5, z_n5, Sub.cons' rfl rfl (Sub.cons' rfl rfl (Sub.cons' rfl rfl (Sub.cons' rfl rfl (Sub.cons' rfl rfl (Sub.cons' rfl rfl (Sub.nil _))))))⟩
        · rintro n918 _ t' G922 ⟨xs745, rs750, x753, x757, T751, rfl, S921, lxs745, lrs750, tT751, sT751, hsub923⟩ o924 ho919 hk920
          refine AX.sub hsub923 ?_
          unfold D_impl_rounds_1__impl_countRobins_1_s1 at ho919
          refine AX.seq ?_
          refine AX.seq ?_
          refine AX.region ?_
          refine AO.p rfl (p_move rfl) ?_
          refine AO.c rfl (s_load Try.isAgg2 rfl (row_cell (S921.get (k := 0) rfl) rfl)) ?_
          refine AO.p rfl (p_lss rfl rfl) ?_
          refine AO.nil ?_
          refine AX.cond rfl (fun c925 => ?_) (fun c925 => ?_)
          · have hd926 := bif_t c925 ho919
            refine AX.skip ?_
            refine AX.seq ?_
            refine AX.block ?_
            refine AX.seq ?_
            obtain ⟨r951, hb952, hd953⟩ := bnd_some hd926
            refine AX.cut (fun t' H' => ∃ (b950 : Bool), b950 = r951 ∧ St M0 H H' [[(i_n0, AObj.row false ([.int .i64 n0_0]))], [(i_n1, AObj.row false (ints xs745))], [(i_n2, AObj.row false ([.func (.func 111) #[] #[.pointer (some ⟨i_n3, 0, none⟩), .pointer (some ⟨i_n4, 0, none⟩), .pointer (some ⟨i_n6, 0, none⟩), .pointer (some ⟨i_n7, 0, none⟩)]]))], [(i_n3, AObj.row false ([.int .i64 n3_0]))], [(i_n4, AObj.row false ([.slice p_n5 k_n5 c_n5]))], oseg p_n5 (tcells T751), tseg T751, [(i_n6, AObj.row false ([.int .i64 x753]))], [(i_n7, AObj.row false ([.int .i64 n7_0]))], [(i_n8, AObj.row false ([.slice p_n5 k_n5 c_n5]))], [(i_n9, AObj.row false ([.func (.func 149) #[] #[.pointer (some ⟨i_n0, 0, none⟩), .pointer (some ⟨i_n1, 0, none⟩), .pointer (some ⟨i_n2, 0, none⟩), .pointer (some ⟨i_n8, 0, none⟩), .pointer (some ⟨i_n9, 0, none⟩)]]))]] ∧ Am.Sub [(0, .int .i64 x313), (1, .pointer (some ⟨i_n0, 0, none⟩)), (2, .pointer (some ⟨i_n1, 0, none⟩)), (4, .pointer (some ⟨i_n8, 0, none⟩)), (5, .pointer (some ⟨i_n9, 0, none⟩)), (8, .int .i64 x757), (48, .bool b950)] t') ?_ ?_
            · skip
              refine AX.region ?_
              refine AO.p rfl (p_move rfl) ?_
              obtain ⟨k954, hd955⟩ := chk_some hb952
              refine AO.p rfl (s_indexAr (q := x757.toNat) Try.underlying54 Try.sizeOf2 rfl rfl k954 (z1 _)) ?_
              refine AO.c rfl (s_load Try.isAgg2 rfl (row_cell (S921.get (k := 1) rfl) (ints_get (lt_len lxs745 (inR_lt k954))))) ?_
              refine AO.p rfl (p_move rfl) ?_
              refine AO.p rfl (p_neq rfl rfl) ?_
              refine AO.p rfl (p_move rfl) ?_
              refine AO.cases (d := 39) rfl (fun c956 => ?_) (fun c956 => ?_)
              · have hd957 := bif_t c956 hd955
                refine AO.gn rfl rfl rfl ?_
                refine AO.gn rfl rfl rfl ?_
                refine AO.gn rfl rfl rfl ?_
                refine AO.gn rfl rfl rfl ?_
                refine AO.gn rfl rfl rfl ?_
                refine AO.gn rfl rfl rfl ?_
                refine AO.gn rfl rfl rfl ?_
                refine AO.gn rfl rfl rfl ?_
                refine AO.p rfl (p_pickT rfl rfl) ?_
                refine AO.nil ?_
                have S958 := S921.front 10 rfl
                have S959 := S958.front 10 rfl
                have S960 := S959.front 10 rfl
                have S961 := S960.front 10 rfl
                have S962 := S961.front 10 rfl
                have S963 := S962.front 10 rfl
                have S964 := S963.front 10 rfl
                have S965 := S964.front 10 rfl
                have S966 := S965.front 10 rfl
                have S967 := S966.front 10 rfl
                have S968 := S967.front 10 rfl
                exact ⟨true, (some_inj hd957), S968, Sub.cons' rfl rfl (Sub.cons' rfl rfl (Sub.cons' rfl rfl (Sub.cons' rfl rfl (Sub.cons' rfl rfl (Sub.cons' rfl rfl (Sub.cons' rfl rfl (Sub.nil _)))))))⟩
              · have hd969 := bif_f c956 hd955
                refine AO.gc rfl rfl rfl (s_load Try.isAgg43 rfl (row_cell (S921.get (k := 9) rfl) rfl)) ?_
                refine AO.gp rfl rfl rfl (p_move rfl) ?_
                obtain ⟨k970, hd971⟩ := chk_some hd969
                refine AO.gp rfl rfl rfl (s_indexV (q := x313.toNat) Try.underlying43 Try.sizeOf58 rfl (s_n5.at (inR_pos k970)) rfl k970 (z1 _)) ?_
                obtain ⟨p972, c973, e974, f975⟩ := tget tT751 (lt_len lrs750 (inR_lt k970))
                refine AO.gc rfl rfl rfl (s_load Try.isAgg58 rfl (row_cell (S921.oat (k := 5) rfl (s_n5.at (inR_pos k970))) f975)) ?_
                refine AO.gp rfl rfl rfl (p_move rfl) ?_
                obtain ⟨k976, hd977⟩ := chk_some hd971
                refine AO.gp rfl rfl rfl (s_indexV (q := off p972 + x757.toNat) Try.underlying58 Try.sizeOf2 rfl ((TVw.at (S921.oviewT (k := 6) rfl sT751) e974).p (ints_get (lt_len rfl (inR_lt k976)))) rfl k976 (o1 _ _)) ?_
                refine AO.gc rfl rfl rfl (s_load Try.isAgg2 rfl ((TVw.at (S921.oviewT (k := 6) rfl sT751) e974).get _ _ (ints_get (lt_len rfl (inR_lt k976))))) ?_
                refine AO.gp rfl rfl rfl (p_gtr rfl rfl) ?_
                refine AO.p rfl (p_pickF rfl rfl) ?_
                refine AO.nil ?_
                have S978 := S921.front 10 rfl
                have S979 := S978.front 10 rfl
                have S980 := S979.front 10 rfl
                have S981 := S980.front 10 rfl
                have S982 := S981.front 10 rfl
                have S983 := S982.front 10 rfl
                have S984 := S983.front 10 rfl
                have S985 := S984.front 10 rfl
                have S986 := S985.front 10 rfl
                have S987 := S986.front 10 rfl
                have S988 := S987.front 10 rfl
                exact ⟨(decide (0 < rd (rw_ rs750 x313.toNat) x757.toNat)), (some_inj hd977), S988, Sub.cons' rfl rfl (Sub.cons' rfl rfl (Sub.cons' rfl rfl (Sub.cons' rfl rfl (Sub.cons' rfl rfl (Sub.cons' rfl rfl (Sub.cons' rfl rfl (Sub.nil _)))))))⟩
            · rintro t' G990 ⟨b950, rfl, S989, hsub991⟩
              refine AX.sub hsub991 ?_
              refine AX.cond rfl (fun c992 => ?_) (fun c992 => ?_)
              · have hd993 := bif_t c992 hd953
                refine AX.exit ?_
                refine AX.region ?_
                refine AO.p rfl (p_move rfl) ?_
                obtain ⟨k994, hd995⟩ := chk_some hd993
                refine AO.p rfl (p_addE rfl rfl k994) ?_
                refine AO.p rfl (p_assign rfl) ?_
                refine AO.nil ?_
                obtain rfl := some_inj hd995
                have S997 := S989.front 10 rfl
                have S998 := S997.front 10 rfl
                have S999 := S998.front 10 rfl
                have S1000 := S999.front 10 rfl
                have S1001 := S1000.front 10 rfl
                have S1002 := S1001.front 10 rfl
                have S1003 := S1002.front 10 rfl
                have S1004 := S1003.front 10 rfl
                have S1005 := S1004.front 10 rfl
                have S1006 := S1005.front 10 rfl
                have S1007 := S1006.front 10 rfl
                exact ⟨(xs745, rs750, x753, x757 + 1), hk920, xs745, rs750, x753, (x757 + 1), T751, rfl, S1007, lxs745, lrs750, tT751, sT751, Sub.cons' rfl rfl (Sub.cons' rfl rfl (Sub.cons' rfl rfl (Sub.cons' rfl rfl (Sub.cons' rfl rfl (Sub.cons' rfl rfl (Sub.nil _))))))⟩
              · have hd1008 := bif_f c992 hd953
                refine AX.skip ?_
                refine AX.seq ?_
                refine AX.region ?_
                refine AO.p rfl (p_move rfl) ?_
                refine AO.p rfl (p_move rfl) ?_
                have S1009 := S989.front 1 rfl
                obtain ⟨xs1010, h1011, hd1012⟩ := bnd_some hd1008
                obtain ⟨_, G1015, hc1014, rfl, S1016, l1013⟩ := W_impl_Round_meet fu G990 i_n1 xs745 lxs745 (S989.get (k := 1) rfl) x313 x757 xs1010 h1011
                have S1017 := St.callM (A := [[(i_n1, AObj.row false (ints xs745))]]) S1009 S1016 (by simp)
                refine AO.c rfl (o_call (vs := [.pointer (some ⟨i_n1, 0, none⟩), .int .i64 x313, .int .i64 x757]) rfl Try.call150 hc1014) ?_
                refine AO.nil ?_
                refine AX.seq ?_
                refine AX.seq ?_
                refine AX.region ?_
                refine AO.c rfl (s_load Try.isAgg24 rfl (row_cell (S1017.get (k := 10) rfl) rfl)) ?_
                refine AO.p rfl (p_move rfl) ?_
                obtain ⟨k1018, hd1019⟩ := chk_some hd1012
                refine AO.p rfl (p_addE rfl rfl k1018) ?_
                have S1020 := S1017.front 10 rfl
                have S1021 := S1020.front 10 rfl
                have S1022 := S1021.front 10 rfl
                have S1023 := S1022.front 10 rfl
                have S1024 := S1023.front 10 rfl
                have S1025 := S1024.front 10 rfl
                have S1026 := S1025.front 10 rfl
                have S1027 := S1026.front 10 rfl
                have S1028 := S1027.front 10 rfl
                have S1029 := S1028.front 9 rfl
                have S1030 := S1029.front 10 rfl
                have S1031 : St M0 H G1015 [[(i_n0, AObj.row false ([.int .i64 n0_0]))], [(i_n1, AObj.row false (ints xs1010))], [(i_n2, AObj.row false ([.func (.func 111) #[] #[.pointer (some ⟨i_n3, 0, none⟩), .pointer (some ⟨i_n4, 0, none⟩), .pointer (some ⟨i_n6, 0, none⟩), .pointer (some ⟨i_n7, 0, none⟩)]]))], [(i_n3, AObj.row false ([.int .i64 n3_0]))], [(i_n4, AObj.row false ([.slice p_n5 k_n5 c_n5]))], oseg p_n5 (tcells T751), tseg T751, [(i_n6, AObj.row false ([.int .i64 x753]))], [(i_n7, AObj.row false ([.int .i64 n7_0]))], [(i_n8, AObj.row false ([.slice p_n5 k_n5 c_n5]))], [(i_n9, AObj.row false ([.func (.func 149) #[] #[.pointer (some ⟨i_n0, 0, none⟩), .pointer (some ⟨i_n1, 0, none⟩), .pointer (some ⟨i_n2, 0, none⟩), .pointer (some ⟨i_n8, 0, none⟩), .pointer (some ⟨i_n9, 0, none⟩)]]))]] := S1030
                obtain ⟨⟨b1032, xs1033, rs1034, x1035⟩, h1036, hd1037⟩ := bnd_some hd1019
                obtain ⟨_, G1043, hc1045, T1039, rfl, S1044, l1038, l1040, t1041, s1042⟩ := ih G1015 (x313 + 1) i_n0 n0_0 i_n1 xs1010 l1013 i_n2 i_n3 n3_0 i_n4 p_n5 k_n5 c_n5 T751 rs750 lrs750 s_n5 tT751 sT751 i_n6 x753 i_n7 n7_0 i_n8 i_n9 (St.fnodup (A := [[(i_n0, AObj.row false ([.int .i64 n0_0]))], [(i_n1, AObj.row false (ints xs1010))], [(i_n2, AObj.row false ([.func (.func 111) #[] #[.pointer (some ⟨i_n3, 0, none⟩), .pointer (some ⟨i_n4, 0, none⟩), .pointer (some ⟨i_n6, 0, none⟩), .pointer (some ⟨i_n7, 0, none⟩)]]))], [(i_n3, AObj.row false ([.int .i64 n3_0]))], [(i_n4, AObj.row false ([.slice p_n5 k_n5 c_n5]))], oseg p_n5 (tcells T751), tseg T751, [(i_n6, AObj.row false ([.int .i64 x753]))], [(i_n7, AObj.row false ([.int .i64 n7_0]))], [(i_n8, AObj.row false ([.slice p_n5 k_n5 c_n5]))], [(i_n9, AObj.row false ([.func (.func 149) #[] #[.pointer (some ⟨i_n0, 0, none⟩), .pointer (some ⟨i_n1, 0, none⟩), .pointer (some ⟨i_n2, 0, none⟩), .pointer (some ⟨i_n8, 0, none⟩), .pointer (some ⟨i_n9, 0, none⟩)]]))]]) S1031) (St.fmem (A := [[(i_n0, AObj.row false ([.int .i64 n0_0]))], [(i_n1, AObj.row false (ints xs1010))], [(i_n2, AObj.row false ([.func (.func 111) #[] #[.pointer (some ⟨i_n3, 0, none⟩), .pointer (some ⟨i_n4, 0, none⟩), .pointer (some ⟨i_n6, 0, none⟩), .pointer (some ⟨i_n7, 0, none⟩)]]))], [(i_n3, AObj.row false ([.int .i64 n3_0]))], [(i_n4, AObj.row false ([.slice p_n5 k_n5 c_n5]))], oseg p_n5 (tcells T751), tseg T751, [(i_n6, AObj.row false ([.int .i64 x753]))], [(i_n7, AObj.row false ([.int .i64 n7_0]))], [(i_n8, AObj.row false ([.slice p_n5 k_n5 c_n5]))], [(i_n9, AObj.row false ([.func (.func 149) #[] #[.pointer (some ⟨i_n0, 0, none⟩), .pointer (some ⟨i_n1, 0, none⟩), .pointer (some ⟨i_n2, 0, none⟩), .pointer (some ⟨i_n8, 0, none⟩), .pointer (some ⟨i_n9, 0, none⟩)]]))]]) S1031) b1032 xs1033 rs1034 x1035 h1036
                have S1046 := St.callM (A := [[(i_n0, AObj.row false ([.int .i64 n0_0]))], [(i_n1, AObj.row false (ints xs1010))], [(i_n2, AObj.row false ([.func (.func 111) #[] #[.pointer (some ⟨i_n3, 0, none⟩), .pointer (some ⟨i_n4, 0, none⟩), .pointer (some ⟨i_n6, 0, none⟩), .pointer (some ⟨i_n7, 0, none⟩)]]))], [(i_n3, AObj.row false ([.int .i64 n3_0]))], [(i_n4, AObj.row false ([.slice p_n5 k_n5 c_n5]))], oseg p_n5 (tcells T751), tseg T751, [(i_n6, AObj.row false ([.int .i64 x753]))], [(i_n7, AObj.row false ([.int .i64 n7_0]))], [(i_n8, AObj.row false ([.slice p_n5 k_n5 c_n5]))], [(i_n9, AObj.row false ([.func (.func 149) #[] #[.pointer (some ⟨i_n0, 0, none⟩), .pointer (some ⟨i_n1, 0, none⟩), .pointer (some ⟨i_n2, 0, none⟩), .pointer (some ⟨i_n8, 0, none⟩), .pointer (some ⟨i_n9, 0, none⟩)]]))]]) S1031 S1044 (fun j h => h)
                refine AO.c rfl (o_callV (vs := [.int .i64 (x313 + 1)]) rfl rfl Try.call149 hc1045) ?_
                refine AO.p rfl (p_not rfl) ?_
                refine AO.nil ?_
                refine AX.cond rfl (fun c1047 => ?_) (fun c1047 => ?_)
                · have hd1048 := bif_t c1047 hd1037
                  refine AX.seq ?_
                  refine AX.region ?_
                  refine AO.p rfl (p_assign rfl) ?_
                  refine AO.nil ?_
                  refine AX.ret ?_
                  obtain rfl := some_inj hd1048
                  have z1049 : _ = r904 := hk920
                  subst z1049
                  obtain ⟨rfl, z1050⟩ := Prod.mk.inj (some_inj hd906)
                  obtain ⟨rfl, z1051⟩ := Prod.mk.inj z1050
                  obtain ⟨rfl, rfl⟩ := Prod.mk.inj z1051
                  have S1053 := S1046.front 10 rfl
                  have S1054 := S1053.front 10 rfl
                  have S1055 := S1054.front 10 rfl
                  have S1056 := S1055.front 10 rfl
                  have S1057 := S1056.front 10 rfl
                  have S1058 := S1057.front 10 rfl
                  have S1059 := S1058.front 10 rfl
                  have S1060 := S1059.front 10 rfl
                  have S1061 := S1060.front 10 rfl
                  have S1062 := S1061.front 10 rfl
                  have S1063 := S1062.front 10 rfl
                  exact ⟨.inr rfl, _, res1 rfl (rv_tmp rfl), T1039, rfl, S1063, l1038, l1040, t1041, s1042⟩
                · have hd1064 := bif_f c1047 hd1037
                  refine AX.skip ?_
                  refine AX.region ?_
                  refine AO.p rfl (p_move rfl) ?_
                  refine AO.p rfl (p_move rfl) ?_
                  refine AO.p rfl (p_move rfl) ?_
                  refine AO.p rfl (p_move rfl) ?_
                  obtain ⟨k1065, hd1066⟩ := chk_some hd1064
                  refine AO.p rfl (s_indexAr (q := x313.toNat) Try.underlying54 Try.sizeOf2 rfl rfl k1065 (z1 _)) ?_
                  obtain ⟨G1067, hHG1067, S1068⟩ := S1046.set (k := 1) (i := i_n1) rfl (AObj.row false (ints (xs1033.set x313.toNat x313)))
                  have S1069 : St M0 H G1067 [[(i_n0, AObj.row false ([.int .i64 n0_0]))], [(i_n1, AObj.row false (ints (xs1033.set x313.toNat x313)))], [(i_n2, AObj.row false ([.func (.func 111) #[] #[.pointer (some ⟨i_n3, 0, none⟩), .pointer (some ⟨i_n4, 0, none⟩), .pointer (some ⟨i_n6, 0, none⟩), .pointer (some ⟨i_n7, 0, none⟩)]]))], [(i_n3, AObj.row false ([.int .i64 n3_0]))], [(i_n4, AObj.row false ([.slice p_n5 k_n5 c_n5]))], oseg p_n5 (tcells T1039), tseg T1039, [(i_n6, AObj.row false ([.int .i64 x1035]))], [(i_n7, AObj.row false ([.int .i64 n7_0]))], [(i_n8, AObj.row false ([.slice p_n5 k_n5 c_n5]))], [(i_n9, AObj.row false ([.func (.func 149) #[] #[.pointer (some ⟨i_n0, 0, none⟩), .pointer (some ⟨i_n1, 0, none⟩), .pointer (some ⟨i_n2, 0, none⟩), .pointer (some ⟨i_n8, 0, none⟩), .pointer (some ⟨i_n9, 0, none⟩)]]))]] := S1068
                  refine AO.s (s_store Try.sizeOf2 rfl rfl rfl (S1046.get (k := 1) rfl) (lt_len (ints_len l1038) (inR_lt k1065)) ((congrArg (fun l => List.set _ _ (AObj.row false l)) (ints_set _ _ _)).trans hHG1067)) ?_
                  obtain ⟨k1070, hd1071⟩ := chk_some hd1066
                  refine AO.p rfl (s_indexAr (q := x757.toNat) Try.underlying54 Try.sizeOf2 rfl rfl k1070 (z1 _)) ?_
                  obtain ⟨G1072, hHG1072, S1073⟩ := S1069.set (k := 1) (i := i_n1) rfl (AObj.row false (ints ((xs1033.set x313.toNat x313).set x757.toNat x757)))
                  have S1074 : St M0 H G1072 [[(i_n0, AObj.row false ([.int .i64 n0_0]))], [(i_n1, AObj.row false (ints ((xs1033.set x313.toNat x313).set x757.toNat x757)))], [(i_n2, AObj.row false ([.func (.func 111) #[] #[.pointer (some ⟨i_n3, 0, none⟩), .pointer (some ⟨i_n4, 0, none⟩), .pointer (some ⟨i_n6, 0, none⟩), .pointer (some ⟨i_n7, 0, none⟩)]]))], [(i_n3, AObj.row false ([.int .i64 n3_0]))], [(i_n4, AObj.row false ([.slice p_n5 k_n5 c_n5]))], oseg p_n5 (tcells T1039), tseg T1039, [(i_n6, AObj.row false ([.int .i64 x1035]))], [(i_n7, AObj.row false ([.int .i64 n7_0]))], [(i_n8, AObj.row false ([.slice p_n5 k_n5 c_n5]))], [(i_n9, AObj.row false ([.func (.func 149) #[] #[.pointer (some ⟨i_n0, 0, none⟩), .pointer (some ⟨i_n1, 0, none⟩), .pointer (some ⟨i_n2, 0, none⟩), .pointer (some ⟨i_n8, 0, none⟩), .pointer (some ⟨i_n9, 0, none⟩)]]))]] := S1073
                  refine AO.s (s_store Try.sizeOf2 rfl rfl rfl (S1069.get (k := 1) rfl) (lt_len (ints_len (len_set l1038)) (inR_lt k1070)) ((congrArg (fun l => List.set _ _ (AObj.row false l)) (ints_set _ _ _)).trans hHG1072)) ?_
                  refine AO.nil ?_
                  refine AX.region ?_
                  refine AO.p rfl (p_move rfl) ?_
                  obtain ⟨k1075, hd1076⟩ := chk_some hd1071
                  refine AO.p rfl (p_addE rfl rfl k1075) ?_
                  refine AO.p rfl (p_assign rfl) ?_
                  refine AO.nil ?_
                  obtain rfl := some_inj hd1076
                  have S1078 := S1074.front 10 rfl
                  have S1079 := S1078.front 10 rfl
                  have S1080 := S1079.front 10 rfl
                  have S1081 := S1080.front 10 rfl
                  have S1082 := S1081.front 10 rfl
                  have S1083 := S1082.front 10 rfl
                  have S1084 := S1083.front 10 rfl
                  have S1085 := S1084.front 10 rfl
                  have S1086 := S1085.front 10 rfl
                  have S1087 := S1086.front 10 rfl
                  have S1088 := S1087.front 10 rfl
                  exact ⟨(((xs1033.set x313.toNat x313).set x757.toNat x757), rs1034, x1035, x757 + 1), hk920, ((xs1033.set x313.toNat x313).set x757.toNat x757), rs1034, x1035, (x757 + 1), T1039, rfl, S1088, (len_set (len_set l1038)), l1040, t1041, s1042, Sub.cons' rfl rfl (Sub.cons' rfl rfl (Sub.cons' rfl rfl (Sub.cons' rfl rfl (Sub.cons' rfl rfl (Sub.cons' rfl rfl (Sub.nil _))))))⟩
          · have hd1089 := bif_f c925 ho919
            refine AX.exit ?_
            obtain rfl := some_inj hd1089
            have S1090 := S921.front 10 rfl
            have S1091 := S1090.front 10 rfl
            have S1092 := S1091.front 10 rfl
            have S1093 := S1092.front 10 rfl
            have S1094 := S1093.front 10 rfl
            have S1095 := S1094.front 10 rfl
            have S1096 := S1095.front 10 rfl
            have S1097 := S1096.front 10 rfl
            have S1098 := S1097.front 10 rfl
            have S1099 := S1098.front 10 rfl
            have S1100 := S1099.front 10 rfl
            exact ⟨xs745, rs750, x753, T751, hk920, S1100, lxs745, lrs750, tT751, sT751, Sub.nil _⟩
      · rintro t' G1102 ⟨xs892, rs897, x900, T898, rfl, S1101, lxs892, lrs897, tT898, sT898, hsub1103⟩
        refine ⟨_, hsub1103, ?_⟩
        refine AX.seq ?_
        refine AX.region ?_
        refine AO.p rfl (p_assign rfl) ?_
        refine AO.nil ?_
        refine AX.ret ?_
        obtain ⟨rfl, z1104⟩ := Prod.mk.inj (some_inj hd906)
        obtain ⟨rfl, z1105⟩ := Prod.mk.inj z1104
        obtain ⟨rfl, rfl⟩ := Prod.mk.inj z1105
        have S1107 := S1101.front 10 rfl
        have S1108 := S1107.front 10 rfl
        have S1109 := S1108.front 10 rfl
        have S1110 := S1109.front 10 rfl
        have S1111 := S1110.front 10 rfl
        have S1112 := S1111.front 10 rfl
        have S1113 := S1112.front 10 rfl
        have S1114 := S1113.front 10 rfl
        have S1115 := S1114.front 10 rfl
        have S1116 := S1115.front 10 rfl
        have S1117 := S1116.front 10 rfl
        exact ⟨.inr rfl, _, res1 rfl (rv_tmp rfl), T898, rfl, S1117, lxs892, lrs897, tT898, sT898⟩

set_option maxHeartbeats 4000000 in
theorem W_impl_rounds__impl_countRobins_1 (self_impl_countRobins : Int → Int → Nat → (List (List Int)) → Option (Int × (List (List Int)))) (ih_impl_countRobins : ∀ (H : AHeap) (a0 : Int) (a2 : Int) (p_n0 : Option Addr) (k_n0 c_n0 : Nat) (T_n0 : Tb) (n0 : List (List Int)) (l_n0 : n0.length = k_n0) (s_n0 : Sb p_n0 k_n0 c_n0 1) (t_n0 : trows T_n0 = n0) (z_n0 : TSb T_n0) (hn : (([oseg p_n0 (tcells T_n0), tseg T_n0] : List Sg).flatten.map (·.1)).Nodup) (ho : ∀ x ∈ ([oseg p_n0 (tcells T_n0), tseg T_n0] : List Sg).flatten, x.1 < H.length ∧ hget H x.1 = x.2) (r0 : Int) (m_n0 : List (List Int)) (hd : self_impl_countRobins a0 a2 k_n0 n0 = some (r0, m_n0)), ∃ v G', ACall Try.prog 53 [.int .i64 a0, .slice p_n0 k_n0 c_n0, .int .i64 a2] H v G' ∧ ∃ (T_m_n0 : Tb), (v = .int .i64 r0) ∧ St (([oseg p_n0 (tcells T_n0), tseg T_n0] : List Sg).flatten.map (·.1)) H G' [oseg p_n0 (tcells T_m_n0), tseg T_m_n0] ∧ m_n0.length = k_n0 ∧ trows T_m_n0 = m_n0 ∧ TSb T_m_n0) (fu : Nat) (H : AHeap) (a0 : Int) (p_n0 : Option Addr) (k_n0 c_n0 : Nat) (T_n0 : Tb) (n0 : List (List Int)) (l_n0 : n0.length = k_n0) (s_n0 : Sb p_n0 k_n0 c_n0 1) (t_n0 : trows T_n0 = n0) (z_n0 : TSb T_n0) (i_n1 : Nat) (n1_0 : Int) (i_n2 : Nat) (i_n3 : Nat) (n3_0 : Int) (i_n4 : Nat) (n4_0 : Int) (hn : (([oseg p_n0 (tcells T_n0), tseg T_n0, [(i_n1, AObj.row false ([.int .i64 n1_0]))], [(i_n2, AObj.row false ([.slice p_n0 k_n0 c_n0]))], [(i_n3, AObj.row false ([.int .i64 n3_0]))], [(i_n4, AObj.row false ([.int .i64 n4_0]))]] : List Sg).flatten.map (·.1)).Nodup) (ho : ∀ x ∈ ([oseg p_n0 (tcells T_n0), tseg T_n0, [(i_n1, AObj.row false ([.int .i64 n1_0]))], [(i_n2, AObj.row false ([.slice p_n0 k_n0 c_n0]))], [(i_n3, AObj.row false ([.int .i64 n3_0]))], [(i_n4, AObj.row false ([.int .i64 n4_0]))]] : List Sg).flatten, x.1 < H.length ∧ hget H x.1 = x.2) (r0 : Bool) (m_n0 : List (List Int)) (m_n3_0 : Int) (hd : D_impl_rounds__impl_countRobins_1 self_impl_countRobins fu a0 k_n0 n0 n1_0 n3_0 n4_0 = some (r0, m_n0, m_n3_0)) : ∃ v G', ACall Try.prog 110 [.int .i64 a0, .slice p_n0 k_n0 c_n0, .func (.func 111) #[] #[.pointer (some ⟨i_n1, 0, none⟩), .pointer (some ⟨i_n2, 0, none⟩), .pointer (some ⟨i_n3, 0, none⟩), .pointer (some ⟨i_n4, 0, none⟩)]] H v G' ∧ ∃ (T_m_n0 : Tb), (v = .bool r0) ∧ St (([oseg p_n0 (tcells T_n0), tseg T_n0, [(i_n1, AObj.row false ([.int .i64 n1_0]))], [(i_n2, AObj.row false ([.slice p_n0 k_n0 c_n0]))], [(i_n3, AObj.row false ([.int .i64 n3_0]))], [(i_n4, AObj.row false ([.int .i64 n4_0]))]] : List Sg).flatten.map (·.1)) H G' [oseg p_n0 (tcells T_m_n0), tseg T_m_n0, [(i_n1, AObj.row false ([.int .i64 n1_0]))], [(i_n2, AObj.row false ([.slice p_n0 k_n0 c_n0]))], [(i_n3, AObj.row false ([.int .i64 m_n3_0]))], [(i_n4, AObj.row false ([.int .i64 n4_0]))]] ∧ m_n0.length = k_n0 ∧ trows T_m_n0 = m_n0 ∧ TSb T_m_n0 := by
  refine ACall.bodyX (args := [.int .i64 a0, .slice p_n0 k_n0 c_n0, .func (.func 111) #[] #[.pointer (some ⟨i_n1, 0, none⟩), .pointer (some ⟨i_n2, 0, none⟩), .pointer (some ⟨i_n3, 0, none⟩), .pointer (some ⟨i_n4, 0, none⟩)]]) (N := 14) [(0, .int .i64 a0), (1, .slice p_n0 k_n0 c_n0), (2, .func (.func 111) #[] #[.pointer (some ⟨i_n1, 0, none⟩), .pointer (some ⟨i_n2, 0, none⟩), .pointer (some ⟨i_n3, 0, none⟩), .pointer (some ⟨i_n4, 0, none⟩)])] (fun v G' => ∃ (T_m_n0 : Tb), (v = .bool r0) ∧ St (([oseg p_n0 (tcells T_n0), tseg T_n0, [(i_n1, AObj.row false ([.int .i64 n1_0]))], [(i_n2, AObj.row false ([.slice p_n0 k_n0 c_n0]))], [(i_n3, AObj.row false ([.int .i64 n3_0]))], [(i_n4, AObj.row false ([.int .i64 n4_0]))]] : List Sg).flatten.map (·.1)) H G' [oseg p_n0 (tcells T_m_n0), tseg T_m_n0, [(i_n1, AObj.row false ([.int .i64 n1_0]))], [(i_n2, AObj.row false ([.slice p_n0 k_n0 c_n0]))], [(i_n3, AObj.row false ([.int .i64 m_n3_0]))], [(i_n4, AObj.row false ([.int .i64 n4_0]))]] ∧ m_n0.length = k_n0 ∧ trows T_m_n0 = m_n0 ∧ TSb T_m_n0) Try.func110 rfl rfl rfl rfl ?_
  unfold D_impl_rounds__impl_countRobins_1 at hd
  have S0 := St.initF hn ho
  generalize hM0 : (([oseg p_n0 (tcells T_n0), tseg T_n0, [(i_n1, AObj.row false ([.int .i64 n1_0]))], [(i_n2, AObj.row false ([.slice p_n0 k_n0 c_n0]))], [(i_n3, AObj.row false ([.int .i64 n3_0]))], [(i_n4, AObj.row false ([.int .i64 n4_0]))]] : List Sg).flatten.map (·.1)) = M0 at S0 ⊢
  refine AX.seq ?_
  refine AX.region ?_
  obtain ⟨G100, i101, hii101, hHG100, S102⟩ := S0.new (AObj.row false ([.int .i64 a0]))
  refine AO.c rfl (s_box (i := i101) (cs := [.int .i64 a0]) rfl hii101 rfl hHG100) ?_
  obtain ⟨G104, i105, hii105, hHG104, S106⟩ := S102.new (AObj.row false ([.slice p_n0 k_n0 c_n0]))
  refine AO.c rfl (s_box (i := i105) (cs := [.slice p_n0 k_n0 c_n0]) rfl hii105 rfl hHG104) ?_
  obtain ⟨G108, i109, hii109, hHG108, S110⟩ := S106.new (AObj.row false ([.func (.func 111) #[] #[.pointer (some ⟨i_n1, 0, none⟩), .pointer (some ⟨i_n2, 0, none⟩), .pointer (some ⟨i_n3, 0, none⟩), .pointer (some ⟨i_n4, 0, none⟩)]]))
  refine AO.c rfl (s_box (i := i109) (cs := [.func (.func 111) #[] #[.pointer (some ⟨i_n1, 0, none⟩), .pointer (some ⟨i_n2, 0, none⟩), .pointer (some ⟨i_n3, 0, none⟩), .pointer (some ⟨i_n4, 0, none⟩)]]) rfl hii109 rfl hHG108) ?_
  refine AO.p rfl (p_assign rfl) ?_
  refine AO.nil ?_
  refine AX.seq ?_
  refine AX.region ?_
  refine AO.c rfl (s_load Try.isAgg2 rfl (row_cell (S110.get (k := 2) rfl) rfl)) ?_
  obtain ⟨xs112, h113, hd114⟩ := bnd_some hd
  obtain ⟨hc116, l117⟩ := W_impl_free fu G108 a0 xs112 h113
  refine AO.c rfl (o_call (vs := [.int .i64 a0]) rfl Try.call148 hc116) ?_
  obtain ⟨G118, i119, hii119, hHG118, S120⟩ := S110.new (AObj.row false (ints (List.replicate 14 0)))
  refine AO.c rfl (s_alloc (i := i119) (cs := ints (List.replicate 14 0)) Try.zeroValue54 rfl rfl hii119 hHG118) ?_
  obtain ⟨G122, hHG122, S123⟩ := S120.set (k := 0) (i := i119) rfl (AObj.row false (ints xs112))
  have S124 : St M0 H G122 [[(i119, AObj.row false (ints xs112))], [(i109, AObj.row false ([.func (.func 111) #[] #[.pointer (some ⟨i_n1, 0, none⟩), .pointer (some ⟨i_n2, 0, none⟩), .pointer (some ⟨i_n3, 0, none⟩), .pointer (some ⟨i_n4, 0, none⟩)]]))], [(i105, AObj.row false ([.slice p_n0 k_n0 c_n0]))], [(i101, AObj.row false ([.int .i64 a0]))], oseg p_n0 (tcells T_n0), tseg T_n0, [(i_n1, AObj.row false ([.int .i64 n1_0]))], [(i_n2, AObj.row false ([.slice p_n0 k_n0 c_n0]))], [(i_n3, AObj.row false ([.int .i64 n3_0]))], [(i_n4, AObj.row false ([.int .i64 n4_0]))]] := S123
  refine AO.s (s_storeAll (vs := ints xs112) Try.sizeOf54 rfl rfl ints_one (S120.get (k := 0) rfl) (ints_len l117) (ints_len len_rep) hHG122) ?_
  refine AO.nil ?_
  refine AX.seq ?_
  refine AX.region ?_
  obtain ⟨G125, i126, hii126, hHG125, S127⟩ := S124.new (AObj.row false ([.nilFunc]))
  refine AO.c rfl (s_alloc (i := i126) (cs := [.nilFunc]) Try.zeroValue24 rfl rfl hii126 hHG125) ?_
  refine AO.nil ?_
  refine AX.seq ?_
  refine AX.region ?_
  refine AO.p rfl (p_makeFunc (fs := []) (cs := [.pointer (some ⟨i101, 0, none⟩), .pointer (some ⟨i119, 0, none⟩), .pointer (some ⟨i109, 0, none⟩), .pointer (some ⟨i105, 0, none⟩), .pointer (some ⟨i126, 0, none⟩)]) rfl rfl) ?_
  obtain ⟨G129, hHG129, S130⟩ := S127.set (k := 0) (i := i126) rfl (AObj.row false ([.func (.func 149) #[] #[.pointer (some ⟨i101, 0, none⟩), .pointer (some ⟨i119, 0, none⟩), .pointer (some ⟨i109, 0, none⟩), .pointer (some ⟨i105, 0, none⟩), .pointer (some ⟨i126, 0, none⟩)]]))
  have S131 : St M0 H G129 [[(i126, AObj.row false ([.func (.func 149) #[] #[.pointer (some ⟨i101, 0, none⟩), .pointer (some ⟨i119, 0, none⟩), .pointer (some ⟨i109, 0, none⟩), .pointer (some ⟨i105, 0, none⟩), .pointer (some ⟨i126, 0, none⟩)]]))], [(i119, AObj.row false (ints xs112))], [(i109, AObj.row false ([.func (.func 111) #[] #[.pointer (some ⟨i_n1, 0, none⟩), .pointer (some ⟨i_n2, 0, none⟩), .pointer (some ⟨i_n3, 0, none⟩), .pointer (some ⟨i_n4, 0, none⟩)]]))], [(i105, AObj.row false ([.slice p_n0 k_n0 c_n0]))], [(i101, AObj.row false ([.int .i64 a0]))], oseg p_n0 (tcells T_n0), tseg T_n0, [(i_n1, AObj.row false ([.int .i64 n1_0]))], [(i_n2, AObj.row false ([.slice p_n0 k_n0 c_n0]))], [(i_n3, AObj.row false ([.int .i64 n3_0]))], [(i_n4, AObj.row false ([.int .i64 n4_0]))]] := S130
  refine AO.s (s_store Try.sizeOf24 rfl rfl rfl (S127.get (k := 0) rfl) (Nat.le_of_ble_eq_true rfl) hHG129) ?_
  refine AO.nil ?_
  refine AX.seq ?_
  refine AX.region ?_
  refine AO.c rfl (s_load Try.isAgg24 rfl (row_cell (S131.get (k := 0) rfl) rfl)) ?_
  have S132 := S131.front 0 rfl
  have S133 := S132.front 3 rfl
  have S134 := S133.front 10 rfl
  have S135 := S134.front 10 rfl
  have S136 := S135.front 8 rfl
  have S137 := S136.front 8 rfl
  have S138 := S137.front 10 rfl
  have S139 := S138.front 10 rfl
  have S140 := S139.front 9 rfl
  have S141 := S140.front 9 rfl
  have S142 := S141.front 10 rfl
  have S143 : St M0 H G129 [[(i101, AObj.row false ([.int .i64 a0]))], [(i119, AObj.row false (ints xs112))], [(i109, AObj.row false ([.func (.func 111) #[] #[.pointer (some ⟨i_n1, 0, none⟩), .pointer (some ⟨i_n2, 0, none⟩), .pointer (some ⟨i_n3, 0, none⟩), .pointer (some ⟨i_n4, 0, none⟩)]]))], [(i_n1, AObj.row false ([.int .i64 n1_0]))], [(i_n2, AObj.row false ([.slice p_n0 k_n0 c_n0]))], oseg p_n0 (tcells T_n0), tseg T_n0, [(i_n3, AObj.row false ([.int .i64 n3_0]))], [(i_n4, AObj.row false ([.int .i64 n4_0]))], [(i105, AObj.row false ([.slice p_n0 k_n0 c_n0]))], [(i126, AObj.row false ([.func (.func 149) #[] #[.pointer (some ⟨i101, 0, none⟩), .pointer (some ⟨i119, 0, none⟩), .pointer (some ⟨i109, 0, none⟩), .pointer (some ⟨i105, 0, none⟩), .pointer (some ⟨i126, 0, none⟩)]]))]] := S142
  obtain ⟨⟨b144, xs145, rs146, x147⟩, h148, hd149⟩ := bnd_some hd114
  obtain ⟨_, G155, hc157, T151, rfl, S156, l150, l152, t153, s154⟩ := W_impl_rounds_1__impl_countRobins_1 self_impl_countRobins ih_impl_countRobins fu G129 0 i101 a0 i119 xs112 l117 i109 i_n1 n1_0 i_n2 p_n0 k_n0 c_n0 T_n0 n0 l_n0 s_n0 t_n0 z_n0 i_n3 n3_0 i_n4 n4_0 i105 i126 (St.fnodup (A := [[(i101, AObj.row false ([.int .i64 a0]))], [(i119, AObj.row false (ints xs112))], [(i109, AObj.row false ([.func (.func 111) #[] #[.pointer (some ⟨i_n1, 0, none⟩), .pointer (some ⟨i_n2, 0, none⟩), .pointer (some ⟨i_n3, 0, none⟩), .pointer (some ⟨i_n4, 0, none⟩)]]))], [(i_n1, AObj.row false ([.int .i64 n1_0]))], [(i_n2, AObj.row false ([.slice p_n0 k_n0 c_n0]))], oseg p_n0 (tcells T_n0), tseg T_n0, [(i_n3, AObj.row false ([.int .i64 n3_0]))], [(i_n4, AObj.row false ([.int .i64 n4_0]))], [(i105, AObj.row false ([.slice p_n0 k_n0 c_n0]))], [(i126, AObj.row false ([.func (.func 149) #[] #[.pointer (some ⟨i101, 0, none⟩), .pointer (some ⟨i119, 0, none⟩), .pointer (some ⟨i109, 0, none⟩), .pointer (some ⟨i105, 0, none⟩), .pointer (some ⟨i126, 0, none⟩)]]))]]) S143) (St.fmem (A := [[(i101, AObj.row false ([.int .i64 a0]))], [(i119, AObj.row false (ints xs112))], [(i109, AObj.row false ([.func (.func 111) #[] #[.pointer (some ⟨i_n1, 0, none⟩), .pointer (some ⟨i_n2, 0, none⟩), .pointer (some ⟨i_n3, 0, none⟩), .pointer (some ⟨i_n4, 0, none⟩)]]))], [(i_n1, AObj.row false ([.int .i64 n1_0]))], [(i_n2, AObj.row false ([.slice p_n0 k_n0 c_n0]))], oseg p_n0 (tcells T_n0), tseg T_n0, [(i_n3, AObj.row false ([.int .i64 n3_0]))], [(i_n4, AObj.row false ([.int .i64 n4_0]))], [(i105, AObj.row false ([.slice p_n0 k_n0 c_n0]))], [(i126, AObj.row false ([.func (.func 149) #[] #[.pointer (some ⟨i101, 0, none⟩), .pointer (some ⟨i119, 0, none⟩), .pointer (some ⟨i109, 0, none⟩), .pointer (some ⟨i105, 0, none⟩), .pointer (some ⟨i126, 0, none⟩)]]))]]) S143) b144 xs145 rs146 x147 h148
  have S158 := St.callM (A := [[(i101, AObj.row false ([.int .i64 a0]))], [(i119, AObj.row false (ints xs112))], [(i109, AObj.row false ([.func (.func 111) #[] #[.pointer (some ⟨i_n1, 0, none⟩), .pointer (some ⟨i_n2, 0, none⟩), .pointer (some ⟨i_n3, 0, none⟩), .pointer (some ⟨i_n4, 0, none⟩)]]))], [(i_n1, AObj.row false ([.int .i64 n1_0]))], [(i_n2, AObj.row false ([.slice p_n0 k_n0 c_n0]))], oseg p_n0 (tcells T_n0), tseg T_n0, [(i_n3, AObj.row false ([.int .i64 n3_0]))], [(i_n4, AObj.row false ([.int .i64 n4_0]))], [(i105, AObj.row false ([.slice p_n0 k_n0 c_n0]))], [(i126, AObj.row false ([.func (.func 149) #[] #[.pointer (some ⟨i101, 0, none⟩), .pointer (some ⟨i119, 0, none⟩), .pointer (some ⟨i109, 0, none⟩), .pointer (some ⟨i105, 0, none⟩), .pointer (some ⟨i126, 0, none⟩)]]))]]) S143 S156 (fun j h => h)
  refine AO.c rfl (o_callV (vs := [.int .i64 0]) rfl rfl Try.call149 hc157) ?_
  refine AO.p rfl (p_assign rfl) ?_
  refine AO.nil ?_
  refine AX.ret ?_
  obtain ⟨rfl, z159⟩ := Prod.mk.inj (some_inj hd149)
  obtain ⟨rfl, rfl⟩ := Prod.mk.inj z159
  have S161 := S158.front 8 rfl
  have S162 := S161.front 8 rfl
  have S163 := S162.front 6 rfl
  have S164 := S163.front 6 rfl
  have S165 := S164.front 8 rfl
  have S166 := S165.front 8 rfl
  have S167 := S166.keep 6
  exact ⟨.inr rfl, _, res1 rfl (rv_tmp rfl), T151, rfl, S167, l152, t153, s154⟩

set_option maxHeartbeats 4000000 in
theorem W_impl_countRobins : ∀ (fu : Nat) (H : AHeap) (a0 : Int) (a2 : Int) (p_n0 : Option Addr) (k_n0 c_n0 : Nat) (T_n0 : Tb) (n0 : List (List Int)) (l_n0 : n0.length = k_n0) (s_n0 : Sb p_n0 k_n0 c_n0 1) (t_n0 : trows T_n0 = n0) (z_n0 : TSb T_n0) (hn : (([oseg p_n0 (tcells T_n0), tseg T_n0] : List Sg).flatten.map (·.1)).Nodup) (ho : ∀ x ∈ ([oseg p_n0 (tcells T_n0), tseg T_n0] : List Sg).flatten, x.1 < H.length ∧ hget H x.1 = x.2) (r0 : Int) (m_n0 : List (List Int)) (hd : D_impl_countRobins fu a0 a2 k_n0 n0 = some (r0, m_n0)), ∃ v G', ACall Try.prog 53 [.int .i64 a0, .slice p_n0 k_n0 c_n0, .int .i64 a2] H v G' ∧ ∃ (T_m_n0 : Tb), (v = .int .i64 r0) ∧ St (([oseg p_n0 (tcells T_n0), tseg T_n0] : List Sg).flatten.map (·.1)) H G' [oseg p_n0 (tcells T_m_n0), tseg T_m_n0] ∧ m_n0.length = k_n0 ∧ trows T_m_n0 = m_n0 ∧ TSb T_m_n0 := by
  intro fu
  induction fu with
  | zero => intros; rename_i hd; cases hd
  | succ fu ih =>
  intro H a0 a2 p_n0 k_n0 c_n0 T_n0 n0 l_n0 s_n0 t_n0 z_n0 hn ho r0 m_n0 hd
  refine ACall.bodyX (args := [.int .i64 a0, .slice p_n0 k_n0 c_n0, .int .i64 a2]) (N := 16) [(0, .int .i64 a0), (1, .slice p_n0 k_n0 c_n0), (2, .int .i64 a2)] (fun v G' => ∃ (T_m_n0 : Tb), (v = .int .i64 r0) ∧ St (([oseg p_n0 (tcells T_n0), tseg T_n0] : List Sg).flatten.map (·.1)) H G' [oseg p_n0 (tcells T_m_n0), tseg T_m_n0] ∧ m_n0.length = k_n0 ∧ trows T_m_n0 = m_n0 ∧ TSb T_m_n0) Try.func53 rfl rfl rfl rfl ?_
  unfold D_impl_countRobins at hd
  have S0 := St.initF hn ho
  generalize hM0 : (([oseg p_n0 (tcells T_n0), tseg T_n0] : List Sg).flatten.map (·.1)) = M0 at S0 ⊢
  refine AX.seq ?_
  refine AX.region ?_
  obtain ⟨G100, i101, hii101, hHG100, S102⟩ := S0.new (AObj.row false ([.int .i64 a0]))
  refine AO.c rfl (s_box (i := i101) (cs := [.int .i64 a0]) rfl hii101 rfl hHG100) ?_
  obtain ⟨G104, i105, hii105, hHG104, S106⟩ := S102.new (AObj.row false ([.slice p_n0 k_n0 c_n0]))
  refine AO.c rfl (s_box (i := i105) (cs := [.slice p_n0 k_n0 c_n0]) rfl hii105 rfl hHG104) ?_
  obtain ⟨G108, i109, hii109, hHG108, S110⟩ := S106.new (AObj.row false ([.int .i64 a2]))
  refine AO.c rfl (s_box (i := i109) (cs := [.int .i64 a2]) rfl hii109 rfl hHG108) ?_
  refine AO.p rfl (p_assign rfl) ?_
  refine AO.nil ?_
  refine AX.seq ?_
  refine AX.seq ?_
  refine AX.region ?_
  refine AO.c rfl (s_load Try.isAgg2 rfl (row_cell (S110.get (k := 0) rfl) rfl)) ?_
  refine AO.c rfl (s_load Try.isAgg2 rfl (row_cell (S110.get (k := 2) rfl) rfl)) ?_
  refine AO.p rfl (p_eql rfl rfl) ?_
  refine AO.nil ?_
  refine AX.cond rfl (fun c112 => ?_) (fun c112 => ?_)
  · have hd113 := bif_t c112 hd
    refine AX.seq ?_
    refine AX.region ?_
    refine AO.p rfl (p_assign rfl) ?_
    refine AO.nil ?_
    refine AX.ret ?_
    obtain ⟨rfl, rfl⟩ := Prod.mk.inj (some_inj hd113)
    have S115 := S110.front 4 rfl
    have S116 := S115.front 4 rfl
    have S117 := S116.keep 2
    exact ⟨.inr rfl, _, res1 rfl (rv_tmp rfl), T_n0, rfl, S117, l_n0, t_n0, z_n0⟩
  · have hd118 := bif_f c112 hd
    refine AX.skip ?_
    refine AX.seq ?_
    refine AX.region ?_
    obtain ⟨G119, i120, hii120, hHG119, S121⟩ := S110.new (AObj.row false ([.int .i64 0]))
    refine AO.c rfl (s_alloc (i := i120) (cs := [.int .i64 0]) Try.zeroValue2 rfl rfl hii120 hHG119) ?_
    obtain ⟨G123, hHG123, S124⟩ := S121.set (k := 0) (i := i120) rfl (AObj.row false ([.int .i64 0]))
    have S125 : St M0 H G123 [[(i120, AObj.row false ([.int .i64 0]))], [(i109, AObj.row false ([.int .i64 a2]))], [(i105, AObj.row false ([.slice p_n0 k_n0 c_n0]))], [(i101, AObj.row false ([.int .i64 a0]))], oseg p_n0 (tcells T_n0), tseg T_n0] := S124
    refine AO.s (s_store Try.sizeOf2 rfl rfl rfl (S121.get (k := 0) rfl) (Nat.le_of_ble_eq_true rfl) hHG123) ?_
    refine AO.nil ?_
    refine AX.seq ?_
    refine AX.region ?_
    refine AO.c rfl (s_load Try.isAgg2 rfl (row_cell (S125.get (k := 3) rfl) rfl)) ?_
    refine AO.c rfl (s_load Try.isAgg43 rfl (row_cell (S125.get (k := 2) rfl) rfl)) ?_
    refine AO.p rfl (p_makeFunc (fs := []) (cs := [.pointer (some ⟨i109, 0, none⟩), .pointer (some ⟨i105, 0, none⟩), .pointer (some ⟨i120, 0, none⟩), .pointer (some ⟨i101, 0, none⟩)]) rfl rfl) ?_
    have S126 := S125.front 3 rfl
    have S127 := S126.front 1 rfl
    have S128 := S127.front 3 rfl
    have S129 := S128.front 3 rfl
    have S130 := S129.front 5 rfl
    have S131 := S130.front 5 rfl
    have S132 : St M0 H G123 [oseg p_n0 (tcells T_n0), tseg T_n0, [(i109, AObj.row false ([.int .i64 a2]))], [(i105, AObj.row false ([.slice p_n0 k_n0 c_n0]))], [(i120, AObj.row false ([.int .i64 0]))], [(i101, AObj.row false ([.int .i64 a0]))]] := S131
    obtain ⟨⟨b133, rs134, x135⟩, h136, hd137⟩ := bnd_some hd118
    obtain ⟨_, G142, hc144, T138, rfl, S143, l139, t140, s141⟩ := W_impl_rounds__impl_countRobins_1 (D_impl_countRobins fu) ih fu G123 a0 p_n0 k_n0 c_n0 T_n0 n0 l_n0 s_n0 t_n0 z_n0 i109 a2 i105 i120 0 i101 a0 (St.fnodup (A := [oseg p_n0 (tcells T_n0), tseg T_n0, [(i109, AObj.row false ([.int .i64 a2]))], [(i105, AObj.row false ([.slice p_n0 k_n0 c_n0]))], [(i120, AObj.row false ([.int .i64 0]))], [(i101, AObj.row false ([.int .i64 a0]))]]) S132) (St.fmem (A := [oseg p_n0 (tcells T_n0), tseg T_n0, [(i109, AObj.row false ([.int .i64 a2]))], [(i105, AObj.row false ([.slice p_n0 k_n0 c_n0]))], [(i120, AObj.row false ([.int .i64 0]))], [(i101, AObj.row false ([.int .i64 a0]))]]) S132) b133 rs134 x135 h136
    have S145 := St.callM (A := [oseg p_n0 (tcells T_n0), tseg T_n0, [(i109, AObj.row false ([.int .i64 a2]))], [(i105, AObj.row false ([.slice p_n0 k_n0 c_n0]))], [(i120, AObj.row false ([.int .i64 0]))], [(i101, AObj.row false ([.int .i64 a0]))]]) S132 S143 (fun j h => h)
    refine AO.c rfl (o_call (vs := [.int .i64 a0, .slice p_n0 k_n0 c_n0, .func (.func 111) #[] #[.pointer (some ⟨i109, 0, none⟩), .pointer (some ⟨i105, 0, none⟩), .pointer (some ⟨i120, 0, none⟩), .pointer (some ⟨i101, 0, none⟩)]]) rfl Try.call110 hc144) ?_
    refine AO.nil ?_
    refine AX.seq ?_
    refine AX.region ?_
    refine AO.c rfl (s_load Try.isAgg2 rfl (row_cell (S145.get (k := 4) rfl) rfl)) ?_
    refine AO.p rfl (p_assign rfl) ?_
    refine AO.nil ?_
    refine AX.ret ?_
    obtain ⟨rfl, rfl⟩ := Prod.mk.inj (some_inj hd137)
    have S147 := S145.front 1 rfl
    have S148 := S147.front 1 rfl
    have S149 := S148.keep 2
    exact ⟨.inr rfl, _, res1 rfl (rv_tmp rfl), T138, rfl, S149, l139, t140, s141⟩

set_option maxHeartbeats 4000000 in
theorem W_impl_CountRobins (fu : Nat) (H : AHeap) (a0 : Int) (r0 : Int) (r1 : Int) (hd : D_impl_CountRobins fu a0 = some (r0, r1)) : ACall Try.prog 11 [.int .i64 a0] H (.tuple #[.int .i64 r0, .int .i64 r1]) H := by
  refine ACall.bodyP (N := 16) [(0, .int .i64 a0)] Try.func11 rfl rfl rfl rfl ?_
  unfold D_impl_CountRobins at hd
  have S0 : St [] H H [] := St.nil H
  refine AX.seq ?_
  refine AX.region ?_
  refine AO.p rfl (p_assign rfl) ?_
  refine AO.p rfl (p_assign rfl) ?_
  refine AO.nil ?_
  refine AX.seq ?_
  refine AX.seq ?_
  refine AX.region ?_
  refine AO.p rfl (p_move rfl) ?_
  obtain ⟨b100, h101, hd102⟩ := bnd_some hd
  refine AO.c rfl (o_call (vs := [.int .i64 a0, .int .i64 2, .int .i64 6]) rfl Try.call52 (W_impl_between fu H a0 2 6 b100 h101)) ?_
  refine AO.p rfl (p_not rfl) ?_
  refine AO.nil ?_
  refine AX.cond rfl (fun c104 => ?_) (fun c104 => ?_)
  · have hd105 := bif_t c104 hd102
    refine AX.seq ?_
    refine AX.region ?_
    refine AO.p rfl (p_assign rfl) ?_
    refine AO.p rfl (p_assign rfl) ?_
    refine AO.nil ?_
    refine AX.ret ?_
    obtain ⟨rfl, rfl⟩ := Prod.mk.inj (some_inj hd105)
    exact ⟨.inr rfl, _, res2 rfl (rv_tmp rfl) (rv_tmp rfl), rfl, (flat_t2 (flatB_ok rfl) (flatB_ok rfl)), S0.hold⟩
  · have hd107 := bif_f c104 hd102
    refine AX.skip ?_
    refine AX.seq ?_
    refine AX.region ?_
    refine AO.p rfl (p_move rfl) ?_
    refine AO.p rfl (p_move rfl) ?_
    refine AO.p rfl (p_remE rfl rfl (by decide)) ?_
    obtain ⟨k108, hd109⟩ := chk_some hd107
    refine AO.p rfl (p_addE rfl rfl k108) ?_
    refine AO.p rfl (p_assign rfl) ?_
    refine AO.nil ?_
    refine AX.seq ?_
    refine AX.region ?_
    refine AO.p rfl (p_move rfl) ?_
    refine AO.p rfl (p_move rfl) ?_
    obtain ⟨rs110, h111, hd112⟩ := bnd_some hd109
    obtain ⟨_, G121, hc120, p113, c114, T117, rfl, S122, B116, t118, s119⟩ := W_impl_square fu H (a0 + (a0.tmod 2)) rs110 h111
    have S123 := S0.call S122
    refine AO.c rfl (o_call (vs := [.int .i64 (a0 + (a0.tmod 2))]) rfl Try.call54 hc120) ?_
    have S124 := S123.front 1 rfl
    have S125 := S124.front 1 rfl
    obtain ⟨⟨x126, rs127⟩, h128, hd129⟩ := bnd_some hd112
    obtain ⟨_, G134, hc136, T130, rfl, S135, l131, t132, s133⟩ := W_impl_countRobins fu G121 (a0 + (a0.tmod 2)) 1 p113 rs110.length c114 T117 rs110 rfl B116 t118 s119 (St.fnodup (A := [oseg p113 (tcells T117), tseg T117]) S125) (St.fmem (A := [oseg p113 (tcells T117), tseg T117]) S125) x126 rs127 h128
    have S137 := St.callM (A := [oseg p113 (tcells T117), tseg T117]) S125 S135 (fun j h => h)
    refine AO.c rfl (o_call (vs := [.int .i64 (a0 + (a0.tmod 2)), .slice p113 rs110.length c114, .int .i64 1]) rfl Try.call53 hc136) ?_
    refine AO.p rfl (p_assign rfl) ?_
    refine AO.p rfl (p_assign rfl) ?_
    refine AO.nil ?_
    refine AX.ret ?_
    obtain ⟨rfl, rfl⟩ := Prod.mk.inj (some_inj hd129)
    exact ⟨.inr rfl, _, res2 rfl (rv_tmp rfl) (rv_tmp rfl), rfl, (flat_t2 (flatB_ok rfl) (flatB_ok rfl)), S137.hold⟩

end Go.Proofs.Ytdafmafigcljkaa
