/-
  The program computes that, printed by a program. No condition.
-/
import Derived.Test.YtdafmafigcljkaaDB
import Derived.Test.YtdafmafigcljkaaWA
import Derived.Test.YtdafmafigcljkaaWSo
import Derived.Test.YtdafmafigcljkaaProg
import Derived.KernelRfl
namespace Go.Proofs.Ytdafmafigcljkaa
open Go Go.RowKit Am
set_option linter.unusedVariables false
set_option linter.unusedSimpArgs false
set_option maxRecDepth 20000
set_option maxHeartbeats 4000000 in
theorem W_slices_Values_Sint64_int64 (fu : Nat) (H : AHeap) (p_a0 : Option Addr) (c_a0 : Nat) (a0 : List Int) (v_a0 : Vw H p_a0 a0.length c_a0 (ints a0)) (hd : D_slices_Values_Sint64_int64 fu a0 = some ()) : ∃ v G', ACall Try.prog 154 [.slice p_a0 a0.length c_a0] H v G' ∧ ∃ (i_rf : Nat), (v = .func (.func 171) #[] #[.pointer (some ⟨i_rf, 0, none⟩)]) ∧ St [] H G' [[(i_rf, AObj.row false ([.slice p_a0 a0.length c_a0]))]] := by
  refine ACall.bodyX (args := [.slice p_a0 a0.length c_a0]) (N := 4) [(0, .slice p_a0 a0.length c_a0)] (fun v G' => ∃ (i_rf : Nat), (v = .func (.func 171) #[] #[.pointer (some ⟨i_rf, 0, none⟩)]) ∧ St [] H G' [[(i_rf, AObj.row false ([.slice p_a0 a0.length c_a0]))]]) Try.func154 rfl rfl rfl rfl ?_
  unfold D_slices_Values_Sint64_int64 at hd
  have S0 : St [] H H [] := St.nil H
  refine AX.seq ?_
  refine AX.region ?_
  obtain ⟨G100, i101, hii101, hHG100, S102⟩ := S0.new (AObj.row false ([.slice p_a0 a0.length c_a0]))
  refine AO.c rfl (s_box (i := i101) (cs := [.slice p_a0 a0.length c_a0]) rfl hii101 rfl hHG100) ?_
  refine AO.p rfl (p_assign rfl) ?_
  refine AO.nil ?_
  refine AX.seq ?_
  refine AX.region ?_
  refine AO.p rfl (p_makeFunc (fs := []) (cs := [.pointer (some ⟨i101, 0, none⟩)]) rfl rfl) ?_
  refine AO.p rfl (p_assign rfl) ?_
  refine AO.nil ?_
  refine AX.ret ?_
  have S104 := S102.front 0 rfl
  exact ⟨.inr rfl, _, res1 rfl (rv_tmp rfl), i101, rfl, S104⟩

set_option maxHeartbeats 4000000 in
theorem W_slices_Index_Sint64_int64 (fu : Nat) (H : AHeap) (p_a0 : Option Addr) (c_a0 : Nat) (a0 : List Int) (v_a0 : Vw H p_a0 a0.length c_a0 (ints a0)) (a1 : Int) (r0 : Int) (hd : D_slices_Index_Sint64_int64 fu a0 a1 = some r0) : ACall Try.prog 157 [.slice p_a0 a0.length c_a0, .int .i64 a1] H (.int .i64 r0) H := by
  refine ACall.bodyP (N := 19) [(0, .slice p_a0 a0.length c_a0), (1, .int .i64 a1)] Try.func157 rfl rfl rfl rfl ?_
  unfold D_slices_Index_Sint64_int64 at hd
  have S0 : St [] H H [] := St.nil H
  refine AX.seq ?_
  refine AX.region ?_
  refine AO.p rfl (p_assign rfl) ?_
  refine AO.nil ?_
  refine AX.seq ?_
  refine AX.seq ?_
  refine AX.region ?_
  refine AO.p rfl (p_move rfl) ?_
  refine AO.p rfl (p_len_slice rfl Try.underlying58) ?_
  refine AO.p rfl (p_move rfl) ?_
  refine AO.nil ?_
  obtain ⟨r141, hl142, hd143⟩ := bnd_some hd
  refine AX.cutS (fun t' H' => .inl () = r141 ∧ St [] H H' [] ∧ Am.Sub [] t') ?_ ?_
  · refine AX.block ?_
    refine AX.loopF (fun s' t' H' => ∃ (x127 : Int), x127 = s' ∧ St [] H H' [] ∧ Am.Sub [(0, .slice p_a0 a0.length c_a0), (1, .int .i64 a1), (7, .int .i64 ((a0.length : Nat) : Int)), (8, .int .i64 x127)] t') hl142 ?_ ?_
    · skip
      exact ⟨0, rfl, S0, Sub.cons' rfl rfl (Sub.cons' rfl rfl (Sub.cons' rfl rfl (Sub.cons' rfl rfl (Sub.nil _))))⟩
    · rintro n144 _ t' G148 ⟨x127, rfl, S147, hsub149⟩ o150 ho145 hk146
      refine AX.sub hsub149 ?_
      unfold D_slices_Index_Sint64_int64_s0 at ho145
      refine AX.seq ?_
      refine AX.region ?_
      refine AO.p rfl (p_lss rfl rfl) ?_
      refine AO.nil ?_
      refine AX.seq ?_
      refine AX.cond rfl (fun c151 => ?_) (fun c151 => ?_)
      · have hd152 := bif_t c151 ho145
        refine AX.skip ?_
        refine AX.seq ?_
        refine AX.block ?_
        refine AX.seq ?_
        refine AX.region ?_
        refine AO.p rfl (p_move rfl) ?_
        refine AO.p rfl (p_assign rfl) ?_
        refine AO.nil ?_
        refine AX.seq ?_
        refine AX.region ?_
        refine AO.p rfl (p_move rfl) ?_
        refine AO.p rfl (p_move rfl) ?_
        refine AO.p rfl (p_move rfl) ?_
        obtain ⟨k153, hd154⟩ := chk_some hd152
        refine AO.p rfl (s_indexV (q := off p_a0 + x127.toNat) Try.underlying58 Try.sizeOf2 rfl ((S147.view v_a0).p (ints_get (lt_len rfl (inR_lt k153)))) rfl k153 (o1 _ _)) ?_
        refine AO.c rfl (s_load Try.isAgg2 rfl ((S147.view v_a0).get _ _ (ints_get (lt_len rfl (inR_lt k153))))) ?_
        refine AO.p rfl (p_eql rfl rfl) ?_
        refine AO.nil ?_
        refine AX.cond rfl (fun c155 => ?_) (fun c155 => ?_)
        · have hd156 := bif_t c155 hd154
          refine AX.seq ?_
          refine AX.region ?_
          refine AO.p rfl (p_move rfl) ?_
          refine AO.p rfl (p_assign rfl) ?_
          refine AO.nil ?_
          refine AX.ret ?_
          obtain rfl := some_inj hd156
          have z157 : _ = r141 := hk146
          subst z157
          obtain rfl := some_inj hd143
          exact ⟨.inr rfl, _, res1 rfl (rv_tmp rfl), rfl, (flatB_ok rfl), S147.hold⟩
        · have hd158 := bif_f c155 hd154
          refine AX.skip ?_
          refine AX.region ?_
          obtain ⟨k159, hd160⟩ := chk_some hd158
          refine AO.p rfl (p_addE rfl rfl k159) ?_
          refine AO.p rfl (p_move rfl) ?_
          refine AO.nil ?_
          obtain rfl := some_inj hd160
          exact ⟨x127 + 1, hk146, (x127 + 1), rfl, S147, Sub.cons' rfl rfl (Sub.cons' rfl rfl (Sub.cons' rfl rfl (Sub.cons' rfl rfl (Sub.nil _))))⟩
      · have hd162 := bif_f c151 ho145
        refine AX.exit ?_
        obtain rfl := some_inj hd162
        exact ⟨hk146, S147, Sub.nil _⟩
  · rintro t' G164 ⟨rfl, S163, hsub165⟩
    refine ⟨_, hsub165, ?_⟩
    refine AX.seq ?_
    refine AX.region ?_
    refine AO.p rfl (p_assign rfl) ?_
    refine AO.nil ?_
    refine AX.ret ?_
    obtain rfl := some_inj hd143
    exact ⟨.inr rfl, _, res1 rfl (rv_tmp rfl), rfl, (flatB_ok rfl), S163.hold⟩

set_option maxHeartbeats 4000000 in
theorem W_slices_Contains_Sint64_int64 (fu : Nat) (H : AHeap) (p_a0 : Option Addr) (c_a0 : Nat) (a0 : List Int) (v_a0 : Vw H p_a0 a0.length c_a0 (ints a0)) (a1 : Int) (r0 : Bool) (hd : D_slices_Contains_Sint64_int64 fu a0 a1 = some r0) : ACall Try.prog 127 [.slice p_a0 a0.length c_a0, .int .i64 a1] H (.bool r0) H := by
  refine ACall.bodyP (N := 9) [(0, .slice p_a0 a0.length c_a0), (1, .int .i64 a1)] Try.func127 rfl rfl rfl rfl ?_
  unfold D_slices_Contains_Sint64_int64 at hd
  have S0 : St [] H H [] := St.nil H
  refine AX.seq ?_
  refine AX.region ?_
  refine AO.p rfl (p_assign rfl) ?_
  refine AO.nil ?_
  refine AX.seq ?_
  refine AX.region ?_
  refine AO.p rfl (p_move rfl) ?_
  refine AO.p rfl (p_move rfl) ?_
  obtain ⟨x100, h101, hd102⟩ := bnd_some hd
  refine AO.c rfl (o_call (vs := [.slice p_a0 a0.length c_a0, .int .i64 a1]) rfl Try.call157 (W_slices_Index_Sint64_int64 fu H p_a0 c_a0 a0 (S0.view v_a0) a1 x100 h101)) ?_
  refine AO.p rfl (p_geq rfl rfl) ?_
  refine AO.p rfl (p_assign rfl) ?_
  refine AO.nil ?_
  refine AX.ret ?_
  obtain rfl := some_inj hd102
  exact ⟨.inr rfl, _, res1 rfl (rv_tmp rfl), rfl, (flatB_ok rfl), S0.hold⟩

set_option maxHeartbeats 4000000 in
theorem W_slices_Clone_Sint64_int64 (fu : Nat) (H : AHeap) (p_a0 : Option Addr) (c_a0 : Nat) (a0 : List Int) (v_a0 : Vw H p_a0 a0.length c_a0 (ints a0)) (e_a0 : c_a0 ≠ capE) (r0 : List Int) (hd : D_slices_Clone_Sint64_int64 fu a0 = some r0) : ∃ v G', ACall Try.prog 117 [.slice p_a0 a0.length c_a0] H v G' ∧ ∃ (p_r0 : Option Addr) (c_r0 : Nat), (v = .slice p_r0 r0.length c_r0) ∧ St [] H G' [oseg p_r0 (ints r0)] ∧ Sb p_r0 r0.length c_r0 1 := by
  refine ACall.bodyX (args := [.slice p_a0 a0.length c_a0]) (N := 8) [(0, .slice p_a0 a0.length c_a0)] (fun v G' => ∃ (p_r0 : Option Addr) (c_r0 : Nat), (v = .slice p_r0 r0.length c_r0) ∧ St [] H G' [oseg p_r0 (ints r0)] ∧ Sb p_r0 r0.length c_r0 1) Try.func117 rfl rfl rfl rfl ?_
  unfold D_slices_Clone_Sint64_int64 at hd
  have S0 : St [] H H [] := St.nil H
  refine AX.seq ?_
  refine AX.region ?_
  refine AO.p rfl (p_assign rfl) ?_
  refine AO.nil ?_
  refine AX.seq ?_
  refine AX.seq ?_
  refine AX.region ?_
  refine AO.p rfl (p_move rfl) ?_
  refine AO.p rfl (p_eqlNil Try.underlying58 rfl e_a0) ?_
  refine AO.nil ?_
  refine AX.cond rfl (fun c100 => ?_) (fun c100 => ?_)
  · obtain rfl : a0 = [] := List.eq_nil_of_length_eq_zero (vw_nil v_a0 c100).1
    obtain ⟨_, hd101⟩ := chk_some hd
    refine AX.seq ?_
    refine AX.region ?_
    refine AO.p rfl (p_assign rfl) ?_
    refine AO.nil ?_
    refine AX.ret ?_
    obtain rfl := some_inj hd101
    have S102 : St [] H H (oseg none (ints []) :: _) := S0.nilseg 0
    exact ⟨.inr rfl, _, res1 rfl (rv_tmp rfl), none, 0, rfl, S102, Sb.nil⟩
  · skip
    refine AX.skip ?_
    refine AX.seq ?_
    refine AX.region ?_
    obtain ⟨G103, i104, hii104, hHG103, S105⟩ := S0.new (AObj.row false (ints []))
    refine AO.c rfl (s_build0 (i := i104) Try.underlying58 Try.sizeOf2 hii104 hHG103) ?_
    refine AO.p rfl (p_move rfl) ?_
    obtain ⟨k107, hd108⟩ := chk_some hd
    obtain ⟨p109, c110, G111, haG111, S112, Bp109⟩ := S105.app (k := 0) rfl (Sb.lit (n := 0) (by decide)) (ints a0) a0.length (ints_len1 rfl)
    have S113 := S112.cellsEq (k := 0) (us' := ints a0) (List.nil_append _) rfl
    have BS113 : Sb p109 (a0.length) c110 1 := (show 0 + a0.length = a0.length from len_nilapp (b := a0) rfl) ▸ Bp109
    refine AO.c rfl (s_app (by_ := 8) (us := ints []) (vs := ints a0) Try.underlying58 Try.underlying58 Try.typeInfo2 Try.sizeOf2 Try.zeroValue2 rfl rfl rfl rfl rfl rfl rfl (S105.buf (k := 0) rfl (Sb.lit (n := 0) (by decide)) (ints_len1 rfl)) (S105.view v_a0) (ints_len1 rfl) ints_one k107 haG111 (show 0 + a0.length = a0.length from len_nilapp (b := a0) rfl)) ?_
    refine AO.p rfl (p_assign rfl) ?_
    refine AO.nil ?_
    refine AX.ret ?_
    obtain rfl := some_inj hd108
    have S114 := S113.front 0 rfl
    exact ⟨.inr rfl, _, res1 rfl (rv_tmp rfl), p109, c110, rfl, S114, BS113⟩

set_option maxHeartbeats 4000000 in
theorem W_impl_areDifferent (fu : Nat) (H : AHeap) (p_a0 : Option Addr) (c_a0 : Nat) (a0 : List Int) (v_a0 : Vw H p_a0 a0.length c_a0 (ints a0)) (r0 : Bool) (hd : D_impl_areDifferent fu a0 = some r0) : ACall Try.prog 123 [.slice p_a0 a0.length c_a0] H (.bool r0) H := by
  refine ACall.bodyP (N := 19) [(0, .slice p_a0 a0.length c_a0)] Try.func123 rfl rfl rfl rfl ?_
  unfold D_impl_areDifferent at hd
  have S0 : St [] H H [] := St.nil H
  refine AX.seq ?_
  refine AX.region ?_
  refine AO.p rfl (p_assign rfl) ?_
  refine AO.nil ?_
  refine AX.seq ?_
  refine AX.region ?_
  refine AO.p rfl (p_move rfl) ?_
  obtain ⟨_, h100, hd101⟩ := bnd_some hd
  obtain ⟨_, G105, hc104, i102, rfl, S106⟩ := W_slices_Values_Sint64_int64 fu H p_a0 c_a0 a0 (S0.view v_a0)  h100
  have S107 := S0.call S106
  refine AO.c rfl (o_call (vs := [.slice p_a0 a0.length c_a0]) rfl Try.call154 hc104) ?_
  obtain ⟨xs108, h109, hd110⟩ := bnd_some hd101
  obtain ⟨_, G116, hc115, p111, c112, rfl, S117, B114⟩ := W_slices_Sorted_int64 fu G105 i102 false p_a0 c_a0 a0 (S107.view v_a0) (S107.get (k := 0) rfl) xs108 h109
  have S118 := S107.call S117
  refine AO.c rfl (o_call (vs := [.func (.func 171) #[] #[.pointer (some ⟨i102, 0, none⟩)]]) rfl Try.call153 hc115) ?_
  refine AO.p rfl (p_assign rfl) ?_
  refine AO.nil ?_
  obtain ⟨r148, hb149, hd150⟩ := bnd_some hd110
  refine AX.cut (fun t' H' => ∃ (b147 : Bool), b147 = r148 ∧ St [] H H' [] ∧ Am.Sub [(2, .bool b147)] t') ?_ ?_
  · skip
    refine AX.region ?_
    refine AO.p rfl (p_move rfl) ?_
    obtain ⟨b151, h152, hd153⟩ := bnd_some hb149
    refine AO.c rfl (o_call (vs := [.slice p111 xs108.length c112, .int .i64 0]) rfl Try.call127 (W_slices_Contains_Sint64_int64 fu G116 p111 c112 xs108 (S118.oview (k := 0) rfl B114 (ints_len1 rfl)) 0 b151 h152)) ?_
    refine AO.p rfl (p_not rfl) ?_
    refine AO.p rfl (p_move rfl) ?_
    refine AO.cases (d := 10) rfl (fun c155 => ?_) (fun c155 => ?_)
    · have hd156 := bif_t c155 hd153
      refine AO.gp rfl rfl rfl (p_move rfl) ?_
      obtain ⟨xs157, h158, hd159⟩ := bnd_some hd156
      obtain ⟨_, G165, hc164, p160, c161, rfl, S166, B163⟩ := W_slices_Clone_Sint64_int64 fu G116 p111 c112 xs108 (S118.oview (k := 0) rfl B114 (ints_len1 rfl)) (B114.ne rfl) xs157 h158
      have S167 := S118.call S166
      refine AO.gc rfl rfl rfl (o_call (vs := [.slice p111 xs108.length c112]) rfl Try.call117 hc164) ?_
      have S168 := S167.front 0 rfl
      obtain ⟨⟨xs169, xs170⟩, h171, hd172⟩ := bnd_some hd159
      obtain ⟨_, G175, hc174, rfl, S176, l173⟩ := W_slices_Compact_Sint64_int64 fu G165 p160 c161 xs157 B163 (S168.onodup (k := 0) rfl) (S168.omem (k := 0) rfl) xs169 xs170 h171
      have S177 := St.callM (A := [oseg p160 (ints xs157)]) S168 S176 (by simp)
      refine AO.gc rfl rfl rfl (o_call (vs := [.slice p160 xs157.length c161]) rfl Try.call155 hc174) ?_
      refine AO.gp rfl rfl rfl (p_len_slice rfl Try.underlying58) ?_
      refine AO.gp rfl rfl rfl (p_move rfl) ?_
      refine AO.gp rfl rfl rfl (p_len_slice rfl Try.underlying58) ?_
      refine AO.gp rfl rfl rfl (p_eql rfl rfl) ?_
      refine AO.p rfl (p_pickT rfl rfl) ?_
      refine AO.p rfl (p_assign rfl) ?_
      refine AO.nil ?_
      have S178 := S177.keep 0
      exact ⟨(decide (((xs169.length : Nat) : Int) = ((xs108.length : Nat) : Int))), (some_inj hd172), S178, Sub.cons' rfl rfl (Sub.nil _)⟩
    · have hd179 := bif_f c155 hd153
      refine AO.gn rfl rfl rfl ?_
      refine AO.gn rfl rfl rfl ?_
      refine AO.gn rfl rfl rfl ?_
      refine AO.gn rfl rfl rfl ?_
      refine AO.gn rfl rfl rfl ?_
      refine AO.gn rfl rfl rfl ?_
      refine AO.gn rfl rfl rfl ?_
      refine AO.p rfl (p_pickF rfl rfl) ?_
      refine AO.p rfl (p_assign rfl) ?_
      refine AO.nil ?_
      have S180 := S118.keep 0
      exact ⟨false, (some_inj hd179), S180, Sub.cons' rfl rfl (Sub.nil _)⟩
  · rintro t' G182 ⟨b147, rfl, S181, hsub183⟩
    refine AX.sub hsub183 ?_
    refine AX.ret ?_
    obtain rfl := some_inj hd150
    exact ⟨.inr rfl, _, res1 rfl (rv_tmp rfl), rfl, (flatB_ok rfl), S181.hold⟩

set_option maxHeartbeats 4000000 in
theorem W_impl_isStrong (fu : Nat) (H : AHeap) (a0 : Int) (p_a1 : Option Addr) (c_a1 : Nat) (T_a1 : Tb) (a1 : List (List Int)) (t_a1 : trows T_a1 = a1) (v_a1 : Vw H p_a1 a1.length c_a1 (tcells T_a1)) (w_a1 : TVw H T_a1) (r0 : Bool) (hd : D_impl_isStrong fu a0 a1 = some r0) : ACall Try.prog 78 [.int .i64 a0, .slice p_a1 a1.length c_a1] H (.bool r0) H := by
  refine ACall.bodyP (N := 9) [(0, .int .i64 a0), (1, .slice p_a1 a1.length c_a1)] Try.func78 rfl rfl rfl rfl ?_
  unfold D_impl_isStrong at hd
  have S0 : St [] H H [] := St.nil H
  refine AX.seq ?_
  refine AX.region ?_
  refine AO.p rfl (p_assign rfl) ?_
  refine AO.nil ?_
  refine AX.seq ?_
  refine AX.region ?_
  refine AO.p rfl (p_move rfl) ?_
  refine AO.p rfl (p_move rfl) ?_
  obtain ⟨xs100, h101, hd102⟩ := bnd_some hd
  obtain ⟨_, G108, hc107, p103, c104, rfl, S109, B106⟩ := W_impl_sums fu H a0 p_a1 c_a1 T_a1 a1 t_a1 (S0.view v_a1) (S0.tview w_a1) xs100 h101
  have S110 := S0.call S109
  refine AO.c rfl (o_call (vs := [.int .i64 a0, .slice p_a1 a1.length c_a1]) rfl Try.call124 hc107) ?_
  obtain ⟨b111, h112, hd113⟩ := bnd_some hd102
  refine AO.c rfl (o_call (vs := [.slice p103 xs100.length c104]) rfl Try.call123 (W_impl_areDifferent fu G108 p103 c104 xs100 (S110.oview (k := 0) rfl B106 (ints_len1 rfl)) b111 h112)) ?_
  refine AO.p rfl (p_assign rfl) ?_
  refine AO.nil ?_
  refine AX.ret ?_
  obtain rfl := some_inj hd113
  exact ⟨.inr rfl, _, res1 rfl (rv_tmp rfl), rfl, (flatB_ok rfl), S110.hold⟩

set_option maxHeartbeats 4000000 in
theorem W_slices_IndexFunc_Sint64_int64 (fu : Nat) (H : AHeap) (p_a0 : Option Addr) (c_a0 : Nat) (a0 : List Int) (v_a0 : Vw H p_a0 a0.length c_a0 (ints a0)) (f_a1 : FuncId) (fs_a1 cs_a1 : Array Value) (a1 : Int → Option Bool) (hc_a1 : ∀ args w, (callFunc f_a1 args).run Try.prog w = .ok (.enter f_a1 args) w) (hq_a1 : ∀ H', ExtG H H' → ∀ (x0_a1 : Int) (b : Bool), a1 x0_a1 = some b → ACall Try.prog f_a1 (fs_a1.toList ++ [.int .i64 x0_a1] ++ cs_a1.toList) H' (.bool b) H') (r0 : Int) (hd : D_slices_IndexFunc_Sint64_int64 fu a0 a1 = some r0) : ACall Try.prog 156 [.slice p_a0 a0.length c_a0, .func (.func f_a1) fs_a1 cs_a1] H (.int .i64 r0) H := by
  refine ACall.bodyP (N := 19) [(0, .slice p_a0 a0.length c_a0), (1, .func (.func f_a1) fs_a1 cs_a1)] Try.func156 rfl rfl rfl rfl ?_
  unfold D_slices_IndexFunc_Sint64_int64 at hd
  have S0 : St [] H H [] := St.nil H
  refine AX.seq ?_
  refine AX.region ?_
  refine AO.p rfl (p_assign rfl) ?_
  refine AO.nil ?_
  refine AX.seq ?_
  refine AX.seq ?_
  refine AX.region ?_
  refine AO.p rfl (p_move rfl) ?_
  refine AO.p rfl (p_len_slice rfl Try.underlying58) ?_
  refine AO.p rfl (p_move rfl) ?_
  refine AO.nil ?_
  obtain ⟨r150, hl151, hd152⟩ := bnd_some hd
  refine AX.cutS (fun t' H' => .inl () = r150 ∧ St [] H H' [] ∧ Am.Sub [] t') ?_ ?_
  · refine AX.block ?_
    refine AX.loopF (fun s' t' H' => ∃ (x133 : Int), x133 = s' ∧ St [] H H' [] ∧ Am.Sub [(0, .slice p_a0 a0.length c_a0), (1, .func (.func f_a1) fs_a1 cs_a1), (7, .int .i64 ((a0.length : Nat) : Int)), (8, .int .i64 x133)] t') hl151 ?_ ?_
    · skip
      exact ⟨0, rfl, S0, Sub.cons' rfl rfl (Sub.cons' rfl rfl (Sub.cons' rfl rfl (Sub.cons' rfl rfl (Sub.nil _))))⟩
    · rintro n153 _ t' G157 ⟨x133, rfl, S156, hsub158⟩ o159 ho154 hk155
      refine AX.sub hsub158 ?_
      unfold D_slices_IndexFunc_Sint64_int64_s0 at ho154
      refine AX.seq ?_
      refine AX.region ?_
      refine AO.p rfl (p_lss rfl rfl) ?_
      refine AO.nil ?_
      refine AX.seq ?_
      refine AX.cond rfl (fun c160 => ?_) (fun c160 => ?_)
      · have hd161 := bif_t c160 ho154
        refine AX.skip ?_
        refine AX.seq ?_
        refine AX.block ?_
        refine AX.seq ?_
        refine AX.region ?_
        refine AO.p rfl (p_move rfl) ?_
        refine AO.p rfl (p_assign rfl) ?_
        refine AO.nil ?_
        refine AX.seq ?_
        refine AX.region ?_
        refine AO.p rfl (p_move rfl) ?_
        refine AO.p rfl (p_move rfl) ?_
        refine AO.p rfl (p_move rfl) ?_
        obtain ⟨k162, hd163⟩ := chk_some hd161
        refine AO.p rfl (s_indexV (q := off p_a0 + x133.toNat) Try.underlying58 Try.sizeOf2 rfl ((S156.view v_a0).p (ints_get (lt_len rfl (inR_lt k162)))) rfl k162 (o1 _ _)) ?_
        refine AO.c rfl (s_load Try.isAgg2 rfl ((S156.view v_a0).get _ _ (ints_get (lt_len rfl (inR_lt k162))))) ?_
        obtain ⟨b164, h165, hd166⟩ := bnd_some hd163
        refine AO.c rfl (o_callV (vs := [.int .i64 (rd a0 x133.toNat)]) rfl rfl hc_a1 (hq_a1 G157 S156.ext (rd a0 x133.toNat) b164 h165)) ?_
        refine AO.nil ?_
        refine AX.cond rfl (fun c167 => ?_) (fun c167 => ?_)
        · have hd168 := bif_t c167 hd166
          refine AX.seq ?_
          refine AX.region ?_
          refine AO.p rfl (p_move rfl) ?_
          refine AO.p rfl (p_assign rfl) ?_
          refine AO.nil ?_
          refine AX.ret ?_
          obtain rfl := some_inj hd168
          have z169 : _ = r150 := hk155
          subst z169
          obtain rfl := some_inj hd152
          exact ⟨.inr rfl, _, res1 rfl (rv_tmp rfl), rfl, (flatB_ok rfl), S156.hold⟩
        · have hd170 := bif_f c167 hd166
          refine AX.skip ?_
          refine AX.region ?_
          obtain ⟨k171, hd172⟩ := chk_some hd170
          refine AO.p rfl (p_addE rfl rfl k171) ?_
          refine AO.p rfl (p_move rfl) ?_
          refine AO.nil ?_
          obtain rfl := some_inj hd172
          exact ⟨x133 + 1, hk155, (x133 + 1), rfl, S156, Sub.cons' rfl rfl (Sub.cons' rfl rfl (Sub.cons' rfl rfl (Sub.cons' rfl rfl (Sub.nil _))))⟩
      · have hd174 := bif_f c160 ho154
        refine AX.exit ?_
        obtain rfl := some_inj hd174
        exact ⟨hk155, S156, Sub.nil _⟩
  · rintro t' G176 ⟨rfl, S175, hsub177⟩
    refine ⟨_, hsub177, ?_⟩
    refine AX.seq ?_
    refine AX.region ?_
    refine AO.p rfl (p_assign rfl) ?_
    refine AO.nil ?_
    refine AX.ret ?_
    obtain rfl := some_inj hd152
    exact ⟨.inr rfl, _, res1 rfl (rv_tmp rfl), rfl, (flatB_ok rfl), S175.hold⟩

set_option maxHeartbeats 4000000 in
theorem W_slices_ContainsFunc_Sint64_int64 (fu : Nat) (H : AHeap) (p_a0 : Option Addr) (c_a0 : Nat) (a0 : List Int) (v_a0 : Vw H p_a0 a0.length c_a0 (ints a0)) (f_a1 : FuncId) (fs_a1 cs_a1 : Array Value) (a1 : Int → Option Bool) (hc_a1 : ∀ args w, (callFunc f_a1 args).run Try.prog w = .ok (.enter f_a1 args) w) (hq_a1 : ∀ H', ExtG H H' → ∀ (x0_a1 : Int) (b : Bool), a1 x0_a1 = some b → ACall Try.prog f_a1 (fs_a1.toList ++ [.int .i64 x0_a1] ++ cs_a1.toList) H' (.bool b) H') (r0 : Bool) (hd : D_slices_ContainsFunc_Sint64_int64 fu a0 a1 = some r0) : ACall Try.prog 125 [.slice p_a0 a0.length c_a0, .func (.func f_a1) fs_a1 cs_a1] H (.bool r0) H := by
  refine ACall.bodyP (N := 9) [(0, .slice p_a0 a0.length c_a0), (1, .func (.func f_a1) fs_a1 cs_a1)] Try.func125 rfl rfl rfl rfl ?_
  unfold D_slices_ContainsFunc_Sint64_int64 at hd
  have S0 : St [] H H [] := St.nil H
  refine AX.seq ?_
  refine AX.region ?_
  refine AO.p rfl (p_assign rfl) ?_
  refine AO.nil ?_
  refine AX.seq ?_
  refine AX.region ?_
  refine AO.p rfl (p_move rfl) ?_
  refine AO.p rfl (p_move rfl) ?_
  obtain ⟨x100, h101, hd102⟩ := bnd_some hd
  refine AO.c rfl (o_call (vs := [.slice p_a0 a0.length c_a0, .func (.func f_a1) fs_a1 cs_a1]) rfl Try.call156 (W_slices_IndexFunc_Sint64_int64 fu H p_a0 c_a0 a0 (S0.view v_a0) f_a1 fs_a1 cs_a1 a1 hc_a1 (fun G' hG => hq_a1 G' (S0.ext.trans hG)) x100 h101)) ?_
  refine AO.p rfl (p_geq rfl rfl) ?_
  refine AO.p rfl (p_assign rfl) ?_
  refine AO.nil ?_
  refine AX.ret ?_
  obtain rfl := some_inj hd102
  exact ⟨.inr rfl, _, res1 rfl (rv_tmp rfl), rfl, (flatB_ok rfl), S0.hold⟩

set_option maxHeartbeats 4000000 in
theorem W_impl_isSkew_1 (fu : Nat) (H : AHeap) (a0 : Int) (i_b0 : Nat) (ro_b0 : Bool) (p_b0_0 : Option Addr) (c_b0_0 : Nat) (b0_0 : List Int) (v_b0_0 : Vw H p_b0_0 b0_0.length c_b0_0 (ints b0_0)) (o_b0 : hget H i_b0 = .row ro_b0 ([.slice p_b0_0 b0_0.length c_b0_0])) (i_b1 : Nat) (ro_b1 : Bool) (b1_0 : Int) (o_b1 : hget H i_b1 = .row ro_b1 ([.int .i64 b1_0])) (r0 : Bool) (hd : D_impl_isSkew_1 fu a0 b0_0 b1_0 = some r0) : ACall Try.prog 126 [.int .i64 a0, .pointer (some ⟨i_b0, 0, none⟩), .pointer (some ⟨i_b1, 0, none⟩)] H (.bool r0) H := by
  refine ACall.bodyP (N := 10) [(0, .int .i64 a0), (1, .pointer (some ⟨i_b0, 0, none⟩)), (2, .pointer (some ⟨i_b1, 0, none⟩))] Try.func126 rfl rfl rfl rfl ?_
  unfold D_impl_isSkew_1 at hd
  have S0 : St [] H H [] := St.nil H
  refine AX.seq ?_
  refine AX.region ?_
  refine AO.p rfl (p_assign rfl) ?_
  refine AO.nil ?_
  refine AX.seq ?_
  refine AX.region ?_
  refine AO.c rfl (s_load Try.isAgg58 rfl (row_cell (S0.old o_b0 (by simp)) rfl)) ?_
  refine AO.c rfl (s_load Try.isAgg2 rfl (row_cell (S0.old o_b1 (by simp)) rfl)) ?_
  refine AO.p rfl (p_move rfl) ?_
  obtain ⟨k100, hd101⟩ := chk_some hd
  refine AO.p rfl (p_subE rfl rfl k100) ?_
  obtain ⟨b102, h103, hd104⟩ := bnd_some hd101
  refine AO.c rfl (o_call (vs := [.slice p_b0_0 b0_0.length c_b0_0, .int .i64 (b1_0 - a0)]) rfl Try.call127 (W_slices_Contains_Sint64_int64 fu H p_b0_0 c_b0_0 b0_0 (S0.view v_b0_0) (b1_0 - a0) b102 h103)) ?_
  refine AO.p rfl (p_assign rfl) ?_
  refine AO.nil ?_
  refine AX.ret ?_
  obtain rfl := some_inj hd104
  exact ⟨.inr rfl, _, res1 rfl (rv_tmp rfl), rfl, (flatB_ok rfl), S0.hold⟩

set_option maxHeartbeats 4000000 in
theorem W_impl_isSkew (fu : Nat) (H : AHeap) (a0 : Int) (p_a1 : Option Addr) (c_a1 : Nat) (T_a1 : Tb) (a1 : List (List Int)) (t_a1 : trows T_a1 = a1) (v_a1 : Vw H p_a1 a1.length c_a1 (tcells T_a1)) (w_a1 : TVw H T_a1) (r0 : Bool) (hd : D_impl_isSkew fu a0 a1 = some r0) : ACall Try.prog 79 [.int .i64 a0, .slice p_a1 a1.length c_a1] H (.bool r0) H := by
  refine ACall.bodyP (N := 18) [(0, .int .i64 a0), (1, .slice p_a1 a1.length c_a1)] Try.func79 rfl rfl rfl rfl ?_
  unfold D_impl_isSkew at hd
  have S0 : St [] H H [] := St.nil H
  refine AX.seq ?_
  refine AX.region ?_
  obtain ⟨G100, i101, hii101, hHG100, S102⟩ := S0.new (AObj.row false ([.int .i64 a0]))
  refine AO.c rfl (s_box (i := i101) (cs := [.int .i64 a0]) rfl hii101 rfl hHG100) ?_
  refine AO.p rfl (p_assign rfl) ?_
  refine AO.nil ?_
  refine AX.seq ?_
  refine AX.region ?_
  refine AO.c rfl (s_load Try.isAgg2 rfl (row_cell (S102.get (k := 0) rfl) rfl)) ?_
  refine AO.p rfl (p_move rfl) ?_
  obtain ⟨xs104, h105, hd106⟩ := bnd_some hd
  obtain ⟨_, G112, hc111, p107, c108, rfl, S113, B110⟩ := W_impl_sums fu G100 a0 p_a1 c_a1 T_a1 a1 t_a1 (S102.view v_a1) (S102.tview w_a1) xs104 h105
  have S114 := S102.call S113
  refine AO.c rfl (o_call (vs := [.int .i64 a0, .slice p_a1 a1.length c_a1]) rfl Try.call124 hc111) ?_
  obtain ⟨G115, i116, hii116, hHG115, S117⟩ := S114.new (AObj.row false ([.slice none 0 0]))
  refine AO.c rfl (s_alloc (i := i116) (cs := [.slice none 0 0]) Try.zeroValue58 rfl rfl hii116 hHG115) ?_
  obtain ⟨G119, hHG119, S120⟩ := S117.set (k := 0) (i := i116) rfl (AObj.row false ([.slice p107 xs104.length c108]))
  refine AO.s (s_store Try.sizeOf58 rfl rfl rfl (S117.get (k := 0) rfl) (Nat.le_of_ble_eq_true rfl) hHG119) ?_
  refine AO.nil ?_
  obtain ⟨r133, hb134, hd135⟩ := bnd_some hd106
  refine AX.cut (fun t' H' => ∃ (b132 : Bool), b132 = r133 ∧ St [] H H' [] ∧ Am.Sub [(4, .bool b132)] t') ?_ ?_
  · skip
    refine AX.region ?_
    refine AO.c rfl (s_load Try.isAgg2 rfl (row_cell (S120.get (k := 2) rfl) rfl)) ?_
    refine AO.p rfl (p_move rfl) ?_
    obtain ⟨b136, h137, hd138⟩ := bnd_some hb134
    refine AO.c rfl (o_call (vs := [.int .i64 a0, .slice p_a1 a1.length c_a1]) rfl Try.call78 (W_impl_isStrong fu G119 a0 p_a1 c_a1 T_a1 a1 t_a1 (S120.view v_a1) (S120.tview w_a1) b136 h137)) ?_
    refine AO.p rfl (p_move rfl) ?_
    refine AO.cases (d := 12) rfl (fun c140 => ?_) (fun c140 => ?_)
    · have hd141 := bif_t c140 hd138
      refine AO.gc rfl rfl rfl (s_load Try.isAgg58 rfl (row_cell (S120.get (k := 0) rfl) rfl)) ?_
      refine AO.gp rfl rfl rfl (p_makeFunc (fs := []) (cs := [.pointer (some ⟨i116, 0, none⟩), .pointer (some ⟨i101, 0, none⟩)]) rfl rfl) ?_
      obtain ⟨b142, h143, hd144⟩ := bnd_some hd141
      refine AO.gc rfl rfl rfl (o_call (vs := [.slice p107 xs104.length c108, .func (.func 126) #[] #[.pointer (some ⟨i116, 0, none⟩), .pointer (some ⟨i101, 0, none⟩)]]) rfl Try.call125 (W_slices_ContainsFunc_Sint64_int64 fu G119 p107 c108 xs104 (S120.oview (k := 1) rfl B110 (ints_len1 rfl)) 126 #[] #[.pointer (some ⟨i116, 0, none⟩), .pointer (some ⟨i101, 0, none⟩)] (fun x0' => D_impl_isSkew_1 fu x0' xs104 a0) Try.call126 (fun G' hG x0' b' hb' => W_impl_isSkew_1 fu G' x0' i116 false p107 c108 xs104 (hG.view (S120.oview (k := 1) rfl B110 (ints_len1 rfl))) (hG.get (S120.get (k := 0) rfl)) i101 false a0 (hG.get (S120.get (k := 2) rfl)) b' hb') b142 h143)) ?_
      refine AO.gp rfl rfl rfl (p_not rfl) ?_
      refine AO.p rfl (p_pickT rfl rfl) ?_
      refine AO.p rfl (p_assign rfl) ?_
      refine AO.nil ?_
      have S146 := S120.keep 0
      exact ⟨(!b142), (some_inj hd144), S146, Sub.cons' rfl rfl (Sub.nil _)⟩
    · have hd147 := bif_f c140 hd138
      refine AO.gn rfl rfl rfl ?_
      refine AO.gn rfl rfl rfl ?_
      refine AO.gn rfl rfl rfl ?_
      refine AO.gn rfl rfl rfl ?_
      refine AO.p rfl (p_pickF rfl rfl) ?_
      refine AO.p rfl (p_assign rfl) ?_
      refine AO.nil ?_
      have S148 := S120.keep 0
      exact ⟨false, (some_inj hd147), S148, Sub.cons' rfl rfl (Sub.nil _)⟩
  · rintro t' G150 ⟨b132, rfl, S149, hsub151⟩
    refine AX.sub hsub151 ?_
    refine AX.ret ?_
    obtain rfl := some_inj hd135
    exact ⟨.inr rfl, _, res1 rfl (rv_tmp rfl), rfl, (flatB_ok rfl), S149.hold⟩

set_option maxHeartbeats 4000000 in
theorem W_spec_l03Strong (fu : Nat) (H : AHeap) (a0 : Int) (p_a1 : Option Addr) (c_a1 : Nat) (T_a1 : Tb) (a1 : List (List Int)) (t_a1 : trows T_a1 = a1) (v_a1 : Vw H p_a1 a1.length c_a1 (tcells T_a1)) (w_a1 : TVw H T_a1) (r0 : Bool) (hd : D_spec_l03Strong fu a0 a1 = some r0) : ACall Try.prog 75 [.int .i64 a0, .slice p_a1 a1.length c_a1] H (.bool r0) H := by
  refine ACall.bodyP (N := 34) [(0, .int .i64 a0), (1, .slice p_a1 a1.length c_a1)] Try.func75 rfl rfl rfl rfl ?_
  unfold D_spec_l03Strong at hd
  have S0 : St [] H H [] := St.nil H
  refine AX.seq ?_
  refine AX.region ?_
  refine AO.p rfl (p_assign rfl) ?_
  refine AO.nil ?_
  refine AX.seq ?_
  refine DR.startS [false, false, false, false, true, false, false] mix (by kernel_rfl) (fun hst => ?_)
  refine DR.p rfl rfl (p_move rfl) ?_
  obtain ⟨k100, hd101⟩ := chk_some hd
  obtain ⟨G102, i103, hii103, hHG102, S104⟩ := S0.new (AObj.row false (bls (List.replicate a0.toNat false)))
  refine DR.a rfl rfl hii103 hHG102 (a_make1 (v := .bool false) (by_ := 1) Try.underlying111 Try.typeInfo4 Try.sizeOf4 Try.zeroValue4 rfl rfl rfl rfl rfl rfl k100 bls_rep) ?_
  refine DR.p rfl rfl (p_move rfl) ?_
  refine DR.p rfl rfl (p_move rfl) ?_
  obtain ⟨xs106, h107, hd108⟩ := bnd_some hd101
  obtain ⟨_, G114, hc113, p109, c110, rfl, S115, B112⟩ := W_spec_l03Sums fu G102 a0 p_a1 c_a1 T_a1 a1 t_a1 (S104.view v_a1) (S104.tview w_a1) xs106 h107
  have S116 := S104.call S115
  refine DR.w rfl rfl (o_call (vs := [.int .i64 a0, .slice p_a1 a1.length c_a1]) rfl Try.call122 hc113) (S115.len) ?_
  refine DR.p rfl rfl (p_assign rfl) ?_
  refine DR.p rfl rfl (p_assign rfl) ?_
  refine DR.nil 7 [(1, 4)] hst (by kernel_rfl) ⟨(fun _ => by rw [hii103]; exact (S116.get (k := 1) rfl).trans (S104.get (k := 0) rfl).symm), trivial⟩ ?_
  refine AX.seq ?_
  refine AX.region ?_
  refine AO.p rfl (p_move rfl) ?_
  obtain ⟨k117, hd118⟩ := chk_some hd108
  refine AO.p rfl (s_indexV (q := 0) Try.underlying111 Try.sizeOf4 rfl rfl rfl k117 rfl) ?_
  obtain ⟨G119, hHG119, S120⟩ := S116.set (k := 1) (i := i103) rfl (AObj.row false (bls ((List.replicate a0.toNat false).set 0 true)))
  refine AO.s (s_store Try.sizeOf4 rfl rfl rfl (S116.get (k := 1) rfl) (lt_len ((bls_length _).trans len_rep) (inR_lt k117)) ((congrArg (fun l => List.set _ _ (AObj.row false l)) (bls_set _ _ _)).trans hHG119)) ?_
  refine AO.nil ?_
  refine AX.seq ?_
  refine AX.seq ?_
  refine AX.region ?_
  refine AO.p rfl (p_assign rfl) ?_
  refine AO.nil ?_
  obtain ⟨r194, hl195, hd196⟩ := bnd_some hd118
  refine AX.cutS (fun t' H' => .inl () = r194 ∧ St [] H H' [] ∧ Am.Sub [] t') ?_ ?_
  · refine AX.block ?_
    refine AX.loopF (fun s' t' H' => ∃ (bs170 : List Bool) (x172 : Int), (bs170, x172) = s' ∧ St [] H H' [[(i103, AObj.row false (bls bs170))], oseg p109 (ints xs106)] ∧ bs170.length = a0.toNat ∧ Am.Sub [(5, .slice (some (Addr.mk i103 0 none)) a0.toNat a0.toNat), (6, .slice p109 xs106.length c110), (7, .int .i64 x172)] t') hl195 ?_ ?_
    · skip
      have S197 := S120.front 0 rfl
      have S198 := S197.front 1 rfl
      exact ⟨((List.replicate a0.toNat false).set 0 true), 0, rfl, S198, (len_set len_rep), Sub.cons' rfl rfl (Sub.cons' rfl rfl (Sub.cons' rfl rfl (Sub.nil _)))⟩
    · rintro n199 _ t' G203 ⟨bs170, x172, rfl, S202, lbs170, hsub204⟩ o205 ho200 hk201
      refine AX.sub hsub204 ?_
      unfold D_spec_l03Strong_s0 at ho200
      refine AX.seq ?_
      refine AX.seq ?_
      refine AX.region ?_
      refine AO.p rfl (p_move rfl) ?_
      refine AO.p rfl (p_move rfl) ?_
      refine AO.p rfl (p_len_slice rfl Try.underlying58) ?_
      refine AO.p rfl (p_lss rfl rfl) ?_
      refine AO.nil ?_
      refine AX.cond rfl (fun c206 => ?_) (fun c206 => ?_)
      · have hd207 := bif_t c206 ho200
        refine AX.skip ?_
        refine AX.seq ?_
        refine AX.block ?_
        refine AX.seq ?_
        refine AX.seq ?_
        refine AX.region ?_
        refine AO.p rfl (p_move rfl) ?_
        refine AO.p rfl (p_move rfl) ?_
        refine AO.p rfl (p_move rfl) ?_
        obtain ⟨k208, hd209⟩ := chk_some hd207
        refine AO.p rfl (s_indexV (q := x172.toNat) Try.underlying58 Try.sizeOf2 rfl (B112.at (inR_pos k208)) rfl k208 (z1 _)) ?_
        refine AO.c rfl (s_load Try.isAgg2 rfl (row_cell (S202.oat (k := 1) rfl (B112.at (inR_pos k208))) (ints_get (lt_len rfl (inR_lt k208))))) ?_
        obtain ⟨k210, hd211⟩ := chk_some hd209
        refine AO.p rfl (s_indexV (q := (rd xs106 x172.toNat).toNat) Try.underlying111 Try.sizeOf4 rfl rfl rfl k210 (z1 _)) ?_
        refine AO.c rfl (s_load Try.isAgg4 rfl (row_cell (S202.get (k := 0) rfl) (bls_get (lt_len lbs170 (inR_lt k210))))) ?_
        refine AO.nil ?_
        refine AX.cond rfl (fun c212 => ?_) (fun c212 => ?_)
        · have hd213 := bif_t c212 hd211
          refine AX.seq ?_
          refine AX.region ?_
          refine AO.p rfl (p_assign rfl) ?_
          refine AO.nil ?_
          refine AX.ret ?_
          obtain rfl := some_inj hd213
          have z214 : _ = r194 := hk201
          subst z214
          obtain rfl := some_inj hd196
          exact ⟨.inr rfl, _, res1 rfl (rv_tmp rfl), rfl, (flatB_ok rfl), S202.hold⟩
        · have hd215 := bif_f c212 hd211
          refine AX.skip ?_
          refine AX.region ?_
          refine AO.p rfl (p_move rfl) ?_
          refine AO.p rfl (p_move rfl) ?_
          refine AO.p rfl (p_move rfl) ?_
          obtain ⟨k216, hd217⟩ := chk_some hd215
          refine AO.p rfl (s_indexV (q := x172.toNat) Try.underlying58 Try.sizeOf2 rfl (B112.at (inR_pos k216)) rfl k216 (z1 _)) ?_
          refine AO.c rfl (s_load Try.isAgg2 rfl (row_cell (S202.oat (k := 1) rfl (B112.at (inR_pos k216))) (ints_get (lt_len rfl (inR_lt k216))))) ?_
          obtain ⟨k218, hd219⟩ := chk_some hd217
          refine AO.p rfl (s_indexV (q := (rd xs106 x172.toNat).toNat) Try.underlying111 Try.sizeOf4 rfl rfl rfl k218 (z1 _)) ?_
          obtain ⟨G220, hHG220, S221⟩ := S202.set (k := 0) (i := i103) rfl (AObj.row false (bls (bs170.set ((rd xs106 x172.toNat).toNat) true)))
          refine AO.s (s_store Try.sizeOf4 rfl rfl rfl (S202.get (k := 0) rfl) (lt_len ((bls_length _).trans lbs170) (inR_lt k218)) ((congrArg (fun l => List.set _ _ (AObj.row false l)) (bls_set _ _ _)).trans hHG220)) ?_
          refine AO.nil ?_
          refine AX.region ?_
          refine AO.p rfl (p_move rfl) ?_
          obtain ⟨k222, hd223⟩ := chk_some hd219
          refine AO.p rfl (p_addE rfl rfl k222) ?_
          refine AO.p rfl (p_assign rfl) ?_
          refine AO.nil ?_
          obtain rfl := some_inj hd223
          have S225 := S221.front 1 rfl
          have S226 := S225.front 1 rfl
          exact ⟨((bs170.set ((rd xs106 x172.toNat).toNat) true), x172 + 1), hk201, (bs170.set ((rd xs106 x172.toNat).toNat) true), (x172 + 1), rfl, S226, (len_set lbs170), Sub.cons' rfl rfl (Sub.cons' rfl rfl (Sub.cons' rfl rfl (Sub.nil _)))⟩
      · have hd227 := bif_f c206 ho200
        refine AX.exit ?_
        obtain rfl := some_inj hd227
        have S228 := S202.keep 0
        exact ⟨hk201, S228, Sub.nil _⟩
  · rintro t' G230 ⟨rfl, S229, hsub231⟩
    refine ⟨_, hsub231, ?_⟩
    refine AX.seq ?_
    refine AX.region ?_
    refine AO.p rfl (p_assign rfl) ?_
    refine AO.nil ?_
    refine AX.ret ?_
    obtain rfl := some_inj hd196
    exact ⟨.inr rfl, _, res1 rfl (rv_tmp rfl), rfl, (flatB_ok rfl), S229.hold⟩

set_option maxHeartbeats 4000000 in
theorem W_spec_l03Skew (fu : Nat) (H : AHeap) (a0 : Int) (p_a1 : Option Addr) (c_a1 : Nat) (T_a1 : Tb) (a1 : List (List Int)) (t_a1 : trows T_a1 = a1) (v_a1 : Vw H p_a1 a1.length c_a1 (tcells T_a1)) (w_a1 : TVw H T_a1) (r0 : Bool) (hd : D_spec_l03Skew fu a0 a1 = some r0) : ACall Try.prog 76 [.int .i64 a0, .slice p_a1 a1.length c_a1] H (.bool r0) H := by
  refine ACall.bodyP (N := 37) [(0, .int .i64 a0), (1, .slice p_a1 a1.length c_a1)] Try.func76 rfl rfl rfl rfl ?_
  unfold D_spec_l03Skew at hd
  have S0 : St [] H H [] := St.nil H
  refine AX.seq ?_
  refine AX.region ?_
  refine AO.p rfl (p_assign rfl) ?_
  refine AO.nil ?_
  refine AX.seq ?_
  refine AX.region ?_
  refine AO.p rfl (p_move rfl) ?_
  refine AO.p rfl (p_move rfl) ?_
  obtain ⟨xs100, h101, hd102⟩ := bnd_some hd
  obtain ⟨_, G108, hc107, p103, c104, rfl, S109, B106⟩ := W_spec_l03Sums fu H a0 p_a1 c_a1 T_a1 a1 t_a1 (S0.view v_a1) (S0.tview w_a1) xs100 h101
  have S110 := S0.call S109
  refine AO.c rfl (o_call (vs := [.int .i64 a0, .slice p_a1 a1.length c_a1]) rfl Try.call122 hc107) ?_
  refine AO.p rfl (p_assign rfl) ?_
  refine AO.nil ?_
  refine AX.seq ?_
  refine AX.seq ?_
  refine AX.region ?_
  refine AO.p rfl (p_assign rfl) ?_
  refine AO.nil ?_
  obtain ⟨r434, hl435, hd436⟩ := bnd_some hd102
  refine AX.cutS (fun t' H' => .inl () = r434 ∧ St [] H H' [] ∧ Am.Sub [(0, .int .i64 a0), (1, .slice p_a1 a1.length c_a1)] t') ?_ ?_
  · refine AX.block ?_
    refine AX.loopF (fun s' t' H' => ∃ (x327 : Int), x327 = s' ∧ St [] H H' [oseg p103 (ints xs100)] ∧ Am.Sub [(0, .int .i64 a0), (1, .slice p_a1 a1.length c_a1), (5, .slice p103 xs100.length c104), (6, .int .i64 x327)] t') hl435 ?_ ?_
    · skip
      have S437 := S110.front 0 rfl
      exact ⟨0, rfl, S437, Sub.cons' rfl rfl (Sub.cons' rfl rfl (Sub.cons' rfl rfl (Sub.cons' rfl rfl (Sub.nil _))))⟩
    · rintro n438 _ t' G442 ⟨x327, rfl, S441, hsub443⟩ o444 ho439 hk440
      refine AX.sub hsub443 ?_
      unfold D_spec_l03Skew_s0 at ho439
      refine AX.seq ?_
      refine AX.seq ?_
      refine AX.region ?_
      refine AO.p rfl (p_move rfl) ?_
      refine AO.p rfl (p_move rfl) ?_
      refine AO.p rfl (p_len_slice rfl Try.underlying58) ?_
      refine AO.p rfl (p_lss rfl rfl) ?_
      refine AO.nil ?_
      refine AX.cond rfl (fun c445 => ?_) (fun c445 => ?_)
      · have hd446 := bif_t c445 ho439
        refine AX.skip ?_
        refine AX.seq ?_
        refine AX.block ?_
        refine AX.seq ?_
        refine AX.region ?_
        refine AO.p rfl (p_assign rfl) ?_
        refine AO.nil ?_
        obtain ⟨r513, hl514, hd515⟩ := bnd_some hd446
        refine AX.cutS (fun t' H' => .inl () = r513 ∧ St [] H H' [oseg p103 (ints xs100)] ∧ Am.Sub [(0, .int .i64 a0), (1, .slice p_a1 a1.length c_a1), (5, .slice p103 xs100.length c104), (6, .int .i64 x327)] t') ?_ ?_
        · refine AX.block ?_
          refine AX.loopF (fun s' t' H' => ∃ (x491 : Int), x491 = s' ∧ St [] H H' [oseg p103 (ints xs100)] ∧ Am.Sub [(0, .int .i64 a0), (1, .slice p_a1 a1.length c_a1), (5, .slice p103 xs100.length c104), (6, .int .i64 x327), (7, .int .i64 x491)] t') hl514 ?_ ?_
          · skip
            have S516 := S441.front 0 rfl
            exact ⟨0, rfl, S516, Sub.cons' rfl rfl (Sub.cons' rfl rfl (Sub.cons' rfl rfl (Sub.cons' rfl rfl (Sub.cons' rfl rfl (Sub.nil _)))))⟩
          · rintro n517 _ t' G521 ⟨x491, rfl, S520, hsub522⟩ o523 ho518 hk519
            refine AX.sub hsub522 ?_
            unfold D_spec_l03Skew_s1 at ho518
            refine AX.seq ?_
            refine AX.seq ?_
            refine AX.region ?_
            refine AO.p rfl (p_move rfl) ?_
            refine AO.p rfl (p_move rfl) ?_
            refine AO.p rfl (p_leq rfl rfl) ?_
            refine AO.nil ?_
            refine AX.cond rfl (fun c524 => ?_) (fun c524 => ?_)
            · have hd525 := bif_t c524 ho518
              refine AX.skip ?_
              refine AX.seq ?_
              refine AX.block ?_
              refine AX.seq ?_
              refine DR.startS [false, false, false, false, false, false, false, false, false, false, false, false] mix (by kernel_rfl) (fun hst => ?_)
              refine DR.p rfl rfl (p_move rfl) ?_
              refine DR.p rfl rfl (p_move rfl) ?_
              obtain ⟨k526, hd527⟩ := chk_some hd525
              refine DR.p rfl rfl (s_indexV (q := x327.toNat) Try.underlying58 Try.sizeOf2 rfl (B106.at (inR_pos k526)) rfl k526 (z1 _)) ?_
              refine DR.r rfl rfl (r_load rfl Try.isAgg2) (one_read (row_cell (S520.oat (k := 0) rfl (B106.at (inR_pos k526))) (ints_get (lt_len rfl (inR_lt k526)))) (.of_flat0 rfl)) ?_
              refine DR.p rfl rfl (p_move rfl) ?_
              refine DR.p rfl rfl (p_move rfl) ?_
              obtain ⟨k528, hd529⟩ := chk_some hd527
              refine DR.p rfl rfl (s_indexV (q := x491.toNat) Try.underlying58 Try.sizeOf2 rfl (B106.at (inR_pos k528)) rfl k528 (z1 _)) ?_
              refine DR.r rfl rfl (r_load rfl Try.isAgg2) (one_read (row_cell (S520.oat (k := 0) rfl (B106.at (inR_pos k528))) (ints_get (lt_len rfl (inR_lt k528)))) (.of_flat0 rfl)) ?_
              obtain ⟨k530, hd531⟩ := chk_some hd529
              refine DR.p rfl rfl (p_addE rfl rfl k530) ?_
              refine DR.p rfl rfl (p_move rfl) ?_
              obtain ⟨k532, hd533⟩ := chk_some hd531
              refine DR.p rfl rfl (p_remE rfl rfl k532) ?_
              refine DR.p rfl rfl (p_eql rfl rfl) ?_
              refine DR.nil 12 [] hst (by kernel_rfl) trivial ?_
              refine AX.cond rfl (fun c534 => ?_) (fun c534 => ?_)
              · have hd535 := bif_t c534 hd533
                refine AX.seq ?_
                refine AX.region ?_
                refine AO.p rfl (p_assign rfl) ?_
                refine AO.nil ?_
                refine AX.ret ?_
                obtain rfl := some_inj hd535
                have z536 : _ = r513 := hk519
                subst z536
                obtain rfl := some_inj hd515
                have z537 : _ = r434 := hk440
                subst z537
                obtain rfl := some_inj hd436
                exact ⟨.inr rfl, _, res1 rfl (rv_tmp rfl), rfl, (flatB_ok rfl), S520.hold⟩
              · have hd538 := bif_f c534 hd533
                refine AX.skip ?_
                refine AX.region ?_
                refine AO.p rfl (p_move rfl) ?_
                obtain ⟨k539, hd540⟩ := chk_some hd538
                refine AO.p rfl (p_addE rfl rfl k539) ?_
                refine AO.p rfl (p_assign rfl) ?_
                refine AO.nil ?_
                obtain rfl := some_inj hd540
                have S542 := S520.front 0 rfl
                exact ⟨x491 + 1, hk519, (x491 + 1), rfl, S542, Sub.cons' rfl rfl (Sub.cons' rfl rfl (Sub.cons' rfl rfl (Sub.cons' rfl rfl (Sub.cons' rfl rfl (Sub.nil _)))))⟩
            · have hd543 := bif_f c524 ho518
              refine AX.exit ?_
              obtain rfl := some_inj hd543
              have S544 := S520.front 0 rfl
              exact ⟨hk519, S544, Sub.cons' rfl rfl (Sub.cons' rfl rfl (Sub.cons' rfl rfl (Sub.cons' rfl rfl (Sub.nil _))))⟩
        · rintro t' G546 ⟨rfl, S545, hsub547⟩
          refine ⟨_, hsub547, ?_⟩
          refine AX.region ?_
          refine AO.p rfl (p_move rfl) ?_
          obtain ⟨k548, hd549⟩ := chk_some hd515
          refine AO.p rfl (p_addE rfl rfl k548) ?_
          refine AO.p rfl (p_assign rfl) ?_
          refine AO.nil ?_
          obtain rfl := some_inj hd549
          have S551 := S545.front 0 rfl
          exact ⟨x327 + 1, hk440, (x327 + 1), rfl, S551, Sub.cons' rfl rfl (Sub.cons' rfl rfl (Sub.cons' rfl rfl (Sub.cons' rfl rfl (Sub.nil _))))⟩
      · have hd553 := bif_f c445 ho439
        refine AX.exit ?_
        obtain rfl := some_inj hd553
        have S554 := S441.keep 0
        exact ⟨hk440, S554, Sub.cons' rfl rfl (Sub.cons' rfl rfl (Sub.nil _))⟩
  · rintro t' G556 ⟨rfl, S555, hsub557⟩
    refine ⟨_, hsub557, ?_⟩
    refine AX.seq ?_
    refine AX.region ?_
    refine AO.p rfl (p_move rfl) ?_
    refine AO.p rfl (p_move rfl) ?_
    obtain ⟨b558, h559, hd560⟩ := bnd_some hd436
    refine AO.c rfl (o_call (vs := [.int .i64 a0, .slice p_a1 a1.length c_a1]) rfl Try.call75 (W_spec_l03Strong fu G556 a0 p_a1 c_a1 T_a1 a1 t_a1 (S555.view v_a1) (S555.tview w_a1) b558 h559)) ?_
    refine AO.p rfl (p_assign rfl) ?_
    refine AO.nil ?_
    refine AX.ret ?_
    obtain rfl := some_inj hd560
    exact ⟨.inr rfl, _, res1 rfl (rv_tmp rfl), rfl, (flatB_ok rfl), S555.hold⟩

end Go.Proofs.Ytdafmafigcljkaa
