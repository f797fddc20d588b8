/-
  The program computes that, printed by a program. No condition.
-/
import Derived.Test.YtdafmafigcljkaaDMa
import Derived.Test.YtdafmafigcljkaaWA
import Derived.Test.YtdafmafigcljkaaPw
import Derived.Test.YtdafmafigcljkaaAst
import Derived.Test.YtdafmafigcljkaaBit
import Derived.Test.YtdafmafigcljkaaProg
import Derived.KernelRfl
namespace Go.Proofs.Ytdafmafigcljkaa
open Go Go.RowKit Am
set_option linter.unusedVariables false
set_option linter.unusedSimpArgs false
set_option maxRecDepth 20000
set_option maxHeartbeats 4000000 in
theorem W_math_bits_Len64 (fu : Nat) (H : AHeap) (a0 : Int) (r0 : Int) (hd : D_math_bits_Len64 fu a0 = some r0) : ACall Try.prog 181 [.int .u64 a0] H (.int .i64 r0) H := by
  refine ACall.bodyP (N := 25) [(0, .int .u64 a0)] Try.func181 rfl rfl rfl rfl ?_
  unfold D_math_bits_Len64 at hd
  have S0 : St [] H H [] := St.nil H
  refine AX.seq ?_
  refine AX.region ?_
  refine AO.p rfl (p_assign rfl) ?_
  refine AO.nil ?_
  refine AX.seq ?_
  refine AX.seq ?_
  refine AX.region ?_
  refine AO.p rfl (p_move rfl) ?_
  refine AO.p rfl (p_geq rfl rfl) ?_
  refine AO.nil ?_
  refine AX.cond rfl (fun c100 => ?_) (fun c100 => ?_)
  · have hd101 := bif_t c100 hd
    cases hd101
  · have hd102 := bif_f c100 hd
    refine AX.skip ?_
    refine AX.seq ?_
    refine AX.seq ?_
    refine AX.region ?_
    refine AO.p rfl (p_move rfl) ?_
    refine AO.p rfl (p_geq rfl rfl) ?_
    refine AO.nil ?_
    refine AX.cond rfl (fun c103 => ?_) (fun c103 => ?_)
    · have hd104 := bif_t c103 hd102
      cases hd104
    · have hd105 := bif_f c103 hd102
      refine AX.skip ?_
      refine AX.seq ?_
      refine AX.seq ?_
      refine AX.region ?_
      refine AO.p rfl (p_move rfl) ?_
      refine AO.p rfl (p_geq rfl rfl) ?_
      refine AO.nil ?_
      refine AX.cond rfl (fun c106 => ?_) (fun c106 => ?_)
      · have hd107 := bif_t c106 hd105
        cases hd107
      · have hd108 := bif_f c106 hd105
        refine AX.skip ?_
        refine AX.seq ?_
        refine AX.region ?_
        refine AO.p rfl (p_move rfl) ?_
        refine AO.p rfl (p_move rfl) ?_
        refine AO.p rfl (p_conv Try.underlying118 Try.underlying5 rfl rfl) ?_
        obtain ⟨k109, hd110⟩ := chk_some hd108
        refine AO.p rfl (p_indexS Try.underlying9 rfl rfl k109) ?_
        obtain ⟨k111, hd112⟩ := chk_some hd110
        refine AO.p rfl (p_convI Try.underlying5 Try.underlying3 rfl k111) ?_
        obtain ⟨k113, hd114⟩ := chk_some hd112
        refine AO.p rfl (p_addE rfl rfl k113) ?_
        refine AO.p rfl (p_assign rfl) ?_
        refine AO.nil ?_
        refine AX.ret ?_
        obtain rfl := some_inj hd114
        exact ⟨.inr rfl, _, res1 rfl (rv_tmp rfl), rfl, (flatB_ok rfl), S0.hold⟩

set_option maxHeartbeats 4000000 in
theorem W_math_bits_Len (fu : Nat) (H : AHeap) (a0 : Int) (r0 : Int) (hd : D_math_bits_Len fu a0 = some r0) : ACall Try.prog 161 [.int .u64 a0] H (.int .i64 r0) H := by
  refine ACall.bodyP (N := 8) [(0, .int .u64 a0)] Try.func161 rfl rfl rfl rfl ?_
  unfold D_math_bits_Len at hd
  have S0 : St [] H H [] := St.nil H
  refine AX.seq ?_
  refine AX.region ?_
  refine AO.p rfl (p_assign rfl) ?_
  refine AO.nil ?_
  refine AX.seq ?_
  refine AX.cond rfl (fun h => nomatch h) (fun _ => ?_)
  refine AX.skip ?_
  refine AX.seq ?_
  refine AX.region ?_
  refine AO.p rfl (p_move rfl) ?_
  obtain ⟨x100, h101, hd102⟩ := bnd_some hd
  refine AO.c rfl (o_call (vs := [.int .u64 a0]) rfl Try.call181 (W_math_bits_Len64 fu H a0 x100 h101)) ?_
  refine AO.p rfl (p_assign rfl) ?_
  refine AO.nil ?_
  refine AX.ret ?_
  obtain rfl := some_inj hd102
  exact ⟨.inr rfl, _, res1 rfl (rv_tmp rfl), rfl, (flatB_ok rfl), S0.hold⟩

set_option maxHeartbeats 4000000 in
theorem W_cmp_isNaN_int64 (fu : Nat) (H : AHeap) (a0 : Int) (r0 : Bool) (hd : D_cmp_isNaN_int64 fu a0 = some r0) : ACall Try.prog 182 [.int .i64 a0] H (.bool r0) H := by
  refine ACall.bodyP (N := 6) [(0, .int .i64 a0)] Try.func182 rfl rfl rfl rfl ?_
  unfold D_cmp_isNaN_int64 at hd
  have S0 : St [] H H [] := St.nil H
  refine AX.seq ?_
  refine AX.region ?_
  refine AO.p rfl (p_assign rfl) ?_
  refine AO.nil ?_
  refine AX.seq ?_
  refine AX.region ?_
  refine AO.p rfl (p_move rfl) ?_
  refine AO.p rfl (p_move rfl) ?_
  refine AO.p rfl (p_neq rfl rfl) ?_
  refine AO.p rfl (p_assign rfl) ?_
  refine AO.nil ?_
  refine AX.ret ?_
  obtain rfl := some_inj hd
  exact ⟨.inr rfl, _, res1 rfl (rv_tmp rfl), rfl, (flatB_ok rfl), S0.hold⟩

set_option maxHeartbeats 4000000 in
theorem W_cmp_Compare_int64 (fu : Nat) (H : AHeap) (a0 : Int) (a1 : Int) (r0 : Int) (hd : D_cmp_Compare_int64 fu a0 a1 = some r0) : ACall Try.prog 162 [.int .i64 a0, .int .i64 a1] H (.int .i64 r0) H := by
  refine ACall.bodyP (N := 20) [(0, .int .i64 a0), (1, .int .i64 a1)] Try.func162 rfl rfl rfl rfl ?_
  unfold D_cmp_Compare_int64 at hd
  have S0 : St [] H H [] := St.nil H
  refine AX.seq ?_
  refine AX.region ?_
  refine AO.p rfl (p_assign rfl) ?_
  refine AO.nil ?_
  refine AX.seq ?_
  refine AX.region ?_
  refine AO.p rfl (p_move rfl) ?_
  obtain ⟨b100, h101, hd102⟩ := bnd_some hd
  refine AO.c rfl (o_call (vs := [.int .i64 a0]) rfl Try.call182 (W_cmp_isNaN_int64 fu H a0 b100 h101)) ?_
  refine AO.p rfl (p_assign rfl) ?_
  refine AO.nil ?_
  refine AX.seq ?_
  refine AX.region ?_
  refine AO.p rfl (p_move rfl) ?_
  obtain ⟨b104, h105, hd106⟩ := bnd_some hd102
  refine AO.c rfl (o_call (vs := [.int .i64 a1]) rfl Try.call182 (W_cmp_isNaN_int64 fu H a1 b104 h105)) ?_
  refine AO.p rfl (p_assign rfl) ?_
  refine AO.nil ?_
  refine AX.seq ?_
  refine AX.seq ?_
  refine AX.region ?_
  refine AO.p rfl (p_move rfl) ?_
  refine AO.nil ?_
  refine AX.cond rfl (fun c108 => ?_) (fun c108 => ?_)
  · have hd109 := bif_t c108 hd106
    refine AX.seq ?_
    refine AX.seq ?_
    refine AX.region ?_
    refine AO.p rfl (p_move rfl) ?_
    refine AO.nil ?_
    refine AX.cond rfl (fun c110 => ?_) (fun c110 => ?_)
    · have hd111 := bif_t c110 hd109
      refine AX.seq ?_
      refine AX.region ?_
      refine AO.p rfl (p_assign rfl) ?_
      refine AO.nil ?_
      refine AX.ret ?_
      obtain rfl := some_inj hd111
      exact ⟨.inr rfl, _, res1 rfl (rv_tmp rfl), rfl, (flatB_ok rfl), S0.hold⟩
    · have hd112 := bif_f c110 hd109
      refine AX.skip ?_
      refine AX.seq ?_
      refine AX.region ?_
      refine AO.p rfl (p_assign rfl) ?_
      refine AO.nil ?_
      refine AX.ret ?_
      obtain rfl := some_inj hd112
      exact ⟨.inr rfl, _, res1 rfl (rv_tmp rfl), rfl, (flatB_ok rfl), S0.hold⟩
  · have hd113 := bif_f c108 hd106
    refine AX.skip ?_
    refine AX.seq ?_
    refine AX.seq ?_
    refine AX.region ?_
    refine AO.p rfl (p_move rfl) ?_
    refine AO.nil ?_
    refine AX.cond rfl (fun c114 => ?_) (fun c114 => ?_)
    · have hd115 := bif_t c114 hd113
      refine AX.seq ?_
      refine AX.region ?_
      refine AO.p rfl (p_assign rfl) ?_
      refine AO.nil ?_
      refine AX.ret ?_
      obtain rfl := some_inj hd115
      exact ⟨.inr rfl, _, res1 rfl (rv_tmp rfl), rfl, (flatB_ok rfl), S0.hold⟩
    · have hd116 := bif_f c114 hd113
      refine AX.skip ?_
      refine AX.seq ?_
      refine AX.seq ?_
      refine AX.region ?_
      refine AO.p rfl (p_move rfl) ?_
      refine AO.p rfl (p_move rfl) ?_
      refine AO.p rfl (p_lss rfl rfl) ?_
      refine AO.nil ?_
      refine AX.cond rfl (fun c117 => ?_) (fun c117 => ?_)
      · have hd118 := bif_t c117 hd116
        refine AX.seq ?_
        refine AX.region ?_
        refine AO.p rfl (p_assign rfl) ?_
        refine AO.nil ?_
        refine AX.ret ?_
        obtain rfl := some_inj hd118
        exact ⟨.inr rfl, _, res1 rfl (rv_tmp rfl), rfl, (flatB_ok rfl), S0.hold⟩
      · have hd119 := bif_f c117 hd116
        refine AX.skip ?_
        refine AX.seq ?_
        refine AX.seq ?_
        refine AX.region ?_
        refine AO.p rfl (p_move rfl) ?_
        refine AO.p rfl (p_move rfl) ?_
        refine AO.p rfl (p_gtr rfl rfl) ?_
        refine AO.nil ?_
        refine AX.cond rfl (fun c120 => ?_) (fun c120 => ?_)
        · have hd121 := bif_t c120 hd119
          refine AX.seq ?_
          refine AX.region ?_
          refine AO.p rfl (p_assign rfl) ?_
          refine AO.nil ?_
          refine AX.ret ?_
          obtain rfl := some_inj hd121
          exact ⟨.inr rfl, _, res1 rfl (rv_tmp rfl), rfl, (flatB_ok rfl), S0.hold⟩
        · have hd122 := bif_f c120 hd119
          refine AX.skip ?_
          refine AX.seq ?_
          refine AX.region ?_
          refine AO.p rfl (p_assign rfl) ?_
          refine AO.nil ?_
          refine AX.ret ?_
          obtain rfl := some_inj hd122
          exact ⟨.inr rfl, _, res1 rfl (rv_tmp rfl), rfl, (flatB_ok rfl), S0.hold⟩

set_option maxHeartbeats 4000000 in
theorem W_slices_Compare_Sint64_int64 (fu : Nat) (H : AHeap) (p_a0 : Option Addr) (c_a0 : Nat) (a0 : List Int) (v_a0 : Vw H p_a0 a0.length c_a0 (ints a0)) (p_a1 : Option Addr) (c_a1 : Nat) (a1 : List Int) (v_a1 : Vw H p_a1 a1.length c_a1 (ints a1)) (r0 : Int) (hd : D_slices_Compare_Sint64_int64 fu a0 a1 = some r0) : ACall Try.prog 134 [.slice p_a0 a0.length c_a0, .slice p_a1 a1.length c_a1] H (.int .i64 r0) H := by
  refine ACall.bodyP (N := 36) [(0, .slice p_a0 a0.length c_a0), (1, .slice p_a1 a1.length c_a1)] Try.func134 rfl rfl rfl rfl ?_
  unfold D_slices_Compare_Sint64_int64 at hd
  have S0 : St [] H H [] := St.nil H
  refine AX.seq ?_
  refine AX.region ?_
  refine AO.p rfl (p_assign rfl) ?_
  refine AO.nil ?_
  refine AX.seq ?_
  refine AX.seq ?_
  refine AX.region ?_
  refine AO.p rfl (p_move rfl) ?_
  refine AO.p rfl (p_len_slice rfl Try.underlying58) ?_
  refine AO.p rfl (p_move rfl) ?_
  refine AO.nil ?_
  obtain ⟨r168, hl169, hd170⟩ := bnd_some hd
  refine AX.cutS (fun t' H' => .inl () = r168 ∧ St [] H H' [] ∧ Am.Sub [(0, .slice p_a0 a0.length c_a0), (1, .slice p_a1 a1.length c_a1)] t') ?_ ?_
  · refine AX.block ?_
    refine AX.loopF (fun s' t' H' => ∃ (x145 : Int), x145 = s' ∧ St [] H H' [] ∧ Am.Sub [(0, .slice p_a0 a0.length c_a0), (1, .slice p_a1 a1.length c_a1), (9, .slice p_a0 a0.length c_a0), (10, .int .i64 ((a0.length : Nat) : Int)), (11, .int .i64 x145)] t') hl169 ?_ ?_
    · skip
      exact ⟨0, rfl, S0, Sub.cons' rfl rfl (Sub.cons' rfl rfl (Sub.cons' rfl rfl (Sub.cons' rfl rfl (Sub.cons' rfl rfl (Sub.nil _)))))⟩
    · rintro n171 _ t' G175 ⟨x145, rfl, S174, hsub176⟩ o177 ho172 hk173
      refine AX.sub hsub176 ?_
      unfold D_slices_Compare_Sint64_int64_s0 at ho172
      refine AX.seq ?_
      refine AX.region ?_
      refine AO.p rfl (p_lss rfl rfl) ?_
      refine AO.nil ?_
      refine AX.seq ?_
      refine AX.cond rfl (fun c178 => ?_) (fun c178 => ?_)
      · have hd179 := bif_t c178 ho172
        refine AX.skip ?_
        refine AX.seq ?_
        refine AX.block ?_
        refine AX.seq ?_
        refine AX.region ?_
        refine AO.p rfl (p_move rfl) ?_
        obtain ⟨k180, hd181⟩ := chk_some hd179
        refine AO.p rfl (s_indexV (q := off p_a0 + x145.toNat) Try.underlying58 Try.sizeOf2 rfl ((S174.view v_a0).p (ints_get (lt_len rfl (inR_lt k180)))) rfl k180 (o1 _ _)) ?_
        refine AO.c rfl (s_load Try.isAgg2 rfl ((S174.view v_a0).get _ _ (ints_get (lt_len rfl (inR_lt k180))))) ?_
        refine AO.p rfl (p_assign rfl) ?_
        refine AO.p rfl (p_assign rfl) ?_
        refine AO.nil ?_
        refine AX.seq ?_
        refine AX.seq ?_
        refine AX.region ?_
        refine AO.p rfl (p_move rfl) ?_
        refine AO.p rfl (p_move rfl) ?_
        refine AO.p rfl (p_len_slice rfl Try.underlying58) ?_
        refine AO.p rfl (p_geq rfl rfl) ?_
        refine AO.nil ?_
        refine AX.cond rfl (fun c182 => ?_) (fun c182 => ?_)
        · have hd183 := bif_t c182 hd181
          refine AX.seq ?_
          refine AX.region ?_
          refine AO.p rfl (p_assign rfl) ?_
          refine AO.nil ?_
          refine AX.ret ?_
          obtain rfl := some_inj hd183
          have z184 : _ = r168 := hk173
          subst z184
          obtain rfl := some_inj hd170
          exact ⟨.inr rfl, _, res1 rfl (rv_tmp rfl), rfl, (flatB_ok rfl), S174.hold⟩
        · have hd185 := bif_f c182 hd181
          refine AX.skip ?_
          refine AX.seq ?_
          refine AX.region ?_
          refine AO.p rfl (p_move rfl) ?_
          refine AO.p rfl (p_move rfl) ?_
          obtain ⟨k186, hd187⟩ := chk_some hd185
          refine AO.p rfl (s_indexV (q := off p_a1 + x145.toNat) Try.underlying58 Try.sizeOf2 rfl ((S174.view v_a1).p (ints_get (lt_len rfl (inR_lt k186)))) rfl k186 (o1 _ _)) ?_
          refine AO.c rfl (s_load Try.isAgg2 rfl ((S174.view v_a1).get _ _ (ints_get (lt_len rfl (inR_lt k186))))) ?_
          refine AO.p rfl (p_assign rfl) ?_
          refine AO.nil ?_
          refine AX.seq ?_
          refine AX.region ?_
          refine AO.p rfl (p_move rfl) ?_
          refine AO.p rfl (p_move rfl) ?_
          obtain ⟨x188, h189, hd190⟩ := bnd_some hd187
          refine AO.c rfl (o_call (vs := [.int .i64 (rd a0 x145.toNat), .int .i64 (rd a1 x145.toNat)]) rfl Try.call162 (W_cmp_Compare_int64 fu G175 (rd a0 x145.toNat) (rd a1 x145.toNat) x188 h189)) ?_
          refine AO.p rfl (p_assign rfl) ?_
          refine AO.nil ?_
          refine AX.seq ?_
          refine AX.region ?_
          refine AO.p rfl (p_move rfl) ?_
          refine AO.p rfl (p_neq rfl rfl) ?_
          refine AO.nil ?_
          refine AX.cond rfl (fun c192 => ?_) (fun c192 => ?_)
          · have hd193 := bif_t c192 hd190
            refine AX.seq ?_
            refine AX.region ?_
            refine AO.p rfl (p_move rfl) ?_
            refine AO.p rfl (p_assign rfl) ?_
            refine AO.nil ?_
            refine AX.ret ?_
            obtain rfl := some_inj hd193
            have z194 : _ = r168 := hk173
            subst z194
            obtain rfl := some_inj hd170
            exact ⟨.inr rfl, _, res1 rfl (rv_tmp rfl), rfl, (flatB_ok rfl), S174.hold⟩
          · have hd195 := bif_f c192 hd190
            refine AX.skip ?_
            refine AX.region ?_
            obtain ⟨k196, hd197⟩ := chk_some hd195
            refine AO.p rfl (p_addE rfl rfl k196) ?_
            refine AO.p rfl (p_move rfl) ?_
            refine AO.nil ?_
            obtain rfl := some_inj hd197
            exact ⟨x145 + 1, hk173, (x145 + 1), rfl, S174, Sub.cons' rfl rfl (Sub.cons' rfl rfl (Sub.cons' rfl rfl (Sub.cons' rfl rfl (Sub.cons' rfl rfl (Sub.nil _)))))⟩
      · have hd199 := bif_f c178 ho172
        refine AX.exit ?_
        obtain rfl := some_inj hd199
        exact ⟨hk173, S174, Sub.cons' rfl rfl (Sub.cons' rfl rfl (Sub.nil _))⟩
  · rintro t' G201 ⟨rfl, S200, hsub202⟩
    refine ⟨_, hsub202, ?_⟩
    refine AX.seq ?_
    refine AX.seq ?_
    refine AX.region ?_
    refine AO.p rfl (p_move rfl) ?_
    refine AO.p rfl (p_len_slice rfl Try.underlying58) ?_
    refine AO.p rfl (p_move rfl) ?_
    refine AO.p rfl (p_len_slice rfl Try.underlying58) ?_
    refine AO.p rfl (p_lss rfl rfl) ?_
    refine AO.nil ?_
    refine AX.cond rfl (fun c203 => ?_) (fun c203 => ?_)
    · have hd204 := bif_t c203 hd170
      refine AX.seq ?_
      refine AX.region ?_
      refine AO.p rfl (p_assign rfl) ?_
      refine AO.nil ?_
      refine AX.ret ?_
      obtain rfl := some_inj hd204
      exact ⟨.inr rfl, _, res1 rfl (rv_tmp rfl), rfl, (flatB_ok rfl), S200.hold⟩
    · have hd205 := bif_f c203 hd170
      refine AX.skip ?_
      refine AX.seq ?_
      refine AX.region ?_
      refine AO.p rfl (p_assign rfl) ?_
      refine AO.nil ?_
      refine AX.ret ?_
      obtain rfl := some_inj hd205
      exact ⟨.inr rfl, _, res1 rfl (rv_tmp rfl), rfl, (flatB_ok rfl), S200.hold⟩

set_option maxHeartbeats 4000000 in
theorem W_slices_insertionSortCmpFunc_Sint64__slices_Compare_Sint64_int64 (fu : Nat) (H : AHeap) (a1 : Int) (a2 : Int) (p_n0 : Option Addr) (k_n0 c_n0 : Nat) (T_n0 : Tb) (n0 : List (List Int)) (l_n0 : n0.length = k_n0) (s_n0 : Sb p_n0 k_n0 c_n0 1) (t_n0 : trows T_n0 = n0) (z_n0 : TSb T_n0) (hn : (([oseg p_n0 (tcells T_n0), tseg T_n0] : List Sg).flatten.map (·.1)).Nodup) (ho : ∀ x ∈ ([oseg p_n0 (tcells T_n0), tseg T_n0] : List Sg).flatten, x.1 < H.length ∧ hget H x.1 = x.2) (m_n0 : List (List Int)) (hd : D_slices_insertionSortCmpFunc_Sint64__slices_Compare_Sint64_int64 fu a1 a2 k_n0 n0 = some m_n0) : ∃ v G', ACall Try.prog 172 [.slice p_n0 k_n0 c_n0, .int .i64 a1, .int .i64 a2, .func (.func 134) #[] #[]] H v G' ∧ ∃ (T_m_n0 : Tb), (v = .tuple #[]) ∧ St (([oseg p_n0 (tcells T_n0), tseg T_n0] : List Sg).flatten.map (·.1)) H G' [oseg p_n0 (tcells T_m_n0), tseg T_m_n0] ∧ m_n0.length = k_n0 ∧ trows T_m_n0 = m_n0 ∧ TSb T_m_n0 := by
  refine ACall.bodyX (args := [.slice p_n0 k_n0 c_n0, .int .i64 a1, .int .i64 a2, .func (.func 134) #[] #[]]) (N := 53) [(0, .slice p_n0 k_n0 c_n0), (1, .int .i64 a1), (2, .int .i64 a2), (3, .func (.func 134) #[] #[])] (fun v G' => ∃ (T_m_n0 : Tb), (v = .tuple #[]) ∧ St (([oseg p_n0 (tcells T_n0), tseg T_n0] : List Sg).flatten.map (·.1)) H G' [oseg p_n0 (tcells T_m_n0), tseg T_m_n0] ∧ m_n0.length = k_n0 ∧ trows T_m_n0 = m_n0 ∧ TSb T_m_n0) Try.func172 rfl rfl rfl rfl ?_
  unfold D_slices_insertionSortCmpFunc_Sint64__slices_Compare_Sint64_int64 at hd
  have S0 := St.initF hn ho
  generalize hM0 : (([oseg p_n0 (tcells T_n0), tseg T_n0] : List Sg).flatten.map (·.1)) = M0 at S0 ⊢
  refine AX.seq ?_
  refine AX.region ?_
  refine AO.p rfl (p_move rfl) ?_
  obtain ⟨k100, hd101⟩ := chk_some hd
  refine AO.p rfl (p_addE rfl rfl k100) ?_
  refine AO.p rfl (p_assign rfl) ?_
  refine AO.nil ?_
  obtain ⟨r1317, hl1318, hd1319⟩ := bnd_some hd101
  refine AX.cutS (fun t' H' => ∃ (rs1315 : List (List Int)) (T1316 : Tb), rs1315 = r1317 ∧ St M0 H H' [oseg p_n0 (tcells T1316), tseg T1316] ∧ rs1315.length = k_n0 ∧ trows T1316 = rs1315 ∧ TSb T1316 ∧ Am.Sub [] t') ?_ ?_
  · refine AX.block ?_
    refine AX.loopF (fun s' t' H' => ∃ (rs910 : List (List Int)) (x912 : Int) (T911 : Tb), (rs910, x912) = s' ∧ St M0 H H' [oseg p_n0 (tcells T911), tseg T911] ∧ rs910.length = k_n0 ∧ trows T911 = rs910 ∧ TSb T911 ∧ Am.Sub [(0, .slice p_n0 k_n0 c_n0), (1, .int .i64 a1), (2, .int .i64 a2), (3, .func (.func 134) #[] #[]), (8, .int .i64 x912)] t') hl1318 ?_ ?_
    · skip
      have S1320 := S0.front 1 rfl
      have S1321 := S1320.front 1 rfl
      exact ⟨n0, (a1 + 1), T_n0, rfl, S1321, l_n0, t_n0, z_n0, Sub.cons' rfl rfl (Sub.cons' rfl rfl (Sub.cons' rfl rfl (Sub.cons' rfl rfl (Sub.cons' rfl rfl (Sub.nil _)))))⟩
    · rintro n1322 _ t' G1326 ⟨rs910, x912, T911, rfl, S1325, lrs910, tT911, sT911, hsub1327⟩ o1328 ho1323 hk1324
      refine AX.sub hsub1327 ?_
      unfold D_slices_insertionSortCmpFunc_Sint64__slices_Compare_Sint64_int64_s0 at ho1323
      refine AX.seq ?_
      refine AX.seq ?_
      refine AX.region ?_
      refine AO.p rfl (p_move rfl) ?_
      refine AO.p rfl (p_move rfl) ?_
      refine AO.p rfl (p_lss rfl rfl) ?_
      refine AO.nil ?_
      refine AX.cond rfl (fun c1329 => ?_) (fun c1329 => ?_)
      · have hd1330 := bif_t c1329 ho1323
        refine AX.skip ?_
        refine AX.seq ?_
        refine AX.block ?_
        refine AX.seq ?_
        refine AX.region ?_
        refine AO.p rfl (p_move rfl) ?_
        refine AO.p rfl (p_assign rfl) ?_
        refine AO.nil ?_
        obtain ⟨r1616, hl1617, hd1618⟩ := bnd_some hd1330
        refine AX.cutS (fun t' H' => ∃ (rs1614 : List (List Int)) (T1615 : Tb), rs1614 = r1616 ∧ St M0 H H' [oseg p_n0 (tcells T1615), tseg T1615] ∧ rs1614.length = k_n0 ∧ trows T1615 = rs1614 ∧ TSb T1615 ∧ Am.Sub [(0, .slice p_n0 k_n0 c_n0), (1, .int .i64 a1), (2, .int .i64 a2), (3, .func (.func 134) #[] #[]), (8, .int .i64 x912)] t') ?_ ?_
        · refine AX.block ?_
          refine AX.loopF (fun s' t' H' => ∃ (rs1519 : List (List Int)) (x1521 : Int) (T1520 : Tb), (rs1519, x1521) = s' ∧ St M0 H H' [oseg p_n0 (tcells T1520), tseg T1520] ∧ rs1519.length = k_n0 ∧ trows T1520 = rs1519 ∧ TSb T1520 ∧ Am.Sub [(0, .slice p_n0 k_n0 c_n0), (1, .int .i64 a1), (2, .int .i64 a2), (3, .func (.func 134) #[] #[]), (8, .int .i64 x912), (9, .int .i64 x1521)] t') hl1617 ?_ ?_
          · skip
            have S1619 := S1325.front 1 rfl
            have S1620 := S1619.front 1 rfl
            exact ⟨rs910, x912, T911, rfl, S1620, lrs910, tT911, sT911, Sub.cons' rfl rfl (Sub.cons' rfl rfl (Sub.cons' rfl rfl (Sub.cons' rfl rfl (Sub.cons' rfl rfl (Sub.cons' rfl rfl (Sub.nil _))))))⟩
          · rintro n1621 _ t' G1625 ⟨rs1519, x1521, T1520, rfl, S1624, lrs1519, tT1520, sT1520, hsub1626⟩ o1627 ho1622 hk1623
            refine AX.sub hsub1626 ?_
            unfold D_slices_insertionSortCmpFunc_Sint64__slices_Compare_Sint64_int64_s1 at ho1622
            refine AX.seq ?_
            obtain ⟨r1651, hb1652, hd1653⟩ := bnd_some ho1622
            refine AX.cut (fun t' H' => ∃ (b1650 : Bool), b1650 = r1651 ∧ St M0 H H' [oseg p_n0 (tcells T1520), tseg T1520] ∧ Am.Sub [(0, .slice p_n0 k_n0 c_n0), (1, .int .i64 a1), (2, .int .i64 a2), (3, .func (.func 134) #[] #[]), (8, .int .i64 x912), (9, .int .i64 x1521), (34, .bool b1650)] t') ?_ ?_
            · skip
              refine DR.startS [false, false, false, false, false, false, false, false, false, false, false, false, false, false, true, false, false] mix (by kernel_rfl) (fun hst => ?_)
              refine DR.p rfl rfl (p_move rfl) ?_
              refine DR.p rfl rfl (p_move rfl) ?_
              refine DR.p rfl rfl (p_gtr rfl rfl) ?_
              refine DR.pb rfl rfl (p_move rfl) (fun c1654 => ?_) (fun c1654 => ?_)
              · have hd1655 := bif_t c1654 hb1652
                refine DR.gp rfl rfl rfl rfl (p_move rfl) ?_
                refine DR.gp rfl rfl rfl rfl (p_move rfl) ?_
                refine DR.gp rfl rfl rfl rfl (p_move rfl) ?_
                obtain ⟨k1656, hd1657⟩ := chk_some hd1655
                refine DR.gp rfl rfl rfl rfl (s_indexV (q := x1521.toNat) Try.underlying43 Try.sizeOf58 rfl (s_n0.at (inR_pos k1656)) rfl k1656 (z1 _)) ?_
                obtain ⟨p1658, c1659, e1660, f1661⟩ := tget tT1520 (lt_len lrs1519 (inR_lt k1656))
                refine DR.gr rfl rfl rfl rfl (r_load rfl Try.isAgg58) (one_read (row_cell (S1624.oat (k := 0) rfl (s_n0.at (inR_pos k1656))) f1661) (TVw.at (S1624.oviewT (k := 1) rfl sT1520) e1660).inn.bel) ?_
                refine DR.gp rfl rfl rfl rfl (p_move rfl) ?_
                refine DR.gp rfl rfl rfl rfl (p_move rfl) ?_
                obtain ⟨k1662, hd1663⟩ := chk_some hd1657
                refine DR.gp rfl rfl rfl rfl (p_subE rfl rfl k1662) ?_
                obtain ⟨k1664, hd1665⟩ := chk_some hd1663
                refine DR.gp rfl rfl rfl rfl (s_indexV (q := (x1521 - 1).toNat) Try.underlying43 Try.sizeOf58 rfl (s_n0.at (inR_pos k1664)) rfl k1664 (z1 _)) ?_
                obtain ⟨p1666, c1667, e1668, f1669⟩ := tget tT1520 (lt_len lrs1519 (inR_lt k1664))
                refine DR.gr rfl rfl rfl rfl (r_load rfl Try.isAgg58) (one_read (row_cell (S1624.oat (k := 0) rfl (s_n0.at (inR_pos k1664))) f1669) (TVw.at (S1624.oviewT (k := 1) rfl sT1520) e1668).inn.bel) ?_
                obtain ⟨x1670, h1671, hd1672⟩ := bnd_some hd1665
                refine DR.gw rfl rfl rfl rfl (o_callV (vs := [.slice p1658 ((rw_ rs1519 x1521.toNat).length) c1659, .slice p1666 ((rw_ rs1519 ((x1521 - 1).toNat)).length) c1667]) rfl rfl Try.call134 (W_slices_Compare_Sint64_int64 fu G1625 p1658 c1659 (rw_ rs1519 x1521.toNat) (TVw.at (S1624.oviewT (k := 1) rfl sT1520) e1660) p1666 c1667 (rw_ rs1519 ((x1521 - 1).toNat)) (TVw.at (S1624.oviewT (k := 1) rfl sT1520) e1668) x1670 h1671)) (Nat.le_refl _) ?_
                refine DR.gp rfl rfl rfl rfl (p_lss rfl rfl) ?_
                refine DR.p rfl rfl (p_pickT rfl rfl) ?_
                refine DR.nil 17 [] hst (by kernel_rfl) trivial ?_
                have S1674 := S1624.front 1 rfl
                have S1675 := S1674.front 1 rfl
                exact ⟨(decide (x1670 < 0)), (some_inj hd1672), S1675, Sub.cons' rfl rfl (Sub.cons' rfl rfl (Sub.cons' rfl rfl (Sub.cons' rfl rfl (Sub.cons' rfl rfl (Sub.cons' rfl rfl (Sub.cons' rfl rfl (Sub.nil _)))))))⟩
              · have hd1676 := bif_f c1654 hb1652
                refine DR.gn rfl rfl rfl rfl ?_
                refine DR.gn rfl rfl rfl rfl ?_
                refine DR.gn rfl rfl rfl rfl ?_
                refine DR.gn rfl rfl rfl rfl ?_
                refine DR.gn rfl rfl rfl rfl ?_
                refine DR.gn rfl rfl rfl rfl ?_
                refine DR.gn rfl rfl rfl rfl ?_
                refine DR.gn rfl rfl rfl rfl ?_
                refine DR.gn rfl rfl rfl rfl ?_
                refine DR.gn rfl rfl rfl rfl ?_
                refine DR.gn rfl rfl rfl rfl ?_
                refine DR.gn rfl rfl rfl rfl ?_
                refine DR.p rfl rfl (p_pickF rfl rfl) ?_
                refine DR.nil 17 [] hst (by kernel_rfl) trivial ?_
                have S1677 := S1624.front 1 rfl
                have S1678 := S1677.front 1 rfl
                exact ⟨false, (some_inj hd1676), S1678, Sub.cons' rfl rfl (Sub.cons' rfl rfl (Sub.cons' rfl rfl (Sub.cons' rfl rfl (Sub.cons' rfl rfl (Sub.cons' rfl rfl (Sub.cons' rfl rfl (Sub.nil _)))))))⟩
            · rintro t' G1680 ⟨b1650, rfl, S1679, hsub1681⟩
              refine AX.sub hsub1681 ?_
              refine AX.cond rfl (fun c1682 => ?_) (fun c1682 => ?_)
              · have hd1683 := bif_t c1682 hd1653
                refine AX.skip ?_
                refine AX.seq ?_
                refine AX.block ?_
                refine DR.startS [false, false, false, false, false, false, false, false, false, false, false, false, false, false, false, true, false, true] mix (by kernel_rfl) (fun hst => ?_)
                refine DR.p rfl rfl (p_move rfl) ?_
                refine DR.p rfl rfl (p_move rfl) ?_
                refine DR.p rfl rfl (p_move rfl) ?_
                refine DR.p rfl rfl (p_move rfl) ?_
                obtain ⟨k1684, hd1685⟩ := chk_some hd1683
                refine DR.p rfl rfl (p_subE rfl rfl k1684) ?_
                refine DR.p rfl rfl (p_move rfl) ?_
                refine DR.p rfl rfl (p_move rfl) ?_
                obtain ⟨k1686, hd1687⟩ := chk_some hd1685
                refine DR.p rfl rfl (p_subE rfl rfl k1686) ?_
                obtain ⟨k1688, hd1689⟩ := chk_some hd1687
                refine DR.p rfl rfl (s_indexV (q := (x1521 - 1).toNat) Try.underlying43 Try.sizeOf58 rfl (s_n0.at (inR_pos k1688)) rfl k1688 (z1 _)) ?_
                obtain ⟨p1690, c1691, e1692, f1693⟩ := tget tT1520 (lt_len lrs1519 (inR_lt k1688))
                refine DR.r rfl rfl (r_load rfl Try.isAgg58) (one_read (row_cell (S1679.oat (k := 0) rfl (s_n0.at (inR_pos k1688))) f1693) (TVw.at (S1679.oviewT (k := 1) rfl sT1520) e1692).inn.bel) ?_
                refine DR.p rfl rfl (p_move rfl) ?_
                refine DR.p rfl rfl (p_move rfl) ?_
                obtain ⟨k1694, hd1695⟩ := chk_some hd1689
                refine DR.p rfl rfl (s_indexV (q := x1521.toNat) Try.underlying43 Try.sizeOf58 rfl (s_n0.at (inR_pos k1694)) rfl k1694 (z1 _)) ?_
                obtain ⟨p1696, c1697, e1698, f1699⟩ := tget tT1520 (lt_len lrs1519 (inR_lt k1694))
                refine DR.r rfl rfl (r_load rfl Try.isAgg58) (one_read (row_cell (S1679.oat (k := 0) rfl (s_n0.at (inR_pos k1694))) f1699) (TVw.at (S1679.oviewT (k := 1) rfl sT1520) e1698).inn.bel) ?_
                obtain ⟨k1700, hd1701⟩ := chk_some hd1695
                refine DR.p rfl rfl (s_indexV (q := x1521.toNat) Try.underlying43 Try.sizeOf58 rfl (s_n0.at (inR_pos k1700)) rfl k1700 (z1 _)) ?_
                obtain ⟨G1702, hHG1702, S1703⟩ := S1679.oset (k := 0) (p := p_n0) rfl (s_n0.at (inR_pos k1700)) (tcells (T1520.set x1521.toNat (p1690, c1691, (rw_ rs1519 ((x1521 - 1).toNat)))))
                have S1704 : St M0 H G1702 [oseg p_n0 (tcells (T1520.set x1521.toNat (p1690, c1691, (rw_ rs1519 ((x1521 - 1).toNat))))), tseg T1520] := S1703
                refine DR.s rfl (s_store Try.sizeOf58 rfl rfl rfl (S1679.oat (k := 0) rfl (s_n0.at (inR_pos k1700))) (tc_lt tT1520 lrs1519 (inR_lt k1700)) ((congrArg (fun l => List.set _ _ (AObj.row false l)) (tcells_put _ _ _ _ _)).trans hHG1702)) (set_le hHG1702) ?_
                obtain ⟨k1705, hd1706⟩ := chk_some hd1701
                refine DR.p rfl rfl (s_indexV (q := (x1521 - 1).toNat) Try.underlying43 Try.sizeOf58 rfl (s_n0.at (inR_pos k1705)) rfl k1705 (z1 _)) ?_
                obtain ⟨G1707, hHG1707, S1708⟩ := S1704.oset (k := 0) (p := p_n0) rfl (s_n0.at (inR_pos k1705)) (tcells ((T1520.set x1521.toNat (p1690, c1691, (rw_ rs1519 ((x1521 - 1).toNat)))).set ((x1521 - 1).toNat) (p1696, c1697, (rw_ rs1519 x1521.toNat))))
                have S1709 : St M0 H G1707 [oseg p_n0 (tcells ((T1520.set x1521.toNat (p1690, c1691, (rw_ rs1519 ((x1521 - 1).toNat)))).set ((x1521 - 1).toNat) (p1696, c1697, (rw_ rs1519 x1521.toNat)))), tseg T1520] := S1708
                have S1710 := S1709.front 1 rfl
                have S1711 := S1710.tswap e1698 e1692
                have S1712 : St M0 H G1707 [tseg ((T1520.set x1521.toNat (p1690, c1691, (rw_ rs1519 ((x1521 - 1).toNat)))).set ((x1521 - 1).toNat) (p1696, c1697, (rw_ rs1519 x1521.toNat))), oseg p_n0 (tcells ((T1520.set x1521.toNat (p1690, c1691, (rw_ rs1519 ((x1521 - 1).toNat)))).set ((x1521 - 1).toNat) (p1696, c1697, (rw_ rs1519 x1521.toNat))))] := S1711
                refine DR.s rfl (s_store Try.sizeOf58 rfl rfl rfl (S1704.oat (k := 0) rfl (s_n0.at (inR_pos k1705))) (tc_lt (trows_set' tT1520) (len_set lrs1519) (inR_lt k1705)) ((congrArg (fun l => List.set _ _ (AObj.row false l)) (tcells_put _ _ _ _ _)).trans hHG1707)) (set_le hHG1707) ?_
                refine DR.nil 18 [] hst (by kernel_rfl) trivial ?_
                refine AX.region ?_
                refine AO.p rfl (p_move rfl) ?_
                obtain ⟨k1713, hd1714⟩ := chk_some hd1706
                refine AO.p rfl (p_subE rfl rfl k1713) ?_
                refine AO.p rfl (p_assign rfl) ?_
                refine AO.nil ?_
                obtain rfl := some_inj hd1714
                have S1716 := S1712.front 0 rfl
                have S1717 := S1716.front 1 rfl
                exact ⟨(((rs1519.set x1521.toNat (rw_ rs1519 ((x1521 - 1).toNat))).set ((x1521 - 1).toNat) (rw_ rs1519 x1521.toNat)), x1521 - 1), hk1623, ((rs1519.set x1521.toNat (rw_ rs1519 ((x1521 - 1).toNat))).set ((x1521 - 1).toNat) (rw_ rs1519 x1521.toNat)), (x1521 - 1), ((T1520.set x1521.toNat (p1690, c1691, (rw_ rs1519 ((x1521 - 1).toNat)))).set ((x1521 - 1).toNat) (p1696, c1697, (rw_ rs1519 x1521.toNat))), rfl, S1717, (len_set (len_set lrs1519)), (trows_set' (trows_set' tT1520)), (TSb.swap sT1520 e1698 e1692), Sub.cons' rfl rfl (Sub.cons' rfl rfl (Sub.cons' rfl rfl (Sub.cons' rfl rfl (Sub.cons' rfl rfl (Sub.cons' rfl rfl (Sub.nil _))))))⟩
              · have hd1718 := bif_f c1682 hd1653
                refine AX.exit ?_
                obtain rfl := some_inj hd1718
                have S1719 := S1679.front 1 rfl
                have S1720 := S1719.front 1 rfl
                exact ⟨rs1519, T1520, hk1623, S1720, lrs1519, tT1520, sT1520, Sub.cons' rfl rfl (Sub.cons' rfl rfl (Sub.cons' rfl rfl (Sub.cons' rfl rfl (Sub.cons' rfl rfl (Sub.nil _)))))⟩
        · rintro t' G1722 ⟨rs1614, T1615, rfl, S1721, lrs1614, tT1615, sT1615, hsub1723⟩
          refine ⟨_, hsub1723, ?_⟩
          refine AX.region ?_
          refine AO.p rfl (p_move rfl) ?_
          obtain ⟨k1724, hd1725⟩ := chk_some hd1618
          refine AO.p rfl (p_addE rfl rfl k1724) ?_
          refine AO.p rfl (p_assign rfl) ?_
          refine AO.nil ?_
          obtain rfl := some_inj hd1725
          have S1727 := S1721.front 1 rfl
          have S1728 := S1727.front 1 rfl
          exact ⟨(rs1614, x912 + 1), hk1324, rs1614, (x912 + 1), T1615, rfl, S1728, lrs1614, tT1615, sT1615, Sub.cons' rfl rfl (Sub.cons' rfl rfl (Sub.cons' rfl rfl (Sub.cons' rfl rfl (Sub.cons' rfl rfl (Sub.nil _)))))⟩
      · have hd1729 := bif_f c1329 ho1323
        refine AX.exit ?_
        obtain rfl := some_inj hd1729
        have S1730 := S1325.front 1 rfl
        have S1731 := S1730.front 1 rfl
        exact ⟨rs910, T911, hk1324, S1731, lrs910, tT911, sT911, Sub.nil _⟩
  · rintro t' G1733 ⟨rs1315, T1316, rfl, S1732, lrs1315, tT1316, sT1316, hsub1734⟩
    refine ⟨_, hsub1734, ?_⟩
    obtain rfl := some_inj hd1319
    have S1735 := S1732.front 1 rfl
    have S1736 := S1735.front 1 rfl
    exact ⟨.inl rfl, _, res_none rfl, T1316, rfl, S1736, lrs1315, tT1316, sT1316⟩

set_option maxHeartbeats 4000000 in
theorem W_slices_pdqsortCmpFunc_Sint64__slices_Compare_Sint64_int64 : ∀ (fu : Nat) (H : AHeap) (a1 : Int) (a2 : Int) (a3 : Int) (p_n0 : Option Addr) (k_n0 c_n0 : Nat) (T_n0 : Tb) (n0 : List (List Int)) (l_n0 : n0.length = k_n0) (s_n0 : Sb p_n0 k_n0 c_n0 1) (t_n0 : trows T_n0 = n0) (z_n0 : TSb T_n0) (hn : (([oseg p_n0 (tcells T_n0), tseg T_n0] : List Sg).flatten.map (·.1)).Nodup) (ho : ∀ x ∈ ([oseg p_n0 (tcells T_n0), tseg T_n0] : List Sg).flatten, x.1 < H.length ∧ hget H x.1 = x.2) (m_n0 : List (List Int)) (hd : D_slices_pdqsortCmpFunc_Sint64__slices_Compare_Sint64_int64 fu a1 a2 a3 k_n0 n0 = some m_n0), ∃ v G', ACall Try.prog 160 [.slice p_n0 k_n0 c_n0, .int .i64 a1, .int .i64 a2, .int .i64 a3, .func (.func 134) #[] #[]] H v G' ∧ ∃ (T_m_n0 : Tb), (v = .tuple #[]) ∧ St (([oseg p_n0 (tcells T_n0), tseg T_n0] : List Sg).flatten.map (·.1)) H G' [oseg p_n0 (tcells T_m_n0), tseg T_m_n0] ∧ m_n0.length = k_n0 ∧ trows T_m_n0 = m_n0 ∧ TSb T_m_n0 := by
  intro fu
  induction fu with
  | zero => intros; rename_i hd; cases hd
  | succ fu ih =>
  intro H a1 a2 a3 p_n0 k_n0 c_n0 T_n0 n0 l_n0 s_n0 t_n0 z_n0 hn ho m_n0 hd
  refine ACall.bodyX (args := [.slice p_n0 k_n0 c_n0, .int .i64 a1, .int .i64 a2, .int .i64 a3, .func (.func 134) #[] #[]]) (N := 148) [(0, .slice p_n0 k_n0 c_n0), (1, .int .i64 a1), (2, .int .i64 a2), (3, .int .i64 a3), (4, .func (.func 134) #[] #[])] (fun v G' => ∃ (T_m_n0 : Tb), (v = .tuple #[]) ∧ St (([oseg p_n0 (tcells T_n0), tseg T_n0] : List Sg).flatten.map (·.1)) H G' [oseg p_n0 (tcells T_m_n0), tseg T_m_n0] ∧ m_n0.length = k_n0 ∧ trows T_m_n0 = m_n0 ∧ TSb T_m_n0) Try.func160 rfl rfl rfl rfl ?_
  unfold D_slices_pdqsortCmpFunc_Sint64__slices_Compare_Sint64_int64 at hd
  have S0 := St.initF hn ho
  generalize hM0 : (([oseg p_n0 (tcells T_n0), tseg T_n0] : List Sg).flatten.map (·.1)) = M0 at S0 ⊢
  refine AX.seq ?_
  refine AX.region ?_
  refine AO.p rfl (p_assign rfl) ?_
  refine AO.nil ?_
  refine AX.seq ?_
  refine AX.region ?_
  refine AO.p rfl (p_assign rfl) ?_
  refine AO.nil ?_
  obtain ⟨r146, hl147, hd148⟩ := bnd_some hd
  · refine AX.block ?_
    refine AX.loopF (fun s' t' H' => () = s' ∧ St M0 H H' [oseg p_n0 (tcells T_n0), tseg T_n0] ∧ Am.Sub [(0, .slice p_n0 k_n0 c_n0), (1, .int .i64 a1), (2, .int .i64 a2), (3, .int .i64 a3), (4, .func (.func 134) #[] #[]), (10, .bool true), (11, .bool true)] t') hl147 ?_ ?_
    · skip
      have S149 := S0.front 1 rfl
      have S150 := S149.front 1 rfl
      exact ⟨rfl, S150, Sub.cons' rfl rfl (Sub.cons' rfl rfl (Sub.cons' rfl rfl (Sub.cons' rfl rfl (Sub.cons' rfl rfl (Sub.cons' rfl rfl (Sub.cons' rfl rfl (Sub.nil _)))))))⟩
    · rintro n151 _ t' G155 ⟨rfl, S154, hsub156⟩ o157 ho152 hk153
      refine AX.sub hsub156 ?_
      unfold D_slices_pdqsortCmpFunc_Sint64__slices_Compare_Sint64_int64_s0 at ho152
      refine AX.block ?_
      refine AX.seq ?_
      refine AX.region ?_
      refine AO.p rfl (p_move rfl) ?_
      refine AO.p rfl (p_move rfl) ?_
      obtain ⟨k158, hd159⟩ := chk_some ho152
      refine AO.p rfl (p_subE rfl rfl k158) ?_
      refine AO.p rfl (p_assign rfl) ?_
      refine AO.nil ?_
      refine AX.seq ?_
      refine AX.seq ?_
      refine AX.region ?_
      refine AO.p rfl (p_move rfl) ?_
      refine AO.p rfl (p_leq rfl rfl) ?_
      refine AO.nil ?_
      refine AX.cond rfl (fun c160 => ?_) (fun c160 => ?_)
      · have hd161 := bif_t c160 hd159
        refine AX.seq ?_
        refine AX.region ?_
        refine AO.p rfl (p_move rfl) ?_
        refine AO.p rfl (p_move rfl) ?_
        refine AO.p rfl (p_move rfl) ?_
        refine AO.p rfl (p_move rfl) ?_
        have S162 := S154.front 1 rfl
        have S163 := S162.front 1 rfl
        have S164 : St M0 H G155 [oseg p_n0 (tcells T_n0), tseg T_n0] := S163
        obtain ⟨rs165, h166, hd167⟩ := bnd_some hd161
        obtain ⟨_, G172, hc174, T168, rfl, S173, l169, t170, s171⟩ := W_slices_insertionSortCmpFunc_Sint64__slices_Compare_Sint64_int64 fu G155 a1 a2 p_n0 k_n0 c_n0 T_n0 n0 l_n0 s_n0 t_n0 z_n0 (St.fnodup (A := [oseg p_n0 (tcells T_n0), tseg T_n0]) S164) (St.fmem (A := [oseg p_n0 (tcells T_n0), tseg T_n0]) S164) rs165 h166
        have S175 := St.callM (A := [oseg p_n0 (tcells T_n0), tseg T_n0]) S164 S173 (fun j h => h)
        refine AO.c rfl (o_call (vs := [.slice p_n0 k_n0 c_n0, .int .i64 a1, .int .i64 a2, .func (.func 134) #[] #[]]) rfl Try.call172 hc174) ?_
        refine AO.nil ?_
        refine AX.ret ?_
        obtain rfl := some_inj hd167
        have z176 : _ = r146 := hk153
        subst z176
        obtain rfl := some_inj hd148
        have S177 := S175.front 1 rfl
        have S178 := S177.front 1 rfl
        exact ⟨.inr rfl, _, res_none rfl, T168, rfl, S178, l169, t170, s171⟩
      · have hd179 := bif_f c160 hd159
        cases hd179

set_option maxHeartbeats 4000000 in
theorem W_slices_SortFunc_SSint64_Sint64__slices_Compare_Sint64_int64 (fu : Nat) (H : AHeap) (p_n0 : Option Addr) (k_n0 c_n0 : Nat) (T_n0 : Tb) (n0 : List (List Int)) (l_n0 : n0.length = k_n0) (s_n0 : Sb p_n0 k_n0 c_n0 1) (t_n0 : trows T_n0 = n0) (z_n0 : TSb T_n0) (hn : (([oseg p_n0 (tcells T_n0), tseg T_n0] : List Sg).flatten.map (·.1)).Nodup) (ho : ∀ x ∈ ([oseg p_n0 (tcells T_n0), tseg T_n0] : List Sg).flatten, x.1 < H.length ∧ hget H x.1 = x.2) (m_n0 : List (List Int)) (hd : D_slices_SortFunc_SSint64_Sint64__slices_Compare_Sint64_int64 fu k_n0 n0 = some m_n0) : ∃ v G', ACall Try.prog 133 [.slice p_n0 k_n0 c_n0, .func (.func 134) #[] #[]] H v G' ∧ ∃ (T_m_n0 : Tb), (v = .tuple #[]) ∧ St (([oseg p_n0 (tcells T_n0), tseg T_n0] : List Sg).flatten.map (·.1)) H G' [oseg p_n0 (tcells T_m_n0), tseg T_m_n0] ∧ m_n0.length = k_n0 ∧ trows T_m_n0 = m_n0 ∧ TSb T_m_n0 := by
  refine ACall.bodyX (args := [.slice p_n0 k_n0 c_n0, .func (.func 134) #[] #[]]) (N := 14) [(0, .slice p_n0 k_n0 c_n0), (1, .func (.func 134) #[] #[])] (fun v G' => ∃ (T_m_n0 : Tb), (v = .tuple #[]) ∧ St (([oseg p_n0 (tcells T_n0), tseg T_n0] : List Sg).flatten.map (·.1)) H G' [oseg p_n0 (tcells T_m_n0), tseg T_m_n0] ∧ m_n0.length = k_n0 ∧ trows T_m_n0 = m_n0 ∧ TSb T_m_n0) Try.func133 rfl rfl rfl rfl ?_
  unfold D_slices_SortFunc_SSint64_Sint64__slices_Compare_Sint64_int64 at hd
  have S0 := St.initF hn ho
  generalize hM0 : (([oseg p_n0 (tcells T_n0), tseg T_n0] : List Sg).flatten.map (·.1)) = M0 at S0 ⊢
  refine AX.seq ?_
  refine AX.region ?_
  refine AO.p rfl (p_move rfl) ?_
  refine AO.p rfl (p_len_slice rfl Try.underlying43) ?_
  refine AO.p rfl (p_assign rfl) ?_
  refine AO.nil ?_
  refine AX.region ?_
  refine AO.p rfl (p_move rfl) ?_
  refine AO.p rfl (p_move rfl) ?_
  refine AO.p rfl (p_move rfl) ?_
  refine AO.p rfl (p_conv Try.underlying3 Try.underlying130 rfl rfl) ?_
  obtain ⟨x100, h101, hd102⟩ := bnd_some hd
  refine AO.c rfl (o_call (vs := [.int .u64 (IntKind.u64.wrap ((k_n0 : Nat) : Int))]) rfl Try.call161 (W_math_bits_Len fu H (IntKind.u64.wrap ((k_n0 : Nat) : Int)) x100 h101)) ?_
  refine AO.p rfl (p_move rfl) ?_
  have S104 := S0.front 1 rfl
  have S105 := S104.front 1 rfl
  have S106 : St M0 H H [oseg p_n0 (tcells T_n0), tseg T_n0] := S105
  obtain ⟨rs107, h108, hd109⟩ := bnd_some hd102
  obtain ⟨_, G114, hc116, T110, rfl, S115, l111, t112, s113⟩ := W_slices_pdqsortCmpFunc_Sint64__slices_Compare_Sint64_int64 fu H 0 ((k_n0 : Nat) : Int) x100 p_n0 k_n0 c_n0 T_n0 n0 l_n0 s_n0 t_n0 z_n0 (St.fnodup (A := [oseg p_n0 (tcells T_n0), tseg T_n0]) S106) (St.fmem (A := [oseg p_n0 (tcells T_n0), tseg T_n0]) S106) rs107 h108
  have S117 := St.callM (A := [oseg p_n0 (tcells T_n0), tseg T_n0]) S106 S115 (fun j h => h)
  refine AO.c rfl (o_call (vs := [.slice p_n0 k_n0 c_n0, .int .i64 0, .int .i64 ((k_n0 : Nat) : Int), .int .i64 x100, .func (.func 134) #[] #[]]) rfl Try.call160 hc116) ?_
  refine AO.nil ?_
  obtain rfl := some_inj hd109
  have S118 := S117.front 1 rfl
  have S119 := S118.front 1 rfl
  exact ⟨.inl rfl, _, res_none rfl, T110, rfl, S119, l111, t112, s113⟩

set_option maxHeartbeats 4000000 in
theorem W_impl_sortedPairs (fu : Nat) (H : AHeap) (p_a0 : Option Addr) (c_a0 : Nat) (T_a0 : Tb) (a0 : List (List Int)) (t_a0 : trows T_a0 = a0) (v_a0 : Vw H p_a0 a0.length c_a0 (tcells T_a0)) (w_a0 : TVw H T_a0) (r0 : List (List Int)) (hd : D_impl_sortedPairs fu a0 = some r0) : ∃ v G', ACall Try.prog 92 [.slice p_a0 a0.length c_a0] H v G' ∧ ∃ (p_r0 : Option Addr) (c_r0 : Nat) (T_r0 : Tb), (v = .slice p_r0 r0.length c_r0) ∧ St [] H G' [oseg p_r0 (tcells T_r0), tseg T_r0] ∧ Sb p_r0 r0.length c_r0 1 ∧ trows T_r0 = r0 ∧ TSb T_r0 := by
  refine ACall.bodyX (args := [.slice p_a0 a0.length c_a0]) (N := 35) [(0, .slice p_a0 a0.length c_a0)] (fun v G' => ∃ (p_r0 : Option Addr) (c_r0 : Nat) (T_r0 : Tb), (v = .slice p_r0 r0.length c_r0) ∧ St [] H G' [oseg p_r0 (tcells T_r0), tseg T_r0] ∧ Sb p_r0 r0.length c_r0 1 ∧ trows T_r0 = r0 ∧ TSb T_r0) Try.func92 rfl rfl rfl rfl ?_
  unfold D_impl_sortedPairs at hd
  have S0 : St [] H H [] := St.nil H
  refine AX.seq ?_
  refine AX.region ?_
  refine AO.p rfl (p_assign rfl) ?_
  refine AO.nil ?_
  refine AX.seq ?_
  refine AX.region ?_
  obtain ⟨G100, i101, hii101, hHG100, S102⟩ := S0.new (AObj.row false (tcells []))
  have S102t := S102.nilseg 1
  refine AO.c rfl (s_build0 (i := i101) Try.underlying43 Try.sizeOf58 hii101 hHG100) ?_
  refine AO.p rfl (p_assign rfl) ?_
  refine AO.nil ?_
  refine AX.seq ?_
  refine AX.seq ?_
  refine AX.region ?_
  refine AO.p rfl (p_move rfl) ?_
  refine AO.p rfl (p_len_slice rfl Try.underlying43) ?_
  refine AO.p rfl (p_move rfl) ?_
  refine AO.nil ?_
  obtain ⟨r245, hl246, hd247⟩ := bnd_some hd
  refine AX.cutS (fun t' H' => ∃ (rs243 : List (List Int)) (p241 : Option Addr) (c242 : Nat) (T244 : Tb), rs243 = r245 ∧ St [] H H' [oseg p241 (tcells T244), tseg T244] ∧ trows T244 = rs243 ∧ TSb T244 ∧ Sb p241 (rs243.length) c242 1 ∧ Am.Sub [(3, .slice p241 rs243.length c242)] t') ?_ ?_
  · refine AX.block ?_
    refine AX.loopF (fun s' t' H' => ∃ (rs196 : List (List Int)) (x198 : Int) (p194 : Option Addr) (c195 : Nat) (T197 : Tb), (rs196, x198) = s' ∧ St [] H H' [oseg p194 (tcells T197), tseg T197] ∧ trows T197 = rs196 ∧ TSb T197 ∧ Sb p194 (rs196.length) c195 1 ∧ Am.Sub [(3, .slice p194 rs196.length c195), (7, .slice p_a0 a0.length c_a0), (8, .int .i64 ((a0.length : Nat) : Int)), (9, .int .i64 x198)] t') hl246 ?_ ?_
    · skip
      have S248 := S102t.front 1 rfl
      have S249 := S248.front 1 rfl
      exact ⟨[], 0, (some (Addr.mk i101 0 none)), 0, [], rfl, S249, rfl, TSb.nil, (Sb.lit (n := 0) (by decide)), Sub.cons' rfl rfl (Sub.cons' rfl rfl (Sub.cons' rfl rfl (Sub.cons' rfl rfl (Sub.nil _))))⟩
    · rintro n250 _ t' G254 ⟨rs196, x198, p194, c195, T197, rfl, S253, tT197, sT197, Bo193, hsub255⟩ o256 ho251 hk252
      refine AX.sub hsub255 ?_
      unfold D_impl_sortedPairs_s0 at ho251
      refine AX.seq ?_
      refine AX.region ?_
      refine AO.p rfl (p_lss rfl rfl) ?_
      refine AO.nil ?_
      refine AX.seq ?_
      refine AX.cond rfl (fun c257 => ?_) (fun c257 => ?_)
      · have hd258 := bif_t c257 ho251
        refine AX.skip ?_
        refine AX.seq ?_
        refine AX.block ?_
        refine AX.seq ?_
        refine AX.region ?_
        obtain ⟨k259, hd260⟩ := chk_some hd258
        obtain ⟨p261, c262, e263, f264⟩ := tget t_a0 (lt_len rfl (inR_lt k259))
        refine AO.p rfl (s_indexV (q := off p_a0 + x198.toNat) Try.underlying43 Try.sizeOf58 rfl ((S253.view v_a0).p f264) rfl k259 (o1 _ _)) ?_
        refine AO.c rfl (s_load Try.isAgg58 rfl ((S253.view v_a0).get _ _ f264)) ?_
        refine AO.p rfl (p_assign rfl) ?_
        refine AO.nil ?_
        refine DR.startS [false, false, false, false, false, false, false, false, false, false, false, false, false, false, false, false, false, true, false] mix (by kernel_rfl) (fun hst => ?_)
        refine DR.p rfl rfl (p_move rfl) ?_
        refine DR.p rfl rfl (p_move rfl) ?_
        obtain ⟨k265, hd266⟩ := chk_some hd260
        refine DR.p rfl rfl (s_indexV (q := off p261 + 0) Try.underlying58 Try.sizeOf2 rfl ((TVw.at (S253.tview w_a0) e263).p (ints_get (lt_len rfl (inR_lt k265)))) rfl k265 (o1 _ _)) ?_
        refine DR.r rfl rfl (r_load rfl Try.isAgg2) (one_read ((TVw.at (S253.tview w_a0) e263).get _ _ (ints_get (lt_len rfl (inR_lt k265)))) (.of_flat0 rfl)) ?_
        refine DR.p rfl rfl (p_move rfl) ?_
        obtain ⟨k267, hd268⟩ := chk_some hd266
        refine DR.p rfl rfl (s_indexV (q := off p261 + 1) Try.underlying58 Try.sizeOf2 rfl ((TVw.at (S253.tview w_a0) e263).p (ints_get (lt_len rfl (inR_lt k267)))) rfl k267 (o1 _ _)) ?_
        refine DR.r rfl rfl (r_load rfl Try.isAgg2) (one_read ((TVw.at (S253.tview w_a0) e263).get _ _ (ints_get (lt_len rfl (inR_lt k267)))) (.of_flat0 rfl)) ?_
        refine DR.p rfl rfl (p_min rfl rfl rfl) ?_
        refine DR.p rfl rfl (p_move rfl) ?_
        obtain ⟨k269, hd270⟩ := chk_some hd268
        refine DR.p rfl rfl (s_indexV (q := off p261 + 0) Try.underlying58 Try.sizeOf2 rfl ((TVw.at (S253.tview w_a0) e263).p (ints_get (lt_len rfl (inR_lt k269)))) rfl k269 (o1 _ _)) ?_
        refine DR.r rfl rfl (r_load rfl Try.isAgg2) (one_read ((TVw.at (S253.tview w_a0) e263).get _ _ (ints_get (lt_len rfl (inR_lt k269)))) (.of_flat0 rfl)) ?_
        refine DR.p rfl rfl (p_move rfl) ?_
        obtain ⟨k271, hd272⟩ := chk_some hd270
        refine DR.p rfl rfl (s_indexV (q := off p261 + 1) Try.underlying58 Try.sizeOf2 rfl ((TVw.at (S253.tview w_a0) e263).p (ints_get (lt_len rfl (inR_lt k271)))) rfl k271 (o1 _ _)) ?_
        refine DR.r rfl rfl (r_load rfl Try.isAgg2) (one_read ((TVw.at (S253.tview w_a0) e263).get _ _ (ints_get (lt_len rfl (inR_lt k271)))) (.of_flat0 rfl)) ?_
        refine DR.p rfl rfl (p_max rfl rfl rfl) ?_
        obtain ⟨G273, i274, hii274, hHG273, S275⟩ := S253.new (AObj.row false (ints [(if rd (rw_ a0 x198.toNat) 1 < rd (rw_ a0 x198.toNat) 0 then rd (rw_ a0 x198.toNat) 1 else rd (rw_ a0 x198.toNat) 0), (if rd (rw_ a0 x198.toNat) 1 > rd (rw_ a0 x198.toNat) 0 then rd (rw_ a0 x198.toNat) 1 else rd (rw_ a0 x198.toNat) 0)]))
        refine DR.a rfl rfl hii274 hHG273 (a_buildInts (vs := [(0, .int .i64 (if rd (rw_ a0 x198.toNat) 1 < rd (rw_ a0 x198.toNat) 0 then rd (rw_ a0 x198.toNat) 1 else rd (rw_ a0 x198.toNat) 0)), (1, .int .i64 (if rd (rw_ a0 x198.toNat) 1 > rd (rw_ a0 x198.toNat) 0 then rd (rw_ a0 x198.toNat) 1 else rd (rw_ a0 x198.toNat) 0))]) (xs := [(if rd (rw_ a0 x198.toNat) 1 < rd (rw_ a0 x198.toNat) 0 then rd (rw_ a0 x198.toNat) 1 else rd (rw_ a0 x198.toNat) 0), (if rd (rw_ a0 x198.toNat) 1 > rd (rw_ a0 x198.toNat) 0 then rd (rw_ a0 x198.toNat) 1 else rd (rw_ a0 x198.toNat) 0)]) Try.underlying58 Try.sizeOf2 Try.zeroValue2 rfl rfl (by decide) rfl rfl) ?_
        obtain ⟨G277, i278, hii278, hHG277, S279⟩ := S275.new (AObj.row false (tcells ([((some (Addr.mk i274 0 none)), 2, [(if rd (rw_ a0 x198.toNat) 1 < rd (rw_ a0 x198.toNat) 0 then rd (rw_ a0 x198.toNat) 1 else rd (rw_ a0 x198.toNat) 0), (if rd (rw_ a0 x198.toNat) 1 > rd (rw_ a0 x198.toNat) 0 then rd (rw_ a0 x198.toNat) 1 else rd (rw_ a0 x198.toNat) 0)])])))
        have S281 := (S279.front 1 rfl).tone (some (Addr.mk i274 0 none)) 2 [(if rd (rw_ a0 x198.toNat) 1 < rd (rw_ a0 x198.toNat) 0 then rd (rw_ a0 x198.toNat) 1 else rd (rw_ a0 x198.toNat) 0), (if rd (rw_ a0 x198.toNat) 1 > rd (rw_ a0 x198.toNat) 0 then rd (rw_ a0 x198.toNat) 1 else rd (rw_ a0 x198.toNat) 0)] rfl
        refine DR.a rfl rfl hii278 hHG277 (a_buildT1 (X := [((some (Addr.mk i274 0 none)), 2, [(if rd (rw_ a0 x198.toNat) 1 < rd (rw_ a0 x198.toNat) 0 then rd (rw_ a0 x198.toNat) 1 else rd (rw_ a0 x198.toNat) 0), (if rd (rw_ a0 x198.toNat) 1 > rd (rw_ a0 x198.toNat) 0 then rd (rw_ a0 x198.toNat) 1 else rd (rw_ a0 x198.toNat) 0)])]) (n := 2) rfl Try.underlying43 Try.sizeOf58 Try.zeroValue58 rfl rfl) ?_
        obtain ⟨k282, hd283⟩ := chk_some hd272
        obtain ⟨p284, c285, G286, haG286, S287, Bp284⟩ := S281.app (k := 2) rfl Bo193 (tcells ([((some (Addr.mk i274 0 none)), 2, [(if rd (rw_ a0 x198.toNat) 1 < rd (rw_ a0 x198.toNat) 0 then rd (rw_ a0 x198.toNat) 1 else rd (rw_ a0 x198.toNat) 0), (if rd (rw_ a0 x198.toNat) 1 > rd (rw_ a0 x198.toNat) 0 then rd (rw_ a0 x198.toNat) 1 else rd (rw_ a0 x198.toNat) 0)])])) 1 (tc_len1 rfl rfl)
        have S288 := S287.cellsEq (k := 2) (us' := tcells (T197 ++ [((some (Addr.mk i274 0 none)), 2, [(if rd (rw_ a0 x198.toNat) 1 < rd (rw_ a0 x198.toNat) 0 then rd (rw_ a0 x198.toNat) 1 else rd (rw_ a0 x198.toNat) 0), (if rd (rw_ a0 x198.toNat) 1 > rd (rw_ a0 x198.toNat) 0 then rd (rw_ a0 x198.toNat) 1 else rd (rw_ a0 x198.toNat) 0)])])) (tcells_app _ _).symm rfl
        have BS288 : Sb p284 ((rs196 ++ [[(if rd (rw_ a0 x198.toNat) 1 < rd (rw_ a0 x198.toNat) 0 then rd (rw_ a0 x198.toNat) 1 else rd (rw_ a0 x198.toNat) 0), (if rd (rw_ a0 x198.toNat) 1 > rd (rw_ a0 x198.toNat) 0 then rd (rw_ a0 x198.toNat) 1 else rd (rw_ a0 x198.toNat) 0)]]).length) c285 1 := (show rs196.length + 1 = (rs196 ++ [[(if rd (rw_ a0 x198.toNat) 1 < rd (rw_ a0 x198.toNat) 0 then rd (rw_ a0 x198.toNat) 1 else rd (rw_ a0 x198.toNat) 0), (if rd (rw_ a0 x198.toNat) 1 > rd (rw_ a0 x198.toNat) 0 then rd (rw_ a0 x198.toNat) 1 else rd (rw_ a0 x198.toNat) 0)]]).length from len_app (a := rs196) (b := [[(if rd (rw_ a0 x198.toNat) 1 < rd (rw_ a0 x198.toNat) 0 then rd (rw_ a0 x198.toNat) 1 else rd (rw_ a0 x198.toNat) 0), (if rd (rw_ a0 x198.toNat) 1 > rd (rw_ a0 x198.toNat) 0 then rd (rw_ a0 x198.toNat) 1 else rd (rw_ a0 x198.toNat) 0)]]) rfl rfl) ▸ Bp284
        have S289 := S288.front 0 rfl
        have S290 := (S289.front 3 rfl).tmerge
        have S291 := S290.drop 1 rfl
        refine DR.w rfl rfl (s_app (by_ := 24) (us := tcells T197) (vs := tcells ([((some (Addr.mk i274 0 none)), 2, [(if rd (rw_ a0 x198.toNat) 1 < rd (rw_ a0 x198.toNat) 0 then rd (rw_ a0 x198.toNat) 1 else rd (rw_ a0 x198.toNat) 0), (if rd (rw_ a0 x198.toNat) 1 > rd (rw_ a0 x198.toNat) 0 then rd (rw_ a0 x198.toNat) 1 else rd (rw_ a0 x198.toNat) 0)])])) Try.underlying43 Try.underlying43 Try.typeInfo58 Try.sizeOf58 Try.zeroValue58 rfl rfl rfl rfl rfl rfl rfl (S281.buf (k := 2) rfl Bo193 (tc_len1 tT197 rfl)) (S281.oview (k := 1) rfl (Sb.lit (n := 1) (by decide)) (tc_len1 rfl rfl)) (tc_len1 rfl rfl) tcells_one k282 haG286 (show rs196.length + 1 = (rs196 ++ [[(if rd (rw_ a0 x198.toNat) 1 < rd (rw_ a0 x198.toNat) 0 then rd (rw_ a0 x198.toNat) 1 else rd (rw_ a0 x198.toNat) 0), (if rd (rw_ a0 x198.toNat) 1 > rd (rw_ a0 x198.toNat) 0 then rd (rw_ a0 x198.toNat) 1 else rd (rw_ a0 x198.toNat) 0)]]).length from len_app (a := rs196) (b := [[(if rd (rw_ a0 x198.toNat) 1 < rd (rw_ a0 x198.toNat) 0 then rd (rw_ a0 x198.toNat) 1 else rd (rw_ a0 x198.toNat) 0), (if rd (rw_ a0 x198.toNat) 1 > rd (rw_ a0 x198.toNat) 0 then rd (rw_ a0 x198.toNat) 1 else rd (rw_ a0 x198.toNat) 0)]]) rfl rfl)) (appR_len haG286) ?_
        refine DR.p rfl rfl (p_assign rfl) ?_
        refine DR.nil 19 [] hst (by kernel_rfl) trivial ?_
        refine AX.region ?_
        obtain ⟨k292, hd293⟩ := chk_some hd283
        refine AO.p rfl (p_addE rfl rfl k292) ?_
        refine AO.p rfl (p_move rfl) ?_
        refine AO.nil ?_
        obtain rfl := some_inj hd293
        have S295 := S291.front 0 rfl
        have S296 := S295.front 1 rfl
        exact ⟨((rs196 ++ [[(if rd (rw_ a0 x198.toNat) 1 < rd (rw_ a0 x198.toNat) 0 then rd (rw_ a0 x198.toNat) 1 else rd (rw_ a0 x198.toNat) 0), (if rd (rw_ a0 x198.toNat) 1 > rd (rw_ a0 x198.toNat) 0 then rd (rw_ a0 x198.toNat) 1 else rd (rw_ a0 x198.toNat) 0)]]), x198 + 1), hk252, (rs196 ++ [[(if rd (rw_ a0 x198.toNat) 1 < rd (rw_ a0 x198.toNat) 0 then rd (rw_ a0 x198.toNat) 1 else rd (rw_ a0 x198.toNat) 0), (if rd (rw_ a0 x198.toNat) 1 > rd (rw_ a0 x198.toNat) 0 then rd (rw_ a0 x198.toNat) 1 else rd (rw_ a0 x198.toNat) 0)]]), (x198 + 1), p284, c285, (T197 ++ [((some (Addr.mk i274 0 none)), 2, [(if rd (rw_ a0 x198.toNat) 1 < rd (rw_ a0 x198.toNat) 0 then rd (rw_ a0 x198.toNat) 1 else rd (rw_ a0 x198.toNat) 0), (if rd (rw_ a0 x198.toNat) 1 > rd (rw_ a0 x198.toNat) 0 then rd (rw_ a0 x198.toNat) 1 else rd (rw_ a0 x198.toNat) 0)])]), rfl, S296, (trows_apps tT197 rfl), (TSb.app sT197 (TSb.one (sb_len rfl (Sb.lit (n := 2) (by decide))))), BS288, Sub.cons' rfl rfl (Sub.cons' rfl rfl (Sub.cons' rfl rfl (Sub.cons' rfl rfl (Sub.nil _))))⟩
      · have hd297 := bif_f c257 ho251
        refine AX.exit ?_
        obtain rfl := some_inj hd297
        have S298 := S253.front 1 rfl
        have S299 := S298.front 1 rfl
        exact ⟨rs196, p194, c195, T197, hk252, S299, tT197, sT197, Bo193, Sub.cons' rfl rfl (Sub.nil _)⟩
  · rintro t' G301 ⟨rs243, p241, c242, T244, rfl, S300, tT244, sT244, Bo240, hsub302⟩
    refine ⟨_, hsub302, ?_⟩
    refine AX.seq ?_
    refine AX.region ?_
    refine AO.p rfl (p_move rfl) ?_
    have S303 := S300.front 1 rfl
    have S304 := S303.front 1 rfl
    obtain ⟨rs305, h306, hd307⟩ := bnd_some hd247
    obtain ⟨_, G312, hc314, T308, rfl, S313, l309, t310, s311⟩ := W_slices_SortFunc_SSint64_Sint64__slices_Compare_Sint64_int64 fu G301 p241 rs243.length c242 T244 rs243 rfl Bo240 tT244 sT244 (St.fnodup (A := [oseg p241 (tcells T244), tseg T244]) S304) (St.fmem (A := [oseg p241 (tcells T244), tseg T244]) S304) rs305 h306
    have S315 := St.callM (A := [oseg p241 (tcells T244), tseg T244]) S304 S313 (fun j h => h)
    refine AO.c rfl (o_call (vs := [.slice p241 rs243.length c242, .func (.func 134) #[] #[]]) rfl Try.call133 hc314) ?_
    refine AO.nil ?_
    refine AX.seq ?_
    refine AX.region ?_
    refine AO.p rfl (p_move rfl) ?_
    refine AO.p rfl (p_assign rfl) ?_
    refine AO.nil ?_
    refine AX.ret ?_
    obtain rfl := some_inj hd307
    have S316 := S315.front 1 rfl
    have S317 := S316.front 1 rfl
    exact ⟨.inr rfl, _, res1 rfl (rv_tmp rfl), p241, c242, T308, (by rw [show List.length rs305 = rs243.length from l309]), S317, (by rw [show List.length rs305 = rs243.length from l309]; exact Bo240), t310, s311⟩

end Go.Proofs.Ytdafmafigcljkaa
