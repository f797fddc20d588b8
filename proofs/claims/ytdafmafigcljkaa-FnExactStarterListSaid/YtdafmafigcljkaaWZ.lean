/-
  The program computes that, printed by a program. No condition.
-/
import Derived.Test.YtdafmafigcljkaaDZ
import Derived.Test.YtdafmafigcljkaaWF
import Derived.Test.YtdafmafigcljkaaWG
import Derived.Test.YtdafmafigcljkaaWN
import Derived.Test.YtdafmafigcljkaaProg
import Derived.KernelRfl
namespace Go.Proofs.Ytdafmafigcljkaa
open Go Go.RowKit Am
set_option linter.unusedVariables false
set_option linter.unusedSimpArgs false
set_option maxRecDepth 20000
set_option maxHeartbeats 4000000 in
theorem W_laws_FnExactStarterList (fu : Nat) (H : AHeap) (a0 : Int) (r0 : Bool) (hd : D_laws_FnExactStarterList fu a0 = some r0) : ACall Try.prog 4 [.int .i64 a0] H (.bool r0) H := by
  refine ACall.bodyP (N := 63) [(0, .int .i64 a0)] Try.func4 rfl rfl rfl rfl ?_
  unfold D_laws_FnExactStarterList at hd
  have S0 : St [] H H [] := St.nil H
  refine AX.seq ?_
  refine AX.region ?_
  refine AO.p rfl (p_assign rfl) ?_
  refine AO.nil ?_
  refine AX.seq ?_
  refine AX.region ?_
  refine AO.p rfl (p_move rfl) ?_
  obtain ⟨⟨rss100, x101⟩, h102, hd103⟩ := bnd_some hd
  obtain ⟨_, G112, hc111, p104, c105, T108, rfl, S113, B107, t109, s110⟩ := W_spec_StarterList fu H a0 rss100 x101 h102
  have S114 := S0.call S113
  refine AO.c rfl (o_call (vs := [.int .i64 a0]) rfl Try.call12 hc111) ?_
  refine AO.p rfl (p_move rfl) ?_
  refine AO.p rfl (p_extract rfl rfl) ?_
  refine AO.p rfl (p_extract rfl rfl) ?_
  refine AO.p rfl (p_assign rfl) ?_
  refine AO.p rfl (p_assign rfl) ?_
  refine AO.nil ?_
  refine AX.seq ?_
  refine AX.region ?_
  refine AO.p rfl (p_move rfl) ?_
  obtain ⟨⟨rss115, x116⟩, h117, hd118⟩ := bnd_some hd103
  obtain ⟨_, G127, hc126, p119, c120, T123, rfl, S128, B122, t124, s125⟩ := W_impl_StarterList fu G112 a0 rss115 x116 h117
  have S129 := S114.call S128
  refine AO.c rfl (o_call (vs := [.int .i64 a0]) rfl Try.call13 hc126) ?_
  refine AO.p rfl (p_move rfl) ?_
  refine AO.p rfl (p_extract rfl rfl) ?_
  refine AO.p rfl (p_extract rfl rfl) ?_
  refine AO.p rfl (p_assign rfl) ?_
  refine AO.p rfl (p_assign rfl) ?_
  refine AO.nil ?_
  refine AX.seq ?_
  obtain ⟨r140, hb141, hd142⟩ := bnd_some hd118
  refine AX.cut (fun t' H' => ∃ (b139 : Bool), b139 = r140 ∧ St [] H H' [oseg p104 (tcells3 T108), t3seg T108, oseg p119 (tcells3 T123), t3seg T123] ∧ Am.Sub [(0, .int .i64 a0), (3, .slice p104 rss100.length c105), (4, .int .i64 x101), (5, .slice p119 rss115.length c120), (29, .bool b139)] t') ?_ ?_
  · skip
    refine AX.region ?_
    refine AO.p rfl (p_move rfl) ?_
    refine AO.p rfl (p_move rfl) ?_
    obtain ⟨b143, h144, hd145⟩ := bnd_some hb141
    refine AO.c rfl (o_call (vs := [.slice p119 rss115.length c120, .slice p104 rss100.length c105]) rfl Try.call14 (W_laws_eqInt64SSS fu G127 p119 c120 T123 rss115 t124 (S129.oview (k := 0) rfl B122 (tc3_len1 t124 rfl)) (S129.oviewT3 (k := 1) rfl s125) p104 c105 T108 rss100 t109 (S129.oview (k := 2) rfl B107 (tc3_len1 t109 rfl)) (S129.oviewT3 (k := 3) rfl s110) b143 h144)) ?_
    refine AO.p rfl (p_not rfl) ?_
    refine AO.p rfl (p_move rfl) ?_
    refine AO.cases (d := 25) rfl (fun c147 => ?_) (fun c147 => ?_)
    · have hd148 := bif_t c147 hd145
      refine AO.gn rfl rfl rfl ?_
      refine AO.gn rfl rfl rfl ?_
      refine AO.gn rfl rfl rfl ?_
      refine AO.p rfl (p_pickT rfl rfl) ?_
      refine AO.nil ?_
      have S149 := S129.front 1 rfl
      have S150 := S149.front 1 rfl
      have S151 := S150.front 3 rfl
      have S152 := S151.front 3 rfl
      exact ⟨true, (some_inj hd148), S152, Sub.cons' rfl rfl (Sub.cons' rfl rfl (Sub.cons' rfl rfl (Sub.cons' rfl rfl (Sub.cons' rfl rfl (Sub.nil _)))))⟩
    · have hd153 := bif_f c147 hd145
      refine AO.gp rfl rfl rfl (p_move rfl) ?_
      refine AO.gp rfl rfl rfl (p_move rfl) ?_
      refine AO.gp rfl rfl rfl (p_neq rfl rfl) ?_
      refine AO.p rfl (p_pickF rfl rfl) ?_
      refine AO.nil ?_
      have S154 := S129.front 1 rfl
      have S155 := S154.front 1 rfl
      have S156 := S155.front 3 rfl
      have S157 := S156.front 3 rfl
      exact ⟨(!decide (x116 = x101)), (some_inj hd153), S157, Sub.cons' rfl rfl (Sub.cons' rfl rfl (Sub.cons' rfl rfl (Sub.cons' rfl rfl (Sub.cons' rfl rfl (Sub.nil _)))))⟩
  · rintro t' G159 ⟨b139, rfl, S158, hsub160⟩
    refine AX.sub hsub160 ?_
    refine AX.cond rfl (fun c161 => ?_) (fun c161 => ?_)
    · have hd162 := bif_t c161 hd142
      refine AX.seq ?_
      refine AX.region ?_
      refine AO.p rfl (p_assign rfl) ?_
      refine AO.nil ?_
      refine AX.ret ?_
      obtain rfl := some_inj hd162
      exact ⟨.inr rfl, _, res1 rfl (rv_tmp rfl), rfl, (flatB_ok rfl), S158.hold⟩
    · have hd163 := bif_f c161 hd142
      refine AX.skip ?_
      refine AX.seq ?_
      refine AX.region ?_
      refine AO.p rfl (p_assign rfl) ?_
      refine AO.nil ?_
      refine AX.seq ?_
      refine AX.region ?_
      refine AO.p rfl (p_move rfl) ?_
      refine AO.p rfl (p_move rfl) ?_
      have S164 := S158.front 3 rfl
      have S165 := S164.front 3 rfl
      obtain ⟨⟨x166, rss167⟩, h168, hd169⟩ := bnd_some hd163
      obtain ⟨_, G175, hc174, T170, rfl, S176, t171, s172, l173⟩ := W_laws_markInt64SSS fu G159 p119 c120 T123 rss115 t124 B122 s125 1 ((S165).join2.onodup (k := 0) rfl) ((S165).join2.omem (k := 0) rfl) x166 rss167 h168
      have S177 := St.callM (A := [oseg p119 (tcells3 T123), t3seg T123]) S165 S176 (by simp)
      refine AO.c rfl (o_call (vs := [.slice p119 rss115.length c120, .int .i64 1]) rfl Try.call15 hc174) ?_
      refine AO.p rfl (p_assign rfl) ?_
      refine AO.nil ?_
      refine AX.seq ?_
      refine AX.region ?_
      refine AO.p rfl (p_assign rfl) ?_
      refine AO.nil ?_
      refine AX.seq ?_
      refine AX.region ?_
      refine AO.p rfl (p_move rfl) ?_
      refine AO.p rfl (p_move rfl) ?_
      obtain ⟨x178, h179, hd180⟩ := bnd_some hd169
      refine AO.c rfl (o_call (vs := [.slice p119 rss115.length c120, .int .i64 1]) rfl Try.call16 (by have h' := W_laws_heldInt64SSS fu G175 p119 c120 T170 rss167 t171 (by rw [show List.length rss167 = rss115.length from (Eq.trans l173 rfl)]; exact (S177.oview (k := 0) rfl B122 (tc3_len1 t171 (Eq.trans l173 rfl)))) (S177.oviewT3 (k := 1) rfl s172) 1 x178 h179; rw [show List.length rss167 = rss115.length from (Eq.trans l173 rfl)] at h'; exact h')) ?_
      refine AO.p rfl (p_assign rfl) ?_
      refine AO.nil ?_
      refine AX.seq ?_
      refine AX.seq ?_
      refine AX.region ?_
      refine AO.p rfl (p_move rfl) ?_
      refine AO.p rfl (p_lss rfl rfl) ?_
      refine AO.nil ?_
      refine AX.cond rfl (fun c182 => ?_) (fun c182 => ?_)
      · have hd183 := bif_t c182 hd180
        refine AX.seq ?_
        refine AX.region ?_
        refine AO.p rfl (p_assign rfl) ?_
        refine AO.nil ?_
        refine AX.ret ?_
        obtain rfl := some_inj hd183
        exact ⟨.inr rfl, _, res1 rfl (rv_tmp rfl), rfl, (flatB_ok rfl), S177.hold⟩
      · have hd184 := bif_f c182 hd180
        refine AX.skip ?_
        refine AX.seq ?_
        refine AX.seq ?_
        refine AX.region ?_
        refine AO.p rfl (p_move rfl) ?_
        refine AO.p rfl (p_move rfl) ?_
        refine AO.p rfl (p_neq rfl rfl) ?_
        refine AO.nil ?_
        refine AX.cond rfl (fun c185 => ?_) (fun c185 => ?_)
        · have hd186 := bif_t c185 hd184
          refine AX.seq ?_
          refine AX.region ?_
          refine AO.p rfl (p_assign rfl) ?_
          refine AO.nil ?_
          refine AX.ret ?_
          obtain rfl := some_inj hd186
          exact ⟨.inr rfl, _, res1 rfl (rv_tmp rfl), rfl, (flatB_ok rfl), S177.hold⟩
        · have hd187 := bif_f c185 hd184
          refine AX.skip ?_
          refine AX.seq ?_
          refine AX.region ?_
          refine AO.p rfl (p_move rfl) ?_
          obtain ⟨⟨rss188, x189⟩, h190, hd191⟩ := bnd_some hd187
          obtain ⟨_, G200, hc199, p192, c193, T196, rfl, S201, B195, t197, s198⟩ := W_impl_StarterList fu G175 a0 rss188 x189 h190
          have S202 := S177.call S201
          refine AO.c rfl (o_call (vs := [.int .i64 a0]) rfl Try.call13 hc199) ?_
          refine AO.p rfl (p_move rfl) ?_
          refine AO.p rfl (p_extract rfl rfl) ?_
          refine AO.p rfl (p_extract rfl rfl) ?_
          refine AO.p rfl (p_assign rfl) ?_
          refine AO.p rfl (p_assign rfl) ?_
          refine AO.nil ?_
          refine AX.seq ?_
          obtain ⟨r212, hb213, hd214⟩ := bnd_some hd191
          refine AX.cut (fun t' H' => ∃ (b211 : Bool), b211 = r212 ∧ St [] H H' [oseg p119 (tcells3 T170), t3seg T170] ∧ Am.Sub [(5, .slice p119 rss115.length c120), (7, .int .i64 x166), (54, .bool b211)] t') ?_ ?_
          · skip
            refine AX.region ?_
            refine AO.p rfl (p_move rfl) ?_
            refine AO.p rfl (p_move rfl) ?_
            obtain ⟨b215, h216, hd217⟩ := bnd_some hb213
            refine AO.c rfl (o_call (vs := [.slice p192 rss188.length c193, .slice p104 rss100.length c105]) rfl Try.call14 (W_laws_eqInt64SSS fu G200 p192 c193 T196 rss188 t197 (S202.oview (k := 0) rfl B195 (tc3_len1 t197 rfl)) (S202.oviewT3 (k := 1) rfl s198) p104 c105 T108 rss100 t109 (S202.oview (k := 4) rfl B107 (tc3_len1 t109 rfl)) (S202.oviewT3 (k := 5) rfl s110) b215 h216)) ?_
            refine AO.p rfl (p_not rfl) ?_
            refine AO.p rfl (p_move rfl) ?_
            refine AO.cases (d := 50) rfl (fun c219 => ?_) (fun c219 => ?_)
            · have hd220 := bif_t c219 hd217
              refine AO.gn rfl rfl rfl ?_
              refine AO.gn rfl rfl rfl ?_
              refine AO.gn rfl rfl rfl ?_
              refine AO.p rfl (p_pickT rfl rfl) ?_
              refine AO.nil ?_
              have S221 := S202.front 3 rfl
              have S222 := S221.front 3 rfl
              have S223 := S222.keep 2
              exact ⟨true, (some_inj hd220), S223, Sub.cons' rfl rfl (Sub.cons' rfl rfl (Sub.cons' rfl rfl (Sub.nil _)))⟩
            · have hd224 := bif_f c219 hd217
              refine AO.gp rfl rfl rfl (p_move rfl) ?_
              refine AO.gp rfl rfl rfl (p_move rfl) ?_
              refine AO.gp rfl rfl rfl (p_neq rfl rfl) ?_
              refine AO.p rfl (p_pickF rfl rfl) ?_
              refine AO.nil ?_
              have S225 := S202.front 3 rfl
              have S226 := S225.front 3 rfl
              have S227 := S226.keep 2
              exact ⟨(!decide (x189 = x101)), (some_inj hd224), S227, Sub.cons' rfl rfl (Sub.cons' rfl rfl (Sub.cons' rfl rfl (Sub.nil _)))⟩
          · rintro t' G229 ⟨b211, rfl, S228, hsub230⟩
            refine AX.sub hsub230 ?_
            refine AX.cond rfl (fun c231 => ?_) (fun c231 => ?_)
            · have hd232 := bif_t c231 hd214
              refine AX.seq ?_
              refine AX.region ?_
              refine AO.p rfl (p_assign rfl) ?_
              refine AO.nil ?_
              refine AX.ret ?_
              obtain rfl := some_inj hd232
              exact ⟨.inr rfl, _, res1 rfl (rv_tmp rfl), rfl, (flatB_ok rfl), S228.hold⟩
            · have hd233 := bif_f c231 hd214
              refine AX.skip ?_
              refine AX.seq ?_
              refine AX.region ?_
              refine AO.p rfl (p_assign rfl) ?_
              refine AO.nil ?_
              refine AX.seq ?_
              refine AX.region ?_
              refine AO.p rfl (p_move rfl) ?_
              refine AO.p rfl (p_move rfl) ?_
              obtain ⟨x234, h235, hd236⟩ := bnd_some hd233
              refine AO.c rfl (o_call (vs := [.slice p119 rss115.length c120, .int .i64 1]) rfl Try.call16 (by have h' := W_laws_heldInt64SSS fu G229 p119 c120 T170 rss167 t171 (by rw [show List.length rss167 = rss115.length from (Eq.trans l173 rfl)]; exact (S228.oview (k := 0) rfl B122 (tc3_len1 t171 (Eq.trans l173 rfl)))) (S228.oviewT3 (k := 1) rfl s172) 1 x234 h235; rw [show List.length rss167 = rss115.length from (Eq.trans l173 rfl)] at h'; exact h')) ?_
              refine AO.p rfl (p_assign rfl) ?_
              refine AO.nil ?_
              refine AX.seq ?_
              refine AX.seq ?_
              refine AX.region ?_
              refine AO.p rfl (p_move rfl) ?_
              refine AO.p rfl (p_lss rfl rfl) ?_
              refine AO.nil ?_
              refine AX.cond rfl (fun c238 => ?_) (fun c238 => ?_)
              · have hd239 := bif_t c238 hd236
                refine AX.seq ?_
                refine AX.region ?_
                refine AO.p rfl (p_assign rfl) ?_
                refine AO.nil ?_
                refine AX.ret ?_
                obtain rfl := some_inj hd239
                exact ⟨.inr rfl, _, res1 rfl (rv_tmp rfl), rfl, (flatB_ok rfl), S228.hold⟩
              · have hd240 := bif_f c238 hd236
                refine AX.skip ?_
                refine AX.seq ?_
                refine AX.seq ?_
                refine AX.region ?_
                refine AO.p rfl (p_move rfl) ?_
                refine AO.p rfl (p_move rfl) ?_
                refine AO.p rfl (p_neq rfl rfl) ?_
                refine AO.nil ?_
                refine AX.cond rfl (fun c241 => ?_) (fun c241 => ?_)
                · have hd242 := bif_t c241 hd240
                  refine AX.seq ?_
                  refine AX.region ?_
                  refine AO.p rfl (p_assign rfl) ?_
                  refine AO.nil ?_
                  refine AX.ret ?_
                  obtain rfl := some_inj hd242
                  exact ⟨.inr rfl, _, res1 rfl (rv_tmp rfl), rfl, (flatB_ok rfl), S228.hold⟩
                · have hd243 := bif_f c241 hd240
                  refine AX.skip ?_
                  refine AX.seq ?_
                  refine AX.region ?_
                  refine AO.p rfl (p_assign rfl) ?_
                  refine AO.nil ?_
                  refine AX.ret ?_
                  obtain rfl := some_inj hd243
                  exact ⟨.inr rfl, _, res1 rfl (rv_tmp rfl), rfl, (flatB_ok rfl), S228.hold⟩

end Go.Proofs.Ytdafmafigcljkaa
