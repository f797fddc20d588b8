/-
  The program computes that, printed by a program. No condition.
-/
import Derived.Test.YtfiilgnebmidbaaDoorDV
import Derived.Test.YtfiilgnebmidbaaDoorWI
import Derived.Test.YtfiilgnebmidbaaDoorProg
import Derived.KernelRfl
namespace Go.Proofs.YtfiilgnebmidbaaDoor
open Go Go.RowKit Am
set_option linter.unusedVariables false
set_option linter.unusedSimpArgs false
set_option maxRecDepth 20000
set_option maxHeartbeats 4000000 in
theorem W_laws_FnExactParseSchedule (fu : Nat) (H : AHeap) (a0 : ByteArray) (r0 : Bool) (hd : D_laws_FnExactParseSchedule fu a0 = some r0) : ACall Tryd.prog 6 [.string a0] H (.bool r0) H := by
  refine ACall.bodyP (N := 66) [(0, .string a0)] Tryd.func6 rfl rfl rfl rfl ?_
  unfold D_laws_FnExactParseSchedule at hd
  have S0 : St [] H H [] := St.nil H
  refine AX.seq ?_
  refine AX.region ?_
  refine AO.p rfl (p_assign rfl) ?_
  refine AO.nil ?_
  refine AX.seq ?_
  refine AX.seq ?_
  refine AX.region ?_
  refine AO.p rfl (p_move rfl) ?_
  refine AO.p rfl (p_len_str rfl Tryd.underlying9) ?_
  refine AO.p rfl (p_gtr rfl rfl) ?_
  refine AO.nil ?_
  refine AX.cond rfl (fun c100 => ?_) (fun c100 => ?_)
  · have hd101 := bif_t c100 hd
    refine AX.seq ?_
    refine AX.region ?_
    refine AO.p rfl (p_assign rfl) ?_
    refine AO.nil ?_
    refine AX.ret ?_
    obtain rfl := some_inj hd101
    exact ⟨.inr rfl, _, res1 rfl (rv_tmp rfl), rfl, (flatB_ok rfl), S0.hold⟩
  · have hd102 := bif_f c100 hd
    refine AX.skip ?_
    refine AX.seq ?_
    refine AX.region ?_
    refine AO.p rfl (p_move rfl) ?_
    obtain ⟨⟨x103, rs104, x105⟩, h106, hd107⟩ := bnd_some hd102
    obtain ⟨_, G114, hc113, p108, c109, rfl, S115, B111, a112⟩ := W_spec_ParseSchedule fu H a0 x103 rs104 x105 h106
    have S116 := S0.call S115
    refine AO.c rfl (o_call (vs := [.string a0]) rfl Tryd.call21 hc113) ?_
    refine AO.p rfl (p_move rfl) ?_
    refine AO.p rfl (p_extract rfl rfl) ?_
    refine AO.p rfl (p_extract rfl rfl) ?_
    obtain ⟨G117, i118, hii118, hHG117, S119⟩ := S116.new (AObj.row false ([.int .i64 0, .slice none 0 0]))
    refine AO.c rfl (s_alloc (i := i118) (cs := [.int .i64 0, .slice none 0 0]) Tryd.zeroValue39 rfl rfl hii118 hHG117) ?_
    obtain ⟨G121, hHG121, S122⟩ := S119.set (k := 0) (i := i118) rfl (AObj.row false ([.int .i64 x103, .slice p108 rs104.length c109]))
    refine AO.s (s_storeAll (vs := [.int .i64 x103, .slice p108 rs104.length c109]) Tryd.sizeOf39 rfl rfl (ones_list rfl) (S119.get (k := 0) rfl) rfl rfl hHG121) ?_
    refine AO.p rfl (p_assign rfl) ?_
    refine AO.nil ?_
    refine AX.seq ?_
    refine AX.region ?_
    refine AO.p rfl (p_move rfl) ?_
    obtain ⟨⟨x123, rs124, x125⟩, h126, hd127⟩ := bnd_some hd107
    obtain ⟨_, G134, hc133, p128, c129, rfl, S135, B131, a132⟩ := W_impl_ParseSchedule fu G121 a0 x123 rs124 x125 h126
    have S136 := S122.call S135
    refine AO.c rfl (o_call (vs := [.string a0]) rfl Tryd.call22 hc133) ?_
    refine AO.p rfl (p_move rfl) ?_
    refine AO.p rfl (p_extract rfl rfl) ?_
    refine AO.p rfl (p_extract rfl rfl) ?_
    obtain ⟨G137, i138, hii138, hHG137, S139⟩ := S136.new (AObj.row false ([.int .i64 0, .slice none 0 0]))
    refine AO.c rfl (s_alloc (i := i138) (cs := [.int .i64 0, .slice none 0 0]) Tryd.zeroValue39 rfl rfl hii138 hHG137) ?_
    obtain ⟨G141, hHG141, S142⟩ := S139.set (k := 0) (i := i138) rfl (AObj.row false ([.int .i64 x123, .slice p128 rs124.length c129]))
    refine AO.s (s_storeAll (vs := [.int .i64 x123, .slice p128 rs124.length c129]) Tryd.sizeOf39 rfl rfl (ones_list rfl) (S139.get (k := 0) rfl) rfl rfl hHG141) ?_
    refine AO.p rfl (p_assign rfl) ?_
    refine AO.nil ?_
    refine AX.seq ?_
    obtain ⟨r155, hb156, hd157⟩ := bnd_some hd127
    refine AX.cut (fun t' H' => ∃ (b154 : Bool), b154 = r155 ∧ St [] H H' [[(i118, AObj.row false ([.int .i64 x103, .slice p108 rs104.length c109]))], oseg p108 (ints rs104.flatten), [(i138, AObj.row false ([.int .i64 x123, .slice p128 rs124.length c129]))], oseg p128 (ints rs124.flatten)] ∧ Am.Sub [(0, .string a0), (3, .pointer (some ⟨i118, 0, none⟩)), (4, .int .i64 x105), (5, .pointer (some ⟨i138, 0, none⟩)), (32, .bool b154)] t') ?_ ?_
    · skip
      refine AX.region ?_
      refine AO.c rfl (s_loadN (vs := [.int .i64 x123, .slice p128 rs124.length c129]) Tryd.isAgg39 Tryd.sizeOf39 rfl rfl (row_cells (S142.get (k := 0) rfl))) ?_
      refine AO.c rfl (s_loadN (vs := [.int .i64 x103, .slice p108 rs104.length c109]) Tryd.isAgg39 Tryd.sizeOf39 rfl rfl (row_cells (S142.get (k := 2) rfl))) ?_
      obtain ⟨b158, h159, hd160⟩ := bnd_some hb156
      refine AO.c rfl (o_call (vs := [.agg [.int .i64 x123, .slice p128 rs124.length c129].toArray, .agg [.int .i64 x103, .slice p108 rs104.length c109].toArray]) rfl Tryd.call16 (W_laws_eqSchedule fu G141 x123 p128 c129 rs124 a132 (S142.oview (k := 1) rfl B131 (flat_len1 a132 rfl)) x103 p108 c109 rs104 a112 (S142.oview (k := 3) rfl B111 (flat_len1 a112 rfl)) b158 h159)) ?_
      refine AO.p rfl (p_not rfl) ?_
      refine AO.p rfl (p_move rfl) ?_
      refine AO.cases (d := 28) rfl (fun c162 => ?_) (fun c162 => ?_)
      · have hd163 := bif_t c162 hd160
        refine AO.gn rfl rfl rfl ?_
        refine AO.gn rfl rfl rfl ?_
        refine AO.gn rfl rfl rfl ?_
        refine AO.p rfl (p_pickT rfl rfl) ?_
        refine AO.nil ?_
        have S164 := S142.front 1 rfl
        have S165 := S164.front 1 rfl
        have S166 := S165.front 3 rfl
        have S167 := S166.front 3 rfl
        exact ⟨true, (some_inj hd163), S167, Sub.cons' rfl rfl (Sub.cons' rfl rfl (Sub.cons' rfl rfl (Sub.cons' rfl rfl (Sub.cons' rfl rfl (Sub.nil _)))))⟩
      · have hd168 := bif_f c162 hd160
        refine AO.gp rfl rfl rfl (p_move rfl) ?_
        refine AO.gp rfl rfl rfl (p_move rfl) ?_
        refine AO.gp rfl rfl rfl (p_neq rfl rfl) ?_
        refine AO.p rfl (p_pickF rfl rfl) ?_
        refine AO.nil ?_
        have S169 := S142.front 1 rfl
        have S170 := S169.front 1 rfl
        have S171 := S170.front 3 rfl
        have S172 := S171.front 3 rfl
        exact ⟨(!decide (x125 = x105)), (some_inj hd168), S172, Sub.cons' rfl rfl (Sub.cons' rfl rfl (Sub.cons' rfl rfl (Sub.cons' rfl rfl (Sub.cons' rfl rfl (Sub.nil _)))))⟩
    · rintro t' G174 ⟨b154, rfl, S173, hsub175⟩
      refine AX.sub hsub175 ?_
      refine AX.cond rfl (fun c176 => ?_) (fun c176 => ?_)
      · have hd177 := bif_t c176 hd157
        refine AX.seq ?_
        refine AX.region ?_
        refine AO.p rfl (p_assign rfl) ?_
        refine AO.nil ?_
        refine AX.ret ?_
        obtain rfl := some_inj hd177
        exact ⟨.inr rfl, _, res1 rfl (rv_tmp rfl), rfl, (flatB_ok rfl), S173.hold⟩
      · have hd178 := bif_f c176 hd157
        refine AX.skip ?_
        refine AX.seq ?_
        refine AX.region ?_
        refine AO.p rfl (p_assign rfl) ?_
        refine AO.nil ?_
        refine AX.seq ?_
        refine AX.region ?_
        refine AO.c rfl (s_loadN (vs := [.int .i64 x123, .slice p128 rs124.length c129]) Tryd.isAgg39 Tryd.sizeOf39 rfl rfl (row_cells (S173.get (k := 2) rfl))) ?_
        refine AO.p rfl (p_move rfl) ?_
        have S179 := S173.front 3 rfl
        obtain ⟨⟨x180, rs181⟩, h182, hd183⟩ := bnd_some hd178
        obtain ⟨_, G187, hc186, rfl, S188, l184, a185⟩ := W_laws_markSchedule fu G174 x123 p128 c129 rs124 a132 B131 1 (S179.onodup (k := 0) rfl) (S179.omem (k := 0) rfl) x180 rs181 h182
        have S189 := St.callM (A := [oseg p128 (ints rs124.flatten)]) S179 S188 (by simp)
        refine AO.c rfl (o_call (vs := [.agg [.int .i64 x123, .slice p128 rs124.length c129].toArray, .int .i64 1]) rfl Tryd.call23 hc186) ?_
        refine AO.p rfl (p_assign rfl) ?_
        refine AO.nil ?_
        refine AX.seq ?_
        refine AX.region ?_
        refine AO.p rfl (p_assign rfl) ?_
        refine AO.nil ?_
        refine AX.seq ?_
        refine AX.region ?_
        refine AO.c rfl (s_loadN (vs := [.int .i64 x123, .slice p128 rs124.length c129]) Tryd.isAgg39 Tryd.sizeOf39 rfl rfl (row_cells (S189.get (k := 3) rfl))) ?_
        refine AO.p rfl (p_move rfl) ?_
        obtain ⟨x190, h191, hd192⟩ := bnd_some hd183
        refine AO.c rfl (o_call (vs := [.agg [.int .i64 x123, .slice p128 rs124.length c129].toArray, .int .i64 1]) rfl Tryd.call24 (by have h' := W_laws_heldSchedule fu G187 x123 p128 c129 rs181 a185 (by rw [show List.length rs181 = rs124.length from l184]; exact (S189.oview (k := 0) rfl B131 (flat_len1 a185 l184))) 1 x190 h191; rw [show List.length rs181 = rs124.length from l184] at h'; exact h')) ?_
        refine AO.p rfl (p_assign rfl) ?_
        refine AO.nil ?_
        refine AX.seq ?_
        refine AX.seq ?_
        refine AX.region ?_
        refine AO.p rfl (p_move rfl) ?_
        refine AO.p rfl (p_lss rfl rfl) ?_
        refine AO.nil ?_
        refine AX.cond rfl (fun c194 => ?_) (fun c194 => ?_)
        · have hd195 := bif_t c194 hd192
          refine AX.seq ?_
          refine AX.region ?_
          refine AO.p rfl (p_assign rfl) ?_
          refine AO.nil ?_
          refine AX.ret ?_
          obtain rfl := some_inj hd195
          exact ⟨.inr rfl, _, res1 rfl (rv_tmp rfl), rfl, (flatB_ok rfl), S189.hold⟩
        · have hd196 := bif_f c194 hd192
          refine AX.skip ?_
          refine AX.seq ?_
          refine AX.seq ?_
          refine AX.region ?_
          refine AO.p rfl (p_move rfl) ?_
          refine AO.p rfl (p_move rfl) ?_
          refine AO.p rfl (p_neq rfl rfl) ?_
          refine AO.nil ?_
          refine AX.cond rfl (fun c197 => ?_) (fun c197 => ?_)
          · have hd198 := bif_t c197 hd196
            refine AX.seq ?_
            refine AX.region ?_
            refine AO.p rfl (p_assign rfl) ?_
            refine AO.nil ?_
            refine AX.ret ?_
            obtain rfl := some_inj hd198
            exact ⟨.inr rfl, _, res1 rfl (rv_tmp rfl), rfl, (flatB_ok rfl), S189.hold⟩
          · have hd199 := bif_f c197 hd196
            refine AX.skip ?_
            refine AX.seq ?_
            refine AX.region ?_
            refine AO.p rfl (p_move rfl) ?_
            obtain ⟨⟨x200, rs201, x202⟩, h203, hd204⟩ := bnd_some hd199
            obtain ⟨_, G211, hc210, p205, c206, rfl, S212, B208, a209⟩ := W_impl_ParseSchedule fu G187 a0 x200 rs201 x202 h203
            have S213 := S189.call S212
            refine AO.c rfl (o_call (vs := [.string a0]) rfl Tryd.call22 hc210) ?_
            refine AO.p rfl (p_move rfl) ?_
            refine AO.p rfl (p_extract rfl rfl) ?_
            refine AO.p rfl (p_extract rfl rfl) ?_
            obtain ⟨G214, i215, hii215, hHG214, S216⟩ := S213.new (AObj.row false ([.int .i64 0, .slice none 0 0]))
            refine AO.c rfl (s_alloc (i := i215) (cs := [.int .i64 0, .slice none 0 0]) Tryd.zeroValue39 rfl rfl hii215 hHG214) ?_
            obtain ⟨G218, hHG218, S219⟩ := S216.set (k := 0) (i := i215) rfl (AObj.row false ([.int .i64 x200, .slice p205 rs201.length c206]))
            refine AO.s (s_storeAll (vs := [.int .i64 x200, .slice p205 rs201.length c206]) Tryd.sizeOf39 rfl rfl (ones_list rfl) (S216.get (k := 0) rfl) rfl rfl hHG218) ?_
            refine AO.p rfl (p_assign rfl) ?_
            refine AO.nil ?_
            refine AX.seq ?_
            obtain ⟨r230, hb231, hd232⟩ := bnd_some hd204
            refine AX.cut (fun t' H' => ∃ (b229 : Bool), b229 = r230 ∧ St [] H H' [[(i138, AObj.row false ([.int .i64 x123, .slice p128 rs124.length c129]))], oseg p128 (ints rs181.flatten)] ∧ Am.Sub [(5, .pointer (some ⟨i138, 0, none⟩)), (7, .int .i64 x180), (57, .bool b229)] t') ?_ ?_
            · skip
              refine AX.region ?_
              refine AO.c rfl (s_loadN (vs := [.int .i64 x200, .slice p205 rs201.length c206]) Tryd.isAgg39 Tryd.sizeOf39 rfl rfl (row_cells (S219.get (k := 0) rfl))) ?_
              refine AO.c rfl (s_loadN (vs := [.int .i64 x103, .slice p108 rs104.length c109]) Tryd.isAgg39 Tryd.sizeOf39 rfl rfl (row_cells (S219.get (k := 3) rfl))) ?_
              obtain ⟨b233, h234, hd235⟩ := bnd_some hb231
              refine AO.c rfl (o_call (vs := [.agg [.int .i64 x200, .slice p205 rs201.length c206].toArray, .agg [.int .i64 x103, .slice p108 rs104.length c109].toArray]) rfl Tryd.call16 (W_laws_eqSchedule fu G218 x200 p205 c206 rs201 a209 (S219.oview (k := 1) rfl B208 (flat_len1 a209 rfl)) x103 p108 c109 rs104 a112 (S219.oview (k := 4) rfl B111 (flat_len1 a112 rfl)) b233 h234)) ?_
              refine AO.p rfl (p_not rfl) ?_
              refine AO.p rfl (p_move rfl) ?_
              refine AO.cases (d := 53) rfl (fun c237 => ?_) (fun c237 => ?_)
              · have hd238 := bif_t c237 hd235
                refine AO.gn rfl rfl rfl ?_
                refine AO.gn rfl rfl rfl ?_
                refine AO.gn rfl rfl rfl ?_
                refine AO.p rfl (p_pickT rfl rfl) ?_
                refine AO.nil ?_
                have S239 := S219.front 2 rfl
                have S240 := S239.front 5 rfl
                have S241 := S240.keep 2
                exact ⟨true, (some_inj hd238), S241, Sub.cons' rfl rfl (Sub.cons' rfl rfl (Sub.cons' rfl rfl (Sub.nil _)))⟩
              · have hd242 := bif_f c237 hd235
                refine AO.gp rfl rfl rfl (p_move rfl) ?_
                refine AO.gp rfl rfl rfl (p_move rfl) ?_
                refine AO.gp rfl rfl rfl (p_neq rfl rfl) ?_
                refine AO.p rfl (p_pickF rfl rfl) ?_
                refine AO.nil ?_
                have S243 := S219.front 2 rfl
                have S244 := S243.front 5 rfl
                have S245 := S244.keep 2
                exact ⟨(!decide (x202 = x105)), (some_inj hd242), S245, Sub.cons' rfl rfl (Sub.cons' rfl rfl (Sub.cons' rfl rfl (Sub.nil _)))⟩
            · rintro t' G247 ⟨b229, rfl, S246, hsub248⟩
              refine AX.sub hsub248 ?_
              refine AX.cond rfl (fun c249 => ?_) (fun c249 => ?_)
              · have hd250 := bif_t c249 hd232
                refine AX.seq ?_
                refine AX.region ?_
                refine AO.p rfl (p_assign rfl) ?_
                refine AO.nil ?_
                refine AX.ret ?_
                obtain rfl := some_inj hd250
                exact ⟨.inr rfl, _, res1 rfl (rv_tmp rfl), rfl, (flatB_ok rfl), S246.hold⟩
              · have hd251 := bif_f c249 hd232
                refine AX.skip ?_
                refine AX.seq ?_
                refine AX.region ?_
                refine AO.p rfl (p_assign rfl) ?_
                refine AO.nil ?_
                refine AX.seq ?_
                refine AX.region ?_
                refine AO.c rfl (s_loadN (vs := [.int .i64 x123, .slice p128 rs124.length c129]) Tryd.isAgg39 Tryd.sizeOf39 rfl rfl (row_cells (S246.get (k := 0) rfl))) ?_
                refine AO.p rfl (p_move rfl) ?_
                obtain ⟨x252, h253, hd254⟩ := bnd_some hd251
                refine AO.c rfl (o_call (vs := [.agg [.int .i64 x123, .slice p128 rs124.length c129].toArray, .int .i64 1]) rfl Tryd.call24 (by have h' := W_laws_heldSchedule fu G247 x123 p128 c129 rs181 a185 (by rw [show List.length rs181 = rs124.length from l184]; exact (S246.oview (k := 1) rfl B131 (flat_len1 a185 l184))) 1 x252 h253; rw [show List.length rs181 = rs124.length from l184] at h'; exact h')) ?_
                refine AO.p rfl (p_assign rfl) ?_
                refine AO.nil ?_
                refine AX.seq ?_
                refine AX.seq ?_
                refine AX.region ?_
                refine AO.p rfl (p_move rfl) ?_
                refine AO.p rfl (p_lss rfl rfl) ?_
                refine AO.nil ?_
                refine AX.cond rfl (fun c256 => ?_) (fun c256 => ?_)
                · have hd257 := bif_t c256 hd254
                  refine AX.seq ?_
                  refine AX.region ?_
                  refine AO.p rfl (p_assign rfl) ?_
                  refine AO.nil ?_
                  refine AX.ret ?_
                  obtain rfl := some_inj hd257
                  exact ⟨.inr rfl, _, res1 rfl (rv_tmp rfl), rfl, (flatB_ok rfl), S246.hold⟩
                · have hd258 := bif_f c256 hd254
                  refine AX.skip ?_
                  refine AX.seq ?_
                  refine AX.seq ?_
                  refine AX.region ?_
                  refine AO.p rfl (p_move rfl) ?_
                  refine AO.p rfl (p_move rfl) ?_
                  refine AO.p rfl (p_neq rfl rfl) ?_
                  refine AO.nil ?_
                  refine AX.cond rfl (fun c259 => ?_) (fun c259 => ?_)
                  · have hd260 := bif_t c259 hd258
                    refine AX.seq ?_
                    refine AX.region ?_
                    refine AO.p rfl (p_assign rfl) ?_
                    refine AO.nil ?_
                    refine AX.ret ?_
                    obtain rfl := some_inj hd260
                    exact ⟨.inr rfl, _, res1 rfl (rv_tmp rfl), rfl, (flatB_ok rfl), S246.hold⟩
                  · have hd261 := bif_f c259 hd258
                    refine AX.skip ?_
                    refine AX.seq ?_
                    refine AX.region ?_
                    refine AO.p rfl (p_assign rfl) ?_
                    refine AO.nil ?_
                    refine AX.ret ?_
                    obtain rfl := some_inj hd261
                    exact ⟨.inr rfl, _, res1 rfl (rv_tmp rfl), rfl, (flatB_ok rfl), S246.hold⟩

end Go.Proofs.YtfiilgnebmidbaaDoor
