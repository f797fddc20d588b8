/-
  The program computes that, printed by a program. No condition.
-/
import Derived.Test.YtfiilgnebmidbaaDoorDH
import Derived.Test.YtfiilgnebmidbaaDoorWF
import Derived.Test.YtfiilgnebmidbaaDoorWPa
import Derived.Test.YtfiilgnebmidbaaDoorProg
import Derived.KernelRfl
namespace Go.Proofs.YtfiilgnebmidbaaDoor
open Go Go.RowKit Am
set_option linter.unusedVariables false
set_option linter.unusedSimpArgs false
set_option maxRecDepth 20000
set_option maxHeartbeats 4000000 in
theorem W_spec_l01Number (fu : Nat) (H : AHeap) (a0 : ByteArray) (r0 : Int) (hd : D_spec_l01Number fu a0 = some r0) : ACall Tryd.prog 41 [.string a0] H (.int .i64 r0) H := by
  refine ACall.bodyP (N := 48) [(0, .string a0)] Tryd.func41 rfl rfl rfl rfl ?_
  unfold D_spec_l01Number at hd
  have S0 : St [] H H [] := St.nil H
  refine AX.seq ?_
  refine AX.region ?_
  refine AO.p rfl (p_assign rfl) ?_
  refine AO.nil ?_
  refine AX.seq ?_
  obtain ⟨r112, hb113, hd114⟩ := bnd_some hd
  refine AX.cut (fun t' H' => ∃ (b111 : Bool), b111 = r112 ∧ St [] H H' [] ∧ Am.Sub [(0, .string a0), (22, .bool b111)] t') ?_ ?_
  · skip
    refine AX.region ?_
    refine AO.p rfl (p_move rfl) ?_
    refine AO.p rfl (p_len_str rfl Tryd.underlying9) ?_
    refine AO.p rfl (p_eql rfl rfl) ?_
    refine AO.p rfl (p_move rfl) ?_
    refine AO.cases (d := 8) rfl (fun c115 => ?_) (fun c115 => ?_)
    · have hd116 := bif_t c115 hb113
      refine AO.gn rfl rfl rfl ?_
      refine AO.gn rfl rfl rfl ?_
      refine AO.gn rfl rfl rfl ?_
      refine AO.p rfl (p_pickT rfl rfl) ?_
      refine AO.p rfl (p_move rfl) ?_
      refine AO.gn rfl rfl rfl ?_
      refine AO.gn rfl rfl rfl ?_
      refine AO.gn rfl rfl rfl ?_
      refine AO.gn rfl rfl rfl ?_
      refine AO.gu rfl rfl rfl ?_
      refine AO.gu rfl rfl rfl ?_
      refine AO.gu rfl rfl rfl ?_
      refine AO.gn rfl rfl rfl ?_
      refine AO.p rfl (p_pickT rfl rfl) ?_
      refine AO.nil ?_
      exact ⟨true, (some_inj hd116), S0, Sub.cons' rfl rfl (Sub.cons' rfl rfl (Sub.nil _))⟩
    · have hd117 := bif_f c115 hb113
      refine AO.gp rfl rfl rfl (p_move rfl) ?_
      refine AO.gp rfl rfl rfl (p_len_str rfl Tryd.underlying9) ?_
      refine AO.gp rfl rfl rfl (p_gtr rfl rfl) ?_
      refine AO.p rfl (p_pickF rfl rfl) ?_
      refine AO.p rfl (p_move rfl) ?_
      refine AO.cases (d := 13) rfl (fun c118 => ?_) (fun c118 => ?_)
      · have hd119 := bif_t c118 hd117
        refine AO.gn rfl rfl rfl ?_
        refine AO.gn rfl rfl rfl ?_
        refine AO.gn rfl rfl rfl ?_
        refine AO.gn rfl rfl rfl ?_
        refine AO.gu rfl rfl rfl ?_
        refine AO.gu rfl rfl rfl ?_
        refine AO.gu rfl rfl rfl ?_
        refine AO.gn rfl rfl rfl ?_
        refine AO.p rfl (p_pickT rfl rfl) ?_
        refine AO.nil ?_
        exact ⟨true, (some_inj hd119), S0, Sub.cons' rfl rfl (Sub.cons' rfl rfl (Sub.nil _))⟩
      · have hd120 := bif_f c118 hd117
        refine AO.gp rfl rfl rfl (p_move rfl) ?_
        refine AO.gp rfl rfl rfl (p_len_str rfl Tryd.underlying9) ?_
        refine AO.gp rfl rfl rfl (p_gtr rfl rfl) ?_
        refine AO.gp rfl rfl rfl (p_move rfl) ?_
        refine AO.cases (d := 17) rfl (fun c121 => ?_) (fun c121 => ?_)
        · have hd122 := bif_t c121 hd120
          refine AO.gp rfl rfl rfl (p_move rfl) ?_
          obtain ⟨k123, hd124⟩ := chk_some hd122
          refine AO.gp rfl rfl rfl (p_indexS Tryd.underlying9 rfl rfl k123) ?_
          refine AO.gp rfl rfl rfl (p_eql rfl rfl) ?_
          refine AO.gp rfl rfl rfl (p_pickT rfl rfl) ?_
          refine AO.p rfl (p_pickF rfl rfl) ?_
          refine AO.nil ?_
          exact ⟨(decide (sby a0 0 = 48)), (some_inj hd124), S0, Sub.cons' rfl rfl (Sub.cons' rfl rfl (Sub.nil _))⟩
        · have hd125 := bif_f c121 hd120
          refine AO.gn rfl rfl rfl ?_
          refine AO.gn rfl rfl rfl ?_
          refine AO.gn rfl rfl rfl ?_
          refine AO.gp rfl rfl rfl (p_pickF rfl rfl) ?_
          refine AO.p rfl (p_pickF rfl rfl) ?_
          refine AO.nil ?_
          exact ⟨false, (some_inj hd125), S0, Sub.cons' rfl rfl (Sub.cons' rfl rfl (Sub.nil _))⟩
  · rintro t' G127 ⟨b111, rfl, S126, hsub128⟩
    refine AX.sub hsub128 ?_
    refine AX.cond rfl (fun c129 => ?_) (fun c129 => ?_)
    · have hd130 := bif_t c129 hd114
      refine AX.seq ?_
      refine AX.region ?_
      refine AO.p rfl (p_assign rfl) ?_
      refine AO.nil ?_
      refine AX.ret ?_
      obtain rfl := some_inj hd130
      exact ⟨.inr rfl, _, res1 rfl (rv_tmp rfl), rfl, (flatB_ok rfl), S126.hold⟩
    · have hd131 := bif_f c129 hd114
      refine AX.skip ?_
      refine AX.seq ?_
      refine AX.region ?_
      refine AO.p rfl (p_assign rfl) ?_
      refine AO.nil ?_
      refine AX.seq ?_
      refine AX.seq ?_
      refine AX.region ?_
      refine AO.p rfl (p_assign rfl) ?_
      refine AO.nil ?_
      obtain ⟨r263, hl264, hd265⟩ := bnd_some hd131
      refine AX.cutS (fun t' H' => ∃ (x262 : Int), .inl x262 = r263 ∧ St [] H H' [] ∧ Am.Sub [(3, .int .i64 x262)] t') ?_ ?_
      · refine AX.block ?_
        refine AX.loopF (fun s' t' H' => ∃ (x218 : Int) (x219 : Int), (x218, x219) = s' ∧ St [] H H' [] ∧ Am.Sub [(0, .string a0), (3, .int .i64 x218), (4, .int .i64 x219)] t') hl264 ?_ ?_
        · skip
          exact ⟨0, 0, rfl, S126, Sub.cons' rfl rfl (Sub.cons' rfl rfl (Sub.cons' rfl rfl (Sub.nil _)))⟩
        · rintro n266 _ t' G270 ⟨x218, x219, rfl, S269, hsub271⟩ o272 ho267 hk268
          refine AX.sub hsub271 ?_
          unfold D_spec_l01Number_s0 at ho267
          refine AX.seq ?_
          refine AX.seq ?_
          refine AX.region ?_
          refine AO.p rfl (p_move rfl) ?_
          refine AO.p rfl (p_move rfl) ?_
          refine AO.p rfl (p_len_str rfl Tryd.underlying9) ?_
          refine AO.p rfl (p_lss rfl rfl) ?_
          refine AO.nil ?_
          refine AX.cond rfl (fun c273 => ?_) (fun c273 => ?_)
          · have hd274 := bif_t c273 ho267
            refine AX.skip ?_
            refine AX.seq ?_
            refine AX.block ?_
            refine AX.seq ?_
            obtain ⟨r283, hb284, hd285⟩ := bnd_some hd274
            refine AX.cut (fun t' H' => ∃ (b282 : Bool), b282 = r283 ∧ St [] H H' [] ∧ Am.Sub [(0, .string a0), (3, .int .i64 x218), (4, .int .i64 x219), (38, .bool b282)] t') ?_ ?_
            · skip
              refine AX.region ?_
              refine AO.p rfl (p_move rfl) ?_
              refine AO.p rfl (p_move rfl) ?_
              obtain ⟨k286, hd287⟩ := chk_some hb284
              refine AO.p rfl (p_indexS Tryd.underlying9 rfl rfl k286) ?_
              refine AO.p rfl (p_lss rfl rfl) ?_
              refine AO.p rfl (p_move rfl) ?_
              refine AO.cases (d := 33) rfl (fun c288 => ?_) (fun c288 => ?_)
              · have hd289 := bif_t c288 hd287
                refine AO.gn rfl rfl rfl ?_
                refine AO.gn rfl rfl rfl ?_
                refine AO.gn rfl rfl rfl ?_
                refine AO.gn rfl rfl rfl ?_
                refine AO.p rfl (p_pickT rfl rfl) ?_
                refine AO.nil ?_
                exact ⟨true, (some_inj hd289), S269, Sub.cons' rfl rfl (Sub.cons' rfl rfl (Sub.cons' rfl rfl (Sub.cons' rfl rfl (Sub.nil _))))⟩
              · have hd290 := bif_f c288 hd287
                refine AO.gp rfl rfl rfl (p_move rfl) ?_
                refine AO.gp rfl rfl rfl (p_move rfl) ?_
                obtain ⟨k291, hd292⟩ := chk_some hd290
                refine AO.gp rfl rfl rfl (p_indexS Tryd.underlying9 rfl rfl k291) ?_
                refine AO.gp rfl rfl rfl (p_gtr rfl rfl) ?_
                refine AO.p rfl (p_pickF rfl rfl) ?_
                refine AO.nil ?_
                exact ⟨(decide (57 < sby a0 x219.toNat)), (some_inj hd292), S269, Sub.cons' rfl rfl (Sub.cons' rfl rfl (Sub.cons' rfl rfl (Sub.cons' rfl rfl (Sub.nil _))))⟩
            · rintro t' G294 ⟨b282, rfl, S293, hsub295⟩
              refine AX.sub hsub295 ?_
              refine AX.cond rfl (fun c296 => ?_) (fun c296 => ?_)
              · have hd297 := bif_t c296 hd285
                refine AX.seq ?_
                refine AX.region ?_
                refine AO.p rfl (p_assign rfl) ?_
                refine AO.nil ?_
                refine AX.ret ?_
                obtain rfl := some_inj hd297
                have z298 : _ = r263 := hk268
                subst z298
                obtain rfl := some_inj hd265
                exact ⟨.inr rfl, _, res1 rfl (rv_tmp rfl), rfl, (flatB_ok rfl), S293.hold⟩
              · have hd299 := bif_f c296 hd285
                refine AX.skip ?_
                refine AX.region ?_
                refine AO.p rfl (p_move rfl) ?_
                obtain ⟨k300, hd301⟩ := chk_some hd299
                refine AO.p rfl (p_mulE rfl rfl k300) ?_
                refine AO.p rfl (p_move rfl) ?_
                refine AO.p rfl (p_move rfl) ?_
                obtain ⟨k302, hd303⟩ := chk_some hd301
                refine AO.p rfl (p_indexS Tryd.underlying9 rfl rfl k302) ?_
                obtain ⟨k304, hd305⟩ := chk_some hd303
                refine AO.p rfl (p_subU rfl rfl k304) ?_
                obtain ⟨k306, hd307⟩ := chk_some hd305
                refine AO.p rfl (p_convI Tryd.underlying5 Tryd.underlying2 rfl k306) ?_
                obtain ⟨k308, hd309⟩ := chk_some hd307
                refine AO.p rfl (p_addE rfl rfl k308) ?_
                refine AO.p rfl (p_assign rfl) ?_
                refine AO.nil ?_
                refine AX.region ?_
                refine AO.p rfl (p_move rfl) ?_
                obtain ⟨k310, hd311⟩ := chk_some hd309
                refine AO.p rfl (p_addE rfl rfl k310) ?_
                refine AO.p rfl (p_assign rfl) ?_
                refine AO.nil ?_
                obtain rfl := some_inj hd311
                exact ⟨(x218 * 10 + (sby a0 x219.toNat - 48), x219 + 1), hk268, (x218 * 10 + (sby a0 x219.toNat - 48)), (x219 + 1), rfl, S293, Sub.cons' rfl rfl (Sub.cons' rfl rfl (Sub.cons' rfl rfl (Sub.nil _)))⟩
          · have hd313 := bif_f c273 ho267
            refine AX.exit ?_
            obtain rfl := some_inj hd313
            exact ⟨x218, hk268, S269, Sub.cons' rfl rfl (Sub.nil _)⟩
      · rintro t' G315 ⟨x262, rfl, S314, hsub316⟩
        refine ⟨_, hsub316, ?_⟩
        refine AX.seq ?_
        refine AX.region ?_
        refine AO.p rfl (p_move rfl) ?_
        refine AO.p rfl (p_assign rfl) ?_
        refine AO.nil ?_
        refine AX.ret ?_
        obtain rfl := some_inj hd265
        exact ⟨.inr rfl, _, res1 rfl (rv_tmp rfl), rfl, (flatB_ok rfl), S314.hold⟩

set_option maxHeartbeats 4000000 in
theorem W_spec_l01Split (fu : Nat) (H : AHeap) (a0 : ByteArray) (a1 : Int) (r0 : List ByteArray) (hd : D_spec_l01Split fu a0 a1 = some r0) : ∃ v G', ACall Tryd.prog 40 [.string a0, .int .u8 a1] H v G' ∧ ∃ (p_r0 : Option Addr) (c_r0 : Nat), (v = .slice p_r0 r0.length c_r0) ∧ St [] H G' [oseg p_r0 (sts r0)] ∧ Sb p_r0 r0.length c_r0 1 := by
  refine ACall.bodyX (args := [.string a0, .int .u8 a1]) (N := 35) [(0, .string a0), (1, .int .u8 a1)] (fun v G' => ∃ (p_r0 : Option Addr) (c_r0 : Nat), (v = .slice p_r0 r0.length c_r0) ∧ St [] H G' [oseg p_r0 (sts r0)] ∧ Sb p_r0 r0.length c_r0 1) Tryd.func40 rfl rfl rfl rfl ?_
  unfold D_spec_l01Split at hd
  have S0 : St [] H H [] := St.nil H
  refine AX.seq ?_
  refine AX.region ?_
  refine AO.p rfl (p_assign rfl) ?_
  refine AO.nil ?_
  refine AX.seq ?_
  refine AX.region ?_
  obtain ⟨G100, i101, hii101, hHG100, S102⟩ := S0.new (AObj.row false (sts []))
  refine AO.c rfl (s_build0 (i := i101) Tryd.underlying63 Tryd.sizeOf9 hii101 hHG100) ?_
  refine AO.p rfl (p_assign rfl) ?_
  refine AO.nil ?_
  refine AX.seq ?_
  refine AX.region ?_
  refine AO.p rfl (p_assign rfl) ?_
  refine AO.nil ?_
  refine AX.seq ?_
  refine AX.seq ?_
  refine AX.region ?_
  refine AO.p rfl (p_assign rfl) ?_
  refine AO.nil ?_
  obtain ⟨r215, hl216, hd217⟩ := bnd_some hd
  refine AX.cutS (fun t' H' => ∃ (ss213 : List ByteArray) (x214 : Int) (p211 : Option Addr) (c212 : Nat), (ss213, x214) = r215 ∧ St [] H H' [oseg p211 (sts ss213)] ∧ Sb p211 (ss213.length) c212 1 ∧ Am.Sub [(0, .string a0), (5, .slice p211 ss213.length c212), (6, .int .i64 x214)] t') ?_ ?_
  · refine AX.block ?_
    refine AX.loopF (fun s' t' H' => ∃ (ss176 : List ByteArray) (x177 : Int) (x178 : Int) (p174 : Option Addr) (c175 : Nat), (ss176, x177, x178) = s' ∧ St [] H H' [oseg p174 (sts ss176)] ∧ Sb p174 (ss176.length) c175 1 ∧ Am.Sub [(0, .string a0), (1, .int .u8 a1), (5, .slice p174 ss176.length c175), (6, .int .i64 x177), (7, .int .i64 x178)] t') hl216 ?_ ?_
    · skip
      have S218 := S102.front 0 rfl
      exact ⟨[], 0, 0, (some (Addr.mk i101 0 none)), 0, rfl, S218, (Sb.lit (n := 0) (by decide)), Sub.cons' rfl rfl (Sub.cons' rfl rfl (Sub.cons' rfl rfl (Sub.cons' rfl rfl (Sub.cons' rfl rfl (Sub.nil _)))))⟩
    · rintro n219 _ t' G223 ⟨ss176, x177, x178, p174, c175, rfl, S222, Bo173, hsub224⟩ o225 ho220 hk221
      refine AX.sub hsub224 ?_
      unfold D_spec_l01Split_s0 at ho220
      refine AX.seq ?_
      refine AX.seq ?_
      refine AX.region ?_
      refine AO.p rfl (p_move rfl) ?_
      refine AO.p rfl (p_move rfl) ?_
      refine AO.p rfl (p_len_str rfl Tryd.underlying9) ?_
      refine AO.p rfl (p_lss rfl rfl) ?_
      refine AO.nil ?_
      refine AX.cond rfl (fun c226 => ?_) (fun c226 => ?_)
      · have hd227 := bif_t c226 ho220
        refine AX.skip ?_
        refine AX.seq ?_
        refine AX.block ?_
        refine AX.seq ?_
        refine AX.region ?_
        refine AO.p rfl (p_move rfl) ?_
        refine AO.p rfl (p_move rfl) ?_
        obtain ⟨k228, hd229⟩ := chk_some hd227
        refine AO.p rfl (p_indexS Tryd.underlying9 rfl rfl k228) ?_
        refine AO.p rfl (p_move rfl) ?_
        refine AO.p rfl (p_eql rfl rfl) ?_
        refine AO.nil ?_
        refine AX.cond rfl (fun c230 => ?_) (fun c230 => ?_)
        · have hd231 := bif_t c230 hd229
          refine AX.seq ?_
          refine AX.region ?_
          refine AO.p rfl (p_move rfl) ?_
          refine AO.p rfl (p_move rfl) ?_
          refine AO.p rfl (p_move rfl) ?_
          refine AO.p rfl (p_move rfl) ?_
          obtain ⟨k232, hd233⟩ := chk_some hd231
          refine AO.p rfl (p_sliceS Tryd.underlying9 rfl rfl rfl k232) ?_
          obtain ⟨G234, i235, hii235, hHG234, S236⟩ := S222.new (AObj.row false (sts [(a0 : ByteArray).extract x177.toNat x178.toNat]))
          refine AO.c rfl (s_buildZ (i := i235) (vs := [(0, .string ((a0 : ByteArray).extract x177.toNat x178.toNat))]) (cs := sts [(a0 : ByteArray).extract x177.toNat x178.toNat]) Tryd.underlying63 Tryd.sizeOf9 Tryd.zeroValue9 rfl rfl rfl (by decide) rfl rfl hii235 hHG234) ?_
          obtain ⟨k238, hd239⟩ := chk_some hd233
          obtain ⟨p240, c241, G242, haG242, S243, Bp240⟩ := S236.app (k := 1) rfl Bo173 (sts [(a0 : ByteArray).extract x177.toNat x178.toNat]) 1 (sts_len1 rfl)
          have S244 := S243.cellsEq (k := 1) (us' := sts (ss176 ++ [(a0 : ByteArray).extract x177.toNat x178.toNat])) (sts_app _ _) rfl
          have BS244 : Sb p240 ((ss176 ++ [(a0 : ByteArray).extract x177.toNat x178.toNat]).length) c241 1 := (show ss176.length + 1 = (ss176 ++ [(a0 : ByteArray).extract x177.toNat x178.toNat]).length from len_app (a := ss176) (b := [(a0 : ByteArray).extract x177.toNat x178.toNat]) rfl rfl) ▸ Bp240
          have S245 := S244.drop 0 rfl
          refine AO.c rfl (s_app (by_ := 16) (us := sts ss176) (vs := sts [(a0 : ByteArray).extract x177.toNat x178.toNat]) Tryd.underlying63 Tryd.underlying63 Tryd.typeInfo9 Tryd.sizeOf9 Tryd.zeroValue9 rfl rfl rfl rfl rfl rfl rfl (S236.buf (k := 1) rfl Bo173 (sts_len1 rfl)) (S236.oview (k := 0) rfl (Sb.lit (n := 1) (by decide)) (sts_len1 rfl)) (sts_len1 rfl) sts_one k238 haG242 (show ss176.length + 1 = (ss176 ++ [(a0 : ByteArray).extract x177.toNat x178.toNat]).length from len_app (a := ss176) (b := [(a0 : ByteArray).extract x177.toNat x178.toNat]) rfl rfl)) ?_
          refine AO.p rfl (p_assign rfl) ?_
          refine AO.nil ?_
          refine AX.region ?_
          refine AO.p rfl (p_move rfl) ?_
          obtain ⟨k246, hd247⟩ := chk_some hd239
          refine AO.p rfl (p_addE rfl rfl k246) ?_
          refine AO.p rfl (p_assign rfl) ?_
          refine AO.nil ?_
          refine AX.region ?_
          refine AO.p rfl (p_move rfl) ?_
          obtain ⟨k248, hd249⟩ := chk_some hd247
          refine AO.p rfl (p_addE rfl rfl k248) ?_
          refine AO.p rfl (p_assign rfl) ?_
          refine AO.nil ?_
          obtain rfl := some_inj hd249
          have S251 := S245.front 0 rfl
          exact ⟨((ss176 ++ [(a0 : ByteArray).extract x177.toNat x178.toNat]), x178 + 1, x178 + 1), hk221, (ss176 ++ [(a0 : ByteArray).extract x177.toNat x178.toNat]), (x178 + 1), (x178 + 1), p240, c241, rfl, S251, BS244, Sub.cons' rfl rfl (Sub.cons' rfl rfl (Sub.cons' rfl rfl (Sub.cons' rfl rfl (Sub.cons' rfl rfl (Sub.nil _)))))⟩
        · have hd252 := bif_f c230 hd229
          refine AX.skip ?_
          refine AX.region ?_
          refine AO.p rfl (p_move rfl) ?_
          obtain ⟨k253, hd254⟩ := chk_some hd252
          refine AO.p rfl (p_addE rfl rfl k253) ?_
          refine AO.p rfl (p_assign rfl) ?_
          refine AO.nil ?_
          obtain rfl := some_inj hd254
          have S256 := S222.front 0 rfl
          exact ⟨(ss176, x177, x178 + 1), hk221, ss176, x177, (x178 + 1), p174, c175, rfl, S256, Bo173, Sub.cons' rfl rfl (Sub.cons' rfl rfl (Sub.cons' rfl rfl (Sub.cons' rfl rfl (Sub.cons' rfl rfl (Sub.nil _)))))⟩
      · have hd257 := bif_f c226 ho220
        refine AX.exit ?_
        obtain rfl := some_inj hd257
        have S258 := S222.front 0 rfl
        exact ⟨ss176, x177, p174, c175, hk221, S258, Bo173, Sub.cons' rfl rfl (Sub.cons' rfl rfl (Sub.cons' rfl rfl (Sub.nil _)))⟩
  · rintro t' G260 ⟨ss213, x214, p211, c212, rfl, S259, Bo210, hsub261⟩
    refine ⟨_, hsub261, ?_⟩
    refine AX.seq ?_
    refine AX.region ?_
    refine AO.p rfl (p_move rfl) ?_
    refine AO.p rfl (p_move rfl) ?_
    refine AO.p rfl (p_move rfl) ?_
    obtain ⟨k262, hd263⟩ := chk_some hd217
    refine AO.p rfl (p_sliceS1 Tryd.underlying9 rfl rfl k262) ?_
    obtain ⟨G264, i265, hii265, hHG264, S266⟩ := S259.new (AObj.row false (sts [(a0 : ByteArray).extract x214.toNat (a0 : ByteArray).size]))
    refine AO.c rfl (s_buildZ (i := i265) (vs := [(0, .string ((a0 : ByteArray).extract x214.toNat (a0 : ByteArray).size))]) (cs := sts [(a0 : ByteArray).extract x214.toNat (a0 : ByteArray).size]) Tryd.underlying63 Tryd.sizeOf9 Tryd.zeroValue9 rfl rfl rfl (by decide) rfl rfl hii265 hHG264) ?_
    obtain ⟨k268, hd269⟩ := chk_some hd263
    obtain ⟨p270, c271, G272, haG272, S273, Bp270⟩ := S266.app (k := 1) rfl Bo210 (sts [(a0 : ByteArray).extract x214.toNat (a0 : ByteArray).size]) 1 (sts_len1 rfl)
    have S274 := S273.cellsEq (k := 1) (us' := sts (ss213 ++ [(a0 : ByteArray).extract x214.toNat (a0 : ByteArray).size])) (sts_app _ _) rfl
    have BS274 : Sb p270 ((ss213 ++ [(a0 : ByteArray).extract x214.toNat (a0 : ByteArray).size]).length) c271 1 := (show ss213.length + 1 = (ss213 ++ [(a0 : ByteArray).extract x214.toNat (a0 : ByteArray).size]).length from len_app (a := ss213) (b := [(a0 : ByteArray).extract x214.toNat (a0 : ByteArray).size]) rfl rfl) ▸ Bp270
    have S275 := S274.drop 0 rfl
    refine AO.c rfl (s_app (by_ := 16) (us := sts ss213) (vs := sts [(a0 : ByteArray).extract x214.toNat (a0 : ByteArray).size]) Tryd.underlying63 Tryd.underlying63 Tryd.typeInfo9 Tryd.sizeOf9 Tryd.zeroValue9 rfl rfl rfl rfl rfl rfl rfl (S266.buf (k := 1) rfl Bo210 (sts_len1 rfl)) (S266.oview (k := 0) rfl (Sb.lit (n := 1) (by decide)) (sts_len1 rfl)) (sts_len1 rfl) sts_one k268 haG272 (show ss213.length + 1 = (ss213 ++ [(a0 : ByteArray).extract x214.toNat (a0 : ByteArray).size]).length from len_app (a := ss213) (b := [(a0 : ByteArray).extract x214.toNat (a0 : ByteArray).size]) rfl rfl)) ?_
    refine AO.p rfl (p_assign rfl) ?_
    refine AO.nil ?_
    refine AX.ret ?_
    obtain rfl := some_inj hd269
    have S276 := S275.front 0 rfl
    exact ⟨.inr rfl, _, res1 rfl (rv_tmp rfl), p270, c271, rfl, S276, BS274⟩

set_option maxHeartbeats 4000000 in
theorem W_spec_l04Cell (fu : Nat) (H : AHeap) (a0 : ByteArray) (r0 : Int) (r1 : Bool) (hd : D_spec_l04Cell fu a0 = some (r0, r1)) : ACall Tryd.prog 42 [.string a0] H (.tuple #[.int .i64 r0, .bool r1]) H := by
  refine ACall.bodyP (N := 34) [(0, .string a0)] Tryd.func42 rfl rfl rfl rfl ?_
  unfold D_spec_l04Cell at hd
  have S0 : St [] H H [] := St.nil H
  refine AX.seq ?_
  refine AX.region ?_
  refine AO.p rfl (p_assign rfl) ?_
  refine AO.p rfl (p_assign rfl) ?_
  refine AO.nil ?_
  refine AX.seq ?_
  refine AX.seq ?_
  refine AX.region ?_
  refine AO.p rfl (p_move rfl) ?_
  refine AO.p rfl (p_eqlS rfl rfl) ?_
  refine AO.nil ?_
  refine AX.cond rfl (fun c100 => ?_) (fun c100 => ?_)
  · have hd101 := bif_t c100 hd
    refine AX.seq ?_
    refine AX.region ?_
    refine AO.p rfl (p_assign rfl) ?_
    refine AO.p rfl (p_assign rfl) ?_
    refine AO.nil ?_
    refine AX.ret ?_
    obtain ⟨rfl, rfl⟩ := Prod.mk.inj (some_inj hd101)
    exact ⟨.inr rfl, _, res2 rfl (rv_tmp rfl) (rv_tmp rfl), rfl, (flat_t2 (flatB_ok rfl) (flatB_ok rfl)), S0.hold⟩
  · have hd103 := bif_f c100 hd
    refine AX.skip ?_
    refine AX.seq ?_
    refine AX.region ?_
    refine AO.p rfl (p_move rfl) ?_
    obtain ⟨ss104, h105, hd106⟩ := bnd_some hd103
    obtain ⟨_, G112, hc111, p107, c108, rfl, S113, B110⟩ := W_spec_l01Split fu H a0 45 ss104 h105
    have S114 := S0.call S113
    refine AO.c rfl (o_call (vs := [.string a0, .int .u8 45]) rfl Tryd.call40 hc111) ?_
    refine AO.p rfl (p_assign rfl) ?_
    refine AO.nil ?_
    refine AX.seq ?_
    refine AX.seq ?_
    refine AX.region ?_
    refine AO.p rfl (p_move rfl) ?_
    refine AO.p rfl (p_len_slice rfl Tryd.underlying63) ?_
    refine AO.p rfl (p_neq rfl rfl) ?_
    refine AO.nil ?_
    refine AX.cond rfl (fun c115 => ?_) (fun c115 => ?_)
    · have hd116 := bif_t c115 hd106
      refine AX.seq ?_
      refine AX.region ?_
      refine AO.p rfl (p_assign rfl) ?_
      refine AO.p rfl (p_assign rfl) ?_
      refine AO.nil ?_
      refine AX.ret ?_
      obtain ⟨rfl, rfl⟩ := Prod.mk.inj (some_inj hd116)
      exact ⟨.inr rfl, _, res2 rfl (rv_tmp rfl) (rv_tmp rfl), rfl, (flat_t2 (flatB_ok rfl) (flatB_ok rfl)), S114.hold⟩
    · have hd118 := bif_f c115 hd106
      refine AX.skip ?_
      refine AX.seq ?_
      refine DR.startS [false, false, false, true, false, false, false, true, false, false] mix (by kernel_rfl) (fun hst => ?_)
      refine DR.p rfl rfl (p_move rfl) ?_
      obtain ⟨k119, hd120⟩ := chk_some hd118
      refine DR.p rfl rfl (s_indexV (q := 0) Tryd.underlying63 Tryd.sizeOf9 rfl (B110.at (inR_pos k119)) rfl k119 rfl) ?_
      refine DR.r rfl rfl (r_load rfl Tryd.isAgg9) (one_read (row_cell (S114.oat (k := 0) rfl (B110.at (inR_pos k119))) (sts_get (lt_len rfl (inR_lt k119)))) (.of_flat0 rfl)) ?_
      obtain ⟨x121, h122, hd123⟩ := bnd_some hd120
      refine DR.w rfl rfl (o_call (vs := [.string (rds ss104 0)]) rfl Tryd.call41 (W_spec_l01Number fu G112 (rds ss104 0) x121 h122)) (Nat.le_refl _) ?_
      refine DR.p rfl rfl (p_move rfl) ?_
      obtain ⟨k125, hd126⟩ := chk_some hd123
      refine DR.p rfl rfl (s_indexV (q := 1) Tryd.underlying63 Tryd.sizeOf9 rfl (B110.at (inR_pos k125)) rfl k125 rfl) ?_
      refine DR.r rfl rfl (r_load rfl Tryd.isAgg9) (one_read (row_cell (S114.oat (k := 0) rfl (B110.at (inR_pos k125))) (sts_get (lt_len rfl (inR_lt k125)))) (.of_flat0 rfl)) ?_
      obtain ⟨x127, h128, hd129⟩ := bnd_some hd126
      refine DR.w rfl rfl (o_call (vs := [.string (rds ss104 1)]) rfl Tryd.call41 (W_spec_l01Number fu G112 (rds ss104 1) x127 h128)) (Nat.le_refl _) ?_
      refine DR.p rfl rfl (p_assign rfl) ?_
      refine DR.p rfl rfl (p_assign rfl) ?_
      refine DR.nil 10 [(6, 3)] hst (by kernel_rfl) ⟨(rd1 (fun _ => rfl)), trivial⟩ ?_
      refine AX.seq ?_
      obtain ⟨r143, hb144, hd145⟩ := bnd_some hd129
      refine AX.cut (fun t' H' => ∃ (b142 : Bool), b142 = r143 ∧ St [] H H' [] ∧ Am.Sub [(5, .int .i64 x121), (6, .int .i64 x127), (29, .bool b142)] t') ?_ ?_
      · skip
        refine AX.region ?_
        refine AO.p rfl (p_move rfl) ?_
        obtain ⟨b146, h147, hd148⟩ := bnd_some hb144
        refine AO.c rfl (o_call (vs := [.int .i64 x121, .int .i64 0, .int .i64 13]) rfl Tryd.call55 (W_spec_l01In fu G112 x121 0 13 b146 h147)) ?_
        refine AO.p rfl (p_not rfl) ?_
        refine AO.p rfl (p_move rfl) ?_
        refine AO.cases (d := 25) rfl (fun c150 => ?_) (fun c150 => ?_)
        · have hd151 := bif_t c150 hd148
          refine AO.gn rfl rfl rfl ?_
          refine AO.gn rfl rfl rfl ?_
          refine AO.gn rfl rfl rfl ?_
          refine AO.p rfl (p_pickT rfl rfl) ?_
          refine AO.nil ?_
          have S152 := S114.keep 0
          exact ⟨true, (some_inj hd151), S152, Sub.cons' rfl rfl (Sub.cons' rfl rfl (Sub.cons' rfl rfl (Sub.nil _)))⟩
        · have hd153 := bif_f c150 hd148
          refine AO.gp rfl rfl rfl (p_move rfl) ?_
          obtain ⟨b154, h155, hd156⟩ := bnd_some hd153
          refine AO.gc rfl rfl rfl (o_call (vs := [.int .i64 x127, .int .i64 0, .int .i64 13]) rfl Tryd.call55 (W_spec_l01In fu G112 x127 0 13 b154 h155)) ?_
          refine AO.gp rfl rfl rfl (p_not rfl) ?_
          refine AO.p rfl (p_pickF rfl rfl) ?_
          refine AO.nil ?_
          have S158 := S114.keep 0
          exact ⟨(!b154), (some_inj hd156), S158, Sub.cons' rfl rfl (Sub.cons' rfl rfl (Sub.cons' rfl rfl (Sub.nil _)))⟩
      · rintro t' G160 ⟨b142, rfl, S159, hsub161⟩
        refine AX.sub hsub161 ?_
        refine AX.cond rfl (fun c162 => ?_) (fun c162 => ?_)
        · have hd163 := bif_t c162 hd145
          refine AX.seq ?_
          refine AX.region ?_
          refine AO.p rfl (p_assign rfl) ?_
          refine AO.p rfl (p_assign rfl) ?_
          refine AO.nil ?_
          refine AX.ret ?_
          obtain ⟨rfl, rfl⟩ := Prod.mk.inj (some_inj hd163)
          exact ⟨.inr rfl, _, res2 rfl (rv_tmp rfl) (rv_tmp rfl), rfl, (flat_t2 (flatB_ok rfl) (flatB_ok rfl)), S159.hold⟩
        · have hd165 := bif_f c162 hd145
          refine AX.skip ?_
          refine AX.seq ?_
          refine AX.region ?_
          refine AO.p rfl (p_move rfl) ?_
          obtain ⟨k166, hd167⟩ := chk_some hd165
          refine AO.p rfl (p_mulE rfl rfl k166) ?_
          refine AO.p rfl (p_move rfl) ?_
          obtain ⟨k168, hd169⟩ := chk_some hd167
          refine AO.p rfl (p_addE rfl rfl k168) ?_
          refine AO.p rfl (p_assign rfl) ?_
          refine AO.p rfl (p_assign rfl) ?_
          refine AO.nil ?_
          refine AX.ret ?_
          obtain ⟨rfl, rfl⟩ := Prod.mk.inj (some_inj hd169)
          exact ⟨.inr rfl, _, res2 rfl (rv_tmp rfl) (rv_tmp rfl), rfl, (flat_t2 (flatB_ok rfl) (flatB_ok rfl)), S159.hold⟩

set_option maxHeartbeats 4000000 in
theorem W_spec_ParseSquare (fu : Nat) (H : AHeap) (a0 : ByteArray) (r0 : Int) (r1 : List (List Int)) (r2 : Int) (hd : D_spec_ParseSquare fu a0 = some (r0, r1, r2)) : ∃ v G', ACall Tryd.prog 17 [.string a0] H v G' ∧ ∃ (p_r1 : Option Addr) (c_r1 : Nat) (T_r1 : Tb), (v = .tuple #[.agg [.int .i64 r0, .slice p_r1 r1.length c_r1].toArray, .int .i64 r2]) ∧ St [] H G' [oseg p_r1 (tcells T_r1), tseg T_r1] ∧ Sb p_r1 r1.length c_r1 1 ∧ trows T_r1 = r1 ∧ TSb T_r1 := by
  refine ACall.bodyX (args := [.string a0]) (N := 73) [(0, .string a0)] (fun v G' => ∃ (p_r1 : Option Addr) (c_r1 : Nat) (T_r1 : Tb), (v = .tuple #[.agg [.int .i64 r0, .slice p_r1 r1.length c_r1].toArray, .int .i64 r2]) ∧ St [] H G' [oseg p_r1 (tcells T_r1), tseg T_r1] ∧ Sb p_r1 r1.length c_r1 1 ∧ trows T_r1 = r1 ∧ TSb T_r1) Tryd.func17 rfl rfl rfl rfl ?_
  unfold D_spec_ParseSquare at hd
  have S0 : St [] H H [] := St.nil H
  refine AX.seq ?_
  refine AX.region ?_
  obtain ⟨G100, i101, hii101, hHG100, S102⟩ := S0.new (AObj.row false ([.int .i64 0, .slice none 0 0]))
  refine AO.c rfl (s_alloc (i := i101) (cs := [.int .i64 0, .slice none 0 0]) Tryd.zeroValue28 rfl rfl hii101 hHG100) ?_
  refine AO.p rfl (p_assign rfl) ?_
  refine AO.nil ?_
  refine AX.seq ?_
  refine AX.region ?_
  refine AO.p rfl (p_move rfl) ?_
  obtain ⟨ss104, h105, hd106⟩ := bnd_some hd
  obtain ⟨_, G112, hc111, p107, c108, rfl, S113, B110⟩ := W_spec_l01Split fu G100 a0 58 ss104 h105
  have S114 := S102.call S113
  refine AO.c rfl (o_call (vs := [.string a0, .int .u8 58]) rfl Tryd.call40 hc111) ?_
  refine AO.p rfl (p_assign rfl) ?_
  refine AO.nil ?_
  refine AX.seq ?_
  refine AX.seq ?_
  refine AX.region ?_
  refine AO.p rfl (p_move rfl) ?_
  refine AO.p rfl (p_len_slice rfl Tryd.underlying63) ?_
  refine AO.p rfl (p_neq rfl rfl) ?_
  refine AO.nil ?_
  refine AX.cond rfl (fun c115 => ?_) (fun c115 => ?_)
  · have hd116 := bif_t c115 hd106
    refine AX.seq ?_
    refine AX.region ?_
    refine AO.p rfl (p_build2 (vs := []) (cs := [.int .i64 0, .slice none 0 0]) Tryd.underlying28 rfl rfl rfl Tryd.sizeOf2 Tryd.sizeOf22 Tryd.zeroValue28 rfl rfl rfl rfl rfl) ?_
    obtain ⟨G117, hHG117, S118⟩ := S114.set (k := 1) (i := i101) rfl (AObj.row false ([.int .i64 0, .slice none 0 0]))
    refine AO.s (s_storeAll (vs := [.int .i64 0, .slice none 0 0]) Tryd.sizeOf28 rfl rfl (ones_list rfl) (S114.get (k := 1) rfl) rfl rfl hHG117) ?_
    refine AO.p rfl (p_assign rfl) ?_
    refine AO.nil ?_
    refine AX.ret ?_
    obtain ⟨rfl, z119⟩ := Prod.mk.inj (some_inj hd116)
    obtain ⟨rfl, rfl⟩ := Prod.mk.inj z119
    have S121 : St [] H G117 (tseg [] :: _) := S118.nilseg 0
    have S122 : St [] H G117 (oseg none (tcells []) :: _) := S121.nilseg 0
    have S123 := S122.keep 2
    exact ⟨.inr rfl, _, res2 rfl (rv_cell (vs := [.int .i64 0, .slice none 0 0]) rfl Tryd.isAgg28 Tryd.sizeOf28 rfl (row_cells (S118.get (k := 1) rfl))) (rv_tmp rfl), none, 0, [], rfl, S123, Sb.nil, rfl, TSb.nil⟩
  · have hd124 := bif_f c115 hd106
    refine AX.skip ?_
    refine AX.seq ?_
    refine AX.region ?_
    refine AO.p rfl (p_move rfl) ?_
    obtain ⟨k125, hd126⟩ := chk_some hd124
    refine AO.p rfl (s_indexV (q := 0) Tryd.underlying63 Tryd.sizeOf9 rfl (B110.at (inR_pos k125)) rfl k125 rfl) ?_
    refine AO.c rfl (s_load Tryd.isAgg9 rfl (row_cell (S114.oat (k := 0) rfl (B110.at (inR_pos k125))) (sts_get (lt_len rfl (inR_lt k125))))) ?_
    obtain ⟨x127, h128, hd129⟩ := bnd_some hd126
    refine AO.c rfl (o_call (vs := [.string (rds ss104 0)]) rfl Tryd.call41 (W_spec_l01Number fu G112 (rds ss104 0) x127 h128)) ?_
    obtain ⟨G131, i132, hii132, hHG131, S133⟩ := S114.new (AObj.row false (tcells []))
    have S133t := S133.nilseg 1
    refine AO.c rfl (s_build0 (i := i132) Tryd.underlying22 Tryd.sizeOf66 hii132 hHG131) ?_
    refine AO.p rfl (p_build2 (vs := [(0, .int .i64 x127), (1, .slice (some (Addr.mk i132 0 none)) 0 0)]) (cs := [.int .i64 x127, .slice (some (Addr.mk i132 0 none)) 0 0]) Tryd.underlying28 rfl rfl rfl Tryd.sizeOf2 Tryd.sizeOf22 Tryd.zeroValue28 rfl rfl rfl rfl rfl) ?_
    obtain ⟨G135, i136, hii136, hHG135, S137⟩ := S133t.new (AObj.row false ([.int .i64 0, .slice none 0 0]))
    refine AO.c rfl (s_alloc (i := i136) (cs := [.int .i64 0, .slice none 0 0]) Tryd.zeroValue28 rfl rfl hii136 hHG135) ?_
    obtain ⟨G139, hHG139, S140⟩ := S137.set (k := 0) (i := i136) rfl (AObj.row false ([.int .i64 x127, .slice (some (Addr.mk i132 0 none)) 0 0]))
    refine AO.s (s_storeAll (vs := [.int .i64 x127, .slice (some (Addr.mk i132 0 none)) 0 0]) Tryd.sizeOf28 rfl rfl (ones_list rfl) (S137.get (k := 0) rfl) rfl rfl hHG139) ?_
    refine AO.nil ?_
    refine AX.seq ?_
    refine AX.region ?_
    refine AO.p rfl (p_move rfl) ?_
    obtain ⟨k141, hd142⟩ := chk_some hd129
    refine AO.p rfl (s_indexV (q := 1) Tryd.underlying63 Tryd.sizeOf9 rfl (B110.at (inR_pos k141)) rfl k141 rfl) ?_
    refine AO.c rfl (s_load Tryd.isAgg9 rfl (row_cell (S140.oat (k := 3) rfl (B110.at (inR_pos k141))) (sts_get (lt_len rfl (inR_lt k141))))) ?_
    obtain ⟨ss143, h144, hd145⟩ := bnd_some hd142
    obtain ⟨_, G151, hc150, p146, c147, rfl, S152, B149⟩ := W_spec_l01Split fu G139 (rds ss104 1) 59 ss143 h144
    have S153 := S140.call S152
    refine AO.c rfl (o_call (vs := [.string (rds ss104 1), .int .u8 59]) rfl Tryd.call40 hc150) ?_
    refine AO.p rfl (p_assign rfl) ?_
    refine AO.nil ?_
    refine AX.seq ?_
    refine AX.seq ?_
    refine AX.region ?_
    refine AO.p rfl (p_assign rfl) ?_
    refine AO.nil ?_
    obtain ⟨r921, hl922, hd923⟩ := bnd_some hd145
    refine AX.cutS (fun t' H' => ∃ (rs919 : List (List Int)) (p917 : Option Addr) (c918 : Nat) (T920 : Tb), .inl rs919 = r921 ∧ St [] H H' [[(i101, AObj.row false ([.int .i64 0, .slice none 0 0]))], [(i136, AObj.row false ([.int .i64 x127, .slice p917 rs919.length c918]))], oseg p917 (tcells T920), tseg T920] ∧ trows T920 = rs919 ∧ TSb T920 ∧ Sb p917 (rs919.length) c918 1 ∧ Am.Sub [(2, .pointer (some ⟨i101, 0, none⟩)), (5, .pointer (some ⟨i136, 0, none⟩))] t') ?_ ?_
    · refine AX.block ?_
      refine AX.loopF (fun s' t' H' => ∃ (rs664 : List (List Int)) (x667 : Int) (p662 : Option Addr) (c663 : Nat) (T665 : Tb), (rs664, x667) = s' ∧ St [] H H' [[(i101, AObj.row false ([.int .i64 0, .slice none 0 0]))], [(i136, AObj.row false ([.int .i64 x127, .slice p662 rs664.length c663]))], oseg p662 (tcells T665), tseg T665, oseg p146 (sts ss143)] ∧ trows T665 = rs664 ∧ TSb T665 ∧ Sb p662 (rs664.length) c663 1 ∧ Am.Sub [(2, .pointer (some ⟨i101, 0, none⟩)), (5, .pointer (some ⟨i136, 0, none⟩)), (6, .slice p146 ss143.length c147), (7, .int .i64 x667)] t') hl922 ?_ ?_
      · skip
        have S924 := S153.front 0 rfl
        have S925 := S924.front 3 rfl
        have S926 := S925.front 3 rfl
        have S927 := S926.front 3 rfl
        have S928 := S927.front 5 rfl
        have S929 := S928.keep 5
        exact ⟨[], 0, (some (Addr.mk i132 0 none)), 0, [], rfl, S929, rfl, TSb.nil, (Sb.lit (n := 0) (by decide)), Sub.cons' rfl rfl (Sub.cons' rfl rfl (Sub.cons' rfl rfl (Sub.cons' rfl rfl (Sub.nil _))))⟩
      · rintro n930 _ t' G934 ⟨rs664, x667, p662, c663, T665, rfl, S933, tT665, sT665, Bo661, hsub935⟩ o936 ho931 hk932
        refine AX.sub hsub935 ?_
        unfold D_spec_ParseSquare_s0 at ho931
        refine AX.seq ?_
        refine AX.seq ?_
        refine AX.region ?_
        refine AO.p rfl (p_move rfl) ?_
        refine AO.p rfl (p_move rfl) ?_
        refine AO.p rfl (p_len_slice rfl Tryd.underlying63) ?_
        refine AO.p rfl (p_lss rfl rfl) ?_
        refine AO.nil ?_
        refine AX.cond rfl (fun c937 => ?_) (fun c937 => ?_)
        · have hd938 := bif_t c937 ho931
          refine AX.skip ?_
          refine AX.seq ?_
          refine AX.block ?_
          refine AX.seq ?_
          refine AX.region ?_
          refine AO.p rfl (p_move rfl) ?_
          refine AO.p rfl (p_move rfl) ?_
          obtain ⟨k939, hd940⟩ := chk_some hd938
          refine AO.p rfl (s_indexV (q := x667.toNat) Tryd.underlying63 Tryd.sizeOf9 rfl (B149.at (inR_pos k939)) rfl k939 (z1 _)) ?_
          refine AO.c rfl (s_load Tryd.isAgg9 rfl (row_cell (S933.oat (k := 4) rfl (B149.at (inR_pos k939))) (sts_get (lt_len rfl (inR_lt k939))))) ?_
          obtain ⟨ss941, h942, hd943⟩ := bnd_some hd940
          obtain ⟨_, G949, hc948, p944, c945, rfl, S950, B947⟩ := W_spec_l01Split fu G934 (rds ss143 x667.toNat) 44 ss941 h942
          have S951 := S933.call S950
          refine AO.c rfl (o_call (vs := [.string (rds ss143 x667.toNat), .int .u8 44]) rfl Tryd.call40 hc948) ?_
          obtain ⟨G952, i953, hii953, hHG952, S954⟩ := S951.new (AObj.row false (ints []))
          refine AO.c rfl (s_build0 (i := i953) Tryd.underlying66 Tryd.sizeOf2 hii953 hHG952) ?_
          refine AO.p rfl (p_assign rfl) ?_
          refine AO.p rfl (p_assign rfl) ?_
          refine AO.nil ?_
          refine AX.seq ?_
          refine AX.seq ?_
          refine AX.region ?_
          refine AO.p rfl (p_assign rfl) ?_
          refine AO.nil ?_
          obtain ⟨r1095, hl1096, hd1097⟩ := bnd_some hd943
          refine AX.cutS (fun t' H' => ∃ (xs1094 : List Int) (p1092 : Option Addr) (c1093 : Nat), .inl xs1094 = r1095 ∧ St [] H H' [[(i101, AObj.row false ([.int .i64 0, .slice none 0 0]))], [(i136, AObj.row false ([.int .i64 x127, .slice p662 rs664.length c663]))], oseg p662 (tcells T665), tseg T665, oseg p146 (sts ss143), oseg p1092 (ints xs1094)] ∧ Sb p1092 (xs1094.length) c1093 1 ∧ Am.Sub [(2, .pointer (some ⟨i101, 0, none⟩)), (5, .pointer (some ⟨i136, 0, none⟩)), (6, .slice p146 ss143.length c147), (7, .int .i64 x667), (9, .slice p1092 xs1094.length c1093)] t') ?_ ?_
          · refine AX.block ?_
            refine AX.loopF (fun s' t' H' => ∃ (xs1050 : List Int) (x1051 : Int) (p1048 : Option Addr) (c1049 : Nat), (xs1050, x1051) = s' ∧ St [] H H' [[(i101, AObj.row false ([.int .i64 0, .slice none 0 0]))], [(i136, AObj.row false ([.int .i64 x127, .slice p662 rs664.length c663]))], oseg p662 (tcells T665), tseg T665, oseg p146 (sts ss143), oseg p944 (sts ss941), oseg p1048 (ints xs1050)] ∧ Sb p1048 (xs1050.length) c1049 1 ∧ Am.Sub [(2, .pointer (some ⟨i101, 0, none⟩)), (5, .pointer (some ⟨i136, 0, none⟩)), (6, .slice p146 ss143.length c147), (7, .int .i64 x667), (8, .slice p944 ss941.length c945), (9, .slice p1048 xs1050.length c1049), (10, .int .i64 x1051)] t') hl1096 ?_ ?_
            · skip
              have S1098 := S954.front 0 rfl
              have S1099 := S1098.front 1 rfl
              have S1100 := S1099.front 6 rfl
              have S1101 := S1100.front 6 rfl
              have S1102 := S1101.front 6 rfl
              have S1103 := S1102.front 6 rfl
              have S1104 := S1103.front 6 rfl
              exact ⟨[], 0, (some (Addr.mk i953 0 none)), 0, rfl, S1104, (Sb.lit (n := 0) (by decide)), Sub.cons' rfl rfl (Sub.cons' rfl rfl (Sub.cons' rfl rfl (Sub.cons' rfl rfl (Sub.cons' rfl rfl (Sub.cons' rfl rfl (Sub.cons' rfl rfl (Sub.nil _)))))))⟩
            · rintro n1105 _ t' G1109 ⟨xs1050, x1051, p1048, c1049, rfl, S1108, Bo1047, hsub1110⟩ o1111 ho1106 hk1107
              refine AX.sub hsub1110 ?_
              unfold D_spec_ParseSquare_s1 at ho1106
              refine AX.seq ?_
              refine AX.seq ?_
              refine AX.region ?_
              refine AO.p rfl (p_move rfl) ?_
              refine AO.p rfl (p_move rfl) ?_
              refine AO.p rfl (p_len_slice rfl Tryd.underlying63) ?_
              refine AO.p rfl (p_lss rfl rfl) ?_
              refine AO.nil ?_
              refine AX.cond rfl (fun c1112 => ?_) (fun c1112 => ?_)
              · have hd1113 := bif_t c1112 ho1106
                refine AX.skip ?_
                refine AX.seq ?_
                refine AX.block ?_
                refine AX.seq ?_
                refine AX.region ?_
                refine AO.p rfl (p_move rfl) ?_
                refine AO.p rfl (p_move rfl) ?_
                obtain ⟨k1114, hd1115⟩ := chk_some hd1113
                refine AO.p rfl (s_indexV (q := x1051.toNat) Tryd.underlying63 Tryd.sizeOf9 rfl (B947.at (inR_pos k1114)) rfl k1114 (z1 _)) ?_
                refine AO.c rfl (s_load Tryd.isAgg9 rfl (row_cell (S1108.oat (k := 5) rfl (B947.at (inR_pos k1114))) (sts_get (lt_len rfl (inR_lt k1114))))) ?_
                obtain ⟨⟨x1116, b1117⟩, h1118, hd1119⟩ := bnd_some hd1115
                refine AO.c rfl (o_call (vs := [.string (rds ss941 x1051.toNat)]) rfl Tryd.call42 (W_spec_l04Cell fu G1109 (rds ss941 x1051.toNat) x1116 b1117 h1118)) ?_
                refine AO.p rfl (p_move rfl) ?_
                refine AO.p rfl (p_extract rfl rfl) ?_
                refine AO.p rfl (p_extract rfl rfl) ?_
                refine AO.p rfl (p_assign rfl) ?_
                refine AO.p rfl (p_assign rfl) ?_
                refine AO.nil ?_
                refine AX.seq ?_
                refine AX.seq ?_
                refine AX.region ?_
                refine AO.p rfl (p_move rfl) ?_
                refine AO.p rfl (p_not rfl) ?_
                refine AO.nil ?_
                refine AX.cond rfl (fun c1121 => ?_) (fun c1121 => ?_)
                · have hd1122 := bif_t c1121 hd1119
                  refine AX.seq ?_
                  refine AX.region ?_
                  refine AO.p rfl (p_build2 (vs := []) (cs := [.int .i64 0, .slice none 0 0]) Tryd.underlying28 rfl rfl rfl Tryd.sizeOf2 Tryd.sizeOf22 Tryd.zeroValue28 rfl rfl rfl rfl rfl) ?_
                  obtain ⟨G1123, hHG1123, S1124⟩ := S1108.set (k := 0) (i := i101) rfl (AObj.row false ([.int .i64 0, .slice none 0 0]))
                  refine AO.s (s_storeAll (vs := [.int .i64 0, .slice none 0 0]) Tryd.sizeOf28 rfl rfl (ones_list rfl) (S1108.get (k := 0) rfl) rfl rfl hHG1123) ?_
                  refine AO.p rfl (p_assign rfl) ?_
                  refine AO.nil ?_
                  refine AX.ret ?_
                  obtain rfl := some_inj hd1122
                  have z1125 : _ = r1095 := hk1107
                  subst z1125
                  obtain rfl := some_inj hd1097
                  have z1126 : _ = r921 := hk932
                  subst z1126
                  obtain ⟨rfl, z1127⟩ := Prod.mk.inj (some_inj hd923)
                  obtain ⟨rfl, rfl⟩ := Prod.mk.inj z1127
                  have S1129 : St [] H G1123 (tseg [] :: _) := S1124.nilseg 0
                  have S1130 : St [] H G1123 (oseg none (tcells []) :: _) := S1129.nilseg 0
                  have S1131 := S1130.keep 2
                  exact ⟨.inr rfl, _, res2 rfl (rv_cell (vs := [.int .i64 0, .slice none 0 0]) rfl Tryd.isAgg28 Tryd.sizeOf28 rfl (row_cells (S1124.get (k := 0) rfl))) (rv_tmp rfl), none, 0, [], rfl, S1131, Sb.nil, rfl, TSb.nil⟩
                · have hd1132 := bif_f c1121 hd1119
                  refine AX.skip ?_
                  refine AX.region ?_
                  refine AO.p rfl (p_move rfl) ?_
                  refine AO.p rfl (p_move rfl) ?_
                  obtain ⟨G1133, i1134, hii1134, hHG1133, S1135⟩ := S1108.new (AObj.row false (ints [x1116]))
                  refine AO.c rfl (s_buildInts (i := i1134) (vs := [(0, .int .i64 x1116)]) (xs := [x1116]) Tryd.underlying66 Tryd.sizeOf2 Tryd.zeroValue2 rfl rfl (by decide) rfl rfl hii1134 hHG1133) ?_
                  obtain ⟨k1137, hd1138⟩ := chk_some hd1132
                  obtain ⟨p1139, c1140, G1141, haG1141, S1142, Bp1139⟩ := S1135.app (k := 7) rfl Bo1047 (ints [x1116]) 1 (ints_len1 rfl)
                  have S1143 := S1142.cellsEq (k := 7) (us' := ints (xs1050 ++ [x1116])) (ints_app _ _) rfl
                  have BS1143 : Sb p1139 ((xs1050 ++ [x1116]).length) c1140 1 := (show xs1050.length + 1 = (xs1050 ++ [x1116]).length from len_app (a := xs1050) (b := [x1116]) rfl rfl) ▸ Bp1139
                  have S1144 := S1143.drop 0 rfl
                  refine AO.c rfl (s_app (by_ := 8) (us := ints xs1050) (vs := ints [x1116]) Tryd.underlying66 Tryd.underlying66 Tryd.typeInfo2 Tryd.sizeOf2 Tryd.zeroValue2 rfl rfl rfl rfl rfl rfl rfl (S1135.buf (k := 7) rfl Bo1047 (ints_len1 rfl)) (S1135.oview (k := 0) rfl (Sb.lit (n := 1) (by decide)) (ints_len1 rfl)) (ints_len1 rfl) ints_one k1137 haG1141 (show xs1050.length + 1 = (xs1050 ++ [x1116]).length from len_app (a := xs1050) (b := [x1116]) rfl rfl)) ?_
                  refine AO.p rfl (p_assign rfl) ?_
                  refine AO.nil ?_
                  refine AX.region ?_
                  refine AO.p rfl (p_move rfl) ?_
                  obtain ⟨k1145, hd1146⟩ := chk_some hd1138
                  refine AO.p rfl (p_addE rfl rfl k1145) ?_
                  refine AO.p rfl (p_assign rfl) ?_
                  refine AO.nil ?_
                  obtain rfl := some_inj hd1146
                  have S1148 := S1144.front 6 rfl
                  have S1149 := S1148.front 6 rfl
                  have S1150 := S1149.front 6 rfl
                  have S1151 := S1150.front 6 rfl
                  have S1152 := S1151.front 6 rfl
                  have S1153 := S1152.front 6 rfl
                  have S1154 := S1153.front 6 rfl
                  exact ⟨((xs1050 ++ [x1116]), x1051 + 1), hk1107, (xs1050 ++ [x1116]), (x1051 + 1), p1139, c1140, rfl, S1154, BS1143, Sub.cons' rfl rfl (Sub.cons' rfl rfl (Sub.cons' rfl rfl (Sub.cons' rfl rfl (Sub.cons' rfl rfl (Sub.cons' rfl rfl (Sub.cons' rfl rfl (Sub.nil _)))))))⟩
              · have hd1155 := bif_f c1112 ho1106
                refine AX.exit ?_
                obtain rfl := some_inj hd1155
                have S1156 := S1108.front 6 rfl
                have S1157 := S1156.front 5 rfl
                have S1158 := S1157.front 5 rfl
                have S1159 := S1158.front 5 rfl
                have S1160 := S1159.front 5 rfl
                have S1161 := S1160.front 5 rfl
                have S1162 := S1161.keep 6
                exact ⟨xs1050, p1048, c1049, hk1107, S1162, Bo1047, Sub.cons' rfl rfl (Sub.cons' rfl rfl (Sub.cons' rfl rfl (Sub.cons' rfl rfl (Sub.cons' rfl rfl (Sub.nil _)))))⟩
          · rintro t' G1164 ⟨xs1094, p1092, c1093, rfl, S1163, Bo1091, hsub1165⟩
            refine ⟨_, hsub1165, ?_⟩
            refine AX.region ?_
            refine AO.p rfl (s_fieldAddr Tryd.underlying28 rfl Tryd.sizeOf22 (by decide) rfl rfl) ?_
            refine AO.c rfl (s_load Tryd.isAgg22 rfl (row_cell (S1163.get (k := 1) rfl) rfl)) ?_
            refine AO.p rfl (p_move rfl) ?_
            obtain ⟨G1166, i1167, hii1167, hHG1166, S1168⟩ := S1163.new (AObj.row false (tcells [(p1092, c1093, xs1094)]))
            have S1170 := (S1168.front 6 rfl).tone p1092 c1093 xs1094 rfl
            refine AO.c rfl (s_buildT1 (i := i1167) (X := [(p1092, c1093, xs1094)]) (n := xs1094.length) rfl Tryd.underlying22 Tryd.sizeOf66 Tryd.zeroValue66 rfl rfl hii1167 hHG1166) ?_
            obtain ⟨k1171, hd1172⟩ := chk_some hd1097
            obtain ⟨p1173, c1174, G1175, haG1175, S1176, Bp1173⟩ := S1170.app (k := 4) rfl Bo661 (tcells [(p1092, c1093, xs1094)]) 1 (tc_len1 rfl rfl)
            have S1177 := S1176.cellsEq (k := 4) (us' := tcells (T665 ++ [(p1092, c1093, xs1094)])) (tcells_app _ _).symm rfl
            have BS1177 : Sb p1173 ((rs664 ++ [xs1094]).length) c1174 1 := (show rs664.length + 1 = (rs664 ++ [xs1094]).length from len_app (a := rs664) (b := [xs1094]) rfl rfl) ▸ Bp1173
            have S1178 := S1177.front 0 rfl
            have S1179 := (S1178.front 5 rfl).tmerge
            have S1180 := S1179.drop 1 rfl
            refine AO.c rfl (s_app (by_ := 24) (us := tcells T665) (vs := tcells [(p1092, c1093, xs1094)]) Tryd.underlying22 Tryd.underlying22 Tryd.typeInfo66 Tryd.sizeOf66 Tryd.zeroValue66 rfl rfl rfl rfl rfl rfl rfl (S1170.buf (k := 4) rfl Bo661 (tc_len1 tT665 rfl)) (S1170.oview (k := 1) rfl (Sb.lit (n := 1) (by decide)) (tc_len1 rfl rfl)) (tc_len1 rfl rfl) tcells_one k1171 haG1175 (show rs664.length + 1 = (rs664 ++ [xs1094]).length from len_app (a := rs664) (b := [xs1094]) rfl rfl)) ?_
            refine AO.p rfl (s_fieldAddr Tryd.underlying28 rfl Tryd.sizeOf22 (by decide) rfl rfl) ?_
            obtain ⟨G1181, hHG1181, S1182⟩ := S1180.set (k := 2) (i := i136) rfl (AObj.row false ([.int .i64 x127, .slice p1173 ((rs664 ++ [xs1094]).length) c1174]))
            refine AO.s (s_store Tryd.sizeOf22 rfl rfl rfl (S1180.get (k := 2) rfl) (Nat.le_of_ble_eq_true rfl) hHG1181) ?_
            refine AO.nil ?_
            refine AX.region ?_
            refine AO.p rfl (p_move rfl) ?_
            obtain ⟨k1183, hd1184⟩ := chk_some hd1172
            refine AO.p rfl (p_addE rfl rfl k1183) ?_
            refine AO.p rfl (p_assign rfl) ?_
            refine AO.nil ?_
            obtain rfl := some_inj hd1184
            have S1186 := S1182.front 4 rfl
            have S1187 := S1186.front 1 rfl
            have S1188 := S1187.front 4 rfl
            have S1189 := S1188.front 4 rfl
            have S1190 := S1189.front 4 rfl
            exact ⟨((rs664 ++ [xs1094]), x667 + 1), hk932, (rs664 ++ [xs1094]), (x667 + 1), p1173, c1174, (T665 ++ [(p1092, c1093, xs1094)]), rfl, S1190, (trows_apps tT665 rfl), (TSb.app sT665 (TSb.one (sb_len rfl Bo1091))), BS1177, Sub.cons' rfl rfl (Sub.cons' rfl rfl (Sub.cons' rfl rfl (Sub.cons' rfl rfl (Sub.nil _))))⟩
        · have hd1192 := bif_f c937 ho931
          refine AX.exit ?_
          obtain rfl := some_inj hd1192
          have S1193 := S933.front 3 rfl
          have S1194 := S1193.front 3 rfl
          have S1195 := S1194.front 3 rfl
          have S1196 := S1195.front 3 rfl
          have S1197 := S1196.keep 4
          exact ⟨rs664, p662, c663, T665, hk932, S1197, tT665, sT665, Bo661, Sub.cons' rfl rfl (Sub.cons' rfl rfl (Sub.nil _))⟩
    · rintro t' G1199 ⟨rs919, p917, c918, T920, rfl, S1198, tT920, sT920, Bo916, hsub1200⟩
      refine ⟨_, hsub1200, ?_⟩
      refine AX.seq ?_
      refine AX.seq ?_
      refine AX.region ?_
      refine AO.c rfl (s_loadN (vs := [.int .i64 x127, .slice p917 rs919.length c918]) Tryd.isAgg28 Tryd.sizeOf28 rfl rfl (row_cells (S1198.get (k := 1) rfl))) ?_
      obtain ⟨b1201, h1202, hd1203⟩ := bnd_some hd923
      refine AO.c rfl (o_call (vs := [.agg [.int .i64 x127, .slice p917 rs919.length c918].toArray]) rfl Tryd.call26 (W_spec_l04Is fu G1199 x127 p917 c918 T920 rs919 tT920 (S1198.oview (k := 2) rfl Bo916 (tc_len1 tT920 rfl)) (S1198.oviewT (k := 3) rfl sT920) b1201 h1202)) ?_
      refine AO.p rfl (p_not rfl) ?_
      refine AO.nil ?_
      refine AX.cond rfl (fun c1205 => ?_) (fun c1205 => ?_)
      · have hd1206 := bif_t c1205 hd1203
        refine AX.seq ?_
        refine AX.region ?_
        refine AO.p rfl (p_build2 (vs := []) (cs := [.int .i64 0, .slice none 0 0]) Tryd.underlying28 rfl rfl rfl Tryd.sizeOf2 Tryd.sizeOf22 Tryd.zeroValue28 rfl rfl rfl rfl rfl) ?_
        obtain ⟨G1207, hHG1207, S1208⟩ := S1198.set (k := 0) (i := i101) rfl (AObj.row false ([.int .i64 0, .slice none 0 0]))
        refine AO.s (s_storeAll (vs := [.int .i64 0, .slice none 0 0]) Tryd.sizeOf28 rfl rfl (ones_list rfl) (S1198.get (k := 0) rfl) rfl rfl hHG1207) ?_
        refine AO.p rfl (p_assign rfl) ?_
        refine AO.nil ?_
        refine AX.ret ?_
        obtain ⟨rfl, z1209⟩ := Prod.mk.inj (some_inj hd1206)
        obtain ⟨rfl, rfl⟩ := Prod.mk.inj z1209
        have S1211 : St [] H G1207 (tseg [] :: _) := S1208.nilseg 0
        have S1212 : St [] H G1207 (oseg none (tcells []) :: _) := S1211.nilseg 0
        have S1213 := S1212.keep 2
        exact ⟨.inr rfl, _, res2 rfl (rv_cell (vs := [.int .i64 0, .slice none 0 0]) rfl Tryd.isAgg28 Tryd.sizeOf28 rfl (row_cells (S1208.get (k := 0) rfl))) (rv_tmp rfl), none, 0, [], rfl, S1213, Sb.nil, rfl, TSb.nil⟩
      · have hd1214 := bif_f c1205 hd1203
        refine AX.skip ?_
        refine AX.seq ?_
        refine AX.region ?_
        refine AO.c rfl (s_loadN (vs := [.int .i64 x127, .slice p917 rs919.length c918]) Tryd.isAgg28 Tryd.sizeOf28 rfl rfl (row_cells (S1198.get (k := 1) rfl))) ?_
        obtain ⟨G1215, hHG1215, S1216⟩ := S1198.set (k := 0) (i := i101) rfl (AObj.row false ([.int .i64 x127, .slice p917 rs919.length c918]))
        refine AO.s (s_storeAll (vs := [.int .i64 x127, .slice p917 rs919.length c918]) Tryd.sizeOf28 rfl rfl (ones_list rfl) (S1198.get (k := 0) rfl) rfl rfl hHG1215) ?_
        refine AO.p rfl (p_assign rfl) ?_
        refine AO.nil ?_
        refine AX.ret ?_
        obtain ⟨rfl, z1217⟩ := Prod.mk.inj (some_inj hd1214)
        obtain ⟨rfl, rfl⟩ := Prod.mk.inj z1217
        have S1219 := S1216.front 3 rfl
        have S1220 := S1219.front 3 rfl
        have S1221 := S1220.keep 2
        exact ⟨.inr rfl, _, res2 rfl (rv_cell (vs := [.int .i64 x127, .slice p917 rs919.length c918]) rfl Tryd.isAgg28 Tryd.sizeOf28 rfl (row_cells (S1216.get (k := 0) rfl))) (rv_tmp rfl), p917, c918, T920, rfl, S1221, Bo916, tT920, sT920⟩

set_option maxHeartbeats 4000000 in
theorem W_impl_ParseSquare (fu : Nat) (H : AHeap) (a0 : ByteArray) (r0 : Int) (r1 : List (List Int)) (r2 : Int) (hd : D_impl_ParseSquare fu a0 = some (r0, r1, r2)) : ∃ v G', ACall Tryd.prog 18 [.string a0] H v G' ∧ ∃ (p_r1 : Option Addr) (c_r1 : Nat) (T_r1 : Tb), (v = .tuple #[.agg [.int .i64 r0, .slice p_r1 r1.length c_r1].toArray, .int .i64 r2]) ∧ St [] H G' [oseg p_r1 (tcells T_r1), tseg T_r1] ∧ Sb p_r1 r1.length c_r1 1 ∧ trows T_r1 = r1 ∧ TSb T_r1 := by
  refine ACall.bodyX (args := [.string a0]) (N := 90) [(0, .string a0)] (fun v G' => ∃ (p_r1 : Option Addr) (c_r1 : Nat) (T_r1 : Tb), (v = .tuple #[.agg [.int .i64 r0, .slice p_r1 r1.length c_r1].toArray, .int .i64 r2]) ∧ St [] H G' [oseg p_r1 (tcells T_r1), tseg T_r1] ∧ Sb p_r1 r1.length c_r1 1 ∧ trows T_r1 = r1 ∧ TSb T_r1) Tryd.func18 rfl rfl rfl rfl ?_
  unfold D_impl_ParseSquare at hd
  have S0 : St [] H H [] := St.nil H
  refine AX.seq ?_
  refine AX.region ?_
  obtain ⟨G100, i101, hii101, hHG100, S102⟩ := S0.new (AObj.row false ([.int .i64 0, .slice none 0 0]))
  refine AO.c rfl (s_alloc (i := i101) (cs := [.int .i64 0, .slice none 0 0]) Tryd.zeroValue28 rfl rfl hii101 hHG100) ?_
  refine AO.p rfl (p_assign rfl) ?_
  refine AO.nil ?_
  refine AX.seq ?_
  refine AX.region ?_
  refine AO.p rfl (p_move rfl) ?_
  obtain ⟨⟨s104, s105, b106⟩, h107, hd108⟩ := bnd_some hd
  refine AO.c rfl (o_call (vs := [.string a0, .string (⟨#[58]⟩ : ByteArray)]) rfl Tryd.call43 (W_strings_Cut fu G100 a0 (⟨#[58]⟩ : ByteArray) s104 s105 b106 h107)) ?_
  refine AO.p rfl (p_move rfl) ?_
  refine AO.p rfl (p_extract rfl rfl) ?_
  refine AO.p rfl (p_extract rfl rfl) ?_
  refine AO.p rfl (p_extract rfl rfl) ?_
  refine AO.p rfl (p_assign rfl) ?_
  refine AO.p rfl (p_assign rfl) ?_
  refine AO.p rfl (p_assign rfl) ?_
  refine AO.nil ?_
  refine AX.seq ?_
  refine AX.region ?_
  refine AO.p rfl (p_move rfl) ?_
  obtain ⟨x110, h111, hd112⟩ := bnd_some hd108
  refine AO.c rfl (o_call (vs := [.string s104]) rfl Tryd.call44 (W_impl_readNumber fu G100 s104 x110 h111)) ?_
  refine AO.p rfl (p_build2 (vs := [(0, .int .i64 x110)]) (cs := [.int .i64 x110, .slice none 0 0]) Tryd.underlying28 rfl rfl rfl Tryd.sizeOf2 Tryd.sizeOf22 Tryd.zeroValue28 rfl rfl rfl rfl rfl) ?_
  obtain ⟨G114, i115, hii115, hHG114, S116⟩ := S102.new (AObj.row false ([.int .i64 0, .slice none 0 0]))
  refine AO.c rfl (s_alloc (i := i115) (cs := [.int .i64 0, .slice none 0 0]) Tryd.zeroValue28 rfl rfl hii115 hHG114) ?_
  obtain ⟨G118, hHG118, S119⟩ := S116.set (k := 0) (i := i115) rfl (AObj.row false ([.int .i64 x110, .slice none 0 0]))
  refine AO.s (s_storeAll (vs := [.int .i64 x110, .slice none 0 0]) Tryd.sizeOf28 rfl rfl (ones_list rfl) (S116.get (k := 0) rfl) rfl rfl hHG118) ?_
  refine AO.nil ?_
  refine AX.seq ?_
  refine AX.seq ?_
  refine AX.region ?_
  refine AO.p rfl (p_move rfl) ?_
  obtain ⟨ss120, h121, hd122⟩ := bnd_some hd112
  obtain ⟨_, G128, hc127, p123, c124, rfl, S129, B126⟩ := W_strings_Split fu G118 s105 (⟨#[59]⟩ : ByteArray) ss120 h121
  have S130 := S119.call S129
  refine AO.c rfl (o_call (vs := [.string s105, .string (⟨#[59]⟩ : ByteArray)]) rfl Tryd.call45 hc127) ?_
  refine AO.p rfl (p_len_slice rfl Tryd.underlying63) ?_
  refine AO.p rfl (p_move rfl) ?_
  refine AO.nil ?_
  obtain ⟨r2813, hl2814, hd2815⟩ := bnd_some hd122
  refine AX.cutS (fun t' H' => ∃ (rs2811 : List (List Int)) (p2809 : Option Addr) (c2810 : Nat) (T2812 : Tb), .inl rs2811 = r2813 ∧ St [] H H' [[(i101, AObj.row false ([.int .i64 0, .slice none 0 0]))], [(i115, AObj.row false ([.int .i64 x110, .slice p2809 rs2811.length c2810]))], oseg p2809 (tcells T2812), tseg T2812] ∧ trows T2812 = rs2811 ∧ TSb T2812 ∧ Sb p2809 (rs2811.length) c2810 1 ∧ Am.Sub [(0, .string a0), (2, .pointer (some ⟨i101, 0, none⟩)), (7, .pointer (some ⟨i115, 0, none⟩))] t') ?_ ?_
  · refine AX.block ?_
    refine AX.loopF (fun s' t' H' => ∃ (rs1895 : List (List Int)) (x1898 : Int) (p1893 : Option Addr) (c1894 : Nat) (T1896 : Tb), (rs1895, x1898) = s' ∧ St [] H H' [[(i101, AObj.row false ([.int .i64 0, .slice none 0 0]))], [(i115, AObj.row false ([.int .i64 x110, .slice p1893 rs1895.length c1894]))], oseg p1893 (tcells T1896), tseg T1896, oseg p123 (sts ss120)] ∧ trows T1896 = rs1895 ∧ TSb T1896 ∧ Sb p1893 (rs1895.length) c1894 1 ∧ Am.Sub [(0, .string a0), (2, .pointer (some ⟨i101, 0, none⟩)), (7, .pointer (some ⟨i115, 0, none⟩)), (29, .slice p123 ss120.length c124), (30, .int .i64 ((ss120.length : Nat) : Int)), (31, .int .i64 x1898)] t') hl2814 ?_ ?_
    · skip
      have S2816 := S130.front 0 rfl
      have S2817 : St [] H G128 (tseg [] :: _) := S2816.nilseg 0
      have S2818 : St [] H G128 (oseg none (tcells []) :: _) := S2817.nilseg 0
      have S2819 := S2818.front 3 rfl
      have S2820 := S2819.front 4 rfl
      exact ⟨[], 0, none, 0, [], rfl, S2820, rfl, TSb.nil, Sb.nil, Sub.cons' rfl rfl (Sub.cons' rfl rfl (Sub.cons' rfl rfl (Sub.cons' rfl rfl (Sub.cons' rfl rfl (Sub.cons' rfl rfl (Sub.nil _))))))⟩
    · rintro n2821 _ t' G2825 ⟨rs1895, x1898, p1893, c1894, T1896, rfl, S2824, tT1896, sT1896, Bo1892, hsub2826⟩ o2827 ho2822 hk2823
      refine AX.sub hsub2826 ?_
      unfold D_impl_ParseSquare_s0 at ho2822
      refine AX.seq ?_
      refine AX.region ?_
      refine AO.p rfl (p_lss rfl rfl) ?_
      refine AO.nil ?_
      refine AX.seq ?_
      refine AX.cond rfl (fun c2828 => ?_) (fun c2828 => ?_)
      · have hd2829 := bif_t c2828 ho2822
        refine AX.skip ?_
        refine AX.seq ?_
        refine AX.block ?_
        refine AX.seq ?_
        refine AX.region ?_
        obtain ⟨k2830, hd2831⟩ := chk_some hd2829
        refine AO.p rfl (s_indexV (q := x1898.toNat) Tryd.underlying63 Tryd.sizeOf9 rfl (B126.at (inR_pos k2830)) rfl k2830 (z1 _)) ?_
        refine AO.c rfl (s_load Tryd.isAgg9 rfl (row_cell (S2824.oat (k := 4) rfl (B126.at (inR_pos k2830))) (sts_get (lt_len rfl (inR_lt k2830))))) ?_
        refine AO.p rfl (p_assign rfl) ?_
        refine AO.nil ?_
        refine AX.seq ?_
        refine AX.region ?_
        obtain ⟨G2832, i2833, hii2833, hHG2832, S2834⟩ := S2824.new (AObj.row false (ints []))
        refine AO.c rfl (s_build0 (i := i2833) Tryd.underlying66 Tryd.sizeOf2 hii2833 hHG2832) ?_
        refine AO.p rfl (p_assign rfl) ?_
        refine AO.nil ?_
        refine AX.seq ?_
        refine AX.seq ?_
        refine AX.region ?_
        refine AO.p rfl (p_move rfl) ?_
        obtain ⟨ss2836, h2837, hd2838⟩ := bnd_some hd2831
        obtain ⟨_, G2844, hc2843, p2839, c2840, rfl, S2845, B2842⟩ := W_strings_Split fu G2832 (rds ss120 x1898.toNat) (⟨#[44]⟩ : ByteArray) ss2836 h2837
        have S2846 := S2834.call S2845
        refine AO.c rfl (o_call (vs := [.string (rds ss120 x1898.toNat), .string (⟨#[44]⟩ : ByteArray)]) rfl Tryd.call45 hc2843) ?_
        refine AO.p rfl (p_len_slice rfl Tryd.underlying63) ?_
        refine AO.p rfl (p_move rfl) ?_
        refine AO.nil ?_
        obtain ⟨r3484, hl3485, hd3486⟩ := bnd_some hd2838
        refine AX.cutS (fun t' H' => ∃ (xs3482 : List Int) (p3480 : Option Addr) (c3481 : Nat), .inl xs3482 = r3484 ∧ St [] H H' [[(i101, AObj.row false ([.int .i64 0, .slice none 0 0]))], [(i115, AObj.row false ([.int .i64 x110, .slice p1893 rs1895.length c1894]))], oseg p1893 (tcells T1896), tseg T1896, oseg p3480 (ints xs3482), oseg p123 (sts ss120)] ∧ Sb p3480 (xs3482.length) c3481 1 ∧ Am.Sub [(0, .string a0), (2, .pointer (some ⟨i101, 0, none⟩)), (7, .pointer (some ⟨i115, 0, none⟩)), (10, .slice p3480 xs3482.length c3481), (29, .slice p123 ss120.length c124), (30, .int .i64 ((ss120.length : Nat) : Int)), (31, .int .i64 x1898)] t') ?_ ?_
        · refine AX.block ?_
          refine AX.loopF (fun s' t' H' => ∃ (xs3271 : List Int) (x3274 : Int) (p3269 : Option Addr) (c3270 : Nat), (xs3271, x3274) = s' ∧ St [] H H' [[(i101, AObj.row false ([.int .i64 0, .slice none 0 0]))], [(i115, AObj.row false ([.int .i64 x110, .slice p1893 rs1895.length c1894]))], oseg p1893 (tcells T1896), tseg T1896, oseg p3269 (ints xs3271), oseg p123 (sts ss120), oseg p2839 (sts ss2836)] ∧ Sb p3269 (xs3271.length) c3270 1 ∧ Am.Sub [(0, .string a0), (2, .pointer (some ⟨i101, 0, none⟩)), (7, .pointer (some ⟨i115, 0, none⟩)), (10, .slice p3269 xs3271.length c3270), (29, .slice p123 ss120.length c124), (30, .int .i64 ((ss120.length : Nat) : Int)), (31, .int .i64 x1898), (37, .slice p2839 ss2836.length c2840), (38, .int .i64 ((ss2836.length : Nat) : Int)), (39, .int .i64 x3274)] t') hl3485 ?_ ?_
          · skip
            have S3487 := S2846.front 0 rfl
            have S3488 := S3487.front 6 rfl
            have S3489 := S3488.front 2 rfl
            have S3490 := S3489.front 6 rfl
            have S3491 := S3490.front 6 rfl
            have S3492 := S3491.front 6 rfl
            have S3493 := S3492.front 6 rfl
            exact ⟨[], 0, (some (Addr.mk i2833 0 none)), 0, rfl, S3493, (Sb.lit (n := 0) (by decide)), Sub.cons' rfl rfl (Sub.cons' rfl rfl (Sub.cons' rfl rfl (Sub.cons' rfl rfl (Sub.cons' rfl rfl (Sub.cons' rfl rfl (Sub.cons' rfl rfl (Sub.cons' rfl rfl (Sub.cons' rfl rfl (Sub.cons' rfl rfl (Sub.nil _))))))))))⟩
          · rintro n3494 _ t' G3498 ⟨xs3271, x3274, p3269, c3270, rfl, S3497, Bo3268, hsub3499⟩ o3500 ho3495 hk3496
            refine AX.sub hsub3499 ?_
            unfold D_impl_ParseSquare_s1 at ho3495
            refine AX.seq ?_
            refine AX.region ?_
            refine AO.p rfl (p_lss rfl rfl) ?_
            refine AO.nil ?_
            refine AX.seq ?_
            refine AX.cond rfl (fun c3501 => ?_) (fun c3501 => ?_)
            · have hd3502 := bif_t c3501 ho3495
              refine AX.skip ?_
              refine AX.seq ?_
              refine AX.block ?_
              refine AX.seq ?_
              refine AX.region ?_
              obtain ⟨k3503, hd3504⟩ := chk_some hd3502
              refine AO.p rfl (s_indexV (q := x3274.toNat) Tryd.underlying63 Tryd.sizeOf9 rfl (B2842.at (inR_pos k3503)) rfl k3503 (z1 _)) ?_
              refine AO.c rfl (s_load Tryd.isAgg9 rfl (row_cell (S3497.oat (k := 6) rfl (B2842.at (inR_pos k3503))) (sts_get (lt_len rfl (inR_lt k3503))))) ?_
              refine AO.p rfl (p_assign rfl) ?_
              refine AO.nil ?_
              refine AX.seq ?_
              refine AX.region ?_
              refine AO.p rfl (p_assign rfl) ?_
              refine AO.nil ?_
              refine AX.seq ?_
              refine AX.seq ?_
              refine AX.region ?_
              refine AO.p rfl (p_move rfl) ?_
              obtain ⟨⟨s3505, s3506, b3507⟩, h3508, hd3509⟩ := bnd_some hd3504
              refine AO.c rfl (o_call (vs := [.string (rds ss2836 x3274.toNat), .string (⟨#[45]⟩ : ByteArray)]) rfl Tryd.call43 (W_strings_Cut fu G3498 (rds ss2836 x3274.toNat) (⟨#[45]⟩ : ByteArray) s3505 s3506 b3507 h3508)) ?_
              refine AO.p rfl (p_move rfl) ?_
              refine AO.p rfl (p_extract rfl rfl) ?_
              refine AO.p rfl (p_extract rfl rfl) ?_
              refine AO.p rfl (p_extract rfl rfl) ?_
              refine AO.p rfl (p_assign rfl) ?_
              refine AO.p rfl (p_assign rfl) ?_
              refine AO.p rfl (p_assign rfl) ?_
              refine AO.nil ?_
              refine AX.seq ?_
              refine AX.region ?_
              refine AO.p rfl (p_move rfl) ?_
              refine AO.nil ?_
              obtain ⟨r3591, hb3592, hd3593⟩ := bnd_some hd3509
              refine AX.cutS (fun t' H' => ∃ (x3588 : Int), .inl x3588 = r3591 ∧ St [] H H' [[(i101, AObj.row false ([.int .i64 0, .slice none 0 0]))], [(i115, AObj.row false ([.int .i64 x110, .slice p1893 rs1895.length c1894]))], oseg p1893 (tcells T1896), tseg T1896, oseg p3269 (ints xs3271), oseg p123 (sts ss120), oseg p2839 (sts ss2836)] ∧ Am.Sub [(0, .string a0), (2, .pointer (some ⟨i101, 0, none⟩)), (7, .pointer (some ⟨i115, 0, none⟩)), (10, .slice p3269 xs3271.length c3270), (13, .int .i64 x3588), (29, .slice p123 ss120.length c124), (30, .int .i64 ((ss120.length : Nat) : Int)), (31, .int .i64 x1898), (37, .slice p2839 ss2836.length c2840), (38, .int .i64 ((ss2836.length : Nat) : Int)), (39, .int .i64 x3274)] t') ?_ ?_
              · skip
                refine AX.cond rfl (fun c3594 => ?_) (fun c3594 => ?_)
                · have hd3595 := bif_t c3594 hb3592
                  refine AX.seq ?_
                  refine AX.region ?_
                  refine AO.p rfl (p_move rfl) ?_
                  obtain ⟨x3596, h3597, hd3598⟩ := bnd_some hd3595
                  refine AO.c rfl (o_call (vs := [.string s3505]) rfl Tryd.call44 (W_impl_readNumber fu G3498 s3505 x3596 h3597)) ?_
                  refine AO.p rfl (p_move rfl) ?_
                  obtain ⟨x3600, h3601, hd3602⟩ := bnd_some hd3598
                  refine AO.c rfl (o_call (vs := [.string s3506]) rfl Tryd.call44 (W_impl_readNumber fu G3498 s3506 x3600 h3601)) ?_
                  refine AO.p rfl (p_assign rfl) ?_
                  refine AO.p rfl (p_assign rfl) ?_
                  refine AO.nil ?_
                  refine AX.seq ?_
                  obtain ⟨r3622, hb3623, hd3624⟩ := bnd_some hd3602
                  refine AX.cut (fun t' H' => ∃ (b3621 : Bool), b3621 = r3622 ∧ St [] H H' [[(i101, AObj.row false ([.int .i64 0, .slice none 0 0]))], [(i115, AObj.row false ([.int .i64 x110, .slice p1893 rs1895.length c1894]))], oseg p1893 (tcells T1896), tseg T1896, oseg p3269 (ints xs3271), oseg p123 (sts ss120), oseg p2839 (sts ss2836)] ∧ Am.Sub [(0, .string a0), (2, .pointer (some ⟨i101, 0, none⟩)), (7, .pointer (some ⟨i115, 0, none⟩)), (10, .slice p3269 xs3271.length c3270), (17, .int .i64 x3596), (18, .int .i64 x3600), (29, .slice p123 ss120.length c124), (30, .int .i64 ((ss120.length : Nat) : Int)), (31, .int .i64 x1898), (37, .slice p2839 ss2836.length c2840), (38, .int .i64 ((ss2836.length : Nat) : Int)), (39, .int .i64 x3274), (61, .bool b3621)] t') ?_ ?_
                  · skip
                    refine AX.region ?_
                    refine AO.p rfl (p_move rfl) ?_
                    obtain ⟨b3625, h3626, hd3627⟩ := bnd_some hb3623
                    refine AO.c rfl (o_call (vs := [.int .i64 x3596, .int .i64 0, .int .i64 13]) rfl Tryd.call46 (W_impl_between fu G3498 x3596 0 13 b3625 h3626)) ?_
                    refine AO.p rfl (p_not rfl) ?_
                    refine AO.p rfl (p_move rfl) ?_
                    refine AO.cases (d := 57) rfl (fun c3629 => ?_) (fun c3629 => ?_)
                    · have hd3630 := bif_t c3629 hd3627
                      refine AO.gn rfl rfl rfl ?_
                      refine AO.gn rfl rfl rfl ?_
                      refine AO.gn rfl rfl rfl ?_
                      refine AO.p rfl (p_pickT rfl rfl) ?_
                      refine AO.nil ?_
                      have S3631 := S3497.front 6 rfl
                      have S3632 := S3631.front 6 rfl
                      have S3633 := S3632.front 6 rfl
                      have S3634 := S3633.front 6 rfl
                      have S3635 := S3634.front 6 rfl
                      have S3636 := S3635.front 6 rfl
                      have S3637 := S3636.front 6 rfl
                      exact ⟨true, (some_inj hd3630), S3637, Sub.cons' rfl rfl (Sub.cons' rfl rfl (Sub.cons' rfl rfl (Sub.cons' rfl rfl (Sub.cons' rfl rfl (Sub.cons' rfl rfl (Sub.cons' rfl rfl (Sub.cons' rfl rfl (Sub.cons' rfl rfl (Sub.cons' rfl rfl (Sub.cons' rfl rfl (Sub.cons' rfl rfl (Sub.cons' rfl rfl (Sub.nil _)))))))))))))⟩
                    · have hd3638 := bif_f c3629 hd3627
                      refine AO.gp rfl rfl rfl (p_move rfl) ?_
                      obtain ⟨b3639, h3640, hd3641⟩ := bnd_some hd3638
                      refine AO.gc rfl rfl rfl (o_call (vs := [.int .i64 x3600, .int .i64 0, .int .i64 13]) rfl Tryd.call46 (W_impl_between fu G3498 x3600 0 13 b3639 h3640)) ?_
                      refine AO.gp rfl rfl rfl (p_not rfl) ?_
                      refine AO.p rfl (p_pickF rfl rfl) ?_
                      refine AO.nil ?_
                      have S3643 := S3497.front 6 rfl
                      have S3644 := S3643.front 6 rfl
                      have S3645 := S3644.front 6 rfl
                      have S3646 := S3645.front 6 rfl
                      have S3647 := S3646.front 6 rfl
                      have S3648 := S3647.front 6 rfl
                      have S3649 := S3648.front 6 rfl
                      exact ⟨(!b3639), (some_inj hd3641), S3649, Sub.cons' rfl rfl (Sub.cons' rfl rfl (Sub.cons' rfl rfl (Sub.cons' rfl rfl (Sub.cons' rfl rfl (Sub.cons' rfl rfl (Sub.cons' rfl rfl (Sub.cons' rfl rfl (Sub.cons' rfl rfl (Sub.cons' rfl rfl (Sub.cons' rfl rfl (Sub.cons' rfl rfl (Sub.cons' rfl rfl (Sub.nil _)))))))))))))⟩
                  · rintro t' G3651 ⟨b3621, rfl, S3650, hsub3652⟩
                    refine AX.sub hsub3652 ?_
                    refine AX.cond rfl (fun c3653 => ?_) (fun c3653 => ?_)
                    · have hd3654 := bif_t c3653 hd3624
                      refine AX.seq ?_
                      refine AX.region ?_
                      refine AO.p rfl (p_build2 (vs := []) (cs := [.int .i64 0, .slice none 0 0]) Tryd.underlying28 rfl rfl rfl Tryd.sizeOf2 Tryd.sizeOf22 Tryd.zeroValue28 rfl rfl rfl rfl rfl) ?_
                      obtain ⟨G3655, hHG3655, S3656⟩ := S3650.set (k := 0) (i := i101) rfl (AObj.row false ([.int .i64 0, .slice none 0 0]))
                      refine AO.s (s_storeAll (vs := [.int .i64 0, .slice none 0 0]) Tryd.sizeOf28 rfl rfl (ones_list rfl) (S3650.get (k := 0) rfl) rfl rfl hHG3655) ?_
                      refine AO.p rfl (p_assign rfl) ?_
                      refine AO.nil ?_
                      refine AX.ret ?_
                      have z3657 : _ = r3591 := some_inj hd3654
                      subst z3657
                      obtain rfl := some_inj hd3593
                      have z3658 : _ = r3484 := hk3496
                      subst z3658
                      obtain rfl := some_inj hd3486
                      have z3659 : _ = r2813 := hk2823
                      subst z3659
                      obtain ⟨rfl, z3660⟩ := Prod.mk.inj (some_inj hd2815)
                      obtain ⟨rfl, rfl⟩ := Prod.mk.inj z3660
                      have S3662 : St [] H G3655 (tseg [] :: _) := S3656.nilseg 0
                      have S3663 : St [] H G3655 (oseg none (tcells []) :: _) := S3662.nilseg 0
                      have S3664 := S3663.keep 2
                      exact ⟨.inr rfl, _, res2 rfl (rv_cell (vs := [.int .i64 0, .slice none 0 0]) rfl Tryd.isAgg28 Tryd.sizeOf28 rfl (row_cells (S3656.get (k := 0) rfl))) (rv_tmp rfl), none, 0, [], rfl, S3664, Sb.nil, rfl, TSb.nil⟩
                    · have hd3665 := bif_f c3653 hd3624
                      refine AX.skip ?_
                      refine AX.region ?_
                      refine AO.p rfl (p_move rfl) ?_
                      obtain ⟨k3666, hd3667⟩ := chk_some hd3665
                      refine AO.p rfl (p_mulE rfl rfl k3666) ?_
                      refine AO.p rfl (p_move rfl) ?_
                      obtain ⟨k3668, hd3669⟩ := chk_some hd3667
                      refine AO.p rfl (p_addE rfl rfl k3668) ?_
                      refine AO.p rfl (p_assign rfl) ?_
                      refine AO.nil ?_
                      have S3670 := S3650.front 6 rfl
                      have S3671 := S3670.front 6 rfl
                      have S3672 := S3671.front 6 rfl
                      have S3673 := S3672.front 6 rfl
                      have S3674 := S3673.front 6 rfl
                      have S3675 := S3674.front 6 rfl
                      have S3676 := S3675.front 6 rfl
                      exact ⟨(14 * x3596 + x3600), (some_inj hd3669), S3676, Sub.cons' rfl rfl (Sub.cons' rfl rfl (Sub.cons' rfl rfl (Sub.cons' rfl rfl (Sub.cons' rfl rfl (Sub.cons' rfl rfl (Sub.cons' rfl rfl (Sub.cons' rfl rfl (Sub.cons' rfl rfl (Sub.cons' rfl rfl (Sub.cons' rfl rfl (Sub.nil _)))))))))))⟩
                · have hd3677 := bif_f c3594 hb3592
                  refine AX.skip ?_
                  have S3678 := S3497.front 6 rfl
                  have S3679 := S3678.front 6 rfl
                  have S3680 := S3679.front 6 rfl
                  have S3681 := S3680.front 6 rfl
                  have S3682 := S3681.front 6 rfl
                  have S3683 := S3682.front 6 rfl
                  have S3684 := S3683.front 6 rfl
                  exact ⟨(-1), (some_inj hd3677), S3684, Sub.cons' rfl rfl (Sub.cons' rfl rfl (Sub.cons' rfl rfl (Sub.cons' rfl rfl (Sub.cons' rfl rfl (Sub.cons' rfl rfl (Sub.cons' rfl rfl (Sub.cons' rfl rfl (Sub.cons' rfl rfl (Sub.cons' rfl rfl (Sub.cons' rfl rfl (Sub.nil _)))))))))))⟩
              · rintro t' G3686 ⟨x3588, rfl, S3685, hsub3687⟩
                refine ⟨_, hsub3687, ?_⟩
                refine AX.region ?_
                refine AO.p rfl (p_move rfl) ?_
                refine AO.p rfl (p_move rfl) ?_
                obtain ⟨G3688, i3689, hii3689, hHG3688, S3690⟩ := S3685.new (AObj.row false (ints [x3588]))
                refine AO.c rfl (s_buildInts (i := i3689) (vs := [(0, .int .i64 x3588)]) (xs := [x3588]) Tryd.underlying66 Tryd.sizeOf2 Tryd.zeroValue2 rfl rfl (by decide) rfl rfl hii3689 hHG3688) ?_
                obtain ⟨k3692, hd3693⟩ := chk_some hd3593
                obtain ⟨p3694, c3695, G3696, haG3696, S3697, Bp3694⟩ := S3690.app (k := 5) rfl Bo3268 (ints [x3588]) 1 (ints_len1 rfl)
                have S3698 := S3697.cellsEq (k := 5) (us' := ints (xs3271 ++ [x3588])) (ints_app _ _) rfl
                have BS3698 : Sb p3694 ((xs3271 ++ [x3588]).length) c3695 1 := (show xs3271.length + 1 = (xs3271 ++ [x3588]).length from len_app (a := xs3271) (b := [x3588]) rfl rfl) ▸ Bp3694
                have S3699 := S3698.drop 0 rfl
                refine AO.c rfl (s_app (by_ := 8) (us := ints xs3271) (vs := ints [x3588]) Tryd.underlying66 Tryd.underlying66 Tryd.typeInfo2 Tryd.sizeOf2 Tryd.zeroValue2 rfl rfl rfl rfl rfl rfl rfl (S3690.buf (k := 5) rfl Bo3268 (ints_len1 rfl)) (S3690.oview (k := 0) rfl (Sb.lit (n := 1) (by decide)) (ints_len1 rfl)) (ints_len1 rfl) ints_one k3692 haG3696 (show xs3271.length + 1 = (xs3271 ++ [x3588]).length from len_app (a := xs3271) (b := [x3588]) rfl rfl)) ?_
                refine AO.p rfl (p_assign rfl) ?_
                refine AO.nil ?_
                refine AX.region ?_
                obtain ⟨k3700, hd3701⟩ := chk_some hd3693
                refine AO.p rfl (p_addE rfl rfl k3700) ?_
                refine AO.p rfl (p_move rfl) ?_
                refine AO.nil ?_
                obtain rfl := some_inj hd3701
                have S3703 := S3699.front 6 rfl
                have S3704 := S3703.front 6 rfl
                have S3705 := S3704.front 6 rfl
                have S3706 := S3705.front 6 rfl
                have S3707 := S3706.front 6 rfl
                have S3708 := S3707.front 6 rfl
                have S3709 := S3708.front 6 rfl
                exact ⟨((xs3271 ++ [x3588]), x3274 + 1), hk3496, (xs3271 ++ [x3588]), (x3274 + 1), p3694, c3695, rfl, S3709, BS3698, Sub.cons' rfl rfl (Sub.cons' rfl rfl (Sub.cons' rfl rfl (Sub.cons' rfl rfl (Sub.cons' rfl rfl (Sub.cons' rfl rfl (Sub.cons' rfl rfl (Sub.cons' rfl rfl (Sub.cons' rfl rfl (Sub.cons' rfl rfl (Sub.nil _))))))))))⟩
            · have hd3711 := bif_f c3501 ho3495
              refine AX.exit ?_
              obtain rfl := some_inj hd3711
              have S3712 := S3497.front 5 rfl
              have S3713 := S3712.front 5 rfl
              have S3714 := S3713.front 5 rfl
              have S3715 := S3714.front 5 rfl
              have S3716 := S3715.front 5 rfl
              have S3717 := S3716.front 5 rfl
              have S3718 := S3717.keep 6
              exact ⟨xs3271, p3269, c3270, hk3496, S3718, Bo3268, Sub.cons' rfl rfl (Sub.cons' rfl rfl (Sub.cons' rfl rfl (Sub.cons' rfl rfl (Sub.cons' rfl rfl (Sub.cons' rfl rfl (Sub.cons' rfl rfl (Sub.nil _)))))))⟩
        · rintro t' G3720 ⟨xs3482, p3480, c3481, rfl, S3719, Bo3479, hsub3721⟩
          refine ⟨_, hsub3721, ?_⟩
          refine AX.region ?_
          refine AO.p rfl (s_fieldAddr Tryd.underlying28 rfl Tryd.sizeOf22 (by decide) rfl rfl) ?_
          refine AO.c rfl (s_load Tryd.isAgg22 rfl (row_cell (S3719.get (k := 1) rfl) rfl)) ?_
          refine AO.p rfl (p_move rfl) ?_
          obtain ⟨G3722, i3723, hii3723, hHG3722, S3724⟩ := S3719.new (AObj.row false (tcells [(p3480, c3481, xs3482)]))
          have S3726 := (S3724.front 5 rfl).tone p3480 c3481 xs3482 rfl
          refine AO.c rfl (s_buildT1 (i := i3723) (X := [(p3480, c3481, xs3482)]) (n := xs3482.length) rfl Tryd.underlying22 Tryd.sizeOf66 Tryd.zeroValue66 rfl rfl hii3723 hHG3722) ?_
          obtain ⟨k3727, hd3728⟩ := chk_some hd3486
          obtain ⟨p3729, c3730, G3731, haG3731, S3732, Bp3729⟩ := S3726.app (k := 4) rfl Bo1892 (tcells [(p3480, c3481, xs3482)]) 1 (tc_len1 rfl rfl)
          have S3733 := S3732.cellsEq (k := 4) (us' := tcells (T1896 ++ [(p3480, c3481, xs3482)])) (tcells_app _ _).symm rfl
          have BS3733 : Sb p3729 ((rs1895 ++ [xs3482]).length) c3730 1 := (show rs1895.length + 1 = (rs1895 ++ [xs3482]).length from len_app (a := rs1895) (b := [xs3482]) rfl rfl) ▸ Bp3729
          have S3734 := S3733.front 0 rfl
          have S3735 := (S3734.front 5 rfl).tmerge
          have S3736 := S3735.drop 1 rfl
          refine AO.c rfl (s_app (by_ := 24) (us := tcells T1896) (vs := tcells [(p3480, c3481, xs3482)]) Tryd.underlying22 Tryd.underlying22 Tryd.typeInfo66 Tryd.sizeOf66 Tryd.zeroValue66 rfl rfl rfl rfl rfl rfl rfl (S3726.buf (k := 4) rfl Bo1892 (tc_len1 tT1896 rfl)) (S3726.oview (k := 1) rfl (Sb.lit (n := 1) (by decide)) (tc_len1 rfl rfl)) (tc_len1 rfl rfl) tcells_one k3727 haG3731 (show rs1895.length + 1 = (rs1895 ++ [xs3482]).length from len_app (a := rs1895) (b := [xs3482]) rfl rfl)) ?_
          refine AO.p rfl (s_fieldAddr Tryd.underlying28 rfl Tryd.sizeOf22 (by decide) rfl rfl) ?_
          obtain ⟨G3737, hHG3737, S3738⟩ := S3736.set (k := 2) (i := i115) rfl (AObj.row false ([.int .i64 x110, .slice p3729 ((rs1895 ++ [xs3482]).length) c3730]))
          refine AO.s (s_store Tryd.sizeOf22 rfl rfl rfl (S3736.get (k := 2) rfl) (Nat.le_of_ble_eq_true rfl) hHG3737) ?_
          refine AO.nil ?_
          refine AX.region ?_
          obtain ⟨k3739, hd3740⟩ := chk_some hd3728
          refine AO.p rfl (p_addE rfl rfl k3739) ?_
          refine AO.p rfl (p_move rfl) ?_
          refine AO.nil ?_
          obtain rfl := some_inj hd3740
          have S3742 := S3738.front 4 rfl
          have S3743 := S3742.front 1 rfl
          have S3744 := S3743.front 4 rfl
          have S3745 := S3744.front 4 rfl
          have S3746 := S3745.front 4 rfl
          exact ⟨((rs1895 ++ [xs3482]), x1898 + 1), hk2823, (rs1895 ++ [xs3482]), (x1898 + 1), p3729, c3730, (T1896 ++ [(p3480, c3481, xs3482)]), rfl, S3746, (trows_apps tT1896 rfl), (TSb.app sT1896 (TSb.one (sb_len rfl Bo3479))), BS3733, Sub.cons' rfl rfl (Sub.cons' rfl rfl (Sub.cons' rfl rfl (Sub.cons' rfl rfl (Sub.cons' rfl rfl (Sub.cons' rfl rfl (Sub.nil _))))))⟩
      · have hd3748 := bif_f c2828 ho2822
        refine AX.exit ?_
        obtain rfl := some_inj hd3748
        have S3749 := S2824.front 3 rfl
        have S3750 := S3749.front 3 rfl
        have S3751 := S3750.front 3 rfl
        have S3752 := S3751.front 3 rfl
        have S3753 := S3752.keep 4
        exact ⟨rs1895, p1893, c1894, T1896, hk2823, S3753, tT1896, sT1896, Bo1892, Sub.cons' rfl rfl (Sub.cons' rfl rfl (Sub.cons' rfl rfl (Sub.nil _)))⟩
  · rintro t' G3755 ⟨rs2811, p2809, c2810, T2812, rfl, S3754, tT2812, sT2812, Bo2808, hsub3756⟩
    refine ⟨_, hsub3756, ?_⟩
    refine AX.seq ?_
    obtain ⟨r3772, hb3773, hd3774⟩ := bnd_some hd2815
    refine AX.cut (fun t' H' => ∃ (b3771 : Bool), b3771 = r3772 ∧ St [] H H' [[(i101, AObj.row false ([.int .i64 0, .slice none 0 0]))], [(i115, AObj.row false ([.int .i64 x110, .slice p2809 rs2811.length c2810]))], oseg p2809 (tcells T2812), tseg T2812] ∧ Am.Sub [(2, .pointer (some ⟨i101, 0, none⟩)), (7, .pointer (some ⟨i115, 0, none⟩)), (87, .bool b3771)] t') ?_ ?_
    · skip
      refine AX.region ?_
      refine AO.c rfl (s_loadN (vs := [.int .i64 x110, .slice p2809 rs2811.length c2810]) Tryd.isAgg28 Tryd.sizeOf28 rfl rfl (row_cells (S3754.get (k := 1) rfl))) ?_
      obtain ⟨b3775, h3776, hd3777⟩ := bnd_some hb3773
      refine AO.c rfl (o_call (vs := [.agg [.int .i64 x110, .slice p2809 rs2811.length c2810].toArray]) rfl Tryd.call29 (W_impl_IsSquare fu G3755 x110 p2809 c2810 T2812 rs2811 tT2812 (S3754.oview (k := 2) rfl Bo2808 (tc_len1 tT2812 rfl)) (S3754.oviewT (k := 3) rfl sT2812) b3775 h3776)) ?_
      refine AO.p rfl (p_not rfl) ?_
      refine AO.p rfl (p_move rfl) ?_
      refine AO.cases (d := 82) rfl (fun c3779 => ?_) (fun c3779 => ?_)
      · have hd3780 := bif_t c3779 hd3777
        refine AO.gn rfl rfl rfl ?_
        refine AO.gn rfl rfl rfl ?_
        refine AO.gn rfl rfl rfl ?_
        refine AO.gn rfl rfl rfl ?_
        refine AO.p rfl (p_pickT rfl rfl) ?_
        refine AO.nil ?_
        have S3781 := S3754.front 3 rfl
        have S3782 := S3781.front 3 rfl
        have S3783 := S3782.front 3 rfl
        have S3784 := S3783.front 3 rfl
        exact ⟨true, (some_inj hd3780), S3784, Sub.cons' rfl rfl (Sub.cons' rfl rfl (Sub.cons' rfl rfl (Sub.nil _)))⟩
      · have hd3785 := bif_f c3779 hd3777
        refine AO.gc rfl rfl rfl (s_loadN (vs := [.int .i64 x110, .slice p2809 rs2811.length c2810]) Tryd.isAgg28 Tryd.sizeOf28 rfl rfl (row_cells (S3754.get (k := 1) rfl))) ?_
        obtain ⟨s3786, h3787, hd3788⟩ := bnd_some hd3785
        refine AO.gc rfl rfl rfl (o_call (vs := [.agg [.int .i64 x110, .slice p2809 rs2811.length c2810].toArray]) rfl Tryd.call30 (W_impl_Square_text fu G3755 x110 p2809 c2810 T2812 rs2811 tT2812 (S3754.oview (k := 2) rfl Bo2808 (tc_len1 tT2812 rfl)) (S3754.oviewT (k := 3) rfl sT2812) s3786 h3787)) ?_
        refine AO.gp rfl rfl rfl (p_move rfl) ?_
        refine AO.gp rfl rfl rfl (p_neqS rfl rfl) ?_
        refine AO.p rfl (p_pickF rfl rfl) ?_
        refine AO.nil ?_
        have S3790 := S3754.front 3 rfl
        have S3791 := S3790.front 3 rfl
        have S3792 := S3791.front 3 rfl
        have S3793 := S3792.front 3 rfl
        exact ⟨(!((s3786 : ByteArray).toList == (a0 : ByteArray).toList)), (some_inj hd3788), S3793, Sub.cons' rfl rfl (Sub.cons' rfl rfl (Sub.cons' rfl rfl (Sub.nil _)))⟩
    · rintro t' G3795 ⟨b3771, rfl, S3794, hsub3796⟩
      refine AX.sub hsub3796 ?_
      refine AX.cond rfl (fun c3797 => ?_) (fun c3797 => ?_)
      · have hd3798 := bif_t c3797 hd3774
        refine AX.seq ?_
        refine AX.region ?_
        refine AO.p rfl (p_build2 (vs := []) (cs := [.int .i64 0, .slice none 0 0]) Tryd.underlying28 rfl rfl rfl Tryd.sizeOf2 Tryd.sizeOf22 Tryd.zeroValue28 rfl rfl rfl rfl rfl) ?_
        obtain ⟨G3799, hHG3799, S3800⟩ := S3794.set (k := 0) (i := i101) rfl (AObj.row false ([.int .i64 0, .slice none 0 0]))
        refine AO.s (s_storeAll (vs := [.int .i64 0, .slice none 0 0]) Tryd.sizeOf28 rfl rfl (ones_list rfl) (S3794.get (k := 0) rfl) rfl rfl hHG3799) ?_
        refine AO.p rfl (p_assign rfl) ?_
        refine AO.nil ?_
        refine AX.ret ?_
        obtain ⟨rfl, z3801⟩ := Prod.mk.inj (some_inj hd3798)
        obtain ⟨rfl, rfl⟩ := Prod.mk.inj z3801
        have S3803 : St [] H G3799 (tseg [] :: _) := S3800.nilseg 0
        have S3804 : St [] H G3799 (oseg none (tcells []) :: _) := S3803.nilseg 0
        have S3805 := S3804.keep 2
        exact ⟨.inr rfl, _, res2 rfl (rv_cell (vs := [.int .i64 0, .slice none 0 0]) rfl Tryd.isAgg28 Tryd.sizeOf28 rfl (row_cells (S3800.get (k := 0) rfl))) (rv_tmp rfl), none, 0, [], rfl, S3805, Sb.nil, rfl, TSb.nil⟩
      · have hd3806 := bif_f c3797 hd3774
        refine AX.skip ?_
        refine AX.seq ?_
        refine AX.region ?_
        refine AO.c rfl (s_loadN (vs := [.int .i64 x110, .slice p2809 rs2811.length c2810]) Tryd.isAgg28 Tryd.sizeOf28 rfl rfl (row_cells (S3794.get (k := 1) rfl))) ?_
        obtain ⟨G3807, hHG3807, S3808⟩ := S3794.set (k := 0) (i := i101) rfl (AObj.row false ([.int .i64 x110, .slice p2809 rs2811.length c2810]))
        refine AO.s (s_storeAll (vs := [.int .i64 x110, .slice p2809 rs2811.length c2810]) Tryd.sizeOf28 rfl rfl (ones_list rfl) (S3794.get (k := 0) rfl) rfl rfl hHG3807) ?_
        refine AO.p rfl (p_assign rfl) ?_
        refine AO.nil ?_
        refine AX.ret ?_
        obtain ⟨rfl, z3809⟩ := Prod.mk.inj (some_inj hd3806)
        obtain ⟨rfl, rfl⟩ := Prod.mk.inj z3809
        have S3811 := S3808.front 3 rfl
        have S3812 := S3811.front 3 rfl
        have S3813 := S3812.keep 2
        exact ⟨.inr rfl, _, res2 rfl (rv_cell (vs := [.int .i64 x110, .slice p2809 rs2811.length c2810]) rfl Tryd.isAgg28 Tryd.sizeOf28 rfl (row_cells (S3808.get (k := 0) rfl))) (rv_tmp rfl), p2809, c2810, T2812, rfl, S3813, Bo2808, tT2812, sT2812⟩

end Go.Proofs.YtfiilgnebmidbaaDoor
