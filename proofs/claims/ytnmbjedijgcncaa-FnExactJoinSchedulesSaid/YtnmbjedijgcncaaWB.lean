/-
  The program computes that, printed by a program. No condition.
-/
import Derived.Test.YtnmbjedijgcncaaDB
import Derived.Test.YtnmbjedijgcncaaWL
import Derived.Test.YtnmbjedijgcncaaWM
import Derived.Test.YtnmbjedijgcncaaProg
import Derived.KernelRfl
namespace Go.Proofs.Ytnmbjedijgcncaa
open Go Go.RowKit Am
set_option linter.unusedVariables false
set_option linter.unusedSimpArgs false
set_option maxRecDepth 20000
set_option maxHeartbeats 4000000 in
theorem W_slices_IndexFunc_SSint64_Sint64 (fu : Nat) (H : AHeap) (p_a0 : Option Addr) (c_a0 : Nat) (T_a0 : Tb) (a0 : List (List Int)) (t_a0 : trows T_a0 = a0) (v_a0 : Vw H p_a0 a0.length c_a0 (tcells T_a0)) (w_a0 : TVw H T_a0) (f_a1 : FuncId) (fs_a1 cs_a1 : Array Value) (a1 : (List Int) → Option Bool) (hc_a1 : ∀ args w, (callFunc f_a1 args).run Try.prog w = .ok (.enter f_a1 args) w) (hq_a1 : ∀ H', ExtG H H' → ∀ (p_x0_a1 : Option Addr) (c_x0_a1 : Nat) (x0_a1 : List Int) (v_x0_a1 : Vw H' p_x0_a1 x0_a1.length c_x0_a1 (ints x0_a1)) (b : Bool), a1 x0_a1 = some b → ACall Try.prog f_a1 (fs_a1.toList ++ [.slice p_x0_a1 x0_a1.length c_x0_a1] ++ cs_a1.toList) H' (.bool b) H') (r0 : Int) (hd : D_slices_IndexFunc_SSint64_Sint64 fu a0 a1 = some r0) : ACall Try.prog 119 [.slice p_a0 a0.length c_a0, .func (.func f_a1) fs_a1 cs_a1] H (.int .i64 r0) H := by
  refine ACall.bodyP (N := 19) [(0, .slice p_a0 a0.length c_a0), (1, .func (.func f_a1) fs_a1 cs_a1)] Try.func119 rfl rfl rfl rfl ?_
  unfold D_slices_IndexFunc_SSint64_Sint64 at hd
  have S0 : St [] H H [] := St.nil H
  refine AX.seq ?_
  refine AX.region ?_
  refine AO.p rfl (p_assign rfl) ?_
  refine AO.nil ?_
  refine AX.seq ?_
  refine AX.seq ?_
  refine AX.region ?_
  refine AO.p rfl (p_move rfl) ?_
  refine AO.p rfl (p_len_slice rfl Try.underlying23) ?_
  refine AO.p rfl (p_move rfl) ?_
  refine AO.nil ?_
  obtain ⟨r162, hl163, hd164⟩ := bnd_some hd
  refine AX.cutS (fun t' H' => .inl () = r162 ∧ St [] H H' [] ∧ Am.Sub [] t') ?_ ?_
  · refine AX.block ?_
    refine AX.loopF (fun s' t' H' => ∃ (x141 : Int), x141 = s' ∧ St [] H H' [] ∧ Am.Sub [(0, .slice p_a0 a0.length c_a0), (1, .func (.func f_a1) fs_a1 cs_a1), (7, .int .i64 ((a0.length : Nat) : Int)), (8, .int .i64 x141)] t') hl163 ?_ ?_
    · skip
      exact ⟨0, rfl, S0, Sub.cons' rfl rfl (Sub.cons' rfl rfl (Sub.cons' rfl rfl (Sub.cons' rfl rfl (Sub.nil _))))⟩
    · rintro n165 _ t' G169 ⟨x141, rfl, S168, hsub170⟩ o171 ho166 hk167
      refine AX.sub hsub170 ?_
      unfold D_slices_IndexFunc_SSint64_Sint64_s0 at ho166
      refine AX.seq ?_
      refine AX.region ?_
      refine AO.p rfl (p_lss rfl rfl) ?_
      refine AO.nil ?_
      refine AX.seq ?_
      refine AX.cond rfl (fun c172 => ?_) (fun c172 => ?_)
      · have hd173 := bif_t c172 ho166
        refine AX.skip ?_
        refine AX.seq ?_
        refine AX.block ?_
        refine AX.seq ?_
        refine AX.region ?_
        refine AO.p rfl (p_move rfl) ?_
        refine AO.p rfl (p_assign rfl) ?_
        refine AO.nil ?_
        refine AX.seq ?_
        refine AX.region ?_
        refine AO.p rfl (p_move rfl) ?_
        refine AO.p rfl (p_move rfl) ?_
        refine AO.p rfl (p_move rfl) ?_
        obtain ⟨k174, hd175⟩ := chk_some hd173
        obtain ⟨p176, c177, e178, f179⟩ := tget t_a0 (lt_len rfl (inR_lt k174))
        refine AO.p rfl (s_indexV (q := off p_a0 + x141.toNat) Try.underlying23 Try.sizeOf31 rfl ((S168.view v_a0).p f179) rfl k174 (o1 _ _)) ?_
        refine AO.c rfl (s_load Try.isAgg31 rfl ((S168.view v_a0).get _ _ f179)) ?_
        obtain ⟨b180, h181, hd182⟩ := bnd_some hd175
        refine AO.c rfl (o_callV (vs := [.slice p176 ((rw_ a0 x141.toNat).length) c177]) rfl rfl hc_a1 (hq_a1 G169 S168.ext p176 c177 (rw_ a0 x141.toNat) (TVw.at (S168.tview w_a0) e178) b180 h181)) ?_
        refine AO.nil ?_
        refine AX.cond rfl (fun c183 => ?_) (fun c183 => ?_)
        · have hd184 := bif_t c183 hd182
          refine AX.seq ?_
          refine AX.region ?_
          refine AO.p rfl (p_move rfl) ?_
          refine AO.p rfl (p_assign rfl) ?_
          refine AO.nil ?_
          refine AX.ret ?_
          obtain rfl := some_inj hd184
          have z185 : _ = r162 := hk167
          subst z185
          obtain rfl := some_inj hd164
          exact ⟨.inr rfl, _, res1 rfl (rv_tmp rfl), rfl, (flatB_ok rfl), S168.hold⟩
        · have hd186 := bif_f c183 hd182
          refine AX.skip ?_
          refine AX.region ?_
          obtain ⟨k187, hd188⟩ := chk_some hd186
          refine AO.p rfl (p_addE rfl rfl k187) ?_
          refine AO.p rfl (p_move rfl) ?_
          refine AO.nil ?_
          obtain rfl := some_inj hd188
          exact ⟨x141 + 1, hk167, (x141 + 1), rfl, S168, Sub.cons' rfl rfl (Sub.cons' rfl rfl (Sub.cons' rfl rfl (Sub.cons' rfl rfl (Sub.nil _))))⟩
      · have hd190 := bif_f c172 ho166
        refine AX.exit ?_
        obtain rfl := some_inj hd190
        exact ⟨hk167, S168, Sub.nil _⟩
  · rintro t' G192 ⟨rfl, S191, hsub193⟩
    refine ⟨_, hsub193, ?_⟩
    refine AX.seq ?_
    refine AX.region ?_
    refine AO.p rfl (p_assign rfl) ?_
    refine AO.nil ?_
    refine AX.ret ?_
    obtain rfl := some_inj hd164
    exact ⟨.inr rfl, _, res1 rfl (rv_tmp rfl), rfl, (flatB_ok rfl), S191.hold⟩

set_option maxHeartbeats 4000000 in
theorem W_slices_ContainsFunc_SSint64_Sint64 (fu : Nat) (H : AHeap) (p_a0 : Option Addr) (c_a0 : Nat) (T_a0 : Tb) (a0 : List (List Int)) (t_a0 : trows T_a0 = a0) (v_a0 : Vw H p_a0 a0.length c_a0 (tcells T_a0)) (w_a0 : TVw H T_a0) (f_a1 : FuncId) (fs_a1 cs_a1 : Array Value) (a1 : (List Int) → Option Bool) (hc_a1 : ∀ args w, (callFunc f_a1 args).run Try.prog w = .ok (.enter f_a1 args) w) (hq_a1 : ∀ H', ExtG H H' → ∀ (p_x0_a1 : Option Addr) (c_x0_a1 : Nat) (x0_a1 : List Int) (v_x0_a1 : Vw H' p_x0_a1 x0_a1.length c_x0_a1 (ints x0_a1)) (b : Bool), a1 x0_a1 = some b → ACall Try.prog f_a1 (fs_a1.toList ++ [.slice p_x0_a1 x0_a1.length c_x0_a1] ++ cs_a1.toList) H' (.bool b) H') (r0 : Bool) (hd : D_slices_ContainsFunc_SSint64_Sint64 fu a0 a1 = some r0) : ACall Try.prog 69 [.slice p_a0 a0.length c_a0, .func (.func f_a1) fs_a1 cs_a1] H (.bool r0) H := by
  refine ACall.bodyP (N := 9) [(0, .slice p_a0 a0.length c_a0), (1, .func (.func f_a1) fs_a1 cs_a1)] Try.func69 rfl rfl rfl rfl ?_
  unfold D_slices_ContainsFunc_SSint64_Sint64 at hd
  have S0 : St [] H H [] := St.nil H
  refine AX.seq ?_
  refine AX.region ?_
  refine AO.p rfl (p_assign rfl) ?_
  refine AO.nil ?_
  refine AX.seq ?_
  refine AX.region ?_
  refine AO.p rfl (p_move rfl) ?_
  refine AO.p rfl (p_move rfl) ?_
  obtain ⟨x100, h101, hd102⟩ := bnd_some hd
  refine AO.c rfl (o_call (vs := [.slice p_a0 a0.length c_a0, .func (.func f_a1) fs_a1 cs_a1]) rfl Try.call119 (W_slices_IndexFunc_SSint64_Sint64 fu H p_a0 c_a0 T_a0 a0 t_a0 (S0.view v_a0) (S0.tview w_a0) f_a1 fs_a1 cs_a1 a1 hc_a1 (fun G' hG => hq_a1 G' (S0.ext.trans hG)) x100 h101)) ?_
  refine AO.p rfl (p_geq rfl rfl) ?_
  refine AO.p rfl (p_assign rfl) ?_
  refine AO.nil ?_
  refine AX.ret ?_
  obtain rfl := some_inj hd102
  exact ⟨.inr rfl, _, res1 rfl (rv_tmp rfl), rfl, (flatB_ok rfl), S0.hold⟩

set_option maxHeartbeats 4000000 in
theorem W_spec_l01Own (fu : Nat) (H : AHeap) (p_a0 : Option Addr) (c_a0 : Nat) (a0 : List Int) (v_a0 : Vw H p_a0 a0.length c_a0 (ints a0)) (r0 : List Int) (hd : D_spec_l01Own fu a0 = some r0) : ∃ v G', ACall Try.prog 122 [.slice p_a0 a0.length c_a0] H v G' ∧ ∃ (p_r0 : Option Addr) (c_r0 : Nat), (v = .slice p_r0 r0.length c_r0) ∧ St [] H G' [oseg p_r0 (ints r0)] ∧ Sb p_r0 r0.length c_r0 1 := by
  refine ACall.bodyX (args := [.slice p_a0 a0.length c_a0]) (N := 6) [(0, .slice p_a0 a0.length c_a0)] (fun v G' => ∃ (p_r0 : Option Addr) (c_r0 : Nat), (v = .slice p_r0 r0.length c_r0) ∧ St [] H G' [oseg p_r0 (ints r0)] ∧ Sb p_r0 r0.length c_r0 1) Try.func122 rfl rfl rfl rfl ?_
  unfold D_spec_l01Own at hd
  have S0 : St [] H H [] := St.nil H
  refine AX.seq ?_
  refine AX.region ?_
  refine AO.p rfl (p_assign rfl) ?_
  refine AO.nil ?_
  refine AX.seq ?_
  refine AX.region ?_
  obtain ⟨G100, i101, hii101, hHG100, S102⟩ := S0.new (AObj.row false (ints []))
  refine AO.c rfl (s_build0 (i := i101) Try.underlying31 Try.sizeOf2 hii101 hHG100) ?_
  refine AO.p rfl (p_move rfl) ?_
  obtain ⟨k104, hd105⟩ := chk_some hd
  obtain ⟨p106, c107, G108, haG108, S109, Bp106⟩ := S102.app (k := 0) rfl (Sb.lit (n := 0) (by decide)) (ints a0) a0.length (ints_len1 rfl)
  have S110 := S109.cellsEq (k := 0) (us' := ints a0) (List.nil_append _) rfl
  have BS110 : Sb p106 (a0.length) c107 1 := (show 0 + a0.length = a0.length from len_nilapp (b := a0) rfl) ▸ Bp106
  refine AO.c rfl (s_app (by_ := 8) (us := ints []) (vs := ints a0) Try.underlying31 Try.underlying31 Try.typeInfo2 Try.sizeOf2 Try.zeroValue2 rfl rfl rfl rfl rfl rfl rfl (S102.buf (k := 0) rfl (Sb.lit (n := 0) (by decide)) (ints_len1 rfl)) (S102.view v_a0) (ints_len1 rfl) ints_one k104 haG108 (show 0 + a0.length = a0.length from len_nilapp (b := a0) rfl)) ?_
  refine AO.p rfl (p_assign rfl) ?_
  refine AO.nil ?_
  refine AX.ret ?_
  obtain rfl := some_inj hd105
  have S111 := S110.front 0 rfl
  exact ⟨.inr rfl, _, res1 rfl (rv_tmp rfl), p106, c107, rfl, S111, BS110⟩

end Go.Proofs.Ytnmbjedijgcncaa
