/-
  The program computes that, printed by a program. No condition.
-/
import Derived.Test.YtdafmafigcljkaaDM
import Derived.Test.YtdafmafigcljkaaWA
import Derived.Test.YtdafmafigcljkaaProg
import Derived.KernelRfl
namespace Go.Proofs.Ytdafmafigcljkaa
open Go Go.RowKit Am
set_option linter.unusedVariables false
set_option linter.unusedSimpArgs false
set_option maxRecDepth 20000
set_option maxHeartbeats 4000000 in
theorem W_laws_toInt64S (fu : Nat) (H : AHeap) (p_a0 : Option Addr) (c_a0 : Nat) (a0 : List Int) (v_a0 : Vw H p_a0 a0.length c_a0 (ints a0)) (r0 : List Int) (hd : D_laws_toInt64S fu a0 = some r0) : ∃ v G', ACall Try.prog 88 [.slice p_a0 a0.length c_a0] H v G' ∧ ∃ (p_r0 : Option Addr) (c_r0 : Nat), (v = .slice p_r0 r0.length c_r0) ∧ St [] H G' [oseg p_r0 (ints r0)] ∧ Sb p_r0 r0.length c_r0 1 := by
  refine ACall.bodyX (args := [.slice p_a0 a0.length c_a0]) (N := 22) [(0, .slice p_a0 a0.length c_a0)] (fun v G' => ∃ (p_r0 : Option Addr) (c_r0 : Nat), (v = .slice p_r0 r0.length c_r0) ∧ St [] H G' [oseg p_r0 (ints r0)] ∧ Sb p_r0 r0.length c_r0 1) Try.func88 rfl rfl rfl rfl ?_
  unfold D_laws_toInt64S at hd
  have S0 : St [] H H [] := St.nil H
  refine AX.seq ?_
  refine AX.region ?_
  refine AO.p rfl (p_assign rfl) ?_
  refine AO.nil ?_
  refine AX.seq ?_
  refine AX.region ?_
  refine AO.p rfl (p_move rfl) ?_
  refine AO.p rfl (p_len_slice rfl Try.underlying58) ?_
  obtain ⟨k100, hd101⟩ := chk_some hd
  obtain ⟨G102, i103, hii103, hHG102, S104⟩ := S0.new (AObj.row false (ints (List.replicate ((a0.length : Nat) : Int).toNat 0)))
  refine AO.c rfl (s_makeIntsE (i := i103) (by_ := 8) Try.underlying58 Try.typeInfo2 Try.sizeOf2 Try.zeroValue2 rfl rfl rfl rfl rfl k100 hii103 hHG102) ?_
  refine AO.p rfl (p_assign rfl) ?_
  refine AO.nil ?_
  refine AX.seq ?_
  refine AX.seq ?_
  refine AX.region ?_
  refine AO.p rfl (p_assign rfl) ?_
  refine AO.nil ?_
  obtain ⟨r157, hl158, hd159⟩ := bnd_some hd101
  refine AX.cutS (fun t' H' => ∃ (xs156 : List Int), xs156 = r157 ∧ St [] H H' [[(i103, AObj.row false (ints xs156))]] ∧ xs156.length = ((a0.length : Nat) : Int).toNat ∧ Am.Sub [(3, .slice (some (Addr.mk i103 0 none)) (((a0.length : Nat) : Int).toNat) (((a0.length : Nat) : Int).toNat))] t') ?_ ?_
  · refine AX.block ?_
    refine AX.loopF (fun s' t' H' => ∃ (xs139 : List Int) (x140 : Int), (xs139, x140) = s' ∧ St [] H H' [[(i103, AObj.row false (ints xs139))]] ∧ xs139.length = ((a0.length : Nat) : Int).toNat ∧ Am.Sub [(0, .slice p_a0 a0.length c_a0), (3, .slice (some (Addr.mk i103 0 none)) (((a0.length : Nat) : Int).toNat) (((a0.length : Nat) : Int).toNat)), (4, .int .i64 x140)] t') hl158 ?_ ?_
    · skip
      have S160 := S104.front 0 rfl
      exact ⟨(List.replicate ((a0.length : Nat) : Int).toNat 0), 0, rfl, S160, len_rep, Sub.cons' rfl rfl (Sub.cons' rfl rfl (Sub.cons' rfl rfl (Sub.nil _)))⟩
    · rintro n161 _ t' G165 ⟨xs139, x140, rfl, S164, lxs139, hsub166⟩ o167 ho162 hk163
      refine AX.sub hsub166 ?_
      unfold D_laws_toInt64S_s0 at ho162
      refine AX.seq ?_
      refine AX.seq ?_
      refine AX.region ?_
      refine AO.p rfl (p_move rfl) ?_
      refine AO.p rfl (p_move rfl) ?_
      refine AO.p rfl (p_len_slice rfl Try.underlying58) ?_
      refine AO.p rfl (p_lss rfl rfl) ?_
      refine AO.nil ?_
      refine AX.cond rfl (fun c168 => ?_) (fun c168 => ?_)
      · have hd169 := bif_t c168 ho162
        refine AX.skip ?_
        refine AX.seq ?_
        refine AX.block ?_
        refine AX.region ?_
        refine AO.p rfl (p_move rfl) ?_
        refine AO.p rfl (p_move rfl) ?_
        refine AO.p rfl (p_move rfl) ?_
        refine AO.p rfl (p_move rfl) ?_
        obtain ⟨k170, hd171⟩ := chk_some hd169
        refine AO.p rfl (s_indexV (q := off p_a0 + x140.toNat) Try.underlying58 Try.sizeOf2 rfl ((S164.view v_a0).p (ints_get (lt_len rfl (inR_lt k170)))) rfl k170 (o1 _ _)) ?_
        refine AO.c rfl (s_load Try.isAgg2 rfl ((S164.view v_a0).get _ _ (ints_get (lt_len rfl (inR_lt k170))))) ?_
        obtain ⟨k172, hd173⟩ := chk_some hd171
        refine AO.p rfl (s_indexV (q := x140.toNat) Try.underlying58 Try.sizeOf2 rfl rfl rfl k172 (z1 _)) ?_
        obtain ⟨G174, hHG174, S175⟩ := S164.set (k := 0) (i := i103) rfl (AObj.row false (ints (xs139.set x140.toNat (rd a0 x140.toNat))))
        refine AO.s (s_store Try.sizeOf2 rfl rfl rfl (S164.get (k := 0) rfl) (lt_len (ints_len lxs139) (inR_lt k172)) ((congrArg (fun l => List.set _ _ (AObj.row false l)) (ints_set _ _ _)).trans hHG174)) ?_
        refine AO.nil ?_
        refine AX.region ?_
        refine AO.p rfl (p_move rfl) ?_
        obtain ⟨k176, hd177⟩ := chk_some hd173
        refine AO.p rfl (p_addE rfl rfl k176) ?_
        refine AO.p rfl (p_assign rfl) ?_
        refine AO.nil ?_
        obtain rfl := some_inj hd177
        have S179 := S175.front 0 rfl
        exact ⟨((xs139.set x140.toNat (rd a0 x140.toNat)), x140 + 1), hk163, (xs139.set x140.toNat (rd a0 x140.toNat)), (x140 + 1), rfl, S179, (len_set lxs139), Sub.cons' rfl rfl (Sub.cons' rfl rfl (Sub.cons' rfl rfl (Sub.nil _)))⟩
      · have hd180 := bif_f c168 ho162
        refine AX.exit ?_
        obtain rfl := some_inj hd180
        have S181 := S164.front 0 rfl
        exact ⟨xs139, hk163, S181, lxs139, Sub.cons' rfl rfl (Sub.nil _)⟩
  · rintro t' G183 ⟨xs156, rfl, S182, lxs156, hsub184⟩
    refine ⟨_, hsub184, ?_⟩
    refine AX.seq ?_
    refine AX.region ?_
    refine AO.p rfl (p_move rfl) ?_
    refine AO.p rfl (p_assign rfl) ?_
    refine AO.nil ?_
    refine AX.ret ?_
    obtain rfl := some_inj hd159
    have S185 := S182.front 0 rfl
    exact ⟨.inr rfl, _, res1 rfl (rv_tmp rfl), (some (Addr.mk i103 0 none)), (((a0.length : Nat) : Int).toNat), (by rw [show List.length xs156 = ((a0.length : Nat) : Int).toNat from lxs156]), S185, (by rw [show List.length xs156 = ((a0.length : Nat) : Int).toNat from lxs156]; exact (Sb.lit (mkcap k100)))⟩

set_option maxHeartbeats 4000000 in
theorem W_laws_toInt64SS (fu : Nat) (H : AHeap) (p_a0 : Option Addr) (c_a0 : Nat) (T_a0 : Tb) (a0 : List (List Int)) (t_a0 : trows T_a0 = a0) (v_a0 : Vw H p_a0 a0.length c_a0 (tcells T_a0)) (w_a0 : TVw H T_a0) (r0 : List (List Int)) (hd : D_laws_toInt64SS fu a0 = some r0) : ∃ v G', ACall Try.prog 31 [.slice p_a0 a0.length c_a0] H v G' ∧ ∃ (p_r0 : Option Addr) (c_r0 : Nat) (T_r0 : Tb), (v = .slice p_r0 r0.length c_r0) ∧ St [] H G' [oseg p_r0 (tcells T_r0), tseg T_r0] ∧ Sb p_r0 r0.length c_r0 1 ∧ trows T_r0 = r0 ∧ TSb T_r0 := by
  refine ACall.bodyX (args := [.slice p_a0 a0.length c_a0]) (N := 23) [(0, .slice p_a0 a0.length c_a0)] (fun v G' => ∃ (p_r0 : Option Addr) (c_r0 : Nat) (T_r0 : Tb), (v = .slice p_r0 r0.length c_r0) ∧ St [] H G' [oseg p_r0 (tcells T_r0), tseg T_r0] ∧ Sb p_r0 r0.length c_r0 1 ∧ trows T_r0 = r0 ∧ TSb T_r0) Try.func31 rfl rfl rfl rfl ?_
  unfold D_laws_toInt64SS at hd
  have S0 : St [] H H [] := St.nil H
  refine AX.seq ?_
  refine AX.region ?_
  refine AO.p rfl (p_assign rfl) ?_
  refine AO.nil ?_
  refine AX.seq ?_
  refine AX.region ?_
  refine AO.p rfl (p_move rfl) ?_
  refine AO.p rfl (p_len_slice rfl Try.underlying43) ?_
  obtain ⟨k100, hd101⟩ := chk_some hd
  obtain ⟨G102, i103, hii103, hHG102, S104⟩ := S0.new (AObj.row false (tcells (tnil (((a0.length : Nat) : Int).toNat))))
  have S104t := S104.tnew (((a0.length : Nat) : Int).toNat)
  refine AO.c rfl (s_make1 (v := .slice none 0 0) (i := i103) (by_ := 24) Try.underlying43 Try.typeInfo58 Try.sizeOf58 Try.zeroValue58 rfl rfl rfl rfl rfl rfl k100 (tnil_cells _) hii103 hHG102) ?_
  refine AO.p rfl (p_assign rfl) ?_
  refine AO.nil ?_
  refine AX.seq ?_
  refine AX.seq ?_
  refine AX.region ?_
  refine AO.p rfl (p_assign rfl) ?_
  refine AO.nil ?_
  obtain ⟨r217, hl218, hd219⟩ := bnd_some hd101
  refine AX.cutS (fun t' H' => ∃ (rs215 : List (List Int)) (T216 : Tb), rs215 = r217 ∧ St [] H H' [[(i103, AObj.row false (tcells T216))], tseg T216] ∧ rs215.length = ((a0.length : Nat) : Int).toNat ∧ trows T216 = rs215 ∧ TSb T216 ∧ Am.Sub [(3, .slice (some (Addr.mk i103 0 none)) (((a0.length : Nat) : Int).toNat) (((a0.length : Nat) : Int).toNat))] t') ?_ ?_
  · refine AX.block ?_
    refine AX.loopF (fun s' t' H' => ∃ (rs178 : List (List Int)) (x180 : Int) (T179 : Tb), (rs178, x180) = s' ∧ St [] H H' [[(i103, AObj.row false (tcells T179))], tseg T179] ∧ rs178.length = ((a0.length : Nat) : Int).toNat ∧ trows T179 = rs178 ∧ TSb T179 ∧ Am.Sub [(0, .slice p_a0 a0.length c_a0), (3, .slice (some (Addr.mk i103 0 none)) (((a0.length : Nat) : Int).toNat) (((a0.length : Nat) : Int).toNat)), (4, .int .i64 x180)] t') hl218 ?_ ?_
    · skip
      have S220 := S104t.front 0 rfl
      have S221 := S220.front 1 rfl
      exact ⟨(List.replicate ((a0.length : Nat) : Int).toNat []), 0, (tnil (((a0.length : Nat) : Int).toNat)), rfl, S221, len_rep, (tnil_rows _), (tnil_sb _), Sub.cons' rfl rfl (Sub.cons' rfl rfl (Sub.cons' rfl rfl (Sub.nil _)))⟩
    · rintro n222 _ t' G226 ⟨rs178, x180, T179, rfl, S225, lrs178, tT179, sT179, hsub227⟩ o228 ho223 hk224
      refine AX.sub hsub227 ?_
      unfold D_laws_toInt64SS_s0 at ho223
      refine AX.seq ?_
      refine AX.seq ?_
      refine AX.region ?_
      refine AO.p rfl (p_move rfl) ?_
      refine AO.p rfl (p_move rfl) ?_
      refine AO.p rfl (p_len_slice rfl Try.underlying43) ?_
      refine AO.p rfl (p_lss rfl rfl) ?_
      refine AO.nil ?_
      refine AX.cond rfl (fun c229 => ?_) (fun c229 => ?_)
      · have hd230 := bif_t c229 ho223
        refine AX.skip ?_
        refine AX.seq ?_
        refine AX.block ?_
        refine AX.region ?_
        refine AO.p rfl (p_move rfl) ?_
        refine AO.p rfl (p_move rfl) ?_
        refine AO.p rfl (p_move rfl) ?_
        refine AO.p rfl (p_move rfl) ?_
        obtain ⟨k231, hd232⟩ := chk_some hd230
        obtain ⟨p233, c234, e235, f236⟩ := tget t_a0 (lt_len rfl (inR_lt k231))
        refine AO.p rfl (s_indexV (q := off p_a0 + x180.toNat) Try.underlying43 Try.sizeOf58 rfl ((S225.view v_a0).p f236) rfl k231 (o1 _ _)) ?_
        refine AO.c rfl (s_load Try.isAgg58 rfl ((S225.view v_a0).get _ _ f236)) ?_
        obtain ⟨xs237, h238, hd239⟩ := bnd_some hd232
        obtain ⟨_, G245, hc244, p240, c241, rfl, S246, B243⟩ := W_laws_toInt64S fu G226 p233 c234 (rw_ a0 x180.toNat) (TVw.at (S225.tview w_a0) e235) xs237 h238
        have S247 := S225.call S246
        refine AO.c rfl (o_call (vs := [.slice p233 ((rw_ a0 x180.toNat).length) c234]) rfl Try.call88 hc244) ?_
        obtain ⟨k248, hd249⟩ := chk_some hd239
        refine AO.p rfl (s_indexV (q := x180.toNat) Try.underlying43 Try.sizeOf58 rfl rfl rfl k248 (z1 _)) ?_
        obtain ⟨_, e250⟩ := t_at tT179 lrs178 (inR_lt k248)
        obtain ⟨G251, hHG251, S252⟩ := S247.set (k := 1) (i := i103) rfl (AObj.row false (tcells (T179.set x180.toNat (p240, c241, xs237))))
        have S253 := S252.front 2 rfl
        have S254 := S253.front 1 rfl
        have S255 := S254.tput (c := c241) e250
        refine AO.s (s_store Try.sizeOf58 rfl rfl rfl (S247.get (k := 1) rfl) (tc_lt tT179 lrs178 (inR_lt k248)) ((congrArg (fun l => List.set _ _ (AObj.row false l)) (tcells_put _ _ _ _ _)).trans hHG251)) ?_
        refine AO.nil ?_
        refine AX.region ?_
        refine AO.p rfl (p_move rfl) ?_
        obtain ⟨k256, hd257⟩ := chk_some hd249
        refine AO.p rfl (p_addE rfl rfl k256) ?_
        refine AO.p rfl (p_assign rfl) ?_
        refine AO.nil ?_
        obtain rfl := some_inj hd257
        have S259 := S255.front 0 rfl
        have S260 := S259.front 1 rfl
        exact ⟨((rs178.set x180.toNat xs237), x180 + 1), hk224, (rs178.set x180.toNat xs237), (x180 + 1), (T179.set x180.toNat (p240, c241, xs237)), rfl, S260, (len_set lrs178), (trows_set' tT179), (TSb.put sT179 B243), Sub.cons' rfl rfl (Sub.cons' rfl rfl (Sub.cons' rfl rfl (Sub.nil _)))⟩
      · have hd261 := bif_f c229 ho223
        refine AX.exit ?_
        obtain rfl := some_inj hd261
        have S262 := S225.front 1 rfl
        have S263 := S262.front 1 rfl
        exact ⟨rs178, T179, hk224, S263, lrs178, tT179, sT179, Sub.cons' rfl rfl (Sub.nil _)⟩
  · rintro t' G265 ⟨rs215, T216, rfl, S264, lrs215, tT216, sT216, hsub266⟩
    refine ⟨_, hsub266, ?_⟩
    refine AX.seq ?_
    refine AX.region ?_
    refine AO.p rfl (p_move rfl) ?_
    refine AO.p rfl (p_assign rfl) ?_
    refine AO.nil ?_
    refine AX.ret ?_
    obtain rfl := some_inj hd219
    have S267 := S264.front 1 rfl
    have S268 := S267.front 1 rfl
    exact ⟨.inr rfl, _, res1 rfl (rv_tmp rfl), (some (Addr.mk i103 0 none)), (((a0.length : Nat) : Int).toNat), T216, (by rw [show List.length rs215 = ((a0.length : Nat) : Int).toNat from lrs215]), S268, (by rw [show List.length rs215 = ((a0.length : Nat) : Int).toNat from lrs215]; exact (Sb.lit (mkcap k100))), tT216, sT216⟩

set_option maxHeartbeats 4000000 in
theorem W_laws_szInt64S (fu : Nat) (H : AHeap) (p_a0 : Option Addr) (c_a0 : Nat) (a0 : List Int) (v_a0 : Vw H p_a0 a0.length c_a0 (ints a0)) (a1 : Int) (r0 : Int) (hd : D_laws_szInt64S fu a0 a1 = some r0) : ACall Try.prog 84 [.slice p_a0 a0.length c_a0, .int .i64 a1] H (.int .i64 r0) H := by
  refine ACall.bodyP (N := 12) [(0, .slice p_a0 a0.length c_a0), (1, .int .i64 a1)] Try.func84 rfl rfl rfl rfl ?_
  unfold D_laws_szInt64S at hd
  have S0 : St [] H H [] := St.nil H
  refine AX.seq ?_
  refine AX.region ?_
  refine AO.p rfl (p_assign rfl) ?_
  refine AO.nil ?_
  refine AX.seq ?_
  refine AX.region ?_
  refine AO.p rfl (p_move rfl) ?_
  refine AO.p rfl (p_move rfl) ?_
  refine AO.p rfl (p_len_slice rfl Try.underlying58) ?_
  obtain ⟨k100, hd101⟩ := chk_some hd
  refine AO.p rfl (p_subE rfl rfl k100) ?_
  refine AO.p rfl (p_assign rfl) ?_
  refine AO.nil ?_
  refine AX.seq ?_
  refine AX.seq ?_
  refine AX.region ?_
  refine AO.p rfl (p_move rfl) ?_
  refine AO.p rfl (p_lss rfl rfl) ?_
  refine AO.nil ?_
  refine AX.cond rfl (fun c102 => ?_) (fun c102 => ?_)
  · have hd103 := bif_t c102 hd101
    refine AX.seq ?_
    refine AX.region ?_
    refine AO.p rfl (p_assign rfl) ?_
    refine AO.nil ?_
    refine AX.ret ?_
    obtain rfl := some_inj hd103
    exact ⟨.inr rfl, _, res1 rfl (rv_tmp rfl), rfl, (flatB_ok rfl), S0.hold⟩
  · have hd104 := bif_f c102 hd101
    refine AX.skip ?_
    refine AX.seq ?_
    refine AX.region ?_
    refine AO.p rfl (p_move rfl) ?_
    refine AO.p rfl (p_assign rfl) ?_
    refine AO.nil ?_
    refine AX.ret ?_
    obtain rfl := some_inj hd104
    exact ⟨.inr rfl, _, res1 rfl (rv_tmp rfl), rfl, (flatB_ok rfl), S0.hold⟩

set_option maxHeartbeats 4000000 in
theorem W_laws_szInt64SS (fu : Nat) (H : AHeap) (p_a0 : Option Addr) (c_a0 : Nat) (T_a0 : Tb) (a0 : List (List Int)) (t_a0 : trows T_a0 = a0) (v_a0 : Vw H p_a0 a0.length c_a0 (tcells T_a0)) (w_a0 : TVw H T_a0) (a1 : Int) (r0 : Int) (hd : D_laws_szInt64SS fu a0 a1 = some r0) : ACall Try.prog 29 [.slice p_a0 a0.length c_a0, .int .i64 a1] H (.int .i64 r0) H := by
  refine ACall.bodyP (N := 27) [(0, .slice p_a0 a0.length c_a0), (1, .int .i64 a1)] Try.func29 rfl rfl rfl rfl ?_
  unfold D_laws_szInt64SS at hd
  have S0 : St [] H H [] := St.nil H
  refine AX.seq ?_
  refine AX.region ?_
  refine AO.p rfl (p_assign rfl) ?_
  refine AO.nil ?_
  refine AX.seq ?_
  refine AX.region ?_
  refine AO.p rfl (p_move rfl) ?_
  refine AO.p rfl (p_move rfl) ?_
  refine AO.p rfl (p_len_slice rfl Try.underlying43) ?_
  obtain ⟨k100, hd101⟩ := chk_some hd
  refine AO.p rfl (p_subE rfl rfl k100) ?_
  refine AO.p rfl (p_assign rfl) ?_
  refine AO.nil ?_
  refine AX.seq ?_
  refine AX.seq ?_
  refine AX.region ?_
  refine AO.p rfl (p_move rfl) ?_
  refine AO.p rfl (p_lss rfl rfl) ?_
  refine AO.nil ?_
  refine AX.cond rfl (fun c102 => ?_) (fun c102 => ?_)
  · have hd103 := bif_t c102 hd101
    refine AX.seq ?_
    refine AX.region ?_
    refine AO.p rfl (p_assign rfl) ?_
    refine AO.nil ?_
    refine AX.ret ?_
    obtain rfl := some_inj hd103
    exact ⟨.inr rfl, _, res1 rfl (rv_tmp rfl), rfl, (flatB_ok rfl), S0.hold⟩
  · have hd104 := bif_f c102 hd101
    refine AX.skip ?_
    refine AX.seq ?_
    refine AX.seq ?_
    refine AX.region ?_
    refine AO.p rfl (p_assign rfl) ?_
    refine AO.nil ?_
    obtain ⟨r173, hl174, hd175⟩ := bnd_some hd104
    refine AX.cutS (fun t' H' => ∃ (x172 : Int), .inl x172 = r173 ∧ St [] H H' [] ∧ Am.Sub [(1, .int .i64 x172)] t') ?_ ?_
    · refine AX.block ?_
      refine AX.loopF (fun s' t' H' => ∃ (x149 : Int) (x150 : Int), (x149, x150) = s' ∧ St [] H H' [] ∧ Am.Sub [(0, .slice p_a0 a0.length c_a0), (1, .int .i64 x149), (5, .int .i64 x150)] t') hl174 ?_ ?_
      · skip
        exact ⟨(a1 - ((a0.length : Nat) : Int)), 0, rfl, S0, Sub.cons' rfl rfl (Sub.cons' rfl rfl (Sub.cons' rfl rfl (Sub.nil _)))⟩
      · rintro n176 _ t' G180 ⟨x149, x150, rfl, S179, hsub181⟩ o182 ho177 hk178
        refine AX.sub hsub181 ?_
        unfold D_laws_szInt64SS_s0 at ho177
        refine AX.seq ?_
        refine AX.seq ?_
        refine AX.region ?_
        refine AO.p rfl (p_move rfl) ?_
        refine AO.p rfl (p_move rfl) ?_
        refine AO.p rfl (p_len_slice rfl Try.underlying43) ?_
        refine AO.p rfl (p_lss rfl rfl) ?_
        refine AO.nil ?_
        refine AX.cond rfl (fun c183 => ?_) (fun c183 => ?_)
        · have hd184 := bif_t c183 ho177
          refine AX.skip ?_
          refine AX.seq ?_
          refine AX.block ?_
          refine AX.seq ?_
          refine AX.region ?_
          refine AO.p rfl (p_move rfl) ?_
          refine AO.p rfl (p_move rfl) ?_
          obtain ⟨k185, hd186⟩ := chk_some hd184
          obtain ⟨p187, c188, e189, f190⟩ := tget t_a0 (lt_len rfl (inR_lt k185))
          refine AO.p rfl (s_indexV (q := off p_a0 + x150.toNat) Try.underlying43 Try.sizeOf58 rfl ((S179.view v_a0).p f190) rfl k185 (o1 _ _)) ?_
          refine AO.c rfl (s_load Try.isAgg58 rfl ((S179.view v_a0).get _ _ f190)) ?_
          refine AO.p rfl (p_move rfl) ?_
          obtain ⟨x191, h192, hd193⟩ := bnd_some hd186
          refine AO.c rfl (o_call (vs := [.slice p187 ((rw_ a0 x150.toNat).length) c188, .int .i64 x149]) rfl Try.call84 (W_laws_szInt64S fu G180 p187 c188 (rw_ a0 x150.toNat) (TVw.at (S179.tview w_a0) e189) x149 x191 h192)) ?_
          refine AO.p rfl (p_assign rfl) ?_
          refine AO.nil ?_
          refine AX.seq ?_
          refine AX.region ?_
          refine AO.p rfl (p_move rfl) ?_
          refine AO.p rfl (p_lss rfl rfl) ?_
          refine AO.nil ?_
          refine AX.cond rfl (fun c195 => ?_) (fun c195 => ?_)
          · have hd196 := bif_t c195 hd193
            refine AX.seq ?_
            refine AX.region ?_
            refine AO.p rfl (p_assign rfl) ?_
            refine AO.nil ?_
            refine AX.ret ?_
            obtain rfl := some_inj hd196
            have z197 : _ = r173 := hk178
            subst z197
            obtain rfl := some_inj hd175
            exact ⟨.inr rfl, _, res1 rfl (rv_tmp rfl), rfl, (flatB_ok rfl), S179.hold⟩
          · have hd198 := bif_f c195 hd193
            refine AX.skip ?_
            refine AX.region ?_
            refine AO.p rfl (p_move rfl) ?_
            obtain ⟨k199, hd200⟩ := chk_some hd198
            refine AO.p rfl (p_addE rfl rfl k199) ?_
            refine AO.p rfl (p_assign rfl) ?_
            refine AO.nil ?_
            obtain rfl := some_inj hd200
            exact ⟨(x191, x150 + 1), hk178, x191, (x150 + 1), rfl, S179, Sub.cons' rfl rfl (Sub.cons' rfl rfl (Sub.cons' rfl rfl (Sub.nil _)))⟩
        · have hd202 := bif_f c183 ho177
          refine AX.exit ?_
          obtain rfl := some_inj hd202
          exact ⟨x149, hk178, S179, Sub.cons' rfl rfl (Sub.nil _)⟩
    · rintro t' G204 ⟨x172, rfl, S203, hsub205⟩
      refine ⟨_, hsub205, ?_⟩
      refine AX.seq ?_
      refine AX.region ?_
      refine AO.p rfl (p_move rfl) ?_
      refine AO.p rfl (p_assign rfl) ?_
      refine AO.nil ?_
      refine AX.ret ?_
      obtain rfl := some_inj hd175
      exact ⟨.inr rfl, _, res1 rfl (rv_tmp rfl), rfl, (flatB_ok rfl), S203.hold⟩

set_option maxHeartbeats 4000000 in
theorem W_laws_eqInt64S (fu : Nat) (H : AHeap) (p_a0 : Option Addr) (c_a0 : Nat) (a0 : List Int) (v_a0 : Vw H p_a0 a0.length c_a0 (ints a0)) (p_a1 : Option Addr) (c_a1 : Nat) (a1 : List Int) (v_a1 : Vw H p_a1 a1.length c_a1 (ints a1)) (r0 : Bool) (hd : D_laws_eqInt64S fu a0 a1 = some r0) : ACall Try.prog 81 [.slice p_a0 a0.length c_a0, .slice p_a1 a1.length c_a1] H (.bool r0) H := by
  refine ACall.bodyP (N := 26) [(0, .slice p_a0 a0.length c_a0), (1, .slice p_a1 a1.length c_a1)] Try.func81 rfl rfl rfl rfl ?_
  unfold D_laws_eqInt64S at hd
  have S0 : St [] H H [] := St.nil H
  refine AX.seq ?_
  refine AX.region ?_
  refine AO.p rfl (p_assign rfl) ?_
  refine AO.nil ?_
  refine AX.seq ?_
  refine AX.seq ?_
  refine AX.region ?_
  refine AO.p rfl (p_move rfl) ?_
  refine AO.p rfl (p_len_slice rfl Try.underlying58) ?_
  refine AO.p rfl (p_move rfl) ?_
  refine AO.p rfl (p_len_slice rfl Try.underlying58) ?_
  refine AO.p rfl (p_neq rfl rfl) ?_
  refine AO.nil ?_
  refine AX.cond rfl (fun c100 => ?_) (fun c100 => ?_)
  · have hd101 := bif_t c100 hd
    refine AX.seq ?_
    refine AX.region ?_
    refine AO.p rfl (p_assign rfl) ?_
    refine AO.nil ?_
    refine AX.ret ?_
    obtain rfl := some_inj hd101
    exact ⟨.inr rfl, _, res1 rfl (rv_tmp rfl), rfl, (flatB_ok rfl), S0.hold⟩
  · have hd102 := bif_f c100 hd
    refine AX.skip ?_
    refine AX.seq ?_
    refine AX.seq ?_
    refine AX.region ?_
    refine AO.p rfl (p_assign rfl) ?_
    refine AO.nil ?_
    obtain ⟨r150, hl151, hd152⟩ := bnd_some hd102
    refine AX.cutS (fun t' H' => .inl () = r150 ∧ St [] H H' [] ∧ Am.Sub [] t') ?_ ?_
    · refine AX.block ?_
      refine AX.loopF (fun s' t' H' => ∃ (x134 : Int), x134 = s' ∧ St [] H H' [] ∧ Am.Sub [(0, .slice p_a0 a0.length c_a0), (1, .slice p_a1 a1.length c_a1), (5, .int .i64 x134)] t') hl151 ?_ ?_
      · skip
        exact ⟨0, rfl, S0, Sub.cons' rfl rfl (Sub.cons' rfl rfl (Sub.cons' rfl rfl (Sub.nil _)))⟩
      · rintro n153 _ t' G157 ⟨x134, rfl, S156, hsub158⟩ o159 ho154 hk155
        refine AX.sub hsub158 ?_
        unfold D_laws_eqInt64S_s0 at ho154
        refine AX.seq ?_
        refine AX.seq ?_
        refine AX.region ?_
        refine AO.p rfl (p_move rfl) ?_
        refine AO.p rfl (p_move rfl) ?_
        refine AO.p rfl (p_len_slice rfl Try.underlying58) ?_
        refine AO.p rfl (p_lss rfl rfl) ?_
        refine AO.nil ?_
        refine AX.cond rfl (fun c160 => ?_) (fun c160 => ?_)
        · have hd161 := bif_t c160 ho154
          refine AX.skip ?_
          refine AX.seq ?_
          refine AX.block ?_
          refine AX.seq ?_
          refine DR.startS [false, false, false, false, false, false, false, false, false] mix (by kernel_rfl) (fun hst => ?_)
          refine DR.p rfl rfl (p_move rfl) ?_
          refine DR.p rfl rfl (p_move rfl) ?_
          obtain ⟨k162, hd163⟩ := chk_some hd161
          refine DR.p rfl rfl (s_indexV (q := off p_a0 + x134.toNat) Try.underlying58 Try.sizeOf2 rfl ((S156.view v_a0).p (ints_get (lt_len rfl (inR_lt k162)))) rfl k162 (o1 _ _)) ?_
          refine DR.r rfl rfl (r_load rfl Try.isAgg2) (one_read ((S156.view v_a0).get _ _ (ints_get (lt_len rfl (inR_lt k162)))) (.of_flat0 rfl)) ?_
          refine DR.p rfl rfl (p_move rfl) ?_
          refine DR.p rfl rfl (p_move rfl) ?_
          obtain ⟨k164, hd165⟩ := chk_some hd163
          refine DR.p rfl rfl (s_indexV (q := off p_a1 + x134.toNat) Try.underlying58 Try.sizeOf2 rfl ((S156.view v_a1).p (ints_get (lt_len rfl (inR_lt k164)))) rfl k164 (o1 _ _)) ?_
          refine DR.r rfl rfl (r_load rfl Try.isAgg2) (one_read ((S156.view v_a1).get _ _ (ints_get (lt_len rfl (inR_lt k164)))) (.of_flat0 rfl)) ?_
          refine DR.p rfl rfl (p_neq rfl rfl) ?_
          refine DR.nil 9 [] hst (by kernel_rfl) trivial ?_
          refine AX.cond rfl (fun c166 => ?_) (fun c166 => ?_)
          · have hd167 := bif_t c166 hd165
            refine AX.seq ?_
            refine AX.region ?_
            refine AO.p rfl (p_assign rfl) ?_
            refine AO.nil ?_
            refine AX.ret ?_
            obtain rfl := some_inj hd167
            have z168 : _ = r150 := hk155
            subst z168
            obtain rfl := some_inj hd152
            exact ⟨.inr rfl, _, res1 rfl (rv_tmp rfl), rfl, (flatB_ok rfl), S156.hold⟩
          · have hd169 := bif_f c166 hd165
            refine AX.skip ?_
            refine AX.region ?_
            refine AO.p rfl (p_move rfl) ?_
            obtain ⟨k170, hd171⟩ := chk_some hd169
            refine AO.p rfl (p_addE rfl rfl k170) ?_
            refine AO.p rfl (p_assign rfl) ?_
            refine AO.nil ?_
            obtain rfl := some_inj hd171
            exact ⟨x134 + 1, hk155, (x134 + 1), rfl, S156, Sub.cons' rfl rfl (Sub.cons' rfl rfl (Sub.cons' rfl rfl (Sub.nil _)))⟩
        · have hd173 := bif_f c160 ho154
          refine AX.exit ?_
          obtain rfl := some_inj hd173
          exact ⟨hk155, S156, Sub.nil _⟩
    · rintro t' G175 ⟨rfl, S174, hsub176⟩
      refine ⟨_, hsub176, ?_⟩
      refine AX.seq ?_
      refine AX.region ?_
      refine AO.p rfl (p_assign rfl) ?_
      refine AO.nil ?_
      refine AX.ret ?_
      obtain rfl := some_inj hd152
      exact ⟨.inr rfl, _, res1 rfl (rv_tmp rfl), rfl, (flatB_ok rfl), S174.hold⟩

set_option maxHeartbeats 4000000 in
theorem W_laws_eqInt64SS (fu : Nat) (H : AHeap) (p_a0 : Option Addr) (c_a0 : Nat) (T_a0 : Tb) (a0 : List (List Int)) (t_a0 : trows T_a0 = a0) (v_a0 : Vw H p_a0 a0.length c_a0 (tcells T_a0)) (w_a0 : TVw H T_a0) (p_a1 : Option Addr) (c_a1 : Nat) (T_a1 : Tb) (a1 : List (List Int)) (t_a1 : trows T_a1 = a1) (v_a1 : Vw H p_a1 a1.length c_a1 (tcells T_a1)) (w_a1 : TVw H T_a1) (r0 : Bool) (hd : D_laws_eqInt64SS fu a0 a1 = some r0) : ACall Try.prog 26 [.slice p_a0 a0.length c_a0, .slice p_a1 a1.length c_a1] H (.bool r0) H := by
  refine ACall.bodyP (N := 27) [(0, .slice p_a0 a0.length c_a0), (1, .slice p_a1 a1.length c_a1)] Try.func26 rfl rfl rfl rfl ?_
  unfold D_laws_eqInt64SS at hd
  have S0 : St [] H H [] := St.nil H
  refine AX.seq ?_
  refine AX.region ?_
  refine AO.p rfl (p_assign rfl) ?_
  refine AO.nil ?_
  refine AX.seq ?_
  refine AX.seq ?_
  refine AX.region ?_
  refine AO.p rfl (p_move rfl) ?_
  refine AO.p rfl (p_len_slice rfl Try.underlying43) ?_
  refine AO.p rfl (p_move rfl) ?_
  refine AO.p rfl (p_len_slice rfl Try.underlying43) ?_
  refine AO.p rfl (p_neq rfl rfl) ?_
  refine AO.nil ?_
  refine AX.cond rfl (fun c100 => ?_) (fun c100 => ?_)
  · have hd101 := bif_t c100 hd
    refine AX.seq ?_
    refine AX.region ?_
    refine AO.p rfl (p_assign rfl) ?_
    refine AO.nil ?_
    refine AX.ret ?_
    obtain rfl := some_inj hd101
    exact ⟨.inr rfl, _, res1 rfl (rv_tmp rfl), rfl, (flatB_ok rfl), S0.hold⟩
  · have hd102 := bif_f c100 hd
    refine AX.skip ?_
    refine AX.seq ?_
    refine AX.seq ?_
    refine AX.region ?_
    refine AO.p rfl (p_assign rfl) ?_
    refine AO.nil ?_
    obtain ⟨r186, hl187, hd188⟩ := bnd_some hd102
    refine AX.cutS (fun t' H' => .inl () = r186 ∧ St [] H H' [] ∧ Am.Sub [] t') ?_ ?_
    · refine AX.block ?_
      refine AX.loopF (fun s' t' H' => ∃ (x158 : Int), x158 = s' ∧ St [] H H' [] ∧ Am.Sub [(0, .slice p_a0 a0.length c_a0), (1, .slice p_a1 a1.length c_a1), (5, .int .i64 x158)] t') hl187 ?_ ?_
      · skip
        exact ⟨0, rfl, S0, Sub.cons' rfl rfl (Sub.cons' rfl rfl (Sub.cons' rfl rfl (Sub.nil _)))⟩
      · rintro n189 _ t' G193 ⟨x158, rfl, S192, hsub194⟩ o195 ho190 hk191
        refine AX.sub hsub194 ?_
        unfold D_laws_eqInt64SS_s0 at ho190
        refine AX.seq ?_
        refine AX.seq ?_
        refine AX.region ?_
        refine AO.p rfl (p_move rfl) ?_
        refine AO.p rfl (p_move rfl) ?_
        refine AO.p rfl (p_len_slice rfl Try.underlying43) ?_
        refine AO.p rfl (p_lss rfl rfl) ?_
        refine AO.nil ?_
        refine AX.cond rfl (fun c196 => ?_) (fun c196 => ?_)
        · have hd197 := bif_t c196 ho190
          refine AX.skip ?_
          refine AX.seq ?_
          refine AX.block ?_
          refine AX.seq ?_
          refine DR.startS [false, false, false, false, false, false, false, false, true, false] mix (by kernel_rfl) (fun hst => ?_)
          refine DR.p rfl rfl (p_move rfl) ?_
          refine DR.p rfl rfl (p_move rfl) ?_
          obtain ⟨k198, hd199⟩ := chk_some hd197
          obtain ⟨p200, c201, e202, f203⟩ := tget t_a0 (lt_len rfl (inR_lt k198))
          refine DR.p rfl rfl (s_indexV (q := off p_a0 + x158.toNat) Try.underlying43 Try.sizeOf58 rfl ((S192.view v_a0).p f203) rfl k198 (o1 _ _)) ?_
          refine DR.r rfl rfl (r_load rfl Try.isAgg58) (one_read ((S192.view v_a0).get _ _ f203) (TVw.at (S192.tview w_a0) e202).inn.bel) ?_
          refine DR.p rfl rfl (p_move rfl) ?_
          refine DR.p rfl rfl (p_move rfl) ?_
          obtain ⟨k204, hd205⟩ := chk_some hd199
          obtain ⟨p206, c207, e208, f209⟩ := tget t_a1 (lt_len rfl (inR_lt k204))
          refine DR.p rfl rfl (s_indexV (q := off p_a1 + x158.toNat) Try.underlying43 Try.sizeOf58 rfl ((S192.view v_a1).p f209) rfl k204 (o1 _ _)) ?_
          refine DR.r rfl rfl (r_load rfl Try.isAgg58) (one_read ((S192.view v_a1).get _ _ f209) (TVw.at (S192.tview w_a1) e208).inn.bel) ?_
          obtain ⟨b210, h211, hd212⟩ := bnd_some hd205
          refine DR.w rfl rfl (o_call (vs := [.slice p200 ((rw_ a0 x158.toNat).length) c201, .slice p206 ((rw_ a1 x158.toNat).length) c207]) rfl Try.call81 (W_laws_eqInt64S fu G193 p200 c201 (rw_ a0 x158.toNat) (TVw.at (S192.tview w_a0) e202) p206 c207 (rw_ a1 x158.toNat) (TVw.at (S192.tview w_a1) e208) b210 h211)) (Nat.le_refl _) ?_
          refine DR.p rfl rfl (p_not rfl) ?_
          refine DR.nil 10 [] hst (by kernel_rfl) trivial ?_
          refine AX.cond rfl (fun c214 => ?_) (fun c214 => ?_)
          · have hd215 := bif_t c214 hd212
            refine AX.seq ?_
            refine AX.region ?_
            refine AO.p rfl (p_assign rfl) ?_
            refine AO.nil ?_
            refine AX.ret ?_
            obtain rfl := some_inj hd215
            have z216 : _ = r186 := hk191
            subst z216
            obtain rfl := some_inj hd188
            exact ⟨.inr rfl, _, res1 rfl (rv_tmp rfl), rfl, (flatB_ok rfl), S192.hold⟩
          · have hd217 := bif_f c214 hd212
            refine AX.skip ?_
            refine AX.region ?_
            refine AO.p rfl (p_move rfl) ?_
            obtain ⟨k218, hd219⟩ := chk_some hd217
            refine AO.p rfl (p_addE rfl rfl k218) ?_
            refine AO.p rfl (p_assign rfl) ?_
            refine AO.nil ?_
            obtain rfl := some_inj hd219
            exact ⟨x158 + 1, hk191, (x158 + 1), rfl, S192, Sub.cons' rfl rfl (Sub.cons' rfl rfl (Sub.cons' rfl rfl (Sub.nil _)))⟩
        · have hd221 := bif_f c196 ho190
          refine AX.exit ?_
          obtain rfl := some_inj hd221
          exact ⟨hk191, S192, Sub.nil _⟩
    · rintro t' G223 ⟨rfl, S222, hsub224⟩
      refine ⟨_, hsub224, ?_⟩
      refine AX.seq ?_
      refine AX.region ?_
      refine AO.p rfl (p_assign rfl) ?_
      refine AO.nil ?_
      refine AX.ret ?_
      obtain rfl := some_inj hd188
      exact ⟨.inr rfl, _, res1 rfl (rv_tmp rfl), rfl, (flatB_ok rfl), S222.hold⟩

set_option maxHeartbeats 4000000 in
theorem W_laws_markInt64S (fu : Nat) (H : AHeap) (p_a0 : Option Addr) (c_a0 : Nat) (a0 : List Int) (s_a0 : Sb p_a0 a0.length c_a0 1) (a1 : Int) (hn : ((oseg p_a0 (ints a0)).map (·.1)).Nodup) (ho : ∀ x ∈ oseg p_a0 (ints a0), x.1 < H.length ∧ hget H x.1 = x.2) (r0 : Int) (m_a0 : List Int) (hd : D_laws_markInt64S fu a0 a1 = some (r0, m_a0)) : ∃ v G', ACall Try.prog 82 [.slice p_a0 a0.length c_a0, .int .i64 a1] H v G' ∧ (v = .int .i64 r0) ∧ St ((oseg p_a0 (ints a0)).map (·.1)) H G' [oseg p_a0 (ints m_a0)] ∧ m_a0.length = a0.length := by
  refine ACall.bodyX (args := [.slice p_a0 a0.length c_a0, .int .i64 a1]) (N := 19) [(0, .slice p_a0 a0.length c_a0), (1, .int .i64 a1)] (fun v G' => (v = .int .i64 r0) ∧ St ((oseg p_a0 (ints a0)).map (·.1)) H G' [oseg p_a0 (ints m_a0)] ∧ m_a0.length = a0.length) Try.func82 rfl rfl rfl rfl ?_
  unfold D_laws_markInt64S at hd
  have S0 : St ((oseg p_a0 (ints a0)).map (·.1)) H H [oseg p_a0 (ints a0)] := (St.init (l := oseg p_a0 (ints a0)) hn ho).same (by simp)
  refine AX.seq ?_
  refine AX.region ?_
  refine AO.p rfl (p_assign rfl) ?_
  refine AO.nil ?_
  refine AX.seq ?_
  refine AX.seq ?_
  refine AX.region ?_
  refine AO.p rfl (p_assign rfl) ?_
  refine AO.nil ?_
  obtain ⟨r154, hl155, hd156⟩ := bnd_some hd
  refine AX.cutS (fun t' H' => ∃ (xs152 : List Int) (x153 : Int), (xs152, x153) = r154 ∧ St ((oseg p_a0 (ints a0)).map (·.1)) H H' [oseg p_a0 (ints xs152)] ∧ xs152.length = a0.length ∧ Am.Sub [(1, .int .i64 x153)] t') ?_ ?_
  · refine AX.block ?_
    refine AX.loopF (fun s' t' H' => ∃ (xs134 : List Int) (x135 : Int) (x136 : Int), (xs134, x135, x136) = s' ∧ St ((oseg p_a0 (ints a0)).map (·.1)) H H' [oseg p_a0 (ints xs134)] ∧ xs134.length = a0.length ∧ Am.Sub [(0, .slice p_a0 a0.length c_a0), (1, .int .i64 x135), (5, .int .i64 x136)] t') hl155 ?_ ?_
    · skip
      have S157 := S0.front 0 rfl
      exact ⟨a0, a1, 0, rfl, S157, rfl, Sub.cons' rfl rfl (Sub.cons' rfl rfl (Sub.cons' rfl rfl (Sub.nil _)))⟩
    · rintro n158 _ t' G162 ⟨xs134, x135, x136, rfl, S161, lxs134, hsub163⟩ o164 ho159 hk160
      refine AX.sub hsub163 ?_
      unfold D_laws_markInt64S_s0 at ho159
      refine AX.seq ?_
      refine AX.seq ?_
      refine AX.region ?_
      refine AO.p rfl (p_move rfl) ?_
      refine AO.p rfl (p_move rfl) ?_
      refine AO.p rfl (p_len_slice rfl Try.underlying58) ?_
      refine AO.p rfl (p_lss rfl rfl) ?_
      refine AO.nil ?_
      refine AX.cond rfl (fun c165 => ?_) (fun c165 => ?_)
      · have hd166 := bif_t c165 ho159
        refine AX.skip ?_
        refine AX.seq ?_
        refine AX.block ?_
        refine AX.seq ?_
        refine AX.region ?_
        refine AO.p rfl (p_move rfl) ?_
        refine AO.p rfl (p_move rfl) ?_
        refine AO.p rfl (p_move rfl) ?_
        obtain ⟨k167, hd168⟩ := chk_some hd166
        refine AO.p rfl (s_indexV (q := x136.toNat) Try.underlying58 Try.sizeOf2 rfl (s_a0.at (inR_pos k167)) rfl k167 (z1 _)) ?_
        obtain ⟨G169, hHG169, S170⟩ := S161.oset (k := 0) (p := p_a0) rfl (s_a0.at (inR_pos k167)) (ints (xs134.set x136.toNat x135))
        refine AO.s (s_store Try.sizeOf2 rfl rfl rfl (S161.oat (k := 0) rfl (s_a0.at (inR_pos k167))) (lt_len (ints_len lxs134) (inR_lt k167)) ((congrArg (fun l => List.set _ _ (AObj.row false l)) (ints_set _ _ _)).trans hHG169)) ?_
        refine AO.nil ?_
        refine AX.region ?_
        refine AO.p rfl (p_move rfl) ?_
        obtain ⟨k171, hd172⟩ := chk_some hd168
        refine AO.p rfl (p_addE rfl rfl k171) ?_
        refine AO.p rfl (p_assign rfl) ?_
        refine AO.nil ?_
        refine AX.region ?_
        refine AO.p rfl (p_move rfl) ?_
        obtain ⟨k173, hd174⟩ := chk_some hd172
        refine AO.p rfl (p_addE rfl rfl k173) ?_
        refine AO.p rfl (p_assign rfl) ?_
        refine AO.nil ?_
        obtain rfl := some_inj hd174
        have S176 := S170.front 0 rfl
        exact ⟨((xs134.set x136.toNat x135), x135 + 1, x136 + 1), hk160, (xs134.set x136.toNat x135), (x135 + 1), (x136 + 1), rfl, S176, (len_set lxs134), Sub.cons' rfl rfl (Sub.cons' rfl rfl (Sub.cons' rfl rfl (Sub.nil _)))⟩
      · have hd177 := bif_f c165 ho159
        refine AX.exit ?_
        obtain rfl := some_inj hd177
        have S178 := S161.front 0 rfl
        exact ⟨xs134, x135, hk160, S178, lxs134, Sub.cons' rfl rfl (Sub.nil _)⟩
  · rintro t' G180 ⟨xs152, x153, rfl, S179, lxs152, hsub181⟩
    refine ⟨_, hsub181, ?_⟩
    refine AX.seq ?_
    refine AX.region ?_
    refine AO.p rfl (p_move rfl) ?_
    refine AO.p rfl (p_assign rfl) ?_
    refine AO.nil ?_
    refine AX.ret ?_
    obtain ⟨rfl, rfl⟩ := Prod.mk.inj (some_inj hd156)
    have S183 := S179.front 0 rfl
    exact ⟨.inr rfl, _, res1 rfl (rv_tmp rfl), rfl, S183, lxs152⟩

set_option maxHeartbeats 4000000 in
theorem W_laws_markInt64SS (fu : Nat) (H : AHeap) (p_a0 : Option Addr) (c_a0 : Nat) (T_a0 : Tb) (a0 : List (List Int)) (t_a0 : trows T_a0 = a0) (s_a0 : Sb p_a0 a0.length c_a0 1) (z_a0 : TSb T_a0) (a1 : Int) (hn : ((oseg p_a0 (tcells T_a0) ++ (tseg T_a0)).map (·.1)).Nodup) (ho : ∀ x ∈ oseg p_a0 (tcells T_a0) ++ (tseg T_a0), x.1 < H.length ∧ hget H x.1 = x.2) (r0 : Int) (m_a0 : List (List Int)) (hd : D_laws_markInt64SS fu a0 a1 = some (r0, m_a0)) : ∃ v G', ACall Try.prog 27 [.slice p_a0 a0.length c_a0, .int .i64 a1] H v G' ∧ ∃ (T_a0' : Tb), (v = .int .i64 r0) ∧ St ((oseg p_a0 (tcells T_a0) ++ (tseg T_a0)).map (·.1)) H G' [oseg p_a0 (tcells T_a0'), tseg T_a0'] ∧ trows T_a0' = m_a0 ∧ TSb T_a0' ∧ m_a0.length = a0.length := by
  refine ACall.bodyX (args := [.slice p_a0 a0.length c_a0, .int .i64 a1]) (N := 19) [(0, .slice p_a0 a0.length c_a0), (1, .int .i64 a1)] (fun v G' => ∃ (T_a0' : Tb), (v = .int .i64 r0) ∧ St ((oseg p_a0 (tcells T_a0) ++ (tseg T_a0)).map (·.1)) H G' [oseg p_a0 (tcells T_a0'), tseg T_a0'] ∧ trows T_a0' = m_a0 ∧ TSb T_a0' ∧ m_a0.length = a0.length) Try.func27 rfl rfl rfl rfl ?_
  unfold D_laws_markInt64SS at hd
  have S0 : St ((oseg p_a0 (tcells T_a0) ++ (tseg T_a0)).map (·.1)) H H [oseg p_a0 (tcells T_a0), tseg T_a0] := (St.init (l := oseg p_a0 (tcells T_a0) ++ (tseg T_a0)) hn ho).same (by simp)
  refine AX.seq ?_
  refine AX.region ?_
  refine AO.p rfl (p_assign rfl) ?_
  refine AO.nil ?_
  refine AX.seq ?_
  refine AX.seq ?_
  refine AX.region ?_
  refine AO.p rfl (p_assign rfl) ?_
  refine AO.nil ?_
  obtain ⟨r208, hl209, hd210⟩ := bnd_some hd
  refine AX.cutS (fun t' H' => ∃ (rs205 : List (List Int)) (x207 : Int) (T206 : Tb), (rs205, x207) = r208 ∧ St ((oseg p_a0 (tcells T_a0) ++ (tseg T_a0)).map (·.1)) H H' [oseg p_a0 (tcells T206), tseg T206] ∧ rs205.length = a0.length ∧ trows T206 = rs205 ∧ TSb T206 ∧ Am.Sub [(1, .int .i64 x207)] t') ?_ ?_
  · refine AX.block ?_
    refine AX.loopF (fun s' t' H' => ∃ (rs169 : List (List Int)) (x171 : Int) (x172 : Int) (T170 : Tb), (rs169, x171, x172) = s' ∧ St ((oseg p_a0 (tcells T_a0) ++ (tseg T_a0)).map (·.1)) H H' [oseg p_a0 (tcells T170), tseg T170] ∧ rs169.length = a0.length ∧ trows T170 = rs169 ∧ TSb T170 ∧ Am.Sub [(0, .slice p_a0 a0.length c_a0), (1, .int .i64 x171), (5, .int .i64 x172)] t') hl209 ?_ ?_
    · skip
      have S211 := S0.front 1 rfl
      have S212 := S211.front 1 rfl
      exact ⟨a0, a1, 0, T_a0, rfl, S212, rfl, t_a0, z_a0, Sub.cons' rfl rfl (Sub.cons' rfl rfl (Sub.cons' rfl rfl (Sub.nil _)))⟩
    · rintro n213 _ t' G217 ⟨rs169, x171, x172, T170, rfl, S216, lrs169, tT170, sT170, hsub218⟩ o219 ho214 hk215
      refine AX.sub hsub218 ?_
      unfold D_laws_markInt64SS_s0 at ho214
      refine AX.seq ?_
      refine AX.seq ?_
      refine AX.region ?_
      refine AO.p rfl (p_move rfl) ?_
      refine AO.p rfl (p_move rfl) ?_
      refine AO.p rfl (p_len_slice rfl Try.underlying43) ?_
      refine AO.p rfl (p_lss rfl rfl) ?_
      refine AO.nil ?_
      refine AX.cond rfl (fun c220 => ?_) (fun c220 => ?_)
      · have hd221 := bif_t c220 ho214
        refine AX.skip ?_
        refine AX.seq ?_
        refine AX.block ?_
        refine AX.region ?_
        refine AO.p rfl (p_move rfl) ?_
        refine AO.p rfl (p_move rfl) ?_
        obtain ⟨k222, hd223⟩ := chk_some hd221
        refine AO.p rfl (s_indexV (q := x172.toNat) Try.underlying43 Try.sizeOf58 rfl (s_a0.at (inR_pos k222)) rfl k222 (z1 _)) ?_
        obtain ⟨p224, c225, e226, f227⟩ := tget tT170 (lt_len lrs169 (inR_lt k222))
        refine AO.c rfl (s_load Try.isAgg58 rfl (row_cell (S216.oat (k := 0) rfl (s_a0.at (inR_pos k222))) f227)) ?_
        refine AO.p rfl (p_move rfl) ?_
        have S228 := S216.front 1 rfl
        have S229 := S228.tout e226
        have S231 := S229.front 0 rfl
        obtain ⟨⟨x232, xs233⟩, h234, hd235⟩ := bnd_some hd223
        obtain ⟨_, G238, hc237, rfl, S239, l236⟩ := W_laws_markInt64S fu G217 p224 c225 (rw_ rs169 x172.toNat) (TSb.at sT170 e226) x171 (S231.onodup (k := 0) rfl) (S231.omem (k := 0) rfl) x232 xs233 h234
        have S240 := St.callM (A := [oseg p224 (ints (rw_ rs169 x172.toNat))]) S231 S239 (by simp)
        have S241 := S240.front 1 rfl
        have S242 := S241.front 1 rfl
        have S243 := S242.tin e226
        have S244 := S243.hdr (k := 1) (tcells_set (xs' := xs233) e226 l236).symm rfl
        refine AO.c rfl (o_call (vs := [.slice p224 ((rw_ rs169 x172.toNat).length) c225, .int .i64 x171]) rfl Try.call82 hc237) ?_
        refine AO.p rfl (p_assign rfl) ?_
        refine AO.nil ?_
        refine AX.region ?_
        refine AO.p rfl (p_move rfl) ?_
        obtain ⟨k245, hd246⟩ := chk_some hd235
        refine AO.p rfl (p_addE rfl rfl k245) ?_
        refine AO.p rfl (p_assign rfl) ?_
        refine AO.nil ?_
        obtain rfl := some_inj hd246
        have S248 := S244.front 0 rfl
        have S249 := S248.front 1 rfl
        exact ⟨((rs169.set x172.toNat xs233), x232, x172 + 1), hk215, (rs169.set x172.toNat xs233), x232, (x172 + 1), (T170.set x172.toNat (p224, c225, xs233)), rfl, S249, (len_set lrs169), (trows_set' tT170), (TSb.set sT170 e226 l236), Sub.cons' rfl rfl (Sub.cons' rfl rfl (Sub.cons' rfl rfl (Sub.nil _)))⟩
      · have hd250 := bif_f c220 ho214
        refine AX.exit ?_
        obtain rfl := some_inj hd250
        have S251 := S216.front 1 rfl
        have S252 := S251.front 1 rfl
        exact ⟨rs169, x171, T170, hk215, S252, lrs169, tT170, sT170, Sub.cons' rfl rfl (Sub.nil _)⟩
  · rintro t' G254 ⟨rs205, x207, T206, rfl, S253, lrs205, tT206, sT206, hsub255⟩
    refine ⟨_, hsub255, ?_⟩
    refine AX.seq ?_
    refine AX.region ?_
    refine AO.p rfl (p_move rfl) ?_
    refine AO.p rfl (p_assign rfl) ?_
    refine AO.nil ?_
    refine AX.ret ?_
    obtain ⟨rfl, rfl⟩ := Prod.mk.inj (some_inj hd210)
    have S257 := S253.front 1 rfl
    have S258 := S257.front 1 rfl
    exact ⟨.inr rfl, _, res1 rfl (rv_tmp rfl), T206, rfl, S258, tT206, sT206, lrs205⟩

set_option maxHeartbeats 4000000 in
theorem W_laws_heldInt64S (fu : Nat) (H : AHeap) (p_a0 : Option Addr) (c_a0 : Nat) (a0 : List Int) (v_a0 : Vw H p_a0 a0.length c_a0 (ints a0)) (a1 : Int) (r0 : Int) (hd : D_laws_heldInt64S fu a0 a1 = some r0) : ACall Try.prog 83 [.slice p_a0 a0.length c_a0, .int .i64 a1] H (.int .i64 r0) H := by
  refine ACall.bodyP (N := 21) [(0, .slice p_a0 a0.length c_a0), (1, .int .i64 a1)] Try.func83 rfl rfl rfl rfl ?_
  unfold D_laws_heldInt64S at hd
  have S0 : St [] H H [] := St.nil H
  refine AX.seq ?_
  refine AX.region ?_
  refine AO.p rfl (p_assign rfl) ?_
  refine AO.nil ?_
  refine AX.seq ?_
  refine AX.seq ?_
  refine AX.region ?_
  refine AO.p rfl (p_assign rfl) ?_
  refine AO.nil ?_
  obtain ⟨r150, hl151, hd152⟩ := bnd_some hd
  refine AX.cutS (fun t' H' => ∃ (x149 : Int), .inl x149 = r150 ∧ St [] H H' [] ∧ Am.Sub [(1, .int .i64 x149)] t') ?_ ?_
  · refine AX.block ?_
    refine AX.loopF (fun s' t' H' => ∃ (x132 : Int) (x133 : Int), (x132, x133) = s' ∧ St [] H H' [] ∧ Am.Sub [(0, .slice p_a0 a0.length c_a0), (1, .int .i64 x132), (5, .int .i64 x133)] t') hl151 ?_ ?_
    · skip
      exact ⟨a1, 0, rfl, S0, Sub.cons' rfl rfl (Sub.cons' rfl rfl (Sub.cons' rfl rfl (Sub.nil _)))⟩
    · rintro n153 _ t' G157 ⟨x132, x133, rfl, S156, hsub158⟩ o159 ho154 hk155
      refine AX.sub hsub158 ?_
      unfold D_laws_heldInt64S_s0 at ho154
      refine AX.seq ?_
      refine AX.seq ?_
      refine AX.region ?_
      refine AO.p rfl (p_move rfl) ?_
      refine AO.p rfl (p_move rfl) ?_
      refine AO.p rfl (p_len_slice rfl Try.underlying58) ?_
      refine AO.p rfl (p_lss rfl rfl) ?_
      refine AO.nil ?_
      refine AX.cond rfl (fun c160 => ?_) (fun c160 => ?_)
      · have hd161 := bif_t c160 ho154
        refine AX.skip ?_
        refine AX.seq ?_
        refine AX.block ?_
        refine AX.seq ?_
        refine AX.seq ?_
        refine AX.region ?_
        refine AO.p rfl (p_move rfl) ?_
        refine AO.p rfl (p_move rfl) ?_
        obtain ⟨k162, hd163⟩ := chk_some hd161
        refine AO.p rfl (s_indexV (q := off p_a0 + x133.toNat) Try.underlying58 Try.sizeOf2 rfl ((S156.view v_a0).p (ints_get (lt_len rfl (inR_lt k162)))) rfl k162 (o1 _ _)) ?_
        refine AO.c rfl (s_load Try.isAgg2 rfl ((S156.view v_a0).get _ _ (ints_get (lt_len rfl (inR_lt k162))))) ?_
        refine AO.p rfl (p_move rfl) ?_
        refine AO.p rfl (p_neq rfl rfl) ?_
        refine AO.nil ?_
        refine AX.cond rfl (fun c164 => ?_) (fun c164 => ?_)
        · have hd165 := bif_t c164 hd163
          refine AX.seq ?_
          refine AX.region ?_
          refine AO.p rfl (p_assign rfl) ?_
          refine AO.nil ?_
          refine AX.ret ?_
          obtain rfl := some_inj hd165
          have z166 : _ = r150 := hk155
          subst z166
          obtain rfl := some_inj hd152
          exact ⟨.inr rfl, _, res1 rfl (rv_tmp rfl), rfl, (flatB_ok rfl), S156.hold⟩
        · have hd167 := bif_f c164 hd163
          refine AX.skip ?_
          refine AX.region ?_
          refine AO.p rfl (p_move rfl) ?_
          obtain ⟨k168, hd169⟩ := chk_some hd167
          refine AO.p rfl (p_addE rfl rfl k168) ?_
          refine AO.p rfl (p_assign rfl) ?_
          refine AO.nil ?_
          refine AX.region ?_
          refine AO.p rfl (p_move rfl) ?_
          obtain ⟨k170, hd171⟩ := chk_some hd169
          refine AO.p rfl (p_addE rfl rfl k170) ?_
          refine AO.p rfl (p_assign rfl) ?_
          refine AO.nil ?_
          obtain rfl := some_inj hd171
          exact ⟨(x132 + 1, x133 + 1), hk155, (x132 + 1), (x133 + 1), rfl, S156, Sub.cons' rfl rfl (Sub.cons' rfl rfl (Sub.cons' rfl rfl (Sub.nil _)))⟩
      · have hd173 := bif_f c160 ho154
        refine AX.exit ?_
        obtain rfl := some_inj hd173
        exact ⟨x132, hk155, S156, Sub.cons' rfl rfl (Sub.nil _)⟩
  · rintro t' G175 ⟨x149, rfl, S174, hsub176⟩
    refine ⟨_, hsub176, ?_⟩
    refine AX.seq ?_
    refine AX.region ?_
    refine AO.p rfl (p_move rfl) ?_
    refine AO.p rfl (p_assign rfl) ?_
    refine AO.nil ?_
    refine AX.ret ?_
    obtain rfl := some_inj hd152
    exact ⟨.inr rfl, _, res1 rfl (rv_tmp rfl), rfl, (flatB_ok rfl), S174.hold⟩

set_option maxHeartbeats 4000000 in
theorem W_laws_heldInt64SS (fu : Nat) (H : AHeap) (p_a0 : Option Addr) (c_a0 : Nat) (T_a0 : Tb) (a0 : List (List Int)) (t_a0 : trows T_a0 = a0) (v_a0 : Vw H p_a0 a0.length c_a0 (tcells T_a0)) (w_a0 : TVw H T_a0) (a1 : Int) (r0 : Int) (hd : D_laws_heldInt64SS fu a0 a1 = some r0) : ACall Try.prog 28 [.slice p_a0 a0.length c_a0, .int .i64 a1] H (.int .i64 r0) H := by
  refine ACall.bodyP (N := 21) [(0, .slice p_a0 a0.length c_a0), (1, .int .i64 a1)] Try.func28 rfl rfl rfl rfl ?_
  unfold D_laws_heldInt64SS at hd
  have S0 : St [] H H [] := St.nil H
  refine AX.seq ?_
  refine AX.region ?_
  refine AO.p rfl (p_assign rfl) ?_
  refine AO.nil ?_
  refine AX.seq ?_
  refine AX.seq ?_
  refine AX.region ?_
  refine AO.p rfl (p_assign rfl) ?_
  refine AO.nil ?_
  obtain ⟨r168, hl169, hd170⟩ := bnd_some hd
  refine AX.cutS (fun t' H' => ∃ (x167 : Int), .inl x167 = r168 ∧ St [] H H' [] ∧ Am.Sub [(1, .int .i64 x167)] t') ?_ ?_
  · refine AX.block ?_
    refine AX.loopF (fun s' t' H' => ∃ (x144 : Int) (x145 : Int), (x144, x145) = s' ∧ St [] H H' [] ∧ Am.Sub [(0, .slice p_a0 a0.length c_a0), (1, .int .i64 x144), (5, .int .i64 x145)] t') hl169 ?_ ?_
    · skip
      exact ⟨a1, 0, rfl, S0, Sub.cons' rfl rfl (Sub.cons' rfl rfl (Sub.cons' rfl rfl (Sub.nil _)))⟩
    · rintro n171 _ t' G175 ⟨x144, x145, rfl, S174, hsub176⟩ o177 ho172 hk173
      refine AX.sub hsub176 ?_
      unfold D_laws_heldInt64SS_s0 at ho172
      refine AX.seq ?_
      refine AX.seq ?_
      refine AX.region ?_
      refine AO.p rfl (p_move rfl) ?_
      refine AO.p rfl (p_move rfl) ?_
      refine AO.p rfl (p_len_slice rfl Try.underlying43) ?_
      refine AO.p rfl (p_lss rfl rfl) ?_
      refine AO.nil ?_
      refine AX.cond rfl (fun c178 => ?_) (fun c178 => ?_)
      · have hd179 := bif_t c178 ho172
        refine AX.skip ?_
        refine AX.seq ?_
        refine AX.block ?_
        refine AX.seq ?_
        refine AX.region ?_
        refine AO.p rfl (p_move rfl) ?_
        refine AO.p rfl (p_move rfl) ?_
        obtain ⟨k180, hd181⟩ := chk_some hd179
        obtain ⟨p182, c183, e184, f185⟩ := tget t_a0 (lt_len rfl (inR_lt k180))
        refine AO.p rfl (s_indexV (q := off p_a0 + x145.toNat) Try.underlying43 Try.sizeOf58 rfl ((S174.view v_a0).p f185) rfl k180 (o1 _ _)) ?_
        refine AO.c rfl (s_load Try.isAgg58 rfl ((S174.view v_a0).get _ _ f185)) ?_
        refine AO.p rfl (p_move rfl) ?_
        obtain ⟨x186, h187, hd188⟩ := bnd_some hd181
        refine AO.c rfl (o_call (vs := [.slice p182 ((rw_ a0 x145.toNat).length) c183, .int .i64 x144]) rfl Try.call83 (W_laws_heldInt64S fu G175 p182 c183 (rw_ a0 x145.toNat) (TVw.at (S174.tview w_a0) e184) x144 x186 h187)) ?_
        refine AO.p rfl (p_assign rfl) ?_
        refine AO.nil ?_
        refine AX.seq ?_
        refine AX.region ?_
        refine AO.p rfl (p_move rfl) ?_
        refine AO.p rfl (p_lss rfl rfl) ?_
        refine AO.nil ?_
        refine AX.cond rfl (fun c190 => ?_) (fun c190 => ?_)
        · have hd191 := bif_t c190 hd188
          refine AX.seq ?_
          refine AX.region ?_
          refine AO.p rfl (p_assign rfl) ?_
          refine AO.nil ?_
          refine AX.ret ?_
          obtain rfl := some_inj hd191
          have z192 : _ = r168 := hk173
          subst z192
          obtain rfl := some_inj hd170
          exact ⟨.inr rfl, _, res1 rfl (rv_tmp rfl), rfl, (flatB_ok rfl), S174.hold⟩
        · have hd193 := bif_f c190 hd188
          refine AX.skip ?_
          refine AX.region ?_
          refine AO.p rfl (p_move rfl) ?_
          obtain ⟨k194, hd195⟩ := chk_some hd193
          refine AO.p rfl (p_addE rfl rfl k194) ?_
          refine AO.p rfl (p_assign rfl) ?_
          refine AO.nil ?_
          obtain rfl := some_inj hd195
          exact ⟨(x186, x145 + 1), hk173, x186, (x145 + 1), rfl, S174, Sub.cons' rfl rfl (Sub.cons' rfl rfl (Sub.cons' rfl rfl (Sub.nil _)))⟩
      · have hd197 := bif_f c178 ho172
        refine AX.exit ?_
        obtain rfl := some_inj hd197
        exact ⟨x144, hk173, S174, Sub.cons' rfl rfl (Sub.nil _)⟩
  · rintro t' G199 ⟨x167, rfl, S198, hsub200⟩
    refine ⟨_, hsub200, ?_⟩
    refine AX.seq ?_
    refine AX.region ?_
    refine AO.p rfl (p_move rfl) ?_
    refine AO.p rfl (p_assign rfl) ?_
    refine AO.nil ?_
    refine AX.ret ?_
    obtain rfl := some_inj hd170
    exact ⟨.inr rfl, _, res1 rfl (rv_tmp rfl), rfl, (flatB_ok rfl), S198.hold⟩

end Go.Proofs.Ytdafmafigcljkaa
