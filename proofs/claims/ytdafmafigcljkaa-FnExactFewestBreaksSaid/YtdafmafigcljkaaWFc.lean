/-
  The program computes that, printed by a program. No condition.
-/
import Derived.Test.YtdafmafigcljkaaDFc
import Derived.Test.YtdafmafigcljkaaWA
import Derived.Test.YtdafmafigcljkaaBit
import Derived.Test.YtdafmafigcljkaaFb
import Derived.Test.YtdafmafigcljkaaProg
import Derived.KernelRfl
namespace Go.Proofs.Ytdafmafigcljkaa
open Go Go.RowKit Am
set_option linter.unusedVariables false
set_option linter.unusedSimpArgs false
set_option maxRecDepth 20000
set_option maxHeartbeats 4000000 in
theorem W_slices_IndexFunc_Simpl_Round_impl_Round (fu : Nat) (H : AHeap) (p_a0 : Option Addr) (c_a0 : Nat) (a0 : List (List Int)) (a_a0 : All 14 a0) (v_a0 : Vw H p_a0 a0.length c_a0 (ints a0.flatten)) (f_a1 : FuncId) (fs_a1 cs_a1 : Array Value) (a1 : (List Int) → Option Bool) (hc_a1 : ∀ args w, (callFunc f_a1 args).run Try.prog w = .ok (.enter f_a1 args) w) (hq_a1 : ∀ H', ExtG H H' → ∀ (x0_a1 : List Int) (h_x0_a1 : x0_a1.length = 14) (b : Bool), a1 x0_a1 = some b → ACall Try.prog f_a1 (fs_a1.toList ++ [.agg (ints x0_a1).toArray] ++ cs_a1.toList) H' (.bool b) H') (r0 : Int) (hd : D_slices_IndexFunc_Simpl_Round_impl_Round fu a0 a1 = some r0) : ACall Try.prog 169 [.slice p_a0 a0.length c_a0, .func (.func f_a1) fs_a1 cs_a1] H (.int .i64 r0) H := by
  refine ACall.bodyP (N := 19) [(0, .slice p_a0 a0.length c_a0), (1, .func (.func f_a1) fs_a1 cs_a1)] Try.func169 rfl rfl rfl rfl ?_
  unfold D_slices_IndexFunc_Simpl_Round_impl_Round at hd
  have S0 : St [] H H [] := St.nil H
  refine AX.seq ?_
  refine AX.region ?_
  refine AO.p rfl (p_assign rfl) ?_
  refine AO.nil ?_
  refine AX.seq ?_
  refine AX.seq ?_
  refine AX.region ?_
  refine AO.p rfl (p_move rfl) ?_
  refine AO.p rfl (p_len_slice rfl Try.underlying35) ?_
  refine AO.p rfl (p_move rfl) ?_
  refine AO.nil ?_
  obtain ⟨r150, hl151, hd152⟩ := bnd_some hd
  refine AX.cutS (fun t' H' => .inl () = r150 ∧ St [] H H' [] ∧ Am.Sub [] t') ?_ ?_
  · refine AX.block ?_
    refine AX.loopF (fun s' t' H' => ∃ (x133 : Int), x133 = s' ∧ St [] H H' [] ∧ Am.Sub [(0, .slice p_a0 a0.length c_a0), (1, .func (.func f_a1) fs_a1 cs_a1), (7, .int .i64 ((a0.length : Nat) : Int)), (8, .int .i64 x133)] t') hl151 ?_ ?_
    · skip
      exact ⟨0, rfl, S0, Sub.cons' rfl rfl (Sub.cons' rfl rfl (Sub.cons' rfl rfl (Sub.cons' rfl rfl (Sub.nil _))))⟩
    · rintro n153 _ t' G157 ⟨x133, rfl, S156, hsub158⟩ o159 ho154 hk155
      refine AX.sub hsub158 ?_
      unfold D_slices_IndexFunc_Simpl_Round_impl_Round_s0 at ho154
      refine AX.seq ?_
      refine AX.region ?_
      refine AO.p rfl (p_lss rfl rfl) ?_
      refine AO.nil ?_
      refine AX.seq ?_
      refine AX.cond rfl (fun c160 => ?_) (fun c160 => ?_)
      · have hd161 := bif_t c160 ho154
        refine AX.skip ?_
        refine AX.seq ?_
        refine AX.block ?_
        refine AX.seq ?_
        refine AX.region ?_
        refine AO.p rfl (p_move rfl) ?_
        refine AO.p rfl (p_assign rfl) ?_
        refine AO.nil ?_
        refine AX.seq ?_
        refine AX.region ?_
        refine AO.p rfl (p_move rfl) ?_
        refine AO.p rfl (p_move rfl) ?_
        refine AO.p rfl (p_move rfl) ?_
        obtain ⟨k162, hd163⟩ := chk_some hd161
        refine AO.p rfl (s_indexV (q := off p_a0 + x133.toNat * 14) Try.underlying35 Try.sizeOf54 rfl ((S156.view v_a0).rowne a_a0 (by decide) (lt_len rfl (inR_lt k162))) rfl k162 rfl) ?_
        refine AO.c rfl (s_loadN (vs := ints (rw_ a0 x133.toNat)) Try.isAgg54 Try.sizeOf54 rfl (ints_len (rw_len a_a0 (lt_len rfl (inR_lt k162)))) ((S156.view v_a0).row a_a0 (lt_len rfl (inR_lt k162)))) ?_
        obtain ⟨b164, h165, hd166⟩ := bnd_some hd163
        refine AO.c rfl (o_callV (vs := [.agg (ints (rw_ a0 x133.toNat)).toArray]) rfl rfl hc_a1 (hq_a1 G157 S156.ext (rw_ a0 x133.toNat) (rw_len a_a0 (lt_len rfl (inR_lt k162))) b164 h165)) ?_
        refine AO.nil ?_
        refine AX.cond rfl (fun c167 => ?_) (fun c167 => ?_)
        · have hd168 := bif_t c167 hd166
          refine AX.seq ?_
          refine AX.region ?_
          refine AO.p rfl (p_move rfl) ?_
          refine AO.p rfl (p_assign rfl) ?_
          refine AO.nil ?_
          refine AX.ret ?_
          obtain rfl := some_inj hd168
          have z169 : _ = r150 := hk155
          subst z169
          obtain rfl := some_inj hd152
          exact ⟨.inr rfl, _, res1 rfl (rv_tmp rfl), rfl, (flatB_ok rfl), S156.hold⟩
        · have hd170 := bif_f c167 hd166
          refine AX.skip ?_
          refine AX.region ?_
          obtain ⟨k171, hd172⟩ := chk_some hd170
          refine AO.p rfl (p_addE rfl rfl k171) ?_
          refine AO.p rfl (p_move rfl) ?_
          refine AO.nil ?_
          obtain rfl := some_inj hd172
          exact ⟨x133 + 1, hk155, (x133 + 1), rfl, S156, Sub.cons' rfl rfl (Sub.cons' rfl rfl (Sub.cons' rfl rfl (Sub.cons' rfl rfl (Sub.nil _))))⟩
      · have hd174 := bif_f c160 ho154
        refine AX.exit ?_
        obtain rfl := some_inj hd174
        exact ⟨hk155, S156, Sub.nil _⟩
  · rintro t' G176 ⟨rfl, S175, hsub177⟩
    refine ⟨_, hsub177, ?_⟩
    refine AX.seq ?_
    refine AX.region ?_
    refine AO.p rfl (p_assign rfl) ?_
    refine AO.nil ?_
    refine AX.ret ?_
    obtain rfl := some_inj hd152
    exact ⟨.inr rfl, _, res1 rfl (rv_tmp rfl), rfl, (flatB_ok rfl), S175.hold⟩

set_option maxHeartbeats 4000000 in
theorem W_slices_ContainsFunc_Simpl_Round_impl_Round (fu : Nat) (H : AHeap) (p_a0 : Option Addr) (c_a0 : Nat) (a0 : List (List Int)) (a_a0 : All 14 a0) (v_a0 : Vw H p_a0 a0.length c_a0 (ints a0.flatten)) (f_a1 : FuncId) (fs_a1 cs_a1 : Array Value) (a1 : (List Int) → Option Bool) (hc_a1 : ∀ args w, (callFunc f_a1 args).run Try.prog w = .ok (.enter f_a1 args) w) (hq_a1 : ∀ H', ExtG H H' → ∀ (x0_a1 : List Int) (h_x0_a1 : x0_a1.length = 14) (b : Bool), a1 x0_a1 = some b → ACall Try.prog f_a1 (fs_a1.toList ++ [.agg (ints x0_a1).toArray] ++ cs_a1.toList) H' (.bool b) H') (r0 : Bool) (hd : D_slices_ContainsFunc_Simpl_Round_impl_Round fu a0 a1 = some r0) : ACall Try.prog 151 [.slice p_a0 a0.length c_a0, .func (.func f_a1) fs_a1 cs_a1] H (.bool r0) H := by
  refine ACall.bodyP (N := 9) [(0, .slice p_a0 a0.length c_a0), (1, .func (.func f_a1) fs_a1 cs_a1)] Try.func151 rfl rfl rfl rfl ?_
  unfold D_slices_ContainsFunc_Simpl_Round_impl_Round at hd
  have S0 : St [] H H [] := St.nil H
  refine AX.seq ?_
  refine AX.region ?_
  refine AO.p rfl (p_assign rfl) ?_
  refine AO.nil ?_
  refine AX.seq ?_
  refine AX.region ?_
  refine AO.p rfl (p_move rfl) ?_
  refine AO.p rfl (p_move rfl) ?_
  obtain ⟨x100, h101, hd102⟩ := bnd_some hd
  refine AO.c rfl (o_call (vs := [.slice p_a0 a0.length c_a0, .func (.func f_a1) fs_a1 cs_a1]) rfl Try.call169 (W_slices_IndexFunc_Simpl_Round_impl_Round fu H p_a0 c_a0 a0 a_a0 (S0.view v_a0) f_a1 fs_a1 cs_a1 a1 hc_a1 (fun G' hG => hq_a1 G' (S0.ext.trans hG)) x100 h101)) ?_
  refine AO.p rfl (p_geq rfl rfl) ?_
  refine AO.p rfl (p_assign rfl) ?_
  refine AO.nil ?_
  refine AX.ret ?_
  obtain rfl := some_inj hd102
  exact ⟨.inr rfl, _, res1 rfl (rv_tmp rfl), rfl, (flatB_ok rfl), S0.hold⟩

set_option maxHeartbeats 4000000 in
theorem W_impl_IsRound (fu : Nat) (H : AHeap) (a0 : Int) (a1 : List Int) (h_a1 : a1.length = 14) (r0 : Bool) (hd : D_impl_IsRound fu a0 a1 = some r0) : ACall Try.prog 139 [.int .i64 a0, .agg (ints a1).toArray] H (.bool r0) H := by
  refine ACall.bodyP (N := 42) [(0, .int .i64 a0), (1, .agg (ints a1).toArray)] Try.func139 rfl rfl rfl rfl ?_
  unfold D_impl_IsRound at hd
  have S0 : St [] H H [] := St.nil H
  refine AX.seq ?_
  refine AX.region ?_
  obtain ⟨G100, i101, hii101, hHG100, S102⟩ := S0.new (AObj.row false (ints a1))
  refine AO.c rfl (s_box (i := i101) (cs := ints a1) rfl hii101 rfl hHG100) ?_
  refine AO.p rfl (p_assign rfl) ?_
  refine AO.nil ?_
  refine AX.seq ?_
  refine AX.seq ?_
  refine AX.region ?_
  refine AO.p rfl (p_move rfl) ?_
  obtain ⟨b104, h105, hd106⟩ := bnd_some hd
  refine AO.c rfl (o_call (vs := [.int .i64 a0, .int .i64 2, .int .i64 14]) rfl Try.call52 (W_impl_between fu G100 a0 2 14 b104 h105)) ?_
  refine AO.p rfl (p_not rfl) ?_
  refine AO.nil ?_
  refine AX.cond rfl (fun c108 => ?_) (fun c108 => ?_)
  · have hd109 := bif_t c108 hd106
    refine AX.seq ?_
    refine AX.region ?_
    refine AO.p rfl (p_assign rfl) ?_
    refine AO.nil ?_
    refine AX.ret ?_
    obtain rfl := some_inj hd109
    exact ⟨.inr rfl, _, res1 rfl (rv_tmp rfl), rfl, (flatB_ok rfl), S102.hold⟩
  · have hd110 := bif_f c108 hd106
    refine AX.skip ?_
    refine AX.seq ?_
    refine AX.seq ?_
    refine AX.region ?_
    refine AO.c rfl (s_loadN (vs := ints a1) Try.isAgg54 Try.sizeOf54 rfl (ints_len h_a1) (row_cells (S102.get (k := 0) rfl))) ?_
    refine AO.p rfl (p_move rfl) ?_
    refine AO.nil ?_
    obtain ⟨r402, hl403, hd404⟩ := bnd_some hd110
    refine AX.cutS (fun t' H' => .inl () = r402 ∧ St [] H H' [] ∧ Am.Sub [] t') ?_ ?_
    · refine AX.block ?_
      refine AX.loopF (fun s' t' H' => ∃ (x305 : Int), x305 = s' ∧ St [] H H' [[(i101, AObj.row false (ints a1))]] ∧ Am.Sub [(0, .int .i64 a0), (3, .pointer (some ⟨i101, 0, none⟩)), (10, .agg (ints a1).toArray), (11, .int .i64 x305)] t') hl403 ?_ ?_
      · skip
        have S405 := S102.front 0 rfl
        exact ⟨0, rfl, S405, Sub.cons' rfl rfl (Sub.cons' rfl rfl (Sub.cons' rfl rfl (Sub.cons' rfl rfl (Sub.nil _))))⟩
      · rintro n406 _ t' G410 ⟨x305, rfl, S409, hsub411⟩ o412 ho407 hk408
        refine AX.sub hsub411 ?_
        unfold D_impl_IsRound_s0 at ho407
        refine AX.seq ?_
        refine AX.region ?_
        refine AO.p rfl (p_lss rfl rfl) ?_
        refine AO.nil ?_
        refine AX.seq ?_
        refine AX.cond rfl (fun c413 => ?_) (fun c413 => ?_)
        · have hd414 := bif_t c413 ho407
          refine AX.skip ?_
          refine AX.seq ?_
          refine AX.block ?_
          refine AX.seq ?_
          refine AX.region ?_
          refine AO.p rfl (p_move rfl) ?_
          obtain ⟨k415, hd416⟩ := chk_some hd414
          refine AO.p rfl (s_indexAv Try.underlying54 Try.sizeOf2 Try.isAgg2 rfl rfl k415 h_a1) ?_
          refine AO.p rfl (p_assign rfl) ?_
          refine AO.p rfl (p_assign rfl) ?_
          refine AO.nil ?_
          obtain ⟨r453, hb454, hd455⟩ := bnd_some hd416
          refine AX.cut (fun t' H' => ∃ (b452 : Bool), b452 = r453 ∧ St [] H H' [[(i101, AObj.row false (ints a1))]] ∧ Am.Sub [(0, .int .i64 a0), (3, .pointer (some ⟨i101, 0, none⟩)), (10, .agg (ints a1).toArray), (11, .int .i64 x305), (40, .bool b452)] t') ?_ ?_
          · skip
            refine AX.region ?_
            refine AO.p rfl (p_move rfl) ?_
            refine AO.p rfl (p_move rfl) ?_
            refine AO.p rfl (p_geq rfl rfl) ?_
            refine AO.p rfl (p_move rfl) ?_
            refine AO.cases (d := 18) rfl (fun c456 => ?_) (fun c456 => ?_)
            · have hd457 := bif_t c456 hb454
              refine AO.gp rfl rfl rfl (p_move rfl) ?_
              refine AO.gp rfl rfl rfl (p_neq rfl rfl) ?_
              refine AO.p rfl (p_pickT rfl rfl) ?_
              refine AO.p rfl (p_move rfl) ?_
              refine AO.cases (d := 22) rfl (fun c458 => ?_) (fun c458 => ?_)
              · have hd459 := bif_t c458 hd457
                refine AO.gn rfl rfl rfl ?_
                refine AO.gn rfl rfl rfl ?_
                refine AO.gn rfl rfl rfl ?_
                refine AO.gn rfl rfl rfl ?_
                refine AO.gu rfl rfl rfl ?_
                refine AO.gu rfl rfl rfl ?_
                refine AO.gu rfl rfl rfl ?_
                refine AO.gu rfl rfl rfl ?_
                refine AO.gu rfl rfl rfl ?_
                refine AO.gu rfl rfl rfl ?_
                refine AO.gu rfl rfl rfl ?_
                refine AO.gu rfl rfl rfl ?_
                refine AO.gu rfl rfl rfl ?_
                refine AO.gu rfl rfl rfl ?_
                refine AO.gu rfl rfl rfl ?_
                refine AO.gu rfl rfl rfl ?_
                refine AO.gn rfl rfl rfl ?_
                refine AO.p rfl (p_pickT rfl rfl) ?_
                refine AO.nil ?_
                have S460 := S409.front 0 rfl
                exact ⟨true, (some_inj hd459), S460, Sub.cons' rfl rfl (Sub.cons' rfl rfl (Sub.cons' rfl rfl (Sub.cons' rfl rfl (Sub.cons' rfl rfl (Sub.nil _)))))⟩
              · have hd461 := bif_f c458 hd457
                refine AO.gp rfl rfl rfl (p_move rfl) ?_
                refine AO.gp rfl rfl rfl (p_move rfl) ?_
                refine AO.gp rfl rfl rfl (p_lss rfl rfl) ?_
                refine AO.gp rfl rfl rfl (p_move rfl) ?_
                refine AO.cases (d := 26) rfl (fun c462 => ?_) (fun c462 => ?_)
                · have hd463 := bif_t c462 hd461
                  refine AO.gp rfl rfl rfl (p_move rfl) ?_
                  refine AO.gp rfl rfl rfl (p_move rfl) ?_
                  obtain ⟨k464, hd465⟩ := chk_some hd463
                  refine AO.gp rfl rfl rfl (p_subE rfl rfl k464) ?_
                  obtain ⟨b466, h467, hd468⟩ := bnd_some hd465
                  refine AO.gc rfl rfl rfl (o_call (vs := [.int .i64 (rd a1 x305.toNat), .int .i64 0, .int .i64 (a0 - 1)]) rfl Try.call52 (W_impl_between fu G410 (rd a1 x305.toNat) 0 (a0 - 1) b466 h467)) ?_
                  refine AO.gp rfl rfl rfl (p_not rfl) ?_
                  refine AO.gp rfl rfl rfl (p_move rfl) ?_
                  refine AO.cases (d := 32) rfl (fun c470 => ?_) (fun c470 => ?_)
                  · have hd471 := bif_t c470 hd468
                    refine AO.gn rfl rfl rfl ?_
                    refine AO.gn rfl rfl rfl ?_
                    refine AO.gn rfl rfl rfl ?_
                    refine AO.gn rfl rfl rfl ?_
                    refine AO.gn rfl rfl rfl ?_
                    refine AO.gp rfl rfl rfl (p_pickT rfl rfl) ?_
                    refine AO.gp rfl rfl rfl (p_pickT rfl rfl) ?_
                    refine AO.p rfl (p_pickF rfl rfl) ?_
                    refine AO.nil ?_
                    have S472 := S409.front 0 rfl
                    exact ⟨true, (some_inj hd471), S472, Sub.cons' rfl rfl (Sub.cons' rfl rfl (Sub.cons' rfl rfl (Sub.cons' rfl rfl (Sub.cons' rfl rfl (Sub.nil _)))))⟩
                  · have hd473 := bif_f c470 hd468
                    refine AO.gp rfl rfl rfl (p_move rfl) ?_
                    obtain ⟨k474, hd475⟩ := chk_some hd473
                    refine AO.gp rfl rfl rfl (s_indexAr (q := (rd a1 x305.toNat).toNat) Try.underlying54 Try.sizeOf2 rfl rfl k474 (z1 _)) ?_
                    refine AO.gc rfl rfl rfl (s_load Try.isAgg2 rfl (row_cell (S409.get (k := 0) rfl) (ints_get (lt_len h_a1 (inR_lt k474))))) ?_
                    refine AO.gp rfl rfl rfl (p_move rfl) ?_
                    refine AO.gp rfl rfl rfl (p_neq rfl rfl) ?_
                    refine AO.gp rfl rfl rfl (p_pickF rfl rfl) ?_
                    refine AO.gp rfl rfl rfl (p_pickT rfl rfl) ?_
                    refine AO.p rfl (p_pickF rfl rfl) ?_
                    refine AO.nil ?_
                    have S476 := S409.front 0 rfl
                    exact ⟨(!decide (rd a1 ((rd a1 x305.toNat).toNat) = x305)), (some_inj hd475), S476, Sub.cons' rfl rfl (Sub.cons' rfl rfl (Sub.cons' rfl rfl (Sub.cons' rfl rfl (Sub.cons' rfl rfl (Sub.nil _)))))⟩
                · have hd477 := bif_f c462 hd461
                  refine AO.gn rfl rfl rfl ?_
                  refine AO.gn rfl rfl rfl ?_
                  refine AO.gn rfl rfl rfl ?_
                  refine AO.gn rfl rfl rfl ?_
                  refine AO.gn rfl rfl rfl ?_
                  refine AO.gn rfl rfl rfl ?_
                  refine AO.gu rfl rfl rfl ?_
                  refine AO.gu rfl rfl rfl ?_
                  refine AO.gu rfl rfl rfl ?_
                  refine AO.gu rfl rfl rfl ?_
                  refine AO.gu rfl rfl rfl ?_
                  refine AO.gn rfl rfl rfl ?_
                  refine AO.gp rfl rfl rfl (p_pickF rfl rfl) ?_
                  refine AO.p rfl (p_pickF rfl rfl) ?_
                  refine AO.nil ?_
                  have S478 := S409.front 0 rfl
                  exact ⟨false, (some_inj hd477), S478, Sub.cons' rfl rfl (Sub.cons' rfl rfl (Sub.cons' rfl rfl (Sub.cons' rfl rfl (Sub.cons' rfl rfl (Sub.nil _)))))⟩
            · have hd479 := bif_f c456 hb454
              refine AO.gn rfl rfl rfl ?_
              refine AO.gn rfl rfl rfl ?_
              refine AO.p rfl (p_pickF rfl rfl) ?_
              refine AO.p rfl (p_move rfl) ?_
              refine AO.gp rfl rfl rfl (p_move rfl) ?_
              refine AO.gp rfl rfl rfl (p_move rfl) ?_
              refine AO.gp rfl rfl rfl (p_lss rfl rfl) ?_
              refine AO.gp rfl rfl rfl (p_move rfl) ?_
              refine AO.cases (d := 26) rfl (fun c480 => ?_) (fun c480 => ?_)
              · have hd481 := bif_t c480 hd479
                refine AO.gp rfl rfl rfl (p_move rfl) ?_
                refine AO.gp rfl rfl rfl (p_move rfl) ?_
                obtain ⟨k482, hd483⟩ := chk_some hd481
                refine AO.gp rfl rfl rfl (p_subE rfl rfl k482) ?_
                obtain ⟨b484, h485, hd486⟩ := bnd_some hd483
                refine AO.gc rfl rfl rfl (o_call (vs := [.int .i64 (rd a1 x305.toNat), .int .i64 0, .int .i64 (a0 - 1)]) rfl Try.call52 (W_impl_between fu G410 (rd a1 x305.toNat) 0 (a0 - 1) b484 h485)) ?_
                refine AO.gp rfl rfl rfl (p_not rfl) ?_
                refine AO.gp rfl rfl rfl (p_move rfl) ?_
                refine AO.cases (d := 32) rfl (fun c488 => ?_) (fun c488 => ?_)
                · have hd489 := bif_t c488 hd486
                  refine AO.gn rfl rfl rfl ?_
                  refine AO.gn rfl rfl rfl ?_
                  refine AO.gn rfl rfl rfl ?_
                  refine AO.gn rfl rfl rfl ?_
                  refine AO.gn rfl rfl rfl ?_
                  refine AO.gp rfl rfl rfl (p_pickT rfl rfl) ?_
                  refine AO.gp rfl rfl rfl (p_pickT rfl rfl) ?_
                  refine AO.p rfl (p_pickF rfl rfl) ?_
                  refine AO.nil ?_
                  have S490 := S409.front 0 rfl
                  exact ⟨true, (some_inj hd489), S490, Sub.cons' rfl rfl (Sub.cons' rfl rfl (Sub.cons' rfl rfl (Sub.cons' rfl rfl (Sub.cons' rfl rfl (Sub.nil _)))))⟩
                · have hd491 := bif_f c488 hd486
                  refine AO.gp rfl rfl rfl (p_move rfl) ?_
                  obtain ⟨k492, hd493⟩ := chk_some hd491
                  refine AO.gp rfl rfl rfl (s_indexAr (q := (rd a1 x305.toNat).toNat) Try.underlying54 Try.sizeOf2 rfl rfl k492 (z1 _)) ?_
                  refine AO.gc rfl rfl rfl (s_load Try.isAgg2 rfl (row_cell (S409.get (k := 0) rfl) (ints_get (lt_len h_a1 (inR_lt k492))))) ?_
                  refine AO.gp rfl rfl rfl (p_move rfl) ?_
                  refine AO.gp rfl rfl rfl (p_neq rfl rfl) ?_
                  refine AO.gp rfl rfl rfl (p_pickF rfl rfl) ?_
                  refine AO.gp rfl rfl rfl (p_pickT rfl rfl) ?_
                  refine AO.p rfl (p_pickF rfl rfl) ?_
                  refine AO.nil ?_
                  have S494 := S409.front 0 rfl
                  exact ⟨(!decide (rd a1 ((rd a1 x305.toNat).toNat) = x305)), (some_inj hd493), S494, Sub.cons' rfl rfl (Sub.cons' rfl rfl (Sub.cons' rfl rfl (Sub.cons' rfl rfl (Sub.cons' rfl rfl (Sub.nil _)))))⟩
              · have hd495 := bif_f c480 hd479
                refine AO.gn rfl rfl rfl ?_
                refine AO.gn rfl rfl rfl ?_
                refine AO.gn rfl rfl rfl ?_
                refine AO.gn rfl rfl rfl ?_
                refine AO.gn rfl rfl rfl ?_
                refine AO.gn rfl rfl rfl ?_
                refine AO.gu rfl rfl rfl ?_
                refine AO.gu rfl rfl rfl ?_
                refine AO.gu rfl rfl rfl ?_
                refine AO.gu rfl rfl rfl ?_
                refine AO.gu rfl rfl rfl ?_
                refine AO.gn rfl rfl rfl ?_
                refine AO.gp rfl rfl rfl (p_pickF rfl rfl) ?_
                refine AO.p rfl (p_pickF rfl rfl) ?_
                refine AO.nil ?_
                have S496 := S409.front 0 rfl
                exact ⟨false, (some_inj hd495), S496, Sub.cons' rfl rfl (Sub.cons' rfl rfl (Sub.cons' rfl rfl (Sub.cons' rfl rfl (Sub.cons' rfl rfl (Sub.nil _)))))⟩
          · rintro t' G498 ⟨b452, rfl, S497, hsub499⟩
            refine AX.sub hsub499 ?_
            refine AX.cond rfl (fun c500 => ?_) (fun c500 => ?_)
            · have hd501 := bif_t c500 hd455
              refine AX.seq ?_
              refine AX.region ?_
              refine AO.p rfl (p_assign rfl) ?_
              refine AO.nil ?_
              refine AX.ret ?_
              obtain rfl := some_inj hd501
              have z502 : _ = r402 := hk408
              subst z502
              obtain rfl := some_inj hd404
              exact ⟨.inr rfl, _, res1 rfl (rv_tmp rfl), rfl, (flatB_ok rfl), S497.hold⟩
            · have hd503 := bif_f c500 hd455
              refine AX.skip ?_
              refine AX.region ?_
              obtain ⟨k504, hd505⟩ := chk_some hd503
              refine AO.p rfl (p_addE rfl rfl k504) ?_
              refine AO.p rfl (p_move rfl) ?_
              refine AO.nil ?_
              obtain rfl := some_inj hd505
              have S507 := S497.front 0 rfl
              exact ⟨x305 + 1, hk408, (x305 + 1), rfl, S507, Sub.cons' rfl rfl (Sub.cons' rfl rfl (Sub.cons' rfl rfl (Sub.cons' rfl rfl (Sub.nil _))))⟩
        · have hd508 := bif_f c413 ho407
          refine AX.exit ?_
          obtain rfl := some_inj hd508
          have S509 := S409.keep 0
          exact ⟨hk408, S509, Sub.nil _⟩
    · rintro t' G511 ⟨rfl, S510, hsub512⟩
      refine ⟨_, hsub512, ?_⟩
      refine AX.seq ?_
      refine AX.region ?_
      refine AO.p rfl (p_assign rfl) ?_
      refine AO.nil ?_
      refine AX.ret ?_
      obtain rfl := some_inj hd404
      exact ⟨.inr rfl, _, res1 rfl (rv_tmp rfl), rfl, (flatB_ok rfl), S510.hold⟩

set_option maxHeartbeats 4000000 in
theorem W_impl_IsSchedule_1 (fu : Nat) (H : AHeap) (a0 : List Int) (h_a0 : a0.length = 14) (i_b0 : Nat) (ro_b0 : Bool) (b0_0 : Int) (p_b0_1 : Option Addr) (c_b0_1 : Nat) (b0_1 : List (List Int)) (a_b0_1 : All 14 b0_1) (v_b0_1 : Vw H p_b0_1 b0_1.length c_b0_1 (ints b0_1.flatten)) (o_b0 : hget H i_b0 = .row ro_b0 ([.int .i64 b0_0, .slice p_b0_1 b0_1.length c_b0_1])) (r0 : Bool) (hd : D_impl_IsSchedule_1 fu a0 b0_0 b0_1 = some r0) : ACall Try.prog 152 [.agg (ints a0).toArray, .pointer (some ⟨i_b0, 0, none⟩)] H (.bool r0) H := by
  refine ACall.bodyP (N := 9) [(0, .agg (ints a0).toArray), (1, .pointer (some ⟨i_b0, 0, none⟩))] Try.func152 rfl rfl rfl rfl ?_
  unfold D_impl_IsSchedule_1 at hd
  have S0 : St [] H H [] := St.nil H
  refine AX.seq ?_
  refine AX.region ?_
  obtain ⟨G100, i101, hii101, hHG100, S102⟩ := S0.new (AObj.row false (ints a0))
  refine AO.c rfl (s_box (i := i101) (cs := ints a0) rfl hii101 rfl hHG100) ?_
  refine AO.p rfl (p_assign rfl) ?_
  refine AO.nil ?_
  refine AX.seq ?_
  refine AX.region ?_
  refine AO.p rfl (s_fieldAddr Try.underlying37 rfl Try.sizeOf2 (by decide) rfl rfl) ?_
  refine AO.c rfl (s_load Try.isAgg2 rfl (row_cell (S102.old o_b0 (by simp)) rfl)) ?_
  refine AO.c rfl (s_loadN (vs := ints a0) Try.isAgg54 Try.sizeOf54 rfl (ints_len h_a0) (row_cells (S102.get (k := 0) rfl))) ?_
  obtain ⟨b104, h105, hd106⟩ := bnd_some hd
  refine AO.c rfl (o_call (vs := [.int .i64 b0_0, .agg (ints a0).toArray]) rfl Try.call139 (W_impl_IsRound fu G100 b0_0 a0 h_a0 b104 h105)) ?_
  refine AO.p rfl (p_not rfl) ?_
  refine AO.p rfl (p_assign rfl) ?_
  refine AO.nil ?_
  refine AX.ret ?_
  obtain rfl := some_inj hd106
  exact ⟨.inr rfl, _, res1 rfl (rv_tmp rfl), rfl, (flatB_ok rfl), S102.hold⟩

set_option maxHeartbeats 4000000 in
theorem W_impl_IsSchedule (fu : Nat) (H : AHeap) (a0_0 : Int) (p_a0_1 : Option Addr) (c_a0_1 : Nat) (a0_1 : List (List Int)) (a_a0_1 : All 14 a0_1) (v_a0_1 : Vw H p_a0_1 a0_1.length c_a0_1 (ints a0_1.flatten)) (r0 : Bool) (hd : D_impl_IsSchedule fu a0_0 a0_1 = some r0) : ACall Try.prog 120 [.agg [.int .i64 a0_0, .slice p_a0_1 a0_1.length c_a0_1].toArray] H (.bool r0) H := by
  refine ACall.bodyP (N := 19) [(0, .agg [.int .i64 a0_0, .slice p_a0_1 a0_1.length c_a0_1].toArray)] Try.func120 rfl rfl rfl rfl ?_
  unfold D_impl_IsSchedule at hd
  have S0 : St [] H H [] := St.nil H
  refine AX.seq ?_
  refine AX.region ?_
  obtain ⟨G100, i101, hii101, hHG100, S102⟩ := S0.new (AObj.row false ([.int .i64 a0_0, .slice p_a0_1 a0_1.length c_a0_1]))
  refine AO.c rfl (s_box (i := i101) (cs := [.int .i64 a0_0, .slice p_a0_1 a0_1.length c_a0_1]) rfl hii101 rfl hHG100) ?_
  refine AO.p rfl (p_assign rfl) ?_
  refine AO.nil ?_
  obtain ⟨r119, hb120, hd121⟩ := bnd_some hd
  refine AX.cut (fun t' H' => ∃ (b118 : Bool), b118 = r119 ∧ St [] H H' [] ∧ Am.Sub [(2, .bool b118)] t') ?_ ?_
  · skip
    refine AX.region ?_
    refine AO.p rfl (s_fieldAddr Try.underlying37 rfl Try.sizeOf2 (by decide) rfl rfl) ?_
    refine AO.c rfl (s_load Try.isAgg2 rfl (row_cell (S102.get (k := 0) rfl) rfl)) ?_
    obtain ⟨b122, h123, hd124⟩ := bnd_some hb120
    refine AO.c rfl (o_call (vs := [.int .i64 a0_0, .int .i64 2, .int .i64 14]) rfl Try.call52 (W_impl_between fu G100 a0_0 2 14 b122 h123)) ?_
    refine AO.p rfl (p_move rfl) ?_
    refine AO.cases (d := 6) rfl (fun c126 => ?_) (fun c126 => ?_)
    · have hd127 := bif_t c126 hd124
      refine AO.gp rfl rfl rfl (s_fieldAddr Try.underlying37 rfl Try.sizeOf35 (by decide) rfl rfl) ?_
      refine AO.gc rfl rfl rfl (s_load Try.isAgg35 rfl (row_cell (S102.get (k := 0) rfl) rfl)) ?_
      refine AO.gp rfl rfl rfl (p_len_slice rfl Try.underlying35) ?_
      refine AO.gp rfl rfl rfl (p_leq rfl rfl) ?_
      refine AO.p rfl (p_pickT rfl rfl) ?_
      refine AO.p rfl (p_move rfl) ?_
      refine AO.cases (d := 12) rfl (fun c128 => ?_) (fun c128 => ?_)
      · have hd129 := bif_t c128 hd127
        refine AO.gp rfl rfl rfl (s_fieldAddr Try.underlying37 rfl Try.sizeOf35 (by decide) rfl rfl) ?_
        refine AO.gc rfl rfl rfl (s_load Try.isAgg35 rfl (row_cell (S102.get (k := 0) rfl) rfl)) ?_
        refine AO.gp rfl rfl rfl (p_makeFunc (fs := []) (cs := [.pointer (some ⟨i101, 0, none⟩)]) rfl rfl) ?_
        obtain ⟨b130, h131, hd132⟩ := bnd_some hd129
        refine AO.gc rfl rfl rfl (o_call (vs := [.slice p_a0_1 a0_1.length c_a0_1, .func (.func 152) #[] #[.pointer (some ⟨i101, 0, none⟩)]]) rfl Try.call151 (W_slices_ContainsFunc_Simpl_Round_impl_Round fu G100 p_a0_1 c_a0_1 a0_1 a_a0_1 (S102.view v_a0_1) 152 #[] #[.pointer (some ⟨i101, 0, none⟩)] (fun x0' => D_impl_IsSchedule_1 fu x0' a0_0 a0_1) Try.call152 (fun G' hG x0' hx0' b' hb' => W_impl_IsSchedule_1 fu G' x0' hx0' i101 false a0_0 p_a0_1 c_a0_1 a0_1 a_a0_1 (hG.view (S102.view v_a0_1)) (hG.get (S102.get (k := 0) rfl)) b' hb') b130 h131)) ?_
        refine AO.gp rfl rfl rfl (p_not rfl) ?_
        refine AO.p rfl (p_pickT rfl rfl) ?_
        refine AO.p rfl (p_assign rfl) ?_
        refine AO.nil ?_
        have S134 := S102.keep 0
        exact ⟨(!b130), (some_inj hd132), S134, Sub.cons' rfl rfl (Sub.nil _)⟩
      · have hd135 := bif_f c128 hd127
        refine AO.gn rfl rfl rfl ?_
        refine AO.gn rfl rfl rfl ?_
        refine AO.gn rfl rfl rfl ?_
        refine AO.gn rfl rfl rfl ?_
        refine AO.gn rfl rfl rfl ?_
        refine AO.p rfl (p_pickF rfl rfl) ?_
        refine AO.p rfl (p_assign rfl) ?_
        refine AO.nil ?_
        have S136 := S102.keep 0
        exact ⟨false, (some_inj hd135), S136, Sub.cons' rfl rfl (Sub.nil _)⟩
    · have hd137 := bif_f c126 hd124
      refine AO.gn rfl rfl rfl ?_
      refine AO.gn rfl rfl rfl ?_
      refine AO.gn rfl rfl rfl ?_
      refine AO.gn rfl rfl rfl ?_
      refine AO.p rfl (p_pickF rfl rfl) ?_
      refine AO.p rfl (p_move rfl) ?_
      refine AO.gn rfl rfl rfl ?_
      refine AO.gn rfl rfl rfl ?_
      refine AO.gn rfl rfl rfl ?_
      refine AO.gn rfl rfl rfl ?_
      refine AO.gn rfl rfl rfl ?_
      refine AO.p rfl (p_pickF rfl rfl) ?_
      refine AO.p rfl (p_assign rfl) ?_
      refine AO.nil ?_
      have S138 := S102.keep 0
      exact ⟨false, (some_inj hd137), S138, Sub.cons' rfl rfl (Sub.nil _)⟩
  · rintro t' G140 ⟨b118, rfl, S139, hsub141⟩
    refine AX.sub hsub141 ?_
    refine AX.ret ?_
    obtain rfl := some_inj hd121
    exact ⟨.inr rfl, _, res1 rfl (rv_tmp rfl), rfl, (flatB_ok rfl), S139.hold⟩

set_option maxHeartbeats 4000000 in
theorem W_impl_scheduleCode (fu : Nat) (H : AHeap) (a0_0 : Int) (p_a0_1 : Option Addr) (c_a0_1 : Nat) (a0_1 : List (List Int)) (a_a0_1 : All 14 a0_1) (v_a0_1 : Vw H p_a0_1 a0_1.length c_a0_1 (ints a0_1.flatten)) (f_a1 : FuncId) (fs_a1 cs_a1 : Array Value) (a1 : Unit → Option Bool) (hc_a1 : ∀ args w, (callFunc f_a1 args).run Try.prog w = .ok (.enter f_a1 args) w) (hq_a1 : ∀ H', ExtG H H' → ∀ (b : Bool), a1 () = some b → ACall Try.prog f_a1 (fs_a1.toList ++ [] ++ cs_a1.toList) H' (.bool b) H') (r0 : Int) (hd : D_impl_scheduleCode fu a0_0 a0_1 a1 = some r0) : ACall Try.prog 68 [.agg [.int .i64 a0_0, .slice p_a0_1 a0_1.length c_a0_1].toArray, .func (.func f_a1) fs_a1 cs_a1] H (.int .i64 r0) H := by
  refine ACall.bodyP (N := 13) [(0, .agg [.int .i64 a0_0, .slice p_a0_1 a0_1.length c_a0_1].toArray), (1, .func (.func f_a1) fs_a1 cs_a1)] Try.func68 rfl rfl rfl rfl ?_
  unfold D_impl_scheduleCode at hd
  have S0 : St [] H H [] := St.nil H
  refine AX.seq ?_
  refine AX.region ?_
  obtain ⟨G100, i101, hii101, hHG100, S102⟩ := S0.new (AObj.row false ([.int .i64 a0_0, .slice p_a0_1 a0_1.length c_a0_1]))
  refine AO.c rfl (s_box (i := i101) (cs := [.int .i64 a0_0, .slice p_a0_1 a0_1.length c_a0_1]) rfl hii101 rfl hHG100) ?_
  refine AO.p rfl (p_assign rfl) ?_
  refine AO.nil ?_
  refine AX.seq ?_
  refine AX.block ?_
  refine AX.seq ?_
  refine AX.region ?_
  refine AO.c rfl (s_loadN (vs := [.int .i64 a0_0, .slice p_a0_1 a0_1.length c_a0_1]) Try.isAgg37 Try.sizeOf37 rfl rfl (row_cells (S102.get (k := 0) rfl))) ?_
  obtain ⟨b104, h105, hd106⟩ := bnd_some hd
  refine AO.c rfl (o_call (vs := [.agg [.int .i64 a0_0, .slice p_a0_1 a0_1.length c_a0_1].toArray]) rfl Try.call120 (W_impl_IsSchedule fu G100 a0_0 p_a0_1 c_a0_1 a0_1 a_a0_1 (S102.view v_a0_1) b104 h105)) ?_
  refine AO.p rfl (p_not rfl) ?_
  refine AO.p rfl (p_assign rfl) ?_
  refine AO.nil ?_
  refine AX.cond rfl (fun c108 => ?_) (fun c108 => ?_)
  · have hd109 := bif_t c108 hd106
    refine AX.seq ?_
    refine AX.region ?_
    refine AO.p rfl (p_assign rfl) ?_
    refine AO.nil ?_
    refine AX.ret ?_
    obtain rfl := some_inj hd109
    exact ⟨.inr rfl, _, res1 rfl (rv_tmp rfl), rfl, (flatB_ok rfl), S102.hold⟩
  · have hd110 := bif_f c108 hd106
    refine AX.seq ?_
    refine AX.region ?_
    refine AO.p rfl (p_move rfl) ?_
    obtain ⟨b111, h112, hd113⟩ := bnd_some hd110
    refine AO.c rfl (o_callV (vs := []) rfl rfl hc_a1 (hq_a1 G100 S102.ext  b111 h112)) ?_
    refine AO.p rfl (p_not rfl) ?_
    refine AO.p rfl (p_assign rfl) ?_
    refine AO.nil ?_
    refine AX.cond rfl (fun c114 => ?_) (fun c114 => ?_)
    · have hd115 := bif_t c114 hd113
      refine AX.seq ?_
      refine AX.region ?_
      refine AO.p rfl (p_assign rfl) ?_
      refine AO.nil ?_
      refine AX.ret ?_
      obtain rfl := some_inj hd115
      exact ⟨.inr rfl, _, res1 rfl (rv_tmp rfl), rfl, (flatB_ok rfl), S102.hold⟩
    · have hd116 := bif_f c114 hd113
      refine AX.skip ?_
      refine AX.seq ?_
      refine AX.region ?_
      refine AO.p rfl (p_assign rfl) ?_
      refine AO.nil ?_
      refine AX.ret ?_
      obtain rfl := some_inj hd116
      exact ⟨.inr rfl, _, res1 rfl (rv_tmp rfl), rfl, (flatB_ok rfl), S102.hold⟩

set_option maxHeartbeats 4000000 in
theorem W_impl_Round_pairs (fu : Nat) (H : AHeap) (a0 : List Int) (h_a0 : a0.length = 14) (a1 : Int) (r0 : List (List Int)) (hd : D_impl_Round_pairs fu a0 a1 = some r0) : ∃ v G', ACall Try.prog 70 [.agg (ints a0).toArray, .int .i64 a1] H v G' ∧ ∃ (p_r0 : Option Addr) (c_r0 : Nat) (T_r0 : Tb), (v = .slice p_r0 r0.length c_r0) ∧ St [] H G' [oseg p_r0 (tcells T_r0), tseg T_r0] ∧ Sb p_r0 r0.length c_r0 1 ∧ trows T_r0 = r0 ∧ TSb T_r0 := by
  refine ACall.bodyX (args := [.agg (ints a0).toArray, .int .i64 a1]) (N := 27) [(0, .agg (ints a0).toArray), (1, .int .i64 a1)] (fun v G' => ∃ (p_r0 : Option Addr) (c_r0 : Nat) (T_r0 : Tb), (v = .slice p_r0 r0.length c_r0) ∧ St [] H G' [oseg p_r0 (tcells T_r0), tseg T_r0] ∧ Sb p_r0 r0.length c_r0 1 ∧ trows T_r0 = r0 ∧ TSb T_r0) Try.func70 rfl rfl rfl rfl ?_
  unfold D_impl_Round_pairs at hd
  have S0 : St [] H H [] := St.nil H
  refine AX.seq ?_
  refine AX.region ?_
  obtain ⟨G100, i101, hii101, hHG100, S102⟩ := S0.new (AObj.row false (ints a0))
  refine AO.c rfl (s_box (i := i101) (cs := ints a0) rfl hii101 rfl hHG100) ?_
  refine AO.p rfl (p_assign rfl) ?_
  refine AO.nil ?_
  refine AX.seq ?_
  refine AX.region ?_
  obtain ⟨G104, i105, hii105, hHG104, S106⟩ := S102.new (AObj.row false (tcells []))
  have S106t := S106.nilseg 1
  refine AO.c rfl (s_build0 (i := i105) Try.underlying43 Try.sizeOf58 hii105 hHG104) ?_
  refine AO.p rfl (p_assign rfl) ?_
  refine AO.nil ?_
  refine AX.seq ?_
  refine AX.seq ?_
  refine AX.region ?_
  refine AO.p rfl (p_move rfl) ?_
  refine AO.p rfl (p_move rfl) ?_
  refine AO.nil ?_
  obtain ⟨r233, hl234, hd235⟩ := bnd_some hd
  refine AX.cutS (fun t' H' => ∃ (rs231 : List (List Int)) (p229 : Option Addr) (c230 : Nat) (T232 : Tb), rs231 = r233 ∧ St [] H H' [oseg p229 (tcells T232), tseg T232] ∧ trows T232 = rs231 ∧ TSb T232 ∧ Sb p229 (rs231.length) c230 1 ∧ Am.Sub [(5, .slice p229 rs231.length c230)] t') ?_ ?_
  · refine AX.block ?_
    refine AX.loopF (fun s' t' H' => ∃ (rs189 : List (List Int)) (x191 : Int) (p187 : Option Addr) (c188 : Nat) (T190 : Tb), (rs189, x191) = s' ∧ St [] H H' [[(i101, AObj.row false (ints a0))], oseg p187 (tcells T190), tseg T190] ∧ trows T190 = rs189 ∧ TSb T190 ∧ Sb p187 (rs189.length) c188 1 ∧ Am.Sub [(2, .pointer (some ⟨i101, 0, none⟩)), (5, .slice p187 rs189.length c188), (8, .int .i64 a1), (9, .int .i64 x191)] t') hl234 ?_ ?_
    · skip
      have S236 := S106t.front 1 rfl
      have S237 := S236.front 1 rfl
      have S238 := S237.front 2 rfl
      exact ⟨[], 0, (some (Addr.mk i105 0 none)), 0, [], rfl, S238, rfl, TSb.nil, (Sb.lit (n := 0) (by decide)), Sub.cons' rfl rfl (Sub.cons' rfl rfl (Sub.cons' rfl rfl (Sub.cons' rfl rfl (Sub.nil _))))⟩
    · rintro n239 _ t' G243 ⟨rs189, x191, p187, c188, T190, rfl, S242, tT190, sT190, Bo186, hsub244⟩ o245 ho240 hk241
      refine AX.sub hsub244 ?_
      unfold D_impl_Round_pairs_s0 at ho240
      refine AX.seq ?_
      refine AX.region ?_
      refine AO.p rfl (p_lss rfl rfl) ?_
      refine AO.nil ?_
      refine AX.seq ?_
      refine AX.cond rfl (fun c246 => ?_) (fun c246 => ?_)
      · have hd247 := bif_t c246 ho240
        refine AX.skip ?_
        refine AX.seq ?_
        refine AX.block ?_
        refine AX.seq ?_
        refine AX.region ?_
        refine AO.p rfl (p_move rfl) ?_
        refine AO.p rfl (p_assign rfl) ?_
        refine AO.nil ?_
        refine AX.seq ?_
        refine AX.region ?_
        refine AO.p rfl (p_move rfl) ?_
        refine AO.p rfl (p_move rfl) ?_
        obtain ⟨k248, hd249⟩ := chk_some hd247
        refine AO.p rfl (s_indexAr (q := x191.toNat) Try.underlying54 Try.sizeOf2 rfl rfl k248 (z1 _)) ?_
        refine AO.c rfl (s_load Try.isAgg2 rfl (row_cell (S242.get (k := 0) rfl) (ints_get (lt_len h_a0 (inR_lt k248))))) ?_
        refine AO.p rfl (p_lss rfl rfl) ?_
        refine AO.nil ?_
        refine AX.cond rfl (fun c250 => ?_) (fun c250 => ?_)
        · have hd251 := bif_t c250 hd249
          refine AX.region ?_
          refine AO.p rfl (p_move rfl) ?_
          refine AO.p rfl (p_move rfl) ?_
          refine AO.p rfl (p_move rfl) ?_
          obtain ⟨k252, hd253⟩ := chk_some hd251
          refine AO.p rfl (s_indexAr (q := x191.toNat) Try.underlying54 Try.sizeOf2 rfl rfl k252 (z1 _)) ?_
          refine AO.c rfl (s_load Try.isAgg2 rfl (row_cell (S242.get (k := 0) rfl) (ints_get (lt_len h_a0 (inR_lt k252))))) ?_
          obtain ⟨G254, i255, hii255, hHG254, S256⟩ := S242.new (AObj.row false (ints [x191, rd a0 x191.toNat]))
          refine AO.c rfl (s_buildInts (i := i255) (vs := [(0, .int .i64 x191), (1, .int .i64 (rd a0 x191.toNat))]) (xs := [x191, rd a0 x191.toNat]) Try.underlying58 Try.sizeOf2 Try.zeroValue2 rfl rfl (by decide) rfl rfl hii255 hHG254) ?_
          obtain ⟨G258, i259, hii259, hHG258, S260⟩ := S256.new (AObj.row false (tcells ([((some (Addr.mk i255 0 none)), 2, [x191, rd a0 x191.toNat])])))
          have S262 := (S260.front 1 rfl).tone (some (Addr.mk i255 0 none)) 2 [x191, rd a0 x191.toNat] rfl
          refine AO.c rfl (s_buildT1 (i := i259) (X := [((some (Addr.mk i255 0 none)), 2, [x191, rd a0 x191.toNat])]) (n := 2) rfl Try.underlying43 Try.sizeOf58 Try.zeroValue58 rfl rfl hii259 hHG258) ?_
          obtain ⟨k263, hd264⟩ := chk_some hd253
          obtain ⟨p265, c266, G267, haG267, S268, Bp265⟩ := S262.app (k := 3) rfl Bo186 (tcells ([((some (Addr.mk i255 0 none)), 2, [x191, rd a0 x191.toNat])])) 1 (tc_len1 rfl rfl)
          have S269 := S268.cellsEq (k := 3) (us' := tcells (T190 ++ [((some (Addr.mk i255 0 none)), 2, [x191, rd a0 x191.toNat])])) (tcells_app _ _).symm rfl
          have BS269 : Sb p265 ((rs189 ++ [[x191, rd a0 x191.toNat]]).length) c266 1 := (show rs189.length + 1 = (rs189 ++ [[x191, rd a0 x191.toNat]]).length from len_app (a := rs189) (b := [[x191, rd a0 x191.toNat]]) rfl rfl) ▸ Bp265
          have S270 := S269.front 0 rfl
          have S271 := (S270.front 4 rfl).tmerge
          have S272 := S271.drop 1 rfl
          refine AO.c rfl (s_app (by_ := 24) (us := tcells T190) (vs := tcells ([((some (Addr.mk i255 0 none)), 2, [x191, rd a0 x191.toNat])])) Try.underlying43 Try.underlying43 Try.typeInfo58 Try.sizeOf58 Try.zeroValue58 rfl rfl rfl rfl rfl rfl rfl (S262.buf (k := 3) rfl Bo186 (tc_len1 tT190 rfl)) (S262.oview (k := 1) rfl (Sb.lit (n := 1) (by decide)) (tc_len1 rfl rfl)) (tc_len1 rfl rfl) tcells_one k263 haG267 (show rs189.length + 1 = (rs189 ++ [[x191, rd a0 x191.toNat]]).length from len_app (a := rs189) (b := [[x191, rd a0 x191.toNat]]) rfl rfl)) ?_
          refine AO.p rfl (p_assign rfl) ?_
          refine AO.nil ?_
          refine AX.region ?_
          obtain ⟨k273, hd274⟩ := chk_some hd264
          refine AO.p rfl (p_addE rfl rfl k273) ?_
          refine AO.p rfl (p_move rfl) ?_
          refine AO.nil ?_
          obtain rfl := some_inj hd274
          have S276 := S272.front 0 rfl
          have S277 := S276.front 2 rfl
          have S278 := S277.front 2 rfl
          exact ⟨((rs189 ++ [[x191, rd a0 x191.toNat]]), x191 + 1), hk241, (rs189 ++ [[x191, rd a0 x191.toNat]]), (x191 + 1), p265, c266, (T190 ++ [((some (Addr.mk i255 0 none)), 2, [x191, rd a0 x191.toNat])]), rfl, S278, (trows_apps tT190 rfl), (TSb.app sT190 (TSb.one (sb_len rfl (Sb.lit (n := 2) (by decide))))), BS269, Sub.cons' rfl rfl (Sub.cons' rfl rfl (Sub.cons' rfl rfl (Sub.cons' rfl rfl (Sub.nil _))))⟩
        · have hd279 := bif_f c250 hd249
          refine AX.skip ?_
          refine AX.region ?_
          obtain ⟨k280, hd281⟩ := chk_some hd279
          refine AO.p rfl (p_addE rfl rfl k280) ?_
          refine AO.p rfl (p_move rfl) ?_
          refine AO.nil ?_
          obtain rfl := some_inj hd281
          have S283 := S242.front 2 rfl
          have S284 := S283.front 2 rfl
          have S285 := S284.front 2 rfl
          exact ⟨(rs189, x191 + 1), hk241, rs189, (x191 + 1), p187, c188, T190, rfl, S285, tT190, sT190, Bo186, Sub.cons' rfl rfl (Sub.cons' rfl rfl (Sub.cons' rfl rfl (Sub.cons' rfl rfl (Sub.nil _))))⟩
      · have hd286 := bif_f c246 ho240
        refine AX.exit ?_
        obtain rfl := some_inj hd286
        have S287 := S242.front 2 rfl
        have S288 := S287.front 2 rfl
        have S289 := S288.keep 2
        exact ⟨rs189, p187, c188, T190, hk241, S289, tT190, sT190, Bo186, Sub.cons' rfl rfl (Sub.nil _)⟩
  · rintro t' G291 ⟨rs231, p229, c230, T232, rfl, S290, tT232, sT232, Bo228, hsub292⟩
    refine ⟨_, hsub292, ?_⟩
    refine AX.seq ?_
    refine AX.region ?_
    refine AO.p rfl (p_move rfl) ?_
    refine AO.p rfl (p_assign rfl) ?_
    refine AO.nil ?_
    refine AX.ret ?_
    obtain rfl := some_inj hd235
    have S293 := S290.front 1 rfl
    have S294 := S293.front 1 rfl
    exact ⟨.inr rfl, _, res1 rfl (rv_tmp rfl), p229, c230, T232, rfl, S294, Bo228, tT232, sT232⟩

set_option maxHeartbeats 4000000 in
theorem W_impl_Schedule_firstVenues (fu : Nat) (H : AHeap) (a0_0 : Int) (p_a0_1 : Option Addr) (c_a0_1 : Nat) (a0_1 : List (List Int)) (a_a0_1 : All 14 a0_1) (v_a0_1 : Vw H p_a0_1 a0_1.length c_a0_1 (ints a0_1.flatten)) (r0 : List (List Int)) (hd : D_impl_Schedule_firstVenues fu a0_0 a0_1 = some r0) : ∃ v G', ACall Try.prog 71 [.agg [.int .i64 a0_0, .slice p_a0_1 a0_1.length c_a0_1].toArray] H v G' ∧ ∃ (p_r0 : Option Addr) (c_r0 : Nat) (T_r0 : Tb), (v = .slice p_r0 r0.length c_r0) ∧ St [] H G' [oseg p_r0 (tcells T_r0), tseg T_r0] ∧ Sb p_r0 r0.length c_r0 1 ∧ trows T_r0 = r0 ∧ TSb T_r0 := by
  refine ACall.bodyX (args := [.agg [.int .i64 a0_0, .slice p_a0_1 a0_1.length c_a0_1].toArray]) (N := 49) [(0, .agg [.int .i64 a0_0, .slice p_a0_1 a0_1.length c_a0_1].toArray)] (fun v G' => ∃ (p_r0 : Option Addr) (c_r0 : Nat) (T_r0 : Tb), (v = .slice p_r0 r0.length c_r0) ∧ St [] H G' [oseg p_r0 (tcells T_r0), tseg T_r0] ∧ Sb p_r0 r0.length c_r0 1 ∧ trows T_r0 = r0 ∧ TSb T_r0) Try.func71 rfl rfl rfl rfl ?_
  unfold D_impl_Schedule_firstVenues at hd
  have S0 : St [] H H [] := St.nil H
  refine AX.seq ?_
  refine AX.region ?_
  obtain ⟨G100, i101, hii101, hHG100, S102⟩ := S0.new (AObj.row false ([.int .i64 a0_0, .slice p_a0_1 a0_1.length c_a0_1]))
  refine AO.c rfl (s_box (i := i101) (cs := [.int .i64 a0_0, .slice p_a0_1 a0_1.length c_a0_1]) rfl hii101 rfl hHG100) ?_
  refine AO.p rfl (p_assign rfl) ?_
  refine AO.nil ?_
  refine AX.seq ?_
  refine AX.region ?_
  obtain ⟨G104, i105, hii105, hHG104, S106⟩ := S102.new (AObj.row false (tcells []))
  have S106t := S106.nilseg 1
  refine AO.c rfl (s_build0 (i := i105) Try.underlying43 Try.sizeOf58 hii105 hHG104) ?_
  refine AO.p rfl (p_assign rfl) ?_
  refine AO.nil ?_
  refine AX.seq ?_
  refine AX.seq ?_
  refine AX.region ?_
  refine AO.p rfl (s_fieldAddr Try.underlying37 rfl Try.sizeOf35 (by decide) rfl rfl) ?_
  refine AO.c rfl (s_load Try.isAgg35 rfl (row_cell (S106t.get (k := 2) rfl) rfl)) ?_
  refine AO.p rfl (p_len_slice rfl Try.underlying35) ?_
  refine AO.p rfl (p_move rfl) ?_
  refine AO.nil ?_
  obtain ⟨r762, hl763, hd764⟩ := bnd_some hd
  refine AX.cutS (fun t' H' => ∃ (rs760 : List (List Int)) (p758 : Option Addr) (c759 : Nat) (T761 : Tb), rs760 = r762 ∧ St [] H H' [oseg p758 (tcells T761), tseg T761] ∧ trows T761 = rs760 ∧ TSb T761 ∧ Sb p758 (rs760.length) c759 1 ∧ Am.Sub [(3, .slice p758 rs760.length c759)] t') ?_ ?_
  · refine AX.block ?_
    refine AX.loopF (fun s' t' H' => ∃ (rs543 : List (List Int)) (x545 : Int) (p541 : Option Addr) (c542 : Nat) (T544 : Tb), (rs543, x545) = s' ∧ St [] H H' [[(i101, AObj.row false ([.int .i64 a0_0, .slice p_a0_1 a0_1.length c_a0_1]))], oseg p541 (tcells T544), tseg T544] ∧ trows T544 = rs543 ∧ TSb T544 ∧ Sb p541 (rs543.length) c542 1 ∧ Am.Sub [(1, .pointer (some ⟨i101, 0, none⟩)), (3, .slice p541 rs543.length c542), (10, .slice p_a0_1 a0_1.length c_a0_1), (11, .int .i64 ((a0_1.length : Nat) : Int)), (12, .int .i64 x545)] t') hl763 ?_ ?_
    · skip
      have S765 := S106t.front 1 rfl
      have S766 := S765.front 1 rfl
      have S767 := S766.front 2 rfl
      exact ⟨[], 0, (some (Addr.mk i105 0 none)), 0, [], rfl, S767, rfl, TSb.nil, (Sb.lit (n := 0) (by decide)), Sub.cons' rfl rfl (Sub.cons' rfl rfl (Sub.cons' rfl rfl (Sub.cons' rfl rfl (Sub.cons' rfl rfl (Sub.nil _)))))⟩
    · rintro n768 _ t' G772 ⟨rs543, x545, p541, c542, T544, rfl, S771, tT544, sT544, Bo540, hsub773⟩ o774 ho769 hk770
      refine AX.sub hsub773 ?_
      unfold D_impl_Schedule_firstVenues_s0 at ho769
      refine AX.seq ?_
      refine AX.region ?_
      refine AO.p rfl (p_lss rfl rfl) ?_
      refine AO.nil ?_
      refine AX.seq ?_
      refine AX.cond rfl (fun c775 => ?_) (fun c775 => ?_)
      · have hd776 := bif_t c775 ho769
        refine AX.skip ?_
        refine AX.seq ?_
        refine AX.block ?_
        refine AX.seq ?_
        refine AX.region ?_
        obtain ⟨k777, hd778⟩ := chk_some hd776
        refine AO.p rfl (s_indexV (q := off p_a0_1 + x545.toNat * 14) Try.underlying35 Try.sizeOf54 rfl ((S771.view v_a0_1).rowne a_a0_1 (by decide) (lt_len rfl (inR_lt k777))) rfl k777 rfl) ?_
        refine AO.c rfl (s_loadN (vs := ints (rw_ a0_1 x545.toNat)) Try.isAgg54 Try.sizeOf54 rfl (ints_len (rw_len a_a0_1 (lt_len rfl (inR_lt k777)))) ((S771.view v_a0_1).row a_a0_1 (lt_len rfl (inR_lt k777)))) ?_
        obtain ⟨G779, i780, hii780, hHG779, S781⟩ := S771.new (AObj.row false (ints (List.replicate 14 0)))
        refine AO.c rfl (s_alloc (i := i780) (cs := ints (List.replicate 14 0)) Try.zeroValue54 rfl rfl hii780 hHG779) ?_
        obtain ⟨G783, hHG783, S784⟩ := S781.set (k := 0) (i := i780) rfl (AObj.row false (ints (rw_ a0_1 x545.toNat)))
        refine AO.s (s_storeAll (vs := ints (rw_ a0_1 x545.toNat)) Try.sizeOf54 rfl rfl ints_one (S781.get (k := 0) rfl) (ints_len (rw_len a_a0_1 (lt_len rfl (inR_lt k777)))) (ints_len len_rep) hHG783) ?_
        refine AO.nil ?_
        refine AX.seq ?_
        refine AX.region ?_
        refine AO.p rfl (s_fieldAddr Try.underlying37 rfl Try.sizeOf2 (by decide) rfl rfl) ?_
        refine AO.c rfl (s_load Try.isAgg2 rfl (row_cell (S784.get (k := 1) rfl) rfl)) ?_
        obtain ⟨k785, hd786⟩ := chk_some hd778
        obtain ⟨G787, i788, hii788, hHG787, S789⟩ := S784.new (AObj.row false (ints (List.replicate a0_0.toNat 0)))
        refine AO.c rfl (s_makeIntsE (i := i788) (by_ := 8) Try.underlying58 Try.typeInfo2 Try.sizeOf2 Try.zeroValue2 rfl rfl rfl rfl rfl k785 hii788 hHG787) ?_
        refine AO.p rfl (p_assign rfl) ?_
        refine AO.nil ?_
        refine AX.seq ?_
        refine AX.seq ?_
        refine AX.region ?_
        refine AO.p rfl (s_fieldAddr Try.underlying37 rfl Try.sizeOf2 (by decide) rfl rfl) ?_
        refine AO.c rfl (s_load Try.isAgg2 rfl (row_cell (S789.get (k := 2) rfl) rfl)) ?_
        refine AO.p rfl (p_move rfl) ?_
        refine AO.nil ?_
        obtain ⟨r897, hl898, hd899⟩ := bnd_some hd786
        refine AX.cutS (fun t' H' => ∃ (xs896 : List Int), xs896 = r897 ∧ St [] H H' [[(i101, AObj.row false ([.int .i64 a0_0, .slice p_a0_1 a0_1.length c_a0_1]))], oseg p541 (tcells T544), tseg T544, [(i788, AObj.row false (ints xs896))]] ∧ xs896.length = a0_0.toNat ∧ Am.Sub [(1, .pointer (some ⟨i101, 0, none⟩)), (3, .slice p541 rs543.length c542), (6, .slice (some (Addr.mk i788 0 none)) a0_0.toNat a0_0.toNat), (10, .slice p_a0_1 a0_1.length c_a0_1), (11, .int .i64 ((a0_1.length : Nat) : Int)), (12, .int .i64 x545)] t') ?_ ?_
        · refine AX.block ?_
          refine AX.loopF (fun s' t' H' => ∃ (xs861 : List Int) (x862 : Int), (xs861, x862) = s' ∧ St [] H H' [[(i101, AObj.row false ([.int .i64 a0_0, .slice p_a0_1 a0_1.length c_a0_1]))], oseg p541 (tcells T544), tseg T544, [(i780, AObj.row false (ints (rw_ a0_1 x545.toNat)))], [(i788, AObj.row false (ints xs861))]] ∧ xs861.length = a0_0.toNat ∧ Am.Sub [(1, .pointer (some ⟨i101, 0, none⟩)), (3, .slice p541 rs543.length c542), (5, .pointer (some ⟨i780, 0, none⟩)), (6, .slice (some (Addr.mk i788 0 none)) a0_0.toNat a0_0.toNat), (10, .slice p_a0_1 a0_1.length c_a0_1), (11, .int .i64 ((a0_1.length : Nat) : Int)), (12, .int .i64 x545), (20, .int .i64 a0_0), (21, .int .i64 x862)] t') hl898 ?_ ?_
          · skip
            have S900 := S789.front 0 rfl
            have S901 := S900.front 1 rfl
            have S902 := S901.front 4 rfl
            have S903 := S902.front 4 rfl
            have S904 := S903.front 4 rfl
            exact ⟨(List.replicate a0_0.toNat 0), 0, rfl, S904, len_rep, Sub.cons' rfl rfl (Sub.cons' rfl rfl (Sub.cons' rfl rfl (Sub.cons' rfl rfl (Sub.cons' rfl rfl (Sub.cons' rfl rfl (Sub.cons' rfl rfl (Sub.cons' rfl rfl (Sub.cons' rfl rfl (Sub.nil _)))))))))⟩
          · rintro n905 _ t' G909 ⟨xs861, x862, rfl, S908, lxs861, hsub910⟩ o911 ho906 hk907
            refine AX.sub hsub910 ?_
            unfold D_impl_Schedule_firstVenues_s1 at ho906
            refine AX.seq ?_
            refine AX.region ?_
            refine AO.p rfl (p_lss rfl rfl) ?_
            refine AO.nil ?_
            refine AX.seq ?_
            refine AX.cond rfl (fun c912 => ?_) (fun c912 => ?_)
            · have hd913 := bif_t c912 ho906
              refine AX.skip ?_
              refine AX.seq ?_
              refine AX.block ?_
              refine AX.seq ?_
              refine AX.region ?_
              refine AO.p rfl (p_move rfl) ?_
              refine AO.p rfl (p_assign rfl) ?_
              refine AO.nil ?_
              refine AX.block ?_
              refine AX.seq ?_
              refine AX.region ?_
              refine AO.p rfl (p_move rfl) ?_
              obtain ⟨k914, hd915⟩ := chk_some hd913
              refine AO.p rfl (s_indexAr (q := x862.toNat) Try.underlying54 Try.sizeOf2 rfl rfl k914 (z1 _)) ?_
              refine AO.c rfl (s_load Try.isAgg2 rfl (row_cell (S908.get (k := 3) rfl) (ints_get (lt_len (rw_len a_a0_1 (lt_len rfl (inR_lt k777))) (inR_lt k914))))) ?_
              refine AO.p rfl (p_move rfl) ?_
              refine AO.p rfl (p_eql rfl rfl) ?_
              refine AO.p rfl (p_assign rfl) ?_
              refine AO.nil ?_
              refine AX.cond rfl (fun c916 => ?_) (fun c916 => ?_)
              · have hd917 := bif_t c916 hd915
                refine AX.region ?_
                refine AO.p rfl (p_move rfl) ?_
                refine AO.p rfl (p_move rfl) ?_
                obtain ⟨k918, hd919⟩ := chk_some hd917
                refine AO.p rfl (s_indexV (q := x862.toNat) Try.underlying58 Try.sizeOf2 rfl rfl rfl k918 (z1 _)) ?_
                obtain ⟨G920, hHG920, S921⟩ := S908.set (k := 4) (i := i788) rfl (AObj.row false (ints (xs861.set x862.toNat (-1))))
                refine AO.s (s_store Try.sizeOf2 rfl rfl rfl (S908.get (k := 4) rfl) (lt_len (ints_len lxs861) (inR_lt k918)) ((congrArg (fun l => List.set _ _ (AObj.row false l)) (ints_set _ _ _)).trans hHG920)) ?_
                refine AO.nil ?_
                refine AX.region ?_
                obtain ⟨k922, hd923⟩ := chk_some hd919
                refine AO.p rfl (p_addE rfl rfl k922) ?_
                refine AO.p rfl (p_move rfl) ?_
                refine AO.nil ?_
                obtain rfl := some_inj hd923
                have S925 := S921.front 4 rfl
                have S926 := S925.front 4 rfl
                have S927 := S926.front 4 rfl
                have S928 := S927.front 4 rfl
                have S929 := S928.front 4 rfl
                exact ⟨((xs861.set x862.toNat (-1)), x862 + 1), hk907, (xs861.set x862.toNat (-1)), (x862 + 1), rfl, S929, (len_set lxs861), Sub.cons' rfl rfl (Sub.cons' rfl rfl (Sub.cons' rfl rfl (Sub.cons' rfl rfl (Sub.cons' rfl rfl (Sub.cons' rfl rfl (Sub.cons' rfl rfl (Sub.cons' rfl rfl (Sub.cons' rfl rfl (Sub.nil _)))))))))⟩
              · have hd930 := bif_f c916 hd915
                refine AX.seq ?_
                refine AX.region ?_
                refine AO.p rfl (p_move rfl) ?_
                refine AO.p rfl (p_move rfl) ?_
                obtain ⟨k931, hd932⟩ := chk_some hd930
                refine AO.p rfl (s_indexAr (q := x862.toNat) Try.underlying54 Try.sizeOf2 rfl rfl k931 (z1 _)) ?_
                refine AO.c rfl (s_load Try.isAgg2 rfl (row_cell (S908.get (k := 3) rfl) (ints_get (lt_len (rw_len a_a0_1 (lt_len rfl (inR_lt k777))) (inR_lt k931))))) ?_
                refine AO.p rfl (p_lss rfl rfl) ?_
                refine AO.p rfl (p_assign rfl) ?_
                refine AO.nil ?_
                refine AX.cond rfl (fun c933 => ?_) (fun c933 => ?_)
                · have hd934 := bif_t c933 hd932
                  refine AX.region ?_
                  refine AO.p rfl (p_move rfl) ?_
                  refine AO.p rfl (p_move rfl) ?_
                  obtain ⟨k935, hd936⟩ := chk_some hd934
                  refine AO.p rfl (s_indexV (q := x862.toNat) Try.underlying58 Try.sizeOf2 rfl rfl rfl k935 (z1 _)) ?_
                  obtain ⟨G937, hHG937, S938⟩ := S908.set (k := 4) (i := i788) rfl (AObj.row false (ints (xs861.set x862.toNat 1)))
                  refine AO.s (s_store Try.sizeOf2 rfl rfl rfl (S908.get (k := 4) rfl) (lt_len (ints_len lxs861) (inR_lt k935)) ((congrArg (fun l => List.set _ _ (AObj.row false l)) (ints_set _ _ _)).trans hHG937)) ?_
                  refine AO.nil ?_
                  refine AX.region ?_
                  obtain ⟨k939, hd940⟩ := chk_some hd936
                  refine AO.p rfl (p_addE rfl rfl k939) ?_
                  refine AO.p rfl (p_move rfl) ?_
                  refine AO.nil ?_
                  obtain rfl := some_inj hd940
                  have S942 := S938.front 4 rfl
                  have S943 := S942.front 4 rfl
                  have S944 := S943.front 4 rfl
                  have S945 := S944.front 4 rfl
                  have S946 := S945.front 4 rfl
                  exact ⟨((xs861.set x862.toNat 1), x862 + 1), hk907, (xs861.set x862.toNat 1), (x862 + 1), rfl, S946, (len_set lxs861), Sub.cons' rfl rfl (Sub.cons' rfl rfl (Sub.cons' rfl rfl (Sub.cons' rfl rfl (Sub.cons' rfl rfl (Sub.cons' rfl rfl (Sub.cons' rfl rfl (Sub.cons' rfl rfl (Sub.cons' rfl rfl (Sub.nil _)))))))))⟩
                · have hd947 := bif_f c933 hd932
                  refine AX.skip ?_
                  refine AX.region ?_
                  obtain ⟨k948, hd949⟩ := chk_some hd947
                  refine AO.p rfl (p_addE rfl rfl k948) ?_
                  refine AO.p rfl (p_move rfl) ?_
                  refine AO.nil ?_
                  obtain rfl := some_inj hd949
                  have S951 := S908.front 4 rfl
                  have S952 := S951.front 4 rfl
                  have S953 := S952.front 4 rfl
                  have S954 := S953.front 4 rfl
                  have S955 := S954.front 4 rfl
                  exact ⟨(xs861, x862 + 1), hk907, xs861, (x862 + 1), rfl, S955, lxs861, Sub.cons' rfl rfl (Sub.cons' rfl rfl (Sub.cons' rfl rfl (Sub.cons' rfl rfl (Sub.cons' rfl rfl (Sub.cons' rfl rfl (Sub.cons' rfl rfl (Sub.cons' rfl rfl (Sub.cons' rfl rfl (Sub.nil _)))))))))⟩
            · have hd956 := bif_f c912 ho906
              refine AX.exit ?_
              obtain rfl := some_inj hd956
              have S957 := S908.front 4 rfl
              have S958 := S957.front 3 rfl
              have S959 := S958.front 3 rfl
              have S960 := S959.front 3 rfl
              have S961 := S960.keep 4
              exact ⟨xs861, hk907, S961, lxs861, Sub.cons' rfl rfl (Sub.cons' rfl rfl (Sub.cons' rfl rfl (Sub.cons' rfl rfl (Sub.cons' rfl rfl (Sub.cons' rfl rfl (Sub.nil _))))))⟩
        · rintro t' G963 ⟨xs896, rfl, S962, lxs896, hsub964⟩
          refine ⟨_, hsub964, ?_⟩
          refine AX.region ?_
          refine AO.p rfl (p_move rfl) ?_
          refine AO.p rfl (p_move rfl) ?_
          obtain ⟨G965, i966, hii966, hHG965, S967⟩ := S962.new (AObj.row false (tcells [((some (Addr.mk i788 0 none)), a0_0.toNat, xs896)]))
          have S969 := (S967.front 4 rfl).tone (some (Addr.mk i788 0 none)) a0_0.toNat xs896 rfl
          refine AO.c rfl (s_buildT1 (i := i966) (X := [((some (Addr.mk i788 0 none)), a0_0.toNat, xs896)]) (n := a0_0.toNat) lxs896 Try.underlying43 Try.sizeOf58 Try.zeroValue58 rfl rfl hii966 hHG965) ?_
          obtain ⟨k970, hd971⟩ := chk_some hd899
          obtain ⟨p972, c973, G974, haG974, S975, Bp972⟩ := S969.app (k := 3) rfl Bo540 (tcells [((some (Addr.mk i788 0 none)), a0_0.toNat, xs896)]) 1 (tc_len1 rfl rfl)
          have S976 := S975.cellsEq (k := 3) (us' := tcells (T544 ++ [((some (Addr.mk i788 0 none)), a0_0.toNat, xs896)])) (tcells_app _ _).symm rfl
          have BS976 : Sb p972 ((rs543 ++ [xs896]).length) c973 1 := (show rs543.length + 1 = (rs543 ++ [xs896]).length from len_app (a := rs543) (b := [xs896]) rfl rfl) ▸ Bp972
          have S977 := S976.front 0 rfl
          have S978 := (S977.front 4 rfl).tmerge
          have S979 := S978.drop 1 rfl
          refine AO.c rfl (s_app (by_ := 24) (us := tcells T544) (vs := tcells [((some (Addr.mk i788 0 none)), a0_0.toNat, xs896)]) Try.underlying43 Try.underlying43 Try.typeInfo58 Try.sizeOf58 Try.zeroValue58 rfl rfl rfl rfl rfl rfl rfl (S969.buf (k := 3) rfl Bo540 (tc_len1 tT544 rfl)) (S969.oview (k := 1) rfl (Sb.lit (n := 1) (by decide)) (tc_len1 rfl rfl)) (tc_len1 rfl rfl) tcells_one k970 haG974 (show rs543.length + 1 = (rs543 ++ [xs896]).length from len_app (a := rs543) (b := [xs896]) rfl rfl)) ?_
          refine AO.p rfl (p_assign rfl) ?_
          refine AO.nil ?_
          refine AX.region ?_
          obtain ⟨k980, hd981⟩ := chk_some hd971
          refine AO.p rfl (p_addE rfl rfl k980) ?_
          refine AO.p rfl (p_move rfl) ?_
          refine AO.nil ?_
          obtain rfl := some_inj hd981
          have S983 := S979.front 0 rfl
          have S984 := S983.front 2 rfl
          have S985 := S984.front 2 rfl
          exact ⟨((rs543 ++ [xs896]), x545 + 1), hk770, (rs543 ++ [xs896]), (x545 + 1), p972, c973, (T544 ++ [((some (Addr.mk i788 0 none)), a0_0.toNat, xs896)]), rfl, S985, (trows_apps tT544 rfl), (TSb.app sT544 (TSb.one (sb_len lxs896 (Sb.lit (mkcap k785))))), BS976, Sub.cons' rfl rfl (Sub.cons' rfl rfl (Sub.cons' rfl rfl (Sub.cons' rfl rfl (Sub.cons' rfl rfl (Sub.nil _)))))⟩
      · have hd986 := bif_f c775 ho769
        refine AX.exit ?_
        obtain rfl := some_inj hd986
        have S987 := S771.front 2 rfl
        have S988 := S987.front 2 rfl
        have S989 := S988.keep 2
        exact ⟨rs543, p541, c542, T544, hk770, S989, tT544, sT544, Bo540, Sub.cons' rfl rfl (Sub.nil _)⟩
  · rintro t' G991 ⟨rs760, p758, c759, T761, rfl, S990, tT761, sT761, Bo757, hsub992⟩
    refine ⟨_, hsub992, ?_⟩
    refine AX.seq ?_
    refine AX.region ?_
    refine AO.p rfl (p_move rfl) ?_
    refine AO.p rfl (p_assign rfl) ?_
    refine AO.nil ?_
    refine AX.ret ?_
    obtain rfl := some_inj hd764
    have S993 := S990.front 1 rfl
    have S994 := S993.front 1 rfl
    exact ⟨.inr rfl, _, res1 rfl (rv_tmp rfl), p758, c759, T761, rfl, S994, Bo757, tT761, sT761⟩

set_option maxHeartbeats 4000000 in
theorem W_impl_total (fu : Nat) (H : AHeap) (p_a0 : Option Addr) (c_a0 : Nat) (a0 : List Int) (v_a0 : Vw H p_a0 a0.length c_a0 (ints a0)) (r0 : Int) (hd : D_impl_total fu a0 = some r0) : ACall Try.prog 72 [.slice p_a0 a0.length c_a0] H (.int .i64 r0) H := by
  refine ACall.bodyP (N := 17) [(0, .slice p_a0 a0.length c_a0)] Try.func72 rfl rfl rfl rfl ?_
  unfold D_impl_total at hd
  have S0 : St [] H H [] := St.nil H
  refine AX.seq ?_
  refine AX.region ?_
  refine AO.p rfl (p_assign rfl) ?_
  refine AO.nil ?_
  refine AX.seq ?_
  refine AX.region ?_
  refine AO.p rfl (p_assign rfl) ?_
  refine AO.nil ?_
  refine AX.seq ?_
  refine AX.seq ?_
  refine AX.region ?_
  refine AO.p rfl (p_move rfl) ?_
  refine AO.p rfl (p_len_slice rfl Try.underlying58) ?_
  refine AO.p rfl (p_move rfl) ?_
  refine AO.nil ?_
  obtain ⟨r141, hl142, hd143⟩ := bnd_some hd
  refine AX.cutS (fun t' H' => ∃ (x140 : Int), x140 = r141 ∧ St [] H H' [] ∧ Am.Sub [(3, .int .i64 x140)] t') ?_ ?_
  · refine AX.block ?_
    refine AX.loopF (fun s' t' H' => ∃ (x126 : Int) (x127 : Int), (x126, x127) = s' ∧ St [] H H' [] ∧ Am.Sub [(3, .int .i64 x126), (6, .slice p_a0 a0.length c_a0), (7, .int .i64 ((a0.length : Nat) : Int)), (8, .int .i64 x127)] t') hl142 ?_ ?_
    · skip
      exact ⟨0, 0, rfl, S0, Sub.cons' rfl rfl (Sub.cons' rfl rfl (Sub.cons' rfl rfl (Sub.cons' rfl rfl (Sub.nil _))))⟩
    · rintro n144 _ t' G148 ⟨x126, x127, rfl, S147, hsub149⟩ o150 ho145 hk146
      refine AX.sub hsub149 ?_
      unfold D_impl_total_s0 at ho145
      refine AX.seq ?_
      refine AX.region ?_
      refine AO.p rfl (p_lss rfl rfl) ?_
      refine AO.nil ?_
      refine AX.seq ?_
      refine AX.cond rfl (fun c151 => ?_) (fun c151 => ?_)
      · have hd152 := bif_t c151 ho145
        refine AX.skip ?_
        refine AX.seq ?_
        refine AX.block ?_
        refine AX.seq ?_
        refine AX.region ?_
        obtain ⟨k153, hd154⟩ := chk_some hd152
        refine AO.p rfl (s_indexV (q := off p_a0 + x127.toNat) Try.underlying58 Try.sizeOf2 rfl ((S147.view v_a0).p (ints_get (lt_len rfl (inR_lt k153)))) rfl k153 (o1 _ _)) ?_
        refine AO.c rfl (s_load Try.isAgg2 rfl ((S147.view v_a0).get _ _ (ints_get (lt_len rfl (inR_lt k153))))) ?_
        refine AO.p rfl (p_assign rfl) ?_
        refine AO.nil ?_
        refine AX.region ?_
        refine AO.p rfl (p_move rfl) ?_
        refine AO.p rfl (p_move rfl) ?_
        obtain ⟨k155, hd156⟩ := chk_some hd154
        refine AO.p rfl (p_addE rfl rfl k155) ?_
        refine AO.p rfl (p_assign rfl) ?_
        refine AO.nil ?_
        refine AX.region ?_
        obtain ⟨k157, hd158⟩ := chk_some hd156
        refine AO.p rfl (p_addE rfl rfl k157) ?_
        refine AO.p rfl (p_move rfl) ?_
        refine AO.nil ?_
        obtain rfl := some_inj hd158
        exact ⟨(x126 + (rd a0 x127.toNat), x127 + 1), hk146, (x126 + (rd a0 x127.toNat)), (x127 + 1), rfl, S147, Sub.cons' rfl rfl (Sub.cons' rfl rfl (Sub.cons' rfl rfl (Sub.cons' rfl rfl (Sub.nil _))))⟩
      · have hd160 := bif_f c151 ho145
        refine AX.exit ?_
        obtain rfl := some_inj hd160
        exact ⟨x126, hk146, S147, Sub.cons' rfl rfl (Sub.nil _)⟩
  · rintro t' G162 ⟨x140, rfl, S161, hsub163⟩
    refine ⟨_, hsub163, ?_⟩
    refine AX.seq ?_
    refine AX.region ?_
    refine AO.p rfl (p_move rfl) ?_
    refine AO.p rfl (p_assign rfl) ?_
    refine AO.nil ?_
    refine AX.ret ?_
    obtain rfl := some_inj hd143
    exact ⟨.inr rfl, _, res1 rfl (rv_tmp rfl), rfl, (flatB_ok rfl), S161.hold⟩

set_option maxHeartbeats 4000000 in
theorem W_impl_breaks (fu : Nat) (H : AHeap) (a0 : Int) (p_a1 : Option Addr) (c_a1 : Nat) (T_a1 : Tb) (a1 : List (List Int)) (t_a1 : trows T_a1 = a1) (v_a1 : Vw H p_a1 a1.length c_a1 (tcells T_a1)) (w_a1 : TVw H T_a1) (r0 : List Int) (hd : D_impl_breaks fu a0 a1 = some r0) : ∃ v G', ACall Try.prog 73 [.int .i64 a0, .slice p_a1 a1.length c_a1] H v G' ∧ ∃ (p_r0 : Option Addr) (c_r0 : Nat), (v = .slice p_r0 r0.length c_r0) ∧ St [] H G' [oseg p_r0 (ints r0)] ∧ Sb p_r0 r0.length c_r0 1 := by
  refine ACall.bodyX (args := [.int .i64 a0, .slice p_a1 a1.length c_a1]) (N := 49) [(0, .int .i64 a0), (1, .slice p_a1 a1.length c_a1)] (fun v G' => ∃ (p_r0 : Option Addr) (c_r0 : Nat), (v = .slice p_r0 r0.length c_r0) ∧ St [] H G' [oseg p_r0 (ints r0)] ∧ Sb p_r0 r0.length c_r0 1) Try.func73 rfl rfl rfl rfl ?_
  unfold D_impl_breaks at hd
  have S0 : St [] H H [] := St.nil H
  refine AX.seq ?_
  refine AX.region ?_
  refine AO.p rfl (p_assign rfl) ?_
  refine AO.nil ?_
  refine AX.seq ?_
  refine AX.region ?_
  refine AO.p rfl (p_move rfl) ?_
  obtain ⟨k100, hd101⟩ := chk_some hd
  obtain ⟨G102, i103, hii103, hHG102, S104⟩ := S0.new (AObj.row false (ints (List.replicate a0.toNat 0)))
  refine AO.c rfl (s_makeIntsE (i := i103) (by_ := 8) Try.underlying58 Try.typeInfo2 Try.sizeOf2 Try.zeroValue2 rfl rfl rfl rfl rfl k100 hii103 hHG102) ?_
  refine AO.p rfl (p_assign rfl) ?_
  refine AO.nil ?_
  refine AX.seq ?_
  refine AX.seq ?_
  refine AX.region ?_
  refine AO.p rfl (p_assign rfl) ?_
  refine AO.nil ?_
  obtain ⟨r940, hl941, hd942⟩ := bnd_some hd101
  refine AX.cutS (fun t' H' => ∃ (xs939 : List Int), xs939 = r940 ∧ St [] H H' [[(i103, AObj.row false (ints xs939))]] ∧ xs939.length = a0.toNat ∧ Am.Sub [(5, .slice (some (Addr.mk i103 0 none)) a0.toNat a0.toNat)] t') ?_ ?_
  · refine AX.block ?_
    refine AX.loopF (fun s' t' H' => ∃ (xs661 : List Int) (x662 : Int), (xs661, x662) = s' ∧ St [] H H' [[(i103, AObj.row false (ints xs661))]] ∧ xs661.length = a0.toNat ∧ Am.Sub [(1, .slice p_a1 a1.length c_a1), (5, .slice (some (Addr.mk i103 0 none)) a0.toNat a0.toNat), (6, .int .i64 x662)] t') hl941 ?_ ?_
    · skip
      have S943 := S104.front 0 rfl
      exact ⟨(List.replicate a0.toNat 0), 1, rfl, S943, len_rep, Sub.cons' rfl rfl (Sub.cons' rfl rfl (Sub.cons' rfl rfl (Sub.nil _)))⟩
    · rintro n944 _ t' G948 ⟨xs661, x662, rfl, S947, lxs661, hsub949⟩ o950 ho945 hk946
      refine AX.sub hsub949 ?_
      unfold D_impl_breaks_s0 at ho945
      refine AX.seq ?_
      refine AX.seq ?_
      refine AX.region ?_
      refine AO.p rfl (p_move rfl) ?_
      refine AO.p rfl (p_move rfl) ?_
      refine AO.p rfl (p_len_slice rfl Try.underlying43) ?_
      refine AO.p rfl (p_lss rfl rfl) ?_
      refine AO.nil ?_
      refine AX.cond rfl (fun c951 => ?_) (fun c951 => ?_)
      · have hd952 := bif_t c951 ho945
        refine AX.skip ?_
        refine AX.seq ?_
        refine AX.block ?_
        refine AX.seq ?_
        refine AX.region ?_
        refine AO.p rfl (p_move rfl) ?_
        refine AO.p rfl (p_move rfl) ?_
        obtain ⟨k953, hd954⟩ := chk_some hd952
        obtain ⟨p955, c956, e957, f958⟩ := tget t_a1 (lt_len rfl (inR_lt k953))
        refine AO.p rfl (s_indexV (q := off p_a1 + x662.toNat) Try.underlying43 Try.sizeOf58 rfl ((S947.view v_a1).p f958) rfl k953 (o1 _ _)) ?_
        refine AO.c rfl (s_load Try.isAgg58 rfl ((S947.view v_a1).get _ _ f958)) ?_
        refine AO.p rfl (p_len_slice rfl Try.underlying58) ?_
        refine AO.p rfl (p_move rfl) ?_
        refine AO.nil ?_
        obtain ⟨r1145, hl1146, hd1147⟩ := bnd_some hd954
        refine AX.cutS (fun t' H' => ∃ (xs1144 : List Int), xs1144 = r1145 ∧ St [] H H' [[(i103, AObj.row false (ints xs1144))]] ∧ xs1144.length = a0.toNat ∧ Am.Sub [(1, .slice p_a1 a1.length c_a1), (5, .slice (some (Addr.mk i103 0 none)) a0.toNat a0.toNat), (6, .int .i64 x662)] t') ?_ ?_
        · refine AX.block ?_
          refine AX.loopF (fun s' t' H' => ∃ (xs1082 : List Int) (x1083 : Int), (xs1082, x1083) = s' ∧ St [] H H' [[(i103, AObj.row false (ints xs1082))]] ∧ xs1082.length = a0.toNat ∧ Am.Sub [(1, .slice p_a1 a1.length c_a1), (5, .slice (some (Addr.mk i103 0 none)) a0.toNat a0.toNat), (6, .int .i64 x662), (20, .slice p955 ((rw_ a1 x662.toNat).length) c956), (21, .int .i64 (((rw_ a1 x662.toNat).length : Nat) : Int)), (22, .int .i64 x1083)] t') hl1146 ?_ ?_
          · skip
            have S1148 := S947.front 0 rfl
            exact ⟨xs661, 0, rfl, S1148, lxs661, Sub.cons' rfl rfl (Sub.cons' rfl rfl (Sub.cons' rfl rfl (Sub.cons' rfl rfl (Sub.cons' rfl rfl (Sub.cons' rfl rfl (Sub.nil _))))))⟩
          · rintro n1149 _ t' G1153 ⟨xs1082, x1083, rfl, S1152, lxs1082, hsub1154⟩ o1155 ho1150 hk1151
            refine AX.sub hsub1154 ?_
            unfold D_impl_breaks_s1 at ho1150
            refine AX.seq ?_
            refine AX.region ?_
            refine AO.p rfl (p_lss rfl rfl) ?_
            refine AO.nil ?_
            refine AX.seq ?_
            refine AX.cond rfl (fun c1156 => ?_) (fun c1156 => ?_)
            · have hd1157 := bif_t c1156 ho1150
              refine AX.skip ?_
              refine AX.seq ?_
              refine AX.block ?_
              refine AX.seq ?_
              refine AX.region ?_
              refine AO.p rfl (p_move rfl) ?_
              obtain ⟨k1158, hd1159⟩ := chk_some hd1157
              refine AO.p rfl (s_indexV (q := off p955 + x1083.toNat) Try.underlying58 Try.sizeOf2 rfl ((TVw.at (S1152.tview w_a1) e957).p (ints_get (lt_len rfl (inR_lt k1158)))) rfl k1158 (o1 _ _)) ?_
              refine AO.c rfl (s_load Try.isAgg2 rfl ((TVw.at (S1152.tview w_a1) e957).get _ _ (ints_get (lt_len rfl (inR_lt k1158))))) ?_
              refine AO.p rfl (p_assign rfl) ?_
              refine AO.p rfl (p_assign rfl) ?_
              refine AO.nil ?_
              obtain ⟨r1175, hb1176, hd1177⟩ := bnd_some hd1159
              refine AX.cut (fun t' H' => ∃ (b1174 : Bool), b1174 = r1175 ∧ St [] H H' [[(i103, AObj.row false (ints xs1082))]] ∧ Am.Sub [(1, .slice p_a1 a1.length c_a1), (5, .slice (some (Addr.mk i103 0 none)) a0.toNat a0.toNat), (6, .int .i64 x662), (7, .int .i64 x1083), (20, .slice p955 ((rw_ a1 x662.toNat).length) c956), (21, .int .i64 (((rw_ a1 x662.toNat).length : Nat) : Int)), (22, .int .i64 x1083), (40, .bool b1174)] t') ?_ ?_
              · skip
                refine AX.region ?_
                refine AO.p rfl (p_move rfl) ?_
                refine AO.p rfl (p_geq rfl rfl) ?_
                refine AO.p rfl (p_move rfl) ?_
                refine AO.cases (d := 29) rfl (fun c1178 => ?_) (fun c1178 => ?_)
                · have hd1179 := bif_t c1178 hb1176
                  refine AO.gp rfl rfl rfl (p_move rfl) ?_
                  refine AO.gp rfl rfl rfl (p_move rfl) ?_
                  refine AO.gp rfl rfl rfl (p_move rfl) ?_
                  obtain ⟨k1180, hd1181⟩ := chk_some hd1179
                  refine AO.gp rfl rfl rfl (p_subE rfl rfl k1180) ?_
                  obtain ⟨k1182, hd1183⟩ := chk_some hd1181
                  obtain ⟨p1184, c1185, e1186, f1187⟩ := tget t_a1 (lt_len rfl (inR_lt k1182))
                  refine AO.gp rfl rfl rfl (s_indexV (q := off p_a1 + (x662 - 1).toNat) Try.underlying43 Try.sizeOf58 rfl ((S1152.view v_a1).p f1187) rfl k1182 (o1 _ _)) ?_
                  refine AO.gc rfl rfl rfl (s_load Try.isAgg58 rfl ((S1152.view v_a1).get _ _ f1187)) ?_
                  refine AO.gp rfl rfl rfl (p_move rfl) ?_
                  obtain ⟨k1188, hd1189⟩ := chk_some hd1183
                  refine AO.gp rfl rfl rfl (s_indexV (q := off p1184 + x1083.toNat) Try.underlying58 Try.sizeOf2 rfl ((TVw.at (S1152.tview w_a1) e1186).p (ints_get (lt_len rfl (inR_lt k1188)))) rfl k1188 (o1 _ _)) ?_
                  refine AO.gc rfl rfl rfl (s_load Try.isAgg2 rfl ((TVw.at (S1152.tview w_a1) e1186).get _ _ (ints_get (lt_len rfl (inR_lt k1188))))) ?_
                  refine AO.gp rfl rfl rfl (p_eql rfl rfl) ?_
                  refine AO.p rfl (p_pickT rfl rfl) ?_
                  refine AO.nil ?_
                  have S1190 := S1152.front 0 rfl
                  exact ⟨(decide (rd (rw_ a1 x662.toNat) x1083.toNat = rd (rw_ a1 ((x662 - 1).toNat)) x1083.toNat)), (some_inj hd1189), S1190, Sub.cons' rfl rfl (Sub.cons' rfl rfl (Sub.cons' rfl rfl (Sub.cons' rfl rfl (Sub.cons' rfl rfl (Sub.cons' rfl rfl (Sub.cons' rfl rfl (Sub.cons' rfl rfl (Sub.nil _))))))))⟩
                · have hd1191 := bif_f c1178 hb1176
                  refine AO.gn rfl rfl rfl ?_
                  refine AO.gn rfl rfl rfl ?_
                  refine AO.gn rfl rfl rfl ?_
                  refine AO.gn rfl rfl rfl ?_
                  refine AO.gn rfl rfl rfl ?_
                  refine AO.gn rfl rfl rfl ?_
                  refine AO.gn rfl rfl rfl ?_
                  refine AO.gn rfl rfl rfl ?_
                  refine AO.gn rfl rfl rfl ?_
                  refine AO.gn rfl rfl rfl ?_
                  refine AO.p rfl (p_pickF rfl rfl) ?_
                  refine AO.nil ?_
                  have S1192 := S1152.front 0 rfl
                  exact ⟨false, (some_inj hd1191), S1192, Sub.cons' rfl rfl (Sub.cons' rfl rfl (Sub.cons' rfl rfl (Sub.cons' rfl rfl (Sub.cons' rfl rfl (Sub.cons' rfl rfl (Sub.cons' rfl rfl (Sub.cons' rfl rfl (Sub.nil _))))))))⟩
              · rintro t' G1194 ⟨b1174, rfl, S1193, hsub1195⟩
                refine AX.sub hsub1195 ?_
                refine AX.cond rfl (fun c1196 => ?_) (fun c1196 => ?_)
                · have hd1197 := bif_t c1196 hd1177
                  refine AX.region ?_
                  refine AO.p rfl (p_move rfl) ?_
                  refine AO.p rfl (p_move rfl) ?_
                  obtain ⟨k1198, hd1199⟩ := chk_some hd1197
                  refine AO.p rfl (s_indexV (q := x1083.toNat) Try.underlying58 Try.sizeOf2 rfl rfl rfl k1198 (z1 _)) ?_
                  refine AO.c rfl (s_load Try.isAgg2 rfl (row_cell (S1193.get (k := 0) rfl) (ints_get (lt_len lxs1082 (inR_lt k1198))))) ?_
                  obtain ⟨k1200, hd1201⟩ := chk_some hd1199
                  refine AO.p rfl (p_addE rfl rfl k1200) ?_
                  obtain ⟨k1202, hd1203⟩ := chk_some hd1201
                  refine AO.p rfl (s_indexV (q := x1083.toNat) Try.underlying58 Try.sizeOf2 rfl rfl rfl k1202 (z1 _)) ?_
                  obtain ⟨G1204, hHG1204, S1205⟩ := S1193.set (k := 0) (i := i103) rfl (AObj.row false (ints (xs1082.set x1083.toNat (rd xs1082 x1083.toNat + 1))))
                  refine AO.s (s_store Try.sizeOf2 rfl rfl rfl (S1193.get (k := 0) rfl) (lt_len (ints_len lxs1082) (inR_lt k1202)) ((congrArg (fun l => List.set _ _ (AObj.row false l)) (ints_set _ _ _)).trans hHG1204)) ?_
                  refine AO.nil ?_
                  refine AX.region ?_
                  obtain ⟨k1206, hd1207⟩ := chk_some hd1203
                  refine AO.p rfl (p_addE rfl rfl k1206) ?_
                  refine AO.p rfl (p_move rfl) ?_
                  refine AO.nil ?_
                  obtain rfl := some_inj hd1207
                  have S1209 := S1205.front 0 rfl
                  exact ⟨((xs1082.set x1083.toNat (rd xs1082 x1083.toNat + 1)), x1083 + 1), hk1151, (xs1082.set x1083.toNat (rd xs1082 x1083.toNat + 1)), (x1083 + 1), rfl, S1209, (len_set lxs1082), Sub.cons' rfl rfl (Sub.cons' rfl rfl (Sub.cons' rfl rfl (Sub.cons' rfl rfl (Sub.cons' rfl rfl (Sub.cons' rfl rfl (Sub.nil _))))))⟩
                · have hd1210 := bif_f c1196 hd1177
                  refine AX.skip ?_
                  refine AX.region ?_
                  obtain ⟨k1211, hd1212⟩ := chk_some hd1210
                  refine AO.p rfl (p_addE rfl rfl k1211) ?_
                  refine AO.p rfl (p_move rfl) ?_
                  refine AO.nil ?_
                  obtain rfl := some_inj hd1212
                  have S1214 := S1193.front 0 rfl
                  exact ⟨(xs1082, x1083 + 1), hk1151, xs1082, (x1083 + 1), rfl, S1214, lxs1082, Sub.cons' rfl rfl (Sub.cons' rfl rfl (Sub.cons' rfl rfl (Sub.cons' rfl rfl (Sub.cons' rfl rfl (Sub.cons' rfl rfl (Sub.nil _))))))⟩
            · have hd1215 := bif_f c1156 ho1150
              refine AX.exit ?_
              obtain rfl := some_inj hd1215
              have S1216 := S1152.front 0 rfl
              exact ⟨xs1082, hk1151, S1216, lxs1082, Sub.cons' rfl rfl (Sub.cons' rfl rfl (Sub.cons' rfl rfl (Sub.nil _)))⟩
        · rintro t' G1218 ⟨xs1144, rfl, S1217, lxs1144, hsub1219⟩
          refine ⟨_, hsub1219, ?_⟩
          refine AX.region ?_
          refine AO.p rfl (p_move rfl) ?_
          obtain ⟨k1220, hd1221⟩ := chk_some hd1147
          refine AO.p rfl (p_addE rfl rfl k1220) ?_
          refine AO.p rfl (p_assign rfl) ?_
          refine AO.nil ?_
          obtain rfl := some_inj hd1221
          have S1223 := S1217.front 0 rfl
          exact ⟨(xs1144, x662 + 1), hk946, xs1144, (x662 + 1), rfl, S1223, lxs1144, Sub.cons' rfl rfl (Sub.cons' rfl rfl (Sub.cons' rfl rfl (Sub.nil _)))⟩
      · have hd1224 := bif_f c951 ho945
        refine AX.exit ?_
        obtain rfl := some_inj hd1224
        have S1225 := S947.front 0 rfl
        exact ⟨xs661, hk946, S1225, lxs661, Sub.cons' rfl rfl (Sub.nil _)⟩
  · rintro t' G1227 ⟨xs939, rfl, S1226, lxs939, hsub1228⟩
    refine ⟨_, hsub1228, ?_⟩
    refine AX.seq ?_
    refine AX.region ?_
    refine AO.p rfl (p_move rfl) ?_
    refine AO.p rfl (p_assign rfl) ?_
    refine AO.nil ?_
    refine AX.ret ?_
    obtain rfl := some_inj hd942
    have S1229 := S1226.front 0 rfl
    exact ⟨.inr rfl, _, res1 rfl (rv_tmp rfl), (some (Addr.mk i103 0 none)), a0.toNat, (by rw [show List.length xs939 = a0.toNat from lxs939]), S1229, (by rw [show List.length xs939 = a0.toNat from lxs939]; exact (Sb.lit (mkcap k100)))⟩

set_option maxHeartbeats 4000000 in
theorem W_impl_always (fu : Nat) (H : AHeap)  (r0 : Bool) (hd : D_impl_always fu = some r0) : ACall Try.prog 69 [] H (.bool r0) H := by
  refine ACall.bodyP (N := 1) [] Try.func69 rfl rfl rfl rfl ?_
  unfold D_impl_always at hd
  have S0 : St [] H H [] := St.nil H
  refine AX.seq ?_
  refine AX.region ?_
  refine AO.p rfl (p_assign rfl) ?_
  refine AO.nil ?_
  refine AX.seq ?_
  refine AX.region ?_
  refine AO.p rfl (p_assign rfl) ?_
  refine AO.nil ?_
  refine AX.ret ?_
  obtain rfl := some_inj hd
  exact ⟨.inr rfl, _, res1 rfl (rv_tmp rfl), rfl, (flatB_ok rfl), S0.hold⟩

set_option maxHeartbeats 4000000 in
theorem W_impl_FewestBreaks (fu : Nat) (H : AHeap) (a0_0 : Int) (p_a0_1 : Option Addr) (c_a0_1 : Nat) (a0_1 : List (List Int)) (a_a0_1 : All 14 a0_1) (v_a0_1 : Vw H p_a0_1 a0_1.length c_a0_1 (ints a0_1.flatten)) (r0 : Int) (r1 : Int) (hd : D_impl_FewestBreaks fu a0_0 a0_1 = some (r0, r1)) : ACall Try.prog 20 [.agg [.int .i64 a0_0, .slice p_a0_1 a0_1.length c_a0_1].toArray] H (.tuple #[.int .i64 r0, .int .i64 r1]) H := by
  refine ACall.bodyP (N := 110) [(0, .agg [.int .i64 a0_0, .slice p_a0_1 a0_1.length c_a0_1].toArray)] Try.func20 rfl rfl rfl rfl ?_
  unfold D_impl_FewestBreaks at hd
  have S0 : St [] H H [] := St.nil H
  refine AX.seq ?_
  refine AX.region ?_
  obtain ⟨G100, i101, hii101, hHG100, S102⟩ := S0.new (AObj.row false ([.int .i64 a0_0, .slice p_a0_1 a0_1.length c_a0_1]))
  refine AO.c rfl (s_box (i := i101) (cs := [.int .i64 a0_0, .slice p_a0_1 a0_1.length c_a0_1]) rfl hii101 rfl hHG100) ?_
  refine AO.p rfl (p_assign rfl) ?_
  refine AO.p rfl (p_assign rfl) ?_
  refine AO.nil ?_
  refine AX.seq ?_
  refine AX.seq ?_
  refine AX.region ?_
  refine AO.c rfl (s_loadN (vs := [.int .i64 a0_0, .slice p_a0_1 a0_1.length c_a0_1]) Try.isAgg37 Try.sizeOf37 rfl rfl (row_cells (S102.get (k := 0) rfl))) ?_
  obtain ⟨x104, h105, hd106⟩ := bnd_some hd
  refine AO.c rfl (o_call (vs := [.agg [.int .i64 a0_0, .slice p_a0_1 a0_1.length c_a0_1].toArray, .func (.func 69) #[] #[]]) rfl Try.call68 (W_impl_scheduleCode fu G100 a0_0 p_a0_1 c_a0_1 a0_1 a_a0_1 (S102.view v_a0_1) 69 #[] #[] (fun _ => D_impl_always fu ) Try.call69 (fun G' hG  b' hb' => W_impl_always fu G'  b' hb') x104 h105)) ?_
  refine AO.p rfl (p_assign rfl) ?_
  refine AO.nil ?_
  refine AX.seq ?_
  refine AX.region ?_
  refine AO.p rfl (p_move rfl) ?_
  refine AO.p rfl (p_neq rfl rfl) ?_
  refine AO.nil ?_
  refine AX.cond rfl (fun c108 => ?_) (fun c108 => ?_)
  · have hd109 := bif_t c108 hd106
    refine AX.seq ?_
    refine AX.region ?_
    refine AO.p rfl (p_move rfl) ?_
    refine AO.p rfl (p_assign rfl) ?_
    refine AO.p rfl (p_assign rfl) ?_
    refine AO.nil ?_
    refine AX.ret ?_
    obtain ⟨rfl, rfl⟩ := Prod.mk.inj (some_inj hd109)
    exact ⟨.inr rfl, _, res2 rfl (rv_tmp rfl) (rv_tmp rfl), rfl, (flat_t2 (flatB_ok rfl) (flatB_ok rfl)), S102.hold⟩
  · have hd111 := bif_f c108 hd106
    refine AX.skip ?_
    refine AX.seq ?_
    refine AX.region ?_
    obtain ⟨G112, i113, hii113, hHG112, S114⟩ := S102.new (AObj.row false (ints [].flatten))
    refine AO.c rfl (s_build0 (i := i113) Try.underlying84 Try.sizeOf86 hii113 hHG112) ?_
    refine AO.p rfl (p_assign rfl) ?_
    refine AO.nil ?_
    refine AX.seq ?_
    refine AX.seq ?_
    refine AX.region ?_
    refine AO.p rfl (s_fieldAddr Try.underlying37 rfl Try.sizeOf35 (by decide) rfl rfl) ?_
    refine AO.c rfl (s_load Try.isAgg35 rfl (row_cell (S114.get (k := 1) rfl) rfl)) ?_
    refine AO.p rfl (p_len_slice rfl Try.underlying35) ?_
    refine AO.p rfl (p_move rfl) ?_
    refine AO.nil ?_
    obtain ⟨r720, hl721, hd722⟩ := bnd_some hd111
    refine AX.cutS (fun t' H' => ∃ (rs719 : List (List Int)) (p717 : Option Addr) (c718 : Nat), rs719 = r720 ∧ St [] H H' [[(i101, AObj.row false ([.int .i64 a0_0, .slice p_a0_1 a0_1.length c_a0_1]))], oseg p717 (ints rs719.flatten)] ∧ All 3 rs719 ∧ Sb p717 (rs719.length) c718 3 ∧ Am.Sub [(1, .pointer (some ⟨i101, 0, none⟩)), (5, .slice p717 rs719.length c718)] t') ?_ ?_
    · refine AX.block ?_
      refine AX.loopF (fun s' t' H' => ∃ (rs518 : List (List Int)) (x519 : Int) (p516 : Option Addr) (c517 : Nat), (rs518, x519) = s' ∧ St [] H H' [[(i101, AObj.row false ([.int .i64 a0_0, .slice p_a0_1 a0_1.length c_a0_1]))], oseg p516 (ints rs518.flatten)] ∧ All 3 rs518 ∧ Sb p516 (rs518.length) c517 3 ∧ Am.Sub [(1, .pointer (some ⟨i101, 0, none⟩)), (5, .slice p516 rs518.length c517), (24, .slice p_a0_1 a0_1.length c_a0_1), (25, .int .i64 ((a0_1.length : Nat) : Int)), (26, .int .i64 x519)] t') hl721 ?_ ?_
      · skip
        have S723 := S114.front 0 rfl
        have S724 := S723.front 1 rfl
        exact ⟨[], 0, (some (Addr.mk i113 0 none)), 0, rfl, S724, all_nil, (Sb.lit (n := 0) (by decide)), Sub.cons' rfl rfl (Sub.cons' rfl rfl (Sub.cons' rfl rfl (Sub.cons' rfl rfl (Sub.cons' rfl rfl (Sub.nil _)))))⟩
      · rintro n725 _ t' G729 ⟨rs518, x519, p516, c517, rfl, S728, ars518, Bo515, hsub730⟩ o731 ho726 hk727
        refine AX.sub hsub730 ?_
        unfold D_impl_FewestBreaks_s0 at ho726
        refine AX.seq ?_
        refine AX.region ?_
        refine AO.p rfl (p_lss rfl rfl) ?_
        refine AO.nil ?_
        refine AX.seq ?_
        refine AX.cond rfl (fun c732 => ?_) (fun c732 => ?_)
        · have hd733 := bif_t c732 ho726
          refine AX.skip ?_
          refine AX.seq ?_
          refine AX.block ?_
          refine AX.seq ?_
          refine AX.region ?_
          refine AO.p rfl (p_move rfl) ?_
          obtain ⟨k734, hd735⟩ := chk_some hd733
          refine AO.p rfl (s_indexV (q := off p_a0_1 + x519.toNat * 14) Try.underlying35 Try.sizeOf54 rfl ((S728.view v_a0_1).rowne a_a0_1 (by decide) (lt_len rfl (inR_lt k734))) rfl k734 rfl) ?_
          refine AO.c rfl (s_loadN (vs := ints (rw_ a0_1 x519.toNat)) Try.isAgg54 Try.sizeOf54 rfl (ints_len (rw_len a_a0_1 (lt_len rfl (inR_lt k734)))) ((S728.view v_a0_1).row a_a0_1 (lt_len rfl (inR_lt k734)))) ?_
          obtain ⟨G736, i737, hii737, hHG736, S738⟩ := S728.new (AObj.row false (ints (List.replicate 14 0)))
          refine AO.c rfl (s_alloc (i := i737) (cs := ints (List.replicate 14 0)) Try.zeroValue54 rfl rfl hii737 hHG736) ?_
          refine AO.p rfl (p_assign rfl) ?_
          obtain ⟨G740, hHG740, S741⟩ := S738.set (k := 0) (i := i737) rfl (AObj.row false (ints (rw_ a0_1 x519.toNat)))
          refine AO.s (s_storeAll (vs := ints (rw_ a0_1 x519.toNat)) Try.sizeOf54 rfl rfl ints_one (S738.get (k := 0) rfl) (ints_len (rw_len a_a0_1 (lt_len rfl (inR_lt k734)))) (ints_len len_rep) hHG740) ?_
          refine AO.nil ?_
          refine AX.seq ?_
          refine AX.region ?_
          refine AO.c rfl (s_loadN (vs := ints (rw_ a0_1 x519.toNat)) Try.isAgg54 Try.sizeOf54 rfl (ints_len (rw_len a_a0_1 (lt_len rfl (inR_lt k734)))) (row_cells (S741.get (k := 0) rfl))) ?_
          refine AO.p rfl (s_fieldAddr Try.underlying37 rfl Try.sizeOf2 (by decide) rfl rfl) ?_
          refine AO.c rfl (s_load Try.isAgg2 rfl (row_cell (S741.get (k := 1) rfl) rfl)) ?_
          obtain ⟨rs742, h743, hd744⟩ := bnd_some hd735
          obtain ⟨_, G753, hc752, p745, c746, T749, rfl, S754, B748, t750, s751⟩ := W_impl_Round_pairs fu G740 (rw_ a0_1 x519.toNat) (rw_len a_a0_1 (lt_len rfl (inR_lt k734))) a0_0 rs742 h743
          have S755 := S741.call S754
          refine AO.c rfl (o_call (vs := [.agg (ints (rw_ a0_1 x519.toNat)).toArray, .int .i64 a0_0]) rfl Try.call70 hc752) ?_
          refine AO.p rfl (p_len_slice rfl Try.underlying43) ?_
          refine AO.p rfl (p_move rfl) ?_
          refine AO.nil ?_
          obtain ⟨r868, hl869, hd870⟩ := bnd_some hd744
          refine AX.cutS (fun t' H' => ∃ (rs867 : List (List Int)) (p865 : Option Addr) (c866 : Nat), rs867 = r868 ∧ St [] H H' [[(i101, AObj.row false ([.int .i64 a0_0, .slice p_a0_1 a0_1.length c_a0_1]))], oseg p865 (ints rs867.flatten)] ∧ All 3 rs867 ∧ Sb p865 (rs867.length) c866 3 ∧ Am.Sub [(1, .pointer (some ⟨i101, 0, none⟩)), (5, .slice p865 rs867.length c866), (24, .slice p_a0_1 a0_1.length c_a0_1), (25, .int .i64 ((a0_1.length : Nat) : Int)), (26, .int .i64 x519)] t') ?_ ?_
          · refine AX.block ?_
            refine AX.loopF (fun s' t' H' => ∃ (rs830 : List (List Int)) (x832 : Int) (p828 : Option Addr) (c829 : Nat), (rs830, x832) = s' ∧ St [] H H' [[(i101, AObj.row false ([.int .i64 a0_0, .slice p_a0_1 a0_1.length c_a0_1]))], oseg p828 (ints rs830.flatten), oseg p745 (tcells T749), tseg T749] ∧ All 3 rs830 ∧ Sb p828 (rs830.length) c829 3 ∧ Am.Sub [(1, .pointer (some ⟨i101, 0, none⟩)), (5, .slice p828 rs830.length c829), (6, .int .i64 x519), (24, .slice p_a0_1 a0_1.length c_a0_1), (25, .int .i64 ((a0_1.length : Nat) : Int)), (26, .int .i64 x519), (34, .slice p745 rs742.length c746), (35, .int .i64 ((rs742.length : Nat) : Int)), (36, .int .i64 x832)] t') hl869 ?_ ?_
            · skip
              have S871 := S755.front 1 rfl
              have S872 := S871.front 1 rfl
              have S873 := S872.front 4 rfl
              have S874 := S873.front 4 rfl
              have S875 := S874.keep 4
              exact ⟨rs518, 0, p516, c517, rfl, S875, ars518, Bo515, Sub.cons' rfl rfl (Sub.cons' rfl rfl (Sub.cons' rfl rfl (Sub.cons' rfl rfl (Sub.cons' rfl rfl (Sub.cons' rfl rfl (Sub.cons' rfl rfl (Sub.cons' rfl rfl (Sub.cons' rfl rfl (Sub.nil _)))))))))⟩
            · rintro n876 _ t' G880 ⟨rs830, x832, p828, c829, rfl, S879, ars830, Bo827, hsub881⟩ o882 ho877 hk878
              refine AX.sub hsub881 ?_
              unfold D_impl_FewestBreaks_s1 at ho877
              refine AX.seq ?_
              refine AX.region ?_
              refine AO.p rfl (p_lss rfl rfl) ?_
              refine AO.nil ?_
              refine AX.seq ?_
              refine AX.cond rfl (fun c883 => ?_) (fun c883 => ?_)
              · have hd884 := bif_t c883 ho877
                refine AX.skip ?_
                refine AX.seq ?_
                refine AX.block ?_
                refine AX.seq ?_
                refine AX.region ?_
                obtain ⟨k885, hd886⟩ := chk_some hd884
                refine AO.p rfl (s_indexV (q := x832.toNat) Try.underlying43 Try.sizeOf58 rfl (B748.at (inR_pos k885)) rfl k885 (z1 _)) ?_
                obtain ⟨p887, c888, e889, f890⟩ := tget t750 (lt_len rfl (inR_lt k885))
                refine AO.c rfl (s_load Try.isAgg58 rfl (row_cell (S879.oat (k := 2) rfl (B748.at (inR_pos k885))) f890)) ?_
                refine AO.p rfl (p_assign rfl) ?_
                refine AO.nil ?_
                refine DR.startS [false, false, false, false, false, false, false, false, false, false, true, false] mix (by kernel_rfl) (fun hst => ?_)
                refine DR.p rfl rfl (p_move rfl) ?_
                refine DR.p rfl rfl (p_move rfl) ?_
                refine DR.p rfl rfl (p_move rfl) ?_
                obtain ⟨k891, hd892⟩ := chk_some hd886
                refine DR.p rfl rfl (s_indexV (q := off p887 + 0) Try.underlying58 Try.sizeOf2 rfl ((TVw.at (S879.oviewT (k := 3) rfl s751) e889).p (ints_get (lt_len rfl (inR_lt k891)))) rfl k891 (o1 _ _)) ?_
                refine DR.r rfl rfl (r_load rfl Try.isAgg2) (one_read ((TVw.at (S879.oviewT (k := 3) rfl s751) e889).get _ _ (ints_get (lt_len rfl (inR_lt k891)))) (.of_flat0 rfl)) ?_
                refine DR.p rfl rfl (p_move rfl) ?_
                obtain ⟨k893, hd894⟩ := chk_some hd892
                refine DR.p rfl rfl (s_indexV (q := off p887 + 1) Try.underlying58 Try.sizeOf2 rfl ((TVw.at (S879.oviewT (k := 3) rfl s751) e889).p (ints_get (lt_len rfl (inR_lt k893)))) rfl k893 (o1 _ _)) ?_
                refine DR.r rfl rfl (r_load rfl Try.isAgg2) (one_read ((TVw.at (S879.oviewT (k := 3) rfl s751) e889).get _ _ (ints_get (lt_len rfl (inR_lt k893)))) (.of_flat0 rfl)) ?_
                refine DR.p rfl rfl (p_build3 (vs := [(0, .int .i64 x519), (1, .int .i64 (rd (rw_ rs742 x832.toNat) 0)), (2, .int .i64 (rd (rw_ rs742 x832.toNat) 1))]) (cs := ints [x519, rd (rw_ rs742 x832.toNat) 0, rd (rw_ rs742 x832.toNat) 1]) Try.underlying86 rfl rfl rfl rfl Try.sizeOf3 Try.sizeOf2 Try.sizeOf2 Try.zeroValue86 rfl rfl rfl rfl rfl rfl) ?_
                obtain ⟨G895, i896, hii896, hHG895, S897⟩ := S879.new (AObj.row false (ints ([[x519, rd (rw_ rs742 x832.toNat) 0, rd (rw_ rs742 x832.toNat) 1]]).flatten))
                refine DR.a rfl rfl hii896 hHG895 (a_build1 (r := [x519, rd (rw_ rs742 x832.toNat) 0, rd (rw_ rs742 x832.toNat) 1]) (zr := List.replicate 3 0) Try.underlying84 Try.sizeOf86 Try.zeroValue86 rfl rfl (by decide) (by decide) rfl rfl) ?_
                obtain ⟨k899, hd900⟩ := chk_some hd894
                obtain ⟨p901, c902, G903, haG903, S904, Bp901⟩ := S897.app (k := 2) rfl Bo827 (ints ([[x519, rd (rw_ rs742 x832.toNat) 0, rd (rw_ rs742 x832.toNat) 1]]).flatten) 1 (flat_len1 (all_one rfl) rfl)
                have S905 := S904.cellsEq (k := 2) (us' := ints (rs830 ++ [[x519, rd (rw_ rs742 x832.toNat) 0, rd (rw_ rs742 x832.toNat) 1]]).flatten) (intsf_app _ _) rfl
                have BS905 : Sb p901 ((rs830 ++ [[x519, rd (rw_ rs742 x832.toNat) 0, rd (rw_ rs742 x832.toNat) 1]]).length) c902 3 := (show rs830.length + 1 = (rs830 ++ [[x519, rd (rw_ rs742 x832.toNat) 0, rd (rw_ rs742 x832.toNat) 1]]).length from len_app (a := rs830) (b := [[x519, rd (rw_ rs742 x832.toNat) 0, rd (rw_ rs742 x832.toNat) 1]]) rfl rfl) ▸ Bp901
                have S906 := S905.drop 0 rfl
                refine DR.w rfl rfl (s_app (by_ := 24) (us := ints rs830.flatten) (vs := ints ([[x519, rd (rw_ rs742 x832.toNat) 0, rd (rw_ rs742 x832.toNat) 1]]).flatten) Try.underlying84 Try.underlying84 Try.typeInfo86 Try.sizeOf86 Try.zeroValue86 rfl rfl rfl rfl rfl rfl rfl (S897.buf (k := 2) rfl Bo827 (flat_len1 ars830 rfl)) (S897.oview (k := 0) rfl (Sb.lit (n := 1) (by decide)) (flat_len1 (all_one rfl) rfl)) (flat_len1 (all_one rfl) rfl) ints_one k899 haG903 (show rs830.length + 1 = (rs830 ++ [[x519, rd (rw_ rs742 x832.toNat) 0, rd (rw_ rs742 x832.toNat) 1]]).length from len_app (a := rs830) (b := [[x519, rd (rw_ rs742 x832.toNat) 0, rd (rw_ rs742 x832.toNat) 1]]) rfl rfl)) (appR_len haG903) ?_
                refine DR.p rfl rfl (p_assign rfl) ?_
                refine DR.nil 12 [] hst (by kernel_rfl) trivial ?_
                refine AX.region ?_
                obtain ⟨k907, hd908⟩ := chk_some hd900
                refine AO.p rfl (p_addE rfl rfl k907) ?_
                refine AO.p rfl (p_move rfl) ?_
                refine AO.nil ?_
                obtain rfl := some_inj hd908
                have S910 := S906.front 3 rfl
                have S911 := S910.front 3 rfl
                have S912 := S911.front 3 rfl
                have S913 := S912.front 3 rfl
                exact ⟨((rs830 ++ [[x519, rd (rw_ rs742 x832.toNat) 0, rd (rw_ rs742 x832.toNat) 1]]), x832 + 1), hk878, (rs830 ++ [[x519, rd (rw_ rs742 x832.toNat) 0, rd (rw_ rs742 x832.toNat) 1]]), (x832 + 1), p901, c902, rfl, S913, (all_app ars830 (all_one rfl)), BS905, Sub.cons' rfl rfl (Sub.cons' rfl rfl (Sub.cons' rfl rfl (Sub.cons' rfl rfl (Sub.cons' rfl rfl (Sub.cons' rfl rfl (Sub.cons' rfl rfl (Sub.cons' rfl rfl (Sub.cons' rfl rfl (Sub.nil _)))))))))⟩
              · have hd914 := bif_f c883 ho877
                refine AX.exit ?_
                obtain rfl := some_inj hd914
                have S915 := S879.front 1 rfl
                have S916 := S915.front 1 rfl
                have S917 := S916.keep 2
                exact ⟨rs830, p828, c829, hk878, S917, ars830, Bo827, Sub.cons' rfl rfl (Sub.cons' rfl rfl (Sub.cons' rfl rfl (Sub.cons' rfl rfl (Sub.cons' rfl rfl (Sub.nil _)))))⟩
          · rintro t' G919 ⟨rs867, p865, c866, rfl, S918, ars867, Bo864, hsub920⟩
            refine ⟨_, hsub920, ?_⟩
            refine AX.region ?_
            obtain ⟨k921, hd922⟩ := chk_some hd870
            refine AO.p rfl (p_addE rfl rfl k921) ?_
            refine AO.p rfl (p_move rfl) ?_
            refine AO.nil ?_
            obtain rfl := some_inj hd922
            have S924 := S918.front 1 rfl
            have S925 := S924.front 1 rfl
            exact ⟨(rs867, x519 + 1), hk727, rs867, (x519 + 1), p865, c866, rfl, S925, ars867, Bo864, Sub.cons' rfl rfl (Sub.cons' rfl rfl (Sub.cons' rfl rfl (Sub.cons' rfl rfl (Sub.cons' rfl rfl (Sub.nil _)))))⟩
        · have hd926 := bif_f c732 ho726
          refine AX.exit ?_
          obtain rfl := some_inj hd926
          have S927 := S728.front 1 rfl
          have S928 := S927.front 1 rfl
          exact ⟨rs518, p516, c517, hk727, S928, ars518, Bo515, Sub.cons' rfl rfl (Sub.cons' rfl rfl (Sub.nil _))⟩
    · rintro t' G930 ⟨rs719, p717, c718, rfl, S929, ars719, Bo716, hsub931⟩
      refine ⟨_, hsub931, ?_⟩
      refine AX.seq ?_
      refine AX.seq ?_
      refine AX.region ?_
      refine AO.p rfl (p_move rfl) ?_
      refine AO.p rfl (p_len_slice rfl Try.underlying84) ?_
      refine AO.p rfl (p_gtr rfl rfl) ?_
      refine AO.nil ?_
      refine AX.cond rfl (fun c932 => ?_) (fun c932 => ?_)
      · have hd933 := bif_t c932 hd722
        refine AX.seq ?_
        refine AX.region ?_
        refine AO.p rfl (p_assign rfl) ?_
        refine AO.p rfl (p_assign rfl) ?_
        refine AO.nil ?_
        refine AX.ret ?_
        obtain ⟨rfl, rfl⟩ := Prod.mk.inj (some_inj hd933)
        exact ⟨.inr rfl, _, res2 rfl (rv_tmp rfl) (rv_tmp rfl), rfl, (flat_t2 (flatB_ok rfl) (flatB_ok rfl)), S929.hold⟩
      · have hd935 := bif_f c932 hd722
        refine AX.skip ?_
        refine AX.seq ?_
        refine AX.region ?_
        refine AO.c rfl (s_loadN (vs := [.int .i64 a0_0, .slice p_a0_1 a0_1.length c_a0_1]) Try.isAgg37 Try.sizeOf37 rfl rfl (row_cells (S929.get (k := 0) rfl))) ?_
        obtain ⟨rs936, h937, hd938⟩ := bnd_some hd935
        obtain ⟨_, G947, hc946, p939, c940, T943, rfl, S948, B942, t944, s945⟩ := W_impl_Schedule_firstVenues fu G930 a0_0 p_a0_1 c_a0_1 a0_1 a_a0_1 (S929.view v_a0_1) rs936 h937
        have S949 := S929.call S948
        refine AO.c rfl (o_call (vs := [.agg [.int .i64 a0_0, .slice p_a0_1 a0_1.length c_a0_1].toArray]) rfl Try.call71 hc946) ?_
        refine AO.p rfl (p_assign rfl) ?_
        refine AO.p rfl (p_assign rfl) ?_
        refine AO.nil ?_
        refine AX.seq ?_
        refine AX.seq ?_
        refine AX.region ?_
        refine AO.p rfl (p_move rfl) ?_
        refine AO.p rfl (p_len_slice rfl Try.underlying84) ?_
        obtain ⟨k950, hd951⟩ := chk_some hd938
        refine AO.p rfl (p_shlE rfl rfl k950) ?_
        refine AO.p rfl (p_move rfl) ?_
        refine AO.nil ?_
        obtain ⟨r1651, hl1652, hd1653⟩ := bnd_some hd951
        refine AX.cutS (fun t' H' => ∃ (x1650 : Int), x1650 = r1651 ∧ St [] H H' [] ∧ Am.Sub [(11, .int .i64 x1650)] t') ?_ ?_
        · refine AX.block ?_
          refine AX.loopF (fun s' t' H' => ∃ (rs1419 : List (List Int)) (x1421 : Int) (x1422 : Int) (T1420 : Tb), (rs1419, x1421, x1422) = s' ∧ St [] H H' [[(i101, AObj.row false ([.int .i64 a0_0, .slice p_a0_1 a0_1.length c_a0_1]))], oseg p717 (ints rs719.flatten), oseg p939 (tcells T1420), tseg T1420] ∧ rs1419.length = rs936.length ∧ trows T1420 = rs1419 ∧ TSb T1420 ∧ Am.Sub [(1, .pointer (some ⟨i101, 0, none⟩)), (5, .slice p717 rs719.length c718), (10, .slice p939 rs936.length c940), (11, .int .i64 x1421), (60, .int .i64 (ishl .i64 1 ((rs719.length : Nat) : Int))), (61, .int .i64 x1422)] t') hl1652 ?_ ?_
          · skip
            have S1654 := S949.front 1 rfl
            have S1655 := S1654.front 1 rfl
            have S1656 := S1655.front 3 rfl
            have S1657 := S1656.front 3 rfl
            exact ⟨rs936, (-1), 0, T943, rfl, S1657, rfl, t944, s945, Sub.cons' rfl rfl (Sub.cons' rfl rfl (Sub.cons' rfl rfl (Sub.cons' rfl rfl (Sub.cons' rfl rfl (Sub.cons' rfl rfl (Sub.nil _))))))⟩
          · rintro n1658 _ t' G1662 ⟨rs1419, x1421, x1422, T1420, rfl, S1661, lrs1419, tT1420, sT1420, hsub1663⟩ o1664 ho1659 hk1660
            refine AX.sub hsub1663 ?_
            unfold D_impl_FewestBreaks_s2 at ho1659
            refine AX.seq ?_
            refine AX.region ?_
            refine AO.p rfl (p_lss rfl rfl) ?_
            refine AO.nil ?_
            refine AX.seq ?_
            refine AX.cond rfl (fun c1665 => ?_) (fun c1665 => ?_)
            · have hd1666 := bif_t c1665 ho1659
              refine AX.skip ?_
              refine AX.seq ?_
              refine AX.block ?_
              refine AX.seq ?_
              refine AX.region ?_
              refine AO.p rfl (p_move rfl) ?_
              refine AO.p rfl (p_assign rfl) ?_
              refine AO.nil ?_
              refine AX.seq ?_
              refine AX.seq ?_
              refine AX.region ?_
              refine AO.p rfl (p_move rfl) ?_
              refine AO.p rfl (p_len_slice rfl Try.underlying84) ?_
              refine AO.p rfl (p_move rfl) ?_
              refine AO.nil ?_
              obtain ⟨r1799, hl1800, hd1801⟩ := bnd_some hd1666
              refine AX.cutS (fun t' H' => ∃ (rs1797 : List (List Int)) (T1798 : Tb), rs1797 = r1799 ∧ St [] H H' [[(i101, AObj.row false ([.int .i64 a0_0, .slice p_a0_1 a0_1.length c_a0_1]))], oseg p717 (ints rs719.flatten), oseg p939 (tcells T1798), tseg T1798] ∧ rs1797.length = rs936.length ∧ trows T1798 = rs1797 ∧ TSb T1798 ∧ Am.Sub [(1, .pointer (some ⟨i101, 0, none⟩)), (5, .slice p717 rs719.length c718), (10, .slice p939 rs936.length c940), (11, .int .i64 x1421), (60, .int .i64 (ishl .i64 1 ((rs719.length : Nat) : Int))), (61, .int .i64 x1422)] t') ?_ ?_
              · refine AX.block ?_
                refine AX.loopF (fun s' t' H' => ∃ (rs1753 : List (List Int)) (x1755 : Int) (T1754 : Tb), (rs1753, x1755) = s' ∧ St [] H H' [[(i101, AObj.row false ([.int .i64 a0_0, .slice p_a0_1 a0_1.length c_a0_1]))], oseg p717 (ints rs719.flatten), oseg p939 (tcells T1754), tseg T1754] ∧ rs1753.length = rs936.length ∧ trows T1754 = rs1753 ∧ TSb T1754 ∧ Am.Sub [(1, .pointer (some ⟨i101, 0, none⟩)), (5, .slice p717 rs719.length c718), (10, .slice p939 rs936.length c940), (11, .int .i64 x1421), (12, .int .i64 x1422), (60, .int .i64 (ishl .i64 1 ((rs719.length : Nat) : Int))), (61, .int .i64 x1422), (64, .slice p717 rs719.length c718), (65, .int .i64 ((rs719.length : Nat) : Int)), (66, .int .i64 x1755)] t') hl1800 ?_ ?_
                · skip
                  have S1802 := S1661.front 3 rfl
                  have S1803 := S1802.front 3 rfl
                  have S1804 := S1803.front 3 rfl
                  have S1805 := S1804.front 3 rfl
                  exact ⟨rs1419, 0, T1420, rfl, S1805, lrs1419, tT1420, sT1420, Sub.cons' rfl rfl (Sub.cons' rfl rfl (Sub.cons' rfl rfl (Sub.cons' rfl rfl (Sub.cons' rfl rfl (Sub.cons' rfl rfl (Sub.cons' rfl rfl (Sub.cons' rfl rfl (Sub.cons' rfl rfl (Sub.cons' rfl rfl (Sub.nil _))))))))))⟩
                · rintro n1806 _ t' G1810 ⟨rs1753, x1755, T1754, rfl, S1809, lrs1753, tT1754, sT1754, hsub1811⟩ o1812 ho1807 hk1808
                  refine AX.sub hsub1811 ?_
                  unfold D_impl_FewestBreaks_s3 at ho1807
                  refine AX.seq ?_
                  refine AX.region ?_
                  refine AO.p rfl (p_lss rfl rfl) ?_
                  refine AO.nil ?_
                  refine AX.seq ?_
                  refine AX.cond rfl (fun c1813 => ?_) (fun c1813 => ?_)
                  · have hd1814 := bif_t c1813 ho1807
                    refine AX.skip ?_
                    refine AX.seq ?_
                    refine AX.block ?_
                    refine AX.seq ?_
                    refine AX.region ?_
                    refine AO.p rfl (p_move rfl) ?_
                    obtain ⟨k1815, hd1816⟩ := chk_some hd1814
                    refine AO.p rfl (s_indexV (q := x1755.toNat * 3) Try.underlying84 Try.sizeOf86 rfl (Bo716.at (inR_pos k1815)) rfl k1815 (Nat.zero_add _)) ?_
                    refine AO.c rfl (s_loadN (vs := ints (rw_ rs719 x1755.toNat)) Try.isAgg86 Try.sizeOf86 rfl (ints_len (rw_len ars719 (lt_len rfl (inR_lt k1815)))) (row_part (S1809.oat (k := 1) rfl (Bo716.at (inR_pos k1815))) (flat_cells ars719 (lt_len rfl (inR_lt k1815))))) ?_
                    obtain ⟨G1817, i1818, hii1818, hHG1817, S1819⟩ := S1809.new (AObj.row false (ints (List.replicate 3 0)))
                    refine AO.c rfl (s_alloc (i := i1818) (cs := ints (List.replicate 3 0)) Try.zeroValue86 rfl rfl hii1818 hHG1817) ?_
                    refine AO.p rfl (p_assign rfl) ?_
                    obtain ⟨G1821, hHG1821, S1822⟩ := S1819.set (k := 0) (i := i1818) rfl (AObj.row false (ints (rw_ rs719 x1755.toNat)))
                    refine AO.s (s_storeAll (vs := ints (rw_ rs719 x1755.toNat)) Try.sizeOf86 rfl rfl ints_one (S1819.get (k := 0) rfl) (ints_len (rw_len ars719 (lt_len rfl (inR_lt k1815)))) (ints_len len_rep) hHG1821) ?_
                    refine AO.nil ?_
                    refine AX.seq ?_
                    refine AX.region ?_
                    refine AO.p rfl (p_move rfl) ?_
                    refine AO.p rfl (p_move rfl) ?_
                    obtain ⟨k1823, hd1824⟩ := chk_some hd1816
                    refine AO.p rfl (p_shrE rfl rfl k1823) ?_
                    refine AO.p rfl (p_andE rfl rfl) ?_
                    refine AO.p rfl (p_assign rfl) ?_
                    refine AO.nil ?_
                    refine DR.startS [false, false, false, false, false, false, false, false, false, false, false, false, false, false, false, false, false, false, true, false, true] mix (by kernel_rfl) (fun hst => ?_)
                    refine DR.p rfl rfl (p_move rfl) ?_
                    refine DR.p rfl rfl (s_fieldAddr Try.underlying86 rfl Try.sizeOf3 (by decide) rfl rfl) ?_
                    refine DR.r rfl rfl (r_load rfl Try.isAgg3) (one_read (row_cell (S1822.get (k := 0) rfl) (ints_get (lt_len (rw_len ars719 (lt_len rfl (inR_lt k1815))) (inR_lt (show inR 0 3 by decide))))) (.of_flat0 rfl)) ?_
                    obtain ⟨k1825, hd1826⟩ := chk_some hd1824
                    refine DR.p rfl rfl (s_indexV (q := (rd (rw_ rs719 x1755.toNat) 0).toNat) Try.underlying43 Try.sizeOf58 rfl (B942.at (inR_pos k1825)) rfl k1825 (z1 _)) ?_
                    obtain ⟨p1827, c1828, e1829, f1830⟩ := tget tT1754 (lt_len lrs1753 (inR_lt k1825))
                    refine DR.r rfl rfl (r_load rfl Try.isAgg58) (one_read (row_cell (S1822.oat (k := 3) rfl (B942.at (inR_pos k1825))) f1830) (TVw.at (S1822.oviewT (k := 4) rfl sT1754) e1829).inn.bel) ?_
                    refine DR.p rfl rfl (s_fieldAddr Try.underlying86 rfl Try.sizeOf2 (by decide) rfl rfl) ?_
                    refine DR.r rfl rfl (r_load rfl Try.isAgg2) (one_read (row_cell (S1822.get (k := 0) rfl) (ints_get (lt_len (rw_len ars719 (lt_len rfl (inR_lt k1815))) (inR_lt (show inR 1 3 by decide))))) (.of_flat0 rfl)) ?_
                    refine DR.p rfl rfl (p_move rfl) ?_
                    refine DR.p rfl rfl (s_fieldAddr Try.underlying86 rfl Try.sizeOf3 (by decide) rfl rfl) ?_
                    refine DR.r rfl rfl (r_load rfl Try.isAgg3) (one_read (row_cell (S1822.get (k := 0) rfl) (ints_get (lt_len (rw_len ars719 (lt_len rfl (inR_lt k1815))) (inR_lt (show inR 0 3 by decide))))) (.of_flat0 rfl)) ?_
                    obtain ⟨k1831, hd1832⟩ := chk_some hd1826
                    refine DR.p rfl rfl (s_indexV (q := (rd (rw_ rs719 x1755.toNat) 0).toNat) Try.underlying43 Try.sizeOf58 rfl (B942.at (inR_pos k1831)) rfl k1831 (z1 _)) ?_
                    refine DR.r rfl rfl (r_load rfl Try.isAgg58) (one_read (row_cell (S1822.oat (k := 3) rfl (B942.at (inR_pos k1831))) (tcell_of e1829)) (TVw.at (S1822.oviewT (k := 4) rfl sT1754) e1829).inn.bel) ?_
                    refine DR.p rfl rfl (s_fieldAddr Try.underlying86 rfl Try.sizeOf2 (by decide) rfl rfl) ?_
                    refine DR.r rfl rfl (r_load rfl Try.isAgg2) (one_read (row_cell (S1822.get (k := 0) rfl) (ints_get (lt_len (rw_len ars719 (lt_len rfl (inR_lt k1815))) (inR_lt (show inR 2 3 by decide))))) (.of_flat0 rfl)) ?_
                    refine DR.p rfl rfl (p_move rfl) ?_
                    refine DR.p rfl rfl (p_move rfl) ?_
                    obtain ⟨k1833, hd1834⟩ := chk_some hd1832
                    refine DR.p rfl rfl (p_subE rfl rfl k1833) ?_
                    obtain ⟨k1835, hd1836⟩ := chk_some hd1834
                    refine DR.p rfl rfl (s_indexV (q := off p1827 + (rd (rw_ rs719 x1755.toNat) 1).toNat) Try.underlying58 Try.sizeOf2 rfl ((TVw.at (S1822.oviewT (k := 4) rfl sT1754) e1829).p (ints_get (lt_len rfl (inR_lt k1835)))) rfl k1835 (o1 _ _)) ?_
                    obtain ⟨G1837, hHG1837, S1838⟩ := S1822.tset (k := 4) rfl e1829 ((TSb.at sT1754 e1829).at (inR_pos k1835)) ((rw_ rs1753 ((rd (rw_ rs719 x1755.toNat) 0).toNat)).set ((rd (rw_ rs719 x1755.toNat) 1).toNat) (iand .i64 (ishr .i64 x1422 x1755) 1))
                    have S1839 := S1838.hdr (k := 3) (tcells_set (xs' := ((rw_ rs1753 ((rd (rw_ rs719 x1755.toNat) 0).toNat)).set ((rd (rw_ rs719 x1755.toNat) 1).toNat) (iand .i64 (ishr .i64 x1422 x1755) 1))) e1829 (len_set rfl)).symm rfl
                    refine DR.s rfl (s_storeO (o := off p1827 + (rd (rw_ rs719 x1755.toNat) 1).toNat) (q := (rd (rw_ rs719 x1755.toNat) 1).toNat) (off0 ((TSb.at sT1754 e1829).at (inR_pos k1835)) _) Try.sizeOf2 rfl rfl rfl (S1822.tat (k := 4) rfl e1829 ((TSb.at sT1754 e1829).at (inR_pos k1835))) (lt_len (ints_length _) (inR_lt k1835)) ((congrArg (fun l => List.set _ _ (AObj.row false l)) (ints_set _ _ _)).trans hHG1837)) (set_le hHG1837) ?_
                    obtain ⟨k1840, hd1841⟩ := chk_some hd1836
                    refine DR.p rfl rfl (s_indexV (q := off p1827 + (rd (rw_ rs719 x1755.toNat) 2).toNat) Try.underlying58 Try.sizeOf2 rfl (((TVw.at (S1839.oviewT (k := 4) rfl (TSb.set sT1754 e1829 (len_set rfl))) (tset_same e1829)).len (len_set rfl)).p (ints_get (lt_len (len_set rfl) (inR_lt k1840)))) rfl k1840 (o1 _ _)) ?_
                    obtain ⟨G1842, hHG1842, S1843⟩ := S1839.tset (k := 4) rfl (tset_same e1829) (((TSb.at (xs := ((rw_ rs1753 ((rd (rw_ rs719 x1755.toNat) 0).toNat)).set ((rd (rw_ rs719 x1755.toNat) 1).toNat) (iand .i64 (ishr .i64 x1422 x1755) 1))) (TSb.set sT1754 e1829 (len_set rfl)) (tset_same e1829)).len (len_set rfl)).at (inR_pos k1840)) (((rw_ rs1753 ((rd (rw_ rs719 x1755.toNat) 0).toNat)).set ((rd (rw_ rs719 x1755.toNat) 1).toNat) (iand .i64 (ishr .i64 x1422 x1755) 1)).set ((rd (rw_ rs719 x1755.toNat) 2).toNat) (1 - (iand .i64 (ishr .i64 x1422 x1755) 1)))
                    have S1844 := S1843.hdr (k := 3) (tcells_set (xs' := (((rw_ rs1753 ((rd (rw_ rs719 x1755.toNat) 0).toNat)).set ((rd (rw_ rs719 x1755.toNat) 1).toNat) (iand .i64 (ishr .i64 x1422 x1755) 1)).set ((rd (rw_ rs719 x1755.toNat) 2).toNat) (1 - (iand .i64 (ishr .i64 x1422 x1755) 1)))) (tset_same e1829) (len_set rfl)).symm rfl
                    refine DR.s rfl (s_storeO (o := off p1827 + (rd (rw_ rs719 x1755.toNat) 2).toNat) (q := (rd (rw_ rs719 x1755.toNat) 2).toNat) (off0 (((TSb.at (xs := ((rw_ rs1753 ((rd (rw_ rs719 x1755.toNat) 0).toNat)).set ((rd (rw_ rs719 x1755.toNat) 1).toNat) (iand .i64 (ishr .i64 x1422 x1755) 1))) (TSb.set sT1754 e1829 (len_set rfl)) (tset_same e1829)).len (len_set rfl)).at (inR_pos k1840)) _) Try.sizeOf2 rfl rfl rfl (S1839.tat (k := 4) rfl (tset_same e1829) (((TSb.at (xs := ((rw_ rs1753 ((rd (rw_ rs719 x1755.toNat) 0).toNat)).set ((rd (rw_ rs719 x1755.toNat) 1).toNat) (iand .i64 (ishr .i64 x1422 x1755) 1))) (TSb.set sT1754 e1829 (len_set rfl)) (tset_same e1829)).len (len_set rfl)).at (inR_pos k1840))) (lt_len ((ints_length _).trans (len_set rfl)) (inR_lt k1840)) ((congrArg (fun l => List.set _ _ (AObj.row false l)) (ints_set _ _ _)).trans hHG1842)) (set_le hHG1842) ?_
                    refine DR.nil 21 [(13, 18)] hst (by kernel_rfl) ⟨(rd1 (fun _ => (S1839.get (k := 0) rfl).trans (S1822.get (k := 0) rfl).symm)), trivial⟩ ?_
                    refine AX.region ?_
                    obtain ⟨k1845, hd1846⟩ := chk_some hd1841
                    refine AO.p rfl (p_addE rfl rfl k1845) ?_
                    refine AO.p rfl (p_move rfl) ?_
                    refine AO.nil ?_
                    obtain rfl := some_inj hd1846
                    have S1848 := S1844.front 4 rfl
                    have S1849 := S1848.front 4 rfl
                    have S1850 := S1849.front 4 rfl
                    have S1851 := S1850.front 4 rfl
                    have S1852 := S1851.keep 4
                    exact ⟨(((rs1753.set ((rd (rw_ rs719 x1755.toNat) 0).toNat) ((rw_ rs1753 ((rd (rw_ rs719 x1755.toNat) 0).toNat)).set ((rd (rw_ rs719 x1755.toNat) 1).toNat) (iand .i64 (ishr .i64 x1422 x1755) 1))).set ((rd (rw_ rs719 x1755.toNat) 0).toNat) (((rw_ rs1753 ((rd (rw_ rs719 x1755.toNat) 0).toNat)).set ((rd (rw_ rs719 x1755.toNat) 1).toNat) (iand .i64 (ishr .i64 x1422 x1755) 1)).set ((rd (rw_ rs719 x1755.toNat) 2).toNat) (1 - (iand .i64 (ishr .i64 x1422 x1755) 1)))), x1755 + 1), hk1808, ((rs1753.set ((rd (rw_ rs719 x1755.toNat) 0).toNat) ((rw_ rs1753 ((rd (rw_ rs719 x1755.toNat) 0).toNat)).set ((rd (rw_ rs719 x1755.toNat) 1).toNat) (iand .i64 (ishr .i64 x1422 x1755) 1))).set ((rd (rw_ rs719 x1755.toNat) 0).toNat) (((rw_ rs1753 ((rd (rw_ rs719 x1755.toNat) 0).toNat)).set ((rd (rw_ rs719 x1755.toNat) 1).toNat) (iand .i64 (ishr .i64 x1422 x1755) 1)).set ((rd (rw_ rs719 x1755.toNat) 2).toNat) (1 - (iand .i64 (ishr .i64 x1422 x1755) 1)))), (x1755 + 1), ((T1754.set ((rd (rw_ rs719 x1755.toNat) 0).toNat) (p1827, c1828, ((rw_ rs1753 ((rd (rw_ rs719 x1755.toNat) 0).toNat)).set ((rd (rw_ rs719 x1755.toNat) 1).toNat) (iand .i64 (ishr .i64 x1422 x1755) 1)))).set ((rd (rw_ rs719 x1755.toNat) 0).toNat) (p1827, c1828, (((rw_ rs1753 ((rd (rw_ rs719 x1755.toNat) 0).toNat)).set ((rd (rw_ rs719 x1755.toNat) 1).toNat) (iand .i64 (ishr .i64 x1422 x1755) 1)).set ((rd (rw_ rs719 x1755.toNat) 2).toNat) (1 - (iand .i64 (ishr .i64 x1422 x1755) 1))))), rfl, S1852, (len_set (len_set lrs1753)), (trows_set' (trows_set' tT1754)), (TSb.set (TSb.set sT1754 e1829 (len_set rfl)) (tset_same e1829) (len_set rfl)), Sub.cons' rfl rfl (Sub.cons' rfl rfl (Sub.cons' rfl rfl (Sub.cons' rfl rfl (Sub.cons' rfl rfl (Sub.cons' rfl rfl (Sub.cons' rfl rfl (Sub.cons' rfl rfl (Sub.cons' rfl rfl (Sub.cons' rfl rfl (Sub.nil _))))))))))⟩
                  · have hd1853 := bif_f c1813 ho1807
                    refine AX.exit ?_
                    obtain rfl := some_inj hd1853
                    have S1854 := S1809.front 3 rfl
                    have S1855 := S1854.front 3 rfl
                    have S1856 := S1855.front 3 rfl
                    have S1857 := S1856.front 3 rfl
                    exact ⟨rs1753, T1754, hk1808, S1857, lrs1753, tT1754, sT1754, Sub.cons' rfl rfl (Sub.cons' rfl rfl (Sub.cons' rfl rfl (Sub.cons' rfl rfl (Sub.cons' rfl rfl (Sub.cons' rfl rfl (Sub.nil _))))))⟩
              · rintro t' G1859 ⟨rs1797, T1798, rfl, S1858, lrs1797, tT1798, sT1798, hsub1860⟩
                refine ⟨_, hsub1860, ?_⟩
                refine AX.seq ?_
                refine AX.region ?_
                refine AO.p rfl (s_fieldAddr Try.underlying37 rfl Try.sizeOf2 (by decide) rfl rfl) ?_
                refine AO.c rfl (s_load Try.isAgg2 rfl (row_cell (S1858.get (k := 0) rfl) rfl)) ?_
                refine AO.p rfl (p_move rfl) ?_
                obtain ⟨xs1861, h1862, hd1863⟩ := bnd_some hd1801
                obtain ⟨_, G1869, hc1868, p1864, c1865, rfl, S1870, B1867⟩ := W_impl_breaks fu G1859 a0_0 p939 c940 T1798 rs1797 tT1798 (by rw [show List.length rs1797 = rs936.length from lrs1797]; exact (S1858.oview (k := 2) rfl B942 (tc_len1 tT1798 lrs1797))) (S1858.oviewT (k := 3) rfl sT1798) xs1861 h1862
                rw [show List.length rs1797 = rs936.length from lrs1797] at hc1868
                have S1871 := S1858.call S1870
                refine AO.c rfl (o_call (vs := [.int .i64 a0_0, .slice p939 rs936.length c940]) rfl Try.call73 hc1868) ?_
                obtain ⟨x1872, h1873, hd1874⟩ := bnd_some hd1863
                refine AO.c rfl (o_call (vs := [.slice p1864 xs1861.length c1865]) rfl Try.call72 (W_impl_total fu G1869 p1864 c1865 xs1861 (S1871.oview (k := 0) rfl B1867 (ints_len1 rfl)) x1872 h1873)) ?_
                refine AO.p rfl (p_assign rfl) ?_
                refine AO.nil ?_
                refine AX.cut (fun t' H' => G1869 = H' ∧ Am.Sub [(1, .pointer (some ⟨i101, 0, none⟩)), (5, .slice p717 rs719.length c718), (10, .slice p939 rs936.length c940), (11, .int .i64 x1421), (16, .int .i64 x1872), (60, .int .i64 (ishl .i64 1 ((rs719.length : Nat) : Int))), (61, .int .i64 x1422), (106, .bool ((decide (x1421 < 0)) || (decide (x1872 < x1421))))] t') ?_ ?_
                · skip
                  refine AX.region ?_
                  refine AO.p rfl (p_move rfl) ?_
                  refine AO.p rfl (p_lss rfl rfl) ?_
                  refine AO.p rfl (p_move rfl) ?_
                  refine AO.cases (d := 102) rfl (fun c1879 => ?_) (fun c1879 => ?_)
                  · skip
                    refine AO.gn rfl rfl rfl ?_
                    refine AO.gn rfl rfl rfl ?_
                    refine AO.gn rfl rfl rfl ?_
                    refine AO.p rfl (p_pickT rfl rfl) ?_
                    refine AO.nil ?_
                    exact ⟨rfl, Sub.cons' rfl rfl (Sub.cons' rfl rfl (Sub.cons' rfl rfl (Sub.cons' rfl rfl (Sub.cons' rfl rfl (Sub.cons' rfl rfl (Sub.cons' rfl rfl (Sub.cons' rfl (bool_eq (by simp only [c1879, Bool.true_and, Bool.false_and, Bool.and_true, Bool.and_false, Bool.true_or, Bool.false_or, Bool.or_true, Bool.or_false, Bool.not_true, Bool.not_false, cond_true, cond_false])) (Sub.nil _))))))))⟩
                  · skip
                    refine AO.gp rfl rfl rfl (p_move rfl) ?_
                    refine AO.gp rfl rfl rfl (p_move rfl) ?_
                    refine AO.gp rfl rfl rfl (p_lss rfl rfl) ?_
                    refine AO.p rfl (p_pickF rfl rfl) ?_
                    refine AO.nil ?_
                    exact ⟨rfl, Sub.cons' rfl rfl (Sub.cons' rfl rfl (Sub.cons' rfl rfl (Sub.cons' rfl rfl (Sub.cons' rfl rfl (Sub.cons' rfl rfl (Sub.cons' rfl rfl (Sub.cons' rfl (bool_eq (by simp only [c1879, Bool.true_and, Bool.false_and, Bool.and_true, Bool.and_false, Bool.true_or, Bool.false_or, Bool.or_true, Bool.or_false, Bool.not_true, Bool.not_false, cond_true, cond_false])) (Sub.nil _))))))))⟩
                · rintro t' _ ⟨rfl, hsub1880⟩
                  refine AX.sub hsub1880 ?_
                  refine AX.cond rfl (fun c1881 => ?_) (fun c1881 => ?_)
                  · have hd1882 := bif_t c1881 hd1874
                    refine AX.region ?_
                    refine AO.p rfl (p_move rfl) ?_
                    refine AO.p rfl (p_assign rfl) ?_
                    refine AO.nil ?_
                    refine AX.region ?_
                    obtain ⟨k1883, hd1884⟩ := chk_some hd1882
                    refine AO.p rfl (p_addE rfl rfl k1883) ?_
                    refine AO.p rfl (p_move rfl) ?_
                    refine AO.nil ?_
                    obtain rfl := some_inj hd1884
                    have S1886 := S1871.front 4 rfl
                    have S1887 := S1886.front 4 rfl
                    have S1888 := S1887.front 4 rfl
                    have S1889 := S1888.front 4 rfl
                    have S1890 := S1889.keep 4
                    exact ⟨(rs1797, x1872, x1422 + 1), hk1660, rs1797, x1872, (x1422 + 1), T1798, rfl, S1890, lrs1797, tT1798, sT1798, Sub.cons' rfl rfl (Sub.cons' rfl rfl (Sub.cons' rfl rfl (Sub.cons' rfl rfl (Sub.cons' rfl rfl (Sub.cons' rfl rfl (Sub.nil _))))))⟩
                  · have hd1891 := bif_f c1881 hd1874
                    refine AX.skip ?_
                    refine AX.region ?_
                    obtain ⟨k1892, hd1893⟩ := chk_some hd1891
                    refine AO.p rfl (p_addE rfl rfl k1892) ?_
                    refine AO.p rfl (p_move rfl) ?_
                    refine AO.nil ?_
                    obtain rfl := some_inj hd1893
                    have S1895 := S1871.front 4 rfl
                    have S1896 := S1895.front 4 rfl
                    have S1897 := S1896.front 4 rfl
                    have S1898 := S1897.front 4 rfl
                    have S1899 := S1898.keep 4
                    exact ⟨(rs1797, x1421, x1422 + 1), hk1660, rs1797, x1421, (x1422 + 1), T1798, rfl, S1899, lrs1797, tT1798, sT1798, Sub.cons' rfl rfl (Sub.cons' rfl rfl (Sub.cons' rfl rfl (Sub.cons' rfl rfl (Sub.cons' rfl rfl (Sub.cons' rfl rfl (Sub.nil _))))))⟩
            · have hd1900 := bif_f c1665 ho1659
              refine AX.exit ?_
              obtain rfl := some_inj hd1900
              have S1901 := S1661.keep 0
              exact ⟨x1421, hk1660, S1901, Sub.cons' rfl rfl (Sub.nil _)⟩
        · rintro t' G1903 ⟨x1650, rfl, S1902, hsub1904⟩
          refine ⟨_, hsub1904, ?_⟩
          refine AX.seq ?_
          refine AX.region ?_
          refine AO.p rfl (p_move rfl) ?_
          refine AO.p rfl (p_assign rfl) ?_
          refine AO.p rfl (p_assign rfl) ?_
          refine AO.nil ?_
          refine AX.ret ?_
          obtain ⟨rfl, rfl⟩ := Prod.mk.inj (some_inj hd1653)
          exact ⟨.inr rfl, _, res2 rfl (rv_tmp rfl) (rv_tmp rfl), rfl, (flat_t2 (flatB_ok rfl) (flatB_ok rfl)), S1902.hold⟩

end Go.Proofs.Ytdafmafigcljkaa
