/-
  The program computes that, printed by a program. No condition.
-/
import Derived.Test.YtakfkiahhfdjfaaDH
import Derived.Test.YtakfkiahhfdjfaaWE
import Derived.Test.YtakfkiahhfdjfaaWD
import Derived.Test.YtakfkiahhfdjfaaProg
import Derived.KernelRfl
namespace Go.Proofs.Ytakfkiahhfdjfaa
open Go Go.RowKit Am
set_option linter.unusedVariables false
set_option linter.unusedSimpArgs false
set_option maxRecDepth 20000
set_option maxHeartbeats 4000000 in
theorem W_spec_l01Order (fu : Nat) (H : AHeap) (p_a0 : Option Addr) (c_a0 : Nat) (a0 : List Int) (v_a0 : Vw H p_a0 a0.length c_a0 (ints a0)) (a1 : Int) (r0 : Bool) (hd : D_spec_l01Order fu a0 a1 = some r0) : ACall Try.prog 64 [.slice p_a0 a0.length c_a0, .int .i64 a1] H (.bool r0) H := by
  refine ACall.bodyP (N := 42) [(0, .slice p_a0 a0.length c_a0), (1, .int .i64 a1)] Try.func64 rfl rfl rfl rfl ?_
  unfold D_spec_l01Order at hd
  have S0 : St [] H H [] := St.nil H
  refine AX.seq ?_
  refine AX.region ?_
  refine AO.p rfl (p_assign rfl) ?_
  refine AO.nil ?_
  refine AX.seq ?_
  refine AX.region ?_
  refine AO.p rfl (p_move rfl) ?_
  obtain ⟨k100, hd101⟩ := chk_some hd
  obtain ⟨G102, i103, hii103, hHG102, S104⟩ := S0.new (AObj.row false (bls (List.replicate a1.toNat false)))
  refine AO.c rfl (s_make1 (v := .bool false) (i := i103) (by_ := 1) Try.underlying91 Try.typeInfo4 Try.sizeOf4 Try.zeroValue4 rfl rfl rfl rfl rfl rfl k100 bls_rep hii103 hHG102) ?_
  refine AO.p rfl (p_assign rfl) ?_
  refine AO.nil ?_
  refine AX.seq ?_
  refine AX.seq ?_
  refine AX.region ?_
  refine AO.p rfl (p_assign rfl) ?_
  refine AO.nil ?_
  obtain ⟨r284, hl285, hd286⟩ := bnd_some hd101
  refine AX.cutS (fun t' H' => .inl () = r284 ∧ St [] H H' [] ∧ Am.Sub [(0, .slice p_a0 a0.length c_a0), (1, .int .i64 a1)] t') ?_ ?_
  · refine AX.block ?_
    refine AX.loopF (fun s' t' H' => ∃ (bs225 : List Bool) (x226 : Int), (bs225, x226) = s' ∧ St [] H H' [[(i103, AObj.row false (bls bs225))]] ∧ bs225.length = a1.toNat ∧ Am.Sub [(0, .slice p_a0 a0.length c_a0), (1, .int .i64 a1), (5, .slice (some (Addr.mk i103 0 none)) a1.toNat a1.toNat), (6, .int .i64 x226)] t') hl285 ?_ ?_
    · skip
      have S287 := S104.front 0 rfl
      exact ⟨(List.replicate a1.toNat false), 0, rfl, S287, len_rep, Sub.cons' rfl rfl (Sub.cons' rfl rfl (Sub.cons' rfl rfl (Sub.cons' rfl rfl (Sub.nil _))))⟩
    · rintro n288 _ t' G292 ⟨bs225, x226, rfl, S291, lbs225, hsub293⟩ o294 ho289 hk290
      refine AX.sub hsub293 ?_
      unfold D_spec_l01Order_s0 at ho289
      refine AX.seq ?_
      refine AX.seq ?_
      refine AX.region ?_
      refine AO.p rfl (p_move rfl) ?_
      refine AO.p rfl (p_move rfl) ?_
      refine AO.p rfl (p_len_slice rfl Try.underlying34) ?_
      refine AO.p rfl (p_lss rfl rfl) ?_
      refine AO.nil ?_
      refine AX.cond rfl (fun c295 => ?_) (fun c295 => ?_)
      · have hd296 := bif_t c295 ho289
        refine AX.skip ?_
        refine AX.seq ?_
        refine AX.block ?_
        refine AX.seq ?_
        obtain ⟨r314, hb315, hd316⟩ := bnd_some hd296
        refine AX.cut (fun t' H' => ∃ (b313 : Bool), b313 = r314 ∧ St [] H H' [[(i103, AObj.row false (bls bs225))]] ∧ Am.Sub [(0, .slice p_a0 a0.length c_a0), (1, .int .i64 a1), (5, .slice (some (Addr.mk i103 0 none)) a1.toNat a1.toNat), (6, .int .i64 x226), (31, .bool b313)] t') ?_ ?_
        · skip
          refine AX.region ?_
          refine AO.p rfl (p_move rfl) ?_
          refine AO.p rfl (p_move rfl) ?_
          obtain ⟨k317, hd318⟩ := chk_some hb315
          refine AO.p rfl (s_indexV (q := off p_a0 + x226.toNat) Try.underlying34 Try.sizeOf2 rfl ((S291.view v_a0).p (ints_get (lt_len rfl (inR_lt k317)))) rfl k317 (o1 _ _)) ?_
          refine AO.c rfl (s_load Try.isAgg2 rfl ((S291.view v_a0).get _ _ (ints_get (lt_len rfl (inR_lt k317))))) ?_
          refine AO.p rfl (p_move rfl) ?_
          obtain ⟨k319, hd320⟩ := chk_some hd318
          refine AO.p rfl (p_subE rfl rfl k319) ?_
          obtain ⟨b321, h322, hd323⟩ := bnd_some hd320
          refine AO.c rfl (o_call (vs := [.int .i64 (rd a0 x226.toNat), .int .i64 0, .int .i64 (a1 - 1)]) rfl Try.call75 (W_spec_l01In fu G292 (rd a0 x226.toNat) 0 (a1 - 1) b321 h322)) ?_
          refine AO.p rfl (p_not rfl) ?_
          refine AO.p rfl (p_move rfl) ?_
          refine AO.cases (d := 23) rfl (fun c325 => ?_) (fun c325 => ?_)
          · have hd326 := bif_t c325 hd323
            refine AO.gn rfl rfl rfl ?_
            refine AO.gn rfl rfl rfl ?_
            refine AO.gn rfl rfl rfl ?_
            refine AO.gn rfl rfl rfl ?_
            refine AO.gn rfl rfl rfl ?_
            refine AO.gn rfl rfl rfl ?_
            refine AO.gn rfl rfl rfl ?_
            refine AO.p rfl (p_pickT rfl rfl) ?_
            refine AO.nil ?_
            have S327 := S291.front 0 rfl
            exact ⟨true, (some_inj hd326), S327, Sub.cons' rfl rfl (Sub.cons' rfl rfl (Sub.cons' rfl rfl (Sub.cons' rfl rfl (Sub.cons' rfl rfl (Sub.nil _)))))⟩
          · have hd328 := bif_f c325 hd323
            refine AO.gp rfl rfl rfl (p_move rfl) ?_
            refine AO.gp rfl rfl rfl (p_move rfl) ?_
            refine AO.gp rfl rfl rfl (p_move rfl) ?_
            obtain ⟨k329, hd330⟩ := chk_some hd328
            refine AO.gp rfl rfl rfl (s_indexV (q := off p_a0 + x226.toNat) Try.underlying34 Try.sizeOf2 rfl ((S291.view v_a0).p (ints_get (lt_len rfl (inR_lt k329)))) rfl k329 (o1 _ _)) ?_
            refine AO.gc rfl rfl rfl (s_load Try.isAgg2 rfl ((S291.view v_a0).get _ _ (ints_get (lt_len rfl (inR_lt k329))))) ?_
            obtain ⟨k331, hd332⟩ := chk_some hd330
            refine AO.gp rfl rfl rfl (s_indexV (q := (rd a0 x226.toNat).toNat) Try.underlying91 Try.sizeOf4 rfl rfl rfl k331 (z1 _)) ?_
            refine AO.gc rfl rfl rfl (s_load Try.isAgg4 rfl (row_cell (S291.get (k := 0) rfl) (bls_get (lt_len lbs225 (inR_lt k331))))) ?_
            refine AO.p rfl (p_pickF rfl rfl) ?_
            refine AO.nil ?_
            have S333 := S291.front 0 rfl
            exact ⟨(rdb bs225 ((rd a0 x226.toNat).toNat)), (some_inj hd332), S333, Sub.cons' rfl rfl (Sub.cons' rfl rfl (Sub.cons' rfl rfl (Sub.cons' rfl rfl (Sub.cons' rfl rfl (Sub.nil _)))))⟩
        · rintro t' G335 ⟨b313, rfl, S334, hsub336⟩
          refine AX.sub hsub336 ?_
          refine AX.cond rfl (fun c337 => ?_) (fun c337 => ?_)
          · have hd338 := bif_t c337 hd316
            refine AX.seq ?_
            refine AX.region ?_
            refine AO.p rfl (p_assign rfl) ?_
            refine AO.nil ?_
            refine AX.ret ?_
            obtain rfl := some_inj hd338
            have z339 : _ = r284 := hk290
            subst z339
            obtain rfl := some_inj hd286
            exact ⟨.inr rfl, _, res1 rfl (rv_tmp rfl), rfl, (flatB_ok rfl), S334.hold⟩
          · have hd340 := bif_f c337 hd316
            refine AX.skip ?_
            refine AX.region ?_
            refine AO.p rfl (p_move rfl) ?_
            refine AO.p rfl (p_move rfl) ?_
            refine AO.p rfl (p_move rfl) ?_
            obtain ⟨k341, hd342⟩ := chk_some hd340
            refine AO.p rfl (s_indexV (q := off p_a0 + x226.toNat) Try.underlying34 Try.sizeOf2 rfl ((S334.view v_a0).p (ints_get (lt_len rfl (inR_lt k341)))) rfl k341 (o1 _ _)) ?_
            refine AO.c rfl (s_load Try.isAgg2 rfl ((S334.view v_a0).get _ _ (ints_get (lt_len rfl (inR_lt k341))))) ?_
            obtain ⟨k343, hd344⟩ := chk_some hd342
            refine AO.p rfl (s_indexV (q := (rd a0 x226.toNat).toNat) Try.underlying91 Try.sizeOf4 rfl rfl rfl k343 (z1 _)) ?_
            obtain ⟨G345, hHG345, S346⟩ := S334.set (k := 0) (i := i103) rfl (AObj.row false (bls (bs225.set ((rd a0 x226.toNat).toNat) true)))
            refine AO.s (s_store Try.sizeOf4 rfl rfl rfl (S334.get (k := 0) rfl) (lt_len ((bls_length _).trans lbs225) (inR_lt k343)) ((congrArg (fun l => List.set _ _ (AObj.row false l)) (bls_set _ _ _)).trans hHG345)) ?_
            refine AO.nil ?_
            refine AX.region ?_
            refine AO.p rfl (p_move rfl) ?_
            obtain ⟨k347, hd348⟩ := chk_some hd344
            refine AO.p rfl (p_addE rfl rfl k347) ?_
            refine AO.p rfl (p_assign rfl) ?_
            refine AO.nil ?_
            obtain rfl := some_inj hd348
            have S350 := S346.front 0 rfl
            exact ⟨((bs225.set ((rd a0 x226.toNat).toNat) true), x226 + 1), hk290, (bs225.set ((rd a0 x226.toNat).toNat) true), (x226 + 1), rfl, S350, (len_set lbs225), Sub.cons' rfl rfl (Sub.cons' rfl rfl (Sub.cons' rfl rfl (Sub.cons' rfl rfl (Sub.nil _))))⟩
      · have hd351 := bif_f c295 ho289
        refine AX.exit ?_
        obtain rfl := some_inj hd351
        have S352 := S291.keep 0
        exact ⟨hk290, S352, Sub.cons' rfl rfl (Sub.cons' rfl rfl (Sub.nil _))⟩
  · rintro t' G354 ⟨rfl, S353, hsub355⟩
    refine ⟨_, hsub355, ?_⟩
    refine AX.seq ?_
    refine AX.region ?_
    refine AO.p rfl (p_move rfl) ?_
    refine AO.p rfl (p_len_slice rfl Try.underlying34) ?_
    refine AO.p rfl (p_move rfl) ?_
    refine AO.p rfl (p_eql rfl rfl) ?_
    refine AO.p rfl (p_assign rfl) ?_
    refine AO.nil ?_
    refine AX.ret ?_
    obtain rfl := some_inj hd286
    exact ⟨.inr rfl, _, res1 rfl (rv_tmp rfl), rfl, (flatB_ok rfl), S353.hold⟩

set_option maxHeartbeats 4000000 in
theorem W_spec_l01Reordered (fu : Nat) (H : AHeap) (a0_0 : Int) (p_a0_1 : Option Addr) (c_a0_1 : Nat) (a0_1 : List (List Int)) (a_a0_1 : All 14 a0_1) (v_a0_1 : Vw H p_a0_1 a0_1.length c_a0_1 (ints a0_1.flatten)) (p_a1 : Option Addr) (c_a1 : Nat) (a1 : List Int) (v_a1 : Vw H p_a1 a1.length c_a1 (ints a1)) (r0 : Int) (r1 : List (List Int)) (hd : D_spec_l01Reordered fu a0_0 a0_1 a1 = some (r0, r1)) : ∃ v G', ACall Try.prog 65 [.agg [.int .i64 a0_0, .slice p_a0_1 a0_1.length c_a0_1].toArray, .slice p_a1 a1.length c_a1] H v G' ∧ ∃ (p_r1 : Option Addr) (c_r1 : Nat), (v = .agg [.int .i64 r0, .slice p_r1 r1.length c_r1].toArray) ∧ St [] H G' [oseg p_r1 (ints r1.flatten)] ∧ Sb p_r1 r1.length c_r1 14 ∧ All 14 r1 := by
  refine ACall.bodyX (args := [.agg [.int .i64 a0_0, .slice p_a0_1 a0_1.length c_a0_1].toArray, .slice p_a1 a1.length c_a1]) (N := 31) [(0, .agg [.int .i64 a0_0, .slice p_a0_1 a0_1.length c_a0_1].toArray), (1, .slice p_a1 a1.length c_a1)] (fun v G' => ∃ (p_r1 : Option Addr) (c_r1 : Nat), (v = .agg [.int .i64 r0, .slice p_r1 r1.length c_r1].toArray) ∧ St [] H G' [oseg p_r1 (ints r1.flatten)] ∧ Sb p_r1 r1.length c_r1 14 ∧ All 14 r1) Try.func65 rfl rfl rfl rfl ?_
  unfold D_spec_l01Reordered at hd
  have S0 : St [] H H [] := St.nil H
  refine AX.seq ?_
  refine AX.region ?_
  obtain ⟨G100, i101, hii101, hHG100, S102⟩ := S0.new (AObj.row false ([.int .i64 a0_0, .slice p_a0_1 a0_1.length c_a0_1]))
  refine AO.c rfl (s_box (i := i101) (cs := [.int .i64 a0_0, .slice p_a0_1 a0_1.length c_a0_1]) rfl hii101 rfl hHG100) ?_
  obtain ⟨G104, i105, hii105, hHG104, S106⟩ := S102.new (AObj.row false ([.int .i64 0, .slice none 0 0]))
  refine AO.c rfl (s_alloc (i := i105) (cs := [.int .i64 0, .slice none 0 0]) Try.zeroValue38 rfl rfl hii105 hHG104) ?_
  refine AO.nil ?_
  refine AX.seq ?_
  refine AX.region ?_
  refine AO.p rfl (s_fieldAddr Try.underlying38 rfl Try.sizeOf2 (by decide) rfl rfl) ?_
  refine AO.c rfl (s_load Try.isAgg2 rfl (row_cell (S106.get (k := 1) rfl) rfl)) ?_
  obtain ⟨G108, i109, hii109, hHG108, S110⟩ := S106.new (AObj.row false (ints [].flatten))
  refine AO.c rfl (s_build0 (i := i109) Try.underlying36 Try.sizeOf76 hii109 hHG108) ?_
  refine AO.p rfl (p_build2 (vs := [(0, .int .i64 a0_0), (1, .slice (some (Addr.mk i109 0 none)) 0 0)]) (cs := [.int .i64 a0_0, .slice (some (Addr.mk i109 0 none)) 0 0]) Try.underlying38 rfl rfl rfl Try.sizeOf2 Try.sizeOf36 Try.zeroValue38 rfl rfl rfl rfl rfl) ?_
  obtain ⟨G112, i113, hii113, hHG112, S114⟩ := S110.new (AObj.row false ([.int .i64 0, .slice none 0 0]))
  refine AO.c rfl (s_alloc (i := i113) (cs := [.int .i64 0, .slice none 0 0]) Try.zeroValue38 rfl rfl hii113 hHG112) ?_
  obtain ⟨G116, hHG116, S117⟩ := S114.set (k := 0) (i := i113) rfl (AObj.row false ([.int .i64 a0_0, .slice (some (Addr.mk i109 0 none)) 0 0]))
  refine AO.s (s_storeAll (vs := [.int .i64 a0_0, .slice (some (Addr.mk i109 0 none)) 0 0]) Try.sizeOf38 rfl rfl (ones_list rfl) (S114.get (k := 0) rfl) rfl rfl hHG116) ?_
  refine AO.nil ?_
  refine AX.seq ?_
  refine AX.seq ?_
  refine AX.region ?_
  refine AO.p rfl (p_assign rfl) ?_
  refine AO.nil ?_
  obtain ⟨r222, hl223, hd224⟩ := bnd_some hd
  refine AX.cutS (fun t' H' => ∃ (rs221 : List (List Int)) (p219 : Option Addr) (c220 : Nat), rs221 = r222 ∧ St [] H H' [[(i105, AObj.row false ([.int .i64 0, .slice none 0 0]))], [(i113, AObj.row false ([.int .i64 a0_0, .slice p219 rs221.length c220]))], oseg p219 (ints rs221.flatten)] ∧ All 14 rs221 ∧ Sb p219 (rs221.length) c220 14 ∧ Am.Sub [(4, .pointer (some ⟨i105, 0, none⟩)), (5, .pointer (some ⟨i113, 0, none⟩))] t') ?_ ?_
  · refine AX.block ?_
    refine AX.loopF (fun s' t' H' => ∃ (rs188 : List (List Int)) (x189 : Int) (p186 : Option Addr) (c187 : Nat), (rs188, x189) = s' ∧ St [] H H' [[(i101, AObj.row false ([.int .i64 a0_0, .slice p_a0_1 a0_1.length c_a0_1]))], [(i105, AObj.row false ([.int .i64 0, .slice none 0 0]))], [(i113, AObj.row false ([.int .i64 a0_0, .slice p186 rs188.length c187]))], oseg p186 (ints rs188.flatten)] ∧ All 14 rs188 ∧ Sb p186 (rs188.length) c187 14 ∧ Am.Sub [(1, .slice p_a1 a1.length c_a1), (2, .pointer (some ⟨i101, 0, none⟩)), (4, .pointer (some ⟨i105, 0, none⟩)), (5, .pointer (some ⟨i113, 0, none⟩)), (6, .int .i64 x189)] t') hl223 ?_ ?_
    · skip
      have S225 := S117.front 1 rfl
      have S226 := S225.front 1 rfl
      have S227 := S226.front 2 rfl
      have S228 := S227.front 3 rfl
      exact ⟨[], 0, (some (Addr.mk i109 0 none)), 0, rfl, S228, all_nil, (Sb.lit (n := 0) (by decide)), Sub.cons' rfl rfl (Sub.cons' rfl rfl (Sub.cons' rfl rfl (Sub.cons' rfl rfl (Sub.cons' rfl rfl (Sub.nil _)))))⟩
    · rintro n229 _ t' G233 ⟨rs188, x189, p186, c187, rfl, S232, ars188, Bo185, hsub234⟩ o235 ho230 hk231
      refine AX.sub hsub234 ?_
      unfold D_spec_l01Reordered_s0 at ho230
      refine AX.seq ?_
      refine AX.seq ?_
      refine AX.region ?_
      refine AO.p rfl (p_move rfl) ?_
      refine AO.p rfl (p_move rfl) ?_
      refine AO.p rfl (p_len_slice rfl Try.underlying34) ?_
      refine AO.p rfl (p_lss rfl rfl) ?_
      refine AO.nil ?_
      refine AX.cond rfl (fun c236 => ?_) (fun c236 => ?_)
      · have hd237 := bif_t c236 ho230
        refine AX.skip ?_
        refine AX.seq ?_
        refine AX.block ?_
        refine DR.startS [false, false, false, false, false, false, false, false, false, false, false, true, false, true] mix (by kernel_rfl) (fun hst => ?_)
        refine DR.p rfl rfl (s_fieldAddr Try.underlying38 rfl Try.sizeOf36 (by decide) rfl rfl) ?_
        refine DR.r rfl rfl (r_load rfl Try.isAgg36) (one_read (row_cell (S232.get (k := 2) rfl) rfl) (S232.oin (k := 3) rfl Bo185).bel) ?_
        refine DR.p rfl rfl (s_fieldAddr Try.underlying38 rfl Try.sizeOf36 (by decide) rfl rfl) ?_
        refine DR.r rfl rfl (r_load rfl Try.isAgg36) (one_read (row_cell (S232.get (k := 0) rfl) rfl) (S232.view v_a0_1).inn.bel) ?_
        refine DR.p rfl rfl (p_move rfl) ?_
        refine DR.p rfl rfl (p_move rfl) ?_
        obtain ⟨k238, hd239⟩ := chk_some hd237
        refine DR.p rfl rfl (s_indexV (q := off p_a1 + x189.toNat) Try.underlying34 Try.sizeOf2 rfl ((S232.view v_a1).p (ints_get (lt_len rfl (inR_lt k238)))) rfl k238 (o1 _ _)) ?_
        refine DR.r rfl rfl (r_load rfl Try.isAgg2) (one_read ((S232.view v_a1).get _ _ (ints_get (lt_len rfl (inR_lt k238)))) (.of_flat0 rfl)) ?_
        obtain ⟨k240, hd241⟩ := chk_some hd239
        refine DR.p rfl rfl (s_indexV (q := off p_a0_1 + ((rd a1 x189.toNat).toNat) * 14) Try.underlying36 Try.sizeOf76 rfl ((S232.view v_a0_1).rowne a_a0_1 (by decide) (lt_len rfl (inR_lt k240))) rfl k240 rfl) ?_
        refine DR.r rfl rfl (r_loadN (vs := ints (rw_ a0_1 ((rd a1 x189.toNat).toNat))) rfl Try.isAgg76 Try.sizeOf76 (ints_len (rw_len a_a0_1 (lt_len rfl (inR_lt k240))))) (many_row ((S232.view v_a0_1).row a_a0_1 (lt_len rfl (inR_lt k240))) bel_ints) ?_
        obtain ⟨G242, i243, hii243, hHG242, S244⟩ := S232.new (AObj.row false (ints [(rw_ a0_1 ((rd a1 x189.toNat).toNat))].flatten))
        refine DR.a rfl rfl hii243 hHG242 (a_build1 (r := (rw_ a0_1 ((rd a1 x189.toNat).toNat))) (zr := List.replicate 14 0) Try.underlying36 Try.sizeOf76 Try.zeroValue76 rfl rfl (by decide) (by decide) rfl (rw_len a_a0_1 (lt_len rfl (inR_lt k240)))) ?_
        obtain ⟨k246, hd247⟩ := chk_some hd241
        obtain ⟨p248, c249, G250, haG250, S251, Bp248⟩ := S244.app (k := 4) rfl Bo185 (ints [(rw_ a0_1 ((rd a1 x189.toNat).toNat))].flatten) 1 (flat_len1 (all_one (rw_len a_a0_1 (lt_len rfl (inR_lt k240)))) rfl)
        have S252 := S251.cellsEq (k := 4) (us' := ints (rs188 ++ [(rw_ a0_1 ((rd a1 x189.toNat).toNat))]).flatten) (intsf_app _ _) rfl
        have BS252 : Sb p248 ((rs188 ++ [(rw_ a0_1 ((rd a1 x189.toNat).toNat))]).length) c249 14 := (show rs188.length + 1 = (rs188 ++ [(rw_ a0_1 ((rd a1 x189.toNat).toNat))]).length from len_app (a := rs188) (b := [(rw_ a0_1 ((rd a1 x189.toNat).toNat))]) rfl rfl) ▸ Bp248
        have S253 := S252.drop 0 rfl
        refine DR.w rfl rfl (s_app (by_ := 112) (us := ints rs188.flatten) (vs := ints [(rw_ a0_1 ((rd a1 x189.toNat).toNat))].flatten) Try.underlying36 Try.underlying36 Try.typeInfo76 Try.sizeOf76 Try.zeroValue76 rfl rfl rfl rfl rfl rfl rfl (S244.buf (k := 4) rfl Bo185 (flat_len1 ars188 rfl)) (S244.oview (k := 0) rfl (Sb.lit (n := 1) (by decide)) (flat_len1 (all_one (rw_len a_a0_1 (lt_len rfl (inR_lt k240)))) rfl)) (flat_len1 (all_one (rw_len a_a0_1 (lt_len rfl (inR_lt k240)))) rfl) ints_one k246 haG250 (show rs188.length + 1 = (rs188 ++ [(rw_ a0_1 ((rd a1 x189.toNat).toNat))]).length from len_app (a := rs188) (b := [(rw_ a0_1 ((rd a1 x189.toNat).toNat))]) rfl rfl)) (appR_len haG250) ?_
        refine DR.p rfl rfl (s_fieldAddr Try.underlying38 rfl Try.sizeOf36 (by decide) rfl rfl) ?_
        obtain ⟨G254, hHG254, S255⟩ := S253.set (k := 2) (i := i113) rfl (AObj.row false ([.int .i64 a0_0, .slice p248 ((rs188 ++ [(rw_ a0_1 ((rd a1 x189.toNat).toNat))]).length) c249]))
        refine DR.s rfl (s_store Try.sizeOf36 rfl rfl rfl (S253.get (k := 2) rfl) (Nat.le_of_ble_eq_true rfl) hHG254) (set_le hHG254) ?_
        refine DR.nil 14 [] hst (by kernel_rfl) trivial ?_
        refine AX.region ?_
        refine AO.p rfl (p_move rfl) ?_
        obtain ⟨k256, hd257⟩ := chk_some hd247
        refine AO.p rfl (p_addE rfl rfl k256) ?_
        refine AO.p rfl (p_assign rfl) ?_
        refine AO.nil ?_
        obtain rfl := some_inj hd257
        have S259 := S255.front 3 rfl
        have S260 := S259.front 3 rfl
        have S261 := S260.front 3 rfl
        have S262 := S261.front 3 rfl
        exact ⟨((rs188 ++ [(rw_ a0_1 ((rd a1 x189.toNat).toNat))]), x189 + 1), hk231, (rs188 ++ [(rw_ a0_1 ((rd a1 x189.toNat).toNat))]), (x189 + 1), p248, c249, rfl, S262, (all_app ars188 (all_one (rw_len a_a0_1 (lt_len rfl (inR_lt k240))))), BS252, Sub.cons' rfl rfl (Sub.cons' rfl rfl (Sub.cons' rfl rfl (Sub.cons' rfl rfl (Sub.cons' rfl rfl (Sub.nil _)))))⟩
      · have hd263 := bif_f c236 ho230
        refine AX.exit ?_
        obtain rfl := some_inj hd263
        have S264 := S232.front 3 rfl
        have S265 := S264.front 3 rfl
        have S266 := S265.front 3 rfl
        have S267 := S266.keep 3
        exact ⟨rs188, p186, c187, hk231, S267, ars188, Bo185, Sub.cons' rfl rfl (Sub.cons' rfl rfl (Sub.nil _))⟩
  · rintro t' G269 ⟨rs221, p219, c220, rfl, S268, ars221, Bo218, hsub270⟩
    refine ⟨_, hsub270, ?_⟩
    refine AX.seq ?_
    refine AX.region ?_
    refine AO.c rfl (s_loadN (vs := [.int .i64 a0_0, .slice p219 rs221.length c220]) Try.isAgg38 Try.sizeOf38 rfl rfl (row_cells (S268.get (k := 1) rfl))) ?_
    obtain ⟨G271, hHG271, S272⟩ := S268.set (k := 0) (i := i105) rfl (AObj.row false ([.int .i64 a0_0, .slice p219 rs221.length c220]))
    refine AO.s (s_storeAll (vs := [.int .i64 a0_0, .slice p219 rs221.length c220]) Try.sizeOf38 rfl rfl (ones_list rfl) (S268.get (k := 0) rfl) rfl rfl hHG271) ?_
    refine AO.nil ?_
    refine AX.ret ?_
    obtain ⟨rfl, rfl⟩ := Prod.mk.inj (some_inj hd224)
    have S274 := S272.front 2 rfl
    have S275 := S274.keep 1
    exact ⟨.inr rfl, _, res1 rfl (rv_cell (vs := [.int .i64 a0_0, .slice p219 rs221.length c220]) rfl Try.isAgg38 Try.sizeOf38 rfl (row_cells (S272.get (k := 0) rfl))), p219, c220, rfl, S275, Bo218, ars221⟩

set_option maxHeartbeats 4000000 in
theorem W_spec_ReorderRounds (fu : Nat) (H : AHeap) (a0_0 : Int) (p_a0_1 : Option Addr) (c_a0_1 : Nat) (a0_1 : List (List Int)) (a_a0_1 : All 14 a0_1) (v_a0_1 : Vw H p_a0_1 a0_1.length c_a0_1 (ints a0_1.flatten)) (p_a1 : Option Addr) (c_a1 : Nat) (a1 : List Int) (v_a1 : Vw H p_a1 a1.length c_a1 (ints a1)) (r0 : Int) (r1 : List (List Int)) (r2 : Int) (hd : D_spec_ReorderRounds fu a0_0 a0_1 a1 = some (r0, r1, r2)) : ∃ v G', ACall Try.prog 21 [.agg [.int .i64 a0_0, .slice p_a0_1 a0_1.length c_a0_1].toArray, .slice p_a1 a1.length c_a1] H v G' ∧ ∃ (p_r1 : Option Addr) (c_r1 : Nat), (v = .tuple #[.agg [.int .i64 r0, .slice p_r1 r1.length c_r1].toArray, .int .i64 r2]) ∧ St [] H G' [oseg p_r1 (ints r1.flatten)] ∧ Sb p_r1 r1.length c_r1 14 ∧ All 14 r1 := by
  refine ACall.bodyX (args := [.agg [.int .i64 a0_0, .slice p_a0_1 a0_1.length c_a0_1].toArray, .slice p_a1 a1.length c_a1]) (N := 22) [(0, .agg [.int .i64 a0_0, .slice p_a0_1 a0_1.length c_a0_1].toArray), (1, .slice p_a1 a1.length c_a1)] (fun v G' => ∃ (p_r1 : Option Addr) (c_r1 : Nat), (v = .tuple #[.agg [.int .i64 r0, .slice p_r1 r1.length c_r1].toArray, .int .i64 r2]) ∧ St [] H G' [oseg p_r1 (ints r1.flatten)] ∧ Sb p_r1 r1.length c_r1 14 ∧ All 14 r1) Try.func21 rfl rfl rfl rfl ?_
  unfold D_spec_ReorderRounds at hd
  have S0 : St [] H H [] := St.nil H
  refine AX.seq ?_
  refine AX.region ?_
  obtain ⟨G100, i101, hii101, hHG100, S102⟩ := S0.new (AObj.row false ([.int .i64 a0_0, .slice p_a0_1 a0_1.length c_a0_1]))
  refine AO.c rfl (s_box (i := i101) (cs := [.int .i64 a0_0, .slice p_a0_1 a0_1.length c_a0_1]) rfl hii101 rfl hHG100) ?_
  obtain ⟨G104, i105, hii105, hHG104, S106⟩ := S102.new (AObj.row false ([.int .i64 0, .slice none 0 0]))
  refine AO.c rfl (s_alloc (i := i105) (cs := [.int .i64 0, .slice none 0 0]) Try.zeroValue38 rfl rfl hii105 hHG104) ?_
  refine AO.p rfl (p_assign rfl) ?_
  refine AO.nil ?_
  refine AX.seq ?_
  refine AX.block ?_
  refine AX.seq ?_
  refine AX.region ?_
  refine AO.c rfl (s_loadN (vs := [.int .i64 a0_0, .slice p_a0_1 a0_1.length c_a0_1]) Try.isAgg38 Try.sizeOf38 rfl rfl (row_cells (S106.get (k := 1) rfl))) ?_
  obtain ⟨b108, h109, hd110⟩ := bnd_some hd
  refine AO.c rfl (o_call (vs := [.agg [.int .i64 a0_0, .slice p_a0_1 a0_1.length c_a0_1].toArray]) rfl Try.call63 (W_spec_l01Is fu G104 a0_0 p_a0_1 c_a0_1 a0_1 a_a0_1 (S106.view v_a0_1) b108 h109)) ?_
  refine AO.p rfl (p_not rfl) ?_
  refine AO.p rfl (p_assign rfl) ?_
  refine AO.nil ?_
  refine AX.cond rfl (fun c112 => ?_) (fun c112 => ?_)
  · have hd113 := bif_t c112 hd110
    refine AX.seq ?_
    refine AX.region ?_
    refine AO.p rfl (p_build2 (vs := []) (cs := [.int .i64 0, .slice none 0 0]) Try.underlying38 rfl rfl rfl Try.sizeOf2 Try.sizeOf36 Try.zeroValue38 rfl rfl rfl rfl rfl) ?_
    obtain ⟨G114, hHG114, S115⟩ := S106.set (k := 0) (i := i105) rfl (AObj.row false ([.int .i64 0, .slice none 0 0]))
    refine AO.s (s_storeAll (vs := [.int .i64 0, .slice none 0 0]) Try.sizeOf38 rfl rfl (ones_list rfl) (S106.get (k := 0) rfl) rfl rfl hHG114) ?_
    refine AO.p rfl (p_assign rfl) ?_
    refine AO.nil ?_
    refine AX.ret ?_
    obtain ⟨rfl, z116⟩ := Prod.mk.inj (some_inj hd113)
    obtain ⟨rfl, rfl⟩ := Prod.mk.inj z116
    have S118 : St [] H G114 (oseg none (ints (List.flatten [])) :: _) := S115.nilseg 0
    have S119 := S118.keep 1
    exact ⟨.inr rfl, _, res2 rfl (rv_cell (vs := [.int .i64 0, .slice none 0 0]) rfl Try.isAgg38 Try.sizeOf38 rfl (row_cells (S115.get (k := 0) rfl))) (rv_tmp rfl), none, 0, rfl, S119, Sb.nil, all_nil⟩
  · have hd120 := bif_f c112 hd110
    refine AX.seq ?_
    refine AX.region ?_
    refine AO.p rfl (p_move rfl) ?_
    refine AO.p rfl (s_fieldAddr Try.underlying38 rfl Try.sizeOf36 (by decide) rfl rfl) ?_
    refine AO.c rfl (s_load Try.isAgg36 rfl (row_cell (S106.get (k := 1) rfl) rfl)) ?_
    refine AO.p rfl (p_len_slice rfl Try.underlying36) ?_
    obtain ⟨b121, h122, hd123⟩ := bnd_some hd120
    refine AO.c rfl (o_call (vs := [.slice p_a1 a1.length c_a1, .int .i64 ((a0_1.length : Nat) : Int)]) rfl Try.call64 (W_spec_l01Order fu G104 p_a1 c_a1 a1 (S106.view v_a1) ((a0_1.length : Nat) : Int) b121 h122)) ?_
    refine AO.p rfl (p_not rfl) ?_
    refine AO.p rfl (p_assign rfl) ?_
    refine AO.nil ?_
    refine AX.cond rfl (fun c125 => ?_) (fun c125 => ?_)
    · have hd126 := bif_t c125 hd123
      refine AX.seq ?_
      refine AX.region ?_
      refine AO.p rfl (p_build2 (vs := []) (cs := [.int .i64 0, .slice none 0 0]) Try.underlying38 rfl rfl rfl Try.sizeOf2 Try.sizeOf36 Try.zeroValue38 rfl rfl rfl rfl rfl) ?_
      obtain ⟨G127, hHG127, S128⟩ := S106.set (k := 0) (i := i105) rfl (AObj.row false ([.int .i64 0, .slice none 0 0]))
      refine AO.s (s_storeAll (vs := [.int .i64 0, .slice none 0 0]) Try.sizeOf38 rfl rfl (ones_list rfl) (S106.get (k := 0) rfl) rfl rfl hHG127) ?_
      refine AO.p rfl (p_assign rfl) ?_
      refine AO.nil ?_
      refine AX.ret ?_
      obtain ⟨rfl, z129⟩ := Prod.mk.inj (some_inj hd126)
      obtain ⟨rfl, rfl⟩ := Prod.mk.inj z129
      have S131 : St [] H G127 (oseg none (ints (List.flatten [])) :: _) := S128.nilseg 0
      have S132 := S131.keep 1
      exact ⟨.inr rfl, _, res2 rfl (rv_cell (vs := [.int .i64 0, .slice none 0 0]) rfl Try.isAgg38 Try.sizeOf38 rfl (row_cells (S128.get (k := 0) rfl))) (rv_tmp rfl), none, 0, rfl, S132, Sb.nil, all_nil⟩
    · have hd133 := bif_f c125 hd123
      refine AX.skip ?_
      refine AX.seq ?_
      refine AX.region ?_
      refine AO.c rfl (s_loadN (vs := [.int .i64 a0_0, .slice p_a0_1 a0_1.length c_a0_1]) Try.isAgg38 Try.sizeOf38 rfl rfl (row_cells (S106.get (k := 1) rfl))) ?_
      refine AO.p rfl (p_move rfl) ?_
      obtain ⟨⟨x134, rs135⟩, h136, hd137⟩ := bnd_some hd133
      obtain ⟨_, G144, hc143, p138, c139, rfl, S145, B141, a142⟩ := W_spec_l01Reordered fu G104 a0_0 p_a0_1 c_a0_1 a0_1 a_a0_1 (S106.view v_a0_1) p_a1 c_a1 a1 (S106.view v_a1) x134 rs135 h136
      have S146 := S106.call S145
      refine AO.c rfl (o_call (vs := [.agg [.int .i64 a0_0, .slice p_a0_1 a0_1.length c_a0_1].toArray, .slice p_a1 a1.length c_a1]) rfl Try.call65 hc143) ?_
      obtain ⟨G147, hHG147, S148⟩ := S146.set (k := 1) (i := i105) rfl (AObj.row false ([.int .i64 x134, .slice p138 rs135.length c139]))
      refine AO.s (s_storeAll (vs := [.int .i64 x134, .slice p138 rs135.length c139]) Try.sizeOf38 rfl rfl (ones_list rfl) (S146.get (k := 1) rfl) rfl rfl hHG147) ?_
      refine AO.p rfl (p_assign rfl) ?_
      refine AO.nil ?_
      refine AX.ret ?_
      obtain ⟨rfl, z149⟩ := Prod.mk.inj (some_inj hd137)
      obtain ⟨rfl, rfl⟩ := Prod.mk.inj z149
      have S151 := S148.front 0 rfl
      have S152 := S151.keep 1
      exact ⟨.inr rfl, _, res2 rfl (rv_cell (vs := [.int .i64 x134, .slice p138 rs135.length c139]) rfl Try.isAgg38 Try.sizeOf38 rfl (row_cells (S148.get (k := 1) rfl))) (rv_tmp rfl), p138, c139, rfl, S152, B141, a142⟩

set_option maxHeartbeats 4000000 in
theorem W_impl_size_impl_Round (fu : Nat) (H : AHeap) (p_a0 : Option Addr) (c_a0 : Nat) (a0 : List (List Int)) (a_a0 : All 14 a0) (v_a0 : Vw H p_a0 a0.length c_a0 (ints a0.flatten)) (r0 : Int) (hd : D_impl_size_impl_Round fu a0 = some r0) : ACall Try.prog 70 [.slice p_a0 a0.length c_a0] H (.int .i64 r0) H := by
  refine ACall.bodyP (N := 5) [(0, .slice p_a0 a0.length c_a0)] Try.func70 rfl rfl rfl rfl ?_
  unfold D_impl_size_impl_Round at hd
  have S0 : St [] H H [] := St.nil H
  refine AX.seq ?_
  refine AX.region ?_
  refine AO.p rfl (p_assign rfl) ?_
  refine AO.nil ?_
  refine AX.seq ?_
  refine AX.region ?_
  refine AO.p rfl (p_move rfl) ?_
  refine AO.p rfl (p_len_slice rfl Try.underlying36) ?_
  refine AO.p rfl (p_assign rfl) ?_
  refine AO.nil ?_
  refine AX.ret ?_
  obtain rfl := some_inj hd
  exact ⟨.inr rfl, _, res1 rfl (rv_tmp rfl), rfl, (flatB_ok rfl), S0.hold⟩

set_option maxHeartbeats 4000000 in
theorem W_impl_isOrder (fu : Nat) (H : AHeap) (p_a0 : Option Addr) (c_a0 : Nat) (a0 : List Int) (v_a0 : Vw H p_a0 a0.length c_a0 (ints a0)) (a1 : Int) (r0 : Bool) (hd : D_impl_isOrder fu a0 a1 = some r0) : ACall Try.prog 69 [.slice p_a0 a0.length c_a0, .int .i64 a1] H (.bool r0) H := by
  refine ACall.bodyP (N := 26) [(0, .slice p_a0 a0.length c_a0), (1, .int .i64 a1)] Try.func69 rfl rfl rfl rfl ?_
  unfold D_impl_isOrder at hd
  have S0 : St [] H H [] := St.nil H
  refine AX.seq ?_
  refine AX.region ?_
  refine AO.p rfl (p_assign rfl) ?_
  refine AO.nil ?_
  refine AX.seq ?_
  refine AX.region ?_
  refine AO.p rfl (p_move rfl) ?_
  obtain ⟨_, h100, hd101⟩ := bnd_some hd
  obtain ⟨_, G105, hc104, i102, rfl, S106⟩ := W_slices_Values_Sint64_int64 fu H p_a0 c_a0 a0 (S0.view v_a0)  h100
  have S107 := S0.call S106
  refine AO.c rfl (o_call (vs := [.slice p_a0 a0.length c_a0]) rfl Try.call102 hc104) ?_
  obtain ⟨xs108, h109, hd110⟩ := bnd_some hd101
  obtain ⟨_, G116, hc115, p111, c112, rfl, S117, B114⟩ := W_slices_Sorted_int64 fu G105 i102 false p_a0 c_a0 a0 (S107.view v_a0) (S107.get (k := 0) rfl) xs108 h109
  have S118 := S107.call S117
  refine AO.c rfl (o_call (vs := [.func (.func 124) #[] #[.pointer (some ⟨i102, 0, none⟩)]]) rfl Try.call101 hc115) ?_
  refine AO.p rfl (p_assign rfl) ?_
  refine AO.nil ?_
  refine AX.seq ?_
  refine AX.seq ?_
  refine AX.region ?_
  refine AO.p rfl (p_move rfl) ?_
  refine AO.p rfl (p_len_slice rfl Try.underlying34) ?_
  refine AO.p rfl (p_move rfl) ?_
  refine AO.nil ?_
  obtain ⟨r163, hl164, hd165⟩ := bnd_some hd110
  refine AX.cutS (fun t' H' => .inl () = r163 ∧ St [] H H' [] ∧ Am.Sub [(0, .slice p_a0 a0.length c_a0), (1, .int .i64 a1)] t') ?_ ?_
  · refine AX.block ?_
    refine AX.loopF (fun s' t' H' => ∃ (x149 : Int), x149 = s' ∧ St [] H H' [oseg p111 (ints xs108)] ∧ Am.Sub [(0, .slice p_a0 a0.length c_a0), (1, .int .i64 a1), (11, .slice p111 xs108.length c112), (12, .int .i64 ((xs108.length : Nat) : Int)), (13, .int .i64 x149)] t') hl164 ?_ ?_
    · skip
      have S166 := S118.front 0 rfl
      have S167 := S166.keep 1
      exact ⟨0, rfl, S167, Sub.cons' rfl rfl (Sub.cons' rfl rfl (Sub.cons' rfl rfl (Sub.cons' rfl rfl (Sub.cons' rfl rfl (Sub.nil _)))))⟩
    · rintro n168 _ t' G172 ⟨x149, rfl, S171, hsub173⟩ o174 ho169 hk170
      refine AX.sub hsub173 ?_
      unfold D_impl_isOrder_s0 at ho169
      refine AX.seq ?_
      refine AX.region ?_
      refine AO.p rfl (p_lss rfl rfl) ?_
      refine AO.nil ?_
      refine AX.seq ?_
      refine AX.cond rfl (fun c175 => ?_) (fun c175 => ?_)
      · have hd176 := bif_t c175 ho169
        refine AX.skip ?_
        refine AX.seq ?_
        refine AX.block ?_
        refine AX.seq ?_
        refine AX.region ?_
        refine AO.p rfl (p_move rfl) ?_
        obtain ⟨k177, hd178⟩ := chk_some hd176
        refine AO.p rfl (s_indexV (q := x149.toNat) Try.underlying34 Try.sizeOf2 rfl (B114.at (inR_pos k177)) rfl k177 (z1 _)) ?_
        refine AO.c rfl (s_load Try.isAgg2 rfl (row_cell (S171.oat (k := 0) rfl (B114.at (inR_pos k177))) (ints_get (lt_len rfl (inR_lt k177))))) ?_
        refine AO.p rfl (p_assign rfl) ?_
        refine AO.p rfl (p_assign rfl) ?_
        refine AO.nil ?_
        refine AX.seq ?_
        refine AX.region ?_
        refine AO.p rfl (p_move rfl) ?_
        refine AO.p rfl (p_move rfl) ?_
        refine AO.p rfl (p_neq rfl rfl) ?_
        refine AO.nil ?_
        refine AX.cond rfl (fun c179 => ?_) (fun c179 => ?_)
        · have hd180 := bif_t c179 hd178
          refine AX.seq ?_
          refine AX.region ?_
          refine AO.p rfl (p_assign rfl) ?_
          refine AO.nil ?_
          refine AX.ret ?_
          obtain rfl := some_inj hd180
          have z181 : _ = r163 := hk170
          subst z181
          obtain rfl := some_inj hd165
          exact ⟨.inr rfl, _, res1 rfl (rv_tmp rfl), rfl, (flatB_ok rfl), S171.hold⟩
        · have hd182 := bif_f c179 hd178
          refine AX.skip ?_
          refine AX.region ?_
          obtain ⟨k183, hd184⟩ := chk_some hd182
          refine AO.p rfl (p_addE rfl rfl k183) ?_
          refine AO.p rfl (p_move rfl) ?_
          refine AO.nil ?_
          obtain rfl := some_inj hd184
          have S186 := S171.front 0 rfl
          exact ⟨x149 + 1, hk170, (x149 + 1), rfl, S186, Sub.cons' rfl rfl (Sub.cons' rfl rfl (Sub.cons' rfl rfl (Sub.cons' rfl rfl (Sub.cons' rfl rfl (Sub.nil _)))))⟩
      · have hd187 := bif_f c175 ho169
        refine AX.exit ?_
        obtain rfl := some_inj hd187
        have S188 := S171.keep 0
        exact ⟨hk170, S188, Sub.cons' rfl rfl (Sub.cons' rfl rfl (Sub.nil _))⟩
  · rintro t' G190 ⟨rfl, S189, hsub191⟩
    refine ⟨_, hsub191, ?_⟩
    refine AX.seq ?_
    refine AX.region ?_
    refine AO.p rfl (p_move rfl) ?_
    obtain ⟨x192, h193, hd194⟩ := bnd_some hd165
    refine AO.c rfl (o_call (vs := [.slice p_a0 a0.length c_a0]) rfl Try.call109 (W_impl_size_int64 fu G190 p_a0 c_a0 a0 (S189.view v_a0) x192 h193)) ?_
    refine AO.p rfl (p_move rfl) ?_
    refine AO.p rfl (p_eql rfl rfl) ?_
    refine AO.p rfl (p_assign rfl) ?_
    refine AO.nil ?_
    refine AX.ret ?_
    obtain rfl := some_inj hd194
    exact ⟨.inr rfl, _, res1 rfl (rv_tmp rfl), rfl, (flatB_ok rfl), S189.hold⟩

set_option maxHeartbeats 4000000 in
theorem W_impl_ReorderRounds_1 (fu : Nat) (H : AHeap) (i_b0 : Nat) (ro_b0 : Bool) (p_b0_0 : Option Addr) (c_b0_0 : Nat) (b0_0 : List Int) (v_b0_0 : Vw H p_b0_0 b0_0.length c_b0_0 (ints b0_0)) (o_b0 : hget H i_b0 = .row ro_b0 ([.slice p_b0_0 b0_0.length c_b0_0])) (i_b1 : Nat) (ro_b1 : Bool) (b1_0 : Int) (p_b1_1 : Option Addr) (c_b1_1 : Nat) (b1_1 : List (List Int)) (a_b1_1 : All 14 b1_1) (v_b1_1 : Vw H p_b1_1 b1_1.length c_b1_1 (ints b1_1.flatten)) (o_b1 : hget H i_b1 = .row ro_b1 ([.int .i64 b1_0, .slice p_b1_1 b1_1.length c_b1_1])) (r0 : Bool) (hd : D_impl_ReorderRounds_1 fu b0_0 b1_0 b1_1 = some r0) : ACall Try.prog 68 [.pointer (some ⟨i_b0, 0, none⟩), .pointer (some ⟨i_b1, 0, none⟩)] H (.bool r0) H := by
  refine ACall.bodyP (N := 8) [(0, .pointer (some ⟨i_b0, 0, none⟩)), (1, .pointer (some ⟨i_b1, 0, none⟩))] Try.func68 rfl rfl rfl rfl ?_
  unfold D_impl_ReorderRounds_1 at hd
  have S0 : St [] H H [] := St.nil H
  refine AX.seq ?_
  refine AX.region ?_
  refine AO.p rfl (p_assign rfl) ?_
  refine AO.nil ?_
  refine AX.seq ?_
  refine DR.startS [false, false, false, true, true, false] mix (by kernel_rfl) (fun hst => ?_)
  refine DR.r rfl rfl (r_load rfl Try.isAgg34) (one_read (row_cell (S0.old o_b0 (by simp)) rfl) (S0.view v_b0_0).inn.bel) ?_
  refine DR.p rfl rfl (s_fieldAddr Try.underlying38 rfl Try.sizeOf36 (by decide) rfl rfl) ?_
  refine DR.r rfl rfl (r_load rfl Try.isAgg36) (one_read (row_cell (S0.old o_b1 (by simp)) rfl) (S0.view v_b1_1).inn.bel) ?_
  obtain ⟨x100, h101, hd102⟩ := bnd_some hd
  refine DR.w rfl rfl (o_call (vs := [.slice p_b1_1 b1_1.length c_b1_1]) rfl Try.call70 (W_impl_size_impl_Round fu H p_b1_1 c_b1_1 b1_1 a_b1_1 (S0.view v_b1_1) x100 h101)) (Nat.le_refl _) ?_
  obtain ⟨b104, h105, hd106⟩ := bnd_some hd102
  refine DR.w rfl rfl (o_call (vs := [.slice p_b0_0 b0_0.length c_b0_0, .int .i64 x100]) rfl Try.call69 (W_impl_isOrder fu H p_b0_0 c_b0_0 b0_0 (S0.view v_b0_0) x100 b104 h105)) (Nat.le_refl _) ?_
  refine DR.p rfl rfl (p_assign rfl) ?_
  refine DR.nil 6 [(0, 3)] hst (by kernel_rfl) ⟨(rd1 (fun _ => rfl)), trivial⟩ ?_
  refine AX.ret ?_
  obtain rfl := some_inj hd106
  exact ⟨.inr rfl, _, res1 rfl (rv_tmp rfl), rfl, (flatB_ok rfl), S0.hold⟩

set_option maxHeartbeats 4000000 in
theorem W_slices_Clone_Simpl_Round_impl_Round (fu : Nat) (H : AHeap) (p_a0 : Option Addr) (c_a0 : Nat) (a0 : List (List Int)) (a_a0 : All 14 a0) (v_a0 : Vw H p_a0 a0.length c_a0 (ints a0.flatten)) (e_a0 : c_a0 ≠ capE) (r0 : List (List Int)) (hd : D_slices_Clone_Simpl_Round_impl_Round fu a0 = some r0) : ∃ v G', ACall Try.prog 110 [.slice p_a0 a0.length c_a0] H v G' ∧ ∃ (p_r0 : Option Addr) (c_r0 : Nat), (v = .slice p_r0 r0.length c_r0) ∧ St [] H G' [oseg p_r0 (ints r0.flatten)] ∧ Sb p_r0 r0.length c_r0 14 ∧ All 14 r0 := by
  refine ACall.bodyX (args := [.slice p_a0 a0.length c_a0]) (N := 8) [(0, .slice p_a0 a0.length c_a0)] (fun v G' => ∃ (p_r0 : Option Addr) (c_r0 : Nat), (v = .slice p_r0 r0.length c_r0) ∧ St [] H G' [oseg p_r0 (ints r0.flatten)] ∧ Sb p_r0 r0.length c_r0 14 ∧ All 14 r0) Try.func110 rfl rfl rfl rfl ?_
  unfold D_slices_Clone_Simpl_Round_impl_Round at hd
  have S0 : St [] H H [] := St.nil H
  refine AX.seq ?_
  refine AX.region ?_
  refine AO.p rfl (p_assign rfl) ?_
  refine AO.nil ?_
  refine AX.seq ?_
  refine AX.seq ?_
  refine AX.region ?_
  refine AO.p rfl (p_move rfl) ?_
  refine AO.p rfl (p_eqlNil Try.underlying36 rfl e_a0) ?_
  refine AO.nil ?_
  refine AX.cond rfl (fun c100 => ?_) (fun c100 => ?_)
  · obtain rfl : a0 = [] := List.eq_nil_of_length_eq_zero (vw_nil v_a0 c100).1
    obtain ⟨_, hd101⟩ := chk_some hd
    refine AX.seq ?_
    refine AX.region ?_
    refine AO.p rfl (p_assign rfl) ?_
    refine AO.nil ?_
    refine AX.ret ?_
    obtain rfl := some_inj hd101
    have S102 : St [] H H (oseg none (ints (List.flatten [])) :: _) := S0.nilseg 0
    exact ⟨.inr rfl, _, res1 rfl (rv_tmp rfl), none, 0, rfl, S102, Sb.nil, all_nil⟩
  · skip
    refine AX.skip ?_
    refine AX.seq ?_
    refine AX.region ?_
    obtain ⟨G103, i104, hii104, hHG103, S105⟩ := S0.new (AObj.row false (ints [].flatten))
    refine AO.c rfl (s_build0 (i := i104) Try.underlying36 Try.sizeOf76 hii104 hHG103) ?_
    refine AO.p rfl (p_move rfl) ?_
    obtain ⟨k107, hd108⟩ := chk_some hd
    obtain ⟨p109, c110, G111, haG111, S112, Bp109⟩ := S105.app (k := 0) rfl (Sb.lit (n := 0) (by decide)) (ints a0.flatten) a0.length (flat_len1 a_a0 rfl)
    have S113 := S112.cellsEq (k := 0) (us' := ints a0.flatten) (List.nil_append _) rfl
    have BS113 : Sb p109 (a0.length) c110 14 := (show 0 + a0.length = a0.length from len_nilapp (b := a0) rfl) ▸ Bp109
    refine AO.c rfl (s_app (by_ := 112) (us := ints [].flatten) (vs := ints a0.flatten) Try.underlying36 Try.underlying36 Try.typeInfo76 Try.sizeOf76 Try.zeroValue76 rfl rfl rfl rfl rfl rfl rfl (S105.buf (k := 0) rfl (Sb.lit (n := 0) (by decide)) (flat_len1 all_nil rfl)) (S105.view v_a0) (flat_len1 a_a0 rfl) ints_one k107 haG111 (show 0 + a0.length = a0.length from len_nilapp (b := a0) rfl)) ?_
    refine AO.p rfl (p_assign rfl) ?_
    refine AO.nil ?_
    refine AX.ret ?_
    obtain rfl := some_inj hd108
    have S114 := S113.front 0 rfl
    exact ⟨.inr rfl, _, res1 rfl (rv_tmp rfl), p109, c110, rfl, S114, BS113, a_a0⟩

set_option maxHeartbeats 4000000 in
theorem W_impl_Schedule_with (fu : Nat) (H : AHeap) (a0_0 : Int) (p_a0_1 : Option Addr) (c_a0_1 : Nat) (a0_1 : List (List Int)) (a_a0_1 : All 14 a0_1) (v_a0_1 : Vw H p_a0_1 a0_1.length c_a0_1 (ints a0_1.flatten)) (p_a1 : Option Addr) (c_a1 : Nat) (a1 : List (List Int)) (a_a1 : All 14 a1) (v_a1 : Vw H p_a1 a1.length c_a1 (ints a1.flatten)) (e_a1 : c_a1 ≠ capE) (r0 : Int) (r1 : List (List Int)) (hd : D_impl_Schedule_with fu a0_0 a0_1 a1 = some (r0, r1)) : ∃ v G', ACall Try.prog 71 [.agg [.int .i64 a0_0, .slice p_a0_1 a0_1.length c_a0_1].toArray, .slice p_a1 a1.length c_a1] H v G' ∧ ∃ (p_r1 : Option Addr) (c_r1 : Nat), (v = .agg [.int .i64 r0, .slice p_r1 r1.length c_r1].toArray) ∧ St [] H G' [oseg p_r1 (ints r1.flatten)] ∧ Sb p_r1 r1.length c_r1 14 ∧ All 14 r1 := by
  refine ACall.bodyX (args := [.agg [.int .i64 a0_0, .slice p_a0_1 a0_1.length c_a0_1].toArray, .slice p_a1 a1.length c_a1]) (N := 10) [(0, .agg [.int .i64 a0_0, .slice p_a0_1 a0_1.length c_a0_1].toArray), (1, .slice p_a1 a1.length c_a1)] (fun v G' => ∃ (p_r1 : Option Addr) (c_r1 : Nat), (v = .agg [.int .i64 r0, .slice p_r1 r1.length c_r1].toArray) ∧ St [] H G' [oseg p_r1 (ints r1.flatten)] ∧ Sb p_r1 r1.length c_r1 14 ∧ All 14 r1) Try.func71 rfl rfl rfl rfl ?_
  unfold D_impl_Schedule_with at hd
  have S0 : St [] H H [] := St.nil H
  refine AX.seq ?_
  refine AX.region ?_
  obtain ⟨G100, i101, hii101, hHG100, S102⟩ := S0.new (AObj.row false ([.int .i64 a0_0, .slice p_a0_1 a0_1.length c_a0_1]))
  refine AO.c rfl (s_box (i := i101) (cs := [.int .i64 a0_0, .slice p_a0_1 a0_1.length c_a0_1]) rfl hii101 rfl hHG100) ?_
  obtain ⟨G104, i105, hii105, hHG104, S106⟩ := S102.new (AObj.row false ([.int .i64 0, .slice none 0 0]))
  refine AO.c rfl (s_alloc (i := i105) (cs := [.int .i64 0, .slice none 0 0]) Try.zeroValue38 rfl rfl hii105 hHG104) ?_
  refine AO.nil ?_
  refine AX.seq ?_
  refine DR.startS [false, false, false, true, false, true] mix (by kernel_rfl) (fun hst => ?_)
  refine DR.p rfl rfl (s_fieldAddr Try.underlying38 rfl Try.sizeOf2 (by decide) rfl rfl) ?_
  refine DR.r rfl rfl (r_load rfl Try.isAgg2) (one_read (row_cell (S106.get (k := 1) rfl) rfl) (.of_flat0 rfl)) ?_
  refine DR.p rfl rfl (p_move rfl) ?_
  obtain ⟨rs108, h109, hd110⟩ := bnd_some hd
  obtain ⟨_, G117, hc116, p111, c112, rfl, S118, B114, a115⟩ := W_slices_Clone_Simpl_Round_impl_Round fu G104 p_a1 c_a1 a1 a_a1 (S106.view v_a1) e_a1 rs108 h109
  have S119 := S106.call S118
  refine DR.w rfl rfl (o_call (vs := [.slice p_a1 a1.length c_a1]) rfl Try.call110 hc116) (S118.len) ?_
  refine DR.p rfl rfl (p_build2 (vs := [(0, .int .i64 a0_0), (1, .slice p111 rs108.length c112)]) (cs := [.int .i64 a0_0, .slice p111 rs108.length c112]) Try.underlying38 rfl rfl rfl Try.sizeOf2 Try.sizeOf36 Try.zeroValue38 rfl rfl rfl rfl rfl) ?_
  obtain ⟨G120, hHG120, S121⟩ := S119.set (k := 1) (i := i105) rfl (AObj.row false ([.int .i64 a0_0, .slice p111 rs108.length c112]))
  refine DR.s rfl (s_storeAll (vs := [.int .i64 a0_0, .slice p111 rs108.length c112]) Try.sizeOf38 rfl rfl (ones_list rfl) (S119.get (k := 1) rfl) rfl rfl hHG120) (set_le hHG120) ?_
  refine DR.nil 6 [(1, 3)] hst (by kernel_rfl) ⟨(rd1 (fun h => S118.hold _ h)), trivial⟩ ?_
  refine AX.ret ?_
  obtain ⟨rfl, rfl⟩ := Prod.mk.inj (some_inj hd110)
  have S123 := S121.front 0 rfl
  have S124 := S123.keep 1
  exact ⟨.inr rfl, _, res1 rfl (rv_cell (vs := [.int .i64 a0_0, .slice p111 rs108.length c112]) rfl Try.isAgg38 Try.sizeOf38 rfl (row_cells (S121.get (k := 1) rfl))), p111, c112, rfl, S124, B114, a115⟩

set_option maxHeartbeats 4000000 in
theorem W_impl_ReorderRounds (fu : Nat) (H : AHeap) (a0_0 : Int) (p_a0_1 : Option Addr) (c_a0_1 : Nat) (a0_1 : List (List Int)) (a_a0_1 : All 14 a0_1) (v_a0_1 : Vw H p_a0_1 a0_1.length c_a0_1 (ints a0_1.flatten)) (p_a1 : Option Addr) (c_a1 : Nat) (a1 : List Int) (v_a1 : Vw H p_a1 a1.length c_a1 (ints a1)) (r0 : Int) (r1 : List (List Int)) (r2 : Int) (hd : D_impl_ReorderRounds fu a0_0 a0_1 a1 = some (r0, r1, r2)) : ∃ v G', ACall Try.prog 24 [.agg [.int .i64 a0_0, .slice p_a0_1 a0_1.length c_a0_1].toArray, .slice p_a1 a1.length c_a1] H v G' ∧ ∃ (p_r1 : Option Addr) (c_r1 : Nat), (v = .tuple #[.agg [.int .i64 r0, .slice p_r1 r1.length c_r1].toArray, .int .i64 r2]) ∧ St [] H G' [oseg p_r1 (ints r1.flatten)] ∧ Sb p_r1 r1.length c_r1 14 ∧ All 14 r1 := by
  refine ACall.bodyX (args := [.agg [.int .i64 a0_0, .slice p_a0_1 a0_1.length c_a0_1].toArray, .slice p_a1 a1.length c_a1]) (N := 37) [(0, .agg [.int .i64 a0_0, .slice p_a0_1 a0_1.length c_a0_1].toArray), (1, .slice p_a1 a1.length c_a1)] (fun v G' => ∃ (p_r1 : Option Addr) (c_r1 : Nat), (v = .tuple #[.agg [.int .i64 r0, .slice p_r1 r1.length c_r1].toArray, .int .i64 r2]) ∧ St [] H G' [oseg p_r1 (ints r1.flatten)] ∧ Sb p_r1 r1.length c_r1 14 ∧ All 14 r1) Try.func24 rfl rfl rfl rfl ?_
  unfold D_impl_ReorderRounds at hd
  have S0 : St [] H H [] := St.nil H
  refine AX.seq ?_
  refine AX.region ?_
  obtain ⟨G100, i101, hii101, hHG100, S102⟩ := S0.new (AObj.row false ([.int .i64 a0_0, .slice p_a0_1 a0_1.length c_a0_1]))
  refine AO.c rfl (s_box (i := i101) (cs := [.int .i64 a0_0, .slice p_a0_1 a0_1.length c_a0_1]) rfl hii101 rfl hHG100) ?_
  obtain ⟨G104, i105, hii105, hHG104, S106⟩ := S102.new (AObj.row false ([.slice p_a1 a1.length c_a1]))
  refine AO.c rfl (s_box (i := i105) (cs := [.slice p_a1 a1.length c_a1]) rfl hii105 rfl hHG104) ?_
  obtain ⟨G108, i109, hii109, hHG108, S110⟩ := S106.new (AObj.row false ([.int .i64 0, .slice none 0 0]))
  refine AO.c rfl (s_alloc (i := i109) (cs := [.int .i64 0, .slice none 0 0]) Try.zeroValue38 rfl rfl hii109 hHG108) ?_
  refine AO.p rfl (p_assign rfl) ?_
  refine AO.nil ?_
  refine AX.seq ?_
  refine AX.seq ?_
  refine AX.region ?_
  refine AO.c rfl (s_loadN (vs := [.int .i64 a0_0, .slice p_a0_1 a0_1.length c_a0_1]) Try.isAgg38 Try.sizeOf38 rfl rfl (row_cells (S110.get (k := 2) rfl))) ?_
  refine AO.p rfl (p_makeFunc (fs := []) (cs := [.pointer (some ⟨i105, 0, none⟩), .pointer (some ⟨i101, 0, none⟩)]) rfl rfl) ?_
  obtain ⟨x112, h113, hd114⟩ := bnd_some hd
  refine AO.c rfl (o_call (vs := [.agg [.int .i64 a0_0, .slice p_a0_1 a0_1.length c_a0_1].toArray, .func (.func 68) #[] #[.pointer (some ⟨i105, 0, none⟩), .pointer (some ⟨i101, 0, none⟩)]]) rfl Try.call67 (W_impl_scheduleCode fu G108 a0_0 p_a0_1 c_a0_1 a0_1 a_a0_1 (S110.view v_a0_1) 68 #[] #[.pointer (some ⟨i105, 0, none⟩), .pointer (some ⟨i101, 0, none⟩)] (fun _ => D_impl_ReorderRounds_1 fu a1 a0_0 a0_1) Try.call68 (fun G' hG  b' hb' => W_impl_ReorderRounds_1 fu G' i105 false p_a1 c_a1 a1 (hG.view (S110.view v_a1)) (hG.get (S110.get (k := 1) rfl)) i101 false a0_0 p_a0_1 c_a0_1 a0_1 a_a0_1 (hG.view (S110.view v_a0_1)) (hG.get (S110.get (k := 2) rfl)) b' hb') x112 h113)) ?_
  refine AO.p rfl (p_assign rfl) ?_
  refine AO.nil ?_
  refine AX.seq ?_
  refine AX.region ?_
  refine AO.p rfl (p_move rfl) ?_
  refine AO.p rfl (p_neq rfl rfl) ?_
  refine AO.nil ?_
  refine AX.cond rfl (fun c116 => ?_) (fun c116 => ?_)
  · have hd117 := bif_t c116 hd114
    refine AX.seq ?_
    refine AX.region ?_
    refine AO.p rfl (p_build2 (vs := []) (cs := [.int .i64 0, .slice none 0 0]) Try.underlying38 rfl rfl rfl Try.sizeOf2 Try.sizeOf36 Try.zeroValue38 rfl rfl rfl rfl rfl) ?_
    refine AO.p rfl (p_move rfl) ?_
    obtain ⟨G118, hHG118, S119⟩ := S110.set (k := 0) (i := i109) rfl (AObj.row false ([.int .i64 0, .slice none 0 0]))
    refine AO.s (s_storeAll (vs := [.int .i64 0, .slice none 0 0]) Try.sizeOf38 rfl rfl (ones_list rfl) (S110.get (k := 0) rfl) rfl rfl hHG118) ?_
    refine AO.p rfl (p_assign rfl) ?_
    refine AO.nil ?_
    refine AX.ret ?_
    obtain ⟨rfl, z120⟩ := Prod.mk.inj (some_inj hd117)
    obtain ⟨rfl, rfl⟩ := Prod.mk.inj z120
    have S122 : St [] H G118 (oseg none (ints (List.flatten [])) :: _) := S119.nilseg 0
    have S123 := S122.keep 1
    exact ⟨.inr rfl, _, res2 rfl (rv_cell (vs := [.int .i64 0, .slice none 0 0]) rfl Try.isAgg38 Try.sizeOf38 rfl (row_cells (S119.get (k := 0) rfl))) (rv_tmp rfl), none, 0, rfl, S123, Sb.nil, all_nil⟩
  · have hd124 := bif_f c116 hd114
    refine AX.skip ?_
    refine AX.seq ?_
    refine AX.region ?_
    refine AO.c rfl (s_loadN (vs := [.int .i64 a0_0, .slice p_a0_1 a0_1.length c_a0_1]) Try.isAgg38 Try.sizeOf38 rfl rfl (row_cells (S110.get (k := 2) rfl))) ?_
    obtain ⟨⟨x125, rs126⟩, h127, hd128⟩ := bnd_some hd124
    obtain ⟨_, G135, hc134, p129, c130, rfl, S136, B132, a133⟩ := W_impl_Schedule_with fu G108 a0_0 p_a0_1 c_a0_1 a0_1 a_a0_1 (S110.view v_a0_1) none 0 [] all_nil Vw.nil (by decide) x125 rs126 h127
    have S137 := S110.call S136
    refine AO.c rfl (o_call (vs := [.agg [.int .i64 a0_0, .slice p_a0_1 a0_1.length c_a0_1].toArray, .slice none 0 0]) rfl Try.call71 hc134) ?_
    obtain ⟨G138, i139, hii139, hHG138, S140⟩ := S137.new (AObj.row false ([.int .i64 0, .slice none 0 0]))
    refine AO.c rfl (s_alloc (i := i139) (cs := [.int .i64 0, .slice none 0 0]) Try.zeroValue38 rfl rfl hii139 hHG138) ?_
    obtain ⟨G142, hHG142, S143⟩ := S140.set (k := 0) (i := i139) rfl (AObj.row false ([.int .i64 x125, .slice p129 rs126.length c130]))
    refine AO.s (s_storeAll (vs := [.int .i64 x125, .slice p129 rs126.length c130]) Try.sizeOf38 rfl rfl (ones_list rfl) (S140.get (k := 0) rfl) rfl rfl hHG142) ?_
    refine AO.nil ?_
    refine AX.seq ?_
    refine AX.seq ?_
    refine AX.region ?_
    refine AO.c rfl (s_load Try.isAgg34 rfl (row_cell (S143.get (k := 3) rfl) rfl)) ?_
    refine AO.p rfl (p_len_slice rfl Try.underlying34) ?_
    refine AO.p rfl (p_move rfl) ?_
    refine AO.nil ?_
    obtain ⟨r248, hl249, hd250⟩ := bnd_some hd128
    refine AX.cutS (fun t' H' => ∃ (rs247 : List (List Int)) (p245 : Option Addr) (c246 : Nat), rs247 = r248 ∧ St [] H H' [[(i109, AObj.row false ([.int .i64 0, .slice none 0 0]))], [(i139, AObj.row false ([.int .i64 x125, .slice p245 rs247.length c246]))], oseg p245 (ints rs247.flatten)] ∧ All 14 rs247 ∧ Sb p245 (rs247.length) c246 14 ∧ Am.Sub [(4, .pointer (some ⟨i109, 0, none⟩)), (7, .pointer (some ⟨i139, 0, none⟩))] t') ?_ ?_
    · refine AX.block ?_
      refine AX.loopF (fun s' t' H' => ∃ (rs214 : List (List Int)) (x215 : Int) (p212 : Option Addr) (c213 : Nat), (rs214, x215) = s' ∧ St [] H H' [[(i101, AObj.row false ([.int .i64 a0_0, .slice p_a0_1 a0_1.length c_a0_1]))], [(i109, AObj.row false ([.int .i64 0, .slice none 0 0]))], [(i139, AObj.row false ([.int .i64 x125, .slice p212 rs214.length c213]))], oseg p212 (ints rs214.flatten)] ∧ All 14 rs214 ∧ Sb p212 (rs214.length) c213 14 ∧ Am.Sub [(2, .pointer (some ⟨i101, 0, none⟩)), (4, .pointer (some ⟨i109, 0, none⟩)), (7, .pointer (some ⟨i139, 0, none⟩)), (19, .slice p_a1 a1.length c_a1), (20, .int .i64 ((a1.length : Nat) : Int)), (21, .int .i64 x215)] t') hl249 ?_ ?_
      · skip
        have S251 := S143.front 1 rfl
        have S252 := S251.front 1 rfl
        have S253 := S252.front 2 rfl
        have S254 := S253.front 4 rfl
        have S255 := S254.keep 4
        exact ⟨rs126, 0, p129, c130, rfl, S255, a133, B132, Sub.cons' rfl rfl (Sub.cons' rfl rfl (Sub.cons' rfl rfl (Sub.cons' rfl rfl (Sub.cons' rfl rfl (Sub.cons' rfl rfl (Sub.nil _))))))⟩
      · rintro n256 _ t' G260 ⟨rs214, x215, p212, c213, rfl, S259, ars214, Bo211, hsub261⟩ o262 ho257 hk258
        refine AX.sub hsub261 ?_
        unfold D_impl_ReorderRounds_s0 at ho257
        refine AX.seq ?_
        refine AX.region ?_
        refine AO.p rfl (p_lss rfl rfl) ?_
        refine AO.nil ?_
        refine AX.seq ?_
        refine AX.cond rfl (fun c263 => ?_) (fun c263 => ?_)
        · have hd264 := bif_t c263 ho257
          refine AX.skip ?_
          refine AX.seq ?_
          refine AX.block ?_
          refine AX.seq ?_
          refine AX.region ?_
          obtain ⟨k265, hd266⟩ := chk_some hd264
          refine AO.p rfl (s_indexV (q := off p_a1 + x215.toNat) Try.underlying34 Try.sizeOf2 rfl ((S259.view v_a1).p (ints_get (lt_len rfl (inR_lt k265)))) rfl k265 (o1 _ _)) ?_
          refine AO.c rfl (s_load Try.isAgg2 rfl ((S259.view v_a1).get _ _ (ints_get (lt_len rfl (inR_lt k265))))) ?_
          refine AO.p rfl (p_assign rfl) ?_
          refine AO.nil ?_
          refine DR.startS [false, false, false, false, false, false, false, false, true, false, true] mix (by kernel_rfl) (fun hst => ?_)
          refine DR.p rfl rfl (s_fieldAddr Try.underlying38 rfl Try.sizeOf36 (by decide) rfl rfl) ?_
          refine DR.r rfl rfl (r_load rfl Try.isAgg36) (one_read (row_cell (S259.get (k := 2) rfl) rfl) (S259.oin (k := 3) rfl Bo211).bel) ?_
          refine DR.p rfl rfl (s_fieldAddr Try.underlying38 rfl Try.sizeOf36 (by decide) rfl rfl) ?_
          refine DR.r rfl rfl (r_load rfl Try.isAgg36) (one_read (row_cell (S259.get (k := 0) rfl) rfl) (S259.view v_a0_1).inn.bel) ?_
          refine DR.p rfl rfl (p_move rfl) ?_
          obtain ⟨k267, hd268⟩ := chk_some hd266
          refine DR.p rfl rfl (s_indexV (q := off p_a0_1 + ((rd a1 x215.toNat).toNat) * 14) Try.underlying36 Try.sizeOf76 rfl ((S259.view v_a0_1).rowne a_a0_1 (by decide) (lt_len rfl (inR_lt k267))) rfl k267 rfl) ?_
          refine DR.r rfl rfl (r_loadN (vs := ints (rw_ a0_1 ((rd a1 x215.toNat).toNat))) rfl Try.isAgg76 Try.sizeOf76 (ints_len (rw_len a_a0_1 (lt_len rfl (inR_lt k267))))) (many_row ((S259.view v_a0_1).row a_a0_1 (lt_len rfl (inR_lt k267))) bel_ints) ?_
          obtain ⟨G269, i270, hii270, hHG269, S271⟩ := S259.new (AObj.row false (ints [(rw_ a0_1 ((rd a1 x215.toNat).toNat))].flatten))
          refine DR.a rfl rfl hii270 hHG269 (a_build1 (r := (rw_ a0_1 ((rd a1 x215.toNat).toNat))) (zr := List.replicate 14 0) Try.underlying36 Try.sizeOf76 Try.zeroValue76 rfl rfl (by decide) (by decide) rfl (rw_len a_a0_1 (lt_len rfl (inR_lt k267)))) ?_
          obtain ⟨k273, hd274⟩ := chk_some hd268
          obtain ⟨p275, c276, G277, haG277, S278, Bp275⟩ := S271.app (k := 4) rfl Bo211 (ints [(rw_ a0_1 ((rd a1 x215.toNat).toNat))].flatten) 1 (flat_len1 (all_one (rw_len a_a0_1 (lt_len rfl (inR_lt k267)))) rfl)
          have S279 := S278.cellsEq (k := 4) (us' := ints (rs214 ++ [(rw_ a0_1 ((rd a1 x215.toNat).toNat))]).flatten) (intsf_app _ _) rfl
          have BS279 : Sb p275 ((rs214 ++ [(rw_ a0_1 ((rd a1 x215.toNat).toNat))]).length) c276 14 := (show rs214.length + 1 = (rs214 ++ [(rw_ a0_1 ((rd a1 x215.toNat).toNat))]).length from len_app (a := rs214) (b := [(rw_ a0_1 ((rd a1 x215.toNat).toNat))]) rfl rfl) ▸ Bp275
          have S280 := S279.drop 0 rfl
          refine DR.w rfl rfl (s_app (by_ := 112) (us := ints rs214.flatten) (vs := ints [(rw_ a0_1 ((rd a1 x215.toNat).toNat))].flatten) Try.underlying36 Try.underlying36 Try.typeInfo76 Try.sizeOf76 Try.zeroValue76 rfl rfl rfl rfl rfl rfl rfl (S271.buf (k := 4) rfl Bo211 (flat_len1 ars214 rfl)) (S271.oview (k := 0) rfl (Sb.lit (n := 1) (by decide)) (flat_len1 (all_one (rw_len a_a0_1 (lt_len rfl (inR_lt k267)))) rfl)) (flat_len1 (all_one (rw_len a_a0_1 (lt_len rfl (inR_lt k267)))) rfl) ints_one k273 haG277 (show rs214.length + 1 = (rs214 ++ [(rw_ a0_1 ((rd a1 x215.toNat).toNat))]).length from len_app (a := rs214) (b := [(rw_ a0_1 ((rd a1 x215.toNat).toNat))]) rfl rfl)) (appR_len haG277) ?_
          refine DR.p rfl rfl (s_fieldAddr Try.underlying38 rfl Try.sizeOf36 (by decide) rfl rfl) ?_
          obtain ⟨G281, hHG281, S282⟩ := S280.set (k := 2) (i := i139) rfl (AObj.row false ([.int .i64 x125, .slice p275 ((rs214 ++ [(rw_ a0_1 ((rd a1 x215.toNat).toNat))]).length) c276]))
          refine DR.s rfl (s_store Try.sizeOf36 rfl rfl rfl (S280.get (k := 2) rfl) (Nat.le_of_ble_eq_true rfl) hHG281) (set_le hHG281) ?_
          refine DR.nil 11 [] hst (by kernel_rfl) trivial ?_
          refine AX.region ?_
          obtain ⟨k283, hd284⟩ := chk_some hd274
          refine AO.p rfl (p_addE rfl rfl k283) ?_
          refine AO.p rfl (p_move rfl) ?_
          refine AO.nil ?_
          obtain rfl := some_inj hd284
          have S286 := S282.front 3 rfl
          have S287 := S286.front 3 rfl
          have S288 := S287.front 3 rfl
          have S289 := S288.front 3 rfl
          exact ⟨((rs214 ++ [(rw_ a0_1 ((rd a1 x215.toNat).toNat))]), x215 + 1), hk258, (rs214 ++ [(rw_ a0_1 ((rd a1 x215.toNat).toNat))]), (x215 + 1), p275, c276, rfl, S289, (all_app ars214 (all_one (rw_len a_a0_1 (lt_len rfl (inR_lt k267))))), BS279, Sub.cons' rfl rfl (Sub.cons' rfl rfl (Sub.cons' rfl rfl (Sub.cons' rfl rfl (Sub.cons' rfl rfl (Sub.cons' rfl rfl (Sub.nil _))))))⟩
        · have hd290 := bif_f c263 ho257
          refine AX.exit ?_
          obtain rfl := some_inj hd290
          have S291 := S259.front 3 rfl
          have S292 := S291.front 3 rfl
          have S293 := S292.front 3 rfl
          have S294 := S293.keep 3
          exact ⟨rs214, p212, c213, hk258, S294, ars214, Bo211, Sub.cons' rfl rfl (Sub.cons' rfl rfl (Sub.nil _))⟩
    · rintro t' G296 ⟨rs247, p245, c246, rfl, S295, ars247, Bo244, hsub297⟩
      refine ⟨_, hsub297, ?_⟩
      refine AX.seq ?_
      refine AX.region ?_
      refine AO.c rfl (s_loadN (vs := [.int .i64 x125, .slice p245 rs247.length c246]) Try.isAgg38 Try.sizeOf38 rfl rfl (row_cells (S295.get (k := 1) rfl))) ?_
      obtain ⟨G298, hHG298, S299⟩ := S295.set (k := 0) (i := i109) rfl (AObj.row false ([.int .i64 x125, .slice p245 rs247.length c246]))
      refine AO.s (s_storeAll (vs := [.int .i64 x125, .slice p245 rs247.length c246]) Try.sizeOf38 rfl rfl (ones_list rfl) (S295.get (k := 0) rfl) rfl rfl hHG298) ?_
      refine AO.p rfl (p_assign rfl) ?_
      refine AO.nil ?_
      refine AX.ret ?_
      obtain ⟨rfl, z300⟩ := Prod.mk.inj (some_inj hd250)
      obtain ⟨rfl, rfl⟩ := Prod.mk.inj z300
      have S302 := S299.front 2 rfl
      have S303 := S302.keep 1
      exact ⟨.inr rfl, _, res2 rfl (rv_cell (vs := [.int .i64 x125, .slice p245 rs247.length c246]) rfl Try.isAgg38 Try.sizeOf38 rfl (row_cells (S299.get (k := 0) rfl))) (rv_tmp rfl), p245, c246, rfl, S303, Bo244, ars247⟩

set_option maxHeartbeats 4000000 in
theorem W_spec_l01Renamed (fu : Nat) (H : AHeap) (a0_0 : Int) (p_a0_1 : Option Addr) (c_a0_1 : Nat) (a0_1 : List (List Int)) (a_a0_1 : All 14 a0_1) (v_a0_1 : Vw H p_a0_1 a0_1.length c_a0_1 (ints a0_1.flatten)) (p_a1 : Option Addr) (c_a1 : Nat) (a1 : List Int) (v_a1 : Vw H p_a1 a1.length c_a1 (ints a1)) (r0 : Int) (r1 : List (List Int)) (hd : D_spec_l01Renamed fu a0_0 a0_1 a1 = some (r0, r1)) : ∃ v G', ACall Try.prog 87 [.agg [.int .i64 a0_0, .slice p_a0_1 a0_1.length c_a0_1].toArray, .slice p_a1 a1.length c_a1] H v G' ∧ ∃ (p_r1 : Option Addr) (c_r1 : Nat), (v = .agg [.int .i64 r0, .slice p_r1 r1.length c_r1].toArray) ∧ St [] H G' [oseg p_r1 (ints r1.flatten)] ∧ Sb p_r1 r1.length c_r1 14 ∧ All 14 r1 := by
  refine ACall.bodyX (args := [.agg [.int .i64 a0_0, .slice p_a0_1 a0_1.length c_a0_1].toArray, .slice p_a1 a1.length c_a1]) (N := 49) [(0, .agg [.int .i64 a0_0, .slice p_a0_1 a0_1.length c_a0_1].toArray), (1, .slice p_a1 a1.length c_a1)] (fun v G' => ∃ (p_r1 : Option Addr) (c_r1 : Nat), (v = .agg [.int .i64 r0, .slice p_r1 r1.length c_r1].toArray) ∧ St [] H G' [oseg p_r1 (ints r1.flatten)] ∧ Sb p_r1 r1.length c_r1 14 ∧ All 14 r1) Try.func87 rfl rfl rfl rfl ?_
  unfold D_spec_l01Renamed at hd
  have S0 : St [] H H [] := St.nil H
  refine AX.seq ?_
  refine AX.region ?_
  obtain ⟨G100, i101, hii101, hHG100, S102⟩ := S0.new (AObj.row false ([.int .i64 a0_0, .slice p_a0_1 a0_1.length c_a0_1]))
  refine AO.c rfl (s_box (i := i101) (cs := [.int .i64 a0_0, .slice p_a0_1 a0_1.length c_a0_1]) rfl hii101 rfl hHG100) ?_
  obtain ⟨G104, i105, hii105, hHG104, S106⟩ := S102.new (AObj.row false ([.int .i64 0, .slice none 0 0]))
  refine AO.c rfl (s_alloc (i := i105) (cs := [.int .i64 0, .slice none 0 0]) Try.zeroValue38 rfl rfl hii105 hHG104) ?_
  refine AO.nil ?_
  refine AX.seq ?_
  refine AX.region ?_
  refine AO.p rfl (s_fieldAddr Try.underlying38 rfl Try.sizeOf2 (by decide) rfl rfl) ?_
  refine AO.c rfl (s_load Try.isAgg2 rfl (row_cell (S106.get (k := 1) rfl) rfl)) ?_
  obtain ⟨G108, i109, hii109, hHG108, S110⟩ := S106.new (AObj.row false (ints [].flatten))
  refine AO.c rfl (s_build0 (i := i109) Try.underlying36 Try.sizeOf76 hii109 hHG108) ?_
  refine AO.p rfl (p_build2 (vs := [(0, .int .i64 a0_0), (1, .slice (some (Addr.mk i109 0 none)) 0 0)]) (cs := [.int .i64 a0_0, .slice (some (Addr.mk i109 0 none)) 0 0]) Try.underlying38 rfl rfl rfl Try.sizeOf2 Try.sizeOf36 Try.zeroValue38 rfl rfl rfl rfl rfl) ?_
  obtain ⟨G112, i113, hii113, hHG112, S114⟩ := S110.new (AObj.row false ([.int .i64 0, .slice none 0 0]))
  refine AO.c rfl (s_alloc (i := i113) (cs := [.int .i64 0, .slice none 0 0]) Try.zeroValue38 rfl rfl hii113 hHG112) ?_
  obtain ⟨G116, hHG116, S117⟩ := S114.set (k := 0) (i := i113) rfl (AObj.row false ([.int .i64 a0_0, .slice (some (Addr.mk i109 0 none)) 0 0]))
  refine AO.s (s_storeAll (vs := [.int .i64 a0_0, .slice (some (Addr.mk i109 0 none)) 0 0]) Try.sizeOf38 rfl rfl (ones_list rfl) (S114.get (k := 0) rfl) rfl rfl hHG116) ?_
  refine AO.nil ?_
  refine AX.seq ?_
  refine AX.seq ?_
  refine AX.region ?_
  refine AO.p rfl (p_assign rfl) ?_
  refine AO.nil ?_
  obtain ⟨r615, hl616, hd617⟩ := bnd_some hd
  refine AX.cutS (fun t' H' => ∃ (rs614 : List (List Int)) (p612 : Option Addr) (c613 : Nat), rs614 = r615 ∧ St [] H H' [[(i105, AObj.row false ([.int .i64 0, .slice none 0 0]))], [(i113, AObj.row false ([.int .i64 a0_0, .slice p612 rs614.length c613]))], oseg p612 (ints rs614.flatten)] ∧ All 14 rs614 ∧ Sb p612 (rs614.length) c613 14 ∧ Am.Sub [(4, .pointer (some ⟨i105, 0, none⟩)), (5, .pointer (some ⟨i113, 0, none⟩))] t') ?_ ?_
  · refine AX.block ?_
    refine AX.loopF (fun s' t' H' => ∃ (rs450 : List (List Int)) (x451 : Int) (p448 : Option Addr) (c449 : Nat), (rs450, x451) = s' ∧ St [] H H' [[(i101, AObj.row false ([.int .i64 a0_0, .slice p_a0_1 a0_1.length c_a0_1]))], [(i105, AObj.row false ([.int .i64 0, .slice none 0 0]))], [(i113, AObj.row false ([.int .i64 a0_0, .slice p448 rs450.length c449]))], oseg p448 (ints rs450.flatten)] ∧ All 14 rs450 ∧ Sb p448 (rs450.length) c449 14 ∧ Am.Sub [(1, .slice p_a1 a1.length c_a1), (2, .pointer (some ⟨i101, 0, none⟩)), (4, .pointer (some ⟨i105, 0, none⟩)), (5, .pointer (some ⟨i113, 0, none⟩)), (6, .int .i64 x451)] t') hl616 ?_ ?_
    · skip
      have S618 := S117.front 1 rfl
      have S619 := S618.front 1 rfl
      have S620 := S619.front 2 rfl
      have S621 := S620.front 3 rfl
      exact ⟨[], 0, (some (Addr.mk i109 0 none)), 0, rfl, S621, all_nil, (Sb.lit (n := 0) (by decide)), Sub.cons' rfl rfl (Sub.cons' rfl rfl (Sub.cons' rfl rfl (Sub.cons' rfl rfl (Sub.cons' rfl rfl (Sub.nil _)))))⟩
    · rintro n622 _ t' G626 ⟨rs450, x451, p448, c449, rfl, S625, ars450, Bo447, hsub627⟩ o628 ho623 hk624
      refine AX.sub hsub627 ?_
      unfold D_spec_l01Renamed_s0 at ho623
      refine AX.seq ?_
      refine AX.seq ?_
      refine AX.region ?_
      refine AO.p rfl (p_move rfl) ?_
      refine AO.p rfl (s_fieldAddr Try.underlying38 rfl Try.sizeOf36 (by decide) rfl rfl) ?_
      refine AO.c rfl (s_load Try.isAgg36 rfl (row_cell (S625.get (k := 0) rfl) rfl)) ?_
      refine AO.p rfl (p_len_slice rfl Try.underlying36) ?_
      refine AO.p rfl (p_lss rfl rfl) ?_
      refine AO.nil ?_
      refine AX.cond rfl (fun c629 => ?_) (fun c629 => ?_)
      · have hd630 := bif_t c629 ho623
        refine AX.skip ?_
        refine AX.seq ?_
        refine AX.block ?_
        refine AX.seq ?_
        refine AX.region ?_
        refine AO.p rfl (p_buildZ (z := ints (List.replicate 14 0)) Try.underlying76 Try.sizeOf2 Try.zeroValue76 rfl) ?_
        obtain ⟨G631, i632, hii632, hHG631, S633⟩ := S625.new (AObj.row false (ints (List.replicate 14 0)))
        refine AO.c rfl (s_alloc (i := i632) (cs := ints (List.replicate 14 0)) Try.zeroValue76 rfl rfl hii632 hHG631) ?_
        obtain ⟨G635, hHG635, S636⟩ := S633.set (k := 0) (i := i632) rfl (AObj.row false (ints (List.replicate 14 0)))
        refine AO.s (s_storeAll (vs := ints (List.replicate 14 0)) Try.sizeOf76 rfl rfl ints_one (S633.get (k := 0) rfl) (ints_len len_rep) (ints_len len_rep) hHG635) ?_
        refine AO.nil ?_
        refine AX.seq ?_
        refine AX.seq ?_
        refine AX.region ?_
        refine AO.p rfl (p_assign rfl) ?_
        refine AO.nil ?_
        obtain ⟨r720, hl721, hd722⟩ := bnd_some hd630
        refine AX.cutS (fun t' H' => ∃ (xs719 : List Int), xs719 = r720 ∧ St [] H H' [[(i101, AObj.row false ([.int .i64 a0_0, .slice p_a0_1 a0_1.length c_a0_1]))], [(i105, AObj.row false ([.int .i64 0, .slice none 0 0]))], [(i113, AObj.row false ([.int .i64 a0_0, .slice p448 rs450.length c449]))], oseg p448 (ints rs450.flatten), [(i632, AObj.row false (ints xs719))]] ∧ xs719.length = 14 ∧ Am.Sub [(1, .slice p_a1 a1.length c_a1), (2, .pointer (some ⟨i101, 0, none⟩)), (4, .pointer (some ⟨i105, 0, none⟩)), (5, .pointer (some ⟨i113, 0, none⟩)), (6, .int .i64 x451), (7, .pointer (some ⟨i632, 0, none⟩))] t') ?_ ?_
        · refine AX.block ?_
          refine AX.loopF (fun s' t' H' => ∃ (xs692 : List Int) (x693 : Int), (xs692, x693) = s' ∧ St [] H H' [[(i101, AObj.row false ([.int .i64 a0_0, .slice p_a0_1 a0_1.length c_a0_1]))], [(i105, AObj.row false ([.int .i64 0, .slice none 0 0]))], [(i113, AObj.row false ([.int .i64 a0_0, .slice p448 rs450.length c449]))], oseg p448 (ints rs450.flatten), [(i632, AObj.row false (ints xs692))]] ∧ xs692.length = 14 ∧ Am.Sub [(1, .slice p_a1 a1.length c_a1), (2, .pointer (some ⟨i101, 0, none⟩)), (4, .pointer (some ⟨i105, 0, none⟩)), (5, .pointer (some ⟨i113, 0, none⟩)), (6, .int .i64 x451), (7, .pointer (some ⟨i632, 0, none⟩)), (8, .int .i64 x693)] t') hl721 ?_ ?_
          · skip
            have S723 := S636.front 0 rfl
            have S724 := S723.front 4 rfl
            have S725 := S724.front 4 rfl
            have S726 := S725.front 4 rfl
            have S727 := S726.front 4 rfl
            exact ⟨(List.replicate 14 0), 0, rfl, S727, len_rep, Sub.cons' rfl rfl (Sub.cons' rfl rfl (Sub.cons' rfl rfl (Sub.cons' rfl rfl (Sub.cons' rfl rfl (Sub.cons' rfl rfl (Sub.cons' rfl rfl (Sub.nil _)))))))⟩
          · rintro n728 _ t' G732 ⟨xs692, x693, rfl, S731, lxs692, hsub733⟩ o734 ho729 hk730
            refine AX.sub hsub733 ?_
            unfold D_spec_l01Renamed_s1 at ho729
            refine AX.seq ?_
            refine AX.seq ?_
            refine AX.region ?_
            refine AO.p rfl (p_move rfl) ?_
            refine AO.p rfl (s_fieldAddr Try.underlying38 rfl Try.sizeOf2 (by decide) rfl rfl) ?_
            refine AO.c rfl (s_load Try.isAgg2 rfl (row_cell (S731.get (k := 0) rfl) rfl)) ?_
            refine AO.p rfl (p_lss rfl rfl) ?_
            refine AO.nil ?_
            refine AX.cond rfl (fun c735 => ?_) (fun c735 => ?_)
            · have hd736 := bif_t c735 ho729
              refine AX.skip ?_
              refine AX.seq ?_
              refine AX.block ?_
              refine DR.startS [false, false, false, false, false, false, false, false, false, false, false, false, false, false, false, true] mix (by kernel_rfl) (fun hst => ?_)
              refine DR.p rfl rfl (p_move rfl) ?_
              refine DR.p rfl rfl (p_move rfl) ?_
              obtain ⟨k737, hd738⟩ := chk_some hd736
              refine DR.p rfl rfl (s_indexV (q := off p_a1 + x693.toNat) Try.underlying34 Try.sizeOf2 rfl ((S731.view v_a1).p (ints_get (lt_len rfl (inR_lt k737)))) rfl k737 (o1 _ _)) ?_
              refine DR.r rfl rfl (r_load rfl Try.isAgg2) (one_read ((S731.view v_a1).get _ _ (ints_get (lt_len rfl (inR_lt k737)))) (.of_flat0 rfl)) ?_
              refine DR.p rfl rfl (p_move rfl) ?_
              refine DR.p rfl rfl (s_fieldAddr Try.underlying38 rfl Try.sizeOf36 (by decide) rfl rfl) ?_
              refine DR.r rfl rfl (r_load rfl Try.isAgg36) (one_read (row_cell (S731.get (k := 0) rfl) rfl) (S731.view v_a0_1).inn.bel) ?_
              refine DR.p rfl rfl (p_move rfl) ?_
              refine DR.p rfl rfl (p_move rfl) ?_
              obtain ⟨k739, hd740⟩ := chk_some hd738
              refine DR.p rfl rfl (s_indexV (q := off p_a0_1 + x451.toNat * 14) Try.underlying36 Try.sizeOf76 rfl ((S731.view v_a0_1).rowne a_a0_1 (by decide) (lt_len rfl (inR_lt k739))) rfl k739 rfl) ?_
              obtain ⟨k741, hd742⟩ := chk_some hd740
              refine DR.p rfl rfl (s_indexAr (q := off p_a0_1 + x451.toNat * 14 + x693.toNat) Try.underlying76 Try.sizeOf2 rfl rfl k741 (o1 _ _)) ?_
              refine DR.r rfl rfl (r_load rfl Try.isAgg2) (one_read ((S731.view v_a0_1).row a_a0_1 (lt_len rfl (inR_lt k739)) _ _ (ints_get (lt_len (rw_len a_a0_1 (lt_len rfl (inR_lt k739))) (inR_lt k741)))) (.of_flat0 rfl)) ?_
              obtain ⟨k743, hd744⟩ := chk_some hd742
              refine DR.p rfl rfl (s_indexV (q := off p_a1 + (rd (rw_ a0_1 x451.toNat) x693.toNat).toNat) Try.underlying34 Try.sizeOf2 rfl ((S731.view v_a1).p (ints_get (lt_len rfl (inR_lt k743)))) rfl k743 (o1 _ _)) ?_
              refine DR.r rfl rfl (r_load rfl Try.isAgg2) (one_read ((S731.view v_a1).get _ _ (ints_get (lt_len rfl (inR_lt k743)))) (.of_flat0 rfl)) ?_
              obtain ⟨k745, hd746⟩ := chk_some hd744
              refine DR.p rfl rfl (s_indexAr (q := (rd a1 x693.toNat).toNat) Try.underlying76 Try.sizeOf2 rfl rfl k745 (z1 _)) ?_
              obtain ⟨G747, hHG747, S748⟩ := S731.set (k := 4) (i := i632) rfl (AObj.row false (ints (xs692.set ((rd a1 x693.toNat).toNat) (rd a1 ((rd (rw_ a0_1 x451.toNat) x693.toNat).toNat)))))
              refine DR.s rfl (s_store Try.sizeOf2 rfl rfl rfl (S731.get (k := 4) rfl) (lt_len (ints_len lxs692) (inR_lt k745)) ((congrArg (fun l => List.set _ _ (AObj.row false l)) (ints_set _ _ _)).trans hHG747)) (set_le hHG747) ?_
              refine DR.nil 16 [] hst (by kernel_rfl) trivial ?_
              refine AX.region ?_
              refine AO.p rfl (p_move rfl) ?_
              obtain ⟨k749, hd750⟩ := chk_some hd746
              refine AO.p rfl (p_addE rfl rfl k749) ?_
              refine AO.p rfl (p_assign rfl) ?_
              refine AO.nil ?_
              obtain rfl := some_inj hd750
              have S752 := S748.front 4 rfl
              have S753 := S752.front 4 rfl
              have S754 := S753.front 4 rfl
              have S755 := S754.front 4 rfl
              have S756 := S755.front 4 rfl
              exact ⟨((xs692.set ((rd a1 x693.toNat).toNat) (rd a1 ((rd (rw_ a0_1 x451.toNat) x693.toNat).toNat))), x693 + 1), hk730, (xs692.set ((rd a1 x693.toNat).toNat) (rd a1 ((rd (rw_ a0_1 x451.toNat) x693.toNat).toNat))), (x693 + 1), rfl, S756, (len_set lxs692), Sub.cons' rfl rfl (Sub.cons' rfl rfl (Sub.cons' rfl rfl (Sub.cons' rfl rfl (Sub.cons' rfl rfl (Sub.cons' rfl rfl (Sub.cons' rfl rfl (Sub.nil _)))))))⟩
            · have hd757 := bif_f c735 ho729
              refine AX.exit ?_
              obtain rfl := some_inj hd757
              have S758 := S731.front 4 rfl
              have S759 := S758.front 4 rfl
              have S760 := S759.front 4 rfl
              have S761 := S760.front 4 rfl
              have S762 := S761.front 4 rfl
              exact ⟨xs692, hk730, S762, lxs692, Sub.cons' rfl rfl (Sub.cons' rfl rfl (Sub.cons' rfl rfl (Sub.cons' rfl rfl (Sub.cons' rfl rfl (Sub.cons' rfl rfl (Sub.nil _))))))⟩
        · rintro t' G764 ⟨xs719, rfl, S763, lxs719, hsub765⟩
          refine ⟨_, hsub765, ?_⟩
          refine AX.region ?_
          refine AO.p rfl (s_fieldAddr Try.underlying38 rfl Try.sizeOf36 (by decide) rfl rfl) ?_
          refine AO.c rfl (s_load Try.isAgg36 rfl (row_cell (S763.get (k := 2) rfl) rfl)) ?_
          refine AO.c rfl (s_loadN (vs := ints xs719) Try.isAgg76 Try.sizeOf76 rfl (ints_len lxs719) (row_cells (S763.get (k := 4) rfl))) ?_
          obtain ⟨G766, i767, hii767, hHG766, S768⟩ := S763.new (AObj.row false (ints [xs719].flatten))
          refine AO.c rfl (s_build1 (i := i767) (r := xs719) (zr := List.replicate 14 0) Try.underlying36 Try.sizeOf76 Try.zeroValue76 rfl rfl (by decide) (by decide) rfl lxs719 hii767 hHG766) ?_
          obtain ⟨k770, hd771⟩ := chk_some hd722
          obtain ⟨p772, c773, G774, haG774, S775, Bp772⟩ := S768.app (k := 4) rfl Bo447 (ints [xs719].flatten) 1 (flat_len1 (all_one lxs719) rfl)
          have S776 := S775.cellsEq (k := 4) (us' := ints (rs450 ++ [xs719]).flatten) (intsf_app _ _) rfl
          have BS776 : Sb p772 ((rs450 ++ [xs719]).length) c773 14 := (show rs450.length + 1 = (rs450 ++ [xs719]).length from len_app (a := rs450) (b := [xs719]) rfl rfl) ▸ Bp772
          have S777 := S776.drop 0 rfl
          refine AO.c rfl (s_app (by_ := 112) (us := ints rs450.flatten) (vs := ints [xs719].flatten) Try.underlying36 Try.underlying36 Try.typeInfo76 Try.sizeOf76 Try.zeroValue76 rfl rfl rfl rfl rfl rfl rfl (S768.buf (k := 4) rfl Bo447 (flat_len1 ars450 rfl)) (S768.oview (k := 0) rfl (Sb.lit (n := 1) (by decide)) (flat_len1 (all_one lxs719) rfl)) (flat_len1 (all_one lxs719) rfl) ints_one k770 haG774 (show rs450.length + 1 = (rs450 ++ [xs719]).length from len_app (a := rs450) (b := [xs719]) rfl rfl)) ?_
          refine AO.p rfl (s_fieldAddr Try.underlying38 rfl Try.sizeOf36 (by decide) rfl rfl) ?_
          obtain ⟨G778, hHG778, S779⟩ := S777.set (k := 2) (i := i113) rfl (AObj.row false ([.int .i64 a0_0, .slice p772 ((rs450 ++ [xs719]).length) c773]))
          refine AO.s (s_store Try.sizeOf36 rfl rfl rfl (S777.get (k := 2) rfl) (Nat.le_of_ble_eq_true rfl) hHG778) ?_
          refine AO.nil ?_
          refine AX.region ?_
          refine AO.p rfl (p_move rfl) ?_
          obtain ⟨k780, hd781⟩ := chk_some hd771
          refine AO.p rfl (p_addE rfl rfl k780) ?_
          refine AO.p rfl (p_assign rfl) ?_
          refine AO.nil ?_
          obtain rfl := some_inj hd781
          have S783 := S779.front 3 rfl
          have S784 := S783.front 3 rfl
          have S785 := S784.front 3 rfl
          have S786 := S785.front 3 rfl
          have S787 := S786.keep 4
          exact ⟨((rs450 ++ [xs719]), x451 + 1), hk624, (rs450 ++ [xs719]), (x451 + 1), p772, c773, rfl, S787, (all_app ars450 (all_one lxs719)), BS776, Sub.cons' rfl rfl (Sub.cons' rfl rfl (Sub.cons' rfl rfl (Sub.cons' rfl rfl (Sub.cons' rfl rfl (Sub.nil _)))))⟩
      · have hd788 := bif_f c629 ho623
        refine AX.exit ?_
        obtain rfl := some_inj hd788
        have S789 := S625.front 3 rfl
        have S790 := S789.front 3 rfl
        have S791 := S790.front 3 rfl
        have S792 := S791.keep 3
        exact ⟨rs450, p448, c449, hk624, S792, ars450, Bo447, Sub.cons' rfl rfl (Sub.cons' rfl rfl (Sub.nil _))⟩
  · rintro t' G794 ⟨rs614, p612, c613, rfl, S793, ars614, Bo611, hsub795⟩
    refine ⟨_, hsub795, ?_⟩
    refine AX.seq ?_
    refine AX.region ?_
    refine AO.c rfl (s_loadN (vs := [.int .i64 a0_0, .slice p612 rs614.length c613]) Try.isAgg38 Try.sizeOf38 rfl rfl (row_cells (S793.get (k := 1) rfl))) ?_
    obtain ⟨G796, hHG796, S797⟩ := S793.set (k := 0) (i := i105) rfl (AObj.row false ([.int .i64 a0_0, .slice p612 rs614.length c613]))
    refine AO.s (s_storeAll (vs := [.int .i64 a0_0, .slice p612 rs614.length c613]) Try.sizeOf38 rfl rfl (ones_list rfl) (S793.get (k := 0) rfl) rfl rfl hHG796) ?_
    refine AO.nil ?_
    refine AX.ret ?_
    obtain ⟨rfl, rfl⟩ := Prod.mk.inj (some_inj hd617)
    have S799 := S797.front 2 rfl
    have S800 := S799.keep 1
    exact ⟨.inr rfl, _, res1 rfl (rv_cell (vs := [.int .i64 a0_0, .slice p612 rs614.length c613]) rfl Try.isAgg38 Try.sizeOf38 rfl (row_cells (S797.get (k := 0) rfl))), p612, c613, rfl, S800, Bo611, ars614⟩

set_option maxHeartbeats 4000000 in
theorem W_spec_RenumberTeams (fu : Nat) (H : AHeap) (a0_0 : Int) (p_a0_1 : Option Addr) (c_a0_1 : Nat) (a0_1 : List (List Int)) (a_a0_1 : All 14 a0_1) (v_a0_1 : Vw H p_a0_1 a0_1.length c_a0_1 (ints a0_1.flatten)) (p_a1 : Option Addr) (c_a1 : Nat) (a1 : List Int) (v_a1 : Vw H p_a1 a1.length c_a1 (ints a1)) (r0 : Int) (r1 : List (List Int)) (r2 : Int) (hd : D_spec_RenumberTeams fu a0_0 a0_1 a1 = some (r0, r1, r2)) : ∃ v G', ACall Try.prog 39 [.agg [.int .i64 a0_0, .slice p_a0_1 a0_1.length c_a0_1].toArray, .slice p_a1 a1.length c_a1] H v G' ∧ ∃ (p_r1 : Option Addr) (c_r1 : Nat), (v = .tuple #[.agg [.int .i64 r0, .slice p_r1 r1.length c_r1].toArray, .int .i64 r2]) ∧ St [] H G' [oseg p_r1 (ints r1.flatten)] ∧ Sb p_r1 r1.length c_r1 14 ∧ All 14 r1 := by
  refine ACall.bodyX (args := [.agg [.int .i64 a0_0, .slice p_a0_1 a0_1.length c_a0_1].toArray, .slice p_a1 a1.length c_a1]) (N := 21) [(0, .agg [.int .i64 a0_0, .slice p_a0_1 a0_1.length c_a0_1].toArray), (1, .slice p_a1 a1.length c_a1)] (fun v G' => ∃ (p_r1 : Option Addr) (c_r1 : Nat), (v = .tuple #[.agg [.int .i64 r0, .slice p_r1 r1.length c_r1].toArray, .int .i64 r2]) ∧ St [] H G' [oseg p_r1 (ints r1.flatten)] ∧ Sb p_r1 r1.length c_r1 14 ∧ All 14 r1) Try.func39 rfl rfl rfl rfl ?_
  unfold D_spec_RenumberTeams at hd
  have S0 : St [] H H [] := St.nil H
  refine AX.seq ?_
  refine AX.region ?_
  obtain ⟨G100, i101, hii101, hHG100, S102⟩ := S0.new (AObj.row false ([.int .i64 a0_0, .slice p_a0_1 a0_1.length c_a0_1]))
  refine AO.c rfl (s_box (i := i101) (cs := [.int .i64 a0_0, .slice p_a0_1 a0_1.length c_a0_1]) rfl hii101 rfl hHG100) ?_
  obtain ⟨G104, i105, hii105, hHG104, S106⟩ := S102.new (AObj.row false ([.int .i64 0, .slice none 0 0]))
  refine AO.c rfl (s_alloc (i := i105) (cs := [.int .i64 0, .slice none 0 0]) Try.zeroValue38 rfl rfl hii105 hHG104) ?_
  refine AO.p rfl (p_assign rfl) ?_
  refine AO.nil ?_
  refine AX.seq ?_
  refine AX.block ?_
  refine AX.seq ?_
  refine AX.region ?_
  refine AO.c rfl (s_loadN (vs := [.int .i64 a0_0, .slice p_a0_1 a0_1.length c_a0_1]) Try.isAgg38 Try.sizeOf38 rfl rfl (row_cells (S106.get (k := 1) rfl))) ?_
  obtain ⟨b108, h109, hd110⟩ := bnd_some hd
  refine AO.c rfl (o_call (vs := [.agg [.int .i64 a0_0, .slice p_a0_1 a0_1.length c_a0_1].toArray]) rfl Try.call63 (W_spec_l01Is fu G104 a0_0 p_a0_1 c_a0_1 a0_1 a_a0_1 (S106.view v_a0_1) b108 h109)) ?_
  refine AO.p rfl (p_not rfl) ?_
  refine AO.p rfl (p_assign rfl) ?_
  refine AO.nil ?_
  refine AX.cond rfl (fun c112 => ?_) (fun c112 => ?_)
  · have hd113 := bif_t c112 hd110
    refine AX.seq ?_
    refine AX.region ?_
    refine AO.p rfl (p_build2 (vs := []) (cs := [.int .i64 0, .slice none 0 0]) Try.underlying38 rfl rfl rfl Try.sizeOf2 Try.sizeOf36 Try.zeroValue38 rfl rfl rfl rfl rfl) ?_
    obtain ⟨G114, hHG114, S115⟩ := S106.set (k := 0) (i := i105) rfl (AObj.row false ([.int .i64 0, .slice none 0 0]))
    refine AO.s (s_storeAll (vs := [.int .i64 0, .slice none 0 0]) Try.sizeOf38 rfl rfl (ones_list rfl) (S106.get (k := 0) rfl) rfl rfl hHG114) ?_
    refine AO.p rfl (p_assign rfl) ?_
    refine AO.nil ?_
    refine AX.ret ?_
    obtain ⟨rfl, z116⟩ := Prod.mk.inj (some_inj hd113)
    obtain ⟨rfl, rfl⟩ := Prod.mk.inj z116
    have S118 : St [] H G114 (oseg none (ints (List.flatten [])) :: _) := S115.nilseg 0
    have S119 := S118.keep 1
    exact ⟨.inr rfl, _, res2 rfl (rv_cell (vs := [.int .i64 0, .slice none 0 0]) rfl Try.isAgg38 Try.sizeOf38 rfl (row_cells (S115.get (k := 0) rfl))) (rv_tmp rfl), none, 0, rfl, S119, Sb.nil, all_nil⟩
  · have hd120 := bif_f c112 hd110
    refine AX.seq ?_
    refine AX.region ?_
    refine AO.p rfl (p_move rfl) ?_
    refine AO.p rfl (s_fieldAddr Try.underlying38 rfl Try.sizeOf2 (by decide) rfl rfl) ?_
    refine AO.c rfl (s_load Try.isAgg2 rfl (row_cell (S106.get (k := 1) rfl) rfl)) ?_
    obtain ⟨b121, h122, hd123⟩ := bnd_some hd120
    refine AO.c rfl (o_call (vs := [.slice p_a1 a1.length c_a1, .int .i64 a0_0]) rfl Try.call64 (W_spec_l01Order fu G104 p_a1 c_a1 a1 (S106.view v_a1) a0_0 b121 h122)) ?_
    refine AO.p rfl (p_not rfl) ?_
    refine AO.p rfl (p_assign rfl) ?_
    refine AO.nil ?_
    refine AX.cond rfl (fun c125 => ?_) (fun c125 => ?_)
    · have hd126 := bif_t c125 hd123
      refine AX.seq ?_
      refine AX.region ?_
      refine AO.p rfl (p_build2 (vs := []) (cs := [.int .i64 0, .slice none 0 0]) Try.underlying38 rfl rfl rfl Try.sizeOf2 Try.sizeOf36 Try.zeroValue38 rfl rfl rfl rfl rfl) ?_
      obtain ⟨G127, hHG127, S128⟩ := S106.set (k := 0) (i := i105) rfl (AObj.row false ([.int .i64 0, .slice none 0 0]))
      refine AO.s (s_storeAll (vs := [.int .i64 0, .slice none 0 0]) Try.sizeOf38 rfl rfl (ones_list rfl) (S106.get (k := 0) rfl) rfl rfl hHG127) ?_
      refine AO.p rfl (p_assign rfl) ?_
      refine AO.nil ?_
      refine AX.ret ?_
      obtain ⟨rfl, z129⟩ := Prod.mk.inj (some_inj hd126)
      obtain ⟨rfl, rfl⟩ := Prod.mk.inj z129
      have S131 : St [] H G127 (oseg none (ints (List.flatten [])) :: _) := S128.nilseg 0
      have S132 := S131.keep 1
      exact ⟨.inr rfl, _, res2 rfl (rv_cell (vs := [.int .i64 0, .slice none 0 0]) rfl Try.isAgg38 Try.sizeOf38 rfl (row_cells (S128.get (k := 0) rfl))) (rv_tmp rfl), none, 0, rfl, S132, Sb.nil, all_nil⟩
    · have hd133 := bif_f c125 hd123
      refine AX.skip ?_
      refine AX.seq ?_
      refine AX.region ?_
      refine AO.c rfl (s_loadN (vs := [.int .i64 a0_0, .slice p_a0_1 a0_1.length c_a0_1]) Try.isAgg38 Try.sizeOf38 rfl rfl (row_cells (S106.get (k := 1) rfl))) ?_
      refine AO.p rfl (p_move rfl) ?_
      obtain ⟨⟨x134, rs135⟩, h136, hd137⟩ := bnd_some hd133
      obtain ⟨_, G144, hc143, p138, c139, rfl, S145, B141, a142⟩ := W_spec_l01Renamed fu G104 a0_0 p_a0_1 c_a0_1 a0_1 a_a0_1 (S106.view v_a0_1) p_a1 c_a1 a1 (S106.view v_a1) x134 rs135 h136
      have S146 := S106.call S145
      refine AO.c rfl (o_call (vs := [.agg [.int .i64 a0_0, .slice p_a0_1 a0_1.length c_a0_1].toArray, .slice p_a1 a1.length c_a1]) rfl Try.call87 hc143) ?_
      obtain ⟨G147, hHG147, S148⟩ := S146.set (k := 1) (i := i105) rfl (AObj.row false ([.int .i64 x134, .slice p138 rs135.length c139]))
      refine AO.s (s_storeAll (vs := [.int .i64 x134, .slice p138 rs135.length c139]) Try.sizeOf38 rfl rfl (ones_list rfl) (S146.get (k := 1) rfl) rfl rfl hHG147) ?_
      refine AO.p rfl (p_assign rfl) ?_
      refine AO.nil ?_
      refine AX.ret ?_
      obtain ⟨rfl, z149⟩ := Prod.mk.inj (some_inj hd137)
      obtain ⟨rfl, rfl⟩ := Prod.mk.inj z149
      have S151 := S148.front 0 rfl
      have S152 := S151.keep 1
      exact ⟨.inr rfl, _, res2 rfl (rv_cell (vs := [.int .i64 x134, .slice p138 rs135.length c139]) rfl Try.isAgg38 Try.sizeOf38 rfl (row_cells (S148.get (k := 1) rfl))) (rv_tmp rfl), p138, c139, rfl, S152, B141, a142⟩

set_option maxHeartbeats 4000000 in
theorem W_impl_RenumberTeams_1 (fu : Nat) (H : AHeap) (i_b0 : Nat) (ro_b0 : Bool) (p_b0_0 : Option Addr) (c_b0_0 : Nat) (b0_0 : List Int) (v_b0_0 : Vw H p_b0_0 b0_0.length c_b0_0 (ints b0_0)) (o_b0 : hget H i_b0 = .row ro_b0 ([.slice p_b0_0 b0_0.length c_b0_0])) (i_b1 : Nat) (ro_b1 : Bool) (b1_0 : Int) (p_b1_1 : Option Addr) (c_b1_1 : Nat) (b1_1 : List (List Int)) (a_b1_1 : All 14 b1_1) (v_b1_1 : Vw H p_b1_1 b1_1.length c_b1_1 (ints b1_1.flatten)) (o_b1 : hget H i_b1 = .row ro_b1 ([.int .i64 b1_0, .slice p_b1_1 b1_1.length c_b1_1])) (r0 : Bool) (hd : D_impl_RenumberTeams_1 fu b0_0 b1_0 b1_1 = some r0) : ACall Try.prog 88 [.pointer (some ⟨i_b0, 0, none⟩), .pointer (some ⟨i_b1, 0, none⟩)] H (.bool r0) H := by
  refine ACall.bodyP (N := 7) [(0, .pointer (some ⟨i_b0, 0, none⟩)), (1, .pointer (some ⟨i_b1, 0, none⟩))] Try.func88 rfl rfl rfl rfl ?_
  unfold D_impl_RenumberTeams_1 at hd
  have S0 : St [] H H [] := St.nil H
  refine AX.seq ?_
  refine AX.region ?_
  refine AO.p rfl (p_assign rfl) ?_
  refine AO.nil ?_
  refine AX.seq ?_
  refine AX.region ?_
  refine AO.c rfl (s_load Try.isAgg34 rfl (row_cell (S0.old o_b0 (by simp)) rfl)) ?_
  refine AO.p rfl (s_fieldAddr Try.underlying38 rfl Try.sizeOf2 (by decide) rfl rfl) ?_
  refine AO.c rfl (s_load Try.isAgg2 rfl (row_cell (S0.old o_b1 (by simp)) rfl)) ?_
  obtain ⟨b100, h101, hd102⟩ := bnd_some hd
  refine AO.c rfl (o_call (vs := [.slice p_b0_0 b0_0.length c_b0_0, .int .i64 b1_0]) rfl Try.call69 (W_impl_isOrder fu H p_b0_0 c_b0_0 b0_0 (S0.view v_b0_0) b1_0 b100 h101)) ?_
  refine AO.p rfl (p_assign rfl) ?_
  refine AO.nil ?_
  refine AX.ret ?_
  obtain rfl := some_inj hd102
  exact ⟨.inr rfl, _, res1 rfl (rv_tmp rfl), rfl, (flatB_ok rfl), S0.hold⟩

set_option maxHeartbeats 4000000 in
theorem W_impl_Round_renumbered (fu : Nat) (H : AHeap) (a0 : List Int) (h_a0 : a0.length = 14) (a1 : Int) (p_a2 : Option Addr) (c_a2 : Nat) (a2 : List Int) (v_a2 : Vw H p_a2 a2.length c_a2 (ints a2)) (r0 : List Int) (hd : D_impl_Round_renumbered fu a0 a1 a2 = some r0) : ACall Try.prog 89 [.agg (ints a0).toArray, .int .i64 a1, .slice p_a2 a2.length c_a2] H (.agg (ints r0).toArray) H ∧ r0.length = 14 := by
  refine ACall.bodyPF (N := 27) [(0, .agg (ints a0).toArray), (1, .int .i64 a1), (2, .slice p_a2 a2.length c_a2)] Try.func89 rfl rfl rfl rfl ?_
  unfold D_impl_Round_renumbered at hd
  have S0 : St [] H H [] := St.nil H
  refine AX.seq ?_
  refine AX.region ?_
  obtain ⟨G100, i101, hii101, hHG100, S102⟩ := S0.new (AObj.row false (ints a0))
  refine AO.c rfl (s_box (i := i101) (cs := ints a0) rfl hii101 rfl hHG100) ?_
  obtain ⟨G104, i105, hii105, hHG104, S106⟩ := S102.new (AObj.row false (ints (List.replicate 14 0)))
  refine AO.c rfl (s_alloc (i := i105) (cs := ints (List.replicate 14 0)) Try.zeroValue76 rfl rfl hii105 hHG104) ?_
  refine AO.nil ?_
  refine AX.seq ?_
  refine AX.region ?_
  refine AO.p rfl (p_buildZ (z := ints (List.replicate 14 0)) Try.underlying76 Try.sizeOf2 Try.zeroValue76 rfl) ?_
  obtain ⟨G108, i109, hii109, hHG108, S110⟩ := S106.new (AObj.row false (ints (List.replicate 14 0)))
  refine AO.c rfl (s_alloc (i := i109) (cs := ints (List.replicate 14 0)) Try.zeroValue76 rfl rfl hii109 hHG108) ?_
  obtain ⟨G112, hHG112, S113⟩ := S110.set (k := 0) (i := i109) rfl (AObj.row false (ints (List.replicate 14 0)))
  refine AO.s (s_storeAll (vs := ints (List.replicate 14 0)) Try.sizeOf76 rfl rfl ints_one (S110.get (k := 0) rfl) (ints_len len_rep) (ints_len len_rep) hHG112) ?_
  refine AO.nil ?_
  refine AX.seq ?_
  refine AX.seq ?_
  refine AX.region ?_
  refine AO.p rfl (p_move rfl) ?_
  refine AO.p rfl (p_move rfl) ?_
  refine AO.nil ?_
  obtain ⟨r182, hl183, hd184⟩ := bnd_some hd
  refine AX.cutS (fun t' H' => ∃ (xs181 : List Int), xs181 = r182 ∧ St [] H H' [[(i105, AObj.row false (ints (List.replicate 14 0)))], [(i109, AObj.row false (ints xs181))]] ∧ xs181.length = 14 ∧ Am.Sub [(6, .pointer (some ⟨i105, 0, none⟩)), (7, .pointer (some ⟨i109, 0, none⟩))] t') ?_ ?_
  · refine AX.block ?_
    refine AX.loopF (fun s' t' H' => ∃ (xs159 : List Int) (x160 : Int), (xs159, x160) = s' ∧ St [] H H' [[(i101, AObj.row false (ints a0))], [(i105, AObj.row false (ints (List.replicate 14 0)))], [(i109, AObj.row false (ints xs159))]] ∧ xs159.length = 14 ∧ Am.Sub [(2, .slice p_a2 a2.length c_a2), (3, .pointer (some ⟨i101, 0, none⟩)), (6, .pointer (some ⟨i105, 0, none⟩)), (7, .pointer (some ⟨i109, 0, none⟩)), (10, .int .i64 a1), (11, .int .i64 x160)] t') hl183 ?_ ?_
    · skip
      have S185 := S113.front 0 rfl
      have S186 := S185.front 1 rfl
      have S187 := S186.front 2 rfl
      exact ⟨(List.replicate 14 0), 0, rfl, S187, len_rep, Sub.cons' rfl rfl (Sub.cons' rfl rfl (Sub.cons' rfl rfl (Sub.cons' rfl rfl (Sub.cons' rfl rfl (Sub.cons' rfl rfl (Sub.nil _))))))⟩
    · rintro n188 _ t' G192 ⟨xs159, x160, rfl, S191, lxs159, hsub193⟩ o194 ho189 hk190
      refine AX.sub hsub193 ?_
      unfold D_impl_Round_renumbered_s0 at ho189
      refine AX.seq ?_
      refine AX.region ?_
      refine AO.p rfl (p_lss rfl rfl) ?_
      refine AO.nil ?_
      refine AX.seq ?_
      refine AX.cond rfl (fun c195 => ?_) (fun c195 => ?_)
      · have hd196 := bif_t c195 ho189
        refine AX.skip ?_
        refine AX.seq ?_
        refine AX.block ?_
        refine AX.seq ?_
        refine AX.region ?_
        refine AO.p rfl (p_move rfl) ?_
        refine AO.p rfl (p_assign rfl) ?_
        refine AO.nil ?_
        refine DR.startS [false, false, false, false, false, false, false, false, false, false, false, true] mix (by kernel_rfl) (fun hst => ?_)
        refine DR.p rfl rfl (p_move rfl) ?_
        refine DR.p rfl rfl (p_move rfl) ?_
        obtain ⟨k197, hd198⟩ := chk_some hd196
        refine DR.p rfl rfl (s_indexV (q := off p_a2 + x160.toNat) Try.underlying34 Try.sizeOf2 rfl ((S191.view v_a2).p (ints_get (lt_len rfl (inR_lt k197)))) rfl k197 (o1 _ _)) ?_
        refine DR.r rfl rfl (r_load rfl Try.isAgg2) (one_read ((S191.view v_a2).get _ _ (ints_get (lt_len rfl (inR_lt k197)))) (.of_flat0 rfl)) ?_
        refine DR.p rfl rfl (p_move rfl) ?_
        refine DR.p rfl rfl (p_move rfl) ?_
        obtain ⟨k199, hd200⟩ := chk_some hd198
        refine DR.p rfl rfl (s_indexAr (q := x160.toNat) Try.underlying76 Try.sizeOf2 rfl rfl k199 (z1 _)) ?_
        refine DR.r rfl rfl (r_load rfl Try.isAgg2) (one_read (row_cell (S191.get (k := 0) rfl) (ints_get (lt_len h_a0 (inR_lt k199)))) (.of_flat0 rfl)) ?_
        obtain ⟨k201, hd202⟩ := chk_some hd200
        refine DR.p rfl rfl (s_indexV (q := off p_a2 + (rd a0 x160.toNat).toNat) Try.underlying34 Try.sizeOf2 rfl ((S191.view v_a2).p (ints_get (lt_len rfl (inR_lt k201)))) rfl k201 (o1 _ _)) ?_
        refine DR.r rfl rfl (r_load rfl Try.isAgg2) (one_read ((S191.view v_a2).get _ _ (ints_get (lt_len rfl (inR_lt k201)))) (.of_flat0 rfl)) ?_
        obtain ⟨k203, hd204⟩ := chk_some hd202
        refine DR.p rfl rfl (s_indexAr (q := (rd a2 x160.toNat).toNat) Try.underlying76 Try.sizeOf2 rfl rfl k203 (z1 _)) ?_
        obtain ⟨G205, hHG205, S206⟩ := S191.set (k := 2) (i := i109) rfl (AObj.row false (ints (xs159.set ((rd a2 x160.toNat).toNat) (rd a2 ((rd a0 x160.toNat).toNat)))))
        refine DR.s rfl (s_store Try.sizeOf2 rfl rfl rfl (S191.get (k := 2) rfl) (lt_len (ints_len lxs159) (inR_lt k203)) ((congrArg (fun l => List.set _ _ (AObj.row false l)) (ints_set _ _ _)).trans hHG205)) (set_le hHG205) ?_
        refine DR.nil 12 [] hst (by kernel_rfl) trivial ?_
        refine AX.region ?_
        obtain ⟨k207, hd208⟩ := chk_some hd204
        refine AO.p rfl (p_addE rfl rfl k207) ?_
        refine AO.p rfl (p_move rfl) ?_
        refine AO.nil ?_
        obtain rfl := some_inj hd208
        have S210 := S206.front 2 rfl
        have S211 := S210.front 2 rfl
        have S212 := S211.front 2 rfl
        exact ⟨((xs159.set ((rd a2 x160.toNat).toNat) (rd a2 ((rd a0 x160.toNat).toNat))), x160 + 1), hk190, (xs159.set ((rd a2 x160.toNat).toNat) (rd a2 ((rd a0 x160.toNat).toNat))), (x160 + 1), rfl, S212, (len_set lxs159), Sub.cons' rfl rfl (Sub.cons' rfl rfl (Sub.cons' rfl rfl (Sub.cons' rfl rfl (Sub.cons' rfl rfl (Sub.cons' rfl rfl (Sub.nil _))))))⟩
      · have hd213 := bif_f c195 ho189
        refine AX.exit ?_
        obtain rfl := some_inj hd213
        have S214 := S191.front 2 rfl
        have S215 := S214.front 2 rfl
        have S216 := S215.keep 2
        exact ⟨xs159, hk190, S216, lxs159, Sub.cons' rfl rfl (Sub.cons' rfl rfl (Sub.nil _))⟩
  · rintro t' G218 ⟨xs181, rfl, S217, lxs181, hsub219⟩
    refine ⟨_, hsub219, ?_⟩
    refine AX.seq ?_
    refine AX.region ?_
    refine AO.c rfl (s_loadN (vs := ints xs181) Try.isAgg76 Try.sizeOf76 rfl (ints_len lxs181) (row_cells (S217.get (k := 1) rfl))) ?_
    obtain ⟨G220, hHG220, S221⟩ := S217.set (k := 0) (i := i105) rfl (AObj.row false (ints xs181))
    refine AO.s (s_storeAll (vs := ints xs181) Try.sizeOf76 rfl rfl ints_one (S217.get (k := 0) rfl) (ints_len lxs181) (ints_len len_rep) hHG220) ?_
    refine AO.nil ?_
    refine AX.ret ?_
    obtain rfl := some_inj hd184
    exact ⟨.inr rfl, _, res1 rfl (rv_cell (vs := ints xs181) rfl Try.isAgg76 Try.sizeOf76 (ints_len lxs181) (row_cells (S221.get (k := 0) rfl))), rfl, (flat_arr _), S221.hold, lxs181⟩

set_option maxHeartbeats 4000000 in
theorem W_impl_RenumberTeams (fu : Nat) (H : AHeap) (a0_0 : Int) (p_a0_1 : Option Addr) (c_a0_1 : Nat) (a0_1 : List (List Int)) (a_a0_1 : All 14 a0_1) (v_a0_1 : Vw H p_a0_1 a0_1.length c_a0_1 (ints a0_1.flatten)) (p_a1 : Option Addr) (c_a1 : Nat) (a1 : List Int) (v_a1 : Vw H p_a1 a1.length c_a1 (ints a1)) (r0 : Int) (r1 : List (List Int)) (r2 : Int) (hd : D_impl_RenumberTeams fu a0_0 a0_1 a1 = some (r0, r1, r2)) : ∃ v G', ACall Try.prog 40 [.agg [.int .i64 a0_0, .slice p_a0_1 a0_1.length c_a0_1].toArray, .slice p_a1 a1.length c_a1] H v G' ∧ ∃ (p_r1 : Option Addr) (c_r1 : Nat), (v = .tuple #[.agg [.int .i64 r0, .slice p_r1 r1.length c_r1].toArray, .int .i64 r2]) ∧ St [] H G' [oseg p_r1 (ints r1.flatten)] ∧ Sb p_r1 r1.length c_r1 14 ∧ All 14 r1 := by
  refine ACall.bodyX (args := [.agg [.int .i64 a0_0, .slice p_a0_1 a0_1.length c_a0_1].toArray, .slice p_a1 a1.length c_a1]) (N := 38) [(0, .agg [.int .i64 a0_0, .slice p_a0_1 a0_1.length c_a0_1].toArray), (1, .slice p_a1 a1.length c_a1)] (fun v G' => ∃ (p_r1 : Option Addr) (c_r1 : Nat), (v = .tuple #[.agg [.int .i64 r0, .slice p_r1 r1.length c_r1].toArray, .int .i64 r2]) ∧ St [] H G' [oseg p_r1 (ints r1.flatten)] ∧ Sb p_r1 r1.length c_r1 14 ∧ All 14 r1) Try.func40 rfl rfl rfl rfl ?_
  unfold D_impl_RenumberTeams at hd
  have S0 : St [] H H [] := St.nil H
  refine AX.seq ?_
  refine AX.region ?_
  obtain ⟨G100, i101, hii101, hHG100, S102⟩ := S0.new (AObj.row false ([.int .i64 a0_0, .slice p_a0_1 a0_1.length c_a0_1]))
  refine AO.c rfl (s_box (i := i101) (cs := [.int .i64 a0_0, .slice p_a0_1 a0_1.length c_a0_1]) rfl hii101 rfl hHG100) ?_
  obtain ⟨G104, i105, hii105, hHG104, S106⟩ := S102.new (AObj.row false ([.slice p_a1 a1.length c_a1]))
  refine AO.c rfl (s_box (i := i105) (cs := [.slice p_a1 a1.length c_a1]) rfl hii105 rfl hHG104) ?_
  obtain ⟨G108, i109, hii109, hHG108, S110⟩ := S106.new (AObj.row false ([.int .i64 0, .slice none 0 0]))
  refine AO.c rfl (s_alloc (i := i109) (cs := [.int .i64 0, .slice none 0 0]) Try.zeroValue38 rfl rfl hii109 hHG108) ?_
  refine AO.p rfl (p_assign rfl) ?_
  refine AO.nil ?_
  refine AX.seq ?_
  refine AX.seq ?_
  refine AX.region ?_
  refine AO.c rfl (s_loadN (vs := [.int .i64 a0_0, .slice p_a0_1 a0_1.length c_a0_1]) Try.isAgg38 Try.sizeOf38 rfl rfl (row_cells (S110.get (k := 2) rfl))) ?_
  refine AO.p rfl (p_makeFunc (fs := []) (cs := [.pointer (some ⟨i105, 0, none⟩), .pointer (some ⟨i101, 0, none⟩)]) rfl rfl) ?_
  obtain ⟨x112, h113, hd114⟩ := bnd_some hd
  refine AO.c rfl (o_call (vs := [.agg [.int .i64 a0_0, .slice p_a0_1 a0_1.length c_a0_1].toArray, .func (.func 88) #[] #[.pointer (some ⟨i105, 0, none⟩), .pointer (some ⟨i101, 0, none⟩)]]) rfl Try.call67 (W_impl_scheduleCode fu G108 a0_0 p_a0_1 c_a0_1 a0_1 a_a0_1 (S110.view v_a0_1) 88 #[] #[.pointer (some ⟨i105, 0, none⟩), .pointer (some ⟨i101, 0, none⟩)] (fun _ => D_impl_RenumberTeams_1 fu a1 a0_0 a0_1) Try.call88 (fun G' hG  b' hb' => W_impl_RenumberTeams_1 fu G' i105 false p_a1 c_a1 a1 (hG.view (S110.view v_a1)) (hG.get (S110.get (k := 1) rfl)) i101 false a0_0 p_a0_1 c_a0_1 a0_1 a_a0_1 (hG.view (S110.view v_a0_1)) (hG.get (S110.get (k := 2) rfl)) b' hb') x112 h113)) ?_
  refine AO.p rfl (p_assign rfl) ?_
  refine AO.nil ?_
  refine AX.seq ?_
  refine AX.region ?_
  refine AO.p rfl (p_move rfl) ?_
  refine AO.p rfl (p_neq rfl rfl) ?_
  refine AO.nil ?_
  refine AX.cond rfl (fun c116 => ?_) (fun c116 => ?_)
  · have hd117 := bif_t c116 hd114
    refine AX.seq ?_
    refine AX.region ?_
    refine AO.p rfl (p_build2 (vs := []) (cs := [.int .i64 0, .slice none 0 0]) Try.underlying38 rfl rfl rfl Try.sizeOf2 Try.sizeOf36 Try.zeroValue38 rfl rfl rfl rfl rfl) ?_
    refine AO.p rfl (p_move rfl) ?_
    obtain ⟨G118, hHG118, S119⟩ := S110.set (k := 0) (i := i109) rfl (AObj.row false ([.int .i64 0, .slice none 0 0]))
    refine AO.s (s_storeAll (vs := [.int .i64 0, .slice none 0 0]) Try.sizeOf38 rfl rfl (ones_list rfl) (S110.get (k := 0) rfl) rfl rfl hHG118) ?_
    refine AO.p rfl (p_assign rfl) ?_
    refine AO.nil ?_
    refine AX.ret ?_
    obtain ⟨rfl, z120⟩ := Prod.mk.inj (some_inj hd117)
    obtain ⟨rfl, rfl⟩ := Prod.mk.inj z120
    have S122 : St [] H G118 (oseg none (ints (List.flatten [])) :: _) := S119.nilseg 0
    have S123 := S122.keep 1
    exact ⟨.inr rfl, _, res2 rfl (rv_cell (vs := [.int .i64 0, .slice none 0 0]) rfl Try.isAgg38 Try.sizeOf38 rfl (row_cells (S119.get (k := 0) rfl))) (rv_tmp rfl), none, 0, rfl, S123, Sb.nil, all_nil⟩
  · have hd124 := bif_f c116 hd114
    refine AX.skip ?_
    refine AX.seq ?_
    refine AX.region ?_
    refine AO.c rfl (s_loadN (vs := [.int .i64 a0_0, .slice p_a0_1 a0_1.length c_a0_1]) Try.isAgg38 Try.sizeOf38 rfl rfl (row_cells (S110.get (k := 2) rfl))) ?_
    obtain ⟨⟨x125, rs126⟩, h127, hd128⟩ := bnd_some hd124
    obtain ⟨_, G135, hc134, p129, c130, rfl, S136, B132, a133⟩ := W_impl_Schedule_with fu G108 a0_0 p_a0_1 c_a0_1 a0_1 a_a0_1 (S110.view v_a0_1) none 0 [] all_nil Vw.nil (by decide) x125 rs126 h127
    have S137 := S110.call S136
    refine AO.c rfl (o_call (vs := [.agg [.int .i64 a0_0, .slice p_a0_1 a0_1.length c_a0_1].toArray, .slice none 0 0]) rfl Try.call71 hc134) ?_
    obtain ⟨G138, i139, hii139, hHG138, S140⟩ := S137.new (AObj.row false ([.int .i64 0, .slice none 0 0]))
    refine AO.c rfl (s_alloc (i := i139) (cs := [.int .i64 0, .slice none 0 0]) Try.zeroValue38 rfl rfl hii139 hHG138) ?_
    obtain ⟨G142, hHG142, S143⟩ := S140.set (k := 0) (i := i139) rfl (AObj.row false ([.int .i64 x125, .slice p129 rs126.length c130]))
    refine AO.s (s_storeAll (vs := [.int .i64 x125, .slice p129 rs126.length c130]) Try.sizeOf38 rfl rfl (ones_list rfl) (S140.get (k := 0) rfl) rfl rfl hHG142) ?_
    refine AO.nil ?_
    refine AX.seq ?_
    refine AX.seq ?_
    refine AX.region ?_
    refine AO.p rfl (s_fieldAddr Try.underlying38 rfl Try.sizeOf36 (by decide) rfl rfl) ?_
    refine AO.c rfl (s_load Try.isAgg36 rfl (row_cell (S143.get (k := 4) rfl) rfl)) ?_
    refine AO.p rfl (p_len_slice rfl Try.underlying36) ?_
    refine AO.p rfl (p_move rfl) ?_
    refine AO.nil ?_
    obtain ⟨r281, hl282, hd283⟩ := bnd_some hd128
    refine AX.cutS (fun t' H' => ∃ (rs280 : List (List Int)) (p278 : Option Addr) (c279 : Nat), rs280 = r281 ∧ St [] H H' [[(i109, AObj.row false ([.int .i64 0, .slice none 0 0]))], [(i139, AObj.row false ([.int .i64 x125, .slice p278 rs280.length c279]))], oseg p278 (ints rs280.flatten)] ∧ All 14 rs280 ∧ Sb p278 (rs280.length) c279 14 ∧ Am.Sub [(4, .pointer (some ⟨i109, 0, none⟩)), (7, .pointer (some ⟨i139, 0, none⟩))] t') ?_ ?_
    · refine AX.block ?_
      refine AX.loopF (fun s' t' H' => ∃ (rs237 : List (List Int)) (x238 : Int) (p235 : Option Addr) (c236 : Nat), (rs237, x238) = s' ∧ St [] H H' [[(i101, AObj.row false ([.int .i64 a0_0, .slice p_a0_1 a0_1.length c_a0_1]))], [(i105, AObj.row false ([.slice p_a1 a1.length c_a1]))], [(i109, AObj.row false ([.int .i64 0, .slice none 0 0]))], [(i139, AObj.row false ([.int .i64 x125, .slice p235 rs237.length c236]))], oseg p235 (ints rs237.flatten)] ∧ All 14 rs237 ∧ Sb p235 (rs237.length) c236 14 ∧ Am.Sub [(2, .pointer (some ⟨i101, 0, none⟩)), (3, .pointer (some ⟨i105, 0, none⟩)), (4, .pointer (some ⟨i109, 0, none⟩)), (7, .pointer (some ⟨i139, 0, none⟩)), (20, .slice p_a0_1 a0_1.length c_a0_1), (21, .int .i64 ((a0_1.length : Nat) : Int)), (22, .int .i64 x238)] t') hl282 ?_ ?_
      · skip
        have S284 := S143.front 1 rfl
        have S285 := S284.front 1 rfl
        have S286 := S285.front 2 rfl
        have S287 := S286.front 3 rfl
        have S288 := S287.front 4 rfl
        exact ⟨rs126, 0, p129, c130, rfl, S288, a133, B132, Sub.cons' rfl rfl (Sub.cons' rfl rfl (Sub.cons' rfl rfl (Sub.cons' rfl rfl (Sub.cons' rfl rfl (Sub.cons' rfl rfl (Sub.cons' rfl rfl (Sub.nil _)))))))⟩
      · rintro n289 _ t' G293 ⟨rs237, x238, p235, c236, rfl, S292, ars237, Bo234, hsub294⟩ o295 ho290 hk291
        refine AX.sub hsub294 ?_
        unfold D_impl_RenumberTeams_s0 at ho290
        refine AX.seq ?_
        refine AX.region ?_
        refine AO.p rfl (p_lss rfl rfl) ?_
        refine AO.nil ?_
        refine AX.seq ?_
        refine AX.cond rfl (fun c296 => ?_) (fun c296 => ?_)
        · have hd297 := bif_t c296 ho290
          refine AX.skip ?_
          refine AX.seq ?_
          refine AX.block ?_
          refine AX.seq ?_
          refine AX.region ?_
          obtain ⟨k298, hd299⟩ := chk_some hd297
          refine AO.p rfl (s_indexV (q := off p_a0_1 + x238.toNat * 14) Try.underlying36 Try.sizeOf76 rfl ((S292.view v_a0_1).rowne a_a0_1 (by decide) (lt_len rfl (inR_lt k298))) rfl k298 rfl) ?_
          refine AO.c rfl (s_loadN (vs := ints (rw_ a0_1 x238.toNat)) Try.isAgg76 Try.sizeOf76 rfl (ints_len (rw_len a_a0_1 (lt_len rfl (inR_lt k298)))) ((S292.view v_a0_1).row a_a0_1 (lt_len rfl (inR_lt k298)))) ?_
          obtain ⟨G300, i301, hii301, hHG300, S302⟩ := S292.new (AObj.row false (ints (List.replicate 14 0)))
          refine AO.c rfl (s_alloc (i := i301) (cs := ints (List.replicate 14 0)) Try.zeroValue76 rfl rfl hii301 hHG300) ?_
          obtain ⟨G304, hHG304, S305⟩ := S302.set (k := 0) (i := i301) rfl (AObj.row false (ints (rw_ a0_1 x238.toNat)))
          refine AO.s (s_storeAll (vs := ints (rw_ a0_1 x238.toNat)) Try.sizeOf76 rfl rfl ints_one (S302.get (k := 0) rfl) (ints_len (rw_len a_a0_1 (lt_len rfl (inR_lt k298)))) (ints_len len_rep) hHG304) ?_
          refine AO.nil ?_
          refine DR.startS [false, false, false, false, false, false, true, false, true, false, true] mix (by kernel_rfl) (fun hst => ?_)
          refine DR.p rfl rfl (s_fieldAddr Try.underlying38 rfl Try.sizeOf36 (by decide) rfl rfl) ?_
          refine DR.r rfl rfl (r_load rfl Try.isAgg36) (one_read (row_cell (S305.get (k := 4) rfl) rfl) (S305.oin (k := 5) rfl Bo234).bel) ?_
          refine DR.r rfl rfl (r_loadN (vs := ints (rw_ a0_1 x238.toNat)) rfl Try.isAgg76 Try.sizeOf76 (ints_len (rw_len a_a0_1 (lt_len rfl (inR_lt k298))))) (many_row (row_cells (S305.get (k := 0) rfl)) bel_ints) ?_
          refine DR.p rfl rfl (s_fieldAddr Try.underlying38 rfl Try.sizeOf2 (by decide) rfl rfl) ?_
          refine DR.r rfl rfl (r_load rfl Try.isAgg2) (one_read (row_cell (S305.get (k := 1) rfl) rfl) (.of_flat0 rfl)) ?_
          refine DR.r rfl rfl (r_load rfl Try.isAgg34) (one_read (row_cell (S305.get (k := 2) rfl) rfl) (S305.view v_a1).inn.bel) ?_
          obtain ⟨xs306, h307, hd308⟩ := bnd_some hd299
          obtain ⟨hc310, l311⟩ := W_impl_Round_renumbered fu G304 (rw_ a0_1 x238.toNat) (rw_len a_a0_1 (lt_len rfl (inR_lt k298))) a0_0 p_a1 c_a1 a1 (S305.view v_a1) xs306 h307
          refine DR.w rfl rfl (o_call (vs := [.agg (ints (rw_ a0_1 x238.toNat)).toArray, .int .i64 a0_0, .slice p_a1 a1.length c_a1]) rfl Try.call89 hc310) (Nat.le_refl _) ?_
          obtain ⟨G312, i313, hii313, hHG312, S314⟩ := S305.new (AObj.row false (ints [xs306].flatten))
          refine DR.a rfl rfl hii313 hHG312 (a_build1 (r := xs306) (zr := List.replicate 14 0) Try.underlying36 Try.sizeOf76 Try.zeroValue76 rfl rfl (by decide) (by decide) rfl l311) ?_
          obtain ⟨k316, hd317⟩ := chk_some hd308
          obtain ⟨p318, c319, G320, haG320, S321, Bp318⟩ := S314.app (k := 6) rfl Bo234 (ints [xs306].flatten) 1 (flat_len1 (all_one l311) rfl)
          have S322 := S321.cellsEq (k := 6) (us' := ints (rs237 ++ [xs306]).flatten) (intsf_app _ _) rfl
          have BS322 : Sb p318 ((rs237 ++ [xs306]).length) c319 14 := (show rs237.length + 1 = (rs237 ++ [xs306]).length from len_app (a := rs237) (b := [xs306]) rfl rfl) ▸ Bp318
          have S323 := S322.drop 0 rfl
          refine DR.w rfl rfl (s_app (by_ := 112) (us := ints rs237.flatten) (vs := ints [xs306].flatten) Try.underlying36 Try.underlying36 Try.typeInfo76 Try.sizeOf76 Try.zeroValue76 rfl rfl rfl rfl rfl rfl rfl (S314.buf (k := 6) rfl Bo234 (flat_len1 ars237 rfl)) (S314.oview (k := 0) rfl (Sb.lit (n := 1) (by decide)) (flat_len1 (all_one l311) rfl)) (flat_len1 (all_one l311) rfl) ints_one k316 haG320 (show rs237.length + 1 = (rs237 ++ [xs306]).length from len_app (a := rs237) (b := [xs306]) rfl rfl)) (appR_len haG320) ?_
          refine DR.p rfl rfl (s_fieldAddr Try.underlying38 rfl Try.sizeOf36 (by decide) rfl rfl) ?_
          obtain ⟨G324, hHG324, S325⟩ := S323.set (k := 4) (i := i139) rfl (AObj.row false ([.int .i64 x125, .slice p318 ((rs237 ++ [xs306]).length) c319]))
          refine DR.s rfl (s_store Try.sizeOf36 rfl rfl rfl (S323.get (k := 4) rfl) (Nat.le_of_ble_eq_true rfl) hHG324) (set_le hHG324) ?_
          refine DR.nil 11 [(1, 6)] hst (by kernel_rfl) ⟨(rd1 (fun _ => rfl)), trivial⟩ ?_
          refine AX.region ?_
          obtain ⟨k326, hd327⟩ := chk_some hd317
          refine AO.p rfl (p_addE rfl rfl k326) ?_
          refine AO.p rfl (p_move rfl) ?_
          refine AO.nil ?_
          obtain rfl := some_inj hd327
          have S329 := S325.front 5 rfl
          have S330 := S329.front 5 rfl
          have S331 := S330.front 5 rfl
          have S332 := S331.front 5 rfl
          have S333 := S332.front 5 rfl
          have S334 := S333.keep 5
          exact ⟨((rs237 ++ [xs306]), x238 + 1), hk291, (rs237 ++ [xs306]), (x238 + 1), p318, c319, rfl, S334, (all_app ars237 (all_one l311)), BS322, Sub.cons' rfl rfl (Sub.cons' rfl rfl (Sub.cons' rfl rfl (Sub.cons' rfl rfl (Sub.cons' rfl rfl (Sub.cons' rfl rfl (Sub.cons' rfl rfl (Sub.nil _)))))))⟩
        · have hd335 := bif_f c296 ho290
          refine AX.exit ?_
          obtain rfl := some_inj hd335
          have S336 := S292.front 4 rfl
          have S337 := S336.front 4 rfl
          have S338 := S337.front 4 rfl
          have S339 := S338.keep 3
          exact ⟨rs237, p235, c236, hk291, S339, ars237, Bo234, Sub.cons' rfl rfl (Sub.cons' rfl rfl (Sub.nil _))⟩
    · rintro t' G341 ⟨rs280, p278, c279, rfl, S340, ars280, Bo277, hsub342⟩
      refine ⟨_, hsub342, ?_⟩
      refine AX.seq ?_
      refine AX.region ?_
      refine AO.c rfl (s_loadN (vs := [.int .i64 x125, .slice p278 rs280.length c279]) Try.isAgg38 Try.sizeOf38 rfl rfl (row_cells (S340.get (k := 1) rfl))) ?_
      obtain ⟨G343, hHG343, S344⟩ := S340.set (k := 0) (i := i109) rfl (AObj.row false ([.int .i64 x125, .slice p278 rs280.length c279]))
      refine AO.s (s_storeAll (vs := [.int .i64 x125, .slice p278 rs280.length c279]) Try.sizeOf38 rfl rfl (ones_list rfl) (S340.get (k := 0) rfl) rfl rfl hHG343) ?_
      refine AO.p rfl (p_assign rfl) ?_
      refine AO.nil ?_
      refine AX.ret ?_
      obtain ⟨rfl, z345⟩ := Prod.mk.inj (some_inj hd283)
      obtain ⟨rfl, rfl⟩ := Prod.mk.inj z345
      have S347 := S344.front 2 rfl
      have S348 := S347.keep 1
      exact ⟨.inr rfl, _, res2 rfl (rv_cell (vs := [.int .i64 x125, .slice p278 rs280.length c279]) rfl Try.isAgg38 Try.sizeOf38 rfl (row_cells (S344.get (k := 0) rfl))) (rv_tmp rfl), p278, c279, rfl, S348, Bo277, ars280⟩

end Go.Proofs.Ytakfkiahhfdjfaa
