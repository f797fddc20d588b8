/-
  The program computes that, printed by a program. No condition.
-/
import Derived.Test.YtocaepkkaihiiaaDE
import Derived.Test.YtocaepkkaihiiaaWB
import Derived.Test.YtocaepkkaihiiaaProg
import Derived.KernelRfl
namespace Go.Proofs.Ytocaepkkaihiiaa
open Go Go.RowKit Am
set_option linter.unusedVariables false
set_option linter.unusedSimpArgs false
set_option maxRecDepth 20000
set_option maxHeartbeats 4000000 in
theorem W_spec_l01Is (fu : Nat) (H : AHeap) (a0_0 : Int) (p_a0_1 : Option Addr) (c_a0_1 : Nat) (a0_1 : List (List Int)) (a_a0_1 : All 14 a0_1) (v_a0_1 : Vw H p_a0_1 a0_1.length c_a0_1 (ints a0_1.flatten)) (r0 : Bool) (hd : D_spec_l01Is fu a0_0 a0_1 = some r0) : ACall Try.prog 100 [.agg [.int .i64 a0_0, .slice p_a0_1 a0_1.length c_a0_1].toArray] H (.bool r0) H := by
  refine ACall.bodyP (N := 30) [(0, .agg [.int .i64 a0_0, .slice p_a0_1 a0_1.length c_a0_1].toArray)] Try.func100 rfl rfl rfl rfl ?_
  unfold D_spec_l01Is at hd
  have S0 : St [] H H [] := St.nil H
  refine AX.seq ?_
  refine AX.region ?_
  obtain ⟨G100, i101, hii101, hHG100, S102⟩ := S0.new (.row false ([.int .i64 a0_0, .slice p_a0_1 a0_1.length c_a0_1]))
  refine AO.c rfl (s_box (i := i101) (cs := [.int .i64 a0_0, .slice p_a0_1 a0_1.length c_a0_1]) rfl hii101 rfl hHG100) ?_
  refine AO.p rfl (p_assign rfl) ?_
  refine AO.nil ?_
  refine AX.seq ?_
  obtain ⟨r113, hb114, hd115⟩ := bnd_some hd
  refine AX.cut (fun t' H' => ∃ (b112 : Bool), b112 = r113 ∧ St [] H H' [[(i101, AObj.row false ([.int .i64 a0_0, .slice p_a0_1 a0_1.length c_a0_1]))]] ∧ Am.Sub [(1, .pointer (some ⟨i101, 0, none⟩)), (13, .bool b112)] t') ?_ ?_
  · skip
    refine AX.region ?_
    refine AO.p rfl (s_fieldAddr Try.underlying33 rfl Try.sizeOf2 (by decide) rfl rfl) ?_
    refine AO.c rfl (s_load Try.isAgg2 rfl (row_cell (S102.get (k := 0) rfl) rfl)) ?_
    obtain ⟨b116, h117, hd118⟩ := bnd_some hb114
    refine AO.c rfl (o_call (vs := [.int .i64 a0_0, .int .i64 2, .int .i64 14]) rfl Try.call64 (W_spec_l01In fu G100 a0_0 2 14 b116 h117)) ?_
    refine AO.p rfl (p_not rfl) ?_
    refine AO.p rfl (p_move rfl) ?_
    refine AO.cases (d := 8) rfl (fun c120 => ?_) (fun c120 => ?_)
    · have hd121 := bif_t c120 hd118
      refine AO.gn rfl rfl rfl ?_
      refine AO.gn rfl rfl rfl ?_
      refine AO.gn rfl rfl rfl ?_
      refine AO.gn rfl rfl rfl ?_
      refine AO.p rfl (p_pickT rfl rfl) ?_
      refine AO.nil ?_
      have S122 := S102.front 0 rfl
      exact ⟨true, (some_inj hd121), S122, Sub.cons' rfl rfl (Sub.cons' rfl rfl (Sub.nil _))⟩
    · have hd123 := bif_f c120 hd118
      refine AO.gp rfl rfl rfl (s_fieldAddr Try.underlying33 rfl Try.sizeOf31 (by decide) rfl rfl) ?_
      refine AO.gc rfl rfl rfl (s_load Try.isAgg31 rfl (row_cell (S102.get (k := 0) rfl) rfl)) ?_
      refine AO.gp rfl rfl rfl (p_len_slice rfl Try.underlying31) ?_
      refine AO.gp rfl rfl rfl (p_gtr rfl rfl) ?_
      refine AO.p rfl (p_pickF rfl rfl) ?_
      refine AO.nil ?_
      have S124 := S102.front 0 rfl
      exact ⟨(decide (40 < ((a0_1.length : Nat) : Int))), (some_inj hd123), S124, Sub.cons' rfl rfl (Sub.cons' rfl rfl (Sub.nil _))⟩
  · rintro t' G126 ⟨b112, rfl, S125, hsub127⟩
    refine AX.sub hsub127 ?_
    refine AX.cond rfl (fun c128 => ?_) (fun c128 => ?_)
    · have hd129 := bif_t c128 hd115
      refine AX.seq ?_
      refine AX.region ?_
      refine AO.p rfl (p_assign rfl) ?_
      refine AO.nil ?_
      refine AX.ret ?_
      obtain rfl := some_inj hd129
      exact ⟨.inr rfl, _, res1 rfl (rv_tmp rfl), rfl, (flatB_ok rfl), S125.hold⟩
    · have hd130 := bif_f c128 hd115
      refine AX.skip ?_
      refine AX.seq ?_
      refine AX.seq ?_
      refine AX.region ?_
      refine AO.p rfl (p_assign rfl) ?_
      refine AO.nil ?_
      obtain ⟨r187, hl188, hd189⟩ := bnd_some hd130
      refine AX.cutQ (fun t' H' => .inl () = r187 ∧ St [] H H' [] ∧ Am.Sub [] t') ?_ ?_
      · refine AX.block ?_
        refine AX.loopF (fun s' t' H' => ∃ (x169 : Int), x169 = s' ∧ St [] H H' [[(i101, AObj.row false ([.int .i64 a0_0, .slice p_a0_1 a0_1.length c_a0_1]))]] ∧ Am.Sub [(1, .pointer (some ⟨i101, 0, none⟩)), (3, .int .i64 x169)] t') hl188 ?_ ?_
        · skip
          have S190 := S125.front 0 rfl
          exact ⟨0, rfl, S190, Sub.cons' rfl rfl (Sub.cons' rfl rfl (Sub.nil _))⟩
        · rintro n191 _ t' G195 ⟨x169, rfl, S194, hsub196⟩ o197 ho192 hk193
          refine AX.sub hsub196 ?_
          unfold D_spec_l01Is_s0 at ho192
          refine AX.seq ?_
          refine AX.seq ?_
          refine AX.region ?_
          refine AO.p rfl (p_move rfl) ?_
          refine AO.p rfl (s_fieldAddr Try.underlying33 rfl Try.sizeOf31 (by decide) rfl rfl) ?_
          refine AO.c rfl (s_load Try.isAgg31 rfl (row_cell (S194.get (k := 0) rfl) rfl)) ?_
          refine AO.p rfl (p_len_slice rfl Try.underlying31) ?_
          refine AO.p rfl (p_lss rfl rfl) ?_
          refine AO.nil ?_
          refine AX.cond rfl (fun c198 => ?_) (fun c198 => ?_)
          · have hd199 := bif_t c198 ho192
            refine AX.skip ?_
            refine AX.seq ?_
            refine AX.block ?_
            refine AX.seq ?_
            refine DR.startS [false, false, false, false, false, false, false, true, false] mix (by kernel_rfl) (fun hst => ?_)
            refine DR.p rfl rfl (s_fieldAddr Try.underlying33 rfl Try.sizeOf2 (by decide) rfl rfl) ?_
            refine DR.r rfl rfl (r_load rfl Try.isAgg2) (one_read (row_cell (S194.get (k := 0) rfl) rfl) (.of_flat0 rfl)) ?_
            refine DR.p rfl rfl (s_fieldAddr Try.underlying33 rfl Try.sizeOf31 (by decide) rfl rfl) ?_
            refine DR.r rfl rfl (r_load rfl Try.isAgg31) (one_read (row_cell (S194.get (k := 0) rfl) rfl) (S194.view v_a0_1).inn.bel) ?_
            refine DR.p rfl rfl (p_move rfl) ?_
            obtain ⟨k200, hd201⟩ := chk_some hd199
            refine DR.p rfl rfl (s_indexV (q := off p_a0_1 + x169.toNat * 14) Try.underlying31 Try.sizeOf26 rfl ((S194.view v_a0_1).rowne a_a0_1 (by decide) (lt_len rfl (inR_lt k200))) rfl k200 rfl) ?_
            refine DR.r rfl rfl (r_loadN (vs := ints (rw_ a0_1 x169.toNat)) rfl Try.isAgg26 Try.sizeOf26 (ints_len (rw_len a_a0_1 (lt_len rfl (inR_lt k200))))) (many_row ((S194.view v_a0_1).row a_a0_1 (lt_len rfl (inR_lt k200))) bel_ints) ?_
            obtain ⟨b202, h203, hd204⟩ := bnd_some hd201
            refine DR.w rfl rfl (o_call (vs := [.int .i64 a0_0, .agg (ints (rw_ a0_1 x169.toNat)).toArray]) rfl Try.call60 (W_spec_l01Round fu G195 a0_0 (rw_ a0_1 x169.toNat) (rw_len a_a0_1 (lt_len rfl (inR_lt k200))) b202 h203)) (Nat.le_refl _) ?_
            refine DR.p rfl rfl (p_not rfl) ?_
            refine DR.nil 9 [] hst (by kernel_rfl) trivial ?_
            refine AX.cond rfl (fun c206 => ?_) (fun c206 => ?_)
            · have hd207 := bif_t c206 hd204
              refine AX.seq ?_
              refine AX.region ?_
              refine AO.p rfl (p_assign rfl) ?_
              refine AO.nil ?_
              refine AX.ret ?_
              obtain rfl := some_inj hd207
              have z208 : _ = r187 := hk193
              subst z208
              obtain rfl := some_inj hd189
              exact ⟨.inr rfl, _, res1 rfl (rv_tmp rfl), rfl, (flatB_ok rfl), S194.hold⟩
            · have hd209 := bif_f c206 hd204
              refine AX.skip ?_
              refine AX.region ?_
              refine AO.p rfl (p_move rfl) ?_
              obtain ⟨k210, hd211⟩ := chk_some hd209
              refine AO.p rfl (p_addE rfl rfl k210) ?_
              refine AO.p rfl (p_assign rfl) ?_
              refine AO.nil ?_
              obtain rfl := some_inj hd211
              have S213 := S194.front 0 rfl
              exact ⟨x169 + 1, hk193, (x169 + 1), rfl, S213, Sub.cons' rfl rfl (Sub.cons' rfl rfl (Sub.nil _))⟩
          · have hd214 := bif_f c198 ho192
            refine AX.exit ?_
            obtain rfl := some_inj hd214
            have S215 := S194.keep 0
            exact ⟨hk193, S215, Sub.nil _⟩
      · rintro t' G217 ⟨rfl, S216, hsub218⟩
        refine AX.sub hsub218 ?_
        refine AX.seq ?_
        refine AX.region ?_
        refine AO.p rfl (p_assign rfl) ?_
        refine AO.nil ?_
        refine AX.ret ?_
        obtain rfl := some_inj hd189
        exact ⟨.inr rfl, _, res1 rfl (rv_tmp rfl), rfl, (flatB_ok rfl), S216.hold⟩

set_option maxHeartbeats 4000000 in
theorem W_spec_l01Copy (fu : Nat) (H : AHeap) (a0_0 : Int) (p_a0_1 : Option Addr) (c_a0_1 : Nat) (a0_1 : List (List Int)) (a_a0_1 : All 14 a0_1) (v_a0_1 : Vw H p_a0_1 a0_1.length c_a0_1 (ints a0_1.flatten)) (r0 : Int) (r1 : List (List Int)) (hd : D_spec_l01Copy fu a0_0 a0_1 = some (r0, r1)) : ∃ v G', ACall Try.prog 101 [.agg [.int .i64 a0_0, .slice p_a0_1 a0_1.length c_a0_1].toArray] H v G' ∧ ∃ (p_r1 : Option Addr) (c_r1 : Nat), (v = .agg [.int .i64 r0, .slice p_r1 r1.length c_r1].toArray) ∧ St [] H G' [oseg p_r1 (ints r1.flatten)] ∧ Sb p_r1 r1.length c_r1 14 ∧ All 14 r1 := by
  refine ACall.bodyX (args := [.agg [.int .i64 a0_0, .slice p_a0_1 a0_1.length c_a0_1].toArray]) (N := 10) [(0, .agg [.int .i64 a0_0, .slice p_a0_1 a0_1.length c_a0_1].toArray)] (fun v G' => ∃ (p_r1 : Option Addr) (c_r1 : Nat), (v = .agg [.int .i64 r0, .slice p_r1 r1.length c_r1].toArray) ∧ St [] H G' [oseg p_r1 (ints r1.flatten)] ∧ Sb p_r1 r1.length c_r1 14 ∧ All 14 r1) Try.func101 rfl rfl rfl rfl ?_
  unfold D_spec_l01Copy at hd
  have S0 : St [] H H [] := St.nil H
  refine AX.seq ?_
  refine AX.region ?_
  obtain ⟨G100, i101, hii101, hHG100, S102⟩ := S0.new (.row false ([.int .i64 a0_0, .slice p_a0_1 a0_1.length c_a0_1]))
  refine AO.c rfl (s_box (i := i101) (cs := [.int .i64 a0_0, .slice p_a0_1 a0_1.length c_a0_1]) rfl hii101 rfl hHG100) ?_
  obtain ⟨G104, i105, hii105, hHG104, S106⟩ := S102.new (.row false ([.int .i64 0, .slice none 0 0]))
  refine AO.c rfl (s_alloc (i := i105) (cs := [.int .i64 0, .slice none 0 0]) Try.zeroValue33 rfl rfl hii105 hHG104) ?_
  refine AO.nil ?_
  refine AX.seq ?_
  refine DR.startS [false, false, false, false, false, true, false, true] mix (by kernel_rfl) (fun hst => ?_)
  refine DR.p rfl rfl (s_fieldAddr Try.underlying33 rfl Try.sizeOf2 (by decide) rfl rfl) ?_
  refine DR.r rfl rfl (r_load rfl Try.isAgg2) (one_read (row_cell (S106.get (k := 1) rfl) rfl) (.of_flat0 rfl)) ?_
  obtain ⟨G108, i109, hii109, hHG108, S110⟩ := S106.new (.row false (ints [].flatten))
  refine DR.a rfl rfl hii109 hHG108 (a_build0 Try.underlying31 Try.sizeOf26) ?_
  refine DR.p rfl rfl (s_fieldAddr Try.underlying33 rfl Try.sizeOf31 (by decide) rfl rfl) ?_
  refine DR.r rfl rfl (r_load rfl Try.isAgg31) (one_read (row_cell (S110.get (k := 2) rfl) rfl) (S110.view v_a0_1).inn.bel) ?_
  obtain ⟨k112, hd113⟩ := chk_some hd
  obtain ⟨p114, c115, G116, haG116, S117, Bp114⟩ := S110.app (k := 0) rfl (Sb.lit (n := 0) (by decide)) (ints a0_1.flatten) a0_1.length (flat_len1 a_a0_1 rfl)
  have S118 := S117.cellsEq (k := 0) (us' := ints a0_1.flatten) (List.nil_append _) rfl
  have BS118 : Sb p114 (a0_1.length) c115 14 := (show 0 + a0_1.length = a0_1.length from len_nilapp (b := a0_1) rfl) ▸ Bp114
  refine DR.w rfl rfl (s_app (by_ := 112) (us := ints [].flatten) (vs := ints a0_1.flatten) Try.underlying31 Try.underlying31 Try.typeInfo26 Try.sizeOf26 Try.zeroValue26 rfl rfl rfl rfl rfl rfl rfl (S110.buf (k := 0) rfl (Sb.lit (n := 0) (by decide)) (flat_len1 all_nil rfl)) (S110.view v_a0_1) (flat_len1 a_a0_1 rfl) ints_one k112 haG116 (show 0 + a0_1.length = a0_1.length from len_nilapp (b := a0_1) rfl)) (appR_len haG116) ?_
  refine DR.p rfl rfl (p_build2 (vs := [(0, .int .i64 a0_0), (1, .slice p114 a0_1.length c115)]) (cs := [.int .i64 a0_0, .slice p114 a0_1.length c115]) Try.underlying33 rfl rfl rfl Try.sizeOf2 Try.sizeOf31 Try.zeroValue33 rfl rfl rfl rfl rfl) ?_
  obtain ⟨G119, hHG119, S120⟩ := S118.set (k := 1) (i := i105) rfl (.row false ([.int .i64 a0_0, .slice p114 a0_1.length c115]))
  refine DR.s rfl (s_storeAll (vs := [.int .i64 a0_0, .slice p114 a0_1.length c115]) Try.sizeOf33 rfl rfl (ones_list rfl) (S118.get (k := 1) rfl) rfl rfl hHG119) (set_le hHG119) ?_
  refine DR.nil 8 [(1, 5)] hst (by kernel_rfl) ⟨(rd1 (fun _ => (S118.get (k := 2) rfl).trans (S110.get (k := 2) rfl).symm)), trivial⟩ ?_
  refine AX.ret ?_
  obtain ⟨rfl, rfl⟩ := Prod.mk.inj (some_inj hd113)
  have S122 := S120.front 0 rfl
  have S123 := S122.keep 1
  exact ⟨.inr rfl, _, res1 rfl (rv_cell (vs := [.int .i64 a0_0, .slice p114 a0_1.length c115]) rfl Try.isAgg33 Try.sizeOf33 rfl (row_cells (S120.get (k := 1) rfl))), p114, c115, rfl, S123, BS118, a_a0_1⟩

set_option maxHeartbeats 4000000 in
theorem W_spec_AddRound (fu : Nat) (H : AHeap) (a0_0 : Int) (p_a0_1 : Option Addr) (c_a0_1 : Nat) (a0_1 : List (List Int)) (a_a0_1 : All 14 a0_1) (v_a0_1 : Vw H p_a0_1 a0_1.length c_a0_1 (ints a0_1.flatten)) (a1 : List Int) (h_a1 : a1.length = 14) (r0 : Int) (r1 : List (List Int)) (r2 : Int) (hd : D_spec_AddRound fu a0_0 a0_1 a1 = some (r0, r1, r2)) : ∃ v G', ACall Try.prog 48 [.agg [.int .i64 a0_0, .slice p_a0_1 a0_1.length c_a0_1].toArray, .agg (ints a1).toArray] H v G' ∧ ∃ (p_r1 : Option Addr) (c_r1 : Nat), (v = .tuple #[.agg [.int .i64 r0, .slice p_r1 r1.length c_r1].toArray, .int .i64 r2]) ∧ St [] H G' [oseg p_r1 (ints r1.flatten)] ∧ Sb p_r1 r1.length c_r1 14 ∧ All 14 r1 := by
  refine ACall.bodyX (args := [.agg [.int .i64 a0_0, .slice p_a0_1 a0_1.length c_a0_1].toArray, .agg (ints a1).toArray]) (N := 34) [(0, .agg [.int .i64 a0_0, .slice p_a0_1 a0_1.length c_a0_1].toArray), (1, .agg (ints a1).toArray)] (fun v G' => ∃ (p_r1 : Option Addr) (c_r1 : Nat), (v = .tuple #[.agg [.int .i64 r0, .slice p_r1 r1.length c_r1].toArray, .int .i64 r2]) ∧ St [] H G' [oseg p_r1 (ints r1.flatten)] ∧ Sb p_r1 r1.length c_r1 14 ∧ All 14 r1) Try.func48 rfl rfl rfl rfl ?_
  unfold D_spec_AddRound at hd
  have S0 : St [] H H [] := St.nil H
  refine AX.seq ?_
  refine AX.region ?_
  obtain ⟨G100, i101, hii101, hHG100, S102⟩ := S0.new (.row false ([.int .i64 a0_0, .slice p_a0_1 a0_1.length c_a0_1]))
  refine AO.c rfl (s_box (i := i101) (cs := [.int .i64 a0_0, .slice p_a0_1 a0_1.length c_a0_1]) rfl hii101 rfl hHG100) ?_
  obtain ⟨G104, i105, hii105, hHG104, S106⟩ := S102.new (.row false (ints a1))
  refine AO.c rfl (s_box (i := i105) (cs := ints a1) rfl hii105 rfl hHG104) ?_
  obtain ⟨G108, i109, hii109, hHG108, S110⟩ := S106.new (.row false ([.int .i64 0, .slice none 0 0]))
  refine AO.c rfl (s_alloc (i := i109) (cs := [.int .i64 0, .slice none 0 0]) Try.zeroValue33 rfl rfl hii109 hHG108) ?_
  refine AO.p rfl (p_assign rfl) ?_
  refine AO.nil ?_
  refine AX.seq ?_
  refine AX.block ?_
  refine AX.seq ?_
  refine AX.region ?_
  refine AO.c rfl (s_loadN (vs := [.int .i64 a0_0, .slice p_a0_1 a0_1.length c_a0_1]) Try.isAgg33 Try.sizeOf33 rfl rfl (row_cells (S110.get (k := 2) rfl))) ?_
  obtain ⟨b112, h113, hd114⟩ := bnd_some hd
  refine AO.c rfl (o_call (vs := [.agg [.int .i64 a0_0, .slice p_a0_1 a0_1.length c_a0_1].toArray]) rfl Try.call100 (W_spec_l01Is fu G108 a0_0 p_a0_1 c_a0_1 a0_1 a_a0_1 (S110.view v_a0_1) b112 h113)) ?_
  refine AO.p rfl (p_not rfl) ?_
  refine AO.p rfl (p_assign rfl) ?_
  refine AO.nil ?_
  refine AX.cond rfl (fun c116 => ?_) (fun c116 => ?_)
  · have hd117 := bif_t c116 hd114
    refine AX.seq ?_
    refine AX.region ?_
    refine AO.p rfl (p_build2 (vs := []) (cs := [.int .i64 0, .slice none 0 0]) Try.underlying33 rfl rfl rfl Try.sizeOf2 Try.sizeOf31 Try.zeroValue33 rfl rfl rfl rfl rfl) ?_
    obtain ⟨G118, hHG118, S119⟩ := S110.set (k := 0) (i := i109) rfl (.row false ([.int .i64 0, .slice none 0 0]))
    refine AO.s (s_storeAll (vs := [.int .i64 0, .slice none 0 0]) Try.sizeOf33 rfl rfl (ones_list rfl) (S110.get (k := 0) rfl) rfl rfl hHG118) ?_
    refine AO.p rfl (p_assign rfl) ?_
    refine AO.nil ?_
    refine AX.ret ?_
    obtain ⟨rfl, z120⟩ := Prod.mk.inj (some_inj hd117)
    obtain ⟨rfl, rfl⟩ := Prod.mk.inj z120
    have S122 : St [] H G118 (oseg none (ints (List.flatten [])) :: _) := S119.nilseg 0
    have S123 := S122.keep 1
    exact ⟨.inr rfl, _, res2 rfl (rv_cell (vs := [.int .i64 0, .slice none 0 0]) rfl Try.isAgg33 Try.sizeOf33 rfl (row_cells (S119.get (k := 0) rfl))) (rv_tmp rfl), none, 0, rfl, S123, Sb.nil, all_nil⟩
  · have hd124 := bif_f c116 hd114
    refine AX.seq ?_
    refine AX.region ?_
    refine AO.p rfl (s_fieldAddr Try.underlying33 rfl Try.sizeOf2 (by decide) rfl rfl) ?_
    refine AO.c rfl (s_load Try.isAgg2 rfl (row_cell (S110.get (k := 2) rfl) rfl)) ?_
    refine AO.c rfl (s_loadN (vs := ints a1) Try.isAgg26 Try.sizeOf26 rfl (ints_len h_a1) (row_cells (S110.get (k := 1) rfl))) ?_
    obtain ⟨b125, h126, hd127⟩ := bnd_some hd124
    refine AO.c rfl (o_call (vs := [.int .i64 a0_0, .agg (ints a1).toArray]) rfl Try.call60 (W_spec_l01Round fu G108 a0_0 a1 h_a1 b125 h126)) ?_
    refine AO.p rfl (p_not rfl) ?_
    refine AO.p rfl (p_assign rfl) ?_
    refine AO.nil ?_
    refine AX.cond rfl (fun c129 => ?_) (fun c129 => ?_)
    · have hd130 := bif_t c129 hd127
      refine AX.seq ?_
      refine AX.region ?_
      refine AO.p rfl (p_build2 (vs := []) (cs := [.int .i64 0, .slice none 0 0]) Try.underlying33 rfl rfl rfl Try.sizeOf2 Try.sizeOf31 Try.zeroValue33 rfl rfl rfl rfl rfl) ?_
      obtain ⟨G131, hHG131, S132⟩ := S110.set (k := 0) (i := i109) rfl (.row false ([.int .i64 0, .slice none 0 0]))
      refine AO.s (s_storeAll (vs := [.int .i64 0, .slice none 0 0]) Try.sizeOf33 rfl rfl (ones_list rfl) (S110.get (k := 0) rfl) rfl rfl hHG131) ?_
      refine AO.p rfl (p_assign rfl) ?_
      refine AO.nil ?_
      refine AX.ret ?_
      obtain ⟨rfl, z133⟩ := Prod.mk.inj (some_inj hd130)
      obtain ⟨rfl, rfl⟩ := Prod.mk.inj z133
      have S135 : St [] H G131 (oseg none (ints (List.flatten [])) :: _) := S132.nilseg 0
      have S136 := S135.keep 1
      exact ⟨.inr rfl, _, res2 rfl (rv_cell (vs := [.int .i64 0, .slice none 0 0]) rfl Try.isAgg33 Try.sizeOf33 rfl (row_cells (S132.get (k := 0) rfl))) (rv_tmp rfl), none, 0, rfl, S136, Sb.nil, all_nil⟩
    · have hd137 := bif_f c129 hd127
      refine AX.seq ?_
      refine AX.region ?_
      refine AO.p rfl (s_fieldAddr Try.underlying33 rfl Try.sizeOf31 (by decide) rfl rfl) ?_
      refine AO.c rfl (s_load Try.isAgg31 rfl (row_cell (S110.get (k := 2) rfl) rfl)) ?_
      refine AO.p rfl (p_len_slice rfl Try.underlying31) ?_
      refine AO.p rfl (p_eql rfl rfl) ?_
      refine AO.p rfl (p_assign rfl) ?_
      refine AO.nil ?_
      refine AX.cond rfl (fun c138 => ?_) (fun c138 => ?_)
      · have hd139 := bif_t c138 hd137
        refine AX.seq ?_
        refine AX.region ?_
        refine AO.p rfl (p_build2 (vs := []) (cs := [.int .i64 0, .slice none 0 0]) Try.underlying33 rfl rfl rfl Try.sizeOf2 Try.sizeOf31 Try.zeroValue33 rfl rfl rfl rfl rfl) ?_
        obtain ⟨G140, hHG140, S141⟩ := S110.set (k := 0) (i := i109) rfl (.row false ([.int .i64 0, .slice none 0 0]))
        refine AO.s (s_storeAll (vs := [.int .i64 0, .slice none 0 0]) Try.sizeOf33 rfl rfl (ones_list rfl) (S110.get (k := 0) rfl) rfl rfl hHG140) ?_
        refine AO.p rfl (p_assign rfl) ?_
        refine AO.nil ?_
        refine AX.ret ?_
        obtain ⟨rfl, z142⟩ := Prod.mk.inj (some_inj hd139)
        obtain ⟨rfl, rfl⟩ := Prod.mk.inj z142
        have S144 : St [] H G140 (oseg none (ints (List.flatten [])) :: _) := S141.nilseg 0
        have S145 := S144.keep 1
        exact ⟨.inr rfl, _, res2 rfl (rv_cell (vs := [.int .i64 0, .slice none 0 0]) rfl Try.isAgg33 Try.sizeOf33 rfl (row_cells (S141.get (k := 0) rfl))) (rv_tmp rfl), none, 0, rfl, S145, Sb.nil, all_nil⟩
      · have hd146 := bif_f c138 hd137
        refine AX.skip ?_
        refine AX.seq ?_
        refine AX.region ?_
        refine AO.c rfl (s_loadN (vs := [.int .i64 a0_0, .slice p_a0_1 a0_1.length c_a0_1]) Try.isAgg33 Try.sizeOf33 rfl rfl (row_cells (S110.get (k := 2) rfl))) ?_
        obtain ⟨⟨x147, rs148⟩, h149, hd150⟩ := bnd_some hd146
        obtain ⟨_, G157, hc156, p151, c152, rfl, S158, B154, a155⟩ := W_spec_l01Copy fu G108 a0_0 p_a0_1 c_a0_1 a0_1 a_a0_1 (S110.view v_a0_1) x147 rs148 h149
        have S159 := S110.call S158
        refine AO.c rfl (o_call (vs := [.agg [.int .i64 a0_0, .slice p_a0_1 a0_1.length c_a0_1].toArray]) rfl Try.call101 hc156) ?_
        obtain ⟨G160, i161, hii161, hHG160, S162⟩ := S159.new (.row false ([.int .i64 0, .slice none 0 0]))
        refine AO.c rfl (s_alloc (i := i161) (cs := [.int .i64 0, .slice none 0 0]) Try.zeroValue33 rfl rfl hii161 hHG160) ?_
        obtain ⟨G164, hHG164, S165⟩ := S162.set (k := 0) (i := i161) rfl (.row false ([.int .i64 x147, .slice p151 rs148.length c152]))
        refine AO.s (s_storeAll (vs := [.int .i64 x147, .slice p151 rs148.length c152]) Try.sizeOf33 rfl rfl (ones_list rfl) (S162.get (k := 0) rfl) rfl rfl hHG164) ?_
        refine AO.nil ?_
        refine AX.seq ?_
        refine AX.region ?_
        refine AO.p rfl (s_fieldAddr Try.underlying33 rfl Try.sizeOf31 (by decide) rfl rfl) ?_
        refine AO.c rfl (s_load Try.isAgg31 rfl (row_cell (S165.get (k := 0) rfl) rfl)) ?_
        refine AO.c rfl (s_loadN (vs := ints a1) Try.isAgg26 Try.sizeOf26 rfl (ints_len h_a1) (row_cells (S165.get (k := 3) rfl))) ?_
        obtain ⟨G166, i167, hii167, hHG166, S168⟩ := S165.new (.row false (ints [a1].flatten))
        refine AO.c rfl (s_build1 (i := i167) (r := a1) (zr := List.replicate 14 0) Try.underlying31 Try.sizeOf26 Try.zeroValue26 rfl rfl (by decide) (by decide) rfl h_a1 hii167 hHG166) ?_
        obtain ⟨k170, hd171⟩ := chk_some hd150
        obtain ⟨p172, c173, G174, haG174, S175, Bp172⟩ := S168.app (k := 2) rfl B154 (ints [a1].flatten) 1 (flat_len1 (all_one h_a1) rfl)
        have S176 := S175.cellsEq (k := 2) (us' := ints (rs148 ++ [a1]).flatten) (intsf_app _ _) rfl
        have BS176 : Sb p172 ((rs148 ++ [a1]).length) c173 14 := (show rs148.length + 1 = (rs148 ++ [a1]).length from len_app (a := rs148) (b := [a1]) rfl rfl) ▸ Bp172
        have S177 := S176.drop 0 rfl
        refine AO.c rfl (s_app (by_ := 112) (us := ints rs148.flatten) (vs := ints [a1].flatten) Try.underlying31 Try.underlying31 Try.typeInfo26 Try.sizeOf26 Try.zeroValue26 rfl rfl rfl rfl rfl rfl rfl (S168.buf (k := 2) rfl B154 (flat_len1 a155 rfl)) (S168.oview (k := 0) rfl (Sb.lit (n := 1) (by decide)) (flat_len1 (all_one h_a1) rfl)) (flat_len1 (all_one h_a1) rfl) ints_one k170 haG174 (show rs148.length + 1 = (rs148 ++ [a1]).length from len_app (a := rs148) (b := [a1]) rfl rfl)) ?_
        refine AO.p rfl (s_fieldAddr Try.underlying33 rfl Try.sizeOf31 (by decide) rfl rfl) ?_
        obtain ⟨G178, hHG178, S179⟩ := S177.set (k := 0) (i := i161) rfl (.row false ([.int .i64 x147, .slice p172 ((rs148 ++ [a1]).length) c173]))
        refine AO.s (s_store Try.sizeOf31 rfl rfl rfl (S177.get (k := 0) rfl) (Nat.le_of_ble_eq_true rfl) hHG178) ?_
        refine AO.nil ?_
        refine AX.seq ?_
        refine AX.region ?_
        refine AO.c rfl (s_loadN (vs := [.int .i64 x147, .slice p172 ((rs148 ++ [a1]).length) c173]) Try.isAgg33 Try.sizeOf33 rfl rfl (row_cells (S179.get (k := 0) rfl))) ?_
        obtain ⟨G180, hHG180, S181⟩ := S179.set (k := 2) (i := i109) rfl (.row false ([.int .i64 x147, .slice p172 ((rs148 ++ [a1]).length) c173]))
        refine AO.s (s_storeAll (vs := [.int .i64 x147, .slice p172 ((rs148 ++ [a1]).length) c173]) Try.sizeOf33 rfl rfl (ones_list rfl) (S179.get (k := 2) rfl) rfl rfl hHG180) ?_
        refine AO.p rfl (p_assign rfl) ?_
        refine AO.nil ?_
        refine AX.ret ?_
        obtain ⟨rfl, z182⟩ := Prod.mk.inj (some_inj hd171)
        obtain ⟨rfl, rfl⟩ := Prod.mk.inj z182
        have S184 := S181.front 1 rfl
        have S185 := S184.keep 1
        exact ⟨.inr rfl, _, res2 rfl (rv_cell (vs := [.int .i64 x147, .slice p172 ((rs148 ++ [a1]).length) c173]) rfl Try.isAgg33 Try.sizeOf33 rfl (row_cells (S181.get (k := 2) rfl))) (rv_tmp rfl), p172, c173, rfl, S185, BS176, (all_app a155 (all_one h_a1))⟩

set_option maxHeartbeats 4000000 in
theorem W_slices_IndexFunc_Simpl_Round_impl_Round (fu : Nat) (H : AHeap) (p_a0 : Option Addr) (c_a0 : Nat) (a0 : List (List Int)) (a_a0 : All 14 a0) (v_a0 : Vw H p_a0 a0.length c_a0 (ints a0.flatten)) (f_a1 : FuncId) (fs_a1 cs_a1 : Array Value) (a1 : (List Int) → Option Bool) (hc_a1 : ∀ args w, (callFunc f_a1 args).run Try.prog w = .ok (.enter f_a1 args) w) (hq_a1 : ∀ H', ExtG H H' → ∀ (x0_a1 : List Int) (h_x0_a1 : x0_a1.length = 14) (b : Bool), a1 x0_a1 = some b → ACall Try.prog f_a1 (fs_a1.toList ++ [.agg (ints x0_a1).toArray] ++ cs_a1.toList) H' (.bool b) H') (r0 : Int) (hd : D_slices_IndexFunc_Simpl_Round_impl_Round fu a0 a1 = some r0) : ACall Try.prog 135 [.slice p_a0 a0.length c_a0, .func (.func f_a1) fs_a1 cs_a1] H (.int .i64 r0) H := by
  refine ACall.bodyP (N := 19) [(0, .slice p_a0 a0.length c_a0), (1, .func (.func f_a1) fs_a1 cs_a1)] Try.func135 rfl rfl rfl rfl ?_
  unfold D_slices_IndexFunc_Simpl_Round_impl_Round at hd
  have S0 : St [] H H [] := St.nil H
  refine AX.seq ?_
  refine AX.region ?_
  refine AO.p rfl (p_assign rfl) ?_
  refine AO.nil ?_
  refine AX.seq ?_
  refine AX.seq ?_
  refine AX.region ?_
  refine AO.p rfl (p_move rfl) ?_
  refine AO.p rfl (p_len_slice rfl Try.underlying31) ?_
  refine AO.p rfl (p_move rfl) ?_
  refine AO.nil ?_
  obtain ⟨r150, hl151, hd152⟩ := bnd_some hd
  refine AX.cutQ (fun t' H' => .inl () = r150 ∧ St [] H H' [] ∧ Am.Sub [] t') ?_ ?_
  · refine AX.block ?_
    refine AX.loopF (fun s' t' H' => ∃ (x133 : Int), x133 = s' ∧ St [] H H' [] ∧ Am.Sub [(0, .slice p_a0 a0.length c_a0), (1, .func (.func f_a1) fs_a1 cs_a1), (7, .int .i64 ((a0.length : Nat) : Int)), (8, .int .i64 x133)] t') hl151 ?_ ?_
    · skip
      exact ⟨0, rfl, S0, Sub.cons' rfl rfl (Sub.cons' rfl rfl (Sub.cons' rfl rfl (Sub.cons' rfl rfl (Sub.nil _))))⟩
    · rintro n153 _ t' G157 ⟨x133, rfl, S156, hsub158⟩ o159 ho154 hk155
      refine AX.sub hsub158 ?_
      unfold D_slices_IndexFunc_Simpl_Round_impl_Round_s0 at ho154
      refine AX.seq ?_
      refine AX.region ?_
      refine AO.p rfl (p_lss rfl rfl) ?_
      refine AO.nil ?_
      refine AX.seq ?_
      refine AX.cond rfl (fun c160 => ?_) (fun c160 => ?_)
      · have hd161 := bif_t c160 ho154
        refine AX.skip ?_
        refine AX.seq ?_
        refine AX.block ?_
        refine AX.seq ?_
        refine AX.region ?_
        refine AO.p rfl (p_move rfl) ?_
        refine AO.p rfl (p_assign rfl) ?_
        refine AO.nil ?_
        refine AX.seq ?_
        refine AX.region ?_
        refine AO.p rfl (p_move rfl) ?_
        refine AO.p rfl (p_move rfl) ?_
        refine AO.p rfl (p_move rfl) ?_
        obtain ⟨k162, hd163⟩ := chk_some hd161
        refine AO.p rfl (s_indexV (q := off p_a0 + x133.toNat * 14) Try.underlying31 Try.sizeOf26 rfl ((S156.view v_a0).rowne a_a0 (by decide) (lt_len rfl (inR_lt k162))) rfl k162 rfl) ?_
        refine AO.c rfl (s_loadN (vs := ints (rw_ a0 x133.toNat)) Try.isAgg26 Try.sizeOf26 rfl (ints_len (rw_len a_a0 (lt_len rfl (inR_lt k162)))) ((S156.view v_a0).row a_a0 (lt_len rfl (inR_lt k162)))) ?_
        obtain ⟨b164, h165, hd166⟩ := bnd_some hd163
        refine AO.c rfl (o_callV (vs := [.agg (ints (rw_ a0 x133.toNat)).toArray]) rfl rfl hc_a1 (hq_a1 G157 S156.ext (rw_ a0 x133.toNat) (rw_len a_a0 (lt_len rfl (inR_lt k162))) b164 h165)) ?_
        refine AO.nil ?_
        refine AX.cond rfl (fun c167 => ?_) (fun c167 => ?_)
        · have hd168 := bif_t c167 hd166
          refine AX.seq ?_
          refine AX.region ?_
          refine AO.p rfl (p_move rfl) ?_
          refine AO.p rfl (p_assign rfl) ?_
          refine AO.nil ?_
          refine AX.ret ?_
          obtain rfl := some_inj hd168
          have z169 : _ = r150 := hk155
          subst z169
          obtain rfl := some_inj hd152
          exact ⟨.inr rfl, _, res1 rfl (rv_tmp rfl), rfl, (flatB_ok rfl), S156.hold⟩
        · have hd170 := bif_f c167 hd166
          refine AX.skip ?_
          refine AX.region ?_
          obtain ⟨k171, hd172⟩ := chk_some hd170
          refine AO.p rfl (p_addE rfl rfl k171) ?_
          refine AO.p rfl (p_move rfl) ?_
          refine AO.nil ?_
          obtain rfl := some_inj hd172
          exact ⟨x133 + 1, hk155, (x133 + 1), rfl, S156, Sub.cons' rfl rfl (Sub.cons' rfl rfl (Sub.cons' rfl rfl (Sub.cons' rfl rfl (Sub.nil _))))⟩
      · have hd174 := bif_f c160 ho154
        refine AX.exit ?_
        obtain rfl := some_inj hd174
        exact ⟨hk155, S156, Sub.nil _⟩
  · rintro t' G176 ⟨rfl, S175, hsub177⟩
    refine AX.sub hsub177 ?_
    refine AX.seq ?_
    refine AX.region ?_
    refine AO.p rfl (p_assign rfl) ?_
    refine AO.nil ?_
    refine AX.ret ?_
    obtain rfl := some_inj hd152
    exact ⟨.inr rfl, _, res1 rfl (rv_tmp rfl), rfl, (flatB_ok rfl), S175.hold⟩

set_option maxHeartbeats 4000000 in
theorem W_slices_ContainsFunc_Simpl_Round_impl_Round (fu : Nat) (H : AHeap) (p_a0 : Option Addr) (c_a0 : Nat) (a0 : List (List Int)) (a_a0 : All 14 a0) (v_a0 : Vw H p_a0 a0.length c_a0 (ints a0.flatten)) (f_a1 : FuncId) (fs_a1 cs_a1 : Array Value) (a1 : (List Int) → Option Bool) (hc_a1 : ∀ args w, (callFunc f_a1 args).run Try.prog w = .ok (.enter f_a1 args) w) (hq_a1 : ∀ H', ExtG H H' → ∀ (x0_a1 : List Int) (h_x0_a1 : x0_a1.length = 14) (b : Bool), a1 x0_a1 = some b → ACall Try.prog f_a1 (fs_a1.toList ++ [.agg (ints x0_a1).toArray] ++ cs_a1.toList) H' (.bool b) H') (r0 : Bool) (hd : D_slices_ContainsFunc_Simpl_Round_impl_Round fu a0 a1 = some r0) : ACall Try.prog 133 [.slice p_a0 a0.length c_a0, .func (.func f_a1) fs_a1 cs_a1] H (.bool r0) H := by
  refine ACall.bodyP (N := 9) [(0, .slice p_a0 a0.length c_a0), (1, .func (.func f_a1) fs_a1 cs_a1)] Try.func133 rfl rfl rfl rfl ?_
  unfold D_slices_ContainsFunc_Simpl_Round_impl_Round at hd
  have S0 : St [] H H [] := St.nil H
  refine AX.seq ?_
  refine AX.region ?_
  refine AO.p rfl (p_assign rfl) ?_
  refine AO.nil ?_
  refine AX.seq ?_
  refine AX.region ?_
  refine AO.p rfl (p_move rfl) ?_
  refine AO.p rfl (p_move rfl) ?_
  obtain ⟨x100, h101, hd102⟩ := bnd_some hd
  refine AO.c rfl (o_call (vs := [.slice p_a0 a0.length c_a0, .func (.func f_a1) fs_a1 cs_a1]) rfl Try.call135 (W_slices_IndexFunc_Simpl_Round_impl_Round fu H p_a0 c_a0 a0 a_a0 (S0.view v_a0) f_a1 fs_a1 cs_a1 a1 hc_a1 (fun G' hG => hq_a1 G' (S0.ext.trans hG)) x100 h101)) ?_
  refine AO.p rfl (p_geq rfl rfl) ?_
  refine AO.p rfl (p_assign rfl) ?_
  refine AO.nil ?_
  refine AX.ret ?_
  obtain rfl := some_inj hd102
  exact ⟨.inr rfl, _, res1 rfl (rv_tmp rfl), rfl, (flatB_ok rfl), S0.hold⟩

set_option maxHeartbeats 4000000 in
theorem W_impl_IsSchedule_1 (fu : Nat) (H : AHeap) (a0 : List Int) (h_a0 : a0.length = 14) (i_b0 : Nat) (ro_b0 : Bool) (b0_0 : Int) (p_b0_1 : Option Addr) (c_b0_1 : Nat) (b0_1 : List (List Int)) (a_b0_1 : All 14 b0_1) (v_b0_1 : Vw H p_b0_1 b0_1.length c_b0_1 (ints b0_1.flatten)) (o_b0 : hget H i_b0 = .row ro_b0 ([.int .i64 b0_0, .slice p_b0_1 b0_1.length c_b0_1])) (r0 : Bool) (hd : D_impl_IsSchedule_1 fu a0 b0_0 b0_1 = some r0) : ACall Try.prog 134 [.agg (ints a0).toArray, .pointer (some ⟨i_b0, 0, none⟩)] H (.bool r0) H := by
  refine ACall.bodyP (N := 9) [(0, .agg (ints a0).toArray), (1, .pointer (some ⟨i_b0, 0, none⟩))] Try.func134 rfl rfl rfl rfl ?_
  unfold D_impl_IsSchedule_1 at hd
  have S0 : St [] H H [] := St.nil H
  refine AX.seq ?_
  refine AX.region ?_
  obtain ⟨G100, i101, hii101, hHG100, S102⟩ := S0.new (.row false (ints a0))
  refine AO.c rfl (s_box (i := i101) (cs := ints a0) rfl hii101 rfl hHG100) ?_
  refine AO.p rfl (p_assign rfl) ?_
  refine AO.nil ?_
  refine AX.seq ?_
  refine AX.region ?_
  refine AO.p rfl (s_fieldAddr Try.underlying33 rfl Try.sizeOf2 (by decide) rfl rfl) ?_
  refine AO.c rfl (s_load Try.isAgg2 rfl (row_cell (S102.old o_b0 (by simp)) rfl)) ?_
  refine AO.c rfl (s_loadN (vs := ints a0) Try.isAgg26 Try.sizeOf26 rfl (ints_len h_a0) (row_cells (S102.get (k := 0) rfl))) ?_
  obtain ⟨b104, h105, hd106⟩ := bnd_some hd
  refine AO.c rfl (o_call (vs := [.int .i64 b0_0, .agg (ints a0).toArray]) rfl Try.call62 (W_impl_IsRound fu G100 b0_0 a0 h_a0 b104 h105)) ?_
  refine AO.p rfl (p_not rfl) ?_
  refine AO.p rfl (p_assign rfl) ?_
  refine AO.nil ?_
  refine AX.ret ?_
  obtain rfl := some_inj hd106
  exact ⟨.inr rfl, _, res1 rfl (rv_tmp rfl), rfl, (flatB_ok rfl), S102.hold⟩

set_option maxHeartbeats 4000000 in
theorem W_impl_IsSchedule (fu : Nat) (H : AHeap) (a0_0 : Int) (p_a0_1 : Option Addr) (c_a0_1 : Nat) (a0_1 : List (List Int)) (a_a0_1 : All 14 a0_1) (v_a0_1 : Vw H p_a0_1 a0_1.length c_a0_1 (ints a0_1.flatten)) (r0 : Bool) (hd : D_impl_IsSchedule fu a0_0 a0_1 = some r0) : ACall Try.prog 129 [.agg [.int .i64 a0_0, .slice p_a0_1 a0_1.length c_a0_1].toArray] H (.bool r0) H := by
  refine ACall.bodyP (N := 19) [(0, .agg [.int .i64 a0_0, .slice p_a0_1 a0_1.length c_a0_1].toArray)] Try.func129 rfl rfl rfl rfl ?_
  unfold D_impl_IsSchedule at hd
  have S0 : St [] H H [] := St.nil H
  refine AX.seq ?_
  refine AX.region ?_
  obtain ⟨G100, i101, hii101, hHG100, S102⟩ := S0.new (.row false ([.int .i64 a0_0, .slice p_a0_1 a0_1.length c_a0_1]))
  refine AO.c rfl (s_box (i := i101) (cs := [.int .i64 a0_0, .slice p_a0_1 a0_1.length c_a0_1]) rfl hii101 rfl hHG100) ?_
  refine AO.p rfl (p_assign rfl) ?_
  refine AO.nil ?_
  obtain ⟨r119, hb120, hd121⟩ := bnd_some hd
  refine AX.cut (fun t' H' => ∃ (b118 : Bool), b118 = r119 ∧ St [] H H' [] ∧ Am.Sub [(2, .bool b118)] t') ?_ ?_
  · skip
    refine AX.region ?_
    refine AO.p rfl (s_fieldAddr Try.underlying33 rfl Try.sizeOf2 (by decide) rfl rfl) ?_
    refine AO.c rfl (s_load Try.isAgg2 rfl (row_cell (S102.get (k := 0) rfl) rfl)) ?_
    obtain ⟨b122, h123, hd124⟩ := bnd_some hb120
    refine AO.c rfl (o_call (vs := [.int .i64 a0_0, .int .i64 2, .int .i64 14]) rfl Try.call66 (W_impl_between fu G100 a0_0 2 14 b122 h123)) ?_
    refine AO.p rfl (p_move rfl) ?_
    refine AO.cases (d := 6) rfl (fun c126 => ?_) (fun c126 => ?_)
    · have hd127 := bif_t c126 hd124
      refine AO.gp rfl rfl rfl (s_fieldAddr Try.underlying33 rfl Try.sizeOf31 (by decide) rfl rfl) ?_
      refine AO.gc rfl rfl rfl (s_load Try.isAgg31 rfl (row_cell (S102.get (k := 0) rfl) rfl)) ?_
      refine AO.gp rfl rfl rfl (p_len_slice rfl Try.underlying31) ?_
      refine AO.gp rfl rfl rfl (p_leq rfl rfl) ?_
      refine AO.p rfl (p_pickT rfl rfl) ?_
      refine AO.p rfl (p_move rfl) ?_
      refine AO.cases (d := 12) rfl (fun c128 => ?_) (fun c128 => ?_)
      · have hd129 := bif_t c128 hd127
        refine AO.gp rfl rfl rfl (s_fieldAddr Try.underlying33 rfl Try.sizeOf31 (by decide) rfl rfl) ?_
        refine AO.gc rfl rfl rfl (s_load Try.isAgg31 rfl (row_cell (S102.get (k := 0) rfl) rfl)) ?_
        refine AO.gp rfl rfl rfl (p_makeFunc (fs := []) (cs := [.pointer (some ⟨i101, 0, none⟩)]) rfl rfl) ?_
        obtain ⟨b130, h131, hd132⟩ := bnd_some hd129
        refine AO.gc rfl rfl rfl (o_call (vs := [.slice p_a0_1 a0_1.length c_a0_1, .func (.func 134) #[] #[.pointer (some ⟨i101, 0, none⟩)]]) rfl Try.call133 (W_slices_ContainsFunc_Simpl_Round_impl_Round fu G100 p_a0_1 c_a0_1 a0_1 a_a0_1 (S102.view v_a0_1) 134 #[] #[.pointer (some ⟨i101, 0, none⟩)] (fun x0' => D_impl_IsSchedule_1 fu x0' a0_0 a0_1) Try.call134 (fun G' hG x0' hx0' b' hb' => W_impl_IsSchedule_1 fu G' x0' hx0' i101 false a0_0 p_a0_1 c_a0_1 a0_1 a_a0_1 (hG.view (S102.view v_a0_1)) (hG.get (S102.get (k := 0) rfl)) b' hb') b130 h131)) ?_
        refine AO.gp rfl rfl rfl (p_not rfl) ?_
        refine AO.p rfl (p_pickT rfl rfl) ?_
        refine AO.p rfl (p_assign rfl) ?_
        refine AO.nil ?_
        have S134 := S102.keep 0
        exact ⟨(!b130), (some_inj hd132), S134, Sub.cons' rfl rfl (Sub.nil _)⟩
      · have hd135 := bif_f c128 hd127
        refine AO.gn rfl rfl rfl ?_
        refine AO.gn rfl rfl rfl ?_
        refine AO.gn rfl rfl rfl ?_
        refine AO.gn rfl rfl rfl ?_
        refine AO.gn rfl rfl rfl ?_
        refine AO.p rfl (p_pickF rfl rfl) ?_
        refine AO.p rfl (p_assign rfl) ?_
        refine AO.nil ?_
        have S136 := S102.keep 0
        exact ⟨false, (some_inj hd135), S136, Sub.cons' rfl rfl (Sub.nil _)⟩
    · have hd137 := bif_f c126 hd124
      refine AO.gn rfl rfl rfl ?_
      refine AO.gn rfl rfl rfl ?_
      refine AO.gn rfl rfl rfl ?_
      refine AO.gn rfl rfl rfl ?_
      refine AO.p rfl (p_pickF rfl rfl) ?_
      refine AO.p rfl (p_move rfl) ?_
      refine AO.gn rfl rfl rfl ?_
      refine AO.gn rfl rfl rfl ?_
      refine AO.gn rfl rfl rfl ?_
      refine AO.gn rfl rfl rfl ?_
      refine AO.gn rfl rfl rfl ?_
      refine AO.p rfl (p_pickF rfl rfl) ?_
      refine AO.p rfl (p_assign rfl) ?_
      refine AO.nil ?_
      have S138 := S102.keep 0
      exact ⟨false, (some_inj hd137), S138, Sub.cons' rfl rfl (Sub.nil _)⟩
  · rintro t' G140 ⟨b118, rfl, S139, hsub141⟩
    refine AX.sub hsub141 ?_
    refine AX.ret ?_
    obtain rfl := some_inj hd121
    exact ⟨.inr rfl, _, res1 rfl (rv_tmp rfl), rfl, (flatB_ok rfl), S139.hold⟩

set_option maxHeartbeats 4000000 in
theorem W_impl_scheduleCode (fu : Nat) (H : AHeap) (a0_0 : Int) (p_a0_1 : Option Addr) (c_a0_1 : Nat) (a0_1 : List (List Int)) (a_a0_1 : All 14 a0_1) (v_a0_1 : Vw H p_a0_1 a0_1.length c_a0_1 (ints a0_1.flatten)) (f_a1 : FuncId) (fs_a1 cs_a1 : Array Value) (a1 : Unit → Option Bool) (hc_a1 : ∀ args w, (callFunc f_a1 args).run Try.prog w = .ok (.enter f_a1 args) w) (hq_a1 : ∀ H', ExtG H H' → ∀ (b : Bool), a1 () = some b → ACall Try.prog f_a1 (fs_a1.toList ++ [] ++ cs_a1.toList) H' (.bool b) H') (r0 : Int) (hd : D_impl_scheduleCode fu a0_0 a0_1 a1 = some r0) : ACall Try.prog 103 [.agg [.int .i64 a0_0, .slice p_a0_1 a0_1.length c_a0_1].toArray, .func (.func f_a1) fs_a1 cs_a1] H (.int .i64 r0) H := by
  refine ACall.bodyP (N := 13) [(0, .agg [.int .i64 a0_0, .slice p_a0_1 a0_1.length c_a0_1].toArray), (1, .func (.func f_a1) fs_a1 cs_a1)] Try.func103 rfl rfl rfl rfl ?_
  unfold D_impl_scheduleCode at hd
  have S0 : St [] H H [] := St.nil H
  refine AX.seq ?_
  refine AX.region ?_
  obtain ⟨G100, i101, hii101, hHG100, S102⟩ := S0.new (.row false ([.int .i64 a0_0, .slice p_a0_1 a0_1.length c_a0_1]))
  refine AO.c rfl (s_box (i := i101) (cs := [.int .i64 a0_0, .slice p_a0_1 a0_1.length c_a0_1]) rfl hii101 rfl hHG100) ?_
  refine AO.p rfl (p_assign rfl) ?_
  refine AO.nil ?_
  refine AX.seq ?_
  refine AX.block ?_
  refine AX.seq ?_
  refine AX.region ?_
  refine AO.c rfl (s_loadN (vs := [.int .i64 a0_0, .slice p_a0_1 a0_1.length c_a0_1]) Try.isAgg33 Try.sizeOf33 rfl rfl (row_cells (S102.get (k := 0) rfl))) ?_
  obtain ⟨b104, h105, hd106⟩ := bnd_some hd
  refine AO.c rfl (o_call (vs := [.agg [.int .i64 a0_0, .slice p_a0_1 a0_1.length c_a0_1].toArray]) rfl Try.call129 (W_impl_IsSchedule fu G100 a0_0 p_a0_1 c_a0_1 a0_1 a_a0_1 (S102.view v_a0_1) b104 h105)) ?_
  refine AO.p rfl (p_not rfl) ?_
  refine AO.p rfl (p_assign rfl) ?_
  refine AO.nil ?_
  refine AX.cond rfl (fun c108 => ?_) (fun c108 => ?_)
  · have hd109 := bif_t c108 hd106
    refine AX.seq ?_
    refine AX.region ?_
    refine AO.p rfl (p_assign rfl) ?_
    refine AO.nil ?_
    refine AX.ret ?_
    obtain rfl := some_inj hd109
    exact ⟨.inr rfl, _, res1 rfl (rv_tmp rfl), rfl, (flatB_ok rfl), S102.hold⟩
  · have hd110 := bif_f c108 hd106
    refine AX.seq ?_
    refine AX.region ?_
    refine AO.p rfl (p_move rfl) ?_
    obtain ⟨b111, h112, hd113⟩ := bnd_some hd110
    refine AO.c rfl (o_callV (vs := []) rfl rfl hc_a1 (hq_a1 G100 S102.ext  b111 h112)) ?_
    refine AO.p rfl (p_not rfl) ?_
    refine AO.p rfl (p_assign rfl) ?_
    refine AO.nil ?_
    refine AX.cond rfl (fun c114 => ?_) (fun c114 => ?_)
    · have hd115 := bif_t c114 hd113
      refine AX.seq ?_
      refine AX.region ?_
      refine AO.p rfl (p_assign rfl) ?_
      refine AO.nil ?_
      refine AX.ret ?_
      obtain rfl := some_inj hd115
      exact ⟨.inr rfl, _, res1 rfl (rv_tmp rfl), rfl, (flatB_ok rfl), S102.hold⟩
    · have hd116 := bif_f c114 hd113
      refine AX.skip ?_
      refine AX.seq ?_
      refine AX.region ?_
      refine AO.p rfl (p_assign rfl) ?_
      refine AO.nil ?_
      refine AX.ret ?_
      obtain rfl := some_inj hd116
      exact ⟨.inr rfl, _, res1 rfl (rv_tmp rfl), rfl, (flatB_ok rfl), S102.hold⟩

set_option maxHeartbeats 4000000 in
theorem W_impl_AddRound_1 (fu : Nat) (H : AHeap) (i_b0 : Nat) (ro_b0 : Bool) (b0_0 : Int) (p_b0_1 : Option Addr) (c_b0_1 : Nat) (b0_1 : List (List Int)) (a_b0_1 : All 14 b0_1) (v_b0_1 : Vw H p_b0_1 b0_1.length c_b0_1 (ints b0_1.flatten)) (o_b0 : hget H i_b0 = .row ro_b0 ([.int .i64 b0_0, .slice p_b0_1 b0_1.length c_b0_1])) (i_b1 : Nat) (ro_b1 : Bool) (b1_0 : List Int) (h_b1_0 : b1_0.length = 14) (o_b1 : hget H i_b1 = .row ro_b1 (ints b1_0)) (r0 : Bool) (hd : D_impl_AddRound_1 fu b0_0 b0_1 b1_0 = some r0) : ACall Try.prog 104 [.pointer (some ⟨i_b0, 0, none⟩), .pointer (some ⟨i_b1, 0, none⟩)] H (.bool r0) H := by
  refine ACall.bodyP (N := 7) [(0, .pointer (some ⟨i_b0, 0, none⟩)), (1, .pointer (some ⟨i_b1, 0, none⟩))] Try.func104 rfl rfl rfl rfl ?_
  unfold D_impl_AddRound_1 at hd
  have S0 : St [] H H [] := St.nil H
  refine AX.seq ?_
  refine AX.region ?_
  refine AO.p rfl (p_assign rfl) ?_
  refine AO.nil ?_
  refine AX.seq ?_
  refine AX.region ?_
  refine AO.p rfl (s_fieldAddr Try.underlying33 rfl Try.sizeOf2 (by decide) rfl rfl) ?_
  refine AO.c rfl (s_load Try.isAgg2 rfl (row_cell (S0.old o_b0 (by simp)) rfl)) ?_
  refine AO.c rfl (s_loadN (vs := ints b1_0) Try.isAgg26 Try.sizeOf26 rfl (ints_len h_b1_0) (row_cells (S0.old o_b1 (by simp)))) ?_
  obtain ⟨b100, h101, hd102⟩ := bnd_some hd
  refine AO.c rfl (o_call (vs := [.int .i64 b0_0, .agg (ints b1_0).toArray]) rfl Try.call62 (W_impl_IsRound fu H b0_0 b1_0 h_b1_0 b100 h101)) ?_
  refine AO.p rfl (p_assign rfl) ?_
  refine AO.nil ?_
  refine AX.ret ?_
  obtain rfl := some_inj hd102
  exact ⟨.inr rfl, _, res1 rfl (rv_tmp rfl), rfl, (flatB_ok rfl), S0.hold⟩

set_option maxHeartbeats 4000000 in
theorem W_slices_Clone_Simpl_Round_impl_Round (fu : Nat) (H : AHeap) (p_a0 : Option Addr) (c_a0 : Nat) (a0 : List (List Int)) (a_a0 : All 14 a0) (v_a0 : Vw H p_a0 a0.length c_a0 (ints a0.flatten)) (e_a0 : c_a0 ≠ capE) (r0 : List (List Int)) (hd : D_slices_Clone_Simpl_Round_impl_Round fu a0 = some r0) : ∃ v G', ACall Try.prog 106 [.slice p_a0 a0.length c_a0] H v G' ∧ ∃ (p_r0 : Option Addr) (c_r0 : Nat), (v = .slice p_r0 r0.length c_r0) ∧ St [] H G' [oseg p_r0 (ints r0.flatten)] ∧ Sb p_r0 r0.length c_r0 14 ∧ All 14 r0 := by
  refine ACall.bodyX (args := [.slice p_a0 a0.length c_a0]) (N := 8) [(0, .slice p_a0 a0.length c_a0)] (fun v G' => ∃ (p_r0 : Option Addr) (c_r0 : Nat), (v = .slice p_r0 r0.length c_r0) ∧ St [] H G' [oseg p_r0 (ints r0.flatten)] ∧ Sb p_r0 r0.length c_r0 14 ∧ All 14 r0) Try.func106 rfl rfl rfl rfl ?_
  unfold D_slices_Clone_Simpl_Round_impl_Round at hd
  have S0 : St [] H H [] := St.nil H
  refine AX.seq ?_
  refine AX.region ?_
  refine AO.p rfl (p_assign rfl) ?_
  refine AO.nil ?_
  refine AX.seq ?_
  refine AX.seq ?_
  refine AX.region ?_
  refine AO.p rfl (p_move rfl) ?_
  refine AO.p rfl (p_eqlNil Try.underlying31 rfl e_a0) ?_
  refine AO.nil ?_
  refine AX.cond rfl (fun c100 => ?_) (fun c100 => ?_)
  · obtain rfl : a0 = [] := List.eq_nil_of_length_eq_zero (vw_nil v_a0 c100).1
    obtain ⟨_, hd101⟩ := chk_some hd
    refine AX.seq ?_
    refine AX.region ?_
    refine AO.p rfl (p_assign rfl) ?_
    refine AO.nil ?_
    refine AX.ret ?_
    obtain rfl := some_inj hd101
    have S102 : St [] H H (oseg none (ints (List.flatten [])) :: _) := S0.nilseg 0
    exact ⟨.inr rfl, _, res1 rfl (rv_tmp rfl), none, 0, rfl, S102, Sb.nil, all_nil⟩
  · skip
    refine AX.skip ?_
    refine AX.seq ?_
    refine AX.region ?_
    obtain ⟨G103, i104, hii104, hHG103, S105⟩ := S0.new (.row false (ints [].flatten))
    refine AO.c rfl (s_build0 (i := i104) Try.underlying31 Try.sizeOf26 hii104 hHG103) ?_
    refine AO.p rfl (p_move rfl) ?_
    obtain ⟨k107, hd108⟩ := chk_some hd
    obtain ⟨p109, c110, G111, haG111, S112, Bp109⟩ := S105.app (k := 0) rfl (Sb.lit (n := 0) (by decide)) (ints a0.flatten) a0.length (flat_len1 a_a0 rfl)
    have S113 := S112.cellsEq (k := 0) (us' := ints a0.flatten) (List.nil_append _) rfl
    have BS113 : Sb p109 (a0.length) c110 14 := (show 0 + a0.length = a0.length from len_nilapp (b := a0) rfl) ▸ Bp109
    refine AO.c rfl (s_app (by_ := 112) (us := ints [].flatten) (vs := ints a0.flatten) Try.underlying31 Try.underlying31 Try.typeInfo26 Try.sizeOf26 Try.zeroValue26 rfl rfl rfl rfl rfl rfl rfl (S105.buf (k := 0) rfl (Sb.lit (n := 0) (by decide)) (flat_len1 all_nil rfl)) (S105.view v_a0) (flat_len1 a_a0 rfl) ints_one k107 haG111 (show 0 + a0.length = a0.length from len_nilapp (b := a0) rfl)) ?_
    refine AO.p rfl (p_assign rfl) ?_
    refine AO.nil ?_
    refine AX.ret ?_
    obtain rfl := some_inj hd108
    have S114 := S113.front 0 rfl
    exact ⟨.inr rfl, _, res1 rfl (rv_tmp rfl), p109, c110, rfl, S114, BS113, a_a0⟩

set_option maxHeartbeats 4000000 in
theorem W_impl_Schedule_with (fu : Nat) (H : AHeap) (a0_0 : Int) (p_a0_1 : Option Addr) (c_a0_1 : Nat) (a0_1 : List (List Int)) (a_a0_1 : All 14 a0_1) (v_a0_1 : Vw H p_a0_1 a0_1.length c_a0_1 (ints a0_1.flatten)) (p_a1 : Option Addr) (c_a1 : Nat) (a1 : List (List Int)) (a_a1 : All 14 a1) (v_a1 : Vw H p_a1 a1.length c_a1 (ints a1.flatten)) (e_a1 : c_a1 ≠ capE) (r0 : Int) (r1 : List (List Int)) (hd : D_impl_Schedule_with fu a0_0 a0_1 a1 = some (r0, r1)) : ∃ v G', ACall Try.prog 105 [.agg [.int .i64 a0_0, .slice p_a0_1 a0_1.length c_a0_1].toArray, .slice p_a1 a1.length c_a1] H v G' ∧ ∃ (p_r1 : Option Addr) (c_r1 : Nat), (v = .agg [.int .i64 r0, .slice p_r1 r1.length c_r1].toArray) ∧ St [] H G' [oseg p_r1 (ints r1.flatten)] ∧ Sb p_r1 r1.length c_r1 14 ∧ All 14 r1 := by
  refine ACall.bodyX (args := [.agg [.int .i64 a0_0, .slice p_a0_1 a0_1.length c_a0_1].toArray, .slice p_a1 a1.length c_a1]) (N := 10) [(0, .agg [.int .i64 a0_0, .slice p_a0_1 a0_1.length c_a0_1].toArray), (1, .slice p_a1 a1.length c_a1)] (fun v G' => ∃ (p_r1 : Option Addr) (c_r1 : Nat), (v = .agg [.int .i64 r0, .slice p_r1 r1.length c_r1].toArray) ∧ St [] H G' [oseg p_r1 (ints r1.flatten)] ∧ Sb p_r1 r1.length c_r1 14 ∧ All 14 r1) Try.func105 rfl rfl rfl rfl ?_
  unfold D_impl_Schedule_with at hd
  have S0 : St [] H H [] := St.nil H
  refine AX.seq ?_
  refine AX.region ?_
  obtain ⟨G100, i101, hii101, hHG100, S102⟩ := S0.new (.row false ([.int .i64 a0_0, .slice p_a0_1 a0_1.length c_a0_1]))
  refine AO.c rfl (s_box (i := i101) (cs := [.int .i64 a0_0, .slice p_a0_1 a0_1.length c_a0_1]) rfl hii101 rfl hHG100) ?_
  obtain ⟨G104, i105, hii105, hHG104, S106⟩ := S102.new (.row false ([.int .i64 0, .slice none 0 0]))
  refine AO.c rfl (s_alloc (i := i105) (cs := [.int .i64 0, .slice none 0 0]) Try.zeroValue33 rfl rfl hii105 hHG104) ?_
  refine AO.nil ?_
  refine AX.seq ?_
  refine DR.startS [false, false, false, true, false, true] mix (by kernel_rfl) (fun hst => ?_)
  refine DR.p rfl rfl (s_fieldAddr Try.underlying33 rfl Try.sizeOf2 (by decide) rfl rfl) ?_
  refine DR.r rfl rfl (r_load rfl Try.isAgg2) (one_read (row_cell (S106.get (k := 1) rfl) rfl) (.of_flat0 rfl)) ?_
  refine DR.p rfl rfl (p_move rfl) ?_
  obtain ⟨rs108, h109, hd110⟩ := bnd_some hd
  obtain ⟨_, G117, hc116, p111, c112, rfl, S118, B114, a115⟩ := W_slices_Clone_Simpl_Round_impl_Round fu G104 p_a1 c_a1 a1 a_a1 (S106.view v_a1) e_a1 rs108 h109
  have S119 := S106.call S118
  refine DR.w rfl rfl (o_call (vs := [.slice p_a1 a1.length c_a1]) rfl Try.call106 hc116) (S118.len) ?_
  refine DR.p rfl rfl (p_build2 (vs := [(0, .int .i64 a0_0), (1, .slice p111 rs108.length c112)]) (cs := [.int .i64 a0_0, .slice p111 rs108.length c112]) Try.underlying33 rfl rfl rfl Try.sizeOf2 Try.sizeOf31 Try.zeroValue33 rfl rfl rfl rfl rfl) ?_
  obtain ⟨G120, hHG120, S121⟩ := S119.set (k := 1) (i := i105) rfl (.row false ([.int .i64 a0_0, .slice p111 rs108.length c112]))
  refine DR.s rfl (s_storeAll (vs := [.int .i64 a0_0, .slice p111 rs108.length c112]) Try.sizeOf33 rfl rfl (ones_list rfl) (S119.get (k := 1) rfl) rfl rfl hHG120) (set_le hHG120) ?_
  refine DR.nil 6 [(1, 3)] hst (by kernel_rfl) ⟨(rd1 (fun h => S118.hold _ h)), trivial⟩ ?_
  refine AX.ret ?_
  obtain ⟨rfl, rfl⟩ := Prod.mk.inj (some_inj hd110)
  have S123 := S121.front 0 rfl
  have S124 := S123.keep 1
  exact ⟨.inr rfl, _, res1 rfl (rv_cell (vs := [.int .i64 a0_0, .slice p111 rs108.length c112]) rfl Try.isAgg33 Try.sizeOf33 rfl (row_cells (S121.get (k := 1) rfl))), p111, c112, rfl, S124, B114, a115⟩

set_option maxHeartbeats 4000000 in
theorem W_impl_AddRound (fu : Nat) (H : AHeap) (a0_0 : Int) (p_a0_1 : Option Addr) (c_a0_1 : Nat) (a0_1 : List (List Int)) (a_a0_1 : All 14 a0_1) (v_a0_1 : Vw H p_a0_1 a0_1.length c_a0_1 (ints a0_1.flatten)) (e_a0_1 : c_a0_1 ≠ capE) (a1 : List Int) (h_a1 : a1.length = 14) (r0 : Int) (r1 : List (List Int)) (r2 : Int) (hd : D_impl_AddRound fu a0_0 a0_1 a1 = some (r0, r1, r2)) : ∃ v G', ACall Try.prog 50 [.agg [.int .i64 a0_0, .slice p_a0_1 a0_1.length c_a0_1].toArray, .agg (ints a1).toArray] H v G' ∧ ∃ (p_r1 : Option Addr) (c_r1 : Nat), (v = .tuple #[.agg [.int .i64 r0, .slice p_r1 r1.length c_r1].toArray, .int .i64 r2]) ∧ St [] H G' [oseg p_r1 (ints r1.flatten)] ∧ Sb p_r1 r1.length c_r1 14 ∧ All 14 r1 := by
  refine ACall.bodyX (args := [.agg [.int .i64 a0_0, .slice p_a0_1 a0_1.length c_a0_1].toArray, .agg (ints a1).toArray]) (N := 30) [(0, .agg [.int .i64 a0_0, .slice p_a0_1 a0_1.length c_a0_1].toArray), (1, .agg (ints a1).toArray)] (fun v G' => ∃ (p_r1 : Option Addr) (c_r1 : Nat), (v = .tuple #[.agg [.int .i64 r0, .slice p_r1 r1.length c_r1].toArray, .int .i64 r2]) ∧ St [] H G' [oseg p_r1 (ints r1.flatten)] ∧ Sb p_r1 r1.length c_r1 14 ∧ All 14 r1) Try.func50 rfl rfl rfl rfl ?_
  unfold D_impl_AddRound at hd
  have S0 : St [] H H [] := St.nil H
  refine AX.seq ?_
  refine AX.region ?_
  obtain ⟨G100, i101, hii101, hHG100, S102⟩ := S0.new (.row false ([.int .i64 a0_0, .slice p_a0_1 a0_1.length c_a0_1]))
  refine AO.c rfl (s_box (i := i101) (cs := [.int .i64 a0_0, .slice p_a0_1 a0_1.length c_a0_1]) rfl hii101 rfl hHG100) ?_
  obtain ⟨G104, i105, hii105, hHG104, S106⟩ := S102.new (.row false (ints a1))
  refine AO.c rfl (s_box (i := i105) (cs := ints a1) rfl hii105 rfl hHG104) ?_
  obtain ⟨G108, i109, hii109, hHG108, S110⟩ := S106.new (.row false ([.int .i64 0, .slice none 0 0]))
  refine AO.c rfl (s_alloc (i := i109) (cs := [.int .i64 0, .slice none 0 0]) Try.zeroValue33 rfl rfl hii109 hHG108) ?_
  refine AO.p rfl (p_assign rfl) ?_
  refine AO.nil ?_
  refine AX.seq ?_
  refine AX.region ?_
  refine AO.c rfl (s_loadN (vs := [.int .i64 a0_0, .slice p_a0_1 a0_1.length c_a0_1]) Try.isAgg33 Try.sizeOf33 rfl rfl (row_cells (S110.get (k := 2) rfl))) ?_
  refine AO.p rfl (p_makeFunc (fs := []) (cs := [.pointer (some ⟨i101, 0, none⟩), .pointer (some ⟨i105, 0, none⟩)]) rfl rfl) ?_
  obtain ⟨x112, h113, hd114⟩ := bnd_some hd
  refine AO.c rfl (o_call (vs := [.agg [.int .i64 a0_0, .slice p_a0_1 a0_1.length c_a0_1].toArray, .func (.func 104) #[] #[.pointer (some ⟨i101, 0, none⟩), .pointer (some ⟨i105, 0, none⟩)]]) rfl Try.call103 (W_impl_scheduleCode fu G108 a0_0 p_a0_1 c_a0_1 a0_1 a_a0_1 (S110.view v_a0_1) 104 #[] #[.pointer (some ⟨i101, 0, none⟩), .pointer (some ⟨i105, 0, none⟩)] (fun _ => D_impl_AddRound_1 fu a0_0 a0_1 a1) Try.call104 (fun G' hG  b' hb' => W_impl_AddRound_1 fu G' i101 false a0_0 p_a0_1 c_a0_1 a0_1 a_a0_1 (hG.view (S110.view v_a0_1)) (hG.get (S110.get (k := 2) rfl)) i105 false a1 h_a1 (hG.get (S110.get (k := 1) rfl)) b' hb') x112 h113)) ?_
  refine AO.p rfl (p_assign rfl) ?_
  refine AO.nil ?_
  refine AX.seq ?_
  refine AX.cut (fun t' H' => G108 = H' ∧ Am.Sub [(2, .pointer (some ⟨i101, 0, none⟩)), (3, .pointer (some ⟨i105, 0, none⟩)), (4, .pointer (some ⟨i109, 0, none⟩)), (6, .int .i64 x112), (17, .bool ((decide (x112 = 0)) && (decide (((a0_1.length : Nat) : Int) = 40))))] t') ?_ ?_
  · skip
    refine AX.region ?_
    refine AO.p rfl (p_move rfl) ?_
    refine AO.p rfl (p_eql rfl rfl) ?_
    refine AO.p rfl (p_move rfl) ?_
    refine AO.cases (d := 12) rfl (fun c119 => ?_) (fun c119 => ?_)
    · skip
      refine AO.gp rfl rfl rfl (s_fieldAddr Try.underlying33 rfl Try.sizeOf31 (by decide) rfl rfl) ?_
      refine AO.gc rfl rfl rfl (s_load Try.isAgg31 rfl (row_cell (S110.get (k := 2) rfl) rfl)) ?_
      refine AO.gp rfl rfl rfl (p_len_slice rfl Try.underlying31) ?_
      refine AO.gp rfl rfl rfl (p_eql rfl rfl) ?_
      refine AO.p rfl (p_pickT rfl rfl) ?_
      refine AO.nil ?_
      exact ⟨rfl, Sub.cons' rfl rfl (Sub.cons' rfl rfl (Sub.cons' rfl rfl (Sub.cons' rfl rfl (Sub.cons' rfl (bool_eq (by simp only [c119, Bool.true_and, Bool.false_and, Bool.and_true, Bool.and_false, Bool.true_or, Bool.false_or, Bool.or_true, Bool.or_false, Bool.not_true, Bool.not_false, cond_true, cond_false])) (Sub.nil _)))))⟩
    · skip
      refine AO.gn rfl rfl rfl ?_
      refine AO.gn rfl rfl rfl ?_
      refine AO.gn rfl rfl rfl ?_
      refine AO.gn rfl rfl rfl ?_
      refine AO.p rfl (p_pickF rfl rfl) ?_
      refine AO.nil ?_
      exact ⟨rfl, Sub.cons' rfl rfl (Sub.cons' rfl rfl (Sub.cons' rfl rfl (Sub.cons' rfl rfl (Sub.cons' rfl (bool_eq (by simp only [c119, Bool.true_and, Bool.false_and, Bool.and_true, Bool.and_false, Bool.true_or, Bool.false_or, Bool.or_true, Bool.or_false, Bool.not_true, Bool.not_false, cond_true, cond_false])) (Sub.nil _)))))⟩
  · rintro t' _ ⟨rfl, hsub120⟩
    refine AX.sub hsub120 ?_
    obtain ⟨r128, hb129, hd130⟩ := bnd_some hd114
    refine AX.cutQ (fun t' H' => ∃ (x127 : Int), x127 = r128 ∧ St [] H H' [[(i101, AObj.row false ([.int .i64 a0_0, .slice p_a0_1 a0_1.length c_a0_1]))], [(i105, AObj.row false (ints a1))], [(i109, AObj.row false ([.int .i64 0, .slice none 0 0]))]] ∧ Am.Sub [(2, .pointer (some ⟨i101, 0, none⟩)), (3, .pointer (some ⟨i105, 0, none⟩)), (4, .pointer (some ⟨i109, 0, none⟩)), (6, .int .i64 x127)] t') ?_ ?_
    · skip
      refine AX.cond rfl (fun c131 => ?_) (fun c131 => ?_)
      · have hd132 := bif_t c131 hb129
        refine AX.region ?_
        refine AO.p rfl (p_assign rfl) ?_
        refine AO.nil ?_
        have S133 := S110.front 0 rfl
        have S134 := S133.front 1 rfl
        have S135 := S134.front 2 rfl
        exact ⟨3, (some_inj hd132), S135, Sub.cons' rfl rfl (Sub.cons' rfl rfl (Sub.cons' rfl rfl (Sub.cons' rfl rfl (Sub.nil _))))⟩
      · have hd136 := bif_f c131 hb129
        refine AX.skip ?_
        have S137 := S110.front 0 rfl
        have S138 := S137.front 1 rfl
        have S139 := S138.front 2 rfl
        exact ⟨x112, (some_inj hd136), S139, Sub.cons' rfl rfl (Sub.cons' rfl rfl (Sub.cons' rfl rfl (Sub.cons' rfl rfl (Sub.nil _))))⟩
    · rintro t' G141 ⟨x127, rfl, S140, hsub142⟩
      refine AX.sub hsub142 ?_
      refine AX.seq ?_
      refine AX.seq ?_
      refine AX.region ?_
      refine AO.p rfl (p_move rfl) ?_
      refine AO.p rfl (p_neq rfl rfl) ?_
      refine AO.nil ?_
      refine AX.cond rfl (fun c143 => ?_) (fun c143 => ?_)
      · have hd144 := bif_t c143 hd130
        refine AX.seq ?_
        refine AX.region ?_
        refine AO.p rfl (p_build2 (vs := []) (cs := [.int .i64 0, .slice none 0 0]) Try.underlying33 rfl rfl rfl Try.sizeOf2 Try.sizeOf31 Try.zeroValue33 rfl rfl rfl rfl rfl) ?_
        refine AO.p rfl (p_move rfl) ?_
        obtain ⟨G145, hHG145, S146⟩ := S140.set (k := 2) (i := i109) rfl (.row false ([.int .i64 0, .slice none 0 0]))
        refine AO.s (s_storeAll (vs := [.int .i64 0, .slice none 0 0]) Try.sizeOf33 rfl rfl (ones_list rfl) (S140.get (k := 2) rfl) rfl rfl hHG145) ?_
        refine AO.p rfl (p_assign rfl) ?_
        refine AO.nil ?_
        refine AX.ret ?_
        obtain ⟨rfl, z147⟩ := Prod.mk.inj (some_inj hd144)
        obtain ⟨rfl, rfl⟩ := Prod.mk.inj z147
        have S149 : St [] H G145 (oseg none (ints (List.flatten [])) :: _) := S146.nilseg 0
        have S150 := S149.keep 1
        exact ⟨.inr rfl, _, res2 rfl (rv_cell (vs := [.int .i64 0, .slice none 0 0]) rfl Try.isAgg33 Try.sizeOf33 rfl (row_cells (S146.get (k := 2) rfl))) (rv_tmp rfl), none, 0, rfl, S150, Sb.nil, all_nil⟩
      · have hd151 := bif_f c143 hd130
        refine AX.skip ?_
        refine AX.seq ?_
        refine DR.startS [false, false, false, true, false, false, true, true, true, false] mix (by kernel_rfl) (fun hst => ?_)
        refine DR.r rfl rfl (r_loadN (vs := [.int .i64 a0_0, .slice p_a0_1 a0_1.length c_a0_1]) rfl Try.isAgg33 Try.sizeOf33 rfl) (many_row (row_cells (S140.get (k := 0) rfl)) (bel_cons (.of_flat0 rfl) (bel_cons (S140.view v_a0_1).inn.bel bel_nil))) ?_
        refine DR.p rfl rfl (s_fieldAddr Try.underlying33 rfl Try.sizeOf31 (by decide) rfl rfl) ?_
        refine DR.r rfl rfl (r_load rfl Try.isAgg31) (one_read (row_cell (S140.get (k := 0) rfl) rfl) (S140.view v_a0_1).inn.bel) ?_
        obtain ⟨rs152, h153, hd154⟩ := bnd_some hd151
        obtain ⟨_, G161, hc160, p155, c156, rfl, S162, B158, a159⟩ := W_slices_Clone_Simpl_Round_impl_Round fu G141 p_a0_1 c_a0_1 a0_1 a_a0_1 (S140.view v_a0_1) e_a0_1 rs152 h153
        have S163 := S140.call S162
        refine DR.w rfl rfl (o_call (vs := [.slice p_a0_1 a0_1.length c_a0_1]) rfl Try.call106 hc160) (S162.len) ?_
        refine DR.r rfl rfl (r_loadN (vs := ints a1) rfl Try.isAgg26 Try.sizeOf26 (ints_len h_a1)) (many_row (row_cells (S163.get (k := 2) rfl)) bel_ints) ?_
        obtain ⟨G164, i165, hii165, hHG164, S166⟩ := S163.new (.row false (ints [a1].flatten))
        refine DR.a rfl rfl hii165 hHG164 (a_build1 (r := a1) (zr := List.replicate 14 0) Try.underlying31 Try.sizeOf26 Try.zeroValue26 rfl rfl (by decide) (by decide) rfl h_a1) ?_
        obtain ⟨k168, hd169⟩ := chk_some hd154
        obtain ⟨p170, c171, G172, haG172, S173, Bp170⟩ := S166.app (k := 1) rfl B158 (ints [a1].flatten) 1 (flat_len1 (all_one h_a1) rfl)
        have S174 := S173.cellsEq (k := 1) (us' := ints (rs152 ++ [a1]).flatten) (intsf_app _ _) rfl
        have BS174 : Sb p170 ((rs152 ++ [a1]).length) c171 14 := (show rs152.length + 1 = (rs152 ++ [a1]).length from len_app (a := rs152) (b := [a1]) rfl rfl) ▸ Bp170
        have S175 := S174.drop 0 rfl
        refine DR.w rfl rfl (s_app (by_ := 112) (us := ints rs152.flatten) (vs := ints [a1].flatten) Try.underlying31 Try.underlying31 Try.typeInfo26 Try.sizeOf26 Try.zeroValue26 rfl rfl rfl rfl rfl rfl rfl (S166.buf (k := 1) rfl B158 (flat_len1 a159 rfl)) (S166.oview (k := 0) rfl (Sb.lit (n := 1) (by decide)) (flat_len1 (all_one h_a1) rfl)) (flat_len1 (all_one h_a1) rfl) ints_one k168 haG172 (show rs152.length + 1 = (rs152 ++ [a1]).length from len_app (a := rs152) (b := [a1]) rfl rfl)) (appR_len haG172) ?_
        obtain ⟨⟨x176, rs177⟩, h178, hd179⟩ := bnd_some hd169
        obtain ⟨_, G186, hc185, p180, c181, rfl, S187, B183, a184⟩ := W_impl_Schedule_with fu G172 a0_0 p_a0_1 c_a0_1 a0_1 a_a0_1 (S175.view v_a0_1) p170 c171 (rs152 ++ [a1]) (all_app a159 (all_one h_a1)) (S175.oview (k := 0) rfl BS174 (flat_len1 (all_app a159 (all_one h_a1)) rfl)) (BS174.ne rfl) x176 rs177 h178
        have S188 := S175.call S187
        refine DR.w rfl rfl (o_call (vs := [.agg [.int .i64 a0_0, .slice p_a0_1 a0_1.length c_a0_1].toArray, .slice p170 ((rs152 ++ [a1]).length) c171]) rfl Try.call105 hc185) (S187.len) ?_
        obtain ⟨G189, hHG189, S190⟩ := S188.set (k := 4) (i := i109) rfl (.row false ([.int .i64 x176, .slice p180 rs177.length c181]))
        refine DR.s rfl (s_storeAll (vs := [.int .i64 x176, .slice p180 rs177.length c181]) Try.sizeOf33 rfl rfl (ones_list rfl) (S188.get (k := 4) rfl) rfl rfl hHG189) (set_le hHG189) ?_
        refine DR.p rfl rfl (p_assign rfl) ?_
        refine DR.nil 10 [(0, 3), (0, 6), (4, 3), (5, 3)] hst (by kernel_rfl) ⟨(rdN (fun h => S162.hold _ h)), (rdN (fun _ => (S175.get (k := 1) rfl).trans (S166.get (k := 2) rfl).symm)), (rdN (fun h => S162.hold _ h)), (fun h => absurd h (by decide)), trivial⟩ ?_
        refine AX.ret ?_
        obtain ⟨rfl, z191⟩ := Prod.mk.inj (some_inj hd179)
        obtain ⟨rfl, rfl⟩ := Prod.mk.inj z191
        have S193 := S190.front 0 rfl
        have S194 := S193.keep 1
        exact ⟨.inr rfl, _, res2 rfl (rv_cell (vs := [.int .i64 x176, .slice p180 rs177.length c181]) rfl Try.isAgg33 Try.sizeOf33 rfl (row_cells (S190.get (k := 4) rfl))) (rv_tmp rfl), p180, c181, rfl, S194, B183, a184⟩

set_option maxHeartbeats 4000000 in
theorem W_spec_l01Teams (fu : Nat) (H : AHeap) (a0_0 : Int) (p_a0_1 : Option Addr) (c_a0_1 : Nat) (a0_1 : List (List Int)) (a_a0_1 : All 14 a0_1) (v_a0_1 : Vw H p_a0_1 a0_1.length c_a0_1 (ints a0_1.flatten)) (p_a1 : Option Addr) (c_a1 : Nat) (a1 : List Int) (v_a1 : Vw H p_a1 a1.length c_a1 (ints a1)) (r0 : Int) (hd : D_spec_l01Teams fu a0_0 a0_1 a1 = some r0) : ACall Try.prog 110 [.agg [.int .i64 a0_0, .slice p_a0_1 a0_1.length c_a0_1].toArray, .slice p_a1 a1.length c_a1] H (.int .i64 r0) H := by
  refine ACall.bodyP (N := 24) [(0, .agg [.int .i64 a0_0, .slice p_a0_1 a0_1.length c_a0_1].toArray), (1, .slice p_a1 a1.length c_a1)] Try.func110 rfl rfl rfl rfl ?_
  unfold D_spec_l01Teams at hd
  have S0 : St [] H H [] := St.nil H
  refine AX.seq ?_
  refine AX.region ?_
  obtain ⟨G100, i101, hii101, hHG100, S102⟩ := S0.new (.row false ([.int .i64 a0_0, .slice p_a0_1 a0_1.length c_a0_1]))
  refine AO.c rfl (s_box (i := i101) (cs := [.int .i64 a0_0, .slice p_a0_1 a0_1.length c_a0_1]) rfl hii101 rfl hHG100) ?_
  refine AO.p rfl (p_assign rfl) ?_
  refine AO.nil ?_
  refine AX.seq ?_
  refine AX.seq ?_
  refine AX.region ?_
  refine AO.c rfl (s_loadN (vs := [.int .i64 a0_0, .slice p_a0_1 a0_1.length c_a0_1]) Try.isAgg33 Try.sizeOf33 rfl rfl (row_cells (S102.get (k := 0) rfl))) ?_
  obtain ⟨b104, h105, hd106⟩ := bnd_some hd
  refine AO.c rfl (o_call (vs := [.agg [.int .i64 a0_0, .slice p_a0_1 a0_1.length c_a0_1].toArray]) rfl Try.call100 (W_spec_l01Is fu G100 a0_0 p_a0_1 c_a0_1 a0_1 a_a0_1 (S102.view v_a0_1) b104 h105)) ?_
  refine AO.p rfl (p_not rfl) ?_
  refine AO.nil ?_
  refine AX.cond rfl (fun c108 => ?_) (fun c108 => ?_)
  · have hd109 := bif_t c108 hd106
    refine AX.seq ?_
    refine AX.region ?_
    refine AO.p rfl (p_assign rfl) ?_
    refine AO.nil ?_
    refine AX.ret ?_
    obtain rfl := some_inj hd109
    exact ⟨.inr rfl, _, res1 rfl (rv_tmp rfl), rfl, (flatB_ok rfl), S102.hold⟩
  · have hd110 := bif_f c108 hd106
    refine AX.skip ?_
    refine AX.seq ?_
    refine AX.seq ?_
    refine AX.region ?_
    refine AO.p rfl (p_assign rfl) ?_
    refine AO.nil ?_
    obtain ⟨r173, hl174, hd175⟩ := bnd_some hd110
    refine AX.cutQ (fun t' H' => .inl () = r173 ∧ St [] H H' [] ∧ Am.Sub [] t') ?_ ?_
    · refine AX.block ?_
      refine AX.loopF (fun s' t' H' => ∃ (x153 : Int), x153 = s' ∧ St [] H H' [[(i101, AObj.row false ([.int .i64 a0_0, .slice p_a0_1 a0_1.length c_a0_1]))]] ∧ Am.Sub [(1, .slice p_a1 a1.length c_a1), (2, .pointer (some ⟨i101, 0, none⟩)), (5, .int .i64 x153)] t') hl174 ?_ ?_
      · skip
        have S176 := S102.front 0 rfl
        exact ⟨0, rfl, S176, Sub.cons' rfl rfl (Sub.cons' rfl rfl (Sub.cons' rfl rfl (Sub.nil _)))⟩
      · rintro n177 _ t' G181 ⟨x153, rfl, S180, hsub182⟩ o183 ho178 hk179
        refine AX.sub hsub182 ?_
        unfold D_spec_l01Teams_s0 at ho178
        refine AX.seq ?_
        refine AX.seq ?_
        refine AX.region ?_
        refine AO.p rfl (p_move rfl) ?_
        refine AO.p rfl (p_move rfl) ?_
        refine AO.p rfl (p_len_slice rfl Try.underlying69) ?_
        refine AO.p rfl (p_lss rfl rfl) ?_
        refine AO.nil ?_
        refine AX.cond rfl (fun c184 => ?_) (fun c184 => ?_)
        · have hd185 := bif_t c184 ho178
          refine AX.skip ?_
          refine AX.seq ?_
          refine AX.block ?_
          refine AX.seq ?_
          refine DR.startS [false, false, false, false, false, false, false, true, false] mix (by kernel_rfl) (fun hst => ?_)
          refine DR.p rfl rfl (p_move rfl) ?_
          refine DR.p rfl rfl (p_move rfl) ?_
          obtain ⟨k186, hd187⟩ := chk_some hd185
          refine DR.p rfl rfl (s_indexV (q := off p_a1 + x153.toNat) Try.underlying69 Try.sizeOf2 rfl ((S180.view v_a1).p (ints_get (lt_len rfl (inR_lt k186)))) rfl k186 (o1 _ _)) ?_
          refine DR.r rfl rfl (r_load rfl Try.isAgg2) (one_read ((S180.view v_a1).get _ _ (ints_get (lt_len rfl (inR_lt k186)))) (.of_flat0 rfl)) ?_
          refine DR.p rfl rfl (s_fieldAddr Try.underlying33 rfl Try.sizeOf2 (by decide) rfl rfl) ?_
          refine DR.r rfl rfl (r_load rfl Try.isAgg2) (one_read (row_cell (S180.get (k := 0) rfl) rfl) (.of_flat0 rfl)) ?_
          obtain ⟨k188, hd189⟩ := chk_some hd187
          refine DR.p rfl rfl (p_subE rfl rfl k188) ?_
          obtain ⟨b190, h191, hd192⟩ := bnd_some hd189
          refine DR.w rfl rfl (o_call (vs := [.int .i64 (rd a1 x153.toNat), .int .i64 0, .int .i64 (a0_0 - 1)]) rfl Try.call64 (W_spec_l01In fu G181 (rd a1 x153.toNat) 0 (a0_0 - 1) b190 h191)) (Nat.le_refl _) ?_
          refine DR.p rfl rfl (p_not rfl) ?_
          refine DR.nil 9 [] hst (by kernel_rfl) trivial ?_
          refine AX.cond rfl (fun c194 => ?_) (fun c194 => ?_)
          · have hd195 := bif_t c194 hd192
            refine AX.seq ?_
            refine AX.region ?_
            refine AO.p rfl (p_assign rfl) ?_
            refine AO.nil ?_
            refine AX.ret ?_
            obtain rfl := some_inj hd195
            have z196 : _ = r173 := hk179
            subst z196
            obtain rfl := some_inj hd175
            exact ⟨.inr rfl, _, res1 rfl (rv_tmp rfl), rfl, (flatB_ok rfl), S180.hold⟩
          · have hd197 := bif_f c194 hd192
            refine AX.skip ?_
            refine AX.region ?_
            refine AO.p rfl (p_move rfl) ?_
            obtain ⟨k198, hd199⟩ := chk_some hd197
            refine AO.p rfl (p_addE rfl rfl k198) ?_
            refine AO.p rfl (p_assign rfl) ?_
            refine AO.nil ?_
            obtain rfl := some_inj hd199
            have S201 := S180.front 0 rfl
            exact ⟨x153 + 1, hk179, (x153 + 1), rfl, S201, Sub.cons' rfl rfl (Sub.cons' rfl rfl (Sub.cons' rfl rfl (Sub.nil _)))⟩
        · have hd202 := bif_f c184 ho178
          refine AX.exit ?_
          obtain rfl := some_inj hd202
          have S203 := S180.keep 0
          exact ⟨hk179, S203, Sub.nil _⟩
    · rintro t' G205 ⟨rfl, S204, hsub206⟩
      refine AX.sub hsub206 ?_
      refine AX.seq ?_
      refine AX.region ?_
      refine AO.p rfl (p_assign rfl) ?_
      refine AO.nil ?_
      refine AX.ret ?_
      obtain rfl := some_inj hd175
      exact ⟨.inr rfl, _, res1 rfl (rv_tmp rfl), rfl, (flatB_ok rfl), S204.hold⟩

set_option maxHeartbeats 4000000 in
theorem W_spec_OpponentsOf (fu : Nat) (H : AHeap) (a0_0 : Int) (p_a0_1 : Option Addr) (c_a0_1 : Nat) (a0_1 : List (List Int)) (a_a0_1 : All 14 a0_1) (v_a0_1 : Vw H p_a0_1 a0_1.length c_a0_1 (ints a0_1.flatten)) (a1 : Int) (r0 : List Int) (r1 : Int) (hd : D_spec_OpponentsOf fu a0_0 a0_1 a1 = some (r0, r1)) : ∃ v G', ACall Try.prog 56 [.agg [.int .i64 a0_0, .slice p_a0_1 a0_1.length c_a0_1].toArray, .int .i64 a1] H v G' ∧ ∃ (p_r0 : Option Addr) (c_r0 : Nat), (v = .tuple #[.slice p_r0 r0.length c_r0, .int .i64 r1]) ∧ St [] H G' [oseg p_r0 (ints r0)] ∧ Sb p_r0 r0.length c_r0 1 := by
  refine ACall.bodyX (args := [.agg [.int .i64 a0_0, .slice p_a0_1 a0_1.length c_a0_1].toArray, .int .i64 a1]) (N := 47) [(0, .agg [.int .i64 a0_0, .slice p_a0_1 a0_1.length c_a0_1].toArray), (1, .int .i64 a1)] (fun v G' => ∃ (p_r0 : Option Addr) (c_r0 : Nat), (v = .tuple #[.slice p_r0 r0.length c_r0, .int .i64 r1]) ∧ St [] H G' [oseg p_r0 (ints r0)] ∧ Sb p_r0 r0.length c_r0 1) Try.func56 rfl rfl rfl rfl ?_
  unfold D_spec_OpponentsOf at hd
  have S0 : St [] H H [] := St.nil H
  refine AX.seq ?_
  refine AX.region ?_
  obtain ⟨G100, i101, hii101, hHG100, S102⟩ := S0.new (.row false ([.int .i64 a0_0, .slice p_a0_1 a0_1.length c_a0_1]))
  refine AO.c rfl (s_box (i := i101) (cs := [.int .i64 a0_0, .slice p_a0_1 a0_1.length c_a0_1]) rfl hii101 rfl hHG100) ?_
  refine AO.p rfl (p_assign rfl) ?_
  refine AO.p rfl (p_assign rfl) ?_
  refine AO.nil ?_
  refine AX.seq ?_
  refine AX.seq ?_
  refine AX.region ?_
  refine AO.c rfl (s_loadN (vs := [.int .i64 a0_0, .slice p_a0_1 a0_1.length c_a0_1]) Try.isAgg33 Try.sizeOf33 rfl rfl (row_cells (S102.get (k := 0) rfl))) ?_
  refine AO.p rfl (p_move rfl) ?_
  obtain ⟨G104, i105, hii105, hHG104, S106⟩ := S102.new (.row false (ints [a1]))
  refine AO.c rfl (s_buildInts (i := i105) (vs := [(0, .int .i64 a1)]) (xs := [a1]) Try.underlying69 Try.sizeOf2 Try.zeroValue2 rfl rfl (by decide) rfl rfl hii105 hHG104) ?_
  obtain ⟨x108, h109, hd110⟩ := bnd_some hd
  refine AO.c rfl (o_call (vs := [.agg [.int .i64 a0_0, .slice p_a0_1 a0_1.length c_a0_1].toArray, .slice (some (Addr.mk i105 0 none)) 1 1]) rfl Try.call110 (by have h' := W_spec_l01Teams fu G104 a0_0 p_a0_1 c_a0_1 a0_1 a_a0_1 (S106.view v_a0_1) (some (Addr.mk i105 0 none)) 1 [a1] (by rw [show List.length [a1] = 1 from rfl]; exact (S106.oview (k := 0) rfl (Sb.lit (n := 1) (by decide)) (ints_len1 rfl))) x108 h109; rw [show List.length [a1] = 1 from rfl] at h'; exact h')) ?_
  refine AO.p rfl (p_assign rfl) ?_
  refine AO.nil ?_
  refine AX.seq ?_
  refine AX.region ?_
  refine AO.p rfl (p_move rfl) ?_
  refine AO.p rfl (p_neq rfl rfl) ?_
  refine AO.nil ?_
  refine AX.cond rfl (fun c112 => ?_) (fun c112 => ?_)
  · have hd113 := bif_t c112 hd110
    refine AX.seq ?_
    refine AX.region ?_
    refine AO.p rfl (p_move rfl) ?_
    refine AO.p rfl (p_assign rfl) ?_
    refine AO.p rfl (p_assign rfl) ?_
    refine AO.nil ?_
    refine AX.ret ?_
    obtain ⟨rfl, rfl⟩ := Prod.mk.inj (some_inj hd113)
    have S115 : St [] H G104 (oseg none (ints []) :: _) := S106.nilseg 0
    have S116 := S115.keep 1
    exact ⟨.inr rfl, _, res2 rfl (rv_tmp rfl) (rv_tmp rfl), none, 0, rfl, S116, Sb.nil⟩
  · have hd117 := bif_f c112 hd110
    refine AX.skip ?_
    refine AX.seq ?_
    refine AX.region ?_
    obtain ⟨G118, i119, hii119, hHG118, S120⟩ := S106.new (.row false (ints []))
    refine AO.c rfl (s_build0 (i := i119) Try.underlying69 Try.sizeOf2 hii119 hHG118) ?_
    refine AO.p rfl (p_assign rfl) ?_
    refine AO.nil ?_
    refine AX.seq ?_
    refine AX.seq ?_
    refine AX.region ?_
    refine AO.p rfl (p_assign rfl) ?_
    refine AO.nil ?_
    obtain ⟨r275, hl276, hd277⟩ := bnd_some hd117
    refine AX.cutQ (fun t' H' => ∃ (xs274 : List Int) (p272 : Option Addr) (c273 : Nat), xs274 = r275 ∧ St [] H H' [oseg p272 (ints xs274)] ∧ Sb p272 (xs274.length) c273 1 ∧ Am.Sub [(7, .slice p272 xs274.length c273)] t') ?_ ?_
    · refine AX.block ?_
      refine AX.loopF (fun s' t' H' => ∃ (xs224 : List Int) (x225 : Int) (p222 : Option Addr) (c223 : Nat), (xs224, x225) = s' ∧ St [] H H' [[(i101, AObj.row false ([.int .i64 a0_0, .slice p_a0_1 a0_1.length c_a0_1]))], oseg p222 (ints xs224)] ∧ Sb p222 (xs224.length) c223 1 ∧ Am.Sub [(1, .int .i64 a1), (2, .pointer (some ⟨i101, 0, none⟩)), (7, .slice p222 xs224.length c223), (8, .int .i64 x225)] t') hl276 ?_ ?_
      · skip
        have S278 := S120.front 0 rfl
        have S279 := S278.front 2 rfl
        have S280 := S279.keep 2
        exact ⟨[], 0, (some (Addr.mk i119 0 none)), 0, rfl, S280, (Sb.lit (n := 0) (by decide)), Sub.cons' rfl rfl (Sub.cons' rfl rfl (Sub.cons' rfl rfl (Sub.cons' rfl rfl (Sub.nil _))))⟩
      · rintro n281 _ t' G285 ⟨xs224, x225, p222, c223, rfl, S284, Bo221, hsub286⟩ o287 ho282 hk283
        refine AX.sub hsub286 ?_
        unfold D_spec_OpponentsOf_s0 at ho282
        refine AX.seq ?_
        refine AX.seq ?_
        refine AX.region ?_
        refine AO.p rfl (p_move rfl) ?_
        refine AO.p rfl (s_fieldAddr Try.underlying33 rfl Try.sizeOf31 (by decide) rfl rfl) ?_
        refine AO.c rfl (s_load Try.isAgg31 rfl (row_cell (S284.get (k := 0) rfl) rfl)) ?_
        refine AO.p rfl (p_len_slice rfl Try.underlying31) ?_
        refine AO.p rfl (p_lss rfl rfl) ?_
        refine AO.nil ?_
        refine AX.cond rfl (fun c288 => ?_) (fun c288 => ?_)
        · have hd289 := bif_t c288 ho282
          refine AX.skip ?_
          refine AX.seq ?_
          refine AX.block ?_
          refine AX.seq ?_
          refine AX.region ?_
          refine AO.p rfl (s_fieldAddr Try.underlying33 rfl Try.sizeOf31 (by decide) rfl rfl) ?_
          refine AO.c rfl (s_load Try.isAgg31 rfl (row_cell (S284.get (k := 0) rfl) rfl)) ?_
          refine AO.p rfl (p_move rfl) ?_
          refine AO.p rfl (p_move rfl) ?_
          obtain ⟨k290, hd291⟩ := chk_some hd289
          refine AO.p rfl (s_indexV (q := off p_a0_1 + x225.toNat * 14) Try.underlying31 Try.sizeOf26 rfl ((S284.view v_a0_1).rowne a_a0_1 (by decide) (lt_len rfl (inR_lt k290))) rfl k290 rfl) ?_
          obtain ⟨k292, hd293⟩ := chk_some hd291
          refine AO.p rfl (s_indexAr (q := off p_a0_1 + x225.toNat * 14 + a1.toNat) Try.underlying26 Try.sizeOf2 rfl rfl k292 (o1 _ _)) ?_
          refine AO.c rfl (s_load Try.isAgg2 rfl ((S284.view v_a0_1).row a_a0_1 (lt_len rfl (inR_lt k290)) _ _ (ints_get (lt_len (rw_len a_a0_1 (lt_len rfl (inR_lt k290))) (inR_lt k292))))) ?_
          refine AO.p rfl (p_move rfl) ?_
          refine AO.p rfl (p_eql rfl rfl) ?_
          refine AO.nil ?_
          refine AX.cond rfl (fun c294 => ?_) (fun c294 => ?_)
          · have hd295 := bif_t c294 hd293
            refine AX.region ?_
            refine AO.p rfl (p_move rfl) ?_
            obtain ⟨G296, i297, hii297, hHG296, S298⟩ := S284.new (.row false (ints [(-1)]))
            refine AO.c rfl (s_buildInts (i := i297) (vs := [(0, .int .i64 (-1))]) (xs := [(-1)]) Try.underlying69 Try.sizeOf2 Try.zeroValue2 rfl rfl (by decide) rfl rfl hii297 hHG296) ?_
            obtain ⟨k300, hd301⟩ := chk_some hd295
            obtain ⟨p302, c303, G304, haG304, S305, Bp302⟩ := S298.app (k := 2) rfl Bo221 (ints [(-1)]) 1 (ints_len1 rfl)
            have S306 := S305.cellsEq (k := 2) (us' := ints (xs224 ++ [(-1)])) (ints_app _ _) rfl
            have BS306 : Sb p302 ((xs224 ++ [(-1)]).length) c303 1 := (show xs224.length + 1 = (xs224 ++ [(-1)]).length from len_app (a := xs224) (b := [(-1)]) rfl rfl) ▸ Bp302
            have S307 := S306.drop 0 rfl
            refine AO.c rfl (s_app (by_ := 8) (us := ints xs224) (vs := ints [(-1)]) Try.underlying69 Try.underlying69 Try.typeInfo2 Try.sizeOf2 Try.zeroValue2 rfl rfl rfl rfl rfl rfl rfl (S298.buf (k := 2) rfl Bo221 (ints_len1 rfl)) (S298.oview (k := 0) rfl (Sb.lit (n := 1) (by decide)) (ints_len1 rfl)) (ints_len1 rfl) ints_one k300 haG304 (show xs224.length + 1 = (xs224 ++ [(-1)]).length from len_app (a := xs224) (b := [(-1)]) rfl rfl)) ?_
            refine AO.p rfl (p_assign rfl) ?_
            refine AO.nil ?_
            refine AX.region ?_
            refine AO.p rfl (p_move rfl) ?_
            obtain ⟨k308, hd309⟩ := chk_some hd301
            refine AO.p rfl (p_addE rfl rfl k308) ?_
            refine AO.p rfl (p_assign rfl) ?_
            refine AO.nil ?_
            obtain rfl := some_inj hd309
            have S311 := S307.front 1 rfl
            have S312 := S311.front 1 rfl
            exact ⟨((xs224 ++ [(-1)]), x225 + 1), hk283, (xs224 ++ [(-1)]), (x225 + 1), p302, c303, rfl, S312, BS306, Sub.cons' rfl rfl (Sub.cons' rfl rfl (Sub.cons' rfl rfl (Sub.cons' rfl rfl (Sub.nil _))))⟩
          · have hd313 := bif_f c294 hd293
            refine AX.region ?_
            refine AO.p rfl (p_move rfl) ?_
            refine AO.p rfl (s_fieldAddr Try.underlying33 rfl Try.sizeOf31 (by decide) rfl rfl) ?_
            refine AO.c rfl (s_load Try.isAgg31 rfl (row_cell (S284.get (k := 0) rfl) rfl)) ?_
            refine AO.p rfl (p_move rfl) ?_
            refine AO.p rfl (p_move rfl) ?_
            obtain ⟨k314, hd315⟩ := chk_some hd313
            refine AO.p rfl (s_indexV (q := off p_a0_1 + x225.toNat * 14) Try.underlying31 Try.sizeOf26 rfl ((S284.view v_a0_1).rowne a_a0_1 (by decide) (lt_len rfl (inR_lt k314))) rfl k314 rfl) ?_
            obtain ⟨k316, hd317⟩ := chk_some hd315
            refine AO.p rfl (s_indexAr (q := off p_a0_1 + x225.toNat * 14 + a1.toNat) Try.underlying26 Try.sizeOf2 rfl rfl k316 (o1 _ _)) ?_
            refine AO.c rfl (s_load Try.isAgg2 rfl ((S284.view v_a0_1).row a_a0_1 (lt_len rfl (inR_lt k314)) _ _ (ints_get (lt_len (rw_len a_a0_1 (lt_len rfl (inR_lt k314))) (inR_lt k316))))) ?_
            obtain ⟨G318, i319, hii319, hHG318, S320⟩ := S284.new (.row false (ints [rd (rw_ a0_1 x225.toNat) a1.toNat]))
            refine AO.c rfl (s_buildInts (i := i319) (vs := [(0, .int .i64 (rd (rw_ a0_1 x225.toNat) a1.toNat))]) (xs := [rd (rw_ a0_1 x225.toNat) a1.toNat]) Try.underlying69 Try.sizeOf2 Try.zeroValue2 rfl rfl (by decide) rfl rfl hii319 hHG318) ?_
            obtain ⟨k322, hd323⟩ := chk_some hd317
            obtain ⟨p324, c325, G326, haG326, S327, Bp324⟩ := S320.app (k := 2) rfl Bo221 (ints [rd (rw_ a0_1 x225.toNat) a1.toNat]) 1 (ints_len1 rfl)
            have S328 := S327.cellsEq (k := 2) (us' := ints (xs224 ++ [rd (rw_ a0_1 x225.toNat) a1.toNat])) (ints_app _ _) rfl
            have BS328 : Sb p324 ((xs224 ++ [rd (rw_ a0_1 x225.toNat) a1.toNat]).length) c325 1 := (show xs224.length + 1 = (xs224 ++ [rd (rw_ a0_1 x225.toNat) a1.toNat]).length from len_app (a := xs224) (b := [rd (rw_ a0_1 x225.toNat) a1.toNat]) rfl rfl) ▸ Bp324
            have S329 := S328.drop 0 rfl
            refine AO.c rfl (s_app (by_ := 8) (us := ints xs224) (vs := ints [rd (rw_ a0_1 x225.toNat) a1.toNat]) Try.underlying69 Try.underlying69 Try.typeInfo2 Try.sizeOf2 Try.zeroValue2 rfl rfl rfl rfl rfl rfl rfl (S320.buf (k := 2) rfl Bo221 (ints_len1 rfl)) (S320.oview (k := 0) rfl (Sb.lit (n := 1) (by decide)) (ints_len1 rfl)) (ints_len1 rfl) ints_one k322 haG326 (show xs224.length + 1 = (xs224 ++ [rd (rw_ a0_1 x225.toNat) a1.toNat]).length from len_app (a := xs224) (b := [rd (rw_ a0_1 x225.toNat) a1.toNat]) rfl rfl)) ?_
            refine AO.p rfl (p_assign rfl) ?_
            refine AO.nil ?_
            refine AX.region ?_
            refine AO.p rfl (p_move rfl) ?_
            obtain ⟨k330, hd331⟩ := chk_some hd323
            refine AO.p rfl (p_addE rfl rfl k330) ?_
            refine AO.p rfl (p_assign rfl) ?_
            refine AO.nil ?_
            obtain rfl := some_inj hd331
            have S333 := S329.front 1 rfl
            have S334 := S333.front 1 rfl
            exact ⟨((xs224 ++ [rd (rw_ a0_1 x225.toNat) a1.toNat]), x225 + 1), hk283, (xs224 ++ [rd (rw_ a0_1 x225.toNat) a1.toNat]), (x225 + 1), p324, c325, rfl, S334, BS328, Sub.cons' rfl rfl (Sub.cons' rfl rfl (Sub.cons' rfl rfl (Sub.cons' rfl rfl (Sub.nil _))))⟩
        · have hd335 := bif_f c288 ho282
          refine AX.exit ?_
          obtain rfl := some_inj hd335
          have S336 := S284.front 1 rfl
          have S337 := S336.keep 1
          exact ⟨xs224, p222, c223, hk283, S337, Bo221, Sub.cons' rfl rfl (Sub.nil _)⟩
    · rintro t' G339 ⟨xs274, p272, c273, rfl, S338, Bo271, hsub340⟩
      refine AX.sub hsub340 ?_
      refine AX.seq ?_
      refine AX.region ?_
      refine AO.p rfl (p_move rfl) ?_
      refine AO.p rfl (p_assign rfl) ?_
      refine AO.p rfl (p_assign rfl) ?_
      refine AO.nil ?_
      refine AX.ret ?_
      obtain ⟨rfl, rfl⟩ := Prod.mk.inj (some_inj hd277)
      have S342 := S338.front 0 rfl
      exact ⟨.inr rfl, _, res2 rfl (rv_tmp rfl) (rv_tmp rfl), p272, c273, rfl, S342, Bo271⟩

set_option maxHeartbeats 4000000 in
theorem W_impl_Schedule_hasTeam (fu : Nat) (H : AHeap) (a0_0 : Int) (p_a0_1 : Option Addr) (c_a0_1 : Nat) (a0_1 : List (List Int)) (a_a0_1 : All 14 a0_1) (v_a0_1 : Vw H p_a0_1 a0_1.length c_a0_1 (ints a0_1.flatten)) (a1 : Int) (r0 : Bool) (hd : D_impl_Schedule_hasTeam fu a0_0 a0_1 a1 = some r0) : ACall Try.prog 112 [.agg [.int .i64 a0_0, .slice p_a0_1 a0_1.length c_a0_1].toArray, .int .i64 a1] H (.bool r0) H := by
  refine ACall.bodyP (N := 10) [(0, .agg [.int .i64 a0_0, .slice p_a0_1 a0_1.length c_a0_1].toArray), (1, .int .i64 a1)] Try.func112 rfl rfl rfl rfl ?_
  unfold D_impl_Schedule_hasTeam at hd
  have S0 : St [] H H [] := St.nil H
  refine AX.seq ?_
  refine AX.region ?_
  obtain ⟨G100, i101, hii101, hHG100, S102⟩ := S0.new (.row false ([.int .i64 a0_0, .slice p_a0_1 a0_1.length c_a0_1]))
  refine AO.c rfl (s_box (i := i101) (cs := [.int .i64 a0_0, .slice p_a0_1 a0_1.length c_a0_1]) rfl hii101 rfl hHG100) ?_
  refine AO.p rfl (p_assign rfl) ?_
  refine AO.nil ?_
  refine AX.seq ?_
  refine AX.region ?_
  refine AO.p rfl (p_move rfl) ?_
  refine AO.p rfl (s_fieldAddr Try.underlying33 rfl Try.sizeOf2 (by decide) rfl rfl) ?_
  refine AO.c rfl (s_load Try.isAgg2 rfl (row_cell (S102.get (k := 0) rfl) rfl)) ?_
  obtain ⟨k104, hd105⟩ := chk_some hd
  refine AO.p rfl (p_subE rfl rfl k104) ?_
  obtain ⟨b106, h107, hd108⟩ := bnd_some hd105
  refine AO.c rfl (o_call (vs := [.int .i64 a1, .int .i64 0, .int .i64 (a0_0 - 1)]) rfl Try.call66 (W_impl_between fu G100 a1 0 (a0_0 - 1) b106 h107)) ?_
  refine AO.p rfl (p_assign rfl) ?_
  refine AO.nil ?_
  refine AX.ret ?_
  obtain rfl := some_inj hd108
  exact ⟨.inr rfl, _, res1 rfl (rv_tmp rfl), rfl, (flatB_ok rfl), S102.hold⟩

set_option maxHeartbeats 4000000 in
theorem W_impl_OpponentsOf_1 (fu : Nat) (H : AHeap) (i_b0 : Nat) (ro_b0 : Bool) (b0_0 : Int) (p_b0_1 : Option Addr) (c_b0_1 : Nat) (b0_1 : List (List Int)) (a_b0_1 : All 14 b0_1) (v_b0_1 : Vw H p_b0_1 b0_1.length c_b0_1 (ints b0_1.flatten)) (o_b0 : hget H i_b0 = .row ro_b0 ([.int .i64 b0_0, .slice p_b0_1 b0_1.length c_b0_1])) (i_b1 : Nat) (ro_b1 : Bool) (b1_0 : Int) (o_b1 : hget H i_b1 = .row ro_b1 ([.int .i64 b1_0])) (r0 : Bool) (hd : D_impl_OpponentsOf_1 fu b0_0 b0_1 b1_0 = some r0) : ACall Try.prog 111 [.pointer (some ⟨i_b0, 0, none⟩), .pointer (some ⟨i_b1, 0, none⟩)] H (.bool r0) H := by
  refine ACall.bodyP (N := 6) [(0, .pointer (some ⟨i_b0, 0, none⟩)), (1, .pointer (some ⟨i_b1, 0, none⟩))] Try.func111 rfl rfl rfl rfl ?_
  unfold D_impl_OpponentsOf_1 at hd
  have S0 : St [] H H [] := St.nil H
  refine AX.seq ?_
  refine AX.region ?_
  refine AO.p rfl (p_assign rfl) ?_
  refine AO.nil ?_
  refine AX.seq ?_
  refine AX.region ?_
  refine AO.c rfl (s_loadN (vs := [.int .i64 b0_0, .slice p_b0_1 b0_1.length c_b0_1]) Try.isAgg33 Try.sizeOf33 rfl rfl (row_cells (S0.old o_b0 (by simp)))) ?_
  refine AO.c rfl (s_load Try.isAgg2 rfl (row_cell (S0.old o_b1 (by simp)) rfl)) ?_
  obtain ⟨b100, h101, hd102⟩ := bnd_some hd
  refine AO.c rfl (o_call (vs := [.agg [.int .i64 b0_0, .slice p_b0_1 b0_1.length c_b0_1].toArray, .int .i64 b1_0]) rfl Try.call112 (W_impl_Schedule_hasTeam fu H b0_0 p_b0_1 c_b0_1 b0_1 a_b0_1 (S0.view v_b0_1) b1_0 b100 h101)) ?_
  refine AO.p rfl (p_assign rfl) ?_
  refine AO.nil ?_
  refine AX.ret ?_
  obtain rfl := some_inj hd102
  exact ⟨.inr rfl, _, res1 rfl (rv_tmp rfl), rfl, (flatB_ok rfl), S0.hold⟩

set_option maxHeartbeats 4000000 in
theorem W_impl_OpponentsOf (fu : Nat) (H : AHeap) (a0_0 : Int) (p_a0_1 : Option Addr) (c_a0_1 : Nat) (a0_1 : List (List Int)) (a_a0_1 : All 14 a0_1) (v_a0_1 : Vw H p_a0_1 a0_1.length c_a0_1 (ints a0_1.flatten)) (a1 : Int) (r0 : List Int) (r1 : Int) (hd : D_impl_OpponentsOf fu a0_0 a0_1 a1 = some (r0, r1)) : ∃ v G', ACall Try.prog 57 [.agg [.int .i64 a0_0, .slice p_a0_1 a0_1.length c_a0_1].toArray, .int .i64 a1] H v G' ∧ ∃ (p_r0 : Option Addr) (c_r0 : Nat), (v = .tuple #[.slice p_r0 r0.length c_r0, .int .i64 r1]) ∧ St [] H G' [oseg p_r0 (ints r0)] ∧ Sb p_r0 r0.length c_r0 1 := by
  refine ACall.bodyX (args := [.agg [.int .i64 a0_0, .slice p_a0_1 a0_1.length c_a0_1].toArray, .int .i64 a1]) (N := 37) [(0, .agg [.int .i64 a0_0, .slice p_a0_1 a0_1.length c_a0_1].toArray), (1, .int .i64 a1)] (fun v G' => ∃ (p_r0 : Option Addr) (c_r0 : Nat), (v = .tuple #[.slice p_r0 r0.length c_r0, .int .i64 r1]) ∧ St [] H G' [oseg p_r0 (ints r0)] ∧ Sb p_r0 r0.length c_r0 1) Try.func57 rfl rfl rfl rfl ?_
  unfold D_impl_OpponentsOf at hd
  have S0 : St [] H H [] := St.nil H
  refine AX.seq ?_
  refine AX.region ?_
  obtain ⟨G100, i101, hii101, hHG100, S102⟩ := S0.new (.row false ([.int .i64 a0_0, .slice p_a0_1 a0_1.length c_a0_1]))
  refine AO.c rfl (s_box (i := i101) (cs := [.int .i64 a0_0, .slice p_a0_1 a0_1.length c_a0_1]) rfl hii101 rfl hHG100) ?_
  obtain ⟨G104, i105, hii105, hHG104, S106⟩ := S102.new (.row false ([.int .i64 a1]))
  refine AO.c rfl (s_box (i := i105) (cs := [.int .i64 a1]) rfl hii105 rfl hHG104) ?_
  refine AO.p rfl (p_assign rfl) ?_
  refine AO.p rfl (p_assign rfl) ?_
  refine AO.nil ?_
  refine AX.seq ?_
  refine AX.seq ?_
  refine AX.region ?_
  refine AO.c rfl (s_loadN (vs := [.int .i64 a0_0, .slice p_a0_1 a0_1.length c_a0_1]) Try.isAgg33 Try.sizeOf33 rfl rfl (row_cells (S106.get (k := 1) rfl))) ?_
  refine AO.p rfl (p_makeFunc (fs := []) (cs := [.pointer (some ⟨i101, 0, none⟩), .pointer (some ⟨i105, 0, none⟩)]) rfl rfl) ?_
  obtain ⟨x108, h109, hd110⟩ := bnd_some hd
  refine AO.c rfl (o_call (vs := [.agg [.int .i64 a0_0, .slice p_a0_1 a0_1.length c_a0_1].toArray, .func (.func 111) #[] #[.pointer (some ⟨i101, 0, none⟩), .pointer (some ⟨i105, 0, none⟩)]]) rfl Try.call103 (W_impl_scheduleCode fu G104 a0_0 p_a0_1 c_a0_1 a0_1 a_a0_1 (S106.view v_a0_1) 111 #[] #[.pointer (some ⟨i101, 0, none⟩), .pointer (some ⟨i105, 0, none⟩)] (fun _ => D_impl_OpponentsOf_1 fu a0_0 a0_1 a1) Try.call111 (fun G' hG  b' hb' => W_impl_OpponentsOf_1 fu G' i101 false a0_0 p_a0_1 c_a0_1 a0_1 a_a0_1 (hG.view (S106.view v_a0_1)) (hG.get (S106.get (k := 1) rfl)) i105 false a1 (hG.get (S106.get (k := 0) rfl)) b' hb') x108 h109)) ?_
  refine AO.p rfl (p_assign rfl) ?_
  refine AO.nil ?_
  refine AX.seq ?_
  refine AX.region ?_
  refine AO.p rfl (p_move rfl) ?_
  refine AO.p rfl (p_neq rfl rfl) ?_
  refine AO.nil ?_
  refine AX.cond rfl (fun c112 => ?_) (fun c112 => ?_)
  · have hd113 := bif_t c112 hd110
    refine AX.seq ?_
    refine AX.region ?_
    refine AO.p rfl (p_move rfl) ?_
    refine AO.p rfl (p_assign rfl) ?_
    refine AO.p rfl (p_assign rfl) ?_
    refine AO.nil ?_
    refine AX.ret ?_
    obtain ⟨rfl, rfl⟩ := Prod.mk.inj (some_inj hd113)
    have S115 : St [] H G104 (oseg none (ints []) :: _) := S106.nilseg 0
    have S116 := S115.keep 1
    exact ⟨.inr rfl, _, res2 rfl (rv_tmp rfl) (rv_tmp rfl), none, 0, rfl, S116, Sb.nil⟩
  · have hd117 := bif_f c112 hd110
    refine AX.skip ?_
    refine AX.seq ?_
    refine AX.region ?_
    obtain ⟨G118, i119, hii119, hHG118, S120⟩ := S106.new (.row false (ints []))
    refine AO.c rfl (s_build0 (i := i119) Try.underlying69 Try.sizeOf2 hii119 hHG118) ?_
    refine AO.p rfl (p_assign rfl) ?_
    refine AO.nil ?_
    refine AX.seq ?_
    refine AX.seq ?_
    refine AX.region ?_
    refine AO.p rfl (s_fieldAddr Try.underlying33 rfl Try.sizeOf31 (by decide) rfl rfl) ?_
    refine AO.c rfl (s_load Try.isAgg31 rfl (row_cell (S120.get (k := 2) rfl) rfl)) ?_
    refine AO.p rfl (p_len_slice rfl Try.underlying31) ?_
    refine AO.p rfl (p_move rfl) ?_
    refine AO.nil ?_
    obtain ⟨r293, hl294, hd295⟩ := bnd_some hd117
    refine AX.cutQ (fun t' H' => ∃ (xs292 : List Int) (p290 : Option Addr) (c291 : Nat), xs292 = r293 ∧ St [] H H' [oseg p290 (ints xs292)] ∧ Sb p290 (xs292.length) c291 1 ∧ Am.Sub [(7, .slice p290 xs292.length c291)] t') ?_ ?_
    · refine AX.block ?_
      refine AX.loopF (fun s' t' H' => ∃ (xs236 : List Int) (x237 : Int) (p234 : Option Addr) (c235 : Nat), (xs236, x237) = s' ∧ St [] H H' [[(i105, AObj.row false ([.int .i64 a1]))], oseg p234 (ints xs236)] ∧ Sb p234 (xs236.length) c235 1 ∧ Am.Sub [(3, .pointer (some ⟨i105, 0, none⟩)), (7, .slice p234 xs236.length c235), (19, .slice p_a0_1 a0_1.length c_a0_1), (20, .int .i64 ((a0_1.length : Nat) : Int)), (21, .int .i64 x237)] t') hl294 ?_ ?_
      · skip
        have S296 := S120.front 0 rfl
        have S297 := S296.front 1 rfl
        have S298 := S297.keep 2
        exact ⟨[], 0, (some (Addr.mk i119 0 none)), 0, rfl, S298, (Sb.lit (n := 0) (by decide)), Sub.cons' rfl rfl (Sub.cons' rfl rfl (Sub.cons' rfl rfl (Sub.cons' rfl rfl (Sub.cons' rfl rfl (Sub.nil _)))))⟩
      · rintro n299 _ t' G303 ⟨xs236, x237, p234, c235, rfl, S302, Bo233, hsub304⟩ o305 ho300 hk301
        refine AX.sub hsub304 ?_
        unfold D_impl_OpponentsOf_s0 at ho300
        refine AX.seq ?_
        refine AX.region ?_
        refine AO.p rfl (p_lss rfl rfl) ?_
        refine AO.nil ?_
        refine AX.seq ?_
        refine AX.cond rfl (fun c306 => ?_) (fun c306 => ?_)
        · have hd307 := bif_t c306 ho300
          refine AX.skip ?_
          refine AX.seq ?_
          refine AX.block ?_
          refine AX.seq ?_
          refine AX.region ?_
          obtain ⟨k308, hd309⟩ := chk_some hd307
          refine AO.p rfl (s_indexV (q := off p_a0_1 + x237.toNat * 14) Try.underlying31 Try.sizeOf26 rfl ((S302.view v_a0_1).rowne a_a0_1 (by decide) (lt_len rfl (inR_lt k308))) rfl k308 rfl) ?_
          refine AO.c rfl (s_loadN (vs := ints (rw_ a0_1 x237.toNat)) Try.isAgg26 Try.sizeOf26 rfl (ints_len (rw_len a_a0_1 (lt_len rfl (inR_lt k308)))) ((S302.view v_a0_1).row a_a0_1 (lt_len rfl (inR_lt k308)))) ?_
          obtain ⟨G310, i311, hii311, hHG310, S312⟩ := S302.new (.row false (ints (List.replicate 14 0)))
          refine AO.c rfl (s_alloc (i := i311) (cs := ints (List.replicate 14 0)) Try.zeroValue26 rfl rfl hii311 hHG310) ?_
          obtain ⟨G314, hHG314, S315⟩ := S312.set (k := 0) (i := i311) rfl (.row false (ints (rw_ a0_1 x237.toNat)))
          refine AO.s (s_storeAll (vs := ints (rw_ a0_1 x237.toNat)) Try.sizeOf26 rfl rfl ints_one (S312.get (k := 0) rfl) (ints_len (rw_len a_a0_1 (lt_len rfl (inR_lt k308)))) (ints_len len_rep) hHG314) ?_
          refine AO.nil ?_
          refine AX.seq ?_
          refine AX.region ?_
          refine AO.c rfl (s_load Try.isAgg2 rfl (row_cell (S315.get (k := 1) rfl) rfl)) ?_
          obtain ⟨k316, hd317⟩ := chk_some hd309
          refine AO.p rfl (s_indexAr (q := a1.toNat) Try.underlying26 Try.sizeOf2 rfl rfl k316 (z1 _)) ?_
          refine AO.c rfl (s_load Try.isAgg2 rfl (row_cell (S315.get (k := 0) rfl) (ints_get (lt_len (rw_len a_a0_1 (lt_len rfl (inR_lt k308))) (inR_lt k316))))) ?_
          refine AO.p rfl (p_assign rfl) ?_
          refine AO.nil ?_
          refine AX.seq ?_
          refine AX.seq ?_
          refine AX.region ?_
          refine AO.p rfl (p_move rfl) ?_
          refine AO.c rfl (s_load Try.isAgg2 rfl (row_cell (S315.get (k := 1) rfl) rfl)) ?_
          refine AO.p rfl (p_eql rfl rfl) ?_
          refine AO.nil ?_
          obtain ⟨r324, hb325, hd326⟩ := bnd_some hd317
          refine AX.cutQ (fun t' H' => ∃ (x323 : Int), x323 = r324 ∧ St [] H H' [[(i105, AObj.row false ([.int .i64 a1]))], oseg p234 (ints xs236)] ∧ Am.Sub [(3, .pointer (some ⟨i105, 0, none⟩)), (7, .slice p234 xs236.length c235), (10, .int .i64 x323), (19, .slice p_a0_1 a0_1.length c_a0_1), (20, .int .i64 ((a0_1.length : Nat) : Int)), (21, .int .i64 x237)] t') ?_ ?_
          · skip
            refine AX.cond rfl (fun c327 => ?_) (fun c327 => ?_)
            · have hd328 := bif_t c327 hb325
              refine AX.region ?_
              refine AO.p rfl (p_assign rfl) ?_
              refine AO.nil ?_
              have S329 := S315.front 2 rfl
              have S330 := S329.front 2 rfl
              have S331 := S330.keep 2
              exact ⟨(-1), (some_inj hd328), S331, Sub.cons' rfl rfl (Sub.cons' rfl rfl (Sub.cons' rfl rfl (Sub.cons' rfl rfl (Sub.cons' rfl rfl (Sub.cons' rfl rfl (Sub.nil _))))))⟩
            · have hd332 := bif_f c327 hb325
              refine AX.skip ?_
              have S333 := S315.front 2 rfl
              have S334 := S333.front 2 rfl
              have S335 := S334.keep 2
              exact ⟨(rd (rw_ a0_1 x237.toNat) a1.toNat), (some_inj hd332), S335, Sub.cons' rfl rfl (Sub.cons' rfl rfl (Sub.cons' rfl rfl (Sub.cons' rfl rfl (Sub.cons' rfl rfl (Sub.cons' rfl rfl (Sub.nil _))))))⟩
          · rintro t' G337 ⟨x323, rfl, S336, hsub338⟩
            refine AX.sub hsub338 ?_
            refine AX.region ?_
            refine AO.p rfl (p_move rfl) ?_
            refine AO.p rfl (p_move rfl) ?_
            obtain ⟨G339, i340, hii340, hHG339, S341⟩ := S336.new (.row false (ints [x323]))
            refine AO.c rfl (s_buildInts (i := i340) (vs := [(0, .int .i64 x323)]) (xs := [x323]) Try.underlying69 Try.sizeOf2 Try.zeroValue2 rfl rfl (by decide) rfl rfl hii340 hHG339) ?_
            obtain ⟨k343, hd344⟩ := chk_some hd326
            obtain ⟨p345, c346, G347, haG347, S348, Bp345⟩ := S341.app (k := 2) rfl Bo233 (ints [x323]) 1 (ints_len1 rfl)
            have S349 := S348.cellsEq (k := 2) (us' := ints (xs236 ++ [x323])) (ints_app _ _) rfl
            have BS349 : Sb p345 ((xs236 ++ [x323]).length) c346 1 := (show xs236.length + 1 = (xs236 ++ [x323]).length from len_app (a := xs236) (b := [x323]) rfl rfl) ▸ Bp345
            have S350 := S349.drop 0 rfl
            refine AO.c rfl (s_app (by_ := 8) (us := ints xs236) (vs := ints [x323]) Try.underlying69 Try.underlying69 Try.typeInfo2 Try.sizeOf2 Try.zeroValue2 rfl rfl rfl rfl rfl rfl rfl (S341.buf (k := 2) rfl Bo233 (ints_len1 rfl)) (S341.oview (k := 0) rfl (Sb.lit (n := 1) (by decide)) (ints_len1 rfl)) (ints_len1 rfl) ints_one k343 haG347 (show xs236.length + 1 = (xs236 ++ [x323]).length from len_app (a := xs236) (b := [x323]) rfl rfl)) ?_
            refine AO.p rfl (p_assign rfl) ?_
            refine AO.nil ?_
            refine AX.region ?_
            obtain ⟨k351, hd352⟩ := chk_some hd344
            refine AO.p rfl (p_addE rfl rfl k351) ?_
            refine AO.p rfl (p_move rfl) ?_
            refine AO.nil ?_
            obtain rfl := some_inj hd352
            have S354 := S350.front 1 rfl
            have S355 := S354.front 1 rfl
            exact ⟨((xs236 ++ [x323]), x237 + 1), hk301, (xs236 ++ [x323]), (x237 + 1), p345, c346, rfl, S355, BS349, Sub.cons' rfl rfl (Sub.cons' rfl rfl (Sub.cons' rfl rfl (Sub.cons' rfl rfl (Sub.cons' rfl rfl (Sub.nil _)))))⟩
        · have hd356 := bif_f c306 ho300
          refine AX.exit ?_
          obtain rfl := some_inj hd356
          have S357 := S302.front 1 rfl
          have S358 := S357.keep 1
          exact ⟨xs236, p234, c235, hk301, S358, Bo233, Sub.cons' rfl rfl (Sub.nil _)⟩
    · rintro t' G360 ⟨xs292, p290, c291, rfl, S359, Bo289, hsub361⟩
      refine AX.sub hsub361 ?_
      refine AX.seq ?_
      refine AX.region ?_
      refine AO.p rfl (p_move rfl) ?_
      refine AO.p rfl (p_assign rfl) ?_
      refine AO.p rfl (p_assign rfl) ?_
      refine AO.nil ?_
      refine AX.ret ?_
      obtain ⟨rfl, rfl⟩ := Prod.mk.inj (some_inj hd295)
      have S363 := S359.front 0 rfl
      exact ⟨.inr rfl, _, res2 rfl (rv_tmp rfl) (rv_tmp rfl), p290, c291, rfl, S363, Bo289⟩

set_option maxHeartbeats 4000000 in
theorem W_spec_RoundsBetween (fu : Nat) (H : AHeap) (a0_0 : Int) (p_a0_1 : Option Addr) (c_a0_1 : Nat) (a0_1 : List (List Int)) (a_a0_1 : All 14 a0_1) (v_a0_1 : Vw H p_a0_1 a0_1.length c_a0_1 (ints a0_1.flatten)) (a1 : Int) (a2 : Int) (r0 : List Int) (r1 : Int) (hd : D_spec_RoundsBetween fu a0_0 a0_1 a1 a2 = some (r0, r1)) : ∃ v G', ACall Try.prog 58 [.agg [.int .i64 a0_0, .slice p_a0_1 a0_1.length c_a0_1].toArray, .int .i64 a1, .int .i64 a2] H v G' ∧ ∃ (p_r0 : Option Addr) (c_r0 : Nat), (v = .tuple #[.slice p_r0 r0.length c_r0, .int .i64 r1]) ∧ St [] H G' [oseg p_r0 (ints r0)] ∧ Sb p_r0 r0.length c_r0 1 := by
  refine ACall.bodyX (args := [.agg [.int .i64 a0_0, .slice p_a0_1 a0_1.length c_a0_1].toArray, .int .i64 a1, .int .i64 a2]) (N := 48) [(0, .agg [.int .i64 a0_0, .slice p_a0_1 a0_1.length c_a0_1].toArray), (1, .int .i64 a1), (2, .int .i64 a2)] (fun v G' => ∃ (p_r0 : Option Addr) (c_r0 : Nat), (v = .tuple #[.slice p_r0 r0.length c_r0, .int .i64 r1]) ∧ St [] H G' [oseg p_r0 (ints r0)] ∧ Sb p_r0 r0.length c_r0 1) Try.func58 rfl rfl rfl rfl ?_
  unfold D_spec_RoundsBetween at hd
  have S0 : St [] H H [] := St.nil H
  refine AX.seq ?_
  refine AX.region ?_
  obtain ⟨G100, i101, hii101, hHG100, S102⟩ := S0.new (.row false ([.int .i64 a0_0, .slice p_a0_1 a0_1.length c_a0_1]))
  refine AO.c rfl (s_box (i := i101) (cs := [.int .i64 a0_0, .slice p_a0_1 a0_1.length c_a0_1]) rfl hii101 rfl hHG100) ?_
  refine AO.p rfl (p_assign rfl) ?_
  refine AO.p rfl (p_assign rfl) ?_
  refine AO.nil ?_
  refine AX.seq ?_
  refine AX.region ?_
  refine AO.c rfl (s_loadN (vs := [.int .i64 a0_0, .slice p_a0_1 a0_1.length c_a0_1]) Try.isAgg33 Try.sizeOf33 rfl rfl (row_cells (S102.get (k := 0) rfl))) ?_
  refine AO.p rfl (p_move rfl) ?_
  refine AO.p rfl (p_move rfl) ?_
  obtain ⟨G104, i105, hii105, hHG104, S106⟩ := S102.new (.row false (ints [a1, a2]))
  refine AO.c rfl (s_buildInts (i := i105) (vs := [(0, .int .i64 a1), (1, .int .i64 a2)]) (xs := [a1, a2]) Try.underlying69 Try.sizeOf2 Try.zeroValue2 rfl rfl (by decide) rfl rfl hii105 hHG104) ?_
  obtain ⟨x108, h109, hd110⟩ := bnd_some hd
  refine AO.c rfl (o_call (vs := [.agg [.int .i64 a0_0, .slice p_a0_1 a0_1.length c_a0_1].toArray, .slice (some (Addr.mk i105 0 none)) 2 2]) rfl Try.call110 (by have h' := W_spec_l01Teams fu G104 a0_0 p_a0_1 c_a0_1 a0_1 a_a0_1 (S106.view v_a0_1) (some (Addr.mk i105 0 none)) 2 [a1, a2] (by rw [show List.length [a1, a2] = 2 from rfl]; exact (S106.oview (k := 0) rfl (Sb.lit (n := 2) (by decide)) (ints_len1 rfl))) x108 h109; rw [show List.length [a1, a2] = 2 from rfl] at h'; exact h')) ?_
  refine AO.p rfl (p_assign rfl) ?_
  refine AO.nil ?_
  refine AX.seq ?_
  refine AX.cut (fun t' H' => G104 = H' ∧ Am.Sub [(1, .int .i64 a1), (2, .int .i64 a2), (3, .pointer (some ⟨i101, 0, none⟩)), (8, .int .i64 x108), (22, .bool ((decide (x108 = 0)) && (decide (a1 = a2))))] t') ?_ ?_
  · skip
    refine AX.region ?_
    refine AO.p rfl (p_move rfl) ?_
    refine AO.p rfl (p_eql rfl rfl) ?_
    refine AO.p rfl (p_move rfl) ?_
    refine AO.cases (d := 18) rfl (fun c115 => ?_) (fun c115 => ?_)
    · skip
      refine AO.gp rfl rfl rfl (p_move rfl) ?_
      refine AO.gp rfl rfl rfl (p_move rfl) ?_
      refine AO.gp rfl rfl rfl (p_eql rfl rfl) ?_
      refine AO.p rfl (p_pickT rfl rfl) ?_
      refine AO.nil ?_
      exact ⟨rfl, Sub.cons' rfl rfl (Sub.cons' rfl rfl (Sub.cons' rfl rfl (Sub.cons' rfl rfl (Sub.cons' rfl (bool_eq (by simp only [c115, Bool.true_and, Bool.false_and, Bool.and_true, Bool.and_false, Bool.true_or, Bool.false_or, Bool.or_true, Bool.or_false, Bool.not_true, Bool.not_false, cond_true, cond_false])) (Sub.nil _)))))⟩
    · skip
      refine AO.gn rfl rfl rfl ?_
      refine AO.gn rfl rfl rfl ?_
      refine AO.gn rfl rfl rfl ?_
      refine AO.p rfl (p_pickF rfl rfl) ?_
      refine AO.nil ?_
      exact ⟨rfl, Sub.cons' rfl rfl (Sub.cons' rfl rfl (Sub.cons' rfl rfl (Sub.cons' rfl rfl (Sub.cons' rfl (bool_eq (by simp only [c115, Bool.true_and, Bool.false_and, Bool.and_true, Bool.and_false, Bool.true_or, Bool.false_or, Bool.or_true, Bool.or_false, Bool.not_true, Bool.not_false, cond_true, cond_false])) (Sub.nil _)))))⟩
  · rintro t' _ ⟨rfl, hsub116⟩
    refine AX.sub hsub116 ?_
    obtain ⟨r122, hb123, hd124⟩ := bnd_some hd110
    refine AX.cutQ (fun t' H' => ∃ (x121 : Int), x121 = r122 ∧ St [] H H' [[(i101, AObj.row false ([.int .i64 a0_0, .slice p_a0_1 a0_1.length c_a0_1]))]] ∧ Am.Sub [(1, .int .i64 a1), (2, .int .i64 a2), (3, .pointer (some ⟨i101, 0, none⟩)), (8, .int .i64 x121)] t') ?_ ?_
    · skip
      refine AX.cond rfl (fun c125 => ?_) (fun c125 => ?_)
      · have hd126 := bif_t c125 hb123
        refine AX.region ?_
        refine AO.p rfl (p_assign rfl) ?_
        refine AO.nil ?_
        have S127 := S106.front 1 rfl
        have S128 := S127.keep 1
        exact ⟨2, (some_inj hd126), S128, Sub.cons' rfl rfl (Sub.cons' rfl rfl (Sub.cons' rfl rfl (Sub.cons' rfl rfl (Sub.nil _))))⟩
      · have hd129 := bif_f c125 hb123
        refine AX.skip ?_
        have S130 := S106.front 1 rfl
        have S131 := S130.keep 1
        exact ⟨x108, (some_inj hd129), S131, Sub.cons' rfl rfl (Sub.cons' rfl rfl (Sub.cons' rfl rfl (Sub.cons' rfl rfl (Sub.nil _))))⟩
    · rintro t' G133 ⟨x121, rfl, S132, hsub134⟩
      refine AX.sub hsub134 ?_
      refine AX.seq ?_
      refine AX.seq ?_
      refine AX.region ?_
      refine AO.p rfl (p_move rfl) ?_
      refine AO.p rfl (p_neq rfl rfl) ?_
      refine AO.nil ?_
      refine AX.cond rfl (fun c135 => ?_) (fun c135 => ?_)
      · have hd136 := bif_t c135 hd124
        refine AX.seq ?_
        refine AX.region ?_
        refine AO.p rfl (p_move rfl) ?_
        refine AO.p rfl (p_assign rfl) ?_
        refine AO.p rfl (p_assign rfl) ?_
        refine AO.nil ?_
        refine AX.ret ?_
        obtain ⟨rfl, rfl⟩ := Prod.mk.inj (some_inj hd136)
        have S138 : St [] H G133 (oseg none (ints []) :: _) := S132.nilseg 0
        have S139 := S138.keep 1
        exact ⟨.inr rfl, _, res2 rfl (rv_tmp rfl) (rv_tmp rfl), none, 0, rfl, S139, Sb.nil⟩
      · have hd140 := bif_f c135 hd124
        refine AX.skip ?_
        refine AX.seq ?_
        refine AX.region ?_
        obtain ⟨G141, i142, hii142, hHG141, S143⟩ := S132.new (.row false (ints []))
        refine AO.c rfl (s_build0 (i := i142) Try.underlying69 Try.sizeOf2 hii142 hHG141) ?_
        refine AO.p rfl (p_assign rfl) ?_
        refine AO.nil ?_
        refine AX.seq ?_
        refine AX.seq ?_
        refine AX.region ?_
        refine AO.p rfl (p_assign rfl) ?_
        refine AO.nil ?_
        obtain ⟨r250, hl251, hd252⟩ := bnd_some hd140
        refine AX.cutQ (fun t' H' => ∃ (xs249 : List Int) (p247 : Option Addr) (c248 : Nat), xs249 = r250 ∧ St [] H H' [oseg p247 (ints xs249)] ∧ Sb p247 (xs249.length) c248 1 ∧ Am.Sub [(9, .slice p247 xs249.length c248)] t') ?_ ?_
        · refine AX.block ?_
          refine AX.loopF (fun s' t' H' => ∃ (xs215 : List Int) (x216 : Int) (p213 : Option Addr) (c214 : Nat), (xs215, x216) = s' ∧ St [] H H' [[(i101, AObj.row false ([.int .i64 a0_0, .slice p_a0_1 a0_1.length c_a0_1]))], oseg p213 (ints xs215)] ∧ Sb p213 (xs215.length) c214 1 ∧ Am.Sub [(1, .int .i64 a1), (2, .int .i64 a2), (3, .pointer (some ⟨i101, 0, none⟩)), (9, .slice p213 xs215.length c214), (10, .int .i64 x216)] t') hl251 ?_ ?_
          · skip
            have S253 := S143.front 0 rfl
            have S254 := S253.front 1 rfl
            exact ⟨[], 0, (some (Addr.mk i142 0 none)), 0, rfl, S254, (Sb.lit (n := 0) (by decide)), Sub.cons' rfl rfl (Sub.cons' rfl rfl (Sub.cons' rfl rfl (Sub.cons' rfl rfl (Sub.cons' rfl rfl (Sub.nil _)))))⟩
          · rintro n255 _ t' G259 ⟨xs215, x216, p213, c214, rfl, S258, Bo212, hsub260⟩ o261 ho256 hk257
            refine AX.sub hsub260 ?_
            unfold D_spec_RoundsBetween_s0 at ho256
            refine AX.seq ?_
            refine AX.seq ?_
            refine AX.region ?_
            refine AO.p rfl (p_move rfl) ?_
            refine AO.p rfl (s_fieldAddr Try.underlying33 rfl Try.sizeOf31 (by decide) rfl rfl) ?_
            refine AO.c rfl (s_load Try.isAgg31 rfl (row_cell (S258.get (k := 0) rfl) rfl)) ?_
            refine AO.p rfl (p_len_slice rfl Try.underlying31) ?_
            refine AO.p rfl (p_lss rfl rfl) ?_
            refine AO.nil ?_
            refine AX.cond rfl (fun c262 => ?_) (fun c262 => ?_)
            · have hd263 := bif_t c262 ho256
              refine AX.skip ?_
              refine AX.seq ?_
              refine AX.block ?_
              refine AX.seq ?_
              refine AX.region ?_
              refine AO.p rfl (s_fieldAddr Try.underlying33 rfl Try.sizeOf31 (by decide) rfl rfl) ?_
              refine AO.c rfl (s_load Try.isAgg31 rfl (row_cell (S258.get (k := 0) rfl) rfl)) ?_
              refine AO.p rfl (p_move rfl) ?_
              refine AO.p rfl (p_move rfl) ?_
              obtain ⟨k264, hd265⟩ := chk_some hd263
              refine AO.p rfl (s_indexV (q := off p_a0_1 + x216.toNat * 14) Try.underlying31 Try.sizeOf26 rfl ((S258.view v_a0_1).rowne a_a0_1 (by decide) (lt_len rfl (inR_lt k264))) rfl k264 rfl) ?_
              obtain ⟨k266, hd267⟩ := chk_some hd265
              refine AO.p rfl (s_indexAr (q := off p_a0_1 + x216.toNat * 14 + a1.toNat) Try.underlying26 Try.sizeOf2 rfl rfl k266 (o1 _ _)) ?_
              refine AO.c rfl (s_load Try.isAgg2 rfl ((S258.view v_a0_1).row a_a0_1 (lt_len rfl (inR_lt k264)) _ _ (ints_get (lt_len (rw_len a_a0_1 (lt_len rfl (inR_lt k264))) (inR_lt k266))))) ?_
              refine AO.p rfl (p_move rfl) ?_
              refine AO.p rfl (p_eql rfl rfl) ?_
              refine AO.nil ?_
              refine AX.cond rfl (fun c268 => ?_) (fun c268 => ?_)
              · have hd269 := bif_t c268 hd267
                refine AX.region ?_
                refine AO.p rfl (p_move rfl) ?_
                refine AO.p rfl (p_move rfl) ?_
                obtain ⟨G270, i271, hii271, hHG270, S272⟩ := S258.new (.row false (ints [x216]))
                refine AO.c rfl (s_buildInts (i := i271) (vs := [(0, .int .i64 x216)]) (xs := [x216]) Try.underlying69 Try.sizeOf2 Try.zeroValue2 rfl rfl (by decide) rfl rfl hii271 hHG270) ?_
                obtain ⟨k274, hd275⟩ := chk_some hd269
                obtain ⟨p276, c277, G278, haG278, S279, Bp276⟩ := S272.app (k := 2) rfl Bo212 (ints [x216]) 1 (ints_len1 rfl)
                have S280 := S279.cellsEq (k := 2) (us' := ints (xs215 ++ [x216])) (ints_app _ _) rfl
                have BS280 : Sb p276 ((xs215 ++ [x216]).length) c277 1 := (show xs215.length + 1 = (xs215 ++ [x216]).length from len_app (a := xs215) (b := [x216]) rfl rfl) ▸ Bp276
                have S281 := S280.drop 0 rfl
                refine AO.c rfl (s_app (by_ := 8) (us := ints xs215) (vs := ints [x216]) Try.underlying69 Try.underlying69 Try.typeInfo2 Try.sizeOf2 Try.zeroValue2 rfl rfl rfl rfl rfl rfl rfl (S272.buf (k := 2) rfl Bo212 (ints_len1 rfl)) (S272.oview (k := 0) rfl (Sb.lit (n := 1) (by decide)) (ints_len1 rfl)) (ints_len1 rfl) ints_one k274 haG278 (show xs215.length + 1 = (xs215 ++ [x216]).length from len_app (a := xs215) (b := [x216]) rfl rfl)) ?_
                refine AO.p rfl (p_assign rfl) ?_
                refine AO.nil ?_
                refine AX.region ?_
                refine AO.p rfl (p_move rfl) ?_
                obtain ⟨k282, hd283⟩ := chk_some hd275
                refine AO.p rfl (p_addE rfl rfl k282) ?_
                refine AO.p rfl (p_assign rfl) ?_
                refine AO.nil ?_
                obtain rfl := some_inj hd283
                have S285 := S281.front 1 rfl
                have S286 := S285.front 1 rfl
                exact ⟨((xs215 ++ [x216]), x216 + 1), hk257, (xs215 ++ [x216]), (x216 + 1), p276, c277, rfl, S286, BS280, Sub.cons' rfl rfl (Sub.cons' rfl rfl (Sub.cons' rfl rfl (Sub.cons' rfl rfl (Sub.cons' rfl rfl (Sub.nil _)))))⟩
              · have hd287 := bif_f c268 hd267
                refine AX.skip ?_
                refine AX.region ?_
                refine AO.p rfl (p_move rfl) ?_
                obtain ⟨k288, hd289⟩ := chk_some hd287
                refine AO.p rfl (p_addE rfl rfl k288) ?_
                refine AO.p rfl (p_assign rfl) ?_
                refine AO.nil ?_
                obtain rfl := some_inj hd289
                have S291 := S258.front 1 rfl
                have S292 := S291.front 1 rfl
                exact ⟨(xs215, x216 + 1), hk257, xs215, (x216 + 1), p213, c214, rfl, S292, Bo212, Sub.cons' rfl rfl (Sub.cons' rfl rfl (Sub.cons' rfl rfl (Sub.cons' rfl rfl (Sub.cons' rfl rfl (Sub.nil _)))))⟩
            · have hd293 := bif_f c262 ho256
              refine AX.exit ?_
              obtain rfl := some_inj hd293
              have S294 := S258.front 1 rfl
              have S295 := S294.keep 1
              exact ⟨xs215, p213, c214, hk257, S295, Bo212, Sub.cons' rfl rfl (Sub.nil _)⟩
        · rintro t' G297 ⟨xs249, p247, c248, rfl, S296, Bo246, hsub298⟩
          refine AX.sub hsub298 ?_
          refine AX.seq ?_
          refine AX.region ?_
          refine AO.p rfl (p_move rfl) ?_
          refine AO.p rfl (p_assign rfl) ?_
          refine AO.p rfl (p_assign rfl) ?_
          refine AO.nil ?_
          refine AX.ret ?_
          obtain ⟨rfl, rfl⟩ := Prod.mk.inj (some_inj hd252)
          have S300 := S296.front 0 rfl
          exact ⟨.inr rfl, _, res2 rfl (rv_tmp rfl) (rv_tmp rfl), p247, c248, rfl, S300, Bo246⟩

set_option maxHeartbeats 4000000 in
theorem W_impl_RoundsBetween_1 (fu : Nat) (H : AHeap) (i_b0 : Nat) (ro_b0 : Bool) (b0_0 : Int) (p_b0_1 : Option Addr) (c_b0_1 : Nat) (b0_1 : List (List Int)) (a_b0_1 : All 14 b0_1) (v_b0_1 : Vw H p_b0_1 b0_1.length c_b0_1 (ints b0_1.flatten)) (o_b0 : hget H i_b0 = .row ro_b0 ([.int .i64 b0_0, .slice p_b0_1 b0_1.length c_b0_1])) (i_b1 : Nat) (ro_b1 : Bool) (b1_0 : Int) (o_b1 : hget H i_b1 = .row ro_b1 ([.int .i64 b1_0])) (i_b2 : Nat) (ro_b2 : Bool) (b2_0 : Int) (o_b2 : hget H i_b2 = .row ro_b2 ([.int .i64 b2_0])) (r0 : Bool) (hd : D_impl_RoundsBetween_1 fu b0_0 b0_1 b1_0 b2_0 = some r0) : ACall Try.prog 113 [.pointer (some ⟨i_b0, 0, none⟩), .pointer (some ⟨i_b1, 0, none⟩), .pointer (some ⟨i_b2, 0, none⟩)] H (.bool r0) H := by
  refine ACall.bodyP (N := 17) [(0, .pointer (some ⟨i_b0, 0, none⟩)), (1, .pointer (some ⟨i_b1, 0, none⟩)), (2, .pointer (some ⟨i_b2, 0, none⟩))] Try.func113 rfl rfl rfl rfl ?_
  unfold D_impl_RoundsBetween_1 at hd
  have S0 : St [] H H [] := St.nil H
  refine AX.seq ?_
  refine AX.region ?_
  refine AO.p rfl (p_assign rfl) ?_
  refine AO.nil ?_
  obtain ⟨r115, hb116, hd117⟩ := bnd_some hd
  refine AX.cut (fun t' H' => ∃ (b114 : Bool), b114 = r115 ∧ St [] H H' [] ∧ Am.Sub [(3, .bool b114)] t') ?_ ?_
  · skip
    refine AX.region ?_
    refine AO.c rfl (s_loadN (vs := [.int .i64 b0_0, .slice p_b0_1 b0_1.length c_b0_1]) Try.isAgg33 Try.sizeOf33 rfl rfl (row_cells (S0.old o_b0 (by simp)))) ?_
    refine AO.c rfl (s_load Try.isAgg2 rfl (row_cell (S0.old o_b1 (by simp)) rfl)) ?_
    obtain ⟨b118, h119, hd120⟩ := bnd_some hb116
    refine AO.c rfl (o_call (vs := [.agg [.int .i64 b0_0, .slice p_b0_1 b0_1.length c_b0_1].toArray, .int .i64 b1_0]) rfl Try.call112 (W_impl_Schedule_hasTeam fu H b0_0 p_b0_1 c_b0_1 b0_1 a_b0_1 (S0.view v_b0_1) b1_0 b118 h119)) ?_
    refine AO.p rfl (p_move rfl) ?_
    refine AO.cases (d := 7) rfl (fun c122 => ?_) (fun c122 => ?_)
    · have hd123 := bif_t c122 hd120
      refine AO.gc rfl rfl rfl (s_loadN (vs := [.int .i64 b0_0, .slice p_b0_1 b0_1.length c_b0_1]) Try.isAgg33 Try.sizeOf33 rfl rfl (row_cells (S0.old o_b0 (by simp)))) ?_
      refine AO.gc rfl rfl rfl (s_load Try.isAgg2 rfl (row_cell (S0.old o_b2 (by simp)) rfl)) ?_
      obtain ⟨b124, h125, hd126⟩ := bnd_some hd123
      refine AO.gc rfl rfl rfl (o_call (vs := [.agg [.int .i64 b0_0, .slice p_b0_1 b0_1.length c_b0_1].toArray, .int .i64 b2_0]) rfl Try.call112 (W_impl_Schedule_hasTeam fu H b0_0 p_b0_1 c_b0_1 b0_1 a_b0_1 (S0.view v_b0_1) b2_0 b124 h125)) ?_
      refine AO.p rfl (p_pickT rfl rfl) ?_
      refine AO.p rfl (p_move rfl) ?_
      refine AO.cases (d := 12) rfl (fun c128 => ?_) (fun c128 => ?_)
      · have hd129 := bif_t c128 hd126
        refine AO.gc rfl rfl rfl (s_load Try.isAgg2 rfl (row_cell (S0.old o_b1 (by simp)) rfl)) ?_
        refine AO.gc rfl rfl rfl (s_load Try.isAgg2 rfl (row_cell (S0.old o_b2 (by simp)) rfl)) ?_
        refine AO.gp rfl rfl rfl (p_neq rfl rfl) ?_
        refine AO.p rfl (p_pickT rfl rfl) ?_
        refine AO.p rfl (p_assign rfl) ?_
        refine AO.nil ?_
        exact ⟨(!decide (b1_0 = b2_0)), (some_inj hd129), S0, Sub.cons' rfl rfl (Sub.nil _)⟩
      · have hd130 := bif_f c128 hd126
        refine AO.gn rfl rfl rfl ?_
        refine AO.gn rfl rfl rfl ?_
        refine AO.gn rfl rfl rfl ?_
        refine AO.p rfl (p_pickF rfl rfl) ?_
        refine AO.p rfl (p_assign rfl) ?_
        refine AO.nil ?_
        exact ⟨false, (some_inj hd130), S0, Sub.cons' rfl rfl (Sub.nil _)⟩
    · have hd131 := bif_f c122 hd120
      refine AO.gn rfl rfl rfl ?_
      refine AO.gn rfl rfl rfl ?_
      refine AO.gn rfl rfl rfl ?_
      refine AO.p rfl (p_pickF rfl rfl) ?_
      refine AO.p rfl (p_move rfl) ?_
      refine AO.gn rfl rfl rfl ?_
      refine AO.gn rfl rfl rfl ?_
      refine AO.gn rfl rfl rfl ?_
      refine AO.p rfl (p_pickF rfl rfl) ?_
      refine AO.p rfl (p_assign rfl) ?_
      refine AO.nil ?_
      exact ⟨false, (some_inj hd131), S0, Sub.cons' rfl rfl (Sub.nil _)⟩
  · rintro t' G133 ⟨b114, rfl, S132, hsub134⟩
    refine AX.sub hsub134 ?_
    refine AX.ret ?_
    obtain rfl := some_inj hd117
    exact ⟨.inr rfl, _, res1 rfl (rv_tmp rfl), rfl, (flatB_ok rfl), S132.hold⟩

set_option maxHeartbeats 4000000 in
theorem W_impl_RoundsBetween (fu : Nat) (H : AHeap) (a0_0 : Int) (p_a0_1 : Option Addr) (c_a0_1 : Nat) (a0_1 : List (List Int)) (a_a0_1 : All 14 a0_1) (v_a0_1 : Vw H p_a0_1 a0_1.length c_a0_1 (ints a0_1.flatten)) (a1 : Int) (a2 : Int) (r0 : List Int) (r1 : Int) (hd : D_impl_RoundsBetween fu a0_0 a0_1 a1 a2 = some (r0, r1)) : ∃ v G', ACall Try.prog 59 [.agg [.int .i64 a0_0, .slice p_a0_1 a0_1.length c_a0_1].toArray, .int .i64 a1, .int .i64 a2] H v G' ∧ ∃ (p_r0 : Option Addr) (c_r0 : Nat), (v = .tuple #[.slice p_r0 r0.length c_r0, .int .i64 r1]) ∧ St [] H G' [oseg p_r0 (ints r0)] ∧ Sb p_r0 r0.length c_r0 1 := by
  refine ACall.bodyX (args := [.agg [.int .i64 a0_0, .slice p_a0_1 a0_1.length c_a0_1].toArray, .int .i64 a1, .int .i64 a2]) (N := 38) [(0, .agg [.int .i64 a0_0, .slice p_a0_1 a0_1.length c_a0_1].toArray), (1, .int .i64 a1), (2, .int .i64 a2)] (fun v G' => ∃ (p_r0 : Option Addr) (c_r0 : Nat), (v = .tuple #[.slice p_r0 r0.length c_r0, .int .i64 r1]) ∧ St [] H G' [oseg p_r0 (ints r0)] ∧ Sb p_r0 r0.length c_r0 1) Try.func59 rfl rfl rfl rfl ?_
  unfold D_impl_RoundsBetween at hd
  have S0 : St [] H H [] := St.nil H
  refine AX.seq ?_
  refine AX.region ?_
  obtain ⟨G100, i101, hii101, hHG100, S102⟩ := S0.new (.row false ([.int .i64 a0_0, .slice p_a0_1 a0_1.length c_a0_1]))
  refine AO.c rfl (s_box (i := i101) (cs := [.int .i64 a0_0, .slice p_a0_1 a0_1.length c_a0_1]) rfl hii101 rfl hHG100) ?_
  obtain ⟨G104, i105, hii105, hHG104, S106⟩ := S102.new (.row false ([.int .i64 a1]))
  refine AO.c rfl (s_box (i := i105) (cs := [.int .i64 a1]) rfl hii105 rfl hHG104) ?_
  obtain ⟨G108, i109, hii109, hHG108, S110⟩ := S106.new (.row false ([.int .i64 a2]))
  refine AO.c rfl (s_box (i := i109) (cs := [.int .i64 a2]) rfl hii109 rfl hHG108) ?_
  refine AO.p rfl (p_assign rfl) ?_
  refine AO.p rfl (p_assign rfl) ?_
  refine AO.nil ?_
  refine AX.seq ?_
  refine AX.seq ?_
  refine AX.region ?_
  refine AO.c rfl (s_loadN (vs := [.int .i64 a0_0, .slice p_a0_1 a0_1.length c_a0_1]) Try.isAgg33 Try.sizeOf33 rfl rfl (row_cells (S110.get (k := 2) rfl))) ?_
  refine AO.p rfl (p_makeFunc (fs := []) (cs := [.pointer (some ⟨i101, 0, none⟩), .pointer (some ⟨i105, 0, none⟩), .pointer (some ⟨i109, 0, none⟩)]) rfl rfl) ?_
  obtain ⟨x112, h113, hd114⟩ := bnd_some hd
  refine AO.c rfl (o_call (vs := [.agg [.int .i64 a0_0, .slice p_a0_1 a0_1.length c_a0_1].toArray, .func (.func 113) #[] #[.pointer (some ⟨i101, 0, none⟩), .pointer (some ⟨i105, 0, none⟩), .pointer (some ⟨i109, 0, none⟩)]]) rfl Try.call103 (W_impl_scheduleCode fu G108 a0_0 p_a0_1 c_a0_1 a0_1 a_a0_1 (S110.view v_a0_1) 113 #[] #[.pointer (some ⟨i101, 0, none⟩), .pointer (some ⟨i105, 0, none⟩), .pointer (some ⟨i109, 0, none⟩)] (fun _ => D_impl_RoundsBetween_1 fu a0_0 a0_1 a1 a2) Try.call113 (fun G' hG  b' hb' => W_impl_RoundsBetween_1 fu G' i101 false a0_0 p_a0_1 c_a0_1 a0_1 a_a0_1 (hG.view (S110.view v_a0_1)) (hG.get (S110.get (k := 2) rfl)) i105 false a1 (hG.get (S110.get (k := 1) rfl)) i109 false a2 (hG.get (S110.get (k := 0) rfl)) b' hb') x112 h113)) ?_
  refine AO.p rfl (p_assign rfl) ?_
  refine AO.nil ?_
  refine AX.seq ?_
  refine AX.region ?_
  refine AO.p rfl (p_move rfl) ?_
  refine AO.p rfl (p_neq rfl rfl) ?_
  refine AO.nil ?_
  refine AX.cond rfl (fun c116 => ?_) (fun c116 => ?_)
  · have hd117 := bif_t c116 hd114
    refine AX.seq ?_
    refine AX.region ?_
    refine AO.p rfl (p_move rfl) ?_
    refine AO.p rfl (p_assign rfl) ?_
    refine AO.p rfl (p_assign rfl) ?_
    refine AO.nil ?_
    refine AX.ret ?_
    obtain ⟨rfl, rfl⟩ := Prod.mk.inj (some_inj hd117)
    have S119 : St [] H G108 (oseg none (ints []) :: _) := S110.nilseg 0
    have S120 := S119.keep 1
    exact ⟨.inr rfl, _, res2 rfl (rv_tmp rfl) (rv_tmp rfl), none, 0, rfl, S120, Sb.nil⟩
  · have hd121 := bif_f c116 hd114
    refine AX.skip ?_
    refine AX.seq ?_
    refine AX.region ?_
    obtain ⟨G122, i123, hii123, hHG122, S124⟩ := S110.new (.row false (ints []))
    refine AO.c rfl (s_build0 (i := i123) Try.underlying69 Try.sizeOf2 hii123 hHG122) ?_
    refine AO.p rfl (p_assign rfl) ?_
    refine AO.nil ?_
    refine AX.seq ?_
    refine AX.seq ?_
    refine AX.region ?_
    refine AO.p rfl (s_fieldAddr Try.underlying33 rfl Try.sizeOf31 (by decide) rfl rfl) ?_
    refine AO.c rfl (s_load Try.isAgg31 rfl (row_cell (S124.get (k := 3) rfl) rfl)) ?_
    refine AO.p rfl (p_len_slice rfl Try.underlying31) ?_
    refine AO.p rfl (p_move rfl) ?_
    refine AO.nil ?_
    obtain ⟨r252, hl253, hd254⟩ := bnd_some hd121
    refine AX.cutQ (fun t' H' => ∃ (xs251 : List Int) (p249 : Option Addr) (c250 : Nat), xs251 = r252 ∧ St [] H H' [oseg p249 (ints xs251)] ∧ Sb p249 (xs251.length) c250 1 ∧ Am.Sub [(9, .slice p249 xs251.length c250)] t') ?_ ?_
    · refine AX.block ?_
      refine AX.loopF (fun s' t' H' => ∃ (xs211 : List Int) (x212 : Int) (p209 : Option Addr) (c210 : Nat), (xs211, x212) = s' ∧ St [] H H' [[(i105, AObj.row false ([.int .i64 a1]))], [(i109, AObj.row false ([.int .i64 a2]))], oseg p209 (ints xs211)] ∧ Sb p209 (xs211.length) c210 1 ∧ Am.Sub [(4, .pointer (some ⟨i105, 0, none⟩)), (5, .pointer (some ⟨i109, 0, none⟩)), (9, .slice p209 xs211.length c210), (20, .slice p_a0_1 a0_1.length c_a0_1), (21, .int .i64 ((a0_1.length : Nat) : Int)), (22, .int .i64 x212)] t') hl253 ?_ ?_
      · skip
        have S255 := S124.front 0 rfl
        have S256 := S255.front 1 rfl
        have S257 := S256.front 2 rfl
        have S258 := S257.keep 3
        exact ⟨[], 0, (some (Addr.mk i123 0 none)), 0, rfl, S258, (Sb.lit (n := 0) (by decide)), Sub.cons' rfl rfl (Sub.cons' rfl rfl (Sub.cons' rfl rfl (Sub.cons' rfl rfl (Sub.cons' rfl rfl (Sub.cons' rfl rfl (Sub.nil _))))))⟩
      · rintro n259 _ t' G263 ⟨xs211, x212, p209, c210, rfl, S262, Bo208, hsub264⟩ o265 ho260 hk261
        refine AX.sub hsub264 ?_
        unfold D_impl_RoundsBetween_s0 at ho260
        refine AX.seq ?_
        refine AX.region ?_
        refine AO.p rfl (p_lss rfl rfl) ?_
        refine AO.nil ?_
        refine AX.seq ?_
        refine AX.cond rfl (fun c266 => ?_) (fun c266 => ?_)
        · have hd267 := bif_t c266 ho260
          refine AX.skip ?_
          refine AX.seq ?_
          refine AX.block ?_
          refine AX.seq ?_
          refine AX.region ?_
          refine AO.p rfl (p_move rfl) ?_
          obtain ⟨k268, hd269⟩ := chk_some hd267
          refine AO.p rfl (s_indexV (q := off p_a0_1 + x212.toNat * 14) Try.underlying31 Try.sizeOf26 rfl ((S262.view v_a0_1).rowne a_a0_1 (by decide) (lt_len rfl (inR_lt k268))) rfl k268 rfl) ?_
          refine AO.c rfl (s_loadN (vs := ints (rw_ a0_1 x212.toNat)) Try.isAgg26 Try.sizeOf26 rfl (ints_len (rw_len a_a0_1 (lt_len rfl (inR_lt k268)))) ((S262.view v_a0_1).row a_a0_1 (lt_len rfl (inR_lt k268)))) ?_
          obtain ⟨G270, i271, hii271, hHG270, S272⟩ := S262.new (.row false (ints (List.replicate 14 0)))
          refine AO.c rfl (s_alloc (i := i271) (cs := ints (List.replicate 14 0)) Try.zeroValue26 rfl rfl hii271 hHG270) ?_
          refine AO.p rfl (p_assign rfl) ?_
          obtain ⟨G274, hHG274, S275⟩ := S272.set (k := 0) (i := i271) rfl (.row false (ints (rw_ a0_1 x212.toNat)))
          refine AO.s (s_storeAll (vs := ints (rw_ a0_1 x212.toNat)) Try.sizeOf26 rfl rfl ints_one (S272.get (k := 0) rfl) (ints_len (rw_len a_a0_1 (lt_len rfl (inR_lt k268)))) (ints_len len_rep) hHG274) ?_
          refine AO.nil ?_
          refine AX.seq ?_
          refine DR.startS [false, false, false, false, false] mix (by kernel_rfl) (fun hst => ?_)
          refine DR.r rfl rfl (r_load rfl Try.isAgg2) (one_read (row_cell (S275.get (k := 1) rfl) rfl) (.of_flat0 rfl)) ?_
          obtain ⟨k276, hd277⟩ := chk_some hd269
          refine DR.p rfl rfl (s_indexAr (q := a1.toNat) Try.underlying26 Try.sizeOf2 rfl rfl k276 (z1 _)) ?_
          refine DR.r rfl rfl (r_load rfl Try.isAgg2) (one_read (row_cell (S275.get (k := 0) rfl) (ints_get (lt_len (rw_len a_a0_1 (lt_len rfl (inR_lt k268))) (inR_lt k276)))) (.of_flat0 rfl)) ?_
          refine DR.r rfl rfl (r_load rfl Try.isAgg2) (one_read (row_cell (S275.get (k := 2) rfl) rfl) (.of_flat0 rfl)) ?_
          refine DR.p rfl rfl (p_eql rfl rfl) ?_
          refine DR.nil 5 [] hst (by kernel_rfl) trivial ?_
          refine AX.cond rfl (fun c278 => ?_) (fun c278 => ?_)
          · have hd279 := bif_t c278 hd277
            refine AX.region ?_
            refine AO.p rfl (p_move rfl) ?_
            refine AO.p rfl (p_move rfl) ?_
            obtain ⟨G280, i281, hii281, hHG280, S282⟩ := S275.new (.row false (ints [x212]))
            refine AO.c rfl (s_buildInts (i := i281) (vs := [(0, .int .i64 x212)]) (xs := [x212]) Try.underlying69 Try.sizeOf2 Try.zeroValue2 rfl rfl (by decide) rfl rfl hii281 hHG280) ?_
            obtain ⟨k284, hd285⟩ := chk_some hd279
            obtain ⟨p286, c287, G288, haG288, S289, Bp286⟩ := S282.app (k := 4) rfl Bo208 (ints [x212]) 1 (ints_len1 rfl)
            have S290 := S289.cellsEq (k := 4) (us' := ints (xs211 ++ [x212])) (ints_app _ _) rfl
            have BS290 : Sb p286 ((xs211 ++ [x212]).length) c287 1 := (show xs211.length + 1 = (xs211 ++ [x212]).length from len_app (a := xs211) (b := [x212]) rfl rfl) ▸ Bp286
            have S291 := S290.drop 0 rfl
            refine AO.c rfl (s_app (by_ := 8) (us := ints xs211) (vs := ints [x212]) Try.underlying69 Try.underlying69 Try.typeInfo2 Try.sizeOf2 Try.zeroValue2 rfl rfl rfl rfl rfl rfl rfl (S282.buf (k := 4) rfl Bo208 (ints_len1 rfl)) (S282.oview (k := 0) rfl (Sb.lit (n := 1) (by decide)) (ints_len1 rfl)) (ints_len1 rfl) ints_one k284 haG288 (show xs211.length + 1 = (xs211 ++ [x212]).length from len_app (a := xs211) (b := [x212]) rfl rfl)) ?_
            refine AO.p rfl (p_assign rfl) ?_
            refine AO.nil ?_
            refine AX.region ?_
            obtain ⟨k292, hd293⟩ := chk_some hd285
            refine AO.p rfl (p_addE rfl rfl k292) ?_
            refine AO.p rfl (p_move rfl) ?_
            refine AO.nil ?_
            obtain rfl := some_inj hd293
            have S295 := S291.front 3 rfl
            have S296 := S295.front 3 rfl
            have S297 := S296.front 3 rfl
            have S298 := S297.keep 3
            exact ⟨((xs211 ++ [x212]), x212 + 1), hk261, (xs211 ++ [x212]), (x212 + 1), p286, c287, rfl, S298, BS290, Sub.cons' rfl rfl (Sub.cons' rfl rfl (Sub.cons' rfl rfl (Sub.cons' rfl rfl (Sub.cons' rfl rfl (Sub.cons' rfl rfl (Sub.nil _))))))⟩
          · have hd299 := bif_f c278 hd277
            refine AX.skip ?_
            refine AX.region ?_
            obtain ⟨k300, hd301⟩ := chk_some hd299
            refine AO.p rfl (p_addE rfl rfl k300) ?_
            refine AO.p rfl (p_move rfl) ?_
            refine AO.nil ?_
            obtain rfl := some_inj hd301
            have S303 := S275.front 3 rfl
            have S304 := S303.front 3 rfl
            have S305 := S304.front 3 rfl
            have S306 := S305.keep 3
            exact ⟨(xs211, x212 + 1), hk261, xs211, (x212 + 1), p209, c210, rfl, S306, Bo208, Sub.cons' rfl rfl (Sub.cons' rfl rfl (Sub.cons' rfl rfl (Sub.cons' rfl rfl (Sub.cons' rfl rfl (Sub.cons' rfl rfl (Sub.nil _))))))⟩
        · have hd307 := bif_f c266 ho260
          refine AX.exit ?_
          obtain rfl := some_inj hd307
          have S308 := S262.front 2 rfl
          have S309 := S308.keep 1
          exact ⟨xs211, p209, c210, hk261, S309, Bo208, Sub.cons' rfl rfl (Sub.nil _)⟩
    · rintro t' G311 ⟨xs251, p249, c250, rfl, S310, Bo248, hsub312⟩
      refine AX.sub hsub312 ?_
      refine AX.seq ?_
      refine AX.region ?_
      refine AO.p rfl (p_move rfl) ?_
      refine AO.p rfl (p_assign rfl) ?_
      refine AO.p rfl (p_assign rfl) ?_
      refine AO.nil ?_
      refine AX.ret ?_
      obtain ⟨rfl, rfl⟩ := Prod.mk.inj (some_inj hd254)
      have S314 := S310.front 0 rfl
      exact ⟨.inr rfl, _, res2 rfl (rv_tmp rfl) (rv_tmp rfl), p249, c250, rfl, S314, Bo248⟩

end Go.Proofs.Ytocaepkkaihiiaa
