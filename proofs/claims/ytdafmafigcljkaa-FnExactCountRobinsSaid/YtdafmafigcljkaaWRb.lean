/-
  The program computes that, printed by a program. No condition.
-/
import Derived.Test.YtdafmafigcljkaaDRb
import Derived.Test.YtdafmafigcljkaaWRa
import Derived.Test.YtdafmafigcljkaaProg
import Derived.KernelRfl
namespace Go.Proofs.Ytdafmafigcljkaa
open Go Go.RowKit Am
set_option linter.unusedVariables false
set_option linter.unusedSimpArgs false
set_option maxRecDepth 20000
set_option maxHeartbeats 4000000 in
theorem W_spec_l02Complete : ∀ (fu : Nat) (H : AHeap) (F : Sg) (a0_0 : Int) (p_a0_1 : Option Addr) (c_a0_1 : Nat) (a0_1 : List (List Int)) (q_a0_1 : PW F p_a0_1 c_a0_1 14 a0_1) (a1 : Bool) (hn : (([F] : List Sg).flatten.map (·.1)).Nodup) (ho : ∀ x ∈ ([F] : List Sg).flatten, x.1 < H.length ∧ hget H x.1 = x.2) (r0 : Int) (r1 : List (List Int)) (r2 : Int) (hd : D_spec_l02Complete fu a0_0 a0_1 a1 = some (r0, r1, r2)), ∃ v G', ACall Try.prog 51 [.agg [.int .i64 a0_0, .slice p_a0_1 a0_1.length c_a0_1].toArray, .bool a1] H v G' ∧ ∃ (p_r1 : Option Addr) (c_r1 : Nat) (F' : Sg), (v = .tuple #[.agg [.int .i64 r0, .slice p_r1 r1.length c_r1].toArray, .int .i64 r2]) ∧ St (([F] : List Sg).flatten.map (·.1)) H G' [F'] ∧ PW F' p_r1 c_r1 14 r1 ∧ Pin F' F := by
  intro fu
  induction fu with
  | zero => intros; rename_i hd; cases hd
  | succ fu ih =>
  intro H F a0_0 p_a0_1 c_a0_1 a0_1 q_a0_1 a1 hn ho r0 r1 r2 hd
  refine ACall.bodyX (args := [.agg [.int .i64 a0_0, .slice p_a0_1 a0_1.length c_a0_1].toArray, .bool a1]) (N := 90) [(0, .agg [.int .i64 a0_0, .slice p_a0_1 a0_1.length c_a0_1].toArray), (1, .bool a1)] (fun v G' => ∃ (p_r1 : Option Addr) (c_r1 : Nat) (F' : Sg), (v = .tuple #[.agg [.int .i64 r0, .slice p_r1 r1.length c_r1].toArray, .int .i64 r2]) ∧ St (([F] : List Sg).flatten.map (·.1)) H G' [F'] ∧ PW F' p_r1 c_r1 14 r1 ∧ Pin F' F) Try.func51 rfl rfl rfl rfl ?_
  unfold D_spec_l02Complete at hd
  have S0 := St.initF hn ho
  generalize hM0 : (([F] : List Sg).flatten.map (·.1)) = M0 at S0 ⊢
  refine AX.seq ?_
  refine AX.region ?_
  obtain ⟨G100, i101, hii101, hHG100, S102⟩ := S0.new (AObj.row false ([.int .i64 a0_0, .slice p_a0_1 a0_1.length c_a0_1]))
  refine AO.c rfl (s_box (i := i101) (cs := [.int .i64 a0_0, .slice p_a0_1 a0_1.length c_a0_1]) rfl hii101 rfl hHG100) ?_
  obtain ⟨G104, i105, hii105, hHG104, S106⟩ := S102.new (AObj.row false ([.int .i64 0, .slice none 0 0]))
  refine AO.c rfl (s_alloc (i := i105) (cs := [.int .i64 0, .slice none 0 0]) Try.zeroValue37 rfl rfl hii105 hHG104) ?_
  refine AO.p rfl (p_assign rfl) ?_
  refine AO.nil ?_
  refine AX.seq ?_
  refine AX.seq ?_
  refine AX.region ?_
  refine AO.p rfl (s_fieldAddr Try.underlying37 rfl Try.sizeOf35 (by decide) rfl rfl) ?_
  refine AO.c rfl (s_load Try.isAgg35 rfl (row_cell (S106.get (k := 1) rfl) rfl)) ?_
  refine AO.p rfl (p_len_slice rfl Try.underlying35) ?_
  refine AO.p rfl (s_fieldAddr Try.underlying37 rfl Try.sizeOf2 (by decide) rfl rfl) ?_
  refine AO.c rfl (s_load Try.isAgg2 rfl (row_cell (S106.get (k := 1) rfl) rfl)) ?_
  obtain ⟨k108, hd109⟩ := chk_some hd
  refine AO.p rfl (p_subE rfl rfl k108) ?_
  refine AO.p rfl (p_eql rfl rfl) ?_
  refine AO.nil ?_
  refine AX.cond rfl (fun c110 => ?_) (fun c110 => ?_)
  · have hd111 := bif_t c110 hd109
    refine AX.seq ?_
    refine AX.region ?_
    refine AO.c rfl (s_loadN (vs := [.int .i64 a0_0, .slice p_a0_1 a0_1.length c_a0_1]) Try.isAgg37 Try.sizeOf37 rfl rfl (row_cells (S106.get (k := 1) rfl))) ?_
    obtain ⟨G112, hHG112, S113⟩ := S106.set (k := 0) (i := i105) rfl (AObj.row false ([.int .i64 a0_0, .slice p_a0_1 a0_1.length c_a0_1]))
    have S114 : St M0 H G112 [[(i105, AObj.row false ([.int .i64 a0_0, .slice p_a0_1 a0_1.length c_a0_1]))], [(i101, AObj.row false ([.int .i64 a0_0, .slice p_a0_1 a0_1.length c_a0_1]))], F] := S113
    refine AO.s (s_storeAll (vs := [.int .i64 a0_0, .slice p_a0_1 a0_1.length c_a0_1]) Try.sizeOf37 rfl rfl (ones_list rfl) (S106.get (k := 0) rfl) rfl rfl hHG112) ?_
    refine AO.p rfl (p_assign rfl) ?_
    refine AO.nil ?_
    refine AX.ret ?_
    obtain ⟨rfl, z115⟩ := Prod.mk.inj (some_inj hd111)
    obtain ⟨rfl, rfl⟩ := Prod.mk.inj z115
    have S117 := S114.front 2 rfl
    have S118 := S117.keep 1
    exact ⟨.inr rfl, _, res2 rfl (rv_cell (vs := [.int .i64 a0_0, .slice p_a0_1 a0_1.length c_a0_1]) rfl Try.isAgg37 Try.sizeOf37 rfl (row_cells (S114.get (k := 0) rfl))) (rv_tmp rfl), p_a0_1, c_a0_1, F, rfl, S118, q_a0_1, (Pin.refl F)⟩
  · have hd119 := bif_f c110 hd109
    refine AX.skip ?_
    refine AX.seq ?_
    refine AX.region ?_
    refine AO.c rfl (s_loadN (vs := [.int .i64 a0_0, .slice p_a0_1 a0_1.length c_a0_1]) Try.isAgg37 Try.sizeOf37 rfl rfl (row_cells (S106.get (k := 1) rfl))) ?_
    obtain ⟨bss120, h121, hd122⟩ := bnd_some hd119
    obtain ⟨_, G131, hc130, p123, c124, T127, rfl, S132, B126, t128, s129⟩ := W_spec_l02Met fu G104 a0_0 p_a0_1 c_a0_1 a0_1 ((q_a0_1).all) (S106.pwview (k := 2) rfl q_a0_1) bss120 h121
    have S133 := S106.call S132
    refine AO.c rfl (o_call (vs := [.agg [.int .i64 a0_0, .slice p_a0_1 a0_1.length c_a0_1].toArray]) rfl Try.call107 hc130) ?_
    refine AO.p rfl (p_assign rfl) ?_
    refine AO.p rfl (p_assign rfl) ?_
    refine AO.nil ?_
    obtain ⟨r209, hl210, hd211⟩ := bnd_some hd122
    refine AX.cut (fun t' H' => ∃ (x208 : Int), x208 = r209 ∧ St M0 H H' [F, [(i101, AObj.row false ([.int .i64 a0_0, .slice p_a0_1 a0_1.length c_a0_1]))], [(i105, AObj.row false ([.int .i64 0, .slice none 0 0]))], oseg p123 (tcellsB T127), tsegB T127] ∧ Pin F F ∧ PW F p_a0_1 c_a0_1 14 a0_1 ∧ Am.Sub [(1, .bool a1), (2, .pointer (some ⟨i101, 0, none⟩)), (4, .pointer (some ⟨i105, 0, none⟩)), (6, .slice p123 bss120.length c124), (7, .int .i64 x208)] t') ?_ ?_
    · refine AX.block ?_
      refine AX.loopF (fun s' t' H' => ∃ (x185 : Int), x185 = s' ∧ St M0 H H' [F, [(i101, AObj.row false ([.int .i64 a0_0, .slice p_a0_1 a0_1.length c_a0_1]))], [(i105, AObj.row false ([.int .i64 0, .slice none 0 0]))], oseg p123 (tcellsB T127), tsegB T127] ∧ Pin F F ∧ PW F p_a0_1 c_a0_1 14 a0_1 ∧ Am.Sub [(1, .bool a1), (2, .pointer (some ⟨i101, 0, none⟩)), (4, .pointer (some ⟨i105, 0, none⟩)), (6, .slice p123 bss120.length c124), (7, .int .i64 x185)] t') hl210 ?_ ?_
      · skip
        have S212 := S133.front 1 rfl
        have S213 := S212.front 1 rfl
        have S214 := S213.front 2 rfl
        have S215 := S214.front 3 rfl
        have S216 := S215.front 4 rfl
        exact ⟨1, rfl, S216, (Pin.refl F), q_a0_1, Sub.cons' rfl rfl (Sub.cons' rfl rfl (Sub.cons' rfl rfl (Sub.cons' rfl rfl (Sub.cons' rfl rfl (Sub.nil _)))))⟩
      · rintro n217 _ t' G221 ⟨x185, rfl, S220, hF179, hv182, hsub222⟩ o223 ho218 hk219
        refine AX.sub hsub222 ?_
        unfold D_spec_l02Complete_s0 at ho218
        refine AX.seq ?_
        refine AX.seq ?_
        refine AX.region ?_
        refine AO.p rfl (p_move rfl) ?_
        obtain ⟨k224, hd225⟩ := chk_some ho218
        refine AO.p rfl (s_indexV (q := 0) Try.underlying109 Try.sizeOf111 rfl (B126.at (inR_pos k224)) rfl k224 rfl) ?_
        obtain ⟨p226, c227, e228, f229⟩ := tgetB t128 (lt_len rfl (inR_lt k224))
        refine AO.c rfl (s_load Try.isAgg111 rfl (row_cell (S220.oat (k := 3) rfl (B126.at (inR_pos k224))) f229)) ?_
        refine AO.p rfl (p_move rfl) ?_
        obtain ⟨k230, hd231⟩ := chk_some hd225
        refine AO.p rfl (s_indexV (q := off p226 + x185.toNat) Try.underlying111 Try.sizeOf4 rfl ((TVwB.at (S220.oviewTB (k := 4) rfl s129) e228).p (bls_get (lt_len rfl (inR_lt k230)))) rfl k230 (o1 _ _)) ?_
        refine AO.c rfl (s_load Try.isAgg4 rfl ((TVwB.at (S220.oviewTB (k := 4) rfl s129) e228).get _ _ (bls_get (lt_len rfl (inR_lt k230))))) ?_
        refine AO.nil ?_
        refine AX.cond rfl (fun c232 => ?_) (fun c232 => ?_)
        · have hd233 := bif_t c232 hd231
          refine AX.skip ?_
          refine AX.block ?_
          refine AX.region ?_
          refine AO.p rfl (p_move rfl) ?_
          obtain ⟨k234, hd235⟩ := chk_some hd233
          refine AO.p rfl (p_addE rfl rfl k234) ?_
          refine AO.p rfl (p_assign rfl) ?_
          refine AO.nil ?_
          obtain rfl := some_inj hd235
          have S237 := S220.front 4 rfl
          have S238 := S237.front 4 rfl
          have S239 := S238.front 4 rfl
          have S240 := S239.front 4 rfl
          have S241 := S240.front 4 rfl
          exact ⟨x185 + 1, hk219, (x185 + 1), rfl, S241, hF179, hv182, Sub.cons' rfl rfl (Sub.cons' rfl rfl (Sub.cons' rfl rfl (Sub.cons' rfl rfl (Sub.cons' rfl rfl (Sub.nil _)))))⟩
        · have hd242 := bif_f c232 hd231
          refine AX.exit ?_
          obtain rfl := some_inj hd242
          have S243 := S220.front 4 rfl
          have S244 := S243.front 4 rfl
          have S245 := S244.front 4 rfl
          have S246 := S245.front 4 rfl
          have S247 := S246.front 4 rfl
          exact ⟨x185, hk219, S247, hF179, hv182, Sub.cons' rfl rfl (Sub.cons' rfl rfl (Sub.cons' rfl rfl (Sub.cons' rfl rfl (Sub.cons' rfl rfl (Sub.nil _)))))⟩
    · rintro t' G249 ⟨x208, rfl, S248, hF202, hv205, hsub250⟩
      refine AX.sub hsub250 ?_
      refine AX.seq ?_
      refine AX.region ?_
      refine AO.p rfl (s_fieldAddr Try.underlying37 rfl Try.sizeOf2 (by decide) rfl rfl) ?_
      refine AO.c rfl (s_load Try.isAgg2 rfl (row_cell (S248.get (k := 1) rfl) rfl)) ?_
      obtain ⟨xs251, h252, hd253⟩ := bnd_some hd211
      obtain ⟨hc255, l256⟩ := W_spec_l01Free fu G249 a0_0 xs251 h252
      refine AO.c rfl (o_call (vs := [.int .i64 a0_0]) rfl Try.call108 hc255) ?_
      obtain ⟨G257, i258, hii258, hHG257, S259⟩ := S248.new (AObj.row false (ints (List.replicate 14 0)))
      refine AO.c rfl (s_alloc (i := i258) (cs := ints (List.replicate 14 0)) Try.zeroValue54 rfl rfl hii258 hHG257) ?_
      obtain ⟨G261, hHG261, S262⟩ := S259.set (k := 0) (i := i258) rfl (AObj.row false (ints xs251))
      have S263 : St M0 H G261 [[(i258, AObj.row false (ints xs251))], F, [(i101, AObj.row false ([.int .i64 a0_0, .slice p_a0_1 a0_1.length c_a0_1]))], [(i105, AObj.row false ([.int .i64 0, .slice none 0 0]))], oseg p123 (tcellsB T127), tsegB T127] := S262
      refine AO.s (s_storeAll (vs := ints xs251) Try.sizeOf54 rfl rfl ints_one (S259.get (k := 0) rfl) (ints_len l256) (ints_len len_rep) hHG261) ?_
      refine AO.nil ?_
      refine AX.seq ?_
      refine AX.region ?_
      refine AO.p rfl (p_move rfl) ?_
      refine AO.p rfl (s_indexAr (q := 0) Try.underlying54 Try.sizeOf2 rfl rfl (show inR 0 14 by decide) rfl) ?_
      obtain ⟨G264, hHG264, S265⟩ := S263.set (k := 0) (i := i258) rfl (AObj.row false (ints (xs251.set 0 x208)))
      have S266 : St M0 H G264 [[(i258, AObj.row false (ints (xs251.set 0 x208)))], F, [(i101, AObj.row false ([.int .i64 a0_0, .slice p_a0_1 a0_1.length c_a0_1]))], [(i105, AObj.row false ([.int .i64 0, .slice none 0 0]))], oseg p123 (tcellsB T127), tsegB T127] := S265
      refine AO.s (s_store Try.sizeOf2 rfl rfl rfl (S263.get (k := 0) rfl) (lt_len (ints_len l256) (inR_lt (show inR 0 14 by decide))) ((congrArg (fun l => List.set _ _ (AObj.row false l)) (ints_set _ _ _)).trans hHG264)) ?_
      refine AO.nil ?_
      refine AX.seq ?_
      refine AX.region ?_
      refine AO.p rfl (p_move rfl) ?_
      obtain ⟨k267, hd268⟩ := chk_some hd253
      refine AO.p rfl (s_indexAr (q := x208.toNat) Try.underlying54 Try.sizeOf2 rfl rfl k267 (z1 _)) ?_
      obtain ⟨G269, hHG269, S270⟩ := S266.set (k := 0) (i := i258) rfl (AObj.row false (ints ((xs251.set 0 x208).set x208.toNat 0)))
      have S271 : St M0 H G269 [[(i258, AObj.row false (ints ((xs251.set 0 x208).set x208.toNat 0)))], F, [(i101, AObj.row false ([.int .i64 a0_0, .slice p_a0_1 a0_1.length c_a0_1]))], [(i105, AObj.row false ([.int .i64 0, .slice none 0 0]))], oseg p123 (tcellsB T127), tsegB T127] := S270
      refine AO.s (s_store Try.sizeOf2 rfl rfl rfl (S266.get (k := 0) rfl) (lt_len (ints_len (len_set l256)) (inR_lt k267)) ((congrArg (fun l => List.set _ _ (AObj.row false l)) (ints_set _ _ _)).trans hHG269)) ?_
      refine AO.nil ?_
      refine AX.seq ?_
      refine AX.region ?_
      refine AO.p rfl (p_build2 (vs := []) (cs := [.int .i64 0, .slice none 0 0]) Try.underlying37 rfl rfl rfl Try.sizeOf2 Try.sizeOf35 Try.zeroValue37 rfl rfl rfl rfl rfl) ?_
      obtain ⟨G272, i273, hii273, hHG272, S274⟩ := S271.new (AObj.row false ([.int .i64 0, .slice none 0 0]))
      refine AO.c rfl (s_alloc (i := i273) (cs := [.int .i64 0, .slice none 0 0]) Try.zeroValue37 rfl rfl hii273 hHG272) ?_
      obtain ⟨G276, hHG276, S277⟩ := S274.set (k := 0) (i := i273) rfl (AObj.row false ([.int .i64 0, .slice none 0 0]))
      have S278 : St M0 H G276 [[(i273, AObj.row false ([.int .i64 0, .slice none 0 0]))], [(i258, AObj.row false (ints ((xs251.set 0 x208).set x208.toNat 0)))], F, [(i101, AObj.row false ([.int .i64 a0_0, .slice p_a0_1 a0_1.length c_a0_1]))], [(i105, AObj.row false ([.int .i64 0, .slice none 0 0]))], oseg p123 (tcellsB T127), tsegB T127] := S277
      refine AO.s (s_storeAll (vs := [.int .i64 0, .slice none 0 0]) Try.sizeOf37 rfl rfl (ones_list rfl) (S274.get (k := 0) rfl) rfl rfl hHG276) ?_
      refine AO.p rfl (p_assign rfl) ?_
      refine AO.nil ?_
      refine AX.seq ?_
      refine AX.region ?_
      refine AO.p rfl (s_fieldAddr Try.underlying37 rfl Try.sizeOf2 (by decide) rfl rfl) ?_
      refine AO.c rfl (s_load Try.isAgg2 rfl (row_cell (S278.get (k := 3) rfl) rfl)) ?_
      refine AO.p rfl (p_move rfl) ?_
      refine AO.c rfl (s_loadN (vs := ints ((xs251.set 0 x208).set x208.toNat 0)) Try.isAgg54 Try.sizeOf54 rfl (ints_len (len_set (len_set l256))) (row_cells (S278.get (k := 1) rfl))) ?_
      obtain ⟨rs279, h280, hd281⟩ := bnd_some hd268
      obtain ⟨_, G288, hc287, p282, c283, rfl, S289, B285, a286⟩ := W_spec_l02Match fu G276 a0_0 p123 c124 T127 bss120 t128 (S278.oview (k := 5) rfl B126 (tc_len1B t128 rfl)) (S278.oviewTB (k := 6) rfl s129) ((xs251.set 0 x208).set x208.toNat 0) (len_set (len_set l256)) rs279 h280
      have S290 := S278.call S289
      refine AO.c rfl (o_call (vs := [.int .i64 a0_0, .slice p123 bss120.length c124, .agg (ints ((xs251.set 0 x208).set x208.toNat 0)).toArray]) rfl Try.call109 hc287) ?_
      refine AO.p rfl (p_assign rfl) ?_
      refine AO.nil ?_
      refine AX.seq ?_
      refine AX.seq ?_
      refine AX.region ?_
      refine AO.p rfl (p_assign rfl) ?_
      refine AO.nil ?_
      obtain ⟨r731, hl732, hd733⟩ := bnd_some hd281
      refine AX.cutS (fun t' H' => ∃ (x724 : Int) (rs725 : List (List Int)) (x730 : Int) (F720 : Sg) (p726 : Option Addr) (c727 : Nat), (x724, rs725, x730) = r731 ∧ St M0 H H' [F720, [(i105, AObj.row false ([.int .i64 0, .slice none 0 0]))], [(i273, AObj.row false ([.int .i64 x724, .slice p726 rs725.length c727]))]] ∧ Pin F720 F ∧ PW F720 p726 c727 14 rs725 ∧ Am.Sub [(4, .pointer (some ⟨i105, 0, none⟩)), (9, .pointer (some ⟨i273, 0, none⟩)), (10, .int .i64 x730)] t') ?_ ?_
      · refine AX.block ?_
        refine AX.loopF (fun s' t' H' => ∃ (x581 : Int) (rs582 : List (List Int)) (x587 : Int) (x589 : Int) (F574 : Sg) (p583 : Option Addr) (c584 : Nat), (x581, rs582, x587, x589) = s' ∧ St M0 H H' [F574, [(i101, AObj.row false ([.int .i64 a0_0, .slice p_a0_1 a0_1.length c_a0_1]))], [(i105, AObj.row false ([.int .i64 0, .slice none 0 0]))], [(i273, AObj.row false ([.int .i64 x581, .slice p583 rs582.length c584]))], oseg p282 (ints rs279.flatten)] ∧ Pin F574 F ∧ PW F574 p_a0_1 c_a0_1 14 a0_1 ∧ PW F574 p583 c584 14 rs582 ∧ Am.Sub [(1, .bool a1), (2, .pointer (some ⟨i101, 0, none⟩)), (4, .pointer (some ⟨i105, 0, none⟩)), (9, .pointer (some ⟨i273, 0, none⟩)), (10, .int .i64 x587), (11, .slice p282 rs279.length c283), (12, .int .i64 x589)] t') hl732 ?_ ?_
        · skip
          have S734 := S290.front 0 rfl
          have S735 := S734.front 1 rfl
          have S736 := S735.front 5 rfl
          have S737 := S736.front 5 rfl
          have S738 := S737.front 5 rfl
          have S739 := S738.keep 5
          exact ⟨0, [], 0, 0, F, none, 0, rfl, S739, hF202, hv205, PW.nil, Sub.cons' rfl rfl (Sub.cons' rfl rfl (Sub.cons' rfl rfl (Sub.cons' rfl rfl (Sub.cons' rfl rfl (Sub.cons' rfl rfl (Sub.cons' rfl rfl (Sub.nil _)))))))⟩
        · rintro n740 _ t' G744 ⟨x581, rs582, x587, x589, F574, p583, c584, rfl, S743, hF575, hv578, hv586, hsub745⟩ o746 ho741 hk742
          refine AX.sub hsub745 ?_
          unfold D_spec_l02Complete_s1 at ho741
          refine AX.seq ?_
          refine AX.seq ?_
          refine AX.region ?_
          refine AO.p rfl (p_move rfl) ?_
          refine AO.p rfl (p_move rfl) ?_
          refine AO.p rfl (p_len_slice rfl Try.underlying35) ?_
          refine AO.p rfl (p_lss rfl rfl) ?_
          refine AO.nil ?_
          refine AX.cond rfl (fun c747 => ?_) (fun c747 => ?_)
          · have hd748 := bif_t c747 ho741
            refine AX.skip ?_
            refine AX.seq ?_
            refine AX.block ?_
            refine AX.seq ?_
            refine DR.startS [false, false, false, false, false, true, false, false, false, false, false, true, false, false, true] mix (by kernel_rfl) (fun hst => ?_)
            refine DR.p rfl rfl (s_fieldAddr Try.underlying37 rfl Try.sizeOf2 (by decide) rfl rfl) ?_
            refine DR.r rfl rfl (r_load rfl Try.isAgg2) (one_read (row_cell (S743.get (k := 1) rfl) rfl) (.of_flat0 rfl)) ?_
            obtain ⟨G749, i750, hii750, hHG749, S751⟩ := S743.new (AObj.row false (ints [].flatten))
            refine DR.a rfl rfl hii750 hHG749 (a_build0 Try.underlying35 Try.sizeOf54) ?_
            refine DR.p rfl rfl (s_fieldAddr Try.underlying37 rfl Try.sizeOf35 (by decide) rfl rfl) ?_
            refine DR.r rfl rfl (r_load rfl Try.isAgg35) (one_read (row_cell (S751.get (k := 2) rfl) rfl) (S751.pwview (k := 1) rfl hv578).inn.bel) ?_
            obtain ⟨k753, hd754⟩ := chk_some hd748
            obtain ⟨p755, c756, G757, haG757, S758, Bp755⟩ := S751.app (k := 0) rfl (Sb.lit (n := 0) (by decide)) (ints a0_1.flatten) a0_1.length (flat_len1 (hv578).all rfl)
            have S759 := S758.cellsEq (k := 0) (us' := ints a0_1.flatten) (List.nil_append _) rfl
            have BS759 : Sb p755 (a0_1.length) c756 14 := (show 0 + a0_1.length = a0_1.length from len_nilapp (b := a0_1) rfl) ▸ Bp755
            refine DR.w rfl rfl (s_app (by_ := 112) (us := ints [].flatten) (vs := ints a0_1.flatten) Try.underlying35 Try.underlying35 Try.typeInfo54 Try.sizeOf54 Try.zeroValue54 rfl rfl rfl rfl rfl rfl rfl (S751.buf (k := 0) rfl (Sb.lit (n := 0) (by decide)) (flat_len1 all_nil rfl)) (S751.pwview (k := 1) rfl hv578) (flat_len1 (hv578).all rfl) ints_one k753 haG757 (show 0 + a0_1.length = a0_1.length from len_nilapp (b := a0_1) rfl)) (appR_len haG757) ?_
            refine DR.p rfl rfl (p_move rfl) ?_
            refine DR.p rfl rfl (p_move rfl) ?_
            obtain ⟨k760, hd761⟩ := chk_some hd754
            refine DR.p rfl rfl (s_indexV (q := x589.toNat * 14) Try.underlying35 Try.sizeOf54 rfl (B285.at (inR_pos k760)) rfl k760 (Nat.zero_add _)) ?_
            refine DR.r rfl rfl (r_loadN (vs := ints (rw_ rs279 x589.toNat)) rfl Try.isAgg54 Try.sizeOf54 (ints_len (rw_len a286 (lt_len rfl (inR_lt k760))))) (many_row (row_part (S759.oat (k := 5) rfl (B285.at (inR_pos k760))) (flat_cells a286 (lt_len rfl (inR_lt k760)))) bel_ints) ?_
            obtain ⟨G762, i763, hii763, hHG762, S764⟩ := S759.new (AObj.row false (ints [(rw_ rs279 x589.toNat)].flatten))
            refine DR.a rfl rfl hii763 hHG762 (a_build1 (r := (rw_ rs279 x589.toNat)) (zr := List.replicate 14 0) Try.underlying35 Try.sizeOf54 Try.zeroValue54 rfl rfl (by decide) (by decide) rfl (rw_len a286 (lt_len rfl (inR_lt k760)))) ?_
            obtain ⟨k766, hd767⟩ := chk_some hd761
            obtain ⟨p768, c769, G770, haG770, S771, Bp768⟩ := S764.app (k := 1) rfl BS759 (ints [(rw_ rs279 x589.toNat)].flatten) 1 (flat_len1 (all_one (rw_len a286 (lt_len rfl (inR_lt k760)))) rfl)
            have S772 := S771.cellsEq (k := 1) (us' := ints (a0_1 ++ [(rw_ rs279 x589.toNat)]).flatten) (intsf_app _ _) rfl
            have BS772 : Sb p768 ((a0_1 ++ [(rw_ rs279 x589.toNat)]).length) c769 14 := (show a0_1.length + 1 = (a0_1 ++ [(rw_ rs279 x589.toNat)]).length from len_app (a := a0_1) (b := [(rw_ rs279 x589.toNat)]) rfl rfl) ▸ Bp768
            have S773 := S772.drop 0 rfl
            refine DR.w rfl rfl (s_app (by_ := 112) (us := ints a0_1.flatten) (vs := ints [(rw_ rs279 x589.toNat)].flatten) Try.underlying35 Try.underlying35 Try.typeInfo54 Try.sizeOf54 Try.zeroValue54 rfl rfl rfl rfl rfl rfl rfl (S764.buf (k := 1) rfl BS759 (flat_len1 (hv578).all rfl)) (S764.oview (k := 0) rfl (Sb.lit (n := 1) (by decide)) (flat_len1 (all_one (rw_len a286 (lt_len rfl (inR_lt k760)))) rfl)) (flat_len1 (all_one (rw_len a286 (lt_len rfl (inR_lt k760)))) rfl) ints_one k766 haG770 (show a0_1.length + 1 = (a0_1 ++ [(rw_ rs279 x589.toNat)]).length from len_app (a := a0_1) (b := [(rw_ rs279 x589.toNat)]) rfl rfl)) (appR_len haG770) ?_
            refine DR.p rfl rfl (p_build2 (vs := [(0, .int .i64 a0_0), (1, .slice p768 ((a0_1 ++ [(rw_ rs279 x589.toNat)]).length) c769)]) (cs := [.int .i64 a0_0, .slice p768 ((a0_1 ++ [(rw_ rs279 x589.toNat)]).length) c769]) Try.underlying37 rfl rfl rfl Try.sizeOf2 Try.sizeOf35 Try.zeroValue37 rfl rfl rfl rfl rfl) ?_
            obtain ⟨G774, i775, hii775, hHG774, S776⟩ := S773.new (AObj.row false ([.int .i64 0, .slice none 0 0]))
            refine DR.a rfl rfl hii775 hHG774 (a_alloc Try.zeroValue37 (flat_list rfl)) ?_
            obtain ⟨G778, hHG778, S779⟩ := S776.set (k := 0) (i := i775) rfl (AObj.row false ([.int .i64 a0_0, .slice p768 ((a0_1 ++ [(rw_ rs279 x589.toNat)]).length) c769]))
            have S780 : St M0 H G778 [[(i775, AObj.row false ([.int .i64 a0_0, .slice p768 ((a0_1 ++ [(rw_ rs279 x589.toNat)]).length) c769]))], oseg p768 (ints (a0_1 ++ [(rw_ rs279 x589.toNat)]).flatten), F574, [(i101, AObj.row false ([.int .i64 a0_0, .slice p_a0_1 a0_1.length c_a0_1]))], [(i105, AObj.row false ([.int .i64 0, .slice none 0 0]))], [(i273, AObj.row false ([.int .i64 x581, .slice p583 rs582.length c584]))], oseg p282 (ints rs279.flatten)] := S779
            refine DR.s rfl (s_storeAll (vs := [.int .i64 a0_0, .slice p768 ((a0_1 ++ [(rw_ rs279 x589.toNat)]).length) c769]) Try.sizeOf37 rfl rfl (ones_list rfl) (S776.get (k := 0) rfl) rfl rfl hHG778) (set_le hHG778) ?_
            refine DR.nil 15 [(1, 5), (1, 11), (9, 5), (10, 5), (13, 5), (13, 11)] hst (by kernel_rfl) ⟨(rd1 (fun _ => (S759.get (k := 2) rfl).trans (S751.get (k := 2) rfl).symm)), (rd1 (fun _ => (S773.get (k := 2) rfl).trans (S764.get (k := 3) rfl).symm)), (rdN (fun _ => (S759.oat (k := 5) rfl (B285.at (inR_pos k760))).trans (S751.oat (k := 5) rfl (B285.at (inR_pos k760))).symm)), (fun h => absurd h (by decide)), (fun h => absurd h (by decide)), (fun h => absurd h (by decide)), trivial⟩ ?_
            refine AX.seq ?_
            refine AX.region ?_
            refine AO.c rfl (s_loadN (vs := [.int .i64 a0_0, .slice p768 ((a0_1 ++ [(rw_ rs279 x589.toNat)]).length) c769]) Try.isAgg37 Try.sizeOf37 rfl rfl (row_cells (S780.get (k := 0) rfl))) ?_
            refine AO.p rfl (p_move rfl) ?_
            have S781 := S780.front 2 rfl
            have S782 := S781.front 2 rfl
            have S783 : St M0 H G778 [oseg p768 (ints (a0_1 ++ [(rw_ rs279 x589.toNat)]).flatten), F574, [(i775, AObj.row false ([.int .i64 a0_0, .slice p768 ((a0_1 ++ [(rw_ rs279 x589.toNat)]).length) c769]))], [(i101, AObj.row false ([.int .i64 a0_0, .slice p_a0_1 a0_1.length c_a0_1]))], [(i105, AObj.row false ([.int .i64 0, .slice none 0 0]))], [(i273, AObj.row false ([.int .i64 x581, .slice p583 rs582.length c584]))], oseg p282 (ints rs279.flatten)] := S782
            obtain ⟨F784, hF785, hp786, S787⟩ := S783.poolW (rs := (a0_1 ++ [(rw_ rs279 x589.toNat)])) BS772 rfl (all_app (hv578).all (all_one (rw_len a286 (lt_len rfl (inR_lt k760)))))
            have S789 := S787.front 0 rfl
            have S790 : St M0 H G778 [F784, [(i775, AObj.row false ([.int .i64 a0_0, .slice p768 ((a0_1 ++ [(rw_ rs279 x589.toNat)]).length) c769]))], [(i101, AObj.row false ([.int .i64 a0_0, .slice p_a0_1 a0_1.length c_a0_1]))], [(i105, AObj.row false ([.int .i64 0, .slice none 0 0]))], [(i273, AObj.row false ([.int .i64 x581, .slice p583 rs582.length c584]))], oseg p282 (ints rs279.flatten)] := S789
            obtain ⟨⟨x791, rs792, x793⟩, h794, hd795⟩ := bnd_some hd767
            obtain ⟨_, G802, hc804, p797, c798, F796, rfl, S803, hv799, hF801⟩ := ih G778 F784 a0_0 p768 c769 (a0_1 ++ [(rw_ rs279 x589.toNat)]) hp786 a1 (St.fnodup (A := [F784]) S790) (St.fmem (A := [F784]) S790) x791 rs792 x793 h794
            have S805 := St.callM (A := [F784]) S790 S803 (fun j h => h)
            refine AO.c rfl (o_call (vs := [.agg [.int .i64 a0_0, .slice p768 ((a0_1 ++ [(rw_ rs279 x589.toNat)]).length) c769].toArray, .bool a1]) rfl Try.call51 hc804) ?_
            refine AO.p rfl (p_move rfl) ?_
            refine AO.p rfl (p_extract rfl rfl) ?_
            refine AO.p rfl (p_extract rfl rfl) ?_
            obtain ⟨G806, i807, hii807, hHG806, S808⟩ := S805.new (AObj.row false ([.int .i64 0, .slice none 0 0]))
            refine AO.c rfl (s_alloc (i := i807) (cs := [.int .i64 0, .slice none 0 0]) Try.zeroValue37 rfl rfl hii807 hHG806) ?_
            obtain ⟨G810, hHG810, S811⟩ := S808.set (k := 0) (i := i807) rfl (AObj.row false ([.int .i64 x791, .slice p797 rs792.length c798]))
            have S812 : St M0 H G810 [[(i807, AObj.row false ([.int .i64 x791, .slice p797 rs792.length c798]))], F796, [(i775, AObj.row false ([.int .i64 a0_0, .slice p768 ((a0_1 ++ [(rw_ rs279 x589.toNat)]).length) c769]))], [(i101, AObj.row false ([.int .i64 a0_0, .slice p_a0_1 a0_1.length c_a0_1]))], [(i105, AObj.row false ([.int .i64 0, .slice none 0 0]))], [(i273, AObj.row false ([.int .i64 x581, .slice p583 rs582.length c584]))], oseg p282 (ints rs279.flatten)] := S811
            refine AO.s (s_storeAll (vs := [.int .i64 x791, .slice p797 rs792.length c798]) Try.sizeOf37 rfl rfl (ones_list rfl) (S808.get (k := 0) rfl) rfl rfl hHG810) ?_
            refine AO.p rfl (p_assign rfl) ?_
            refine AO.nil ?_
            refine AX.seq ?_
            refine AX.cut (fun t' H' => G810 = H' ∧ Am.Sub [(1, .bool a1), (2, .pointer (some ⟨i101, 0, none⟩)), (4, .pointer (some ⟨i105, 0, none⟩)), (9, .pointer (some ⟨i273, 0, none⟩)), (10, .int .i64 x587), (11, .slice p282 rs279.length c283), (12, .int .i64 x589), (14, .pointer (some ⟨i807, 0, none⟩)), (15, .int .i64 x793), (77, .bool ((decide (0 < x793)) && (decide (x587 = 0))))] t') ?_ ?_
            · skip
              refine AX.region ?_
              refine AO.p rfl (p_move rfl) ?_
              refine AO.p rfl (p_gtr rfl rfl) ?_
              refine AO.p rfl (p_move rfl) ?_
              refine AO.cases (d := 74) rfl (fun c816 => ?_) (fun c816 => ?_)
              · skip
                refine AO.gp rfl rfl rfl (p_move rfl) ?_
                refine AO.gp rfl rfl rfl (p_eql rfl rfl) ?_
                refine AO.p rfl (p_pickT rfl rfl) ?_
                refine AO.nil ?_
                exact ⟨rfl, Sub.cons' rfl rfl (Sub.cons' rfl rfl (Sub.cons' rfl rfl (Sub.cons' rfl rfl (Sub.cons' rfl rfl (Sub.cons' rfl rfl (Sub.cons' rfl rfl (Sub.cons' rfl rfl (Sub.cons' rfl rfl (Sub.cons' rfl (bool_eq (by simp only [c816, Bool.true_and, Bool.false_and, Bool.and_true, Bool.and_false, Bool.true_or, Bool.false_or, Bool.or_true, Bool.or_false, Bool.not_true, Bool.not_false, cond_true, cond_false])) (Sub.nil _))))))))))⟩
              · skip
                refine AO.gn rfl rfl rfl ?_
                refine AO.gn rfl rfl rfl ?_
                refine AO.p rfl (p_pickF rfl rfl) ?_
                refine AO.nil ?_
                exact ⟨rfl, Sub.cons' rfl rfl (Sub.cons' rfl rfl (Sub.cons' rfl rfl (Sub.cons' rfl rfl (Sub.cons' rfl rfl (Sub.cons' rfl rfl (Sub.cons' rfl rfl (Sub.cons' rfl rfl (Sub.cons' rfl rfl (Sub.cons' rfl (bool_eq (by simp only [c816, Bool.true_and, Bool.false_and, Bool.and_true, Bool.and_false, Bool.true_or, Bool.false_or, Bool.or_true, Bool.or_false, Bool.not_true, Bool.not_false, cond_true, cond_false])) (Sub.nil _))))))))))⟩
            · rintro t' _ ⟨rfl, hsub817⟩
              refine AX.sub hsub817 ?_
              obtain ⟨r837, hb838, hd839⟩ := bnd_some hd795
              refine AX.cutS (fun t' H' => ∃ (x830 : Int) (rs831 : List (List Int)) (p832 : Option Addr) (c833 : Nat), (x830, rs831) = r837 ∧ St M0 H H' [F796, [(i101, AObj.row false ([.int .i64 a0_0, .slice p_a0_1 a0_1.length c_a0_1]))], [(i105, AObj.row false ([.int .i64 0, .slice none 0 0]))], [(i273, AObj.row false ([.int .i64 x830, .slice p832 rs831.length c833]))], oseg p282 (ints rs279.flatten)] ∧ Pin F796 F ∧ PW F796 p_a0_1 c_a0_1 14 a0_1 ∧ PW F796 p832 c833 14 rs831 ∧ Am.Sub [(1, .bool a1), (2, .pointer (some ⟨i101, 0, none⟩)), (4, .pointer (some ⟨i105, 0, none⟩)), (9, .pointer (some ⟨i273, 0, none⟩)), (10, .int .i64 x587), (11, .slice p282 rs279.length c283), (12, .int .i64 x589), (15, .int .i64 x793)] t') ?_ ?_
              · skip
                refine AX.cond rfl (fun c840 => ?_) (fun c840 => ?_)
                · have hd841 := bif_t c840 hb838
                  refine AX.region ?_
                  refine AO.c rfl (s_loadN (vs := [.int .i64 x791, .slice p797 rs792.length c798]) Try.isAgg37 Try.sizeOf37 rfl rfl (row_cells (S812.get (k := 0) rfl))) ?_
                  obtain ⟨G842, hHG842, S843⟩ := S812.set (k := 5) (i := i273) rfl (AObj.row false ([.int .i64 x791, .slice p797 rs792.length c798]))
                  have S844 : St M0 H G842 [[(i807, AObj.row false ([.int .i64 x791, .slice p797 rs792.length c798]))], F796, [(i775, AObj.row false ([.int .i64 a0_0, .slice p768 ((a0_1 ++ [(rw_ rs279 x589.toNat)]).length) c769]))], [(i101, AObj.row false ([.int .i64 a0_0, .slice p_a0_1 a0_1.length c_a0_1]))], [(i105, AObj.row false ([.int .i64 0, .slice none 0 0]))], [(i273, AObj.row false ([.int .i64 x791, .slice p797 rs792.length c798]))], oseg p282 (ints rs279.flatten)] := S843
                  refine AO.s (s_storeAll (vs := [.int .i64 x791, .slice p797 rs792.length c798]) Try.sizeOf37 rfl rfl (ones_list rfl) (S812.get (k := 5) rfl) rfl rfl hHG842) ?_
                  refine AO.nil ?_
                  have S845 := S844.front 6 rfl
                  have S846 := S845.front 6 rfl
                  have S847 := S846.front 6 rfl
                  have S848 := S847.front 6 rfl
                  have S849 := S848.front 5 rfl
                  have S850 := S849.keep 5
                  exact ⟨x791, rs792, p797, c798, (some_inj hd841), S850, ((hF575.mono hF785).mono hF801), ((hv578.mono hF785).mono hF801), hv799, Sub.cons' rfl rfl (Sub.cons' rfl rfl (Sub.cons' rfl rfl (Sub.cons' rfl rfl (Sub.cons' rfl rfl (Sub.cons' rfl rfl (Sub.cons' rfl rfl (Sub.cons' rfl rfl (Sub.nil _))))))))⟩
                · have hd851 := bif_f c840 hb838
                  refine AX.skip ?_
                  have S852 := S812.front 6 rfl
                  have S853 := S852.front 6 rfl
                  have S854 := S853.front 6 rfl
                  have S855 := S854.front 6 rfl
                  have S856 := S855.front 5 rfl
                  have S857 := S856.keep 5
                  exact ⟨x581, rs582, p583, c584, (some_inj hd851), S857, ((hF575.mono hF785).mono hF801), ((hv578.mono hF785).mono hF801), ((hv586.mono hF785).mono hF801), Sub.cons' rfl rfl (Sub.cons' rfl rfl (Sub.cons' rfl rfl (Sub.cons' rfl rfl (Sub.cons' rfl rfl (Sub.cons' rfl rfl (Sub.cons' rfl rfl (Sub.cons' rfl rfl (Sub.nil _))))))))⟩
              · rintro t' G859 ⟨x830, rs831, p832, c833, rfl, S858, hF824, hv827, hv835, hsub860⟩
                refine ⟨_, hsub860, ?_⟩
                refine AX.seq ?_
                refine AX.region ?_
                refine AO.p rfl (p_move rfl) ?_
                refine AO.p rfl (p_move rfl) ?_
                obtain ⟨k861, hd862⟩ := chk_some hd839
                refine AO.p rfl (p_addE rfl rfl k861) ?_
                refine AO.p rfl (p_assign rfl) ?_
                refine AO.nil ?_
                refine AX.cut (fun t' H' => G859 = H' ∧ Am.Sub [(1, .bool a1), (2, .pointer (some ⟨i101, 0, none⟩)), (4, .pointer (some ⟨i105, 0, none⟩)), (9, .pointer (some ⟨i273, 0, none⟩)), (10, .int .i64 (x587 + x793)), (11, .slice p282 rs279.length c283), (12, .int .i64 x589), (87, .bool ((!a1) && (decide (0 < x587 + x793))))] t') ?_ ?_
                · skip
                  refine AX.region ?_
                  refine AO.p rfl (p_move rfl) ?_
                  refine AO.p rfl (p_not rfl) ?_
                  refine AO.p rfl (p_move rfl) ?_
                  refine AO.cases (d := 84) rfl (fun c866 => ?_) (fun c866 => ?_)
                  · skip
                    refine AO.gp rfl rfl rfl (p_move rfl) ?_
                    refine AO.gp rfl rfl rfl (p_gtr rfl rfl) ?_
                    refine AO.p rfl (p_pickT rfl rfl) ?_
                    refine AO.nil ?_
                    exact ⟨rfl, Sub.cons' rfl rfl (Sub.cons' rfl rfl (Sub.cons' rfl rfl (Sub.cons' rfl rfl (Sub.cons' rfl rfl (Sub.cons' rfl rfl (Sub.cons' rfl rfl (Sub.cons' rfl (bool_eq (by simp only [c866, Bool.true_and, Bool.false_and, Bool.and_true, Bool.and_false, Bool.true_or, Bool.false_or, Bool.or_true, Bool.or_false, Bool.not_true, Bool.not_false, cond_true, cond_false])) (Sub.nil _))))))))⟩
                  · skip
                    refine AO.gn rfl rfl rfl ?_
                    refine AO.gn rfl rfl rfl ?_
                    refine AO.p rfl (p_pickF rfl rfl) ?_
                    refine AO.nil ?_
                    exact ⟨rfl, Sub.cons' rfl rfl (Sub.cons' rfl rfl (Sub.cons' rfl rfl (Sub.cons' rfl rfl (Sub.cons' rfl rfl (Sub.cons' rfl rfl (Sub.cons' rfl rfl (Sub.cons' rfl (bool_eq (by simp only [c866, Bool.true_and, Bool.false_and, Bool.and_true, Bool.and_false, Bool.true_or, Bool.false_or, Bool.or_true, Bool.or_false, Bool.not_true, Bool.not_false, cond_true, cond_false])) (Sub.nil _))))))))⟩
                · rintro t' _ ⟨rfl, hsub867⟩
                  refine AX.sub hsub867 ?_
                  refine AX.cond rfl (fun c868 => ?_) (fun c868 => ?_)
                  · have hd869 := bif_t c868 hd862
                    refine AX.exit ?_
                    obtain rfl := some_inj hd869
                    have S870 := S858.front 3 rfl
                    have S871 := S870.front 3 rfl
                    have S872 := S871.front 2 rfl
                    have S873 := S872.keep 3
                    exact ⟨x830, rs831, (x587 + x793), F796, p832, c833, hk742, S873, hF824, hv835, Sub.cons' rfl rfl (Sub.cons' rfl rfl (Sub.cons' rfl rfl (Sub.nil _)))⟩
                  · have hd874 := bif_f c868 hd862
                    refine AX.skip ?_
                    refine AX.region ?_
                    refine AO.p rfl (p_move rfl) ?_
                    obtain ⟨k875, hd876⟩ := chk_some hd874
                    refine AO.p rfl (p_addE rfl rfl k875) ?_
                    refine AO.p rfl (p_assign rfl) ?_
                    refine AO.nil ?_
                    obtain rfl := some_inj hd876
                    have S878 := S858.front 4 rfl
                    have S879 := S878.front 4 rfl
                    have S880 := S879.front 4 rfl
                    have S881 := S880.front 4 rfl
                    have S882 := S881.front 4 rfl
                    exact ⟨(x830, rs831, x587 + x793, x589 + 1), hk742, x830, rs831, (x587 + x793), (x589 + 1), F796, p832, c833, rfl, S882, hF824, hv827, hv835, Sub.cons' rfl rfl (Sub.cons' rfl rfl (Sub.cons' rfl rfl (Sub.cons' rfl rfl (Sub.cons' rfl rfl (Sub.cons' rfl rfl (Sub.cons' rfl rfl (Sub.nil _)))))))⟩
          · have hd883 := bif_f c747 ho741
            refine AX.exit ?_
            obtain rfl := some_inj hd883
            have S884 := S743.front 3 rfl
            have S885 := S884.front 3 rfl
            have S886 := S885.front 2 rfl
            have S887 := S886.keep 3
            exact ⟨x581, rs582, x587, F574, p583, c584, hk742, S887, hF575, hv586, Sub.cons' rfl rfl (Sub.cons' rfl rfl (Sub.cons' rfl rfl (Sub.nil _)))⟩
      · rintro t' G889 ⟨x724, rs725, x730, F720, p726, c727, rfl, S888, hF721, hv729, hsub890⟩
        refine ⟨_, hsub890, ?_⟩
        refine AX.seq ?_
        refine AX.region ?_
        refine AO.c rfl (s_loadN (vs := [.int .i64 x724, .slice p726 rs725.length c727]) Try.isAgg37 Try.sizeOf37 rfl rfl (row_cells (S888.get (k := 2) rfl))) ?_
        refine AO.p rfl (p_move rfl) ?_
        obtain ⟨G891, hHG891, S892⟩ := S888.set (k := 1) (i := i105) rfl (AObj.row false ([.int .i64 x724, .slice p726 rs725.length c727]))
        have S893 : St M0 H G891 [F720, [(i105, AObj.row false ([.int .i64 x724, .slice p726 rs725.length c727]))], [(i273, AObj.row false ([.int .i64 x724, .slice p726 rs725.length c727]))]] := S892
        refine AO.s (s_storeAll (vs := [.int .i64 x724, .slice p726 rs725.length c727]) Try.sizeOf37 rfl rfl (ones_list rfl) (S888.get (k := 1) rfl) rfl rfl hHG891) ?_
        refine AO.p rfl (p_assign rfl) ?_
        refine AO.nil ?_
        refine AX.ret ?_
        obtain ⟨rfl, z894⟩ := Prod.mk.inj (some_inj hd733)
        obtain ⟨rfl, rfl⟩ := Prod.mk.inj z894
        have S896 := S893.front 0 rfl
        have S897 := S896.keep 1
        exact ⟨.inr rfl, _, res2 rfl (rv_cell (vs := [.int .i64 x724, .slice p726 rs725.length c727]) rfl Try.isAgg37 Try.sizeOf37 rfl (row_cells (S893.get (k := 1) rfl))) (rv_tmp rfl), p726, c727, F720, rfl, S897, hv729, hF721⟩

set_option maxHeartbeats 4000000 in
theorem W_spec_CountRobins (fu : Nat) (H : AHeap) (a0 : Int) (r0 : Int) (r1 : Int) (hd : D_spec_CountRobins fu a0 = some (r0, r1)) : ACall Try.prog 10 [.int .i64 a0] H (.tuple #[.int .i64 r0, .int .i64 r1]) H := by
  refine ACall.bodyP (N := 20) [(0, .int .i64 a0)] Try.func10 rfl rfl rfl rfl ?_
  unfold D_spec_CountRobins at hd
  have S0 : St [] H H [] := St.nil H
  have S0 := S0.poolNew
  refine AX.seq ?_
  refine AX.region ?_
  refine AO.p rfl (p_assign rfl) ?_
  refine AO.p rfl (p_assign rfl) ?_
  refine AO.nil ?_
  refine AX.seq ?_
  refine AX.seq ?_
  refine AX.region ?_
  refine AO.p rfl (p_move rfl) ?_
  obtain ⟨b100, h101, hd102⟩ := bnd_some hd
  refine AO.c rfl (o_call (vs := [.int .i64 a0, .int .i64 2, .int .i64 6]) rfl Try.call50 (W_spec_l01In fu H a0 2 6 b100 h101)) ?_
  refine AO.p rfl (p_not rfl) ?_
  refine AO.nil ?_
  refine AX.cond rfl (fun c104 => ?_) (fun c104 => ?_)
  · have hd105 := bif_t c104 hd102
    refine AX.seq ?_
    refine AX.region ?_
    refine AO.p rfl (p_assign rfl) ?_
    refine AO.p rfl (p_assign rfl) ?_
    refine AO.nil ?_
    refine AX.ret ?_
    obtain ⟨rfl, rfl⟩ := Prod.mk.inj (some_inj hd105)
    exact ⟨.inr rfl, _, res2 rfl (rv_tmp rfl) (rv_tmp rfl), rfl, (flat_t2 (flatB_ok rfl) (flatB_ok rfl)), S0.hold⟩
  · have hd107 := bif_f c104 hd102
    refine AX.skip ?_
    refine AX.seq ?_
    refine AX.region ?_
    refine AO.p rfl (p_move rfl) ?_
    refine AO.p rfl (p_move rfl) ?_
    refine AO.p rfl (p_remE rfl rfl (by decide)) ?_
    obtain ⟨k108, hd109⟩ := chk_some hd107
    refine AO.p rfl (p_addE rfl rfl k108) ?_
    obtain ⟨G110, i111, hii111, hHG110, S112⟩ := S0.new (AObj.row false (ints [].flatten))
    refine AO.c rfl (s_build0 (i := i111) Try.underlying35 Try.sizeOf54 hii111 hHG110) ?_
    refine AO.p rfl (p_build2 (vs := [(0, .int .i64 (a0 + (a0.tmod 2))), (1, .slice (some (Addr.mk i111 0 none)) 0 0)]) (cs := [.int .i64 (a0 + (a0.tmod 2)), .slice (some (Addr.mk i111 0 none)) 0 0]) Try.underlying37 rfl rfl rfl Try.sizeOf2 Try.sizeOf35 Try.zeroValue37 rfl rfl rfl rfl rfl) ?_
    have S114 := S112.front 1 rfl
    have S115 := S114.front 1 rfl
    obtain ⟨F116, hF117, hp118, S119⟩ := S115.poolW (rs := []) (Sb.lit (n := 0) (by decide)) rfl all_nil
    have S121 := S119.front 0 rfl
    obtain ⟨⟨x122, rs123, x124⟩, h125, hd126⟩ := bnd_some hd109
    obtain ⟨_, G133, hc135, p128, c129, F127, rfl, S134, hv130, hF132⟩ := W_spec_l02Complete fu G110 F116 (a0 + (a0.tmod 2)) (some (Addr.mk i111 0 none)) 0 [] hp118 true (St.fnodup (A := [F116]) S121) (St.fmem (A := [F116]) S121) x122 rs123 x124 h125
    have S136 := St.callM (A := [F116]) S121 S134 (fun j h => h)
    refine AO.c rfl (o_call (vs := [.agg [.int .i64 (a0 + (a0.tmod 2)), .slice (some (Addr.mk i111 0 none)) 0 0].toArray, .bool true]) rfl Try.call51 hc135) ?_
    refine AO.p rfl (p_move rfl) ?_
    refine AO.p rfl (p_extract rfl rfl) ?_
    refine AO.p rfl (p_extract rfl rfl) ?_
    obtain ⟨G137, i138, hii138, hHG137, S139⟩ := S136.new (AObj.row false ([.int .i64 0, .slice none 0 0]))
    refine AO.c rfl (s_alloc (i := i138) (cs := [.int .i64 0, .slice none 0 0]) Try.zeroValue37 rfl rfl hii138 hHG137) ?_
    obtain ⟨G141, hHG141, S142⟩ := S139.set (k := 0) (i := i138) rfl (AObj.row false ([.int .i64 x122, .slice p128 rs123.length c129]))
    refine AO.s (s_storeAll (vs := [.int .i64 x122, .slice p128 rs123.length c129]) Try.sizeOf37 rfl rfl (ones_list rfl) (S139.get (k := 0) rfl) rfl rfl hHG141) ?_
    refine AO.p rfl (p_assign rfl) ?_
    refine AO.nil ?_
    refine AX.seq ?_
    refine AX.region ?_
    refine AO.p rfl (p_move rfl) ?_
    refine AO.p rfl (p_assign rfl) ?_
    refine AO.p rfl (p_assign rfl) ?_
    refine AO.nil ?_
    refine AX.ret ?_
    obtain ⟨rfl, rfl⟩ := Prod.mk.inj (some_inj hd126)
    exact ⟨.inr rfl, _, res2 rfl (rv_tmp rfl) (rv_tmp rfl), rfl, (flat_t2 (flatB_ok rfl) (flatB_ok rfl)), S142.hold⟩

end Go.Proofs.Ytdafmafigcljkaa
