/-
  The program computes that, printed by a program. No condition.
-/
import Derived.Test.YtnmbjedijgcncaaDD
import Derived.Test.YtnmbjedijgcncaaWS
import Derived.Test.YtnmbjedijgcncaaWSo
import Derived.Test.YtnmbjedijgcncaaProg
import Derived.KernelRfl
namespace Go.Proofs.Ytnmbjedijgcncaa
open Go Go.RowKit Am
set_option linter.unusedVariables false
set_option linter.unusedSimpArgs false
set_option maxRecDepth 20000
set_option maxHeartbeats 4000000 in
theorem W_spec_l03Sums (fu : Nat) (H : AHeap) (a0 : Int) (p_a1 : Option Addr) (c_a1 : Nat) (T_a1 : Tb) (a1 : List (List Int)) (t_a1 : trows T_a1 = a1) (v_a1 : Vw H p_a1 a1.length c_a1 (tcells T_a1)) (w_a1 : TVw H T_a1) (r0 : List Int) (hd : D_spec_l03Sums fu a0 a1 = some r0) : ∃ v G', ACall Try.prog 137 [.int .i64 a0, .slice p_a1 a1.length c_a1] H v G' ∧ ∃ (p_r0 : Option Addr) (c_r0 : Nat), (v = .slice p_r0 r0.length c_r0) ∧ St [] H G' [oseg p_r0 (ints r0)] ∧ Sb p_r0 r0.length c_r0 1 := by
  refine ACall.bodyX (args := [.int .i64 a0, .slice p_a1 a1.length c_a1]) (N := 33) [(0, .int .i64 a0), (1, .slice p_a1 a1.length c_a1)] (fun v G' => ∃ (p_r0 : Option Addr) (c_r0 : Nat), (v = .slice p_r0 r0.length c_r0) ∧ St [] H G' [oseg p_r0 (ints r0)] ∧ Sb p_r0 r0.length c_r0 1) Try.func137 rfl rfl rfl rfl ?_
  unfold D_spec_l03Sums at hd
  have S0 : St [] H H [] := St.nil H
  refine AX.seq ?_
  refine AX.region ?_
  refine AO.p rfl (p_assign rfl) ?_
  refine AO.nil ?_
  refine AX.seq ?_
  refine AX.region ?_
  obtain ⟨G100, i101, hii101, hHG100, S102⟩ := S0.new (AObj.row false (ints []))
  refine AO.c rfl (s_build0 (i := i101) Try.underlying31 Try.sizeOf2 hii101 hHG100) ?_
  refine AO.p rfl (p_assign rfl) ?_
  refine AO.nil ?_
  refine AX.seq ?_
  refine AX.seq ?_
  refine AX.region ?_
  refine AO.p rfl (p_assign rfl) ?_
  refine AO.nil ?_
  obtain ⟨r239, hl240, hd241⟩ := bnd_some hd
  refine AX.cutS (fun t' H' => ∃ (xs238 : List Int) (p236 : Option Addr) (c237 : Nat), xs238 = r239 ∧ St [] H H' [oseg p236 (ints xs238)] ∧ Sb p236 (xs238.length) c237 1 ∧ Am.Sub [(5, .slice p236 xs238.length c237)] t') ?_ ?_
  · refine AX.block ?_
    refine AX.loopF (fun s' t' H' => ∃ (xs193 : List Int) (x194 : Int) (p191 : Option Addr) (c192 : Nat), (xs193, x194) = s' ∧ St [] H H' [oseg p191 (ints xs193)] ∧ Sb p191 (xs193.length) c192 1 ∧ Am.Sub [(0, .int .i64 a0), (1, .slice p_a1 a1.length c_a1), (5, .slice p191 xs193.length c192), (6, .int .i64 x194)] t') hl240 ?_ ?_
    · skip
      have S242 := S102.front 0 rfl
      exact ⟨[], 0, (some (Addr.mk i101 0 none)), 0, rfl, S242, (Sb.lit (n := 0) (by decide)), Sub.cons' rfl rfl (Sub.cons' rfl rfl (Sub.cons' rfl rfl (Sub.cons' rfl rfl (Sub.nil _))))⟩
    · rintro n243 _ t' G247 ⟨xs193, x194, p191, c192, rfl, S246, Bo190, hsub248⟩ o249 ho244 hk245
      refine AX.sub hsub248 ?_
      unfold D_spec_l03Sums_s0 at ho244
      refine AX.seq ?_
      refine AX.seq ?_
      refine AX.region ?_
      refine AO.p rfl (p_move rfl) ?_
      refine AO.p rfl (p_move rfl) ?_
      refine AO.p rfl (p_len_slice rfl Try.underlying23) ?_
      refine AO.p rfl (p_lss rfl rfl) ?_
      refine AO.nil ?_
      refine AX.cond rfl (fun c250 => ?_) (fun c250 => ?_)
      · have hd251 := bif_t c250 ho244
        refine AX.skip ?_
        refine AX.seq ?_
        refine AX.block ?_
        refine DR.startS [false, false, false, false, false, false, false, false, false, false, false, false, false, false, false, false, false, true, false] mix (by kernel_rfl) (fun hst => ?_)
        refine DR.p rfl rfl (p_move rfl) ?_
        refine DR.p rfl rfl (p_move rfl) ?_
        refine DR.p rfl rfl (p_move rfl) ?_
        obtain ⟨k252, hd253⟩ := chk_some hd251
        obtain ⟨p254, c255, e256, f257⟩ := tget t_a1 (lt_len rfl (inR_lt k252))
        refine DR.p rfl rfl (s_indexV (q := off p_a1 + x194.toNat) Try.underlying23 Try.sizeOf31 rfl ((S246.view v_a1).p f257) rfl k252 (o1 _ _)) ?_
        refine DR.r rfl rfl (r_load rfl Try.isAgg31) (one_read ((S246.view v_a1).get _ _ f257) (TVw.at (S246.tview w_a1) e256).inn.bel) ?_
        obtain ⟨k258, hd259⟩ := chk_some hd253
        refine DR.p rfl rfl (s_indexV (q := off p254 + 0) Try.underlying31 Try.sizeOf2 rfl ((TVw.at (S246.tview w_a1) e256).p (ints_get (lt_len rfl (inR_lt k258)))) rfl k258 (o1 _ _)) ?_
        refine DR.r rfl rfl (r_load rfl Try.isAgg2) (one_read ((TVw.at (S246.tview w_a1) e256).get _ _ (ints_get (lt_len rfl (inR_lt k258)))) (.of_flat0 rfl)) ?_
        refine DR.p rfl rfl (p_move rfl) ?_
        refine DR.p rfl rfl (p_move rfl) ?_
        obtain ⟨k260, hd261⟩ := chk_some hd259
        obtain ⟨p262, c263, e264, f265⟩ := tget t_a1 (lt_len rfl (inR_lt k260))
        refine DR.p rfl rfl (s_indexV (q := off p_a1 + x194.toNat) Try.underlying23 Try.sizeOf31 rfl ((S246.view v_a1).p f265) rfl k260 (o1 _ _)) ?_
        refine DR.r rfl rfl (r_load rfl Try.isAgg31) (one_read ((S246.view v_a1).get _ _ f265) (TVw.at (S246.tview w_a1) e264).inn.bel) ?_
        obtain ⟨k266, hd267⟩ := chk_some hd261
        refine DR.p rfl rfl (s_indexV (q := off p262 + 1) Try.underlying31 Try.sizeOf2 rfl ((TVw.at (S246.tview w_a1) e264).p (ints_get (lt_len rfl (inR_lt k266)))) rfl k266 (o1 _ _)) ?_
        refine DR.r rfl rfl (r_load rfl Try.isAgg2) (one_read ((TVw.at (S246.tview w_a1) e264).get _ _ (ints_get (lt_len rfl (inR_lt k266)))) (.of_flat0 rfl)) ?_
        obtain ⟨k268, hd269⟩ := chk_some hd267
        refine DR.p rfl rfl (p_addE rfl rfl k268) ?_
        refine DR.p rfl rfl (p_move rfl) ?_
        obtain ⟨k270, hd271⟩ := chk_some hd269
        refine DR.p rfl rfl (p_remE rfl rfl k270) ?_
        obtain ⟨G272, i273, hii273, hHG272, S274⟩ := S246.new (AObj.row false (ints [(rd (rw_ a1 x194.toNat) 0 + (rd (rw_ a1 x194.toNat) 1)).tmod a0]))
        refine DR.a rfl rfl hii273 hHG272 (a_buildInts (vs := [(0, .int .i64 ((rd (rw_ a1 x194.toNat) 0 + (rd (rw_ a1 x194.toNat) 1)).tmod a0))]) (xs := [(rd (rw_ a1 x194.toNat) 0 + (rd (rw_ a1 x194.toNat) 1)).tmod a0]) Try.underlying31 Try.sizeOf2 Try.zeroValue2 rfl rfl (by decide) rfl rfl) ?_
        obtain ⟨k276, hd277⟩ := chk_some hd271
        obtain ⟨p278, c279, G280, haG280, S281, Bp278⟩ := S274.app (k := 1) rfl Bo190 (ints [(rd (rw_ a1 x194.toNat) 0 + (rd (rw_ a1 x194.toNat) 1)).tmod a0]) 1 (ints_len1 rfl)
        have S282 := S281.cellsEq (k := 1) (us' := ints (xs193 ++ [(rd (rw_ a1 x194.toNat) 0 + (rd (rw_ a1 x194.toNat) 1)).tmod a0])) (ints_app _ _) rfl
        have BS282 : Sb p278 ((xs193 ++ [(rd (rw_ a1 x194.toNat) 0 + (rd (rw_ a1 x194.toNat) 1)).tmod a0]).length) c279 1 := (show xs193.length + 1 = (xs193 ++ [(rd (rw_ a1 x194.toNat) 0 + (rd (rw_ a1 x194.toNat) 1)).tmod a0]).length from len_app (a := xs193) (b := [(rd (rw_ a1 x194.toNat) 0 + (rd (rw_ a1 x194.toNat) 1)).tmod a0]) rfl rfl) ▸ Bp278
        have S283 := S282.drop 0 rfl
        refine DR.w rfl rfl (s_app (by_ := 8) (us := ints xs193) (vs := ints [(rd (rw_ a1 x194.toNat) 0 + (rd (rw_ a1 x194.toNat) 1)).tmod a0]) Try.underlying31 Try.underlying31 Try.typeInfo2 Try.sizeOf2 Try.zeroValue2 rfl rfl rfl rfl rfl rfl rfl (S274.buf (k := 1) rfl Bo190 (ints_len1 rfl)) (S274.oview (k := 0) rfl (Sb.lit (n := 1) (by decide)) (ints_len1 rfl)) (ints_len1 rfl) ints_one k276 haG280 (show xs193.length + 1 = (xs193 ++ [(rd (rw_ a1 x194.toNat) 0 + (rd (rw_ a1 x194.toNat) 1)).tmod a0]).length from len_app (a := xs193) (b := [(rd (rw_ a1 x194.toNat) 0 + (rd (rw_ a1 x194.toNat) 1)).tmod a0]) rfl rfl)) (appR_len haG280) ?_
        refine DR.p rfl rfl (p_assign rfl) ?_
        refine DR.nil 19 [] hst (by kernel_rfl) trivial ?_
        refine AX.region ?_
        refine AO.p rfl (p_move rfl) ?_
        obtain ⟨k284, hd285⟩ := chk_some hd277
        refine AO.p rfl (p_addE rfl rfl k284) ?_
        refine AO.p rfl (p_assign rfl) ?_
        refine AO.nil ?_
        obtain rfl := some_inj hd285
        have S287 := S283.front 0 rfl
        exact ⟨((xs193 ++ [(rd (rw_ a1 x194.toNat) 0 + (rd (rw_ a1 x194.toNat) 1)).tmod a0]), x194 + 1), hk245, (xs193 ++ [(rd (rw_ a1 x194.toNat) 0 + (rd (rw_ a1 x194.toNat) 1)).tmod a0]), (x194 + 1), p278, c279, rfl, S287, BS282, Sub.cons' rfl rfl (Sub.cons' rfl rfl (Sub.cons' rfl rfl (Sub.cons' rfl rfl (Sub.nil _))))⟩
      · have hd288 := bif_f c250 ho244
        refine AX.exit ?_
        obtain rfl := some_inj hd288
        have S289 := S246.front 0 rfl
        exact ⟨xs193, p191, c192, hk245, S289, Bo190, Sub.cons' rfl rfl (Sub.nil _)⟩
  · rintro t' G291 ⟨xs238, p236, c237, rfl, S290, Bo235, hsub292⟩
    refine ⟨_, hsub292, ?_⟩
    refine AX.seq ?_
    refine AX.region ?_
    refine AO.p rfl (p_move rfl) ?_
    refine AO.p rfl (p_assign rfl) ?_
    refine AO.nil ?_
    refine AX.ret ?_
    obtain rfl := some_inj hd241
    have S293 := S290.front 0 rfl
    exact ⟨.inr rfl, _, res1 rfl (rv_tmp rfl), p236, c237, rfl, S293, Bo235⟩

set_option maxHeartbeats 4000000 in
theorem W_spec_l03Strong (fu : Nat) (H : AHeap) (a0 : Int) (p_a1 : Option Addr) (c_a1 : Nat) (T_a1 : Tb) (a1 : List (List Int)) (t_a1 : trows T_a1 = a1) (v_a1 : Vw H p_a1 a1.length c_a1 (tcells T_a1)) (w_a1 : TVw H T_a1) (r0 : Bool) (hd : D_spec_l03Strong fu a0 a1 = some r0) : ACall Try.prog 89 [.int .i64 a0, .slice p_a1 a1.length c_a1] H (.bool r0) H := by
  refine ACall.bodyP (N := 34) [(0, .int .i64 a0), (1, .slice p_a1 a1.length c_a1)] Try.func89 rfl rfl rfl rfl ?_
  unfold D_spec_l03Strong at hd
  have S0 : St [] H H [] := St.nil H
  refine AX.seq ?_
  refine AX.region ?_
  refine AO.p rfl (p_assign rfl) ?_
  refine AO.nil ?_
  refine AX.seq ?_
  refine DR.startS [false, false, false, false, true, false, false] mix (by kernel_rfl) (fun hst => ?_)
  refine DR.p rfl rfl (p_move rfl) ?_
  obtain ⟨k100, hd101⟩ := chk_some hd
  obtain ⟨G102, i103, hii103, hHG102, S104⟩ := S0.new (AObj.row false (bls (List.replicate a0.toNat false)))
  refine DR.a rfl rfl hii103 hHG102 (a_make1 (v := .bool false) (by_ := 1) Try.underlying109 Try.typeInfo4 Try.sizeOf4 Try.zeroValue4 rfl rfl rfl rfl rfl rfl k100 bls_rep) ?_
  refine DR.p rfl rfl (p_move rfl) ?_
  refine DR.p rfl rfl (p_move rfl) ?_
  obtain ⟨xs106, h107, hd108⟩ := bnd_some hd101
  obtain ⟨_, G114, hc113, p109, c110, rfl, S115, B112⟩ := W_spec_l03Sums fu G102 a0 p_a1 c_a1 T_a1 a1 t_a1 (S104.view v_a1) (S104.tview w_a1) xs106 h107
  have S116 := S104.call S115
  refine DR.w rfl rfl (o_call (vs := [.int .i64 a0, .slice p_a1 a1.length c_a1]) rfl Try.call137 hc113) (S115.len) ?_
  refine DR.p rfl rfl (p_assign rfl) ?_
  refine DR.p rfl rfl (p_assign rfl) ?_
  refine DR.nil 7 [(1, 4)] hst (by kernel_rfl) ⟨(fun _ => by rw [hii103]; exact (S116.get (k := 1) rfl).trans (S104.get (k := 0) rfl).symm), trivial⟩ ?_
  refine AX.seq ?_
  refine AX.region ?_
  refine AO.p rfl (p_move rfl) ?_
  obtain ⟨k117, hd118⟩ := chk_some hd108
  refine AO.p rfl (s_indexV (q := 0) Try.underlying109 Try.sizeOf4 rfl rfl rfl k117 rfl) ?_
  obtain ⟨G119, hHG119, S120⟩ := S116.set (k := 1) (i := i103) rfl (AObj.row false (bls ((List.replicate a0.toNat false).set 0 true)))
  refine AO.s (s_store Try.sizeOf4 rfl rfl rfl (S116.get (k := 1) rfl) (lt_len ((bls_length _).trans len_rep) (inR_lt k117)) ((congrArg (fun l => List.set _ _ (AObj.row false l)) (bls_set _ _ _)).trans hHG119)) ?_
  refine AO.nil ?_
  refine AX.seq ?_
  refine AX.seq ?_
  refine AX.region ?_
  refine AO.p rfl (p_assign rfl) ?_
  refine AO.nil ?_
  obtain ⟨r194, hl195, hd196⟩ := bnd_some hd118
  refine AX.cutS (fun t' H' => .inl () = r194 ∧ St [] H H' [] ∧ Am.Sub [] t') ?_ ?_
  · refine AX.block ?_
    refine AX.loopF (fun s' t' H' => ∃ (bs170 : List Bool) (x172 : Int), (bs170, x172) = s' ∧ St [] H H' [[(i103, AObj.row false (bls bs170))], oseg p109 (ints xs106)] ∧ bs170.length = a0.toNat ∧ Am.Sub [(5, .slice (some (Addr.mk i103 0 none)) a0.toNat a0.toNat), (6, .slice p109 xs106.length c110), (7, .int .i64 x172)] t') hl195 ?_ ?_
    · skip
      have S197 := S120.front 0 rfl
      have S198 := S197.front 1 rfl
      exact ⟨((List.replicate a0.toNat false).set 0 true), 0, rfl, S198, (len_set len_rep), Sub.cons' rfl rfl (Sub.cons' rfl rfl (Sub.cons' rfl rfl (Sub.nil _)))⟩
    · rintro n199 _ t' G203 ⟨bs170, x172, rfl, S202, lbs170, hsub204⟩ o205 ho200 hk201
      refine AX.sub hsub204 ?_
      unfold D_spec_l03Strong_s0 at ho200
      refine AX.seq ?_
      refine AX.seq ?_
      refine AX.region ?_
      refine AO.p rfl (p_move rfl) ?_
      refine AO.p rfl (p_move rfl) ?_
      refine AO.p rfl (p_len_slice rfl Try.underlying31) ?_
      refine AO.p rfl (p_lss rfl rfl) ?_
      refine AO.nil ?_
      refine AX.cond rfl (fun c206 => ?_) (fun c206 => ?_)
      · have hd207 := bif_t c206 ho200
        refine AX.skip ?_
        refine AX.seq ?_
        refine AX.block ?_
        refine AX.seq ?_
        refine AX.seq ?_
        refine AX.region ?_
        refine AO.p rfl (p_move rfl) ?_
        refine AO.p rfl (p_move rfl) ?_
        refine AO.p rfl (p_move rfl) ?_
        obtain ⟨k208, hd209⟩ := chk_some hd207
        refine AO.p rfl (s_indexV (q := x172.toNat) Try.underlying31 Try.sizeOf2 rfl (B112.at (inR_pos k208)) rfl k208 (z1 _)) ?_
        refine AO.c rfl (s_load Try.isAgg2 rfl (row_cell (S202.oat (k := 1) rfl (B112.at (inR_pos k208))) (ints_get (lt_len rfl (inR_lt k208))))) ?_
        obtain ⟨k210, hd211⟩ := chk_some hd209
        refine AO.p rfl (s_indexV (q := (rd xs106 x172.toNat).toNat) Try.underlying109 Try.sizeOf4 rfl rfl rfl k210 (z1 _)) ?_
        refine AO.c rfl (s_load Try.isAgg4 rfl (row_cell (S202.get (k := 0) rfl) (bls_get (lt_len lbs170 (inR_lt k210))))) ?_
        refine AO.nil ?_
        refine AX.cond rfl (fun c212 => ?_) (fun c212 => ?_)
        · have hd213 := bif_t c212 hd211
          refine AX.seq ?_
          refine AX.region ?_
          refine AO.p rfl (p_assign rfl) ?_
          refine AO.nil ?_
          refine AX.ret ?_
          obtain rfl := some_inj hd213
          have z214 : _ = r194 := hk201
          subst z214
          obtain rfl := some_inj hd196
          exact ⟨.inr rfl, _, res1 rfl (rv_tmp rfl), rfl, (flatB_ok rfl), S202.hold⟩
        · have hd215 := bif_f c212 hd211
          refine AX.skip ?_
          refine AX.region ?_
          refine AO.p rfl (p_move rfl) ?_
          refine AO.p rfl (p_move rfl) ?_
          refine AO.p rfl (p_move rfl) ?_
          obtain ⟨k216, hd217⟩ := chk_some hd215
          refine AO.p rfl (s_indexV (q := x172.toNat) Try.underlying31 Try.sizeOf2 rfl (B112.at (inR_pos k216)) rfl k216 (z1 _)) ?_
          refine AO.c rfl (s_load Try.isAgg2 rfl (row_cell (S202.oat (k := 1) rfl (B112.at (inR_pos k216))) (ints_get (lt_len rfl (inR_lt k216))))) ?_
          obtain ⟨k218, hd219⟩ := chk_some hd217
          refine AO.p rfl (s_indexV (q := (rd xs106 x172.toNat).toNat) Try.underlying109 Try.sizeOf4 rfl rfl rfl k218 (z1 _)) ?_
          obtain ⟨G220, hHG220, S221⟩ := S202.set (k := 0) (i := i103) rfl (AObj.row false (bls (bs170.set ((rd xs106 x172.toNat).toNat) true)))
          refine AO.s (s_store Try.sizeOf4 rfl rfl rfl (S202.get (k := 0) rfl) (lt_len ((bls_length _).trans lbs170) (inR_lt k218)) ((congrArg (fun l => List.set _ _ (AObj.row false l)) (bls_set _ _ _)).trans hHG220)) ?_
          refine AO.nil ?_
          refine AX.region ?_
          refine AO.p rfl (p_move rfl) ?_
          obtain ⟨k222, hd223⟩ := chk_some hd219
          refine AO.p rfl (p_addE rfl rfl k222) ?_
          refine AO.p rfl (p_assign rfl) ?_
          refine AO.nil ?_
          obtain rfl := some_inj hd223
          have S225 := S221.front 1 rfl
          have S226 := S225.front 1 rfl
          exact ⟨((bs170.set ((rd xs106 x172.toNat).toNat) true), x172 + 1), hk201, (bs170.set ((rd xs106 x172.toNat).toNat) true), (x172 + 1), rfl, S226, (len_set lbs170), Sub.cons' rfl rfl (Sub.cons' rfl rfl (Sub.cons' rfl rfl (Sub.nil _)))⟩
      · have hd227 := bif_f c206 ho200
        refine AX.exit ?_
        obtain rfl := some_inj hd227
        have S228 := S202.keep 0
        exact ⟨hk201, S228, Sub.nil _⟩
  · rintro t' G230 ⟨rfl, S229, hsub231⟩
    refine ⟨_, hsub231, ?_⟩
    refine AX.seq ?_
    refine AX.region ?_
    refine AO.p rfl (p_assign rfl) ?_
    refine AO.nil ?_
    refine AX.ret ?_
    obtain rfl := some_inj hd196
    exact ⟨.inr rfl, _, res1 rfl (rv_tmp rfl), rfl, (flatB_ok rfl), S229.hold⟩

set_option maxHeartbeats 4000000 in
theorem W_slices_Values_Sint64_int64 (fu : Nat) (H : AHeap) (p_a0 : Option Addr) (c_a0 : Nat) (a0 : List Int) (v_a0 : Vw H p_a0 a0.length c_a0 (ints a0)) (hd : D_slices_Values_Sint64_int64 fu a0 = some ()) : ∃ v G', ACall Try.prog 159 [.slice p_a0 a0.length c_a0] H v G' ∧ ∃ (i_rf : Nat), (v = .func (.func 178) #[] #[.pointer (some ⟨i_rf, 0, none⟩)]) ∧ St [] H G' [[(i_rf, AObj.row false ([.slice p_a0 a0.length c_a0]))]] := by
  refine ACall.bodyX (args := [.slice p_a0 a0.length c_a0]) (N := 4) [(0, .slice p_a0 a0.length c_a0)] (fun v G' => ∃ (i_rf : Nat), (v = .func (.func 178) #[] #[.pointer (some ⟨i_rf, 0, none⟩)]) ∧ St [] H G' [[(i_rf, AObj.row false ([.slice p_a0 a0.length c_a0]))]]) Try.func159 rfl rfl rfl rfl ?_
  unfold D_slices_Values_Sint64_int64 at hd
  have S0 : St [] H H [] := St.nil H
  refine AX.seq ?_
  refine AX.region ?_
  obtain ⟨G100, i101, hii101, hHG100, S102⟩ := S0.new (AObj.row false ([.slice p_a0 a0.length c_a0]))
  refine AO.c rfl (s_box (i := i101) (cs := [.slice p_a0 a0.length c_a0]) rfl hii101 rfl hHG100) ?_
  refine AO.p rfl (p_assign rfl) ?_
  refine AO.nil ?_
  refine AX.seq ?_
  refine AX.region ?_
  refine AO.p rfl (p_makeFunc (fs := []) (cs := [.pointer (some ⟨i101, 0, none⟩)]) rfl rfl) ?_
  refine AO.p rfl (p_assign rfl) ?_
  refine AO.nil ?_
  refine AX.ret ?_
  have S104 := S102.front 0 rfl
  exact ⟨.inr rfl, _, res1 rfl (rv_tmp rfl), i101, rfl, S104⟩

set_option maxHeartbeats 4000000 in
theorem W_slices_Index_Sint64_int64 (fu : Nat) (H : AHeap) (p_a0 : Option Addr) (c_a0 : Nat) (a0 : List Int) (v_a0 : Vw H p_a0 a0.length c_a0 (ints a0)) (a1 : Int) (r0 : Int) (hd : D_slices_Index_Sint64_int64 fu a0 a1 = some r0) : ACall Try.prog 162 [.slice p_a0 a0.length c_a0, .int .i64 a1] H (.int .i64 r0) H := by
  refine ACall.bodyP (N := 19) [(0, .slice p_a0 a0.length c_a0), (1, .int .i64 a1)] Try.func162 rfl rfl rfl rfl ?_
  unfold D_slices_Index_Sint64_int64 at hd
  have S0 : St [] H H [] := St.nil H
  refine AX.seq ?_
  refine AX.region ?_
  refine AO.p rfl (p_assign rfl) ?_
  refine AO.nil ?_
  refine AX.seq ?_
  refine AX.seq ?_
  refine AX.region ?_
  refine AO.p rfl (p_move rfl) ?_
  refine AO.p rfl (p_len_slice rfl Try.underlying31) ?_
  refine AO.p rfl (p_move rfl) ?_
  refine AO.nil ?_
  obtain ⟨r141, hl142, hd143⟩ := bnd_some hd
  refine AX.cutS (fun t' H' => .inl () = r141 ∧ St [] H H' [] ∧ Am.Sub [] t') ?_ ?_
  · refine AX.block ?_
    refine AX.loopF (fun s' t' H' => ∃ (x127 : Int), x127 = s' ∧ St [] H H' [] ∧ Am.Sub [(0, .slice p_a0 a0.length c_a0), (1, .int .i64 a1), (7, .int .i64 ((a0.length : Nat) : Int)), (8, .int .i64 x127)] t') hl142 ?_ ?_
    · skip
      exact ⟨0, rfl, S0, Sub.cons' rfl rfl (Sub.cons' rfl rfl (Sub.cons' rfl rfl (Sub.cons' rfl rfl (Sub.nil _))))⟩
    · rintro n144 _ t' G148 ⟨x127, rfl, S147, hsub149⟩ o150 ho145 hk146
      refine AX.sub hsub149 ?_
      unfold D_slices_Index_Sint64_int64_s0 at ho145
      refine AX.seq ?_
      refine AX.region ?_
      refine AO.p rfl (p_lss rfl rfl) ?_
      refine AO.nil ?_
      refine AX.seq ?_
      refine AX.cond rfl (fun c151 => ?_) (fun c151 => ?_)
      · have hd152 := bif_t c151 ho145
        refine AX.skip ?_
        refine AX.seq ?_
        refine AX.block ?_
        refine AX.seq ?_
        refine AX.region ?_
        refine AO.p rfl (p_move rfl) ?_
        refine AO.p rfl (p_assign rfl) ?_
        refine AO.nil ?_
        refine AX.seq ?_
        refine AX.region ?_
        refine AO.p rfl (p_move rfl) ?_
        refine AO.p rfl (p_move rfl) ?_
        refine AO.p rfl (p_move rfl) ?_
        obtain ⟨k153, hd154⟩ := chk_some hd152
        refine AO.p rfl (s_indexV (q := off p_a0 + x127.toNat) Try.underlying31 Try.sizeOf2 rfl ((S147.view v_a0).p (ints_get (lt_len rfl (inR_lt k153)))) rfl k153 (o1 _ _)) ?_
        refine AO.c rfl (s_load Try.isAgg2 rfl ((S147.view v_a0).get _ _ (ints_get (lt_len rfl (inR_lt k153))))) ?_
        refine AO.p rfl (p_eql rfl rfl) ?_
        refine AO.nil ?_
        refine AX.cond rfl (fun c155 => ?_) (fun c155 => ?_)
        · have hd156 := bif_t c155 hd154
          refine AX.seq ?_
          refine AX.region ?_
          refine AO.p rfl (p_move rfl) ?_
          refine AO.p rfl (p_assign rfl) ?_
          refine AO.nil ?_
          refine AX.ret ?_
          obtain rfl := some_inj hd156
          have z157 : _ = r141 := hk146
          subst z157
          obtain rfl := some_inj hd143
          exact ⟨.inr rfl, _, res1 rfl (rv_tmp rfl), rfl, (flatB_ok rfl), S147.hold⟩
        · have hd158 := bif_f c155 hd154
          refine AX.skip ?_
          refine AX.region ?_
          obtain ⟨k159, hd160⟩ := chk_some hd158
          refine AO.p rfl (p_addE rfl rfl k159) ?_
          refine AO.p rfl (p_move rfl) ?_
          refine AO.nil ?_
          obtain rfl := some_inj hd160
          exact ⟨x127 + 1, hk146, (x127 + 1), rfl, S147, Sub.cons' rfl rfl (Sub.cons' rfl rfl (Sub.cons' rfl rfl (Sub.cons' rfl rfl (Sub.nil _))))⟩
      · have hd162 := bif_f c151 ho145
        refine AX.exit ?_
        obtain rfl := some_inj hd162
        exact ⟨hk146, S147, Sub.nil _⟩
  · rintro t' G164 ⟨rfl, S163, hsub165⟩
    refine ⟨_, hsub165, ?_⟩
    refine AX.seq ?_
    refine AX.region ?_
    refine AO.p rfl (p_assign rfl) ?_
    refine AO.nil ?_
    refine AX.ret ?_
    obtain rfl := some_inj hd143
    exact ⟨.inr rfl, _, res1 rfl (rv_tmp rfl), rfl, (flatB_ok rfl), S163.hold⟩

set_option maxHeartbeats 4000000 in
theorem W_slices_Contains_Sint64_int64 (fu : Nat) (H : AHeap) (p_a0 : Option Addr) (c_a0 : Nat) (a0 : List Int) (v_a0 : Vw H p_a0 a0.length c_a0 (ints a0)) (a1 : Int) (r0 : Bool) (hd : D_slices_Contains_Sint64_int64 fu a0 a1 = some r0) : ACall Try.prog 142 [.slice p_a0 a0.length c_a0, .int .i64 a1] H (.bool r0) H := by
  refine ACall.bodyP (N := 9) [(0, .slice p_a0 a0.length c_a0), (1, .int .i64 a1)] Try.func142 rfl rfl rfl rfl ?_
  unfold D_slices_Contains_Sint64_int64 at hd
  have S0 : St [] H H [] := St.nil H
  refine AX.seq ?_
  refine AX.region ?_
  refine AO.p rfl (p_assign rfl) ?_
  refine AO.nil ?_
  refine AX.seq ?_
  refine AX.region ?_
  refine AO.p rfl (p_move rfl) ?_
  refine AO.p rfl (p_move rfl) ?_
  obtain ⟨x100, h101, hd102⟩ := bnd_some hd
  refine AO.c rfl (o_call (vs := [.slice p_a0 a0.length c_a0, .int .i64 a1]) rfl Try.call162 (W_slices_Index_Sint64_int64 fu H p_a0 c_a0 a0 (S0.view v_a0) a1 x100 h101)) ?_
  refine AO.p rfl (p_geq rfl rfl) ?_
  refine AO.p rfl (p_assign rfl) ?_
  refine AO.nil ?_
  refine AX.ret ?_
  obtain rfl := some_inj hd102
  exact ⟨.inr rfl, _, res1 rfl (rv_tmp rfl), rfl, (flatB_ok rfl), S0.hold⟩

set_option maxHeartbeats 4000000 in
theorem W_slices_Clone_Sint64_int64 (fu : Nat) (H : AHeap) (p_a0 : Option Addr) (c_a0 : Nat) (a0 : List Int) (v_a0 : Vw H p_a0 a0.length c_a0 (ints a0)) (e_a0 : c_a0 ≠ capE) (r0 : List Int) (hd : D_slices_Clone_Sint64_int64 fu a0 = some r0) : ∃ v G', ACall Try.prog 126 [.slice p_a0 a0.length c_a0] H v G' ∧ ∃ (p_r0 : Option Addr) (c_r0 : Nat), (v = .slice p_r0 r0.length c_r0) ∧ St [] H G' [oseg p_r0 (ints r0)] ∧ Sb p_r0 r0.length c_r0 1 := by
  refine ACall.bodyX (args := [.slice p_a0 a0.length c_a0]) (N := 8) [(0, .slice p_a0 a0.length c_a0)] (fun v G' => ∃ (p_r0 : Option Addr) (c_r0 : Nat), (v = .slice p_r0 r0.length c_r0) ∧ St [] H G' [oseg p_r0 (ints r0)] ∧ Sb p_r0 r0.length c_r0 1) Try.func126 rfl rfl rfl rfl ?_
  unfold D_slices_Clone_Sint64_int64 at hd
  have S0 : St [] H H [] := St.nil H
  refine AX.seq ?_
  refine AX.region ?_
  refine AO.p rfl (p_assign rfl) ?_
  refine AO.nil ?_
  refine AX.seq ?_
  refine AX.seq ?_
  refine AX.region ?_
  refine AO.p rfl (p_move rfl) ?_
  refine AO.p rfl (p_eqlNil Try.underlying31 rfl e_a0) ?_
  refine AO.nil ?_
  refine AX.cond rfl (fun c100 => ?_) (fun c100 => ?_)
  · obtain rfl : a0 = [] := List.eq_nil_of_length_eq_zero (vw_nil v_a0 c100).1
    obtain ⟨_, hd101⟩ := chk_some hd
    refine AX.seq ?_
    refine AX.region ?_
    refine AO.p rfl (p_assign rfl) ?_
    refine AO.nil ?_
    refine AX.ret ?_
    obtain rfl := some_inj hd101
    have S102 : St [] H H (oseg none (ints []) :: _) := S0.nilseg 0
    exact ⟨.inr rfl, _, res1 rfl (rv_tmp rfl), none, 0, rfl, S102, Sb.nil⟩
  · skip
    refine AX.skip ?_
    refine AX.seq ?_
    refine AX.region ?_
    obtain ⟨G103, i104, hii104, hHG103, S105⟩ := S0.new (AObj.row false (ints []))
    refine AO.c rfl (s_build0 (i := i104) Try.underlying31 Try.sizeOf2 hii104 hHG103) ?_
    refine AO.p rfl (p_move rfl) ?_
    obtain ⟨k107, hd108⟩ := chk_some hd
    obtain ⟨p109, c110, G111, haG111, S112, Bp109⟩ := S105.app (k := 0) rfl (Sb.lit (n := 0) (by decide)) (ints a0) a0.length (ints_len1 rfl)
    have S113 := S112.cellsEq (k := 0) (us' := ints a0) (List.nil_append _) rfl
    have BS113 : Sb p109 (a0.length) c110 1 := (show 0 + a0.length = a0.length from len_nilapp (b := a0) rfl) ▸ Bp109
    refine AO.c rfl (s_app (by_ := 8) (us := ints []) (vs := ints a0) Try.underlying31 Try.underlying31 Try.typeInfo2 Try.sizeOf2 Try.zeroValue2 rfl rfl rfl rfl rfl rfl rfl (S105.buf (k := 0) rfl (Sb.lit (n := 0) (by decide)) (ints_len1 rfl)) (S105.view v_a0) (ints_len1 rfl) ints_one k107 haG111 (show 0 + a0.length = a0.length from len_nilapp (b := a0) rfl)) ?_
    refine AO.p rfl (p_assign rfl) ?_
    refine AO.nil ?_
    refine AX.ret ?_
    obtain rfl := some_inj hd108
    have S114 := S113.front 0 rfl
    exact ⟨.inr rfl, _, res1 rfl (rv_tmp rfl), p109, c110, rfl, S114, BS113⟩

set_option maxHeartbeats 4000000 in
theorem W_impl_areDifferent (fu : Nat) (H : AHeap) (p_a0 : Option Addr) (c_a0 : Nat) (a0 : List Int) (v_a0 : Vw H p_a0 a0.length c_a0 (ints a0)) (r0 : Bool) (hd : D_impl_areDifferent fu a0 = some r0) : ACall Try.prog 138 [.slice p_a0 a0.length c_a0] H (.bool r0) H := by
  refine ACall.bodyP (N := 19) [(0, .slice p_a0 a0.length c_a0)] Try.func138 rfl rfl rfl rfl ?_
  unfold D_impl_areDifferent at hd
  have S0 : St [] H H [] := St.nil H
  refine AX.seq ?_
  refine AX.region ?_
  refine AO.p rfl (p_assign rfl) ?_
  refine AO.nil ?_
  refine AX.seq ?_
  refine AX.region ?_
  refine AO.p rfl (p_move rfl) ?_
  obtain ⟨_, h100, hd101⟩ := bnd_some hd
  obtain ⟨_, G105, hc104, i102, rfl, S106⟩ := W_slices_Values_Sint64_int64 fu H p_a0 c_a0 a0 (S0.view v_a0)  h100
  have S107 := S0.call S106
  refine AO.c rfl (o_call (vs := [.slice p_a0 a0.length c_a0]) rfl Try.call159 hc104) ?_
  obtain ⟨xs108, h109, hd110⟩ := bnd_some hd101
  obtain ⟨_, G116, hc115, p111, c112, rfl, S117, B114⟩ := W_slices_Sorted_int64 fu G105 i102 false p_a0 c_a0 a0 (S107.view v_a0) (S107.get (k := 0) rfl) xs108 h109
  have S118 := S107.call S117
  refine AO.c rfl (o_call (vs := [.func (.func 178) #[] #[.pointer (some ⟨i102, 0, none⟩)]]) rfl Try.call158 hc115) ?_
  refine AO.p rfl (p_assign rfl) ?_
  refine AO.nil ?_
  obtain ⟨r148, hb149, hd150⟩ := bnd_some hd110
  refine AX.cut (fun t' H' => ∃ (b147 : Bool), b147 = r148 ∧ St [] H H' [] ∧ Am.Sub [(2, .bool b147)] t') ?_ ?_
  · skip
    refine AX.region ?_
    refine AO.p rfl (p_move rfl) ?_
    obtain ⟨b151, h152, hd153⟩ := bnd_some hb149
    refine AO.c rfl (o_call (vs := [.slice p111 xs108.length c112, .int .i64 0]) rfl Try.call142 (W_slices_Contains_Sint64_int64 fu G116 p111 c112 xs108 (S118.oview (k := 0) rfl B114 (ints_len1 rfl)) 0 b151 h152)) ?_
    refine AO.p rfl (p_not rfl) ?_
    refine AO.p rfl (p_move rfl) ?_
    refine AO.cases (d := 10) rfl (fun c155 => ?_) (fun c155 => ?_)
    · have hd156 := bif_t c155 hd153
      refine AO.gp rfl rfl rfl (p_move rfl) ?_
      obtain ⟨xs157, h158, hd159⟩ := bnd_some hd156
      obtain ⟨_, G165, hc164, p160, c161, rfl, S166, B163⟩ := W_slices_Clone_Sint64_int64 fu G116 p111 c112 xs108 (S118.oview (k := 0) rfl B114 (ints_len1 rfl)) (B114.ne rfl) xs157 h158
      have S167 := S118.call S166
      refine AO.gc rfl rfl rfl (o_call (vs := [.slice p111 xs108.length c112]) rfl Try.call126 hc164) ?_
      have S168 := S167.front 0 rfl
      obtain ⟨⟨xs169, xs170⟩, h171, hd172⟩ := bnd_some hd159
      obtain ⟨_, G175, hc174, rfl, S176, l173⟩ := W_slices_Compact_Sint64_int64 fu G165 p160 c161 xs157 B163 (S168.onodup (k := 0) rfl) (S168.omem (k := 0) rfl) xs169 xs170 h171
      have S177 := St.callM (A := [oseg p160 (ints xs157)]) S168 S176 (by simp)
      refine AO.gc rfl rfl rfl (o_call (vs := [.slice p160 xs157.length c161]) rfl Try.call160 hc174) ?_
      refine AO.gp rfl rfl rfl (p_len_slice rfl Try.underlying31) ?_
      refine AO.gp rfl rfl rfl (p_move rfl) ?_
      refine AO.gp rfl rfl rfl (p_len_slice rfl Try.underlying31) ?_
      refine AO.gp rfl rfl rfl (p_eql rfl rfl) ?_
      refine AO.p rfl (p_pickT rfl rfl) ?_
      refine AO.p rfl (p_assign rfl) ?_
      refine AO.nil ?_
      have S178 := S177.keep 0
      exact ⟨(decide (((xs169.length : Nat) : Int) = ((xs108.length : Nat) : Int))), (some_inj hd172), S178, Sub.cons' rfl rfl (Sub.nil _)⟩
    · have hd179 := bif_f c155 hd153
      refine AO.gn rfl rfl rfl ?_
      refine AO.gn rfl rfl rfl ?_
      refine AO.gn rfl rfl rfl ?_
      refine AO.gn rfl rfl rfl ?_
      refine AO.gn rfl rfl rfl ?_
      refine AO.gn rfl rfl rfl ?_
      refine AO.gn rfl rfl rfl ?_
      refine AO.p rfl (p_pickF rfl rfl) ?_
      refine AO.p rfl (p_assign rfl) ?_
      refine AO.nil ?_
      have S180 := S118.keep 0
      exact ⟨false, (some_inj hd179), S180, Sub.cons' rfl rfl (Sub.nil _)⟩
  · rintro t' G182 ⟨b147, rfl, S181, hsub183⟩
    refine AX.sub hsub183 ?_
    refine AX.ret ?_
    obtain rfl := some_inj hd150
    exact ⟨.inr rfl, _, res1 rfl (rv_tmp rfl), rfl, (flatB_ok rfl), S181.hold⟩

end Go.Proofs.Ytnmbjedijgcncaa
