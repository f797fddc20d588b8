/-
  The program computes that, printed by a program. No condition.
-/
import Derived.Test.YtdafmafigcljkaaDE
import Derived.Test.YtdafmafigcljkaaWC
import Derived.Test.YtdafmafigcljkaaProg
import Derived.KernelRfl
namespace Go.Proofs.Ytdafmafigcljkaa
open Go Go.RowKit Am
set_option linter.unusedVariables false
set_option linter.unusedSimpArgs false
set_option maxRecDepth 20000
set_option maxHeartbeats 4000000 in
theorem W_spec_l03Search : ∀ (fu : Nat) (H : AHeap) (F : Sg) (a0 : Int) (p_a1 : Option Addr) (c_a1 : Nat) (T_a1 : Tb) (a1 : List (List Int)) (t_a1 : trows T_a1 = a1) (q_a1 : PT F p_a1 c_a1 T_a1) (a2 : Bool) (a3 : Int) (hn : (([F] : List Sg).flatten.map (·.1)).Nodup) (ho : ∀ x ∈ ([F] : List Sg).flatten, x.1 < H.length ∧ hget H x.1 = x.2) (r0 : List (List (List Int))) (hd : D_spec_l03Search fu a0 a1 a2 a3 = some r0), ∃ v G', ACall Try.prog 56 [.int .i64 a0, .slice p_a1 a1.length c_a1, .bool a2, .int .i64 a3] H v G' ∧ ∃ (p_r0 : Option Addr) (c_r0 : Nat) (T_r0 : Tb3) (F' : Sg), (v = .slice p_r0 r0.length c_r0) ∧ St (([F] : List Sg).flatten.map (·.1)) H G' [F'] ∧ trows3 T_r0 = r0 ∧ PT3 F' p_r0 c_r0 T_r0 ∧ Pin F' F := by
  intro fu
  induction fu with
  | zero => intros; rename_i hd; cases hd
  | succ fu ih =>
  intro H F a0 p_a1 c_a1 T_a1 a1 t_a1 q_a1 a2 a3 hn ho r0 hd
  refine ACall.bodyX (args := [.int .i64 a0, .slice p_a1 a1.length c_a1, .bool a2, .int .i64 a3]) (N := 172) [(0, .int .i64 a0), (1, .slice p_a1 a1.length c_a1), (2, .bool a2), (3, .int .i64 a3)] (fun v G' => ∃ (p_r0 : Option Addr) (c_r0 : Nat) (T_r0 : Tb3) (F' : Sg), (v = .slice p_r0 r0.length c_r0) ∧ St (([F] : List Sg).flatten.map (·.1)) H G' [F'] ∧ trows3 T_r0 = r0 ∧ PT3 F' p_r0 c_r0 T_r0 ∧ Pin F' F) Try.func56 rfl rfl rfl rfl ?_
  unfold D_spec_l03Search at hd
  have S0 := St.initF hn ho
  generalize hM0 : (([F] : List Sg).flatten.map (·.1)) = M0 at S0 ⊢
  refine AX.seq ?_
  refine AX.region ?_
  refine AO.p rfl (p_assign rfl) ?_
  refine AO.nil ?_
  refine AX.seq ?_
  refine AX.seq ?_
  refine AX.region ?_
  refine AO.p rfl (p_move rfl) ?_
  refine AO.p rfl (p_len_slice rfl Try.underlying43) ?_
  refine AO.p rfl (p_move rfl) ?_
  obtain ⟨k100, hd101⟩ := chk_some hd
  refine AO.p rfl (p_subE rfl rfl k100) ?_
  obtain ⟨k102, hd103⟩ := chk_some hd101
  refine AO.p rfl (p_quoE rfl rfl k102) ?_
  refine AO.p rfl (p_eql rfl rfl) ?_
  refine AO.nil ?_
  refine AX.cond rfl (fun c104 => ?_) (fun c104 => ?_)
  · have hd105 := bif_t c104 hd103
    refine AX.seq ?_
    refine AX.region ?_
    refine AO.p rfl (p_move rfl) ?_
    obtain ⟨G106, i107, hii107, hHG106, S108⟩ := S0.new (AObj.row false ([.slice p_a1 a1.length c_a1]))
    refine AO.c rfl (s_buildSl (i := i107) (vs := [(0, .slice p_a1 a1.length c_a1)]) (cs := [.slice p_a1 a1.length c_a1]) Try.underlying25 Try.sizeOf43 Try.zeroValue43 rfl rfl (by decide) rfl rfl hii107 hHG106) ?_
    refine AO.p rfl (p_assign rfl) ?_
    refine AO.nil ?_
    refine AX.ret ?_
    have S110 := S108.cellsEq (k := 0) (p := some ⟨i107, 0, none⟩) (us' := tcells3 [(p_a1, c_a1, T_a1)]) (congrArg (fun n => [Value.slice p_a1 n c_a1]) (tlen t_a1).symm) rfl
    have S111 := S110.front 1 rfl
    have S112 := S111.front 1 rfl
    have S113 : St M0 H G106 [[(i107, AObj.row false (tcells3 [(p_a1, c_a1, T_a1)]))], F] := S112
    obtain ⟨F114, hF115, hp116, S117⟩ := S113.poolHdr3 (PA.one q_a1) (Sb.lit (n := 1) (by decide)) (tlen3 (trows3_1 t_a1))
    obtain rfl := some_inj hd105
    have S119 := S117.front 0 rfl
    exact ⟨.inr rfl, _, res1 rfl (rv_tmp rfl), (some (Addr.mk i107 0 none)), 1, [(p_a1, c_a1, T_a1)], F114, rfl, S119, (trows3_1 t_a1), hp116, ((Pin.refl F).mono hF115)⟩
  · have hd120 := bif_f c104 hd103
    refine AX.skip ?_
    refine AX.seq ?_
    refine DR.startS [false, false, false, false, false, false, false, false, false] mix (by kernel_rfl) (fun hst => ?_)
    refine DR.p rfl rfl (p_move rfl) ?_
    obtain ⟨k121, hd122⟩ := chk_some hd120
    obtain ⟨G123, i124, hii124, hHG123, S125⟩ := S0.new (AObj.row false (bls (List.replicate a0.toNat false)))
    refine DR.a rfl rfl hii124 hHG123 (a_make1 (v := .bool false) (by_ := 1) Try.underlying111 Try.typeInfo4 Try.sizeOf4 Try.zeroValue4 rfl rfl rfl rfl rfl rfl k121 bls_rep) ?_
    refine DR.p rfl rfl (p_move rfl) ?_
    obtain ⟨k127, hd128⟩ := chk_some hd122
    obtain ⟨G129, i130, hii130, hHG129, S131⟩ := S125.new (AObj.row false (bls (List.replicate a0.toNat false)))
    refine DR.a rfl rfl hii130 hHG129 (a_make1 (v := .bool false) (by_ := 1) Try.underlying111 Try.typeInfo4 Try.sizeOf4 Try.zeroValue4 rfl rfl rfl rfl rfl rfl k127 bls_rep) ?_
    refine DR.p rfl rfl (p_move rfl) ?_
    obtain ⟨k133, hd134⟩ := chk_some hd128
    obtain ⟨G135, i136, hii136, hHG135, S137⟩ := S131.new (AObj.row false (bls (List.replicate a0.toNat false)))
    refine DR.a rfl rfl hii136 hHG135 (a_make1 (v := .bool false) (by_ := 1) Try.underlying111 Try.typeInfo4 Try.sizeOf4 Try.zeroValue4 rfl rfl rfl rfl rfl rfl k133 bls_rep) ?_
    refine DR.p rfl rfl (p_assign rfl) ?_
    refine DR.p rfl rfl (p_assign rfl) ?_
    refine DR.p rfl rfl (p_assign rfl) ?_
    refine DR.nil 9 [] hst (by kernel_rfl) trivial ?_
    refine AX.seq ?_
    refine AX.seq ?_
    refine AX.region ?_
    refine AO.p rfl (p_assign rfl) ?_
    refine AO.nil ?_
    obtain ⟨r513, hl514, hd515⟩ := bnd_some hd134
    refine AX.cutS (fun t' H' => ∃ (bs508 : List Bool) (bs510 : List Bool) (bs512 : List Bool), (bs508, bs510, bs512) = r513 ∧ St M0 H H' [F, [(i124, AObj.row false (bls bs508))], [(i130, AObj.row false (bls bs510))], [(i136, AObj.row false (bls bs512))]] ∧ Pin F F ∧ PT F p_a1 c_a1 T_a1 ∧ bs508.length = a0.toNat ∧ bs510.length = a0.toNat ∧ bs512.length = a0.toNat ∧ Am.Sub [(0, .int .i64 a0), (1, .slice p_a1 a1.length c_a1), (2, .bool a2), (3, .int .i64 a3), (9, .slice (some (Addr.mk i124 0 none)) a0.toNat a0.toNat), (10, .slice (some (Addr.mk i130 0 none)) a0.toNat a0.toNat), (11, .slice (some (Addr.mk i136 0 none)) a0.toNat a0.toNat)] t') ?_ ?_
    · refine AX.block ?_
      refine AX.loopF (fun s' t' H' => ∃ (bs385 : List Bool) (bs387 : List Bool) (bs389 : List Bool) (x390 : Int), (bs385, bs387, bs389, x390) = s' ∧ St M0 H H' [F, [(i124, AObj.row false (bls bs385))], [(i130, AObj.row false (bls bs387))], [(i136, AObj.row false (bls bs389))]] ∧ Pin F F ∧ PT F p_a1 c_a1 T_a1 ∧ bs385.length = a0.toNat ∧ bs387.length = a0.toNat ∧ bs389.length = a0.toNat ∧ Am.Sub [(0, .int .i64 a0), (1, .slice p_a1 a1.length c_a1), (2, .bool a2), (3, .int .i64 a3), (9, .slice (some (Addr.mk i124 0 none)) a0.toNat a0.toNat), (10, .slice (some (Addr.mk i130 0 none)) a0.toNat a0.toNat), (11, .slice (some (Addr.mk i136 0 none)) a0.toNat a0.toNat), (12, .int .i64 x390)] t') hl514 ?_ ?_
      · skip
        have S516 := S137.front 0 rfl
        have S517 := S516.front 1 rfl
        have S518 := S517.front 2 rfl
        have S519 := S518.front 3 rfl
        exact ⟨(List.replicate a0.toNat false), (List.replicate a0.toNat false), (List.replicate a0.toNat false), 0, rfl, S519, (Pin.refl F), q_a1, len_rep, len_rep, len_rep, Sub.cons' rfl rfl (Sub.cons' rfl rfl (Sub.cons' rfl rfl (Sub.cons' rfl rfl (Sub.cons' rfl rfl (Sub.cons' rfl rfl (Sub.cons' rfl rfl (Sub.cons' rfl rfl (Sub.nil _))))))))⟩
      · rintro n520 _ t' G524 ⟨bs385, bs387, bs389, x390, rfl, S523, hF381, hv383, lbs385, lbs387, lbs389, hsub525⟩ o526 ho521 hk522
        refine AX.sub hsub525 ?_
        unfold D_spec_l03Search_s0 at ho521
        refine AX.seq ?_
        refine AX.seq ?_
        refine AX.region ?_
        refine AO.p rfl (p_move rfl) ?_
        refine AO.p rfl (p_move rfl) ?_
        refine AO.p rfl (p_len_slice rfl Try.underlying43) ?_
        refine AO.p rfl (p_lss rfl rfl) ?_
        refine AO.nil ?_
        refine AX.cond rfl (fun c527 => ?_) (fun c527 => ?_)
        · have hd528 := bif_t c527 ho521
          refine AX.skip ?_
          refine AX.seq ?_
          refine AX.block ?_
          refine AX.seq ?_
          refine AX.region ?_
          refine AO.p rfl (p_move rfl) ?_
          refine AO.p rfl (p_move rfl) ?_
          refine AO.p rfl (p_move rfl) ?_
          obtain ⟨k529, hd530⟩ := chk_some hd528
          obtain ⟨p531, c532, e533, f534⟩ := tget t_a1 (lt_len rfl (inR_lt k529))
          refine AO.p rfl (s_indexV (q := off p_a1 + x390.toNat) Try.underlying43 Try.sizeOf58 rfl ((S523.ptview (k := 0) rfl hv383 (tlen t_a1)).p f534) rfl k529 (o1 _ _)) ?_
          refine AO.c rfl (s_load Try.isAgg58 rfl ((S523.ptview (k := 0) rfl hv383 (tlen t_a1)).get _ _ f534)) ?_
          obtain ⟨k535, hd536⟩ := chk_some hd530
          refine AO.p rfl (s_indexV (q := off p531 + 0) Try.underlying58 Try.sizeOf2 rfl ((TVw.at (S523.prview (k := 0) rfl (hv383).rs) e533).p (ints_get (lt_len rfl (inR_lt k535)))) rfl k535 (o1 _ _)) ?_
          refine AO.c rfl (s_load Try.isAgg2 rfl ((TVw.at (S523.prview (k := 0) rfl (hv383).rs) e533).get _ _ (ints_get (lt_len rfl (inR_lt k535))))) ?_
          obtain ⟨k537, hd538⟩ := chk_some hd536
          refine AO.p rfl (s_indexV (q := (rd (rw_ a1 x390.toNat) 0).toNat) Try.underlying111 Try.sizeOf4 rfl rfl rfl k537 (z1 _)) ?_
          obtain ⟨G539, hHG539, S540⟩ := S523.set (k := 1) (i := i124) rfl (AObj.row false (bls (bs385.set ((rd (rw_ a1 x390.toNat) 0).toNat) true)))
          have S541 : St M0 H G539 [F, [(i124, AObj.row false (bls (bs385.set ((rd (rw_ a1 x390.toNat) 0).toNat) true)))], [(i130, AObj.row false (bls bs387))], [(i136, AObj.row false (bls bs389))]] := S540
          refine AO.s (s_store Try.sizeOf4 rfl rfl rfl (S523.get (k := 1) rfl) (lt_len ((bls_length _).trans lbs385) (inR_lt k537)) ((congrArg (fun l => List.set _ _ (AObj.row false l)) (bls_set _ _ _)).trans hHG539)) ?_
          refine AO.nil ?_
          refine AX.seq ?_
          refine AX.region ?_
          refine AO.p rfl (p_move rfl) ?_
          refine AO.p rfl (p_move rfl) ?_
          refine AO.p rfl (p_move rfl) ?_
          obtain ⟨k542, hd543⟩ := chk_some hd538
          obtain ⟨p544, c545, e546, f547⟩ := tget t_a1 (lt_len rfl (inR_lt k542))
          refine AO.p rfl (s_indexV (q := off p_a1 + x390.toNat) Try.underlying43 Try.sizeOf58 rfl ((S541.ptview (k := 0) rfl hv383 (tlen t_a1)).p f547) rfl k542 (o1 _ _)) ?_
          refine AO.c rfl (s_load Try.isAgg58 rfl ((S541.ptview (k := 0) rfl hv383 (tlen t_a1)).get _ _ f547)) ?_
          obtain ⟨k548, hd549⟩ := chk_some hd543
          refine AO.p rfl (s_indexV (q := off p544 + 1) Try.underlying58 Try.sizeOf2 rfl ((TVw.at (S541.prview (k := 0) rfl (hv383).rs) e546).p (ints_get (lt_len rfl (inR_lt k548)))) rfl k548 (o1 _ _)) ?_
          refine AO.c rfl (s_load Try.isAgg2 rfl ((TVw.at (S541.prview (k := 0) rfl (hv383).rs) e546).get _ _ (ints_get (lt_len rfl (inR_lt k548))))) ?_
          obtain ⟨k550, hd551⟩ := chk_some hd549
          refine AO.p rfl (s_indexV (q := (rd (rw_ a1 x390.toNat) 1).toNat) Try.underlying111 Try.sizeOf4 rfl rfl rfl k550 (z1 _)) ?_
          obtain ⟨G552, hHG552, S553⟩ := S541.set (k := 1) (i := i124) rfl (AObj.row false (bls ((bs385.set ((rd (rw_ a1 x390.toNat) 0).toNat) true).set ((rd (rw_ a1 x390.toNat) 1).toNat) true)))
          have S554 : St M0 H G552 [F, [(i124, AObj.row false (bls ((bs385.set ((rd (rw_ a1 x390.toNat) 0).toNat) true).set ((rd (rw_ a1 x390.toNat) 1).toNat) true)))], [(i130, AObj.row false (bls bs387))], [(i136, AObj.row false (bls bs389))]] := S553
          refine AO.s (s_store Try.sizeOf4 rfl rfl rfl (S541.get (k := 1) rfl) (lt_len ((bls_length _).trans (len_set lbs385)) (inR_lt k550)) ((congrArg (fun l => List.set _ _ (AObj.row false l)) (bls_set _ _ _)).trans hHG552)) ?_
          refine AO.nil ?_
          refine AX.seq ?_
          refine DR.startS [false, false, false, false, false, false, false, false, false, false, false, false, false, false, false, true, false, true] mix (by kernel_rfl) (fun hst => ?_)
          refine DR.p rfl rfl (p_move rfl) ?_
          refine DR.p rfl rfl (p_move rfl) ?_
          refine DR.p rfl rfl (p_move rfl) ?_
          obtain ⟨k555, hd556⟩ := chk_some hd551
          obtain ⟨p557, c558, e559, f560⟩ := tget t_a1 (lt_len rfl (inR_lt k555))
          refine DR.p rfl rfl (s_indexV (q := off p_a1 + x390.toNat) Try.underlying43 Try.sizeOf58 rfl ((S554.ptview (k := 0) rfl hv383 (tlen t_a1)).p f560) rfl k555 (o1 _ _)) ?_
          refine DR.r rfl rfl (r_load rfl Try.isAgg58) (one_read ((S554.ptview (k := 0) rfl hv383 (tlen t_a1)).get _ _ f560) (TVw.at (S554.prview (k := 0) rfl (hv383).rs) e559).inn.bel) ?_
          obtain ⟨k561, hd562⟩ := chk_some hd556
          refine DR.p rfl rfl (s_indexV (q := off p557 + 1) Try.underlying58 Try.sizeOf2 rfl ((TVw.at (S554.prview (k := 0) rfl (hv383).rs) e559).p (ints_get (lt_len rfl (inR_lt k561)))) rfl k561 (o1 _ _)) ?_
          refine DR.r rfl rfl (r_load rfl Try.isAgg2) (one_read ((TVw.at (S554.prview (k := 0) rfl (hv383).rs) e559).get _ _ (ints_get (lt_len rfl (inR_lt k561)))) (.of_flat0 rfl)) ?_
          refine DR.p rfl rfl (p_move rfl) ?_
          refine DR.p rfl rfl (p_move rfl) ?_
          obtain ⟨k563, hd564⟩ := chk_some hd562
          obtain ⟨p565, c566, e567, f568⟩ := tget t_a1 (lt_len rfl (inR_lt k563))
          refine DR.p rfl rfl (s_indexV (q := off p_a1 + x390.toNat) Try.underlying43 Try.sizeOf58 rfl ((S554.ptview (k := 0) rfl hv383 (tlen t_a1)).p f568) rfl k563 (o1 _ _)) ?_
          refine DR.r rfl rfl (r_load rfl Try.isAgg58) (one_read ((S554.ptview (k := 0) rfl hv383 (tlen t_a1)).get _ _ f568) (TVw.at (S554.prview (k := 0) rfl (hv383).rs) e567).inn.bel) ?_
          obtain ⟨k569, hd570⟩ := chk_some hd564
          refine DR.p rfl rfl (s_indexV (q := off p565 + 0) Try.underlying58 Try.sizeOf2 rfl ((TVw.at (S554.prview (k := 0) rfl (hv383).rs) e567).p (ints_get (lt_len rfl (inR_lt k569)))) rfl k569 (o1 _ _)) ?_
          refine DR.r rfl rfl (r_load rfl Try.isAgg2) (one_read ((TVw.at (S554.prview (k := 0) rfl (hv383).rs) e567).get _ _ (ints_get (lt_len rfl (inR_lt k569)))) (.of_flat0 rfl)) ?_
          obtain ⟨k571, hd572⟩ := chk_some hd570
          refine DR.p rfl rfl (p_subE rfl rfl k571) ?_
          refine DR.p rfl rfl (p_move rfl) ?_
          obtain ⟨x573, h574, hd575⟩ := bnd_some hd572
          refine DR.w rfl rfl (o_call (vs := [.int .i64 (rd (rw_ a1 x390.toNat) 1 - (rd (rw_ a1 x390.toNat) 0)), .int .i64 a0]) rfl Try.call113 (W_spec_l03Mod fu G552 (rd (rw_ a1 x390.toNat) 1 - (rd (rw_ a1 x390.toNat) 0)) a0 x573 h574)) (Nat.le_refl _) ?_
          obtain ⟨k577, hd578⟩ := chk_some hd575
          refine DR.p rfl rfl (s_indexV (q := x573.toNat) Try.underlying111 Try.sizeOf4 rfl rfl rfl k577 (z1 _)) ?_
          obtain ⟨G579, hHG579, S580⟩ := S554.set (k := 2) (i := i130) rfl (AObj.row false (bls (bs387.set x573.toNat true)))
          have S581 : St M0 H G579 [F, [(i124, AObj.row false (bls ((bs385.set ((rd (rw_ a1 x390.toNat) 0).toNat) true).set ((rd (rw_ a1 x390.toNat) 1).toNat) true)))], [(i130, AObj.row false (bls (bs387.set x573.toNat true)))], [(i136, AObj.row false (bls bs389))]] := S580
          refine DR.s rfl (s_store Try.sizeOf4 rfl rfl rfl (S554.get (k := 2) rfl) (lt_len ((bls_length _).trans lbs387) (inR_lt k577)) ((congrArg (fun l => List.set _ _ (AObj.row false l)) (bls_set _ _ _)).trans hHG579)) (set_le hHG579) ?_
          refine DR.nil 18 [] hst (by kernel_rfl) trivial ?_
          refine AX.seq ?_
          refine DR.startS [false, false, false, false, false, false, false, false, false, false, false, false, false, false, false, true, false, true] mix (by kernel_rfl) (fun hst => ?_)
          refine DR.p rfl rfl (p_move rfl) ?_
          refine DR.p rfl rfl (p_move rfl) ?_
          refine DR.p rfl rfl (p_move rfl) ?_
          obtain ⟨k582, hd583⟩ := chk_some hd578
          obtain ⟨p584, c585, e586, f587⟩ := tget t_a1 (lt_len rfl (inR_lt k582))
          refine DR.p rfl rfl (s_indexV (q := off p_a1 + x390.toNat) Try.underlying43 Try.sizeOf58 rfl ((S581.ptview (k := 0) rfl hv383 (tlen t_a1)).p f587) rfl k582 (o1 _ _)) ?_
          refine DR.r rfl rfl (r_load rfl Try.isAgg58) (one_read ((S581.ptview (k := 0) rfl hv383 (tlen t_a1)).get _ _ f587) (TVw.at (S581.prview (k := 0) rfl (hv383).rs) e586).inn.bel) ?_
          obtain ⟨k588, hd589⟩ := chk_some hd583
          refine DR.p rfl rfl (s_indexV (q := off p584 + 0) Try.underlying58 Try.sizeOf2 rfl ((TVw.at (S581.prview (k := 0) rfl (hv383).rs) e586).p (ints_get (lt_len rfl (inR_lt k588)))) rfl k588 (o1 _ _)) ?_
          refine DR.r rfl rfl (r_load rfl Try.isAgg2) (one_read ((TVw.at (S581.prview (k := 0) rfl (hv383).rs) e586).get _ _ (ints_get (lt_len rfl (inR_lt k588)))) (.of_flat0 rfl)) ?_
          refine DR.p rfl rfl (p_move rfl) ?_
          refine DR.p rfl rfl (p_move rfl) ?_
          obtain ⟨k590, hd591⟩ := chk_some hd589
          obtain ⟨p592, c593, e594, f595⟩ := tget t_a1 (lt_len rfl (inR_lt k590))
          refine DR.p rfl rfl (s_indexV (q := off p_a1 + x390.toNat) Try.underlying43 Try.sizeOf58 rfl ((S581.ptview (k := 0) rfl hv383 (tlen t_a1)).p f595) rfl k590 (o1 _ _)) ?_
          refine DR.r rfl rfl (r_load rfl Try.isAgg58) (one_read ((S581.ptview (k := 0) rfl hv383 (tlen t_a1)).get _ _ f595) (TVw.at (S581.prview (k := 0) rfl (hv383).rs) e594).inn.bel) ?_
          obtain ⟨k596, hd597⟩ := chk_some hd591
          refine DR.p rfl rfl (s_indexV (q := off p592 + 1) Try.underlying58 Try.sizeOf2 rfl ((TVw.at (S581.prview (k := 0) rfl (hv383).rs) e594).p (ints_get (lt_len rfl (inR_lt k596)))) rfl k596 (o1 _ _)) ?_
          refine DR.r rfl rfl (r_load rfl Try.isAgg2) (one_read ((TVw.at (S581.prview (k := 0) rfl (hv383).rs) e594).get _ _ (ints_get (lt_len rfl (inR_lt k596)))) (.of_flat0 rfl)) ?_
          obtain ⟨k598, hd599⟩ := chk_some hd597
          refine DR.p rfl rfl (p_subE rfl rfl k598) ?_
          refine DR.p rfl rfl (p_move rfl) ?_
          obtain ⟨x600, h601, hd602⟩ := bnd_some hd599
          refine DR.w rfl rfl (o_call (vs := [.int .i64 (rd (rw_ a1 x390.toNat) 0 - (rd (rw_ a1 x390.toNat) 1)), .int .i64 a0]) rfl Try.call113 (W_spec_l03Mod fu G579 (rd (rw_ a1 x390.toNat) 0 - (rd (rw_ a1 x390.toNat) 1)) a0 x600 h601)) (Nat.le_refl _) ?_
          obtain ⟨k604, hd605⟩ := chk_some hd602
          refine DR.p rfl rfl (s_indexV (q := x600.toNat) Try.underlying111 Try.sizeOf4 rfl rfl rfl k604 (z1 _)) ?_
          obtain ⟨G606, hHG606, S607⟩ := S581.set (k := 2) (i := i130) rfl (AObj.row false (bls ((bs387.set x573.toNat true).set x600.toNat true)))
          have S608 : St M0 H G606 [F, [(i124, AObj.row false (bls ((bs385.set ((rd (rw_ a1 x390.toNat) 0).toNat) true).set ((rd (rw_ a1 x390.toNat) 1).toNat) true)))], [(i130, AObj.row false (bls ((bs387.set x573.toNat true).set x600.toNat true)))], [(i136, AObj.row false (bls bs389))]] := S607
          refine DR.s rfl (s_store Try.sizeOf4 rfl rfl rfl (S581.get (k := 2) rfl) (lt_len ((bls_length _).trans (len_set lbs387)) (inR_lt k604)) ((congrArg (fun l => List.set _ _ (AObj.row false l)) (bls_set _ _ _)).trans hHG606)) (set_le hHG606) ?_
          refine DR.nil 18 [] hst (by kernel_rfl) trivial ?_
          refine DR.startS [false, false, false, false, false, false, false, false, false, false, false, false, false, false, false, false, false, true] mix (by kernel_rfl) (fun hst => ?_)
          refine DR.p rfl rfl (p_move rfl) ?_
          refine DR.p rfl rfl (p_move rfl) ?_
          refine DR.p rfl rfl (p_move rfl) ?_
          obtain ⟨k609, hd610⟩ := chk_some hd605
          obtain ⟨p611, c612, e613, f614⟩ := tget t_a1 (lt_len rfl (inR_lt k609))
          refine DR.p rfl rfl (s_indexV (q := off p_a1 + x390.toNat) Try.underlying43 Try.sizeOf58 rfl ((S608.ptview (k := 0) rfl hv383 (tlen t_a1)).p f614) rfl k609 (o1 _ _)) ?_
          refine DR.r rfl rfl (r_load rfl Try.isAgg58) (one_read ((S608.ptview (k := 0) rfl hv383 (tlen t_a1)).get _ _ f614) (TVw.at (S608.prview (k := 0) rfl (hv383).rs) e613).inn.bel) ?_
          obtain ⟨k615, hd616⟩ := chk_some hd610
          refine DR.p rfl rfl (s_indexV (q := off p611 + 0) Try.underlying58 Try.sizeOf2 rfl ((TVw.at (S608.prview (k := 0) rfl (hv383).rs) e613).p (ints_get (lt_len rfl (inR_lt k615)))) rfl k615 (o1 _ _)) ?_
          refine DR.r rfl rfl (r_load rfl Try.isAgg2) (one_read ((TVw.at (S608.prview (k := 0) rfl (hv383).rs) e613).get _ _ (ints_get (lt_len rfl (inR_lt k615)))) (.of_flat0 rfl)) ?_
          refine DR.p rfl rfl (p_move rfl) ?_
          refine DR.p rfl rfl (p_move rfl) ?_
          obtain ⟨k617, hd618⟩ := chk_some hd616
          obtain ⟨p619, c620, e621, f622⟩ := tget t_a1 (lt_len rfl (inR_lt k617))
          refine DR.p rfl rfl (s_indexV (q := off p_a1 + x390.toNat) Try.underlying43 Try.sizeOf58 rfl ((S608.ptview (k := 0) rfl hv383 (tlen t_a1)).p f622) rfl k617 (o1 _ _)) ?_
          refine DR.r rfl rfl (r_load rfl Try.isAgg58) (one_read ((S608.ptview (k := 0) rfl hv383 (tlen t_a1)).get _ _ f622) (TVw.at (S608.prview (k := 0) rfl (hv383).rs) e621).inn.bel) ?_
          obtain ⟨k623, hd624⟩ := chk_some hd618
          refine DR.p rfl rfl (s_indexV (q := off p619 + 1) Try.underlying58 Try.sizeOf2 rfl ((TVw.at (S608.prview (k := 0) rfl (hv383).rs) e621).p (ints_get (lt_len rfl (inR_lt k623)))) rfl k623 (o1 _ _)) ?_
          refine DR.r rfl rfl (r_load rfl Try.isAgg2) (one_read ((TVw.at (S608.prview (k := 0) rfl (hv383).rs) e621).get _ _ (ints_get (lt_len rfl (inR_lt k623)))) (.of_flat0 rfl)) ?_
          obtain ⟨k625, hd626⟩ := chk_some hd624
          refine DR.p rfl rfl (p_addE rfl rfl k625) ?_
          refine DR.p rfl rfl (p_move rfl) ?_
          obtain ⟨k627, hd628⟩ := chk_some hd626
          refine DR.p rfl rfl (p_remE rfl rfl k627) ?_
          obtain ⟨k629, hd630⟩ := chk_some hd628
          refine DR.p rfl rfl (s_indexV (q := ((rd (rw_ a1 x390.toNat) 0 + (rd (rw_ a1 x390.toNat) 1)).tmod a0).toNat) Try.underlying111 Try.sizeOf4 rfl rfl rfl k629 (z1 _)) ?_
          obtain ⟨G631, hHG631, S632⟩ := S608.set (k := 3) (i := i136) rfl (AObj.row false (bls (bs389.set (((rd (rw_ a1 x390.toNat) 0 + (rd (rw_ a1 x390.toNat) 1)).tmod a0).toNat) true)))
          have S633 : St M0 H G631 [F, [(i124, AObj.row false (bls ((bs385.set ((rd (rw_ a1 x390.toNat) 0).toNat) true).set ((rd (rw_ a1 x390.toNat) 1).toNat) true)))], [(i130, AObj.row false (bls ((bs387.set x573.toNat true).set x600.toNat true)))], [(i136, AObj.row false (bls (bs389.set (((rd (rw_ a1 x390.toNat) 0 + (rd (rw_ a1 x390.toNat) 1)).tmod a0).toNat) true)))]] := S632
          refine DR.s rfl (s_store Try.sizeOf4 rfl rfl rfl (S608.get (k := 3) rfl) (lt_len ((bls_length _).trans lbs389) (inR_lt k629)) ((congrArg (fun l => List.set _ _ (AObj.row false l)) (bls_set _ _ _)).trans hHG631)) (set_le hHG631) ?_
          refine DR.nil 18 [] hst (by kernel_rfl) trivial ?_
          refine AX.region ?_
          refine AO.p rfl (p_move rfl) ?_
          obtain ⟨k634, hd635⟩ := chk_some hd630
          refine AO.p rfl (p_addE rfl rfl k634) ?_
          refine AO.p rfl (p_assign rfl) ?_
          refine AO.nil ?_
          obtain rfl := some_inj hd635
          have S637 := S633.front 3 rfl
          have S638 := S637.front 3 rfl
          have S639 := S638.front 3 rfl
          have S640 := S639.front 3 rfl
          exact ⟨(((bs385.set ((rd (rw_ a1 x390.toNat) 0).toNat) true).set ((rd (rw_ a1 x390.toNat) 1).toNat) true), ((bs387.set x573.toNat true).set x600.toNat true), (bs389.set (((rd (rw_ a1 x390.toNat) 0 + (rd (rw_ a1 x390.toNat) 1)).tmod a0).toNat) true), x390 + 1), hk522, ((bs385.set ((rd (rw_ a1 x390.toNat) 0).toNat) true).set ((rd (rw_ a1 x390.toNat) 1).toNat) true), ((bs387.set x573.toNat true).set x600.toNat true), (bs389.set (((rd (rw_ a1 x390.toNat) 0 + (rd (rw_ a1 x390.toNat) 1)).tmod a0).toNat) true), (x390 + 1), rfl, S640, hF381, hv383, (len_set (len_set lbs385)), (len_set (len_set lbs387)), (len_set lbs389), Sub.cons' rfl rfl (Sub.cons' rfl rfl (Sub.cons' rfl rfl (Sub.cons' rfl rfl (Sub.cons' rfl rfl (Sub.cons' rfl rfl (Sub.cons' rfl rfl (Sub.cons' rfl rfl (Sub.nil _))))))))⟩
        · have hd641 := bif_f c527 ho521
          refine AX.exit ?_
          obtain rfl := some_inj hd641
          have S642 := S523.front 3 rfl
          have S643 := S642.front 3 rfl
          have S644 := S643.front 3 rfl
          have S645 := S644.front 3 rfl
          exact ⟨bs385, bs387, bs389, hk522, S645, hF381, hv383, lbs385, lbs387, lbs389, Sub.cons' rfl rfl (Sub.cons' rfl rfl (Sub.cons' rfl rfl (Sub.cons' rfl rfl (Sub.cons' rfl rfl (Sub.cons' rfl rfl (Sub.cons' rfl rfl (Sub.nil _)))))))⟩
    · rintro t' G647 ⟨bs508, bs510, bs512, rfl, S646, hF504, hv506, lbs508, lbs510, lbs512, hsub648⟩
      refine ⟨_, hsub648, ?_⟩
      refine AX.seq ?_
      refine AX.region ?_
      obtain ⟨G649, i650, hii650, hHG649, S651⟩ := S646.new (AObj.row false (tcells3 []))
      refine AO.c rfl (s_build0 (i := i650) Try.underlying25 Try.sizeOf43 hii650 hHG649) ?_
      refine AO.p rfl (p_assign rfl) ?_
      refine AO.p rfl (p_assign rfl) ?_
      refine AO.nil ?_
      obtain ⟨r718, hl719, hd720⟩ := bnd_some hd515
      refine AX.cut (fun t' H' => ∃ (x715 : Int), x715 = r718 ∧ St M0 H H' [F, [(i124, AObj.row false (bls bs508))], [(i130, AObj.row false (bls bs510))], [(i136, AObj.row false (bls bs512))], [(i650, AObj.row false (tcells3 []))]] ∧ Pin F F ∧ PT F p_a1 c_a1 T_a1 ∧ PA F [] ∧ Am.Sub [(0, .int .i64 a0), (1, .slice p_a1 a1.length c_a1), (2, .bool a2), (3, .int .i64 a3), (9, .slice (some (Addr.mk i124 0 none)) a0.toNat a0.toNat), (10, .slice (some (Addr.mk i130 0 none)) a0.toNat a0.toNat), (11, .slice (some (Addr.mk i136 0 none)) a0.toNat a0.toNat), (13, .int .i64 x715), (14, .slice (some (Addr.mk i650 0 none)) 0 0)] t') ?_ ?_
      · refine AX.block ?_
        refine AX.loopF (fun s' t' H' => ∃ (x696 : Int), x696 = s' ∧ St M0 H H' [F, [(i124, AObj.row false (bls bs508))], [(i130, AObj.row false (bls bs510))], [(i136, AObj.row false (bls bs512))], [(i650, AObj.row false (tcells3 []))]] ∧ Pin F F ∧ PT F p_a1 c_a1 T_a1 ∧ PA F [] ∧ Am.Sub [(0, .int .i64 a0), (1, .slice p_a1 a1.length c_a1), (2, .bool a2), (3, .int .i64 a3), (9, .slice (some (Addr.mk i124 0 none)) a0.toNat a0.toNat), (10, .slice (some (Addr.mk i130 0 none)) a0.toNat a0.toNat), (11, .slice (some (Addr.mk i136 0 none)) a0.toNat a0.toNat), (13, .int .i64 x696), (14, .slice (some (Addr.mk i650 0 none)) 0 0)] t') hl719 ?_ ?_
        · skip
          have S721 := S651.front 0 rfl
          have S722 := S721.front 4 rfl
          have S723 := S722.front 4 rfl
          have S724 := S723.front 4 rfl
          have S725 := S724.front 4 rfl
          exact ⟨1, rfl, S725, hF504, hv506, PA.nil, Sub.cons' rfl rfl (Sub.cons' rfl rfl (Sub.cons' rfl rfl (Sub.cons' rfl rfl (Sub.cons' rfl rfl (Sub.cons' rfl rfl (Sub.cons' rfl rfl (Sub.cons' rfl rfl (Sub.cons' rfl rfl (Sub.nil _)))))))))⟩
        · rintro n726 _ t' G730 ⟨x696, rfl, S729, hF690, hv692, hp698, hsub731⟩ o732 ho727 hk728
          refine AX.sub hsub731 ?_
          unfold D_spec_l03Search_s1 at ho727
          refine AX.seq ?_
          refine AX.seq ?_
          refine AX.region ?_
          refine AO.p rfl (p_move rfl) ?_
          refine AO.p rfl (p_move rfl) ?_
          obtain ⟨k733, hd734⟩ := chk_some ho727
          refine AO.p rfl (s_indexV (q := x696.toNat) Try.underlying111 Try.sizeOf4 rfl rfl rfl k733 (z1 _)) ?_
          refine AO.c rfl (s_load Try.isAgg4 rfl (row_cell (S729.get (k := 1) rfl) (bls_get (lt_len lbs508 (inR_lt k733))))) ?_
          refine AO.nil ?_
          refine AX.cond rfl (fun c735 => ?_) (fun c735 => ?_)
          · have hd736 := bif_t c735 hd734
            refine AX.skip ?_
            refine AX.block ?_
            refine AX.region ?_
            refine AO.p rfl (p_move rfl) ?_
            obtain ⟨k737, hd738⟩ := chk_some hd736
            refine AO.p rfl (p_addE rfl rfl k737) ?_
            refine AO.p rfl (p_assign rfl) ?_
            refine AO.nil ?_
            obtain rfl := some_inj hd738
            have S740 := S729.front 4 rfl
            have S741 := S740.front 4 rfl
            have S742 := S741.front 4 rfl
            have S743 := S742.front 4 rfl
            have S744 := S743.front 4 rfl
            exact ⟨x696 + 1, hk728, (x696 + 1), rfl, S744, hF690, hv692, hp698, Sub.cons' rfl rfl (Sub.cons' rfl rfl (Sub.cons' rfl rfl (Sub.cons' rfl rfl (Sub.cons' rfl rfl (Sub.cons' rfl rfl (Sub.cons' rfl rfl (Sub.cons' rfl rfl (Sub.cons' rfl rfl (Sub.nil _)))))))))⟩
          · have hd745 := bif_f c735 hd734
            refine AX.exit ?_
            obtain rfl := some_inj hd745
            have S746 := S729.front 4 rfl
            have S747 := S746.front 4 rfl
            have S748 := S747.front 4 rfl
            have S749 := S748.front 4 rfl
            have S750 := S749.front 4 rfl
            exact ⟨x696, hk728, S750, hF690, hv692, hp698, Sub.cons' rfl rfl (Sub.cons' rfl rfl (Sub.cons' rfl rfl (Sub.cons' rfl rfl (Sub.cons' rfl rfl (Sub.cons' rfl rfl (Sub.cons' rfl rfl (Sub.cons' rfl rfl (Sub.cons' rfl rfl (Sub.nil _)))))))))⟩
      · rintro t' G752 ⟨x715, rfl, S751, hF709, hv711, hp717, hsub753⟩
        refine AX.sub hsub753 ?_
        refine AX.seq ?_
        refine AX.seq ?_
        refine AX.region ?_
        refine AO.p rfl (p_move rfl) ?_
        obtain ⟨k754, hd755⟩ := chk_some hd720
        refine AO.p rfl (p_addE rfl rfl k754) ?_
        refine AO.p rfl (p_assign rfl) ?_
        refine AO.nil ?_
        obtain ⟨r1313, hl1314, hd1315⟩ := bnd_some hd755
        refine AX.cutS (fun t' H' => ∃ (rss1310 : List (List (List Int))) (F1305 : Sg) (p1308 : Option Addr) (c1309 : Nat) (T1311 : Tb3), rss1310 = r1313 ∧ St M0 H H' [F1305, oseg p1308 (tcells3 T1311)] ∧ Pin F1305 F ∧ trows3 T1311 = rss1310 ∧ PA F1305 T1311 ∧ Sb p1308 (rss1310.length) c1309 1 ∧ Am.Sub [(14, .slice p1308 rss1310.length c1309)] t') ?_ ?_
        · refine AX.block ?_
          refine AX.loopF (fun s' t' H' => ∃ (rss1130 : List (List (List Int))) (x1133 : Int) (F1120 : Sg) (p1128 : Option Addr) (c1129 : Nat) (T1131 : Tb3), (rss1130, x1133) = s' ∧ St M0 H H' [F1120, [(i124, AObj.row false (bls bs508))], [(i130, AObj.row false (bls bs510))], [(i136, AObj.row false (bls bs512))], oseg p1128 (tcells3 T1131)] ∧ Pin F1120 F ∧ PT F1120 p_a1 c_a1 T_a1 ∧ trows3 T1131 = rss1130 ∧ PA F1120 T1131 ∧ Sb p1128 (rss1130.length) c1129 1 ∧ Am.Sub [(0, .int .i64 a0), (1, .slice p_a1 a1.length c_a1), (2, .bool a2), (3, .int .i64 a3), (9, .slice (some (Addr.mk i124 0 none)) a0.toNat a0.toNat), (10, .slice (some (Addr.mk i130 0 none)) a0.toNat a0.toNat), (11, .slice (some (Addr.mk i136 0 none)) a0.toNat a0.toNat), (13, .int .i64 x715), (14, .slice p1128 rss1130.length c1129), (15, .int .i64 x1133)] t') hl1314 ?_ ?_
          · skip
            have S1316 := S751.front 4 rfl
            have S1317 := S1316.front 4 rfl
            have S1318 := S1317.front 4 rfl
            have S1319 := S1318.front 4 rfl
            have S1320 := S1319.front 4 rfl
            exact ⟨[], (x715 + 1), F, (some (Addr.mk i650 0 none)), 0, [], rfl, S1320, hF709, hv711, rfl, hp717, (Sb.lit (n := 0) (by decide)), Sub.cons' rfl rfl (Sub.cons' rfl rfl (Sub.cons' rfl rfl (Sub.cons' rfl rfl (Sub.cons' rfl rfl (Sub.cons' rfl rfl (Sub.cons' rfl rfl (Sub.cons' rfl rfl (Sub.cons' rfl rfl (Sub.cons' rfl rfl (Sub.nil _))))))))))⟩
          · rintro n1321 _ t' G1325 ⟨rss1130, x1133, F1120, p1128, c1129, T1131, rfl, S1324, hF1121, hv1123, tT1131, hp1132, Bo1127, hsub1326⟩ o1327 ho1322 hk1323
            refine AX.sub hsub1326 ?_
            unfold D_spec_l03Search_s2 at ho1322
            refine AX.seq ?_
            refine AX.cut (fun t' H' => G1325 = H' ∧ Am.Sub [(0, .int .i64 a0), (1, .slice p_a1 a1.length c_a1), (2, .bool a2), (3, .int .i64 a3), (9, .slice (some (Addr.mk i124 0 none)) a0.toNat a0.toNat), (10, .slice (some (Addr.mk i130 0 none)) a0.toNat a0.toNat), (11, .slice (some (Addr.mk i136 0 none)) a0.toNat a0.toNat), (13, .int .i64 x715), (14, .slice p1128 rss1130.length c1129), (15, .int .i64 x1133), (121, .bool ((decide (x1133 < a0)) && (decide (((rss1130.length : Nat) : Int) < a3))))] t') ?_ ?_
            · skip
              refine AX.region ?_
              refine AO.p rfl (p_move rfl) ?_
              refine AO.p rfl (p_move rfl) ?_
              refine AO.p rfl (p_lss rfl rfl) ?_
              refine AO.p rfl (p_move rfl) ?_
              refine AO.cases (d := 116) rfl (fun c1331 => ?_) (fun c1331 => ?_)
              · skip
                refine AO.gp rfl rfl rfl (p_move rfl) ?_
                refine AO.gp rfl rfl rfl (p_len_slice rfl Try.underlying25) ?_
                refine AO.gp rfl rfl rfl (p_move rfl) ?_
                refine AO.gp rfl rfl rfl (p_lss rfl rfl) ?_
                refine AO.p rfl (p_pickT rfl rfl) ?_
                refine AO.nil ?_
                exact ⟨rfl, Sub.cons' rfl rfl (Sub.cons' rfl rfl (Sub.cons' rfl rfl (Sub.cons' rfl rfl (Sub.cons' rfl rfl (Sub.cons' rfl rfl (Sub.cons' rfl rfl (Sub.cons' rfl rfl (Sub.cons' rfl rfl (Sub.cons' rfl rfl (Sub.cons' rfl (bool_eq (by simp only [c1331, Bool.true_and, Bool.false_and, Bool.and_true, Bool.and_false, Bool.true_or, Bool.false_or, Bool.or_true, Bool.or_false, Bool.not_true, Bool.not_false, cond_true, cond_false])) (Sub.nil _)))))))))))⟩
              · skip
                refine AO.gn rfl rfl rfl ?_
                refine AO.gn rfl rfl rfl ?_
                refine AO.gn rfl rfl rfl ?_
                refine AO.gn rfl rfl rfl ?_
                refine AO.p rfl (p_pickF rfl rfl) ?_
                refine AO.nil ?_
                exact ⟨rfl, Sub.cons' rfl rfl (Sub.cons' rfl rfl (Sub.cons' rfl rfl (Sub.cons' rfl rfl (Sub.cons' rfl rfl (Sub.cons' rfl rfl (Sub.cons' rfl rfl (Sub.cons' rfl rfl (Sub.cons' rfl rfl (Sub.cons' rfl rfl (Sub.cons' rfl (bool_eq (by simp only [c1331, Bool.true_and, Bool.false_and, Bool.and_true, Bool.and_false, Bool.true_or, Bool.false_or, Bool.or_true, Bool.or_false, Bool.not_true, Bool.not_false, cond_true, cond_false])) (Sub.nil _)))))))))))⟩
            · rintro t' _ ⟨rfl, hsub1332⟩
              refine AX.sub hsub1332 ?_
              refine AX.cond rfl (fun c1333 => ?_) (fun c1333 => ?_)
              · have hd1334 := bif_t c1333 ho1322
                refine AX.skip ?_
                refine AX.seq ?_
                refine AX.block ?_
                refine AX.seq ?_
                refine AX.region ?_
                refine AO.p rfl (p_move rfl) ?_
                refine AO.p rfl (p_move rfl) ?_
                obtain ⟨k1335, hd1336⟩ := chk_some hd1334
                refine AO.p rfl (p_addE rfl rfl k1335) ?_
                refine AO.p rfl (p_move rfl) ?_
                obtain ⟨k1337, hd1338⟩ := chk_some hd1336
                refine AO.p rfl (p_remE rfl rfl k1337) ?_
                refine AO.p rfl (p_assign rfl) ?_
                refine AO.nil ?_
                refine AX.seq ?_
                obtain ⟨r1368, hb1369, hd1370⟩ := bnd_some hd1338
                refine AX.cut (fun t' H' => ∃ (b1367 : Bool), b1367 = r1368 ∧ St M0 H H' [F1120, [(i124, AObj.row false (bls bs508))], [(i130, AObj.row false (bls bs510))], [(i136, AObj.row false (bls bs512))], oseg p1128 (tcells3 T1131)] ∧ Pin F1120 F ∧ PT F1120 p_a1 c_a1 T_a1 ∧ PA F1120 T1131 ∧ Am.Sub [(0, .int .i64 a0), (1, .slice p_a1 a1.length c_a1), (2, .bool a2), (3, .int .i64 a3), (9, .slice (some (Addr.mk i124 0 none)) a0.toNat a0.toNat), (10, .slice (some (Addr.mk i130 0 none)) a0.toNat a0.toNat), (11, .slice (some (Addr.mk i136 0 none)) a0.toNat a0.toNat), (13, .int .i64 x715), (14, .slice p1128 rss1130.length c1129), (15, .int .i64 x1133), (153, .bool b1367)] t') ?_ ?_
                · skip
                  refine AX.region ?_
                  refine AO.p rfl (p_move rfl) ?_
                  refine AO.p rfl (p_move rfl) ?_
                  obtain ⟨k1371, hd1372⟩ := chk_some hb1369
                  refine AO.p rfl (s_indexV (q := x1133.toNat) Try.underlying111 Try.sizeOf4 rfl rfl rfl k1371 (z1 _)) ?_
                  refine AO.c rfl (s_load Try.isAgg4 rfl (row_cell (S1324.get (k := 1) rfl) (bls_get (lt_len lbs508 (inR_lt k1371))))) ?_
                  refine AO.p rfl (p_move rfl) ?_
                  refine AO.cases (d := 133) rfl (fun c1373 => ?_) (fun c1373 => ?_)
                  · have hd1374 := bif_t c1373 hd1372
                    refine AO.gn rfl rfl rfl ?_
                    refine AO.gn rfl rfl rfl ?_
                    refine AO.gn rfl rfl rfl ?_
                    refine AO.gn rfl rfl rfl ?_
                    refine AO.gn rfl rfl rfl ?_
                    refine AO.gn rfl rfl rfl ?_
                    refine AO.p rfl (p_pickT rfl rfl) ?_
                    refine AO.p rfl (p_move rfl) ?_
                    refine AO.gn rfl rfl rfl ?_
                    refine AO.gn rfl rfl rfl ?_
                    refine AO.gu rfl rfl rfl ?_
                    refine AO.gu rfl rfl rfl ?_
                    refine AO.gu rfl rfl rfl ?_
                    refine AO.gu rfl rfl rfl ?_
                    refine AO.gu rfl rfl rfl ?_
                    refine AO.gu rfl rfl rfl ?_
                    refine AO.gu rfl rfl rfl ?_
                    refine AO.gu rfl rfl rfl ?_
                    refine AO.gn rfl rfl rfl ?_
                    refine AO.p rfl (p_pickT rfl rfl) ?_
                    refine AO.nil ?_
                    have S1375 := S1324.front 4 rfl
                    have S1376 := S1375.front 4 rfl
                    have S1377 := S1376.front 4 rfl
                    have S1378 := S1377.front 4 rfl
                    have S1379 := S1378.front 4 rfl
                    exact ⟨true, (some_inj hd1374), S1379, hF1121, hv1123, hp1132, Sub.cons' rfl rfl (Sub.cons' rfl rfl (Sub.cons' rfl rfl (Sub.cons' rfl rfl (Sub.cons' rfl rfl (Sub.cons' rfl rfl (Sub.cons' rfl rfl (Sub.cons' rfl rfl (Sub.cons' rfl rfl (Sub.cons' rfl rfl (Sub.cons' rfl rfl (Sub.nil _)))))))))))⟩
                  · have hd1380 := bif_f c1373 hd1372
                    refine AO.gp rfl rfl rfl (p_move rfl) ?_
                    refine AO.gp rfl rfl rfl (p_move rfl) ?_
                    refine AO.gp rfl rfl rfl (p_move rfl) ?_
                    obtain ⟨k1381, hd1382⟩ := chk_some hd1380
                    refine AO.gp rfl rfl rfl (p_subE rfl rfl k1381) ?_
                    obtain ⟨k1383, hd1384⟩ := chk_some hd1382
                    refine AO.gp rfl rfl rfl (s_indexV (q := (x1133 - x715).toNat) Try.underlying111 Try.sizeOf4 rfl rfl rfl k1383 (z1 _)) ?_
                    refine AO.gc rfl rfl rfl (s_load Try.isAgg4 rfl (row_cell (S1324.get (k := 2) rfl) (bls_get (lt_len lbs510 (inR_lt k1383))))) ?_
                    refine AO.p rfl (p_pickF rfl rfl) ?_
                    refine AO.p rfl (p_move rfl) ?_
                    refine AO.cases (d := 141) rfl (fun c1385 => ?_) (fun c1385 => ?_)
                    · have hd1386 := bif_t c1385 hd1384
                      refine AO.gn rfl rfl rfl ?_
                      refine AO.gn rfl rfl rfl ?_
                      refine AO.gu rfl rfl rfl ?_
                      refine AO.gu rfl rfl rfl ?_
                      refine AO.gu rfl rfl rfl ?_
                      refine AO.gu rfl rfl rfl ?_
                      refine AO.gu rfl rfl rfl ?_
                      refine AO.gu rfl rfl rfl ?_
                      refine AO.gu rfl rfl rfl ?_
                      refine AO.gu rfl rfl rfl ?_
                      refine AO.gn rfl rfl rfl ?_
                      refine AO.p rfl (p_pickT rfl rfl) ?_
                      refine AO.nil ?_
                      have S1387 := S1324.front 4 rfl
                      have S1388 := S1387.front 4 rfl
                      have S1389 := S1388.front 4 rfl
                      have S1390 := S1389.front 4 rfl
                      have S1391 := S1390.front 4 rfl
                      exact ⟨true, (some_inj hd1386), S1391, hF1121, hv1123, hp1132, Sub.cons' rfl rfl (Sub.cons' rfl rfl (Sub.cons' rfl rfl (Sub.cons' rfl rfl (Sub.cons' rfl rfl (Sub.cons' rfl rfl (Sub.cons' rfl rfl (Sub.cons' rfl rfl (Sub.cons' rfl rfl (Sub.cons' rfl rfl (Sub.cons' rfl rfl (Sub.nil _)))))))))))⟩
                    · have hd1392 := bif_f c1385 hd1384
                      refine AO.gp rfl rfl rfl (p_move rfl) ?_
                      refine AO.gp rfl rfl rfl (p_move rfl) ?_
                      refine AO.cases (d := 143) rfl (fun c1393 => ?_) (fun c1393 => ?_)
                      · have hd1394 := bif_t c1393 hd1392
                        refine AO.gp rfl rfl rfl (p_move rfl) ?_
                        refine AO.gp rfl rfl rfl (p_eql rfl rfl) ?_
                        refine AO.gp rfl rfl rfl (p_move rfl) ?_
                        refine AO.cases (d := 146) rfl (fun c1395 => ?_) (fun c1395 => ?_)
                        · have hd1396 := bif_t c1395 hd1394
                          refine AO.gn rfl rfl rfl ?_
                          refine AO.gn rfl rfl rfl ?_
                          refine AO.gn rfl rfl rfl ?_
                          refine AO.gn rfl rfl rfl ?_
                          refine AO.gp rfl rfl rfl (p_pickT rfl rfl) ?_
                          refine AO.gp rfl rfl rfl (p_pickT rfl rfl) ?_
                          refine AO.p rfl (p_pickF rfl rfl) ?_
                          refine AO.nil ?_
                          have S1397 := S1324.front 4 rfl
                          have S1398 := S1397.front 4 rfl
                          have S1399 := S1398.front 4 rfl
                          have S1400 := S1399.front 4 rfl
                          have S1401 := S1400.front 4 rfl
                          exact ⟨true, (some_inj hd1396), S1401, hF1121, hv1123, hp1132, Sub.cons' rfl rfl (Sub.cons' rfl rfl (Sub.cons' rfl rfl (Sub.cons' rfl rfl (Sub.cons' rfl rfl (Sub.cons' rfl rfl (Sub.cons' rfl rfl (Sub.cons' rfl rfl (Sub.cons' rfl rfl (Sub.cons' rfl rfl (Sub.cons' rfl rfl (Sub.nil _)))))))))))⟩
                        · have hd1402 := bif_f c1395 hd1394
                          refine AO.gp rfl rfl rfl (p_move rfl) ?_
                          refine AO.gp rfl rfl rfl (p_move rfl) ?_
                          obtain ⟨k1403, hd1404⟩ := chk_some hd1402
                          refine AO.gp rfl rfl rfl (s_indexV (q := ((x715 + x1133).tmod a0).toNat) Try.underlying111 Try.sizeOf4 rfl rfl rfl k1403 (z1 _)) ?_
                          refine AO.gc rfl rfl rfl (s_load Try.isAgg4 rfl (row_cell (S1324.get (k := 3) rfl) (bls_get (lt_len lbs512 (inR_lt k1403))))) ?_
                          refine AO.gp rfl rfl rfl (p_pickF rfl rfl) ?_
                          refine AO.gp rfl rfl rfl (p_pickT rfl rfl) ?_
                          refine AO.p rfl (p_pickF rfl rfl) ?_
                          refine AO.nil ?_
                          have S1405 := S1324.front 4 rfl
                          have S1406 := S1405.front 4 rfl
                          have S1407 := S1406.front 4 rfl
                          have S1408 := S1407.front 4 rfl
                          have S1409 := S1408.front 4 rfl
                          exact ⟨(rdb bs512 (((x715 + x1133).tmod a0).toNat)), (some_inj hd1404), S1409, hF1121, hv1123, hp1132, Sub.cons' rfl rfl (Sub.cons' rfl rfl (Sub.cons' rfl rfl (Sub.cons' rfl rfl (Sub.cons' rfl rfl (Sub.cons' rfl rfl (Sub.cons' rfl rfl (Sub.cons' rfl rfl (Sub.cons' rfl rfl (Sub.cons' rfl rfl (Sub.cons' rfl rfl (Sub.nil _)))))))))))⟩
                      · have hd1410 := bif_f c1393 hd1392
                        refine AO.gn rfl rfl rfl ?_
                        refine AO.gn rfl rfl rfl ?_
                        refine AO.gn rfl rfl rfl ?_
                        refine AO.gu rfl rfl rfl ?_
                        refine AO.gu rfl rfl rfl ?_
                        refine AO.gu rfl rfl rfl ?_
                        refine AO.gu rfl rfl rfl ?_
                        refine AO.gn rfl rfl rfl ?_
                        refine AO.gp rfl rfl rfl (p_pickF rfl rfl) ?_
                        refine AO.p rfl (p_pickF rfl rfl) ?_
                        refine AO.nil ?_
                        have S1411 := S1324.front 4 rfl
                        have S1412 := S1411.front 4 rfl
                        have S1413 := S1412.front 4 rfl
                        have S1414 := S1413.front 4 rfl
                        have S1415 := S1414.front 4 rfl
                        exact ⟨false, (some_inj hd1410), S1415, hF1121, hv1123, hp1132, Sub.cons' rfl rfl (Sub.cons' rfl rfl (Sub.cons' rfl rfl (Sub.cons' rfl rfl (Sub.cons' rfl rfl (Sub.cons' rfl rfl (Sub.cons' rfl rfl (Sub.cons' rfl rfl (Sub.cons' rfl rfl (Sub.cons' rfl rfl (Sub.cons' rfl rfl (Sub.nil _)))))))))))⟩
                · rintro t' G1417 ⟨b1367, rfl, S1416, hF1359, hv1361, hp1366, hsub1418⟩
                  refine AX.sub hsub1418 ?_
                  refine AX.cond rfl (fun c1419 => ?_) (fun c1419 => ?_)
                  · have hd1420 := bif_t c1419 hd1370
                    refine AX.exit ?_
                    refine AX.region ?_
                    refine AO.p rfl (p_move rfl) ?_
                    obtain ⟨k1421, hd1422⟩ := chk_some hd1420
                    refine AO.p rfl (p_addE rfl rfl k1421) ?_
                    refine AO.p rfl (p_assign rfl) ?_
                    refine AO.nil ?_
                    obtain rfl := some_inj hd1422
                    have S1424 := S1416.front 4 rfl
                    have S1425 := S1424.front 4 rfl
                    have S1426 := S1425.front 4 rfl
                    have S1427 := S1426.front 4 rfl
                    have S1428 := S1427.front 4 rfl
                    exact ⟨(rss1130, x1133 + 1), hk1323, rss1130, (x1133 + 1), F1120, p1128, c1129, T1131, rfl, S1428, hF1359, hv1361, tT1131, hp1366, Bo1127, Sub.cons' rfl rfl (Sub.cons' rfl rfl (Sub.cons' rfl rfl (Sub.cons' rfl rfl (Sub.cons' rfl rfl (Sub.cons' rfl rfl (Sub.cons' rfl rfl (Sub.cons' rfl rfl (Sub.cons' rfl rfl (Sub.cons' rfl rfl (Sub.nil _))))))))))⟩
                  · have hd1429 := bif_f c1419 hd1370
                    refine AX.skip ?_
                    refine AX.region ?_
                    refine AO.p rfl (p_move rfl) ?_
                    refine AO.p rfl (p_move rfl) ?_
                    obtain ⟨G1430, i1431, hii1431, hHG1430, S1432⟩ := S1416.new (AObj.row false (tcells []))
                    refine AO.c rfl (s_build0 (i := i1431) Try.underlying43 Try.sizeOf58 hii1431 hHG1430) ?_
                    refine AO.p rfl (p_move rfl) ?_
                    obtain ⟨k1434, hd1435⟩ := chk_some hd1429
                    obtain ⟨p1436, c1437, G1438, haG1438, S1439, Bp1436⟩ := S1432.app (k := 0) rfl (Sb.lit (n := 0) (by decide)) (tcells T_a1) a1.length (tc_len1 t_a1 rfl)
                    have S1440 := S1439.cellsEq (k := 0) (us' := tcells T_a1) (List.nil_append _) rfl
                    have BS1440 : Sb p1436 (a1.length) c1437 1 := (show 0 + a1.length = a1.length from len_nilapp (b := a1) rfl) ▸ Bp1436
                    refine AO.c rfl (s_app (by_ := 24) (us := tcells []) (vs := tcells T_a1) Try.underlying43 Try.underlying43 Try.typeInfo58 Try.sizeOf58 Try.zeroValue58 rfl rfl rfl rfl rfl rfl rfl (S1432.buf (k := 0) rfl (Sb.lit (n := 0) (by decide)) (tc_len1 rfl rfl)) (S1432.ptview (k := 1) rfl hv1361 (tlen t_a1)) (tc_len1 t_a1 rfl) tcells_one k1434 haG1438 (show 0 + a1.length = a1.length from len_nilapp (b := a1) rfl)) ?_
                    refine AO.p rfl (p_move rfl) ?_
                    refine AO.p rfl (p_move rfl) ?_
                    obtain ⟨G1441, i1442, hii1442, hHG1441, S1443⟩ := S1440.new (AObj.row false (ints [x715, x1133]))
                    refine AO.c rfl (s_buildInts (i := i1442) (vs := [(0, .int .i64 x715), (1, .int .i64 x1133)]) (xs := [x715, x1133]) Try.underlying58 Try.sizeOf2 Try.zeroValue2 rfl rfl (by decide) rfl rfl hii1442 hHG1441) ?_
                    obtain ⟨G1445, i1446, hii1446, hHG1445, S1447⟩ := S1443.new (AObj.row false (tcells ([((some (Addr.mk i1442 0 none)), 2, [x715, x1133])])))
                    have S1449 := (S1447.front 1 rfl).tone (some (Addr.mk i1442 0 none)) 2 [x715, x1133] rfl
                    refine AO.c rfl (s_buildT1 (i := i1446) (X := [((some (Addr.mk i1442 0 none)), 2, [x715, x1133])]) (n := 2) rfl Try.underlying43 Try.sizeOf58 Try.zeroValue58 rfl rfl hii1446 hHG1445) ?_
                    obtain ⟨k1450, hd1451⟩ := chk_some hd1435
                    obtain ⟨p1452, c1453, G1454, haG1454, S1455, Bp1452⟩ := S1449.app (k := 2) rfl BS1440 (tcells ([((some (Addr.mk i1442 0 none)), 2, [x715, x1133])])) 1 (tc_len1 rfl rfl)
                    have S1456 := S1455.cellsEq (k := 2) (us' := tcells (T_a1 ++ [((some (Addr.mk i1442 0 none)), 2, [x715, x1133])])) (tcells_app _ _).symm rfl
                    have BS1456 : Sb p1452 ((a1 ++ [[x715, x1133]]).length) c1453 1 := (show a1.length + 1 = (a1 ++ [[x715, x1133]]).length from len_app (a := a1) (b := [[x715, x1133]]) rfl rfl) ▸ Bp1452
                    have S1457 := S1456.front 3 rfl
                    have S1458 := S1457.front 1 rfl
                    have S1459 : St M0 H G1454 [tseg ([((some (Addr.mk i1442 0 none)), 2, [x715, x1133])]), F1120, [(i1446, AObj.row false (tcells ([((some (Addr.mk i1442 0 none)), 2, [x715, x1133])])))], oseg p1452 (tcells (T_a1 ++ [((some (Addr.mk i1442 0 none)), 2, [x715, x1133])])), [(i124, AObj.row false (bls bs508))], [(i130, AObj.row false (bls bs510))], [(i136, AObj.row false (bls bs512))], oseg p1128 (tcells3 T1131)] := S1458
                    obtain ⟨F1460, hF1461, hp1462, S1463⟩ := S1459.poolRows (T := T_a1) (hv1361).rs (TSb.one (sb_len rfl (Sb.lit (n := 2) (by decide))))
                    have S1464 := S1463.drop 1 rfl
                    refine AO.c rfl (s_app (by_ := 24) (us := tcells T_a1) (vs := tcells ([((some (Addr.mk i1442 0 none)), 2, [x715, x1133])])) Try.underlying43 Try.underlying43 Try.typeInfo58 Try.sizeOf58 Try.zeroValue58 rfl rfl rfl rfl rfl rfl rfl (S1449.buf (k := 2) rfl BS1440 (tc_len1 t_a1 rfl)) (S1449.oview (k := 1) rfl (Sb.lit (n := 1) (by decide)) (tc_len1 rfl rfl)) (tc_len1 rfl rfl) tcells_one k1450 haG1454 (show a1.length + 1 = (a1 ++ [[x715, x1133]]).length from len_app (a := a1) (b := [[x715, x1133]]) rfl rfl)) ?_
                    refine AO.p rfl (p_move rfl) ?_
                    refine AO.p rfl (p_move rfl) ?_
                    refine AO.p rfl (p_move rfl) ?_
                    refine AO.p rfl (p_len_slice rfl Try.underlying25) ?_
                    obtain ⟨k1465, hd1466⟩ := chk_some hd1451
                    refine AO.p rfl (p_subE rfl rfl k1465) ?_
                    have S1467 := S1464.front 0 rfl
                    have S1468 := S1467.front 1 rfl
                    have S1469 : St M0 H G1454 [oseg p1452 (tcells (T_a1 ++ [((some (Addr.mk i1442 0 none)), 2, [x715, x1133])])), F1460, [(i124, AObj.row false (bls bs508))], [(i130, AObj.row false (bls bs510))], [(i136, AObj.row false (bls bs512))], oseg p1128 (tcells3 T1131)] := S1468
                    obtain ⟨F1470, hF1471, hp1472, S1473⟩ := S1469.poolHdr hp1462 BS1456 (tlen (trows_apps t_a1 rfl))
                    have S1475 := S1473.front 0 rfl
                    have S1476 : St M0 H G1454 [F1470, [(i124, AObj.row false (bls bs508))], [(i130, AObj.row false (bls bs510))], [(i136, AObj.row false (bls bs512))], oseg p1128 (tcells3 T1131)] := S1475
                    obtain ⟨rss1477, h1478, hd1479⟩ := bnd_some hd1466
                    obtain ⟨_, G1488, hc1490, p1481, c1482, T1483, F1480, rfl, S1489, t1484, hv1485, hF1487⟩ := ih G1454 F1470 a0 p1452 c1453 (T_a1 ++ [((some (Addr.mk i1442 0 none)), 2, [x715, x1133])]) (a1 ++ [[x715, x1133]]) (trows_apps t_a1 rfl) hp1472 a2 (a3 - ((rss1130.length : Nat) : Int)) (St.fnodup (A := [F1470]) S1476) (St.fmem (A := [F1470]) S1476) rss1477 h1478
                    have S1491 := St.callM (A := [F1470]) S1476 S1489 (fun j h => h)
                    refine AO.c rfl (o_call (vs := [.int .i64 a0, .slice p1452 ((a1 ++ [[x715, x1133]]).length) c1453, .bool a2, .int .i64 (a3 - ((rss1130.length : Nat) : Int))]) rfl Try.call56 hc1490) ?_
                    obtain ⟨k1492, hd1493⟩ := chk_some hd1479
                    obtain ⟨p1494, c1495, G1496, haG1496, S1497, Bp1494⟩ := S1491.app (k := 4) rfl Bo1127 (tcells3 T1483) rss1477.length (tc3_len1 t1484 rfl)
                    have S1498 := S1497.cellsEq (k := 4) (us' := tcells3 (T1131 ++ T1483)) (tcells3_app _ _).symm rfl
                    have BS1498 : Sb p1494 ((rss1130 ++ rss1477).length) c1495 1 := (show rss1130.length + rss1477.length = (rss1130 ++ rss1477).length from len_app (a := rss1130) (b := rss1477) rfl rfl) ▸ Bp1494
                    refine AO.c rfl (s_app (by_ := 24) (us := tcells3 T1131) (vs := tcells3 T1483) Try.underlying25 Try.underlying25 Try.typeInfo43 Try.sizeOf43 Try.zeroValue43 rfl rfl rfl rfl rfl rfl rfl (S1491.buf (k := 4) rfl Bo1127 (tc3_len1 tT1131 rfl)) (S1491.pt3view (k := 0) rfl hv1485 (tlen3 t1484)) (tc3_len1 t1484 rfl) tcells3_one k1492 haG1496 (show rss1130.length + rss1477.length = (rss1130 ++ rss1477).length from len_app (a := rss1130) (b := rss1477) rfl rfl)) ?_
                    refine AO.p rfl (p_assign rfl) ?_
                    refine AO.nil ?_
                    refine AX.region ?_
                    refine AO.p rfl (p_move rfl) ?_
                    obtain ⟨k1499, hd1500⟩ := chk_some hd1493
                    refine AO.p rfl (p_addE rfl rfl k1499) ?_
                    refine AO.p rfl (p_assign rfl) ?_
                    refine AO.nil ?_
                    obtain rfl := some_inj hd1500
                    have S1502 := S1498.front 4 rfl
                    have S1503 := S1502.front 4 rfl
                    have S1504 := S1503.front 4 rfl
                    have S1505 := S1504.front 4 rfl
                    have S1506 := S1505.front 4 rfl
                    exact ⟨((rss1130 ++ rss1477), x1133 + 1), hk1323, (rss1130 ++ rss1477), (x1133 + 1), F1480, p1494, c1495, (T1131 ++ T1483), rfl, S1506, (((hF1359.mono hF1461).mono hF1471).mono hF1487), (((hv1361.mono hF1461).mono hF1471).mono hF1487), (trows3_apps tT1131 t1484), (PA.app (((hp1366.mono hF1461).mono hF1471).mono hF1487) (hv1485).rs), BS1498, Sub.cons' rfl rfl (Sub.cons' rfl rfl (Sub.cons' rfl rfl (Sub.cons' rfl rfl (Sub.cons' rfl rfl (Sub.cons' rfl rfl (Sub.cons' rfl rfl (Sub.cons' rfl rfl (Sub.cons' rfl rfl (Sub.cons' rfl rfl (Sub.nil _))))))))))⟩
              · have hd1507 := bif_f c1333 ho1322
                refine AX.exit ?_
                obtain rfl := some_inj hd1507
                have S1508 := S1324.front 4 rfl
                have S1509 := S1508.front 1 rfl
                have S1510 := S1509.keep 2
                exact ⟨rss1130, F1120, p1128, c1129, T1131, hk1323, S1510, hF1121, tT1131, hp1132, Bo1127, Sub.cons' rfl rfl (Sub.nil _)⟩
        · rintro t' G1512 ⟨rss1310, F1305, p1308, c1309, T1311, rfl, S1511, hF1306, tT1311, hp1312, Bo1307, hsub1513⟩
          refine ⟨_, hsub1513, ?_⟩
          refine AX.seq ?_
          refine AX.region ?_
          refine AO.p rfl (p_move rfl) ?_
          refine AO.p rfl (p_assign rfl) ?_
          refine AO.nil ?_
          refine AX.ret ?_
          have S1514 := S1511.front 0 rfl
          have S1515 := S1514.front 1 rfl
          have S1516 : St M0 H G1512 [oseg p1308 (tcells3 T1311), F1305] := S1515
          obtain ⟨F1517, hF1518, hp1519, S1520⟩ := S1516.poolHdr3 hp1312 Bo1307 (tlen3 tT1311)
          obtain rfl := some_inj hd1315
          have S1522 := S1520.front 0 rfl
          exact ⟨.inr rfl, _, res1 rfl (rv_tmp rfl), p1308, c1309, T1311, F1517, rfl, S1522, tT1311, hp1519, (hF1306.mono hF1518)⟩

set_option maxHeartbeats 4000000 in
theorem W_spec_CountStarters (fu : Nat) (H : AHeap) (a0 : Int) (r0 : Int) (r1 : Int) (r2 : Int) (r3 : Int) (hd : D_spec_CountStarters fu a0 = some (r0, r1, r2, r3)) : ACall Try.prog 22 [.int .i64 a0] H (.tuple #[.int .i64 r0, .int .i64 r1, .int .i64 r2, .int .i64 r3]) H := by
  refine ACall.bodyP (N := 42) [(0, .int .i64 a0)] Try.func22 rfl rfl rfl rfl ?_
  unfold D_spec_CountStarters at hd
  have S0 : St [] H H [] := St.nil H
  have S0 := S0.poolNew
  refine AX.seq ?_
  refine AX.region ?_
  refine AO.p rfl (p_assign rfl) ?_
  refine AO.p rfl (p_assign rfl) ?_
  refine AO.p rfl (p_assign rfl) ?_
  refine AO.p rfl (p_assign rfl) ?_
  refine AO.nil ?_
  refine AX.seq ?_
  refine AX.seq ?_
  refine AX.region ?_
  refine AO.p rfl (p_move rfl) ?_
  obtain ⟨b100, h101, hd102⟩ := bnd_some hd
  refine AO.c rfl (o_call (vs := [.int .i64 a0]) rfl Try.call55 (W_spec_l03Modulus fu H a0 b100 h101)) ?_
  refine AO.p rfl (p_not rfl) ?_
  refine AO.nil ?_
  refine AX.cond rfl (fun c104 => ?_) (fun c104 => ?_)
  · have hd105 := bif_t c104 hd102
    refine AX.seq ?_
    refine AX.region ?_
    refine AO.p rfl (p_assign rfl) ?_
    refine AO.p rfl (p_assign rfl) ?_
    refine AO.p rfl (p_assign rfl) ?_
    refine AO.p rfl (p_assign rfl) ?_
    refine AO.nil ?_
    refine AX.ret ?_
    obtain ⟨rfl, z106⟩ := Prod.mk.inj (some_inj hd105)
    obtain ⟨rfl, z107⟩ := Prod.mk.inj z106
    obtain ⟨rfl, rfl⟩ := Prod.mk.inj z107
    exact ⟨.inr rfl, _, res4 rfl (rv_tmp rfl) (rv_tmp rfl) (rv_tmp rfl) (rv_tmp rfl), rfl, (flat_t4 (flatB_ok rfl) (flatB_ok rfl) (flatB_ok rfl) (flatB_ok rfl)), S0.hold⟩
  · have hd109 := bif_f c104 hd102
    refine AX.skip ?_
    refine AX.seq ?_
    refine AX.region ?_
    refine AO.p rfl (p_move rfl) ?_
    obtain ⟨G110, i111, hii111, hHG110, S112⟩ := S0.new (AObj.row false (tcells []))
    have S112t := S112.nilseg 1
    refine AO.c rfl (s_build0 (i := i111) Try.underlying43 Try.sizeOf58 hii111 hHG110) ?_
    have S114 := S112t.front 2 rfl
    have S115 := S114.front 2 rfl
    obtain ⟨F116, hF117, hp118, S119⟩ := S115.poolRows PR.nil TSb.nil
    have S120 := S119.front 0 rfl
    have S121 := S120.front 1 rfl
    obtain ⟨F122, hF123, hp124, S125⟩ := S121.poolHdr hp118 (Sb.lit (n := 0) (by decide)) (tlen rfl)
    have S127 := S125.front 0 rfl
    obtain ⟨rss128, h129, hd130⟩ := bnd_some hd109
    obtain ⟨_, G139, hc141, p132, c133, T134, F131, rfl, S140, t135, hv136, hF138⟩ := W_spec_l03Search fu G110 F122 a0 (some (Addr.mk i111 0 none)) 0 [] [] rfl hp124 false 1073741824 (St.fnodup (A := [F122]) S127) (St.fmem (A := [F122]) S127) rss128 h129
    have S142 := St.callM (A := [F122]) S127 S140 (fun j h => h)
    refine AO.c rfl (o_call (vs := [.int .i64 a0, .slice (some (Addr.mk i111 0 none)) 0 0, .bool false, .int .i64 1073741824]) rfl Try.call56 hc141) ?_
    refine AO.p rfl (p_assign rfl) ?_
    refine AO.p rfl (p_assign rfl) ?_
    refine AO.p rfl (p_assign rfl) ?_
    refine AO.nil ?_
    refine AX.seq ?_
    refine AX.seq ?_
    refine AX.region ?_
    refine AO.p rfl (p_assign rfl) ?_
    refine AO.nil ?_
    obtain ⟨r345, hl346, hd347⟩ := bnd_some hd130
    refine AX.cutS (fun t' H' => ∃ (x343 : Int) (x344 : Int), (x343, x344) = r345 ∧ St [] H H' [F131] ∧ PT3 F131 p132 c133 T134 ∧ Am.Sub [(6, .slice p132 rss128.length c133), (7, .int .i64 x343), (8, .int .i64 x344)] t') ?_ ?_
    · refine AX.block ?_
      refine AX.loopF (fun s' t' H' => ∃ (x276 : Int) (x277 : Int) (x278 : Int), (x276, x277, x278) = s' ∧ St [] H H' [F131] ∧ PT3 F131 p132 c133 T134 ∧ Am.Sub [(0, .int .i64 a0), (6, .slice p132 rss128.length c133), (7, .int .i64 x276), (8, .int .i64 x277), (9, .int .i64 x278)] t') hl346 ?_ ?_
      · skip
        have S348 := S142.front 0 rfl
        exact ⟨0, 0, 0, rfl, S348, hv136, Sub.cons' rfl rfl (Sub.cons' rfl rfl (Sub.cons' rfl rfl (Sub.cons' rfl rfl (Sub.cons' rfl rfl (Sub.nil _)))))⟩
      · rintro n349 _ t' G353 ⟨x276, x277, x278, rfl, S352, hv275, hsub354⟩ o355 ho350 hk351
        refine AX.sub hsub354 ?_
        unfold D_spec_CountStarters_s0 at ho350
        refine AX.seq ?_
        refine AX.seq ?_
        refine AX.region ?_
        refine AO.p rfl (p_move rfl) ?_
        refine AO.p rfl (p_move rfl) ?_
        refine AO.p rfl (p_len_slice rfl Try.underlying25) ?_
        refine AO.p rfl (p_lss rfl rfl) ?_
        refine AO.nil ?_
        refine AX.cond rfl (fun c356 => ?_) (fun c356 => ?_)
        · have hd357 := bif_t c356 ho350
          refine AX.skip ?_
          refine AX.seq ?_
          refine AX.block ?_
          refine AX.seq ?_
          refine AX.seq ?_
          refine AX.region ?_
          refine AO.p rfl (p_move rfl) ?_
          refine AO.p rfl (p_move rfl) ?_
          refine AO.p rfl (p_move rfl) ?_
          obtain ⟨k358, hd359⟩ := chk_some hd357
          obtain ⟨p360, c361, T364, e362, f363, t365⟩ := tget3 t135 (lt_len rfl (inR_lt k358))
          refine AO.p rfl (s_indexV (q := off p132 + x278.toNat) Try.underlying25 Try.sizeOf43 rfl ((S352.pt3view (k := 0) rfl hv275 (tlen3 t135)).p f363) rfl k358 (o1 _ _)) ?_
          refine AO.c rfl (s_load Try.isAgg43 rfl ((S352.pt3view (k := 0) rfl hv275 (tlen3 t135)).get _ _ f363)) ?_
          obtain ⟨b367, h368, hd369⟩ := bnd_some hd359
          refine AO.c rfl (o_call (vs := [.int .i64 a0, .slice p360 ((rw3 rss128 x278.toNat).length) c361]) rfl Try.call75 (W_spec_l03Strong fu G353 a0 p360 c361 T364 (rw3 rss128 x278.toNat) t365 (S352.ptview (k := 0) rfl (PA.at (hv275).rs e362) (tlen t365)) (S352.prview (k := 0) rfl ((PA.at (hv275).rs e362)).rs) b367 h368)) ?_
          refine AO.nil ?_
          obtain ⟨r379, hb380, hd381⟩ := bnd_some hd369
          refine AX.cutS (fun t' H' => ∃ (x378 : Int), x378 = r379 ∧ St [] H H' [F131] ∧ PT3 F131 p132 c133 T134 ∧ Am.Sub [(0, .int .i64 a0), (6, .slice p132 rss128.length c133), (7, .int .i64 x378), (8, .int .i64 x277), (9, .int .i64 x278)] t') ?_ ?_
          · skip
            refine AX.cond rfl (fun c382 => ?_) (fun c382 => ?_)
            · have hd383 := bif_t c382 hb380
              refine AX.region ?_
              refine AO.p rfl (p_move rfl) ?_
              obtain ⟨k384, hd385⟩ := chk_some hd383
              refine AO.p rfl (p_addE rfl rfl k384) ?_
              refine AO.p rfl (p_assign rfl) ?_
              refine AO.nil ?_
              have S386 := S352.front 0 rfl
              exact ⟨(x276 + 1), (some_inj hd385), S386, hv275, Sub.cons' rfl rfl (Sub.cons' rfl rfl (Sub.cons' rfl rfl (Sub.cons' rfl rfl (Sub.cons' rfl rfl (Sub.nil _)))))⟩
            · have hd387 := bif_f c382 hb380
              refine AX.skip ?_
              have S388 := S352.front 0 rfl
              exact ⟨x276, (some_inj hd387), S388, hv275, Sub.cons' rfl rfl (Sub.cons' rfl rfl (Sub.cons' rfl rfl (Sub.cons' rfl rfl (Sub.cons' rfl rfl (Sub.nil _)))))⟩
          · rintro t' G390 ⟨x378, rfl, S389, hv377, hsub391⟩
            refine ⟨_, hsub391, ?_⟩
            refine AX.seq ?_
            refine AX.region ?_
            refine AO.p rfl (p_move rfl) ?_
            refine AO.p rfl (p_move rfl) ?_
            refine AO.p rfl (p_move rfl) ?_
            obtain ⟨k392, hd393⟩ := chk_some hd381
            obtain ⟨p394, c395, T398, e396, f397, t399⟩ := tget3 t135 (lt_len rfl (inR_lt k392))
            refine AO.p rfl (s_indexV (q := off p132 + x278.toNat) Try.underlying25 Try.sizeOf43 rfl ((S389.pt3view (k := 0) rfl hv377 (tlen3 t135)).p f397) rfl k392 (o1 _ _)) ?_
            refine AO.c rfl (s_load Try.isAgg43 rfl ((S389.pt3view (k := 0) rfl hv377 (tlen3 t135)).get _ _ f397)) ?_
            obtain ⟨b401, h402, hd403⟩ := bnd_some hd393
            refine AO.c rfl (o_call (vs := [.int .i64 a0, .slice p394 ((rw3 rss128 x278.toNat).length) c395]) rfl Try.call76 (W_spec_l03Skew fu G390 a0 p394 c395 T398 (rw3 rss128 x278.toNat) t399 (S389.ptview (k := 0) rfl (PA.at (hv377).rs e396) (tlen t399)) (S389.prview (k := 0) rfl ((PA.at (hv377).rs e396)).rs) b401 h402)) ?_
            refine AO.nil ?_
            refine AX.cond rfl (fun c405 => ?_) (fun c405 => ?_)
            · have hd406 := bif_t c405 hd403
              refine AX.region ?_
              refine AO.p rfl (p_move rfl) ?_
              obtain ⟨k407, hd408⟩ := chk_some hd406
              refine AO.p rfl (p_addE rfl rfl k407) ?_
              refine AO.p rfl (p_assign rfl) ?_
              refine AO.nil ?_
              refine AX.region ?_
              refine AO.p rfl (p_move rfl) ?_
              obtain ⟨k409, hd410⟩ := chk_some hd408
              refine AO.p rfl (p_addE rfl rfl k409) ?_
              refine AO.p rfl (p_assign rfl) ?_
              refine AO.nil ?_
              obtain rfl := some_inj hd410
              have S412 := S389.front 0 rfl
              exact ⟨(x378, x277 + 1, x278 + 1), hk351, x378, (x277 + 1), (x278 + 1), rfl, S412, hv377, Sub.cons' rfl rfl (Sub.cons' rfl rfl (Sub.cons' rfl rfl (Sub.cons' rfl rfl (Sub.cons' rfl rfl (Sub.nil _)))))⟩
            · have hd413 := bif_f c405 hd403
              refine AX.skip ?_
              refine AX.region ?_
              refine AO.p rfl (p_move rfl) ?_
              obtain ⟨k414, hd415⟩ := chk_some hd413
              refine AO.p rfl (p_addE rfl rfl k414) ?_
              refine AO.p rfl (p_assign rfl) ?_
              refine AO.nil ?_
              obtain rfl := some_inj hd415
              have S417 := S389.front 0 rfl
              exact ⟨(x378, x277, x278 + 1), hk351, x378, x277, (x278 + 1), rfl, S417, hv377, Sub.cons' rfl rfl (Sub.cons' rfl rfl (Sub.cons' rfl rfl (Sub.cons' rfl rfl (Sub.cons' rfl rfl (Sub.nil _)))))⟩
        · have hd418 := bif_f c356 ho350
          refine AX.exit ?_
          obtain rfl := some_inj hd418
          have S419 := S352.front 0 rfl
          exact ⟨x276, x277, hk351, S419, hv275, Sub.cons' rfl rfl (Sub.cons' rfl rfl (Sub.cons' rfl rfl (Sub.nil _)))⟩
    · rintro t' G421 ⟨x343, x344, rfl, S420, hv342, hsub422⟩
      refine ⟨_, hsub422, ?_⟩
      refine AX.seq ?_
      refine AX.region ?_
      refine AO.p rfl (p_move rfl) ?_
      refine AO.p rfl (p_len_slice rfl Try.underlying25) ?_
      refine AO.p rfl (p_move rfl) ?_
      refine AO.p rfl (p_move rfl) ?_
      refine AO.p rfl (p_assign rfl) ?_
      refine AO.p rfl (p_assign rfl) ?_
      refine AO.p rfl (p_assign rfl) ?_
      refine AO.p rfl (p_assign rfl) ?_
      refine AO.nil ?_
      refine AX.ret ?_
      obtain ⟨rfl, z423⟩ := Prod.mk.inj (some_inj hd347)
      obtain ⟨rfl, z424⟩ := Prod.mk.inj z423
      obtain ⟨rfl, rfl⟩ := Prod.mk.inj z424
      exact ⟨.inr rfl, _, res4 rfl (rv_tmp rfl) (rv_tmp rfl) (rv_tmp rfl) (rv_tmp rfl), rfl, (flat_t4 (flatB_ok rfl) (flatB_ok rfl) (flatB_ok rfl) (flatB_ok rfl)), S420.hold⟩

set_option maxHeartbeats 4000000 in
theorem W_spec_FirstStrong (fu : Nat) (H : AHeap) (a0 : Int) (r0 : List (List Int)) (r1 : Int) (hd : D_spec_FirstStrong fu a0 = some (r0, r1)) : ∃ v G', ACall Try.prog 24 [.int .i64 a0] H v G' ∧ ∃ (p_r0 : Option Addr) (c_r0 : Nat) (T_r0 : Tb), (v = .tuple #[.slice p_r0 r0.length c_r0, .int .i64 r1]) ∧ St [] H G' [oseg p_r0 (tcells T_r0), tseg T_r0] ∧ Sb p_r0 r0.length c_r0 1 ∧ trows T_r0 = r0 ∧ TSb T_r0 := by
  refine ACall.bodyX (args := [.int .i64 a0]) (N := 17) [(0, .int .i64 a0)] (fun v G' => ∃ (p_r0 : Option Addr) (c_r0 : Nat) (T_r0 : Tb), (v = .tuple #[.slice p_r0 r0.length c_r0, .int .i64 r1]) ∧ St [] H G' [oseg p_r0 (tcells T_r0), tseg T_r0] ∧ Sb p_r0 r0.length c_r0 1 ∧ trows T_r0 = r0 ∧ TSb T_r0) Try.func24 rfl rfl rfl rfl ?_
  unfold D_spec_FirstStrong at hd
  have S0 : St [] H H [] := St.nil H
  have S0 := S0.poolNew
  refine AX.seq ?_
  refine AX.region ?_
  refine AO.p rfl (p_assign rfl) ?_
  refine AO.p rfl (p_assign rfl) ?_
  refine AO.nil ?_
  refine AX.seq ?_
  refine AX.seq ?_
  refine AX.region ?_
  refine AO.p rfl (p_move rfl) ?_
  obtain ⟨b100, h101, hd102⟩ := bnd_some hd
  refine AO.c rfl (o_call (vs := [.int .i64 a0]) rfl Try.call55 (W_spec_l03Modulus fu H a0 b100 h101)) ?_
  refine AO.p rfl (p_not rfl) ?_
  refine AO.nil ?_
  refine AX.cond rfl (fun c104 => ?_) (fun c104 => ?_)
  · have hd105 := bif_t c104 hd102
    refine AX.seq ?_
    refine AX.region ?_
    refine AO.p rfl (p_assign rfl) ?_
    refine AO.p rfl (p_assign rfl) ?_
    refine AO.nil ?_
    refine AX.ret ?_
    obtain ⟨rfl, rfl⟩ := Prod.mk.inj (some_inj hd105)
    have S107 : St [] H H (tseg [] :: _) := S0.nilseg 0
    have S108 : St [] H H (oseg none (tcells []) :: _) := S107.nilseg 0
    have S109 := S108.keep 2
    exact ⟨.inr rfl, _, res2 rfl (rv_tmp rfl) (rv_tmp rfl), none, 0, [], rfl, S109, Sb.nil, rfl, TSb.nil⟩
  · have hd110 := bif_f c104 hd102
    refine AX.skip ?_
    refine AX.seq ?_
    refine AX.region ?_
    refine AO.p rfl (p_move rfl) ?_
    obtain ⟨G111, i112, hii112, hHG111, S113⟩ := S0.new (AObj.row false (tcells []))
    have S113t := S113.nilseg 1
    refine AO.c rfl (s_build0 (i := i112) Try.underlying43 Try.sizeOf58 hii112 hHG111) ?_
    have S115 := S113t.front 2 rfl
    have S116 := S115.front 2 rfl
    obtain ⟨F117, hF118, hp119, S120⟩ := S116.poolRows PR.nil TSb.nil
    have S121 := S120.front 0 rfl
    have S122 := S121.front 1 rfl
    obtain ⟨F123, hF124, hp125, S126⟩ := S122.poolHdr hp119 (Sb.lit (n := 0) (by decide)) (tlen rfl)
    have S128 := S126.front 0 rfl
    obtain ⟨rss129, h130, hd131⟩ := bnd_some hd110
    obtain ⟨_, G140, hc142, p133, c134, T135, F132, rfl, S141, t136, hv137, hF139⟩ := W_spec_l03Search fu G111 F123 a0 (some (Addr.mk i112 0 none)) 0 [] [] rfl hp125 true 1 (St.fnodup (A := [F123]) S128) (St.fmem (A := [F123]) S128) rss129 h130
    have S143 := St.callM (A := [F123]) S128 S141 (fun j h => h)
    refine AO.c rfl (o_call (vs := [.int .i64 a0, .slice (some (Addr.mk i112 0 none)) 0 0, .bool true, .int .i64 1]) rfl Try.call56 hc142) ?_
    refine AO.p rfl (p_assign rfl) ?_
    refine AO.nil ?_
    refine AX.seq ?_
    refine AX.seq ?_
    refine AX.region ?_
    refine AO.p rfl (p_move rfl) ?_
    refine AO.p rfl (p_len_slice rfl Try.underlying25) ?_
    refine AO.p rfl (p_eql rfl rfl) ?_
    refine AO.nil ?_
    refine AX.cond rfl (fun c144 => ?_) (fun c144 => ?_)
    · have hd145 := bif_t c144 hd131
      refine AX.seq ?_
      refine AX.region ?_
      refine AO.p rfl (p_assign rfl) ?_
      refine AO.p rfl (p_assign rfl) ?_
      refine AO.nil ?_
      refine AX.ret ?_
      obtain ⟨rfl, rfl⟩ := Prod.mk.inj (some_inj hd145)
      have S147 : St [] H G140 (tseg [] :: _) := S143.nilseg 0
      have S148 : St [] H G140 (oseg none (tcells []) :: _) := S147.nilseg 0
      have S149 := S148.keep 2
      exact ⟨.inr rfl, _, res2 rfl (rv_tmp rfl) (rv_tmp rfl), none, 0, [], rfl, S149, Sb.nil, rfl, TSb.nil⟩
    · have hd150 := bif_f c144 hd131
      refine AX.skip ?_
      refine AX.seq ?_
      refine AX.region ?_
      refine AO.p rfl (p_move rfl) ?_
      obtain ⟨k151, hd152⟩ := chk_some hd150
      obtain ⟨p153, c154, T157, e155, f156, t158⟩ := tget3 t136 (lt_len rfl (inR_lt k151))
      refine AO.p rfl (s_indexV (q := off p133 + 0) Try.underlying25 Try.sizeOf43 rfl ((S143.pt3view (k := 0) rfl hv137 (tlen3 t136)).p f156) rfl k151 (o1 _ _)) ?_
      refine AO.c rfl (s_load Try.isAgg43 rfl ((S143.pt3view (k := 0) rfl hv137 (tlen3 t136)).get _ _ f156)) ?_
      refine AO.p rfl (p_assign rfl) ?_
      refine AO.p rfl (p_assign rfl) ?_
      refine AO.nil ?_
      refine AX.ret ?_
      have S160 := S143.front 0 rfl
      have S161 := S160.thaw (PA.at (hv137).rs e155)
      obtain ⟨rfl, rfl⟩ := Prod.mk.inj (some_inj hd152)
      have S164 := S161.front 1 rfl
      have S165 := S164.front 1 rfl
      exact ⟨.inr rfl, _, res2 rfl (rv_tmp rfl) (rv_tmp rfl), p153, c154, T157, rfl, S165, (sb_tlen t158 ((PA.at (hv137).rs e155)).hsb), t158, ((PA.at (hv137).rs e155)).rs.sb⟩

end Go.Proofs.Ytdafmafigcljkaa
