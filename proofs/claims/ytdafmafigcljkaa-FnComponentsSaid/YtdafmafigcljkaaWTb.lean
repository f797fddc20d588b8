/-
 The program computes that, printed by a program. No condition.
-/
import Derived.Test.YtdafmafigcljkaaDTb
import Derived.Test.YtdafmafigcljkaaWTa
import Derived.Test.YtdafmafigcljkaaWSo
import Derived.Test.YtdafmafigcljkaaProg
import Derived.KernelRfl
namespace Go.Proofs.Ytdafmafigcljkaa
open Go Go.RowKit Am
set_option linter.unusedVariables false
set_option linter.unusedSimpArgs false
set_option maxRecDepth 20000
set_option maxHeartbeats 4000000 in
theorem W_impl_components (fu : Nat) (H : AHeap) (a0 : Int) (a1 : List Int) (h_a1 : a1.length = 14) (a2 : List Int) (h_a2 : a2.length = 14) (r0 : List (List Int)) (hd : D_impl_components fu a0 a1 a2 = some r0) : ∃ v G', ACall Try.prog 97 [.int .i64 a0, .agg (ints a1).toArray, .agg (ints a2).toArray] H v G' ∧ ∃ (p_r0 : Option Addr) (c_r0 : Nat) (T_r0 : Tb), (v = .slice p_r0 r0.length c_r0) ∧ St [] H G' [oseg p_r0 (tcells T_r0), tseg T_r0] ∧ Sb p_r0 r0.length c_r0 1 ∧ trows T_r0 = r0 ∧ TSb T_r0 := by
 refine ACall.bodyX (args := [.int .i64 a0, .agg (ints a1).toArray, .agg (ints a2).toArray]) (N := 75) [(0, .int .i64 a0), (1, .agg (ints a1).toArray), (2, .agg (ints a2).toArray)] (fun v G' => ∃ (p_r0 : Option Addr) (c_r0 : Nat) (T_r0 : Tb), (v = .slice p_r0 r0.length c_r0) ∧ St [] H G' [oseg p_r0 (tcells T_r0), tseg T_r0] ∧ Sb p_r0 r0.length c_r0 1 ∧ trows T_r0 = r0 ∧ TSb T_r0) Try.func97 rfl rfl rfl rfl ?_
 unfold D_impl_components at hd
 have S0 : St [] H H [] := St.nil H
 refine AX.seq ?_
 refine AX.region ?_
 obtain ⟨G100, i101, hii101, hHG100, S102⟩ := S0.new (AObj.row false (ints a1))
 refine AO.c rfl (s_box (i := i101) (cs := ints a1) rfl hii101 rfl hHG100) ?_
 obtain ⟨G104, i105, hii105, hHG104, S106⟩ := S102.new (AObj.row false (ints a2))
 refine AO.c rfl (s_box (i := i105) (cs := ints a2) rfl hii105 rfl hHG104) ?_
 refine AO.p rfl (p_assign rfl) ?_
 refine AO.nil ?_
 refine AX.seq ?_
 refine DR.startS [false, false, false, false, false] mix (by kernel_rfl) (fun hst => ?_)
 obtain ⟨G108, i109, hii109, hHG108, S110⟩ := S106.new (AObj.row false (tcells []))
 have S110t := S110.nilseg 1
 refine DR.a rfl rfl hii109 hHG108 (a_build0 Try.underlying43 Try.sizeOf58) ?_
 refine DR.p rfl rfl (p_move rfl) ?_
 obtain ⟨k112, hd113⟩ := chk_some hd
 obtain ⟨G114, i115, hii115, hHG114, S116⟩ := S110t.new (AObj.row false (bls (List.replicate a0.toNat false)))
 refine DR.a rfl rfl hii115 hHG114 (a_make1 (v := .bool false) (by_ := 1) Try.underlying111 Try.typeInfo4 Try.sizeOf4 Try.zeroValue4 rfl rfl rfl rfl rfl rfl k112 bls_rep) ?_
 refine DR.p rfl rfl (p_assign rfl) ?_
 refine DR.p rfl rfl (p_assign rfl) ?_
 refine DR.nil 5 [] hst (by kernel_rfl) trivial ?_
 refine AX.seq ?_
 refine AX.seq ?_
 refine AX.region ?_
 refine AO.p rfl (p_move rfl) ?_
 refine AO.p rfl (p_move rfl) ?_
 refine AO.nil ?_
 obtain ⟨r3189, hl3190, hd3191⟩ := bnd_some hd113
 refine AX.cutS (fun t' H' => ∃ (rs3187 : List (List Int)) (p3185 : Option Addr) (c3186 : Nat) (T3188 : Tb), rs3187 = r3189 ∧ St [] H H' [oseg p3185 (tcells T3188), tseg T3188] ∧ trows T3188 = rs3187 ∧ TSb T3188 ∧ Sb p3185 (rs3187.length) c3186 1 ∧ Am.Sub [(7, .slice p3185 rs3187.length c3186)] t') ?_ ?_
 ·refine AX.block ?_
  refine AX.loopF (fun s' t' H' => ∃ (rs2165 : List (List Int)) (bs2168 : List Bool) (x2169 : Int) (p2163 : Option Addr) (c2164 : Nat) (T2166 : Tb), (rs2165, bs2168, x2169) = s' ∧ St [] H H' [[(i101, AObj.row false (ints a1))], [(i105, AObj.row false (ints a2))], oseg p2163 (tcells T2166), tseg T2166, [(i115, AObj.row false (bls bs2168))]] ∧ trows T2166 = rs2165 ∧ TSb T2166 ∧ Sb p2163 (rs2165.length) c2164 1 ∧ bs2168.length = a0.toNat ∧ Am.Sub [(4, .pointer (some ⟨i101, 0, none⟩)), (5, .pointer (some ⟨i105, 0, none⟩)), (7, .slice p2163 rs2165.length c2164), (8, .slice (some (Addr.mk i115 0 none)) a0.toNat a0.toNat), (17, .int .i64 a0), (18, .int .i64 x2169)] t') hl3190 ?_ ?_
  ·skip
   have S3192 := S116.front 0 rfl
   have S3193 := S3192.front 2 rfl
   have S3194 := S3193.front 2 rfl
   have S3195 := S3194.front 3 rfl
   have S3196 := S3195.front 4 rfl
   exact ⟨[], (List.replicate a0.toNat false), 0, (some (Addr.mk i109 0 none)), 0, [], rfl, S3196, rfl, TSb.nil, (Sb.lit (n := 0) (by decide)), len_rep, Sub.cons' rfl rfl (Sub.cons' rfl rfl (Sub.cons' rfl rfl (Sub.cons' rfl rfl (Sub.cons' rfl rfl (Sub.cons' rfl rfl (Sub.nil _))))))⟩
  ·rintro n3197 _ t' G3201 ⟨rs2165, bs2168, x2169, p2163, c2164, T2166, rfl, S3200, tT2166, sT2166, Bo2162, lbs2168, hsub3202⟩ o3203 ho3198 hk3199
   refine AX.sub hsub3202 ?_
   unfold D_impl_components_s0 at ho3198
   refine AX.seq ?_
   refine AX.region ?_
   refine AO.p rfl (p_lss rfl rfl) ?_
   refine AO.nil ?_
   refine AX.seq ?_
   refine AX.cond rfl (fun c3204 => ?_) (fun c3204 => ?_)
   ·have hd3205 := bif_t c3204 ho3198
    refine AX.skip ?_
    refine AX.seq ?_
    refine AX.block ?_
    refine AX.seq ?_
    refine AX.region ?_
    refine AO.p rfl (p_move rfl) ?_
    refine AO.p rfl (p_assign rfl) ?_
    refine AO.nil ?_
    refine AX.seq ?_
    refine AX.seq ?_
    refine AX.region ?_
    refine AO.p rfl (p_move rfl) ?_
    refine AO.p rfl (p_move rfl) ?_
    obtain ⟨k3206, hd3207⟩ := chk_some hd3205
    refine AO.p rfl (s_indexV (q := x2169.toNat) Try.underlying111 Try.sizeOf4 rfl rfl rfl k3206 (z1 _)) ?_
    refine AO.c rfl (s_load Try.isAgg4 rfl (row_cell (S3200.get (k := 4) rfl) (bls_get (lt_len lbs2168 (inR_lt k3206))))) ?_
    refine AO.nil ?_
    refine AX.cond rfl (fun c3208 => ?_) (fun c3208 => ?_)
    ·have hd3209 := bif_t c3208 hd3207
     refine AX.exit ?_
     refine AX.region ?_
     obtain ⟨k3210, hd3211⟩ := chk_some hd3209
     refine AO.p rfl (p_addE rfl rfl k3210) ?_
     refine AO.p rfl (p_move rfl) ?_
     refine AO.nil ?_
     obtain rfl := some_inj hd3211
     have S3213 := S3200.front 4 rfl
     have S3214 := S3213.front 4 rfl
     have S3215 := S3214.front 4 rfl
     have S3216 := S3215.front 4 rfl
     have S3217 := S3216.front 4 rfl
     exact ⟨(rs2165, bs2168, x2169 + 1), hk3199, rs2165, bs2168, (x2169 + 1), p2163, c2164, T2166, rfl, S3217, tT2166, sT2166, Bo2162, lbs2168, Sub.cons' rfl rfl (Sub.cons' rfl rfl (Sub.cons' rfl rfl (Sub.cons' rfl rfl (Sub.cons' rfl rfl (Sub.cons' rfl rfl (Sub.nil _))))))⟩
    ·have hd3218 := bif_f c3208 hd3207
     refine AX.skip ?_
     refine AX.seq ?_
     refine AX.region ?_
     refine AO.p rfl (p_move rfl) ?_
     refine AO.p rfl (p_move rfl) ?_
     obtain ⟨k3219, hd3220⟩ := chk_some hd3218
     refine AO.p rfl (s_indexV (q := x2169.toNat) Try.underlying111 Try.sizeOf4 rfl rfl rfl k3219 (z1 _)) ?_
     obtain ⟨G3221, hHG3221, S3222⟩ := S3200.set (k := 4) (i := i115) rfl (AObj.row false (bls (bs2168.set x2169.toNat true)))
     refine AO.s (s_store Try.sizeOf4 rfl rfl rfl (S3200.get (k := 4) rfl) (lt_len ((bls_length _).trans lbs2168) (inR_lt k3219)) ((congrArg (fun l => List.set _ _ (AObj.row false l)) (bls_set _ _ _)).trans hHG3221)) ?_
     refine AO.nil ?_
     refine AX.seq ?_
     refine AX.region ?_
     refine AO.p rfl (p_move rfl) ?_
     obtain ⟨G3223, i3224, hii3224, hHG3223, S3225⟩ := S3222.new (AObj.row false (ints [x2169]))
     refine AO.c rfl (s_buildInts (i := i3224) (vs := [(0, .int .i64 x2169)]) (xs := [x2169]) Try.underlying58 Try.sizeOf2 Try.zeroValue2 rfl rfl (by decide) rfl rfl hii3224 hHG3223) ?_
     refine AO.p rfl (p_assign rfl) ?_
     refine AO.nil ?_
     refine AX.seq ?_
     refine AX.seq ?_
     refine AX.region ?_
     refine AO.p rfl (p_assign rfl) ?_
     refine AO.nil ?_
     obtain ⟨r3938, hl3939, hd3940⟩ := bnd_some hd3220
     refine AX.cutS (fun t' H' => ∃ (bs3933 : List Bool) (xs3937 : List Int) (p3935 : Option Addr) (c3936 : Nat), (bs3933, xs3937) = r3938 ∧ St [] H H' [[(i101, AObj.row false (ints a1))], [(i105, AObj.row false (ints a2))], oseg p2163 (tcells T2166), tseg T2166, [(i115, AObj.row false (bls bs3933))], oseg p3935 (ints xs3937)] ∧ bs3933.length = a0.toNat ∧ Sb p3935 (xs3937.length) c3936 1 ∧ Am.Sub [(4, .pointer (some ⟨i101, 0, none⟩)), (5, .pointer (some ⟨i105, 0, none⟩)), (7, .slice p2163 rs2165.length c2164), (8, .slice (some (Addr.mk i115 0 none)) a0.toNat a0.toNat), (10, .slice p3935 xs3937.length c3936), (17, .int .i64 a0), (18, .int .i64 x2169)] t') ?_ ?_
     ·refine AX.block ?_
      refine AX.loopF (fun s' t' H' => ∃ (bs3696 : List Bool) (xs3700 : List Int) (x3701 : Int) (p3698 : Option Addr) (c3699 : Nat), (bs3696, xs3700, x3701) = s' ∧ St [] H H' [[(i101, AObj.row false (ints a1))], [(i105, AObj.row false (ints a2))], oseg p2163 (tcells T2166), tseg T2166, [(i115, AObj.row false (bls bs3696))], oseg p3698 (ints xs3700)] ∧ bs3696.length = a0.toNat ∧ Sb p3698 (xs3700.length) c3699 1 ∧ Am.Sub [(4, .pointer (some ⟨i101, 0, none⟩)), (5, .pointer (some ⟨i105, 0, none⟩)), (7, .slice p2163 rs2165.length c2164), (8, .slice (some (Addr.mk i115 0 none)) a0.toNat a0.toNat), (10, .slice p3698 xs3700.length c3699), (11, .int .i64 x3701), (17, .int .i64 a0), (18, .int .i64 x2169)] t') hl3939 ?_ ?_
      ·skip
       have S3941 := S3225.front 0 rfl
       have S3942 := S3941.front 5 rfl
       have S3943 := S3942.front 5 rfl
       have S3944 := S3943.front 5 rfl
       have S3945 := S3944.front 5 rfl
       have S3946 := S3945.front 5 rfl
       exact ⟨(bs2168.set x2169.toNat true), [x2169], 0, (some (Addr.mk i3224 0 none)), 1, rfl, S3946, (len_set lbs2168), (Sb.lit (n := 1) (by decide)), Sub.cons' rfl rfl (Sub.cons' rfl rfl (Sub.cons' rfl rfl (Sub.cons' rfl rfl (Sub.cons' rfl (sl_n (Eq.symm rfl)) (Sub.cons' rfl rfl (Sub.cons' rfl rfl (Sub.cons' rfl rfl (Sub.nil _))))))))⟩
      ·rintro n3947 _ t' G3951 ⟨bs3696, xs3700, x3701, p3698, c3699, rfl, S3950, lbs3696, Bo3697, hsub3952⟩ o3953 ho3948 hk3949
       refine AX.sub hsub3952 ?_
       unfold D_impl_components_s1 at ho3948
       refine AX.seq ?_
       refine AX.seq ?_
       refine AX.region ?_
       refine AO.p rfl (p_move rfl) ?_
       refine AO.p rfl (p_move rfl) ?_
       refine AO.p rfl (p_len_slice rfl Try.underlying58) ?_
       refine AO.p rfl (p_lss rfl rfl) ?_
       refine AO.nil ?_
       refine AX.cond rfl (fun c3954 => ?_) (fun c3954 => ?_)
       ·have hd3955 := bif_t c3954 ho3948
        refine AX.skip ?_
        refine AX.seq ?_
        refine AX.block ?_
        refine AX.seq ?_
        refine DR.startS [false, false, false, false, false, false, false, false, false, false, false, false, false, false, false] mix (by kernel_rfl) (fun hst => ?_)
        refine DR.p rfl rfl (p_move rfl) ?_
        refine DR.p rfl rfl (p_move rfl) ?_
        obtain ⟨k3956, hd3957⟩ := chk_some hd3955
        refine DR.p rfl rfl (s_indexV (q := x3701.toNat) Try.underlying58 Try.sizeOf2 rfl (Bo3697.at (inR_pos k3956)) rfl k3956 (z1 _)) ?_
        refine DR.r rfl rfl (r_load rfl Try.isAgg2) (one_read (row_cell (S3950.oat (k := 5) rfl (Bo3697.at (inR_pos k3956))) (ints_get (lt_len rfl (inR_lt k3956)))) (.of_flat0 rfl)) ?_
        obtain ⟨k3958, hd3959⟩ := chk_some hd3957
        refine DR.p rfl rfl (s_indexAr (q := (rd xs3700 x3701.toNat).toNat) Try.underlying54 Try.sizeOf2 rfl rfl k3958 (z1 _)) ?_
        refine DR.r rfl rfl (r_load rfl Try.isAgg2) (one_read (row_cell (S3950.get (k := 0) rfl) (ints_get (lt_len h_a1 (inR_lt k3958)))) (.of_flat0 rfl)) ?_
        refine DR.p rfl rfl (p_move rfl) ?_
        refine DR.p rfl rfl (p_move rfl) ?_
        obtain ⟨k3960, hd3961⟩ := chk_some hd3959
        refine DR.p rfl rfl (s_indexV (q := x3701.toNat) Try.underlying58 Try.sizeOf2 rfl (Bo3697.at (inR_pos k3960)) rfl k3960 (z1 _)) ?_
        refine DR.r rfl rfl (r_load rfl Try.isAgg2) (one_read (row_cell (S3950.oat (k := 5) rfl (Bo3697.at (inR_pos k3960))) (ints_get (lt_len rfl (inR_lt k3960)))) (.of_flat0 rfl)) ?_
        obtain ⟨k3962, hd3963⟩ := chk_some hd3961
        refine DR.p rfl rfl (s_indexAr (q := (rd xs3700 x3701.toNat).toNat) Try.underlying54 Try.sizeOf2 rfl rfl k3962 (z1 _)) ?_
        refine DR.r rfl rfl (r_load rfl Try.isAgg2) (one_read (row_cell (S3950.get (k := 1) rfl) (ints_get (lt_len h_a2 (inR_lt k3962)))) (.of_flat0 rfl)) ?_
        obtain ⟨G3964, i3965, hii3965, hHG3964, S3966⟩ := S3950.new (AObj.row false (ints [rd a1 ((rd xs3700 x3701.toNat).toNat), rd a2 ((rd xs3700 x3701.toNat).toNat)]))
        refine DR.a rfl rfl hii3965 hHG3964 (a_buildInts (vs := [(0, .int .i64 (rd a1 ((rd xs3700 x3701.toNat).toNat))), (1, .int .i64 (rd a2 ((rd xs3700 x3701.toNat).toNat)))]) (xs := [rd a1 ((rd xs3700 x3701.toNat).toNat), rd a2 ((rd xs3700 x3701.toNat).toNat)]) Try.underlying58 Try.sizeOf2 Try.zeroValue2 rfl rfl (by decide) rfl rfl) ?_
        refine DR.p rfl rfl (p_len_slice rfl Try.underlying58) ?_
        refine DR.p rfl rfl (p_move rfl) ?_
        refine DR.nil 15 [] hst (by kernel_rfl) trivial ?_
        obtain ⟨r4102, hl4103, hd4104⟩ := bnd_some hd3963
        refine AX.cutS (fun t' H' => ∃ (bs4097 : List Bool) (xs4101 : List Int) (p4099 : Option Addr) (c4100 : Nat), (bs4097, xs4101) = r4102 ∧ St [] H H' [[(i101, AObj.row false (ints a1))], [(i105, AObj.row false (ints a2))], oseg p2163 (tcells T2166), tseg T2166, [(i115, AObj.row false (bls bs4097))], oseg p4099 (ints xs4101)] ∧ bs4097.length = a0.toNat ∧ Sb p4099 (xs4101.length) c4100 1 ∧ Am.Sub [(4, .pointer (some ⟨i101, 0, none⟩)), (5, .pointer (some ⟨i105, 0, none⟩)), (7, .slice p2163 rs2165.length c2164), (8, .slice (some (Addr.mk i115 0 none)) a0.toNat a0.toNat), (10, .slice p4099 xs4101.length c4100), (11, .int .i64 x3701), (17, .int .i64 a0), (18, .int .i64 x2169)] t') ?_ ?_
        ·refine AX.block ?_
         refine AX.loopF (fun s' t' H' => ∃ (bs4053 : List Bool) (xs4057 : List Int) (x4059 : Int) (p4055 : Option Addr) (c4056 : Nat), (bs4053, xs4057, x4059) = s' ∧ St [] H H' [[(i101, AObj.row false (ints a1))], [(i105, AObj.row false (ints a2))], oseg p2163 (tcells T2166), tseg T2166, [(i115, AObj.row false (bls bs4053))], oseg p4055 (ints xs4057), [(i3965, AObj.row false (ints [rd a1 ((rd xs3700 x3701.toNat).toNat), rd a2 ((rd xs3700 x3701.toNat).toNat)]))]] ∧ bs4053.length = a0.toNat ∧ Sb p4055 (xs4057.length) c4056 1 ∧ Am.Sub [(4, .pointer (some ⟨i101, 0, none⟩)), (5, .pointer (some ⟨i105, 0, none⟩)), (7, .slice p2163 rs2165.length c2164), (8, .slice (some (Addr.mk i115 0 none)) a0.toNat a0.toNat), (10, .slice p4055 xs4057.length c4056), (11, .int .i64 x3701), (17, .int .i64 a0), (18, .int .i64 x2169), (48, .slice (some (Addr.mk i3965 0 none)) 2 2), (49, .int .i64 2), (50, .int .i64 x4059)] t') hl4103 ?_ ?_
         ·skip
          have S4105 := S3966.front 0 rfl
          have S4106 := S4105.front 6 rfl
          have S4107 := S4106.front 6 rfl
          have S4108 := S4107.front 6 rfl
          have S4109 := S4108.front 6 rfl
          have S4110 := S4109.front 6 rfl
          have S4111 := S4110.front 6 rfl
          exact ⟨bs3696, xs3700, 0, p3698, c3699, rfl, S4111, lbs3696, Bo3697, Sub.cons' rfl rfl (Sub.cons' rfl rfl (Sub.cons' rfl rfl (Sub.cons' rfl rfl (Sub.cons' rfl rfl (Sub.cons' rfl rfl (Sub.cons' rfl rfl (Sub.cons' rfl rfl (Sub.cons' rfl rfl (Sub.cons' rfl rfl (Sub.cons' rfl rfl (Sub.nil _)))))))))))⟩
         ·rintro n4112 _ t' G4116 ⟨bs4053, xs4057, x4059, p4055, c4056, rfl, S4115, lbs4053, Bo4054, hsub4117⟩ o4118 ho4113 hk4114
          refine AX.sub hsub4117 ?_
          unfold D_impl_components_s2 at ho4113
          refine AX.seq ?_
          refine AX.region ?_
          refine AO.p rfl (p_lss rfl rfl) ?_
          refine AO.nil ?_
          refine AX.seq ?_
          refine AX.cond rfl (fun c4119 => ?_) (fun c4119 => ?_)
          ·have hd4120 := bif_t c4119 ho4113
           refine AX.skip ?_
           refine AX.seq ?_
           refine AX.block ?_
           refine AX.seq ?_
           refine AX.region ?_
           obtain ⟨k4121, hd4122⟩ := chk_some hd4120
           refine AO.p rfl (s_indexV (q := x4059.toNat) Try.underlying58 Try.sizeOf2 rfl rfl rfl k4121 (z1 _)) ?_
           refine AO.c rfl (s_load Try.isAgg2 rfl (row_cell (S4115.get (k := 6) rfl) (ints_get (lt_len rfl (inR_lt k4121))))) ?_
           refine AO.p rfl (p_assign rfl) ?_
           refine AO.nil ?_
           refine AX.seq ?_
           refine AX.region ?_
           refine AO.p rfl (p_move rfl) ?_
           refine AO.p rfl (p_move rfl) ?_
           obtain ⟨k4123, hd4124⟩ := chk_some hd4122
           refine AO.p rfl (s_indexV (q := (rd [rd a1 ((rd xs3700 x3701.toNat).toNat), rd a2 ((rd xs3700 x3701.toNat).toNat)] x4059.toNat).toNat) Try.underlying111 Try.sizeOf4 rfl rfl rfl k4123 (z1 _)) ?_
           refine AO.c rfl (s_load Try.isAgg4 rfl (row_cell (S4115.get (k := 4) rfl) (bls_get (lt_len lbs4053 (inR_lt k4123))))) ?_
           refine AO.p rfl (p_not rfl) ?_
           refine AO.nil ?_
           refine AX.cond rfl (fun c4125 => ?_) (fun c4125 => ?_)
           ·have hd4126 := bif_t c4125 hd4124
            refine AX.seq ?_
            refine AX.region ?_
            refine AO.p rfl (p_move rfl) ?_
            refine AO.p rfl (p_move rfl) ?_
            obtain ⟨k4127, hd4128⟩ := chk_some hd4126
            refine AO.p rfl (s_indexV (q := (rd [rd a1 ((rd xs3700 x3701.toNat).toNat), rd a2 ((rd xs3700 x3701.toNat).toNat)] x4059.toNat).toNat) Try.underlying111 Try.sizeOf4 rfl rfl rfl k4127 (z1 _)) ?_
            obtain ⟨G4129, hHG4129, S4130⟩ := S4115.set (k := 4) (i := i115) rfl (AObj.row false (bls (bs4053.set ((rd [rd a1 ((rd xs3700 x3701.toNat).toNat), rd a2 ((rd xs3700 x3701.toNat).toNat)] x4059.toNat).toNat) true)))
            refine AO.s (s_store Try.sizeOf4 rfl rfl rfl (S4115.get (k := 4) rfl) (lt_len ((bls_length _).trans lbs4053) (inR_lt k4127)) ((congrArg (fun l => List.set _ _ (AObj.row false l)) (bls_set _ _ _)).trans hHG4129)) ?_
            refine AO.nil ?_
            refine AX.region ?_
            refine AO.p rfl (p_move rfl) ?_
            refine AO.p rfl (p_move rfl) ?_
            obtain ⟨G4131, i4132, hii4132, hHG4131, S4133⟩ := S4130.new (AObj.row false (ints ([rd [rd a1 ((rd xs3700 x3701.toNat).toNat), rd a2 ((rd xs3700 x3701.toNat).toNat)] x4059.toNat])))
            refine AO.c rfl (s_buildInts (i := i4132) (vs := [(0, .int .i64 (rd [rd a1 ((rd xs3700 x3701.toNat).toNat), rd a2 ((rd xs3700 x3701.toNat).toNat)] x4059.toNat))]) (xs := [rd [rd a1 ((rd xs3700 x3701.toNat).toNat), rd a2 ((rd xs3700 x3701.toNat).toNat)] x4059.toNat]) Try.underlying58 Try.sizeOf2 Try.zeroValue2 rfl rfl (by decide) rfl rfl hii4132 hHG4131) ?_
            obtain ⟨k4135, hd4136⟩ := chk_some hd4128
            obtain ⟨p4137, c4138, G4139, haG4139, S4140, Bp4137⟩ := S4133.app (k := 6) rfl Bo4054 (ints ([rd [rd a1 ((rd xs3700 x3701.toNat).toNat), rd a2 ((rd xs3700 x3701.toNat).toNat)] x4059.toNat])) 1 (ints_len1 rfl)
            have S4141 := S4140.cellsEq (k := 6) (us' := ints (xs4057 ++ [rd [rd a1 ((rd xs3700 x3701.toNat).toNat), rd a2 ((rd xs3700 x3701.toNat).toNat)] x4059.toNat])) (ints_app _ _) rfl
            have BS4141 : Sb p4137 ((xs4057 ++ [rd [rd a1 ((rd xs3700 x3701.toNat).toNat), rd a2 ((rd xs3700 x3701.toNat).toNat)] x4059.toNat]).length) c4138 1 := (show xs4057.length + 1 = (xs4057 ++ [rd [rd a1 ((rd xs3700 x3701.toNat).toNat), rd a2 ((rd xs3700 x3701.toNat).toNat)] x4059.toNat]).length from len_app (a := xs4057) (b := [rd [rd a1 ((rd xs3700 x3701.toNat).toNat), rd a2 ((rd xs3700 x3701.toNat).toNat)] x4059.toNat]) rfl rfl) ▸ Bp4137
            have S4142 := S4141.drop 0 rfl
            refine AO.c rfl (s_app (by_ := 8) (us := ints xs4057) (vs := ints ([rd [rd a1 ((rd xs3700 x3701.toNat).toNat), rd a2 ((rd xs3700 x3701.toNat).toNat)] x4059.toNat])) Try.underlying58 Try.underlying58 Try.typeInfo2 Try.sizeOf2 Try.zeroValue2 rfl rfl rfl rfl rfl rfl rfl (S4133.buf (k := 6) rfl Bo4054 (ints_len1 rfl)) (S4133.oview (k := 0) rfl (Sb.lit (n := 1) (by decide)) (ints_len1 rfl)) (ints_len1 rfl) ints_one k4135 haG4139 (show xs4057.length + 1 = (xs4057 ++ [rd [rd a1 ((rd xs3700 x3701.toNat).toNat), rd a2 ((rd xs3700 x3701.toNat).toNat)] x4059.toNat]).length from len_app (a := xs4057) (b := [rd [rd a1 ((rd xs3700 x3701.toNat).toNat), rd a2 ((rd xs3700 x3701.toNat).toNat)] x4059.toNat]) rfl rfl)) ?_
            refine AO.p rfl (p_assign rfl) ?_
            refine AO.nil ?_
            refine AX.region ?_
            obtain ⟨k4143, hd4144⟩ := chk_some hd4136
            refine AO.p rfl (p_addE rfl rfl k4143) ?_
            refine AO.p rfl (p_move rfl) ?_
            refine AO.nil ?_
            obtain rfl := some_inj hd4144
            have S4146 := S4142.front 6 rfl
            have S4147 := S4146.front 6 rfl
            have S4148 := S4147.front 6 rfl
            have S4149 := S4148.front 6 rfl
            have S4150 := S4149.front 6 rfl
            have S4151 := S4150.front 6 rfl
            have S4152 := S4151.front 6 rfl
            exact ⟨((bs4053.set ((rd [rd a1 ((rd xs3700 x3701.toNat).toNat), rd a2 ((rd xs3700 x3701.toNat).toNat)] x4059.toNat).toNat) true), (xs4057 ++ [rd [rd a1 ((rd xs3700 x3701.toNat).toNat), rd a2 ((rd xs3700 x3701.toNat).toNat)] x4059.toNat]), x4059 + 1), hk4114, (bs4053.set ((rd [rd a1 ((rd xs3700 x3701.toNat).toNat), rd a2 ((rd xs3700 x3701.toNat).toNat)] x4059.toNat).toNat) true), (xs4057 ++ [rd [rd a1 ((rd xs3700 x3701.toNat).toNat), rd a2 ((rd xs3700 x3701.toNat).toNat)] x4059.toNat]), (x4059 + 1), p4137, c4138, rfl, S4152, (len_set lbs4053), BS4141, Sub.cons' rfl rfl (Sub.cons' rfl rfl (Sub.cons' rfl rfl (Sub.cons' rfl rfl (Sub.cons' rfl rfl (Sub.cons' rfl rfl (Sub.cons' rfl rfl (Sub.cons' rfl rfl (Sub.cons' rfl rfl (Sub.cons' rfl rfl (Sub.cons' rfl rfl (Sub.nil _)))))))))))⟩
           ·have hd4153 := bif_f c4125 hd4124
            refine AX.skip ?_
            refine AX.region ?_
            obtain ⟨k4154, hd4155⟩ := chk_some hd4153
            refine AO.p rfl (p_addE rfl rfl k4154) ?_
            refine AO.p rfl (p_move rfl) ?_
            refine AO.nil ?_
            obtain rfl := some_inj hd4155
            have S4157 := S4115.front 6 rfl
            have S4158 := S4157.front 6 rfl
            have S4159 := S4158.front 6 rfl
            have S4160 := S4159.front 6 rfl
            have S4161 := S4160.front 6 rfl
            have S4162 := S4161.front 6 rfl
            have S4163 := S4162.front 6 rfl
            exact ⟨(bs4053, xs4057, x4059 + 1), hk4114, bs4053, xs4057, (x4059 + 1), p4055, c4056, rfl, S4163, lbs4053, Bo4054, Sub.cons' rfl rfl (Sub.cons' rfl rfl (Sub.cons' rfl rfl (Sub.cons' rfl rfl (Sub.cons' rfl rfl (Sub.cons' rfl rfl (Sub.cons' rfl rfl (Sub.cons' rfl rfl (Sub.cons' rfl rfl (Sub.cons' rfl rfl (Sub.cons' rfl rfl (Sub.nil _)))))))))))⟩
          ·have hd4164 := bif_f c4119 ho4113
           refine AX.exit ?_
           obtain rfl := some_inj hd4164
           have S4165 := S4115.front 5 rfl
           have S4166 := S4165.front 5 rfl
           have S4167 := S4166.front 5 rfl
           have S4168 := S4167.front 5 rfl
           have S4169 := S4168.front 5 rfl
           have S4170 := S4169.front 5 rfl
           have S4171 := S4170.keep 6
           exact ⟨bs4053, xs4057, p4055, c4056, hk4114, S4171, lbs4053, Bo4054, Sub.cons' rfl rfl (Sub.cons' rfl rfl (Sub.cons' rfl rfl (Sub.cons' rfl rfl (Sub.cons' rfl rfl (Sub.cons' rfl rfl (Sub.cons' rfl rfl (Sub.cons' rfl rfl (Sub.nil _))))))))⟩
        ·rintro t' G4173 ⟨bs4097, xs4101, p4099, c4100, rfl, S4172, lbs4097, Bo4098, hsub4174⟩
         refine ⟨_, hsub4174, ?_⟩
         refine AX.region ?_
         refine AO.p rfl (p_move rfl) ?_
         obtain ⟨k4175, hd4176⟩ := chk_some hd4104
         refine AO.p rfl (p_addE rfl rfl k4175) ?_
         refine AO.p rfl (p_assign rfl) ?_
         refine AO.nil ?_
         obtain rfl := some_inj hd4176
         have S4178 := S4172.front 5 rfl
         have S4179 := S4178.front 5 rfl
         have S4180 := S4179.front 5 rfl
         have S4181 := S4180.front 5 rfl
         have S4182 := S4181.front 5 rfl
         have S4183 := S4182.front 5 rfl
         exact ⟨(bs4097, xs4101, x3701 + 1), hk3949, bs4097, xs4101, (x3701 + 1), p4099, c4100, rfl, S4183, lbs4097, Bo4098, Sub.cons' rfl rfl (Sub.cons' rfl rfl (Sub.cons' rfl rfl (Sub.cons' rfl rfl (Sub.cons' rfl rfl (Sub.cons' rfl rfl (Sub.cons' rfl rfl (Sub.cons' rfl rfl (Sub.nil _))))))))⟩
       ·have hd4184 := bif_f c3954 ho3948
        refine AX.exit ?_
        obtain rfl := some_inj hd4184
        have S4185 := S3950.front 5 rfl
        have S4186 := S4185.front 5 rfl
        have S4187 := S4186.front 5 rfl
        have S4188 := S4187.front 5 rfl
        have S4189 := S4188.front 5 rfl
        have S4190 := S4189.front 5 rfl
        exact ⟨bs3696, xs3700, p3698, c3699, hk3949, S4190, lbs3696, Bo3697, Sub.cons' rfl rfl (Sub.cons' rfl rfl (Sub.cons' rfl rfl (Sub.cons' rfl rfl (Sub.cons' rfl rfl (Sub.cons' rfl rfl (Sub.cons' rfl rfl (Sub.nil _)))))))⟩
     ·rintro t' G4192 ⟨bs3933, xs3937, p3935, c3936, rfl, S4191, lbs3933, Bo3934, hsub4193⟩
      refine ⟨_, hsub4193, ?_⟩
      refine AX.seq ?_
      refine AX.region ?_
      refine AO.p rfl (p_move rfl) ?_
      have S4194 := S4191.front 5 rfl
      obtain ⟨xs4195, h4196, hd4197⟩ := bnd_some hd3940
      obtain ⟨_, G4200, hc4199, rfl, S4201, l4198⟩ := W_slices_Sort_Sint64_int64 fu G4192 p3935 c3936 xs3937 Bo3934 (S4194.onodup (k := 0) rfl) (S4194.omem (k := 0) rfl) xs4195 h4196
      have S4202 := St.callM (A := [oseg p3935 (ints xs3937)]) S4194 S4201 (by simp)
      refine AO.c rfl (o_call (vs := [.slice p3935 xs3937.length c3936]) rfl Try.call140 hc4199) ?_
      refine AO.nil ?_
      refine AX.region ?_
      refine AO.p rfl (p_move rfl) ?_
      refine AO.p rfl (p_move rfl) ?_
      obtain ⟨G4203, i4204, hii4204, hHG4203, S4205⟩ := S4202.new (AObj.row false (tcells [(p3935, c3936, xs4195)]))
      have S4207 := (S4205.front 1 rfl).tone p3935 c3936 xs4195 rfl
      refine AO.c rfl (s_buildT1 (i := i4204) (X := [(p3935, c3936, xs4195)]) (n := xs3937.length) l4198 Try.underlying43 Try.sizeOf58 Try.zeroValue58 rfl rfl hii4204 hHG4203) ?_
      obtain ⟨k4208, hd4209⟩ := chk_some hd4197
      obtain ⟨p4210, c4211, G4212, haG4212, S4213, Bp4210⟩ := S4207.app (k := 4) rfl Bo2162 (tcells [(p3935, c3936, xs4195)]) 1 (tc_len1 rfl rfl)
      have S4214 := S4213.cellsEq (k := 4) (us' := tcells (T2166 ++ [(p3935, c3936, xs4195)])) (tcells_app _ _).symm rfl
      have BS4214 : Sb p4210 ((rs2165 ++ [xs4195]).length) c4211 1 := (show rs2165.length + 1 = (rs2165 ++ [xs4195]).length from len_app (a := rs2165) (b := [xs4195]) rfl rfl) ▸ Bp4210
      have S4215 := S4214.front 0 rfl
      have S4216 := (S4215.front 5 rfl).tmerge
      have S4217 := S4216.drop 1 rfl
      refine AO.c rfl (s_app (by_ := 24) (us := tcells T2166) (vs := tcells [(p3935, c3936, xs4195)]) Try.underlying43 Try.underlying43 Try.typeInfo58 Try.sizeOf58 Try.zeroValue58 rfl rfl rfl rfl rfl rfl rfl (S4207.buf (k := 4) rfl Bo2162 (tc_len1 tT2166 rfl)) (S4207.oview (k := 1) rfl (Sb.lit (n := 1) (by decide)) (tc_len1 rfl rfl)) (tc_len1 rfl rfl) tcells_one k4208 haG4212 (show rs2165.length + 1 = (rs2165 ++ [xs4195]).length from len_app (a := rs2165) (b := [xs4195]) rfl rfl)) ?_
      refine AO.p rfl (p_assign rfl) ?_
      refine AO.nil ?_
      refine AX.region ?_
      obtain ⟨k4218, hd4219⟩ := chk_some hd4209
      refine AO.p rfl (p_addE rfl rfl k4218) ?_
      refine AO.p rfl (p_move rfl) ?_
      refine AO.nil ?_
      obtain rfl := some_inj hd4219
      have S4221 := S4217.front 4 rfl
      have S4222 := S4221.front 1 rfl
      have S4223 := S4222.front 4 rfl
      have S4224 := S4223.front 4 rfl
      have S4225 := S4224.front 4 rfl
      exact ⟨((rs2165 ++ [xs4195]), bs3933, x2169 + 1), hk3199, (rs2165 ++ [xs4195]), bs3933, (x2169 + 1), p4210, c4211, (T2166 ++ [(p3935, c3936, xs4195)]), rfl, S4225, (trows_apps tT2166 rfl), (TSb.app sT2166 (TSb.one (sb_len l4198 Bo3934))), BS4214, lbs3933, Sub.cons' rfl rfl (Sub.cons' rfl rfl (Sub.cons' rfl rfl (Sub.cons' rfl rfl (Sub.cons' rfl rfl (Sub.cons' rfl rfl (Sub.nil _))))))⟩
   ·have hd4226 := bif_f c3204 ho3198
    refine AX.exit ?_
    obtain rfl := some_inj hd4226
    have S4227 := S3200.front 3 rfl
    have S4228 := S4227.front 3 rfl
    have S4229 := S4228.keep 2
    exact ⟨rs2165, p2163, c2164, T2166, hk3199, S4229, tT2166, sT2166, Bo2162, Sub.cons' rfl rfl (Sub.nil _)⟩
 ·rintro t' G4231 ⟨rs3187, p3185, c3186, T3188, rfl, S4230, tT3188, sT3188, Bo3184, hsub4232⟩
  refine ⟨_, hsub4232, ?_⟩
  refine AX.seq ?_
  refine AX.region ?_
  refine AO.p rfl (p_move rfl) ?_
  refine AO.p rfl (p_assign rfl) ?_
  refine AO.nil ?_
  refine AX.ret ?_
  obtain rfl := some_inj hd3191
  have S4233 := S4230.front 1 rfl
  have S4234 := S4233.front 1 rfl
  exact ⟨.inr rfl, _, res1 rfl (rv_tmp rfl), p3185, c3186, T3188, rfl, S4234, Bo3184, tT3188, sT3188⟩

set_option maxHeartbeats 4000000 in
theorem W_spec_l02Rounds (fu : Nat) (H : AHeap) (a0 : Int) (p_a1 : Option Addr) (c_a1 : Nat) (a1 : List (List Int)) (a_a1 : All 14 a1) (v_a1 : Vw H p_a1 a1.length c_a1 (ints a1.flatten)) (r0 : Int) (hd : D_spec_l02Rounds fu a0 a1 = some r0) : ACall Try.prog 98 [.int .i64 a0, .slice p_a1 a1.length c_a1] H (.int .i64 r0) H := by
 refine ACall.bodyP (N := 22) [(0, .int .i64 a0), (1, .slice p_a1 a1.length c_a1)] Try.func98 rfl rfl rfl rfl ?_
 unfold D_spec_l02Rounds at hd
 have S0 : St [] H H [] := St.nil H
 refine AX.seq ?_
 refine AX.region ?_
 refine AO.p rfl (p_assign rfl) ?_
 refine AO.nil ?_
 refine AX.seq ?_
 refine AX.seq ?_
 refine AX.region ?_
 refine AO.p rfl (p_move rfl) ?_
 obtain ⟨b100, h101, hd102⟩ := bnd_some hd
 refine AO.c rfl (o_call (vs := [.int .i64 a0, .int .i64 2, .int .i64 14]) rfl Try.call50 (W_spec_l01In fu H a0 2 14 b100 h101)) ?_
 refine AO.p rfl (p_not rfl) ?_
 refine AO.nil ?_
 refine AX.cond rfl (fun c104 => ?_) (fun c104 => ?_)
 ·have hd105 := bif_t c104 hd102
  refine AX.seq ?_
  refine AX.region ?_
  refine AO.p rfl (p_assign rfl) ?_
  refine AO.nil ?_
  refine AX.ret ?_
  obtain rfl := some_inj hd105
  exact ⟨.inr rfl, _, res1 rfl (rv_tmp rfl), rfl, (flatB_ok rfl), S0.hold⟩
 ·have hd106 := bif_f c104 hd102
  refine AX.skip ?_
  refine AX.seq ?_
  refine AX.seq ?_
  refine AX.region ?_
  refine AO.p rfl (p_assign rfl) ?_
  refine AO.nil ?_
  obtain ⟨r160, hl161, hd162⟩ := bnd_some hd106
  refine AX.cutS (fun t' H' => .inl () = r160 ∧ St [] H H' [] ∧ Am.Sub [] t') ?_ ?_
  ·refine AX.block ?_
   refine AX.loopF (fun s' t' H' => ∃ (x142 : Int), x142 = s' ∧ St [] H H' [] ∧ Am.Sub [(0, .int .i64 a0), (1, .slice p_a1 a1.length c_a1), (5, .int .i64 x142)] t') hl161 ?_ ?_
   ·skip
    exact ⟨0, rfl, S0, Sub.cons' rfl rfl (Sub.cons' rfl rfl (Sub.cons' rfl rfl (Sub.nil _)))⟩
   ·rintro n163 _ t' G167 ⟨x142, rfl, S166, hsub168⟩ o169 ho164 hk165
    refine AX.sub hsub168 ?_
    unfold D_spec_l02Rounds_s0 at ho164
    refine AX.seq ?_
    refine AX.seq ?_
    refine AX.region ?_
    refine AO.p rfl (p_move rfl) ?_
    refine AO.p rfl (p_move rfl) ?_
    refine AO.p rfl (p_len_slice rfl Try.underlying35) ?_
    refine AO.p rfl (p_lss rfl rfl) ?_
    refine AO.nil ?_
    refine AX.cond rfl (fun c170 => ?_) (fun c170 => ?_)
    ·have hd171 := bif_t c170 ho164
     refine AX.skip ?_
     refine AX.seq ?_
     refine AX.block ?_
     refine AX.seq ?_
     refine AX.region ?_
     refine AO.p rfl (p_move rfl) ?_
     refine AO.p rfl (p_move rfl) ?_
     refine AO.p rfl (p_move rfl) ?_
     obtain ⟨k172, hd173⟩ := chk_some hd171
     refine AO.p rfl (s_indexV (q := off p_a1 + x142.toNat * 14) Try.underlying35 Try.sizeOf54 rfl ((S166.view v_a1).rowne a_a1 (by decide) (lt_len rfl (inR_lt k172))) rfl k172 rfl) ?_
     refine AO.c rfl (s_loadN (vs := ints (rw_ a1 x142.toNat)) Try.isAgg54 Try.sizeOf54 rfl (ints_len (rw_len a_a1 (lt_len rfl (inR_lt k172)))) ((S166.view v_a1).row a_a1 (lt_len rfl (inR_lt k172)))) ?_
     obtain ⟨b174, h175, hd176⟩ := bnd_some hd173
     refine AO.c rfl (o_call (vs := [.int .i64 a0, .agg (ints (rw_ a1 x142.toNat)).toArray]) rfl Try.call118 (W_spec_l01Round fu G167 a0 (rw_ a1 x142.toNat) (rw_len a_a1 (lt_len rfl (inR_lt k172))) b174 h175)) ?_
     refine AO.p rfl (p_not rfl) ?_
     refine AO.nil ?_
     refine AX.cond rfl (fun c178 => ?_) (fun c178 => ?_)
     ·have hd179 := bif_t c178 hd176
      refine AX.seq ?_
      refine AX.region ?_
      refine AO.p rfl (p_assign rfl) ?_
      refine AO.nil ?_
      refine AX.ret ?_
      obtain rfl := some_inj hd179
      have z180 : _ = r160 := hk165
      subst z180
      obtain rfl := some_inj hd162
      exact ⟨.inr rfl, _, res1 rfl (rv_tmp rfl), rfl, (flatB_ok rfl), S166.hold⟩
     ·have hd181 := bif_f c178 hd176
      refine AX.skip ?_
      refine AX.region ?_
      refine AO.p rfl (p_move rfl) ?_
      obtain ⟨k182, hd183⟩ := chk_some hd181
      refine AO.p rfl (p_addE rfl rfl k182) ?_
      refine AO.p rfl (p_assign rfl) ?_
      refine AO.nil ?_
      obtain rfl := some_inj hd183
      exact ⟨x142 + 1, hk165, (x142 + 1), rfl, S166, Sub.cons' rfl rfl (Sub.cons' rfl rfl (Sub.cons' rfl rfl (Sub.nil _)))⟩
    ·have hd185 := bif_f c170 ho164
     refine AX.exit ?_
     obtain rfl := some_inj hd185
     exact ⟨hk165, S166, Sub.nil _⟩
  ·rintro t' G187 ⟨rfl, S186, hsub188⟩
   refine ⟨_, hsub188, ?_⟩
   refine AX.seq ?_
   refine AX.region ?_
   refine AO.p rfl (p_assign rfl) ?_
   refine AO.nil ?_
   refine AX.ret ?_
   obtain rfl := some_inj hd162
   exact ⟨.inr rfl, _, res1 rfl (rv_tmp rfl), rfl, (flatB_ok rfl), S186.hold⟩

set_option maxHeartbeats 4000000 in
theorem W_impl_twoCode (fu : Nat) (H : AHeap) (a0 : Int) (a1 : List Int) (h_a1 : a1.length = 14) (a2 : List Int) (h_a2 : a2.length = 14) (r0 : Int) (hd : D_impl_twoCode fu a0 a1 a2 = some r0) : ACall Try.prog 96 [.int .i64 a0, .agg (ints a1).toArray, .agg (ints a2).toArray] H (.int .i64 r0) H := by
 refine ACall.bodyP (N := 17) [(0, .int .i64 a0), (1, .agg (ints a1).toArray), (2, .agg (ints a2).toArray)] Try.func96 rfl rfl rfl rfl ?_
 unfold D_impl_twoCode at hd
 have S0 : St [] H H [] := St.nil H
 refine AX.seq ?_
 refine AX.region ?_
 obtain ⟨G100, i101, hii101, hHG100, S102⟩ := S0.new (AObj.row false (ints a1))
 refine AO.c rfl (s_box (i := i101) (cs := ints a1) rfl hii101 rfl hHG100) ?_
 obtain ⟨G104, i105, hii105, hHG104, S106⟩ := S102.new (AObj.row false (ints a2))
 refine AO.c rfl (s_box (i := i105) (cs := ints a2) rfl hii105 rfl hHG104) ?_
 refine AO.p rfl (p_assign rfl) ?_
 refine AO.nil ?_
 refine AX.seq ?_
 obtain ⟨r120, hb121, hd122⟩ := bnd_some hd
 refine AX.cut (fun t' H' => ∃ (b119 : Bool), b119 = r120 ∧ St [] H H' [] ∧ Am.Sub [(16, .bool b119)] t') ?_ ?_
 ·skip
  refine AX.region ?_
  refine AO.p rfl (p_move rfl) ?_
  refine AO.c rfl (s_loadN (vs := ints a1) Try.isAgg54 Try.sizeOf54 rfl (ints_len h_a1) (row_cells (S106.get (k := 1) rfl))) ?_
  obtain ⟨b123, h124, hd125⟩ := bnd_some hb121
  refine AO.c rfl (o_call (vs := [.int .i64 a0, .agg (ints a1).toArray]) rfl Try.call139 (W_impl_IsRound fu G104 a0 a1 h_a1 b123 h124)) ?_
  refine AO.p rfl (p_not rfl) ?_
  refine AO.p rfl (p_move rfl) ?_
  refine AO.cases (d := 11) rfl (fun c127 => ?_) (fun c127 => ?_)
  ·have hd128 := bif_t c127 hd125
   refine AO.gn rfl rfl rfl ?_
   refine AO.gn rfl rfl rfl ?_
   refine AO.gn rfl rfl rfl ?_
   refine AO.gn rfl rfl rfl ?_
   refine AO.p rfl (p_pickT rfl rfl) ?_
   refine AO.nil ?_
   have S129 := S106.keep 0
   exact ⟨true, (some_inj hd128), S129, Sub.cons' rfl rfl (Sub.nil _)⟩
  ·have hd130 := bif_f c127 hd125
   refine AO.gp rfl rfl rfl (p_move rfl) ?_
   refine AO.gc rfl rfl rfl (s_loadN (vs := ints a2) Try.isAgg54 Try.sizeOf54 rfl (ints_len h_a2) (row_cells (S106.get (k := 0) rfl))) ?_
   obtain ⟨b131, h132, hd133⟩ := bnd_some hd130
   refine AO.gc rfl rfl rfl (o_call (vs := [.int .i64 a0, .agg (ints a2).toArray]) rfl Try.call139 (W_impl_IsRound fu G104 a0 a2 h_a2 b131 h132)) ?_
   refine AO.gp rfl rfl rfl (p_not rfl) ?_
   refine AO.p rfl (p_pickF rfl rfl) ?_
   refine AO.nil ?_
   have S135 := S106.keep 0
   exact ⟨(!b131), (some_inj hd133), S135, Sub.cons' rfl rfl (Sub.nil _)⟩
 ·rintro t' G137 ⟨b119, rfl, S136, hsub138⟩
  refine AX.sub hsub138 ?_
  refine AX.cond rfl (fun c139 => ?_) (fun c139 => ?_)
  ·have hd140 := bif_t c139 hd122
   refine AX.seq ?_
   refine AX.region ?_
   refine AO.p rfl (p_assign rfl) ?_
   refine AO.nil ?_
   refine AX.ret ?_
   obtain rfl := some_inj hd140
   exact ⟨.inr rfl, _, res1 rfl (rv_tmp rfl), rfl, (flatB_ok rfl), S136.hold⟩
  ·have hd141 := bif_f c139 hd122
   refine AX.skip ?_
   refine AX.seq ?_
   refine AX.region ?_
   refine AO.p rfl (p_assign rfl) ?_
   refine AO.nil ?_
   refine AX.ret ?_
   obtain rfl := some_inj hd141
   exact ⟨.inr rfl, _, res1 rfl (rv_tmp rfl), rfl, (flatB_ok rfl), S136.hold⟩

set_option maxHeartbeats 4000000 in
theorem W_spec_l02Sorted (fu : Nat) (H : AHeap) (p_a0 : Option Addr) (c_a0 : Nat) (a0 : List Int) (v_a0 : Vw H p_a0 a0.length c_a0 (ints a0)) (r0 : List Int) (hd : D_spec_l02Sorted fu a0 = some r0) : ∃ v G', ACall Try.prog 141 [.slice p_a0 a0.length c_a0] H v G' ∧ ∃ (p_r0 : Option Addr) (c_r0 : Nat), (v = .slice p_r0 r0.length c_r0) ∧ St [] H G' [oseg p_r0 (ints r0)] ∧ Sb p_r0 r0.length c_r0 1 := by
 refine ACall.bodyX (args := [.slice p_a0 a0.length c_a0]) (N := 50) [(0, .slice p_a0 a0.length c_a0)] (fun v G' => ∃ (p_r0 : Option Addr) (c_r0 : Nat), (v = .slice p_r0 r0.length c_r0) ∧ St [] H G' [oseg p_r0 (ints r0)] ∧ Sb p_r0 r0.length c_r0 1) Try.func141 rfl rfl rfl rfl ?_
 unfold D_spec_l02Sorted at hd
 have S0 : St [] H H [] := St.nil H
 refine AX.seq ?_
 refine AX.region ?_
 refine AO.p rfl (p_assign rfl) ?_
 refine AO.nil ?_
 refine AX.seq ?_
 refine AX.region ?_
 refine AO.p rfl (p_move rfl) ?_
 obtain ⟨xs100, h101, hd102⟩ := bnd_some hd
 obtain ⟨_, G108, hc107, p103, c104, rfl, S109, B106⟩ := W_spec_l01Own fu H p_a0 c_a0 a0 (S0.view v_a0) xs100 h101
 have S110 := S0.call S109
 refine AO.c rfl (o_call (vs := [.slice p_a0 a0.length c_a0]) rfl Try.call114 hc107) ?_
 refine AO.p rfl (p_assign rfl) ?_
 refine AO.nil ?_
 refine AX.seq ?_
 refine AX.seq ?_
 refine AX.region ?_
 refine AO.p rfl (p_assign rfl) ?_
 refine AO.nil ?_
 obtain ⟨r837, hl838, hd839⟩ := bnd_some hd102
 refine AX.cutS (fun t' H' => ∃ (xs836 : List Int), xs836 = r837 ∧ St [] H H' [oseg p103 (ints xs836)] ∧ xs836.length = xs100.length ∧ Am.Sub [(3, .slice p103 xs100.length c104)] t') ?_ ?_
 ·refine AX.block ?_
  refine AX.loopF (fun s' t' H' => ∃ (xs594 : List Int) (x595 : Int), (xs594, x595) = s' ∧ St [] H H' [oseg p103 (ints xs594)] ∧ xs594.length = xs100.length ∧ Am.Sub [(3, .slice p103 xs100.length c104), (4, .int .i64 x595)] t') hl838 ?_ ?_
  ·skip
   have S840 := S110.front 0 rfl
   exact ⟨xs100, 1, rfl, S840, rfl, Sub.cons' rfl rfl (Sub.cons' rfl rfl (Sub.nil _))⟩
  ·rintro n841 _ t' G845 ⟨xs594, x595, rfl, S844, lxs594, hsub846⟩ o847 ho842 hk843
   refine AX.sub hsub846 ?_
   unfold D_spec_l02Sorted_s0 at ho842
   refine AX.seq ?_
   refine AX.seq ?_
   refine AX.region ?_
   refine AO.p rfl (p_move rfl) ?_
   refine AO.p rfl (p_move rfl) ?_
   refine AO.p rfl (p_len_slice rfl Try.underlying58) ?_
   refine AO.p rfl (p_lss rfl rfl) ?_
   refine AO.nil ?_
   refine AX.cond rfl (fun c848 => ?_) (fun c848 => ?_)
   ·have hd849 := bif_t c848 ho842
    refine AX.skip ?_
    refine AX.seq ?_
    refine AX.block ?_
    refine AX.seq ?_
    refine AX.region ?_
    refine AO.p rfl (p_move rfl) ?_
    refine AO.p rfl (p_assign rfl) ?_
    refine AO.nil ?_
    obtain ⟨r1015, hl1016, hd1017⟩ := bnd_some hd849
    refine AX.cutS (fun t' H' => ∃ (xs1014 : List Int), xs1014 = r1015 ∧ St [] H H' [oseg p103 (ints xs1014)] ∧ xs1014.length = xs100.length ∧ Am.Sub [(3, .slice p103 xs100.length c104), (4, .int .i64 x595)] t') ?_ ?_
    ·refine AX.block ?_
     refine AX.loopF (fun s' t' H' => ∃ (xs959 : List Int) (x960 : Int), (xs959, x960) = s' ∧ St [] H H' [oseg p103 (ints xs959)] ∧ xs959.length = xs100.length ∧ Am.Sub [(3, .slice p103 xs100.length c104), (4, .int .i64 x595), (5, .int .i64 x960)] t') hl1016 ?_ ?_
     ·skip
      have S1018 := S844.front 0 rfl
      exact ⟨xs594, x595, rfl, S1018, lxs594, Sub.cons' rfl rfl (Sub.cons' rfl rfl (Sub.cons' rfl rfl (Sub.nil _)))⟩
     ·rintro n1019 _ t' G1023 ⟨xs959, x960, rfl, S1022, lxs959, hsub1024⟩ o1025 ho1020 hk1021
      refine AX.sub hsub1024 ?_
      unfold D_spec_l02Sorted_s1 at ho1020
      refine AX.seq ?_
      obtain ⟨r1037, hb1038, hd1039⟩ := bnd_some ho1020
      refine AX.cut (fun t' H' => ∃ (b1036 : Bool), b1036 = r1037 ∧ St [] H H' [oseg p103 (ints xs959)] ∧ Am.Sub [(3, .slice p103 xs100.length c104), (4, .int .i64 x595), (5, .int .i64 x960), (29, .bool b1036)] t') ?_ ?_
      ·skip
       refine DR.startS [false, false, false, false, false, false, false, false, false, false, false, false, false, false] mix (by kernel_rfl) (fun hst => ?_)
       refine DR.p rfl rfl (p_move rfl) ?_
       refine DR.p rfl rfl (p_gtr rfl rfl) ?_
       refine DR.pb rfl rfl (p_move rfl) (fun c1040 => ?_) (fun c1040 => ?_)
       ·have hd1041 := bif_t c1040 hb1038
        refine DR.gp rfl rfl rfl rfl (p_move rfl) ?_
        refine DR.gp rfl rfl rfl rfl (p_move rfl) ?_
        obtain ⟨k1042, hd1043⟩ := chk_some hd1041
        refine DR.gp rfl rfl rfl rfl (p_subE rfl rfl k1042) ?_
        obtain ⟨k1044, hd1045⟩ := chk_some hd1043
        refine DR.gp rfl rfl rfl rfl (s_indexV (q := (x960 - 1).toNat) Try.underlying58 Try.sizeOf2 rfl (B106.at (inR_pos k1044)) rfl k1044 (z1 _)) ?_
        refine DR.gr rfl rfl rfl rfl (r_load rfl Try.isAgg2) (one_read (row_cell (S1022.oat (k := 0) rfl (B106.at (inR_pos k1044))) (ints_get (lt_len lxs959 (inR_lt k1044)))) (.of_flat0 rfl)) ?_
        refine DR.gp rfl rfl rfl rfl (p_move rfl) ?_
        refine DR.gp rfl rfl rfl rfl (p_move rfl) ?_
        obtain ⟨k1046, hd1047⟩ := chk_some hd1045
        refine DR.gp rfl rfl rfl rfl (s_indexV (q := x960.toNat) Try.underlying58 Try.sizeOf2 rfl (B106.at (inR_pos k1046)) rfl k1046 (z1 _)) ?_
        refine DR.gr rfl rfl rfl rfl (r_load rfl Try.isAgg2) (one_read (row_cell (S1022.oat (k := 0) rfl (B106.at (inR_pos k1046))) (ints_get (lt_len lxs959 (inR_lt k1046)))) (.of_flat0 rfl)) ?_
        refine DR.gp rfl rfl rfl rfl (p_gtr rfl rfl) ?_
        refine DR.p rfl rfl (p_pickT rfl rfl) ?_
        refine DR.nil 14 [] hst (by kernel_rfl) trivial ?_
        have S1048 := S1022.front 0 rfl
        exact ⟨(decide (rd xs959 x960.toNat < rd xs959 ((x960 - 1).toNat))), (some_inj hd1047), S1048, Sub.cons' rfl rfl (Sub.cons' rfl rfl (Sub.cons' rfl rfl (Sub.cons' rfl rfl (Sub.nil _))))⟩
       ·have hd1049 := bif_f c1040 hb1038
        refine DR.gn rfl rfl rfl rfl ?_
        refine DR.gn rfl rfl rfl rfl ?_
        refine DR.gn rfl rfl rfl rfl ?_
        refine DR.gn rfl rfl rfl rfl ?_
        refine DR.gn rfl rfl rfl rfl ?_
        refine DR.gn rfl rfl rfl rfl ?_
        refine DR.gn rfl rfl rfl rfl ?_
        refine DR.gn rfl rfl rfl rfl ?_
        refine DR.gn rfl rfl rfl rfl ?_
        refine DR.gn rfl rfl rfl rfl ?_
        refine DR.p rfl rfl (p_pickF rfl rfl) ?_
        refine DR.nil 14 [] hst (by kernel_rfl) trivial ?_
        have S1050 := S1022.front 0 rfl
        exact ⟨false, (some_inj hd1049), S1050, Sub.cons' rfl rfl (Sub.cons' rfl rfl (Sub.cons' rfl rfl (Sub.cons' rfl rfl (Sub.nil _))))⟩
      ·rintro t' G1052 ⟨b1036, rfl, S1051, hsub1053⟩
       refine AX.sub hsub1053 ?_
       refine AX.cond rfl (fun c1054 => ?_) (fun c1054 => ?_)
       ·have hd1055 := bif_t c1054 hd1039
        refine AX.skip ?_
        refine AX.seq ?_
        refine AX.block ?_
        refine AX.seq ?_
        refine AX.region ?_
        refine AO.p rfl (p_move rfl) ?_
        refine AO.p rfl (p_move rfl) ?_
        obtain ⟨k1056, hd1057⟩ := chk_some hd1055
        refine AO.p rfl (s_indexV (q := x960.toNat) Try.underlying58 Try.sizeOf2 rfl (B106.at (inR_pos k1056)) rfl k1056 (z1 _)) ?_
        refine AO.c rfl (s_load Try.isAgg2 rfl (row_cell (S1051.oat (k := 0) rfl (B106.at (inR_pos k1056))) (ints_get (lt_len lxs959 (inR_lt k1056))))) ?_
        refine AO.p rfl (p_assign rfl) ?_
        refine AO.nil ?_
        refine AX.seq ?_
        refine AX.region ?_
        refine AO.p rfl (p_move rfl) ?_
        refine AO.p rfl (p_move rfl) ?_
        refine AO.p rfl (p_move rfl) ?_
        refine AO.p rfl (p_move rfl) ?_
        obtain ⟨k1058, hd1059⟩ := chk_some hd1057
        refine AO.p rfl (p_subE rfl rfl k1058) ?_
        obtain ⟨k1060, hd1061⟩ := chk_some hd1059
        refine AO.p rfl (s_indexV (q := (x960 - 1).toNat) Try.underlying58 Try.sizeOf2 rfl (B106.at (inR_pos k1060)) rfl k1060 (z1 _)) ?_
        refine AO.c rfl (s_load Try.isAgg2 rfl (row_cell (S1051.oat (k := 0) rfl (B106.at (inR_pos k1060))) (ints_get (lt_len lxs959 (inR_lt k1060))))) ?_
        obtain ⟨k1062, hd1063⟩ := chk_some hd1061
        refine AO.p rfl (s_indexV (q := x960.toNat) Try.underlying58 Try.sizeOf2 rfl (B106.at (inR_pos k1062)) rfl k1062 (z1 _)) ?_
        obtain ⟨G1064, hHG1064, S1065⟩ := S1051.oset (k := 0) (p := p103) rfl (B106.at (inR_pos k1062)) (ints (xs959.set x960.toNat (rd xs959 ((x960 - 1).toNat))))
        refine AO.s (s_store Try.sizeOf2 rfl rfl rfl (S1051.oat (k := 0) rfl (B106.at (inR_pos k1062))) (lt_len (ints_len lxs959) (inR_lt k1062)) ((congrArg (fun l => List.set _ _ (AObj.row false l)) (ints_set _ _ _)).trans hHG1064)) ?_
        refine AO.nil ?_
        refine AX.region ?_
        refine AO.p rfl (p_move rfl) ?_
        refine AO.p rfl (p_move rfl) ?_
        obtain ⟨k1066, hd1067⟩ := chk_some hd1063
        refine AO.p rfl (p_subE rfl rfl k1066) ?_
        refine AO.p rfl (p_move rfl) ?_
        obtain ⟨k1068, hd1069⟩ := chk_some hd1067
        refine AO.p rfl (s_indexV (q := (x960 - 1).toNat) Try.underlying58 Try.sizeOf2 rfl (B106.at (inR_pos k1068)) rfl k1068 (z1 _)) ?_
        obtain ⟨G1070, hHG1070, S1071⟩ := S1065.oset (k := 0) (p := p103) rfl (B106.at (inR_pos k1068)) (ints ((xs959.set x960.toNat (rd xs959 ((x960 - 1).toNat))).set ((x960 - 1).toNat) (rd xs959 x960.toNat)))
        refine AO.s (s_store Try.sizeOf2 rfl rfl rfl (S1065.oat (k := 0) rfl (B106.at (inR_pos k1068))) (lt_len (ints_len (len_set lxs959)) (inR_lt k1068)) ((congrArg (fun l => List.set _ _ (AObj.row false l)) (ints_set _ _ _)).trans hHG1070)) ?_
        refine AO.nil ?_
        refine AX.region ?_
        refine AO.p rfl (p_move rfl) ?_
        obtain ⟨k1072, hd1073⟩ := chk_some hd1069
        refine AO.p rfl (p_subE rfl rfl k1072) ?_
        refine AO.p rfl (p_assign rfl) ?_
        refine AO.nil ?_
        obtain rfl := some_inj hd1073
        have S1075 := S1071.front 0 rfl
        exact ⟨(((xs959.set x960.toNat (rd xs959 ((x960 - 1).toNat))).set ((x960 - 1).toNat) (rd xs959 x960.toNat)), x960 - 1), hk1021, ((xs959.set x960.toNat (rd xs959 ((x960 - 1).toNat))).set ((x960 - 1).toNat) (rd xs959 x960.toNat)), (x960 - 1), rfl, S1075, (len_set (len_set lxs959)), Sub.cons' rfl rfl (Sub.cons' rfl rfl (Sub.cons' rfl rfl (Sub.nil _)))⟩
       ·have hd1076 := bif_f c1054 hd1039
        refine AX.exit ?_
        obtain rfl := some_inj hd1076
        have S1077 := S1051.front 0 rfl
        exact ⟨xs959, hk1021, S1077, lxs959, Sub.cons' rfl rfl (Sub.cons' rfl rfl (Sub.nil _))⟩
    ·rintro t' G1079 ⟨xs1014, rfl, S1078, lxs1014, hsub1080⟩
     refine ⟨_, hsub1080, ?_⟩
     refine AX.region ?_
     refine AO.p rfl (p_move rfl) ?_
     obtain ⟨k1081, hd1082⟩ := chk_some hd1017
     refine AO.p rfl (p_addE rfl rfl k1081) ?_
     refine AO.p rfl (p_assign rfl) ?_
     refine AO.nil ?_
     obtain rfl := some_inj hd1082
     have S1084 := S1078.front 0 rfl
     exact ⟨(xs1014, x595 + 1), hk843, xs1014, (x595 + 1), rfl, S1084, lxs1014, Sub.cons' rfl rfl (Sub.cons' rfl rfl (Sub.nil _))⟩
   ·have hd1085 := bif_f c848 ho842
    refine AX.exit ?_
    obtain rfl := some_inj hd1085
    have S1086 := S844.front 0 rfl
    exact ⟨xs594, hk843, S1086, lxs594, Sub.cons' rfl rfl (Sub.nil _)⟩
 ·rintro t' G1088 ⟨xs836, rfl, S1087, lxs836, hsub1089⟩
  refine ⟨_, hsub1089, ?_⟩
  refine AX.seq ?_
  refine AX.region ?_
  refine AO.p rfl (p_move rfl) ?_
  refine AO.p rfl (p_assign rfl) ?_
  refine AO.nil ?_
  refine AX.ret ?_
  obtain rfl := some_inj hd839
  have S1090 := S1087.front 0 rfl
  exact ⟨.inr rfl, _, res1 rfl (rv_tmp rfl), p103, c104, (by rw [show List.length xs836 = xs100.length from lxs836]), S1090, (by rw [show List.length xs836 = xs100.length from lxs836]; exact B106)⟩

set_option maxHeartbeats 4000000 in
theorem W_spec_l02Components (fu : Nat) (H : AHeap) (a0 : Int) (a1 : List Int) (h_a1 : a1.length = 14) (a2 : List Int) (h_a2 : a2.length = 14) (r0 : List (List Int)) (hd : D_spec_l02Components fu a0 a1 a2 = some r0) : ∃ v G', ACall Try.prog 99 [.int .i64 a0, .agg (ints a1).toArray, .agg (ints a2).toArray] H v G' ∧ ∃ (p_r0 : Option Addr) (c_r0 : Nat) (T_r0 : Tb), (v = .slice p_r0 r0.length c_r0) ∧ St [] H G' [oseg p_r0 (tcells T_r0), tseg T_r0] ∧ Sb p_r0 r0.length c_r0 1 ∧ trows T_r0 = r0 ∧ TSb T_r0 := by
 refine ACall.bodyX (args := [.int .i64 a0, .agg (ints a1).toArray, .agg (ints a2).toArray]) (N := 74) [(0, .int .i64 a0), (1, .agg (ints a1).toArray), (2, .agg (ints a2).toArray)] (fun v G' => ∃ (p_r0 : Option Addr) (c_r0 : Nat) (T_r0 : Tb), (v = .slice p_r0 r0.length c_r0) ∧ St [] H G' [oseg p_r0 (tcells T_r0), tseg T_r0] ∧ Sb p_r0 r0.length c_r0 1 ∧ trows T_r0 = r0 ∧ TSb T_r0) Try.func99 rfl rfl rfl rfl ?_
 unfold D_spec_l02Components at hd
 have S0 : St [] H H [] := St.nil H
 refine AX.seq ?_
 refine AX.region ?_
 obtain ⟨G100, i101, hii101, hHG100, S102⟩ := S0.new (AObj.row false (ints a1))
 refine AO.c rfl (s_box (i := i101) (cs := ints a1) rfl hii101 rfl hHG100) ?_
 obtain ⟨G104, i105, hii105, hHG104, S106⟩ := S102.new (AObj.row false (ints a2))
 refine AO.c rfl (s_box (i := i105) (cs := ints a2) rfl hii105 rfl hHG104) ?_
 refine AO.p rfl (p_assign rfl) ?_
 refine AO.nil ?_
 refine AX.seq ?_
 refine DR.startS [false, false, false, false, false] mix (by kernel_rfl) (fun hst => ?_)
 obtain ⟨G108, i109, hii109, hHG108, S110⟩ := S106.new (AObj.row false (tcells []))
 have S110t := S110.nilseg 1
 refine DR.a rfl rfl hii109 hHG108 (a_build0 Try.underlying43 Try.sizeOf58) ?_
 refine DR.p rfl rfl (p_move rfl) ?_
 obtain ⟨k112, hd113⟩ := chk_some hd
 obtain ⟨G114, i115, hii115, hHG114, S116⟩ := S110t.new (AObj.row false (bls (List.replicate a0.toNat false)))
 refine DR.a rfl rfl hii115 hHG114 (a_make1 (v := .bool false) (by_ := 1) Try.underlying111 Try.typeInfo4 Try.sizeOf4 Try.zeroValue4 rfl rfl rfl rfl rfl rfl k112 bls_rep) ?_
 refine DR.p rfl rfl (p_assign rfl) ?_
 refine DR.p rfl rfl (p_assign rfl) ?_
 refine DR.nil 5 [] hst (by kernel_rfl) trivial ?_
 refine AX.seq ?_
 refine AX.seq ?_
 refine AX.region ?_
 refine AO.p rfl (p_assign rfl) ?_
 refine AO.nil ?_
 obtain ⟨r3195, hl3196, hd3197⟩ := bnd_some hd113
 refine AX.cutS (fun t' H' => ∃ (rs3193 : List (List Int)) (p3191 : Option Addr) (c3192 : Nat) (T3194 : Tb), rs3193 = r3195 ∧ St [] H H' [oseg p3191 (tcells T3194), tseg T3194] ∧ trows T3194 = rs3193 ∧ TSb T3194 ∧ Sb p3191 (rs3193.length) c3192 1 ∧ Am.Sub [(7, .slice p3191 rs3193.length c3192)] t') ?_ ?_
 ·refine AX.block ?_
  refine AX.loopF (fun s' t' H' => ∃ (rs2169 : List (List Int)) (bs2172 : List Bool) (x2173 : Int) (p2167 : Option Addr) (c2168 : Nat) (T2170 : Tb), (rs2169, bs2172, x2173) = s' ∧ St [] H H' [[(i101, AObj.row false (ints a1))], [(i105, AObj.row false (ints a2))], oseg p2167 (tcells T2170), tseg T2170, [(i115, AObj.row false (bls bs2172))]] ∧ trows T2170 = rs2169 ∧ TSb T2170 ∧ Sb p2167 (rs2169.length) c2168 1 ∧ bs2172.length = a0.toNat ∧ Am.Sub [(0, .int .i64 a0), (4, .pointer (some ⟨i101, 0, none⟩)), (5, .pointer (some ⟨i105, 0, none⟩)), (7, .slice p2167 rs2169.length c2168), (8, .slice (some (Addr.mk i115 0 none)) a0.toNat a0.toNat), (9, .int .i64 x2173)] t') hl3196 ?_ ?_
  ·skip
   have S3198 := S116.front 0 rfl
   have S3199 := S3198.front 2 rfl
   have S3200 := S3199.front 2 rfl
   have S3201 := S3200.front 3 rfl
   have S3202 := S3201.front 4 rfl
   exact ⟨[], (List.replicate a0.toNat false), 0, (some (Addr.mk i109 0 none)), 0, [], rfl, S3202, rfl, TSb.nil, (Sb.lit (n := 0) (by decide)), len_rep, Sub.cons' rfl rfl (Sub.cons' rfl rfl (Sub.cons' rfl rfl (Sub.cons' rfl rfl (Sub.cons' rfl rfl (Sub.cons' rfl rfl (Sub.nil _))))))⟩
  ·rintro n3203 _ t' G3207 ⟨rs2169, bs2172, x2173, p2167, c2168, T2170, rfl, S3206, tT2170, sT2170, Bo2166, lbs2172, hsub3208⟩ o3209 ho3204 hk3205
   refine AX.sub hsub3208 ?_
   unfold D_spec_l02Components_s0 at ho3204
   refine AX.seq ?_
   refine AX.seq ?_
   refine AX.region ?_
   refine AO.p rfl (p_move rfl) ?_
   refine AO.p rfl (p_move rfl) ?_
   refine AO.p rfl (p_lss rfl rfl) ?_
   refine AO.nil ?_
   refine AX.cond rfl (fun c3210 => ?_) (fun c3210 => ?_)
   ·have hd3211 := bif_t c3210 ho3204
    refine AX.skip ?_
    refine AX.seq ?_
    refine AX.block ?_
    refine AX.seq ?_
    refine AX.seq ?_
    refine AX.region ?_
    refine AO.p rfl (p_move rfl) ?_
    refine AO.p rfl (p_move rfl) ?_
    obtain ⟨k3212, hd3213⟩ := chk_some hd3211
    refine AO.p rfl (s_indexV (q := x2173.toNat) Try.underlying111 Try.sizeOf4 rfl rfl rfl k3212 (z1 _)) ?_
    refine AO.c rfl (s_load Try.isAgg4 rfl (row_cell (S3206.get (k := 4) rfl) (bls_get (lt_len lbs2172 (inR_lt k3212))))) ?_
    refine AO.nil ?_
    refine AX.cond rfl (fun c3214 => ?_) (fun c3214 => ?_)
    ·have hd3215 := bif_t c3214 hd3213
     refine AX.exit ?_
     refine AX.region ?_
     refine AO.p rfl (p_move rfl) ?_
     obtain ⟨k3216, hd3217⟩ := chk_some hd3215
     refine AO.p rfl (p_addE rfl rfl k3216) ?_
     refine AO.p rfl (p_assign rfl) ?_
     refine AO.nil ?_
     obtain rfl := some_inj hd3217
     have S3219 := S3206.front 4 rfl
     have S3220 := S3219.front 4 rfl
     have S3221 := S3220.front 4 rfl
     have S3222 := S3221.front 4 rfl
     have S3223 := S3222.front 4 rfl
     exact ⟨(rs2169, bs2172, x2173 + 1), hk3205, rs2169, bs2172, (x2173 + 1), p2167, c2168, T2170, rfl, S3223, tT2170, sT2170, Bo2166, lbs2172, Sub.cons' rfl rfl (Sub.cons' rfl rfl (Sub.cons' rfl rfl (Sub.cons' rfl rfl (Sub.cons' rfl rfl (Sub.cons' rfl rfl (Sub.nil _))))))⟩
    ·have hd3224 := bif_f c3214 hd3213
     refine AX.skip ?_
     refine AX.seq ?_
     refine AX.region ?_
     refine AO.p rfl (p_move rfl) ?_
     refine AO.p rfl (p_move rfl) ?_
     obtain ⟨k3225, hd3226⟩ := chk_some hd3224
     refine AO.p rfl (s_indexV (q := x2173.toNat) Try.underlying111 Try.sizeOf4 rfl rfl rfl k3225 (z1 _)) ?_
     obtain ⟨G3227, hHG3227, S3228⟩ := S3206.set (k := 4) (i := i115) rfl (AObj.row false (bls (bs2172.set x2173.toNat true)))
     refine AO.s (s_store Try.sizeOf4 rfl rfl rfl (S3206.get (k := 4) rfl) (lt_len ((bls_length _).trans lbs2172) (inR_lt k3225)) ((congrArg (fun l => List.set _ _ (AObj.row false l)) (bls_set _ _ _)).trans hHG3227)) ?_
     refine AO.nil ?_
     refine AX.seq ?_
     refine AX.region ?_
     refine AO.p rfl (p_move rfl) ?_
     obtain ⟨G3229, i3230, hii3230, hHG3229, S3231⟩ := S3228.new (AObj.row false (ints [x2173]))
     refine AO.c rfl (s_buildInts (i := i3230) (vs := [(0, .int .i64 x2173)]) (xs := [x2173]) Try.underlying58 Try.sizeOf2 Try.zeroValue2 rfl rfl (by decide) rfl rfl hii3230 hHG3229) ?_
     refine AO.p rfl (p_assign rfl) ?_
     refine AO.nil ?_
     refine AX.seq ?_
     refine AX.seq ?_
     refine AX.region ?_
     refine AO.p rfl (p_assign rfl) ?_
     refine AO.nil ?_
     obtain ⟨r3944, hl3945, hd3946⟩ := bnd_some hd3226
     refine AX.cutS (fun t' H' => ∃ (bs3939 : List Bool) (xs3943 : List Int) (p3941 : Option Addr) (c3942 : Nat), (bs3939, xs3943) = r3944 ∧ St [] H H' [[(i101, AObj.row false (ints a1))], [(i105, AObj.row false (ints a2))], oseg p2167 (tcells T2170), tseg T2170, [(i115, AObj.row false (bls bs3939))], oseg p3941 (ints xs3943)] ∧ bs3939.length = a0.toNat ∧ Sb p3941 (xs3943.length) c3942 1 ∧ Am.Sub [(0, .int .i64 a0), (4, .pointer (some ⟨i101, 0, none⟩)), (5, .pointer (some ⟨i105, 0, none⟩)), (7, .slice p2167 rs2169.length c2168), (8, .slice (some (Addr.mk i115 0 none)) a0.toNat a0.toNat), (9, .int .i64 x2173), (10, .slice p3941 xs3943.length c3942)] t') ?_ ?_
     ·refine AX.block ?_
      refine AX.loopF (fun s' t' H' => ∃ (bs3702 : List Bool) (xs3706 : List Int) (x3707 : Int) (p3704 : Option Addr) (c3705 : Nat), (bs3702, xs3706, x3707) = s' ∧ St [] H H' [[(i101, AObj.row false (ints a1))], [(i105, AObj.row false (ints a2))], oseg p2167 (tcells T2170), tseg T2170, [(i115, AObj.row false (bls bs3702))], oseg p3704 (ints xs3706)] ∧ bs3702.length = a0.toNat ∧ Sb p3704 (xs3706.length) c3705 1 ∧ Am.Sub [(0, .int .i64 a0), (4, .pointer (some ⟨i101, 0, none⟩)), (5, .pointer (some ⟨i105, 0, none⟩)), (7, .slice p2167 rs2169.length c2168), (8, .slice (some (Addr.mk i115 0 none)) a0.toNat a0.toNat), (9, .int .i64 x2173), (10, .slice p3704 xs3706.length c3705), (11, .int .i64 x3707)] t') hl3945 ?_ ?_
      ·skip
       have S3947 := S3231.front 0 rfl
       have S3948 := S3947.front 5 rfl
       have S3949 := S3948.front 5 rfl
       have S3950 := S3949.front 5 rfl
       have S3951 := S3950.front 5 rfl
       have S3952 := S3951.front 5 rfl
       exact ⟨(bs2172.set x2173.toNat true), [x2173], 0, (some (Addr.mk i3230 0 none)), 1, rfl, S3952, (len_set lbs2172), (Sb.lit (n := 1) (by decide)), Sub.cons' rfl rfl (Sub.cons' rfl rfl (Sub.cons' rfl rfl (Sub.cons' rfl rfl (Sub.cons' rfl rfl (Sub.cons' rfl rfl (Sub.cons' rfl (sl_n (Eq.symm rfl)) (Sub.cons' rfl rfl (Sub.nil _))))))))⟩
      ·rintro n3953 _ t' G3957 ⟨bs3702, xs3706, x3707, p3704, c3705, rfl, S3956, lbs3702, Bo3703, hsub3958⟩ o3959 ho3954 hk3955
       refine AX.sub hsub3958 ?_
       unfold D_spec_l02Components_s1 at ho3954
       refine AX.seq ?_
       refine AX.seq ?_
       refine AX.region ?_
       refine AO.p rfl (p_move rfl) ?_
       refine AO.p rfl (p_move rfl) ?_
       refine AO.p rfl (p_len_slice rfl Try.underlying58) ?_
       refine AO.p rfl (p_lss rfl rfl) ?_
       refine AO.nil ?_
       refine AX.cond rfl (fun c3960 => ?_) (fun c3960 => ?_)
       ·have hd3961 := bif_t c3960 ho3954
        refine AX.skip ?_
        refine AX.seq ?_
        refine AX.block ?_
        refine AX.seq ?_
        refine DR.startS [false, false, false, false, false, false, false, false, false, false, false, false, false, false, false] mix (by kernel_rfl) (fun hst => ?_)
        refine DR.p rfl rfl (p_move rfl) ?_
        refine DR.p rfl rfl (p_move rfl) ?_
        obtain ⟨k3962, hd3963⟩ := chk_some hd3961
        refine DR.p rfl rfl (s_indexV (q := x3707.toNat) Try.underlying58 Try.sizeOf2 rfl (Bo3703.at (inR_pos k3962)) rfl k3962 (z1 _)) ?_
        refine DR.r rfl rfl (r_load rfl Try.isAgg2) (one_read (row_cell (S3956.oat (k := 5) rfl (Bo3703.at (inR_pos k3962))) (ints_get (lt_len rfl (inR_lt k3962)))) (.of_flat0 rfl)) ?_
        obtain ⟨k3964, hd3965⟩ := chk_some hd3963
        refine DR.p rfl rfl (s_indexAr (q := (rd xs3706 x3707.toNat).toNat) Try.underlying54 Try.sizeOf2 rfl rfl k3964 (z1 _)) ?_
        refine DR.r rfl rfl (r_load rfl Try.isAgg2) (one_read (row_cell (S3956.get (k := 0) rfl) (ints_get (lt_len h_a1 (inR_lt k3964)))) (.of_flat0 rfl)) ?_
        refine DR.p rfl rfl (p_move rfl) ?_
        refine DR.p rfl rfl (p_move rfl) ?_
        obtain ⟨k3966, hd3967⟩ := chk_some hd3965
        refine DR.p rfl rfl (s_indexV (q := x3707.toNat) Try.underlying58 Try.sizeOf2 rfl (Bo3703.at (inR_pos k3966)) rfl k3966 (z1 _)) ?_
        refine DR.r rfl rfl (r_load rfl Try.isAgg2) (one_read (row_cell (S3956.oat (k := 5) rfl (Bo3703.at (inR_pos k3966))) (ints_get (lt_len rfl (inR_lt k3966)))) (.of_flat0 rfl)) ?_
        obtain ⟨k3968, hd3969⟩ := chk_some hd3967
        refine DR.p rfl rfl (s_indexAr (q := (rd xs3706 x3707.toNat).toNat) Try.underlying54 Try.sizeOf2 rfl rfl k3968 (z1 _)) ?_
        refine DR.r rfl rfl (r_load rfl Try.isAgg2) (one_read (row_cell (S3956.get (k := 1) rfl) (ints_get (lt_len h_a2 (inR_lt k3968)))) (.of_flat0 rfl)) ?_
        obtain ⟨G3970, i3971, hii3971, hHG3970, S3972⟩ := S3956.new (AObj.row false (ints [rd a1 ((rd xs3706 x3707.toNat).toNat), rd a2 ((rd xs3706 x3707.toNat).toNat)]))
        refine DR.a rfl rfl hii3971 hHG3970 (a_buildInts (vs := [(0, .int .i64 (rd a1 ((rd xs3706 x3707.toNat).toNat))), (1, .int .i64 (rd a2 ((rd xs3706 x3707.toNat).toNat)))]) (xs := [rd a1 ((rd xs3706 x3707.toNat).toNat), rd a2 ((rd xs3706 x3707.toNat).toNat)]) Try.underlying58 Try.sizeOf2 Try.zeroValue2 rfl rfl (by decide) rfl rfl) ?_
        refine DR.p rfl rfl (p_len_slice rfl Try.underlying58) ?_
        refine DR.p rfl rfl (p_move rfl) ?_
        refine DR.nil 15 [] hst (by kernel_rfl) trivial ?_
        obtain ⟨r4108, hl4109, hd4110⟩ := bnd_some hd3969
        refine AX.cutS (fun t' H' => ∃ (bs4103 : List Bool) (xs4107 : List Int) (p4105 : Option Addr) (c4106 : Nat), (bs4103, xs4107) = r4108 ∧ St [] H H' [[(i101, AObj.row false (ints a1))], [(i105, AObj.row false (ints a2))], oseg p2167 (tcells T2170), tseg T2170, [(i115, AObj.row false (bls bs4103))], oseg p4105 (ints xs4107)] ∧ bs4103.length = a0.toNat ∧ Sb p4105 (xs4107.length) c4106 1 ∧ Am.Sub [(0, .int .i64 a0), (4, .pointer (some ⟨i101, 0, none⟩)), (5, .pointer (some ⟨i105, 0, none⟩)), (7, .slice p2167 rs2169.length c2168), (8, .slice (some (Addr.mk i115 0 none)) a0.toNat a0.toNat), (9, .int .i64 x2173), (10, .slice p4105 xs4107.length c4106), (11, .int .i64 x3707)] t') ?_ ?_
        ·refine AX.block ?_
         refine AX.loopF (fun s' t' H' => ∃ (bs4059 : List Bool) (xs4063 : List Int) (x4065 : Int) (p4061 : Option Addr) (c4062 : Nat), (bs4059, xs4063, x4065) = s' ∧ St [] H H' [[(i101, AObj.row false (ints a1))], [(i105, AObj.row false (ints a2))], oseg p2167 (tcells T2170), tseg T2170, [(i115, AObj.row false (bls bs4059))], oseg p4061 (ints xs4063), [(i3971, AObj.row false (ints [rd a1 ((rd xs3706 x3707.toNat).toNat), rd a2 ((rd xs3706 x3707.toNat).toNat)]))]] ∧ bs4059.length = a0.toNat ∧ Sb p4061 (xs4063.length) c4062 1 ∧ Am.Sub [(0, .int .i64 a0), (4, .pointer (some ⟨i101, 0, none⟩)), (5, .pointer (some ⟨i105, 0, none⟩)), (7, .slice p2167 rs2169.length c2168), (8, .slice (some (Addr.mk i115 0 none)) a0.toNat a0.toNat), (9, .int .i64 x2173), (10, .slice p4061 xs4063.length c4062), (11, .int .i64 x3707), (49, .slice (some (Addr.mk i3971 0 none)) 2 2), (50, .int .i64 2), (51, .int .i64 x4065)] t') hl4109 ?_ ?_
         ·skip
          have S4111 := S3972.front 0 rfl
          have S4112 := S4111.front 6 rfl
          have S4113 := S4112.front 6 rfl
          have S4114 := S4113.front 6 rfl
          have S4115 := S4114.front 6 rfl
          have S4116 := S4115.front 6 rfl
          have S4117 := S4116.front 6 rfl
          exact ⟨bs3702, xs3706, 0, p3704, c3705, rfl, S4117, lbs3702, Bo3703, Sub.cons' rfl rfl (Sub.cons' rfl rfl (Sub.cons' rfl rfl (Sub.cons' rfl rfl (Sub.cons' rfl rfl (Sub.cons' rfl rfl (Sub.cons' rfl rfl (Sub.cons' rfl rfl (Sub.cons' rfl rfl (Sub.cons' rfl rfl (Sub.cons' rfl rfl (Sub.nil _)))))))))))⟩
         ·rintro n4118 _ t' G4122 ⟨bs4059, xs4063, x4065, p4061, c4062, rfl, S4121, lbs4059, Bo4060, hsub4123⟩ o4124 ho4119 hk4120
          refine AX.sub hsub4123 ?_
          unfold D_spec_l02Components_s2 at ho4119
          refine AX.seq ?_
          refine AX.region ?_
          refine AO.p rfl (p_lss rfl rfl) ?_
          refine AO.nil ?_
          refine AX.seq ?_
          refine AX.cond rfl (fun c4125 => ?_) (fun c4125 => ?_)
          ·have hd4126 := bif_t c4125 ho4119
           refine AX.skip ?_
           refine AX.seq ?_
           refine AX.block ?_
           refine AX.seq ?_
           refine AX.region ?_
           obtain ⟨k4127, hd4128⟩ := chk_some hd4126
           refine AO.p rfl (s_indexV (q := x4065.toNat) Try.underlying58 Try.sizeOf2 rfl rfl rfl k4127 (z1 _)) ?_
           refine AO.c rfl (s_load Try.isAgg2 rfl (row_cell (S4121.get (k := 6) rfl) (ints_get (lt_len rfl (inR_lt k4127))))) ?_
           refine AO.p rfl (p_assign rfl) ?_
           refine AO.nil ?_
           refine AX.seq ?_
           refine AX.region ?_
           refine AO.p rfl (p_move rfl) ?_
           refine AO.p rfl (p_move rfl) ?_
           obtain ⟨k4129, hd4130⟩ := chk_some hd4128
           refine AO.p rfl (s_indexV (q := (rd [rd a1 ((rd xs3706 x3707.toNat).toNat), rd a2 ((rd xs3706 x3707.toNat).toNat)] x4065.toNat).toNat) Try.underlying111 Try.sizeOf4 rfl rfl rfl k4129 (z1 _)) ?_
           refine AO.c rfl (s_load Try.isAgg4 rfl (row_cell (S4121.get (k := 4) rfl) (bls_get (lt_len lbs4059 (inR_lt k4129))))) ?_
           refine AO.p rfl (p_not rfl) ?_
           refine AO.nil ?_
           refine AX.cond rfl (fun c4131 => ?_) (fun c4131 => ?_)
           ·have hd4132 := bif_t c4131 hd4130
            refine AX.seq ?_
            refine AX.region ?_
            refine AO.p rfl (p_move rfl) ?_
            refine AO.p rfl (p_move rfl) ?_
            obtain ⟨k4133, hd4134⟩ := chk_some hd4132
            refine AO.p rfl (s_indexV (q := (rd [rd a1 ((rd xs3706 x3707.toNat).toNat), rd a2 ((rd xs3706 x3707.toNat).toNat)] x4065.toNat).toNat) Try.underlying111 Try.sizeOf4 rfl rfl rfl k4133 (z1 _)) ?_
            obtain ⟨G4135, hHG4135, S4136⟩ := S4121.set (k := 4) (i := i115) rfl (AObj.row false (bls (bs4059.set ((rd [rd a1 ((rd xs3706 x3707.toNat).toNat), rd a2 ((rd xs3706 x3707.toNat).toNat)] x4065.toNat).toNat) true)))
            refine AO.s (s_store Try.sizeOf4 rfl rfl rfl (S4121.get (k := 4) rfl) (lt_len ((bls_length _).trans lbs4059) (inR_lt k4133)) ((congrArg (fun l => List.set _ _ (AObj.row false l)) (bls_set _ _ _)).trans hHG4135)) ?_
            refine AO.nil ?_
            refine AX.region ?_
            refine AO.p rfl (p_move rfl) ?_
            refine AO.p rfl (p_move rfl) ?_
            obtain ⟨G4137, i4138, hii4138, hHG4137, S4139⟩ := S4136.new (AObj.row false (ints ([rd [rd a1 ((rd xs3706 x3707.toNat).toNat), rd a2 ((rd xs3706 x3707.toNat).toNat)] x4065.toNat])))
            refine AO.c rfl (s_buildInts (i := i4138) (vs := [(0, .int .i64 (rd [rd a1 ((rd xs3706 x3707.toNat).toNat), rd a2 ((rd xs3706 x3707.toNat).toNat)] x4065.toNat))]) (xs := [rd [rd a1 ((rd xs3706 x3707.toNat).toNat), rd a2 ((rd xs3706 x3707.toNat).toNat)] x4065.toNat]) Try.underlying58 Try.sizeOf2 Try.zeroValue2 rfl rfl (by decide) rfl rfl hii4138 hHG4137) ?_
            obtain ⟨k4141, hd4142⟩ := chk_some hd4134
            obtain ⟨p4143, c4144, G4145, haG4145, S4146, Bp4143⟩ := S4139.app (k := 6) rfl Bo4060 (ints ([rd [rd a1 ((rd xs3706 x3707.toNat).toNat), rd a2 ((rd xs3706 x3707.toNat).toNat)] x4065.toNat])) 1 (ints_len1 rfl)
            have S4147 := S4146.cellsEq (k := 6) (us' := ints (xs4063 ++ [rd [rd a1 ((rd xs3706 x3707.toNat).toNat), rd a2 ((rd xs3706 x3707.toNat).toNat)] x4065.toNat])) (ints_app _ _) rfl
            have BS4147 : Sb p4143 ((xs4063 ++ [rd [rd a1 ((rd xs3706 x3707.toNat).toNat), rd a2 ((rd xs3706 x3707.toNat).toNat)] x4065.toNat]).length) c4144 1 := (show xs4063.length + 1 = (xs4063 ++ [rd [rd a1 ((rd xs3706 x3707.toNat).toNat), rd a2 ((rd xs3706 x3707.toNat).toNat)] x4065.toNat]).length from len_app (a := xs4063) (b := [rd [rd a1 ((rd xs3706 x3707.toNat).toNat), rd a2 ((rd xs3706 x3707.toNat).toNat)] x4065.toNat]) rfl rfl) ▸ Bp4143
            have S4148 := S4147.drop 0 rfl
            refine AO.c rfl (s_app (by_ := 8) (us := ints xs4063) (vs := ints ([rd [rd a1 ((rd xs3706 x3707.toNat).toNat), rd a2 ((rd xs3706 x3707.toNat).toNat)] x4065.toNat])) Try.underlying58 Try.underlying58 Try.typeInfo2 Try.sizeOf2 Try.zeroValue2 rfl rfl rfl rfl rfl rfl rfl (S4139.buf (k := 6) rfl Bo4060 (ints_len1 rfl)) (S4139.oview (k := 0) rfl (Sb.lit (n := 1) (by decide)) (ints_len1 rfl)) (ints_len1 rfl) ints_one k4141 haG4145 (show xs4063.length + 1 = (xs4063 ++ [rd [rd a1 ((rd xs3706 x3707.toNat).toNat), rd a2 ((rd xs3706 x3707.toNat).toNat)] x4065.toNat]).length from len_app (a := xs4063) (b := [rd [rd a1 ((rd xs3706 x3707.toNat).toNat), rd a2 ((rd xs3706 x3707.toNat).toNat)] x4065.toNat]) rfl rfl)) ?_
            refine AO.p rfl (p_assign rfl) ?_
            refine AO.nil ?_
            refine AX.region ?_
            obtain ⟨k4149, hd4150⟩ := chk_some hd4142
            refine AO.p rfl (p_addE rfl rfl k4149) ?_
            refine AO.p rfl (p_move rfl) ?_
            refine AO.nil ?_
            obtain rfl := some_inj hd4150
            have S4152 := S4148.front 6 rfl
            have S4153 := S4152.front 6 rfl
            have S4154 := S4153.front 6 rfl
            have S4155 := S4154.front 6 rfl
            have S4156 := S4155.front 6 rfl
            have S4157 := S4156.front 6 rfl
            have S4158 := S4157.front 6 rfl
            exact ⟨((bs4059.set ((rd [rd a1 ((rd xs3706 x3707.toNat).toNat), rd a2 ((rd xs3706 x3707.toNat).toNat)] x4065.toNat).toNat) true), (xs4063 ++ [rd [rd a1 ((rd xs3706 x3707.toNat).toNat), rd a2 ((rd xs3706 x3707.toNat).toNat)] x4065.toNat]), x4065 + 1), hk4120, (bs4059.set ((rd [rd a1 ((rd xs3706 x3707.toNat).toNat), rd a2 ((rd xs3706 x3707.toNat).toNat)] x4065.toNat).toNat) true), (xs4063 ++ [rd [rd a1 ((rd xs3706 x3707.toNat).toNat), rd a2 ((rd xs3706 x3707.toNat).toNat)] x4065.toNat]), (x4065 + 1), p4143, c4144, rfl, S4158, (len_set lbs4059), BS4147, Sub.cons' rfl rfl (Sub.cons' rfl rfl (Sub.cons' rfl rfl (Sub.cons' rfl rfl (Sub.cons' rfl rfl (Sub.cons' rfl rfl (Sub.cons' rfl rfl (Sub.cons' rfl rfl (Sub.cons' rfl rfl (Sub.cons' rfl rfl (Sub.cons' rfl rfl (Sub.nil _)))))))))))⟩
           ·have hd4159 := bif_f c4131 hd4130
            refine AX.skip ?_
            refine AX.region ?_
            obtain ⟨k4160, hd4161⟩ := chk_some hd4159
            refine AO.p rfl (p_addE rfl rfl k4160) ?_
            refine AO.p rfl (p_move rfl) ?_
            refine AO.nil ?_
            obtain rfl := some_inj hd4161
            have S4163 := S4121.front 6 rfl
            have S4164 := S4163.front 6 rfl
            have S4165 := S4164.front 6 rfl
            have S4166 := S4165.front 6 rfl
            have S4167 := S4166.front 6 rfl
            have S4168 := S4167.front 6 rfl
            have S4169 := S4168.front 6 rfl
            exact ⟨(bs4059, xs4063, x4065 + 1), hk4120, bs4059, xs4063, (x4065 + 1), p4061, c4062, rfl, S4169, lbs4059, Bo4060, Sub.cons' rfl rfl (Sub.cons' rfl rfl (Sub.cons' rfl rfl (Sub.cons' rfl rfl (Sub.cons' rfl rfl (Sub.cons' rfl rfl (Sub.cons' rfl rfl (Sub.cons' rfl rfl (Sub.cons' rfl rfl (Sub.cons' rfl rfl (Sub.cons' rfl rfl (Sub.nil _)))))))))))⟩
          ·have hd4170 := bif_f c4125 ho4119
           refine AX.exit ?_
           obtain rfl := some_inj hd4170
           have S4171 := S4121.front 5 rfl
           have S4172 := S4171.front 5 rfl
           have S4173 := S4172.front 5 rfl
           have S4174 := S4173.front 5 rfl
           have S4175 := S4174.front 5 rfl
           have S4176 := S4175.front 5 rfl
           have S4177 := S4176.keep 6
           exact ⟨bs4059, xs4063, p4061, c4062, hk4120, S4177, lbs4059, Bo4060, Sub.cons' rfl rfl (Sub.cons' rfl rfl (Sub.cons' rfl rfl (Sub.cons' rfl rfl (Sub.cons' rfl rfl (Sub.cons' rfl rfl (Sub.cons' rfl rfl (Sub.cons' rfl rfl (Sub.nil _))))))))⟩
        ·rintro t' G4179 ⟨bs4103, xs4107, p4105, c4106, rfl, S4178, lbs4103, Bo4104, hsub4180⟩
         refine ⟨_, hsub4180, ?_⟩
         refine AX.region ?_
         refine AO.p rfl (p_move rfl) ?_
         obtain ⟨k4181, hd4182⟩ := chk_some hd4110
         refine AO.p rfl (p_addE rfl rfl k4181) ?_
         refine AO.p rfl (p_assign rfl) ?_
         refine AO.nil ?_
         obtain rfl := some_inj hd4182
         have S4184 := S4178.front 5 rfl
         have S4185 := S4184.front 5 rfl
         have S4186 := S4185.front 5 rfl
         have S4187 := S4186.front 5 rfl
         have S4188 := S4187.front 5 rfl
         have S4189 := S4188.front 5 rfl
         exact ⟨(bs4103, xs4107, x3707 + 1), hk3955, bs4103, xs4107, (x3707 + 1), p4105, c4106, rfl, S4189, lbs4103, Bo4104, Sub.cons' rfl rfl (Sub.cons' rfl rfl (Sub.cons' rfl rfl (Sub.cons' rfl rfl (Sub.cons' rfl rfl (Sub.cons' rfl rfl (Sub.cons' rfl rfl (Sub.cons' rfl rfl (Sub.nil _))))))))⟩
       ·have hd4190 := bif_f c3960 ho3954
        refine AX.exit ?_
        obtain rfl := some_inj hd4190
        have S4191 := S3956.front 5 rfl
        have S4192 := S4191.front 5 rfl
        have S4193 := S4192.front 5 rfl
        have S4194 := S4193.front 5 rfl
        have S4195 := S4194.front 5 rfl
        have S4196 := S4195.front 5 rfl
        exact ⟨bs3702, xs3706, p3704, c3705, hk3955, S4196, lbs3702, Bo3703, Sub.cons' rfl rfl (Sub.cons' rfl rfl (Sub.cons' rfl rfl (Sub.cons' rfl rfl (Sub.cons' rfl rfl (Sub.cons' rfl rfl (Sub.cons' rfl rfl (Sub.nil _)))))))⟩
     ·rintro t' G4198 ⟨bs3939, xs3943, p3941, c3942, rfl, S4197, lbs3939, Bo3940, hsub4199⟩
      refine ⟨_, hsub4199, ?_⟩
      refine AX.region ?_
      refine AO.p rfl (p_move rfl) ?_
      refine AO.p rfl (p_move rfl) ?_
      obtain ⟨xs4200, h4201, hd4202⟩ := bnd_some hd3946
      obtain ⟨_, G4208, hc4207, p4203, c4204, rfl, S4209, B4206⟩ := W_spec_l02Sorted fu G4198 p3941 c3942 xs3943 (S4197.oview (k := 5) rfl Bo3940 (ints_len1 rfl)) xs4200 h4201
      have S4210 := S4197.call S4209
      refine AO.c rfl (o_call (vs := [.slice p3941 xs3943.length c3942]) rfl Try.call141 hc4207) ?_
      obtain ⟨G4211, i4212, hii4212, hHG4211, S4213⟩ := S4210.new (AObj.row false (tcells [(p4203, c4204, xs4200)]))
      have S4215 := (S4213.front 1 rfl).tone p4203 c4204 xs4200 rfl
      refine AO.c rfl (s_buildT1 (i := i4212) (X := [(p4203, c4204, xs4200)]) (n := xs4200.length) rfl Try.underlying43 Try.sizeOf58 Try.zeroValue58 rfl rfl hii4212 hHG4211) ?_
      obtain ⟨k4216, hd4217⟩ := chk_some hd4202
      obtain ⟨p4218, c4219, G4220, haG4220, S4221, Bp4218⟩ := S4215.app (k := 4) rfl Bo2166 (tcells [(p4203, c4204, xs4200)]) 1 (tc_len1 rfl rfl)
      have S4222 := S4221.cellsEq (k := 4) (us' := tcells (T2170 ++ [(p4203, c4204, xs4200)])) (tcells_app _ _).symm rfl
      have BS4222 : Sb p4218 ((rs2169 ++ [xs4200]).length) c4219 1 := (show rs2169.length + 1 = (rs2169 ++ [xs4200]).length from len_app (a := rs2169) (b := [xs4200]) rfl rfl) ▸ Bp4218
      have S4223 := S4222.front 0 rfl
      have S4224 := (S4223.front 5 rfl).tmerge
      have S4225 := S4224.drop 1 rfl
      refine AO.c rfl (s_app (by_ := 24) (us := tcells T2170) (vs := tcells [(p4203, c4204, xs4200)]) Try.underlying43 Try.underlying43 Try.typeInfo58 Try.sizeOf58 Try.zeroValue58 rfl rfl rfl rfl rfl rfl rfl (S4215.buf (k := 4) rfl Bo2166 (tc_len1 tT2170 rfl)) (S4215.oview (k := 1) rfl (Sb.lit (n := 1) (by decide)) (tc_len1 rfl rfl)) (tc_len1 rfl rfl) tcells_one k4216 haG4220 (show rs2169.length + 1 = (rs2169 ++ [xs4200]).length from len_app (a := rs2169) (b := [xs4200]) rfl rfl)) ?_
      refine AO.p rfl (p_assign rfl) ?_
      refine AO.nil ?_
      refine AX.region ?_
      refine AO.p rfl (p_move rfl) ?_
      obtain ⟨k4226, hd4227⟩ := chk_some hd4217
      refine AO.p rfl (p_addE rfl rfl k4226) ?_
      refine AO.p rfl (p_assign rfl) ?_
      refine AO.nil ?_
      obtain rfl := some_inj hd4227
      have S4229 := S4225.front 4 rfl
      have S4230 := S4229.front 1 rfl
      have S4231 := S4230.front 4 rfl
      have S4232 := S4231.front 4 rfl
      have S4233 := S4232.front 4 rfl
      have S4234 := S4233.keep 5
      exact ⟨((rs2169 ++ [xs4200]), bs3939, x2173 + 1), hk3205, (rs2169 ++ [xs4200]), bs3939, (x2173 + 1), p4218, c4219, (T2170 ++ [(p4203, c4204, xs4200)]), rfl, S4234, (trows_apps tT2170 rfl), (TSb.app sT2170 (TSb.one (sb_len rfl B4206))), BS4222, lbs3939, Sub.cons' rfl rfl (Sub.cons' rfl rfl (Sub.cons' rfl rfl (Sub.cons' rfl rfl (Sub.cons' rfl rfl (Sub.cons' rfl rfl (Sub.nil _))))))⟩
   ·have hd4235 := bif_f c3210 ho3204
    refine AX.exit ?_
    obtain rfl := some_inj hd4235
    have S4236 := S3206.front 3 rfl
    have S4237 := S4236.front 3 rfl
    have S4238 := S4237.keep 2
    exact ⟨rs2169, p2167, c2168, T2170, hk3205, S4238, tT2170, sT2170, Bo2166, Sub.cons' rfl rfl (Sub.nil _)⟩
 ·rintro t' G4240 ⟨rs3193, p3191, c3192, T3194, rfl, S4239, tT3194, sT3194, Bo3190, hsub4241⟩
  refine ⟨_, hsub4241, ?_⟩
  refine AX.seq ?_
  refine AX.region ?_
  refine AO.p rfl (p_move rfl) ?_
  refine AO.p rfl (p_assign rfl) ?_
  refine AO.nil ?_
  refine AX.ret ?_
  obtain rfl := some_inj hd3197
  have S4242 := S4239.front 1 rfl
  have S4243 := S4242.front 1 rfl
  exact ⟨.inr rfl, _, res1 rfl (rv_tmp rfl), p3191, c3192, T3194, rfl, S4243, Bo3190, tT3194, sT3194⟩

end Go.Proofs.Ytdafmafigcljkaa
