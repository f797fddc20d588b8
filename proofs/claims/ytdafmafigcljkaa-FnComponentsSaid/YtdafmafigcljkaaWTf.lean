/-
 The program computes that, printed by a program. No condition.
-/
import Derived.Test.YtdafmafigcljkaaDTf
import Derived.Test.YtdafmafigcljkaaWSc
import Derived.Test.YtdafmafigcljkaaWTd
import Derived.Test.YtdafmafigcljkaaWTe
import Derived.Test.YtdafmafigcljkaaProg
import Derived.KernelRfl
namespace Go.Proofs.Ytdafmafigcljkaa
open Go Go.RowKit Am
set_option linter.unusedVariables false
set_option linter.unusedSimpArgs false
set_option maxRecDepth 20000
set_option maxHeartbeats 4000000 in
theorem W_laws_big (fu : Nat) (H : AHeap) (F : Sg) (p_a0 : Option Addr) (c_a0 : Nat) (a0 : List Int) (q_a0 : PV F p_a0 c_a0 a0) (hn : (([F] : List Sg).flatten.map (·.1)).Nodup) (ho : ∀ x ∈ ([F] : List Sg).flatten, x.1 < H.length ∧ hget H x.1 = x.2) (r0 : Bool) (hd : D_laws_big fu a0 = some r0) : ∃ v G', ACall Try.prog 33 [.slice p_a0 a0.length c_a0] H v G' ∧ ∃ (F' : Sg), (v = .bool r0) ∧ St (([F] : List Sg).flatten.map (·.1)) H G' [F'] ∧ Pin F' F := by
 refine ACall.bodyX (args := [.slice p_a0 a0.length c_a0]) (N := 6) [(0, .slice p_a0 a0.length c_a0)] (fun v G' => ∃ (F' : Sg), (v = .bool r0) ∧ St (([F] : List Sg).flatten.map (·.1)) H G' [F'] ∧ Pin F' F) Try.func33 rfl rfl rfl rfl ?_
 unfold D_laws_big at hd
 have S0 := St.initF hn ho
 generalize hM0 : (([F] : List Sg).flatten.map (·.1)) = M0 at S0 ⊢
 refine AX.seq ?_
 refine AX.region ?_
 refine AO.p rfl (p_assign rfl) ?_
 refine AO.nil ?_
 refine AX.seq ?_
 refine AX.region ?_
 refine AO.p rfl (p_move rfl) ?_
 refine AO.p rfl (p_len_slice rfl Try.underlying51) ?_
 refine AO.p rfl (p_gtr rfl rfl) ?_
 refine AO.p rfl (p_assign rfl) ?_
 refine AO.nil ?_
 refine AX.ret ?_
 obtain rfl := some_inj hd
 have S100 := S0.front 0 rfl
 exact ⟨.inr rfl, _, res1 rfl (rv_tmp rfl), F, rfl, S100, (Pin.refl F)⟩

set_option maxHeartbeats 4000000 in
theorem W_laws_FnComponents (fu : Nat) (H : AHeap) (F : Sg) (p_a0 : Option Addr) (c_a0 : Nat) (a0 : List Int) (q_a0 : PV F p_a0 c_a0 a0) (hn : (([F] : List Sg).flatten.map (·.1)).Nodup) (ho : ∀ x ∈ ([F] : List Sg).flatten, x.1 < H.length ∧ hget H x.1 = x.2) (r0 : Bool) (hd : D_laws_FnComponents fu a0 = some r0) : ∃ v G', ACall Try.prog 9 [.slice p_a0 a0.length c_a0] H v G' ∧ ∃ (F' : Sg), (v = .bool r0) ∧ St (([F] : List Sg).flatten.map (·.1)) H G' [F'] ∧ Pin F' F := by
 refine ACall.bodyX (args := [.slice p_a0 a0.length c_a0]) (N := 284) [(0, .slice p_a0 a0.length c_a0)] (fun v G' => ∃ (F' : Sg), (v = .bool r0) ∧ St (([F] : List Sg).flatten.map (·.1)) H G' [F'] ∧ Pin F' F) Try.func9 rfl rfl rfl rfl ?_
 unfold D_laws_FnComponents at hd
 have S0 := St.initF hn ho
 generalize hM0 : (([F] : List Sg).flatten.map (·.1)) = M0 at S0 ⊢
 refine AX.seq ?_
 refine AX.region ?_
 refine AO.p rfl (p_assign rfl) ?_
 refine AO.nil ?_
 refine AX.seq ?_
 refine AX.seq ?_
 refine AX.region ?_
 refine AO.p rfl (p_move rfl) ?_
 have S100 := S0.front 0 rfl
 have S101 : St M0 H H [F] := S100
 obtain ⟨b102, h103, hd104⟩ := bnd_some hd
 obtain ⟨_, G107, hc109, F105, rfl, S108, hF106⟩ := W_laws_big fu H F p_a0 c_a0 a0 q_a0 (St.fnodup (A := [F]) S101) (St.fmem (A := [F]) S101) b102 h103
 have S110 := St.callM (A := [F]) S101 S108 (fun j h => h)
 refine AO.c rfl (o_call (vs := [.slice p_a0 a0.length c_a0]) rfl Try.call33 hc109) ?_
 refine AO.nil ?_
 refine AX.cond rfl (fun c111 => ?_) (fun c111 => ?_)
 ·have hd112 := bif_t c111 hd104
  refine AX.seq ?_
  refine AX.region ?_
  refine AO.p rfl (p_assign rfl) ?_
  refine AO.nil ?_
  refine AX.ret ?_
  obtain rfl := some_inj hd112
  have S113 := S110.front 0 rfl
  exact ⟨.inr rfl, _, res1 rfl (rv_tmp rfl), F105, rfl, S113, ((Pin.refl F).mono hF106)⟩
 ·have hd114 := bif_f c111 hd104
  refine AX.skip ?_
  refine AX.seq ?_
  refine AX.region ?_
  refine AO.p rfl (p_move rfl) ?_
  have S115 := S110.front 0 rfl
  have S116 : St M0 H G107 [F105] := S115
  obtain ⟨⟨x117, xs118, xs119, x120⟩, h121, hd122⟩ := bnd_some hd114
  obtain ⟨_, G127, hc129, F123, rfl, S128, l124, l125, hF126⟩ := W_spec_DrawChainFrom fu G107 F105 p_a0 c_a0 a0 (q_a0.mono hF106) (St.fnodup (A := [F105]) S116) (St.fmem (A := [F105]) S116) x117 xs118 xs119 x120 h121
  have S130 := St.callM (A := [F105]) S116 S128 (fun j h => h)
  refine AO.c rfl (o_call (vs := [.slice p_a0 a0.length c_a0]) rfl Try.call34 hc129) ?_
  refine AO.p rfl (p_move rfl) ?_
  refine AO.p rfl (p_extract rfl rfl) ?_
  refine AO.p rfl (p_extract rfl rfl) ?_
  refine AO.p rfl (p_extract rfl rfl) ?_
  refine AO.p rfl (p_extract rfl rfl) ?_
  obtain ⟨G131, i132, hii132, hHG131, S133⟩ := S130.new (AObj.row false (ints (List.replicate 14 0)))
  refine AO.c rfl (s_alloc (i := i132) (cs := ints (List.replicate 14 0)) Try.zeroValue54 rfl rfl hii132 hHG131) ?_
  obtain ⟨G135, i136, hii136, hHG135, S137⟩ := S133.new (AObj.row false (ints (List.replicate 14 0)))
  refine AO.c rfl (s_alloc (i := i136) (cs := ints (List.replicate 14 0)) Try.zeroValue54 rfl rfl hii136 hHG135) ?_
  refine AO.p rfl (p_assign rfl) ?_
  obtain ⟨G139, hHG139, S140⟩ := S137.set (k := 1) (i := i132) rfl (AObj.row false (ints xs118))
  have S141 : St M0 H G139 [[(i136, AObj.row false (ints (List.replicate 14 0)))], [(i132, AObj.row false (ints xs118))], F123] := S140
  refine AO.s (s_storeAll (vs := ints xs118) Try.sizeOf54 rfl rfl ints_one (S137.get (k := 1) rfl) (ints_len l124) (ints_len len_rep) hHG139) ?_
  obtain ⟨G142, hHG142, S143⟩ := S141.set (k := 0) (i := i136) rfl (AObj.row false (ints xs119))
  have S144 : St M0 H G142 [[(i136, AObj.row false (ints xs119))], [(i132, AObj.row false (ints xs118))], F123] := S143
  refine AO.s (s_storeAll (vs := ints xs119) Try.sizeOf54 rfl rfl ints_one (S141.get (k := 0) rfl) (ints_len l125) (ints_len len_rep) hHG142) ?_
  refine AO.p rfl (p_assign rfl) ?_
  refine AO.nil ?_
  refine AX.seq ?_
  refine AX.region ?_
  refine AO.p rfl (p_move rfl) ?_
  refine AO.c rfl (s_loadN (vs := ints xs118) Try.isAgg54 Try.sizeOf54 rfl (ints_len l124) (row_cells (S144.get (k := 1) rfl))) ?_
  refine AO.c rfl (s_loadN (vs := ints xs119) Try.isAgg54 Try.sizeOf54 rfl (ints_len l125) (row_cells (S144.get (k := 0) rfl))) ?_
  obtain ⟨⟨rs145, x146⟩, h147, hd148⟩ := bnd_some hd122
  obtain ⟨_, G157, hc156, p149, c150, T153, rfl, S158, B152, t154, s155⟩ := W_impl_ComponentsOf fu G142 x117 xs118 l124 xs119 l125 rs145 x146 h147
  have S159 := S144.call S158
  refine AO.c rfl (o_call (vs := [.int .i64 x117, .agg (ints xs118).toArray, .agg (ints xs119).toArray]) rfl Try.call35 hc156) ?_
  refine AO.p rfl (p_move rfl) ?_
  refine AO.p rfl (p_extract rfl rfl) ?_
  refine AO.p rfl (p_extract rfl rfl) ?_
  refine AO.p rfl (p_assign rfl) ?_
  refine AO.p rfl (p_assign rfl) ?_
  refine AO.nil ?_
  refine AX.seq ?_
  refine AX.seq ?_
  refine AX.region ?_
  refine AO.p rfl (p_move rfl) ?_
  refine AO.c rfl (s_loadN (vs := ints xs118) Try.isAgg54 Try.sizeOf54 rfl (ints_len l124) (row_cells (S159.get (k := 3) rfl))) ?_
  refine AO.c rfl (s_loadN (vs := ints xs119) Try.isAgg54 Try.sizeOf54 rfl (ints_len l125) (row_cells (S159.get (k := 2) rfl))) ?_
  obtain ⟨⟨rs160, x161⟩, h162, hd163⟩ := bnd_some hd148
  obtain ⟨_, G172, hc171, p164, c165, T168, rfl, S173, B167, t169, s170⟩ := W_spec_ComponentsOf fu G157 x117 xs118 l124 xs119 l125 rs160 x161 h162
  have S174 := S159.call S173
  refine AO.c rfl (o_call (vs := [.int .i64 x117, .agg (ints xs118).toArray, .agg (ints xs119).toArray]) rfl Try.call36 hc171) ?_
  refine AO.p rfl (p_move rfl) ?_
  refine AO.p rfl (p_extract rfl rfl) ?_
  refine AO.p rfl (p_extract rfl rfl) ?_
  refine AO.p rfl (p_assign rfl) ?_
  refine AO.p rfl (p_assign rfl) ?_
  refine AO.nil ?_
  obtain ⟨r189, hb190, hd191⟩ := bnd_some hd163
  refine AX.cut (fun t' H' => ∃ (b188 : Bool), b188 = r189 ∧ St M0 H H' [F123, [(i132, AObj.row false (ints xs118))], [(i136, AObj.row false (ints xs119))], oseg p149 (tcells T153), tseg T153] ∧ Pin F123 F ∧ PV F123 p_a0 c_a0 a0 ∧ Am.Sub [(0, .slice p_a0 a0.length c_a0), (3, .int .i64 x117), (4, .pointer (some ⟨i132, 0, none⟩)), (5, .pointer (some ⟨i136, 0, none⟩)), (6, .int .i64 x120), (7, .slice p149 rs145.length c150), (8, .int .i64 x146), (66, .bool b188)] t') ?_ ?_
  ·skip
   refine AX.region ?_
   refine AO.p rfl (p_move rfl) ?_
   refine AO.p rfl (p_move rfl) ?_
   refine AO.p rfl (p_neq rfl rfl) ?_
   refine AO.p rfl (p_move rfl) ?_
   refine AO.cases (d := 61) rfl (fun c192 => ?_) (fun c192 => ?_)
   ·have hd193 := bif_t c192 hb190
    refine AO.gn rfl rfl rfl ?_
    refine AO.gn rfl rfl rfl ?_
    refine AO.gn rfl rfl rfl ?_
    refine AO.gn rfl rfl rfl ?_
    refine AO.p rfl (p_pickT rfl rfl) ?_
    refine AO.nil ?_
    have S194 := S174.front 3 rfl
    have S195 := S194.front 3 rfl
    have S196 := S195.front 4 rfl
    have S197 := S196.front 5 rfl
    have S198 := S197.front 6 rfl
    have S199 := S198.keep 5
    exact ⟨true, (some_inj hd193), S199, (((Pin.refl F).mono hF106).mono hF126), ((q_a0.mono hF106).mono hF126), Sub.cons' rfl rfl (Sub.cons' rfl rfl (Sub.cons' rfl rfl (Sub.cons' rfl rfl (Sub.cons' rfl rfl (Sub.cons' rfl rfl (Sub.cons' rfl rfl (Sub.cons' rfl rfl (Sub.nil _))))))))⟩
   ·have hd200 := bif_f c192 hb190
    refine AO.gp rfl rfl rfl (p_move rfl) ?_
    refine AO.gp rfl rfl rfl (p_move rfl) ?_
    obtain ⟨b201, h202, hd203⟩ := bnd_some hd200
    refine AO.gc rfl rfl rfl (o_call (vs := [.slice p149 rs145.length c150, .slice p164 rs160.length c165]) rfl Try.call37 (W_laws_rows9 fu G172 p149 c150 T153 rs145 t154 (S174.oview (k := 2) rfl B152 (tc_len1 t154 rfl)) (S174.oviewT (k := 3) rfl s155) p164 c165 T168 rs160 t169 (S174.oview (k := 0) rfl B167 (tc_len1 t169 rfl)) (S174.oviewT (k := 1) rfl s170) b201 h202)) ?_
    refine AO.gp rfl rfl rfl (p_not rfl) ?_
    refine AO.p rfl (p_pickF rfl rfl) ?_
    refine AO.nil ?_
    have S205 := S174.front 3 rfl
    have S206 := S205.front 3 rfl
    have S207 := S206.front 4 rfl
    have S208 := S207.front 5 rfl
    have S209 := S208.front 6 rfl
    have S210 := S209.keep 5
    exact ⟨(!b201), (some_inj hd203), S210, (((Pin.refl F).mono hF106).mono hF126), ((q_a0.mono hF106).mono hF126), Sub.cons' rfl rfl (Sub.cons' rfl rfl (Sub.cons' rfl rfl (Sub.cons' rfl rfl (Sub.cons' rfl rfl (Sub.cons' rfl rfl (Sub.cons' rfl rfl (Sub.cons' rfl rfl (Sub.nil _))))))))⟩
  ·rintro t' G212 ⟨b188, rfl, S211, hF182, hv184, hsub213⟩
   refine AX.sub hsub213 ?_
   refine AX.cond rfl (fun c214 => ?_) (fun c214 => ?_)
   ·have hd215 := bif_t c214 hd191
    refine AX.seq ?_
    refine AX.region ?_
    refine AO.p rfl (p_assign rfl) ?_
    refine AO.nil ?_
    refine AX.ret ?_
    obtain rfl := some_inj hd215
    have S216 := S211.front 0 rfl
    have S217 := S216.keep 1
    exact ⟨.inr rfl, _, res1 rfl (rv_tmp rfl), F123, rfl, S217, hF182⟩
   ·have hd218 := bif_f c214 hd191
    refine AX.skip ?_
    refine AX.seq ?_
    refine AX.region ?_
    refine AO.p rfl (p_move rfl) ?_
    refine AO.c rfl (s_loadN (vs := ints xs118) Try.isAgg54 Try.sizeOf54 rfl (ints_len l124) (row_cells (S211.get (k := 1) rfl))) ?_
    refine AO.c rfl (s_loadN (vs := ints xs119) Try.isAgg54 Try.sizeOf54 rfl (ints_len l125) (row_cells (S211.get (k := 2) rfl))) ?_
    obtain ⟨⟨xs219, x220⟩, h221, hd222⟩ := bnd_some hd218
    obtain ⟨_, G228, hc227, p223, c224, rfl, S229, B226⟩ := W_impl_TypeOfRounds fu G212 x117 xs118 l124 xs119 l125 xs219 x220 h221
    have S230 := S211.call S229
    refine AO.c rfl (o_call (vs := [.int .i64 x117, .agg (ints xs118).toArray, .agg (ints xs119).toArray]) rfl Try.call38 hc227) ?_
    refine AO.p rfl (p_move rfl) ?_
    refine AO.p rfl (p_extract rfl rfl) ?_
    refine AO.p rfl (p_extract rfl rfl) ?_
    refine AO.p rfl (p_assign rfl) ?_
    refine AO.p rfl (p_assign rfl) ?_
    refine AO.nil ?_
    refine AX.seq ?_
    refine AX.seq ?_
    refine AX.region ?_
    refine AO.p rfl (p_move rfl) ?_
    refine AO.c rfl (s_loadN (vs := ints xs118) Try.isAgg54 Try.sizeOf54 rfl (ints_len l124) (row_cells (S230.get (k := 2) rfl))) ?_
    refine AO.c rfl (s_loadN (vs := ints xs119) Try.isAgg54 Try.sizeOf54 rfl (ints_len l125) (row_cells (S230.get (k := 3) rfl))) ?_
    obtain ⟨⟨xs231, x232⟩, h233, hd234⟩ := bnd_some hd222
    obtain ⟨_, G240, hc239, p235, c236, rfl, S241, B238⟩ := W_spec_TypeOfRounds fu G228 x117 xs118 l124 xs119 l125 xs231 x232 h233
    have S242 := S230.call S241
    refine AO.c rfl (o_call (vs := [.int .i64 x117, .agg (ints xs118).toArray, .agg (ints xs119).toArray]) rfl Try.call39 hc239) ?_
    refine AO.p rfl (p_move rfl) ?_
    refine AO.p rfl (p_extract rfl rfl) ?_
    refine AO.p rfl (p_extract rfl rfl) ?_
    refine AO.p rfl (p_assign rfl) ?_
    refine AO.p rfl (p_assign rfl) ?_
    refine AO.nil ?_
    obtain ⟨r258, hb259, hd260⟩ := bnd_some hd234
    refine AX.cut (fun t' H' => ∃ (b257 : Bool), b257 = r258 ∧ St M0 H H' [F123, [(i132, AObj.row false (ints xs118))], [(i136, AObj.row false (ints xs119))], oseg p149 (tcells T153), tseg T153, oseg p223 (ints xs219)] ∧ Pin F123 F ∧ PV F123 p_a0 c_a0 a0 ∧ Am.Sub [(0, .slice p_a0 a0.length c_a0), (3, .int .i64 x117), (4, .pointer (some ⟨i132, 0, none⟩)), (5, .pointer (some ⟨i136, 0, none⟩)), (6, .int .i64 x120), (7, .slice p149 rs145.length c150), (8, .int .i64 x146), (11, .slice p223 xs219.length c224), (12, .int .i64 x220), (89, .bool b257)] t') ?_ ?_
    ·skip
     refine AX.region ?_
     refine AO.p rfl (p_move rfl) ?_
     refine AO.p rfl (p_move rfl) ?_
     refine AO.p rfl (p_neq rfl rfl) ?_
     refine AO.p rfl (p_move rfl) ?_
     refine AO.cases (d := 84) rfl (fun c261 => ?_) (fun c261 => ?_)
     ·have hd262 := bif_t c261 hb259
      refine AO.gn rfl rfl rfl ?_
      refine AO.gn rfl rfl rfl ?_
      refine AO.gn rfl rfl rfl ?_
      refine AO.gn rfl rfl rfl ?_
      refine AO.p rfl (p_pickT rfl rfl) ?_
      refine AO.nil ?_
      have S263 := S242.front 1 rfl
      have S264 := S263.front 6 rfl
      have S265 := S264.front 6 rfl
      have S266 := S265.front 6 rfl
      have S267 := S266.front 6 rfl
      have S268 := S267.front 6 rfl
      have S269 := S268.keep 6
      exact ⟨true, (some_inj hd262), S269, hF182, hv184, Sub.cons' rfl rfl (Sub.cons' rfl rfl (Sub.cons' rfl rfl (Sub.cons' rfl rfl (Sub.cons' rfl rfl (Sub.cons' rfl rfl (Sub.cons' rfl rfl (Sub.cons' rfl rfl (Sub.cons' rfl rfl (Sub.cons' rfl rfl (Sub.nil _))))))))))⟩
     ·have hd270 := bif_f c261 hb259
      refine AO.gp rfl rfl rfl (p_move rfl) ?_
      refine AO.gp rfl rfl rfl (p_move rfl) ?_
      obtain ⟨b271, h272, hd273⟩ := bnd_some hd270
      refine AO.gc rfl rfl rfl (o_call (vs := [.slice p223 xs219.length c224, .slice p235 xs231.length c236]) rfl Try.call40 (W_laws_likeInts fu G240 p223 c224 xs219 (S242.oview (k := 1) rfl B226 (ints_len1 rfl)) p235 c236 xs231 (S242.oview (k := 0) rfl B238 (ints_len1 rfl)) b271 h272)) ?_
      refine AO.gp rfl rfl rfl (p_not rfl) ?_
      refine AO.p rfl (p_pickF rfl rfl) ?_
      refine AO.nil ?_
      have S275 := S242.front 1 rfl
      have S276 := S275.front 6 rfl
      have S277 := S276.front 6 rfl
      have S278 := S277.front 6 rfl
      have S279 := S278.front 6 rfl
      have S280 := S279.front 6 rfl
      have S281 := S280.keep 6
      exact ⟨(!b271), (some_inj hd273), S281, hF182, hv184, Sub.cons' rfl rfl (Sub.cons' rfl rfl (Sub.cons' rfl rfl (Sub.cons' rfl rfl (Sub.cons' rfl rfl (Sub.cons' rfl rfl (Sub.cons' rfl rfl (Sub.cons' rfl rfl (Sub.cons' rfl rfl (Sub.cons' rfl rfl (Sub.nil _))))))))))⟩
    ·rintro t' G283 ⟨b257, rfl, S282, hF250, hv252, hsub284⟩
     refine AX.sub hsub284 ?_
     refine AX.cond rfl (fun c285 => ?_) (fun c285 => ?_)
     ·have hd286 := bif_t c285 hd260
      refine AX.seq ?_
      refine AX.region ?_
      refine AO.p rfl (p_assign rfl) ?_
      refine AO.nil ?_
      refine AX.ret ?_
      obtain rfl := some_inj hd286
      have S287 := S282.front 0 rfl
      have S288 := S287.keep 1
      exact ⟨.inr rfl, _, res1 rfl (rv_tmp rfl), F123, rfl, S288, hF250⟩
     ·have hd289 := bif_f c285 hd260
      refine AX.skip ?_
      refine AX.seq ?_
      refine AX.region ?_
      refine AO.p rfl (p_move rfl) ?_
      refine AO.c rfl (s_loadN (vs := ints xs118) Try.isAgg54 Try.sizeOf54 rfl (ints_len l124) (row_cells (S282.get (k := 1) rfl))) ?_
      refine AO.c rfl (s_loadN (vs := ints xs119) Try.isAgg54 Try.sizeOf54 rfl (ints_len l125) (row_cells (S282.get (k := 2) rfl))) ?_
      refine AO.p rfl (p_move rfl) ?_
      obtain ⟨⟨xs290, x291⟩, h292, hd293⟩ := bnd_some hd289
      obtain ⟨_, G299, hc298, p294, c295, rfl, S300, B297⟩ := W_impl_ChainFrom fu G283 x117 xs118 l124 xs119 l125 x120 xs290 x291 h292
      have S301 := S282.call S300
      refine AO.c rfl (o_call (vs := [.int .i64 x117, .agg (ints xs118).toArray, .agg (ints xs119).toArray, .int .i64 x120]) rfl Try.call41 hc298) ?_
      refine AO.p rfl (p_move rfl) ?_
      refine AO.p rfl (p_extract rfl rfl) ?_
      refine AO.p rfl (p_extract rfl rfl) ?_
      refine AO.p rfl (p_assign rfl) ?_
      refine AO.p rfl (p_assign rfl) ?_
      refine AO.nil ?_
      refine AX.seq ?_
      refine AX.seq ?_
      refine AX.region ?_
      refine AO.p rfl (p_move rfl) ?_
      refine AO.c rfl (s_loadN (vs := ints xs118) Try.isAgg54 Try.sizeOf54 rfl (ints_len l124) (row_cells (S301.get (k := 2) rfl))) ?_
      refine AO.c rfl (s_loadN (vs := ints xs119) Try.isAgg54 Try.sizeOf54 rfl (ints_len l125) (row_cells (S301.get (k := 3) rfl))) ?_
      refine AO.p rfl (p_move rfl) ?_
      obtain ⟨⟨xs302, x303⟩, h304, hd305⟩ := bnd_some hd293
      obtain ⟨_, G311, hc310, p306, c307, rfl, S312, B309⟩ := W_spec_ChainFrom fu G299 x117 xs118 l124 xs119 l125 x120 xs302 x303 h304
      have S313 := S301.call S312
      refine AO.c rfl (o_call (vs := [.int .i64 x117, .agg (ints xs118).toArray, .agg (ints xs119).toArray, .int .i64 x120]) rfl Try.call42 hc310) ?_
      refine AO.p rfl (p_move rfl) ?_
      refine AO.p rfl (p_extract rfl rfl) ?_
      refine AO.p rfl (p_extract rfl rfl) ?_
      refine AO.p rfl (p_assign rfl) ?_
      refine AO.p rfl (p_assign rfl) ?_
      refine AO.nil ?_
      obtain ⟨r328, hb329, hd330⟩ := bnd_some hd305
      refine AX.cut (fun t' H' => ∃ (b327 : Bool), b327 = r328 ∧ St M0 H H' [F123, oseg p149 (tcells T153), tseg T153, oseg p223 (ints xs219), oseg p294 (ints xs290)] ∧ Pin F123 F ∧ PV F123 p_a0 c_a0 a0 ∧ Am.Sub [(0, .slice p_a0 a0.length c_a0), (3, .int .i64 x117), (6, .int .i64 x120), (7, .slice p149 rs145.length c150), (8, .int .i64 x146), (11, .slice p223 xs219.length c224), (12, .int .i64 x220), (15, .slice p294 xs290.length c295), (16, .int .i64 x291), (114, .bool b327)] t') ?_ ?_
      ·skip
       refine AX.region ?_
       refine AO.p rfl (p_move rfl) ?_
       refine AO.p rfl (p_move rfl) ?_
       refine AO.p rfl (p_neq rfl rfl) ?_
       refine AO.p rfl (p_move rfl) ?_
       refine AO.cases (d := 109) rfl (fun c331 => ?_) (fun c331 => ?_)
       ·have hd332 := bif_t c331 hb329
        refine AO.gn rfl rfl rfl ?_
        refine AO.gn rfl rfl rfl ?_
        refine AO.gn rfl rfl rfl ?_
        refine AO.gn rfl rfl rfl ?_
        refine AO.p rfl (p_pickT rfl rfl) ?_
        refine AO.nil ?_
        have S333 := S313.front 1 rfl
        have S334 := S333.front 7 rfl
        have S335 := S334.front 7 rfl
        have S336 := S335.front 7 rfl
        have S337 := S336.front 5 rfl
        have S338 := S337.keep 5
        exact ⟨true, (some_inj hd332), S338, hF250, hv252, Sub.cons' rfl rfl (Sub.cons' rfl rfl (Sub.cons' rfl rfl (Sub.cons' rfl rfl (Sub.cons' rfl rfl (Sub.cons' rfl rfl (Sub.cons' rfl rfl (Sub.cons' rfl rfl (Sub.cons' rfl rfl (Sub.cons' rfl rfl (Sub.nil _))))))))))⟩
       ·have hd339 := bif_f c331 hb329
        refine AO.gp rfl rfl rfl (p_move rfl) ?_
        refine AO.gp rfl rfl rfl (p_move rfl) ?_
        obtain ⟨b340, h341, hd342⟩ := bnd_some hd339
        refine AO.gc rfl rfl rfl (o_call (vs := [.slice p294 xs290.length c295, .slice p306 xs302.length c307]) rfl Try.call40 (W_laws_likeInts fu G311 p294 c295 xs290 (S313.oview (k := 1) rfl B297 (ints_len1 rfl)) p306 c307 xs302 (S313.oview (k := 0) rfl B309 (ints_len1 rfl)) b340 h341)) ?_
        refine AO.gp rfl rfl rfl (p_not rfl) ?_
        refine AO.p rfl (p_pickF rfl rfl) ?_
        refine AO.nil ?_
        have S344 := S313.front 1 rfl
        have S345 := S344.front 7 rfl
        have S346 := S345.front 7 rfl
        have S347 := S346.front 7 rfl
        have S348 := S347.front 5 rfl
        have S349 := S348.keep 5
        exact ⟨(!b340), (some_inj hd342), S349, hF250, hv252, Sub.cons' rfl rfl (Sub.cons' rfl rfl (Sub.cons' rfl rfl (Sub.cons' rfl rfl (Sub.cons' rfl rfl (Sub.cons' rfl rfl (Sub.cons' rfl rfl (Sub.cons' rfl rfl (Sub.cons' rfl rfl (Sub.cons' rfl rfl (Sub.nil _))))))))))⟩
      ·rintro t' G351 ⟨b327, rfl, S350, hF321, hv323, hsub352⟩
       refine AX.sub hsub352 ?_
       refine AX.cond rfl (fun c353 => ?_) (fun c353 => ?_)
       ·have hd354 := bif_t c353 hd330
        refine AX.seq ?_
        refine AX.region ?_
        refine AO.p rfl (p_assign rfl) ?_
        refine AO.nil ?_
        refine AX.ret ?_
        obtain rfl := some_inj hd354
        have S355 := S350.front 0 rfl
        have S356 := S355.keep 1
        exact ⟨.inr rfl, _, res1 rfl (rv_tmp rfl), F123, rfl, S356, hF321⟩
       ·have hd357 := bif_f c353 hd330
        refine AX.skip ?_
        refine AX.seq ?_
        refine AX.region ?_
        refine AO.p rfl (p_move rfl) ?_
        have S358 := S350.front 0 rfl
        have S359 : St M0 H G351 [F123, oseg p149 (tcells T153), tseg T153, oseg p223 (ints xs219), oseg p294 (ints xs290)] := S358
        obtain ⟨⟨x360, rs361⟩, h362, hd363⟩ := bnd_some hd357
        obtain ⟨_, G370, hc372, p365, c366, F364, rfl, S371, hv367, hF369⟩ := W_spec_DrawIsPerfect fu G351 F123 p_a0 c_a0 a0 hv323 (St.fnodup (A := [F123]) S359) (St.fmem (A := [F123]) S359) x360 rs361 h362
        have S373 := St.callM (A := [F123]) S359 S371 (fun j h => h)
        refine AO.c rfl (o_call (vs := [.slice p_a0 a0.length c_a0]) rfl Try.call43 hc372) ?_
        obtain ⟨G374, i375, hii375, hHG374, S376⟩ := S373.new (AObj.row false ([.int .i64 0, .slice none 0 0]))
        refine AO.c rfl (s_alloc (i := i375) (cs := [.int .i64 0, .slice none 0 0]) Try.zeroValue37 rfl rfl hii375 hHG374) ?_
        obtain ⟨G378, hHG378, S379⟩ := S376.set (k := 0) (i := i375) rfl (AObj.row false ([.int .i64 x360, .slice p365 rs361.length c366]))
        have S380 : St M0 H G378 [[(i375, AObj.row false ([.int .i64 x360, .slice p365 rs361.length c366]))], F364, oseg p149 (tcells T153), tseg T153, oseg p223 (ints xs219), oseg p294 (ints xs290)] := S379
        refine AO.s (s_storeAll (vs := [.int .i64 x360, .slice p365 rs361.length c366]) Try.sizeOf37 rfl rfl (ones_list rfl) (S376.get (k := 0) rfl) rfl rfl hHG378) ?_
        refine AO.nil ?_
        refine AX.seq ?_
        refine AX.region ?_
        refine AO.c rfl (s_loadN (vs := [.int .i64 x360, .slice p365 rs361.length c366]) Try.isAgg37 Try.sizeOf37 rfl rfl (row_cells (S380.get (k := 0) rfl))) ?_
        obtain ⟨⟨b381, x382⟩, h383, hd384⟩ := bnd_some hd363
        refine AO.c rfl (o_call (vs := [.agg [.int .i64 x360, .slice p365 rs361.length c366].toArray]) rfl Try.call44 (W_impl_IsPerfect fu G378 x360 p365 c366 rs361 ((hv367).all) (S380.pwview (k := 1) rfl hv367) ((hv367).hsb.cu) b381 x382 h383)) ?_
        refine AO.p rfl (p_move rfl) ?_
        refine AO.p rfl (p_extract rfl rfl) ?_
        refine AO.p rfl (p_extract rfl rfl) ?_
        refine AO.p rfl (p_assign rfl) ?_
        refine AO.p rfl (p_assign rfl) ?_
        refine AO.nil ?_
        refine AX.seq ?_
        refine AX.seq ?_
        refine AX.region ?_
        refine AO.c rfl (s_loadN (vs := [.int .i64 x360, .slice p365 rs361.length c366]) Try.isAgg37 Try.sizeOf37 rfl rfl (row_cells (S380.get (k := 0) rfl))) ?_
        obtain ⟨⟨b386, x387⟩, h388, hd389⟩ := bnd_some hd384
        refine AO.c rfl (o_call (vs := [.agg [.int .i64 x360, .slice p365 rs361.length c366].toArray]) rfl Try.call45 (W_spec_IsPerfect fu G378 x360 p365 c366 rs361 ((hv367).all) (S380.pwview (k := 1) rfl hv367) b386 x387 h388)) ?_
        refine AO.p rfl (p_move rfl) ?_
        refine AO.p rfl (p_extract rfl rfl) ?_
        refine AO.p rfl (p_extract rfl rfl) ?_
        refine AO.p rfl (p_assign rfl) ?_
        refine AO.p rfl (p_assign rfl) ?_
        refine AO.nil ?_
        refine AX.cut (fun t' H' => G378 = H' ∧ Am.Sub [(3, .int .i64 x117), (6, .int .i64 x120), (7, .slice p149 rs145.length c150), (8, .int .i64 x146), (11, .slice p223 xs219.length c224), (12, .int .i64 x220), (15, .slice p294 xs290.length c295), (16, .int .i64 x291), (19, .pointer (some ⟨i375, 0, none⟩)), (20, .bool b381), (21, .int .i64 x382), (134, .bool ((!decide (x382 = x387)) || (!(b381 == b386))))] t') ?_ ?_
        ·skip
         refine AX.region ?_
         refine AO.p rfl (p_move rfl) ?_
         refine AO.p rfl (p_move rfl) ?_
         refine AO.p rfl (p_neq rfl rfl) ?_
         refine AO.p rfl (p_move rfl) ?_
         refine AO.cases (d := 130) rfl (fun c394 => ?_) (fun c394 => ?_)
         ·skip
          refine AO.gn rfl rfl rfl ?_
          refine AO.gn rfl rfl rfl ?_
          refine AO.gn rfl rfl rfl ?_
          refine AO.p rfl (p_pickT rfl rfl) ?_
          refine AO.nil ?_
          exact ⟨rfl, Sub.cons' rfl rfl (Sub.cons' rfl rfl (Sub.cons' rfl rfl (Sub.cons' rfl rfl (Sub.cons' rfl rfl (Sub.cons' rfl rfl (Sub.cons' rfl rfl (Sub.cons' rfl rfl (Sub.cons' rfl rfl (Sub.cons' rfl rfl (Sub.cons' rfl rfl (Sub.cons' rfl (bool_eq (by simp only [c394, Bool.true_and, Bool.false_and, Bool.and_true, Bool.and_false, Bool.true_or, Bool.false_or, Bool.or_true, Bool.or_false, Bool.not_true, Bool.not_false, cond_true, cond_false])) (Sub.nil _))))))))))))⟩
         ·skip
          refine AO.gp rfl rfl rfl (p_move rfl) ?_
          refine AO.gp rfl rfl rfl (p_move rfl) ?_
          refine AO.gp rfl rfl rfl (p_bneq Try.underlying4 rfl rfl) ?_
          refine AO.p rfl (p_pickF rfl rfl) ?_
          refine AO.nil ?_
          exact ⟨rfl, Sub.cons' rfl rfl (Sub.cons' rfl rfl (Sub.cons' rfl rfl (Sub.cons' rfl rfl (Sub.cons' rfl rfl (Sub.cons' rfl rfl (Sub.cons' rfl rfl (Sub.cons' rfl rfl (Sub.cons' rfl rfl (Sub.cons' rfl rfl (Sub.cons' rfl rfl (Sub.cons' rfl (bool_eq (by simp only [c394, Bool.true_and, Bool.false_and, Bool.and_true, Bool.and_false, Bool.true_or, Bool.false_or, Bool.or_true, Bool.or_false, Bool.not_true, Bool.not_false, cond_true, cond_false])) (Sub.nil _))))))))))))⟩
        ·rintro t' _ ⟨rfl, hsub395⟩
         refine AX.sub hsub395 ?_
         refine AX.cond rfl (fun c396 => ?_) (fun c396 => ?_)
         ·have hd397 := bif_t c396 hd389
          refine AX.seq ?_
          refine AX.region ?_
          refine AO.p rfl (p_assign rfl) ?_
          refine AO.nil ?_
          refine AX.ret ?_
          obtain rfl := some_inj hd397
          have S398 := S380.front 1 rfl
          have S399 := S398.keep 1
          exact ⟨.inr rfl, _, res1 rfl (rv_tmp rfl), F364, rfl, S399, (hF321.mono hF369)⟩
         ·have hd400 := bif_f c396 hd389
          refine AX.skip ?_
          refine AX.seq ?_
          refine AX.region ?_
          refine AO.c rfl (s_loadN (vs := [.int .i64 x360, .slice p365 rs361.length c366]) Try.isAgg37 Try.sizeOf37 rfl rfl (row_cells (S380.get (k := 0) rfl))) ?_
          obtain ⟨⟨rs401, x402⟩, h403, hd404⟩ := bnd_some hd400
          obtain ⟨_, G413, hc412, p405, c406, T409, rfl, S414, B408, t410, s411⟩ := W_impl_TypesOf fu G378 x360 p365 c366 rs361 ((hv367).all) (S380.pwview (k := 1) rfl hv367) ((hv367).hsb.cu) rs401 x402 h403
          have S415 := S380.call S414
          refine AO.c rfl (o_call (vs := [.agg [.int .i64 x360, .slice p365 rs361.length c366].toArray]) rfl Try.call46 hc412) ?_
          refine AO.p rfl (p_move rfl) ?_
          refine AO.p rfl (p_extract rfl rfl) ?_
          refine AO.p rfl (p_extract rfl rfl) ?_
          refine AO.p rfl (p_assign rfl) ?_
          refine AO.p rfl (p_assign rfl) ?_
          refine AO.nil ?_
          refine AX.seq ?_
          refine AX.seq ?_
          refine AX.region ?_
          refine AO.c rfl (s_loadN (vs := [.int .i64 x360, .slice p365 rs361.length c366]) Try.isAgg37 Try.sizeOf37 rfl rfl (row_cells (S415.get (k := 2) rfl))) ?_
          obtain ⟨⟨rs416, x417⟩, h418, hd419⟩ := bnd_some hd404
          obtain ⟨_, G428, hc427, p420, c421, T424, rfl, S429, B423, t425, s426⟩ := W_spec_TypesOf fu G413 x360 p365 c366 rs361 ((hv367).all) (S415.pwview (k := 3) rfl hv367) rs416 x417 h418
          have S430 := S415.call S429
          refine AO.c rfl (o_call (vs := [.agg [.int .i64 x360, .slice p365 rs361.length c366].toArray]) rfl Try.call47 hc427) ?_
          refine AO.p rfl (p_move rfl) ?_
          refine AO.p rfl (p_extract rfl rfl) ?_
          refine AO.p rfl (p_extract rfl rfl) ?_
          refine AO.p rfl (p_assign rfl) ?_
          refine AO.p rfl (p_assign rfl) ?_
          refine AO.nil ?_
          obtain ⟨r447, hb448, hd449⟩ := bnd_some hd419
          refine AX.cut (fun t' H' => ∃ (b446 : Bool), b446 = r447 ∧ St M0 H H' [F364, oseg p149 (tcells T153), tseg T153, oseg p223 (ints xs219), oseg p294 (ints xs290), [(i375, AObj.row false ([.int .i64 x360, .slice p365 rs361.length c366]))], oseg p405 (tcells T409), tseg T409] ∧ Pin F364 F ∧ PW F364 p365 c366 14 rs361 ∧ Am.Sub [(3, .int .i64 x117), (6, .int .i64 x120), (7, .slice p149 rs145.length c150), (8, .int .i64 x146), (11, .slice p223 xs219.length c224), (12, .int .i64 x220), (15, .slice p294 xs290.length c295), (16, .int .i64 x291), (19, .pointer (some ⟨i375, 0, none⟩)), (20, .bool b381), (21, .int .i64 x382), (24, .slice p405 rs401.length c406), (25, .int .i64 x402), (153, .bool b446)] t') ?_ ?_
          ·skip
           refine AX.region ?_
           refine AO.p rfl (p_move rfl) ?_
           refine AO.p rfl (p_move rfl) ?_
           refine AO.p rfl (p_neq rfl rfl) ?_
           refine AO.p rfl (p_move rfl) ?_
           refine AO.cases (d := 148) rfl (fun c450 => ?_) (fun c450 => ?_)
           ·have hd451 := bif_t c450 hb448
            refine AO.gn rfl rfl rfl ?_
            refine AO.gn rfl rfl rfl ?_
            refine AO.gn rfl rfl rfl ?_
            refine AO.gn rfl rfl rfl ?_
            refine AO.p rfl (p_pickT rfl rfl) ?_
            refine AO.nil ?_
            have S452 := S430.front 3 rfl
            have S453 := S452.front 3 rfl
            have S454 := S453.front 4 rfl
            have S455 := S454.front 9 rfl
            have S456 := S455.front 9 rfl
            have S457 := S456.front 9 rfl
            have S458 := S457.front 9 rfl
            have S459 := S458.front 9 rfl
            have S460 := S459.keep 8
            exact ⟨true, (some_inj hd451), S460, (hF321.mono hF369), hv367, Sub.cons' rfl rfl (Sub.cons' rfl rfl (Sub.cons' rfl rfl (Sub.cons' rfl rfl (Sub.cons' rfl rfl (Sub.cons' rfl rfl (Sub.cons' rfl rfl (Sub.cons' rfl rfl (Sub.cons' rfl rfl (Sub.cons' rfl rfl (Sub.cons' rfl rfl (Sub.cons' rfl rfl (Sub.cons' rfl rfl (Sub.cons' rfl rfl (Sub.nil _))))))))))))))⟩
           ·have hd461 := bif_f c450 hb448
            refine AO.gp rfl rfl rfl (p_move rfl) ?_
            refine AO.gp rfl rfl rfl (p_move rfl) ?_
            obtain ⟨b462, h463, hd464⟩ := bnd_some hd461
            refine AO.gc rfl rfl rfl (o_call (vs := [.slice p405 rs401.length c406, .slice p420 rs416.length c421]) rfl Try.call37 (W_laws_rows9 fu G428 p405 c406 T409 rs401 t410 (S430.oview (k := 2) rfl B408 (tc_len1 t410 rfl)) (S430.oviewT (k := 3) rfl s411) p420 c421 T424 rs416 t425 (S430.oview (k := 0) rfl B423 (tc_len1 t425 rfl)) (S430.oviewT (k := 1) rfl s426) b462 h463)) ?_
            refine AO.gp rfl rfl rfl (p_not rfl) ?_
            refine AO.p rfl (p_pickF rfl rfl) ?_
            refine AO.nil ?_
            have S466 := S430.front 3 rfl
            have S467 := S466.front 3 rfl
            have S468 := S467.front 4 rfl
            have S469 := S468.front 9 rfl
            have S470 := S469.front 9 rfl
            have S471 := S470.front 9 rfl
            have S472 := S471.front 9 rfl
            have S473 := S472.front 9 rfl
            have S474 := S473.keep 8
            exact ⟨(!b462), (some_inj hd464), S474, (hF321.mono hF369), hv367, Sub.cons' rfl rfl (Sub.cons' rfl rfl (Sub.cons' rfl rfl (Sub.cons' rfl rfl (Sub.cons' rfl rfl (Sub.cons' rfl rfl (Sub.cons' rfl rfl (Sub.cons' rfl rfl (Sub.cons' rfl rfl (Sub.cons' rfl rfl (Sub.cons' rfl rfl (Sub.cons' rfl rfl (Sub.cons' rfl rfl (Sub.cons' rfl rfl (Sub.nil _))))))))))))))⟩
          ·rintro t' G476 ⟨b446, rfl, S475, hF438, hv444, hsub477⟩
           refine AX.sub hsub477 ?_
           refine AX.cond rfl (fun c478 => ?_) (fun c478 => ?_)
           ·have hd479 := bif_t c478 hd449
            refine AX.seq ?_
            refine AX.region ?_
            refine AO.p rfl (p_assign rfl) ?_
            refine AO.nil ?_
            refine AX.ret ?_
            obtain rfl := some_inj hd479
            have S480 := S475.front 0 rfl
            have S481 := S480.keep 1
            exact ⟨.inr rfl, _, res1 rfl (rv_tmp rfl), F364, rfl, S481, hF438⟩
           ·have hd482 := bif_f c478 hd449
            refine AX.skip ?_
            refine AX.seq ?_
            refine AX.seq ?_
            refine AX.region ?_
            refine AO.p rfl (p_move rfl) ?_
            refine AO.p rfl (p_eql rfl rfl) ?_
            refine AO.nil ?_
            obtain ⟨r862, hb863, hd864⟩ := bnd_some hd482
            refine AX.cutS (fun t' H' => .inl () = r862 ∧ St M0 H H' [F364, oseg p149 (tcells T153), tseg T153, oseg p223 (ints xs219), oseg p294 (ints xs290)] ∧ Pin F364 F ∧ Am.Sub [(3, .int .i64 x117), (6, .int .i64 x120), (7, .slice p149 rs145.length c150), (8, .int .i64 x146), (11, .slice p223 xs219.length c224), (12, .int .i64 x220), (15, .slice p294 xs290.length c295), (16, .int .i64 x291)] t') ?_ ?_
            ·skip
             refine AX.cond rfl (fun c865 => ?_) (fun c865 => ?_)
             ·have hd866 := bif_t c865 hb863
              refine AX.seq ?_
              refine AX.region ?_
              refine AO.p rfl (s_fieldAddr Try.underlying37 rfl Try.sizeOf35 (by decide) rfl rfl) ?_
              refine AO.c rfl (s_load Try.isAgg35 rfl (row_cell (S475.get (k := 5) rfl) rfl)) ?_
              refine AO.p rfl (p_len_slice rfl Try.underlying35) ?_
              refine AO.p rfl (p_assign rfl) ?_
              refine AO.nil ?_
              refine AX.seq ?_
              obtain ⟨r885, hb886, hd887⟩ := bnd_some hd866
              refine AX.cut (fun t' H' => ∃ (b884 : Bool), b884 = r885 ∧ St M0 H H' [F364, oseg p149 (tcells T153), tseg T153, oseg p223 (ints xs219), oseg p294 (ints xs290), [(i375, AObj.row false ([.int .i64 x360, .slice p365 rs361.length c366]))], oseg p405 (tcells T409), tseg T409] ∧ Pin F364 F ∧ PW F364 p365 c366 14 rs361 ∧ Am.Sub [(3, .int .i64 x117), (6, .int .i64 x120), (7, .slice p149 rs145.length c150), (8, .int .i64 x146), (11, .slice p223 xs219.length c224), (12, .int .i64 x220), (15, .slice p294 xs290.length c295), (16, .int .i64 x291), (19, .pointer (some ⟨i375, 0, none⟩)), (20, .bool b381), (24, .slice p405 rs401.length c406), (170, .bool b884)] t') ?_ ?_
              ·skip
               refine AX.region ?_
               refine AO.p rfl (p_move rfl) ?_
               refine AO.p rfl (p_neq rfl rfl) ?_
               refine AO.p rfl (p_move rfl) ?_
               refine AO.cases (d := 161) rfl (fun c888 => ?_) (fun c888 => ?_)
               ·have hd889 := bif_t c888 hb886
                refine AO.gn rfl rfl rfl ?_
                refine AO.gn rfl rfl rfl ?_
                refine AO.gn rfl rfl rfl ?_
                refine AO.gn rfl rfl rfl ?_
                refine AO.gn rfl rfl rfl ?_
                refine AO.gn rfl rfl rfl ?_
                refine AO.gn rfl rfl rfl ?_
                refine AO.gn rfl rfl rfl ?_
                refine AO.p rfl (p_pickT rfl rfl) ?_
                refine AO.nil ?_
                have S890 := S475.front 7 rfl
                have S891 := S890.front 7 rfl
                have S892 := S891.front 7 rfl
                have S893 := S892.front 7 rfl
                have S894 := S893.front 7 rfl
                have S895 := S894.front 7 rfl
                have S896 := S895.front 7 rfl
                have S897 := S896.front 7 rfl
                exact ⟨true, (some_inj hd889), S897, hF438, hv444, Sub.cons' rfl rfl (Sub.cons' rfl rfl (Sub.cons' rfl rfl (Sub.cons' rfl rfl (Sub.cons' rfl rfl (Sub.cons' rfl rfl (Sub.cons' rfl rfl (Sub.cons' rfl rfl (Sub.cons' rfl rfl (Sub.cons' rfl rfl (Sub.cons' rfl rfl (Sub.cons' rfl rfl (Sub.nil _))))))))))))⟩
               ·have hd898 := bif_f c888 hb886
                refine AO.gp rfl rfl rfl (p_move rfl) ?_
                refine AO.gp rfl rfl rfl (p_len_slice rfl Try.underlying43) ?_
                refine AO.gp rfl rfl rfl (p_move rfl) ?_
                refine AO.gp rfl rfl rfl (p_move rfl) ?_
                obtain ⟨k899, hd900⟩ := chk_some hd898
                refine AO.gp rfl rfl rfl (p_subE rfl rfl k899) ?_
                obtain ⟨k901, hd902⟩ := chk_some hd900
                refine AO.gp rfl rfl rfl (p_mulE rfl rfl k901) ?_
                obtain ⟨k903, hd904⟩ := chk_some hd902
                refine AO.gp rfl rfl rfl (p_quoE rfl rfl k903) ?_
                refine AO.gp rfl rfl rfl (p_neq rfl rfl) ?_
                refine AO.p rfl (p_pickF rfl rfl) ?_
                refine AO.nil ?_
                have S905 := S475.front 7 rfl
                have S906 := S905.front 7 rfl
                have S907 := S906.front 7 rfl
                have S908 := S907.front 7 rfl
                have S909 := S908.front 7 rfl
                have S910 := S909.front 7 rfl
                have S911 := S910.front 7 rfl
                have S912 := S911.front 7 rfl
                exact ⟨(!decide (((rs401.length : Nat) : Int) = (((rs361.length : Nat) : Int) * (((rs361.length : Nat) : Int) - 1)).tdiv 2)), (some_inj hd904), S912, hF438, hv444, Sub.cons' rfl rfl (Sub.cons' rfl rfl (Sub.cons' rfl rfl (Sub.cons' rfl rfl (Sub.cons' rfl rfl (Sub.cons' rfl rfl (Sub.cons' rfl rfl (Sub.cons' rfl rfl (Sub.cons' rfl rfl (Sub.cons' rfl rfl (Sub.cons' rfl rfl (Sub.cons' rfl rfl (Sub.nil _))))))))))))⟩
              ·rintro t' G914 ⟨b884, rfl, S913, hF876, hv882, hsub915⟩
               refine AX.sub hsub915 ?_
               refine AX.cond rfl (fun c916 => ?_) (fun c916 => ?_)
               ·have hd917 := bif_t c916 hd887
                refine AX.seq ?_
                refine AX.region ?_
                refine AO.p rfl (p_assign rfl) ?_
                refine AO.nil ?_
                refine AX.ret ?_
                have z918 : _ = r862 := some_inj hd917
                subst z918
                obtain rfl := some_inj hd864
                have S919 := S913.front 0 rfl
                have S920 := S919.keep 1
                exact ⟨.inr rfl, _, res1 rfl (rv_tmp rfl), F364, rfl, S920, hF876⟩
               ·have hd921 := bif_f c916 hd887
                refine AX.skip ?_
                refine AX.seq ?_
                refine AX.region ?_
                refine AO.p rfl (p_assign rfl) ?_
                refine AO.nil ?_
                refine AX.seq ?_
                refine AX.seq ?_
                refine AX.region ?_
                refine AO.p rfl (p_assign rfl) ?_
                refine AO.nil ?_
                obtain ⟨r1137, hl1138, hd1139⟩ := bnd_some hd921
                refine AX.cutS (fun t' H' => ∃ (b1136 : Bool), .inl b1136 = r1137 ∧ St M0 H H' [F364, oseg p149 (tcells T153), tseg T153, oseg p223 (ints xs219), oseg p294 (ints xs290)] ∧ Pin F364 F ∧ Am.Sub [(3, .int .i64 x117), (6, .int .i64 x120), (7, .slice p149 rs145.length c150), (8, .int .i64 x146), (11, .slice p223 xs219.length c224), (12, .int .i64 x220), (15, .slice p294 xs290.length c295), (16, .int .i64 x291), (20, .bool b381), (29, .bool b1136)] t') ?_ ?_
                ·refine AX.block ?_
                 refine AX.loopF (fun s' t' H' => ∃ (b1059 : Bool) (x1060 : Int), (b1059, x1060) = s' ∧ St M0 H H' [F364, oseg p149 (tcells T153), tseg T153, oseg p223 (ints xs219), oseg p294 (ints xs290), [(i375, AObj.row false ([.int .i64 x360, .slice p365 rs361.length c366]))], oseg p405 (tcells T409), tseg T409] ∧ Pin F364 F ∧ PW F364 p365 c366 14 rs361 ∧ Am.Sub [(3, .int .i64 x117), (6, .int .i64 x120), (7, .slice p149 rs145.length c150), (8, .int .i64 x146), (11, .slice p223 xs219.length c224), (12, .int .i64 x220), (15, .slice p294 xs290.length c295), (16, .int .i64 x291), (19, .pointer (some ⟨i375, 0, none⟩)), (20, .bool b381), (24, .slice p405 rs401.length c406), (29, .bool b1059), (30, .int .i64 x1060)] t') hl1138 ?_ ?_
                 ·skip
                  have S1140 := S913.front 7 rfl
                  have S1141 := S1140.front 7 rfl
                  have S1142 := S1141.front 7 rfl
                  have S1143 := S1142.front 7 rfl
                  have S1144 := S1143.front 7 rfl
                  have S1145 := S1144.front 7 rfl
                  have S1146 := S1145.front 7 rfl
                  have S1147 := S1146.front 7 rfl
                  exact ⟨true, 0, rfl, S1147, hF876, hv882, Sub.cons' rfl rfl (Sub.cons' rfl rfl (Sub.cons' rfl rfl (Sub.cons' rfl rfl (Sub.cons' rfl rfl (Sub.cons' rfl rfl (Sub.cons' rfl rfl (Sub.cons' rfl rfl (Sub.cons' rfl rfl (Sub.cons' rfl rfl (Sub.cons' rfl rfl (Sub.cons' rfl rfl (Sub.cons' rfl rfl (Sub.nil _)))))))))))))⟩
                 ·rintro n1148 _ t' G1152 ⟨b1059, x1060, rfl, S1151, hF1051, hv1057, hsub1153⟩ o1154 ho1149 hk1150
                  refine AX.sub hsub1153 ?_
                  unfold D_laws_FnComponents_s0 at ho1149
                  refine AX.seq ?_
                  refine AX.seq ?_
                  refine AX.region ?_
                  refine AO.p rfl (p_move rfl) ?_
                  refine AO.p rfl (p_move rfl) ?_
                  refine AO.p rfl (p_len_slice rfl Try.underlying43) ?_
                  refine AO.p rfl (p_lss rfl rfl) ?_
                  refine AO.nil ?_
                  refine AX.cond rfl (fun c1155 => ?_) (fun c1155 => ?_)
                  ·have hd1156 := bif_t c1155 ho1149
                   refine AX.skip ?_
                   refine AX.seq ?_
                   refine AX.block ?_
                   obtain ⟨r1175, hb1176, hd1177⟩ := bnd_some hd1156
                   refine AX.cut (fun t' H' => ∃ (b1174 : Bool), b1174 = r1175 ∧ St M0 H H' [F364, oseg p149 (tcells T153), tseg T153, oseg p223 (ints xs219), oseg p294 (ints xs290), [(i375, AObj.row false ([.int .i64 x360, .slice p365 rs361.length c366]))], oseg p405 (tcells T409), tseg T409] ∧ Pin F364 F ∧ PW F364 p365 c366 14 rs361 ∧ Am.Sub [(3, .int .i64 x117), (6, .int .i64 x120), (7, .slice p149 rs145.length c150), (8, .int .i64 x146), (11, .slice p223 xs219.length c224), (12, .int .i64 x220), (15, .slice p294 xs290.length c295), (16, .int .i64 x291), (19, .pointer (some ⟨i375, 0, none⟩)), (20, .bool b381), (24, .slice p405 rs401.length c406), (29, .bool b1174), (30, .int .i64 x1060)] t') ?_ ?_
                   ·skip
                    refine AX.region ?_
                    refine AO.p rfl (p_move rfl) ?_
                    refine AO.p rfl (p_move rfl) ?_
                    refine AO.cases (d := 178) rfl (fun c1178 => ?_) (fun c1178 => ?_)
                    ·have hd1179 := bif_t c1178 hb1176
                     refine AO.gp rfl rfl rfl (p_move rfl) ?_
                     refine AO.gp rfl rfl rfl (p_move rfl) ?_
                     obtain ⟨k1180, hd1181⟩ := chk_some hd1179
                     refine AO.gp rfl rfl rfl (s_indexV (q := x1060.toNat) Try.underlying43 Try.sizeOf58 rfl (B408.at (inR_pos k1180)) rfl k1180 (z1 _)) ?_
                     obtain ⟨p1182, c1183, e1184, f1185⟩ := tget t410 (lt_len rfl (inR_lt k1180))
                     refine AO.gc rfl rfl rfl (s_load Try.isAgg58 rfl (row_cell (S1151.oat (k := 6) rfl (B408.at (inR_pos k1180))) f1185)) ?_
                     refine AO.gp rfl rfl rfl (p_len_slice rfl Try.underlying58) ?_
                     refine AO.gp rfl rfl rfl (p_eql rfl rfl) ?_
                     refine AO.p rfl (p_pickT rfl rfl) ?_
                     refine AO.p rfl (p_assign rfl) ?_
                     refine AO.nil ?_
                     have S1186 := S1151.front 7 rfl
                     have S1187 := S1186.front 7 rfl
                     have S1188 := S1187.front 7 rfl
                     have S1189 := S1188.front 7 rfl
                     have S1190 := S1189.front 7 rfl
                     have S1191 := S1190.front 7 rfl
                     have S1192 := S1191.front 7 rfl
                     have S1193 := S1192.front 7 rfl
                     exact ⟨(decide ((((rw_ rs401 x1060.toNat).length : Nat) : Int) = 1)), (some_inj hd1181), S1193, hF1051, hv1057, Sub.cons' rfl rfl (Sub.cons' rfl rfl (Sub.cons' rfl rfl (Sub.cons' rfl rfl (Sub.cons' rfl rfl (Sub.cons' rfl rfl (Sub.cons' rfl rfl (Sub.cons' rfl rfl (Sub.cons' rfl rfl (Sub.cons' rfl rfl (Sub.cons' rfl rfl (Sub.cons' rfl rfl (Sub.cons' rfl rfl (Sub.nil _)))))))))))))⟩
                    ·have hd1194 := bif_f c1178 hb1176
                     refine AO.gn rfl rfl rfl ?_
                     refine AO.gn rfl rfl rfl ?_
                     refine AO.gn rfl rfl rfl ?_
                     refine AO.gn rfl rfl rfl ?_
                     refine AO.gn rfl rfl rfl ?_
                     refine AO.gn rfl rfl rfl ?_
                     refine AO.p rfl (p_pickF rfl rfl) ?_
                     refine AO.p rfl (p_assign rfl) ?_
                     refine AO.nil ?_
                     have S1195 := S1151.front 7 rfl
                     have S1196 := S1195.front 7 rfl
                     have S1197 := S1196.front 7 rfl
                     have S1198 := S1197.front 7 rfl
                     have S1199 := S1198.front 7 rfl
                     have S1200 := S1199.front 7 rfl
                     have S1201 := S1200.front 7 rfl
                     have S1202 := S1201.front 7 rfl
                     exact ⟨false, (some_inj hd1194), S1202, hF1051, hv1057, Sub.cons' rfl rfl (Sub.cons' rfl rfl (Sub.cons' rfl rfl (Sub.cons' rfl rfl (Sub.cons' rfl rfl (Sub.cons' rfl rfl (Sub.cons' rfl rfl (Sub.cons' rfl rfl (Sub.cons' rfl rfl (Sub.cons' rfl rfl (Sub.cons' rfl rfl (Sub.cons' rfl rfl (Sub.cons' rfl rfl (Sub.nil _)))))))))))))⟩
                   ·rintro t' G1204 ⟨b1174, rfl, S1203, hF1166, hv1172, hsub1205⟩
                    refine AX.sub hsub1205 ?_
                    refine AX.seq ?_
                    refine DR.startS [false, false, false, false, true, false, false, false] mix (by kernel_rfl) (fun hst => ?_)
                    refine DR.p rfl rfl (p_move rfl) ?_
                    refine DR.p rfl rfl (p_move rfl) ?_
                    obtain ⟨k1206, hd1207⟩ := chk_some hd1177
                    refine DR.p rfl rfl (s_indexV (q := x1060.toNat) Try.underlying43 Try.sizeOf58 rfl (B408.at (inR_pos k1206)) rfl k1206 (z1 _)) ?_
                    obtain ⟨p1208, c1209, e1210, f1211⟩ := tget t410 (lt_len rfl (inR_lt k1206))
                    refine DR.r rfl rfl (r_load rfl Try.isAgg58) (one_read (row_cell (S1203.oat (k := 6) rfl (B408.at (inR_pos k1206))) f1211) (TVw.at (S1203.oviewT (k := 7) rfl s411) e1210).inn.bel) ?_
                    obtain ⟨x1212, h1213, hd1214⟩ := bnd_some hd1207
                    refine DR.w rfl rfl (o_call (vs := [.slice p1208 ((rw_ rs401 x1060.toNat).length) c1209]) rfl Try.call48 (W_laws_sum fu G1204 p1208 c1209 (rw_ rs401 x1060.toNat) (TVw.at (S1203.oviewT (k := 7) rfl s411) e1210) x1212 h1213)) (Nat.le_refl _) ?_
                    refine DR.p rfl rfl (s_fieldAddr Try.underlying37 rfl Try.sizeOf2 (by decide) rfl rfl) ?_
                    refine DR.r rfl rfl (r_load rfl Try.isAgg2) (one_read (row_cell (S1203.get (k := 5) rfl) rfl) (.of_flat0 rfl)) ?_
                    refine DR.p rfl rfl (p_neq rfl rfl) ?_
                    refine DR.nil 8 [(6, 4)] hst (by kernel_rfl) ⟨(rd1 (fun _ => rfl)), trivial⟩ ?_
                    refine AX.cond rfl (fun c1216 => ?_) (fun c1216 => ?_)
                    ·have hd1217 := bif_t c1216 hd1214
                     refine AX.seq ?_
                     refine AX.region ?_
                     refine AO.p rfl (p_assign rfl) ?_
                     refine AO.nil ?_
                     refine AX.ret ?_
                     obtain rfl := some_inj hd1217
                     have z1218 : _ = r1137 := hk1150
                     subst z1218
                     have z1219 : _ = r862 := some_inj hd1139
                     subst z1219
                     obtain rfl := some_inj hd864
                     have S1220 := S1203.front 0 rfl
                     have S1221 := S1220.keep 1
                     exact ⟨.inr rfl, _, res1 rfl (rv_tmp rfl), F364, rfl, S1221, hF1166⟩
                    ·have hd1222 := bif_f c1216 hd1214
                     refine AX.skip ?_
                     refine AX.region ?_
                     refine AO.p rfl (p_move rfl) ?_
                     obtain ⟨k1223, hd1224⟩ := chk_some hd1222
                     refine AO.p rfl (p_addE rfl rfl k1223) ?_
                     refine AO.p rfl (p_assign rfl) ?_
                     refine AO.nil ?_
                     obtain rfl := some_inj hd1224
                     have S1226 := S1203.front 7 rfl
                     have S1227 := S1226.front 7 rfl
                     have S1228 := S1227.front 7 rfl
                     have S1229 := S1228.front 7 rfl
                     have S1230 := S1229.front 7 rfl
                     have S1231 := S1230.front 7 rfl
                     have S1232 := S1231.front 7 rfl
                     have S1233 := S1232.front 7 rfl
                     exact ⟨(b1174, x1060 + 1), hk1150, b1174, (x1060 + 1), rfl, S1233, hF1166, hv1172, Sub.cons' rfl rfl (Sub.cons' rfl rfl (Sub.cons' rfl rfl (Sub.cons' rfl rfl (Sub.cons' rfl rfl (Sub.cons' rfl rfl (Sub.cons' rfl rfl (Sub.cons' rfl rfl (Sub.cons' rfl rfl (Sub.cons' rfl rfl (Sub.cons' rfl rfl (Sub.cons' rfl rfl (Sub.cons' rfl rfl (Sub.nil _)))))))))))))⟩
                  ·have hd1234 := bif_f c1155 ho1149
                   refine AX.exit ?_
                   obtain rfl := some_inj hd1234
                   have S1235 := S1151.front 4 rfl
                   have S1236 := S1235.front 4 rfl
                   have S1237 := S1236.front 4 rfl
                   have S1238 := S1237.front 4 rfl
                   have S1239 := S1238.front 4 rfl
                   have S1240 := S1239.keep 5
                   exact ⟨b1059, hk1150, S1240, hF1051, Sub.cons' rfl rfl (Sub.cons' rfl rfl (Sub.cons' rfl rfl (Sub.cons' rfl rfl (Sub.cons' rfl rfl (Sub.cons' rfl rfl (Sub.cons' rfl rfl (Sub.cons' rfl rfl (Sub.cons' rfl rfl (Sub.cons' rfl rfl (Sub.nil _))))))))))⟩
                ·rintro t' G1242 ⟨b1136, rfl, S1241, hF1132, hsub1243⟩
                 refine ⟨_, hsub1243, ?_⟩
                 refine AX.seq ?_
                 refine AX.region ?_
                 refine AO.p rfl (p_move rfl) ?_
                 refine AO.p rfl (p_move rfl) ?_
                 refine AO.p rfl (p_bneq Try.underlying4 rfl rfl) ?_
                 refine AO.nil ?_
                 refine AX.cond rfl (fun c1244 => ?_) (fun c1244 => ?_)
                 ·have hd1245 := bif_t c1244 hd1139
                  refine AX.seq ?_
                  refine AX.region ?_
                  refine AO.p rfl (p_assign rfl) ?_
                  refine AO.nil ?_
                  refine AX.ret ?_
                  have z1246 : _ = r862 := some_inj hd1245
                  subst z1246
                  obtain rfl := some_inj hd864
                  have S1247 := S1241.front 0 rfl
                  have S1248 := S1247.keep 1
                  exact ⟨.inr rfl, _, res1 rfl (rv_tmp rfl), F364, rfl, S1248, hF1132⟩
                 ·have hd1249 := bif_f c1244 hd1139
                  refine AX.skip ?_
                  have S1250 := S1241.front 4 rfl
                  have S1251 := S1250.front 4 rfl
                  have S1252 := S1251.front 4 rfl
                  have S1253 := S1252.front 4 rfl
                  have S1254 := S1253.front 4 rfl
                  exact ⟨(some_inj hd1249), S1254, hF1132, Sub.cons' rfl rfl (Sub.cons' rfl rfl (Sub.cons' rfl rfl (Sub.cons' rfl rfl (Sub.cons' rfl rfl (Sub.cons' rfl rfl (Sub.cons' rfl rfl (Sub.cons' rfl rfl (Sub.nil _))))))))⟩
             ·have hd1256 := bif_f c865 hb863
              refine AX.skip ?_
              have S1257 := S475.front 4 rfl
              have S1258 := S1257.front 4 rfl
              have S1259 := S1258.front 4 rfl
              have S1260 := S1259.front 4 rfl
              have S1261 := S1260.front 4 rfl
              have S1262 := S1261.keep 5
              exact ⟨(some_inj hd1256), S1262, hF438, Sub.cons' rfl rfl (Sub.cons' rfl rfl (Sub.cons' rfl rfl (Sub.cons' rfl rfl (Sub.cons' rfl rfl (Sub.cons' rfl rfl (Sub.cons' rfl rfl (Sub.cons' rfl rfl (Sub.nil _))))))))⟩
            ·rintro t' G1264 ⟨rfl, S1263, hF858, hsub1265⟩
             refine ⟨_, hsub1265, ?_⟩
             refine AX.seq ?_
             refine AX.seq ?_
             refine AX.region ?_
             refine AO.p rfl (p_move rfl) ?_
             refine AO.p rfl (p_neq rfl rfl) ?_
             refine AO.nil ?_
             refine AX.cond rfl (fun c1266 => ?_) (fun c1266 => ?_)
             ·have hd1267 := bif_t c1266 hd864
              refine AX.cut (fun t' H' => G1264 = H' ∧ Am.Sub [(2, .bool ((decide (((rs145.length : Nat) : Int) = 0)) && (decide (x220 = x146))))] t') ?_ ?_
              ·skip
               refine AX.region ?_
               refine AO.p rfl (p_move rfl) ?_
               refine AO.p rfl (p_len_slice rfl Try.underlying43) ?_
               refine AO.p rfl (p_eql rfl rfl) ?_
               refine AO.p rfl (p_move rfl) ?_
               refine AO.cases (d := 202) rfl (fun c1271 => ?_) (fun c1271 => ?_)
               ·skip
                refine AO.gp rfl rfl rfl (p_move rfl) ?_
                refine AO.gp rfl rfl rfl (p_move rfl) ?_
                refine AO.gp rfl rfl rfl (p_eql rfl rfl) ?_
                refine AO.p rfl (p_pickT rfl rfl) ?_
                refine AO.p rfl (p_assign rfl) ?_
                refine AO.nil ?_
                exact ⟨rfl, Sub.cons' rfl (bool_eq (by simp only [c1271, Bool.true_and, Bool.false_and, Bool.and_true, Bool.and_false, Bool.true_or, Bool.false_or, Bool.or_true, Bool.or_false, Bool.not_true, Bool.not_false, cond_true, cond_false])) (Sub.nil _)⟩
               ·skip
                refine AO.gn rfl rfl rfl ?_
                refine AO.gn rfl rfl rfl ?_
                refine AO.gn rfl rfl rfl ?_
                refine AO.p rfl (p_pickF rfl rfl) ?_
                refine AO.p rfl (p_assign rfl) ?_
                refine AO.nil ?_
                exact ⟨rfl, Sub.cons' rfl (bool_eq (by simp only [c1271, Bool.true_and, Bool.false_and, Bool.and_true, Bool.and_false, Bool.true_or, Bool.false_or, Bool.or_true, Bool.or_false, Bool.not_true, Bool.not_false, cond_true, cond_false])) (Sub.nil _)⟩
              ·rintro t' _ ⟨rfl, hsub1272⟩
               refine AX.sub hsub1272 ?_
               refine AX.ret ?_
               obtain rfl := some_inj hd1267
               have S1273 := S1263.front 0 rfl
               have S1274 := S1273.keep 1
               exact ⟨.inr rfl, _, res1 rfl (rv_tmp rfl), F364, rfl, S1274, hF858⟩
             ·have hd1275 := bif_f c1266 hd864
              refine AX.skip ?_
              refine AX.seq ?_
              refine AX.region ?_
              refine AO.p rfl (p_assign rfl) ?_
              refine AO.nil ?_
              refine AX.seq ?_
              refine AX.seq ?_
              refine AX.region ?_
              refine AO.p rfl (p_assign rfl) ?_
              refine AO.nil ?_
              obtain ⟨r1345, hl1346, hd1347⟩ := bnd_some hd1275
              refine AX.cutS (fun t' H' => ∃ (x1344 : Int), x1344 = r1345 ∧ St M0 H H' [F364, oseg p149 (tcells T153), tseg T153, oseg p223 (ints xs219), oseg p294 (ints xs290)] ∧ Pin F364 F ∧ Am.Sub [(3, .int .i64 x117), (6, .int .i64 x120), (7, .slice p149 rs145.length c150), (11, .slice p223 xs219.length c224), (12, .int .i64 x220), (15, .slice p294 xs290.length c295), (16, .int .i64 x291), (31, .int .i64 x1344)] t') ?_ ?_
              ·refine AX.block ?_
               refine AX.loopF (fun s' t' H' => ∃ (x1322 : Int) (x1323 : Int), (x1322, x1323) = s' ∧ St M0 H H' [F364, oseg p149 (tcells T153), tseg T153, oseg p223 (ints xs219), oseg p294 (ints xs290)] ∧ Pin F364 F ∧ Am.Sub [(3, .int .i64 x117), (6, .int .i64 x120), (7, .slice p149 rs145.length c150), (11, .slice p223 xs219.length c224), (12, .int .i64 x220), (15, .slice p294 xs290.length c295), (16, .int .i64 x291), (31, .int .i64 x1322), (32, .int .i64 x1323)] t') hl1346 ?_ ?_
               ·skip
                have S1348 := S1263.front 4 rfl
                have S1349 := S1348.front 4 rfl
                have S1350 := S1349.front 4 rfl
                have S1351 := S1350.front 4 rfl
                have S1352 := S1351.front 4 rfl
                exact ⟨0, 0, rfl, S1352, hF858, Sub.cons' rfl rfl (Sub.cons' rfl rfl (Sub.cons' rfl rfl (Sub.cons' rfl rfl (Sub.cons' rfl rfl (Sub.cons' rfl rfl (Sub.cons' rfl rfl (Sub.cons' rfl rfl (Sub.cons' rfl rfl (Sub.nil _)))))))))⟩
               ·rintro n1353 _ t' G1357 ⟨x1322, x1323, rfl, S1356, hF1318, hsub1358⟩ o1359 ho1354 hk1355
                refine AX.sub hsub1358 ?_
                unfold D_laws_FnComponents_s1 at ho1354
                refine AX.seq ?_
                refine AX.seq ?_
                refine AX.region ?_
                refine AO.p rfl (p_move rfl) ?_
                refine AO.p rfl (p_move rfl) ?_
                refine AO.p rfl (p_len_slice rfl Try.underlying43) ?_
                refine AO.p rfl (p_lss rfl rfl) ?_
                refine AO.nil ?_
                refine AX.cond rfl (fun c1360 => ?_) (fun c1360 => ?_)
                ·have hd1361 := bif_t c1360 ho1354
                 refine AX.skip ?_
                 refine AX.seq ?_
                 refine AX.block ?_
                 refine AX.region ?_
                 refine AO.p rfl (p_move rfl) ?_
                 refine AO.p rfl (p_move rfl) ?_
                 refine AO.p rfl (p_move rfl) ?_
                 obtain ⟨k1362, hd1363⟩ := chk_some hd1361
                 refine AO.p rfl (s_indexV (q := x1323.toNat) Try.underlying43 Try.sizeOf58 rfl (B152.at (inR_pos k1362)) rfl k1362 (z1 _)) ?_
                 obtain ⟨p1364, c1365, e1366, f1367⟩ := tget t154 (lt_len rfl (inR_lt k1362))
                 refine AO.c rfl (s_load Try.isAgg58 rfl (row_cell (S1356.oat (k := 1) rfl (B152.at (inR_pos k1362))) f1367)) ?_
                 refine AO.p rfl (p_len_slice rfl Try.underlying58) ?_
                 obtain ⟨k1368, hd1369⟩ := chk_some hd1363
                 refine AO.p rfl (p_addE rfl rfl k1368) ?_
                 refine AO.p rfl (p_assign rfl) ?_
                 refine AO.nil ?_
                 refine AX.region ?_
                 refine AO.p rfl (p_move rfl) ?_
                 obtain ⟨k1370, hd1371⟩ := chk_some hd1369
                 refine AO.p rfl (p_addE rfl rfl k1370) ?_
                 refine AO.p rfl (p_assign rfl) ?_
                 refine AO.nil ?_
                 obtain rfl := some_inj hd1371
                 have S1373 := S1356.front 4 rfl
                 have S1374 := S1373.front 4 rfl
                 have S1375 := S1374.front 4 rfl
                 have S1376 := S1375.front 4 rfl
                 have S1377 := S1376.front 4 rfl
                 exact ⟨(x1322 + (((rw_ rs145 x1323.toNat).length : Nat) : Int), x1323 + 1), hk1355, (x1322 + (((rw_ rs145 x1323.toNat).length : Nat) : Int)), (x1323 + 1), rfl, S1377, hF1318, Sub.cons' rfl rfl (Sub.cons' rfl rfl (Sub.cons' rfl rfl (Sub.cons' rfl rfl (Sub.cons' rfl rfl (Sub.cons' rfl rfl (Sub.cons' rfl rfl (Sub.cons' rfl rfl (Sub.cons' rfl rfl (Sub.nil _)))))))))⟩
                ·have hd1378 := bif_f c1360 ho1354
                 refine AX.exit ?_
                 obtain rfl := some_inj hd1378
                 have S1379 := S1356.front 4 rfl
                 have S1380 := S1379.front 4 rfl
                 have S1381 := S1380.front 4 rfl
                 have S1382 := S1381.front 4 rfl
                 have S1383 := S1382.front 4 rfl
                 exact ⟨x1322, hk1355, S1383, hF1318, Sub.cons' rfl rfl (Sub.cons' rfl rfl (Sub.cons' rfl rfl (Sub.cons' rfl rfl (Sub.cons' rfl rfl (Sub.cons' rfl rfl (Sub.cons' rfl rfl (Sub.cons' rfl rfl (Sub.nil _))))))))⟩
              ·rintro t' G1385 ⟨x1344, rfl, S1384, hF1340, hsub1386⟩
               refine ⟨_, hsub1386, ?_⟩
               refine AX.seq ?_
               obtain ⟨r1404, hb1405, hd1406⟩ := bnd_some hd1347
               refine AX.cut (fun t' H' => ∃ (b1403 : Bool), b1403 = r1404 ∧ St M0 H H' [F364, oseg p149 (tcells T153), tseg T153, oseg p294 (ints xs290)] ∧ Pin F364 F ∧ Am.Sub [(6, .int .i64 x120), (7, .slice p149 rs145.length c150), (15, .slice p294 xs290.length c295), (16, .int .i64 x291), (239, .bool b1403)] t') ?_ ?_
               ·skip
                refine AX.region ?_
                refine AO.p rfl (p_move rfl) ?_
                refine AO.p rfl (p_move rfl) ?_
                refine AO.p rfl (p_neq rfl rfl) ?_
                refine AO.p rfl (p_move rfl) ?_
                refine AO.cases (d := 223) rfl (fun c1407 => ?_) (fun c1407 => ?_)
                ·have hd1408 := bif_t c1407 hb1405
                 refine AO.gn rfl rfl rfl ?_
                 refine AO.gn rfl rfl rfl ?_
                 refine AO.p rfl (p_pickT rfl rfl) ?_
                 refine AO.p rfl (p_move rfl) ?_
                 refine AO.gn rfl rfl rfl ?_
                 refine AO.gn rfl rfl rfl ?_
                 refine AO.gn rfl rfl rfl ?_
                 refine AO.gn rfl rfl rfl ?_
                 refine AO.gn rfl rfl rfl ?_
                 refine AO.p rfl (p_pickT rfl rfl) ?_
                 refine AO.p rfl (p_move rfl) ?_
                 refine AO.gn rfl rfl rfl ?_
                 refine AO.gn rfl rfl rfl ?_
                 refine AO.gn rfl rfl rfl ?_
                 refine AO.gn rfl rfl rfl ?_
                 refine AO.p rfl (p_pickT rfl rfl) ?_
                 refine AO.nil ?_
                 have S1409 := S1384.front 4 rfl
                 have S1410 := S1409.front 3 rfl
                 have S1411 := S1410.front 3 rfl
                 have S1412 := S1411.front 3 rfl
                 have S1413 := S1412.keep 4
                 exact ⟨true, (some_inj hd1408), S1413, hF1340, Sub.cons' rfl rfl (Sub.cons' rfl rfl (Sub.cons' rfl rfl (Sub.cons' rfl rfl (Sub.cons' rfl rfl (Sub.nil _)))))⟩
                ·have hd1414 := bif_f c1407 hb1405
                 refine AO.gp rfl rfl rfl (p_move rfl) ?_
                 refine AO.gp rfl rfl rfl (p_neq rfl rfl) ?_
                 refine AO.p rfl (p_pickF rfl rfl) ?_
                 refine AO.p rfl (p_move rfl) ?_
                 refine AO.cases (d := 227) rfl (fun c1415 => ?_) (fun c1415 => ?_)
                 ·have hd1416 := bif_t c1415 hd1414
                  refine AO.gn rfl rfl rfl ?_
                  refine AO.gn rfl rfl rfl ?_
                  refine AO.gn rfl rfl rfl ?_
                  refine AO.gn rfl rfl rfl ?_
                  refine AO.gn rfl rfl rfl ?_
                  refine AO.p rfl (p_pickT rfl rfl) ?_
                  refine AO.p rfl (p_move rfl) ?_
                  refine AO.gn rfl rfl rfl ?_
                  refine AO.gn rfl rfl rfl ?_
                  refine AO.gn rfl rfl rfl ?_
                  refine AO.gn rfl rfl rfl ?_
                  refine AO.p rfl (p_pickT rfl rfl) ?_
                  refine AO.nil ?_
                  have S1417 := S1384.front 4 rfl
                  have S1418 := S1417.front 3 rfl
                  have S1419 := S1418.front 3 rfl
                  have S1420 := S1419.front 3 rfl
                  have S1421 := S1420.keep 4
                  exact ⟨true, (some_inj hd1416), S1421, hF1340, Sub.cons' rfl rfl (Sub.cons' rfl rfl (Sub.cons' rfl rfl (Sub.cons' rfl rfl (Sub.cons' rfl rfl (Sub.nil _)))))⟩
                 ·have hd1422 := bif_f c1415 hd1414
                  refine AO.gp rfl rfl rfl (p_move rfl) ?_
                  refine AO.gp rfl rfl rfl (p_len_slice rfl Try.underlying58) ?_
                  refine AO.gp rfl rfl rfl (p_move rfl) ?_
                  refine AO.gp rfl rfl rfl (p_len_slice rfl Try.underlying43) ?_
                  refine AO.gp rfl rfl rfl (p_neq rfl rfl) ?_
                  refine AO.p rfl (p_pickF rfl rfl) ?_
                  refine AO.p rfl (p_move rfl) ?_
                  refine AO.cases (d := 234) rfl (fun c1423 => ?_) (fun c1423 => ?_)
                  ·have hd1424 := bif_t c1423 hd1422
                   refine AO.gn rfl rfl rfl ?_
                   refine AO.gn rfl rfl rfl ?_
                   refine AO.gn rfl rfl rfl ?_
                   refine AO.gn rfl rfl rfl ?_
                   refine AO.p rfl (p_pickT rfl rfl) ?_
                   refine AO.nil ?_
                   have S1425 := S1384.front 4 rfl
                   have S1426 := S1425.front 3 rfl
                   have S1427 := S1426.front 3 rfl
                   have S1428 := S1427.front 3 rfl
                   have S1429 := S1428.keep 4
                   exact ⟨true, (some_inj hd1424), S1429, hF1340, Sub.cons' rfl rfl (Sub.cons' rfl rfl (Sub.cons' rfl rfl (Sub.cons' rfl rfl (Sub.cons' rfl rfl (Sub.nil _)))))⟩
                  ·have hd1430 := bif_f c1423 hd1422
                   refine AO.gp rfl rfl rfl (p_move rfl) ?_
                   obtain ⟨x1431, h1432, hd1433⟩ := bnd_some hd1430
                   refine AO.gc rfl rfl rfl (o_call (vs := [.slice p223 xs219.length c224]) rfl Try.call48 (W_laws_sum fu G1385 p223 c224 xs219 (S1384.oview (k := 3) rfl B226 (ints_len1 rfl)) x1431 h1432)) ?_
                   refine AO.gp rfl rfl rfl (p_move rfl) ?_
                   refine AO.gp rfl rfl rfl (p_neq rfl rfl) ?_
                   refine AO.p rfl (p_pickF rfl rfl) ?_
                   refine AO.nil ?_
                   have S1435 := S1384.front 4 rfl
                   have S1436 := S1435.front 3 rfl
                   have S1437 := S1436.front 3 rfl
                   have S1438 := S1437.front 3 rfl
                   have S1439 := S1438.keep 4
                   exact ⟨(!decide (x1431 = x117)), (some_inj hd1433), S1439, hF1340, Sub.cons' rfl rfl (Sub.cons' rfl rfl (Sub.cons' rfl rfl (Sub.cons' rfl rfl (Sub.cons' rfl rfl (Sub.nil _)))))⟩
               ·rintro t' G1441 ⟨b1403, rfl, S1440, hF1400, hsub1442⟩
                refine AX.sub hsub1442 ?_
                refine AX.cond rfl (fun c1443 => ?_) (fun c1443 => ?_)
                ·have hd1444 := bif_t c1443 hd1406
                 refine AX.seq ?_
                 refine AX.region ?_
                 refine AO.p rfl (p_assign rfl) ?_
                 refine AO.nil ?_
                 refine AX.ret ?_
                 obtain rfl := some_inj hd1444
                 have S1445 := S1440.front 0 rfl
                 have S1446 := S1445.keep 1
                 exact ⟨.inr rfl, _, res1 rfl (rv_tmp rfl), F364, rfl, S1446, hF1400⟩
                ·have hd1447 := bif_f c1443 hd1406
                 refine AX.skip ?_
                 refine AX.seq ?_
                 refine AX.seq ?_
                 refine AX.region ?_
                 refine AO.p rfl (p_move rfl) ?_
                 refine AO.p rfl (p_neq rfl rfl) ?_
                 refine AO.nil ?_
                 refine AX.cond rfl (fun c1448 => ?_) (fun c1448 => ?_)
                 ·have hd1449 := bif_t c1448 hd1447
                  refine AX.seq ?_
                  refine AX.region ?_
                  refine AO.p rfl (p_move rfl) ?_
                  refine AO.p rfl (p_len_slice rfl Try.underlying58) ?_
                  refine AO.p rfl (p_eql rfl rfl) ?_
                  refine AO.p rfl (p_assign rfl) ?_
                  refine AO.nil ?_
                  refine AX.ret ?_
                  obtain rfl := some_inj hd1449
                  have S1450 := S1440.front 0 rfl
                  have S1451 := S1450.keep 1
                  exact ⟨.inr rfl, _, res1 rfl (rv_tmp rfl), F364, rfl, S1451, hF1400⟩
                 ·have hd1452 := bif_f c1448 hd1447
                  refine AX.skip ?_
                  refine AX.seq ?_
                  obtain ⟨r1462, hb1463, hd1464⟩ := bnd_some hd1452
                  refine AX.cut (fun t' H' => ∃ (b1461 : Bool), b1461 = r1462 ∧ St M0 H H' [F364, oseg p149 (tcells T153), tseg T153, oseg p294 (ints xs290)] ∧ Pin F364 F ∧ Am.Sub [(6, .int .i64 x120), (7, .slice p149 rs145.length c150), (15, .slice p294 xs290.length c295), (254, .bool b1461)] t') ?_ ?_
                  ·skip
                   refine AX.region ?_
                   refine AO.p rfl (p_move rfl) ?_
                   refine AO.p rfl (p_len_slice rfl Try.underlying58) ?_
                   refine AO.p rfl (p_lss rfl rfl) ?_
                   refine AO.p rfl (p_move rfl) ?_
                   refine AO.cases (d := 248) rfl (fun c1465 => ?_) (fun c1465 => ?_)
                   ·have hd1466 := bif_t c1465 hb1463
                    refine AO.gn rfl rfl rfl ?_
                    refine AO.gn rfl rfl rfl ?_
                    refine AO.gn rfl rfl rfl ?_
                    refine AO.gn rfl rfl rfl ?_
                    refine AO.gn rfl rfl rfl ?_
                    refine AO.p rfl (p_pickT rfl rfl) ?_
                    refine AO.nil ?_
                    have S1467 := S1440.front 3 rfl
                    have S1468 := S1467.front 3 rfl
                    have S1469 := S1468.front 3 rfl
                    have S1470 := S1469.front 3 rfl
                    exact ⟨true, (some_inj hd1466), S1470, hF1400, Sub.cons' rfl rfl (Sub.cons' rfl rfl (Sub.cons' rfl rfl (Sub.cons' rfl rfl (Sub.nil _))))⟩
                   ·have hd1471 := bif_f c1465 hb1463
                    refine AO.gp rfl rfl rfl (p_move rfl) ?_
                    obtain ⟨k1472, hd1473⟩ := chk_some hd1471
                    refine AO.gp rfl rfl rfl (s_indexV (q := 0) Try.underlying58 Try.sizeOf2 rfl (B297.at (inR_pos k1472)) rfl k1472 rfl) ?_
                    refine AO.gc rfl rfl rfl (s_load Try.isAgg2 rfl (row_cell (S1440.oat (k := 3) rfl (B297.at (inR_pos k1472))) (ints_get (lt_len rfl (inR_lt k1472))))) ?_
                    refine AO.gp rfl rfl rfl (p_move rfl) ?_
                    refine AO.gp rfl rfl rfl (p_neq rfl rfl) ?_
                    refine AO.p rfl (p_pickF rfl rfl) ?_
                    refine AO.nil ?_
                    have S1474 := S1440.front 3 rfl
                    have S1475 := S1474.front 3 rfl
                    have S1476 := S1475.front 3 rfl
                    have S1477 := S1476.front 3 rfl
                    exact ⟨(!decide (rd xs290 0 = x120)), (some_inj hd1473), S1477, hF1400, Sub.cons' rfl rfl (Sub.cons' rfl rfl (Sub.cons' rfl rfl (Sub.cons' rfl rfl (Sub.nil _))))⟩
                  ·rintro t' G1479 ⟨b1461, rfl, S1478, hF1458, hsub1480⟩
                   refine AX.sub hsub1480 ?_
                   refine AX.cond rfl (fun c1481 => ?_) (fun c1481 => ?_)
                   ·have hd1482 := bif_t c1481 hd1464
                    refine AX.seq ?_
                    refine AX.region ?_
                    refine AO.p rfl (p_assign rfl) ?_
                    refine AO.nil ?_
                    refine AX.ret ?_
                    obtain rfl := some_inj hd1482
                    have S1483 := S1478.front 0 rfl
                    have S1484 := S1483.keep 1
                    exact ⟨.inr rfl, _, res1 rfl (rv_tmp rfl), F364, rfl, S1484, hF1458⟩
                   ·have hd1485 := bif_f c1481 hd1464
                    refine AX.skip ?_
                    refine AX.seq ?_
                    refine AX.seq ?_
                    refine AX.region ?_
                    refine AO.p rfl (p_assign rfl) ?_
                    refine AO.nil ?_
                    obtain ⟨r1960, hl1961, hd1962⟩ := bnd_some hd1485
                    refine AX.cutS (fun t' H' => .inl () = r1960 ∧ St M0 H H' [F364] ∧ Pin F364 F ∧ Am.Sub [] t') ?_ ?_
                    ·refine AX.block ?_
                     refine AX.loopF (fun s' t' H' => ∃ (x1804 : Int), x1804 = s' ∧ St M0 H H' [F364, oseg p149 (tcells T153), tseg T153, oseg p294 (ints xs290)] ∧ Pin F364 F ∧ Am.Sub [(6, .int .i64 x120), (7, .slice p149 rs145.length c150), (15, .slice p294 xs290.length c295), (33, .int .i64 x1804)] t') hl1961 ?_ ?_
                     ·skip
                      have S1963 := S1478.front 3 rfl
                      have S1964 := S1963.front 3 rfl
                      have S1965 := S1964.front 3 rfl
                      have S1966 := S1965.front 3 rfl
                      exact ⟨0, rfl, S1966, hF1458, Sub.cons' rfl rfl (Sub.cons' rfl rfl (Sub.cons' rfl rfl (Sub.cons' rfl rfl (Sub.nil _))))⟩
                     ·rintro n1967 _ t' G1971 ⟨x1804, rfl, S1970, hF1801, hsub1972⟩ o1973 ho1968 hk1969
                      refine AX.sub hsub1972 ?_
                      unfold D_laws_FnComponents_s2 at ho1968
                      refine AX.seq ?_
                      refine AX.seq ?_
                      refine AX.region ?_
                      refine AO.p rfl (p_move rfl) ?_
                      refine AO.p rfl (p_move rfl) ?_
                      refine AO.p rfl (p_len_slice rfl Try.underlying43) ?_
                      refine AO.p rfl (p_lss rfl rfl) ?_
                      refine AO.nil ?_
                      refine AX.cond rfl (fun c1974 => ?_) (fun c1974 => ?_)
                      ·have hd1975 := bif_t c1974 ho1968
                       refine AX.skip ?_
                       refine AX.seq ?_
                       refine AX.block ?_
                       refine AX.seq ?_
                       refine AX.seq ?_
                       refine AX.region ?_
                       refine AO.p rfl (p_move rfl) ?_
                       refine AO.p rfl (p_move rfl) ?_
                       obtain ⟨k1976, hd1977⟩ := chk_some hd1975
                       refine AO.p rfl (s_indexV (q := x1804.toNat) Try.underlying43 Try.sizeOf58 rfl (B152.at (inR_pos k1976)) rfl k1976 (z1 _)) ?_
                       obtain ⟨p1978, c1979, e1980, f1981⟩ := tget t154 (lt_len rfl (inR_lt k1976))
                       refine AO.c rfl (s_load Try.isAgg58 rfl (row_cell (S1970.oat (k := 1) rfl (B152.at (inR_pos k1976))) f1981)) ?_
                       refine AO.p rfl (p_move rfl) ?_
                       obtain ⟨b1982, h1983, hd1984⟩ := bnd_some hd1977
                       refine AO.c rfl (o_call (vs := [.slice p1978 ((rw_ rs145 x1804.toNat).length) c1979, .int .i64 x120]) rfl Try.call49 (W_laws_hasInt fu G1971 p1978 c1979 (rw_ rs145 x1804.toNat) (TVw.at (S1970.oviewT (k := 2) rfl s155) e1980) x120 b1982 h1983)) ?_
                       refine AO.p rfl (p_not rfl) ?_
                       refine AO.nil ?_
                       refine AX.cond rfl (fun c1986 => ?_) (fun c1986 => ?_)
                       ·have hd1987 := bif_t c1986 hd1984
                        refine AX.exit ?_
                        refine AX.region ?_
                        refine AO.p rfl (p_move rfl) ?_
                        obtain ⟨k1988, hd1989⟩ := chk_some hd1987
                        refine AO.p rfl (p_addE rfl rfl k1988) ?_
                        refine AO.p rfl (p_assign rfl) ?_
                        refine AO.nil ?_
                        obtain rfl := some_inj hd1989
                        have S1991 := S1970.front 3 rfl
                        have S1992 := S1991.front 3 rfl
                        have S1993 := S1992.front 3 rfl
                        have S1994 := S1993.front 3 rfl
                        exact ⟨x1804 + 1, hk1969, (x1804 + 1), rfl, S1994, hF1801, Sub.cons' rfl rfl (Sub.cons' rfl rfl (Sub.cons' rfl rfl (Sub.cons' rfl rfl (Sub.nil _))))⟩
                       ·have hd1995 := bif_f c1986 hd1984
                        refine AX.skip ?_
                        refine AX.seq ?_
                        refine AX.region ?_
                        refine AO.p rfl (p_assign rfl) ?_
                        refine AO.nil ?_
                        obtain ⟨r2082, hl2083, hd2084⟩ := bnd_some hd1995
                        refine AX.cutS (fun t' H' => .inl () = r2082 ∧ St M0 H H' [F364, oseg p149 (tcells T153), tseg T153, oseg p294 (ints xs290)] ∧ Pin F364 F ∧ Am.Sub [(6, .int .i64 x120), (7, .slice p149 rs145.length c150), (15, .slice p294 xs290.length c295), (33, .int .i64 x1804)] t') ?_ ?_
                        ·refine AX.block ?_
                         refine AX.loopF (fun s' t' H' => ∃ (x2054 : Int), x2054 = s' ∧ St M0 H H' [F364, oseg p149 (tcells T153), tseg T153, oseg p294 (ints xs290)] ∧ Pin F364 F ∧ Am.Sub [(6, .int .i64 x120), (7, .slice p149 rs145.length c150), (15, .slice p294 xs290.length c295), (33, .int .i64 x1804), (34, .int .i64 x2054)] t') hl2083 ?_ ?_
                         ·skip
                          have S2085 := S1970.front 3 rfl
                          have S2086 := S2085.front 3 rfl
                          have S2087 := S2086.front 3 rfl
                          have S2088 := S2087.front 3 rfl
                          exact ⟨0, rfl, S2088, hF1801, Sub.cons' rfl rfl (Sub.cons' rfl rfl (Sub.cons' rfl rfl (Sub.cons' rfl rfl (Sub.cons' rfl rfl (Sub.nil _)))))⟩
                         ·rintro n2089 _ t' G2093 ⟨x2054, rfl, S2092, hF2051, hsub2094⟩ o2095 ho2090 hk2091
                          refine AX.sub hsub2094 ?_
                          unfold D_laws_FnComponents_s3 at ho2090
                          refine AX.seq ?_
                          refine AX.seq ?_
                          refine AX.region ?_
                          refine AO.p rfl (p_move rfl) ?_
                          refine AO.p rfl (p_move rfl) ?_
                          refine AO.p rfl (p_len_slice rfl Try.underlying58) ?_
                          refine AO.p rfl (p_lss rfl rfl) ?_
                          refine AO.nil ?_
                          refine AX.cond rfl (fun c2096 => ?_) (fun c2096 => ?_)
                          ·have hd2097 := bif_t c2096 ho2090
                           refine AX.skip ?_
                           refine AX.seq ?_
                           refine AX.block ?_
                           refine AX.seq ?_
                           refine DR.startS [false, false, false, false, false, false, false, false, true, false] mix (by kernel_rfl) (fun hst => ?_)
                           refine DR.p rfl rfl (p_move rfl) ?_
                           refine DR.p rfl rfl (p_move rfl) ?_
                           obtain ⟨k2098, hd2099⟩ := chk_some hd2097
                           refine DR.p rfl rfl (s_indexV (q := x1804.toNat) Try.underlying43 Try.sizeOf58 rfl (B152.at (inR_pos k2098)) rfl k2098 (z1 _)) ?_
                           obtain ⟨p2100, c2101, e2102, f2103⟩ := tget t154 (lt_len rfl (inR_lt k2098))
                           refine DR.r rfl rfl (r_load rfl Try.isAgg58) (one_read (row_cell (S2092.oat (k := 1) rfl (B152.at (inR_pos k2098))) f2103) (TVw.at (S2092.oviewT (k := 2) rfl s155) e2102).inn.bel) ?_
                           refine DR.p rfl rfl (p_move rfl) ?_
                           refine DR.p rfl rfl (p_move rfl) ?_
                           obtain ⟨k2104, hd2105⟩ := chk_some hd2099
                           refine DR.p rfl rfl (s_indexV (q := x2054.toNat) Try.underlying58 Try.sizeOf2 rfl (B297.at (inR_pos k2104)) rfl k2104 (z1 _)) ?_
                           refine DR.r rfl rfl (r_load rfl Try.isAgg2) (one_read (row_cell (S2092.oat (k := 3) rfl (B297.at (inR_pos k2104))) (ints_get (lt_len rfl (inR_lt k2104)))) (.of_flat0 rfl)) ?_
                           obtain ⟨b2106, h2107, hd2108⟩ := bnd_some hd2105
                           refine DR.w rfl rfl (o_call (vs := [.slice p2100 ((rw_ rs145 x1804.toNat).length) c2101, .int .i64 (rd xs290 x2054.toNat)]) rfl Try.call49 (W_laws_hasInt fu G2093 p2100 c2101 (rw_ rs145 x1804.toNat) (TVw.at (S2092.oviewT (k := 2) rfl s155) e2102) (rd xs290 x2054.toNat) b2106 h2107)) (Nat.le_refl _) ?_
                           refine DR.p rfl rfl (p_not rfl) ?_
                           refine DR.nil 10 [] hst (by kernel_rfl) trivial ?_
                           refine AX.cond rfl (fun c2110 => ?_) (fun c2110 => ?_)
                           ·have hd2111 := bif_t c2110 hd2108
                            refine AX.seq ?_
                            refine AX.region ?_
                            refine AO.p rfl (p_assign rfl) ?_
                            refine AO.nil ?_
                            refine AX.ret ?_
                            obtain rfl := some_inj hd2111
                            have z2112 : _ = r2082 := hk2091
                            subst z2112
                            obtain rfl := some_inj hd2084
                            have z2113 : _ = r1960 := hk1969
                            subst z2113
                            obtain rfl := some_inj hd1962
                            have S2114 := S2092.front 0 rfl
                            have S2115 := S2114.keep 1
                            exact ⟨.inr rfl, _, res1 rfl (rv_tmp rfl), F364, rfl, S2115, hF2051⟩
                           ·have hd2116 := bif_f c2110 hd2108
                            refine AX.skip ?_
                            refine AX.region ?_
                            refine AO.p rfl (p_move rfl) ?_
                            obtain ⟨k2117, hd2118⟩ := chk_some hd2116
                            refine AO.p rfl (p_addE rfl rfl k2117) ?_
                            refine AO.p rfl (p_assign rfl) ?_
                            refine AO.nil ?_
                            obtain rfl := some_inj hd2118
                            have S2120 := S2092.front 3 rfl
                            have S2121 := S2120.front 3 rfl
                            have S2122 := S2121.front 3 rfl
                            have S2123 := S2122.front 3 rfl
                            exact ⟨x2054 + 1, hk2091, (x2054 + 1), rfl, S2123, hF2051, Sub.cons' rfl rfl (Sub.cons' rfl rfl (Sub.cons' rfl rfl (Sub.cons' rfl rfl (Sub.cons' rfl rfl (Sub.nil _)))))⟩
                          ·have hd2124 := bif_f c2096 ho2090
                           refine AX.exit ?_
                           obtain rfl := some_inj hd2124
                           have S2125 := S2092.front 3 rfl
                           have S2126 := S2125.front 3 rfl
                           have S2127 := S2126.front 3 rfl
                           have S2128 := S2127.front 3 rfl
                           exact ⟨hk2091, S2128, hF2051, Sub.cons' rfl rfl (Sub.cons' rfl rfl (Sub.cons' rfl rfl (Sub.cons' rfl rfl (Sub.nil _))))⟩
                        ·rintro t' G2130 ⟨rfl, S2129, hF2079, hsub2131⟩
                         refine ⟨_, hsub2131, ?_⟩
                         refine AX.region ?_
                         refine AO.p rfl (p_move rfl) ?_
                         obtain ⟨k2132, hd2133⟩ := chk_some hd2084
                         refine AO.p rfl (p_addE rfl rfl k2132) ?_
                         refine AO.p rfl (p_assign rfl) ?_
                         refine AO.nil ?_
                         obtain rfl := some_inj hd2133
                         have S2135 := S2129.front 3 rfl
                         have S2136 := S2135.front 3 rfl
                         have S2137 := S2136.front 3 rfl
                         have S2138 := S2137.front 3 rfl
                         exact ⟨x1804 + 1, hk1969, (x1804 + 1), rfl, S2138, hF2079, Sub.cons' rfl rfl (Sub.cons' rfl rfl (Sub.cons' rfl rfl (Sub.cons' rfl rfl (Sub.nil _))))⟩
                      ·have hd2140 := bif_f c1974 ho1968
                       refine AX.exit ?_
                       obtain rfl := some_inj hd2140
                       have S2141 := S1970.front 0 rfl
                       have S2142 := S2141.keep 1
                       exact ⟨hk1969, S2142, hF1801, Sub.nil _⟩
                    ·rintro t' G2144 ⟨rfl, S2143, hF1959, hsub2145⟩
                     refine ⟨_, hsub2145, ?_⟩
                     refine AX.seq ?_
                     refine AX.region ?_
                     refine AO.p rfl (p_assign rfl) ?_
                     refine AO.nil ?_
                     refine AX.ret ?_
                     obtain rfl := some_inj hd1962
                     have S2146 := S2143.front 0 rfl
                     exact ⟨.inr rfl, _, res1 rfl (rv_tmp rfl), F364, rfl, S2146, hF1959⟩

end Go.Proofs.Ytdafmafigcljkaa
