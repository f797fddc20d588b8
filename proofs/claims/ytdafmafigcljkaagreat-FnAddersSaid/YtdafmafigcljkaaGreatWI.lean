
/-
 The program computes that, printed by a program. No condition.
-/
import Derived.Test.YtdafmafigcljkaaGreatDI
import Derived.Test.YtdafmafigcljkaaGreatWB
import Derived.Test.YtdafmafigcljkaaGreatWAx
import Derived.Test.YtdafmafigcljkaaGreatProg
import Derived.KernelRfl
namespace Go.Proofs.YtdafmafigcljkaaGreat
open Go Go.RowKit Am Go.Proofs.Tryz
set_option linter.unusedVariables false
set_option linter.unusedSimpArgs false
set_option maxRecDepth 20000
set_option maxHeartbeats 4000000 in
theorem W_impl_firstAdder : ∀ (fu : Nat) (H : AHeap) (a0 : Int) (p_a1 : Option Addr) (c_a1 : Nat) (T_a1 : Tb) (a1 : List (List Int)) (t_a1 : trows T_a1 = a1) (v_a1 : Vw H p_a1 a1.length c_a1 (tcells T_a1)) (w_a1 : TVw H T_a1) (p_a2 : Option Addr) (c_a2 : Nat) (a2 : List Int) (v_a2 : Vw H p_a2 a2.length c_a2 (ints a2)) (e_a2 : c_a2 ≠ capE) (r0 : List Int) (hd : D_impl_firstAdder fu a0 a1 a2 = some r0), ∃ v G', ACall Tryz.prog 34 [.int .i64 a0, .slice p_a1 a1.length c_a1, .slice p_a2 a2.length c_a2] H v G' ∧ ∃ (p_r0 : Option Addr) (c_r0 : Nat), (v = .slice p_r0 r0.length c_r0) ∧ ((St [] H G' [oseg p_r0 (ints r0)] ∧ Sb p_r0 r0.length c_r0 1) ∨ (p_r0 = p_a2 ∧ c_r0 = c_a2 ∧ r0 = a2 ∧ St [] H G' [])) ∧ (r0 = [] → p_r0 = none) := by
 intro fu
 induction fu with
 | zero => intros; rename_i hd; cases hd
 | succ fu ih =>
 intro H a0 p_a1 c_a1 T_a1 a1 t_a1 v_a1 w_a1 p_a2 c_a2 a2 v_a2 e_a2 r0 hd
 refine ACall.bodyX (args := [.int .i64 a0, .slice p_a1 a1.length c_a1, .slice p_a2 a2.length c_a2]) (N := 37) [(0, .int .i64 a0), (1, .slice p_a1 a1.length c_a1), (2, .slice p_a2 a2.length c_a2)] (fun v G' => ∃ (p_r0 : Option Addr) (c_r0 : Nat), (v = .slice p_r0 r0.length c_r0) ∧ ((St [] H G' [oseg p_r0 (ints r0)] ∧ Sb p_r0 r0.length c_r0 1) ∨ (p_r0 = p_a2 ∧ c_r0 = c_a2 ∧ r0 = a2 ∧ St [] H G' [])) ∧ (r0 = [] → p_r0 = none)) Tryz.func34 rfl rfl rfl rfl ?_
 unfold D_impl_firstAdder at hd
 have S0 : St [] H H [] := St.nil H
 refine AX.sr (AO.a rfl rfl (AO.nil (AX.seq (AX.sr (AO.m rfl rfl (AO.p rfl (p_len_slice rfl underlying27) (AO.m rfl rfl (AO.p rfl (p_len_slice rfl underlying24) (AO.p rfl (p_eql rfl rfl) (AO.nil (AX.cond rfl (fun b0 => ?_) (fun b0 => ?_))))))))))))
 ·have c5 := bif_t b0 hd
  refine AX.sr (AO.m rfl rfl (AO.a rfl rfl (AO.nil (AX.ret ?_))))
  obtain ⟨c6, c7⟩ := chk_some c5
  obtain rfl := some_inj c7
  exact ⟨.inr rfl, _, res1 rfl (rv_tmp rfl), p_a2, c_a2, rfl, .inr ⟨rfl, rfl, rfl, S0.keep 0⟩, (nil_pos c6)⟩
 ·have c8 := bif_f b0 hd
  refine AX.skip (AX.seq (AX.sr (AO.a rfl rfl (AO.nil ?_))))
  obtain ⟨b8, c9, b9⟩ := bnd_some c8
  refine AX.cutS (fun t' H' => .inl () = b8 ∧ St [] H H' [] ∧ Am.Sub [] t') ?_ ?_
  ·refine AX.block (AX.loopF (fun s' t' H' => ∃ (a3 : Int), a3 = s' ∧ St [] H H' [] ∧ Am.Sub [(0, .int .i64 a0), (1, .slice p_a1 a1.length c_a1), (2, .slice p_a2 a2.length c_a2), (7, .int .i64 a3)] t') c9 ?_ ?_)
   ·skip
    exact ⟨1, rfl, S0, Sub.k4 rfl rfl rfl rfl (Sub.nil _)⟩
   ·rintro h6 _ t' d0 ⟨a3, rfl, b1, d1⟩ h7 b2 a8
    refine AX.sub d1 ?_
    unfold D_impl_firstAdder_s0 at b2
    refine AX.seq (AX.sr (AO.m rfl rfl (AO.m rfl rfl (AO.p rfl (p_lss rfl rfl) (AO.nil (AX.cond rfl (fun b3 => ?_) (fun b3 => ?_)))))))
    ·have d2 := bif_t b3 b2
     refine AX.skip (AX.seq (AX.block (AX.sr (AO.m rfl rfl ?_))))
     obtain ⟨a4, d3, d4⟩ := bnd_some d2
     obtain ⟨_, h8, d5, h9, i0, rfl, d6, c0⟩ := W_slices_Clone_Sint64_int64 fu d0 p_a2 c_a2 a2 (b1.view v_a2) e_a2 a4 d3
     have d7 := b1.call d6
     refine AO.c rfl (o_call (vs := [.slice p_a2 a2.length c_a2]) rfl Tryz.call70 d5) (AO.m rfl rfl ?_)
     obtain ⟨i1, d8, d9, e0, b4⟩ := d7.new (AObj.row false (ints [a3]))
     refine AO.c rfl (s_buildInts (i := d8) (vs := [(0, .int .i64 a3)]) (xs := [a3]) underlying27 sizeOf2 zeroValue2 rfl rfl (by decide) rfl rfl d9 e0) ?_
     obtain ⟨e1, e2⟩ := chk_some d4
     obtain ⟨a6, a7, c1, e3, e4, e5⟩ := b4.app (k := 1) rfl c0 (ints [a3]) 1 (ints_len1 rfl)
     have e6 := e4.cellsEq (k := 1) (us' := ints (a4 ++ [a3])) (ints_app _ _) rfl
     have a9 : Sb a6 ((a4 ++ [a3]).length) a7 1 := (show a4.length + 1 = (a4 ++ [a3]).length from len_app (a := a4) (b := [a3]) rfl rfl) ▸ e5
     have a5 := e6.drop 0 rfl
     refine AO.c rfl (s_app (by_ := 8) (us := ints a4) (vs := ints [a3]) underlying27 underlying27 typeInfo2 sizeOf2 zeroValue2 rfl rfl rfl rfl rfl rfl rfl (b4.buf (k := 1) rfl c0 (ints_len1 rfl)) (b4.oview (k := 0) rfl (Sb.lit (n := 1) (by decide)) (ints_len1 rfl)) (ints_len1 rfl) ints_one e1 e3 (show a4.length + 1 = (a4 ++ [a3]).length from len_app (a := a4) (b := [a3]) rfl rfl)) (AO.a rfl rfl (AO.nil (AX.sr (AO.m rfl rfl (AO.m rfl rfl (AO.m rfl rfl ?_))))))
     obtain ⟨e7, e8, c2⟩ := bnd_some e2
     refine AO.c rfl (o_call (vs := [.int .i64 a0, .slice p_a1 a1.length c_a1, .slice a6 ((a4 ++ [a3]).length) a7]) rfl Tryz.call40 (W_impl_isAdder fu c1 a0 p_a1 c_a1 T_a1 a1 t_a1 (a5.view v_a1) (a5.tview w_a1) a6 a7 (a4 ++ [a3]) (a5.oview (k := 0) rfl a9 (ints_len1 rfl)) e7 e8)) (AO.nil (AX.cond rfl (fun b5 => ?_) (fun b5 => ?_)))
     ·have e9 := bif_t b5 c2
      refine AX.sr (AO.m rfl rfl (AO.m rfl rfl (AO.m rfl rfl ?_)))
      have f0 := a5.front 0 rfl
      obtain ⟨f1, f2, c3⟩ := bnd_some e9
      obtain ⟨_, i2, f3, f4, f5, rfl, f6, f7⟩ := ih c1 a0 p_a1 c_a1 T_a1 a1 t_a1 (a5.view v_a1) (a5.tview w_a1) a6 a7 (a4 ++ [a3]) (a5.oview (k := 0) rfl a9 (ints_len1 rfl)) (a9.ne rfl) f1 f2
      obtain ⟨c4, b6⟩ := St.callG f0 a9 f6
      refine AO.c rfl (o_call (vs := [.int .i64 a0, .slice p_a1 a1.length c_a1, .slice a6 ((a4 ++ [a3]).length) a7]) rfl Tryz.call34 f3) (AO.a rfl rfl (AO.nil (AX.sr (AO.m rfl rfl (AO.p rfl (p_neqNilB underlying27 rfl (b6.ne rfl) (Sb.isNone b6 f7)) (AO.nil (AX.cond rfl (fun b7 => ?_) (fun b7 => ?_))))))))
      ·have f8 := bif_t b7 c3
       refine AX.sr (AO.m rfl rfl (AO.a rfl rfl (AO.nil (AX.ret ?_))))
       obtain ⟨f9, g0⟩ := chk_some f8
       obtain rfl := some_inj g0
       have g1 : _ = b8 := a8
       subst g1
       obtain rfl := some_inj b9
       have g2 := c4.front 0 rfl
       exact ⟨.inr rfl, _, res1 rfl (rv_tmp rfl), f4, f5, rfl, .inl ⟨g2, b6⟩, (nil_pos f9)⟩
      ·have g3 := bif_f b7 c3
       refine AX.skip (AX.region (AO.m rfl rfl ?_))
       obtain ⟨g4, g5⟩ := chk_some g3
       refine AO.p rfl (p_addE rfl rfl g4) (AO.a rfl rfl (AO.nil ?_))
       obtain rfl := some_inj g5
       have g6 := c4.keep 0
       exact ⟨a3 + 1, a8, (a3 + 1), rfl, g6, Sub.k4 rfl rfl rfl rfl (Sub.nil _)⟩
     ·have g7 := bif_f b5 c2
      refine AX.skip (AX.region (AO.m rfl rfl ?_))
      obtain ⟨g8, g9⟩ := chk_some g7
      refine AO.p rfl (p_addE rfl rfl g8) (AO.a rfl rfl (AO.nil ?_))
      obtain rfl := some_inj g9
      have h0 := a5.keep 0
      exact ⟨a3 + 1, a8, (a3 + 1), rfl, h0, Sub.k4 rfl rfl rfl rfl (Sub.nil _)⟩
    ·have h1 := bif_f b3 b2
     refine AX.exit ?_
     obtain rfl := some_inj h1
     exact ⟨a8, b1, Sub.nil _⟩
  ·rintro t' h2 ⟨rfl, h3, h4⟩
   refine ⟨_, h4, ?_⟩
   refine AX.sr (AO.a rfl rfl (AO.nil (AX.ret ?_)))
   obtain rfl := some_inj b9
   have h5 : St [] H h2 (oseg none (ints []) :: _) := h3.nilseg 0
   exact ⟨.inr rfl, _, res1 rfl (rv_tmp rfl), none, 0, rfl, .inl ⟨h5, Sb.nil⟩, (fun _ => rfl)⟩
set_option maxHeartbeats 4000000 in
theorem W_spec_l03FindAdder : ∀ (fu : Nat) (H : AHeap) (a0 : Int) (p_a1 : Option Addr) (c_a1 : Nat) (T_a1 : Tb) (a1 : List (List Int)) (t_a1 : trows T_a1 = a1) (v_a1 : Vw H p_a1 a1.length c_a1 (tcells T_a1)) (w_a1 : TVw H T_a1) (p_a2 : Option Addr) (c_a2 : Nat) (a2 : List Int) (v_a2 : Vw H p_a2 a2.length c_a2 (ints a2)) (r0 : List Int) (r1 : Bool) (hd : D_spec_l03FindAdder fu a0 a1 a2 = some (r0, r1)), ∃ v G', ACall Tryz.prog 35 [.int .i64 a0, .slice p_a1 a1.length c_a1, .slice p_a2 a2.length c_a2] H v G' ∧ ∃ (p_r0 : Option Addr) (c_r0 : Nat), (v = .tuple #[.slice p_r0 r0.length c_r0, .bool r1]) ∧ ((St [] H G' [oseg p_r0 (ints r0)] ∧ Sb p_r0 r0.length c_r0 1) ∨ (p_r0 = p_a2 ∧ c_r0 = c_a2 ∧ r0 = a2 ∧ St [] H G' [])) := by
 intro fu
 induction fu with
 | zero => intros; rename_i hd; cases hd
 | succ fu ih =>
 intro H a0 p_a1 c_a1 T_a1 a1 t_a1 v_a1 w_a1 p_a2 c_a2 a2 v_a2 r0 r1 hd
 refine ACall.bodyX (args := [.int .i64 a0, .slice p_a1 a1.length c_a1, .slice p_a2 a2.length c_a2]) (N := 42) [(0, .int .i64 a0), (1, .slice p_a1 a1.length c_a1), (2, .slice p_a2 a2.length c_a2)] (fun v G' => ∃ (p_r0 : Option Addr) (c_r0 : Nat), (v = .tuple #[.slice p_r0 r0.length c_r0, .bool r1]) ∧ ((St [] H G' [oseg p_r0 (ints r0)] ∧ Sb p_r0 r0.length c_r0 1) ∨ (p_r0 = p_a2 ∧ c_r0 = c_a2 ∧ r0 = a2 ∧ St [] H G' []))) Tryz.func35 rfl rfl rfl rfl ?_
 unfold D_spec_l03FindAdder at hd
 have S0 : St [] H H [] := St.nil H
 refine AX.sr (AO.a rfl rfl (AO.a rfl rfl (AO.nil (AX.seq (AX.sr (AO.m rfl rfl (AO.p rfl (p_len_slice rfl underlying27) (AO.m rfl rfl (AO.p rfl (p_len_slice rfl underlying24) (AO.p rfl (p_eql rfl rfl) (AO.nil ?_)))))))))))
 refine AX.cond rfl (fun a9 => ?_) (fun a9 => ?_)
 ·have c4 := bif_t a9 hd
  refine AX.sr (AO.m rfl rfl (AO.a rfl rfl (AO.a rfl rfl (AO.nil (AX.ret ?_)))))
  obtain ⟨rfl, rfl⟩ := Prod.mk.inj (some_inj c4)
  exact ⟨.inr rfl, _, res2 rfl (rv_tmp rfl) (rv_tmp rfl), p_a2, c_a2, rfl, .inr ⟨rfl, rfl, rfl, S0.keep 0⟩⟩
 ·have c5 := bif_f a9 hd
  refine AX.skip (AX.seq (AX.sr (AO.a rfl rfl (AO.nil ?_))))
  obtain ⟨b7, c6, b8⟩ := bnd_some c5
  refine AX.cutS (fun t' H' => .inl () = b7 ∧ St [] H H' [] ∧ Am.Sub [] t') ?_ ?_
  ·refine AX.block (AX.loopF (fun s' t' H' => ∃ (a3 : Int), a3 = s' ∧ St [] H H' [] ∧ Am.Sub [(0, .int .i64 a0), (1, .slice p_a1 a1.length c_a1), (2, .slice p_a2 a2.length c_a2), (8, .int .i64 a3)] t') c6 ?_ ?_)
   ·skip
    exact ⟨1, rfl, S0, Sub.k4 rfl rfl rfl rfl (Sub.nil _)⟩
   ·rintro h2 _ t' c7 ⟨a3, rfl, b0, c8⟩ h3 b1 a8
    refine AX.sub c8 ?_
    unfold D_spec_l03FindAdder_s0 at b1
    refine AX.seq (AX.sr (AO.m rfl rfl (AO.m rfl rfl (AO.p rfl (p_lss rfl rfl) (AO.nil (AX.cond rfl (fun b2 => ?_) (fun b2 => ?_)))))))
    ·have c9 := bif_t b2 b1
     refine AX.skip (AX.seq (AX.block (AX.sr (AO.m rfl rfl ?_))))
     obtain ⟨a4, d0, d1⟩ := bnd_some c9
     obtain ⟨_, h4, d2, h5, h6, rfl, d3, b9⟩ := W_spec_l01Own fu c7 p_a2 c_a2 a2 (b0.view v_a2) a4 d0
     have d4 := b0.call d3
     refine AO.c rfl (o_call (vs := [.slice p_a2 a2.length c_a2]) rfl Tryz.call54 d2) (AO.m rfl rfl ?_)
     obtain ⟨h7, d5, d6, d7, b3⟩ := d4.new (AObj.row false (ints [a3]))
     refine AO.c rfl (s_buildInts (i := d5) (vs := [(0, .int .i64 a3)]) (xs := [a3]) underlying27 sizeOf2 zeroValue2 rfl rfl (by decide) rfl rfl d6 d7) ?_
     obtain ⟨d8, d9⟩ := chk_some d1
     obtain ⟨a6, a7, c0, e0, e1, e2⟩ := b3.app (k := 1) rfl b9 (ints [a3]) 1 (ints_len1 rfl)
     have e3 := e1.cellsEq (k := 1) (us' := ints (a4 ++ [a3])) (ints_app _ _) rfl
     have b4 : Sb a6 ((a4 ++ [a3]).length) a7 1 := (show a4.length + 1 = (a4 ++ [a3]).length from len_app (a := a4) (b := [a3]) rfl rfl) ▸ e2
     have a5 := e3.drop 0 rfl
     refine AO.c rfl (s_app (by_ := 8) (us := ints a4) (vs := ints [a3]) underlying27 underlying27 typeInfo2 sizeOf2 zeroValue2 rfl rfl rfl rfl rfl rfl rfl (b3.buf (k := 1) rfl b9 (ints_len1 rfl)) (b3.oview (k := 0) rfl (Sb.lit (n := 1) (by decide)) (ints_len1 rfl)) (ints_len1 rfl) ints_one d8 e0 (show a4.length + 1 = (a4 ++ [a3]).length from len_app (a := a4) (b := [a3]) rfl rfl)) (AO.a rfl rfl (AO.nil (AX.seq (AX.sr (AO.m rfl rfl (AO.m rfl rfl (AO.m rfl rfl ?_)))))))
     obtain ⟨e4, e5, c1⟩ := bnd_some d9
     refine AO.c rfl (o_call (vs := [.int .i64 a0, .slice p_a1 a1.length c_a1, .slice a6 ((a4 ++ [a3]).length) a7]) rfl Tryz.call57 (W_spec_l03Adder fu c0 a0 p_a1 c_a1 T_a1 a1 t_a1 (a5.view v_a1) (a5.tview w_a1) a6 a7 (a4 ++ [a3]) (a5.oview (k := 0) rfl b4 (ints_len1 rfl)) e4 e5)) (AO.p rfl (p_not rfl) (AO.nil (AX.cond rfl (fun b5 => ?_) (fun b5 => ?_))))
     ·have e6 := bif_t b5 c1
      refine AX.exit (AX.region (AO.m rfl rfl ?_))
      obtain ⟨e7, e8⟩ := chk_some e6
      refine AO.p rfl (p_addE rfl rfl e7) (AO.a rfl rfl (AO.nil ?_))
      obtain rfl := some_inj e8
      have e9 := a5.keep 0
      exact ⟨a3 + 1, a8, (a3 + 1), rfl, e9, Sub.k4 rfl rfl rfl rfl (Sub.nil _)⟩
     ·have f0 := bif_f b5 c1
      refine AX.skip (AX.sr (AO.m rfl rfl (AO.m rfl rfl (AO.m rfl rfl ?_))))
      have f1 := a5.front 0 rfl
      obtain ⟨⟨f2, f3⟩, f4, c2⟩ := bnd_some f0
      obtain ⟨_, h8, f5, f6, f7, rfl, f8⟩ := ih c0 a0 p_a1 c_a1 T_a1 a1 t_a1 (a5.view v_a1) (a5.tview w_a1) a6 a7 (a4 ++ [a3]) (a5.oview (k := 0) rfl b4 (ints_len1 rfl)) f2 f3 f4
      obtain ⟨c3, f9⟩ := St.callG f1 b4 f8
      refine AO.c rfl (o_call (vs := [.int .i64 a0, .slice p_a1 a1.length c_a1, .slice a6 ((a4 ++ [a3]).length) a7]) rfl Tryz.call35 f5) (AO.m rfl rfl (AO.p rfl (p_extract rfl rfl) (AO.p rfl (p_extract rfl rfl) (AO.a rfl rfl (AO.a rfl rfl (AO.nil (AX.sr (AO.m rfl rfl (AO.nil (AX.cond rfl (fun b6 => ?_) (fun b6 => ?_)))))))))))
      ·have g0 := bif_t b6 c2
       refine AX.sr (AO.m rfl rfl (AO.a rfl rfl (AO.a rfl rfl (AO.nil (AX.ret ?_)))))
       obtain rfl := some_inj g0
       have g1 : _ = b7 := a8
       subst g1
       obtain ⟨rfl, rfl⟩ := Prod.mk.inj (some_inj b8)
       have g2 := c3.front 0 rfl
       exact ⟨.inr rfl, _, res2 rfl (rv_tmp rfl) (rv_tmp rfl), f6, f7, rfl, .inl ⟨g2, f9⟩⟩
      ·have g3 := bif_f b6 c2
       refine AX.skip (AX.region (AO.m rfl rfl ?_))
       obtain ⟨g4, g5⟩ := chk_some g3
       refine AO.p rfl (p_addE rfl rfl g4) (AO.a rfl rfl (AO.nil ?_))
       obtain rfl := some_inj g5
       have g6 := c3.keep 0
       exact ⟨a3 + 1, a8, (a3 + 1), rfl, g6, Sub.k4 rfl rfl rfl rfl (Sub.nil _)⟩
    ·have g7 := bif_f b2 b1
     refine AX.exit ?_
     obtain rfl := some_inj g7
     exact ⟨a8, b0, Sub.nil _⟩
  ·rintro t' g8 ⟨rfl, g9, h0⟩
   refine ⟨_, h0, ?_⟩
   refine AX.sr (AO.a rfl rfl (AO.a rfl rfl (AO.nil (AX.ret ?_))))
   obtain ⟨rfl, rfl⟩ := Prod.mk.inj (some_inj b8)
   have h1 : St [] H g8 (oseg none (ints []) :: _) := g9.nilseg 0
   exact ⟨.inr rfl, _, res2 rfl (rv_tmp rfl) (rv_tmp rfl), none, 0, rfl, .inl ⟨h1, Sb.nil⟩⟩
set_option maxHeartbeats 4000000 in
theorem W_spec_FirstAdder (fu : Nat) (H : AHeap) (a0 : Int) (p_a1 : Option Addr) (c_a1 : Nat) (T_a1 : Tb) (a1 : List (List Int)) (t_a1 : trows T_a1 = a1) (v_a1 : Vw H p_a1 a1.length c_a1 (tcells T_a1)) (w_a1 : TVw H T_a1) (r0 : List Int) (r1 : Int) (hd : D_spec_FirstAdder fu a0 a1 = some (r0, r1)) : ∃ v G', ACall Tryz.prog 9 [.int .i64 a0, .slice p_a1 a1.length c_a1] H v G' ∧ ∃ (p_r0 : Option Addr) (c_r0 : Nat), (v = .tuple #[.slice p_r0 r0.length c_r0, .int .i64 r1]) ∧ St [] H G' [oseg p_r0 (ints r0)] ∧ Sb p_r0 r0.length c_r0 1 := by
 refine ACall.bodyX (args := [.int .i64 a0, .slice p_a1 a1.length c_a1]) (N := 25) [(0, .int .i64 a0), (1, .slice p_a1 a1.length c_a1)] (fun v G' => ∃ (p_r0 : Option Addr) (c_r0 : Nat), (v = .tuple #[.slice p_r0 r0.length c_r0, .int .i64 r1]) ∧ St [] H G' [oseg p_r0 (ints r0)] ∧ Sb p_r0 r0.length c_r0 1) Tryz.func9 rfl rfl rfl rfl ?_
 unfold D_spec_FirstAdder at hd
 have S0 : St [] H H [] := St.nil H
 refine AX.sr (AO.a rfl rfl (AO.a rfl rfl (AO.nil (AX.seq (AX.sr (AO.m rfl rfl (AO.m rfl rfl ?_)))))))
 obtain ⟨b0, b1, a6⟩ := bnd_some hd
 refine AO.c rfl (o_call (vs := [.int .i64 a0, .slice p_a1 a1.length c_a1]) rfl Tryz.call31 (W_spec_l03Code fu H a0 p_a1 c_a1 T_a1 a1 t_a1 (S0.view v_a1) (S0.tview w_a1) b0 b1)) (AO.a rfl rfl (AO.nil (AX.sr (AO.m rfl rfl (AO.p rfl (p_neq rfl rfl) (AO.nil (AX.cond rfl (fun a3 => ?_) (fun a3 => ?_))))))))
 ·have b2 := bif_t a3 a6
  refine AX.sr (AO.m rfl rfl (AO.a rfl rfl (AO.a rfl rfl (AO.nil (AX.ret ?_)))))
  obtain ⟨rfl, rfl⟩ := Prod.mk.inj (some_inj b2)
  have b3 : St [] H H (oseg none (ints []) :: _) := S0.nilseg 0
  exact ⟨.inr rfl, _, res2 rfl (rv_tmp rfl) (rv_tmp rfl), none, 0, rfl, b3, Sb.nil⟩
 ·have b4 := bif_f a3 a6
  refine AX.skip (AX.sr (AO.m rfl rfl (AO.m rfl rfl ?_)))
  obtain ⟨b5, a4, b6, b7, a2⟩ := S0.new (AObj.row false (ints []))
  refine AO.c rfl (s_build0 (i := a4) underlying27 sizeOf2 b6 b7) ?_
  have b8 := a2.front 0 rfl
  obtain ⟨⟨b9, c0⟩, c1, a7⟩ := bnd_some b4
  obtain ⟨_, c2, a8, c3, c4, rfl, c5⟩ := W_spec_l03FindAdder fu b5 a0 p_a1 c_a1 T_a1 a1 t_a1 (a2.view v_a1) (a2.tview w_a1) (some (Addr.mk a4 0 none)) 0 [] (by rw [show List.length [] = 0 from rfl]; exact (a2.oview (k := 0) rfl (Sb.lit (n := 0) (by decide)) (ints_len1 rfl))) b9 c0 c1
  rw [show List.length [] = 0 from rfl] at a8
  obtain ⟨a9, c6⟩ := St.callG b8 (Sb.lit (n := 0) (by decide)) c5
  refine AO.c rfl (o_call (vs := [.int .i64 a0, .slice p_a1 a1.length c_a1, .slice (some (Addr.mk a4 0 none)) 0 0]) rfl Tryz.call35 a8) (AO.m rfl rfl (AO.p rfl (p_extract rfl rfl) (AO.p rfl (p_extract rfl rfl) (AO.a rfl rfl (AO.a rfl rfl (AO.nil (AX.seq (AX.sr (AO.m rfl rfl (AO.p rfl (p_not rfl) (AO.nil (AX.cond rfl (fun a5 => ?_) (fun a5 => ?_)))))))))))))
  ·have c7 := bif_t a5 a7
   refine AX.sr (AO.a rfl rfl (AO.a rfl rfl (AO.nil (AX.ret ?_))))
   obtain ⟨rfl, rfl⟩ := Prod.mk.inj (some_inj c7)
   have c8 : St [] H c2 (oseg none (ints []) :: _) := a9.nilseg 0
   have c9 := c8.keep 1
   exact ⟨.inr rfl, _, res2 rfl (rv_tmp rfl) (rv_tmp rfl), none, 0, rfl, c9, Sb.nil⟩
  ·have d0 := bif_f a5 a7
   refine AX.skip (AX.sr (AO.m rfl rfl (AO.a rfl rfl (AO.a rfl rfl (AO.nil (AX.ret ?_))))))
   obtain ⟨rfl, rfl⟩ := Prod.mk.inj (some_inj d0)
   have d1 := a9.front 0 rfl
   exact ⟨.inr rfl, _, res2 rfl (rv_tmp rfl) (rv_tmp rfl), c3, c4, rfl, d1, c6⟩
set_option maxHeartbeats 4000000 in
theorem W_impl_FirstAdder (fu : Nat) (H : AHeap) (a0 : Int) (p_a1 : Option Addr) (c_a1 : Nat) (T_a1 : Tb) (a1 : List (List Int)) (t_a1 : trows T_a1 = a1) (v_a1 : Vw H p_a1 a1.length c_a1 (tcells T_a1)) (w_a1 : TVw H T_a1) (r0 : List Int) (r1 : Int) (hd : D_impl_FirstAdder fu a0 a1 = some (r0, r1)) : ∃ v G', ACall Tryz.prog 8 [.int .i64 a0, .slice p_a1 a1.length c_a1] H v G' ∧ ∃ (p_r0 : Option Addr) (c_r0 : Nat), (v = .tuple #[.slice p_r0 r0.length c_r0, .int .i64 r1]) ∧ St [] H G' [oseg p_r0 (ints r0)] ∧ Sb p_r0 r0.length c_r0 1 := by
 refine ACall.bodyX (args := [.int .i64 a0, .slice p_a1 a1.length c_a1]) (N := 21) [(0, .int .i64 a0), (1, .slice p_a1 a1.length c_a1)] (fun v G' => ∃ (p_r0 : Option Addr) (c_r0 : Nat), (v = .tuple #[.slice p_r0 r0.length c_r0, .int .i64 r1]) ∧ St [] H G' [oseg p_r0 (ints r0)] ∧ Sb p_r0 r0.length c_r0 1) Tryz.func8 rfl rfl rfl rfl ?_
 unfold D_impl_FirstAdder at hd
 have S0 : St [] H H [] := St.nil H
 refine AX.sr (AO.a rfl rfl (AO.a rfl rfl (AO.nil (AX.seq (AX.sr (AO.m rfl rfl (AO.m rfl rfl ?_)))))))
 obtain ⟨a3, a4, b1, b2, a2⟩ := S0.new (AObj.row false ([.slice p_a1 a1.length c_a1]))
 refine AO.c rfl (s_buildSl (i := a4) (vs := [(0, .slice p_a1 a1.length c_a1)]) (cs := [.slice p_a1 a1.length c_a1]) underlying66 sizeOf24 zeroValue24 rfl rfl (by decide) rfl rfl b1 b2) ?_
 obtain ⟨b3, b4, a8⟩ := bnd_some hd
 refine AO.c rfl (o_call (vs := [.int .i64 a0, .func (.func 28) #[] #[], .slice (some (Addr.mk a4 0 none)) 1 1]) rfl Tryz.call27 (W_impl_starterCode fu a3 a0 28 #[] #[] (fun _ => D_impl_always fu ) Tryz.call28 (fun G' hG  b' hb' => W_impl_always fu G'  b' hb') (some (Addr.mk a4 0 none)) 1 [(p_a1, c_a1, T_a1)] [a1] (trows3_1 t_a1) (vw3_1 (a2.get (k := 0) rfl) t_a1 rfl) (TVw3.cons (a2.view v_a1) t_a1 rfl (a2.tview w_a1) TVw3.nil) b3 b4)) (AO.a rfl rfl (AO.nil (AX.sr (AO.m rfl rfl (AO.p rfl (p_neq rfl rfl) (AO.nil (AX.cond rfl (fun a5 => ?_) (fun a5 => ?_))))))))
 ·have b5 := bif_t a5 a8
  refine AX.sr (AO.m rfl rfl (AO.a rfl rfl (AO.a rfl rfl (AO.nil (AX.ret ?_)))))
  obtain ⟨rfl, rfl⟩ := Prod.mk.inj (some_inj b5)
  have b6 : St [] H a3 (oseg none (ints []) :: _) := a2.nilseg 0
  have b7 := b6.keep 1
  exact ⟨.inr rfl, _, res2 rfl (rv_tmp rfl) (rv_tmp rfl), none, 0, rfl, b7, Sb.nil⟩
 ·have b8 := bif_f a5 a8
  refine AX.skip (AX.sr (AO.m rfl rfl (AO.m rfl rfl ?_)))
  have b9 : St [] H a3 (oseg none (ints []) :: _) := a2.nilseg 0
  obtain ⟨c0, c1, a9⟩ := bnd_some b8
  obtain ⟨_, c2, c3, c4, c5, rfl, c6, c7⟩ := W_impl_firstAdder fu a3 a0 p_a1 c_a1 T_a1 a1 t_a1 (a2.view v_a1) (a2.tview w_a1) none 0 [] Vw.nil (by decide) c0 c1
  obtain ⟨b0, a6⟩ := St.callG b9 Sb.nil c6
  refine AO.c rfl (o_call (vs := [.int .i64 a0, .slice p_a1 a1.length c_a1, .slice none 0 0]) rfl Tryz.call34 c3) (AO.a rfl rfl (AO.nil (AX.seq (AX.sr (AO.m rfl rfl (AO.p rfl (p_eqlNilB underlying27 rfl (a6.ne rfl) (Sb.isNone a6 c7)) (AO.nil (AX.cond rfl (fun a7 => ?_) (fun a7 => ?_)))))))))
  ·have c8 := bif_t a7 a9
   refine AX.sr (AO.a rfl rfl (AO.a rfl rfl (AO.nil (AX.ret ?_))))
   obtain ⟨rfl, rfl⟩ := Prod.mk.inj (some_inj c8)
   have c9 : St [] H c2 (oseg none (ints []) :: _) := b0.nilseg 0
   have d0 := c9.keep 1
   exact ⟨.inr rfl, _, res2 rfl (rv_tmp rfl) (rv_tmp rfl), none, 0, rfl, d0, Sb.nil⟩
  ·have d1 := bif_f a7 a9
   refine AX.skip (AX.sr (AO.m rfl rfl (AO.a rfl rfl (AO.a rfl rfl (AO.nil (AX.ret ?_))))))
   obtain ⟨rfl, rfl⟩ := Prod.mk.inj (some_inj d1)
   have d2 := b0.front 0 rfl
   have d3 := d2.keep 1
   exact ⟨.inr rfl, _, res2 rfl (rv_tmp rfl) (rv_tmp rfl), c4, c5, rfl, d3, a6⟩
end Go.Proofs.YtdafmafigcljkaaGreat
