/-
  The program computes that, printed by a program. No condition.
-/
import Derived.Test.YtnmbjedijgcncaaDJ
import Derived.Test.YtnmbjedijgcncaaWI
import Derived.Test.YtnmbjedijgcncaaProg
import Derived.KernelRfl
namespace Go.Proofs.Ytnmbjedijgcncaa
open Go Go.RowKit Am
set_option linter.unusedVariables false
set_option linter.unusedSimpArgs false
set_option maxRecDepth 20000
set_option maxHeartbeats 4000000 in
theorem W_spec_FirstAdder (fu : Nat) (H : AHeap) (a0 : Int) (p_a1 : Option Addr) (c_a1 : Nat) (T_a1 : Tb) (a1 : List (List Int)) (t_a1 : trows T_a1 = a1) (v_a1 : Vw H p_a1 a1.length c_a1 (tcells T_a1)) (w_a1 : TVw H T_a1) (r0 : List Int) (r1 : Int) (hd : D_spec_FirstAdder fu a0 a1 = some (r0, r1)) : ∃ v G', ACall Try.prog 35 [.int .i64 a0, .slice p_a1 a1.length c_a1] H v G' ∧ ∃ (p_r0 : Option Addr) (c_r0 : Nat), (v = .tuple #[.slice p_r0 r0.length c_r0, .int .i64 r1]) ∧ St [] H G' [oseg p_r0 (ints r0)] ∧ Sb p_r0 r0.length c_r0 1 := by
  refine ACall.bodyX (args := [.int .i64 a0, .slice p_a1 a1.length c_a1]) (N := 25) [(0, .int .i64 a0), (1, .slice p_a1 a1.length c_a1)] (fun v G' => ∃ (p_r0 : Option Addr) (c_r0 : Nat), (v = .tuple #[.slice p_r0 r0.length c_r0, .int .i64 r1]) ∧ St [] H G' [oseg p_r0 (ints r0)] ∧ Sb p_r0 r0.length c_r0 1) Try.func35 rfl rfl rfl rfl ?_
  unfold D_spec_FirstAdder at hd
  have S0 : St [] H H [] := St.nil H
  refine AX.seq ?_
  refine AX.region ?_
  refine AO.p rfl (p_assign rfl) ?_
  refine AO.p rfl (p_assign rfl) ?_
  refine AO.nil ?_
  refine AX.seq ?_
  refine AX.seq ?_
  refine AX.region ?_
  refine AO.p rfl (p_move rfl) ?_
  refine AO.p rfl (p_move rfl) ?_
  obtain ⟨x100, h101, hd102⟩ := bnd_some hd
  refine AO.c rfl (o_call (vs := [.int .i64 a0, .slice p_a1 a1.length c_a1]) rfl Try.call72 (W_spec_l03Code fu H a0 p_a1 c_a1 T_a1 a1 t_a1 (S0.view v_a1) (S0.tview w_a1) x100 h101)) ?_
  refine AO.p rfl (p_assign rfl) ?_
  refine AO.nil ?_
  refine AX.seq ?_
  refine AX.region ?_
  refine AO.p rfl (p_move rfl) ?_
  refine AO.p rfl (p_neq rfl rfl) ?_
  refine AO.nil ?_
  refine AX.cond rfl (fun c104 => ?_) (fun c104 => ?_)
  · have hd105 := bif_t c104 hd102
    refine AX.seq ?_
    refine AX.region ?_
    refine AO.p rfl (p_move rfl) ?_
    refine AO.p rfl (p_assign rfl) ?_
    refine AO.p rfl (p_assign rfl) ?_
    refine AO.nil ?_
    refine AX.ret ?_
    obtain ⟨rfl, rfl⟩ := Prod.mk.inj (some_inj hd105)
    have S107 : St [] H H (oseg none (ints []) :: _) := S0.nilseg 0
    exact ⟨.inr rfl, _, res2 rfl (rv_tmp rfl) (rv_tmp rfl), none, 0, rfl, S107, Sb.nil⟩
  · have hd108 := bif_f c104 hd102
    refine AX.skip ?_
    refine AX.seq ?_
    refine AX.region ?_
    refine AO.p rfl (p_move rfl) ?_
    refine AO.p rfl (p_move rfl) ?_
    obtain ⟨G109, i110, hii110, hHG109, S111⟩ := S0.new (AObj.row false (ints []))
    refine AO.c rfl (s_build0 (i := i110) Try.underlying31 Try.sizeOf2 hii110 hHG109) ?_
    have S113 := S111.front 0 rfl
    obtain ⟨⟨xs114, b115⟩, h116, hd117⟩ := bnd_some hd108
    obtain ⟨_, G123, hc122, p118, c119, rfl, hor125⟩ := W_spec_l03FindAdder fu G109 a0 p_a1 c_a1 T_a1 a1 t_a1 (S111.view v_a1) (S111.tview w_a1) (some (Addr.mk i110 0 none)) 0 [] (by rw [show List.length [] = 0 from rfl]; exact (S111.oview (k := 0) rfl (Sb.lit (n := 0) (by decide)) (ints_len1 rfl))) xs114 b115 h116
    rw [show List.length [] = 0 from rfl] at hc122
    obtain ⟨S124, B121⟩ := St.callG S113 (Sb.lit (n := 0) (by decide)) hor125
    refine AO.c rfl (o_call (vs := [.int .i64 a0, .slice p_a1 a1.length c_a1, .slice (some (Addr.mk i110 0 none)) 0 0]) rfl Try.call73 hc122) ?_
    refine AO.p rfl (p_move rfl) ?_
    refine AO.p rfl (p_extract rfl rfl) ?_
    refine AO.p rfl (p_extract rfl rfl) ?_
    refine AO.p rfl (p_assign rfl) ?_
    refine AO.p rfl (p_assign rfl) ?_
    refine AO.nil ?_
    refine AX.seq ?_
    refine AX.seq ?_
    refine AX.region ?_
    refine AO.p rfl (p_move rfl) ?_
    refine AO.p rfl (p_not rfl) ?_
    refine AO.nil ?_
    refine AX.cond rfl (fun c126 => ?_) (fun c126 => ?_)
    · have hd127 := bif_t c126 hd117
      refine AX.seq ?_
      refine AX.region ?_
      refine AO.p rfl (p_assign rfl) ?_
      refine AO.p rfl (p_assign rfl) ?_
      refine AO.nil ?_
      refine AX.ret ?_
      obtain ⟨rfl, rfl⟩ := Prod.mk.inj (some_inj hd127)
      have S129 : St [] H G123 (oseg none (ints []) :: _) := S124.nilseg 0
      have S130 := S129.keep 1
      exact ⟨.inr rfl, _, res2 rfl (rv_tmp rfl) (rv_tmp rfl), none, 0, rfl, S130, Sb.nil⟩
    · have hd131 := bif_f c126 hd117
      refine AX.skip ?_
      refine AX.seq ?_
      refine AX.region ?_
      refine AO.p rfl (p_move rfl) ?_
      refine AO.p rfl (p_assign rfl) ?_
      refine AO.p rfl (p_assign rfl) ?_
      refine AO.nil ?_
      refine AX.ret ?_
      obtain ⟨rfl, rfl⟩ := Prod.mk.inj (some_inj hd131)
      have S133 := S124.front 0 rfl
      exact ⟨.inr rfl, _, res2 rfl (rv_tmp rfl) (rv_tmp rfl), p118, c119, rfl, S133, B121⟩

set_option maxHeartbeats 4000000 in
theorem W_impl_FirstAdder (fu : Nat) (H : AHeap) (a0 : Int) (p_a1 : Option Addr) (c_a1 : Nat) (T_a1 : Tb) (a1 : List (List Int)) (t_a1 : trows T_a1 = a1) (v_a1 : Vw H p_a1 a1.length c_a1 (tcells T_a1)) (w_a1 : TVw H T_a1) (r0 : List Int) (r1 : Int) (hd : D_impl_FirstAdder fu a0 a1 = some (r0, r1)) : ∃ v G', ACall Try.prog 37 [.int .i64 a0, .slice p_a1 a1.length c_a1] H v G' ∧ ∃ (p_r0 : Option Addr) (c_r0 : Nat), (v = .tuple #[.slice p_r0 r0.length c_r0, .int .i64 r1]) ∧ St [] H G' [oseg p_r0 (ints r0)] ∧ Sb p_r0 r0.length c_r0 1 := by
  refine ACall.bodyX (args := [.int .i64 a0, .slice p_a1 a1.length c_a1]) (N := 21) [(0, .int .i64 a0), (1, .slice p_a1 a1.length c_a1)] (fun v G' => ∃ (p_r0 : Option Addr) (c_r0 : Nat), (v = .tuple #[.slice p_r0 r0.length c_r0, .int .i64 r1]) ∧ St [] H G' [oseg p_r0 (ints r0)] ∧ Sb p_r0 r0.length c_r0 1) Try.func37 rfl rfl rfl rfl ?_
  unfold D_impl_FirstAdder at hd
  have S0 : St [] H H [] := St.nil H
  refine AX.seq ?_
  refine AX.region ?_
  refine AO.p rfl (p_assign rfl) ?_
  refine AO.p rfl (p_assign rfl) ?_
  refine AO.nil ?_
  refine AX.seq ?_
  refine AX.seq ?_
  refine AX.region ?_
  refine AO.p rfl (p_move rfl) ?_
  refine AO.p rfl (p_move rfl) ?_
  obtain ⟨G100, i101, hii101, hHG100, S102⟩ := S0.new (AObj.row false ([.slice p_a1 a1.length c_a1]))
  refine AO.c rfl (s_buildSl (i := i101) (vs := [(0, .slice p_a1 a1.length c_a1)]) (cs := [.slice p_a1 a1.length c_a1]) Try.underlying56 Try.sizeOf23 Try.zeroValue23 rfl rfl (by decide) rfl rfl hii101 hHG100) ?_
  obtain ⟨x104, h105, hd106⟩ := bnd_some hd
  refine AO.c rfl (o_call (vs := [.int .i64 a0, .func (.func 66) #[] #[], .slice (some (Addr.mk i101 0 none)) 1 1]) rfl Try.call75 (W_impl_starterCode fu G100 a0 66 #[] #[] (fun _ => D_impl_always fu ) Try.call66 (fun G' hG  b' hb' => W_impl_always fu G'  b' hb') (some (Addr.mk i101 0 none)) 1 [(p_a1, c_a1, T_a1)] [a1] (trows3_1 t_a1) (vw3_1 (S102.get (k := 0) rfl) t_a1 rfl) (TVw3.cons (S102.view v_a1) t_a1 rfl (S102.tview w_a1) TVw3.nil) x104 h105)) ?_
  refine AO.p rfl (p_assign rfl) ?_
  refine AO.nil ?_
  refine AX.seq ?_
  refine AX.region ?_
  refine AO.p rfl (p_move rfl) ?_
  refine AO.p rfl (p_neq rfl rfl) ?_
  refine AO.nil ?_
  refine AX.cond rfl (fun c108 => ?_) (fun c108 => ?_)
  · have hd109 := bif_t c108 hd106
    refine AX.seq ?_
    refine AX.region ?_
    refine AO.p rfl (p_move rfl) ?_
    refine AO.p rfl (p_assign rfl) ?_
    refine AO.p rfl (p_assign rfl) ?_
    refine AO.nil ?_
    refine AX.ret ?_
    obtain ⟨rfl, rfl⟩ := Prod.mk.inj (some_inj hd109)
    have S111 : St [] H G100 (oseg none (ints []) :: _) := S102.nilseg 0
    have S112 := S111.keep 1
    exact ⟨.inr rfl, _, res2 rfl (rv_tmp rfl) (rv_tmp rfl), none, 0, rfl, S112, Sb.nil⟩
  · have hd113 := bif_f c108 hd106
    refine AX.skip ?_
    refine AX.seq ?_
    refine AX.region ?_
    refine AO.p rfl (p_move rfl) ?_
    refine AO.p rfl (p_move rfl) ?_
    have S114 : St [] H G100 (oseg none (ints []) :: _) := S102.nilseg 0
    obtain ⟨xs115, h116, hd117⟩ := bnd_some hd113
    obtain ⟨_, G123, hc122, p118, c119, rfl, hor126, hn125⟩ := W_impl_firstAdder fu G100 a0 p_a1 c_a1 T_a1 a1 t_a1 (S102.view v_a1) (S102.tview w_a1) none 0 [] Vw.nil (by decide) xs115 h116
    obtain ⟨S124, B121⟩ := St.callG S114 Sb.nil hor126
    refine AO.c rfl (o_call (vs := [.int .i64 a0, .slice p_a1 a1.length c_a1, .slice none 0 0]) rfl Try.call76 hc122) ?_
    refine AO.p rfl (p_assign rfl) ?_
    refine AO.nil ?_
    refine AX.seq ?_
    refine AX.seq ?_
    refine AX.region ?_
    refine AO.p rfl (p_move rfl) ?_
    refine AO.p rfl (p_eqlNilB Try.underlying31 rfl (B121.ne rfl) (Sb.isNone B121 hn125)) ?_
    refine AO.nil ?_
    refine AX.cond rfl (fun c127 => ?_) (fun c127 => ?_)
    · have hd128 := bif_t c127 hd117
      refine AX.seq ?_
      refine AX.region ?_
      refine AO.p rfl (p_assign rfl) ?_
      refine AO.p rfl (p_assign rfl) ?_
      refine AO.nil ?_
      refine AX.ret ?_
      obtain ⟨rfl, rfl⟩ := Prod.mk.inj (some_inj hd128)
      have S130 : St [] H G123 (oseg none (ints []) :: _) := S124.nilseg 0
      have S131 := S130.keep 1
      exact ⟨.inr rfl, _, res2 rfl (rv_tmp rfl) (rv_tmp rfl), none, 0, rfl, S131, Sb.nil⟩
    · have hd132 := bif_f c127 hd117
      refine AX.skip ?_
      refine AX.seq ?_
      refine AX.region ?_
      refine AO.p rfl (p_move rfl) ?_
      refine AO.p rfl (p_assign rfl) ?_
      refine AO.p rfl (p_assign rfl) ?_
      refine AO.nil ?_
      refine AX.ret ?_
      obtain ⟨rfl, rfl⟩ := Prod.mk.inj (some_inj hd132)
      have S134 := S124.front 0 rfl
      have S135 := S134.keep 1
      exact ⟨.inr rfl, _, res2 rfl (rv_tmp rfl) (rv_tmp rfl), p118, c119, rfl, S135, B121⟩

end Go.Proofs.Ytnmbjedijgcncaa
