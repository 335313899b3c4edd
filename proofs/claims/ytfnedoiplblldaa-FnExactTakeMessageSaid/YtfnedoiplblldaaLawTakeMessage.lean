/- The law TakeMessage, walked. No conditions. -/
import Derived.Test.YtfnedoiplblldaaProg
import Derived.Test.YtfnedoiplblldaaTy
import Derived.Test.YtfnedoiplblldaaOpn
import Derived.Test.YtfnedoiplblldaaSym3
import Derived.Test.YtfnedoiplblldaaTakeT
import Derived.Test.YtfnedoiplblldaaT2
namespace Go.Proofs.YtfnedoiplblldaaFam
open Go.ChangeShapes Go.WideShapes Go.RowKit Go.Proofs.YtfnedoiplblldaaSep Go.Proofs.YtfnedoiplblldaaT Go.Proofs.YtfnedoiplblldaaK
set_option linter.unusedVariables false
set_option linter.unusedSimpArgs false
attribute [local irreducible] wpOps wpOp
set_option maxHeartbeats 4000000 in
set_option maxRecDepth 100000 in
theorem law_FnExactTakeMessage (w : World) (l0 : List GChannel) (A0 : Option Addr) (c0 : Nat) (hC0 : C kl_Channel w A0 l0) (hl0 : l0.length ≤ c0) (hG0 : l0.length ≤ 9223372036854775807 ∧ ∀ y ∈ l0, Gd_Channel y) (a1 : Int) (w1 : (Lit.int .i64 a1).wf = true) (a2 : Int) (w2 : (Lit.int .i64 a2).wf = true) : Calls Try.prog 5 #[.slice A0 l0.length c0, .int .i64 a1, .int .i64 a2] w (RetBool true w) := by
  refine enter 143 [(0, .slice A0 l0.length c0), (1, .int .i64 (a1)), (2, .int .i64 (a2))] Try.func5 rfl (by kernel_rfl) ?_
  intro xj
  have H1 : St w No [] w := St.enter
  refine wp_seq ?_
  refine reg_seq [0] rfl ?_
  refine ops_cons ?_
  refine op_pure rfl (rn_assign rfl) rfl rfl ?_
  refine ops_nil ?_
  refine then_n ?_
  refine wp_seq ?_
  refine reg_seq [0] rfl ?_
  refine ops_cons ?_
  refine op_pure rfl (rn_assign rfl) rfl rfl ?_
  refine ops_nil ?_
  refine then_n ?_
  refine wp_seq ?_
  refine reg_seq [0, 1, 2, 3] rfl ?_
  refine ops_cons ?_
  refine op_pure rfl (rn_move rfl) rfl rfl ?_
  refine ops_cons ?_
  refine op_pure rfl (rn_move rfl) rfl rfl ?_
  refine ops_cons ?_
  refine op_call rfl Try.call23 (vs := #[.slice A0 l0.length c0, .int .i64 (1048576)]) rfl rfl rfl (szS_Channel l0 _ _ _ _ (C_upd H1.1 hC0) (fun y hy => Bd_of_Channel (hG0.2 y hy)) (by omega) (by omega)) ?_
  rintro e6 W5 ⟨n3, rfl, hr4, hu2⟩; refine ⟨_, rfl, ?_⟩
  have H7 := H1.no hu2; clear H1
  refine ops_cons ?_
  refine op_pure rfl (rn_assign rfl) rfl rfl ?_
  refine ops_nil ?_
  refine then_n ?_
  refine wp_seq ?_
  refine wp_seq ?_
  refine reg_seq [0, 1] rfl ?_
  refine ops_cons ?_
  refine op_pure rfl (rn_move rfl) rfl rfl ?_
  refine ops_cons ?_
  refine op_pure rfl (rn_lss rfl rfl) rfl rfl ?_
  refine ops_nil ?_
  refine then_n ?_
  refine cond_dec rfl (fun hc8 => ?_) (fun hc8 => ?_)
  · refine wp_seq ?_
    refine reg_seq [0] rfl ?_
    refine ops_cons ?_
    refine op_pure rfl (rn_assign rfl) rfl rfl ?_
    refine ops_nil ?_
    refine then_n ?_
    refine wp_ret ?_
    refine then_r ?_
    refine post_tmp (.inl rfl) Try.results5 rfl ?_
    exact ⟨rfl, H7.1⟩
  · have hs_l0 : sznS szn_Channel l0 ≤ 1048576 := by omega
    have hn_l0 : l0.length ≤ 1048576 := by unfold sznS at hs_l0; omega
    refine wp_skip ?_
    refine then_n ?_
    refine wp_seq ?_
    have nn9 : 0 ≤ cntS cnt_Channel l0 := cntS_nn cnt_Channel cnt_Channel_nn l0
    have nn9b := cntS_bound cnt_Channel szn_Channel cnt_Channel_le l0
    have nn9c : sznS szn_Channel l0 ≤ 4194304 := (Nat.le_trans hs_l0 (by decide))
    have nn10 : 0 ≤ cntS cnt_Channel (tkL a1 a2 l0) := cntS_nn cnt_Channel cnt_Channel_nn (tkL a1 a2 l0)
    have nn10b := cntS_bound cnt_Channel szn_Channel cnt_Channel_le (tkL a1 a2 l0)
    have nn10c : sznS szn_Channel (tkL a1 a2 l0) ≤ 4194304 := (tk_bd a1 a2 l0 hs_l0).1
    have nn11 : 0 ≤ cntv_Message (tkM a1 a2 l0) := cntv_Message_nn (tkM a1 a2 l0)
    have nn11b := cntv_Message_le (tkM a1 a2 l0)
    have nn11c : szn_Message (tkM a1 a2 l0) ≤ 4194304 := (tk_bd a1 a2 l0 hs_l0).2
    refine reg_seq [0, 1, 2, 3, 4, 5, 6, 7, 8, 9, 10, 11, 12] rfl ?_
    refine ops_cons ?_
    refine op_pure rfl (rn_move rfl) rfl rfl ?_
    refine ops_cons ?_
    refine op_call rfl Try.call25 (vs := #[.slice A0 l0.length c0]) rfl rfl rfl (toS_Channel l0 _ _ _ (C_upd H7.1 hC0) hs_l0) ?_
    rintro e16 W15 ⟨v13, rfl, hR14, hu12⟩; refine ⟨_, rfl, ?_⟩
    obtain ⟨B_5_1, c_5_1, rfl⟩ := R_slice hR14
    have H17 := H7.new (q := hR ki_Channel 142 (.slice B_5_1 l0.length c_5_1) l0) hu12 hR14; clear H7
    refine ops_cons ?_
    refine op_pure rfl (rn_move rfl) rfl rfl ?_
    refine ops_cons ?_
    refine op_pure rfl (rn_move rfl) rfl rfl ?_
    refine ops_cons ?_
    refine op_call rfl Try.call24 (vs := #[.slice B_5_1 l0.length c_5_1, .int .i64 (a1), .int .i64 (a2)]) rfl rfl rfl (takeMessage_S l0 a1 a2 _ _ _ (H17.rowC 0 rfl) hs_l0) ?_
    rintro e21 W20 ⟨B_5_4, c_5_4, cs_5_4, rfl, hst18, hu19⟩; refine ⟨_, rfl, ?_⟩
    have H22 := H17.news hu19 hst18; clear H17
    refine ops_cons ?_
    refine op_pure rfl (rn_move rfl) rfl rfl ?_
    refine ops_cons ?_
    refine op_pure rfl (rn_extract (v := .slice B_5_4 ((tkL a1 a2 l0).length) c_5_4) rfl rfl) rfl rfl ?_
    refine ops_cons ?_
    refine op_pure rfl (rn_extract (v := .agg (List.toArray cs_5_4)) rfl rfl) rfl rfl ?_
    refine ops_cons ?_
    refine op_pure rfl (rn_extract (v := .bool (tkB a1 a2 l0)) rfl rfl) rfl rfl ?_
    refine ops_cons ?_
    refine op_alloc rfl Try.zeroValue70 rfl rfl H22 ?_
    intro g_5_9 W23 hu24 Ha25; clear H22; clear hu24
    refine ops_cons ?_
    refine op_pure rfl (rn_assign rfl) rfl rfl ?_
    refine ops_cons ?_
    refine op_storeW rfl Try.sizeOf70 rfl rfl (ki_Message_len (Ha25.kn 2 rfl)) rfl (ki_Message_one (Ha25.kn 2 rfl)) Ha25 ?_
    intro W27 hu28 Ha29; clear Ha25; clear hu28
    refine ops_cons ?_
    refine op_pure rfl (rn_assign rfl) rfl rfl ?_
    refine ops_nil ?_
    refine then_n ?_
    refine wp_seq ?_
    refine reg_seq [0, 1, 2] rfl ?_
    refine ops_cons ?_
    refine op_pure rfl (rn_move rfl) rfl rfl ?_
    refine ops_cons ?_
    refine op_call rfl Try.call25 (vs := #[.slice A0 l0.length c0]) rfl rfl rfl (toS_Channel l0 _ _ _ (C_upd Ha29.1 hC0) hs_l0) ?_
    rintro e35 W34 ⟨v32, rfl, hR33, hu31⟩; refine ⟨_, rfl, ?_⟩
    obtain ⟨B_6_1, c_6_1, rfl⟩ := R_slice hR33
    have H36 := Ha29.new (q := hR ki_Channel 142 (.slice B_6_1 l0.length c_6_1) l0) hu31 hR33; clear Ha29
    refine ops_cons ?_
    refine op_pure rfl (rn_assign rfl) rfl rfl ?_
    refine ops_nil ?_
    refine then_n ?_
    refine wp_seq ?_
    refine reg_seq [0, 1, 2, 3, 4, 5, 6, 7, 8, 9, 10, 11] rfl ?_
    refine ops_cons ?_
    refine op_pure rfl (rn_move rfl) rfl rfl ?_
    refine ops_cons ?_
    refine op_pure rfl (rn_move rfl) rfl rfl ?_
    refine ops_cons ?_
    refine op_pure rfl (rn_move rfl) rfl rfl ?_
    refine ops_cons ?_
    refine op_call rfl Try.call26 (vs := #[.slice B_6_1 l0.length c_6_1, .int .i64 (a1), .int .i64 (a2)]) rfl rfl rfl (takeMessage_I l0 a1 a2 _ _ _ (H36.rowC 0 rfl) hs_l0) ?_
    rintro e40 W39 ⟨B_7_3, c_7_3, cs_7_3, rfl, hst37, hu38⟩; refine ⟨_, rfl, ?_⟩
    have H41 := H36.news hu38 hst37; clear H36
    refine ops_cons ?_
    refine op_pure rfl (rn_move rfl) rfl rfl ?_
    refine ops_cons ?_
    refine op_pure rfl (rn_extract (v := .slice B_7_3 ((tkL a1 a2 l0).length) c_7_3) rfl rfl) rfl rfl ?_
    refine ops_cons ?_
    refine op_pure rfl (rn_extract (v := .agg (List.toArray cs_7_3)) rfl rfl) rfl rfl ?_
    refine ops_cons ?_
    refine op_pure rfl (rn_extract (v := .bool (tkB a1 a2 l0)) rfl rfl) rfl rfl ?_
    refine ops_cons ?_
    refine op_alloc rfl Try.zeroValue70 rfl rfl H41 ?_
    intro g_7_8 W42 hu43 Ha44; clear H41; clear hu43
    refine ops_cons ?_
    refine op_pure rfl (rn_assign rfl) rfl rfl ?_
    refine ops_cons ?_
    refine op_storeW rfl Try.sizeOf70 rfl rfl (ki_Message_len (Ha44.kn 2 rfl)) rfl (ki_Message_one (Ha44.kn 2 rfl)) Ha44 ?_
    intro W46 hu47 Ha48; clear Ha44; clear hu47
    refine ops_cons ?_
    refine op_pure rfl (rn_assign rfl) rfl rfl ?_
    refine ops_nil ?_
    refine then_n ?_
    refine wp_seq ?_
    refine wp_seq ?_
    refine reg_seq [0, 1, 2, 3, 4, 5, 6, 7, 8, 9, 10, 11, 12, 13, 14] rfl ?_
    refine ops_cons ?_
    refine op_pure rfl (rn_move rfl) rfl rfl ?_
    refine ops_cons ?_
    refine op_pure rfl (rn_move rfl) rfl rfl ?_
    refine ops_cons ?_
    refine op_call rfl Try.call27 (vs := #[.slice B_7_3 ((tkL a1 a2 l0).length) c_7_3, .slice B_5_4 ((tkL a1 a2 l0).length) c_5_4]) rfl rfl rfl (eqS_Channel (tkL a1 a2 l0) _ _ _ _ _ (Ha48.rowC 1 rfl) (Ha48.rowC 5 rfl)) ?_
    rintro e52 W51 ⟨rfl, hu50⟩; refine ⟨_, rfl, ?_⟩
    have H53 := Ha48.no hu50; clear Ha48
    refine ops_cons ?_
    refine op_pure rfl (rn_not rfl) rfl rfl ?_
    refine ops_cons ?_
    refine op_pure rfl (rn_move rfl) rfl rfl ?_
    refine ops_cons ?_
    refine op_G rfl rfl rfl rfl (fun _ ho54 => ?_)
    refine op_pure ho54 (rn_loadB Try.isAgg70 Try.sizeOf70 rfl (H53.blk 0 rfl) (ki_Message_len (H53.kn 2 rfl))) rfl rfl ?_
    refine ops_cons ?_
    refine op_G rfl rfl rfl rfl (fun _ ho55 => ?_)
    refine op_pure ho55 (rn_loadB Try.isAgg70 Try.sizeOf70 rfl (H53.blk 4 rfl) (ki_Message_len (H53.kn 6 rfl))) rfl rfl ?_
    refine ops_cons ?_
    refine op_G rfl rfl rfl rfl (fun _ ho56 => ?_)
    refine op_call ho56 Try.call28 (vs := #[.agg (List.toArray cs_7_3), .agg (List.toArray cs_5_4)]) rfl rfl rfl (eq_Message (tkM a1 a2 l0) _ _ _ (H53.kn 2 rfl) (H53.kn 6 rfl)) ?_
    rintro e59 W58 ⟨rfl, hu57⟩; refine ⟨_, rfl, ?_⟩
    have H60 := H53.no hu57; clear H53
    refine ops_cons ?_
    refine op_G rfl rfl rfl rfl (fun _ ho61 => ?_)
    refine op_pure ho61 (rn_not rfl) rfl rfl ?_
    refine ops_cons ?_
    refine op_pure rfl (rn_pick (v := .bool (false)) (b := false) rfl rfl rfl rfl) rfl rfl ?_
    refine ops_cons ?_
    refine op_pure rfl (rn_move rfl) rfl rfl ?_
    refine ops_cons ?_
    refine op_G rfl rfl rfl rfl (fun _ ho62 => ?_)
    refine op_pure ho62 (rn_move rfl) rfl rfl ?_
    refine ops_cons ?_
    refine op_G rfl rfl rfl rfl (fun _ ho63 => ?_)
    refine op_pure ho63 (rn_move rfl) rfl rfl ?_
    refine ops_cons ?_
    refine op_G rfl rfl rfl rfl (fun _ ho64 => ?_)
    refine op_pure ho64 (rn_neqB Try.runUnderlying4 rfl rfl) rfl rfl ?_
    refine ops_cons ?_
    refine op_pure rfl (rn_pick (v := .bool (false)) (b := false) rfl rfl rfl rfl) rfl rfl ?_
    refine ops_nil ?_
    refine then_n ?_
    refine cond_f rfl ?_
    refine wp_skip ?_
    refine then_n ?_
    refine wp_seq ?_
    refine wp_seq ?_
    refine reg_seq [0, 1, 2, 3, 4] rfl ?_
    refine ops_cons ?_
    refine op_pure rfl (rn_move rfl) rfl rfl ?_
    refine ops_cons ?_
    refine op_pure rfl (rn_move rfl) rfl rfl ?_
    refine ops_cons ?_
    refine op_call rfl Try.call25 (vs := #[.slice A0 l0.length c0]) rfl rfl rfl (toS_Channel l0 _ _ _ (C_upd H60.1 hC0) hs_l0) ?_
    rintro e69 W68 ⟨v66, rfl, hR67, hu65⟩; refine ⟨_, rfl, ?_⟩
    obtain ⟨B_10_2, c_10_2, rfl⟩ := R_slice hR67
    have H70 := H60.new (q := hR ki_Channel 142 (.slice B_10_2 l0.length c_10_2) l0) hu65 hR67; clear H60
    refine ops_cons ?_
    refine op_call rfl Try.call27 (vs := #[.slice B_6_1 l0.length c_6_1, .slice B_10_2 l0.length c_10_2]) rfl rfl rfl (eqS_Channel l0 _ _ _ _ _ (H70.rowC 4 rfl) (H70.rowC 0 rfl)) ?_
    rintro e73 W72 ⟨rfl, hu71⟩; refine ⟨_, rfl, ?_⟩
    have H74 := H70.no hu71; clear H70
    refine ops_cons ?_
    refine op_pure rfl (rn_not rfl) rfl rfl ?_
    refine ops_nil ?_
    refine then_n ?_
    refine cond_f rfl ?_
    refine wp_skip ?_
    refine then_n ?_
    refine wp_seq ?_
    refine reg_seq [0] rfl ?_
    refine ops_cons ?_
    refine op_pure rfl (rn_assign rfl) rfl rfl ?_
    refine ops_nil ?_
    refine then_n ?_
    refine wp_seq ?_
    refine reg_seq [0, 1, 2, 3] rfl ?_
    refine ops_cons ?_
    refine op_pure rfl (rn_move rfl) rfl rfl ?_
    refine ops_cons ?_
    refine op_pure rfl (rn_move rfl) rfl rfl ?_
    refine ops_cons ?_
    have H81 : St w No [hR ki_Channel 142 (.slice B_6_1 l0.length c_6_1) l0, hR ki_Channel 142 (.slice B_10_2 l0.length c_10_2) l0, hB g_7_8 70 (List.toArray cs_7_3), hR ki_Channel 142 (.slice B_7_3 ((tkL a1 a2 l0).length) c_7_3) (tkL a1 a2 l0), hM ki_Message (tkM a1 a2 l0) cs_7_3, hB g_5_9 70 (List.toArray cs_5_4), hR ki_Channel 142 (.slice B_5_4 ((tkL a1 a2 l0).length) c_5_4) (tkL a1 a2 l0), hM ki_Message (tkM a1 a2 l0) cs_5_4, hR ki_Channel 142 (.slice B_5_1 l0.length c_5_1) l0] W72 := H74.pick [4, 0, 1, 2, 3, 5, 6, 7, 8] (by decide) rfl; clear H74
    obtain ⟨F76, hM77, hF78, hT79⟩ := H81.turn
    refine op_call rfl Try.call29 (vs := #[.slice B_6_1 l0.length c_6_1, .int .i64 (1)]) rfl rfl rfl (markS_Channel l0 _ F76 _ _ hM77 (by omega) (by omega)) ?_
    rintro e83 W82 ⟨rfl, hM80, hu75⟩; refine ⟨_, rfl, ?_⟩
    have H84 : St w No [hR ki_Channel 142 (.slice B_6_1 l0.length c_6_1) (mkS mk_Channel cnt_Channel 1 l0), hR ki_Channel 142 (.slice B_10_2 l0.length c_10_2) l0, hB g_7_8 70 (List.toArray cs_7_3), hR ki_Channel 142 (.slice B_7_3 ((tkL a1 a2 l0).length) c_7_3) (tkL a1 a2 l0), hM ki_Message (tkM a1 a2 l0) cs_7_3, hB g_5_9 70 (List.toArray cs_5_4), hR ki_Channel 142 (.slice B_5_4 ((tkL a1 a2 l0).length) c_5_4) (tkL a1 a2 l0), hM ki_Message (tkM a1 a2 l0) cs_5_4, hR ki_Channel 142 (.slice B_5_1 l0.length c_5_1) l0] W82 := hT79 (hR ki_Channel 142 (.slice B_6_1 l0.length c_6_1) (mkS mk_Channel cnt_Channel 1 l0)) _ hu75 ((hR ki_Channel 142 (.slice B_6_1 l0.length c_6_1) (mkS mk_Channel cnt_Channel 1 l0)).mono (fun _ q => .inl q) hM80); clear H81
    refine ops_cons ?_
    refine op_pure rfl (rn_assign rfl) rfl rfl ?_
    refine ops_nil ?_
    refine then_n ?_
    refine wp_seq ?_
    refine wp_seq ?_
    refine reg_seq [0, 1, 2, 3, 4, 5, 6, 7, 8, 9, 10, 11, 12, 13, 14, 15, 16, 17, 18] rfl ?_
    refine ops_cons ?_
    refine op_pure rfl (rn_move rfl) rfl rfl ?_
    refine ops_cons ?_
    refine op_pure rfl (rn_decF (p := ((1 + cntS cnt_Channel l0) : Int) < 0) (by omega) (rn_lss (p := (1 + cntS cnt_Channel l0)) (q := 0) rfl rfl)) rfl rfl ?_
    refine ops_cons ?_
    refine op_pure rfl (rn_move rfl) rfl rfl ?_
    refine ops_cons ?_
    refine op_G rfl rfl rfl rfl (fun _ ho85 => ?_)
    refine op_pure ho85 (rn_move rfl) rfl rfl ?_
    refine ops_cons ?_
    refine op_G rfl rfl rfl rfl (fun _ ho86 => ?_)
    refine op_pure ho86 (rn_move rfl) rfl rfl ?_
    refine ops_cons ?_
    refine op_G rfl rfl rfl rfl (fun _ ho87 => ?_)
    refine op_call ho87 Try.call27 (vs := #[.slice B_7_3 ((tkL a1 a2 l0).length) c_7_3, .slice B_5_4 ((tkL a1 a2 l0).length) c_5_4]) rfl rfl rfl (eqS_Channel (tkL a1 a2 l0) _ _ _ _ _ (H84.rowC 3 rfl) (H84.rowC 6 rfl)) ?_
    rintro e90 W89 ⟨rfl, hu88⟩; refine ⟨_, rfl, ?_⟩
    have H91 := H84.no hu88; clear H84
    refine ops_cons ?_
    refine op_G rfl rfl rfl rfl (fun _ ho92 => ?_)
    refine op_pure ho92 (rn_not rfl) rfl rfl ?_
    refine ops_cons ?_
    refine op_pure rfl (rn_pick (v := .bool (false)) (b := false) rfl rfl rfl rfl) rfl rfl ?_
    refine ops_cons ?_
    refine op_pure rfl (rn_move rfl) rfl rfl ?_
    refine ops_cons ?_
    refine op_G rfl rfl rfl rfl (fun _ ho93 => ?_)
    refine op_pure ho93 (rn_loadB Try.isAgg70 Try.sizeOf70 rfl (H91.blk 2 rfl) (ki_Message_len (H91.kn 4 rfl))) rfl rfl ?_
    refine ops_cons ?_
    refine op_G rfl rfl rfl rfl (fun _ ho94 => ?_)
    refine op_pure ho94 (rn_loadB Try.isAgg70 Try.sizeOf70 rfl (H91.blk 5 rfl) (ki_Message_len (H91.kn 7 rfl))) rfl rfl ?_
    refine ops_cons ?_
    refine op_G rfl rfl rfl rfl (fun _ ho95 => ?_)
    refine op_call ho95 Try.call28 (vs := #[.agg (List.toArray cs_7_3), .agg (List.toArray cs_5_4)]) rfl rfl rfl (eq_Message (tkM a1 a2 l0) _ _ _ (H91.kn 4 rfl) (H91.kn 7 rfl)) ?_
    rintro e98 W97 ⟨rfl, hu96⟩; refine ⟨_, rfl, ?_⟩
    have H99 := H91.no hu96; clear H91
    refine ops_cons ?_
    refine op_G rfl rfl rfl rfl (fun _ ho100 => ?_)
    refine op_pure ho100 (rn_not rfl) rfl rfl ?_
    refine ops_cons ?_
    refine op_pure rfl (rn_pick (v := .bool (false)) (b := false) rfl rfl rfl rfl) rfl rfl ?_
    refine ops_cons ?_
    refine op_pure rfl (rn_move rfl) rfl rfl ?_
    refine ops_cons ?_
    refine op_G rfl rfl rfl rfl (fun _ ho101 => ?_)
    refine op_pure ho101 (rn_move rfl) rfl rfl ?_
    refine ops_cons ?_
    refine op_G rfl rfl rfl rfl (fun _ ho102 => ?_)
    refine op_pure ho102 (rn_move rfl) rfl rfl ?_
    refine ops_cons ?_
    refine op_G rfl rfl rfl rfl (fun _ ho103 => ?_)
    refine op_pure ho103 (rn_neqB Try.runUnderlying4 rfl rfl) rfl rfl ?_
    refine ops_cons ?_
    refine op_pure rfl (rn_pick (v := .bool (false)) (b := false) rfl rfl rfl rfl) rfl rfl ?_
    refine ops_nil ?_
    refine then_n ?_
    refine cond_f rfl ?_
    refine wp_skip ?_
    refine then_n ?_
    refine wp_seq ?_
    refine reg_seq [0] rfl ?_
    refine ops_cons ?_
    refine op_pure rfl (rn_assign rfl) rfl rfl ?_
    refine ops_nil ?_
    refine then_n ?_
    refine wp_seq ?_
    refine reg_seq [0, 1, 2, 3] rfl ?_
    refine ops_cons ?_
    refine op_pure rfl (rn_move rfl) rfl rfl ?_
    refine ops_cons ?_
    refine op_pure rfl (rn_move rfl) rfl rfl ?_
    refine ops_cons ?_
    have H110 : St w No [hR ki_Channel 142 (.slice B_7_3 ((tkL a1 a2 l0).length) c_7_3) (tkL a1 a2 l0), hR ki_Channel 142 (.slice B_6_1 l0.length c_6_1) (mkS mk_Channel cnt_Channel 1 l0), hR ki_Channel 142 (.slice B_10_2 l0.length c_10_2) l0, hB g_7_8 70 (List.toArray cs_7_3), hM ki_Message (tkM a1 a2 l0) cs_7_3, hB g_5_9 70 (List.toArray cs_5_4), hR ki_Channel 142 (.slice B_5_4 ((tkL a1 a2 l0).length) c_5_4) (tkL a1 a2 l0), hM ki_Message (tkM a1 a2 l0) cs_5_4, hR ki_Channel 142 (.slice B_5_1 l0.length c_5_1) l0] W97 := H99.pick [3, 0, 1, 2, 4, 5, 6, 7, 8] (by decide) rfl; clear H99
    obtain ⟨F105, hM106, hF107, hT108⟩ := H110.turn
    refine op_call rfl Try.call29 (vs := #[.slice B_7_3 ((tkL a1 a2 l0).length) c_7_3, .int .i64 (1)]) rfl rfl rfl (markS_Channel (tkL a1 a2 l0) _ F105 _ _ hM106 (by omega) (by omega)) ?_
    rintro e112 W111 ⟨rfl, hM109, hu104⟩; refine ⟨_, rfl, ?_⟩
    have H113 : St w No [hR ki_Channel 142 (.slice B_7_3 ((tkL a1 a2 l0).length) c_7_3) (mkS mk_Channel cnt_Channel 1 (tkL a1 a2 l0)), hR ki_Channel 142 (.slice B_6_1 l0.length c_6_1) (mkS mk_Channel cnt_Channel 1 l0), hR ki_Channel 142 (.slice B_10_2 l0.length c_10_2) l0, hB g_7_8 70 (List.toArray cs_7_3), hM ki_Message (tkM a1 a2 l0) cs_7_3, hB g_5_9 70 (List.toArray cs_5_4), hR ki_Channel 142 (.slice B_5_4 ((tkL a1 a2 l0).length) c_5_4) (tkL a1 a2 l0), hM ki_Message (tkM a1 a2 l0) cs_5_4, hR ki_Channel 142 (.slice B_5_1 l0.length c_5_1) l0] W111 := hT108 (hR ki_Channel 142 (.slice B_7_3 ((tkL a1 a2 l0).length) c_7_3) (mkS mk_Channel cnt_Channel 1 (tkL a1 a2 l0))) _ hu104 ((hR ki_Channel 142 (.slice B_7_3 ((tkL a1 a2 l0).length) c_7_3) (mkS mk_Channel cnt_Channel 1 (tkL a1 a2 l0))).mono (fun _ q => .inl q) hM109); clear H110
    refine ops_cons ?_
    refine op_pure rfl (rn_assign rfl) rfl rfl ?_
    refine ops_nil ?_
    refine then_n ?_
    refine wp_seq ?_
    refine reg_seq [0, 1, 2, 3] rfl ?_
    refine ops_cons ?_
    refine op_pure rfl (rn_loadB Try.isAgg70 Try.sizeOf70 rfl (H113.blk 3 rfl) (ki_Message_len (H113.kn 4 rfl))) rfl rfl ?_
    refine ops_cons ?_
    refine op_pure rfl (rn_move rfl) rfl rfl ?_
    refine ops_cons ?_
    have H120 : St w No [hM ki_Message (tkM a1 a2 l0) cs_7_3, hR ki_Channel 142 (.slice B_7_3 ((tkL a1 a2 l0).length) c_7_3) (mkS mk_Channel cnt_Channel 1 (tkL a1 a2 l0)), hR ki_Channel 142 (.slice B_6_1 l0.length c_6_1) (mkS mk_Channel cnt_Channel 1 l0), hR ki_Channel 142 (.slice B_10_2 l0.length c_10_2) l0, hB g_7_8 70 (List.toArray cs_7_3), hB g_5_9 70 (List.toArray cs_5_4), hR ki_Channel 142 (.slice B_5_4 ((tkL a1 a2 l0).length) c_5_4) (tkL a1 a2 l0), hM ki_Message (tkM a1 a2 l0) cs_5_4, hR ki_Channel 142 (.slice B_5_1 l0.length c_5_1) l0] W111 := H113.pick [4, 0, 1, 2, 3, 5, 6, 7, 8] (by decide) rfl; clear H113
    obtain ⟨F115, hM116, hF117, hT118⟩ := H120.turn
    refine op_call rfl Try.call30 (vs := #[.agg (List.toArray cs_7_3), .int .i64 ((1 + cntS cnt_Channel (tkL a1 a2 l0)))]) rfl rfl rfl (markv_Message_c (tkM a1 a2 l0) _ F115 _ _ hM116 (by omega) (by omega)) ?_
    rintro e122 W121 ⟨rfl, hM119, hu114⟩; refine ⟨_, rfl, ?_⟩
    have H123 : St w No [hM ki_Message (mkv_Message (1 + cntS cnt_Channel (tkL a1 a2 l0)) (tkM a1 a2 l0)) cs_7_3, hR ki_Channel 142 (.slice B_7_3 ((tkL a1 a2 l0).length) c_7_3) (mkS mk_Channel cnt_Channel 1 (tkL a1 a2 l0)), hR ki_Channel 142 (.slice B_6_1 l0.length c_6_1) (mkS mk_Channel cnt_Channel 1 l0), hR ki_Channel 142 (.slice B_10_2 l0.length c_10_2) l0, hB g_7_8 70 (List.toArray cs_7_3), hB g_5_9 70 (List.toArray cs_5_4), hR ki_Channel 142 (.slice B_5_4 ((tkL a1 a2 l0).length) c_5_4) (tkL a1 a2 l0), hM ki_Message (tkM a1 a2 l0) cs_5_4, hR ki_Channel 142 (.slice B_5_1 l0.length c_5_1) l0] W121 := hT118 (hM ki_Message (mkv_Message (1 + cntS cnt_Channel (tkL a1 a2 l0)) (tkM a1 a2 l0)) cs_7_3) _ hu114 ((hM ki_Message (mkv_Message (1 + cntS cnt_Channel (tkL a1 a2 l0)) (tkM a1 a2 l0)) cs_7_3).mono (fun _ q => .inl q) hM119); clear H120
    refine ops_cons ?_
    refine op_pure rfl (rn_assign rfl) rfl rfl ?_
    refine ops_nil ?_
    refine then_n ?_
    refine wp_seq ?_
    refine reg_seq [0] rfl ?_
    refine ops_cons ?_
    refine op_pure rfl (rn_assign rfl) rfl rfl ?_
    refine ops_nil ?_
    refine then_n ?_
    refine wp_seq ?_
    refine reg_seq [0, 1, 2, 3] rfl ?_
    refine ops_cons ?_
    refine op_pure rfl (rn_move rfl) rfl rfl ?_
    refine ops_cons ?_
    refine op_pure rfl (rn_move rfl) rfl rfl ?_
    refine ops_cons ?_
    refine op_call rfl Try.call31 (vs := #[.slice B_7_3 ((tkL a1 a2 l0).length) c_7_3, .int .i64 (1)]) rfl rfl rfl (heldS_Channel (tkL a1 a2 l0) _ _ _ _ (H123.rowC 1 rfl) (by omega) (by omega)) ?_
    rintro e126 W125 ⟨rfl, hu124⟩; refine ⟨_, rfl, ?_⟩
    have H127 := H123.no hu124; clear H123
    refine ops_cons ?_
    refine op_pure rfl (rn_assign rfl) rfl rfl ?_
    refine ops_nil ?_
    refine then_n ?_
    refine wp_seq ?_
    refine wp_seq ?_
    refine reg_seq [0, 1] rfl ?_
    refine ops_cons ?_
    refine op_pure rfl (rn_move rfl) rfl rfl ?_
    refine ops_cons ?_
    refine op_pure rfl (rn_decF (p := ((1 + cntS cnt_Channel (tkL a1 a2 l0)) : Int) < 0) (by omega) (rn_lss (p := (1 + cntS cnt_Channel (tkL a1 a2 l0))) (q := 0) rfl rfl)) rfl rfl ?_
    refine ops_nil ?_
    refine then_n ?_
    refine cond_f rfl ?_
    refine wp_skip ?_
    refine then_n ?_
    refine wp_seq ?_
    refine reg_seq [0, 1, 2, 3] rfl ?_
    refine ops_cons ?_
    refine op_pure rfl (rn_loadB Try.isAgg70 Try.sizeOf70 rfl (H127.blk 4 rfl) (ki_Message_len (H127.kn 0 rfl))) rfl rfl ?_
    refine ops_cons ?_
    refine op_pure rfl (rn_move rfl) rfl rfl ?_
    refine ops_cons ?_
    refine op_call rfl Try.call32 (vs := #[.agg (List.toArray cs_7_3), .int .i64 ((1 + cntS cnt_Channel (tkL a1 a2 l0)))]) rfl rfl rfl (heldv_Message_c (tkM a1 a2 l0) _ _ _ (H127.kn 0 rfl) (by omega) (by omega)) ?_
    rintro e130 W129 ⟨rfl, hu128⟩; refine ⟨_, rfl, ?_⟩
    have H131 := H127.no hu128; clear H127
    refine ops_cons ?_
    refine op_pure rfl (rn_assign rfl) rfl rfl ?_
    refine ops_nil ?_
    refine then_n ?_
    refine wp_seq ?_
    refine wp_seq ?_
    refine reg_seq [0, 1] rfl ?_
    refine ops_cons ?_
    refine op_pure rfl (rn_move rfl) rfl rfl ?_
    refine ops_cons ?_
    refine op_pure rfl (rn_decF (p := (((1 + cntS cnt_Channel (tkL a1 a2 l0)) + cntv_Message (tkM a1 a2 l0)) : Int) < 0) (by omega) (rn_lss (p := ((1 + cntS cnt_Channel (tkL a1 a2 l0)) + cntv_Message (tkM a1 a2 l0))) (q := 0) rfl rfl)) rfl rfl ?_
    refine ops_nil ?_
    refine then_n ?_
    refine cond_f rfl ?_
    refine wp_skip ?_
    refine then_n ?_
    refine wp_seq ?_
    refine wp_seq ?_
    refine reg_seq [0, 1, 2] rfl ?_
    refine ops_cons ?_
    refine op_pure rfl (rn_move rfl) rfl rfl ?_
    refine ops_cons ?_
    refine op_pure rfl (rn_move rfl) rfl rfl ?_
    refine ops_cons ?_
    refine op_pure rfl (rn_decF (p := ¬ (((1 + cntS cnt_Channel (tkL a1 a2 l0)) + cntv_Message (tkM a1 a2 l0)) : Int) = ((1 + cntS cnt_Channel (tkL a1 a2 l0)) + cntv_Message (tkM a1 a2 l0))) (not_not_intro rfl) (rn_neq (p := ((1 + cntS cnt_Channel (tkL a1 a2 l0)) + cntv_Message (tkM a1 a2 l0))) (q := ((1 + cntS cnt_Channel (tkL a1 a2 l0)) + cntv_Message (tkM a1 a2 l0))) rfl rfl)) rfl rfl ?_
    refine ops_nil ?_
    refine then_n ?_
    refine cond_f rfl ?_
    refine wp_skip ?_
    refine then_n ?_
    refine wp_seq ?_
    refine reg_seq [0, 1, 2, 3, 4, 5, 6, 7, 8, 9, 10, 11, 12] rfl ?_
    refine ops_cons ?_
    refine op_pure rfl (rn_move rfl) rfl rfl ?_
    refine ops_cons ?_
    refine op_call rfl Try.call25 (vs := #[.slice A0 l0.length c0]) rfl rfl rfl (toS_Channel l0 _ _ _ (C_upd H131.1 hC0) hs_l0) ?_
    rintro e136 W135 ⟨v133, rfl, hR134, hu132⟩; refine ⟨_, rfl, ?_⟩
    obtain ⟨B_28_1, c_28_1, rfl⟩ := R_slice hR134
    have H137 := H131.new (q := hR ki_Channel 142 (.slice B_28_1 l0.length c_28_1) l0) hu132 hR134; clear H131
    refine ops_cons ?_
    refine op_pure rfl (rn_move rfl) rfl rfl ?_
    refine ops_cons ?_
    refine op_pure rfl (rn_move rfl) rfl rfl ?_
    refine ops_cons ?_
    refine op_call rfl Try.call26 (vs := #[.slice B_28_1 l0.length c_28_1, .int .i64 (a1), .int .i64 (a2)]) rfl rfl rfl (takeMessage_I l0 a1 a2 _ _ _ (H137.rowC 0 rfl) hs_l0) ?_
    rintro e141 W140 ⟨B_28_4, c_28_4, cs_28_4, rfl, hst138, hu139⟩; refine ⟨_, rfl, ?_⟩
    have H142 := H137.news hu139 hst138; clear H137
    refine ops_cons ?_
    refine op_pure rfl (rn_move rfl) rfl rfl ?_
    refine ops_cons ?_
    refine op_pure rfl (rn_extract (v := .slice B_28_4 ((tkL a1 a2 l0).length) c_28_4) rfl rfl) rfl rfl ?_
    refine ops_cons ?_
    refine op_pure rfl (rn_extract (v := .agg (List.toArray cs_28_4)) rfl rfl) rfl rfl ?_
    refine ops_cons ?_
    refine op_pure rfl (rn_extract (v := .bool (tkB a1 a2 l0)) rfl rfl) rfl rfl ?_
    refine ops_cons ?_
    refine op_alloc rfl Try.zeroValue70 rfl rfl H142 ?_
    intro g_28_9 W143 hu144 Ha145; clear H142; clear hu144
    refine ops_cons ?_
    refine op_pure rfl (rn_assign rfl) rfl rfl ?_
    refine ops_cons ?_
    refine op_storeW rfl Try.sizeOf70 rfl rfl (ki_Message_len (Ha145.kn 2 rfl)) rfl (ki_Message_one (Ha145.kn 2 rfl)) Ha145 ?_
    intro W147 hu148 Ha149; clear Ha145; clear hu148
    refine ops_cons ?_
    refine op_pure rfl (rn_assign rfl) rfl rfl ?_
    refine ops_nil ?_
    refine then_n ?_
    refine wp_seq ?_
    refine wp_seq ?_
    refine reg_seq [0, 1, 2, 3, 4, 5, 6, 7, 8, 9, 10, 11, 12, 13, 14] rfl ?_
    refine ops_cons ?_
    refine op_pure rfl (rn_move rfl) rfl rfl ?_
    refine ops_cons ?_
    refine op_pure rfl (rn_move rfl) rfl rfl ?_
    refine ops_cons ?_
    refine op_call rfl Try.call27 (vs := #[.slice B_28_4 ((tkL a1 a2 l0).length) c_28_4, .slice B_5_4 ((tkL a1 a2 l0).length) c_5_4]) rfl rfl rfl (eqS_Channel (tkL a1 a2 l0) _ _ _ _ _ (Ha149.rowC 1 rfl) (Ha149.rowC 10 rfl)) ?_
    rintro e153 W152 ⟨rfl, hu151⟩; refine ⟨_, rfl, ?_⟩
    have H154 := Ha149.no hu151; clear Ha149
    refine ops_cons ?_
    refine op_pure rfl (rn_not rfl) rfl rfl ?_
    refine ops_cons ?_
    refine op_pure rfl (rn_move rfl) rfl rfl ?_
    refine ops_cons ?_
    refine op_G rfl rfl rfl rfl (fun _ ho155 => ?_)
    refine op_pure ho155 (rn_loadB Try.isAgg70 Try.sizeOf70 rfl (H154.blk 0 rfl) (ki_Message_len (H154.kn 2 rfl))) rfl rfl ?_
    refine ops_cons ?_
    refine op_G rfl rfl rfl rfl (fun _ ho156 => ?_)
    refine op_pure ho156 (rn_loadB Try.isAgg70 Try.sizeOf70 rfl (H154.blk 9 rfl) (ki_Message_len (H154.kn 11 rfl))) rfl rfl ?_
    refine ops_cons ?_
    refine op_G rfl rfl rfl rfl (fun _ ho157 => ?_)
    refine op_call ho157 Try.call28 (vs := #[.agg (List.toArray cs_28_4), .agg (List.toArray cs_5_4)]) rfl rfl rfl (eq_Message (tkM a1 a2 l0) _ _ _ (H154.kn 2 rfl) (H154.kn 11 rfl)) ?_
    rintro e160 W159 ⟨rfl, hu158⟩; refine ⟨_, rfl, ?_⟩
    have H161 := H154.no hu158; clear H154
    refine ops_cons ?_
    refine op_G rfl rfl rfl rfl (fun _ ho162 => ?_)
    refine op_pure ho162 (rn_not rfl) rfl rfl ?_
    refine ops_cons ?_
    refine op_pure rfl (rn_pick (v := .bool (false)) (b := false) rfl rfl rfl rfl) rfl rfl ?_
    refine ops_cons ?_
    refine op_pure rfl (rn_move rfl) rfl rfl ?_
    refine ops_cons ?_
    refine op_G rfl rfl rfl rfl (fun _ ho163 => ?_)
    refine op_pure ho163 (rn_move rfl) rfl rfl ?_
    refine ops_cons ?_
    refine op_G rfl rfl rfl rfl (fun _ ho164 => ?_)
    refine op_pure ho164 (rn_move rfl) rfl rfl ?_
    refine ops_cons ?_
    refine op_G rfl rfl rfl rfl (fun _ ho165 => ?_)
    refine op_pure ho165 (rn_neqB Try.runUnderlying4 rfl rfl) rfl rfl ?_
    refine ops_cons ?_
    refine op_pure rfl (rn_pick (v := .bool (false)) (b := false) rfl rfl rfl rfl) rfl rfl ?_
    refine ops_nil ?_
    refine then_n ?_
    refine cond_f rfl ?_
    refine wp_skip ?_
    refine then_n ?_
    refine wp_seq ?_
    refine reg_seq [0] rfl ?_
    refine ops_cons ?_
    refine op_pure rfl (rn_assign rfl) rfl rfl ?_
    refine ops_nil ?_
    refine then_n ?_
    refine wp_seq ?_
    refine reg_seq [0, 1, 2, 3] rfl ?_
    refine ops_cons ?_
    refine op_pure rfl (rn_move rfl) rfl rfl ?_
    refine ops_cons ?_
    refine op_pure rfl (rn_move rfl) rfl rfl ?_
    refine ops_cons ?_
    refine op_call rfl Try.call31 (vs := #[.slice B_7_3 ((tkL a1 a2 l0).length) c_7_3, .int .i64 (1)]) rfl rfl rfl (heldS_Channel (tkL a1 a2 l0) _ _ _ _ (H161.rowC 5 rfl) (by omega) (by omega)) ?_
    rintro e168 W167 ⟨rfl, hu166⟩; refine ⟨_, rfl, ?_⟩
    have H169 := H161.no hu166; clear H161
    refine ops_cons ?_
    refine op_pure rfl (rn_assign rfl) rfl rfl ?_
    refine ops_nil ?_
    refine then_n ?_
    refine wp_seq ?_
    refine wp_seq ?_
    refine reg_seq [0, 1] rfl ?_
    refine ops_cons ?_
    refine op_pure rfl (rn_move rfl) rfl rfl ?_
    refine ops_cons ?_
    refine op_pure rfl (rn_decF (p := ((1 + cntS cnt_Channel (tkL a1 a2 l0)) : Int) < 0) (by omega) (rn_lss (p := (1 + cntS cnt_Channel (tkL a1 a2 l0))) (q := 0) rfl rfl)) rfl rfl ?_
    refine ops_nil ?_
    refine then_n ?_
    refine cond_f rfl ?_
    refine wp_skip ?_
    refine then_n ?_
    refine wp_seq ?_
    refine reg_seq [0, 1, 2, 3] rfl ?_
    refine ops_cons ?_
    refine op_pure rfl (rn_loadB Try.isAgg70 Try.sizeOf70 rfl (H169.blk 8 rfl) (ki_Message_len (H169.kn 4 rfl))) rfl rfl ?_
    refine ops_cons ?_
    refine op_pure rfl (rn_move rfl) rfl rfl ?_
    refine ops_cons ?_
    refine op_call rfl Try.call32 (vs := #[.agg (List.toArray cs_7_3), .int .i64 ((1 + cntS cnt_Channel (tkL a1 a2 l0)))]) rfl rfl rfl (heldv_Message_c (tkM a1 a2 l0) _ _ _ (H169.kn 4 rfl) (by omega) (by omega)) ?_
    rintro e172 W171 ⟨rfl, hu170⟩; refine ⟨_, rfl, ?_⟩
    have H173 := H169.no hu170; clear H169
    refine ops_cons ?_
    refine op_pure rfl (rn_assign rfl) rfl rfl ?_
    refine ops_nil ?_
    refine then_n ?_
    refine wp_seq ?_
    refine wp_seq ?_
    refine reg_seq [0, 1] rfl ?_
    refine ops_cons ?_
    refine op_pure rfl (rn_move rfl) rfl rfl ?_
    refine ops_cons ?_
    refine op_pure rfl (rn_decF (p := (((1 + cntS cnt_Channel (tkL a1 a2 l0)) + cntv_Message (tkM a1 a2 l0)) : Int) < 0) (by omega) (rn_lss (p := ((1 + cntS cnt_Channel (tkL a1 a2 l0)) + cntv_Message (tkM a1 a2 l0))) (q := 0) rfl rfl)) rfl rfl ?_
    refine ops_nil ?_
    refine then_n ?_
    refine cond_f rfl ?_
    refine wp_skip ?_
    refine then_n ?_
    refine wp_seq ?_
    refine wp_seq ?_
    refine reg_seq [0, 1, 2] rfl ?_
    refine ops_cons ?_
    refine op_pure rfl (rn_move rfl) rfl rfl ?_
    refine ops_cons ?_
    refine op_pure rfl (rn_move rfl) rfl rfl ?_
    refine ops_cons ?_
    refine op_pure rfl (rn_decF (p := ¬ (((1 + cntS cnt_Channel (tkL a1 a2 l0)) + cntv_Message (tkM a1 a2 l0)) : Int) = ((1 + cntS cnt_Channel (tkL a1 a2 l0)) + cntv_Message (tkM a1 a2 l0))) (not_not_intro rfl) (rn_neq (p := ((1 + cntS cnt_Channel (tkL a1 a2 l0)) + cntv_Message (tkM a1 a2 l0))) (q := ((1 + cntS cnt_Channel (tkL a1 a2 l0)) + cntv_Message (tkM a1 a2 l0))) rfl rfl)) rfl rfl ?_
    refine ops_nil ?_
    refine then_n ?_
    refine cond_f rfl ?_
    refine wp_skip ?_
    refine then_n ?_
    refine wp_seq ?_
    refine reg_seq [0] rfl ?_
    refine ops_cons ?_
    refine op_pure rfl (rn_assign rfl) rfl rfl ?_
    refine ops_nil ?_
    refine then_n ?_
    refine wp_ret ?_
    refine post_tmp (.inl rfl) Try.results5 rfl ?_
    exact ⟨rfl, H173.1⟩
end Go.Proofs.YtfnedoiplblldaaFam
