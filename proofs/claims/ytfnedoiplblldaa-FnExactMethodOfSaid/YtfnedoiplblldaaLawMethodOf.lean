/- The law MethodOf, walked. No conditions. -/
import Derived.Test.YtfnedoiplblldaaProg
import Derived.Test.YtfnedoiplblldaaTy
import Derived.Test.YtfnedoiplblldaaOpn
import Derived.Test.YtfnedoiplblldaaMeth
import Derived.Test.YtfnedoiplblldaaT2
namespace Go.Proofs.YtfnedoiplblldaaFam
open Go.ChangeShapes Go.WideShapes Go.RowKit Go.Proofs.YtfnedoiplblldaaSep Go.Proofs.YtfnedoiplblldaaT Go.Proofs.YtfnedoiplblldaaK
set_option linter.unusedVariables false
set_option linter.unusedSimpArgs false
set_option maxHeartbeats 4000000 in
set_option maxRecDepth 100000 in
theorem law_FnExactMethodOf (w : World) (l0 : List GScript) (A0 : Option Addr) (c0 : Nat) (hC0 : C kl_Script w A0 l0) (hl0 : l0.length ≤ c0) (hG0 : l0.length ≤ 9223372036854775807 ∧ ∀ y ∈ l0, Gd_Script y) (a1 : Int) (w1 : (Lit.int .i64 a1).wf = true) (a2 : ByteArray) (y2 : a2.size ≤ 9223372036854775807) : Calls Try.prog 6 #[.slice A0 l0.length c0, .int .i64 a1, .string a2] w (RetBool true w) := by
  refine enter 109 [(0, .slice A0 l0.length c0), (1, .int .i64 (a1)), (2, .string (a2))] Try.func6 rfl (by kernel_rfl) ?_
  intro xj
  have H1 : St w No [] w := St.enter
  refine wp_seq ?_
  refine reg_seq [0] rfl ?_
  refine ops_cons ?_
  refine op_pure rfl (rn_assign rfl) rfl rfl ?_
  refine ops_nil ?_
  refine then_n ?_
  refine wp_seq ?_
  refine wp_seq ?_
  refine reg_seq [0, 1, 2] rfl ?_
  refine ops_cons ?_
  refine op_pure rfl (rn_move rfl) rfl rfl ?_
  refine ops_cons ?_
  refine op_pure rfl (rn_lenS Try.runUnderlying9 rfl) rfl rfl ?_
  refine ops_cons ?_
  refine op_pure rfl (rn_gtr rfl rfl) rfl rfl ?_
  refine ops_nil ?_
  refine then_n ?_
  refine cond_dec rfl (fun hc2 => ?_) (fun hc2 => ?_)
  · refine wp_seq ?_
    refine reg_seq [0] rfl ?_
    refine ops_cons ?_
    refine op_pure rfl (rn_assign rfl) rfl rfl ?_
    refine ops_nil ?_
    refine then_n ?_
    refine wp_ret ?_
    refine then_r ?_
    refine post_tmp (.inl rfl) Try.results6 rfl ?_
    exact ⟨rfl, H1.1⟩
  · refine wp_skip ?_
    refine then_n ?_
    refine wp_seq ?_
    refine reg_seq [0] rfl ?_
    refine ops_cons ?_
    refine op_pure rfl (rn_assign rfl) rfl rfl ?_
    refine ops_nil ?_
    refine then_n ?_
    refine wp_seq ?_
    refine reg_seq [0, 1, 2, 3] rfl ?_
    refine ops_cons ?_
    refine op_pure rfl (rn_move rfl) rfl rfl ?_
    refine ops_cons ?_
    refine op_pure rfl (rn_move rfl) rfl rfl ?_
    refine ops_cons ?_
    refine op_call rfl Try.call33 (vs := #[.slice A0 l0.length c0, .int .i64 (1048576)]) rfl rfl rfl (szS_Script l0 _ _ _ _ (C_upd H1.1 hC0) (fun y hy => Bd_of_Script (hG0.2 y hy)) (by omega) (by omega)) ?_
    rintro e7 W6 ⟨n4, rfl, hr5, hu3⟩
    refine ⟨_, rfl, ?_⟩
    have H8 : St w No [] W6 := H1.no hu3
    clear H1
    refine ops_cons ?_
    refine op_pure rfl (rn_assign rfl) rfl rfl ?_
    refine ops_nil ?_
    refine then_n ?_
    refine wp_seq ?_
    refine wp_seq ?_
    refine reg_seq [0, 1] rfl ?_
    refine ops_cons ?_
    refine op_pure rfl (rn_move rfl) rfl rfl ?_
    refine ops_cons ?_
    refine op_pure rfl (rn_lss rfl rfl) rfl rfl ?_
    refine ops_nil ?_
    refine then_n ?_
    refine cond_dec rfl (fun hc9 => ?_) (fun hc9 => ?_)
    · refine wp_seq ?_
      refine reg_seq [0] rfl ?_
      refine ops_cons ?_
      refine op_pure rfl (rn_assign rfl) rfl rfl ?_
      refine ops_nil ?_
      refine then_n ?_
      refine wp_ret ?_
      refine then_r ?_
      refine post_tmp (.inl rfl) Try.results6 rfl ?_
      exact ⟨rfl, H8.1⟩
    · have hs_l0 : sznS szn_Script l0 ≤ 1048576 := by omega
      have hn_l0 : l0.length ≤ 1048576 := by unfold sznS at hs_l0; omega
      refine wp_skip ?_
      refine then_n ?_
      refine wp_seq ?_
      have nn10 : 0 ≤ cntS cnt_Script l0 := cntS_nn cnt_Script cnt_Script_nn l0
      have nn10b := cntS_bound cnt_Script szn_Script cnt_Script_le l0
      have nn10c : sznS szn_Script l0 ≤ 4194304 := (Nat.le_trans hs_l0 (by decide))
      have nn11 : 0 ≤ cntv_Method (metM l0 a1 a2) := cntv_Method_nn (metM l0 a1 a2)
      have nn11b := cntv_Method_le (metM l0 a1 a2)
      have nn11c : szn_Method (metM l0 a1 a2) ≤ 4194304 := metM_bd l0 a1 a2 hs_l0
      refine reg_seq [0, 1, 2, 3, 4, 5, 6, 7, 8, 9, 10] rfl ?_
      refine ops_cons ?_
      refine op_pure rfl (rn_move rfl) rfl rfl ?_
      refine ops_cons ?_
      refine op_call rfl Try.call35 (vs := #[.slice A0 l0.length c0]) rfl rfl rfl (toS_Script l0 _ _ _ (C_upd H8.1 hC0) hs_l0) ?_
      rintro e16 W15 ⟨v13, rfl, hR14, hu12⟩
      refine ⟨_, rfl, ?_⟩
      obtain ⟨B_7_1, c_7_1, rfl⟩ := R_slice hR14
      have H17 : St w No [hR ki_Script 161 (.slice B_7_1 l0.length c_7_1) l0] W15 := H8.new hu12 hR14
      clear H8
      refine ops_cons ?_
      refine op_pure rfl (rn_move rfl) rfl rfl ?_
      refine ops_cons ?_
      refine op_pure rfl (rn_move rfl) rfl rfl ?_
      refine ops_cons ?_
      refine op_call rfl Try.call34 (vs := #[.slice B_7_1 l0.length c_7_1, .int .i64 (a1), .string (a2)]) rfl rfl rfl (methodOf_s l0 _ _ a1 a2 _ (H17.rowC 0 rfl) (Nat.le_trans hs_l0 (by decide))) ?_
      rintro e21 W20 ⟨cs_7_4, rfl, hM18, hu19⟩
      refine ⟨_, rfl, ?_⟩
      have H22 : St w No [hM ki_Method (metM l0 a1 a2) cs_7_4, hR ki_Script 161 (.slice B_7_1 l0.length c_7_1) l0] W20 := H17.new hu19 hM18
      clear H17
      refine ops_cons ?_
      refine op_pure rfl (rn_move rfl) rfl rfl ?_
      refine ops_cons ?_
      refine op_pure rfl (rn_extract (v := .agg (List.toArray cs_7_4)) rfl rfl) rfl rfl ?_
      refine ops_cons ?_
      refine op_pure rfl (rn_extract (v := .bool (metB l0 a1 a2)) rfl rfl) rfl rfl ?_
      refine ops_cons ?_
      refine op_alloc rfl Try.zeroValue83 rfl rfl H22 ?_
      intro g_7_8 W23 hu24 Ha25
      clear H22
      have H26 : St w No [hB g_7_8 83 #[.string (⟨#[]⟩), .slice none 0 0], hM ki_Method (metM l0 a1 a2) cs_7_4, hR ki_Script 161 (.slice B_7_1 l0.length c_7_1) l0] W23 := Ha25
      clear Ha25
      clear hu24
      refine ops_cons ?_
      refine op_storeW rfl Try.sizeOf83 rfl rfl (ki_Method_len (H26.kn 1 rfl)) rfl (ki_Method_one (H26.kn 1 rfl)) H26 ?_
      intro W27 hu28 Ha29
      clear H26
      have H30 : St w No [hB g_7_8 83 (List.toArray cs_7_4), hM ki_Method (metM l0 a1 a2) cs_7_4, hR ki_Script 161 (.slice B_7_1 l0.length c_7_1) l0] W27 := Ha29
      clear Ha29
      clear hu28
      refine ops_cons ?_
      refine op_pure rfl (rn_assign rfl) rfl rfl ?_
      refine ops_nil ?_
      refine then_n ?_
      refine wp_seq ?_
      refine reg_seq [0, 1, 2] rfl ?_
      refine ops_cons ?_
      refine op_pure rfl (rn_move rfl) rfl rfl ?_
      refine ops_cons ?_
      refine op_call rfl Try.call35 (vs := #[.slice A0 l0.length c0]) rfl rfl rfl (toS_Script l0 _ _ _ (C_upd H30.1 hC0) hs_l0) ?_
      rintro e35 W34 ⟨v32, rfl, hR33, hu31⟩
      refine ⟨_, rfl, ?_⟩
      obtain ⟨B_8_1, c_8_1, rfl⟩ := R_slice hR33
      have H36 : St w No [hR ki_Script 161 (.slice B_8_1 l0.length c_8_1) l0, hB g_7_8 83 (List.toArray cs_7_4), hM ki_Method (metM l0 a1 a2) cs_7_4, hR ki_Script 161 (.slice B_7_1 l0.length c_7_1) l0] W34 := H30.new hu31 hR33
      clear H30
      refine ops_cons ?_
      refine op_pure rfl (rn_assign rfl) rfl rfl ?_
      refine ops_nil ?_
      refine then_n ?_
      refine wp_seq ?_
      refine reg_seq [0, 1, 2, 3, 4, 5, 6, 7, 8, 9] rfl ?_
      refine ops_cons ?_
      refine op_pure rfl (rn_move rfl) rfl rfl ?_
      refine ops_cons ?_
      refine op_pure rfl (rn_move rfl) rfl rfl ?_
      refine ops_cons ?_
      refine op_pure rfl (rn_move rfl) rfl rfl ?_
      refine ops_cons ?_
      refine op_call rfl Try.call36 (vs := #[.slice B_8_1 l0.length c_8_1, .int .i64 (a1), .string (a2)]) rfl rfl rfl (methodOf_i l0 _ _ a1 a2 _ (H36.rowC 0 rfl) (Nat.le_trans hs_l0 (by decide))) ?_
      rintro e40 W39 ⟨cs_9_3, rfl, hM37, hu38⟩
      refine ⟨_, rfl, ?_⟩
      have H41 : St w No [hM ki_Method (metM l0 a1 a2) cs_9_3, hR ki_Script 161 (.slice B_8_1 l0.length c_8_1) l0, hB g_7_8 83 (List.toArray cs_7_4), hM ki_Method (metM l0 a1 a2) cs_7_4, hR ki_Script 161 (.slice B_7_1 l0.length c_7_1) l0] W39 := H36.new hu38 hM37
      clear H36
      refine ops_cons ?_
      refine op_pure rfl (rn_move rfl) rfl rfl ?_
      refine ops_cons ?_
      refine op_pure rfl (rn_extract (v := .agg (List.toArray cs_9_3)) rfl rfl) rfl rfl ?_
      refine ops_cons ?_
      refine op_pure rfl (rn_extract (v := .bool (metB l0 a1 a2)) rfl rfl) rfl rfl ?_
      refine ops_cons ?_
      refine op_alloc rfl Try.zeroValue83 rfl rfl H41 ?_
      intro g_9_7 W42 hu43 Ha44
      clear H41
      have H45 : St w No [hB g_9_7 83 #[.string (⟨#[]⟩), .slice none 0 0], hM ki_Method (metM l0 a1 a2) cs_9_3, hR ki_Script 161 (.slice B_8_1 l0.length c_8_1) l0, hB g_7_8 83 (List.toArray cs_7_4), hM ki_Method (metM l0 a1 a2) cs_7_4, hR ki_Script 161 (.slice B_7_1 l0.length c_7_1) l0] W42 := Ha44
      clear Ha44
      clear hu43
      refine ops_cons ?_
      refine op_storeW rfl Try.sizeOf83 rfl rfl (ki_Method_len (H45.kn 1 rfl)) rfl (ki_Method_one (H45.kn 1 rfl)) H45 ?_
      intro W46 hu47 Ha48
      clear H45
      have H49 : St w No [hB g_9_7 83 (List.toArray cs_9_3), hM ki_Method (metM l0 a1 a2) cs_9_3, hR ki_Script 161 (.slice B_8_1 l0.length c_8_1) l0, hB g_7_8 83 (List.toArray cs_7_4), hM ki_Method (metM l0 a1 a2) cs_7_4, hR ki_Script 161 (.slice B_7_1 l0.length c_7_1) l0] W46 := Ha48
      clear Ha48
      clear hu47
      refine ops_cons ?_
      refine op_pure rfl (rn_assign rfl) rfl rfl ?_
      refine ops_nil ?_
      refine then_n ?_
      refine wp_seq ?_
      refine wp_seq ?_
      refine reg_seq [0, 1, 2, 3, 4, 5, 6, 7, 8] rfl ?_
      refine ops_cons ?_
      refine op_pure rfl (rn_loadB Try.isAgg83 Try.sizeOf83 rfl (H49.blk 0 rfl) (ki_Method_len (H49.kn 1 rfl))) rfl rfl ?_
      refine ops_cons ?_
      refine op_pure rfl (rn_loadB Try.isAgg83 Try.sizeOf83 rfl (H49.blk 3 rfl) (ki_Method_len (H49.kn 4 rfl))) rfl rfl ?_
      refine ops_cons ?_
      refine op_call rfl Try.call37 (vs := #[.agg (List.toArray cs_9_3), .agg (List.toArray cs_7_4)]) rfl rfl rfl (eq_Method (metM l0 a1 a2) _ _ _ (H49.kn 1 rfl) (H49.kn 4 rfl)) ?_
      rintro e52 W51 ⟨rfl, hu50⟩
      refine ⟨_, rfl, ?_⟩
      have H53 : St w No [hB g_9_7 83 (List.toArray cs_9_3), hM ki_Method (metM l0 a1 a2) cs_9_3, hR ki_Script 161 (.slice B_8_1 l0.length c_8_1) l0, hB g_7_8 83 (List.toArray cs_7_4), hM ki_Method (metM l0 a1 a2) cs_7_4, hR ki_Script 161 (.slice B_7_1 l0.length c_7_1) l0] W51 := H49.no hu50
      clear H49
      refine ops_cons ?_
      refine op_pure rfl (rn_not rfl) rfl rfl ?_
      refine ops_cons ?_
      refine op_pure rfl (rn_move rfl) rfl rfl ?_
      refine ops_cons ?_
      refine op_G rfl rfl rfl rfl (fun _ ho54 => ?_)
      refine op_pure ho54 (rn_move rfl) rfl rfl ?_
      refine ops_cons ?_
      refine op_G rfl rfl rfl rfl (fun _ ho55 => ?_)
      refine op_pure ho55 (rn_move rfl) rfl rfl ?_
      refine ops_cons ?_
      refine op_G rfl rfl rfl rfl (fun _ ho56 => ?_)
      refine op_pure ho56 (rn_neqB Try.runUnderlying4 rfl rfl) rfl rfl ?_
      refine ops_cons ?_
      refine op_pure rfl (rn_pick (v := .bool (false)) (b := false) rfl rfl rfl rfl) rfl rfl ?_
      refine ops_nil ?_
      refine then_n ?_
      refine cond_f rfl ?_
      refine wp_skip ?_
      refine then_n ?_
      refine wp_seq ?_
      refine wp_seq ?_
      refine reg_seq [0, 1, 2, 3, 4] rfl ?_
      refine ops_cons ?_
      refine op_pure rfl (rn_move rfl) rfl rfl ?_
      refine ops_cons ?_
      refine op_pure rfl (rn_move rfl) rfl rfl ?_
      refine ops_cons ?_
      refine op_call rfl Try.call35 (vs := #[.slice A0 l0.length c0]) rfl rfl rfl (toS_Script l0 _ _ _ (C_upd H53.1 hC0) hs_l0) ?_
      rintro e61 W60 ⟨v58, rfl, hR59, hu57⟩
      refine ⟨_, rfl, ?_⟩
      obtain ⟨B_12_2, c_12_2, rfl⟩ := R_slice hR59
      have H62 : St w No [hR ki_Script 161 (.slice B_12_2 l0.length c_12_2) l0, hB g_9_7 83 (List.toArray cs_9_3), hM ki_Method (metM l0 a1 a2) cs_9_3, hR ki_Script 161 (.slice B_8_1 l0.length c_8_1) l0, hB g_7_8 83 (List.toArray cs_7_4), hM ki_Method (metM l0 a1 a2) cs_7_4, hR ki_Script 161 (.slice B_7_1 l0.length c_7_1) l0] W60 := H53.new hu57 hR59
      clear H53
      refine ops_cons ?_
      refine op_call rfl Try.call38 (vs := #[.slice B_8_1 l0.length c_8_1, .slice B_12_2 l0.length c_12_2]) rfl rfl rfl (eqS_Script l0 _ _ _ _ _ (H62.rowC 3 rfl) (H62.rowC 0 rfl)) ?_
      rintro e65 W64 ⟨rfl, hu63⟩
      refine ⟨_, rfl, ?_⟩
      have H66 : St w No [hR ki_Script 161 (.slice B_12_2 l0.length c_12_2) l0, hB g_9_7 83 (List.toArray cs_9_3), hM ki_Method (metM l0 a1 a2) cs_9_3, hR ki_Script 161 (.slice B_8_1 l0.length c_8_1) l0, hB g_7_8 83 (List.toArray cs_7_4), hM ki_Method (metM l0 a1 a2) cs_7_4, hR ki_Script 161 (.slice B_7_1 l0.length c_7_1) l0] W64 := H62.no hu63
      clear H62
      refine ops_cons ?_
      refine op_pure rfl (rn_not rfl) rfl rfl ?_
      refine ops_nil ?_
      refine then_n ?_
      refine cond_f rfl ?_
      refine wp_skip ?_
      refine then_n ?_
      refine wp_seq ?_
      refine reg_seq [0] rfl ?_
      refine ops_cons ?_
      refine op_pure rfl (rn_assign rfl) rfl rfl ?_
      refine ops_nil ?_
      refine then_n ?_
      refine wp_seq ?_
      refine reg_seq [0, 1, 2, 3] rfl ?_
      refine ops_cons ?_
      refine op_pure rfl (rn_move rfl) rfl rfl ?_
      refine ops_cons ?_
      refine op_pure rfl (rn_move rfl) rfl rfl ?_
      refine ops_cons ?_
      have H73 : St w No [hR ki_Script 161 (.slice B_8_1 l0.length c_8_1) l0, hR ki_Script 161 (.slice B_12_2 l0.length c_12_2) l0, hB g_9_7 83 (List.toArray cs_9_3), hM ki_Method (metM l0 a1 a2) cs_9_3, hB g_7_8 83 (List.toArray cs_7_4), hM ki_Method (metM l0 a1 a2) cs_7_4, hR ki_Script 161 (.slice B_7_1 l0.length c_7_1) l0] W64 := H66.pick [3, 0, 1, 2, 4, 5, 6] (by decide) rfl
      clear H66
      obtain ⟨F68, hM69, hF70, hT71⟩ := H73.turn
      refine op_call rfl Try.call39 (vs := #[.slice B_8_1 l0.length c_8_1, .int .i64 (1)]) rfl rfl rfl (markS_Script l0 _ F68 _ _ hM69 (by omega) (by omega)) ?_
      rintro e75 W74 ⟨rfl, hM72, hu67⟩
      refine ⟨_, rfl, ?_⟩
      have H76 : St w No [hR ki_Script 161 (.slice B_8_1 l0.length c_8_1) (mkS mk_Script cnt_Script 1 l0), hR ki_Script 161 (.slice B_12_2 l0.length c_12_2) l0, hB g_9_7 83 (List.toArray cs_9_3), hM ki_Method (metM l0 a1 a2) cs_9_3, hB g_7_8 83 (List.toArray cs_7_4), hM ki_Method (metM l0 a1 a2) cs_7_4, hR ki_Script 161 (.slice B_7_1 l0.length c_7_1) l0] W74 := hT71 (hR ki_Script 161 (.slice B_8_1 l0.length c_8_1) (mkS mk_Script cnt_Script 1 l0)) _ hu67 ((hR ki_Script 161 (.slice B_8_1 l0.length c_8_1) (mkS mk_Script cnt_Script 1 l0)).mono (fun _ q => .inl q) hM72)
      clear H73
      refine ops_cons ?_
      refine op_pure rfl (rn_assign rfl) rfl rfl ?_
      refine ops_nil ?_
      refine then_n ?_
      refine wp_seq ?_
      refine wp_seq ?_
      refine reg_seq [0, 1, 2, 3, 4, 5, 6, 7, 8, 9, 10, 11, 12] rfl ?_
      refine ops_cons ?_
      refine op_pure rfl (rn_move rfl) rfl rfl ?_
      refine ops_cons ?_
      refine op_pure rfl (rn_decF (by omega) (rn_lss rfl rfl)) rfl rfl ?_
      refine ops_cons ?_
      refine op_pure rfl (rn_move rfl) rfl rfl ?_
      refine ops_cons ?_
      refine op_G rfl rfl rfl rfl (fun _ ho77 => ?_)
      refine op_pure ho77 (rn_loadB Try.isAgg83 Try.sizeOf83 rfl (H76.blk 2 rfl) (ki_Method_len (H76.kn 3 rfl))) rfl rfl ?_
      refine ops_cons ?_
      refine op_G rfl rfl rfl rfl (fun _ ho78 => ?_)
      refine op_pure ho78 (rn_loadB Try.isAgg83 Try.sizeOf83 rfl (H76.blk 4 rfl) (ki_Method_len (H76.kn 5 rfl))) rfl rfl ?_
      refine ops_cons ?_
      refine op_G rfl rfl rfl rfl (fun _ ho79 => ?_)
      refine op_call ho79 Try.call37 (vs := #[.agg (List.toArray cs_9_3), .agg (List.toArray cs_7_4)]) rfl rfl rfl (eq_Method (metM l0 a1 a2) _ _ _ (H76.kn 3 rfl) (H76.kn 5 rfl)) ?_
      rintro e82 W81 ⟨rfl, hu80⟩
      refine ⟨_, rfl, ?_⟩
      have H83 : St w No [hR ki_Script 161 (.slice B_8_1 l0.length c_8_1) (mkS mk_Script cnt_Script 1 l0), hR ki_Script 161 (.slice B_12_2 l0.length c_12_2) l0, hB g_9_7 83 (List.toArray cs_9_3), hM ki_Method (metM l0 a1 a2) cs_9_3, hB g_7_8 83 (List.toArray cs_7_4), hM ki_Method (metM l0 a1 a2) cs_7_4, hR ki_Script 161 (.slice B_7_1 l0.length c_7_1) l0] W81 := H76.no hu80
      clear H76
      refine ops_cons ?_
      refine op_G rfl rfl rfl rfl (fun _ ho84 => ?_)
      refine op_pure ho84 (rn_not rfl) rfl rfl ?_
      refine ops_cons ?_
      refine op_pure rfl (rn_pick (v := .bool (false)) (b := false) rfl rfl rfl rfl) rfl rfl ?_
      refine ops_cons ?_
      refine op_pure rfl (rn_move rfl) rfl rfl ?_
      refine ops_cons ?_
      refine op_G rfl rfl rfl rfl (fun _ ho85 => ?_)
      refine op_pure ho85 (rn_move rfl) rfl rfl ?_
      refine ops_cons ?_
      refine op_G rfl rfl rfl rfl (fun _ ho86 => ?_)
      refine op_pure ho86 (rn_move rfl) rfl rfl ?_
      refine ops_cons ?_
      refine op_G rfl rfl rfl rfl (fun _ ho87 => ?_)
      refine op_pure ho87 (rn_neqB Try.runUnderlying4 rfl rfl) rfl rfl ?_
      refine ops_cons ?_
      refine op_pure rfl (rn_pick (v := .bool (false)) (b := false) rfl rfl rfl rfl) rfl rfl ?_
      refine ops_nil ?_
      refine then_n ?_
      refine cond_f rfl ?_
      refine wp_skip ?_
      refine then_n ?_
      refine wp_seq ?_
      refine reg_seq [0] rfl ?_
      refine ops_cons ?_
      refine op_pure rfl (rn_assign rfl) rfl rfl ?_
      refine ops_nil ?_
      refine then_n ?_
      refine wp_seq ?_
      refine reg_seq [0, 1, 2, 3] rfl ?_
      refine ops_cons ?_
      refine op_pure rfl (rn_loadB Try.isAgg83 Try.sizeOf83 rfl (H83.blk 2 rfl) (ki_Method_len (H83.kn 3 rfl))) rfl rfl ?_
      refine ops_cons ?_
      refine op_pure rfl (rn_move rfl) rfl rfl ?_
      refine ops_cons ?_
      have H94 : St w No [hM ki_Method (metM l0 a1 a2) cs_9_3, hR ki_Script 161 (.slice B_8_1 l0.length c_8_1) (mkS mk_Script cnt_Script 1 l0), hR ki_Script 161 (.slice B_12_2 l0.length c_12_2) l0, hB g_9_7 83 (List.toArray cs_9_3), hB g_7_8 83 (List.toArray cs_7_4), hM ki_Method (metM l0 a1 a2) cs_7_4, hR ki_Script 161 (.slice B_7_1 l0.length c_7_1) l0] W81 := H83.pick [3, 0, 1, 2, 4, 5, 6] (by decide) rfl
      clear H83
      obtain ⟨F89, hM90, hF91, hT92⟩ := H94.turn
      refine op_call rfl Try.call40 (vs := #[.agg (List.toArray cs_9_3), .int .i64 (1)]) rfl rfl rfl (markv_Method_c (metM l0 a1 a2) _ F89 _ _ hM90 (by omega) (by omega)) ?_
      rintro e96 W95 ⟨rfl, hM93, hu88⟩
      refine ⟨_, rfl, ?_⟩
      have H97 : St w No [hM ki_Method (mkv_Method 1 (metM l0 a1 a2)) cs_9_3, hR ki_Script 161 (.slice B_8_1 l0.length c_8_1) (mkS mk_Script cnt_Script 1 l0), hR ki_Script 161 (.slice B_12_2 l0.length c_12_2) l0, hB g_9_7 83 (List.toArray cs_9_3), hB g_7_8 83 (List.toArray cs_7_4), hM ki_Method (metM l0 a1 a2) cs_7_4, hR ki_Script 161 (.slice B_7_1 l0.length c_7_1) l0] W95 := hT92 (hM ki_Method (mkv_Method 1 (metM l0 a1 a2)) cs_9_3) _ hu88 ((hM ki_Method (mkv_Method 1 (metM l0 a1 a2)) cs_9_3).mono (fun _ q => .inl q) hM93)
      clear H94
      refine ops_cons ?_
      refine op_pure rfl (rn_assign rfl) rfl rfl ?_
      refine ops_nil ?_
      refine then_n ?_
      refine wp_seq ?_
      refine reg_seq [0] rfl ?_
      refine ops_cons ?_
      refine op_pure rfl (rn_assign rfl) rfl rfl ?_
      refine ops_nil ?_
      refine then_n ?_
      refine wp_seq ?_
      refine reg_seq [0, 1, 2, 3] rfl ?_
      refine ops_cons ?_
      refine op_pure rfl (rn_loadB Try.isAgg83 Try.sizeOf83 rfl (H97.blk 3 rfl) (ki_Method_len (H97.kn 0 rfl))) rfl rfl ?_
      refine ops_cons ?_
      refine op_pure rfl (rn_move rfl) rfl rfl ?_
      refine ops_cons ?_
      refine op_call rfl Try.call41 (vs := #[.agg (List.toArray cs_9_3), .int .i64 (1)]) rfl rfl rfl (heldv_Method_c (metM l0 a1 a2) _ _ _ (H97.kn 0 rfl) (by omega) (by omega)) ?_
      rintro e100 W99 ⟨rfl, hu98⟩
      refine ⟨_, rfl, ?_⟩
      have H101 : St w No [hM ki_Method (mkv_Method 1 (metM l0 a1 a2)) cs_9_3, hR ki_Script 161 (.slice B_8_1 l0.length c_8_1) (mkS mk_Script cnt_Script 1 l0), hR ki_Script 161 (.slice B_12_2 l0.length c_12_2) l0, hB g_9_7 83 (List.toArray cs_9_3), hB g_7_8 83 (List.toArray cs_7_4), hM ki_Method (metM l0 a1 a2) cs_7_4, hR ki_Script 161 (.slice B_7_1 l0.length c_7_1) l0] W99 := H97.no hu98
      clear H97
      refine ops_cons ?_
      refine op_pure rfl (rn_assign rfl) rfl rfl ?_
      refine ops_nil ?_
      refine then_n ?_
      refine wp_seq ?_
      refine wp_seq ?_
      refine reg_seq [0, 1] rfl ?_
      refine ops_cons ?_
      refine op_pure rfl (rn_move rfl) rfl rfl ?_
      refine ops_cons ?_
      refine op_pure rfl (rn_decF (by omega) (rn_lss rfl rfl)) rfl rfl ?_
      refine ops_nil ?_
      refine then_n ?_
      refine cond_f rfl ?_
      refine wp_skip ?_
      refine then_n ?_
      refine wp_seq ?_
      refine wp_seq ?_
      refine reg_seq [0, 1, 2] rfl ?_
      refine ops_cons ?_
      refine op_pure rfl (rn_move rfl) rfl rfl ?_
      refine ops_cons ?_
      refine op_pure rfl (rn_move rfl) rfl rfl ?_
      refine ops_cons ?_
      refine op_pure rfl (rn_decF (not_not_intro rfl) (rn_neq rfl rfl)) rfl rfl ?_
      refine ops_nil ?_
      refine then_n ?_
      refine cond_f rfl ?_
      refine wp_skip ?_
      refine then_n ?_
      refine wp_seq ?_
      refine reg_seq [0, 1, 2, 3, 4, 5, 6, 7, 8, 9, 10] rfl ?_
      refine ops_cons ?_
      refine op_pure rfl (rn_move rfl) rfl rfl ?_
      refine ops_cons ?_
      refine op_call rfl Try.call35 (vs := #[.slice A0 l0.length c0]) rfl rfl rfl (toS_Script l0 _ _ _ (C_upd H101.1 hC0) hs_l0) ?_
      rintro e106 W105 ⟨v103, rfl, hR104, hu102⟩
      refine ⟨_, rfl, ?_⟩
      obtain ⟨B_26_1, c_26_1, rfl⟩ := R_slice hR104
      have H107 : St w No [hR ki_Script 161 (.slice B_26_1 l0.length c_26_1) l0, hM ki_Method (mkv_Method 1 (metM l0 a1 a2)) cs_9_3, hR ki_Script 161 (.slice B_8_1 l0.length c_8_1) (mkS mk_Script cnt_Script 1 l0), hR ki_Script 161 (.slice B_12_2 l0.length c_12_2) l0, hB g_9_7 83 (List.toArray cs_9_3), hB g_7_8 83 (List.toArray cs_7_4), hM ki_Method (metM l0 a1 a2) cs_7_4, hR ki_Script 161 (.slice B_7_1 l0.length c_7_1) l0] W105 := H101.new hu102 hR104
      clear H101
      refine ops_cons ?_
      refine op_pure rfl (rn_move rfl) rfl rfl ?_
      refine ops_cons ?_
      refine op_pure rfl (rn_move rfl) rfl rfl ?_
      refine ops_cons ?_
      refine op_call rfl Try.call36 (vs := #[.slice B_26_1 l0.length c_26_1, .int .i64 (a1), .string (a2)]) rfl rfl rfl (methodOf_i l0 _ _ a1 a2 _ (H107.rowC 0 rfl) (Nat.le_trans hs_l0 (by decide))) ?_
      rintro e111 W110 ⟨cs_26_4, rfl, hM108, hu109⟩
      refine ⟨_, rfl, ?_⟩
      have H112 : St w No [hM ki_Method (metM l0 a1 a2) cs_26_4, hR ki_Script 161 (.slice B_26_1 l0.length c_26_1) l0, hM ki_Method (mkv_Method 1 (metM l0 a1 a2)) cs_9_3, hR ki_Script 161 (.slice B_8_1 l0.length c_8_1) (mkS mk_Script cnt_Script 1 l0), hR ki_Script 161 (.slice B_12_2 l0.length c_12_2) l0, hB g_9_7 83 (List.toArray cs_9_3), hB g_7_8 83 (List.toArray cs_7_4), hM ki_Method (metM l0 a1 a2) cs_7_4, hR ki_Script 161 (.slice B_7_1 l0.length c_7_1) l0] W110 := H107.new hu109 hM108
      clear H107
      refine ops_cons ?_
      refine op_pure rfl (rn_move rfl) rfl rfl ?_
      refine ops_cons ?_
      refine op_pure rfl (rn_extract (v := .agg (List.toArray cs_26_4)) rfl rfl) rfl rfl ?_
      refine ops_cons ?_
      refine op_pure rfl (rn_extract (v := .bool (metB l0 a1 a2)) rfl rfl) rfl rfl ?_
      refine ops_cons ?_
      refine op_alloc rfl Try.zeroValue83 rfl rfl H112 ?_
      intro g_26_8 W113 hu114 Ha115
      clear H112
      have H116 : St w No [hB g_26_8 83 #[.string (⟨#[]⟩), .slice none 0 0], hM ki_Method (metM l0 a1 a2) cs_26_4, hR ki_Script 161 (.slice B_26_1 l0.length c_26_1) l0, hM ki_Method (mkv_Method 1 (metM l0 a1 a2)) cs_9_3, hR ki_Script 161 (.slice B_8_1 l0.length c_8_1) (mkS mk_Script cnt_Script 1 l0), hR ki_Script 161 (.slice B_12_2 l0.length c_12_2) l0, hB g_9_7 83 (List.toArray cs_9_3), hB g_7_8 83 (List.toArray cs_7_4), hM ki_Method (metM l0 a1 a2) cs_7_4, hR ki_Script 161 (.slice B_7_1 l0.length c_7_1) l0] W113 := Ha115
      clear Ha115
      clear hu114
      refine ops_cons ?_
      refine op_storeW rfl Try.sizeOf83 rfl rfl (ki_Method_len (H116.kn 1 rfl)) rfl (ki_Method_one (H116.kn 1 rfl)) H116 ?_
      intro W117 hu118 Ha119
      clear H116
      have H120 : St w No [hB g_26_8 83 (List.toArray cs_26_4), hM ki_Method (metM l0 a1 a2) cs_26_4, hR ki_Script 161 (.slice B_26_1 l0.length c_26_1) l0, hM ki_Method (mkv_Method 1 (metM l0 a1 a2)) cs_9_3, hR ki_Script 161 (.slice B_8_1 l0.length c_8_1) (mkS mk_Script cnt_Script 1 l0), hR ki_Script 161 (.slice B_12_2 l0.length c_12_2) l0, hB g_9_7 83 (List.toArray cs_9_3), hB g_7_8 83 (List.toArray cs_7_4), hM ki_Method (metM l0 a1 a2) cs_7_4, hR ki_Script 161 (.slice B_7_1 l0.length c_7_1) l0] W117 := Ha119
      clear Ha119
      clear hu118
      refine ops_cons ?_
      refine op_pure rfl (rn_assign rfl) rfl rfl ?_
      refine ops_nil ?_
      refine then_n ?_
      refine wp_seq ?_
      refine wp_seq ?_
      refine reg_seq [0, 1, 2, 3, 4, 5, 6, 7, 8] rfl ?_
      refine ops_cons ?_
      refine op_pure rfl (rn_loadB Try.isAgg83 Try.sizeOf83 rfl (H120.blk 0 rfl) (ki_Method_len (H120.kn 1 rfl))) rfl rfl ?_
      refine ops_cons ?_
      refine op_pure rfl (rn_loadB Try.isAgg83 Try.sizeOf83 rfl (H120.blk 7 rfl) (ki_Method_len (H120.kn 8 rfl))) rfl rfl ?_
      refine ops_cons ?_
      refine op_call rfl Try.call37 (vs := #[.agg (List.toArray cs_26_4), .agg (List.toArray cs_7_4)]) rfl rfl rfl (eq_Method (metM l0 a1 a2) _ _ _ (H120.kn 1 rfl) (H120.kn 8 rfl)) ?_
      rintro e123 W122 ⟨rfl, hu121⟩
      refine ⟨_, rfl, ?_⟩
      have H124 : St w No [hB g_26_8 83 (List.toArray cs_26_4), hM ki_Method (metM l0 a1 a2) cs_26_4, hR ki_Script 161 (.slice B_26_1 l0.length c_26_1) l0, hM ki_Method (mkv_Method 1 (metM l0 a1 a2)) cs_9_3, hR ki_Script 161 (.slice B_8_1 l0.length c_8_1) (mkS mk_Script cnt_Script 1 l0), hR ki_Script 161 (.slice B_12_2 l0.length c_12_2) l0, hB g_9_7 83 (List.toArray cs_9_3), hB g_7_8 83 (List.toArray cs_7_4), hM ki_Method (metM l0 a1 a2) cs_7_4, hR ki_Script 161 (.slice B_7_1 l0.length c_7_1) l0] W122 := H120.no hu121
      clear H120
      refine ops_cons ?_
      refine op_pure rfl (rn_not rfl) rfl rfl ?_
      refine ops_cons ?_
      refine op_pure rfl (rn_move rfl) rfl rfl ?_
      refine ops_cons ?_
      refine op_G rfl rfl rfl rfl (fun _ ho125 => ?_)
      refine op_pure ho125 (rn_move rfl) rfl rfl ?_
      refine ops_cons ?_
      refine op_G rfl rfl rfl rfl (fun _ ho126 => ?_)
      refine op_pure ho126 (rn_move rfl) rfl rfl ?_
      refine ops_cons ?_
      refine op_G rfl rfl rfl rfl (fun _ ho127 => ?_)
      refine op_pure ho127 (rn_neqB Try.runUnderlying4 rfl rfl) rfl rfl ?_
      refine ops_cons ?_
      refine op_pure rfl (rn_pick (v := .bool (false)) (b := false) rfl rfl rfl rfl) rfl rfl ?_
      refine ops_nil ?_
      refine then_n ?_
      refine cond_f rfl ?_
      refine wp_skip ?_
      refine then_n ?_
      refine wp_seq ?_
      refine reg_seq [0] rfl ?_
      refine ops_cons ?_
      refine op_pure rfl (rn_assign rfl) rfl rfl ?_
      refine ops_nil ?_
      refine then_n ?_
      refine wp_seq ?_
      refine reg_seq [0, 1, 2, 3] rfl ?_
      refine ops_cons ?_
      refine op_pure rfl (rn_loadB Try.isAgg83 Try.sizeOf83 rfl (H124.blk 6 rfl) (ki_Method_len (H124.kn 3 rfl))) rfl rfl ?_
      refine ops_cons ?_
      refine op_pure rfl (rn_move rfl) rfl rfl ?_
      refine ops_cons ?_
      refine op_call rfl Try.call41 (vs := #[.agg (List.toArray cs_9_3), .int .i64 (1)]) rfl rfl rfl (heldv_Method_c (metM l0 a1 a2) _ _ _ (H124.kn 3 rfl) (by omega) (by omega)) ?_
      rintro e130 W129 ⟨rfl, hu128⟩
      refine ⟨_, rfl, ?_⟩
      have H131 : St w No [hB g_26_8 83 (List.toArray cs_26_4), hM ki_Method (metM l0 a1 a2) cs_26_4, hR ki_Script 161 (.slice B_26_1 l0.length c_26_1) l0, hM ki_Method (mkv_Method 1 (metM l0 a1 a2)) cs_9_3, hR ki_Script 161 (.slice B_8_1 l0.length c_8_1) (mkS mk_Script cnt_Script 1 l0), hR ki_Script 161 (.slice B_12_2 l0.length c_12_2) l0, hB g_9_7 83 (List.toArray cs_9_3), hB g_7_8 83 (List.toArray cs_7_4), hM ki_Method (metM l0 a1 a2) cs_7_4, hR ki_Script 161 (.slice B_7_1 l0.length c_7_1) l0] W129 := H124.no hu128
      clear H124
      refine ops_cons ?_
      refine op_pure rfl (rn_assign rfl) rfl rfl ?_
      refine ops_nil ?_
      refine then_n ?_
      refine wp_seq ?_
      refine wp_seq ?_
      refine reg_seq [0, 1] rfl ?_
      refine ops_cons ?_
      refine op_pure rfl (rn_move rfl) rfl rfl ?_
      refine ops_cons ?_
      refine op_pure rfl (rn_decF (by omega) (rn_lss rfl rfl)) rfl rfl ?_
      refine ops_nil ?_
      refine then_n ?_
      refine cond_f rfl ?_
      refine wp_skip ?_
      refine then_n ?_
      refine wp_seq ?_
      refine wp_seq ?_
      refine reg_seq [0, 1, 2] rfl ?_
      refine ops_cons ?_
      refine op_pure rfl (rn_move rfl) rfl rfl ?_
      refine ops_cons ?_
      refine op_pure rfl (rn_move rfl) rfl rfl ?_
      refine ops_cons ?_
      refine op_pure rfl (rn_decF (not_not_intro rfl) (rn_neq rfl rfl)) rfl rfl ?_
      refine ops_nil ?_
      refine then_n ?_
      refine cond_f rfl ?_
      refine wp_skip ?_
      refine then_n ?_
      refine wp_seq ?_
      refine reg_seq [0] rfl ?_
      refine ops_cons ?_
      refine op_pure rfl (rn_assign rfl) rfl rfl ?_
      refine ops_nil ?_
      refine then_n ?_
      refine wp_ret ?_
      refine post_tmp (.inl rfl) Try.results6 rfl ?_
      exact ⟨rfl, H131.1⟩
end Go.Proofs.YtfnedoiplblldaaFam
