/- The law MakeObject, walked. No conditions. -/
import Derived.Test.YtfnedoiplblldaaGreatProg
import Derived.Test.YtfnedoiplblldaaGreatTy
import Derived.Test.YtfnedoiplblldaaGreatOpn
import Derived.Test.YtfnedoiplblldaaGreatSym3
import Derived.Test.YtfnedoiplblldaaGreatMakeO
import Derived.Test.YtfnedoiplblldaaGreatT2
namespace Go.Proofs.YtfnedoiplblldaaGreatFam
open Go.ChangeShapes Go.WideShapes Go.RowKit Go.Proofs.YtfnedoiplblldaaGreatSep Go.Proofs.YtfnedoiplblldaaGreatT Go.Proofs.YtfnedoiplblldaaGreatK
set_option linter.unusedVariables false
set_option linter.unusedSimpArgs false
set_option maxHeartbeats 4000000 in
set_option maxRecDepth 100000 in
theorem law_FnExactMakeObject (w : World) (x0 : GVat) (cs0 : List Value) (hK0 : kl_Vat.K w x0 cs0) (hG0 : Gd_Vat x0) (a1 : Int) (w1 : (Lit.int .i64 a1).wf = true) (l2 : List GValue) (A2 : Option Addr) (c2 : Nat) (hC2 : C kl_Value w A2 l2) (hl2 : l2.length ≤ c2) (hG2 : l2.length ≤ 9223372036854775807 ∧ ∀ y ∈ l2, Gd_Value y) : Calls Tryz.prog 6 #[.agg cs0.toArray, .int .i64 a1, .slice A2 l2.length c2] w (RetBool true w) := by
  have hl0_ : cs0.length = 5 := kl_Vat.K_len hK0
  have ho0_ : ∀ u ∈ (List.toArray cs0).toList, u.oneCell' = true := kl_Vat.K_one hK0
  refine enter 124 [(0, .agg (List.toArray cs0)), (1, .int .i64 (a1)), (2, .slice A2 l2.length c2)] Tryz.func6 rfl (by kernel_rfl) ?_
  intro xj
  have H1 : St w No [] w := St.enter
  refine wp_seq ?_
  refine reg_seq [0, 1] rfl ?_
  refine ops_cons ?_
  refine op_box rfl rfl rfl rfl H1 ?_
  intro g_0_0 W2 hu3 Ha4
  clear H1
  have H5 : St w No [hB g_0_0 55 (List.toArray cs0)] W2 := Ha4
  clear Ha4
  clear hu3
  refine ops_cons ?_
  refine op_pure rfl (rn_assign rfl) rfl rfl ?_
  refine ops_nil ?_
  refine then_n ?_
  refine wp_seq ?_
  refine reg_seq [0] rfl ?_
  refine ops_cons ?_
  refine op_pure rfl (rn_assign rfl) rfl rfl ?_
  refine ops_nil ?_
  refine then_n ?_
  refine wp_seq ?_
  refine reg_seq [0, 1, 2, 3] rfl ?_
  refine ops_cons ?_
  refine op_pure rfl (rn_loadB Tryz.isAgg55 Tryz.sizeOf55 rfl (H5.blk 0 rfl) hl0_) rfl rfl ?_
  refine ops_cons ?_
  refine op_pure rfl (rn_move rfl) rfl rfl ?_
  refine ops_cons ?_
  refine op_call rfl Tryz.call24 (vs := #[.agg (List.toArray cs0), .int .i64 (1048576)]) rfl rfl rfl (sz_Vat x0 _ _ _ (K_upd H5.1 hK0) (Bd_of_Vat hG0) (by omega) (by omega)) ?_
  rintro e10 W9 ⟨n7, rfl, hr8, hu6⟩
  refine ⟨_, rfl, ?_⟩
  have H11 : St w No [hB g_0_0 55 (List.toArray cs0)] W9 := H5.no hu6
  clear H5
  refine ops_cons ?_
  refine op_pure rfl (rn_assign rfl) rfl rfl ?_
  refine ops_nil ?_
  refine then_n ?_
  refine wp_seq ?_
  refine wp_seq ?_
  refine reg_seq [0, 1] rfl ?_
  refine ops_cons ?_
  refine op_pure rfl (rn_move rfl) rfl rfl ?_
  refine ops_cons ?_
  refine op_pure rfl (rn_lss rfl rfl) rfl rfl ?_
  refine ops_nil ?_
  refine then_n ?_
  refine cond_dec rfl (fun hc12 => ?_) (fun hc12 => ?_)
  · refine wp_seq ?_
    refine reg_seq [0] rfl ?_
    refine ops_cons ?_
    refine op_pure rfl (rn_assign rfl) rfl rfl ?_
    refine ops_nil ?_
    refine then_n ?_
    refine wp_ret ?_
    refine then_r ?_
    refine post_tmp (.inl rfl) Tryz.results6 rfl ?_
    exact ⟨rfl, H11.1⟩
  · have hs_x0 : szn_Vat x0 ≤ 1048576 := by omega
    refine wp_skip ?_
    refine then_n ?_
    refine wp_seq ?_
    refine reg_seq [0, 1, 2, 3] rfl ?_
    refine ops_cons ?_
    refine op_pure rfl (rn_move rfl) rfl rfl ?_
    refine ops_cons ?_
    refine op_pure rfl (rn_move rfl) rfl rfl ?_
    refine ops_cons ?_
    refine op_call rfl Tryz.call35 (vs := #[.slice A2 l2.length c2, .int .i64 (n7)]) rfl rfl rfl (szS_Value l2 _ _ _ _ (C_upd H11.1 hC2) (by omega) (by omega)) ?_
    rintro e17 W16 ⟨n14, rfl, hr15, hu13⟩
    refine ⟨_, rfl, ?_⟩
    have H18 : St w No [hB g_0_0 55 (List.toArray cs0)] W16 := H11.no hu13
    clear H11
    refine ops_cons ?_
    refine op_pure rfl (rn_assign rfl) rfl rfl ?_
    refine ops_nil ?_
    refine then_n ?_
    refine wp_seq ?_
    refine wp_seq ?_
    refine reg_seq [0, 1] rfl ?_
    refine ops_cons ?_
    refine op_pure rfl (rn_move rfl) rfl rfl ?_
    refine ops_cons ?_
    refine op_pure rfl (rn_lss rfl rfl) rfl rfl ?_
    refine ops_nil ?_
    refine then_n ?_
    refine cond_dec rfl (fun hc19 => ?_) (fun hc19 => ?_)
    · refine wp_seq ?_
      refine reg_seq [0] rfl ?_
      refine ops_cons ?_
      refine op_pure rfl (rn_assign rfl) rfl rfl ?_
      refine ops_nil ?_
      refine then_n ?_
      refine wp_ret ?_
      refine then_r ?_
      refine post_tmp (.inl rfl) Tryz.results6 rfl ?_
      exact ⟨rfl, H18.1⟩
    · have hs_l2 : sznS szn_Value l2 ≤ 1048576 := by omega
      have hn_l2 : l2.length ≤ 1048576 := by unfold sznS at hs_l2; omega
      refine wp_skip ?_
      refine then_n ?_
      refine wp_seq ?_
      have nn20 : 0 ≤ cntv_Vat x0 := cntv_Vat_nn x0
      have nn20b := cntv_Vat_le x0
      have nn20c : szn_Vat x0 ≤ 4194304 := (Nat.le_trans hs_x0 (by decide))
      have nn21 : 0 ≤ cntS cnt_Value l2 := cntS_nn cnt_Value cnt_Value_nn l2
      have nn21b := cntS_bound cnt_Value szn_Value cnt_Value_le l2
      have nn21c : sznS szn_Value l2 ≤ 4194304 := (Nat.le_trans hs_l2 (by decide))
      have nn22 : 0 ≤ cntv_Vat (moE a1 l2 x0) := cntv_Vat_nn (moE a1 l2 x0)
      have nn22b := cntv_Vat_le (moE a1 l2 x0)
      have nn22c : szn_Vat (moE a1 l2 x0) ≤ 4194304 := moE_bd a1 l2 x0 hs_x0 hs_l2
      refine reg_seq [0, 1, 2, 3, 4, 5, 6, 7, 8, 9, 10, 11] rfl ?_
      refine ops_cons ?_
      refine op_pure rfl (rn_loadB Tryz.isAgg55 Tryz.sizeOf55 rfl (H18.blk 0 rfl) hl0_) rfl rfl ?_
      refine ops_cons ?_
      refine op_call rfl Tryz.call27 (vs := #[.agg (List.toArray cs0)]) rfl rfl rfl (to_Vat x0 _ _ (K_upd H18.1 hK0) hs_x0) ?_
      rintro e27 W26 ⟨cs_8_1, rfl, hM24, hu25⟩
      refine ⟨_, rfl, ?_⟩
      have hl28 := ki_Vat_len (ki_Vat.K_of_M hM24)
      have ho29 := ki_Vat_one (ki_Vat.K_of_M hM24)
      have H30 : St w No [hM ki_Vat x0 cs_8_1, hB g_0_0 55 (List.toArray cs0)] W26 := H18.new hu25 hM24
      clear H18
      refine ops_cons ?_
      refine op_pure rfl (rn_move rfl) rfl rfl ?_
      refine ops_cons ?_
      refine op_pure rfl (rn_move rfl) rfl rfl ?_
      refine ops_cons ?_
      refine op_call rfl Tryz.call37 (vs := #[.slice A2 l2.length c2]) rfl rfl rfl (toS_Value l2 _ _ _ (C_upd H30.1 hC2) hs_l2) ?_
      rintro e35 W34 ⟨v32, rfl, hR33, hu31⟩
      refine ⟨_, rfl, ?_⟩
      obtain ⟨B_8_4, c_8_4, rfl⟩ := R_slice hR33
      have H36 : St w No [hR ki_Value 95 (.slice B_8_4 l2.length c_8_4) l2, hM ki_Vat x0 cs_8_1, hB g_0_0 55 (List.toArray cs0)] W34 := H30.new hu31 hR33
      clear H30
      refine ops_cons ?_
      refine op_call rfl Tryz.call36 (vs := #[.agg (List.toArray cs_8_1), .int .i64 (a1), .slice B_8_4 l2.length c_8_4]) rfl rfl rfl (makeObject_s x0 a1 l2 _ _ _ _ (H36.kn 1 rfl) (Nat.le_trans hs_x0 (by decide)) (H36.rowC 0 rfl) (Nat.le_trans hs_l2 (by decide))) ?_
      rintro e40 W39 ⟨cs_8_5, rfl, hM37, hu38⟩
      refine ⟨_, rfl, ?_⟩
      have H41 : St w No [hM ki_Vat (moE a1 l2 x0) cs_8_5, hR ki_Value 95 (.slice B_8_4 l2.length c_8_4) l2, hM ki_Vat x0 cs_8_1, hB g_0_0 55 (List.toArray cs0)] W39 := H36.new hu38 hM37
      clear H36
      refine ops_cons ?_
      refine op_pure rfl (rn_move rfl) rfl rfl ?_
      refine ops_cons ?_
      refine op_pure rfl (rn_extract (v := .agg (List.toArray cs_8_5)) rfl rfl) rfl rfl ?_
      refine ops_cons ?_
      refine op_pure rfl (rn_extract (v := .int .i64 ((moN a1 l2 x0))) rfl rfl) rfl rfl ?_
      refine ops_cons ?_
      refine op_alloc rfl Tryz.zeroValue68 rfl rfl H41 ?_
      intro g_8_9 W42 hu43 Ha44
      clear H41
      have H45 : St w No [hB g_8_9 68 #[.int .i64 (0), .slice none 0 0, .slice none 0 0, .slice none 0 0, .slice none 0 0], hM ki_Vat (moE a1 l2 x0) cs_8_5, hR ki_Value 95 (.slice B_8_4 l2.length c_8_4) l2, hM ki_Vat x0 cs_8_1, hB g_0_0 55 (List.toArray cs0)] W42 := Ha44
      clear Ha44
      clear hu43
      refine ops_cons ?_
      refine op_storeW rfl Tryz.sizeOf68 rfl rfl (ki_Vat_len (H45.kn 1 rfl)) rfl (ki_Vat_one (H45.kn 1 rfl)) H45 ?_
      intro W46 hu47 Ha48
      clear H45
      have H49 : St w No [hB g_8_9 68 (List.toArray cs_8_5), hM ki_Vat (moE a1 l2 x0) cs_8_5, hR ki_Value 95 (.slice B_8_4 l2.length c_8_4) l2, hM ki_Vat x0 cs_8_1, hB g_0_0 55 (List.toArray cs0)] W46 := Ha48
      clear Ha48
      clear hu47
      refine ops_cons ?_
      refine op_pure rfl (rn_assign rfl) rfl rfl ?_
      refine ops_nil ?_
      refine then_n ?_
      refine wp_seq ?_
      refine reg_seq [0, 1, 2, 3] rfl ?_
      refine ops_cons ?_
      refine op_pure rfl (rn_loadB Tryz.isAgg55 Tryz.sizeOf55 rfl (H49.blk 4 rfl) hl0_) rfl rfl ?_
      refine ops_cons ?_
      refine op_call rfl Tryz.call27 (vs := #[.agg (List.toArray cs0)]) rfl rfl rfl (to_Vat x0 _ _ (K_upd H49.1 hK0) hs_x0) ?_
      rintro e54 W53 ⟨cs_9_1, rfl, hM51, hu52⟩
      refine ⟨_, rfl, ?_⟩
      have hl55 := ki_Vat_len (ki_Vat.K_of_M hM51)
      have ho56 := ki_Vat_one (ki_Vat.K_of_M hM51)
      have H57 : St w No [hM ki_Vat x0 cs_9_1, hB g_8_9 68 (List.toArray cs_8_5), hM ki_Vat (moE a1 l2 x0) cs_8_5, hR ki_Value 95 (.slice B_8_4 l2.length c_8_4) l2, hM ki_Vat x0 cs_8_1, hB g_0_0 55 (List.toArray cs0)] W53 := H49.new hu52 hM51
      clear H49
      refine ops_cons ?_
      refine op_alloc rfl Tryz.zeroValue68 rfl rfl H57 ?_
      intro g_9_2 W58 hu59 Ha60
      clear H57
      have H61 : St w No [hB g_9_2 68 #[.int .i64 (0), .slice none 0 0, .slice none 0 0, .slice none 0 0, .slice none 0 0], hM ki_Vat x0 cs_9_1, hB g_8_9 68 (List.toArray cs_8_5), hM ki_Vat (moE a1 l2 x0) cs_8_5, hR ki_Value 95 (.slice B_8_4 l2.length c_8_4) l2, hM ki_Vat x0 cs_8_1, hB g_0_0 55 (List.toArray cs0)] W58 := Ha60
      clear Ha60
      clear hu59
      refine ops_cons ?_
      refine op_storeW rfl Tryz.sizeOf68 rfl rfl (ki_Vat_len (H61.kn 1 rfl)) rfl (ki_Vat_one (H61.kn 1 rfl)) H61 ?_
      intro W62 hu63 Ha64
      clear H61
      have H65 : St w No [hB g_9_2 68 (List.toArray cs_9_1), hM ki_Vat x0 cs_9_1, hB g_8_9 68 (List.toArray cs_8_5), hM ki_Vat (moE a1 l2 x0) cs_8_5, hR ki_Value 95 (.slice B_8_4 l2.length c_8_4) l2, hM ki_Vat x0 cs_8_1, hB g_0_0 55 (List.toArray cs0)] W62 := Ha64
      clear Ha64
      clear hu63
      refine ops_nil ?_
      refine then_n ?_
      refine wp_seq ?_
      refine reg_seq [0, 1, 2] rfl ?_
      refine ops_cons ?_
      refine op_pure rfl (rn_move rfl) rfl rfl ?_
      refine ops_cons ?_
      refine op_call rfl Tryz.call37 (vs := #[.slice A2 l2.length c2]) rfl rfl rfl (toS_Value l2 _ _ _ (C_upd H65.1 hC2) hs_l2) ?_
      rintro e70 W69 ⟨v67, rfl, hR68, hu66⟩
      refine ⟨_, rfl, ?_⟩
      obtain ⟨B_10_1, c_10_1, rfl⟩ := R_slice hR68
      have H71 : St w No [hR ki_Value 95 (.slice B_10_1 l2.length c_10_1) l2, hB g_9_2 68 (List.toArray cs_9_1), hM ki_Vat x0 cs_9_1, hB g_8_9 68 (List.toArray cs_8_5), hM ki_Vat (moE a1 l2 x0) cs_8_5, hR ki_Value 95 (.slice B_8_4 l2.length c_8_4) l2, hM ki_Vat x0 cs_8_1, hB g_0_0 55 (List.toArray cs0)] W69 := H65.new hu66 hR68
      clear H65
      refine ops_cons ?_
      refine op_pure rfl (rn_assign rfl) rfl rfl ?_
      refine ops_nil ?_
      refine then_n ?_
      refine wp_seq ?_
      refine reg_seq [0, 1, 2, 3, 4, 5, 6, 7, 8, 9] rfl ?_
      refine ops_cons ?_
      refine op_pure rfl (rn_loadB Tryz.isAgg68 Tryz.sizeOf68 rfl (H71.blk 1 rfl) (ki_Vat_len (H71.kn 2 rfl))) rfl rfl ?_
      refine ops_cons ?_
      refine op_pure rfl (rn_move rfl) rfl rfl ?_
      refine ops_cons ?_
      refine op_pure rfl (rn_move rfl) rfl rfl ?_
      refine ops_cons ?_
      refine op_call rfl Tryz.call38 (vs := #[.agg (List.toArray cs_9_1), .int .i64 (a1), .slice B_10_1 l2.length c_10_1]) rfl rfl rfl (makeObject_i x0 a1 l2 _ _ _ _ (H71.kn 2 rfl) (Nat.le_trans hs_x0 (by decide)) (H71.rowC 0 rfl) (Nat.le_trans hs_l2 (by decide))) ?_
      rintro e75 W74 ⟨cs_11_3, rfl, hM72, hu73⟩
      refine ⟨_, rfl, ?_⟩
      have H76 : St w No [hM ki_Vat (moE a1 l2 x0) cs_11_3, hR ki_Value 95 (.slice B_10_1 l2.length c_10_1) l2, hB g_9_2 68 (List.toArray cs_9_1), hM ki_Vat x0 cs_9_1, hB g_8_9 68 (List.toArray cs_8_5), hM ki_Vat (moE a1 l2 x0) cs_8_5, hR ki_Value 95 (.slice B_8_4 l2.length c_8_4) l2, hM ki_Vat x0 cs_8_1, hB g_0_0 55 (List.toArray cs0)] W74 := H71.new hu73 hM72
      clear H71
      refine ops_cons ?_
      refine op_pure rfl (rn_move rfl) rfl rfl ?_
      refine ops_cons ?_
      refine op_pure rfl (rn_extract (v := .agg (List.toArray cs_11_3)) rfl rfl) rfl rfl ?_
      refine ops_cons ?_
      refine op_pure rfl (rn_extract (v := .int .i64 ((moN a1 l2 x0))) rfl rfl) rfl rfl ?_
      refine ops_cons ?_
      refine op_alloc rfl Tryz.zeroValue68 rfl rfl H76 ?_
      intro g_11_7 W77 hu78 Ha79
      clear H76
      have H80 : St w No [hB g_11_7 68 #[.int .i64 (0), .slice none 0 0, .slice none 0 0, .slice none 0 0, .slice none 0 0], hM ki_Vat (moE a1 l2 x0) cs_11_3, hR ki_Value 95 (.slice B_10_1 l2.length c_10_1) l2, hB g_9_2 68 (List.toArray cs_9_1), hM ki_Vat x0 cs_9_1, hB g_8_9 68 (List.toArray cs_8_5), hM ki_Vat (moE a1 l2 x0) cs_8_5, hR ki_Value 95 (.slice B_8_4 l2.length c_8_4) l2, hM ki_Vat x0 cs_8_1, hB g_0_0 55 (List.toArray cs0)] W77 := Ha79
      clear Ha79
      clear hu78
      refine ops_cons ?_
      refine op_storeW rfl Tryz.sizeOf68 rfl rfl (ki_Vat_len (H80.kn 1 rfl)) rfl (ki_Vat_one (H80.kn 1 rfl)) H80 ?_
      intro W81 hu82 Ha83
      clear H80
      have H84 : St w No [hB g_11_7 68 (List.toArray cs_11_3), hM ki_Vat (moE a1 l2 x0) cs_11_3, hR ki_Value 95 (.slice B_10_1 l2.length c_10_1) l2, hB g_9_2 68 (List.toArray cs_9_1), hM ki_Vat x0 cs_9_1, hB g_8_9 68 (List.toArray cs_8_5), hM ki_Vat (moE a1 l2 x0) cs_8_5, hR ki_Value 95 (.slice B_8_4 l2.length c_8_4) l2, hM ki_Vat x0 cs_8_1, hB g_0_0 55 (List.toArray cs0)] W81 := Ha83
      clear Ha83
      clear hu82
      refine ops_cons ?_
      refine op_pure rfl (rn_assign rfl) rfl rfl ?_
      refine ops_nil ?_
      refine then_n ?_
      refine wp_seq ?_
      refine wp_seq ?_
      refine reg_seq [0, 1, 2, 3, 4, 5, 6, 7, 8] rfl ?_
      refine ops_cons ?_
      refine op_pure rfl (rn_loadB Tryz.isAgg68 Tryz.sizeOf68 rfl (H84.blk 0 rfl) (ki_Vat_len (H84.kn 1 rfl))) rfl rfl ?_
      refine ops_cons ?_
      refine op_pure rfl (rn_loadB Tryz.isAgg68 Tryz.sizeOf68 rfl (H84.blk 5 rfl) (ki_Vat_len (H84.kn 6 rfl))) rfl rfl ?_
      refine ops_cons ?_
      refine op_call rfl Tryz.call30 (vs := #[.agg (List.toArray cs_11_3), .agg (List.toArray cs_8_5)]) rfl rfl rfl (eq_Vat (moE a1 l2 x0) _ _ _ (H84.kn 1 rfl) (H84.kn 6 rfl)) ?_
      rintro e87 W86 ⟨rfl, hu85⟩
      refine ⟨_, rfl, ?_⟩
      have H88 : St w No [hB g_11_7 68 (List.toArray cs_11_3), hM ki_Vat (moE a1 l2 x0) cs_11_3, hR ki_Value 95 (.slice B_10_1 l2.length c_10_1) l2, hB g_9_2 68 (List.toArray cs_9_1), hM ki_Vat x0 cs_9_1, hB g_8_9 68 (List.toArray cs_8_5), hM ki_Vat (moE a1 l2 x0) cs_8_5, hR ki_Value 95 (.slice B_8_4 l2.length c_8_4) l2, hM ki_Vat x0 cs_8_1, hB g_0_0 55 (List.toArray cs0)] W86 := H84.no hu85
      clear H84
      refine ops_cons ?_
      refine op_pure rfl (rn_not rfl) rfl rfl ?_
      refine ops_cons ?_
      refine op_pure rfl (rn_move rfl) rfl rfl ?_
      refine ops_cons ?_
      refine op_G rfl rfl rfl rfl (fun _ ho89 => ?_)
      refine op_pure ho89 (rn_move rfl) rfl rfl ?_
      refine ops_cons ?_
      refine op_G rfl rfl rfl rfl (fun _ ho90 => ?_)
      refine op_pure ho90 (rn_move rfl) rfl rfl ?_
      refine ops_cons ?_
      refine op_G rfl rfl rfl rfl (fun _ ho91 => ?_)
      refine op_pure ho91 (rn_decF (not_not_intro rfl) (rn_neq rfl rfl)) rfl rfl ?_
      refine ops_cons ?_
      refine op_pure rfl (rn_pick (v := .bool (false)) (b := false) rfl rfl rfl rfl) rfl rfl ?_
      refine ops_nil ?_
      refine then_n ?_
      refine cond_f rfl ?_
      refine wp_skip ?_
      refine then_n ?_
      refine wp_seq ?_
      refine wp_seq ?_
      refine reg_draw (fun W' => Blk W' g_9_2 68 (List.toArray cs_9_1) ∧ Blk W' g_0_0 55 (List.toArray cs0)) 5 (by kernel_rfl) ?_
      have H92 : St w No [hB g_11_7 68 (List.toArray cs_11_3), hM ki_Vat (moE a1 l2 x0) cs_11_3, hR ki_Value 95 (.slice B_10_1 l2.length c_10_1) l2, hB g_9_2 68 (List.toArray cs_9_1), hM ki_Vat x0 cs_9_1, hB g_8_9 68 (List.toArray cs_8_5), hM ki_Vat (moE a1 l2 x0) cs_8_5, hR ki_Value 95 (.slice B_8_4 l2.length c_8_4) l2, hM ki_Vat x0 cs_8_1, hB g_0_0 55 (List.toArray cs0)] W86.drew := H88.drew
      clear H88
      have hS93 : Blk W86.drew g_9_2 68 (List.toArray cs_9_1) ∧ Blk W86.drew g_0_0 55 (List.toArray cs0) := ⟨H92.blk 3 rfl, H92.blk 9 rfl⟩
      refine anyS_take (i := 0) rfl (by kernel_rfl) (by kernel_rfl) (by kernel_rfl) (by kernel_rfl) (by kernel_rfl) (fun _ _ _ h => h) rfl rfl hS93 (fun W' hs' => rn_loadB Tryz.isAgg68 Tryz.sizeOf68 rfl hs'.1 (ki_Vat_len (H92.kn 4 rfl))) ?_
      refine anyS_take (i := 1) rfl (by kernel_rfl) (by kernel_rfl) (by kernel_rfl) (by kernel_rfl) (by kernel_rfl) (fun _ _ _ h => h) rfl rfl hS93 (fun W' hs' => rn_loadB Tryz.isAgg55 Tryz.sizeOf55 rfl hs'.2 hl0_) ?_
      refine anyS_one (i := 2) (by kernel_rfl) ?_
      refine op_call rfl Tryz.call27 (vs := #[.agg (List.toArray cs0)]) rfl rfl rfl (to_Vat x0 _ _ (K_upd H92.1 hK0) hs_x0) ?_
      rintro e98 W97 ⟨cs_14_2, rfl, hM95, hu96⟩
      refine ⟨_, rfl, ?_⟩
      have hl99 := ki_Vat_len (ki_Vat.K_of_M hM95)
      have ho100 := ki_Vat_one (ki_Vat.K_of_M hM95)
      have H101 : St w No [hM ki_Vat x0 cs_14_2, hB g_11_7 68 (List.toArray cs_11_3), hM ki_Vat (moE a1 l2 x0) cs_11_3, hR ki_Value 95 (.slice B_10_1 l2.length c_10_1) l2, hB g_9_2 68 (List.toArray cs_9_1), hM ki_Vat x0 cs_9_1, hB g_8_9 68 (List.toArray cs_8_5), hM ki_Vat (moE a1 l2 x0) cs_8_5, hR ki_Value 95 (.slice B_8_4 l2.length c_8_4) l2, hM ki_Vat x0 cs_8_1, hB g_0_0 55 (List.toArray cs0)] W97 := H92.new hu96 hM95
      clear H92
      have hS102 : Blk W97 g_9_2 68 (List.toArray cs_9_1) ∧ Blk W97 g_0_0 55 (List.toArray cs0) := ⟨H101.blk 4 rfl, H101.blk 10 rfl⟩
      refine ⟨fun _ => hS102, ?_⟩
      refine anyS_one (i := 3) (by kernel_rfl) ?_
      refine op_call rfl Tryz.call30 (vs := #[.agg (List.toArray cs_9_1), .agg (List.toArray cs_14_2)]) rfl rfl rfl (eq_Vat x0 _ _ _ (H101.kn 5 rfl) (H101.kn 0 rfl)) ?_
      rintro e105 W104 ⟨rfl, hu103⟩
      refine ⟨_, rfl, ?_⟩
      have H106 : St w No [hM ki_Vat x0 cs_14_2, hB g_11_7 68 (List.toArray cs_11_3), hM ki_Vat (moE a1 l2 x0) cs_11_3, hR ki_Value 95 (.slice B_10_1 l2.length c_10_1) l2, hB g_9_2 68 (List.toArray cs_9_1), hM ki_Vat x0 cs_9_1, hB g_8_9 68 (List.toArray cs_8_5), hM ki_Vat (moE a1 l2 x0) cs_8_5, hR ki_Value 95 (.slice B_8_4 l2.length c_8_4) l2, hM ki_Vat x0 cs_8_1, hB g_0_0 55 (List.toArray cs0)] W104 := H101.no hu103
      clear H101
      have hS107 : Blk W104 g_9_2 68 (List.toArray cs_9_1) ∧ Blk W104 g_0_0 55 (List.toArray cs0) := ⟨H106.blk 4 rfl, H106.blk 10 rfl⟩
      refine ⟨fun _ => hS107, ?_⟩
      refine anyS_take (i := 4) rfl (by kernel_rfl) (by kernel_rfl) (by kernel_rfl) (by kernel_rfl) (by kernel_rfl) (fun _ _ _ h => h) rfl rfl hS107 (fun W' hs' => rn_not rfl) ?_
      refine anyS_done (by kernel_rfl) ?_ _
      refine then_n ?_
      refine cond_f rfl ?_
      refine wp_skip ?_
      refine then_n ?_
      refine wp_seq ?_
      refine wp_seq ?_
      refine reg_seq [0, 1, 2, 3, 4] rfl ?_
      refine ops_cons ?_
      refine op_pure rfl (rn_move rfl) rfl rfl ?_
      refine ops_cons ?_
      refine op_pure rfl (rn_move rfl) rfl rfl ?_
      refine ops_cons ?_
      refine op_call rfl Tryz.call37 (vs := #[.slice A2 l2.length c2]) rfl rfl rfl (toS_Value l2 _ _ _ (C_upd H106.1 hC2) hs_l2) ?_
      rintro e112 W111 ⟨v109, rfl, hR110, hu108⟩
      refine ⟨_, rfl, ?_⟩
      obtain ⟨B_16_2, c_16_2, rfl⟩ := R_slice hR110
      have H113 : St w No [hR ki_Value 95 (.slice B_16_2 l2.length c_16_2) l2, hM ki_Vat x0 cs_14_2, hB g_11_7 68 (List.toArray cs_11_3), hM ki_Vat (moE a1 l2 x0) cs_11_3, hR ki_Value 95 (.slice B_10_1 l2.length c_10_1) l2, hB g_9_2 68 (List.toArray cs_9_1), hM ki_Vat x0 cs_9_1, hB g_8_9 68 (List.toArray cs_8_5), hM ki_Vat (moE a1 l2 x0) cs_8_5, hR ki_Value 95 (.slice B_8_4 l2.length c_8_4) l2, hM ki_Vat x0 cs_8_1, hB g_0_0 55 (List.toArray cs0)] W111 := H106.new hu108 hR110
      clear H106
      refine ops_cons ?_
      refine op_call rfl Tryz.call39 (vs := #[.slice B_10_1 l2.length c_10_1, .slice B_16_2 l2.length c_16_2]) rfl rfl rfl (eqS_Value l2 _ _ _ _ _ (H113.rowC 4 rfl) (H113.rowC 0 rfl)) ?_
      rintro e116 W115 ⟨rfl, hu114⟩
      refine ⟨_, rfl, ?_⟩
      have H117 : St w No [hR ki_Value 95 (.slice B_16_2 l2.length c_16_2) l2, hM ki_Vat x0 cs_14_2, hB g_11_7 68 (List.toArray cs_11_3), hM ki_Vat (moE a1 l2 x0) cs_11_3, hR ki_Value 95 (.slice B_10_1 l2.length c_10_1) l2, hB g_9_2 68 (List.toArray cs_9_1), hM ki_Vat x0 cs_9_1, hB g_8_9 68 (List.toArray cs_8_5), hM ki_Vat (moE a1 l2 x0) cs_8_5, hR ki_Value 95 (.slice B_8_4 l2.length c_8_4) l2, hM ki_Vat x0 cs_8_1, hB g_0_0 55 (List.toArray cs0)] W115 := H113.no hu114
      clear H113
      refine ops_cons ?_
      refine op_pure rfl (rn_not rfl) rfl rfl ?_
      refine ops_nil ?_
      refine then_n ?_
      refine cond_f rfl ?_
      refine wp_skip ?_
      refine then_n ?_
      refine wp_seq ?_
      refine reg_seq [0] rfl ?_
      refine ops_cons ?_
      refine op_pure rfl (rn_assign rfl) rfl rfl ?_
      refine ops_nil ?_
      refine then_n ?_
      refine wp_seq ?_
      refine reg_seq [0, 1, 2, 3] rfl ?_
      refine ops_cons ?_
      refine op_pure rfl (rn_loadB Tryz.isAgg68 Tryz.sizeOf68 rfl (H117.blk 5 rfl) (ki_Vat_len (H117.kn 6 rfl))) rfl rfl ?_
      refine ops_cons ?_
      refine op_pure rfl (rn_move rfl) rfl rfl ?_
      refine ops_cons ?_
      have H124 : St w No [hM ki_Vat x0 cs_9_1, hR ki_Value 95 (.slice B_16_2 l2.length c_16_2) l2, hM ki_Vat x0 cs_14_2, hB g_11_7 68 (List.toArray cs_11_3), hM ki_Vat (moE a1 l2 x0) cs_11_3, hR ki_Value 95 (.slice B_10_1 l2.length c_10_1) l2, hB g_9_2 68 (List.toArray cs_9_1), hB g_8_9 68 (List.toArray cs_8_5), hM ki_Vat (moE a1 l2 x0) cs_8_5, hR ki_Value 95 (.slice B_8_4 l2.length c_8_4) l2, hM ki_Vat x0 cs_8_1, hB g_0_0 55 (List.toArray cs0)] W115 := H117.pick [6, 0, 1, 2, 3, 4, 5, 7, 8, 9, 10, 11] (by decide) rfl
      clear H117
      obtain ⟨F119, hM120, hF121, hT122⟩ := H124.turn
      refine op_call rfl Tryz.call32 (vs := #[.agg (List.toArray cs_9_1), .int .i64 (1)]) rfl rfl rfl (markv_Vat_c x0 _ F119 _ _ hM120 (by omega) (by omega)) ?_
      rintro e126 W125 ⟨rfl, hM123, hu118⟩
      refine ⟨_, rfl, ?_⟩
      have H127 : St w No [hM ki_Vat (mkv_Vat 1 x0) cs_9_1, hR ki_Value 95 (.slice B_16_2 l2.length c_16_2) l2, hM ki_Vat x0 cs_14_2, hB g_11_7 68 (List.toArray cs_11_3), hM ki_Vat (moE a1 l2 x0) cs_11_3, hR ki_Value 95 (.slice B_10_1 l2.length c_10_1) l2, hB g_9_2 68 (List.toArray cs_9_1), hB g_8_9 68 (List.toArray cs_8_5), hM ki_Vat (moE a1 l2 x0) cs_8_5, hR ki_Value 95 (.slice B_8_4 l2.length c_8_4) l2, hM ki_Vat x0 cs_8_1, hB g_0_0 55 (List.toArray cs0)] W125 := hT122 (hM ki_Vat (mkv_Vat 1 x0) cs_9_1) _ hu118 ((hM ki_Vat (mkv_Vat 1 x0) cs_9_1).mono (fun _ q => .inl q) hM123)
      clear H124
      refine ops_cons ?_
      refine op_pure rfl (rn_assign rfl) rfl rfl ?_
      refine ops_nil ?_
      refine then_n ?_
      refine wp_seq ?_
      refine reg_seq [0, 1, 2, 3] rfl ?_
      refine ops_cons ?_
      refine op_pure rfl (rn_move rfl) rfl rfl ?_
      refine ops_cons ?_
      refine op_pure rfl (rn_move rfl) rfl rfl ?_
      refine ops_cons ?_
      have H134 : St w No [hR ki_Value 95 (.slice B_10_1 l2.length c_10_1) l2, hM ki_Vat (mkv_Vat 1 x0) cs_9_1, hR ki_Value 95 (.slice B_16_2 l2.length c_16_2) l2, hM ki_Vat x0 cs_14_2, hB g_11_7 68 (List.toArray cs_11_3), hM ki_Vat (moE a1 l2 x0) cs_11_3, hB g_9_2 68 (List.toArray cs_9_1), hB g_8_9 68 (List.toArray cs_8_5), hM ki_Vat (moE a1 l2 x0) cs_8_5, hR ki_Value 95 (.slice B_8_4 l2.length c_8_4) l2, hM ki_Vat x0 cs_8_1, hB g_0_0 55 (List.toArray cs0)] W125 := H127.pick [5, 0, 1, 2, 3, 4, 6, 7, 8, 9, 10, 11] (by decide) rfl
      clear H127
      obtain ⟨F129, hM130, hF131, hT132⟩ := H134.turn
      refine op_call rfl Tryz.call40 (vs := #[.slice B_10_1 l2.length c_10_1, .int .i64 ((1 + cntv_Vat x0))]) rfl rfl rfl (markS_Value l2 _ F129 _ _ hM130 (by omega) (by omega)) ?_
      rintro e136 W135 ⟨rfl, hM133, hu128⟩
      refine ⟨_, rfl, ?_⟩
      have H137 : St w No [hR ki_Value 95 (.slice B_10_1 l2.length c_10_1) (mkS mk_Value cnt_Value (1 + cntv_Vat x0) l2), hM ki_Vat (mkv_Vat 1 x0) cs_9_1, hR ki_Value 95 (.slice B_16_2 l2.length c_16_2) l2, hM ki_Vat x0 cs_14_2, hB g_11_7 68 (List.toArray cs_11_3), hM ki_Vat (moE a1 l2 x0) cs_11_3, hB g_9_2 68 (List.toArray cs_9_1), hB g_8_9 68 (List.toArray cs_8_5), hM ki_Vat (moE a1 l2 x0) cs_8_5, hR ki_Value 95 (.slice B_8_4 l2.length c_8_4) l2, hM ki_Vat x0 cs_8_1, hB g_0_0 55 (List.toArray cs0)] W135 := hT132 (hR ki_Value 95 (.slice B_10_1 l2.length c_10_1) (mkS mk_Value cnt_Value (1 + cntv_Vat x0) l2)) _ hu128 ((hR ki_Value 95 (.slice B_10_1 l2.length c_10_1) (mkS mk_Value cnt_Value (1 + cntv_Vat x0) l2)).mono (fun _ q => .inl q) hM133)
      clear H134
      refine ops_cons ?_
      refine op_pure rfl (rn_assign rfl) rfl rfl ?_
      refine ops_nil ?_
      refine then_n ?_
      refine wp_seq ?_
      refine wp_seq ?_
      refine reg_seq [0, 1, 2, 3, 4, 5, 6, 7, 8, 9, 10, 11, 12] rfl ?_
      refine ops_cons ?_
      refine op_pure rfl (rn_move rfl) rfl rfl ?_
      refine ops_cons ?_
      refine op_pure rfl (rn_decF (by omega) (rn_lss rfl rfl)) rfl rfl ?_
      refine ops_cons ?_
      refine op_pure rfl (rn_move rfl) rfl rfl ?_
      refine ops_cons ?_
      refine op_G rfl rfl rfl rfl (fun _ ho138 => ?_)
      refine op_pure ho138 (rn_loadB Tryz.isAgg68 Tryz.sizeOf68 rfl (H137.blk 4 rfl) (ki_Vat_len (H137.kn 5 rfl))) rfl rfl ?_
      refine ops_cons ?_
      refine op_G rfl rfl rfl rfl (fun _ ho139 => ?_)
      refine op_pure ho139 (rn_loadB Tryz.isAgg68 Tryz.sizeOf68 rfl (H137.blk 7 rfl) (ki_Vat_len (H137.kn 8 rfl))) rfl rfl ?_
      refine ops_cons ?_
      refine op_G rfl rfl rfl rfl (fun _ ho140 => ?_)
      refine op_call ho140 Tryz.call30 (vs := #[.agg (List.toArray cs_11_3), .agg (List.toArray cs_8_5)]) rfl rfl rfl (eq_Vat (moE a1 l2 x0) _ _ _ (H137.kn 5 rfl) (H137.kn 8 rfl)) ?_
      rintro e143 W142 ⟨rfl, hu141⟩
      refine ⟨_, rfl, ?_⟩
      have H144 : St w No [hR ki_Value 95 (.slice B_10_1 l2.length c_10_1) (mkS mk_Value cnt_Value (1 + cntv_Vat x0) l2), hM ki_Vat (mkv_Vat 1 x0) cs_9_1, hR ki_Value 95 (.slice B_16_2 l2.length c_16_2) l2, hM ki_Vat x0 cs_14_2, hB g_11_7 68 (List.toArray cs_11_3), hM ki_Vat (moE a1 l2 x0) cs_11_3, hB g_9_2 68 (List.toArray cs_9_1), hB g_8_9 68 (List.toArray cs_8_5), hM ki_Vat (moE a1 l2 x0) cs_8_5, hR ki_Value 95 (.slice B_8_4 l2.length c_8_4) l2, hM ki_Vat x0 cs_8_1, hB g_0_0 55 (List.toArray cs0)] W142 := H137.no hu141
      clear H137
      refine ops_cons ?_
      refine op_G rfl rfl rfl rfl (fun _ ho145 => ?_)
      refine op_pure ho145 (rn_not rfl) rfl rfl ?_
      refine ops_cons ?_
      refine op_pure rfl (rn_pick (v := .bool (false)) (b := false) rfl rfl rfl rfl) rfl rfl ?_
      refine ops_cons ?_
      refine op_pure rfl (rn_move rfl) rfl rfl ?_
      refine ops_cons ?_
      refine op_G rfl rfl rfl rfl (fun _ ho146 => ?_)
      refine op_pure ho146 (rn_move rfl) rfl rfl ?_
      refine ops_cons ?_
      refine op_G rfl rfl rfl rfl (fun _ ho147 => ?_)
      refine op_pure ho147 (rn_move rfl) rfl rfl ?_
      refine ops_cons ?_
      refine op_G rfl rfl rfl rfl (fun _ ho148 => ?_)
      refine op_pure ho148 (rn_decF (not_not_intro rfl) (rn_neq rfl rfl)) rfl rfl ?_
      refine ops_cons ?_
      refine op_pure rfl (rn_pick (v := .bool (false)) (b := false) rfl rfl rfl rfl) rfl rfl ?_
      refine ops_nil ?_
      refine then_n ?_
      refine cond_f rfl ?_
      refine wp_skip ?_
      refine then_n ?_
      refine wp_seq ?_
      refine reg_seq [0] rfl ?_
      refine ops_cons ?_
      refine op_pure rfl (rn_assign rfl) rfl rfl ?_
      refine ops_nil ?_
      refine then_n ?_
      refine wp_seq ?_
      refine reg_seq [0, 1, 2, 3] rfl ?_
      refine ops_cons ?_
      refine op_pure rfl (rn_loadB Tryz.isAgg68 Tryz.sizeOf68 rfl (H144.blk 4 rfl) (ki_Vat_len (H144.kn 5 rfl))) rfl rfl ?_
      refine ops_cons ?_
      refine op_pure rfl (rn_move rfl) rfl rfl ?_
      refine ops_cons ?_
      have H155 : St w No [hM ki_Vat (moE a1 l2 x0) cs_11_3, hR ki_Value 95 (.slice B_10_1 l2.length c_10_1) (mkS mk_Value cnt_Value (1 + cntv_Vat x0) l2), hM ki_Vat (mkv_Vat 1 x0) cs_9_1, hR ki_Value 95 (.slice B_16_2 l2.length c_16_2) l2, hM ki_Vat x0 cs_14_2, hB g_11_7 68 (List.toArray cs_11_3), hB g_9_2 68 (List.toArray cs_9_1), hB g_8_9 68 (List.toArray cs_8_5), hM ki_Vat (moE a1 l2 x0) cs_8_5, hR ki_Value 95 (.slice B_8_4 l2.length c_8_4) l2, hM ki_Vat x0 cs_8_1, hB g_0_0 55 (List.toArray cs0)] W142 := H144.pick [5, 0, 1, 2, 3, 4, 6, 7, 8, 9, 10, 11] (by decide) rfl
      clear H144
      obtain ⟨F150, hM151, hF152, hT153⟩ := H155.turn
      refine op_call rfl Tryz.call32 (vs := #[.agg (List.toArray cs_11_3), .int .i64 (1)]) rfl rfl rfl (markv_Vat_c (moE a1 l2 x0) _ F150 _ _ hM151 (by omega) (by omega)) ?_
      rintro e157 W156 ⟨rfl, hM154, hu149⟩
      refine ⟨_, rfl, ?_⟩
      have H158 : St w No [hM ki_Vat (mkv_Vat 1 (moE a1 l2 x0)) cs_11_3, hR ki_Value 95 (.slice B_10_1 l2.length c_10_1) (mkS mk_Value cnt_Value (1 + cntv_Vat x0) l2), hM ki_Vat (mkv_Vat 1 x0) cs_9_1, hR ki_Value 95 (.slice B_16_2 l2.length c_16_2) l2, hM ki_Vat x0 cs_14_2, hB g_11_7 68 (List.toArray cs_11_3), hB g_9_2 68 (List.toArray cs_9_1), hB g_8_9 68 (List.toArray cs_8_5), hM ki_Vat (moE a1 l2 x0) cs_8_5, hR ki_Value 95 (.slice B_8_4 l2.length c_8_4) l2, hM ki_Vat x0 cs_8_1, hB g_0_0 55 (List.toArray cs0)] W156 := hT153 (hM ki_Vat (mkv_Vat 1 (moE a1 l2 x0)) cs_11_3) _ hu149 ((hM ki_Vat (mkv_Vat 1 (moE a1 l2 x0)) cs_11_3).mono (fun _ q => .inl q) hM154)
      clear H155
      refine ops_cons ?_
      refine op_pure rfl (rn_assign rfl) rfl rfl ?_
      refine ops_nil ?_
      refine then_n ?_
      refine wp_seq ?_
      refine reg_seq [0] rfl ?_
      refine ops_cons ?_
      refine op_pure rfl (rn_assign rfl) rfl rfl ?_
      refine ops_nil ?_
      refine then_n ?_
      refine wp_seq ?_
      refine reg_seq [0, 1, 2, 3] rfl ?_
      refine ops_cons ?_
      refine op_pure rfl (rn_loadB Tryz.isAgg68 Tryz.sizeOf68 rfl (H158.blk 5 rfl) (ki_Vat_len (H158.kn 0 rfl))) rfl rfl ?_
      refine ops_cons ?_
      refine op_pure rfl (rn_move rfl) rfl rfl ?_
      refine ops_cons ?_
      refine op_call rfl Tryz.call34 (vs := #[.agg (List.toArray cs_11_3), .int .i64 (1)]) rfl rfl rfl (heldv_Vat_c (moE a1 l2 x0) _ _ _ (H158.kn 0 rfl) (by omega) (by omega)) ?_
      rintro e161 W160 ⟨rfl, hu159⟩
      refine ⟨_, rfl, ?_⟩
      have H162 : St w No [hM ki_Vat (mkv_Vat 1 (moE a1 l2 x0)) cs_11_3, hR ki_Value 95 (.slice B_10_1 l2.length c_10_1) (mkS mk_Value cnt_Value (1 + cntv_Vat x0) l2), hM ki_Vat (mkv_Vat 1 x0) cs_9_1, hR ki_Value 95 (.slice B_16_2 l2.length c_16_2) l2, hM ki_Vat x0 cs_14_2, hB g_11_7 68 (List.toArray cs_11_3), hB g_9_2 68 (List.toArray cs_9_1), hB g_8_9 68 (List.toArray cs_8_5), hM ki_Vat (moE a1 l2 x0) cs_8_5, hR ki_Value 95 (.slice B_8_4 l2.length c_8_4) l2, hM ki_Vat x0 cs_8_1, hB g_0_0 55 (List.toArray cs0)] W160 := H158.no hu159
      clear H158
      refine ops_cons ?_
      refine op_pure rfl (rn_assign rfl) rfl rfl ?_
      refine ops_nil ?_
      refine then_n ?_
      refine wp_seq ?_
      refine wp_seq ?_
      refine reg_seq [0, 1] rfl ?_
      refine ops_cons ?_
      refine op_pure rfl (rn_move rfl) rfl rfl ?_
      refine ops_cons ?_
      refine op_pure rfl (rn_decF (by omega) (rn_lss rfl rfl)) rfl rfl ?_
      refine ops_nil ?_
      refine then_n ?_
      refine cond_f rfl ?_
      refine wp_skip ?_
      refine then_n ?_
      refine wp_seq ?_
      refine wp_seq ?_
      refine reg_seq [0, 1, 2] rfl ?_
      refine ops_cons ?_
      refine op_pure rfl (rn_move rfl) rfl rfl ?_
      refine ops_cons ?_
      refine op_pure rfl (rn_move rfl) rfl rfl ?_
      refine ops_cons ?_
      refine op_pure rfl (rn_decF (not_not_intro rfl) (rn_neq rfl rfl)) rfl rfl ?_
      refine ops_nil ?_
      refine then_n ?_
      refine cond_f rfl ?_
      refine wp_skip ?_
      refine then_n ?_
      refine wp_seq ?_
      refine reg_seq [0, 1, 2, 3, 4, 5, 6, 7, 8, 9, 10, 11] rfl ?_
      refine ops_cons ?_
      refine op_pure rfl (rn_loadB Tryz.isAgg55 Tryz.sizeOf55 rfl (H162.blk 11 rfl) hl0_) rfl rfl ?_
      refine ops_cons ?_
      refine op_call rfl Tryz.call27 (vs := #[.agg (List.toArray cs0)]) rfl rfl rfl (to_Vat x0 _ _ (K_upd H162.1 hK0) hs_x0) ?_
      rintro e167 W166 ⟨cs_31_1, rfl, hM164, hu165⟩
      refine ⟨_, rfl, ?_⟩
      have hl168 := ki_Vat_len (ki_Vat.K_of_M hM164)
      have ho169 := ki_Vat_one (ki_Vat.K_of_M hM164)
      have H170 : St w No [hM ki_Vat x0 cs_31_1, hM ki_Vat (mkv_Vat 1 (moE a1 l2 x0)) cs_11_3, hR ki_Value 95 (.slice B_10_1 l2.length c_10_1) (mkS mk_Value cnt_Value (1 + cntv_Vat x0) l2), hM ki_Vat (mkv_Vat 1 x0) cs_9_1, hR ki_Value 95 (.slice B_16_2 l2.length c_16_2) l2, hM ki_Vat x0 cs_14_2, hB g_11_7 68 (List.toArray cs_11_3), hB g_9_2 68 (List.toArray cs_9_1), hB g_8_9 68 (List.toArray cs_8_5), hM ki_Vat (moE a1 l2 x0) cs_8_5, hR ki_Value 95 (.slice B_8_4 l2.length c_8_4) l2, hM ki_Vat x0 cs_8_1, hB g_0_0 55 (List.toArray cs0)] W166 := H162.new hu165 hM164
      clear H162
      refine ops_cons ?_
      refine op_pure rfl (rn_move rfl) rfl rfl ?_
      refine ops_cons ?_
      refine op_pure rfl (rn_move rfl) rfl rfl ?_
      refine ops_cons ?_
      refine op_call rfl Tryz.call37 (vs := #[.slice A2 l2.length c2]) rfl rfl rfl (toS_Value l2 _ _ _ (C_upd H170.1 hC2) hs_l2) ?_
      rintro e175 W174 ⟨v172, rfl, hR173, hu171⟩
      refine ⟨_, rfl, ?_⟩
      obtain ⟨B_31_4, c_31_4, rfl⟩ := R_slice hR173
      have H176 : St w No [hR ki_Value 95 (.slice B_31_4 l2.length c_31_4) l2, hM ki_Vat x0 cs_31_1, hM ki_Vat (mkv_Vat 1 (moE a1 l2 x0)) cs_11_3, hR ki_Value 95 (.slice B_10_1 l2.length c_10_1) (mkS mk_Value cnt_Value (1 + cntv_Vat x0) l2), hM ki_Vat (mkv_Vat 1 x0) cs_9_1, hR ki_Value 95 (.slice B_16_2 l2.length c_16_2) l2, hM ki_Vat x0 cs_14_2, hB g_11_7 68 (List.toArray cs_11_3), hB g_9_2 68 (List.toArray cs_9_1), hB g_8_9 68 (List.toArray cs_8_5), hM ki_Vat (moE a1 l2 x0) cs_8_5, hR ki_Value 95 (.slice B_8_4 l2.length c_8_4) l2, hM ki_Vat x0 cs_8_1, hB g_0_0 55 (List.toArray cs0)] W174 := H170.new hu171 hR173
      clear H170
      refine ops_cons ?_
      refine op_call rfl Tryz.call38 (vs := #[.agg (List.toArray cs_31_1), .int .i64 (a1), .slice B_31_4 l2.length c_31_4]) rfl rfl rfl (makeObject_i x0 a1 l2 _ _ _ _ (H176.kn 1 rfl) (Nat.le_trans hs_x0 (by decide)) (H176.rowC 0 rfl) (Nat.le_trans hs_l2 (by decide))) ?_
      rintro e180 W179 ⟨cs_31_5, rfl, hM177, hu178⟩
      refine ⟨_, rfl, ?_⟩
      have H181 : St w No [hM ki_Vat (moE a1 l2 x0) cs_31_5, hR ki_Value 95 (.slice B_31_4 l2.length c_31_4) l2, hM ki_Vat x0 cs_31_1, hM ki_Vat (mkv_Vat 1 (moE a1 l2 x0)) cs_11_3, hR ki_Value 95 (.slice B_10_1 l2.length c_10_1) (mkS mk_Value cnt_Value (1 + cntv_Vat x0) l2), hM ki_Vat (mkv_Vat 1 x0) cs_9_1, hR ki_Value 95 (.slice B_16_2 l2.length c_16_2) l2, hM ki_Vat x0 cs_14_2, hB g_11_7 68 (List.toArray cs_11_3), hB g_9_2 68 (List.toArray cs_9_1), hB g_8_9 68 (List.toArray cs_8_5), hM ki_Vat (moE a1 l2 x0) cs_8_5, hR ki_Value 95 (.slice B_8_4 l2.length c_8_4) l2, hM ki_Vat x0 cs_8_1, hB g_0_0 55 (List.toArray cs0)] W179 := H176.new hu178 hM177
      clear H176
      refine ops_cons ?_
      refine op_pure rfl (rn_move rfl) rfl rfl ?_
      refine ops_cons ?_
      refine op_pure rfl (rn_extract (v := .agg (List.toArray cs_31_5)) rfl rfl) rfl rfl ?_
      refine ops_cons ?_
      refine op_pure rfl (rn_extract (v := .int .i64 ((moN a1 l2 x0))) rfl rfl) rfl rfl ?_
      refine ops_cons ?_
      refine op_alloc rfl Tryz.zeroValue68 rfl rfl H181 ?_
      intro g_31_9 W182 hu183 Ha184
      clear H181
      have H185 : St w No [hB g_31_9 68 #[.int .i64 (0), .slice none 0 0, .slice none 0 0, .slice none 0 0, .slice none 0 0], hM ki_Vat (moE a1 l2 x0) cs_31_5, hR ki_Value 95 (.slice B_31_4 l2.length c_31_4) l2, hM ki_Vat x0 cs_31_1, hM ki_Vat (mkv_Vat 1 (moE a1 l2 x0)) cs_11_3, hR ki_Value 95 (.slice B_10_1 l2.length c_10_1) (mkS mk_Value cnt_Value (1 + cntv_Vat x0) l2), hM ki_Vat (mkv_Vat 1 x0) cs_9_1, hR ki_Value 95 (.slice B_16_2 l2.length c_16_2) l2, hM ki_Vat x0 cs_14_2, hB g_11_7 68 (List.toArray cs_11_3), hB g_9_2 68 (List.toArray cs_9_1), hB g_8_9 68 (List.toArray cs_8_5), hM ki_Vat (moE a1 l2 x0) cs_8_5, hR ki_Value 95 (.slice B_8_4 l2.length c_8_4) l2, hM ki_Vat x0 cs_8_1, hB g_0_0 55 (List.toArray cs0)] W182 := Ha184
      clear Ha184
      clear hu183
      refine ops_cons ?_
      refine op_storeW rfl Tryz.sizeOf68 rfl rfl (ki_Vat_len (H185.kn 1 rfl)) rfl (ki_Vat_one (H185.kn 1 rfl)) H185 ?_
      intro W186 hu187 Ha188
      clear H185
      have H189 : St w No [hB g_31_9 68 (List.toArray cs_31_5), hM ki_Vat (moE a1 l2 x0) cs_31_5, hR ki_Value 95 (.slice B_31_4 l2.length c_31_4) l2, hM ki_Vat x0 cs_31_1, hM ki_Vat (mkv_Vat 1 (moE a1 l2 x0)) cs_11_3, hR ki_Value 95 (.slice B_10_1 l2.length c_10_1) (mkS mk_Value cnt_Value (1 + cntv_Vat x0) l2), hM ki_Vat (mkv_Vat 1 x0) cs_9_1, hR ki_Value 95 (.slice B_16_2 l2.length c_16_2) l2, hM ki_Vat x0 cs_14_2, hB g_11_7 68 (List.toArray cs_11_3), hB g_9_2 68 (List.toArray cs_9_1), hB g_8_9 68 (List.toArray cs_8_5), hM ki_Vat (moE a1 l2 x0) cs_8_5, hR ki_Value 95 (.slice B_8_4 l2.length c_8_4) l2, hM ki_Vat x0 cs_8_1, hB g_0_0 55 (List.toArray cs0)] W186 := Ha188
      clear Ha188
      clear hu187
      refine ops_cons ?_
      refine op_pure rfl (rn_assign rfl) rfl rfl ?_
      refine ops_nil ?_
      refine then_n ?_
      refine wp_seq ?_
      refine wp_seq ?_
      refine reg_seq [0, 1, 2, 3, 4, 5, 6, 7, 8] rfl ?_
      refine ops_cons ?_
      refine op_pure rfl (rn_loadB Tryz.isAgg68 Tryz.sizeOf68 rfl (H189.blk 0 rfl) (ki_Vat_len (H189.kn 1 rfl))) rfl rfl ?_
      refine ops_cons ?_
      refine op_pure rfl (rn_loadB Tryz.isAgg68 Tryz.sizeOf68 rfl (H189.blk 11 rfl) (ki_Vat_len (H189.kn 12 rfl))) rfl rfl ?_
      refine ops_cons ?_
      refine op_call rfl Tryz.call30 (vs := #[.agg (List.toArray cs_31_5), .agg (List.toArray cs_8_5)]) rfl rfl rfl (eq_Vat (moE a1 l2 x0) _ _ _ (H189.kn 1 rfl) (H189.kn 12 rfl)) ?_
      rintro e192 W191 ⟨rfl, hu190⟩
      refine ⟨_, rfl, ?_⟩
      have H193 : St w No [hB g_31_9 68 (List.toArray cs_31_5), hM ki_Vat (moE a1 l2 x0) cs_31_5, hR ki_Value 95 (.slice B_31_4 l2.length c_31_4) l2, hM ki_Vat x0 cs_31_1, hM ki_Vat (mkv_Vat 1 (moE a1 l2 x0)) cs_11_3, hR ki_Value 95 (.slice B_10_1 l2.length c_10_1) (mkS mk_Value cnt_Value (1 + cntv_Vat x0) l2), hM ki_Vat (mkv_Vat 1 x0) cs_9_1, hR ki_Value 95 (.slice B_16_2 l2.length c_16_2) l2, hM ki_Vat x0 cs_14_2, hB g_11_7 68 (List.toArray cs_11_3), hB g_9_2 68 (List.toArray cs_9_1), hB g_8_9 68 (List.toArray cs_8_5), hM ki_Vat (moE a1 l2 x0) cs_8_5, hR ki_Value 95 (.slice B_8_4 l2.length c_8_4) l2, hM ki_Vat x0 cs_8_1, hB g_0_0 55 (List.toArray cs0)] W191 := H189.no hu190
      clear H189
      refine ops_cons ?_
      refine op_pure rfl (rn_not rfl) rfl rfl ?_
      refine ops_cons ?_
      refine op_pure rfl (rn_move rfl) rfl rfl ?_
      refine ops_cons ?_
      refine op_G rfl rfl rfl rfl (fun _ ho194 => ?_)
      refine op_pure ho194 (rn_move rfl) rfl rfl ?_
      refine ops_cons ?_
      refine op_G rfl rfl rfl rfl (fun _ ho195 => ?_)
      refine op_pure ho195 (rn_move rfl) rfl rfl ?_
      refine ops_cons ?_
      refine op_G rfl rfl rfl rfl (fun _ ho196 => ?_)
      refine op_pure ho196 (rn_decF (not_not_intro rfl) (rn_neq rfl rfl)) rfl rfl ?_
      refine ops_cons ?_
      refine op_pure rfl (rn_pick (v := .bool (false)) (b := false) rfl rfl rfl rfl) rfl rfl ?_
      refine ops_nil ?_
      refine then_n ?_
      refine cond_f rfl ?_
      refine wp_skip ?_
      refine then_n ?_
      refine wp_seq ?_
      refine reg_seq [0] rfl ?_
      refine ops_cons ?_
      refine op_pure rfl (rn_assign rfl) rfl rfl ?_
      refine ops_nil ?_
      refine then_n ?_
      refine wp_seq ?_
      refine reg_seq [0, 1, 2, 3] rfl ?_
      refine ops_cons ?_
      refine op_pure rfl (rn_loadB Tryz.isAgg68 Tryz.sizeOf68 rfl (H193.blk 9 rfl) (ki_Vat_len (H193.kn 4 rfl))) rfl rfl ?_
      refine ops_cons ?_
      refine op_pure rfl (rn_move rfl) rfl rfl ?_
      refine ops_cons ?_
      refine op_call rfl Tryz.call34 (vs := #[.agg (List.toArray cs_11_3), .int .i64 (1)]) rfl rfl rfl (heldv_Vat_c (moE a1 l2 x0) _ _ _ (H193.kn 4 rfl) (by omega) (by omega)) ?_
      rintro e199 W198 ⟨rfl, hu197⟩
      refine ⟨_, rfl, ?_⟩
      have H200 : St w No [hB g_31_9 68 (List.toArray cs_31_5), hM ki_Vat (moE a1 l2 x0) cs_31_5, hR ki_Value 95 (.slice B_31_4 l2.length c_31_4) l2, hM ki_Vat x0 cs_31_1, hM ki_Vat (mkv_Vat 1 (moE a1 l2 x0)) cs_11_3, hR ki_Value 95 (.slice B_10_1 l2.length c_10_1) (mkS mk_Value cnt_Value (1 + cntv_Vat x0) l2), hM ki_Vat (mkv_Vat 1 x0) cs_9_1, hR ki_Value 95 (.slice B_16_2 l2.length c_16_2) l2, hM ki_Vat x0 cs_14_2, hB g_11_7 68 (List.toArray cs_11_3), hB g_9_2 68 (List.toArray cs_9_1), hB g_8_9 68 (List.toArray cs_8_5), hM ki_Vat (moE a1 l2 x0) cs_8_5, hR ki_Value 95 (.slice B_8_4 l2.length c_8_4) l2, hM ki_Vat x0 cs_8_1, hB g_0_0 55 (List.toArray cs0)] W198 := H193.no hu197
      clear H193
      refine ops_cons ?_
      refine op_pure rfl (rn_assign rfl) rfl rfl ?_
      refine ops_nil ?_
      refine then_n ?_
      refine wp_seq ?_
      refine wp_seq ?_
      refine reg_seq [0, 1] rfl ?_
      refine ops_cons ?_
      refine op_pure rfl (rn_move rfl) rfl rfl ?_
      refine ops_cons ?_
      refine op_pure rfl (rn_decF (by omega) (rn_lss rfl rfl)) rfl rfl ?_
      refine ops_nil ?_
      refine then_n ?_
      refine cond_f rfl ?_
      refine wp_skip ?_
      refine then_n ?_
      refine wp_seq ?_
      refine wp_seq ?_
      refine reg_seq [0, 1, 2] rfl ?_
      refine ops_cons ?_
      refine op_pure rfl (rn_move rfl) rfl rfl ?_
      refine ops_cons ?_
      refine op_pure rfl (rn_move rfl) rfl rfl ?_
      refine ops_cons ?_
      refine op_pure rfl (rn_decF (not_not_intro rfl) (rn_neq rfl rfl)) rfl rfl ?_
      refine ops_nil ?_
      refine then_n ?_
      refine cond_f rfl ?_
      refine wp_skip ?_
      refine then_n ?_
      refine wp_seq ?_
      refine reg_seq [0] rfl ?_
      refine ops_cons ?_
      refine op_pure rfl (rn_assign rfl) rfl rfl ?_
      refine ops_nil ?_
      refine then_n ?_
      refine wp_ret ?_
      refine post_tmp (.inl rfl) Tryz.results6 rfl ?_
      exact ⟨rfl, H200.1⟩
end Go.Proofs.YtfnedoiplblldaaGreatFam
