/- The law NewVat, walked. No conditions. -/
import Derived.Test.YtfnedoiplblldaaProg
import Derived.Test.YtfnedoiplblldaaTy
import Derived.Test.YtfnedoiplblldaaOpn
import Derived.Test.YtfnedoiplblldaaSym3
import Derived.Test.YtfnedoiplblldaaNewV
import Derived.Test.YtfnedoiplblldaaIntF
import Derived.Test.YtfnedoiplblldaaT2
namespace Go.Proofs.YtfnedoiplblldaaFam
open Go.ChangeShapes Go.WideShapes Go.RowKit Go.Proofs.YtfnedoiplblldaaSep Go.Proofs.YtfnedoiplblldaaT Go.Proofs.YtfnedoiplblldaaK
set_option linter.unusedVariables false
set_option linter.unusedSimpArgs false
set_option maxHeartbeats 4000000 in
set_option maxRecDepth 100000 in
theorem law_FnExactNewVat (w : World) (a0 : Int) (w0 : (Lit.int .i64 a0).wf = true) (l1 : List Int) (A1 : Option Addr) (c1 : Nat) (hC1 : C Kn.int w A1 l1) (hl1 : l1.length ≤ c1) (hG1 : l1.length ≤ 9223372036854775807 ∧ ∀ y ∈ l1, (Lit.int .i64 y).wf = true) (a2 : Int) (w2 : (Lit.int .i64 a2).wf = true) : Calls Try.prog 3 #[.int .i64 a0, .slice A1 l1.length c1, .int .i64 a2] w (RetBool true w) := by
  refine enter 76 [(0, .int .i64 (a0)), (1, .slice A1 l1.length c1), (2, .int .i64 (a2))] Try.func3 rfl (by kernel_rfl) ?_
  intro xj
  have H1 : St w No [] w := St.enter
  refine wp_seq ?_
  refine reg_seq [0] rfl ?_
  refine ops_cons ?_
  refine op_pure rfl (rn_assign rfl) rfl rfl ?_
  refine ops_nil ?_
  refine then_n ?_
  refine wp_seq ?_
  refine wp_seq ?_
  refine reg_seq [0, 1, 2] rfl ?_
  refine ops_cons ?_
  refine op_pure rfl (rn_move rfl) rfl rfl ?_
  refine ops_cons ?_
  refine op_pure rfl (rn_len Try.runUnderlying22 rfl) rfl rfl ?_
  refine ops_cons ?_
  refine op_pure rfl (rn_gtr rfl rfl) rfl rfl ?_
  refine ops_nil ?_
  refine then_n ?_
  refine cond_dec rfl (fun hc2 => ?_) (fun hc2 => ?_)
  · refine wp_seq ?_
    refine reg_seq [0] rfl ?_
    refine ops_cons ?_
    refine op_pure rfl (rn_assign rfl) rfl rfl ?_
    refine ops_nil ?_
    refine then_n ?_
    refine wp_ret ?_
    refine then_r ?_
    refine post_tmp (.inl rfl) Try.results3 rfl ?_
    exact ⟨rfl, H1.1⟩
  · have hs_l1 : l1.length ≤ 1048576 := by omega
    refine wp_skip ?_
    refine then_n ?_
    refine wp_seq ?_
    have nn3 : 0 ≤ cntS cnt_Int l1 := cntS_nn cnt_Int cnt_Int_nn l1
    have nn3b := cntS_bound cnt_Int szn_Int cnt_Int_le l1
    have nn3c : sznS szn_Int l1 ≤ 4194304 := (by unfold sznS; have h0 : sumS szn_Int l1 ≤ 0 * l1.length := sumS_all _ _ _ (fun _ _ => Nat.le_refl 0); omega)
    have nn4 : 0 ≤ cntv_Vat (nvV a0 l1 a2) := cntv_Vat_nn (nvV a0 l1 a2)
    have nn4b := cntv_Vat_le (nvV a0 l1 a2)
    have nn4c : szn_Vat (nvV a0 l1 a2) ≤ 4194304 := nvV_bd a0 l1 a2 hs_l1
    refine reg_seq [0, 1, 2, 3, 4, 5, 6] rfl ?_
    refine ops_cons ?_
    refine op_pure rfl (rn_move rfl) rfl rfl ?_
    refine ops_cons ?_
    refine op_pure rfl (rn_move rfl) rfl rfl ?_
    refine ops_cons ?_
    refine op_call rfl Try.call8 (vs := #[.slice A1 l1.length c1]) rfl rfl rfl (toS_Int l1 _ _ _ (C_upd H1.1 hC1) hs_l1) ?_
    rintro e9 W8 ⟨v6, rfl, hR7, hu5⟩
    refine ⟨_, rfl, ?_⟩
    obtain ⟨B_3_2, c_3_2, rfl⟩ := R_slice hR7
    have H10 : St w No [hR Kn.int 3 (.slice B_3_2 l1.length c_3_2) l1] W8 := H1.new hu5 hR7
    clear H1
    refine ops_cons ?_
    refine op_pure rfl (rn_move rfl) rfl rfl ?_
    refine ops_cons ?_
    refine op_call rfl Try.call7 (vs := #[.int .i64 (a0), .slice B_3_2 l1.length c_3_2, .int .i64 (a2)]) rfl rfl rfl (newVat_s a0 l1 a2 _ _ _ (H10.rowC 0 rfl) hs_l1) ?_
    rintro e14 W13 ⟨cs_3_4, rfl, hM11, hu12⟩
    refine ⟨_, rfl, ?_⟩
    have H15 : St w No [hM ki_Vat (nvV a0 l1 a2) cs_3_4, hR Kn.int 3 (.slice B_3_2 l1.length c_3_2) l1] W13 := H10.new hu12 hM11
    clear H10
    refine ops_cons ?_
    refine op_alloc rfl Try.zeroValue28 rfl rfl H15 ?_
    intro g_3_5 W16 hu17 Ha18
    clear H15
    have H19 : St w No [hB g_3_5 28 #[.int .i64 (0), .slice none 0 0, .slice none 0 0, .slice none 0 0, .slice none 0 0], hM ki_Vat (nvV a0 l1 a2) cs_3_4, hR Kn.int 3 (.slice B_3_2 l1.length c_3_2) l1] W16 := Ha18
    clear Ha18
    clear hu17
    refine ops_cons ?_
    refine op_storeW rfl Try.sizeOf28 rfl rfl (ki_Vat_len (H19.kn 1 rfl)) rfl (ki_Vat_one (H19.kn 1 rfl)) H19 ?_
    intro W20 hu21 Ha22
    clear H19
    have H23 : St w No [hB g_3_5 28 (List.toArray cs_3_4), hM ki_Vat (nvV a0 l1 a2) cs_3_4, hR Kn.int 3 (.slice B_3_2 l1.length c_3_2) l1] W20 := Ha22
    clear Ha22
    clear hu21
    refine ops_nil ?_
    refine then_n ?_
    refine wp_seq ?_
    refine reg_seq [0, 1, 2] rfl ?_
    refine ops_cons ?_
    refine op_pure rfl (rn_move rfl) rfl rfl ?_
    refine ops_cons ?_
    refine op_call rfl Try.call8 (vs := #[.slice A1 l1.length c1]) rfl rfl rfl (toS_Int l1 _ _ _ (C_upd H23.1 hC1) hs_l1) ?_
    rintro e28 W27 ⟨v25, rfl, hR26, hu24⟩
    refine ⟨_, rfl, ?_⟩
    obtain ⟨B_4_1, c_4_1, rfl⟩ := R_slice hR26
    have H29 : St w No [hR Kn.int 3 (.slice B_4_1 l1.length c_4_1) l1, hB g_3_5 28 (List.toArray cs_3_4), hM ki_Vat (nvV a0 l1 a2) cs_3_4, hR Kn.int 3 (.slice B_3_2 l1.length c_3_2) l1] W27 := H23.new hu24 hR26
    clear H23
    refine ops_cons ?_
    refine op_pure rfl (rn_assign rfl) rfl rfl ?_
    refine ops_nil ?_
    refine then_n ?_
    refine wp_seq ?_
    refine reg_seq [0, 1, 2, 3, 4, 5] rfl ?_
    refine ops_cons ?_
    refine op_pure rfl (rn_move rfl) rfl rfl ?_
    refine ops_cons ?_
    refine op_pure rfl (rn_move rfl) rfl rfl ?_
    refine ops_cons ?_
    refine op_pure rfl (rn_move rfl) rfl rfl ?_
    refine ops_cons ?_
    refine op_call rfl Try.call9 (vs := #[.int .i64 (a0), .slice B_4_1 l1.length c_4_1, .int .i64 (a2)]) rfl rfl rfl (newVat_i a0 l1 a2 _ _ _ (H29.rowC 0 rfl) hs_l1) ?_
    rintro e33 W32 ⟨cs_5_3, rfl, hM30, hu31⟩
    refine ⟨_, rfl, ?_⟩
    have H34 : St w No [hM ki_Vat (nvV a0 l1 a2) cs_5_3, hR Kn.int 3 (.slice B_4_1 l1.length c_4_1) l1, hB g_3_5 28 (List.toArray cs_3_4), hM ki_Vat (nvV a0 l1 a2) cs_3_4, hR Kn.int 3 (.slice B_3_2 l1.length c_3_2) l1] W32 := H29.new hu31 hM30
    clear H29
    refine ops_cons ?_
    refine op_alloc rfl Try.zeroValue28 rfl rfl H34 ?_
    intro g_5_4 W35 hu36 Ha37
    clear H34
    have H38 : St w No [hB g_5_4 28 #[.int .i64 (0), .slice none 0 0, .slice none 0 0, .slice none 0 0, .slice none 0 0], hM ki_Vat (nvV a0 l1 a2) cs_5_3, hR Kn.int 3 (.slice B_4_1 l1.length c_4_1) l1, hB g_3_5 28 (List.toArray cs_3_4), hM ki_Vat (nvV a0 l1 a2) cs_3_4, hR Kn.int 3 (.slice B_3_2 l1.length c_3_2) l1] W35 := Ha37
    clear Ha37
    clear hu36
    refine ops_cons ?_
    refine op_storeW rfl Try.sizeOf28 rfl rfl (ki_Vat_len (H38.kn 1 rfl)) rfl (ki_Vat_one (H38.kn 1 rfl)) H38 ?_
    intro W39 hu40 Ha41
    clear H38
    have H42 : St w No [hB g_5_4 28 (List.toArray cs_5_3), hM ki_Vat (nvV a0 l1 a2) cs_5_3, hR Kn.int 3 (.slice B_4_1 l1.length c_4_1) l1, hB g_3_5 28 (List.toArray cs_3_4), hM ki_Vat (nvV a0 l1 a2) cs_3_4, hR Kn.int 3 (.slice B_3_2 l1.length c_3_2) l1] W39 := Ha41
    clear Ha41
    clear hu40
    refine ops_nil ?_
    refine then_n ?_
    refine wp_seq ?_
    refine wp_seq ?_
    refine reg_seq [0, 1, 2, 3] rfl ?_
    refine ops_cons ?_
    refine op_pure rfl (rn_loadB Try.isAgg28 Try.sizeOf28 rfl (H42.blk 0 rfl) (ki_Vat_len (H42.kn 1 rfl))) rfl rfl ?_
    refine ops_cons ?_
    refine op_pure rfl (rn_loadB Try.isAgg28 Try.sizeOf28 rfl (H42.blk 3 rfl) (ki_Vat_len (H42.kn 4 rfl))) rfl rfl ?_
    refine ops_cons ?_
    refine op_call rfl Try.call10 (vs := #[.agg (List.toArray cs_5_3), .agg (List.toArray cs_3_4)]) rfl rfl rfl (eq_Vat (nvV a0 l1 a2) _ _ _ (H42.kn 1 rfl) (H42.kn 4 rfl)) ?_
    rintro e45 W44 ⟨rfl, hu43⟩
    refine ⟨_, rfl, ?_⟩
    have H46 : St w No [hB g_5_4 28 (List.toArray cs_5_3), hM ki_Vat (nvV a0 l1 a2) cs_5_3, hR Kn.int 3 (.slice B_4_1 l1.length c_4_1) l1, hB g_3_5 28 (List.toArray cs_3_4), hM ki_Vat (nvV a0 l1 a2) cs_3_4, hR Kn.int 3 (.slice B_3_2 l1.length c_3_2) l1] W44 := H42.no hu43
    clear H42
    refine ops_cons ?_
    refine op_pure rfl (rn_not rfl) rfl rfl ?_
    refine ops_nil ?_
    refine then_n ?_
    refine cond_f rfl ?_
    refine wp_skip ?_
    refine then_n ?_
    refine wp_seq ?_
    refine wp_seq ?_
    refine reg_seq [0, 1, 2, 3, 4] rfl ?_
    refine ops_cons ?_
    refine op_pure rfl (rn_move rfl) rfl rfl ?_
    refine ops_cons ?_
    refine op_pure rfl (rn_move rfl) rfl rfl ?_
    refine ops_cons ?_
    refine op_call rfl Try.call8 (vs := #[.slice A1 l1.length c1]) rfl rfl rfl (toS_Int l1 _ _ _ (C_upd H46.1 hC1) hs_l1) ?_
    rintro e51 W50 ⟨v48, rfl, hR49, hu47⟩
    refine ⟨_, rfl, ?_⟩
    obtain ⟨B_8_2, c_8_2, rfl⟩ := R_slice hR49
    have H52 : St w No [hR Kn.int 3 (.slice B_8_2 l1.length c_8_2) l1, hB g_5_4 28 (List.toArray cs_5_3), hM ki_Vat (nvV a0 l1 a2) cs_5_3, hR Kn.int 3 (.slice B_4_1 l1.length c_4_1) l1, hB g_3_5 28 (List.toArray cs_3_4), hM ki_Vat (nvV a0 l1 a2) cs_3_4, hR Kn.int 3 (.slice B_3_2 l1.length c_3_2) l1] W50 := H46.new hu47 hR49
    clear H46
    refine ops_cons ?_
    refine op_call rfl Try.call11 (vs := #[.slice B_4_1 l1.length c_4_1, .slice B_8_2 l1.length c_8_2]) rfl rfl rfl (eqS_Int l1 _ _ _ _ _ (H52.rowC 3 rfl) (H52.rowC 0 rfl)) ?_
    rintro e55 W54 ⟨rfl, hu53⟩
    refine ⟨_, rfl, ?_⟩
    have H56 : St w No [hR Kn.int 3 (.slice B_8_2 l1.length c_8_2) l1, hB g_5_4 28 (List.toArray cs_5_3), hM ki_Vat (nvV a0 l1 a2) cs_5_3, hR Kn.int 3 (.slice B_4_1 l1.length c_4_1) l1, hB g_3_5 28 (List.toArray cs_3_4), hM ki_Vat (nvV a0 l1 a2) cs_3_4, hR Kn.int 3 (.slice B_3_2 l1.length c_3_2) l1] W54 := H52.no hu53
    clear H52
    refine ops_cons ?_
    refine op_pure rfl (rn_not rfl) rfl rfl ?_
    refine ops_nil ?_
    refine then_n ?_
    refine cond_f rfl ?_
    refine wp_skip ?_
    refine then_n ?_
    refine wp_seq ?_
    refine reg_seq [0] rfl ?_
    refine ops_cons ?_
    refine op_pure rfl (rn_assign rfl) rfl rfl ?_
    refine ops_nil ?_
    refine then_n ?_
    refine wp_seq ?_
    refine reg_seq [0, 1, 2, 3] rfl ?_
    refine ops_cons ?_
    refine op_pure rfl (rn_move rfl) rfl rfl ?_
    refine ops_cons ?_
    refine op_pure rfl (rn_move rfl) rfl rfl ?_
    refine ops_cons ?_
    have H63 : St w No [hR Kn.int 3 (.slice B_4_1 l1.length c_4_1) l1, hR Kn.int 3 (.slice B_8_2 l1.length c_8_2) l1, hB g_5_4 28 (List.toArray cs_5_3), hM ki_Vat (nvV a0 l1 a2) cs_5_3, hB g_3_5 28 (List.toArray cs_3_4), hM ki_Vat (nvV a0 l1 a2) cs_3_4, hR Kn.int 3 (.slice B_3_2 l1.length c_3_2) l1] W54 := H56.pick [3, 0, 1, 2, 4, 5, 6] (by decide) rfl
    clear H56
    obtain ⟨F58, hM59, hF60, hT61⟩ := H63.turn
    refine op_call rfl Try.call12 (vs := #[.slice B_4_1 l1.length c_4_1, .int .i64 (1)]) rfl rfl rfl (markS_Int l1 _ F58 _ _ hM59 (by omega) (by omega)) ?_
    rintro e65 W64 ⟨rfl, hM62, hu57⟩
    refine ⟨_, rfl, ?_⟩
    have H66 : St w No [hR Kn.int 3 (.slice B_4_1 l1.length c_4_1) (mkS mk_Int cnt_Int 1 l1), hR Kn.int 3 (.slice B_8_2 l1.length c_8_2) l1, hB g_5_4 28 (List.toArray cs_5_3), hM ki_Vat (nvV a0 l1 a2) cs_5_3, hB g_3_5 28 (List.toArray cs_3_4), hM ki_Vat (nvV a0 l1 a2) cs_3_4, hR Kn.int 3 (.slice B_3_2 l1.length c_3_2) l1] W64 := hT61 (hR Kn.int 3 (.slice B_4_1 l1.length c_4_1) (mkS mk_Int cnt_Int 1 l1)) _ hu57 hM62
    clear H63
    refine ops_cons ?_
    refine op_pure rfl (rn_assign rfl) rfl rfl ?_
    refine ops_nil ?_
    refine then_n ?_
    refine wp_seq ?_
    refine wp_seq ?_
    refine reg_seq [0, 1, 2, 3, 4, 5, 6, 7] rfl ?_
    refine ops_cons ?_
    refine op_pure rfl (rn_move rfl) rfl rfl ?_
    refine ops_cons ?_
    refine op_pure rfl (rn_decF (by omega) (rn_lss rfl rfl)) rfl rfl ?_
    refine ops_cons ?_
    refine op_pure rfl (rn_move rfl) rfl rfl ?_
    refine ops_cons ?_
    refine op_G rfl rfl rfl rfl (fun _ ho67 => ?_)
    refine op_pure ho67 (rn_loadB Try.isAgg28 Try.sizeOf28 rfl (H66.blk 2 rfl) (ki_Vat_len (H66.kn 3 rfl))) rfl rfl ?_
    refine ops_cons ?_
    refine op_G rfl rfl rfl rfl (fun _ ho68 => ?_)
    refine op_pure ho68 (rn_loadB Try.isAgg28 Try.sizeOf28 rfl (H66.blk 4 rfl) (ki_Vat_len (H66.kn 5 rfl))) rfl rfl ?_
    refine ops_cons ?_
    refine op_G rfl rfl rfl rfl (fun _ ho69 => ?_)
    refine op_call ho69 Try.call10 (vs := #[.agg (List.toArray cs_5_3), .agg (List.toArray cs_3_4)]) rfl rfl rfl (eq_Vat (nvV a0 l1 a2) _ _ _ (H66.kn 3 rfl) (H66.kn 5 rfl)) ?_
    rintro e72 W71 ⟨rfl, hu70⟩
    refine ⟨_, rfl, ?_⟩
    have H73 : St w No [hR Kn.int 3 (.slice B_4_1 l1.length c_4_1) (mkS mk_Int cnt_Int 1 l1), hR Kn.int 3 (.slice B_8_2 l1.length c_8_2) l1, hB g_5_4 28 (List.toArray cs_5_3), hM ki_Vat (nvV a0 l1 a2) cs_5_3, hB g_3_5 28 (List.toArray cs_3_4), hM ki_Vat (nvV a0 l1 a2) cs_3_4, hR Kn.int 3 (.slice B_3_2 l1.length c_3_2) l1] W71 := H66.no hu70
    clear H66
    refine ops_cons ?_
    refine op_G rfl rfl rfl rfl (fun _ ho74 => ?_)
    refine op_pure ho74 (rn_not rfl) rfl rfl ?_
    refine ops_cons ?_
    refine op_pure rfl (rn_pick (v := .bool (false)) (b := false) rfl rfl rfl rfl) rfl rfl ?_
    refine ops_nil ?_
    refine then_n ?_
    refine cond_f rfl ?_
    refine wp_skip ?_
    refine then_n ?_
    refine wp_seq ?_
    refine reg_seq [0] rfl ?_
    refine ops_cons ?_
    refine op_pure rfl (rn_assign rfl) rfl rfl ?_
    refine ops_nil ?_
    refine then_n ?_
    refine wp_seq ?_
    refine reg_seq [0, 1, 2, 3] rfl ?_
    refine ops_cons ?_
    refine op_pure rfl (rn_loadB Try.isAgg28 Try.sizeOf28 rfl (H73.blk 2 rfl) (ki_Vat_len (H73.kn 3 rfl))) rfl rfl ?_
    refine ops_cons ?_
    refine op_pure rfl (rn_move rfl) rfl rfl ?_
    refine ops_cons ?_
    have H81 : St w No [hM ki_Vat (nvV a0 l1 a2) cs_5_3, hR Kn.int 3 (.slice B_4_1 l1.length c_4_1) (mkS mk_Int cnt_Int 1 l1), hR Kn.int 3 (.slice B_8_2 l1.length c_8_2) l1, hB g_5_4 28 (List.toArray cs_5_3), hB g_3_5 28 (List.toArray cs_3_4), hM ki_Vat (nvV a0 l1 a2) cs_3_4, hR Kn.int 3 (.slice B_3_2 l1.length c_3_2) l1] W71 := H73.pick [3, 0, 1, 2, 4, 5, 6] (by decide) rfl
    clear H73
    obtain ⟨F76, hM77, hF78, hT79⟩ := H81.turn
    refine op_call rfl Try.call13 (vs := #[.agg (List.toArray cs_5_3), .int .i64 (1)]) rfl rfl rfl (markv_Vat_c (nvV a0 l1 a2) _ F76 _ _ hM77 (by omega) (by omega)) ?_
    rintro e83 W82 ⟨rfl, hM80, hu75⟩
    refine ⟨_, rfl, ?_⟩
    have H84 : St w No [hM ki_Vat (mkv_Vat 1 (nvV a0 l1 a2)) cs_5_3, hR Kn.int 3 (.slice B_4_1 l1.length c_4_1) (mkS mk_Int cnt_Int 1 l1), hR Kn.int 3 (.slice B_8_2 l1.length c_8_2) l1, hB g_5_4 28 (List.toArray cs_5_3), hB g_3_5 28 (List.toArray cs_3_4), hM ki_Vat (nvV a0 l1 a2) cs_3_4, hR Kn.int 3 (.slice B_3_2 l1.length c_3_2) l1] W82 := hT79 (hM ki_Vat (mkv_Vat 1 (nvV a0 l1 a2)) cs_5_3) _ hu75 ((hM ki_Vat (mkv_Vat 1 (nvV a0 l1 a2)) cs_5_3).mono (fun _ q => .inl q) hM80)
    clear H81
    refine ops_cons ?_
    refine op_pure rfl (rn_assign rfl) rfl rfl ?_
    refine ops_nil ?_
    refine then_n ?_
    refine wp_seq ?_
    refine reg_seq [0] rfl ?_
    refine ops_cons ?_
    refine op_pure rfl (rn_assign rfl) rfl rfl ?_
    refine ops_nil ?_
    refine then_n ?_
    refine wp_seq ?_
    refine reg_seq [0, 1, 2, 3] rfl ?_
    refine ops_cons ?_
    refine op_pure rfl (rn_loadB Try.isAgg28 Try.sizeOf28 rfl (H84.blk 3 rfl) (ki_Vat_len (H84.kn 0 rfl))) rfl rfl ?_
    refine ops_cons ?_
    refine op_pure rfl (rn_move rfl) rfl rfl ?_
    refine ops_cons ?_
    refine op_call rfl Try.call14 (vs := #[.agg (List.toArray cs_5_3), .int .i64 (1)]) rfl rfl rfl (heldv_Vat_c (nvV a0 l1 a2) _ _ _ (H84.kn 0 rfl) (by omega) (by omega)) ?_
    rintro e87 W86 ⟨rfl, hu85⟩
    refine ⟨_, rfl, ?_⟩
    have H88 : St w No [hM ki_Vat (mkv_Vat 1 (nvV a0 l1 a2)) cs_5_3, hR Kn.int 3 (.slice B_4_1 l1.length c_4_1) (mkS mk_Int cnt_Int 1 l1), hR Kn.int 3 (.slice B_8_2 l1.length c_8_2) l1, hB g_5_4 28 (List.toArray cs_5_3), hB g_3_5 28 (List.toArray cs_3_4), hM ki_Vat (nvV a0 l1 a2) cs_3_4, hR Kn.int 3 (.slice B_3_2 l1.length c_3_2) l1] W86 := H84.no hu85
    clear H84
    refine ops_cons ?_
    refine op_pure rfl (rn_assign rfl) rfl rfl ?_
    refine ops_nil ?_
    refine then_n ?_
    refine wp_seq ?_
    refine wp_seq ?_
    refine reg_seq [0, 1] rfl ?_
    refine ops_cons ?_
    refine op_pure rfl (rn_move rfl) rfl rfl ?_
    refine ops_cons ?_
    refine op_pure rfl (rn_decF (by omega) (rn_lss rfl rfl)) rfl rfl ?_
    refine ops_nil ?_
    refine then_n ?_
    refine cond_f rfl ?_
    refine wp_skip ?_
    refine then_n ?_
    refine wp_seq ?_
    refine wp_seq ?_
    refine reg_seq [0, 1, 2] rfl ?_
    refine ops_cons ?_
    refine op_pure rfl (rn_move rfl) rfl rfl ?_
    refine ops_cons ?_
    refine op_pure rfl (rn_move rfl) rfl rfl ?_
    refine ops_cons ?_
    refine op_pure rfl (rn_decF (not_not_intro rfl) (rn_neq rfl rfl)) rfl rfl ?_
    refine ops_nil ?_
    refine then_n ?_
    refine cond_f rfl ?_
    refine wp_skip ?_
    refine then_n ?_
    refine wp_seq ?_
    refine reg_seq [0, 1, 2, 3, 4, 5, 6] rfl ?_
    refine ops_cons ?_
    refine op_pure rfl (rn_move rfl) rfl rfl ?_
    refine ops_cons ?_
    refine op_pure rfl (rn_move rfl) rfl rfl ?_
    refine ops_cons ?_
    refine op_call rfl Try.call8 (vs := #[.slice A1 l1.length c1]) rfl rfl rfl (toS_Int l1 _ _ _ (C_upd H88.1 hC1) hs_l1) ?_
    rintro e93 W92 ⟨v90, rfl, hR91, hu89⟩
    refine ⟨_, rfl, ?_⟩
    obtain ⟨B_22_2, c_22_2, rfl⟩ := R_slice hR91
    have H94 : St w No [hR Kn.int 3 (.slice B_22_2 l1.length c_22_2) l1, hM ki_Vat (mkv_Vat 1 (nvV a0 l1 a2)) cs_5_3, hR Kn.int 3 (.slice B_4_1 l1.length c_4_1) (mkS mk_Int cnt_Int 1 l1), hR Kn.int 3 (.slice B_8_2 l1.length c_8_2) l1, hB g_5_4 28 (List.toArray cs_5_3), hB g_3_5 28 (List.toArray cs_3_4), hM ki_Vat (nvV a0 l1 a2) cs_3_4, hR Kn.int 3 (.slice B_3_2 l1.length c_3_2) l1] W92 := H88.new hu89 hR91
    clear H88
    refine ops_cons ?_
    refine op_pure rfl (rn_move rfl) rfl rfl ?_
    refine ops_cons ?_
    refine op_call rfl Try.call9 (vs := #[.int .i64 (a0), .slice B_22_2 l1.length c_22_2, .int .i64 (a2)]) rfl rfl rfl (newVat_i a0 l1 a2 _ _ _ (H94.rowC 0 rfl) hs_l1) ?_
    rintro e98 W97 ⟨cs_22_4, rfl, hM95, hu96⟩
    refine ⟨_, rfl, ?_⟩
    have H99 : St w No [hM ki_Vat (nvV a0 l1 a2) cs_22_4, hR Kn.int 3 (.slice B_22_2 l1.length c_22_2) l1, hM ki_Vat (mkv_Vat 1 (nvV a0 l1 a2)) cs_5_3, hR Kn.int 3 (.slice B_4_1 l1.length c_4_1) (mkS mk_Int cnt_Int 1 l1), hR Kn.int 3 (.slice B_8_2 l1.length c_8_2) l1, hB g_5_4 28 (List.toArray cs_5_3), hB g_3_5 28 (List.toArray cs_3_4), hM ki_Vat (nvV a0 l1 a2) cs_3_4, hR Kn.int 3 (.slice B_3_2 l1.length c_3_2) l1] W97 := H94.new hu96 hM95
    clear H94
    refine ops_cons ?_
    refine op_alloc rfl Try.zeroValue28 rfl rfl H99 ?_
    intro g_22_5 W100 hu101 Ha102
    clear H99
    have H103 : St w No [hB g_22_5 28 #[.int .i64 (0), .slice none 0 0, .slice none 0 0, .slice none 0 0, .slice none 0 0], hM ki_Vat (nvV a0 l1 a2) cs_22_4, hR Kn.int 3 (.slice B_22_2 l1.length c_22_2) l1, hM ki_Vat (mkv_Vat 1 (nvV a0 l1 a2)) cs_5_3, hR Kn.int 3 (.slice B_4_1 l1.length c_4_1) (mkS mk_Int cnt_Int 1 l1), hR Kn.int 3 (.slice B_8_2 l1.length c_8_2) l1, hB g_5_4 28 (List.toArray cs_5_3), hB g_3_5 28 (List.toArray cs_3_4), hM ki_Vat (nvV a0 l1 a2) cs_3_4, hR Kn.int 3 (.slice B_3_2 l1.length c_3_2) l1] W100 := Ha102
    clear Ha102
    clear hu101
    refine ops_cons ?_
    refine op_storeW rfl Try.sizeOf28 rfl rfl (ki_Vat_len (H103.kn 1 rfl)) rfl (ki_Vat_one (H103.kn 1 rfl)) H103 ?_
    intro W104 hu105 Ha106
    clear H103
    have H107 : St w No [hB g_22_5 28 (List.toArray cs_22_4), hM ki_Vat (nvV a0 l1 a2) cs_22_4, hR Kn.int 3 (.slice B_22_2 l1.length c_22_2) l1, hM ki_Vat (mkv_Vat 1 (nvV a0 l1 a2)) cs_5_3, hR Kn.int 3 (.slice B_4_1 l1.length c_4_1) (mkS mk_Int cnt_Int 1 l1), hR Kn.int 3 (.slice B_8_2 l1.length c_8_2) l1, hB g_5_4 28 (List.toArray cs_5_3), hB g_3_5 28 (List.toArray cs_3_4), hM ki_Vat (nvV a0 l1 a2) cs_3_4, hR Kn.int 3 (.slice B_3_2 l1.length c_3_2) l1] W104 := Ha106
    clear Ha106
    clear hu105
    refine ops_nil ?_
    refine then_n ?_
    refine wp_seq ?_
    refine wp_seq ?_
    refine reg_seq [0, 1, 2, 3] rfl ?_
    refine ops_cons ?_
    refine op_pure rfl (rn_loadB Try.isAgg28 Try.sizeOf28 rfl (H107.blk 0 rfl) (ki_Vat_len (H107.kn 1 rfl))) rfl rfl ?_
    refine ops_cons ?_
    refine op_pure rfl (rn_loadB Try.isAgg28 Try.sizeOf28 rfl (H107.blk 7 rfl) (ki_Vat_len (H107.kn 8 rfl))) rfl rfl ?_
    refine ops_cons ?_
    refine op_call rfl Try.call10 (vs := #[.agg (List.toArray cs_22_4), .agg (List.toArray cs_3_4)]) rfl rfl rfl (eq_Vat (nvV a0 l1 a2) _ _ _ (H107.kn 1 rfl) (H107.kn 8 rfl)) ?_
    rintro e110 W109 ⟨rfl, hu108⟩
    refine ⟨_, rfl, ?_⟩
    have H111 : St w No [hB g_22_5 28 (List.toArray cs_22_4), hM ki_Vat (nvV a0 l1 a2) cs_22_4, hR Kn.int 3 (.slice B_22_2 l1.length c_22_2) l1, hM ki_Vat (mkv_Vat 1 (nvV a0 l1 a2)) cs_5_3, hR Kn.int 3 (.slice B_4_1 l1.length c_4_1) (mkS mk_Int cnt_Int 1 l1), hR Kn.int 3 (.slice B_8_2 l1.length c_8_2) l1, hB g_5_4 28 (List.toArray cs_5_3), hB g_3_5 28 (List.toArray cs_3_4), hM ki_Vat (nvV a0 l1 a2) cs_3_4, hR Kn.int 3 (.slice B_3_2 l1.length c_3_2) l1] W109 := H107.no hu108
    clear H107
    refine ops_cons ?_
    refine op_pure rfl (rn_not rfl) rfl rfl ?_
    refine ops_nil ?_
    refine then_n ?_
    refine cond_f rfl ?_
    refine wp_skip ?_
    refine then_n ?_
    refine wp_seq ?_
    refine reg_seq [0] rfl ?_
    refine ops_cons ?_
    refine op_pure rfl (rn_assign rfl) rfl rfl ?_
    refine ops_nil ?_
    refine then_n ?_
    refine wp_seq ?_
    refine reg_seq [0, 1, 2, 3] rfl ?_
    refine ops_cons ?_
    refine op_pure rfl (rn_loadB Try.isAgg28 Try.sizeOf28 rfl (H111.blk 6 rfl) (ki_Vat_len (H111.kn 3 rfl))) rfl rfl ?_
    refine ops_cons ?_
    refine op_pure rfl (rn_move rfl) rfl rfl ?_
    refine ops_cons ?_
    refine op_call rfl Try.call14 (vs := #[.agg (List.toArray cs_5_3), .int .i64 (1)]) rfl rfl rfl (heldv_Vat_c (nvV a0 l1 a2) _ _ _ (H111.kn 3 rfl) (by omega) (by omega)) ?_
    rintro e114 W113 ⟨rfl, hu112⟩
    refine ⟨_, rfl, ?_⟩
    have H115 : St w No [hB g_22_5 28 (List.toArray cs_22_4), hM ki_Vat (nvV a0 l1 a2) cs_22_4, hR Kn.int 3 (.slice B_22_2 l1.length c_22_2) l1, hM ki_Vat (mkv_Vat 1 (nvV a0 l1 a2)) cs_5_3, hR Kn.int 3 (.slice B_4_1 l1.length c_4_1) (mkS mk_Int cnt_Int 1 l1), hR Kn.int 3 (.slice B_8_2 l1.length c_8_2) l1, hB g_5_4 28 (List.toArray cs_5_3), hB g_3_5 28 (List.toArray cs_3_4), hM ki_Vat (nvV a0 l1 a2) cs_3_4, hR Kn.int 3 (.slice B_3_2 l1.length c_3_2) l1] W113 := H111.no hu112
    clear H111
    refine ops_cons ?_
    refine op_pure rfl (rn_assign rfl) rfl rfl ?_
    refine ops_nil ?_
    refine then_n ?_
    refine wp_seq ?_
    refine wp_seq ?_
    refine reg_seq [0, 1] rfl ?_
    refine ops_cons ?_
    refine op_pure rfl (rn_move rfl) rfl rfl ?_
    refine ops_cons ?_
    refine op_pure rfl (rn_decF (by omega) (rn_lss rfl rfl)) rfl rfl ?_
    refine ops_nil ?_
    refine then_n ?_
    refine cond_f rfl ?_
    refine wp_skip ?_
    refine then_n ?_
    refine wp_seq ?_
    refine wp_seq ?_
    refine reg_seq [0, 1, 2] rfl ?_
    refine ops_cons ?_
    refine op_pure rfl (rn_move rfl) rfl rfl ?_
    refine ops_cons ?_
    refine op_pure rfl (rn_move rfl) rfl rfl ?_
    refine ops_cons ?_
    refine op_pure rfl (rn_decF (not_not_intro rfl) (rn_neq rfl rfl)) rfl rfl ?_
    refine ops_nil ?_
    refine then_n ?_
    refine cond_f rfl ?_
    refine wp_skip ?_
    refine then_n ?_
    refine wp_seq ?_
    refine reg_seq [0] rfl ?_
    refine ops_cons ?_
    refine op_pure rfl (rn_assign rfl) rfl rfl ?_
    refine ops_nil ?_
    refine then_n ?_
    refine wp_ret ?_
    refine post_tmp (.inl rfl) Try.results3 rfl ?_
    exact ⟨rfl, H115.1⟩
end Go.Proofs.YtfnedoiplblldaaFam
