/- The law JoinLink, walked. No conditions. -/
import Derived.Test.YtfnedoiplblldaaGreatProg
import Derived.Test.YtfnedoiplblldaaGreatTy
import Derived.Test.YtfnedoiplblldaaGreatOpn
import Derived.Test.YtfnedoiplblldaaGreatSym3
import Derived.Test.YtfnedoiplblldaaGreatJoinT
import Derived.Test.YtfnedoiplblldaaGreatT2
namespace Go.Proofs.YtfnedoiplblldaaGreatFam
open Go.ChangeShapes Go.WideShapes Go.RowKit Go.Proofs.YtfnedoiplblldaaGreatSep Go.Proofs.YtfnedoiplblldaaGreatT Go.Proofs.YtfnedoiplblldaaGreatK
set_option linter.unusedVariables false
set_option linter.unusedSimpArgs false
attribute [local irreducible] wpOps wpOp
set_option maxHeartbeats 4000000 in
set_option maxRecDepth 100000 in
theorem law_FnExactJoinLink (w : World) (x0 : GVat) (cs0 : List Value) (hK0 : kl_Vat.K w x0 cs0) (hG0 : Gd_Vat x0) (a1 : Int) (w1 : (Lit.int .i64 a1).wf = true) : Calls Tryz.prog 7 #[.agg cs0.toArray, .int .i64 a1] w (RetBool true w) := by
  have hl0_ : cs0.length = 5 := kl_Vat.K_len hK0
  have ho0_ : ∀ u ∈ (List.toArray cs0).toList, u.oneCell' = true := kl_Vat.K_one hK0
  refine enter 101 [(0, .agg (List.toArray cs0)), (1, .int .i64 (a1))] Tryz.func7 rfl (by kernel_rfl) ?_
  intro xj
  have H1 : St w No [] w := St.enter
  refine wp_seq ?_
  refine reg_seq [0, 1] rfl ?_
  refine ops_cons ?_
  refine op_box rfl rfl rfl rfl H1 ?_
  intro g_0_0 W2 hu3 Ha4
  clear H1
  have H5 : St w No [hB g_0_0 55 (List.toArray cs0)] W2 := Ha4
  clear Ha4
  clear hu3
  refine ops_cons ?_
  refine op_pure rfl (rn_assign rfl) rfl rfl ?_
  refine ops_nil ?_
  refine then_n ?_
  refine wp_seq ?_
  refine reg_seq [0] rfl ?_
  refine ops_cons ?_
  refine op_pure rfl (rn_assign rfl) rfl rfl ?_
  refine ops_nil ?_
  refine then_n ?_
  refine wp_seq ?_
  refine reg_seq [0, 1, 2, 3] rfl ?_
  refine ops_cons ?_
  refine op_pure rfl (rn_loadB Tryz.isAgg55 Tryz.sizeOf55 rfl (H5.blk 0 rfl) hl0_) rfl rfl ?_
  refine ops_cons ?_
  refine op_pure rfl (rn_move rfl) rfl rfl ?_
  refine ops_cons ?_
  refine op_call rfl Tryz.call24 (vs := #[.agg (List.toArray cs0), .int .i64 (1048576)]) rfl rfl rfl (sz_Vat x0 _ _ _ (K_upd H5.1 hK0) (Bd_of_Vat hG0) (by omega) (by omega)) ?_
  rintro e10 W9 ⟨n7, rfl, hr8, hu6⟩
  refine ⟨_, rfl, ?_⟩
  have H11 : St w No [hB g_0_0 55 (List.toArray cs0)] W9 := H5.no hu6
  clear H5
  refine ops_cons ?_
  refine op_pure rfl (rn_assign rfl) rfl rfl ?_
  refine ops_nil ?_
  refine then_n ?_
  refine wp_seq ?_
  refine wp_seq ?_
  refine reg_seq [0, 1] rfl ?_
  refine ops_cons ?_
  refine op_pure rfl (rn_move rfl) rfl rfl ?_
  refine ops_cons ?_
  refine op_pure rfl (rn_lss rfl rfl) rfl rfl ?_
  refine ops_nil ?_
  refine then_n ?_
  refine cond_dec rfl (fun hc12 => ?_) (fun hc12 => ?_)
  · refine wp_seq ?_
    refine reg_seq [0] rfl ?_
    refine ops_cons ?_
    refine op_pure rfl (rn_assign rfl) rfl rfl ?_
    refine ops_nil ?_
    refine then_n ?_
    refine wp_ret ?_
    refine then_r ?_
    refine post_tmp (.inl rfl) Tryz.results7 rfl ?_
    exact ⟨rfl, H11.1⟩
  · have hs_x0 : szn_Vat x0 ≤ 1048576 := by omega
    refine wp_skip ?_
    refine then_n ?_
    refine wp_seq ?_
    have nn13 : 0 ≤ cntv_Vat x0 := cntv_Vat_nn x0
    have nn13b := cntv_Vat_le x0
    have nn13c : szn_Vat x0 ≤ 4194304 := (Nat.le_trans hs_x0 (by decide))
    have nn14 : 0 ≤ cntv_Vat (joinV a1 x0) := cntv_Vat_nn (joinV a1 x0)
    have nn14b := cntv_Vat_le (joinV a1 x0)
    have nn14c : szn_Vat (joinV a1 x0) ≤ 4194304 := joinV_bd a1 x0 hs_x0
    refine reg_seq [0, 1, 2, 3, 4, 5, 6, 7, 8, 9] rfl ?_
    refine ops_cons ?_
    refine op_pure rfl (rn_loadB Tryz.isAgg55 Tryz.sizeOf55 rfl (H11.blk 0 rfl) hl0_) rfl rfl ?_
    refine ops_cons ?_
    refine op_call rfl Tryz.call27 (vs := #[.agg (List.toArray cs0)]) rfl rfl rfl (to_Vat x0 _ _ (K_upd H11.1 hK0) hs_x0) ?_
    rintro e19 W18 ⟨cs_5_1, rfl, hM16, hu17⟩
    refine ⟨_, rfl, ?_⟩
    have hl20 := ki_Vat_len (ki_Vat.K_of_M hM16)
    have ho21 := ki_Vat_one (ki_Vat.K_of_M hM16)
    have H22 : St w No [hM ki_Vat x0 cs_5_1, hB g_0_0 55 (List.toArray cs0)] W18 := H11.new hu17 hM16
    clear H11
    refine ops_cons ?_
    refine op_pure rfl (rn_move rfl) rfl rfl ?_
    refine ops_cons ?_
    refine op_call rfl Tryz.call41 (vs := #[.agg (List.toArray cs_5_1), .int .i64 (a1)]) rfl rfl rfl (joinLink_S x0 a1 _ _ (H22.kn 0 rfl) (Nat.le_trans hs_x0 (by decide))) ?_
    rintro e26 W25 ⟨cs_5_3, rfl, hM23, hu24⟩
    refine ⟨_, rfl, ?_⟩
    have hl27 := ki_Vat_len (ki_Vat.K_of_M hM23)
    have ho28 := ki_Vat_one (ki_Vat.K_of_M hM23)
    have H29 : St w No [hM ki_Vat (joinV a1 x0) cs_5_3, hM ki_Vat x0 cs_5_1, hB g_0_0 55 (List.toArray cs0)] W25 := H22.new hu24 hM23
    clear H22
    refine ops_cons ?_
    refine op_pure rfl (rn_move rfl) rfl rfl ?_
    refine ops_cons ?_
    refine op_pure rfl (rn_extract (v := .agg (List.toArray cs_5_3)) rfl rfl) rfl rfl ?_
    refine ops_cons ?_
    refine op_pure rfl (rn_extract (v := .int .i64 ((jN a1 x0.Entities x0.Links))) rfl rfl) rfl rfl ?_
    refine ops_cons ?_
    refine op_alloc rfl Tryz.zeroValue68 rfl rfl H29 ?_
    intro g_5_7 W30 hu31 Ha32
    clear H29
    have H33 : St w No [hB g_5_7 68 #[.int .i64 (0), .slice none 0 0, .slice none 0 0, .slice none 0 0, .slice none 0 0], hM ki_Vat (joinV a1 x0) cs_5_3, hM ki_Vat x0 cs_5_1, hB g_0_0 55 (List.toArray cs0)] W30 := Ha32
    clear Ha32
    clear hu31
    refine ops_cons ?_
    refine op_storeW rfl Tryz.sizeOf68 rfl rfl (ki_Vat_len (H33.kn 1 rfl)) rfl (ki_Vat_one (H33.kn 1 rfl)) H33 ?_
    intro W34 hu35 Ha36
    clear H33
    have H37 : St w No [hB g_5_7 68 (List.toArray cs_5_3), hM ki_Vat (joinV a1 x0) cs_5_3, hM ki_Vat x0 cs_5_1, hB g_0_0 55 (List.toArray cs0)] W34 := Ha36
    clear Ha36
    clear hu35
    refine ops_cons ?_
    refine op_pure rfl (rn_assign rfl) rfl rfl ?_
    refine ops_nil ?_
    refine then_n ?_
    refine wp_seq ?_
    refine reg_seq [0, 1, 2, 3] rfl ?_
    refine ops_cons ?_
    refine op_pure rfl (rn_loadB Tryz.isAgg55 Tryz.sizeOf55 rfl (H37.blk 3 rfl) hl0_) rfl rfl ?_
    refine ops_cons ?_
    refine op_call rfl Tryz.call27 (vs := #[.agg (List.toArray cs0)]) rfl rfl rfl (to_Vat x0 _ _ (K_upd H37.1 hK0) hs_x0) ?_
    rintro e42 W41 ⟨cs_6_1, rfl, hM39, hu40⟩
    refine ⟨_, rfl, ?_⟩
    have hl43 := ki_Vat_len (ki_Vat.K_of_M hM39)
    have ho44 := ki_Vat_one (ki_Vat.K_of_M hM39)
    have H45 : St w No [hM ki_Vat x0 cs_6_1, hB g_5_7 68 (List.toArray cs_5_3), hM ki_Vat (joinV a1 x0) cs_5_3, hM ki_Vat x0 cs_5_1, hB g_0_0 55 (List.toArray cs0)] W41 := H37.new hu40 hM39
    clear H37
    refine ops_cons ?_
    refine op_alloc rfl Tryz.zeroValue68 rfl rfl H45 ?_
    intro g_6_2 W46 hu47 Ha48
    clear H45
    have H49 : St w No [hB g_6_2 68 #[.int .i64 (0), .slice none 0 0, .slice none 0 0, .slice none 0 0, .slice none 0 0], hM ki_Vat x0 cs_6_1, hB g_5_7 68 (List.toArray cs_5_3), hM ki_Vat (joinV a1 x0) cs_5_3, hM ki_Vat x0 cs_5_1, hB g_0_0 55 (List.toArray cs0)] W46 := Ha48
    clear Ha48
    clear hu47
    refine ops_cons ?_
    refine op_storeW rfl Tryz.sizeOf68 rfl rfl (ki_Vat_len (H49.kn 1 rfl)) rfl (ki_Vat_one (H49.kn 1 rfl)) H49 ?_
    intro W50 hu51 Ha52
    clear H49
    have H53 : St w No [hB g_6_2 68 (List.toArray cs_6_1), hM ki_Vat x0 cs_6_1, hB g_5_7 68 (List.toArray cs_5_3), hM ki_Vat (joinV a1 x0) cs_5_3, hM ki_Vat x0 cs_5_1, hB g_0_0 55 (List.toArray cs0)] W50 := Ha52
    clear Ha52
    clear hu51
    refine ops_nil ?_
    refine then_n ?_
    refine wp_seq ?_
    refine reg_seq [0, 1, 2, 3, 4, 5, 6, 7, 8] rfl ?_
    refine ops_cons ?_
    refine op_pure rfl (rn_loadB Tryz.isAgg68 Tryz.sizeOf68 rfl (H53.blk 0 rfl) (ki_Vat_len (H53.kn 1 rfl))) rfl rfl ?_
    refine ops_cons ?_
    refine op_pure rfl (rn_move rfl) rfl rfl ?_
    refine ops_cons ?_
    refine op_call rfl Tryz.call42 (vs := #[.agg (List.toArray cs_6_1), .int .i64 (a1)]) rfl rfl rfl (joinLink_I x0 a1 _ _ (H53.kn 1 rfl) (Nat.le_trans hs_x0 (by decide))) ?_
    rintro e57 W56 ⟨cs_7_2, rfl, hM54, hu55⟩
    refine ⟨_, rfl, ?_⟩
    have hl58 := ki_Vat_len (ki_Vat.K_of_M hM54)
    have ho59 := ki_Vat_one (ki_Vat.K_of_M hM54)
    have H60 : St w No [hM ki_Vat (joinV a1 x0) cs_7_2, hB g_6_2 68 (List.toArray cs_6_1), hM ki_Vat x0 cs_6_1, hB g_5_7 68 (List.toArray cs_5_3), hM ki_Vat (joinV a1 x0) cs_5_3, hM ki_Vat x0 cs_5_1, hB g_0_0 55 (List.toArray cs0)] W56 := H53.new hu55 hM54
    clear H53
    refine ops_cons ?_
    refine op_pure rfl (rn_move rfl) rfl rfl ?_
    refine ops_cons ?_
    refine op_pure rfl (rn_extract (v := .agg (List.toArray cs_7_2)) rfl rfl) rfl rfl ?_
    refine ops_cons ?_
    refine op_pure rfl (rn_extract (v := .int .i64 ((jN a1 x0.Entities x0.Links))) rfl rfl) rfl rfl ?_
    refine ops_cons ?_
    refine op_alloc rfl Tryz.zeroValue68 rfl rfl H60 ?_
    intro g_7_6 W61 hu62 Ha63
    clear H60
    have H64 : St w No [hB g_7_6 68 #[.int .i64 (0), .slice none 0 0, .slice none 0 0, .slice none 0 0, .slice none 0 0], hM ki_Vat (joinV a1 x0) cs_7_2, hB g_6_2 68 (List.toArray cs_6_1), hM ki_Vat x0 cs_6_1, hB g_5_7 68 (List.toArray cs_5_3), hM ki_Vat (joinV a1 x0) cs_5_3, hM ki_Vat x0 cs_5_1, hB g_0_0 55 (List.toArray cs0)] W61 := Ha63
    clear Ha63
    clear hu62
    refine ops_cons ?_
    refine op_storeW rfl Tryz.sizeOf68 rfl rfl (ki_Vat_len (H64.kn 1 rfl)) rfl (ki_Vat_one (H64.kn 1 rfl)) H64 ?_
    intro W65 hu66 Ha67
    clear H64
    have H68 : St w No [hB g_7_6 68 (List.toArray cs_7_2), hM ki_Vat (joinV a1 x0) cs_7_2, hB g_6_2 68 (List.toArray cs_6_1), hM ki_Vat x0 cs_6_1, hB g_5_7 68 (List.toArray cs_5_3), hM ki_Vat (joinV a1 x0) cs_5_3, hM ki_Vat x0 cs_5_1, hB g_0_0 55 (List.toArray cs0)] W65 := Ha67
    clear Ha67
    clear hu66
    refine ops_cons ?_
    refine op_pure rfl (rn_assign rfl) rfl rfl ?_
    refine ops_nil ?_
    refine then_n ?_
    refine wp_seq ?_
    refine wp_seq ?_
    refine reg_seq [0, 1, 2, 3, 4, 5, 6, 7, 8] rfl ?_
    refine ops_cons ?_
    refine op_pure rfl (rn_loadB Tryz.isAgg68 Tryz.sizeOf68 rfl (H68.blk 0 rfl) (ki_Vat_len (H68.kn 1 rfl))) rfl rfl ?_
    refine ops_cons ?_
    refine op_pure rfl (rn_loadB Tryz.isAgg68 Tryz.sizeOf68 rfl (H68.blk 4 rfl) (ki_Vat_len (H68.kn 5 rfl))) rfl rfl ?_
    refine ops_cons ?_
    refine op_call rfl Tryz.call30 (vs := #[.agg (List.toArray cs_7_2), .agg (List.toArray cs_5_3)]) rfl rfl rfl (eq_Vat (joinV a1 x0) _ _ _ (H68.kn 1 rfl) (H68.kn 5 rfl)) ?_
    rintro e71 W70 ⟨rfl, hu69⟩
    refine ⟨_, rfl, ?_⟩
    have H72 : St w No [hB g_7_6 68 (List.toArray cs_7_2), hM ki_Vat (joinV a1 x0) cs_7_2, hB g_6_2 68 (List.toArray cs_6_1), hM ki_Vat x0 cs_6_1, hB g_5_7 68 (List.toArray cs_5_3), hM ki_Vat (joinV a1 x0) cs_5_3, hM ki_Vat x0 cs_5_1, hB g_0_0 55 (List.toArray cs0)] W70 := H68.no hu69
    clear H68
    refine ops_cons ?_
    refine op_pure rfl (rn_not rfl) rfl rfl ?_
    refine ops_cons ?_
    refine op_pure rfl (rn_move rfl) rfl rfl ?_
    refine ops_cons ?_
    refine op_G rfl rfl rfl rfl (fun _ ho73 => ?_)
    refine op_pure ho73 (rn_move rfl) rfl rfl ?_
    refine ops_cons ?_
    refine op_G rfl rfl rfl rfl (fun _ ho74 => ?_)
    refine op_pure ho74 (rn_move rfl) rfl rfl ?_
    refine ops_cons ?_
    refine op_G rfl rfl rfl rfl (fun _ ho75 => ?_)
    refine op_pure ho75 (rn_decF (p := ¬ ((jN a1 x0.Entities x0.Links) : Int) = (jN a1 x0.Entities x0.Links)) (not_not_intro rfl) (rn_neq (p := (jN a1 x0.Entities x0.Links)) (q := (jN a1 x0.Entities x0.Links)) rfl rfl)) rfl rfl ?_
    refine ops_cons ?_
    refine op_pure rfl (rn_pick (v := .bool (false)) (b := false) rfl rfl rfl rfl) rfl rfl ?_
    refine ops_nil ?_
    refine then_n ?_
    refine cond_f rfl ?_
    refine wp_skip ?_
    refine then_n ?_
    refine wp_seq ?_
    refine wp_seq ?_
    refine reg_draw (fun W' => Blk W' g_6_2 68 (List.toArray cs_6_1) ∧ Blk W' g_0_0 55 (List.toArray cs0)) 5 (by kernel_rfl) ?_
    have H76 : St w No [hB g_7_6 68 (List.toArray cs_7_2), hM ki_Vat (joinV a1 x0) cs_7_2, hB g_6_2 68 (List.toArray cs_6_1), hM ki_Vat x0 cs_6_1, hB g_5_7 68 (List.toArray cs_5_3), hM ki_Vat (joinV a1 x0) cs_5_3, hM ki_Vat x0 cs_5_1, hB g_0_0 55 (List.toArray cs0)] W70.drew := H72.drew
    clear H72
    have hS77 : Blk W70.drew g_6_2 68 (List.toArray cs_6_1) ∧ Blk W70.drew g_0_0 55 (List.toArray cs0) := ⟨H76.blk 2 rfl, H76.blk 7 rfl⟩
    refine anyS_take (i := 0) rfl (by kernel_rfl) (by kernel_rfl) (by kernel_rfl) (by kernel_rfl) (by kernel_rfl) (fun _ _ _ h => h) rfl rfl hS77 (fun W' hs' => rn_loadB Tryz.isAgg68 Tryz.sizeOf68 rfl hs'.1 (ki_Vat_len (H76.kn 3 rfl))) ?_
    refine anyS_take (i := 1) rfl (by kernel_rfl) (by kernel_rfl) (by kernel_rfl) (by kernel_rfl) (by kernel_rfl) (fun _ _ _ h => h) rfl rfl hS77 (fun W' hs' => rn_loadB Tryz.isAgg55 Tryz.sizeOf55 rfl hs'.2 hl0_) ?_
    refine anyS_one (i := 2) (by kernel_rfl) ?_
    refine op_call rfl Tryz.call27 (vs := #[.agg (List.toArray cs0)]) rfl rfl rfl (to_Vat x0 _ _ (K_upd H76.1 hK0) hs_x0) ?_
    rintro e82 W81 ⟨cs_10_2, rfl, hM79, hu80⟩
    refine ⟨_, rfl, ?_⟩
    have hl83 := ki_Vat_len (ki_Vat.K_of_M hM79)
    have ho84 := ki_Vat_one (ki_Vat.K_of_M hM79)
    have H85 : St w No [hM ki_Vat x0 cs_10_2, hB g_7_6 68 (List.toArray cs_7_2), hM ki_Vat (joinV a1 x0) cs_7_2, hB g_6_2 68 (List.toArray cs_6_1), hM ki_Vat x0 cs_6_1, hB g_5_7 68 (List.toArray cs_5_3), hM ki_Vat (joinV a1 x0) cs_5_3, hM ki_Vat x0 cs_5_1, hB g_0_0 55 (List.toArray cs0)] W81 := H76.new hu80 hM79
    clear H76
    have hS86 : Blk W81 g_6_2 68 (List.toArray cs_6_1) ∧ Blk W81 g_0_0 55 (List.toArray cs0) := ⟨H85.blk 3 rfl, H85.blk 8 rfl⟩
    refine ⟨fun _ => hS86, ?_⟩
    refine anyS_one (i := 3) (by kernel_rfl) ?_
    refine op_call rfl Tryz.call30 (vs := #[.agg (List.toArray cs_6_1), .agg (List.toArray cs_10_2)]) rfl rfl rfl (eq_Vat x0 _ _ _ (H85.kn 4 rfl) (H85.kn 0 rfl)) ?_
    rintro e89 W88 ⟨rfl, hu87⟩
    refine ⟨_, rfl, ?_⟩
    have H90 : St w No [hM ki_Vat x0 cs_10_2, hB g_7_6 68 (List.toArray cs_7_2), hM ki_Vat (joinV a1 x0) cs_7_2, hB g_6_2 68 (List.toArray cs_6_1), hM ki_Vat x0 cs_6_1, hB g_5_7 68 (List.toArray cs_5_3), hM ki_Vat (joinV a1 x0) cs_5_3, hM ki_Vat x0 cs_5_1, hB g_0_0 55 (List.toArray cs0)] W88 := H85.no hu87
    clear H85
    have hS91 : Blk W88 g_6_2 68 (List.toArray cs_6_1) ∧ Blk W88 g_0_0 55 (List.toArray cs0) := ⟨H90.blk 3 rfl, H90.blk 8 rfl⟩
    refine ⟨fun _ => hS91, ?_⟩
    refine anyS_take (i := 4) rfl (by kernel_rfl) (by kernel_rfl) (by kernel_rfl) (by kernel_rfl) (by kernel_rfl) (fun _ _ _ h => h) rfl rfl hS91 (fun W' hs' => rn_not rfl) ?_
    refine anyS_done (by kernel_rfl) ?_ _
    refine then_n ?_
    refine cond_f rfl ?_
    refine wp_skip ?_
    refine then_n ?_
    refine wp_seq ?_
    refine reg_seq [0] rfl ?_
    refine ops_cons ?_
    refine op_pure rfl (rn_assign rfl) rfl rfl ?_
    refine ops_nil ?_
    refine then_n ?_
    refine wp_seq ?_
    refine reg_seq [0, 1, 2, 3] rfl ?_
    refine ops_cons ?_
    refine op_pure rfl (rn_loadB Tryz.isAgg68 Tryz.sizeOf68 rfl (H90.blk 3 rfl) (ki_Vat_len (H90.kn 4 rfl))) rfl rfl ?_
    refine ops_cons ?_
    refine op_pure rfl (rn_move rfl) rfl rfl ?_
    refine ops_cons ?_
    have H98 : St w No [hM ki_Vat x0 cs_6_1, hM ki_Vat x0 cs_10_2, hB g_7_6 68 (List.toArray cs_7_2), hM ki_Vat (joinV a1 x0) cs_7_2, hB g_6_2 68 (List.toArray cs_6_1), hB g_5_7 68 (List.toArray cs_5_3), hM ki_Vat (joinV a1 x0) cs_5_3, hM ki_Vat x0 cs_5_1, hB g_0_0 55 (List.toArray cs0)] W88 := H90.pick [4, 0, 1, 2, 3, 5, 6, 7, 8] (by decide) rfl
    clear H90
    obtain ⟨F93, hM94, hF95, hT96⟩ := H98.turn
    refine op_call rfl Tryz.call32 (vs := #[.agg (List.toArray cs_6_1), .int .i64 (1)]) rfl rfl rfl (markv_Vat_c x0 _ F93 _ _ hM94 (by omega) (by omega)) ?_
    rintro e100 W99 ⟨rfl, hM97, hu92⟩
    refine ⟨_, rfl, ?_⟩
    have H101 : St w No [hM ki_Vat (mkv_Vat 1 x0) cs_6_1, hM ki_Vat x0 cs_10_2, hB g_7_6 68 (List.toArray cs_7_2), hM ki_Vat (joinV a1 x0) cs_7_2, hB g_6_2 68 (List.toArray cs_6_1), hB g_5_7 68 (List.toArray cs_5_3), hM ki_Vat (joinV a1 x0) cs_5_3, hM ki_Vat x0 cs_5_1, hB g_0_0 55 (List.toArray cs0)] W99 := hT96 (hM ki_Vat (mkv_Vat 1 x0) cs_6_1) _ hu92 ((hM ki_Vat (mkv_Vat 1 x0) cs_6_1).mono (fun _ q => .inl q) hM97)
    clear H98
    refine ops_cons ?_
    refine op_pure rfl (rn_assign rfl) rfl rfl ?_
    refine ops_nil ?_
    refine then_n ?_
    refine wp_seq ?_
    refine wp_seq ?_
    refine reg_seq [0, 1, 2, 3, 4, 5, 6, 7, 8, 9, 10, 11, 12] rfl ?_
    refine ops_cons ?_
    refine op_pure rfl (rn_move rfl) rfl rfl ?_
    refine ops_cons ?_
    refine op_pure rfl (rn_decF (p := ((1 + cntv_Vat x0) : Int) < 0) (by omega) (rn_lss (p := (1 + cntv_Vat x0)) (q := 0) rfl rfl)) rfl rfl ?_
    refine ops_cons ?_
    refine op_pure rfl (rn_move rfl) rfl rfl ?_
    refine ops_cons ?_
    refine op_G rfl rfl rfl rfl (fun _ ho102 => ?_)
    refine op_pure ho102 (rn_loadB Tryz.isAgg68 Tryz.sizeOf68 rfl (H101.blk 2 rfl) (ki_Vat_len (H101.kn 3 rfl))) rfl rfl ?_
    refine ops_cons ?_
    refine op_G rfl rfl rfl rfl (fun _ ho103 => ?_)
    refine op_pure ho103 (rn_loadB Tryz.isAgg68 Tryz.sizeOf68 rfl (H101.blk 5 rfl) (ki_Vat_len (H101.kn 6 rfl))) rfl rfl ?_
    refine ops_cons ?_
    refine op_G rfl rfl rfl rfl (fun _ ho104 => ?_)
    refine op_call ho104 Tryz.call30 (vs := #[.agg (List.toArray cs_7_2), .agg (List.toArray cs_5_3)]) rfl rfl rfl (eq_Vat (joinV a1 x0) _ _ _ (H101.kn 3 rfl) (H101.kn 6 rfl)) ?_
    rintro e107 W106 ⟨rfl, hu105⟩
    refine ⟨_, rfl, ?_⟩
    have H108 : St w No [hM ki_Vat (mkv_Vat 1 x0) cs_6_1, hM ki_Vat x0 cs_10_2, hB g_7_6 68 (List.toArray cs_7_2), hM ki_Vat (joinV a1 x0) cs_7_2, hB g_6_2 68 (List.toArray cs_6_1), hB g_5_7 68 (List.toArray cs_5_3), hM ki_Vat (joinV a1 x0) cs_5_3, hM ki_Vat x0 cs_5_1, hB g_0_0 55 (List.toArray cs0)] W106 := H101.no hu105
    clear H101
    refine ops_cons ?_
    refine op_G rfl rfl rfl rfl (fun _ ho109 => ?_)
    refine op_pure ho109 (rn_not rfl) rfl rfl ?_
    refine ops_cons ?_
    refine op_pure rfl (rn_pick (v := .bool (false)) (b := false) rfl rfl rfl rfl) rfl rfl ?_
    refine ops_cons ?_
    refine op_pure rfl (rn_move rfl) rfl rfl ?_
    refine ops_cons ?_
    refine op_G rfl rfl rfl rfl (fun _ ho110 => ?_)
    refine op_pure ho110 (rn_move rfl) rfl rfl ?_
    refine ops_cons ?_
    refine op_G rfl rfl rfl rfl (fun _ ho111 => ?_)
    refine op_pure ho111 (rn_move rfl) rfl rfl ?_
    refine ops_cons ?_
    refine op_G rfl rfl rfl rfl (fun _ ho112 => ?_)
    refine op_pure ho112 (rn_decF (p := ¬ ((jN a1 x0.Entities x0.Links) : Int) = (jN a1 x0.Entities x0.Links)) (not_not_intro rfl) (rn_neq (p := (jN a1 x0.Entities x0.Links)) (q := (jN a1 x0.Entities x0.Links)) rfl rfl)) rfl rfl ?_
    refine ops_cons ?_
    refine op_pure rfl (rn_pick (v := .bool (false)) (b := false) rfl rfl rfl rfl) rfl rfl ?_
    refine ops_nil ?_
    refine then_n ?_
    refine cond_f rfl ?_
    refine wp_skip ?_
    refine then_n ?_
    refine wp_seq ?_
    refine reg_seq [0] rfl ?_
    refine ops_cons ?_
    refine op_pure rfl (rn_assign rfl) rfl rfl ?_
    refine ops_nil ?_
    refine then_n ?_
    refine wp_seq ?_
    refine reg_seq [0, 1, 2, 3] rfl ?_
    refine ops_cons ?_
    refine op_pure rfl (rn_loadB Tryz.isAgg68 Tryz.sizeOf68 rfl (H108.blk 2 rfl) (ki_Vat_len (H108.kn 3 rfl))) rfl rfl ?_
    refine ops_cons ?_
    refine op_pure rfl (rn_move rfl) rfl rfl ?_
    refine ops_cons ?_
    have H119 : St w No [hM ki_Vat (joinV a1 x0) cs_7_2, hM ki_Vat (mkv_Vat 1 x0) cs_6_1, hM ki_Vat x0 cs_10_2, hB g_7_6 68 (List.toArray cs_7_2), hB g_6_2 68 (List.toArray cs_6_1), hB g_5_7 68 (List.toArray cs_5_3), hM ki_Vat (joinV a1 x0) cs_5_3, hM ki_Vat x0 cs_5_1, hB g_0_0 55 (List.toArray cs0)] W106 := H108.pick [3, 0, 1, 2, 4, 5, 6, 7, 8] (by decide) rfl
    clear H108
    obtain ⟨F114, hM115, hF116, hT117⟩ := H119.turn
    refine op_call rfl Tryz.call32 (vs := #[.agg (List.toArray cs_7_2), .int .i64 (1)]) rfl rfl rfl (markv_Vat_c (joinV a1 x0) _ F114 _ _ hM115 (by omega) (by omega)) ?_
    rintro e121 W120 ⟨rfl, hM118, hu113⟩
    refine ⟨_, rfl, ?_⟩
    have H122 : St w No [hM ki_Vat (mkv_Vat 1 (joinV a1 x0)) cs_7_2, hM ki_Vat (mkv_Vat 1 x0) cs_6_1, hM ki_Vat x0 cs_10_2, hB g_7_6 68 (List.toArray cs_7_2), hB g_6_2 68 (List.toArray cs_6_1), hB g_5_7 68 (List.toArray cs_5_3), hM ki_Vat (joinV a1 x0) cs_5_3, hM ki_Vat x0 cs_5_1, hB g_0_0 55 (List.toArray cs0)] W120 := hT117 (hM ki_Vat (mkv_Vat 1 (joinV a1 x0)) cs_7_2) _ hu113 ((hM ki_Vat (mkv_Vat 1 (joinV a1 x0)) cs_7_2).mono (fun _ q => .inl q) hM118)
    clear H119
    refine ops_cons ?_
    refine op_pure rfl (rn_assign rfl) rfl rfl ?_
    refine ops_nil ?_
    refine then_n ?_
    refine wp_seq ?_
    refine reg_seq [0] rfl ?_
    refine ops_cons ?_
    refine op_pure rfl (rn_assign rfl) rfl rfl ?_
    refine ops_nil ?_
    refine then_n ?_
    refine wp_seq ?_
    refine reg_seq [0, 1, 2, 3] rfl ?_
    refine ops_cons ?_
    refine op_pure rfl (rn_loadB Tryz.isAgg68 Tryz.sizeOf68 rfl (H122.blk 3 rfl) (ki_Vat_len (H122.kn 0 rfl))) rfl rfl ?_
    refine ops_cons ?_
    refine op_pure rfl (rn_move rfl) rfl rfl ?_
    refine ops_cons ?_
    refine op_call rfl Tryz.call34 (vs := #[.agg (List.toArray cs_7_2), .int .i64 (1)]) rfl rfl rfl (heldv_Vat_c (joinV a1 x0) _ _ _ (H122.kn 0 rfl) (by omega) (by omega)) ?_
    rintro e125 W124 ⟨rfl, hu123⟩
    refine ⟨_, rfl, ?_⟩
    have H126 : St w No [hM ki_Vat (mkv_Vat 1 (joinV a1 x0)) cs_7_2, hM ki_Vat (mkv_Vat 1 x0) cs_6_1, hM ki_Vat x0 cs_10_2, hB g_7_6 68 (List.toArray cs_7_2), hB g_6_2 68 (List.toArray cs_6_1), hB g_5_7 68 (List.toArray cs_5_3), hM ki_Vat (joinV a1 x0) cs_5_3, hM ki_Vat x0 cs_5_1, hB g_0_0 55 (List.toArray cs0)] W124 := H122.no hu123
    clear H122
    refine ops_cons ?_
    refine op_pure rfl (rn_assign rfl) rfl rfl ?_
    refine ops_nil ?_
    refine then_n ?_
    refine wp_seq ?_
    refine wp_seq ?_
    refine reg_seq [0, 1] rfl ?_
    refine ops_cons ?_
    refine op_pure rfl (rn_move rfl) rfl rfl ?_
    refine ops_cons ?_
    refine op_pure rfl (rn_decF (p := ((1 + cntv_Vat (joinV a1 x0)) : Int) < 0) (by omega) (rn_lss (p := (1 + cntv_Vat (joinV a1 x0))) (q := 0) rfl rfl)) rfl rfl ?_
    refine ops_nil ?_
    refine then_n ?_
    refine cond_f rfl ?_
    refine wp_skip ?_
    refine then_n ?_
    refine wp_seq ?_
    refine wp_seq ?_
    refine reg_seq [0, 1, 2] rfl ?_
    refine ops_cons ?_
    refine op_pure rfl (rn_move rfl) rfl rfl ?_
    refine ops_cons ?_
    refine op_pure rfl (rn_move rfl) rfl rfl ?_
    refine ops_cons ?_
    refine op_pure rfl (rn_decF (p := ¬ ((1 + cntv_Vat (joinV a1 x0)) : Int) = (1 + cntv_Vat (joinV a1 x0))) (not_not_intro rfl) (rn_neq (p := (1 + cntv_Vat (joinV a1 x0))) (q := (1 + cntv_Vat (joinV a1 x0))) rfl rfl)) rfl rfl ?_
    refine ops_nil ?_
    refine then_n ?_
    refine cond_f rfl ?_
    refine wp_skip ?_
    refine then_n ?_
    refine wp_seq ?_
    refine reg_seq [0, 1, 2, 3, 4, 5, 6, 7, 8, 9] rfl ?_
    refine ops_cons ?_
    refine op_pure rfl (rn_loadB Tryz.isAgg55 Tryz.sizeOf55 rfl (H126.blk 8 rfl) hl0_) rfl rfl ?_
    refine ops_cons ?_
    refine op_call rfl Tryz.call27 (vs := #[.agg (List.toArray cs0)]) rfl rfl rfl (to_Vat x0 _ _ (K_upd H126.1 hK0) hs_x0) ?_
    rintro e131 W130 ⟨cs_24_1, rfl, hM128, hu129⟩
    refine ⟨_, rfl, ?_⟩
    have hl132 := ki_Vat_len (ki_Vat.K_of_M hM128)
    have ho133 := ki_Vat_one (ki_Vat.K_of_M hM128)
    have H134 : St w No [hM ki_Vat x0 cs_24_1, hM ki_Vat (mkv_Vat 1 (joinV a1 x0)) cs_7_2, hM ki_Vat (mkv_Vat 1 x0) cs_6_1, hM ki_Vat x0 cs_10_2, hB g_7_6 68 (List.toArray cs_7_2), hB g_6_2 68 (List.toArray cs_6_1), hB g_5_7 68 (List.toArray cs_5_3), hM ki_Vat (joinV a1 x0) cs_5_3, hM ki_Vat x0 cs_5_1, hB g_0_0 55 (List.toArray cs0)] W130 := H126.new hu129 hM128
    clear H126
    refine ops_cons ?_
    refine op_pure rfl (rn_move rfl) rfl rfl ?_
    refine ops_cons ?_
    refine op_call rfl Tryz.call42 (vs := #[.agg (List.toArray cs_24_1), .int .i64 (a1)]) rfl rfl rfl (joinLink_I x0 a1 _ _ (H134.kn 0 rfl) (Nat.le_trans hs_x0 (by decide))) ?_
    rintro e138 W137 ⟨cs_24_3, rfl, hM135, hu136⟩
    refine ⟨_, rfl, ?_⟩
    have hl139 := ki_Vat_len (ki_Vat.K_of_M hM135)
    have ho140 := ki_Vat_one (ki_Vat.K_of_M hM135)
    have H141 : St w No [hM ki_Vat (joinV a1 x0) cs_24_3, hM ki_Vat x0 cs_24_1, hM ki_Vat (mkv_Vat 1 (joinV a1 x0)) cs_7_2, hM ki_Vat (mkv_Vat 1 x0) cs_6_1, hM ki_Vat x0 cs_10_2, hB g_7_6 68 (List.toArray cs_7_2), hB g_6_2 68 (List.toArray cs_6_1), hB g_5_7 68 (List.toArray cs_5_3), hM ki_Vat (joinV a1 x0) cs_5_3, hM ki_Vat x0 cs_5_1, hB g_0_0 55 (List.toArray cs0)] W137 := H134.new hu136 hM135
    clear H134
    refine ops_cons ?_
    refine op_pure rfl (rn_move rfl) rfl rfl ?_
    refine ops_cons ?_
    refine op_pure rfl (rn_extract (v := .agg (List.toArray cs_24_3)) rfl rfl) rfl rfl ?_
    refine ops_cons ?_
    refine op_pure rfl (rn_extract (v := .int .i64 ((jN a1 x0.Entities x0.Links))) rfl rfl) rfl rfl ?_
    refine ops_cons ?_
    refine op_alloc rfl Tryz.zeroValue68 rfl rfl H141 ?_
    intro g_24_7 W142 hu143 Ha144
    clear H141
    have H145 : St w No [hB g_24_7 68 #[.int .i64 (0), .slice none 0 0, .slice none 0 0, .slice none 0 0, .slice none 0 0], hM ki_Vat (joinV a1 x0) cs_24_3, hM ki_Vat x0 cs_24_1, hM ki_Vat (mkv_Vat 1 (joinV a1 x0)) cs_7_2, hM ki_Vat (mkv_Vat 1 x0) cs_6_1, hM ki_Vat x0 cs_10_2, hB g_7_6 68 (List.toArray cs_7_2), hB g_6_2 68 (List.toArray cs_6_1), hB g_5_7 68 (List.toArray cs_5_3), hM ki_Vat (joinV a1 x0) cs_5_3, hM ki_Vat x0 cs_5_1, hB g_0_0 55 (List.toArray cs0)] W142 := Ha144
    clear Ha144
    clear hu143
    refine ops_cons ?_
    refine op_storeW rfl Tryz.sizeOf68 rfl rfl (ki_Vat_len (H145.kn 1 rfl)) rfl (ki_Vat_one (H145.kn 1 rfl)) H145 ?_
    intro W146 hu147 Ha148
    clear H145
    have H149 : St w No [hB g_24_7 68 (List.toArray cs_24_3), hM ki_Vat (joinV a1 x0) cs_24_3, hM ki_Vat x0 cs_24_1, hM ki_Vat (mkv_Vat 1 (joinV a1 x0)) cs_7_2, hM ki_Vat (mkv_Vat 1 x0) cs_6_1, hM ki_Vat x0 cs_10_2, hB g_7_6 68 (List.toArray cs_7_2), hB g_6_2 68 (List.toArray cs_6_1), hB g_5_7 68 (List.toArray cs_5_3), hM ki_Vat (joinV a1 x0) cs_5_3, hM ki_Vat x0 cs_5_1, hB g_0_0 55 (List.toArray cs0)] W146 := Ha148
    clear Ha148
    clear hu147
    refine ops_cons ?_
    refine op_pure rfl (rn_assign rfl) rfl rfl ?_
    refine ops_nil ?_
    refine then_n ?_
    refine wp_seq ?_
    refine wp_seq ?_
    refine reg_seq [0, 1, 2, 3, 4, 5, 6, 7, 8] rfl ?_
    refine ops_cons ?_
    refine op_pure rfl (rn_loadB Tryz.isAgg68 Tryz.sizeOf68 rfl (H149.blk 0 rfl) (ki_Vat_len (H149.kn 1 rfl))) rfl rfl ?_
    refine ops_cons ?_
    refine op_pure rfl (rn_loadB Tryz.isAgg68 Tryz.sizeOf68 rfl (H149.blk 8 rfl) (ki_Vat_len (H149.kn 9 rfl))) rfl rfl ?_
    refine ops_cons ?_
    refine op_call rfl Tryz.call30 (vs := #[.agg (List.toArray cs_24_3), .agg (List.toArray cs_5_3)]) rfl rfl rfl (eq_Vat (joinV a1 x0) _ _ _ (H149.kn 1 rfl) (H149.kn 9 rfl)) ?_
    rintro e152 W151 ⟨rfl, hu150⟩
    refine ⟨_, rfl, ?_⟩
    have H153 : St w No [hB g_24_7 68 (List.toArray cs_24_3), hM ki_Vat (joinV a1 x0) cs_24_3, hM ki_Vat x0 cs_24_1, hM ki_Vat (mkv_Vat 1 (joinV a1 x0)) cs_7_2, hM ki_Vat (mkv_Vat 1 x0) cs_6_1, hM ki_Vat x0 cs_10_2, hB g_7_6 68 (List.toArray cs_7_2), hB g_6_2 68 (List.toArray cs_6_1), hB g_5_7 68 (List.toArray cs_5_3), hM ki_Vat (joinV a1 x0) cs_5_3, hM ki_Vat x0 cs_5_1, hB g_0_0 55 (List.toArray cs0)] W151 := H149.no hu150
    clear H149
    refine ops_cons ?_
    refine op_pure rfl (rn_not rfl) rfl rfl ?_
    refine ops_cons ?_
    refine op_pure rfl (rn_move rfl) rfl rfl ?_
    refine ops_cons ?_
    refine op_G rfl rfl rfl rfl (fun _ ho154 => ?_)
    refine op_pure ho154 (rn_move rfl) rfl rfl ?_
    refine ops_cons ?_
    refine op_G rfl rfl rfl rfl (fun _ ho155 => ?_)
    refine op_pure ho155 (rn_move rfl) rfl rfl ?_
    refine ops_cons ?_
    refine op_G rfl rfl rfl rfl (fun _ ho156 => ?_)
    refine op_pure ho156 (rn_decF (p := ¬ ((jN a1 x0.Entities x0.Links) : Int) = (jN a1 x0.Entities x0.Links)) (not_not_intro rfl) (rn_neq (p := (jN a1 x0.Entities x0.Links)) (q := (jN a1 x0.Entities x0.Links)) rfl rfl)) rfl rfl ?_
    refine ops_cons ?_
    refine op_pure rfl (rn_pick (v := .bool (false)) (b := false) rfl rfl rfl rfl) rfl rfl ?_
    refine ops_nil ?_
    refine then_n ?_
    refine cond_f rfl ?_
    refine wp_skip ?_
    refine then_n ?_
    refine wp_seq ?_
    refine reg_seq [0] rfl ?_
    refine ops_cons ?_
    refine op_pure rfl (rn_assign rfl) rfl rfl ?_
    refine ops_nil ?_
    refine then_n ?_
    refine wp_seq ?_
    refine reg_seq [0, 1, 2, 3] rfl ?_
    refine ops_cons ?_
    refine op_pure rfl (rn_loadB Tryz.isAgg68 Tryz.sizeOf68 rfl (H153.blk 6 rfl) (ki_Vat_len (H153.kn 3 rfl))) rfl rfl ?_
    refine ops_cons ?_
    refine op_pure rfl (rn_move rfl) rfl rfl ?_
    refine ops_cons ?_
    refine op_call rfl Tryz.call34 (vs := #[.agg (List.toArray cs_7_2), .int .i64 (1)]) rfl rfl rfl (heldv_Vat_c (joinV a1 x0) _ _ _ (H153.kn 3 rfl) (by omega) (by omega)) ?_
    rintro e159 W158 ⟨rfl, hu157⟩
    refine ⟨_, rfl, ?_⟩
    have H160 : St w No [hB g_24_7 68 (List.toArray cs_24_3), hM ki_Vat (joinV a1 x0) cs_24_3, hM ki_Vat x0 cs_24_1, hM ki_Vat (mkv_Vat 1 (joinV a1 x0)) cs_7_2, hM ki_Vat (mkv_Vat 1 x0) cs_6_1, hM ki_Vat x0 cs_10_2, hB g_7_6 68 (List.toArray cs_7_2), hB g_6_2 68 (List.toArray cs_6_1), hB g_5_7 68 (List.toArray cs_5_3), hM ki_Vat (joinV a1 x0) cs_5_3, hM ki_Vat x0 cs_5_1, hB g_0_0 55 (List.toArray cs0)] W158 := H153.no hu157
    clear H153
    refine ops_cons ?_
    refine op_pure rfl (rn_assign rfl) rfl rfl ?_
    refine ops_nil ?_
    refine then_n ?_
    refine wp_seq ?_
    refine wp_seq ?_
    refine reg_seq [0, 1] rfl ?_
    refine ops_cons ?_
    refine op_pure rfl (rn_move rfl) rfl rfl ?_
    refine ops_cons ?_
    refine op_pure rfl (rn_decF (p := ((1 + cntv_Vat (joinV a1 x0)) : Int) < 0) (by omega) (rn_lss (p := (1 + cntv_Vat (joinV a1 x0))) (q := 0) rfl rfl)) rfl rfl ?_
    refine ops_nil ?_
    refine then_n ?_
    refine cond_f rfl ?_
    refine wp_skip ?_
    refine then_n ?_
    refine wp_seq ?_
    refine wp_seq ?_
    refine reg_seq [0, 1, 2] rfl ?_
    refine ops_cons ?_
    refine op_pure rfl (rn_move rfl) rfl rfl ?_
    refine ops_cons ?_
    refine op_pure rfl (rn_move rfl) rfl rfl ?_
    refine ops_cons ?_
    refine op_pure rfl (rn_decF (p := ¬ ((1 + cntv_Vat (joinV a1 x0)) : Int) = (1 + cntv_Vat (joinV a1 x0))) (not_not_intro rfl) (rn_neq (p := (1 + cntv_Vat (joinV a1 x0))) (q := (1 + cntv_Vat (joinV a1 x0))) rfl rfl)) rfl rfl ?_
    refine ops_nil ?_
    refine then_n ?_
    refine cond_f rfl ?_
    refine wp_skip ?_
    refine then_n ?_
    refine wp_seq ?_
    refine reg_seq [0] rfl ?_
    refine ops_cons ?_
    refine op_pure rfl (rn_assign rfl) rfl rfl ?_
    refine ops_nil ?_
    refine then_n ?_
    refine wp_ret ?_
    refine post_tmp (.inl rfl) Tryz.results7 rfl ?_
    exact ⟨rfl, H160.1⟩
end Go.Proofs.YtfnedoiplblldaaGreatFam
