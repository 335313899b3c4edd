/- The law AddEntity, walked. No conditions. -/
import Derived.Test.YtfnedoiplblldaaProg
import Derived.Test.YtfnedoiplblldaaTy
import Derived.Test.YtfnedoiplblldaaOpn
import Derived.Test.YtfnedoiplblldaaAddE
import Derived.Test.YtfnedoiplblldaaT2
namespace Go.Proofs.YtfnedoiplblldaaFam
open Go.ChangeShapes Go.WideShapes Go.RowKit Go.Proofs.YtfnedoiplblldaaSep Go.Proofs.YtfnedoiplblldaaT Go.Proofs.YtfnedoiplblldaaK
set_option maxHeartbeats 4000000 in
set_option maxRecDepth 100000 in
theorem law_FnExactAddEntity (w : World) (x0 : GVat) (cs0 : List Value) (hK0 : kl_Vat.K w x0 cs0) (hG0 : Gd_Vat x0) (x1 : GEntity) (cs1 : List Value) (hK1 : kl_Entity.K w x1 cs1) (hG1 : Gd_Entity x1) : Calls Try.prog 4 #[.agg cs0.toArray, .agg cs1.toArray] w (RetBool true w) := by
  have hl0_ : cs0.length = 5 := kl_Vat.K_len hK0
  have ho0_ : ∀ u ∈ (List.toArray cs0).toList, u.oneCell' = true := kl_Vat.K_one hK0
  have hl1_ : cs1.length = 12 := kl_Entity.K_len hK1
  have ho1_ : ∀ u ∈ (List.toArray cs1).toList, u.oneCell' = true := kl_Entity.K_one hK1
  refine enter 119 [(0, .agg (List.toArray cs0)), (1, .agg (List.toArray cs1))] Try.func4 rfl (by kernel_rfl) ?_
  intro xj
  have H1 : St w No [] w := St.enter
  refine wp_seq ?_
  refine reg_seq [0, 1, 2] rfl ?_
  refine ops_cons ?_
  refine op_box rfl rfl rfl rfl H1 ?_
  intro g_0_0 W2 hu3 Ha4
  clear H1
  have H5 : St w No [hB g_0_0 41 (List.toArray cs0)] W2 := Ha4
  clear Ha4
  clear hu3
  refine ops_cons ?_
  refine op_box rfl rfl rfl rfl H5 ?_
  intro g_0_1 W6 hu7 Ha8
  clear H5
  have H9 : St w No [hB g_0_1 47 (List.toArray cs1), hB g_0_0 41 (List.toArray cs0)] W6 := Ha8
  clear Ha8
  clear hu7
  refine ops_cons ?_
  refine op_pure rfl (rn_assign rfl) rfl rfl ?_
  refine ops_nil ?_
  refine then_n ?_
  refine wp_seq ?_
  refine reg_seq [0] rfl ?_
  refine ops_cons ?_
  refine op_pure rfl (rn_assign rfl) rfl rfl ?_
  refine ops_nil ?_
  refine then_n ?_
  refine wp_seq ?_
  refine reg_seq [0, 1, 2, 3] rfl ?_
  refine ops_cons ?_
  refine op_pure rfl (rn_loadB Try.isAgg41 Try.sizeOf41 rfl (H9.blk 1 rfl) hl0_) rfl rfl ?_
  refine ops_cons ?_
  refine op_pure rfl (rn_move rfl) rfl rfl ?_
  refine ops_cons ?_
  refine op_call rfl Try.call15 (vs := #[.agg (List.toArray cs0), .int .i64 (1048576)]) rfl rfl rfl (sz_Vat x0 _ _ _ (K_upd H9.1 hK0) (Bd_of_Vat hG0) (by omega) (by omega)) ?_
  rintro e14 W13 ⟨n11, rfl, hr12, hu10⟩
  refine ⟨_, rfl, ?_⟩
  have H15 : St w No [hB g_0_1 47 (List.toArray cs1), hB g_0_0 41 (List.toArray cs0)] W13 := H9.no hu10
  clear H9
  refine ops_cons ?_
  refine op_pure rfl (rn_assign rfl) rfl rfl ?_
  refine ops_nil ?_
  refine then_n ?_
  refine wp_seq ?_
  refine wp_seq ?_
  refine reg_seq [0, 1] rfl ?_
  refine ops_cons ?_
  refine op_pure rfl (rn_move rfl) rfl rfl ?_
  refine ops_cons ?_
  refine op_pure rfl (rn_lss rfl rfl) rfl rfl ?_
  refine ops_nil ?_
  refine then_n ?_
  refine cond_dec rfl (fun hc16 => ?_) (fun hc16 => ?_)
  · refine wp_seq ?_
    refine reg_seq [0] rfl ?_
    refine ops_cons ?_
    refine op_pure rfl (rn_assign rfl) rfl rfl ?_
    refine ops_nil ?_
    refine then_n ?_
    refine wp_ret ?_
    refine then_r ?_
    refine post_tmp (.inl rfl) Try.results4 rfl ?_
    exact ⟨rfl, H15.1⟩
  · have hs_x0 : szn_Vat x0 ≤ 1048576 := by omega
    refine wp_skip ?_
    refine then_n ?_
    refine wp_seq ?_
    refine reg_seq [0, 1, 2, 3] rfl ?_
    refine ops_cons ?_
    refine op_pure rfl (rn_loadB Try.isAgg47 Try.sizeOf47 rfl (H15.blk 0 rfl) hl1_) rfl rfl ?_
    refine ops_cons ?_
    refine op_pure rfl (rn_move rfl) rfl rfl ?_
    refine ops_cons ?_
    refine op_call rfl Try.call16 (vs := #[.agg (List.toArray cs1), .int .i64 (n11)]) rfl rfl rfl (sz_Entity x1 _ _ _ (K_upd H15.1 hK1) (Bd_of_Entity hG1) (by omega) (by omega)) ?_
    rintro e21 W20 ⟨n18, rfl, hr19, hu17⟩
    refine ⟨_, rfl, ?_⟩
    have H22 : St w No [hB g_0_1 47 (List.toArray cs1), hB g_0_0 41 (List.toArray cs0)] W20 := H15.no hu17
    clear H15
    refine ops_cons ?_
    refine op_pure rfl (rn_assign rfl) rfl rfl ?_
    refine ops_nil ?_
    refine then_n ?_
    refine wp_seq ?_
    refine wp_seq ?_
    refine reg_seq [0, 1] rfl ?_
    refine ops_cons ?_
    refine op_pure rfl (rn_move rfl) rfl rfl ?_
    refine ops_cons ?_
    refine op_pure rfl (rn_lss rfl rfl) rfl rfl ?_
    refine ops_nil ?_
    refine then_n ?_
    refine cond_dec rfl (fun hc23 => ?_) (fun hc23 => ?_)
    · refine wp_seq ?_
      refine reg_seq [0] rfl ?_
      refine ops_cons ?_
      refine op_pure rfl (rn_assign rfl) rfl rfl ?_
      refine ops_nil ?_
      refine then_n ?_
      refine wp_ret ?_
      refine then_r ?_
      refine post_tmp (.inl rfl) Try.results4 rfl ?_
      exact ⟨rfl, H22.1⟩
    · have hs_x1 : szn_Entity x1 ≤ 1048576 := by omega
      refine wp_skip ?_
      refine then_n ?_
      refine wp_seq ?_
      have nn24 : 0 ≤ cntv_Vat x0 := cntv_Vat_nn x0
      have nn24b := cntv_Vat_le x0
      have nn24c : szn_Vat x0 ≤ 4194304 := (Nat.le_trans hs_x0 (by decide))
      have nn25 : 0 ≤ cntv_Entity x1 := cntv_Entity_nn x1
      have nn25b := cntv_Entity_le x1
      have nn25c : szn_Entity x1 ≤ 4194304 := (Nat.le_trans hs_x1 (by decide))
      have nn26 : 0 ≤ cntv_Vat (addE x1 x0) := cntv_Vat_nn (addE x1 x0)
      have nn26b := cntv_Vat_le (addE x1 x0)
      have nn26c : szn_Vat (addE x1 x0) ≤ 4194304 := addE_bd x1 x0 hs_x0 hs_x1
      refine reg_cut (fun a' W' => ∃ (cs_8_4 : List Value) (g_8_8 : Nat) (x' : Nat → Value), a' = actOf 119 x' [(2, .pointer (some ⟨g_0_0, 0, none⟩)), (3, .pointer (some ⟨g_0_1, 0, none⟩)), (6, .pointer (some ⟨g_8_8, 0, none⟩)), (7, .int .i64 ((addN x0.Entities)))] ∧ St w No [hB g_8_8 28 (List.toArray cs_8_4), hM ki_Vat (addE x1 x0) cs_8_4, hB g_0_1 47 (List.toArray cs1), hB g_0_0 41 (List.toArray cs0)] W') ?_ ?_
      · refine reg_draw (fun W' => Blk W' g_0_0 41 (List.toArray cs0) ∧ Blk W' g_0_1 47 (List.toArray cs1)) 11 (by kernel_rfl) ?_
        have H27 : St w No [hB g_0_1 47 (List.toArray cs1), hB g_0_0 41 (List.toArray cs0)] W20.drew := H22.drew
        clear H22
        have hS28 : Blk W20.drew g_0_0 41 (List.toArray cs0) ∧ Blk W20.drew g_0_1 47 (List.toArray cs1) := ⟨H27.blk 1 rfl, H27.blk 0 rfl⟩
        refine anyS_take (i := 0) rfl (by kernel_rfl) (by kernel_rfl) (by kernel_rfl) (by kernel_rfl) (by kernel_rfl) (fun _ _ _ h => h) rfl rfl hS28 (fun W' hs' => rn_loadB Try.isAgg41 Try.sizeOf41 rfl hs'.1 hl0_) ?_
        refine anyS_take (i := 2) rfl (by kernel_rfl) (by kernel_rfl) (by kernel_rfl) (by kernel_rfl) (by kernel_rfl) (fun _ _ _ h => h) rfl rfl hS28 (fun W' hs' => rn_loadB Try.isAgg47 Try.sizeOf47 rfl hs'.2 hl1_) ?_
        refine anyS_two (i := 1) (i2 := 8) (by kernel_rfl) ?_ ?_
        · refine op_call rfl Try.call18 (vs := #[.agg (List.toArray cs0)]) rfl rfl rfl (to_Vat x0 _ _ (K_upd H27.1 hK0) hs_x0) ?_
          rintro e33 W32 ⟨cs_8_1, rfl, hM30, hu31⟩
          refine ⟨_, rfl, ?_⟩
          have hl34 := ki_Vat_len (ki_Vat.K_of_M hM30)
          have ho35 := ki_Vat_one (ki_Vat.K_of_M hM30)
          have H36 : St w No [hM ki_Vat x0 cs_8_1, hB g_0_1 47 (List.toArray cs1), hB g_0_0 41 (List.toArray cs0)] W32 := H27.new hu31 hM30
          clear H27
          have hS37 : Blk W32 g_0_0 41 (List.toArray cs0) ∧ Blk W32 g_0_1 47 (List.toArray cs1) := ⟨H36.blk 2 rfl, H36.blk 1 rfl⟩
          refine ⟨fun _ => hS37, ?_⟩
          refine anyS_two (i := 3) (i2 := 8) (by kernel_rfl) ?_ ?_
          · refine op_call rfl Try.call19 (vs := #[.agg (List.toArray cs1)]) rfl rfl rfl (to_Entity x1 _ _ (K_upd H36.1 hK1) hs_x1) ?_
            rintro e42 W41 ⟨cs_8_3, rfl, hM39, hu40⟩
            refine ⟨_, rfl, ?_⟩
            have hl43 := ki_Entity_len (ki_Entity.K_of_M hM39)
            have ho44 := ki_Entity_one (ki_Entity.K_of_M hM39)
            have H45 : St w No [hM ki_Entity x1 cs_8_3, hM ki_Vat x0 cs_8_1, hB g_0_1 47 (List.toArray cs1), hB g_0_0 41 (List.toArray cs0)] W41 := H36.new hu40 hM39
            clear H36
            have hS46 : Blk W41 g_0_0 41 (List.toArray cs0) ∧ Blk W41 g_0_1 47 (List.toArray cs1) := ⟨H45.blk 3 rfl, H45.blk 2 rfl⟩
            refine ⟨fun _ => hS46, ?_⟩
            refine anyS_two (i := 4) (i2 := 8) (by kernel_rfl) ?_ ?_
            · refine op_call rfl Try.call17 (vs := #[.agg (List.toArray cs_8_1), .agg (List.toArray cs_8_3)]) rfl rfl rfl (addEntity_s x0 x1 _ _ _ (H45.kn 1 rfl) (Nat.le_trans hs_x0 (by decide)) (H45.kn 0 rfl) (Nat.le_trans hs_x1 (by decide))) ?_
              rintro e50 W49 ⟨cs_8_4, rfl, hM47, hu48⟩
              refine ⟨_, rfl, ?_⟩
              have hl51 := ki_Vat_len (ki_Vat.K_of_M hM47)
              have ho52 := ki_Vat_one (ki_Vat.K_of_M hM47)
              have H53 : St w No [hM ki_Vat (addE x1 x0) cs_8_4, hM ki_Entity x1 cs_8_3, hM ki_Vat x0 cs_8_1, hB g_0_1 47 (List.toArray cs1), hB g_0_0 41 (List.toArray cs0)] W49 := H45.new hu48 hM47
              clear H45
              have hS54 : Blk W49 g_0_0 41 (List.toArray cs0) ∧ Blk W49 g_0_1 47 (List.toArray cs1) := ⟨H53.blk 4 rfl, H53.blk 3 rfl⟩
              refine ⟨fun _ => hS54, ?_⟩
              refine anyS_take (i := 5) rfl (by kernel_rfl) (by kernel_rfl) (by kernel_rfl) (by kernel_rfl) (by kernel_rfl) (fun _ _ _ h => h) rfl rfl hS54 (fun W' hs' => rn_move rfl) ?_
              refine anyS_take (i := 6) rfl (by kernel_rfl) (by kernel_rfl) (by kernel_rfl) (by kernel_rfl) (by kernel_rfl) (fun _ _ _ h => h) rfl rfl hS54 (fun W' hs' => rn_extract (v := .agg (List.toArray cs_8_4)) rfl rfl) ?_
              refine anyS_take (i := 7) rfl (by kernel_rfl) (by kernel_rfl) (by kernel_rfl) (by kernel_rfl) (by kernel_rfl) (fun _ _ _ h => h) rfl rfl hS54 (fun W' hs' => rn_extract (v := .int .i64 ((addN x0.Entities))) rfl rfl) ?_
              refine anyS_one (i := 8) (by kernel_rfl) ?_
              refine op_alloc rfl Try.zeroValue28 rfl rfl H53 ?_
              intro g_8_8 W55 hu56 Ha57
              clear H53
              have H58 : St w No [hB g_8_8 28 #[.int .i64 (0), .slice none 0 0, .slice none 0 0, .slice none 0 0, .slice none 0 0], hM ki_Vat (addE x1 x0) cs_8_4, hM ki_Entity x1 cs_8_3, hM ki_Vat x0 cs_8_1, hB g_0_1 47 (List.toArray cs1), hB g_0_0 41 (List.toArray cs0)] W55 := Ha57
              clear Ha57
              clear hu56
              have hS59 : Blk W55 g_0_0 41 (List.toArray cs0) ∧ Blk W55 g_0_1 47 (List.toArray cs1) := ⟨H58.blk 5 rfl, H58.blk 4 rfl⟩
              refine ⟨fun _ => hS59, ?_⟩
              refine anyS_one (i := 9) (by kernel_rfl) ?_
              refine op_storeW rfl Try.sizeOf28 rfl rfl (ki_Vat_len (H58.kn 1 rfl)) rfl (ki_Vat_one (H58.kn 1 rfl)) H58 ?_
              intro W60 hu61 Ha62
              clear H58
              have H63 : St w No [hB g_8_8 28 (List.toArray cs_8_4), hM ki_Vat (addE x1 x0) cs_8_4, hM ki_Entity x1 cs_8_3, hM ki_Vat x0 cs_8_1, hB g_0_1 47 (List.toArray cs1), hB g_0_0 41 (List.toArray cs0)] W60 := Ha62
              clear Ha62
              clear hu61
              have hS64 : Blk W60 g_0_0 41 (List.toArray cs0) ∧ Blk W60 g_0_1 47 (List.toArray cs1) := ⟨H63.blk 5 rfl, H63.blk 4 rfl⟩
              refine ⟨fun _ => hS64, ?_⟩
              refine anyS_take (i := 10) rfl (by kernel_rfl) (by kernel_rfl) (by kernel_rfl) (by kernel_rfl) (by kernel_rfl) (fun _ _ _ h => h) rfl rfl hS64 (fun W' hs' => rn_assign rfl) ?_
              refine anyS_done (by kernel_rfl) ?_ _
              exact (actOf_drop2 [(2, .pointer (some ⟨g_0_0, 0, none⟩)), (3, .pointer (some ⟨g_0_1, 0, none⟩)), (6, .pointer (some ⟨g_8_8, 0, none⟩)), (7, .int .i64 ((addN x0.Entities)))] rfl).elim fun x' hx => ⟨cs_8_4, g_8_8, x', hx, H63.pick [0, 1, 4, 5] (by decide) rfl⟩
            · refine op_alloc rfl Try.zeroValue28 rfl rfl H45 ?_
              intro g_8_8 W65 hu66 Ha67
              clear H45
              have H68 : St w No [hB g_8_8 28 #[.int .i64 (0), .slice none 0 0, .slice none 0 0, .slice none 0 0, .slice none 0 0], hM ki_Entity x1 cs_8_3, hM ki_Vat x0 cs_8_1, hB g_0_1 47 (List.toArray cs1), hB g_0_0 41 (List.toArray cs0)] W65 := Ha67
              clear Ha67
              clear hu66
              have hS69 : Blk W65 g_0_0 41 (List.toArray cs0) ∧ Blk W65 g_0_1 47 (List.toArray cs1) := ⟨H68.blk 4 rfl, H68.blk 3 rfl⟩
              refine ⟨fun _ => hS69, ?_⟩
              refine anyS_one (i := 4) (by kernel_rfl) ?_
              refine op_call rfl Try.call17 (vs := #[.agg (List.toArray cs_8_1), .agg (List.toArray cs_8_3)]) rfl rfl rfl (addEntity_s x0 x1 _ _ _ (H68.kn 2 rfl) (Nat.le_trans hs_x0 (by decide)) (H68.kn 1 rfl) (Nat.le_trans hs_x1 (by decide))) ?_
              rintro e73 W72 ⟨cs_8_4, rfl, hM70, hu71⟩
              refine ⟨_, rfl, ?_⟩
              have hl74 := ki_Vat_len (ki_Vat.K_of_M hM70)
              have ho75 := ki_Vat_one (ki_Vat.K_of_M hM70)
              have H76 : St w No [hM ki_Vat (addE x1 x0) cs_8_4, hB g_8_8 28 #[.int .i64 (0), .slice none 0 0, .slice none 0 0, .slice none 0 0, .slice none 0 0], hM ki_Entity x1 cs_8_3, hM ki_Vat x0 cs_8_1, hB g_0_1 47 (List.toArray cs1), hB g_0_0 41 (List.toArray cs0)] W72 := H68.new hu71 hM70
              clear H68
              have hS77 : Blk W72 g_0_0 41 (List.toArray cs0) ∧ Blk W72 g_0_1 47 (List.toArray cs1) := ⟨H76.blk 5 rfl, H76.blk 4 rfl⟩
              refine ⟨fun _ => hS77, ?_⟩
              refine anyS_take (i := 5) rfl (by kernel_rfl) (by kernel_rfl) (by kernel_rfl) (by kernel_rfl) (by kernel_rfl) (fun _ _ _ h => h) rfl rfl hS77 (fun W' hs' => rn_move rfl) ?_
              refine anyS_take (i := 6) rfl (by kernel_rfl) (by kernel_rfl) (by kernel_rfl) (by kernel_rfl) (by kernel_rfl) (fun _ _ _ h => h) rfl rfl hS77 (fun W' hs' => rn_extract (v := .agg (List.toArray cs_8_4)) rfl rfl) ?_
              refine anyS_take (i := 7) rfl (by kernel_rfl) (by kernel_rfl) (by kernel_rfl) (by kernel_rfl) (by kernel_rfl) (fun _ _ _ h => h) rfl rfl hS77 (fun W' hs' => rn_extract (v := .int .i64 ((addN x0.Entities))) rfl rfl) ?_
              refine anyS_one (i := 9) (by kernel_rfl) ?_
              have H81 : St w No [hB g_8_8 28 #[.int .i64 (0), .slice none 0 0, .slice none 0 0, .slice none 0 0, .slice none 0 0], hM ki_Vat (addE x1 x0) cs_8_4, hM ki_Entity x1 cs_8_3, hM ki_Vat x0 cs_8_1, hB g_0_1 47 (List.toArray cs1), hB g_0_0 41 (List.toArray cs0)] W72 := H76.pick [1, 0, 2, 3, 4, 5] (by decide) rfl
              clear H76
              refine op_storeW rfl Try.sizeOf28 rfl rfl (ki_Vat_len (H81.kn 1 rfl)) rfl (ki_Vat_one (H81.kn 1 rfl)) H81 ?_
              intro W78 hu79 Ha80
              clear H81
              have H82 : St w No [hB g_8_8 28 (List.toArray cs_8_4), hM ki_Vat (addE x1 x0) cs_8_4, hM ki_Entity x1 cs_8_3, hM ki_Vat x0 cs_8_1, hB g_0_1 47 (List.toArray cs1), hB g_0_0 41 (List.toArray cs0)] W78 := Ha80
              clear Ha80
              clear hu79
              have hS83 : Blk W78 g_0_0 41 (List.toArray cs0) ∧ Blk W78 g_0_1 47 (List.toArray cs1) := ⟨H82.blk 5 rfl, H82.blk 4 rfl⟩
              refine ⟨fun _ => hS83, ?_⟩
              refine anyS_take (i := 10) rfl (by kernel_rfl) (by kernel_rfl) (by kernel_rfl) (by kernel_rfl) (by kernel_rfl) (fun _ _ _ h => h) rfl rfl hS83 (fun W' hs' => rn_assign rfl) ?_
              refine anyS_done (by kernel_rfl) ?_ _
              exact (actOf_drop2 [(2, .pointer (some ⟨g_0_0, 0, none⟩)), (3, .pointer (some ⟨g_0_1, 0, none⟩)), (6, .pointer (some ⟨g_8_8, 0, none⟩)), (7, .int .i64 ((addN x0.Entities)))] rfl).elim fun x' hx => ⟨cs_8_4, g_8_8, x', hx, H82.pick [0, 1, 4, 5] (by decide) rfl⟩
          · refine op_alloc rfl Try.zeroValue28 rfl rfl H36 ?_
            intro g_8_8 W84 hu85 Ha86
            clear H36
            have H87 : St w No [hB g_8_8 28 #[.int .i64 (0), .slice none 0 0, .slice none 0 0, .slice none 0 0, .slice none 0 0], hM ki_Vat x0 cs_8_1, hB g_0_1 47 (List.toArray cs1), hB g_0_0 41 (List.toArray cs0)] W84 := Ha86
            clear Ha86
            clear hu85
            have hS88 : Blk W84 g_0_0 41 (List.toArray cs0) ∧ Blk W84 g_0_1 47 (List.toArray cs1) := ⟨H87.blk 3 rfl, H87.blk 2 rfl⟩
            refine ⟨fun _ => hS88, ?_⟩
            refine anyS_one (i := 3) (by kernel_rfl) ?_
            refine op_call rfl Try.call19 (vs := #[.agg (List.toArray cs1)]) rfl rfl rfl (to_Entity x1 _ _ (K_upd H87.1 hK1) hs_x1) ?_
            rintro e93 W92 ⟨cs_8_3, rfl, hM90, hu91⟩
            refine ⟨_, rfl, ?_⟩
            have hl94 := ki_Entity_len (ki_Entity.K_of_M hM90)
            have ho95 := ki_Entity_one (ki_Entity.K_of_M hM90)
            have H96 : St w No [hM ki_Entity x1 cs_8_3, hB g_8_8 28 #[.int .i64 (0), .slice none 0 0, .slice none 0 0, .slice none 0 0, .slice none 0 0], hM ki_Vat x0 cs_8_1, hB g_0_1 47 (List.toArray cs1), hB g_0_0 41 (List.toArray cs0)] W92 := H87.new hu91 hM90
            clear H87
            have hS97 : Blk W92 g_0_0 41 (List.toArray cs0) ∧ Blk W92 g_0_1 47 (List.toArray cs1) := ⟨H96.blk 4 rfl, H96.blk 3 rfl⟩
            refine ⟨fun _ => hS97, ?_⟩
            refine anyS_one (i := 4) (by kernel_rfl) ?_
            refine op_call rfl Try.call17 (vs := #[.agg (List.toArray cs_8_1), .agg (List.toArray cs_8_3)]) rfl rfl rfl (addEntity_s x0 x1 _ _ _ (H96.kn 2 rfl) (Nat.le_trans hs_x0 (by decide)) (H96.kn 0 rfl) (Nat.le_trans hs_x1 (by decide))) ?_
            rintro e101 W100 ⟨cs_8_4, rfl, hM98, hu99⟩
            refine ⟨_, rfl, ?_⟩
            have hl102 := ki_Vat_len (ki_Vat.K_of_M hM98)
            have ho103 := ki_Vat_one (ki_Vat.K_of_M hM98)
            have H104 : St w No [hM ki_Vat (addE x1 x0) cs_8_4, hM ki_Entity x1 cs_8_3, hB g_8_8 28 #[.int .i64 (0), .slice none 0 0, .slice none 0 0, .slice none 0 0, .slice none 0 0], hM ki_Vat x0 cs_8_1, hB g_0_1 47 (List.toArray cs1), hB g_0_0 41 (List.toArray cs0)] W100 := H96.new hu99 hM98
            clear H96
            have hS105 : Blk W100 g_0_0 41 (List.toArray cs0) ∧ Blk W100 g_0_1 47 (List.toArray cs1) := ⟨H104.blk 5 rfl, H104.blk 4 rfl⟩
            refine ⟨fun _ => hS105, ?_⟩
            refine anyS_take (i := 5) rfl (by kernel_rfl) (by kernel_rfl) (by kernel_rfl) (by kernel_rfl) (by kernel_rfl) (fun _ _ _ h => h) rfl rfl hS105 (fun W' hs' => rn_move rfl) ?_
            refine anyS_take (i := 6) rfl (by kernel_rfl) (by kernel_rfl) (by kernel_rfl) (by kernel_rfl) (by kernel_rfl) (fun _ _ _ h => h) rfl rfl hS105 (fun W' hs' => rn_extract (v := .agg (List.toArray cs_8_4)) rfl rfl) ?_
            refine anyS_take (i := 7) rfl (by kernel_rfl) (by kernel_rfl) (by kernel_rfl) (by kernel_rfl) (by kernel_rfl) (fun _ _ _ h => h) rfl rfl hS105 (fun W' hs' => rn_extract (v := .int .i64 ((addN x0.Entities))) rfl rfl) ?_
            refine anyS_one (i := 9) (by kernel_rfl) ?_
            have H109 : St w No [hB g_8_8 28 #[.int .i64 (0), .slice none 0 0, .slice none 0 0, .slice none 0 0, .slice none 0 0], hM ki_Vat (addE x1 x0) cs_8_4, hM ki_Entity x1 cs_8_3, hM ki_Vat x0 cs_8_1, hB g_0_1 47 (List.toArray cs1), hB g_0_0 41 (List.toArray cs0)] W100 := H104.pick [2, 0, 1, 3, 4, 5] (by decide) rfl
            clear H104
            refine op_storeW rfl Try.sizeOf28 rfl rfl (ki_Vat_len (H109.kn 1 rfl)) rfl (ki_Vat_one (H109.kn 1 rfl)) H109 ?_
            intro W106 hu107 Ha108
            clear H109
            have H110 : St w No [hB g_8_8 28 (List.toArray cs_8_4), hM ki_Vat (addE x1 x0) cs_8_4, hM ki_Entity x1 cs_8_3, hM ki_Vat x0 cs_8_1, hB g_0_1 47 (List.toArray cs1), hB g_0_0 41 (List.toArray cs0)] W106 := Ha108
            clear Ha108
            clear hu107
            have hS111 : Blk W106 g_0_0 41 (List.toArray cs0) ∧ Blk W106 g_0_1 47 (List.toArray cs1) := ⟨H110.blk 5 rfl, H110.blk 4 rfl⟩
            refine ⟨fun _ => hS111, ?_⟩
            refine anyS_take (i := 10) rfl (by kernel_rfl) (by kernel_rfl) (by kernel_rfl) (by kernel_rfl) (by kernel_rfl) (fun _ _ _ h => h) rfl rfl hS111 (fun W' hs' => rn_assign rfl) ?_
            refine anyS_done (by kernel_rfl) ?_ _
            exact (actOf_drop2 [(2, .pointer (some ⟨g_0_0, 0, none⟩)), (3, .pointer (some ⟨g_0_1, 0, none⟩)), (6, .pointer (some ⟨g_8_8, 0, none⟩)), (7, .int .i64 ((addN x0.Entities)))] rfl).elim fun x' hx => ⟨cs_8_4, g_8_8, x', hx, H110.pick [0, 1, 4, 5] (by decide) rfl⟩
        · refine op_alloc rfl Try.zeroValue28 rfl rfl H27 ?_
          intro g_8_8 W112 hu113 Ha114
          clear H27
          have H115 : St w No [hB g_8_8 28 #[.int .i64 (0), .slice none 0 0, .slice none 0 0, .slice none 0 0, .slice none 0 0], hB g_0_1 47 (List.toArray cs1), hB g_0_0 41 (List.toArray cs0)] W112 := Ha114
          clear Ha114
          clear hu113
          have hS116 : Blk W112 g_0_0 41 (List.toArray cs0) ∧ Blk W112 g_0_1 47 (List.toArray cs1) := ⟨H115.blk 2 rfl, H115.blk 1 rfl⟩
          refine ⟨fun _ => hS116, ?_⟩
          refine anyS_one (i := 1) (by kernel_rfl) ?_
          refine op_call rfl Try.call18 (vs := #[.agg (List.toArray cs0)]) rfl rfl rfl (to_Vat x0 _ _ (K_upd H115.1 hK0) hs_x0) ?_
          rintro e121 W120 ⟨cs_8_1, rfl, hM118, hu119⟩
          refine ⟨_, rfl, ?_⟩
          have hl122 := ki_Vat_len (ki_Vat.K_of_M hM118)
          have ho123 := ki_Vat_one (ki_Vat.K_of_M hM118)
          have H124 : St w No [hM ki_Vat x0 cs_8_1, hB g_8_8 28 #[.int .i64 (0), .slice none 0 0, .slice none 0 0, .slice none 0 0, .slice none 0 0], hB g_0_1 47 (List.toArray cs1), hB g_0_0 41 (List.toArray cs0)] W120 := H115.new hu119 hM118
          clear H115
          have hS125 : Blk W120 g_0_0 41 (List.toArray cs0) ∧ Blk W120 g_0_1 47 (List.toArray cs1) := ⟨H124.blk 3 rfl, H124.blk 2 rfl⟩
          refine ⟨fun _ => hS125, ?_⟩
          refine anyS_one (i := 3) (by kernel_rfl) ?_
          refine op_call rfl Try.call19 (vs := #[.agg (List.toArray cs1)]) rfl rfl rfl (to_Entity x1 _ _ (K_upd H124.1 hK1) hs_x1) ?_
          rintro e130 W129 ⟨cs_8_3, rfl, hM127, hu128⟩
          refine ⟨_, rfl, ?_⟩
          have hl131 := ki_Entity_len (ki_Entity.K_of_M hM127)
          have ho132 := ki_Entity_one (ki_Entity.K_of_M hM127)
          have H133 : St w No [hM ki_Entity x1 cs_8_3, hM ki_Vat x0 cs_8_1, hB g_8_8 28 #[.int .i64 (0), .slice none 0 0, .slice none 0 0, .slice none 0 0, .slice none 0 0], hB g_0_1 47 (List.toArray cs1), hB g_0_0 41 (List.toArray cs0)] W129 := H124.new hu128 hM127
          clear H124
          have hS134 : Blk W129 g_0_0 41 (List.toArray cs0) ∧ Blk W129 g_0_1 47 (List.toArray cs1) := ⟨H133.blk 4 rfl, H133.blk 3 rfl⟩
          refine ⟨fun _ => hS134, ?_⟩
          refine anyS_one (i := 4) (by kernel_rfl) ?_
          refine op_call rfl Try.call17 (vs := #[.agg (List.toArray cs_8_1), .agg (List.toArray cs_8_3)]) rfl rfl rfl (addEntity_s x0 x1 _ _ _ (H133.kn 1 rfl) (Nat.le_trans hs_x0 (by decide)) (H133.kn 0 rfl) (Nat.le_trans hs_x1 (by decide))) ?_
          rintro e138 W137 ⟨cs_8_4, rfl, hM135, hu136⟩
          refine ⟨_, rfl, ?_⟩
          have hl139 := ki_Vat_len (ki_Vat.K_of_M hM135)
          have ho140 := ki_Vat_one (ki_Vat.K_of_M hM135)
          have H141 : St w No [hM ki_Vat (addE x1 x0) cs_8_4, hM ki_Entity x1 cs_8_3, hM ki_Vat x0 cs_8_1, hB g_8_8 28 #[.int .i64 (0), .slice none 0 0, .slice none 0 0, .slice none 0 0, .slice none 0 0], hB g_0_1 47 (List.toArray cs1), hB g_0_0 41 (List.toArray cs0)] W137 := H133.new hu136 hM135
          clear H133
          have hS142 : Blk W137 g_0_0 41 (List.toArray cs0) ∧ Blk W137 g_0_1 47 (List.toArray cs1) := ⟨H141.blk 5 rfl, H141.blk 4 rfl⟩
          refine ⟨fun _ => hS142, ?_⟩
          refine anyS_take (i := 5) rfl (by kernel_rfl) (by kernel_rfl) (by kernel_rfl) (by kernel_rfl) (by kernel_rfl) (fun _ _ _ h => h) rfl rfl hS142 (fun W' hs' => rn_move rfl) ?_
          refine anyS_take (i := 6) rfl (by kernel_rfl) (by kernel_rfl) (by kernel_rfl) (by kernel_rfl) (by kernel_rfl) (fun _ _ _ h => h) rfl rfl hS142 (fun W' hs' => rn_extract (v := .agg (List.toArray cs_8_4)) rfl rfl) ?_
          refine anyS_take (i := 7) rfl (by kernel_rfl) (by kernel_rfl) (by kernel_rfl) (by kernel_rfl) (by kernel_rfl) (fun _ _ _ h => h) rfl rfl hS142 (fun W' hs' => rn_extract (v := .int .i64 ((addN x0.Entities))) rfl rfl) ?_
          refine anyS_one (i := 9) (by kernel_rfl) ?_
          have H146 : St w No [hB g_8_8 28 #[.int .i64 (0), .slice none 0 0, .slice none 0 0, .slice none 0 0, .slice none 0 0], hM ki_Vat (addE x1 x0) cs_8_4, hM ki_Entity x1 cs_8_3, hM ki_Vat x0 cs_8_1, hB g_0_1 47 (List.toArray cs1), hB g_0_0 41 (List.toArray cs0)] W137 := H141.pick [3, 0, 1, 2, 4, 5] (by decide) rfl
          clear H141
          refine op_storeW rfl Try.sizeOf28 rfl rfl (ki_Vat_len (H146.kn 1 rfl)) rfl (ki_Vat_one (H146.kn 1 rfl)) H146 ?_
          intro W143 hu144 Ha145
          clear H146
          have H147 : St w No [hB g_8_8 28 (List.toArray cs_8_4), hM ki_Vat (addE x1 x0) cs_8_4, hM ki_Entity x1 cs_8_3, hM ki_Vat x0 cs_8_1, hB g_0_1 47 (List.toArray cs1), hB g_0_0 41 (List.toArray cs0)] W143 := Ha145
          clear Ha145
          clear hu144
          have hS148 : Blk W143 g_0_0 41 (List.toArray cs0) ∧ Blk W143 g_0_1 47 (List.toArray cs1) := ⟨H147.blk 5 rfl, H147.blk 4 rfl⟩
          refine ⟨fun _ => hS148, ?_⟩
          refine anyS_take (i := 10) rfl (by kernel_rfl) (by kernel_rfl) (by kernel_rfl) (by kernel_rfl) (by kernel_rfl) (fun _ _ _ h => h) rfl rfl hS148 (fun W' hs' => rn_assign rfl) ?_
          refine anyS_done (by kernel_rfl) ?_ _
          exact (actOf_drop2 [(2, .pointer (some ⟨g_0_0, 0, none⟩)), (3, .pointer (some ⟨g_0_1, 0, none⟩)), (6, .pointer (some ⟨g_8_8, 0, none⟩)), (7, .int .i64 ((addN x0.Entities)))] rfl).elim fun x' hx => ⟨cs_8_4, g_8_8, x', hx, H147.pick [0, 1, 4, 5] (by decide) rfl⟩
      · rintro _ W150 ⟨cs_8_4, g_8_8, x151, rfl, H149⟩
        refine then_n ?_
        refine wp_seq ?_
        refine reg_seq [0, 1, 2, 3] rfl ?_
        refine ops_cons ?_
        refine op_pure rfl (rn_loadB Try.isAgg41 Try.sizeOf41 rfl (H149.blk 3 rfl) hl0_) rfl rfl ?_
        refine ops_cons ?_
        refine op_call rfl Try.call18 (vs := #[.agg (List.toArray cs0)]) rfl rfl rfl (to_Vat x0 _ _ (K_upd H149.1 hK0) hs_x0) ?_
        rintro e156 W155 ⟨cs_9_1, rfl, hM153, hu154⟩
        refine ⟨_, rfl, ?_⟩
        have hl157 := ki_Vat_len (ki_Vat.K_of_M hM153)
        have ho158 := ki_Vat_one (ki_Vat.K_of_M hM153)
        have H159 : St w No [hM ki_Vat x0 cs_9_1, hB g_8_8 28 (List.toArray cs_8_4), hM ki_Vat (addE x1 x0) cs_8_4, hB g_0_1 47 (List.toArray cs1), hB g_0_0 41 (List.toArray cs0)] W155 := H149.new hu154 hM153
        clear H149
        refine ops_cons ?_
        refine op_alloc rfl Try.zeroValue28 rfl rfl H159 ?_
        intro g_9_2 W160 hu161 Ha162
        clear H159
        have H163 : St w No [hB g_9_2 28 #[.int .i64 (0), .slice none 0 0, .slice none 0 0, .slice none 0 0, .slice none 0 0], hM ki_Vat x0 cs_9_1, hB g_8_8 28 (List.toArray cs_8_4), hM ki_Vat (addE x1 x0) cs_8_4, hB g_0_1 47 (List.toArray cs1), hB g_0_0 41 (List.toArray cs0)] W160 := Ha162
        clear Ha162
        clear hu161
        refine ops_cons ?_
        refine op_storeW rfl Try.sizeOf28 rfl rfl (ki_Vat_len (H163.kn 1 rfl)) rfl (ki_Vat_one (H163.kn 1 rfl)) H163 ?_
        intro W164 hu165 Ha166
        clear H163
        have H167 : St w No [hB g_9_2 28 (List.toArray cs_9_1), hM ki_Vat x0 cs_9_1, hB g_8_8 28 (List.toArray cs_8_4), hM ki_Vat (addE x1 x0) cs_8_4, hB g_0_1 47 (List.toArray cs1), hB g_0_0 41 (List.toArray cs0)] W164 := Ha166
        clear Ha166
        clear hu165
        refine ops_nil ?_
        refine then_n ?_
        refine wp_seq ?_
        refine reg_seq [0, 1, 2, 3] rfl ?_
        refine ops_cons ?_
        refine op_pure rfl (rn_loadB Try.isAgg47 Try.sizeOf47 rfl (H167.blk 4 rfl) hl1_) rfl rfl ?_
        refine ops_cons ?_
        refine op_call rfl Try.call19 (vs := #[.agg (List.toArray cs1)]) rfl rfl rfl (to_Entity x1 _ _ (K_upd H167.1 hK1) hs_x1) ?_
        rintro e172 W171 ⟨cs_10_1, rfl, hM169, hu170⟩
        refine ⟨_, rfl, ?_⟩
        have hl173 := ki_Entity_len (ki_Entity.K_of_M hM169)
        have ho174 := ki_Entity_one (ki_Entity.K_of_M hM169)
        have H175 : St w No [hM ki_Entity x1 cs_10_1, hB g_9_2 28 (List.toArray cs_9_1), hM ki_Vat x0 cs_9_1, hB g_8_8 28 (List.toArray cs_8_4), hM ki_Vat (addE x1 x0) cs_8_4, hB g_0_1 47 (List.toArray cs1), hB g_0_0 41 (List.toArray cs0)] W171 := H167.new hu170 hM169
        clear H167
        refine ops_cons ?_
        refine op_alloc rfl Try.zeroValue57 rfl rfl H175 ?_
        intro g_10_2 W176 hu177 Ha178
        clear H175
        have H179 : St w No [hB g_10_2 57 #[.int .i64 (0), .int .i64 (0), .slice none 0 0, .int .i64 (0), .int .i64 (0), .int .i64 (0), .slice none 0 0, .slice none 0 0, .int .i64 (0), .int .i64 (0), .int .i64 (0), .int .i64 (0)], hM ki_Entity x1 cs_10_1, hB g_9_2 28 (List.toArray cs_9_1), hM ki_Vat x0 cs_9_1, hB g_8_8 28 (List.toArray cs_8_4), hM ki_Vat (addE x1 x0) cs_8_4, hB g_0_1 47 (List.toArray cs1), hB g_0_0 41 (List.toArray cs0)] W176 := Ha178
        clear Ha178
        clear hu177
        refine ops_cons ?_
        refine op_storeW rfl Try.sizeOf57 rfl rfl (ki_Entity_len (H179.kn 1 rfl)) rfl (ki_Entity_one (H179.kn 1 rfl)) H179 ?_
        intro W180 hu181 Ha182
        clear H179
        have H183 : St w No [hB g_10_2 57 (List.toArray cs_10_1), hM ki_Entity x1 cs_10_1, hB g_9_2 28 (List.toArray cs_9_1), hM ki_Vat x0 cs_9_1, hB g_8_8 28 (List.toArray cs_8_4), hM ki_Vat (addE x1 x0) cs_8_4, hB g_0_1 47 (List.toArray cs1), hB g_0_0 41 (List.toArray cs0)] W180 := Ha182
        clear Ha182
        clear hu181
        refine ops_nil ?_
        refine then_n ?_
        refine wp_seq ?_
        refine reg_seq [0, 1, 2, 3, 4, 5, 6, 7, 8] rfl ?_
        refine ops_cons ?_
        refine op_pure rfl (rn_loadB Try.isAgg28 Try.sizeOf28 rfl (H183.blk 2 rfl) (ki_Vat_len (H183.kn 3 rfl))) rfl rfl ?_
        refine ops_cons ?_
        refine op_pure rfl (rn_loadB Try.isAgg57 Try.sizeOf57 rfl (H183.blk 0 rfl) (ki_Entity_len (H183.kn 1 rfl))) rfl rfl ?_
        refine ops_cons ?_
        refine op_call rfl Try.call20 (vs := #[.agg (List.toArray cs_9_1), .agg (List.toArray cs_10_1)]) rfl rfl rfl (addEntity_i x0 x1 _ _ _ (H183.kn 3 rfl) (Nat.le_trans hs_x0 (by decide)) (H183.kn 1 rfl) (Nat.le_trans hs_x1 (by decide))) ?_
        rintro e187 W186 ⟨cs_11_2, rfl, hM184, hu185⟩
        refine ⟨_, rfl, ?_⟩
        have hl188 := ki_Vat_len (ki_Vat.K_of_M hM184)
        have ho189 := ki_Vat_one (ki_Vat.K_of_M hM184)
        have H190 : St w No [hM ki_Vat (addE x1 x0) cs_11_2, hB g_10_2 57 (List.toArray cs_10_1), hM ki_Entity x1 cs_10_1, hB g_9_2 28 (List.toArray cs_9_1), hM ki_Vat x0 cs_9_1, hB g_8_8 28 (List.toArray cs_8_4), hM ki_Vat (addE x1 x0) cs_8_4, hB g_0_1 47 (List.toArray cs1), hB g_0_0 41 (List.toArray cs0)] W186 := H183.new hu185 hM184
        clear H183
        refine ops_cons ?_
        refine op_pure rfl (rn_move rfl) rfl rfl ?_
        refine ops_cons ?_
        refine op_pure rfl (rn_extract (v := .agg (List.toArray cs_11_2)) rfl rfl) rfl rfl ?_
        refine ops_cons ?_
        refine op_pure rfl (rn_extract (v := .int .i64 ((addN x0.Entities))) rfl rfl) rfl rfl ?_
        refine ops_cons ?_
        refine op_alloc rfl Try.zeroValue28 rfl rfl H190 ?_
        intro g_11_6 W191 hu192 Ha193
        clear H190
        have H194 : St w No [hB g_11_6 28 #[.int .i64 (0), .slice none 0 0, .slice none 0 0, .slice none 0 0, .slice none 0 0], hM ki_Vat (addE x1 x0) cs_11_2, hB g_10_2 57 (List.toArray cs_10_1), hM ki_Entity x1 cs_10_1, hB g_9_2 28 (List.toArray cs_9_1), hM ki_Vat x0 cs_9_1, hB g_8_8 28 (List.toArray cs_8_4), hM ki_Vat (addE x1 x0) cs_8_4, hB g_0_1 47 (List.toArray cs1), hB g_0_0 41 (List.toArray cs0)] W191 := Ha193
        clear Ha193
        clear hu192
        refine ops_cons ?_
        refine op_storeW rfl Try.sizeOf28 rfl rfl (ki_Vat_len (H194.kn 1 rfl)) rfl (ki_Vat_one (H194.kn 1 rfl)) H194 ?_
        intro W195 hu196 Ha197
        clear H194
        have H198 : St w No [hB g_11_6 28 (List.toArray cs_11_2), hM ki_Vat (addE x1 x0) cs_11_2, hB g_10_2 57 (List.toArray cs_10_1), hM ki_Entity x1 cs_10_1, hB g_9_2 28 (List.toArray cs_9_1), hM ki_Vat x0 cs_9_1, hB g_8_8 28 (List.toArray cs_8_4), hM ki_Vat (addE x1 x0) cs_8_4, hB g_0_1 47 (List.toArray cs1), hB g_0_0 41 (List.toArray cs0)] W195 := Ha197
        clear Ha197
        clear hu196
        refine ops_cons ?_
        refine op_pure rfl (rn_assign rfl) rfl rfl ?_
        refine ops_nil ?_
        refine then_n ?_
        refine wp_seq ?_
        refine wp_seq ?_
        refine reg_seq [0, 1, 2, 3, 4, 5, 6, 7, 8] rfl ?_
        refine ops_cons ?_
        refine op_pure rfl (rn_loadB Try.isAgg28 Try.sizeOf28 rfl (H198.blk 0 rfl) (ki_Vat_len (H198.kn 1 rfl))) rfl rfl ?_
        refine ops_cons ?_
        refine op_pure rfl (rn_loadB Try.isAgg28 Try.sizeOf28 rfl (H198.blk 6 rfl) (ki_Vat_len (H198.kn 7 rfl))) rfl rfl ?_
        refine ops_cons ?_
        refine op_call rfl Try.call10 (vs := #[.agg (List.toArray cs_11_2), .agg (List.toArray cs_8_4)]) rfl rfl rfl (eq_Vat (addE x1 x0) _ _ _ (H198.kn 1 rfl) (H198.kn 7 rfl)) ?_
        rintro e201 W200 ⟨rfl, hu199⟩
        refine ⟨_, rfl, ?_⟩
        have H202 : St w No [hB g_11_6 28 (List.toArray cs_11_2), hM ki_Vat (addE x1 x0) cs_11_2, hB g_10_2 57 (List.toArray cs_10_1), hM ki_Entity x1 cs_10_1, hB g_9_2 28 (List.toArray cs_9_1), hM ki_Vat x0 cs_9_1, hB g_8_8 28 (List.toArray cs_8_4), hM ki_Vat (addE x1 x0) cs_8_4, hB g_0_1 47 (List.toArray cs1), hB g_0_0 41 (List.toArray cs0)] W200 := H198.no hu199
        clear H198
        refine ops_cons ?_
        refine op_pure rfl (rn_not rfl) rfl rfl ?_
        refine ops_cons ?_
        refine op_pure rfl (rn_move rfl) rfl rfl ?_
        refine ops_cons ?_
        refine op_G rfl rfl rfl rfl (fun _ ho203 => ?_)
        refine op_pure ho203 (rn_move rfl) rfl rfl ?_
        refine ops_cons ?_
        refine op_G rfl rfl rfl rfl (fun _ ho204 => ?_)
        refine op_pure ho204 (rn_move rfl) rfl rfl ?_
        refine ops_cons ?_
        refine op_G rfl rfl rfl rfl (fun _ ho205 => ?_)
        refine op_pure ho205 (rn_decF (not_not_intro rfl) (rn_neq rfl rfl)) rfl rfl ?_
        refine ops_cons ?_
        refine op_pure rfl (rn_pick (b := false) rfl rfl rfl rfl) rfl rfl ?_
        refine ops_nil ?_
        refine then_n ?_
        refine cond_f rfl ?_
        refine wp_skip ?_
        refine then_n ?_
        refine wp_seq ?_
        refine wp_seq ?_
        refine reg_draw (fun W' => Blk W' g_9_2 28 (List.toArray cs_9_1) ∧ Blk W' g_0_0 41 (List.toArray cs0)) 5 (by kernel_rfl) ?_
        have H206 : St w No [hB g_11_6 28 (List.toArray cs_11_2), hM ki_Vat (addE x1 x0) cs_11_2, hB g_10_2 57 (List.toArray cs_10_1), hM ki_Entity x1 cs_10_1, hB g_9_2 28 (List.toArray cs_9_1), hM ki_Vat x0 cs_9_1, hB g_8_8 28 (List.toArray cs_8_4), hM ki_Vat (addE x1 x0) cs_8_4, hB g_0_1 47 (List.toArray cs1), hB g_0_0 41 (List.toArray cs0)] W200.drew := H202.drew
        clear H202
        have hS207 : Blk W200.drew g_9_2 28 (List.toArray cs_9_1) ∧ Blk W200.drew g_0_0 41 (List.toArray cs0) := ⟨H206.blk 4 rfl, H206.blk 9 rfl⟩
        refine anyS_take (i := 0) rfl (by kernel_rfl) (by kernel_rfl) (by kernel_rfl) (by kernel_rfl) (by kernel_rfl) (fun _ _ _ h => h) rfl rfl hS207 (fun W' hs' => rn_loadB Try.isAgg28 Try.sizeOf28 rfl hs'.1 (ki_Vat_len (H206.kn 5 rfl))) ?_
        refine anyS_take (i := 1) rfl (by kernel_rfl) (by kernel_rfl) (by kernel_rfl) (by kernel_rfl) (by kernel_rfl) (fun _ _ _ h => h) rfl rfl hS207 (fun W' hs' => rn_loadB Try.isAgg41 Try.sizeOf41 rfl hs'.2 hl0_) ?_
        refine anyS_one (i := 2) (by kernel_rfl) ?_
        refine op_call rfl Try.call18 (vs := #[.agg (List.toArray cs0)]) rfl rfl rfl (to_Vat x0 _ _ (K_upd H206.1 hK0) hs_x0) ?_
        rintro e212 W211 ⟨cs_14_2, rfl, hM209, hu210⟩
        refine ⟨_, rfl, ?_⟩
        have hl213 := ki_Vat_len (ki_Vat.K_of_M hM209)
        have ho214 := ki_Vat_one (ki_Vat.K_of_M hM209)
        have H215 : St w No [hM ki_Vat x0 cs_14_2, hB g_11_6 28 (List.toArray cs_11_2), hM ki_Vat (addE x1 x0) cs_11_2, hB g_10_2 57 (List.toArray cs_10_1), hM ki_Entity x1 cs_10_1, hB g_9_2 28 (List.toArray cs_9_1), hM ki_Vat x0 cs_9_1, hB g_8_8 28 (List.toArray cs_8_4), hM ki_Vat (addE x1 x0) cs_8_4, hB g_0_1 47 (List.toArray cs1), hB g_0_0 41 (List.toArray cs0)] W211 := H206.new hu210 hM209
        clear H206
        have hS216 : Blk W211 g_9_2 28 (List.toArray cs_9_1) ∧ Blk W211 g_0_0 41 (List.toArray cs0) := ⟨H215.blk 5 rfl, H215.blk 10 rfl⟩
        refine ⟨fun _ => hS216, ?_⟩
        refine anyS_one (i := 3) (by kernel_rfl) ?_
        refine op_call rfl Try.call10 (vs := #[.agg (List.toArray cs_9_1), .agg (List.toArray cs_14_2)]) rfl rfl rfl (eq_Vat x0 _ _ _ (H215.kn 6 rfl) (H215.kn 0 rfl)) ?_
        rintro e219 W218 ⟨rfl, hu217⟩
        refine ⟨_, rfl, ?_⟩
        have H220 : St w No [hM ki_Vat x0 cs_14_2, hB g_11_6 28 (List.toArray cs_11_2), hM ki_Vat (addE x1 x0) cs_11_2, hB g_10_2 57 (List.toArray cs_10_1), hM ki_Entity x1 cs_10_1, hB g_9_2 28 (List.toArray cs_9_1), hM ki_Vat x0 cs_9_1, hB g_8_8 28 (List.toArray cs_8_4), hM ki_Vat (addE x1 x0) cs_8_4, hB g_0_1 47 (List.toArray cs1), hB g_0_0 41 (List.toArray cs0)] W218 := H215.no hu217
        clear H215
        have hS221 : Blk W218 g_9_2 28 (List.toArray cs_9_1) ∧ Blk W218 g_0_0 41 (List.toArray cs0) := ⟨H220.blk 5 rfl, H220.blk 10 rfl⟩
        refine ⟨fun _ => hS221, ?_⟩
        refine anyS_take (i := 4) rfl (by kernel_rfl) (by kernel_rfl) (by kernel_rfl) (by kernel_rfl) (by kernel_rfl) (fun _ _ _ h => h) rfl rfl hS221 (fun W' hs' => rn_not rfl) ?_
        refine anyS_done (by kernel_rfl) ?_ _
        refine then_n ?_
        refine cond_f rfl ?_
        refine wp_skip ?_
        refine then_n ?_
        refine wp_seq ?_
        refine wp_seq ?_
        refine reg_draw (fun W' => Blk W' g_10_2 57 (List.toArray cs_10_1) ∧ Blk W' g_0_1 47 (List.toArray cs1)) 5 (by kernel_rfl) ?_
        have H222 : St w No [hM ki_Vat x0 cs_14_2, hB g_11_6 28 (List.toArray cs_11_2), hM ki_Vat (addE x1 x0) cs_11_2, hB g_10_2 57 (List.toArray cs_10_1), hM ki_Entity x1 cs_10_1, hB g_9_2 28 (List.toArray cs_9_1), hM ki_Vat x0 cs_9_1, hB g_8_8 28 (List.toArray cs_8_4), hM ki_Vat (addE x1 x0) cs_8_4, hB g_0_1 47 (List.toArray cs1), hB g_0_0 41 (List.toArray cs0)] W218.drew := H220.drew
        clear H220
        have hS223 : Blk W218.drew g_10_2 57 (List.toArray cs_10_1) ∧ Blk W218.drew g_0_1 47 (List.toArray cs1) := ⟨H222.blk 3 rfl, H222.blk 9 rfl⟩
        refine anyS_take (i := 0) rfl (by kernel_rfl) (by kernel_rfl) (by kernel_rfl) (by kernel_rfl) (by kernel_rfl) (fun _ _ _ h => h) rfl rfl hS223 (fun W' hs' => rn_loadB Try.isAgg57 Try.sizeOf57 rfl hs'.1 (ki_Entity_len (H222.kn 4 rfl))) ?_
        refine anyS_take (i := 1) rfl (by kernel_rfl) (by kernel_rfl) (by kernel_rfl) (by kernel_rfl) (by kernel_rfl) (fun _ _ _ h => h) rfl rfl hS223 (fun W' hs' => rn_loadB Try.isAgg47 Try.sizeOf47 rfl hs'.2 hl1_) ?_
        refine anyS_one (i := 2) (by kernel_rfl) ?_
        refine op_call rfl Try.call19 (vs := #[.agg (List.toArray cs1)]) rfl rfl rfl (to_Entity x1 _ _ (K_upd H222.1 hK1) hs_x1) ?_
        rintro e228 W227 ⟨cs_16_2, rfl, hM225, hu226⟩
        refine ⟨_, rfl, ?_⟩
        have hl229 := ki_Entity_len (ki_Entity.K_of_M hM225)
        have ho230 := ki_Entity_one (ki_Entity.K_of_M hM225)
        have H231 : St w No [hM ki_Entity x1 cs_16_2, hM ki_Vat x0 cs_14_2, hB g_11_6 28 (List.toArray cs_11_2), hM ki_Vat (addE x1 x0) cs_11_2, hB g_10_2 57 (List.toArray cs_10_1), hM ki_Entity x1 cs_10_1, hB g_9_2 28 (List.toArray cs_9_1), hM ki_Vat x0 cs_9_1, hB g_8_8 28 (List.toArray cs_8_4), hM ki_Vat (addE x1 x0) cs_8_4, hB g_0_1 47 (List.toArray cs1), hB g_0_0 41 (List.toArray cs0)] W227 := H222.new hu226 hM225
        clear H222
        have hS232 : Blk W227 g_10_2 57 (List.toArray cs_10_1) ∧ Blk W227 g_0_1 47 (List.toArray cs1) := ⟨H231.blk 4 rfl, H231.blk 10 rfl⟩
        refine ⟨fun _ => hS232, ?_⟩
        refine anyS_one (i := 3) (by kernel_rfl) ?_
        refine op_call rfl Try.call21 (vs := #[.agg (List.toArray cs_10_1), .agg (List.toArray cs_16_2)]) rfl rfl rfl (eq_Entity x1 _ _ _ (H231.kn 5 rfl) (H231.kn 0 rfl)) ?_
        rintro e235 W234 ⟨rfl, hu233⟩
        refine ⟨_, rfl, ?_⟩
        have H236 : St w No [hM ki_Entity x1 cs_16_2, hM ki_Vat x0 cs_14_2, hB g_11_6 28 (List.toArray cs_11_2), hM ki_Vat (addE x1 x0) cs_11_2, hB g_10_2 57 (List.toArray cs_10_1), hM ki_Entity x1 cs_10_1, hB g_9_2 28 (List.toArray cs_9_1), hM ki_Vat x0 cs_9_1, hB g_8_8 28 (List.toArray cs_8_4), hM ki_Vat (addE x1 x0) cs_8_4, hB g_0_1 47 (List.toArray cs1), hB g_0_0 41 (List.toArray cs0)] W234 := H231.no hu233
        clear H231
        have hS237 : Blk W234 g_10_2 57 (List.toArray cs_10_1) ∧ Blk W234 g_0_1 47 (List.toArray cs1) := ⟨H236.blk 4 rfl, H236.blk 10 rfl⟩
        refine ⟨fun _ => hS237, ?_⟩
        refine anyS_take (i := 4) rfl (by kernel_rfl) (by kernel_rfl) (by kernel_rfl) (by kernel_rfl) (by kernel_rfl) (fun _ _ _ h => h) rfl rfl hS237 (fun W' hs' => rn_not rfl) ?_
        refine anyS_done (by kernel_rfl) ?_ _
        refine then_n ?_
        refine cond_f rfl ?_
        refine wp_skip ?_
        refine then_n ?_
        refine wp_seq ?_
        refine reg_seq [0] rfl ?_
        refine ops_cons ?_
        refine op_pure rfl (rn_assign rfl) rfl rfl ?_
        refine ops_nil ?_
        refine then_n ?_
        refine wp_seq ?_
        refine reg_seq [0, 1, 2, 3] rfl ?_
        refine ops_cons ?_
        refine op_pure rfl (rn_loadB Try.isAgg28 Try.sizeOf28 rfl (H236.blk 6 rfl) (ki_Vat_len (H236.kn 7 rfl))) rfl rfl ?_
        refine ops_cons ?_
        refine op_pure rfl (rn_move rfl) rfl rfl ?_
        refine ops_cons ?_
        have H244 : St w No [hM ki_Vat x0 cs_9_1, hM ki_Entity x1 cs_16_2, hM ki_Vat x0 cs_14_2, hB g_11_6 28 (List.toArray cs_11_2), hM ki_Vat (addE x1 x0) cs_11_2, hB g_10_2 57 (List.toArray cs_10_1), hM ki_Entity x1 cs_10_1, hB g_9_2 28 (List.toArray cs_9_1), hB g_8_8 28 (List.toArray cs_8_4), hM ki_Vat (addE x1 x0) cs_8_4, hB g_0_1 47 (List.toArray cs1), hB g_0_0 41 (List.toArray cs0)] W234 := H236.pick [7, 0, 1, 2, 3, 4, 5, 6, 8, 9, 10, 11] (by decide) rfl
        clear H236
        obtain ⟨F239, hM240, hF241, hT242⟩ := H244.turn
        refine op_call rfl Try.call13 (vs := #[.agg (List.toArray cs_9_1), .int .i64 (1)]) rfl rfl rfl (markv_Vat_c x0 _ F239 _ _ hM240 (by omega) (by omega)) ?_
        rintro e246 W245 ⟨rfl, hM243, hu238⟩
        refine ⟨_, rfl, ?_⟩
        have H247 : St w No [hM ki_Vat (mkv_Vat 1 x0) cs_9_1, hM ki_Entity x1 cs_16_2, hM ki_Vat x0 cs_14_2, hB g_11_6 28 (List.toArray cs_11_2), hM ki_Vat (addE x1 x0) cs_11_2, hB g_10_2 57 (List.toArray cs_10_1), hM ki_Entity x1 cs_10_1, hB g_9_2 28 (List.toArray cs_9_1), hB g_8_8 28 (List.toArray cs_8_4), hM ki_Vat (addE x1 x0) cs_8_4, hB g_0_1 47 (List.toArray cs1), hB g_0_0 41 (List.toArray cs0)] W245 := hT242 (hM ki_Vat (mkv_Vat 1 x0) cs_9_1) _ hu238 ((hM ki_Vat (mkv_Vat 1 x0) cs_9_1).mono (fun _ q => .inl q) hM243)
        clear H244
        refine ops_cons ?_
        refine op_pure rfl (rn_assign rfl) rfl rfl ?_
        refine ops_nil ?_
        refine then_n ?_
        refine wp_seq ?_
        refine reg_seq [0, 1, 2, 3] rfl ?_
        refine ops_cons ?_
        refine op_pure rfl (rn_loadB Try.isAgg57 Try.sizeOf57 rfl (H247.blk 5 rfl) (ki_Entity_len (H247.kn 6 rfl))) rfl rfl ?_
        refine ops_cons ?_
        refine op_pure rfl (rn_move rfl) rfl rfl ?_
        refine ops_cons ?_
        have H254 : St w No [hM ki_Entity x1 cs_10_1, hM ki_Vat (mkv_Vat 1 x0) cs_9_1, hM ki_Entity x1 cs_16_2, hM ki_Vat x0 cs_14_2, hB g_11_6 28 (List.toArray cs_11_2), hM ki_Vat (addE x1 x0) cs_11_2, hB g_10_2 57 (List.toArray cs_10_1), hB g_9_2 28 (List.toArray cs_9_1), hB g_8_8 28 (List.toArray cs_8_4), hM ki_Vat (addE x1 x0) cs_8_4, hB g_0_1 47 (List.toArray cs1), hB g_0_0 41 (List.toArray cs0)] W245 := H247.pick [6, 0, 1, 2, 3, 4, 5, 7, 8, 9, 10, 11] (by decide) rfl
        clear H247
        obtain ⟨F249, hM250, hF251, hT252⟩ := H254.turn
        refine op_call rfl Try.call22 (vs := #[.agg (List.toArray cs_10_1), .int .i64 ((1 + cntv_Vat x0))]) rfl rfl rfl (markv_Entity_c x1 _ F249 _ _ hM250 (by omega) (by omega)) ?_
        rintro e256 W255 ⟨rfl, hM253, hu248⟩
        refine ⟨_, rfl, ?_⟩
        have H257 : St w No [hM ki_Entity (mkv_Entity (1 + cntv_Vat x0) x1) cs_10_1, hM ki_Vat (mkv_Vat 1 x0) cs_9_1, hM ki_Entity x1 cs_16_2, hM ki_Vat x0 cs_14_2, hB g_11_6 28 (List.toArray cs_11_2), hM ki_Vat (addE x1 x0) cs_11_2, hB g_10_2 57 (List.toArray cs_10_1), hB g_9_2 28 (List.toArray cs_9_1), hB g_8_8 28 (List.toArray cs_8_4), hM ki_Vat (addE x1 x0) cs_8_4, hB g_0_1 47 (List.toArray cs1), hB g_0_0 41 (List.toArray cs0)] W255 := hT252 (hM ki_Entity (mkv_Entity (1 + cntv_Vat x0) x1) cs_10_1) _ hu248 ((hM ki_Entity (mkv_Entity (1 + cntv_Vat x0) x1) cs_10_1).mono (fun _ q => .inl q) hM253)
        clear H254
        refine ops_cons ?_
        refine op_pure rfl (rn_assign rfl) rfl rfl ?_
        refine ops_nil ?_
        refine then_n ?_
        refine wp_seq ?_
        refine wp_seq ?_
        refine reg_seq [0, 1, 2, 3, 4, 5, 6, 7, 8, 9, 10, 11, 12] rfl ?_
        refine ops_cons ?_
        refine op_pure rfl (rn_move rfl) rfl rfl ?_
        refine ops_cons ?_
        refine op_pure rfl (rn_decF (by omega) (rn_lss rfl rfl)) rfl rfl ?_
        refine ops_cons ?_
        refine op_pure rfl (rn_move rfl) rfl rfl ?_
        refine ops_cons ?_
        refine op_G rfl rfl rfl rfl (fun _ ho258 => ?_)
        refine op_pure ho258 (rn_loadB Try.isAgg28 Try.sizeOf28 rfl (H257.blk 4 rfl) (ki_Vat_len (H257.kn 5 rfl))) rfl rfl ?_
        refine ops_cons ?_
        refine op_G rfl rfl rfl rfl (fun _ ho259 => ?_)
        refine op_pure ho259 (rn_loadB Try.isAgg28 Try.sizeOf28 rfl (H257.blk 8 rfl) (ki_Vat_len (H257.kn 9 rfl))) rfl rfl ?_
        refine ops_cons ?_
        refine op_G rfl rfl rfl rfl (fun _ ho260 => ?_)
        refine op_call ho260 Try.call10 (vs := #[.agg (List.toArray cs_11_2), .agg (List.toArray cs_8_4)]) rfl rfl rfl (eq_Vat (addE x1 x0) _ _ _ (H257.kn 5 rfl) (H257.kn 9 rfl)) ?_
        rintro e263 W262 ⟨rfl, hu261⟩
        refine ⟨_, rfl, ?_⟩
        have H264 : St w No [hM ki_Entity (mkv_Entity (1 + cntv_Vat x0) x1) cs_10_1, hM ki_Vat (mkv_Vat 1 x0) cs_9_1, hM ki_Entity x1 cs_16_2, hM ki_Vat x0 cs_14_2, hB g_11_6 28 (List.toArray cs_11_2), hM ki_Vat (addE x1 x0) cs_11_2, hB g_10_2 57 (List.toArray cs_10_1), hB g_9_2 28 (List.toArray cs_9_1), hB g_8_8 28 (List.toArray cs_8_4), hM ki_Vat (addE x1 x0) cs_8_4, hB g_0_1 47 (List.toArray cs1), hB g_0_0 41 (List.toArray cs0)] W262 := H257.no hu261
        clear H257
        refine ops_cons ?_
        refine op_G rfl rfl rfl rfl (fun _ ho265 => ?_)
        refine op_pure ho265 (rn_not rfl) rfl rfl ?_
        refine ops_cons ?_
        refine op_pure rfl (rn_pick (b := false) rfl rfl rfl rfl) rfl rfl ?_
        refine ops_cons ?_
        refine op_pure rfl (rn_move rfl) rfl rfl ?_
        refine ops_cons ?_
        refine op_G rfl rfl rfl rfl (fun _ ho266 => ?_)
        refine op_pure ho266 (rn_move rfl) rfl rfl ?_
        refine ops_cons ?_
        refine op_G rfl rfl rfl rfl (fun _ ho267 => ?_)
        refine op_pure ho267 (rn_move rfl) rfl rfl ?_
        refine ops_cons ?_
        refine op_G rfl rfl rfl rfl (fun _ ho268 => ?_)
        refine op_pure ho268 (rn_decF (not_not_intro rfl) (rn_neq rfl rfl)) rfl rfl ?_
        refine ops_cons ?_
        refine op_pure rfl (rn_pick (b := false) rfl rfl rfl rfl) rfl rfl ?_
        refine ops_nil ?_
        refine then_n ?_
        refine cond_f rfl ?_
        refine wp_skip ?_
        refine then_n ?_
        refine wp_seq ?_
        refine reg_seq [0] rfl ?_
        refine ops_cons ?_
        refine op_pure rfl (rn_assign rfl) rfl rfl ?_
        refine ops_nil ?_
        refine then_n ?_
        refine wp_seq ?_
        refine reg_seq [0, 1, 2, 3] rfl ?_
        refine ops_cons ?_
        refine op_pure rfl (rn_loadB Try.isAgg28 Try.sizeOf28 rfl (H264.blk 4 rfl) (ki_Vat_len (H264.kn 5 rfl))) rfl rfl ?_
        refine ops_cons ?_
        refine op_pure rfl (rn_move rfl) rfl rfl ?_
        refine ops_cons ?_
        have H275 : St w No [hM ki_Vat (addE x1 x0) cs_11_2, hM ki_Entity (mkv_Entity (1 + cntv_Vat x0) x1) cs_10_1, hM ki_Vat (mkv_Vat 1 x0) cs_9_1, hM ki_Entity x1 cs_16_2, hM ki_Vat x0 cs_14_2, hB g_11_6 28 (List.toArray cs_11_2), hB g_10_2 57 (List.toArray cs_10_1), hB g_9_2 28 (List.toArray cs_9_1), hB g_8_8 28 (List.toArray cs_8_4), hM ki_Vat (addE x1 x0) cs_8_4, hB g_0_1 47 (List.toArray cs1), hB g_0_0 41 (List.toArray cs0)] W262 := H264.pick [5, 0, 1, 2, 3, 4, 6, 7, 8, 9, 10, 11] (by decide) rfl
        clear H264
        obtain ⟨F270, hM271, hF272, hT273⟩ := H275.turn
        refine op_call rfl Try.call13 (vs := #[.agg (List.toArray cs_11_2), .int .i64 (1)]) rfl rfl rfl (markv_Vat_c (addE x1 x0) _ F270 _ _ hM271 (by omega) (by omega)) ?_
        rintro e277 W276 ⟨rfl, hM274, hu269⟩
        refine ⟨_, rfl, ?_⟩
        have H278 : St w No [hM ki_Vat (mkv_Vat 1 (addE x1 x0)) cs_11_2, hM ki_Entity (mkv_Entity (1 + cntv_Vat x0) x1) cs_10_1, hM ki_Vat (mkv_Vat 1 x0) cs_9_1, hM ki_Entity x1 cs_16_2, hM ki_Vat x0 cs_14_2, hB g_11_6 28 (List.toArray cs_11_2), hB g_10_2 57 (List.toArray cs_10_1), hB g_9_2 28 (List.toArray cs_9_1), hB g_8_8 28 (List.toArray cs_8_4), hM ki_Vat (addE x1 x0) cs_8_4, hB g_0_1 47 (List.toArray cs1), hB g_0_0 41 (List.toArray cs0)] W276 := hT273 (hM ki_Vat (mkv_Vat 1 (addE x1 x0)) cs_11_2) _ hu269 ((hM ki_Vat (mkv_Vat 1 (addE x1 x0)) cs_11_2).mono (fun _ q => .inl q) hM274)
        clear H275
        refine ops_cons ?_
        refine op_pure rfl (rn_assign rfl) rfl rfl ?_
        refine ops_nil ?_
        refine then_n ?_
        refine wp_seq ?_
        refine reg_seq [0] rfl ?_
        refine ops_cons ?_
        refine op_pure rfl (rn_assign rfl) rfl rfl ?_
        refine ops_nil ?_
        refine then_n ?_
        refine wp_seq ?_
        refine reg_seq [0, 1, 2, 3] rfl ?_
        refine ops_cons ?_
        refine op_pure rfl (rn_loadB Try.isAgg28 Try.sizeOf28 rfl (H278.blk 5 rfl) (ki_Vat_len (H278.kn 0 rfl))) rfl rfl ?_
        refine ops_cons ?_
        refine op_pure rfl (rn_move rfl) rfl rfl ?_
        refine ops_cons ?_
        refine op_call rfl Try.call14 (vs := #[.agg (List.toArray cs_11_2), .int .i64 (1)]) rfl rfl rfl (heldv_Vat_c (addE x1 x0) _ _ _ (H278.kn 0 rfl) (by omega) (by omega)) ?_
        rintro e281 W280 ⟨rfl, hu279⟩
        refine ⟨_, rfl, ?_⟩
        have H282 : St w No [hM ki_Vat (mkv_Vat 1 (addE x1 x0)) cs_11_2, hM ki_Entity (mkv_Entity (1 + cntv_Vat x0) x1) cs_10_1, hM ki_Vat (mkv_Vat 1 x0) cs_9_1, hM ki_Entity x1 cs_16_2, hM ki_Vat x0 cs_14_2, hB g_11_6 28 (List.toArray cs_11_2), hB g_10_2 57 (List.toArray cs_10_1), hB g_9_2 28 (List.toArray cs_9_1), hB g_8_8 28 (List.toArray cs_8_4), hM ki_Vat (addE x1 x0) cs_8_4, hB g_0_1 47 (List.toArray cs1), hB g_0_0 41 (List.toArray cs0)] W280 := H278.no hu279
        clear H278
        refine ops_cons ?_
        refine op_pure rfl (rn_assign rfl) rfl rfl ?_
        refine ops_nil ?_
        refine then_n ?_
        refine wp_seq ?_
        refine wp_seq ?_
        refine reg_seq [0, 1] rfl ?_
        refine ops_cons ?_
        refine op_pure rfl (rn_move rfl) rfl rfl ?_
        refine ops_cons ?_
        refine op_pure rfl (rn_decF (by omega) (rn_lss rfl rfl)) rfl rfl ?_
        refine ops_nil ?_
        refine then_n ?_
        refine cond_f rfl ?_
        refine wp_skip ?_
        refine then_n ?_
        refine wp_seq ?_
        refine wp_seq ?_
        refine reg_seq [0, 1, 2] rfl ?_
        refine ops_cons ?_
        refine op_pure rfl (rn_move rfl) rfl rfl ?_
        refine ops_cons ?_
        refine op_pure rfl (rn_move rfl) rfl rfl ?_
        refine ops_cons ?_
        refine op_pure rfl (rn_decF (not_not_intro rfl) (rn_neq rfl rfl)) rfl rfl ?_
        refine ops_nil ?_
        refine then_n ?_
        refine cond_f rfl ?_
        refine wp_skip ?_
        refine then_n ?_
        refine wp_seq ?_
        refine reg_cut (fun a' W' => ∃ (cs_31_4 : List Value) (g_31_8 : Nat) (x' : Nat → Value), a' = actOf 119 x' [(6, .pointer (some ⟨g_8_8, 0, none⟩)), (7, .int .i64 ((addN x0.Entities))), (10, .pointer (some ⟨g_11_6, 0, none⟩)), (13, .int .i64 ((1 + cntv_Vat (addE x1 x0)))), (15, .pointer (some ⟨g_31_8, 0, none⟩)), (16, .int .i64 ((addN x0.Entities)))] ∧ St w No [hB g_31_8 28 (List.toArray cs_31_4), hM ki_Vat (addE x1 x0) cs_31_4, hM ki_Vat (mkv_Vat 1 (addE x1 x0)) cs_11_2, hB g_11_6 28 (List.toArray cs_11_2), hB g_8_8 28 (List.toArray cs_8_4), hM ki_Vat (addE x1 x0) cs_8_4] W') ?_ ?_
        · refine reg_draw (fun W' => Blk W' g_0_0 41 (List.toArray cs0) ∧ Blk W' g_0_1 47 (List.toArray cs1)) 11 (by kernel_rfl) ?_
          have H283 : St w No [hM ki_Vat (mkv_Vat 1 (addE x1 x0)) cs_11_2, hM ki_Entity (mkv_Entity (1 + cntv_Vat x0) x1) cs_10_1, hM ki_Vat (mkv_Vat 1 x0) cs_9_1, hM ki_Entity x1 cs_16_2, hM ki_Vat x0 cs_14_2, hB g_11_6 28 (List.toArray cs_11_2), hB g_10_2 57 (List.toArray cs_10_1), hB g_9_2 28 (List.toArray cs_9_1), hB g_8_8 28 (List.toArray cs_8_4), hM ki_Vat (addE x1 x0) cs_8_4, hB g_0_1 47 (List.toArray cs1), hB g_0_0 41 (List.toArray cs0)] W280.drew := H282.drew
          clear H282
          have hS284 : Blk W280.drew g_0_0 41 (List.toArray cs0) ∧ Blk W280.drew g_0_1 47 (List.toArray cs1) := ⟨H283.blk 11 rfl, H283.blk 10 rfl⟩
          refine anyS_take (i := 0) rfl (by kernel_rfl) (by kernel_rfl) (by kernel_rfl) (by kernel_rfl) (by kernel_rfl) (fun _ _ _ h => h) rfl rfl hS284 (fun W' hs' => rn_loadB Try.isAgg41 Try.sizeOf41 rfl hs'.1 hl0_) ?_
          refine anyS_take (i := 2) rfl (by kernel_rfl) (by kernel_rfl) (by kernel_rfl) (by kernel_rfl) (by kernel_rfl) (fun _ _ _ h => h) rfl rfl hS284 (fun W' hs' => rn_loadB Try.isAgg47 Try.sizeOf47 rfl hs'.2 hl1_) ?_
          refine anyS_two (i := 1) (i2 := 8) (by kernel_rfl) ?_ ?_
          · refine op_call rfl Try.call18 (vs := #[.agg (List.toArray cs0)]) rfl rfl rfl (to_Vat x0 _ _ (K_upd H283.1 hK0) hs_x0) ?_
            rintro e289 W288 ⟨cs_31_1, rfl, hM286, hu287⟩
            refine ⟨_, rfl, ?_⟩
            have hl290 := ki_Vat_len (ki_Vat.K_of_M hM286)
            have ho291 := ki_Vat_one (ki_Vat.K_of_M hM286)
            have H292 : St w No [hM ki_Vat x0 cs_31_1, hM ki_Vat (mkv_Vat 1 (addE x1 x0)) cs_11_2, hM ki_Entity (mkv_Entity (1 + cntv_Vat x0) x1) cs_10_1, hM ki_Vat (mkv_Vat 1 x0) cs_9_1, hM ki_Entity x1 cs_16_2, hM ki_Vat x0 cs_14_2, hB g_11_6 28 (List.toArray cs_11_2), hB g_10_2 57 (List.toArray cs_10_1), hB g_9_2 28 (List.toArray cs_9_1), hB g_8_8 28 (List.toArray cs_8_4), hM ki_Vat (addE x1 x0) cs_8_4, hB g_0_1 47 (List.toArray cs1), hB g_0_0 41 (List.toArray cs0)] W288 := H283.new hu287 hM286
            clear H283
            have hS293 : Blk W288 g_0_0 41 (List.toArray cs0) ∧ Blk W288 g_0_1 47 (List.toArray cs1) := ⟨H292.blk 12 rfl, H292.blk 11 rfl⟩
            refine ⟨fun _ => hS293, ?_⟩
            refine anyS_two (i := 3) (i2 := 8) (by kernel_rfl) ?_ ?_
            · refine op_call rfl Try.call19 (vs := #[.agg (List.toArray cs1)]) rfl rfl rfl (to_Entity x1 _ _ (K_upd H292.1 hK1) hs_x1) ?_
              rintro e298 W297 ⟨cs_31_3, rfl, hM295, hu296⟩
              refine ⟨_, rfl, ?_⟩
              have hl299 := ki_Entity_len (ki_Entity.K_of_M hM295)
              have ho300 := ki_Entity_one (ki_Entity.K_of_M hM295)
              have H301 : St w No [hM ki_Entity x1 cs_31_3, hM ki_Vat x0 cs_31_1, hM ki_Vat (mkv_Vat 1 (addE x1 x0)) cs_11_2, hM ki_Entity (mkv_Entity (1 + cntv_Vat x0) x1) cs_10_1, hM ki_Vat (mkv_Vat 1 x0) cs_9_1, hM ki_Entity x1 cs_16_2, hM ki_Vat x0 cs_14_2, hB g_11_6 28 (List.toArray cs_11_2), hB g_10_2 57 (List.toArray cs_10_1), hB g_9_2 28 (List.toArray cs_9_1), hB g_8_8 28 (List.toArray cs_8_4), hM ki_Vat (addE x1 x0) cs_8_4, hB g_0_1 47 (List.toArray cs1), hB g_0_0 41 (List.toArray cs0)] W297 := H292.new hu296 hM295
              clear H292
              have hS302 : Blk W297 g_0_0 41 (List.toArray cs0) ∧ Blk W297 g_0_1 47 (List.toArray cs1) := ⟨H301.blk 13 rfl, H301.blk 12 rfl⟩
              refine ⟨fun _ => hS302, ?_⟩
              refine anyS_two (i := 4) (i2 := 8) (by kernel_rfl) ?_ ?_
              · refine op_call rfl Try.call20 (vs := #[.agg (List.toArray cs_31_1), .agg (List.toArray cs_31_3)]) rfl rfl rfl (addEntity_i x0 x1 _ _ _ (H301.kn 1 rfl) (Nat.le_trans hs_x0 (by decide)) (H301.kn 0 rfl) (Nat.le_trans hs_x1 (by decide))) ?_
                rintro e306 W305 ⟨cs_31_4, rfl, hM303, hu304⟩
                refine ⟨_, rfl, ?_⟩
                have hl307 := ki_Vat_len (ki_Vat.K_of_M hM303)
                have ho308 := ki_Vat_one (ki_Vat.K_of_M hM303)
                have H309 : St w No [hM ki_Vat (addE x1 x0) cs_31_4, hM ki_Entity x1 cs_31_3, hM ki_Vat x0 cs_31_1, hM ki_Vat (mkv_Vat 1 (addE x1 x0)) cs_11_2, hM ki_Entity (mkv_Entity (1 + cntv_Vat x0) x1) cs_10_1, hM ki_Vat (mkv_Vat 1 x0) cs_9_1, hM ki_Entity x1 cs_16_2, hM ki_Vat x0 cs_14_2, hB g_11_6 28 (List.toArray cs_11_2), hB g_10_2 57 (List.toArray cs_10_1), hB g_9_2 28 (List.toArray cs_9_1), hB g_8_8 28 (List.toArray cs_8_4), hM ki_Vat (addE x1 x0) cs_8_4, hB g_0_1 47 (List.toArray cs1), hB g_0_0 41 (List.toArray cs0)] W305 := H301.new hu304 hM303
                clear H301
                have hS310 : Blk W305 g_0_0 41 (List.toArray cs0) ∧ Blk W305 g_0_1 47 (List.toArray cs1) := ⟨H309.blk 14 rfl, H309.blk 13 rfl⟩
                refine ⟨fun _ => hS310, ?_⟩
                refine anyS_take (i := 5) rfl (by kernel_rfl) (by kernel_rfl) (by kernel_rfl) (by kernel_rfl) (by kernel_rfl) (fun _ _ _ h => h) rfl rfl hS310 (fun W' hs' => rn_move rfl) ?_
                refine anyS_take (i := 6) rfl (by kernel_rfl) (by kernel_rfl) (by kernel_rfl) (by kernel_rfl) (by kernel_rfl) (fun _ _ _ h => h) rfl rfl hS310 (fun W' hs' => rn_extract (v := .agg (List.toArray cs_31_4)) rfl rfl) ?_
                refine anyS_take (i := 7) rfl (by kernel_rfl) (by kernel_rfl) (by kernel_rfl) (by kernel_rfl) (by kernel_rfl) (fun _ _ _ h => h) rfl rfl hS310 (fun W' hs' => rn_extract (v := .int .i64 ((addN x0.Entities))) rfl rfl) ?_
                refine anyS_one (i := 8) (by kernel_rfl) ?_
                refine op_alloc rfl Try.zeroValue28 rfl rfl H309 ?_
                intro g_31_8 W311 hu312 Ha313
                clear H309
                have H314 : St w No [hB g_31_8 28 #[.int .i64 (0), .slice none 0 0, .slice none 0 0, .slice none 0 0, .slice none 0 0], hM ki_Vat (addE x1 x0) cs_31_4, hM ki_Entity x1 cs_31_3, hM ki_Vat x0 cs_31_1, hM ki_Vat (mkv_Vat 1 (addE x1 x0)) cs_11_2, hM ki_Entity (mkv_Entity (1 + cntv_Vat x0) x1) cs_10_1, hM ki_Vat (mkv_Vat 1 x0) cs_9_1, hM ki_Entity x1 cs_16_2, hM ki_Vat x0 cs_14_2, hB g_11_6 28 (List.toArray cs_11_2), hB g_10_2 57 (List.toArray cs_10_1), hB g_9_2 28 (List.toArray cs_9_1), hB g_8_8 28 (List.toArray cs_8_4), hM ki_Vat (addE x1 x0) cs_8_4, hB g_0_1 47 (List.toArray cs1), hB g_0_0 41 (List.toArray cs0)] W311 := Ha313
                clear Ha313
                clear hu312
                have hS315 : Blk W311 g_0_0 41 (List.toArray cs0) ∧ Blk W311 g_0_1 47 (List.toArray cs1) := ⟨H314.blk 15 rfl, H314.blk 14 rfl⟩
                refine ⟨fun _ => hS315, ?_⟩
                refine anyS_one (i := 9) (by kernel_rfl) ?_
                refine op_storeW rfl Try.sizeOf28 rfl rfl (ki_Vat_len (H314.kn 1 rfl)) rfl (ki_Vat_one (H314.kn 1 rfl)) H314 ?_
                intro W316 hu317 Ha318
                clear H314
                have H319 : St w No [hB g_31_8 28 (List.toArray cs_31_4), hM ki_Vat (addE x1 x0) cs_31_4, hM ki_Entity x1 cs_31_3, hM ki_Vat x0 cs_31_1, hM ki_Vat (mkv_Vat 1 (addE x1 x0)) cs_11_2, hM ki_Entity (mkv_Entity (1 + cntv_Vat x0) x1) cs_10_1, hM ki_Vat (mkv_Vat 1 x0) cs_9_1, hM ki_Entity x1 cs_16_2, hM ki_Vat x0 cs_14_2, hB g_11_6 28 (List.toArray cs_11_2), hB g_10_2 57 (List.toArray cs_10_1), hB g_9_2 28 (List.toArray cs_9_1), hB g_8_8 28 (List.toArray cs_8_4), hM ki_Vat (addE x1 x0) cs_8_4, hB g_0_1 47 (List.toArray cs1), hB g_0_0 41 (List.toArray cs0)] W316 := Ha318
                clear Ha318
                clear hu317
                have hS320 : Blk W316 g_0_0 41 (List.toArray cs0) ∧ Blk W316 g_0_1 47 (List.toArray cs1) := ⟨H319.blk 15 rfl, H319.blk 14 rfl⟩
                refine ⟨fun _ => hS320, ?_⟩
                refine anyS_take (i := 10) rfl (by kernel_rfl) (by kernel_rfl) (by kernel_rfl) (by kernel_rfl) (by kernel_rfl) (fun _ _ _ h => h) rfl rfl hS320 (fun W' hs' => rn_assign rfl) ?_
                refine anyS_done (by kernel_rfl) ?_ _
                exact (actOf_drop2 [(6, .pointer (some ⟨g_8_8, 0, none⟩)), (7, .int .i64 ((addN x0.Entities))), (10, .pointer (some ⟨g_11_6, 0, none⟩)), (13, .int .i64 ((1 + cntv_Vat (addE x1 x0)))), (15, .pointer (some ⟨g_31_8, 0, none⟩)), (16, .int .i64 ((addN x0.Entities)))] rfl).elim fun x' hx => ⟨cs_31_4, g_31_8, x', hx, H319.pick [0, 1, 4, 9, 12, 13] (by decide) rfl⟩
              · refine op_alloc rfl Try.zeroValue28 rfl rfl H301 ?_
                intro g_31_8 W321 hu322 Ha323
                clear H301
                have H324 : St w No [hB g_31_8 28 #[.int .i64 (0), .slice none 0 0, .slice none 0 0, .slice none 0 0, .slice none 0 0], hM ki_Entity x1 cs_31_3, hM ki_Vat x0 cs_31_1, hM ki_Vat (mkv_Vat 1 (addE x1 x0)) cs_11_2, hM ki_Entity (mkv_Entity (1 + cntv_Vat x0) x1) cs_10_1, hM ki_Vat (mkv_Vat 1 x0) cs_9_1, hM ki_Entity x1 cs_16_2, hM ki_Vat x0 cs_14_2, hB g_11_6 28 (List.toArray cs_11_2), hB g_10_2 57 (List.toArray cs_10_1), hB g_9_2 28 (List.toArray cs_9_1), hB g_8_8 28 (List.toArray cs_8_4), hM ki_Vat (addE x1 x0) cs_8_4, hB g_0_1 47 (List.toArray cs1), hB g_0_0 41 (List.toArray cs0)] W321 := Ha323
                clear Ha323
                clear hu322
                have hS325 : Blk W321 g_0_0 41 (List.toArray cs0) ∧ Blk W321 g_0_1 47 (List.toArray cs1) := ⟨H324.blk 14 rfl, H324.blk 13 rfl⟩
                refine ⟨fun _ => hS325, ?_⟩
                refine anyS_one (i := 4) (by kernel_rfl) ?_
                refine op_call rfl Try.call20 (vs := #[.agg (List.toArray cs_31_1), .agg (List.toArray cs_31_3)]) rfl rfl rfl (addEntity_i x0 x1 _ _ _ (H324.kn 2 rfl) (Nat.le_trans hs_x0 (by decide)) (H324.kn 1 rfl) (Nat.le_trans hs_x1 (by decide))) ?_
                rintro e329 W328 ⟨cs_31_4, rfl, hM326, hu327⟩
                refine ⟨_, rfl, ?_⟩
                have hl330 := ki_Vat_len (ki_Vat.K_of_M hM326)
                have ho331 := ki_Vat_one (ki_Vat.K_of_M hM326)
                have H332 : St w No [hM ki_Vat (addE x1 x0) cs_31_4, hB g_31_8 28 #[.int .i64 (0), .slice none 0 0, .slice none 0 0, .slice none 0 0, .slice none 0 0], hM ki_Entity x1 cs_31_3, hM ki_Vat x0 cs_31_1, hM ki_Vat (mkv_Vat 1 (addE x1 x0)) cs_11_2, hM ki_Entity (mkv_Entity (1 + cntv_Vat x0) x1) cs_10_1, hM ki_Vat (mkv_Vat 1 x0) cs_9_1, hM ki_Entity x1 cs_16_2, hM ki_Vat x0 cs_14_2, hB g_11_6 28 (List.toArray cs_11_2), hB g_10_2 57 (List.toArray cs_10_1), hB g_9_2 28 (List.toArray cs_9_1), hB g_8_8 28 (List.toArray cs_8_4), hM ki_Vat (addE x1 x0) cs_8_4, hB g_0_1 47 (List.toArray cs1), hB g_0_0 41 (List.toArray cs0)] W328 := H324.new hu327 hM326
                clear H324
                have hS333 : Blk W328 g_0_0 41 (List.toArray cs0) ∧ Blk W328 g_0_1 47 (List.toArray cs1) := ⟨H332.blk 15 rfl, H332.blk 14 rfl⟩
                refine ⟨fun _ => hS333, ?_⟩
                refine anyS_take (i := 5) rfl (by kernel_rfl) (by kernel_rfl) (by kernel_rfl) (by kernel_rfl) (by kernel_rfl) (fun _ _ _ h => h) rfl rfl hS333 (fun W' hs' => rn_move rfl) ?_
                refine anyS_take (i := 6) rfl (by kernel_rfl) (by kernel_rfl) (by kernel_rfl) (by kernel_rfl) (by kernel_rfl) (fun _ _ _ h => h) rfl rfl hS333 (fun W' hs' => rn_extract (v := .agg (List.toArray cs_31_4)) rfl rfl) ?_
                refine anyS_take (i := 7) rfl (by kernel_rfl) (by kernel_rfl) (by kernel_rfl) (by kernel_rfl) (by kernel_rfl) (fun _ _ _ h => h) rfl rfl hS333 (fun W' hs' => rn_extract (v := .int .i64 ((addN x0.Entities))) rfl rfl) ?_
                refine anyS_one (i := 9) (by kernel_rfl) ?_
                have H337 : St w No [hB g_31_8 28 #[.int .i64 (0), .slice none 0 0, .slice none 0 0, .slice none 0 0, .slice none 0 0], hM ki_Vat (addE x1 x0) cs_31_4, hM ki_Entity x1 cs_31_3, hM ki_Vat x0 cs_31_1, hM ki_Vat (mkv_Vat 1 (addE x1 x0)) cs_11_2, hM ki_Entity (mkv_Entity (1 + cntv_Vat x0) x1) cs_10_1, hM ki_Vat (mkv_Vat 1 x0) cs_9_1, hM ki_Entity x1 cs_16_2, hM ki_Vat x0 cs_14_2, hB g_11_6 28 (List.toArray cs_11_2), hB g_10_2 57 (List.toArray cs_10_1), hB g_9_2 28 (List.toArray cs_9_1), hB g_8_8 28 (List.toArray cs_8_4), hM ki_Vat (addE x1 x0) cs_8_4, hB g_0_1 47 (List.toArray cs1), hB g_0_0 41 (List.toArray cs0)] W328 := H332.pick [1, 0, 2, 3, 4, 5, 6, 7, 8, 9, 10, 11, 12, 13, 14, 15] (by decide) rfl
                clear H332
                refine op_storeW rfl Try.sizeOf28 rfl rfl (ki_Vat_len (H337.kn 1 rfl)) rfl (ki_Vat_one (H337.kn 1 rfl)) H337 ?_
                intro W334 hu335 Ha336
                clear H337
                have H338 : St w No [hB g_31_8 28 (List.toArray cs_31_4), hM ki_Vat (addE x1 x0) cs_31_4, hM ki_Entity x1 cs_31_3, hM ki_Vat x0 cs_31_1, hM ki_Vat (mkv_Vat 1 (addE x1 x0)) cs_11_2, hM ki_Entity (mkv_Entity (1 + cntv_Vat x0) x1) cs_10_1, hM ki_Vat (mkv_Vat 1 x0) cs_9_1, hM ki_Entity x1 cs_16_2, hM ki_Vat x0 cs_14_2, hB g_11_6 28 (List.toArray cs_11_2), hB g_10_2 57 (List.toArray cs_10_1), hB g_9_2 28 (List.toArray cs_9_1), hB g_8_8 28 (List.toArray cs_8_4), hM ki_Vat (addE x1 x0) cs_8_4, hB g_0_1 47 (List.toArray cs1), hB g_0_0 41 (List.toArray cs0)] W334 := Ha336
                clear Ha336
                clear hu335
                have hS339 : Blk W334 g_0_0 41 (List.toArray cs0) ∧ Blk W334 g_0_1 47 (List.toArray cs1) := ⟨H338.blk 15 rfl, H338.blk 14 rfl⟩
                refine ⟨fun _ => hS339, ?_⟩
                refine anyS_take (i := 10) rfl (by kernel_rfl) (by kernel_rfl) (by kernel_rfl) (by kernel_rfl) (by kernel_rfl) (fun _ _ _ h => h) rfl rfl hS339 (fun W' hs' => rn_assign rfl) ?_
                refine anyS_done (by kernel_rfl) ?_ _
                exact (actOf_drop2 [(6, .pointer (some ⟨g_8_8, 0, none⟩)), (7, .int .i64 ((addN x0.Entities))), (10, .pointer (some ⟨g_11_6, 0, none⟩)), (13, .int .i64 ((1 + cntv_Vat (addE x1 x0)))), (15, .pointer (some ⟨g_31_8, 0, none⟩)), (16, .int .i64 ((addN x0.Entities)))] rfl).elim fun x' hx => ⟨cs_31_4, g_31_8, x', hx, H338.pick [0, 1, 4, 9, 12, 13] (by decide) rfl⟩
            · refine op_alloc rfl Try.zeroValue28 rfl rfl H292 ?_
              intro g_31_8 W340 hu341 Ha342
              clear H292
              have H343 : St w No [hB g_31_8 28 #[.int .i64 (0), .slice none 0 0, .slice none 0 0, .slice none 0 0, .slice none 0 0], hM ki_Vat x0 cs_31_1, hM ki_Vat (mkv_Vat 1 (addE x1 x0)) cs_11_2, hM ki_Entity (mkv_Entity (1 + cntv_Vat x0) x1) cs_10_1, hM ki_Vat (mkv_Vat 1 x0) cs_9_1, hM ki_Entity x1 cs_16_2, hM ki_Vat x0 cs_14_2, hB g_11_6 28 (List.toArray cs_11_2), hB g_10_2 57 (List.toArray cs_10_1), hB g_9_2 28 (List.toArray cs_9_1), hB g_8_8 28 (List.toArray cs_8_4), hM ki_Vat (addE x1 x0) cs_8_4, hB g_0_1 47 (List.toArray cs1), hB g_0_0 41 (List.toArray cs0)] W340 := Ha342
              clear Ha342
              clear hu341
              have hS344 : Blk W340 g_0_0 41 (List.toArray cs0) ∧ Blk W340 g_0_1 47 (List.toArray cs1) := ⟨H343.blk 13 rfl, H343.blk 12 rfl⟩
              refine ⟨fun _ => hS344, ?_⟩
              refine anyS_one (i := 3) (by kernel_rfl) ?_
              refine op_call rfl Try.call19 (vs := #[.agg (List.toArray cs1)]) rfl rfl rfl (to_Entity x1 _ _ (K_upd H343.1 hK1) hs_x1) ?_
              rintro e349 W348 ⟨cs_31_3, rfl, hM346, hu347⟩
              refine ⟨_, rfl, ?_⟩
              have hl350 := ki_Entity_len (ki_Entity.K_of_M hM346)
              have ho351 := ki_Entity_one (ki_Entity.K_of_M hM346)
              have H352 : St w No [hM ki_Entity x1 cs_31_3, hB g_31_8 28 #[.int .i64 (0), .slice none 0 0, .slice none 0 0, .slice none 0 0, .slice none 0 0], hM ki_Vat x0 cs_31_1, hM ki_Vat (mkv_Vat 1 (addE x1 x0)) cs_11_2, hM ki_Entity (mkv_Entity (1 + cntv_Vat x0) x1) cs_10_1, hM ki_Vat (mkv_Vat 1 x0) cs_9_1, hM ki_Entity x1 cs_16_2, hM ki_Vat x0 cs_14_2, hB g_11_6 28 (List.toArray cs_11_2), hB g_10_2 57 (List.toArray cs_10_1), hB g_9_2 28 (List.toArray cs_9_1), hB g_8_8 28 (List.toArray cs_8_4), hM ki_Vat (addE x1 x0) cs_8_4, hB g_0_1 47 (List.toArray cs1), hB g_0_0 41 (List.toArray cs0)] W348 := H343.new hu347 hM346
              clear H343
              have hS353 : Blk W348 g_0_0 41 (List.toArray cs0) ∧ Blk W348 g_0_1 47 (List.toArray cs1) := ⟨H352.blk 14 rfl, H352.blk 13 rfl⟩
              refine ⟨fun _ => hS353, ?_⟩
              refine anyS_one (i := 4) (by kernel_rfl) ?_
              refine op_call rfl Try.call20 (vs := #[.agg (List.toArray cs_31_1), .agg (List.toArray cs_31_3)]) rfl rfl rfl (addEntity_i x0 x1 _ _ _ (H352.kn 2 rfl) (Nat.le_trans hs_x0 (by decide)) (H352.kn 0 rfl) (Nat.le_trans hs_x1 (by decide))) ?_
              rintro e357 W356 ⟨cs_31_4, rfl, hM354, hu355⟩
              refine ⟨_, rfl, ?_⟩
              have hl358 := ki_Vat_len (ki_Vat.K_of_M hM354)
              have ho359 := ki_Vat_one (ki_Vat.K_of_M hM354)
              have H360 : St w No [hM ki_Vat (addE x1 x0) cs_31_4, hM ki_Entity x1 cs_31_3, hB g_31_8 28 #[.int .i64 (0), .slice none 0 0, .slice none 0 0, .slice none 0 0, .slice none 0 0], hM ki_Vat x0 cs_31_1, hM ki_Vat (mkv_Vat 1 (addE x1 x0)) cs_11_2, hM ki_Entity (mkv_Entity (1 + cntv_Vat x0) x1) cs_10_1, hM ki_Vat (mkv_Vat 1 x0) cs_9_1, hM ki_Entity x1 cs_16_2, hM ki_Vat x0 cs_14_2, hB g_11_6 28 (List.toArray cs_11_2), hB g_10_2 57 (List.toArray cs_10_1), hB g_9_2 28 (List.toArray cs_9_1), hB g_8_8 28 (List.toArray cs_8_4), hM ki_Vat (addE x1 x0) cs_8_4, hB g_0_1 47 (List.toArray cs1), hB g_0_0 41 (List.toArray cs0)] W356 := H352.new hu355 hM354
              clear H352
              have hS361 : Blk W356 g_0_0 41 (List.toArray cs0) ∧ Blk W356 g_0_1 47 (List.toArray cs1) := ⟨H360.blk 15 rfl, H360.blk 14 rfl⟩
              refine ⟨fun _ => hS361, ?_⟩
              refine anyS_take (i := 5) rfl (by kernel_rfl) (by kernel_rfl) (by kernel_rfl) (by kernel_rfl) (by kernel_rfl) (fun _ _ _ h => h) rfl rfl hS361 (fun W' hs' => rn_move rfl) ?_
              refine anyS_take (i := 6) rfl (by kernel_rfl) (by kernel_rfl) (by kernel_rfl) (by kernel_rfl) (by kernel_rfl) (fun _ _ _ h => h) rfl rfl hS361 (fun W' hs' => rn_extract (v := .agg (List.toArray cs_31_4)) rfl rfl) ?_
              refine anyS_take (i := 7) rfl (by kernel_rfl) (by kernel_rfl) (by kernel_rfl) (by kernel_rfl) (by kernel_rfl) (fun _ _ _ h => h) rfl rfl hS361 (fun W' hs' => rn_extract (v := .int .i64 ((addN x0.Entities))) rfl rfl) ?_
              refine anyS_one (i := 9) (by kernel_rfl) ?_
              have H365 : St w No [hB g_31_8 28 #[.int .i64 (0), .slice none 0 0, .slice none 0 0, .slice none 0 0, .slice none 0 0], hM ki_Vat (addE x1 x0) cs_31_4, hM ki_Entity x1 cs_31_3, hM ki_Vat x0 cs_31_1, hM ki_Vat (mkv_Vat 1 (addE x1 x0)) cs_11_2, hM ki_Entity (mkv_Entity (1 + cntv_Vat x0) x1) cs_10_1, hM ki_Vat (mkv_Vat 1 x0) cs_9_1, hM ki_Entity x1 cs_16_2, hM ki_Vat x0 cs_14_2, hB g_11_6 28 (List.toArray cs_11_2), hB g_10_2 57 (List.toArray cs_10_1), hB g_9_2 28 (List.toArray cs_9_1), hB g_8_8 28 (List.toArray cs_8_4), hM ki_Vat (addE x1 x0) cs_8_4, hB g_0_1 47 (List.toArray cs1), hB g_0_0 41 (List.toArray cs0)] W356 := H360.pick [2, 0, 1, 3, 4, 5, 6, 7, 8, 9, 10, 11, 12, 13, 14, 15] (by decide) rfl
              clear H360
              refine op_storeW rfl Try.sizeOf28 rfl rfl (ki_Vat_len (H365.kn 1 rfl)) rfl (ki_Vat_one (H365.kn 1 rfl)) H365 ?_
              intro W362 hu363 Ha364
              clear H365
              have H366 : St w No [hB g_31_8 28 (List.toArray cs_31_4), hM ki_Vat (addE x1 x0) cs_31_4, hM ki_Entity x1 cs_31_3, hM ki_Vat x0 cs_31_1, hM ki_Vat (mkv_Vat 1 (addE x1 x0)) cs_11_2, hM ki_Entity (mkv_Entity (1 + cntv_Vat x0) x1) cs_10_1, hM ki_Vat (mkv_Vat 1 x0) cs_9_1, hM ki_Entity x1 cs_16_2, hM ki_Vat x0 cs_14_2, hB g_11_6 28 (List.toArray cs_11_2), hB g_10_2 57 (List.toArray cs_10_1), hB g_9_2 28 (List.toArray cs_9_1), hB g_8_8 28 (List.toArray cs_8_4), hM ki_Vat (addE x1 x0) cs_8_4, hB g_0_1 47 (List.toArray cs1), hB g_0_0 41 (List.toArray cs0)] W362 := Ha364
              clear Ha364
              clear hu363
              have hS367 : Blk W362 g_0_0 41 (List.toArray cs0) ∧ Blk W362 g_0_1 47 (List.toArray cs1) := ⟨H366.blk 15 rfl, H366.blk 14 rfl⟩
              refine ⟨fun _ => hS367, ?_⟩
              refine anyS_take (i := 10) rfl (by kernel_rfl) (by kernel_rfl) (by kernel_rfl) (by kernel_rfl) (by kernel_rfl) (fun _ _ _ h => h) rfl rfl hS367 (fun W' hs' => rn_assign rfl) ?_
              refine anyS_done (by kernel_rfl) ?_ _
              exact (actOf_drop2 [(6, .pointer (some ⟨g_8_8, 0, none⟩)), (7, .int .i64 ((addN x0.Entities))), (10, .pointer (some ⟨g_11_6, 0, none⟩)), (13, .int .i64 ((1 + cntv_Vat (addE x1 x0)))), (15, .pointer (some ⟨g_31_8, 0, none⟩)), (16, .int .i64 ((addN x0.Entities)))] rfl).elim fun x' hx => ⟨cs_31_4, g_31_8, x', hx, H366.pick [0, 1, 4, 9, 12, 13] (by decide) rfl⟩
          · refine op_alloc rfl Try.zeroValue28 rfl rfl H283 ?_
            intro g_31_8 W368 hu369 Ha370
            clear H283
            have H371 : St w No [hB g_31_8 28 #[.int .i64 (0), .slice none 0 0, .slice none 0 0, .slice none 0 0, .slice none 0 0], hM ki_Vat (mkv_Vat 1 (addE x1 x0)) cs_11_2, hM ki_Entity (mkv_Entity (1 + cntv_Vat x0) x1) cs_10_1, hM ki_Vat (mkv_Vat 1 x0) cs_9_1, hM ki_Entity x1 cs_16_2, hM ki_Vat x0 cs_14_2, hB g_11_6 28 (List.toArray cs_11_2), hB g_10_2 57 (List.toArray cs_10_1), hB g_9_2 28 (List.toArray cs_9_1), hB g_8_8 28 (List.toArray cs_8_4), hM ki_Vat (addE x1 x0) cs_8_4, hB g_0_1 47 (List.toArray cs1), hB g_0_0 41 (List.toArray cs0)] W368 := Ha370
            clear Ha370
            clear hu369
            have hS372 : Blk W368 g_0_0 41 (List.toArray cs0) ∧ Blk W368 g_0_1 47 (List.toArray cs1) := ⟨H371.blk 12 rfl, H371.blk 11 rfl⟩
            refine ⟨fun _ => hS372, ?_⟩
            refine anyS_one (i := 1) (by kernel_rfl) ?_
            refine op_call rfl Try.call18 (vs := #[.agg (List.toArray cs0)]) rfl rfl rfl (to_Vat x0 _ _ (K_upd H371.1 hK0) hs_x0) ?_
            rintro e377 W376 ⟨cs_31_1, rfl, hM374, hu375⟩
            refine ⟨_, rfl, ?_⟩
            have hl378 := ki_Vat_len (ki_Vat.K_of_M hM374)
            have ho379 := ki_Vat_one (ki_Vat.K_of_M hM374)
            have H380 : St w No [hM ki_Vat x0 cs_31_1, hB g_31_8 28 #[.int .i64 (0), .slice none 0 0, .slice none 0 0, .slice none 0 0, .slice none 0 0], hM ki_Vat (mkv_Vat 1 (addE x1 x0)) cs_11_2, hM ki_Entity (mkv_Entity (1 + cntv_Vat x0) x1) cs_10_1, hM ki_Vat (mkv_Vat 1 x0) cs_9_1, hM ki_Entity x1 cs_16_2, hM ki_Vat x0 cs_14_2, hB g_11_6 28 (List.toArray cs_11_2), hB g_10_2 57 (List.toArray cs_10_1), hB g_9_2 28 (List.toArray cs_9_1), hB g_8_8 28 (List.toArray cs_8_4), hM ki_Vat (addE x1 x0) cs_8_4, hB g_0_1 47 (List.toArray cs1), hB g_0_0 41 (List.toArray cs0)] W376 := H371.new hu375 hM374
            clear H371
            have hS381 : Blk W376 g_0_0 41 (List.toArray cs0) ∧ Blk W376 g_0_1 47 (List.toArray cs1) := ⟨H380.blk 13 rfl, H380.blk 12 rfl⟩
            refine ⟨fun _ => hS381, ?_⟩
            refine anyS_one (i := 3) (by kernel_rfl) ?_
            refine op_call rfl Try.call19 (vs := #[.agg (List.toArray cs1)]) rfl rfl rfl (to_Entity x1 _ _ (K_upd H380.1 hK1) hs_x1) ?_
            rintro e386 W385 ⟨cs_31_3, rfl, hM383, hu384⟩
            refine ⟨_, rfl, ?_⟩
            have hl387 := ki_Entity_len (ki_Entity.K_of_M hM383)
            have ho388 := ki_Entity_one (ki_Entity.K_of_M hM383)
            have H389 : St w No [hM ki_Entity x1 cs_31_3, hM ki_Vat x0 cs_31_1, hB g_31_8 28 #[.int .i64 (0), .slice none 0 0, .slice none 0 0, .slice none 0 0, .slice none 0 0], hM ki_Vat (mkv_Vat 1 (addE x1 x0)) cs_11_2, hM ki_Entity (mkv_Entity (1 + cntv_Vat x0) x1) cs_10_1, hM ki_Vat (mkv_Vat 1 x0) cs_9_1, hM ki_Entity x1 cs_16_2, hM ki_Vat x0 cs_14_2, hB g_11_6 28 (List.toArray cs_11_2), hB g_10_2 57 (List.toArray cs_10_1), hB g_9_2 28 (List.toArray cs_9_1), hB g_8_8 28 (List.toArray cs_8_4), hM ki_Vat (addE x1 x0) cs_8_4, hB g_0_1 47 (List.toArray cs1), hB g_0_0 41 (List.toArray cs0)] W385 := H380.new hu384 hM383
            clear H380
            have hS390 : Blk W385 g_0_0 41 (List.toArray cs0) ∧ Blk W385 g_0_1 47 (List.toArray cs1) := ⟨H389.blk 14 rfl, H389.blk 13 rfl⟩
            refine ⟨fun _ => hS390, ?_⟩
            refine anyS_one (i := 4) (by kernel_rfl) ?_
            refine op_call rfl Try.call20 (vs := #[.agg (List.toArray cs_31_1), .agg (List.toArray cs_31_3)]) rfl rfl rfl (addEntity_i x0 x1 _ _ _ (H389.kn 1 rfl) (Nat.le_trans hs_x0 (by decide)) (H389.kn 0 rfl) (Nat.le_trans hs_x1 (by decide))) ?_
            rintro e394 W393 ⟨cs_31_4, rfl, hM391, hu392⟩
            refine ⟨_, rfl, ?_⟩
            have hl395 := ki_Vat_len (ki_Vat.K_of_M hM391)
            have ho396 := ki_Vat_one (ki_Vat.K_of_M hM391)
            have H397 : St w No [hM ki_Vat (addE x1 x0) cs_31_4, hM ki_Entity x1 cs_31_3, hM ki_Vat x0 cs_31_1, hB g_31_8 28 #[.int .i64 (0), .slice none 0 0, .slice none 0 0, .slice none 0 0, .slice none 0 0], hM ki_Vat (mkv_Vat 1 (addE x1 x0)) cs_11_2, hM ki_Entity (mkv_Entity (1 + cntv_Vat x0) x1) cs_10_1, hM ki_Vat (mkv_Vat 1 x0) cs_9_1, hM ki_Entity x1 cs_16_2, hM ki_Vat x0 cs_14_2, hB g_11_6 28 (List.toArray cs_11_2), hB g_10_2 57 (List.toArray cs_10_1), hB g_9_2 28 (List.toArray cs_9_1), hB g_8_8 28 (List.toArray cs_8_4), hM ki_Vat (addE x1 x0) cs_8_4, hB g_0_1 47 (List.toArray cs1), hB g_0_0 41 (List.toArray cs0)] W393 := H389.new hu392 hM391
            clear H389
            have hS398 : Blk W393 g_0_0 41 (List.toArray cs0) ∧ Blk W393 g_0_1 47 (List.toArray cs1) := ⟨H397.blk 15 rfl, H397.blk 14 rfl⟩
            refine ⟨fun _ => hS398, ?_⟩
            refine anyS_take (i := 5) rfl (by kernel_rfl) (by kernel_rfl) (by kernel_rfl) (by kernel_rfl) (by kernel_rfl) (fun _ _ _ h => h) rfl rfl hS398 (fun W' hs' => rn_move rfl) ?_
            refine anyS_take (i := 6) rfl (by kernel_rfl) (by kernel_rfl) (by kernel_rfl) (by kernel_rfl) (by kernel_rfl) (fun _ _ _ h => h) rfl rfl hS398 (fun W' hs' => rn_extract (v := .agg (List.toArray cs_31_4)) rfl rfl) ?_
            refine anyS_take (i := 7) rfl (by kernel_rfl) (by kernel_rfl) (by kernel_rfl) (by kernel_rfl) (by kernel_rfl) (fun _ _ _ h => h) rfl rfl hS398 (fun W' hs' => rn_extract (v := .int .i64 ((addN x0.Entities))) rfl rfl) ?_
            refine anyS_one (i := 9) (by kernel_rfl) ?_
            have H402 : St w No [hB g_31_8 28 #[.int .i64 (0), .slice none 0 0, .slice none 0 0, .slice none 0 0, .slice none 0 0], hM ki_Vat (addE x1 x0) cs_31_4, hM ki_Entity x1 cs_31_3, hM ki_Vat x0 cs_31_1, hM ki_Vat (mkv_Vat 1 (addE x1 x0)) cs_11_2, hM ki_Entity (mkv_Entity (1 + cntv_Vat x0) x1) cs_10_1, hM ki_Vat (mkv_Vat 1 x0) cs_9_1, hM ki_Entity x1 cs_16_2, hM ki_Vat x0 cs_14_2, hB g_11_6 28 (List.toArray cs_11_2), hB g_10_2 57 (List.toArray cs_10_1), hB g_9_2 28 (List.toArray cs_9_1), hB g_8_8 28 (List.toArray cs_8_4), hM ki_Vat (addE x1 x0) cs_8_4, hB g_0_1 47 (List.toArray cs1), hB g_0_0 41 (List.toArray cs0)] W393 := H397.pick [3, 0, 1, 2, 4, 5, 6, 7, 8, 9, 10, 11, 12, 13, 14, 15] (by decide) rfl
            clear H397
            refine op_storeW rfl Try.sizeOf28 rfl rfl (ki_Vat_len (H402.kn 1 rfl)) rfl (ki_Vat_one (H402.kn 1 rfl)) H402 ?_
            intro W399 hu400 Ha401
            clear H402
            have H403 : St w No [hB g_31_8 28 (List.toArray cs_31_4), hM ki_Vat (addE x1 x0) cs_31_4, hM ki_Entity x1 cs_31_3, hM ki_Vat x0 cs_31_1, hM ki_Vat (mkv_Vat 1 (addE x1 x0)) cs_11_2, hM ki_Entity (mkv_Entity (1 + cntv_Vat x0) x1) cs_10_1, hM ki_Vat (mkv_Vat 1 x0) cs_9_1, hM ki_Entity x1 cs_16_2, hM ki_Vat x0 cs_14_2, hB g_11_6 28 (List.toArray cs_11_2), hB g_10_2 57 (List.toArray cs_10_1), hB g_9_2 28 (List.toArray cs_9_1), hB g_8_8 28 (List.toArray cs_8_4), hM ki_Vat (addE x1 x0) cs_8_4, hB g_0_1 47 (List.toArray cs1), hB g_0_0 41 (List.toArray cs0)] W399 := Ha401
            clear Ha401
            clear hu400
            have hS404 : Blk W399 g_0_0 41 (List.toArray cs0) ∧ Blk W399 g_0_1 47 (List.toArray cs1) := ⟨H403.blk 15 rfl, H403.blk 14 rfl⟩
            refine ⟨fun _ => hS404, ?_⟩
            refine anyS_take (i := 10) rfl (by kernel_rfl) (by kernel_rfl) (by kernel_rfl) (by kernel_rfl) (by kernel_rfl) (fun _ _ _ h => h) rfl rfl hS404 (fun W' hs' => rn_assign rfl) ?_
            refine anyS_done (by kernel_rfl) ?_ _
            exact (actOf_drop2 [(6, .pointer (some ⟨g_8_8, 0, none⟩)), (7, .int .i64 ((addN x0.Entities))), (10, .pointer (some ⟨g_11_6, 0, none⟩)), (13, .int .i64 ((1 + cntv_Vat (addE x1 x0)))), (15, .pointer (some ⟨g_31_8, 0, none⟩)), (16, .int .i64 ((addN x0.Entities)))] rfl).elim fun x' hx => ⟨cs_31_4, g_31_8, x', hx, H403.pick [0, 1, 4, 9, 12, 13] (by decide) rfl⟩
        · rintro _ W406 ⟨cs_31_4, g_31_8, x407, rfl, H405⟩
          refine then_n ?_
          refine wp_seq ?_
          refine wp_seq ?_
          refine reg_seq [0, 1, 2, 3, 4, 5, 6, 7, 8] rfl ?_
          refine ops_cons ?_
          refine op_pure rfl (rn_loadB Try.isAgg28 Try.sizeOf28 rfl (H405.blk 0 rfl) (ki_Vat_len (H405.kn 1 rfl))) rfl rfl ?_
          refine ops_cons ?_
          refine op_pure rfl (rn_loadB Try.isAgg28 Try.sizeOf28 rfl (H405.blk 4 rfl) (ki_Vat_len (H405.kn 5 rfl))) rfl rfl ?_
          refine ops_cons ?_
          refine op_call rfl Try.call10 (vs := #[.agg (List.toArray cs_31_4), .agg (List.toArray cs_8_4)]) rfl rfl rfl (eq_Vat (addE x1 x0) _ _ _ (H405.kn 1 rfl) (H405.kn 5 rfl)) ?_
          rintro e410 W409 ⟨rfl, hu408⟩
          refine ⟨_, rfl, ?_⟩
          have H411 : St w No [hB g_31_8 28 (List.toArray cs_31_4), hM ki_Vat (addE x1 x0) cs_31_4, hM ki_Vat (mkv_Vat 1 (addE x1 x0)) cs_11_2, hB g_11_6 28 (List.toArray cs_11_2), hB g_8_8 28 (List.toArray cs_8_4), hM ki_Vat (addE x1 x0) cs_8_4] W409 := H405.no hu408
          clear H405
          refine ops_cons ?_
          refine op_pure rfl (rn_not rfl) rfl rfl ?_
          refine ops_cons ?_
          refine op_pure rfl (rn_move rfl) rfl rfl ?_
          refine ops_cons ?_
          refine op_G rfl rfl rfl rfl (fun _ ho412 => ?_)
          refine op_pure ho412 (rn_move rfl) rfl rfl ?_
          refine ops_cons ?_
          refine op_G rfl rfl rfl rfl (fun _ ho413 => ?_)
          refine op_pure ho413 (rn_move rfl) rfl rfl ?_
          refine ops_cons ?_
          refine op_G rfl rfl rfl rfl (fun _ ho414 => ?_)
          refine op_pure ho414 (rn_decF (not_not_intro rfl) (rn_neq rfl rfl)) rfl rfl ?_
          refine ops_cons ?_
          refine op_pure rfl (rn_pick (b := false) rfl rfl rfl rfl) rfl rfl ?_
          refine ops_nil ?_
          refine then_n ?_
          refine cond_f rfl ?_
          refine wp_skip ?_
          refine then_n ?_
          refine wp_seq ?_
          refine reg_seq [0] rfl ?_
          refine ops_cons ?_
          refine op_pure rfl (rn_assign rfl) rfl rfl ?_
          refine ops_nil ?_
          refine then_n ?_
          refine wp_seq ?_
          refine reg_seq [0, 1, 2, 3] rfl ?_
          refine ops_cons ?_
          refine op_pure rfl (rn_loadB Try.isAgg28 Try.sizeOf28 rfl (H411.blk 3 rfl) (ki_Vat_len (H411.kn 2 rfl))) rfl rfl ?_
          refine ops_cons ?_
          refine op_pure rfl (rn_move rfl) rfl rfl ?_
          refine ops_cons ?_
          refine op_call rfl Try.call14 (vs := #[.agg (List.toArray cs_11_2), .int .i64 (1)]) rfl rfl rfl (heldv_Vat_c (addE x1 x0) _ _ _ (H411.kn 2 rfl) (by omega) (by omega)) ?_
          rintro e417 W416 ⟨rfl, hu415⟩
          refine ⟨_, rfl, ?_⟩
          have H418 : St w No [hB g_31_8 28 (List.toArray cs_31_4), hM ki_Vat (addE x1 x0) cs_31_4, hM ki_Vat (mkv_Vat 1 (addE x1 x0)) cs_11_2, hB g_11_6 28 (List.toArray cs_11_2), hB g_8_8 28 (List.toArray cs_8_4), hM ki_Vat (addE x1 x0) cs_8_4] W416 := H411.no hu415
          clear H411
          refine ops_cons ?_
          refine op_pure rfl (rn_assign rfl) rfl rfl ?_
          refine ops_nil ?_
          refine then_n ?_
          refine wp_seq ?_
          refine wp_seq ?_
          refine reg_seq [0, 1] rfl ?_
          refine ops_cons ?_
          refine op_pure rfl (rn_move rfl) rfl rfl ?_
          refine ops_cons ?_
          refine op_pure rfl (rn_decF (by omega) (rn_lss rfl rfl)) rfl rfl ?_
          refine ops_nil ?_
          refine then_n ?_
          refine cond_f rfl ?_
          refine wp_skip ?_
          refine then_n ?_
          refine wp_seq ?_
          refine wp_seq ?_
          refine reg_seq [0, 1, 2] rfl ?_
          refine ops_cons ?_
          refine op_pure rfl (rn_move rfl) rfl rfl ?_
          refine ops_cons ?_
          refine op_pure rfl (rn_move rfl) rfl rfl ?_
          refine ops_cons ?_
          refine op_pure rfl (rn_decF (not_not_intro rfl) (rn_neq rfl rfl)) rfl rfl ?_
          refine ops_nil ?_
          refine then_n ?_
          refine cond_f rfl ?_
          refine wp_skip ?_
          refine then_n ?_
          refine wp_seq ?_
          refine reg_seq [0] rfl ?_
          refine ops_cons ?_
          refine op_pure rfl (rn_assign rfl) rfl rfl ?_
          refine ops_nil ?_
          refine then_n ?_
          refine wp_ret ?_
          refine post_tmp (.inl rfl) Try.results4 rfl ?_
          exact ⟨rfl, H418.1⟩
end Go.Proofs.YtfnedoiplblldaaFam
