/- The law NoteTurn, walked. No conditions. -/
import Derived.Test.YtfnedoiplblldaaGreatProg
import Derived.Test.YtfnedoiplblldaaGreatTy
import Derived.Test.YtfnedoiplblldaaGreatOpn
import Derived.Test.YtfnedoiplblldaaGreatNoteT
import Derived.Test.YtfnedoiplblldaaGreatT2
namespace Go.Proofs.YtfnedoiplblldaaGreatFam
open Go.ChangeShapes Go.WideShapes Go.RowKit Go.Proofs.YtfnedoiplblldaaGreatSep Go.Proofs.YtfnedoiplblldaaGreatT Go.Proofs.YtfnedoiplblldaaGreatK
set_option linter.unusedVariables false
set_option linter.unusedSimpArgs false
set_option maxHeartbeats 4000000 in
set_option maxRecDepth 100000 in
theorem law_FnExactNoteTurn (w : World) (x0 : GWorld) (cs0 : List Value) (hK0 : kl_World.K w x0 cs0) (hG0 : Gd_World x0) (a1 : Int) (w1 : (Lit.int .i64 a1).wf = true) (a2 : Int) (w2 : (Lit.int .i64 a2).wf = true) (x3 : GTag) (cs3 : List Value) (hK3 : kl_Tag.K w x3 cs3) (hG3 : Gd_Tag x3) : Calls Tryz.prog 3 #[.agg cs0.toArray, .int .i64 a1, .int .i64 a2, .agg cs3.toArray] w (RetBool true w) := by
  have hl0_ : cs0.length = 5 := kl_World.K_len hK0
  have ho0_ : ∀ u ∈ (List.toArray cs0).toList, u.oneCell' = true := kl_World.K_one hK0
  have hl3_ : cs3.length = 3 := kl_Tag.K_len hK3
  have ho3_ : ∀ u ∈ (List.toArray cs3).toList, u.oneCell' = true := kl_Tag.K_one hK3
  refine enter 87 [(0, .agg (List.toArray cs0)), (1, .int .i64 (a1)), (2, .int .i64 (a2)), (3, .agg (List.toArray cs3))] Tryz.func3 rfl (by kernel_rfl) ?_
  intro xj
  have H1 : St w No [] w := St.enter
  refine wp_seq ?_
  refine reg_seq [0, 1, 2] rfl ?_
  refine ops_cons ?_
  refine op_box rfl rfl rfl rfl H1 ?_
  intro g_0_0 W2 hu3 Ha4
  clear H1
  have H5 : St w No [hB g_0_0 27 (List.toArray cs0)] W2 := Ha4
  clear Ha4
  clear hu3
  refine ops_cons ?_
  refine op_box rfl rfl rfl rfl H5 ?_
  intro g_0_1 W6 hu7 Ha8
  clear H5
  have H9 : St w No [hB g_0_1 29 (List.toArray cs3), hB g_0_0 27 (List.toArray cs0)] W6 := Ha8
  clear Ha8
  clear hu7
  refine ops_cons ?_
  refine op_pure rfl (rn_assign rfl) rfl rfl ?_
  refine ops_nil ?_
  refine then_n ?_
  refine wp_seq ?_
  refine reg_seq [0] rfl ?_
  refine ops_cons ?_
  refine op_pure rfl (rn_assign rfl) rfl rfl ?_
  refine ops_nil ?_
  refine then_n ?_
  refine wp_seq ?_
  refine reg_seq [0, 1, 2, 3] rfl ?_
  refine ops_cons ?_
  refine op_pure rfl (rn_loadB Tryz.isAgg27 Tryz.sizeOf27 rfl (H9.blk 1 rfl) hl0_) rfl rfl ?_
  refine ops_cons ?_
  refine op_pure rfl (rn_move rfl) rfl rfl ?_
  refine ops_cons ?_
  refine op_call rfl Tryz.call10 (vs := #[.agg (List.toArray cs0), .int .i64 (1048576)]) rfl rfl rfl (sz_World x0 _ _ _ (K_upd H9.1 hK0) (Bd_of_World hG0) (by omega) (by omega)) ?_
  rintro e14 W13 ⟨n11, rfl, hr12, hu10⟩
  refine ⟨_, rfl, ?_⟩
  have H15 : St w No [hB g_0_1 29 (List.toArray cs3), hB g_0_0 27 (List.toArray cs0)] W13 := H9.no hu10
  clear H9
  refine ops_cons ?_
  refine op_pure rfl (rn_assign rfl) rfl rfl ?_
  refine ops_nil ?_
  refine then_n ?_
  refine wp_seq ?_
  refine wp_seq ?_
  refine reg_seq [0, 1] rfl ?_
  refine ops_cons ?_
  refine op_pure rfl (rn_move rfl) rfl rfl ?_
  refine ops_cons ?_
  refine op_pure rfl (rn_lss rfl rfl) rfl rfl ?_
  refine ops_nil ?_
  refine then_n ?_
  refine cond_dec rfl (fun hc16 => ?_) (fun hc16 => ?_)
  · refine wp_seq ?_
    refine reg_seq [0] rfl ?_
    refine ops_cons ?_
    refine op_pure rfl (rn_assign rfl) rfl rfl ?_
    refine ops_nil ?_
    refine then_n ?_
    refine wp_ret ?_
    refine then_r ?_
    refine post_tmp (.inl rfl) Tryz.results3 rfl ?_
    exact ⟨rfl, H15.1⟩
  · have hs_x0 : szn_World x0 ≤ 1048576 := by omega
    refine wp_skip ?_
    refine then_n ?_
    refine wp_seq ?_
    have nn17 : 0 ≤ cntv_World x0 := cntv_World_nn x0
    have nn17b := cntv_World_le x0
    have nn17c : szn_World x0 ≤ 4194304 := (Nat.le_trans hs_x0 (by decide))
    have nn18 : 0 ≤ cntv_World (ntW a1 a2 x3 x0) := cntv_World_nn (ntW a1 a2 x3 x0)
    have nn18b := cntv_World_le (ntW a1 a2 x3 x0)
    have nn18c : szn_World (ntW a1 a2 x3 x0) ≤ 4194304 := ntW_bd a1 a2 x3 x0 hs_x0
    refine reg_cut (fun a' W' => ∃ (cs_5_6 : List Value) (g_5_7 : Nat) (x' : Nat → Value), a' = actOf 87 x' [(1, .int .i64 (a1)), (2, .int .i64 (a2)), (4, .pointer (some ⟨g_0_0, 0, none⟩)), (7, .pointer (some ⟨g_0_1, 0, none⟩)), (10, .pointer (some ⟨g_5_7, 0, none⟩))] ∧ St w No [hB g_5_7 36 (List.toArray cs_5_6), hM ki_World (ntW a1 a2 x3 x0) cs_5_6, hB g_0_1 29 (List.toArray cs3), hB g_0_0 27 (List.toArray cs0)] W') ?_ ?_
    · refine reg_draw (fun W' => Blk W' g_0_0 27 (List.toArray cs0) ∧ Blk W' g_0_1 29 (List.toArray cs3)) 9 (by kernel_rfl) ?_
      have H19 : St w No [hB g_0_1 29 (List.toArray cs3), hB g_0_0 27 (List.toArray cs0)] W13.drew := H15.drew
      clear H15
      have hS20 : Blk W13.drew g_0_0 27 (List.toArray cs0) ∧ Blk W13.drew g_0_1 29 (List.toArray cs3) := ⟨H19.blk 1 rfl, H19.blk 0 rfl⟩
      refine anyS_take (i := 0) rfl (by kernel_rfl) (by kernel_rfl) (by kernel_rfl) (by kernel_rfl) (by kernel_rfl) (fun _ _ _ h => h) rfl rfl hS20 (fun W' hs' => rn_loadB Tryz.isAgg27 Tryz.sizeOf27 rfl hs'.1 hl0_) ?_
      refine anyS_take (i := 2) rfl (by kernel_rfl) (by kernel_rfl) (by kernel_rfl) (by kernel_rfl) (by kernel_rfl) (fun _ _ _ h => h) rfl rfl hS20 (fun W' hs' => rn_move rfl) ?_
      refine anyS_take (i := 3) rfl (by kernel_rfl) (by kernel_rfl) (by kernel_rfl) (by kernel_rfl) (by kernel_rfl) (fun _ _ _ h => h) rfl rfl hS20 (fun W' hs' => rn_move rfl) ?_
      refine anyS_take (i := 4) rfl (by kernel_rfl) (by kernel_rfl) (by kernel_rfl) (by kernel_rfl) (by kernel_rfl) (fun _ _ _ h => h) rfl rfl hS20 (fun W' hs' => rn_loadB Tryz.isAgg29 Tryz.sizeOf29 rfl hs'.2 hl3_) ?_
      refine anyS_two (i := 1) (i2 := 7) (by kernel_rfl) ?_ ?_
      · refine op_call rfl Tryz.call12 (vs := #[.agg (List.toArray cs0)]) rfl rfl rfl (to_World x0 _ _ (K_upd H19.1 hK0) hs_x0) ?_
        rintro e25 W24 ⟨cs_5_1, rfl, hM22, hu23⟩
        refine ⟨_, rfl, ?_⟩
        have hl26 := ki_World_len (ki_World.K_of_M hM22)
        have ho27 := ki_World_one (ki_World.K_of_M hM22)
        have H28 : St w No [hM ki_World x0 cs_5_1, hB g_0_1 29 (List.toArray cs3), hB g_0_0 27 (List.toArray cs0)] W24 := H19.new hu23 hM22
        clear H19
        have hS29 : Blk W24 g_0_0 27 (List.toArray cs0) ∧ Blk W24 g_0_1 29 (List.toArray cs3) := ⟨H28.blk 2 rfl, H28.blk 1 rfl⟩
        refine ⟨fun _ => hS29, ?_⟩
        refine anyS_two (i := 5) (i2 := 7) (by kernel_rfl) ?_ ?_
        · refine op_call rfl Tryz.call13 (vs := #[.agg (List.toArray cs3)]) rfl rfl rfl (to_Tag x3 _ _ (K_upd H28.1 hK3) (by simp [szn_Tag])) ?_
          rintro e34 W33 ⟨cs_5_5, rfl, hM31, hu32⟩
          refine ⟨_, rfl, ?_⟩
          have hl35 := ki_Tag_len (ki_Tag.K_of_M hM31)
          have ho36 := ki_Tag_one (ki_Tag.K_of_M hM31)
          have H37 : St w No [hM ki_Tag x3 cs_5_5, hM ki_World x0 cs_5_1, hB g_0_1 29 (List.toArray cs3), hB g_0_0 27 (List.toArray cs0)] W33 := H28.new hu32 hM31
          clear H28
          have hS38 : Blk W33 g_0_0 27 (List.toArray cs0) ∧ Blk W33 g_0_1 29 (List.toArray cs3) := ⟨H37.blk 3 rfl, H37.blk 2 rfl⟩
          refine ⟨fun _ => hS38, ?_⟩
          refine anyS_two (i := 6) (i2 := 7) (by kernel_rfl) ?_ ?_
          · refine op_call rfl Tryz.call11 (vs := #[.agg (List.toArray cs_5_1), .int .i64 (a1), .int .i64 (a2), .agg (List.toArray cs_5_5)]) rfl rfl rfl (noteTurn_s x0 _ a1 a2 x3 _ _ (H37.kn 1 rfl) (Nat.le_trans hs_x0 (by decide)) (H37.kn 0 rfl)) ?_
            rintro e42 W41 ⟨cs_5_6, rfl, hM39, hu40⟩
            refine ⟨_, rfl, ?_⟩
            have H43 : St w No [hM ki_World (ntW a1 a2 x3 x0) cs_5_6, hM ki_Tag x3 cs_5_5, hM ki_World x0 cs_5_1, hB g_0_1 29 (List.toArray cs3), hB g_0_0 27 (List.toArray cs0)] W41 := H37.new hu40 hM39
            clear H37
            have hS44 : Blk W41 g_0_0 27 (List.toArray cs0) ∧ Blk W41 g_0_1 29 (List.toArray cs3) := ⟨H43.blk 4 rfl, H43.blk 3 rfl⟩
            refine ⟨fun _ => hS44, ?_⟩
            refine anyS_one (i := 7) (by kernel_rfl) ?_
            refine op_alloc rfl Tryz.zeroValue36 rfl rfl H43 ?_
            intro g_5_7 W45 hu46 Ha47
            clear H43
            have H48 : St w No [hB g_5_7 36 #[.slice none 0 0, .slice none 0 0, .slice none 0 0, .slice none 0 0, .int .i64 (0)], hM ki_World (ntW a1 a2 x3 x0) cs_5_6, hM ki_Tag x3 cs_5_5, hM ki_World x0 cs_5_1, hB g_0_1 29 (List.toArray cs3), hB g_0_0 27 (List.toArray cs0)] W45 := Ha47
            clear Ha47
            clear hu46
            have hS49 : Blk W45 g_0_0 27 (List.toArray cs0) ∧ Blk W45 g_0_1 29 (List.toArray cs3) := ⟨H48.blk 5 rfl, H48.blk 4 rfl⟩
            refine ⟨fun _ => hS49, ?_⟩
            refine anyS_one (i := 8) (by kernel_rfl) ?_
            refine op_storeW rfl Tryz.sizeOf36 rfl rfl (ki_World_len (H48.kn 1 rfl)) rfl (ki_World_one (H48.kn 1 rfl)) H48 ?_
            intro W50 hu51 Ha52
            clear H48
            have H53 : St w No [hB g_5_7 36 (List.toArray cs_5_6), hM ki_World (ntW a1 a2 x3 x0) cs_5_6, hM ki_Tag x3 cs_5_5, hM ki_World x0 cs_5_1, hB g_0_1 29 (List.toArray cs3), hB g_0_0 27 (List.toArray cs0)] W50 := Ha52
            clear Ha52
            clear hu51
            have hS54 : Blk W50 g_0_0 27 (List.toArray cs0) ∧ Blk W50 g_0_1 29 (List.toArray cs3) := ⟨H53.blk 5 rfl, H53.blk 4 rfl⟩
            refine ⟨fun _ => hS54, ?_⟩
            refine anyS_done (by kernel_rfl) ?_ _
            exact (actOf_drop2 [(1, .int .i64 (a1)), (2, .int .i64 (a2)), (4, .pointer (some ⟨g_0_0, 0, none⟩)), (7, .pointer (some ⟨g_0_1, 0, none⟩)), (10, .pointer (some ⟨g_5_7, 0, none⟩))] rfl).elim fun x' hx => ⟨cs_5_6, g_5_7, x', hx, H53.pick [0, 1, 4, 5] (by decide) rfl⟩
          · refine op_alloc rfl Tryz.zeroValue36 rfl rfl H37 ?_
            intro g_5_7 W55 hu56 Ha57
            clear H37
            have H58 : St w No [hB g_5_7 36 #[.slice none 0 0, .slice none 0 0, .slice none 0 0, .slice none 0 0, .int .i64 (0)], hM ki_Tag x3 cs_5_5, hM ki_World x0 cs_5_1, hB g_0_1 29 (List.toArray cs3), hB g_0_0 27 (List.toArray cs0)] W55 := Ha57
            clear Ha57
            clear hu56
            have hS59 : Blk W55 g_0_0 27 (List.toArray cs0) ∧ Blk W55 g_0_1 29 (List.toArray cs3) := ⟨H58.blk 4 rfl, H58.blk 3 rfl⟩
            refine ⟨fun _ => hS59, ?_⟩
            refine anyS_one (i := 6) (by kernel_rfl) ?_
            refine op_call rfl Tryz.call11 (vs := #[.agg (List.toArray cs_5_1), .int .i64 (a1), .int .i64 (a2), .agg (List.toArray cs_5_5)]) rfl rfl rfl (noteTurn_s x0 _ a1 a2 x3 _ _ (H58.kn 2 rfl) (Nat.le_trans hs_x0 (by decide)) (H58.kn 1 rfl)) ?_
            rintro e63 W62 ⟨cs_5_6, rfl, hM60, hu61⟩
            refine ⟨_, rfl, ?_⟩
            have H64 : St w No [hM ki_World (ntW a1 a2 x3 x0) cs_5_6, hB g_5_7 36 #[.slice none 0 0, .slice none 0 0, .slice none 0 0, .slice none 0 0, .int .i64 (0)], hM ki_Tag x3 cs_5_5, hM ki_World x0 cs_5_1, hB g_0_1 29 (List.toArray cs3), hB g_0_0 27 (List.toArray cs0)] W62 := H58.new hu61 hM60
            clear H58
            have hS65 : Blk W62 g_0_0 27 (List.toArray cs0) ∧ Blk W62 g_0_1 29 (List.toArray cs3) := ⟨H64.blk 5 rfl, H64.blk 4 rfl⟩
            refine ⟨fun _ => hS65, ?_⟩
            refine anyS_one (i := 8) (by kernel_rfl) ?_
            have H69 : St w No [hB g_5_7 36 #[.slice none 0 0, .slice none 0 0, .slice none 0 0, .slice none 0 0, .int .i64 (0)], hM ki_World (ntW a1 a2 x3 x0) cs_5_6, hM ki_Tag x3 cs_5_5, hM ki_World x0 cs_5_1, hB g_0_1 29 (List.toArray cs3), hB g_0_0 27 (List.toArray cs0)] W62 := H64.pick [1, 0, 2, 3, 4, 5] (by decide) rfl
            clear H64
            refine op_storeW rfl Tryz.sizeOf36 rfl rfl (ki_World_len (H69.kn 1 rfl)) rfl (ki_World_one (H69.kn 1 rfl)) H69 ?_
            intro W66 hu67 Ha68
            clear H69
            have H70 : St w No [hB g_5_7 36 (List.toArray cs_5_6), hM ki_World (ntW a1 a2 x3 x0) cs_5_6, hM ki_Tag x3 cs_5_5, hM ki_World x0 cs_5_1, hB g_0_1 29 (List.toArray cs3), hB g_0_0 27 (List.toArray cs0)] W66 := Ha68
            clear Ha68
            clear hu67
            have hS71 : Blk W66 g_0_0 27 (List.toArray cs0) ∧ Blk W66 g_0_1 29 (List.toArray cs3) := ⟨H70.blk 5 rfl, H70.blk 4 rfl⟩
            refine ⟨fun _ => hS71, ?_⟩
            refine anyS_done (by kernel_rfl) ?_ _
            exact (actOf_drop2 [(1, .int .i64 (a1)), (2, .int .i64 (a2)), (4, .pointer (some ⟨g_0_0, 0, none⟩)), (7, .pointer (some ⟨g_0_1, 0, none⟩)), (10, .pointer (some ⟨g_5_7, 0, none⟩))] rfl).elim fun x' hx => ⟨cs_5_6, g_5_7, x', hx, H70.pick [0, 1, 4, 5] (by decide) rfl⟩
        · refine op_alloc rfl Tryz.zeroValue36 rfl rfl H28 ?_
          intro g_5_7 W72 hu73 Ha74
          clear H28
          have H75 : St w No [hB g_5_7 36 #[.slice none 0 0, .slice none 0 0, .slice none 0 0, .slice none 0 0, .int .i64 (0)], hM ki_World x0 cs_5_1, hB g_0_1 29 (List.toArray cs3), hB g_0_0 27 (List.toArray cs0)] W72 := Ha74
          clear Ha74
          clear hu73
          have hS76 : Blk W72 g_0_0 27 (List.toArray cs0) ∧ Blk W72 g_0_1 29 (List.toArray cs3) := ⟨H75.blk 3 rfl, H75.blk 2 rfl⟩
          refine ⟨fun _ => hS76, ?_⟩
          refine anyS_one (i := 5) (by kernel_rfl) ?_
          refine op_call rfl Tryz.call13 (vs := #[.agg (List.toArray cs3)]) rfl rfl rfl (to_Tag x3 _ _ (K_upd H75.1 hK3) (by simp [szn_Tag])) ?_
          rintro e81 W80 ⟨cs_5_5, rfl, hM78, hu79⟩
          refine ⟨_, rfl, ?_⟩
          have hl82 := ki_Tag_len (ki_Tag.K_of_M hM78)
          have ho83 := ki_Tag_one (ki_Tag.K_of_M hM78)
          have H84 : St w No [hM ki_Tag x3 cs_5_5, hB g_5_7 36 #[.slice none 0 0, .slice none 0 0, .slice none 0 0, .slice none 0 0, .int .i64 (0)], hM ki_World x0 cs_5_1, hB g_0_1 29 (List.toArray cs3), hB g_0_0 27 (List.toArray cs0)] W80 := H75.new hu79 hM78
          clear H75
          have hS85 : Blk W80 g_0_0 27 (List.toArray cs0) ∧ Blk W80 g_0_1 29 (List.toArray cs3) := ⟨H84.blk 4 rfl, H84.blk 3 rfl⟩
          refine ⟨fun _ => hS85, ?_⟩
          refine anyS_one (i := 6) (by kernel_rfl) ?_
          refine op_call rfl Tryz.call11 (vs := #[.agg (List.toArray cs_5_1), .int .i64 (a1), .int .i64 (a2), .agg (List.toArray cs_5_5)]) rfl rfl rfl (noteTurn_s x0 _ a1 a2 x3 _ _ (H84.kn 2 rfl) (Nat.le_trans hs_x0 (by decide)) (H84.kn 0 rfl)) ?_
          rintro e89 W88 ⟨cs_5_6, rfl, hM86, hu87⟩
          refine ⟨_, rfl, ?_⟩
          have H90 : St w No [hM ki_World (ntW a1 a2 x3 x0) cs_5_6, hM ki_Tag x3 cs_5_5, hB g_5_7 36 #[.slice none 0 0, .slice none 0 0, .slice none 0 0, .slice none 0 0, .int .i64 (0)], hM ki_World x0 cs_5_1, hB g_0_1 29 (List.toArray cs3), hB g_0_0 27 (List.toArray cs0)] W88 := H84.new hu87 hM86
          clear H84
          have hS91 : Blk W88 g_0_0 27 (List.toArray cs0) ∧ Blk W88 g_0_1 29 (List.toArray cs3) := ⟨H90.blk 5 rfl, H90.blk 4 rfl⟩
          refine ⟨fun _ => hS91, ?_⟩
          refine anyS_one (i := 8) (by kernel_rfl) ?_
          have H95 : St w No [hB g_5_7 36 #[.slice none 0 0, .slice none 0 0, .slice none 0 0, .slice none 0 0, .int .i64 (0)], hM ki_World (ntW a1 a2 x3 x0) cs_5_6, hM ki_Tag x3 cs_5_5, hM ki_World x0 cs_5_1, hB g_0_1 29 (List.toArray cs3), hB g_0_0 27 (List.toArray cs0)] W88 := H90.pick [2, 0, 1, 3, 4, 5] (by decide) rfl
          clear H90
          refine op_storeW rfl Tryz.sizeOf36 rfl rfl (ki_World_len (H95.kn 1 rfl)) rfl (ki_World_one (H95.kn 1 rfl)) H95 ?_
          intro W92 hu93 Ha94
          clear H95
          have H96 : St w No [hB g_5_7 36 (List.toArray cs_5_6), hM ki_World (ntW a1 a2 x3 x0) cs_5_6, hM ki_Tag x3 cs_5_5, hM ki_World x0 cs_5_1, hB g_0_1 29 (List.toArray cs3), hB g_0_0 27 (List.toArray cs0)] W92 := Ha94
          clear Ha94
          clear hu93
          have hS97 : Blk W92 g_0_0 27 (List.toArray cs0) ∧ Blk W92 g_0_1 29 (List.toArray cs3) := ⟨H96.blk 5 rfl, H96.blk 4 rfl⟩
          refine ⟨fun _ => hS97, ?_⟩
          refine anyS_done (by kernel_rfl) ?_ _
          exact (actOf_drop2 [(1, .int .i64 (a1)), (2, .int .i64 (a2)), (4, .pointer (some ⟨g_0_0, 0, none⟩)), (7, .pointer (some ⟨g_0_1, 0, none⟩)), (10, .pointer (some ⟨g_5_7, 0, none⟩))] rfl).elim fun x' hx => ⟨cs_5_6, g_5_7, x', hx, H96.pick [0, 1, 4, 5] (by decide) rfl⟩
      · refine op_alloc rfl Tryz.zeroValue36 rfl rfl H19 ?_
        intro g_5_7 W98 hu99 Ha100
        clear H19
        have H101 : St w No [hB g_5_7 36 #[.slice none 0 0, .slice none 0 0, .slice none 0 0, .slice none 0 0, .int .i64 (0)], hB g_0_1 29 (List.toArray cs3), hB g_0_0 27 (List.toArray cs0)] W98 := Ha100
        clear Ha100
        clear hu99
        have hS102 : Blk W98 g_0_0 27 (List.toArray cs0) ∧ Blk W98 g_0_1 29 (List.toArray cs3) := ⟨H101.blk 2 rfl, H101.blk 1 rfl⟩
        refine ⟨fun _ => hS102, ?_⟩
        refine anyS_one (i := 1) (by kernel_rfl) ?_
        refine op_call rfl Tryz.call12 (vs := #[.agg (List.toArray cs0)]) rfl rfl rfl (to_World x0 _ _ (K_upd H101.1 hK0) hs_x0) ?_
        rintro e107 W106 ⟨cs_5_1, rfl, hM104, hu105⟩
        refine ⟨_, rfl, ?_⟩
        have hl108 := ki_World_len (ki_World.K_of_M hM104)
        have ho109 := ki_World_one (ki_World.K_of_M hM104)
        have H110 : St w No [hM ki_World x0 cs_5_1, hB g_5_7 36 #[.slice none 0 0, .slice none 0 0, .slice none 0 0, .slice none 0 0, .int .i64 (0)], hB g_0_1 29 (List.toArray cs3), hB g_0_0 27 (List.toArray cs0)] W106 := H101.new hu105 hM104
        clear H101
        have hS111 : Blk W106 g_0_0 27 (List.toArray cs0) ∧ Blk W106 g_0_1 29 (List.toArray cs3) := ⟨H110.blk 3 rfl, H110.blk 2 rfl⟩
        refine ⟨fun _ => hS111, ?_⟩
        refine anyS_one (i := 5) (by kernel_rfl) ?_
        refine op_call rfl Tryz.call13 (vs := #[.agg (List.toArray cs3)]) rfl rfl rfl (to_Tag x3 _ _ (K_upd H110.1 hK3) (by simp [szn_Tag])) ?_
        rintro e116 W115 ⟨cs_5_5, rfl, hM113, hu114⟩
        refine ⟨_, rfl, ?_⟩
        have hl117 := ki_Tag_len (ki_Tag.K_of_M hM113)
        have ho118 := ki_Tag_one (ki_Tag.K_of_M hM113)
        have H119 : St w No [hM ki_Tag x3 cs_5_5, hM ki_World x0 cs_5_1, hB g_5_7 36 #[.slice none 0 0, .slice none 0 0, .slice none 0 0, .slice none 0 0, .int .i64 (0)], hB g_0_1 29 (List.toArray cs3), hB g_0_0 27 (List.toArray cs0)] W115 := H110.new hu114 hM113
        clear H110
        have hS120 : Blk W115 g_0_0 27 (List.toArray cs0) ∧ Blk W115 g_0_1 29 (List.toArray cs3) := ⟨H119.blk 4 rfl, H119.blk 3 rfl⟩
        refine ⟨fun _ => hS120, ?_⟩
        refine anyS_one (i := 6) (by kernel_rfl) ?_
        refine op_call rfl Tryz.call11 (vs := #[.agg (List.toArray cs_5_1), .int .i64 (a1), .int .i64 (a2), .agg (List.toArray cs_5_5)]) rfl rfl rfl (noteTurn_s x0 _ a1 a2 x3 _ _ (H119.kn 1 rfl) (Nat.le_trans hs_x0 (by decide)) (H119.kn 0 rfl)) ?_
        rintro e124 W123 ⟨cs_5_6, rfl, hM121, hu122⟩
        refine ⟨_, rfl, ?_⟩
        have H125 : St w No [hM ki_World (ntW a1 a2 x3 x0) cs_5_6, hM ki_Tag x3 cs_5_5, hM ki_World x0 cs_5_1, hB g_5_7 36 #[.slice none 0 0, .slice none 0 0, .slice none 0 0, .slice none 0 0, .int .i64 (0)], hB g_0_1 29 (List.toArray cs3), hB g_0_0 27 (List.toArray cs0)] W123 := H119.new hu122 hM121
        clear H119
        have hS126 : Blk W123 g_0_0 27 (List.toArray cs0) ∧ Blk W123 g_0_1 29 (List.toArray cs3) := ⟨H125.blk 5 rfl, H125.blk 4 rfl⟩
        refine ⟨fun _ => hS126, ?_⟩
        refine anyS_one (i := 8) (by kernel_rfl) ?_
        have H130 : St w No [hB g_5_7 36 #[.slice none 0 0, .slice none 0 0, .slice none 0 0, .slice none 0 0, .int .i64 (0)], hM ki_World (ntW a1 a2 x3 x0) cs_5_6, hM ki_Tag x3 cs_5_5, hM ki_World x0 cs_5_1, hB g_0_1 29 (List.toArray cs3), hB g_0_0 27 (List.toArray cs0)] W123 := H125.pick [3, 0, 1, 2, 4, 5] (by decide) rfl
        clear H125
        refine op_storeW rfl Tryz.sizeOf36 rfl rfl (ki_World_len (H130.kn 1 rfl)) rfl (ki_World_one (H130.kn 1 rfl)) H130 ?_
        intro W127 hu128 Ha129
        clear H130
        have H131 : St w No [hB g_5_7 36 (List.toArray cs_5_6), hM ki_World (ntW a1 a2 x3 x0) cs_5_6, hM ki_Tag x3 cs_5_5, hM ki_World x0 cs_5_1, hB g_0_1 29 (List.toArray cs3), hB g_0_0 27 (List.toArray cs0)] W127 := Ha129
        clear Ha129
        clear hu128
        have hS132 : Blk W127 g_0_0 27 (List.toArray cs0) ∧ Blk W127 g_0_1 29 (List.toArray cs3) := ⟨H131.blk 5 rfl, H131.blk 4 rfl⟩
        refine ⟨fun _ => hS132, ?_⟩
        refine anyS_done (by kernel_rfl) ?_ _
        exact (actOf_drop2 [(1, .int .i64 (a1)), (2, .int .i64 (a2)), (4, .pointer (some ⟨g_0_0, 0, none⟩)), (7, .pointer (some ⟨g_0_1, 0, none⟩)), (10, .pointer (some ⟨g_5_7, 0, none⟩))] rfl).elim fun x' hx => ⟨cs_5_6, g_5_7, x', hx, H131.pick [0, 1, 4, 5] (by decide) rfl⟩
    · rintro _ W134 ⟨cs_5_6, g_5_7, x135, rfl, H133⟩
      refine then_n ?_
      refine wp_seq ?_
      refine reg_seq [0, 1, 2, 3] rfl ?_
      refine ops_cons ?_
      refine op_pure rfl (rn_loadB Tryz.isAgg27 Tryz.sizeOf27 rfl (H133.blk 3 rfl) hl0_) rfl rfl ?_
      refine ops_cons ?_
      refine op_call rfl Tryz.call12 (vs := #[.agg (List.toArray cs0)]) rfl rfl rfl (to_World x0 _ _ (K_upd H133.1 hK0) hs_x0) ?_
      rintro e140 W139 ⟨cs_6_1, rfl, hM137, hu138⟩
      refine ⟨_, rfl, ?_⟩
      have hl141 := ki_World_len (ki_World.K_of_M hM137)
      have ho142 := ki_World_one (ki_World.K_of_M hM137)
      have H143 : St w No [hM ki_World x0 cs_6_1, hB g_5_7 36 (List.toArray cs_5_6), hM ki_World (ntW a1 a2 x3 x0) cs_5_6, hB g_0_1 29 (List.toArray cs3), hB g_0_0 27 (List.toArray cs0)] W139 := H133.new hu138 hM137
      clear H133
      refine ops_cons ?_
      refine op_alloc rfl Tryz.zeroValue36 rfl rfl H143 ?_
      intro g_6_2 W144 hu145 Ha146
      clear H143
      have H147 : St w No [hB g_6_2 36 #[.slice none 0 0, .slice none 0 0, .slice none 0 0, .slice none 0 0, .int .i64 (0)], hM ki_World x0 cs_6_1, hB g_5_7 36 (List.toArray cs_5_6), hM ki_World (ntW a1 a2 x3 x0) cs_5_6, hB g_0_1 29 (List.toArray cs3), hB g_0_0 27 (List.toArray cs0)] W144 := Ha146
      clear Ha146
      clear hu145
      refine ops_cons ?_
      refine op_storeW rfl Tryz.sizeOf36 rfl rfl (ki_World_len (H147.kn 1 rfl)) rfl (ki_World_one (H147.kn 1 rfl)) H147 ?_
      intro W148 hu149 Ha150
      clear H147
      have H151 : St w No [hB g_6_2 36 (List.toArray cs_6_1), hM ki_World x0 cs_6_1, hB g_5_7 36 (List.toArray cs_5_6), hM ki_World (ntW a1 a2 x3 x0) cs_5_6, hB g_0_1 29 (List.toArray cs3), hB g_0_0 27 (List.toArray cs0)] W148 := Ha150
      clear Ha150
      clear hu149
      refine ops_nil ?_
      refine then_n ?_
      refine wp_seq ?_
      refine reg_cut (fun a' W' => ∃ (cs_7_5 : List Value) (g_7_6 : Nat) (x' : Nat → Value), a' = actOf 87 x' [(1, .int .i64 (a1)), (2, .int .i64 (a2)), (4, .pointer (some ⟨g_0_0, 0, none⟩)), (7, .pointer (some ⟨g_0_1, 0, none⟩)), (10, .pointer (some ⟨g_5_7, 0, none⟩)), (11, .pointer (some ⟨g_6_2, 0, none⟩)), (12, .pointer (some ⟨g_7_6, 0, none⟩))] ∧ St w No [hB g_7_6 36 (List.toArray cs_7_5), hM ki_World (ntW a1 a2 x3 x0) cs_7_5, hB g_6_2 36 (List.toArray cs_6_1), hM ki_World x0 cs_6_1, hB g_5_7 36 (List.toArray cs_5_6), hM ki_World (ntW a1 a2 x3 x0) cs_5_6, hB g_0_1 29 (List.toArray cs3), hB g_0_0 27 (List.toArray cs0)] W') ?_ ?_
      · refine reg_draw (fun W' => Blk W' g_6_2 36 (List.toArray cs_6_1) ∧ Blk W' g_0_1 29 (List.toArray cs3)) 8 (by kernel_rfl) ?_
        have H152 : St w No [hB g_6_2 36 (List.toArray cs_6_1), hM ki_World x0 cs_6_1, hB g_5_7 36 (List.toArray cs_5_6), hM ki_World (ntW a1 a2 x3 x0) cs_5_6, hB g_0_1 29 (List.toArray cs3), hB g_0_0 27 (List.toArray cs0)] W148.drew := H151.drew
        clear H151
        have hS153 : Blk W148.drew g_6_2 36 (List.toArray cs_6_1) ∧ Blk W148.drew g_0_1 29 (List.toArray cs3) := ⟨H152.blk 0 rfl, H152.blk 4 rfl⟩
        refine anyS_take (i := 0) rfl (by kernel_rfl) (by kernel_rfl) (by kernel_rfl) (by kernel_rfl) (by kernel_rfl) (fun _ _ _ h => h) rfl rfl hS153 (fun W' hs' => rn_loadB Tryz.isAgg36 Tryz.sizeOf36 rfl hs'.1 (ki_World_len (H152.kn 1 rfl))) ?_
        refine anyS_take (i := 1) rfl (by kernel_rfl) (by kernel_rfl) (by kernel_rfl) (by kernel_rfl) (by kernel_rfl) (fun _ _ _ h => h) rfl rfl hS153 (fun W' hs' => rn_move rfl) ?_
        refine anyS_take (i := 2) rfl (by kernel_rfl) (by kernel_rfl) (by kernel_rfl) (by kernel_rfl) (by kernel_rfl) (fun _ _ _ h => h) rfl rfl hS153 (fun W' hs' => rn_move rfl) ?_
        refine anyS_take (i := 3) rfl (by kernel_rfl) (by kernel_rfl) (by kernel_rfl) (by kernel_rfl) (by kernel_rfl) (fun _ _ _ h => h) rfl rfl hS153 (fun W' hs' => rn_loadB Tryz.isAgg29 Tryz.sizeOf29 rfl hs'.2 hl3_) ?_
        refine anyS_two (i := 4) (i2 := 6) (by kernel_rfl) ?_ ?_
        · refine op_call rfl Tryz.call13 (vs := #[.agg (List.toArray cs3)]) rfl rfl rfl (to_Tag x3 _ _ (K_upd H152.1 hK3) (by simp [szn_Tag])) ?_
          rintro e158 W157 ⟨cs_7_4, rfl, hM155, hu156⟩
          refine ⟨_, rfl, ?_⟩
          have hl159 := ki_Tag_len (ki_Tag.K_of_M hM155)
          have ho160 := ki_Tag_one (ki_Tag.K_of_M hM155)
          have H161 : St w No [hM ki_Tag x3 cs_7_4, hB g_6_2 36 (List.toArray cs_6_1), hM ki_World x0 cs_6_1, hB g_5_7 36 (List.toArray cs_5_6), hM ki_World (ntW a1 a2 x3 x0) cs_5_6, hB g_0_1 29 (List.toArray cs3), hB g_0_0 27 (List.toArray cs0)] W157 := H152.new hu156 hM155
          clear H152
          have hS162 : Blk W157 g_6_2 36 (List.toArray cs_6_1) ∧ Blk W157 g_0_1 29 (List.toArray cs3) := ⟨H161.blk 1 rfl, H161.blk 5 rfl⟩
          refine ⟨fun _ => hS162, ?_⟩
          refine anyS_two (i := 5) (i2 := 6) (by kernel_rfl) ?_ ?_
          · refine op_call rfl Tryz.call14 (vs := #[.agg (List.toArray cs_6_1), .int .i64 (a1), .int .i64 (a2), .agg (List.toArray cs_7_4)]) rfl rfl rfl (noteTurn_i x0 _ a1 a2 x3 _ _ (H161.kn 2 rfl) (Nat.le_trans hs_x0 (by decide)) (H161.kn 0 rfl)) ?_
            rintro e166 W165 ⟨cs_7_5, rfl, hM163, hu164⟩
            refine ⟨_, rfl, ?_⟩
            have H167 : St w No [hM ki_World (ntW a1 a2 x3 x0) cs_7_5, hM ki_Tag x3 cs_7_4, hB g_6_2 36 (List.toArray cs_6_1), hM ki_World x0 cs_6_1, hB g_5_7 36 (List.toArray cs_5_6), hM ki_World (ntW a1 a2 x3 x0) cs_5_6, hB g_0_1 29 (List.toArray cs3), hB g_0_0 27 (List.toArray cs0)] W165 := H161.new hu164 hM163
            clear H161
            have hS168 : Blk W165 g_6_2 36 (List.toArray cs_6_1) ∧ Blk W165 g_0_1 29 (List.toArray cs3) := ⟨H167.blk 2 rfl, H167.blk 6 rfl⟩
            refine ⟨fun _ => hS168, ?_⟩
            refine anyS_one (i := 6) (by kernel_rfl) ?_
            refine op_alloc rfl Tryz.zeroValue36 rfl rfl H167 ?_
            intro g_7_6 W169 hu170 Ha171
            clear H167
            have H172 : St w No [hB g_7_6 36 #[.slice none 0 0, .slice none 0 0, .slice none 0 0, .slice none 0 0, .int .i64 (0)], hM ki_World (ntW a1 a2 x3 x0) cs_7_5, hM ki_Tag x3 cs_7_4, hB g_6_2 36 (List.toArray cs_6_1), hM ki_World x0 cs_6_1, hB g_5_7 36 (List.toArray cs_5_6), hM ki_World (ntW a1 a2 x3 x0) cs_5_6, hB g_0_1 29 (List.toArray cs3), hB g_0_0 27 (List.toArray cs0)] W169 := Ha171
            clear Ha171
            clear hu170
            have hS173 : Blk W169 g_6_2 36 (List.toArray cs_6_1) ∧ Blk W169 g_0_1 29 (List.toArray cs3) := ⟨H172.blk 3 rfl, H172.blk 7 rfl⟩
            refine ⟨fun _ => hS173, ?_⟩
            refine anyS_one (i := 7) (by kernel_rfl) ?_
            refine op_storeW rfl Tryz.sizeOf36 rfl rfl (ki_World_len (H172.kn 1 rfl)) rfl (ki_World_one (H172.kn 1 rfl)) H172 ?_
            intro W174 hu175 Ha176
            clear H172
            have H177 : St w No [hB g_7_6 36 (List.toArray cs_7_5), hM ki_World (ntW a1 a2 x3 x0) cs_7_5, hM ki_Tag x3 cs_7_4, hB g_6_2 36 (List.toArray cs_6_1), hM ki_World x0 cs_6_1, hB g_5_7 36 (List.toArray cs_5_6), hM ki_World (ntW a1 a2 x3 x0) cs_5_6, hB g_0_1 29 (List.toArray cs3), hB g_0_0 27 (List.toArray cs0)] W174 := Ha176
            clear Ha176
            clear hu175
            have hS178 : Blk W174 g_6_2 36 (List.toArray cs_6_1) ∧ Blk W174 g_0_1 29 (List.toArray cs3) := ⟨H177.blk 3 rfl, H177.blk 7 rfl⟩
            refine ⟨fun _ => hS178, ?_⟩
            refine anyS_done (by kernel_rfl) ?_ _
            exact (actOf_drop2 [(1, .int .i64 (a1)), (2, .int .i64 (a2)), (4, .pointer (some ⟨g_0_0, 0, none⟩)), (7, .pointer (some ⟨g_0_1, 0, none⟩)), (10, .pointer (some ⟨g_5_7, 0, none⟩)), (11, .pointer (some ⟨g_6_2, 0, none⟩)), (12, .pointer (some ⟨g_7_6, 0, none⟩))] rfl).elim fun x' hx => ⟨cs_7_5, g_7_6, x', hx, H177.pick [0, 1, 3, 4, 5, 6, 7, 8] (by decide) rfl⟩
          · refine op_alloc rfl Tryz.zeroValue36 rfl rfl H161 ?_
            intro g_7_6 W179 hu180 Ha181
            clear H161
            have H182 : St w No [hB g_7_6 36 #[.slice none 0 0, .slice none 0 0, .slice none 0 0, .slice none 0 0, .int .i64 (0)], hM ki_Tag x3 cs_7_4, hB g_6_2 36 (List.toArray cs_6_1), hM ki_World x0 cs_6_1, hB g_5_7 36 (List.toArray cs_5_6), hM ki_World (ntW a1 a2 x3 x0) cs_5_6, hB g_0_1 29 (List.toArray cs3), hB g_0_0 27 (List.toArray cs0)] W179 := Ha181
            clear Ha181
            clear hu180
            have hS183 : Blk W179 g_6_2 36 (List.toArray cs_6_1) ∧ Blk W179 g_0_1 29 (List.toArray cs3) := ⟨H182.blk 2 rfl, H182.blk 6 rfl⟩
            refine ⟨fun _ => hS183, ?_⟩
            refine anyS_one (i := 5) (by kernel_rfl) ?_
            refine op_call rfl Tryz.call14 (vs := #[.agg (List.toArray cs_6_1), .int .i64 (a1), .int .i64 (a2), .agg (List.toArray cs_7_4)]) rfl rfl rfl (noteTurn_i x0 _ a1 a2 x3 _ _ (H182.kn 3 rfl) (Nat.le_trans hs_x0 (by decide)) (H182.kn 1 rfl)) ?_
            rintro e187 W186 ⟨cs_7_5, rfl, hM184, hu185⟩
            refine ⟨_, rfl, ?_⟩
            have H188 : St w No [hM ki_World (ntW a1 a2 x3 x0) cs_7_5, hB g_7_6 36 #[.slice none 0 0, .slice none 0 0, .slice none 0 0, .slice none 0 0, .int .i64 (0)], hM ki_Tag x3 cs_7_4, hB g_6_2 36 (List.toArray cs_6_1), hM ki_World x0 cs_6_1, hB g_5_7 36 (List.toArray cs_5_6), hM ki_World (ntW a1 a2 x3 x0) cs_5_6, hB g_0_1 29 (List.toArray cs3), hB g_0_0 27 (List.toArray cs0)] W186 := H182.new hu185 hM184
            clear H182
            have hS189 : Blk W186 g_6_2 36 (List.toArray cs_6_1) ∧ Blk W186 g_0_1 29 (List.toArray cs3) := ⟨H188.blk 3 rfl, H188.blk 7 rfl⟩
            refine ⟨fun _ => hS189, ?_⟩
            refine anyS_one (i := 7) (by kernel_rfl) ?_
            have H193 : St w No [hB g_7_6 36 #[.slice none 0 0, .slice none 0 0, .slice none 0 0, .slice none 0 0, .int .i64 (0)], hM ki_World (ntW a1 a2 x3 x0) cs_7_5, hM ki_Tag x3 cs_7_4, hB g_6_2 36 (List.toArray cs_6_1), hM ki_World x0 cs_6_1, hB g_5_7 36 (List.toArray cs_5_6), hM ki_World (ntW a1 a2 x3 x0) cs_5_6, hB g_0_1 29 (List.toArray cs3), hB g_0_0 27 (List.toArray cs0)] W186 := H188.pick [1, 0, 2, 3, 4, 5, 6, 7, 8] (by decide) rfl
            clear H188
            refine op_storeW rfl Tryz.sizeOf36 rfl rfl (ki_World_len (H193.kn 1 rfl)) rfl (ki_World_one (H193.kn 1 rfl)) H193 ?_
            intro W190 hu191 Ha192
            clear H193
            have H194 : St w No [hB g_7_6 36 (List.toArray cs_7_5), hM ki_World (ntW a1 a2 x3 x0) cs_7_5, hM ki_Tag x3 cs_7_4, hB g_6_2 36 (List.toArray cs_6_1), hM ki_World x0 cs_6_1, hB g_5_7 36 (List.toArray cs_5_6), hM ki_World (ntW a1 a2 x3 x0) cs_5_6, hB g_0_1 29 (List.toArray cs3), hB g_0_0 27 (List.toArray cs0)] W190 := Ha192
            clear Ha192
            clear hu191
            have hS195 : Blk W190 g_6_2 36 (List.toArray cs_6_1) ∧ Blk W190 g_0_1 29 (List.toArray cs3) := ⟨H194.blk 3 rfl, H194.blk 7 rfl⟩
            refine ⟨fun _ => hS195, ?_⟩
            refine anyS_done (by kernel_rfl) ?_ _
            exact (actOf_drop2 [(1, .int .i64 (a1)), (2, .int .i64 (a2)), (4, .pointer (some ⟨g_0_0, 0, none⟩)), (7, .pointer (some ⟨g_0_1, 0, none⟩)), (10, .pointer (some ⟨g_5_7, 0, none⟩)), (11, .pointer (some ⟨g_6_2, 0, none⟩)), (12, .pointer (some ⟨g_7_6, 0, none⟩))] rfl).elim fun x' hx => ⟨cs_7_5, g_7_6, x', hx, H194.pick [0, 1, 3, 4, 5, 6, 7, 8] (by decide) rfl⟩
        · refine op_alloc rfl Tryz.zeroValue36 rfl rfl H152 ?_
          intro g_7_6 W196 hu197 Ha198
          clear H152
          have H199 : St w No [hB g_7_6 36 #[.slice none 0 0, .slice none 0 0, .slice none 0 0, .slice none 0 0, .int .i64 (0)], hB g_6_2 36 (List.toArray cs_6_1), hM ki_World x0 cs_6_1, hB g_5_7 36 (List.toArray cs_5_6), hM ki_World (ntW a1 a2 x3 x0) cs_5_6, hB g_0_1 29 (List.toArray cs3), hB g_0_0 27 (List.toArray cs0)] W196 := Ha198
          clear Ha198
          clear hu197
          have hS200 : Blk W196 g_6_2 36 (List.toArray cs_6_1) ∧ Blk W196 g_0_1 29 (List.toArray cs3) := ⟨H199.blk 1 rfl, H199.blk 5 rfl⟩
          refine ⟨fun _ => hS200, ?_⟩
          refine anyS_one (i := 4) (by kernel_rfl) ?_
          refine op_call rfl Tryz.call13 (vs := #[.agg (List.toArray cs3)]) rfl rfl rfl (to_Tag x3 _ _ (K_upd H199.1 hK3) (by simp [szn_Tag])) ?_
          rintro e205 W204 ⟨cs_7_4, rfl, hM202, hu203⟩
          refine ⟨_, rfl, ?_⟩
          have hl206 := ki_Tag_len (ki_Tag.K_of_M hM202)
          have ho207 := ki_Tag_one (ki_Tag.K_of_M hM202)
          have H208 : St w No [hM ki_Tag x3 cs_7_4, hB g_7_6 36 #[.slice none 0 0, .slice none 0 0, .slice none 0 0, .slice none 0 0, .int .i64 (0)], hB g_6_2 36 (List.toArray cs_6_1), hM ki_World x0 cs_6_1, hB g_5_7 36 (List.toArray cs_5_6), hM ki_World (ntW a1 a2 x3 x0) cs_5_6, hB g_0_1 29 (List.toArray cs3), hB g_0_0 27 (List.toArray cs0)] W204 := H199.new hu203 hM202
          clear H199
          have hS209 : Blk W204 g_6_2 36 (List.toArray cs_6_1) ∧ Blk W204 g_0_1 29 (List.toArray cs3) := ⟨H208.blk 2 rfl, H208.blk 6 rfl⟩
          refine ⟨fun _ => hS209, ?_⟩
          refine anyS_one (i := 5) (by kernel_rfl) ?_
          refine op_call rfl Tryz.call14 (vs := #[.agg (List.toArray cs_6_1), .int .i64 (a1), .int .i64 (a2), .agg (List.toArray cs_7_4)]) rfl rfl rfl (noteTurn_i x0 _ a1 a2 x3 _ _ (H208.kn 3 rfl) (Nat.le_trans hs_x0 (by decide)) (H208.kn 0 rfl)) ?_
          rintro e213 W212 ⟨cs_7_5, rfl, hM210, hu211⟩
          refine ⟨_, rfl, ?_⟩
          have H214 : St w No [hM ki_World (ntW a1 a2 x3 x0) cs_7_5, hM ki_Tag x3 cs_7_4, hB g_7_6 36 #[.slice none 0 0, .slice none 0 0, .slice none 0 0, .slice none 0 0, .int .i64 (0)], hB g_6_2 36 (List.toArray cs_6_1), hM ki_World x0 cs_6_1, hB g_5_7 36 (List.toArray cs_5_6), hM ki_World (ntW a1 a2 x3 x0) cs_5_6, hB g_0_1 29 (List.toArray cs3), hB g_0_0 27 (List.toArray cs0)] W212 := H208.new hu211 hM210
          clear H208
          have hS215 : Blk W212 g_6_2 36 (List.toArray cs_6_1) ∧ Blk W212 g_0_1 29 (List.toArray cs3) := ⟨H214.blk 3 rfl, H214.blk 7 rfl⟩
          refine ⟨fun _ => hS215, ?_⟩
          refine anyS_one (i := 7) (by kernel_rfl) ?_
          have H219 : St w No [hB g_7_6 36 #[.slice none 0 0, .slice none 0 0, .slice none 0 0, .slice none 0 0, .int .i64 (0)], hM ki_World (ntW a1 a2 x3 x0) cs_7_5, hM ki_Tag x3 cs_7_4, hB g_6_2 36 (List.toArray cs_6_1), hM ki_World x0 cs_6_1, hB g_5_7 36 (List.toArray cs_5_6), hM ki_World (ntW a1 a2 x3 x0) cs_5_6, hB g_0_1 29 (List.toArray cs3), hB g_0_0 27 (List.toArray cs0)] W212 := H214.pick [2, 0, 1, 3, 4, 5, 6, 7, 8] (by decide) rfl
          clear H214
          refine op_storeW rfl Tryz.sizeOf36 rfl rfl (ki_World_len (H219.kn 1 rfl)) rfl (ki_World_one (H219.kn 1 rfl)) H219 ?_
          intro W216 hu217 Ha218
          clear H219
          have H220 : St w No [hB g_7_6 36 (List.toArray cs_7_5), hM ki_World (ntW a1 a2 x3 x0) cs_7_5, hM ki_Tag x3 cs_7_4, hB g_6_2 36 (List.toArray cs_6_1), hM ki_World x0 cs_6_1, hB g_5_7 36 (List.toArray cs_5_6), hM ki_World (ntW a1 a2 x3 x0) cs_5_6, hB g_0_1 29 (List.toArray cs3), hB g_0_0 27 (List.toArray cs0)] W216 := Ha218
          clear Ha218
          clear hu217
          have hS221 : Blk W216 g_6_2 36 (List.toArray cs_6_1) ∧ Blk W216 g_0_1 29 (List.toArray cs3) := ⟨H220.blk 3 rfl, H220.blk 7 rfl⟩
          refine ⟨fun _ => hS221, ?_⟩
          refine anyS_done (by kernel_rfl) ?_ _
          exact (actOf_drop2 [(1, .int .i64 (a1)), (2, .int .i64 (a2)), (4, .pointer (some ⟨g_0_0, 0, none⟩)), (7, .pointer (some ⟨g_0_1, 0, none⟩)), (10, .pointer (some ⟨g_5_7, 0, none⟩)), (11, .pointer (some ⟨g_6_2, 0, none⟩)), (12, .pointer (some ⟨g_7_6, 0, none⟩))] rfl).elim fun x' hx => ⟨cs_7_5, g_7_6, x', hx, H220.pick [0, 1, 3, 4, 5, 6, 7, 8] (by decide) rfl⟩
      · rintro _ W223 ⟨cs_7_5, g_7_6, x224, rfl, H222⟩
        refine then_n ?_
        refine wp_seq ?_
        refine wp_seq ?_
        refine reg_seq [0, 1, 2, 3] rfl ?_
        refine ops_cons ?_
        refine op_pure rfl (rn_loadB Tryz.isAgg36 Tryz.sizeOf36 rfl (H222.blk 0 rfl) (ki_World_len (H222.kn 1 rfl))) rfl rfl ?_
        refine ops_cons ?_
        refine op_pure rfl (rn_loadB Tryz.isAgg36 Tryz.sizeOf36 rfl (H222.blk 4 rfl) (ki_World_len (H222.kn 5 rfl))) rfl rfl ?_
        refine ops_cons ?_
        refine op_call rfl Tryz.call15 (vs := #[.agg (List.toArray cs_7_5), .agg (List.toArray cs_5_6)]) rfl rfl rfl (eq_World (ntW a1 a2 x3 x0) _ _ _ (H222.kn 1 rfl) (H222.kn 5 rfl)) ?_
        rintro e227 W226 ⟨rfl, hu225⟩
        refine ⟨_, rfl, ?_⟩
        have H228 : St w No [hB g_7_6 36 (List.toArray cs_7_5), hM ki_World (ntW a1 a2 x3 x0) cs_7_5, hB g_6_2 36 (List.toArray cs_6_1), hM ki_World x0 cs_6_1, hB g_5_7 36 (List.toArray cs_5_6), hM ki_World (ntW a1 a2 x3 x0) cs_5_6, hB g_0_1 29 (List.toArray cs3), hB g_0_0 27 (List.toArray cs0)] W226 := H222.no hu225
        clear H222
        refine ops_cons ?_
        refine op_pure rfl (rn_not rfl) rfl rfl ?_
        refine ops_nil ?_
        refine then_n ?_
        refine cond_f rfl ?_
        refine wp_skip ?_
        refine then_n ?_
        refine wp_seq ?_
        refine wp_seq ?_
        refine reg_draw (fun W' => Blk W' g_6_2 36 (List.toArray cs_6_1) ∧ Blk W' g_0_0 27 (List.toArray cs0)) 5 (by kernel_rfl) ?_
        have H229 : St w No [hB g_7_6 36 (List.toArray cs_7_5), hM ki_World (ntW a1 a2 x3 x0) cs_7_5, hB g_6_2 36 (List.toArray cs_6_1), hM ki_World x0 cs_6_1, hB g_5_7 36 (List.toArray cs_5_6), hM ki_World (ntW a1 a2 x3 x0) cs_5_6, hB g_0_1 29 (List.toArray cs3), hB g_0_0 27 (List.toArray cs0)] W226.drew := H228.drew
        clear H228
        have hS230 : Blk W226.drew g_6_2 36 (List.toArray cs_6_1) ∧ Blk W226.drew g_0_0 27 (List.toArray cs0) := ⟨H229.blk 2 rfl, H229.blk 7 rfl⟩
        refine anyS_take (i := 0) rfl (by kernel_rfl) (by kernel_rfl) (by kernel_rfl) (by kernel_rfl) (by kernel_rfl) (fun _ _ _ h => h) rfl rfl hS230 (fun W' hs' => rn_loadB Tryz.isAgg36 Tryz.sizeOf36 rfl hs'.1 (ki_World_len (H229.kn 3 rfl))) ?_
        refine anyS_take (i := 1) rfl (by kernel_rfl) (by kernel_rfl) (by kernel_rfl) (by kernel_rfl) (by kernel_rfl) (fun _ _ _ h => h) rfl rfl hS230 (fun W' hs' => rn_loadB Tryz.isAgg27 Tryz.sizeOf27 rfl hs'.2 hl0_) ?_
        refine anyS_one (i := 2) (by kernel_rfl) ?_
        refine op_call rfl Tryz.call12 (vs := #[.agg (List.toArray cs0)]) rfl rfl rfl (to_World x0 _ _ (K_upd H229.1 hK0) hs_x0) ?_
        rintro e235 W234 ⟨cs_10_2, rfl, hM232, hu233⟩
        refine ⟨_, rfl, ?_⟩
        have hl236 := ki_World_len (ki_World.K_of_M hM232)
        have ho237 := ki_World_one (ki_World.K_of_M hM232)
        have H238 : St w No [hM ki_World x0 cs_10_2, hB g_7_6 36 (List.toArray cs_7_5), hM ki_World (ntW a1 a2 x3 x0) cs_7_5, hB g_6_2 36 (List.toArray cs_6_1), hM ki_World x0 cs_6_1, hB g_5_7 36 (List.toArray cs_5_6), hM ki_World (ntW a1 a2 x3 x0) cs_5_6, hB g_0_1 29 (List.toArray cs3), hB g_0_0 27 (List.toArray cs0)] W234 := H229.new hu233 hM232
        clear H229
        have hS239 : Blk W234 g_6_2 36 (List.toArray cs_6_1) ∧ Blk W234 g_0_0 27 (List.toArray cs0) := ⟨H238.blk 3 rfl, H238.blk 8 rfl⟩
        refine ⟨fun _ => hS239, ?_⟩
        refine anyS_one (i := 3) (by kernel_rfl) ?_
        refine op_call rfl Tryz.call15 (vs := #[.agg (List.toArray cs_6_1), .agg (List.toArray cs_10_2)]) rfl rfl rfl (eq_World x0 _ _ _ (H238.kn 4 rfl) (H238.kn 0 rfl)) ?_
        rintro e242 W241 ⟨rfl, hu240⟩
        refine ⟨_, rfl, ?_⟩
        have H243 : St w No [hM ki_World x0 cs_10_2, hB g_7_6 36 (List.toArray cs_7_5), hM ki_World (ntW a1 a2 x3 x0) cs_7_5, hB g_6_2 36 (List.toArray cs_6_1), hM ki_World x0 cs_6_1, hB g_5_7 36 (List.toArray cs_5_6), hM ki_World (ntW a1 a2 x3 x0) cs_5_6, hB g_0_1 29 (List.toArray cs3), hB g_0_0 27 (List.toArray cs0)] W241 := H238.no hu240
        clear H238
        have hS244 : Blk W241 g_6_2 36 (List.toArray cs_6_1) ∧ Blk W241 g_0_0 27 (List.toArray cs0) := ⟨H243.blk 3 rfl, H243.blk 8 rfl⟩
        refine ⟨fun _ => hS244, ?_⟩
        refine anyS_take (i := 4) rfl (by kernel_rfl) (by kernel_rfl) (by kernel_rfl) (by kernel_rfl) (by kernel_rfl) (fun _ _ _ h => h) rfl rfl hS244 (fun W' hs' => rn_not rfl) ?_
        refine anyS_done (by kernel_rfl) ?_ _
        refine then_n ?_
        refine cond_f rfl ?_
        refine wp_skip ?_
        refine then_n ?_
        refine wp_seq ?_
        refine reg_seq [0] rfl ?_
        refine ops_cons ?_
        refine op_pure rfl (rn_assign rfl) rfl rfl ?_
        refine ops_nil ?_
        refine then_n ?_
        refine wp_seq ?_
        refine reg_seq [0, 1, 2, 3] rfl ?_
        refine ops_cons ?_
        refine op_pure rfl (rn_loadB Tryz.isAgg36 Tryz.sizeOf36 rfl (H243.blk 3 rfl) (ki_World_len (H243.kn 4 rfl))) rfl rfl ?_
        refine ops_cons ?_
        refine op_pure rfl (rn_move rfl) rfl rfl ?_
        refine ops_cons ?_
        have H251 : St w No [hM ki_World x0 cs_6_1, hM ki_World x0 cs_10_2, hB g_7_6 36 (List.toArray cs_7_5), hM ki_World (ntW a1 a2 x3 x0) cs_7_5, hB g_6_2 36 (List.toArray cs_6_1), hB g_5_7 36 (List.toArray cs_5_6), hM ki_World (ntW a1 a2 x3 x0) cs_5_6, hB g_0_1 29 (List.toArray cs3), hB g_0_0 27 (List.toArray cs0)] W241 := H243.pick [4, 0, 1, 2, 3, 5, 6, 7, 8] (by decide) rfl
        clear H243
        obtain ⟨F246, hM247, hF248, hT249⟩ := H251.turn
        refine op_call rfl Tryz.call16 (vs := #[.agg (List.toArray cs_6_1), .int .i64 (1)]) rfl rfl rfl (markv_World_c x0 _ F246 _ _ hM247 (by omega) (by omega)) ?_
        rintro e253 W252 ⟨rfl, hM250, hu245⟩
        refine ⟨_, rfl, ?_⟩
        have H254 : St w No [hM ki_World (mkv_World 1 x0) cs_6_1, hM ki_World x0 cs_10_2, hB g_7_6 36 (List.toArray cs_7_5), hM ki_World (ntW a1 a2 x3 x0) cs_7_5, hB g_6_2 36 (List.toArray cs_6_1), hB g_5_7 36 (List.toArray cs_5_6), hM ki_World (ntW a1 a2 x3 x0) cs_5_6, hB g_0_1 29 (List.toArray cs3), hB g_0_0 27 (List.toArray cs0)] W252 := hT249 (hM ki_World (mkv_World 1 x0) cs_6_1) _ hu245 ((hM ki_World (mkv_World 1 x0) cs_6_1).mono (fun _ q => .inl q) hM250)
        clear H251
        refine ops_cons ?_
        refine op_pure rfl (rn_assign rfl) rfl rfl ?_
        refine ops_nil ?_
        refine then_n ?_
        refine wp_seq ?_
        refine wp_seq ?_
        refine reg_seq [0, 1, 2, 3, 4, 5, 6, 7] rfl ?_
        refine ops_cons ?_
        refine op_pure rfl (rn_move rfl) rfl rfl ?_
        refine ops_cons ?_
        refine op_pure rfl (rn_decF (by omega) (rn_lss rfl rfl)) rfl rfl ?_
        refine ops_cons ?_
        refine op_pure rfl (rn_move rfl) rfl rfl ?_
        refine ops_cons ?_
        refine op_G rfl rfl rfl rfl (fun _ ho255 => ?_)
        refine op_pure ho255 (rn_loadB Tryz.isAgg36 Tryz.sizeOf36 rfl (H254.blk 2 rfl) (ki_World_len (H254.kn 3 rfl))) rfl rfl ?_
        refine ops_cons ?_
        refine op_G rfl rfl rfl rfl (fun _ ho256 => ?_)
        refine op_pure ho256 (rn_loadB Tryz.isAgg36 Tryz.sizeOf36 rfl (H254.blk 5 rfl) (ki_World_len (H254.kn 6 rfl))) rfl rfl ?_
        refine ops_cons ?_
        refine op_G rfl rfl rfl rfl (fun _ ho257 => ?_)
        refine op_call ho257 Tryz.call15 (vs := #[.agg (List.toArray cs_7_5), .agg (List.toArray cs_5_6)]) rfl rfl rfl (eq_World (ntW a1 a2 x3 x0) _ _ _ (H254.kn 3 rfl) (H254.kn 6 rfl)) ?_
        rintro e260 W259 ⟨rfl, hu258⟩
        refine ⟨_, rfl, ?_⟩
        have H261 : St w No [hM ki_World (mkv_World 1 x0) cs_6_1, hM ki_World x0 cs_10_2, hB g_7_6 36 (List.toArray cs_7_5), hM ki_World (ntW a1 a2 x3 x0) cs_7_5, hB g_6_2 36 (List.toArray cs_6_1), hB g_5_7 36 (List.toArray cs_5_6), hM ki_World (ntW a1 a2 x3 x0) cs_5_6, hB g_0_1 29 (List.toArray cs3), hB g_0_0 27 (List.toArray cs0)] W259 := H254.no hu258
        clear H254
        refine ops_cons ?_
        refine op_G rfl rfl rfl rfl (fun _ ho262 => ?_)
        refine op_pure ho262 (rn_not rfl) rfl rfl ?_
        refine ops_cons ?_
        refine op_pure rfl (rn_pick (v := .bool (false)) (b := false) rfl rfl rfl rfl) rfl rfl ?_
        refine ops_nil ?_
        refine then_n ?_
        refine cond_f rfl ?_
        refine wp_skip ?_
        refine then_n ?_
        refine wp_seq ?_
        refine reg_seq [0] rfl ?_
        refine ops_cons ?_
        refine op_pure rfl (rn_assign rfl) rfl rfl ?_
        refine ops_nil ?_
        refine then_n ?_
        refine wp_seq ?_
        refine reg_seq [0, 1, 2, 3] rfl ?_
        refine ops_cons ?_
        refine op_pure rfl (rn_loadB Tryz.isAgg36 Tryz.sizeOf36 rfl (H261.blk 2 rfl) (ki_World_len (H261.kn 3 rfl))) rfl rfl ?_
        refine ops_cons ?_
        refine op_pure rfl (rn_move rfl) rfl rfl ?_
        refine ops_cons ?_
        have H269 : St w No [hM ki_World (ntW a1 a2 x3 x0) cs_7_5, hM ki_World (mkv_World 1 x0) cs_6_1, hM ki_World x0 cs_10_2, hB g_7_6 36 (List.toArray cs_7_5), hB g_6_2 36 (List.toArray cs_6_1), hB g_5_7 36 (List.toArray cs_5_6), hM ki_World (ntW a1 a2 x3 x0) cs_5_6, hB g_0_1 29 (List.toArray cs3), hB g_0_0 27 (List.toArray cs0)] W259 := H261.pick [3, 0, 1, 2, 4, 5, 6, 7, 8] (by decide) rfl
        clear H261
        obtain ⟨F264, hM265, hF266, hT267⟩ := H269.turn
        refine op_call rfl Tryz.call16 (vs := #[.agg (List.toArray cs_7_5), .int .i64 (1)]) rfl rfl rfl (markv_World_c (ntW a1 a2 x3 x0) _ F264 _ _ hM265 (by omega) (by omega)) ?_
        rintro e271 W270 ⟨rfl, hM268, hu263⟩
        refine ⟨_, rfl, ?_⟩
        have H272 : St w No [hM ki_World (mkv_World 1 (ntW a1 a2 x3 x0)) cs_7_5, hM ki_World (mkv_World 1 x0) cs_6_1, hM ki_World x0 cs_10_2, hB g_7_6 36 (List.toArray cs_7_5), hB g_6_2 36 (List.toArray cs_6_1), hB g_5_7 36 (List.toArray cs_5_6), hM ki_World (ntW a1 a2 x3 x0) cs_5_6, hB g_0_1 29 (List.toArray cs3), hB g_0_0 27 (List.toArray cs0)] W270 := hT267 (hM ki_World (mkv_World 1 (ntW a1 a2 x3 x0)) cs_7_5) _ hu263 ((hM ki_World (mkv_World 1 (ntW a1 a2 x3 x0)) cs_7_5).mono (fun _ q => .inl q) hM268)
        clear H269
        refine ops_cons ?_
        refine op_pure rfl (rn_assign rfl) rfl rfl ?_
        refine ops_nil ?_
        refine then_n ?_
        refine wp_seq ?_
        refine reg_seq [0] rfl ?_
        refine ops_cons ?_
        refine op_pure rfl (rn_assign rfl) rfl rfl ?_
        refine ops_nil ?_
        refine then_n ?_
        refine wp_seq ?_
        refine reg_seq [0, 1, 2, 3] rfl ?_
        refine ops_cons ?_
        refine op_pure rfl (rn_loadB Tryz.isAgg36 Tryz.sizeOf36 rfl (H272.blk 3 rfl) (ki_World_len (H272.kn 0 rfl))) rfl rfl ?_
        refine ops_cons ?_
        refine op_pure rfl (rn_move rfl) rfl rfl ?_
        refine ops_cons ?_
        refine op_call rfl Tryz.call17 (vs := #[.agg (List.toArray cs_7_5), .int .i64 (1)]) rfl rfl rfl (heldv_World_c (ntW a1 a2 x3 x0) _ _ _ (H272.kn 0 rfl) (by omega) (by omega)) ?_
        rintro e275 W274 ⟨rfl, hu273⟩
        refine ⟨_, rfl, ?_⟩
        have H276 : St w No [hM ki_World (mkv_World 1 (ntW a1 a2 x3 x0)) cs_7_5, hM ki_World (mkv_World 1 x0) cs_6_1, hM ki_World x0 cs_10_2, hB g_7_6 36 (List.toArray cs_7_5), hB g_6_2 36 (List.toArray cs_6_1), hB g_5_7 36 (List.toArray cs_5_6), hM ki_World (ntW a1 a2 x3 x0) cs_5_6, hB g_0_1 29 (List.toArray cs3), hB g_0_0 27 (List.toArray cs0)] W274 := H272.no hu273
        clear H272
        refine ops_cons ?_
        refine op_pure rfl (rn_assign rfl) rfl rfl ?_
        refine ops_nil ?_
        refine then_n ?_
        refine wp_seq ?_
        refine wp_seq ?_
        refine reg_seq [0, 1] rfl ?_
        refine ops_cons ?_
        refine op_pure rfl (rn_move rfl) rfl rfl ?_
        refine ops_cons ?_
        refine op_pure rfl (rn_decF (by omega) (rn_lss rfl rfl)) rfl rfl ?_
        refine ops_nil ?_
        refine then_n ?_
        refine cond_f rfl ?_
        refine wp_skip ?_
        refine then_n ?_
        refine wp_seq ?_
        refine wp_seq ?_
        refine reg_seq [0, 1, 2] rfl ?_
        refine ops_cons ?_
        refine op_pure rfl (rn_move rfl) rfl rfl ?_
        refine ops_cons ?_
        refine op_pure rfl (rn_move rfl) rfl rfl ?_
        refine ops_cons ?_
        refine op_pure rfl (rn_decF (not_not_intro rfl) (rn_neq rfl rfl)) rfl rfl ?_
        refine ops_nil ?_
        refine then_n ?_
        refine cond_f rfl ?_
        refine wp_skip ?_
        refine then_n ?_
        refine wp_seq ?_
        refine reg_cut (fun a' W' => ∃ (cs_24_6 : List Value) (g_24_7 : Nat) (x' : Nat → Value), a' = actOf 87 x' [(10, .pointer (some ⟨g_5_7, 0, none⟩)), (12, .pointer (some ⟨g_7_6, 0, none⟩)), (14, .int .i64 ((1 + cntv_World (ntW a1 a2 x3 x0)))), (16, .pointer (some ⟨g_24_7, 0, none⟩))] ∧ St w No [hB g_24_7 36 (List.toArray cs_24_6), hM ki_World (ntW a1 a2 x3 x0) cs_24_6, hM ki_World (mkv_World 1 (ntW a1 a2 x3 x0)) cs_7_5, hB g_7_6 36 (List.toArray cs_7_5), hB g_5_7 36 (List.toArray cs_5_6), hM ki_World (ntW a1 a2 x3 x0) cs_5_6] W') ?_ ?_
        · refine reg_draw (fun W' => Blk W' g_0_0 27 (List.toArray cs0) ∧ Blk W' g_0_1 29 (List.toArray cs3)) 9 (by kernel_rfl) ?_
          have H277 : St w No [hM ki_World (mkv_World 1 (ntW a1 a2 x3 x0)) cs_7_5, hM ki_World (mkv_World 1 x0) cs_6_1, hM ki_World x0 cs_10_2, hB g_7_6 36 (List.toArray cs_7_5), hB g_6_2 36 (List.toArray cs_6_1), hB g_5_7 36 (List.toArray cs_5_6), hM ki_World (ntW a1 a2 x3 x0) cs_5_6, hB g_0_1 29 (List.toArray cs3), hB g_0_0 27 (List.toArray cs0)] W274.drew := H276.drew
          clear H276
          have hS278 : Blk W274.drew g_0_0 27 (List.toArray cs0) ∧ Blk W274.drew g_0_1 29 (List.toArray cs3) := ⟨H277.blk 8 rfl, H277.blk 7 rfl⟩
          refine anyS_take (i := 0) rfl (by kernel_rfl) (by kernel_rfl) (by kernel_rfl) (by kernel_rfl) (by kernel_rfl) (fun _ _ _ h => h) rfl rfl hS278 (fun W' hs' => rn_loadB Tryz.isAgg27 Tryz.sizeOf27 rfl hs'.1 hl0_) ?_
          refine anyS_take (i := 2) rfl (by kernel_rfl) (by kernel_rfl) (by kernel_rfl) (by kernel_rfl) (by kernel_rfl) (fun _ _ _ h => h) rfl rfl hS278 (fun W' hs' => rn_move rfl) ?_
          refine anyS_take (i := 3) rfl (by kernel_rfl) (by kernel_rfl) (by kernel_rfl) (by kernel_rfl) (by kernel_rfl) (fun _ _ _ h => h) rfl rfl hS278 (fun W' hs' => rn_move rfl) ?_
          refine anyS_take (i := 4) rfl (by kernel_rfl) (by kernel_rfl) (by kernel_rfl) (by kernel_rfl) (by kernel_rfl) (fun _ _ _ h => h) rfl rfl hS278 (fun W' hs' => rn_loadB Tryz.isAgg29 Tryz.sizeOf29 rfl hs'.2 hl3_) ?_
          refine anyS_two (i := 1) (i2 := 7) (by kernel_rfl) ?_ ?_
          · refine op_call rfl Tryz.call12 (vs := #[.agg (List.toArray cs0)]) rfl rfl rfl (to_World x0 _ _ (K_upd H277.1 hK0) hs_x0) ?_
            rintro e283 W282 ⟨cs_24_1, rfl, hM280, hu281⟩
            refine ⟨_, rfl, ?_⟩
            have hl284 := ki_World_len (ki_World.K_of_M hM280)
            have ho285 := ki_World_one (ki_World.K_of_M hM280)
            have H286 : St w No [hM ki_World x0 cs_24_1, hM ki_World (mkv_World 1 (ntW a1 a2 x3 x0)) cs_7_5, hM ki_World (mkv_World 1 x0) cs_6_1, hM ki_World x0 cs_10_2, hB g_7_6 36 (List.toArray cs_7_5), hB g_6_2 36 (List.toArray cs_6_1), hB g_5_7 36 (List.toArray cs_5_6), hM ki_World (ntW a1 a2 x3 x0) cs_5_6, hB g_0_1 29 (List.toArray cs3), hB g_0_0 27 (List.toArray cs0)] W282 := H277.new hu281 hM280
            clear H277
            have hS287 : Blk W282 g_0_0 27 (List.toArray cs0) ∧ Blk W282 g_0_1 29 (List.toArray cs3) := ⟨H286.blk 9 rfl, H286.blk 8 rfl⟩
            refine ⟨fun _ => hS287, ?_⟩
            refine anyS_two (i := 5) (i2 := 7) (by kernel_rfl) ?_ ?_
            · refine op_call rfl Tryz.call13 (vs := #[.agg (List.toArray cs3)]) rfl rfl rfl (to_Tag x3 _ _ (K_upd H286.1 hK3) (by simp [szn_Tag])) ?_
              rintro e292 W291 ⟨cs_24_5, rfl, hM289, hu290⟩
              refine ⟨_, rfl, ?_⟩
              have hl293 := ki_Tag_len (ki_Tag.K_of_M hM289)
              have ho294 := ki_Tag_one (ki_Tag.K_of_M hM289)
              have H295 : St w No [hM ki_Tag x3 cs_24_5, hM ki_World x0 cs_24_1, hM ki_World (mkv_World 1 (ntW a1 a2 x3 x0)) cs_7_5, hM ki_World (mkv_World 1 x0) cs_6_1, hM ki_World x0 cs_10_2, hB g_7_6 36 (List.toArray cs_7_5), hB g_6_2 36 (List.toArray cs_6_1), hB g_5_7 36 (List.toArray cs_5_6), hM ki_World (ntW a1 a2 x3 x0) cs_5_6, hB g_0_1 29 (List.toArray cs3), hB g_0_0 27 (List.toArray cs0)] W291 := H286.new hu290 hM289
              clear H286
              have hS296 : Blk W291 g_0_0 27 (List.toArray cs0) ∧ Blk W291 g_0_1 29 (List.toArray cs3) := ⟨H295.blk 10 rfl, H295.blk 9 rfl⟩
              refine ⟨fun _ => hS296, ?_⟩
              refine anyS_two (i := 6) (i2 := 7) (by kernel_rfl) ?_ ?_
              · refine op_call rfl Tryz.call14 (vs := #[.agg (List.toArray cs_24_1), .int .i64 (a1), .int .i64 (a2), .agg (List.toArray cs_24_5)]) rfl rfl rfl (noteTurn_i x0 _ a1 a2 x3 _ _ (H295.kn 1 rfl) (Nat.le_trans hs_x0 (by decide)) (H295.kn 0 rfl)) ?_
                rintro e300 W299 ⟨cs_24_6, rfl, hM297, hu298⟩
                refine ⟨_, rfl, ?_⟩
                have H301 : St w No [hM ki_World (ntW a1 a2 x3 x0) cs_24_6, hM ki_Tag x3 cs_24_5, hM ki_World x0 cs_24_1, hM ki_World (mkv_World 1 (ntW a1 a2 x3 x0)) cs_7_5, hM ki_World (mkv_World 1 x0) cs_6_1, hM ki_World x0 cs_10_2, hB g_7_6 36 (List.toArray cs_7_5), hB g_6_2 36 (List.toArray cs_6_1), hB g_5_7 36 (List.toArray cs_5_6), hM ki_World (ntW a1 a2 x3 x0) cs_5_6, hB g_0_1 29 (List.toArray cs3), hB g_0_0 27 (List.toArray cs0)] W299 := H295.new hu298 hM297
                clear H295
                have hS302 : Blk W299 g_0_0 27 (List.toArray cs0) ∧ Blk W299 g_0_1 29 (List.toArray cs3) := ⟨H301.blk 11 rfl, H301.blk 10 rfl⟩
                refine ⟨fun _ => hS302, ?_⟩
                refine anyS_one (i := 7) (by kernel_rfl) ?_
                refine op_alloc rfl Tryz.zeroValue36 rfl rfl H301 ?_
                intro g_24_7 W303 hu304 Ha305
                clear H301
                have H306 : St w No [hB g_24_7 36 #[.slice none 0 0, .slice none 0 0, .slice none 0 0, .slice none 0 0, .int .i64 (0)], hM ki_World (ntW a1 a2 x3 x0) cs_24_6, hM ki_Tag x3 cs_24_5, hM ki_World x0 cs_24_1, hM ki_World (mkv_World 1 (ntW a1 a2 x3 x0)) cs_7_5, hM ki_World (mkv_World 1 x0) cs_6_1, hM ki_World x0 cs_10_2, hB g_7_6 36 (List.toArray cs_7_5), hB g_6_2 36 (List.toArray cs_6_1), hB g_5_7 36 (List.toArray cs_5_6), hM ki_World (ntW a1 a2 x3 x0) cs_5_6, hB g_0_1 29 (List.toArray cs3), hB g_0_0 27 (List.toArray cs0)] W303 := Ha305
                clear Ha305
                clear hu304
                have hS307 : Blk W303 g_0_0 27 (List.toArray cs0) ∧ Blk W303 g_0_1 29 (List.toArray cs3) := ⟨H306.blk 12 rfl, H306.blk 11 rfl⟩
                refine ⟨fun _ => hS307, ?_⟩
                refine anyS_one (i := 8) (by kernel_rfl) ?_
                refine op_storeW rfl Tryz.sizeOf36 rfl rfl (ki_World_len (H306.kn 1 rfl)) rfl (ki_World_one (H306.kn 1 rfl)) H306 ?_
                intro W308 hu309 Ha310
                clear H306
                have H311 : St w No [hB g_24_7 36 (List.toArray cs_24_6), hM ki_World (ntW a1 a2 x3 x0) cs_24_6, hM ki_Tag x3 cs_24_5, hM ki_World x0 cs_24_1, hM ki_World (mkv_World 1 (ntW a1 a2 x3 x0)) cs_7_5, hM ki_World (mkv_World 1 x0) cs_6_1, hM ki_World x0 cs_10_2, hB g_7_6 36 (List.toArray cs_7_5), hB g_6_2 36 (List.toArray cs_6_1), hB g_5_7 36 (List.toArray cs_5_6), hM ki_World (ntW a1 a2 x3 x0) cs_5_6, hB g_0_1 29 (List.toArray cs3), hB g_0_0 27 (List.toArray cs0)] W308 := Ha310
                clear Ha310
                clear hu309
                have hS312 : Blk W308 g_0_0 27 (List.toArray cs0) ∧ Blk W308 g_0_1 29 (List.toArray cs3) := ⟨H311.blk 12 rfl, H311.blk 11 rfl⟩
                refine ⟨fun _ => hS312, ?_⟩
                refine anyS_done (by kernel_rfl) ?_ _
                exact (actOf_drop2 [(10, .pointer (some ⟨g_5_7, 0, none⟩)), (12, .pointer (some ⟨g_7_6, 0, none⟩)), (14, .int .i64 ((1 + cntv_World (ntW a1 a2 x3 x0)))), (16, .pointer (some ⟨g_24_7, 0, none⟩))] rfl).elim fun x' hx => ⟨cs_24_6, g_24_7, x', hx, H311.pick [0, 1, 4, 7, 9, 10] (by decide) rfl⟩
              · refine op_alloc rfl Tryz.zeroValue36 rfl rfl H295 ?_
                intro g_24_7 W313 hu314 Ha315
                clear H295
                have H316 : St w No [hB g_24_7 36 #[.slice none 0 0, .slice none 0 0, .slice none 0 0, .slice none 0 0, .int .i64 (0)], hM ki_Tag x3 cs_24_5, hM ki_World x0 cs_24_1, hM ki_World (mkv_World 1 (ntW a1 a2 x3 x0)) cs_7_5, hM ki_World (mkv_World 1 x0) cs_6_1, hM ki_World x0 cs_10_2, hB g_7_6 36 (List.toArray cs_7_5), hB g_6_2 36 (List.toArray cs_6_1), hB g_5_7 36 (List.toArray cs_5_6), hM ki_World (ntW a1 a2 x3 x0) cs_5_6, hB g_0_1 29 (List.toArray cs3), hB g_0_0 27 (List.toArray cs0)] W313 := Ha315
                clear Ha315
                clear hu314
                have hS317 : Blk W313 g_0_0 27 (List.toArray cs0) ∧ Blk W313 g_0_1 29 (List.toArray cs3) := ⟨H316.blk 11 rfl, H316.blk 10 rfl⟩
                refine ⟨fun _ => hS317, ?_⟩
                refine anyS_one (i := 6) (by kernel_rfl) ?_
                refine op_call rfl Tryz.call14 (vs := #[.agg (List.toArray cs_24_1), .int .i64 (a1), .int .i64 (a2), .agg (List.toArray cs_24_5)]) rfl rfl rfl (noteTurn_i x0 _ a1 a2 x3 _ _ (H316.kn 2 rfl) (Nat.le_trans hs_x0 (by decide)) (H316.kn 1 rfl)) ?_
                rintro e321 W320 ⟨cs_24_6, rfl, hM318, hu319⟩
                refine ⟨_, rfl, ?_⟩
                have H322 : St w No [hM ki_World (ntW a1 a2 x3 x0) cs_24_6, hB g_24_7 36 #[.slice none 0 0, .slice none 0 0, .slice none 0 0, .slice none 0 0, .int .i64 (0)], hM ki_Tag x3 cs_24_5, hM ki_World x0 cs_24_1, hM ki_World (mkv_World 1 (ntW a1 a2 x3 x0)) cs_7_5, hM ki_World (mkv_World 1 x0) cs_6_1, hM ki_World x0 cs_10_2, hB g_7_6 36 (List.toArray cs_7_5), hB g_6_2 36 (List.toArray cs_6_1), hB g_5_7 36 (List.toArray cs_5_6), hM ki_World (ntW a1 a2 x3 x0) cs_5_6, hB g_0_1 29 (List.toArray cs3), hB g_0_0 27 (List.toArray cs0)] W320 := H316.new hu319 hM318
                clear H316
                have hS323 : Blk W320 g_0_0 27 (List.toArray cs0) ∧ Blk W320 g_0_1 29 (List.toArray cs3) := ⟨H322.blk 12 rfl, H322.blk 11 rfl⟩
                refine ⟨fun _ => hS323, ?_⟩
                refine anyS_one (i := 8) (by kernel_rfl) ?_
                have H327 : St w No [hB g_24_7 36 #[.slice none 0 0, .slice none 0 0, .slice none 0 0, .slice none 0 0, .int .i64 (0)], hM ki_World (ntW a1 a2 x3 x0) cs_24_6, hM ki_Tag x3 cs_24_5, hM ki_World x0 cs_24_1, hM ki_World (mkv_World 1 (ntW a1 a2 x3 x0)) cs_7_5, hM ki_World (mkv_World 1 x0) cs_6_1, hM ki_World x0 cs_10_2, hB g_7_6 36 (List.toArray cs_7_5), hB g_6_2 36 (List.toArray cs_6_1), hB g_5_7 36 (List.toArray cs_5_6), hM ki_World (ntW a1 a2 x3 x0) cs_5_6, hB g_0_1 29 (List.toArray cs3), hB g_0_0 27 (List.toArray cs0)] W320 := H322.pick [1, 0, 2, 3, 4, 5, 6, 7, 8, 9, 10, 11, 12] (by decide) rfl
                clear H322
                refine op_storeW rfl Tryz.sizeOf36 rfl rfl (ki_World_len (H327.kn 1 rfl)) rfl (ki_World_one (H327.kn 1 rfl)) H327 ?_
                intro W324 hu325 Ha326
                clear H327
                have H328 : St w No [hB g_24_7 36 (List.toArray cs_24_6), hM ki_World (ntW a1 a2 x3 x0) cs_24_6, hM ki_Tag x3 cs_24_5, hM ki_World x0 cs_24_1, hM ki_World (mkv_World 1 (ntW a1 a2 x3 x0)) cs_7_5, hM ki_World (mkv_World 1 x0) cs_6_1, hM ki_World x0 cs_10_2, hB g_7_6 36 (List.toArray cs_7_5), hB g_6_2 36 (List.toArray cs_6_1), hB g_5_7 36 (List.toArray cs_5_6), hM ki_World (ntW a1 a2 x3 x0) cs_5_6, hB g_0_1 29 (List.toArray cs3), hB g_0_0 27 (List.toArray cs0)] W324 := Ha326
                clear Ha326
                clear hu325
                have hS329 : Blk W324 g_0_0 27 (List.toArray cs0) ∧ Blk W324 g_0_1 29 (List.toArray cs3) := ⟨H328.blk 12 rfl, H328.blk 11 rfl⟩
                refine ⟨fun _ => hS329, ?_⟩
                refine anyS_done (by kernel_rfl) ?_ _
                exact (actOf_drop2 [(10, .pointer (some ⟨g_5_7, 0, none⟩)), (12, .pointer (some ⟨g_7_6, 0, none⟩)), (14, .int .i64 ((1 + cntv_World (ntW a1 a2 x3 x0)))), (16, .pointer (some ⟨g_24_7, 0, none⟩))] rfl).elim fun x' hx => ⟨cs_24_6, g_24_7, x', hx, H328.pick [0, 1, 4, 7, 9, 10] (by decide) rfl⟩
            · refine op_alloc rfl Tryz.zeroValue36 rfl rfl H286 ?_
              intro g_24_7 W330 hu331 Ha332
              clear H286
              have H333 : St w No [hB g_24_7 36 #[.slice none 0 0, .slice none 0 0, .slice none 0 0, .slice none 0 0, .int .i64 (0)], hM ki_World x0 cs_24_1, hM ki_World (mkv_World 1 (ntW a1 a2 x3 x0)) cs_7_5, hM ki_World (mkv_World 1 x0) cs_6_1, hM ki_World x0 cs_10_2, hB g_7_6 36 (List.toArray cs_7_5), hB g_6_2 36 (List.toArray cs_6_1), hB g_5_7 36 (List.toArray cs_5_6), hM ki_World (ntW a1 a2 x3 x0) cs_5_6, hB g_0_1 29 (List.toArray cs3), hB g_0_0 27 (List.toArray cs0)] W330 := Ha332
              clear Ha332
              clear hu331
              have hS334 : Blk W330 g_0_0 27 (List.toArray cs0) ∧ Blk W330 g_0_1 29 (List.toArray cs3) := ⟨H333.blk 10 rfl, H333.blk 9 rfl⟩
              refine ⟨fun _ => hS334, ?_⟩
              refine anyS_one (i := 5) (by kernel_rfl) ?_
              refine op_call rfl Tryz.call13 (vs := #[.agg (List.toArray cs3)]) rfl rfl rfl (to_Tag x3 _ _ (K_upd H333.1 hK3) (by simp [szn_Tag])) ?_
              rintro e339 W338 ⟨cs_24_5, rfl, hM336, hu337⟩
              refine ⟨_, rfl, ?_⟩
              have hl340 := ki_Tag_len (ki_Tag.K_of_M hM336)
              have ho341 := ki_Tag_one (ki_Tag.K_of_M hM336)
              have H342 : St w No [hM ki_Tag x3 cs_24_5, hB g_24_7 36 #[.slice none 0 0, .slice none 0 0, .slice none 0 0, .slice none 0 0, .int .i64 (0)], hM ki_World x0 cs_24_1, hM ki_World (mkv_World 1 (ntW a1 a2 x3 x0)) cs_7_5, hM ki_World (mkv_World 1 x0) cs_6_1, hM ki_World x0 cs_10_2, hB g_7_6 36 (List.toArray cs_7_5), hB g_6_2 36 (List.toArray cs_6_1), hB g_5_7 36 (List.toArray cs_5_6), hM ki_World (ntW a1 a2 x3 x0) cs_5_6, hB g_0_1 29 (List.toArray cs3), hB g_0_0 27 (List.toArray cs0)] W338 := H333.new hu337 hM336
              clear H333
              have hS343 : Blk W338 g_0_0 27 (List.toArray cs0) ∧ Blk W338 g_0_1 29 (List.toArray cs3) := ⟨H342.blk 11 rfl, H342.blk 10 rfl⟩
              refine ⟨fun _ => hS343, ?_⟩
              refine anyS_one (i := 6) (by kernel_rfl) ?_
              refine op_call rfl Tryz.call14 (vs := #[.agg (List.toArray cs_24_1), .int .i64 (a1), .int .i64 (a2), .agg (List.toArray cs_24_5)]) rfl rfl rfl (noteTurn_i x0 _ a1 a2 x3 _ _ (H342.kn 2 rfl) (Nat.le_trans hs_x0 (by decide)) (H342.kn 0 rfl)) ?_
              rintro e347 W346 ⟨cs_24_6, rfl, hM344, hu345⟩
              refine ⟨_, rfl, ?_⟩
              have H348 : St w No [hM ki_World (ntW a1 a2 x3 x0) cs_24_6, hM ki_Tag x3 cs_24_5, hB g_24_7 36 #[.slice none 0 0, .slice none 0 0, .slice none 0 0, .slice none 0 0, .int .i64 (0)], hM ki_World x0 cs_24_1, hM ki_World (mkv_World 1 (ntW a1 a2 x3 x0)) cs_7_5, hM ki_World (mkv_World 1 x0) cs_6_1, hM ki_World x0 cs_10_2, hB g_7_6 36 (List.toArray cs_7_5), hB g_6_2 36 (List.toArray cs_6_1), hB g_5_7 36 (List.toArray cs_5_6), hM ki_World (ntW a1 a2 x3 x0) cs_5_6, hB g_0_1 29 (List.toArray cs3), hB g_0_0 27 (List.toArray cs0)] W346 := H342.new hu345 hM344
              clear H342
              have hS349 : Blk W346 g_0_0 27 (List.toArray cs0) ∧ Blk W346 g_0_1 29 (List.toArray cs3) := ⟨H348.blk 12 rfl, H348.blk 11 rfl⟩
              refine ⟨fun _ => hS349, ?_⟩
              refine anyS_one (i := 8) (by kernel_rfl) ?_
              have H353 : St w No [hB g_24_7 36 #[.slice none 0 0, .slice none 0 0, .slice none 0 0, .slice none 0 0, .int .i64 (0)], hM ki_World (ntW a1 a2 x3 x0) cs_24_6, hM ki_Tag x3 cs_24_5, hM ki_World x0 cs_24_1, hM ki_World (mkv_World 1 (ntW a1 a2 x3 x0)) cs_7_5, hM ki_World (mkv_World 1 x0) cs_6_1, hM ki_World x0 cs_10_2, hB g_7_6 36 (List.toArray cs_7_5), hB g_6_2 36 (List.toArray cs_6_1), hB g_5_7 36 (List.toArray cs_5_6), hM ki_World (ntW a1 a2 x3 x0) cs_5_6, hB g_0_1 29 (List.toArray cs3), hB g_0_0 27 (List.toArray cs0)] W346 := H348.pick [2, 0, 1, 3, 4, 5, 6, 7, 8, 9, 10, 11, 12] (by decide) rfl
              clear H348
              refine op_storeW rfl Tryz.sizeOf36 rfl rfl (ki_World_len (H353.kn 1 rfl)) rfl (ki_World_one (H353.kn 1 rfl)) H353 ?_
              intro W350 hu351 Ha352
              clear H353
              have H354 : St w No [hB g_24_7 36 (List.toArray cs_24_6), hM ki_World (ntW a1 a2 x3 x0) cs_24_6, hM ki_Tag x3 cs_24_5, hM ki_World x0 cs_24_1, hM ki_World (mkv_World 1 (ntW a1 a2 x3 x0)) cs_7_5, hM ki_World (mkv_World 1 x0) cs_6_1, hM ki_World x0 cs_10_2, hB g_7_6 36 (List.toArray cs_7_5), hB g_6_2 36 (List.toArray cs_6_1), hB g_5_7 36 (List.toArray cs_5_6), hM ki_World (ntW a1 a2 x3 x0) cs_5_6, hB g_0_1 29 (List.toArray cs3), hB g_0_0 27 (List.toArray cs0)] W350 := Ha352
              clear Ha352
              clear hu351
              have hS355 : Blk W350 g_0_0 27 (List.toArray cs0) ∧ Blk W350 g_0_1 29 (List.toArray cs3) := ⟨H354.blk 12 rfl, H354.blk 11 rfl⟩
              refine ⟨fun _ => hS355, ?_⟩
              refine anyS_done (by kernel_rfl) ?_ _
              exact (actOf_drop2 [(10, .pointer (some ⟨g_5_7, 0, none⟩)), (12, .pointer (some ⟨g_7_6, 0, none⟩)), (14, .int .i64 ((1 + cntv_World (ntW a1 a2 x3 x0)))), (16, .pointer (some ⟨g_24_7, 0, none⟩))] rfl).elim fun x' hx => ⟨cs_24_6, g_24_7, x', hx, H354.pick [0, 1, 4, 7, 9, 10] (by decide) rfl⟩
          · refine op_alloc rfl Tryz.zeroValue36 rfl rfl H277 ?_
            intro g_24_7 W356 hu357 Ha358
            clear H277
            have H359 : St w No [hB g_24_7 36 #[.slice none 0 0, .slice none 0 0, .slice none 0 0, .slice none 0 0, .int .i64 (0)], hM ki_World (mkv_World 1 (ntW a1 a2 x3 x0)) cs_7_5, hM ki_World (mkv_World 1 x0) cs_6_1, hM ki_World x0 cs_10_2, hB g_7_6 36 (List.toArray cs_7_5), hB g_6_2 36 (List.toArray cs_6_1), hB g_5_7 36 (List.toArray cs_5_6), hM ki_World (ntW a1 a2 x3 x0) cs_5_6, hB g_0_1 29 (List.toArray cs3), hB g_0_0 27 (List.toArray cs0)] W356 := Ha358
            clear Ha358
            clear hu357
            have hS360 : Blk W356 g_0_0 27 (List.toArray cs0) ∧ Blk W356 g_0_1 29 (List.toArray cs3) := ⟨H359.blk 9 rfl, H359.blk 8 rfl⟩
            refine ⟨fun _ => hS360, ?_⟩
            refine anyS_one (i := 1) (by kernel_rfl) ?_
            refine op_call rfl Tryz.call12 (vs := #[.agg (List.toArray cs0)]) rfl rfl rfl (to_World x0 _ _ (K_upd H359.1 hK0) hs_x0) ?_
            rintro e365 W364 ⟨cs_24_1, rfl, hM362, hu363⟩
            refine ⟨_, rfl, ?_⟩
            have hl366 := ki_World_len (ki_World.K_of_M hM362)
            have ho367 := ki_World_one (ki_World.K_of_M hM362)
            have H368 : St w No [hM ki_World x0 cs_24_1, hB g_24_7 36 #[.slice none 0 0, .slice none 0 0, .slice none 0 0, .slice none 0 0, .int .i64 (0)], hM ki_World (mkv_World 1 (ntW a1 a2 x3 x0)) cs_7_5, hM ki_World (mkv_World 1 x0) cs_6_1, hM ki_World x0 cs_10_2, hB g_7_6 36 (List.toArray cs_7_5), hB g_6_2 36 (List.toArray cs_6_1), hB g_5_7 36 (List.toArray cs_5_6), hM ki_World (ntW a1 a2 x3 x0) cs_5_6, hB g_0_1 29 (List.toArray cs3), hB g_0_0 27 (List.toArray cs0)] W364 := H359.new hu363 hM362
            clear H359
            have hS369 : Blk W364 g_0_0 27 (List.toArray cs0) ∧ Blk W364 g_0_1 29 (List.toArray cs3) := ⟨H368.blk 10 rfl, H368.blk 9 rfl⟩
            refine ⟨fun _ => hS369, ?_⟩
            refine anyS_one (i := 5) (by kernel_rfl) ?_
            refine op_call rfl Tryz.call13 (vs := #[.agg (List.toArray cs3)]) rfl rfl rfl (to_Tag x3 _ _ (K_upd H368.1 hK3) (by simp [szn_Tag])) ?_
            rintro e374 W373 ⟨cs_24_5, rfl, hM371, hu372⟩
            refine ⟨_, rfl, ?_⟩
            have hl375 := ki_Tag_len (ki_Tag.K_of_M hM371)
            have ho376 := ki_Tag_one (ki_Tag.K_of_M hM371)
            have H377 : St w No [hM ki_Tag x3 cs_24_5, hM ki_World x0 cs_24_1, hB g_24_7 36 #[.slice none 0 0, .slice none 0 0, .slice none 0 0, .slice none 0 0, .int .i64 (0)], hM ki_World (mkv_World 1 (ntW a1 a2 x3 x0)) cs_7_5, hM ki_World (mkv_World 1 x0) cs_6_1, hM ki_World x0 cs_10_2, hB g_7_6 36 (List.toArray cs_7_5), hB g_6_2 36 (List.toArray cs_6_1), hB g_5_7 36 (List.toArray cs_5_6), hM ki_World (ntW a1 a2 x3 x0) cs_5_6, hB g_0_1 29 (List.toArray cs3), hB g_0_0 27 (List.toArray cs0)] W373 := H368.new hu372 hM371
            clear H368
            have hS378 : Blk W373 g_0_0 27 (List.toArray cs0) ∧ Blk W373 g_0_1 29 (List.toArray cs3) := ⟨H377.blk 11 rfl, H377.blk 10 rfl⟩
            refine ⟨fun _ => hS378, ?_⟩
            refine anyS_one (i := 6) (by kernel_rfl) ?_
            refine op_call rfl Tryz.call14 (vs := #[.agg (List.toArray cs_24_1), .int .i64 (a1), .int .i64 (a2), .agg (List.toArray cs_24_5)]) rfl rfl rfl (noteTurn_i x0 _ a1 a2 x3 _ _ (H377.kn 1 rfl) (Nat.le_trans hs_x0 (by decide)) (H377.kn 0 rfl)) ?_
            rintro e382 W381 ⟨cs_24_6, rfl, hM379, hu380⟩
            refine ⟨_, rfl, ?_⟩
            have H383 : St w No [hM ki_World (ntW a1 a2 x3 x0) cs_24_6, hM ki_Tag x3 cs_24_5, hM ki_World x0 cs_24_1, hB g_24_7 36 #[.slice none 0 0, .slice none 0 0, .slice none 0 0, .slice none 0 0, .int .i64 (0)], hM ki_World (mkv_World 1 (ntW a1 a2 x3 x0)) cs_7_5, hM ki_World (mkv_World 1 x0) cs_6_1, hM ki_World x0 cs_10_2, hB g_7_6 36 (List.toArray cs_7_5), hB g_6_2 36 (List.toArray cs_6_1), hB g_5_7 36 (List.toArray cs_5_6), hM ki_World (ntW a1 a2 x3 x0) cs_5_6, hB g_0_1 29 (List.toArray cs3), hB g_0_0 27 (List.toArray cs0)] W381 := H377.new hu380 hM379
            clear H377
            have hS384 : Blk W381 g_0_0 27 (List.toArray cs0) ∧ Blk W381 g_0_1 29 (List.toArray cs3) := ⟨H383.blk 12 rfl, H383.blk 11 rfl⟩
            refine ⟨fun _ => hS384, ?_⟩
            refine anyS_one (i := 8) (by kernel_rfl) ?_
            have H388 : St w No [hB g_24_7 36 #[.slice none 0 0, .slice none 0 0, .slice none 0 0, .slice none 0 0, .int .i64 (0)], hM ki_World (ntW a1 a2 x3 x0) cs_24_6, hM ki_Tag x3 cs_24_5, hM ki_World x0 cs_24_1, hM ki_World (mkv_World 1 (ntW a1 a2 x3 x0)) cs_7_5, hM ki_World (mkv_World 1 x0) cs_6_1, hM ki_World x0 cs_10_2, hB g_7_6 36 (List.toArray cs_7_5), hB g_6_2 36 (List.toArray cs_6_1), hB g_5_7 36 (List.toArray cs_5_6), hM ki_World (ntW a1 a2 x3 x0) cs_5_6, hB g_0_1 29 (List.toArray cs3), hB g_0_0 27 (List.toArray cs0)] W381 := H383.pick [3, 0, 1, 2, 4, 5, 6, 7, 8, 9, 10, 11, 12] (by decide) rfl
            clear H383
            refine op_storeW rfl Tryz.sizeOf36 rfl rfl (ki_World_len (H388.kn 1 rfl)) rfl (ki_World_one (H388.kn 1 rfl)) H388 ?_
            intro W385 hu386 Ha387
            clear H388
            have H389 : St w No [hB g_24_7 36 (List.toArray cs_24_6), hM ki_World (ntW a1 a2 x3 x0) cs_24_6, hM ki_Tag x3 cs_24_5, hM ki_World x0 cs_24_1, hM ki_World (mkv_World 1 (ntW a1 a2 x3 x0)) cs_7_5, hM ki_World (mkv_World 1 x0) cs_6_1, hM ki_World x0 cs_10_2, hB g_7_6 36 (List.toArray cs_7_5), hB g_6_2 36 (List.toArray cs_6_1), hB g_5_7 36 (List.toArray cs_5_6), hM ki_World (ntW a1 a2 x3 x0) cs_5_6, hB g_0_1 29 (List.toArray cs3), hB g_0_0 27 (List.toArray cs0)] W385 := Ha387
            clear Ha387
            clear hu386
            have hS390 : Blk W385 g_0_0 27 (List.toArray cs0) ∧ Blk W385 g_0_1 29 (List.toArray cs3) := ⟨H389.blk 12 rfl, H389.blk 11 rfl⟩
            refine ⟨fun _ => hS390, ?_⟩
            refine anyS_done (by kernel_rfl) ?_ _
            exact (actOf_drop2 [(10, .pointer (some ⟨g_5_7, 0, none⟩)), (12, .pointer (some ⟨g_7_6, 0, none⟩)), (14, .int .i64 ((1 + cntv_World (ntW a1 a2 x3 x0)))), (16, .pointer (some ⟨g_24_7, 0, none⟩))] rfl).elim fun x' hx => ⟨cs_24_6, g_24_7, x', hx, H389.pick [0, 1, 4, 7, 9, 10] (by decide) rfl⟩
        · rintro _ W392 ⟨cs_24_6, g_24_7, x393, rfl, H391⟩
          refine then_n ?_
          refine wp_seq ?_
          refine wp_seq ?_
          refine reg_seq [0, 1, 2, 3] rfl ?_
          refine ops_cons ?_
          refine op_pure rfl (rn_loadB Tryz.isAgg36 Tryz.sizeOf36 rfl (H391.blk 0 rfl) (ki_World_len (H391.kn 1 rfl))) rfl rfl ?_
          refine ops_cons ?_
          refine op_pure rfl (rn_loadB Tryz.isAgg36 Tryz.sizeOf36 rfl (H391.blk 4 rfl) (ki_World_len (H391.kn 5 rfl))) rfl rfl ?_
          refine ops_cons ?_
          refine op_call rfl Tryz.call15 (vs := #[.agg (List.toArray cs_24_6), .agg (List.toArray cs_5_6)]) rfl rfl rfl (eq_World (ntW a1 a2 x3 x0) _ _ _ (H391.kn 1 rfl) (H391.kn 5 rfl)) ?_
          rintro e396 W395 ⟨rfl, hu394⟩
          refine ⟨_, rfl, ?_⟩
          have H397 : St w No [hB g_24_7 36 (List.toArray cs_24_6), hM ki_World (ntW a1 a2 x3 x0) cs_24_6, hM ki_World (mkv_World 1 (ntW a1 a2 x3 x0)) cs_7_5, hB g_7_6 36 (List.toArray cs_7_5), hB g_5_7 36 (List.toArray cs_5_6), hM ki_World (ntW a1 a2 x3 x0) cs_5_6] W395 := H391.no hu394
          clear H391
          refine ops_cons ?_
          refine op_pure rfl (rn_not rfl) rfl rfl ?_
          refine ops_nil ?_
          refine then_n ?_
          refine cond_f rfl ?_
          refine wp_skip ?_
          refine then_n ?_
          refine wp_seq ?_
          refine reg_seq [0] rfl ?_
          refine ops_cons ?_
          refine op_pure rfl (rn_assign rfl) rfl rfl ?_
          refine ops_nil ?_
          refine then_n ?_
          refine wp_seq ?_
          refine reg_seq [0, 1, 2, 3] rfl ?_
          refine ops_cons ?_
          refine op_pure rfl (rn_loadB Tryz.isAgg36 Tryz.sizeOf36 rfl (H397.blk 3 rfl) (ki_World_len (H397.kn 2 rfl))) rfl rfl ?_
          refine ops_cons ?_
          refine op_pure rfl (rn_move rfl) rfl rfl ?_
          refine ops_cons ?_
          refine op_call rfl Tryz.call17 (vs := #[.agg (List.toArray cs_7_5), .int .i64 (1)]) rfl rfl rfl (heldv_World_c (ntW a1 a2 x3 x0) _ _ _ (H397.kn 2 rfl) (by omega) (by omega)) ?_
          rintro e400 W399 ⟨rfl, hu398⟩
          refine ⟨_, rfl, ?_⟩
          have H401 : St w No [hB g_24_7 36 (List.toArray cs_24_6), hM ki_World (ntW a1 a2 x3 x0) cs_24_6, hM ki_World (mkv_World 1 (ntW a1 a2 x3 x0)) cs_7_5, hB g_7_6 36 (List.toArray cs_7_5), hB g_5_7 36 (List.toArray cs_5_6), hM ki_World (ntW a1 a2 x3 x0) cs_5_6] W399 := H397.no hu398
          clear H397
          refine ops_cons ?_
          refine op_pure rfl (rn_assign rfl) rfl rfl ?_
          refine ops_nil ?_
          refine then_n ?_
          refine wp_seq ?_
          refine wp_seq ?_
          refine reg_seq [0, 1] rfl ?_
          refine ops_cons ?_
          refine op_pure rfl (rn_move rfl) rfl rfl ?_
          refine ops_cons ?_
          refine op_pure rfl (rn_decF (by omega) (rn_lss rfl rfl)) rfl rfl ?_
          refine ops_nil ?_
          refine then_n ?_
          refine cond_f rfl ?_
          refine wp_skip ?_
          refine then_n ?_
          refine wp_seq ?_
          refine wp_seq ?_
          refine reg_seq [0, 1, 2] rfl ?_
          refine ops_cons ?_
          refine op_pure rfl (rn_move rfl) rfl rfl ?_
          refine ops_cons ?_
          refine op_pure rfl (rn_move rfl) rfl rfl ?_
          refine ops_cons ?_
          refine op_pure rfl (rn_decF (not_not_intro rfl) (rn_neq rfl rfl)) rfl rfl ?_
          refine ops_nil ?_
          refine then_n ?_
          refine cond_f rfl ?_
          refine wp_skip ?_
          refine then_n ?_
          refine wp_seq ?_
          refine reg_seq [0] rfl ?_
          refine ops_cons ?_
          refine op_pure rfl (rn_assign rfl) rfl rfl ?_
          refine ops_nil ?_
          refine then_n ?_
          refine wp_ret ?_
          refine post_tmp (.inl rfl) Tryz.results3 rfl ?_
          exact ⟨rfl, H401.1⟩
end Go.Proofs.YtfnedoiplblldaaGreatFam
