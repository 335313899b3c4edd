/- The law Push, walked. No conditions. -/
import Derived.Test.YtfnedoiplblldaaGreatProg
import Derived.Test.YtfnedoiplblldaaGreatTy
import Derived.Test.YtfnedoiplblldaaGreatOpn
import Derived.Test.YtfnedoiplblldaaGreatSym3
import Derived.Test.YtfnedoiplblldaaGreatPushT
import Derived.Test.YtfnedoiplblldaaGreatT2
namespace Go.Proofs.YtfnedoiplblldaaGreatFam
open Go.ChangeShapes Go.WideShapes Go.RowKit Go.Proofs.YtfnedoiplblldaaGreatSep Go.Proofs.YtfnedoiplblldaaGreatT Go.Proofs.YtfnedoiplblldaaGreatK
set_option linter.unusedVariables false
set_option linter.unusedSimpArgs false
set_option maxHeartbeats 4000000 in
set_option maxRecDepth 100000 in
theorem law_FnExactPush (w : World) (x0 : GVat) (cs0 : List Value) (hK0 : kl_Vat.K w x0 cs0) (hG0 : Gd_Vat x0) (a1 : Int) (w1 : (Lit.int .i64 a1).wf = true) (x2 : GMessage) (cs2 : List Value) (hK2 : kl_Message.K w x2 cs2) (hG2 : Gd_Message x2) : Calls Tryz.prog 5 #[.agg cs0.toArray, .int .i64 a1, .agg cs2.toArray] w (RetBool true w) := by
  have hl0_ : cs0.length = 5 := kl_Vat.K_len hK0
  have ho0_ : ∀ u ∈ (List.toArray cs0).toList, u.oneCell' = true := kl_Vat.K_one hK0
  have hl2_ : cs2.length = 12 := kl_Message.K_len hK2
  have ho2_ : ∀ u ∈ (List.toArray cs2).toList, u.oneCell' = true := kl_Message.K_one hK2
  refine enter 97 [(0, .agg (List.toArray cs0)), (1, .int .i64 (a1)), (2, .agg (List.toArray cs2))] Tryz.func5 rfl (by kernel_rfl) ?_
  intro xj
  have H1 : St w No [] w := St.enter
  refine wp_seq ?_
  refine reg_seq [0, 1, 2] rfl ?_
  refine ops_cons ?_
  refine op_box rfl rfl rfl rfl H1 ?_
  intro g_0_0 W2 hu3 Ha4
  clear H1
  have H5 : St w No [hB g_0_0 55 (List.toArray cs0)] W2 := Ha4
  clear Ha4
  clear hu3
  refine ops_cons ?_
  refine op_box rfl rfl rfl rfl H5 ?_
  intro g_0_1 W6 hu7 Ha8
  clear H5
  have H9 : St w No [hB g_0_1 60 (List.toArray cs2), hB g_0_0 55 (List.toArray cs0)] W6 := Ha8
  clear Ha8
  clear hu7
  refine ops_cons ?_
  refine op_pure rfl (rn_assign rfl) rfl rfl ?_
  refine ops_nil ?_
  refine then_n ?_
  refine wp_seq ?_
  refine reg_seq [0] rfl ?_
  refine ops_cons ?_
  refine op_pure rfl (rn_assign rfl) rfl rfl ?_
  refine ops_nil ?_
  refine then_n ?_
  refine wp_seq ?_
  refine reg_seq [0, 1, 2, 3] rfl ?_
  refine ops_cons ?_
  refine op_pure rfl (rn_loadB Tryz.isAgg55 Tryz.sizeOf55 rfl (H9.blk 1 rfl) hl0_) rfl rfl ?_
  refine ops_cons ?_
  refine op_pure rfl (rn_move rfl) rfl rfl ?_
  refine ops_cons ?_
  refine op_call rfl Tryz.call24 (vs := #[.agg (List.toArray cs0), .int .i64 (1048576)]) rfl rfl rfl (sz_Vat x0 _ _ _ (K_upd H9.1 hK0) (Bd_of_Vat hG0) (by omega) (by omega)) ?_
  rintro e14 W13 ⟨n11, rfl, hr12, hu10⟩
  refine ⟨_, rfl, ?_⟩
  have H15 : St w No [hB g_0_1 60 (List.toArray cs2), hB g_0_0 55 (List.toArray cs0)] W13 := H9.no hu10
  clear H9
  refine ops_cons ?_
  refine op_pure rfl (rn_assign rfl) rfl rfl ?_
  refine ops_nil ?_
  refine then_n ?_
  refine wp_seq ?_
  refine wp_seq ?_
  refine reg_seq [0, 1] rfl ?_
  refine ops_cons ?_
  refine op_pure rfl (rn_move rfl) rfl rfl ?_
  refine ops_cons ?_
  refine op_pure rfl (rn_lss rfl rfl) rfl rfl ?_
  refine ops_nil ?_
  refine then_n ?_
  refine cond_dec rfl (fun hc16 => ?_) (fun hc16 => ?_)
  · refine wp_seq ?_
    refine reg_seq [0] rfl ?_
    refine ops_cons ?_
    refine op_pure rfl (rn_assign rfl) rfl rfl ?_
    refine ops_nil ?_
    refine then_n ?_
    refine wp_ret ?_
    refine then_r ?_
    refine post_tmp (.inl rfl) Tryz.results5 rfl ?_
    exact ⟨rfl, H15.1⟩
  · have hs_x0 : szn_Vat x0 ≤ 1048576 := by omega
    refine wp_skip ?_
    refine then_n ?_
    refine wp_seq ?_
    refine reg_seq [0, 1, 2, 3] rfl ?_
    refine ops_cons ?_
    refine op_pure rfl (rn_loadB Tryz.isAgg60 Tryz.sizeOf60 rfl (H15.blk 0 rfl) hl2_) rfl rfl ?_
    refine ops_cons ?_
    refine op_pure rfl (rn_move rfl) rfl rfl ?_
    refine ops_cons ?_
    refine op_call rfl Tryz.call25 (vs := #[.agg (List.toArray cs2), .int .i64 (n11)]) rfl rfl rfl (sz_Message x2 _ _ _ (K_upd H15.1 hK2) (Bd_of_Message hG2) (by omega) (by omega)) ?_
    rintro e21 W20 ⟨n18, rfl, hr19, hu17⟩
    refine ⟨_, rfl, ?_⟩
    have H22 : St w No [hB g_0_1 60 (List.toArray cs2), hB g_0_0 55 (List.toArray cs0)] W20 := H15.no hu17
    clear H15
    refine ops_cons ?_
    refine op_pure rfl (rn_assign rfl) rfl rfl ?_
    refine ops_nil ?_
    refine then_n ?_
    refine wp_seq ?_
    refine wp_seq ?_
    refine reg_seq [0, 1] rfl ?_
    refine ops_cons ?_
    refine op_pure rfl (rn_move rfl) rfl rfl ?_
    refine ops_cons ?_
    refine op_pure rfl (rn_lss rfl rfl) rfl rfl ?_
    refine ops_nil ?_
    refine then_n ?_
    refine cond_dec rfl (fun hc23 => ?_) (fun hc23 => ?_)
    · refine wp_seq ?_
      refine reg_seq [0] rfl ?_
      refine ops_cons ?_
      refine op_pure rfl (rn_assign rfl) rfl rfl ?_
      refine ops_nil ?_
      refine then_n ?_
      refine wp_ret ?_
      refine then_r ?_
      refine post_tmp (.inl rfl) Tryz.results5 rfl ?_
      exact ⟨rfl, H22.1⟩
    · have hs_x2 : szn_Message x2 ≤ 1048576 := by omega
      refine wp_skip ?_
      refine then_n ?_
      refine wp_seq ?_
      have nn24 : 0 ≤ cntv_Vat x0 := cntv_Vat_nn x0
      have nn24b := cntv_Vat_le x0
      have nn24c : szn_Vat x0 ≤ 4194304 := (Nat.le_trans hs_x0 (by decide))
      have nn25 : 0 ≤ cntv_Message x2 := cntv_Message_nn x2
      have nn25b := cntv_Message_le x2
      have nn25c : szn_Message x2 ≤ 4194304 := (Nat.le_trans hs_x2 (by decide))
      have nn26 : 0 ≤ cntv_Vat (pushV a1 x2 x0) := cntv_Vat_nn (pushV a1 x2 x0)
      have nn26b := cntv_Vat_le (pushV a1 x2 x0)
      have nn26c : szn_Vat (pushV a1 x2 x0) ≤ 4194304 := pushV_bd a1 x2 x0 hs_x0 hs_x2
      refine reg_cut (fun a' W' => ∃ (cs_8_5 : List Value) (g_8_6 : Nat) (x' : Nat → Value), a' = actOf 97 x' [(1, .int .i64 (a1)), (3, .pointer (some ⟨g_0_0, 0, none⟩)), (5, .pointer (some ⟨g_0_1, 0, none⟩)), (8, .pointer (some ⟨g_8_6, 0, none⟩))] ∧ St w No [hB g_8_6 68 (List.toArray cs_8_5), hM ki_Vat (pushV a1 x2 x0) cs_8_5, hB g_0_1 60 (List.toArray cs2), hB g_0_0 55 (List.toArray cs0)] W') ?_ ?_
      · refine reg_draw (fun W' => Blk W' g_0_0 55 (List.toArray cs0) ∧ Blk W' g_0_1 60 (List.toArray cs2)) 8 (by kernel_rfl) ?_
        have H27 : St w No [hB g_0_1 60 (List.toArray cs2), hB g_0_0 55 (List.toArray cs0)] W20.drew := H22.drew
        clear H22
        have hS28 : Blk W20.drew g_0_0 55 (List.toArray cs0) ∧ Blk W20.drew g_0_1 60 (List.toArray cs2) := ⟨H27.blk 1 rfl, H27.blk 0 rfl⟩
        refine anyS_take (i := 0) rfl (by kernel_rfl) (by kernel_rfl) (by kernel_rfl) (by kernel_rfl) (by kernel_rfl) (fun _ _ _ h => h) rfl rfl hS28 (fun W' hs' => rn_loadB Tryz.isAgg55 Tryz.sizeOf55 rfl hs'.1 hl0_) ?_
        refine anyS_take (i := 2) rfl (by kernel_rfl) (by kernel_rfl) (by kernel_rfl) (by kernel_rfl) (by kernel_rfl) (fun _ _ _ h => h) rfl rfl hS28 (fun W' hs' => rn_move rfl) ?_
        refine anyS_take (i := 3) rfl (by kernel_rfl) (by kernel_rfl) (by kernel_rfl) (by kernel_rfl) (by kernel_rfl) (fun _ _ _ h => h) rfl rfl hS28 (fun W' hs' => rn_loadB Tryz.isAgg60 Tryz.sizeOf60 rfl hs'.2 hl2_) ?_
        refine anyS_two (i := 1) (i2 := 6) (by kernel_rfl) ?_ ?_
        · refine op_call rfl Tryz.call27 (vs := #[.agg (List.toArray cs0)]) rfl rfl rfl (to_Vat x0 _ _ (K_upd H27.1 hK0) hs_x0) ?_
          rintro e33 W32 ⟨cs_8_1, rfl, hM30, hu31⟩
          refine ⟨_, rfl, ?_⟩
          have hl34 := ki_Vat_len (ki_Vat.K_of_M hM30)
          have ho35 := ki_Vat_one (ki_Vat.K_of_M hM30)
          have H36 : St w No [hM ki_Vat x0 cs_8_1, hB g_0_1 60 (List.toArray cs2), hB g_0_0 55 (List.toArray cs0)] W32 := H27.new hu31 hM30
          clear H27
          have hS37 : Blk W32 g_0_0 55 (List.toArray cs0) ∧ Blk W32 g_0_1 60 (List.toArray cs2) := ⟨H36.blk 2 rfl, H36.blk 1 rfl⟩
          refine ⟨fun _ => hS37, ?_⟩
          refine anyS_two (i := 4) (i2 := 6) (by kernel_rfl) ?_ ?_
          · refine op_call rfl Tryz.call28 (vs := #[.agg (List.toArray cs2)]) rfl rfl rfl (to_Message x2 _ _ (K_upd H36.1 hK2) hs_x2) ?_
            rintro e42 W41 ⟨cs_8_4, rfl, hM39, hu40⟩
            refine ⟨_, rfl, ?_⟩
            have hl43 := ki_Message_len (ki_Message.K_of_M hM39)
            have ho44 := ki_Message_one (ki_Message.K_of_M hM39)
            have H45 : St w No [hM ki_Message x2 cs_8_4, hM ki_Vat x0 cs_8_1, hB g_0_1 60 (List.toArray cs2), hB g_0_0 55 (List.toArray cs0)] W41 := H36.new hu40 hM39
            clear H36
            have hS46 : Blk W41 g_0_0 55 (List.toArray cs0) ∧ Blk W41 g_0_1 60 (List.toArray cs2) := ⟨H45.blk 3 rfl, H45.blk 2 rfl⟩
            refine ⟨fun _ => hS46, ?_⟩
            refine anyS_two (i := 5) (i2 := 6) (by kernel_rfl) ?_ ?_
            · refine op_call rfl Tryz.call26 (vs := #[.agg (List.toArray cs_8_1), .int .i64 (a1), .agg (List.toArray cs_8_4)]) rfl rfl rfl (push_S x0 a1 x2 _ _ _ (H45.kn 1 rfl) (Nat.le_trans hs_x0 (by decide)) (H45.kn 0 rfl) (Nat.le_trans hs_x2 (by decide))) ?_
              rintro e50 W49 ⟨cs_8_5, rfl, hM47, hu48⟩
              refine ⟨_, rfl, ?_⟩
              have H51 : St w No [hM ki_Vat (pushV a1 x2 x0) cs_8_5, hM ki_Message x2 cs_8_4, hM ki_Vat x0 cs_8_1, hB g_0_1 60 (List.toArray cs2), hB g_0_0 55 (List.toArray cs0)] W49 := H45.new hu48 hM47
              clear H45
              have hS52 : Blk W49 g_0_0 55 (List.toArray cs0) ∧ Blk W49 g_0_1 60 (List.toArray cs2) := ⟨H51.blk 4 rfl, H51.blk 3 rfl⟩
              refine ⟨fun _ => hS52, ?_⟩
              refine anyS_one (i := 6) (by kernel_rfl) ?_
              refine op_alloc rfl Tryz.zeroValue68 rfl rfl H51 ?_
              intro g_8_6 W53 hu54 Ha55
              clear H51
              have H56 : St w No [hB g_8_6 68 #[.int .i64 (0), .slice none 0 0, .slice none 0 0, .slice none 0 0, .slice none 0 0], hM ki_Vat (pushV a1 x2 x0) cs_8_5, hM ki_Message x2 cs_8_4, hM ki_Vat x0 cs_8_1, hB g_0_1 60 (List.toArray cs2), hB g_0_0 55 (List.toArray cs0)] W53 := Ha55
              clear Ha55
              clear hu54
              have hS57 : Blk W53 g_0_0 55 (List.toArray cs0) ∧ Blk W53 g_0_1 60 (List.toArray cs2) := ⟨H56.blk 5 rfl, H56.blk 4 rfl⟩
              refine ⟨fun _ => hS57, ?_⟩
              refine anyS_one (i := 7) (by kernel_rfl) ?_
              refine op_storeW rfl Tryz.sizeOf68 rfl rfl (ki_Vat_len (H56.kn 1 rfl)) rfl (ki_Vat_one (H56.kn 1 rfl)) H56 ?_
              intro W58 hu59 Ha60
              clear H56
              have H61 : St w No [hB g_8_6 68 (List.toArray cs_8_5), hM ki_Vat (pushV a1 x2 x0) cs_8_5, hM ki_Message x2 cs_8_4, hM ki_Vat x0 cs_8_1, hB g_0_1 60 (List.toArray cs2), hB g_0_0 55 (List.toArray cs0)] W58 := Ha60
              clear Ha60
              clear hu59
              have hS62 : Blk W58 g_0_0 55 (List.toArray cs0) ∧ Blk W58 g_0_1 60 (List.toArray cs2) := ⟨H61.blk 5 rfl, H61.blk 4 rfl⟩
              refine ⟨fun _ => hS62, ?_⟩
              refine anyS_done (by kernel_rfl) ?_ _
              exact (actOf_drop2 [(1, .int .i64 (a1)), (3, .pointer (some ⟨g_0_0, 0, none⟩)), (5, .pointer (some ⟨g_0_1, 0, none⟩)), (8, .pointer (some ⟨g_8_6, 0, none⟩))] rfl).elim fun x' hx => ⟨cs_8_5, g_8_6, x', hx, H61.pick [0, 1, 4, 5] (by decide) rfl⟩
            · refine op_alloc rfl Tryz.zeroValue68 rfl rfl H45 ?_
              intro g_8_6 W63 hu64 Ha65
              clear H45
              have H66 : St w No [hB g_8_6 68 #[.int .i64 (0), .slice none 0 0, .slice none 0 0, .slice none 0 0, .slice none 0 0], hM ki_Message x2 cs_8_4, hM ki_Vat x0 cs_8_1, hB g_0_1 60 (List.toArray cs2), hB g_0_0 55 (List.toArray cs0)] W63 := Ha65
              clear Ha65
              clear hu64
              have hS67 : Blk W63 g_0_0 55 (List.toArray cs0) ∧ Blk W63 g_0_1 60 (List.toArray cs2) := ⟨H66.blk 4 rfl, H66.blk 3 rfl⟩
              refine ⟨fun _ => hS67, ?_⟩
              refine anyS_one (i := 5) (by kernel_rfl) ?_
              refine op_call rfl Tryz.call26 (vs := #[.agg (List.toArray cs_8_1), .int .i64 (a1), .agg (List.toArray cs_8_4)]) rfl rfl rfl (push_S x0 a1 x2 _ _ _ (H66.kn 2 rfl) (Nat.le_trans hs_x0 (by decide)) (H66.kn 1 rfl) (Nat.le_trans hs_x2 (by decide))) ?_
              rintro e71 W70 ⟨cs_8_5, rfl, hM68, hu69⟩
              refine ⟨_, rfl, ?_⟩
              have H72 : St w No [hM ki_Vat (pushV a1 x2 x0) cs_8_5, hB g_8_6 68 #[.int .i64 (0), .slice none 0 0, .slice none 0 0, .slice none 0 0, .slice none 0 0], hM ki_Message x2 cs_8_4, hM ki_Vat x0 cs_8_1, hB g_0_1 60 (List.toArray cs2), hB g_0_0 55 (List.toArray cs0)] W70 := H66.new hu69 hM68
              clear H66
              have hS73 : Blk W70 g_0_0 55 (List.toArray cs0) ∧ Blk W70 g_0_1 60 (List.toArray cs2) := ⟨H72.blk 5 rfl, H72.blk 4 rfl⟩
              refine ⟨fun _ => hS73, ?_⟩
              refine anyS_one (i := 7) (by kernel_rfl) ?_
              have H77 : St w No [hB g_8_6 68 #[.int .i64 (0), .slice none 0 0, .slice none 0 0, .slice none 0 0, .slice none 0 0], hM ki_Vat (pushV a1 x2 x0) cs_8_5, hM ki_Message x2 cs_8_4, hM ki_Vat x0 cs_8_1, hB g_0_1 60 (List.toArray cs2), hB g_0_0 55 (List.toArray cs0)] W70 := H72.pick [1, 0, 2, 3, 4, 5] (by decide) rfl
              clear H72
              refine op_storeW rfl Tryz.sizeOf68 rfl rfl (ki_Vat_len (H77.kn 1 rfl)) rfl (ki_Vat_one (H77.kn 1 rfl)) H77 ?_
              intro W74 hu75 Ha76
              clear H77
              have H78 : St w No [hB g_8_6 68 (List.toArray cs_8_5), hM ki_Vat (pushV a1 x2 x0) cs_8_5, hM ki_Message x2 cs_8_4, hM ki_Vat x0 cs_8_1, hB g_0_1 60 (List.toArray cs2), hB g_0_0 55 (List.toArray cs0)] W74 := Ha76
              clear Ha76
              clear hu75
              have hS79 : Blk W74 g_0_0 55 (List.toArray cs0) ∧ Blk W74 g_0_1 60 (List.toArray cs2) := ⟨H78.blk 5 rfl, H78.blk 4 rfl⟩
              refine ⟨fun _ => hS79, ?_⟩
              refine anyS_done (by kernel_rfl) ?_ _
              exact (actOf_drop2 [(1, .int .i64 (a1)), (3, .pointer (some ⟨g_0_0, 0, none⟩)), (5, .pointer (some ⟨g_0_1, 0, none⟩)), (8, .pointer (some ⟨g_8_6, 0, none⟩))] rfl).elim fun x' hx => ⟨cs_8_5, g_8_6, x', hx, H78.pick [0, 1, 4, 5] (by decide) rfl⟩
          · refine op_alloc rfl Tryz.zeroValue68 rfl rfl H36 ?_
            intro g_8_6 W80 hu81 Ha82
            clear H36
            have H83 : St w No [hB g_8_6 68 #[.int .i64 (0), .slice none 0 0, .slice none 0 0, .slice none 0 0, .slice none 0 0], hM ki_Vat x0 cs_8_1, hB g_0_1 60 (List.toArray cs2), hB g_0_0 55 (List.toArray cs0)] W80 := Ha82
            clear Ha82
            clear hu81
            have hS84 : Blk W80 g_0_0 55 (List.toArray cs0) ∧ Blk W80 g_0_1 60 (List.toArray cs2) := ⟨H83.blk 3 rfl, H83.blk 2 rfl⟩
            refine ⟨fun _ => hS84, ?_⟩
            refine anyS_one (i := 4) (by kernel_rfl) ?_
            refine op_call rfl Tryz.call28 (vs := #[.agg (List.toArray cs2)]) rfl rfl rfl (to_Message x2 _ _ (K_upd H83.1 hK2) hs_x2) ?_
            rintro e89 W88 ⟨cs_8_4, rfl, hM86, hu87⟩
            refine ⟨_, rfl, ?_⟩
            have hl90 := ki_Message_len (ki_Message.K_of_M hM86)
            have ho91 := ki_Message_one (ki_Message.K_of_M hM86)
            have H92 : St w No [hM ki_Message x2 cs_8_4, hB g_8_6 68 #[.int .i64 (0), .slice none 0 0, .slice none 0 0, .slice none 0 0, .slice none 0 0], hM ki_Vat x0 cs_8_1, hB g_0_1 60 (List.toArray cs2), hB g_0_0 55 (List.toArray cs0)] W88 := H83.new hu87 hM86
            clear H83
            have hS93 : Blk W88 g_0_0 55 (List.toArray cs0) ∧ Blk W88 g_0_1 60 (List.toArray cs2) := ⟨H92.blk 4 rfl, H92.blk 3 rfl⟩
            refine ⟨fun _ => hS93, ?_⟩
            refine anyS_one (i := 5) (by kernel_rfl) ?_
            refine op_call rfl Tryz.call26 (vs := #[.agg (List.toArray cs_8_1), .int .i64 (a1), .agg (List.toArray cs_8_4)]) rfl rfl rfl (push_S x0 a1 x2 _ _ _ (H92.kn 2 rfl) (Nat.le_trans hs_x0 (by decide)) (H92.kn 0 rfl) (Nat.le_trans hs_x2 (by decide))) ?_
            rintro e97 W96 ⟨cs_8_5, rfl, hM94, hu95⟩
            refine ⟨_, rfl, ?_⟩
            have H98 : St w No [hM ki_Vat (pushV a1 x2 x0) cs_8_5, hM ki_Message x2 cs_8_4, hB g_8_6 68 #[.int .i64 (0), .slice none 0 0, .slice none 0 0, .slice none 0 0, .slice none 0 0], hM ki_Vat x0 cs_8_1, hB g_0_1 60 (List.toArray cs2), hB g_0_0 55 (List.toArray cs0)] W96 := H92.new hu95 hM94
            clear H92
            have hS99 : Blk W96 g_0_0 55 (List.toArray cs0) ∧ Blk W96 g_0_1 60 (List.toArray cs2) := ⟨H98.blk 5 rfl, H98.blk 4 rfl⟩
            refine ⟨fun _ => hS99, ?_⟩
            refine anyS_one (i := 7) (by kernel_rfl) ?_
            have H103 : St w No [hB g_8_6 68 #[.int .i64 (0), .slice none 0 0, .slice none 0 0, .slice none 0 0, .slice none 0 0], hM ki_Vat (pushV a1 x2 x0) cs_8_5, hM ki_Message x2 cs_8_4, hM ki_Vat x0 cs_8_1, hB g_0_1 60 (List.toArray cs2), hB g_0_0 55 (List.toArray cs0)] W96 := H98.pick [2, 0, 1, 3, 4, 5] (by decide) rfl
            clear H98
            refine op_storeW rfl Tryz.sizeOf68 rfl rfl (ki_Vat_len (H103.kn 1 rfl)) rfl (ki_Vat_one (H103.kn 1 rfl)) H103 ?_
            intro W100 hu101 Ha102
            clear H103
            have H104 : St w No [hB g_8_6 68 (List.toArray cs_8_5), hM ki_Vat (pushV a1 x2 x0) cs_8_5, hM ki_Message x2 cs_8_4, hM ki_Vat x0 cs_8_1, hB g_0_1 60 (List.toArray cs2), hB g_0_0 55 (List.toArray cs0)] W100 := Ha102
            clear Ha102
            clear hu101
            have hS105 : Blk W100 g_0_0 55 (List.toArray cs0) ∧ Blk W100 g_0_1 60 (List.toArray cs2) := ⟨H104.blk 5 rfl, H104.blk 4 rfl⟩
            refine ⟨fun _ => hS105, ?_⟩
            refine anyS_done (by kernel_rfl) ?_ _
            exact (actOf_drop2 [(1, .int .i64 (a1)), (3, .pointer (some ⟨g_0_0, 0, none⟩)), (5, .pointer (some ⟨g_0_1, 0, none⟩)), (8, .pointer (some ⟨g_8_6, 0, none⟩))] rfl).elim fun x' hx => ⟨cs_8_5, g_8_6, x', hx, H104.pick [0, 1, 4, 5] (by decide) rfl⟩
        · refine op_alloc rfl Tryz.zeroValue68 rfl rfl H27 ?_
          intro g_8_6 W106 hu107 Ha108
          clear H27
          have H109 : St w No [hB g_8_6 68 #[.int .i64 (0), .slice none 0 0, .slice none 0 0, .slice none 0 0, .slice none 0 0], hB g_0_1 60 (List.toArray cs2), hB g_0_0 55 (List.toArray cs0)] W106 := Ha108
          clear Ha108
          clear hu107
          have hS110 : Blk W106 g_0_0 55 (List.toArray cs0) ∧ Blk W106 g_0_1 60 (List.toArray cs2) := ⟨H109.blk 2 rfl, H109.blk 1 rfl⟩
          refine ⟨fun _ => hS110, ?_⟩
          refine anyS_one (i := 1) (by kernel_rfl) ?_
          refine op_call rfl Tryz.call27 (vs := #[.agg (List.toArray cs0)]) rfl rfl rfl (to_Vat x0 _ _ (K_upd H109.1 hK0) hs_x0) ?_
          rintro e115 W114 ⟨cs_8_1, rfl, hM112, hu113⟩
          refine ⟨_, rfl, ?_⟩
          have hl116 := ki_Vat_len (ki_Vat.K_of_M hM112)
          have ho117 := ki_Vat_one (ki_Vat.K_of_M hM112)
          have H118 : St w No [hM ki_Vat x0 cs_8_1, hB g_8_6 68 #[.int .i64 (0), .slice none 0 0, .slice none 0 0, .slice none 0 0, .slice none 0 0], hB g_0_1 60 (List.toArray cs2), hB g_0_0 55 (List.toArray cs0)] W114 := H109.new hu113 hM112
          clear H109
          have hS119 : Blk W114 g_0_0 55 (List.toArray cs0) ∧ Blk W114 g_0_1 60 (List.toArray cs2) := ⟨H118.blk 3 rfl, H118.blk 2 rfl⟩
          refine ⟨fun _ => hS119, ?_⟩
          refine anyS_one (i := 4) (by kernel_rfl) ?_
          refine op_call rfl Tryz.call28 (vs := #[.agg (List.toArray cs2)]) rfl rfl rfl (to_Message x2 _ _ (K_upd H118.1 hK2) hs_x2) ?_
          rintro e124 W123 ⟨cs_8_4, rfl, hM121, hu122⟩
          refine ⟨_, rfl, ?_⟩
          have hl125 := ki_Message_len (ki_Message.K_of_M hM121)
          have ho126 := ki_Message_one (ki_Message.K_of_M hM121)
          have H127 : St w No [hM ki_Message x2 cs_8_4, hM ki_Vat x0 cs_8_1, hB g_8_6 68 #[.int .i64 (0), .slice none 0 0, .slice none 0 0, .slice none 0 0, .slice none 0 0], hB g_0_1 60 (List.toArray cs2), hB g_0_0 55 (List.toArray cs0)] W123 := H118.new hu122 hM121
          clear H118
          have hS128 : Blk W123 g_0_0 55 (List.toArray cs0) ∧ Blk W123 g_0_1 60 (List.toArray cs2) := ⟨H127.blk 4 rfl, H127.blk 3 rfl⟩
          refine ⟨fun _ => hS128, ?_⟩
          refine anyS_one (i := 5) (by kernel_rfl) ?_
          refine op_call rfl Tryz.call26 (vs := #[.agg (List.toArray cs_8_1), .int .i64 (a1), .agg (List.toArray cs_8_4)]) rfl rfl rfl (push_S x0 a1 x2 _ _ _ (H127.kn 1 rfl) (Nat.le_trans hs_x0 (by decide)) (H127.kn 0 rfl) (Nat.le_trans hs_x2 (by decide))) ?_
          rintro e132 W131 ⟨cs_8_5, rfl, hM129, hu130⟩
          refine ⟨_, rfl, ?_⟩
          have H133 : St w No [hM ki_Vat (pushV a1 x2 x0) cs_8_5, hM ki_Message x2 cs_8_4, hM ki_Vat x0 cs_8_1, hB g_8_6 68 #[.int .i64 (0), .slice none 0 0, .slice none 0 0, .slice none 0 0, .slice none 0 0], hB g_0_1 60 (List.toArray cs2), hB g_0_0 55 (List.toArray cs0)] W131 := H127.new hu130 hM129
          clear H127
          have hS134 : Blk W131 g_0_0 55 (List.toArray cs0) ∧ Blk W131 g_0_1 60 (List.toArray cs2) := ⟨H133.blk 5 rfl, H133.blk 4 rfl⟩
          refine ⟨fun _ => hS134, ?_⟩
          refine anyS_one (i := 7) (by kernel_rfl) ?_
          have H138 : St w No [hB g_8_6 68 #[.int .i64 (0), .slice none 0 0, .slice none 0 0, .slice none 0 0, .slice none 0 0], hM ki_Vat (pushV a1 x2 x0) cs_8_5, hM ki_Message x2 cs_8_4, hM ki_Vat x0 cs_8_1, hB g_0_1 60 (List.toArray cs2), hB g_0_0 55 (List.toArray cs0)] W131 := H133.pick [3, 0, 1, 2, 4, 5] (by decide) rfl
          clear H133
          refine op_storeW rfl Tryz.sizeOf68 rfl rfl (ki_Vat_len (H138.kn 1 rfl)) rfl (ki_Vat_one (H138.kn 1 rfl)) H138 ?_
          intro W135 hu136 Ha137
          clear H138
          have H139 : St w No [hB g_8_6 68 (List.toArray cs_8_5), hM ki_Vat (pushV a1 x2 x0) cs_8_5, hM ki_Message x2 cs_8_4, hM ki_Vat x0 cs_8_1, hB g_0_1 60 (List.toArray cs2), hB g_0_0 55 (List.toArray cs0)] W135 := Ha137
          clear Ha137
          clear hu136
          have hS140 : Blk W135 g_0_0 55 (List.toArray cs0) ∧ Blk W135 g_0_1 60 (List.toArray cs2) := ⟨H139.blk 5 rfl, H139.blk 4 rfl⟩
          refine ⟨fun _ => hS140, ?_⟩
          refine anyS_done (by kernel_rfl) ?_ _
          exact (actOf_drop2 [(1, .int .i64 (a1)), (3, .pointer (some ⟨g_0_0, 0, none⟩)), (5, .pointer (some ⟨g_0_1, 0, none⟩)), (8, .pointer (some ⟨g_8_6, 0, none⟩))] rfl).elim fun x' hx => ⟨cs_8_5, g_8_6, x', hx, H139.pick [0, 1, 4, 5] (by decide) rfl⟩
      · rintro _ W142 ⟨cs_8_5, g_8_6, x143, rfl, H141⟩
        refine then_n ?_
        refine wp_seq ?_
        refine reg_seq [0, 1, 2, 3] rfl ?_
        refine ops_cons ?_
        refine op_pure rfl (rn_loadB Tryz.isAgg55 Tryz.sizeOf55 rfl (H141.blk 3 rfl) hl0_) rfl rfl ?_
        refine ops_cons ?_
        refine op_call rfl Tryz.call27 (vs := #[.agg (List.toArray cs0)]) rfl rfl rfl (to_Vat x0 _ _ (K_upd H141.1 hK0) hs_x0) ?_
        rintro e148 W147 ⟨cs_9_1, rfl, hM145, hu146⟩
        refine ⟨_, rfl, ?_⟩
        have hl149 := ki_Vat_len (ki_Vat.K_of_M hM145)
        have ho150 := ki_Vat_one (ki_Vat.K_of_M hM145)
        have H151 : St w No [hM ki_Vat x0 cs_9_1, hB g_8_6 68 (List.toArray cs_8_5), hM ki_Vat (pushV a1 x2 x0) cs_8_5, hB g_0_1 60 (List.toArray cs2), hB g_0_0 55 (List.toArray cs0)] W147 := H141.new hu146 hM145
        clear H141
        refine ops_cons ?_
        refine op_alloc rfl Tryz.zeroValue68 rfl rfl H151 ?_
        intro g_9_2 W152 hu153 Ha154
        clear H151
        have H155 : St w No [hB g_9_2 68 #[.int .i64 (0), .slice none 0 0, .slice none 0 0, .slice none 0 0, .slice none 0 0], hM ki_Vat x0 cs_9_1, hB g_8_6 68 (List.toArray cs_8_5), hM ki_Vat (pushV a1 x2 x0) cs_8_5, hB g_0_1 60 (List.toArray cs2), hB g_0_0 55 (List.toArray cs0)] W152 := Ha154
        clear Ha154
        clear hu153
        refine ops_cons ?_
        refine op_storeW rfl Tryz.sizeOf68 rfl rfl (ki_Vat_len (H155.kn 1 rfl)) rfl (ki_Vat_one (H155.kn 1 rfl)) H155 ?_
        intro W156 hu157 Ha158
        clear H155
        have H159 : St w No [hB g_9_2 68 (List.toArray cs_9_1), hM ki_Vat x0 cs_9_1, hB g_8_6 68 (List.toArray cs_8_5), hM ki_Vat (pushV a1 x2 x0) cs_8_5, hB g_0_1 60 (List.toArray cs2), hB g_0_0 55 (List.toArray cs0)] W156 := Ha158
        clear Ha158
        clear hu157
        refine ops_nil ?_
        refine then_n ?_
        refine wp_seq ?_
        refine reg_seq [0, 1, 2, 3] rfl ?_
        refine ops_cons ?_
        refine op_pure rfl (rn_loadB Tryz.isAgg60 Tryz.sizeOf60 rfl (H159.blk 4 rfl) hl2_) rfl rfl ?_
        refine ops_cons ?_
        refine op_call rfl Tryz.call28 (vs := #[.agg (List.toArray cs2)]) rfl rfl rfl (to_Message x2 _ _ (K_upd H159.1 hK2) hs_x2) ?_
        rintro e164 W163 ⟨cs_10_1, rfl, hM161, hu162⟩
        refine ⟨_, rfl, ?_⟩
        have hl165 := ki_Message_len (ki_Message.K_of_M hM161)
        have ho166 := ki_Message_one (ki_Message.K_of_M hM161)
        have H167 : St w No [hM ki_Message x2 cs_10_1, hB g_9_2 68 (List.toArray cs_9_1), hM ki_Vat x0 cs_9_1, hB g_8_6 68 (List.toArray cs_8_5), hM ki_Vat (pushV a1 x2 x0) cs_8_5, hB g_0_1 60 (List.toArray cs2), hB g_0_0 55 (List.toArray cs0)] W163 := H159.new hu162 hM161
        clear H159
        refine ops_cons ?_
        refine op_alloc rfl Tryz.zeroValue74 rfl rfl H167 ?_
        intro g_10_2 W168 hu169 Ha170
        clear H167
        have H171 : St w No [hB g_10_2 74 #[.int .i64 (0), .int .i64 (0), .int .i64 (0), .int .i64 (0), .string (⟨#[]⟩), .slice none 0 0, .int .i64 (0), .int .i64 (0), .int .i64 (0), .int .i64 (0), .int .i64 (0), .int .i64 (0)], hM ki_Message x2 cs_10_1, hB g_9_2 68 (List.toArray cs_9_1), hM ki_Vat x0 cs_9_1, hB g_8_6 68 (List.toArray cs_8_5), hM ki_Vat (pushV a1 x2 x0) cs_8_5, hB g_0_1 60 (List.toArray cs2), hB g_0_0 55 (List.toArray cs0)] W168 := Ha170
        clear Ha170
        clear hu169
        refine ops_cons ?_
        refine op_storeW rfl Tryz.sizeOf74 rfl rfl (ki_Message_len (H171.kn 1 rfl)) rfl (ki_Message_one (H171.kn 1 rfl)) H171 ?_
        intro W172 hu173 Ha174
        clear H171
        have H175 : St w No [hB g_10_2 74 (List.toArray cs_10_1), hM ki_Message x2 cs_10_1, hB g_9_2 68 (List.toArray cs_9_1), hM ki_Vat x0 cs_9_1, hB g_8_6 68 (List.toArray cs_8_5), hM ki_Vat (pushV a1 x2 x0) cs_8_5, hB g_0_1 60 (List.toArray cs2), hB g_0_0 55 (List.toArray cs0)] W172 := Ha174
        clear Ha174
        clear hu173
        refine ops_nil ?_
        refine then_n ?_
        refine wp_seq ?_
        refine reg_seq [0, 1, 2, 3, 4, 5] rfl ?_
        refine ops_cons ?_
        refine op_pure rfl (rn_loadB Tryz.isAgg68 Tryz.sizeOf68 rfl (H175.blk 2 rfl) (ki_Vat_len (H175.kn 3 rfl))) rfl rfl ?_
        refine ops_cons ?_
        refine op_pure rfl (rn_move rfl) rfl rfl ?_
        refine ops_cons ?_
        refine op_pure rfl (rn_loadB Tryz.isAgg74 Tryz.sizeOf74 rfl (H175.blk 0 rfl) (ki_Message_len (H175.kn 1 rfl))) rfl rfl ?_
        refine ops_cons ?_
        refine op_call rfl Tryz.call29 (vs := #[.agg (List.toArray cs_9_1), .int .i64 (a1), .agg (List.toArray cs_10_1)]) rfl rfl rfl (push_I x0 a1 x2 _ _ _ (H175.kn 3 rfl) (Nat.le_trans hs_x0 (by decide)) (H175.kn 1 rfl) (Nat.le_trans hs_x2 (by decide))) ?_
        rintro e179 W178 ⟨cs_11_3, rfl, hM176, hu177⟩
        refine ⟨_, rfl, ?_⟩
        have H180 : St w No [hM ki_Vat (pushV a1 x2 x0) cs_11_3, hB g_10_2 74 (List.toArray cs_10_1), hM ki_Message x2 cs_10_1, hB g_9_2 68 (List.toArray cs_9_1), hM ki_Vat x0 cs_9_1, hB g_8_6 68 (List.toArray cs_8_5), hM ki_Vat (pushV a1 x2 x0) cs_8_5, hB g_0_1 60 (List.toArray cs2), hB g_0_0 55 (List.toArray cs0)] W178 := H175.new hu177 hM176
        clear H175
        refine ops_cons ?_
        refine op_alloc rfl Tryz.zeroValue68 rfl rfl H180 ?_
        intro g_11_4 W181 hu182 Ha183
        clear H180
        have H184 : St w No [hB g_11_4 68 #[.int .i64 (0), .slice none 0 0, .slice none 0 0, .slice none 0 0, .slice none 0 0], hM ki_Vat (pushV a1 x2 x0) cs_11_3, hB g_10_2 74 (List.toArray cs_10_1), hM ki_Message x2 cs_10_1, hB g_9_2 68 (List.toArray cs_9_1), hM ki_Vat x0 cs_9_1, hB g_8_6 68 (List.toArray cs_8_5), hM ki_Vat (pushV a1 x2 x0) cs_8_5, hB g_0_1 60 (List.toArray cs2), hB g_0_0 55 (List.toArray cs0)] W181 := Ha183
        clear Ha183
        clear hu182
        refine ops_cons ?_
        refine op_storeW rfl Tryz.sizeOf68 rfl rfl (ki_Vat_len (H184.kn 1 rfl)) rfl (ki_Vat_one (H184.kn 1 rfl)) H184 ?_
        intro W185 hu186 Ha187
        clear H184
        have H188 : St w No [hB g_11_4 68 (List.toArray cs_11_3), hM ki_Vat (pushV a1 x2 x0) cs_11_3, hB g_10_2 74 (List.toArray cs_10_1), hM ki_Message x2 cs_10_1, hB g_9_2 68 (List.toArray cs_9_1), hM ki_Vat x0 cs_9_1, hB g_8_6 68 (List.toArray cs_8_5), hM ki_Vat (pushV a1 x2 x0) cs_8_5, hB g_0_1 60 (List.toArray cs2), hB g_0_0 55 (List.toArray cs0)] W185 := Ha187
        clear Ha187
        clear hu186
        refine ops_nil ?_
        refine then_n ?_
        refine wp_seq ?_
        refine wp_seq ?_
        refine reg_seq [0, 1, 2, 3] rfl ?_
        refine ops_cons ?_
        refine op_pure rfl (rn_loadB Tryz.isAgg68 Tryz.sizeOf68 rfl (H188.blk 0 rfl) (ki_Vat_len (H188.kn 1 rfl))) rfl rfl ?_
        refine ops_cons ?_
        refine op_pure rfl (rn_loadB Tryz.isAgg68 Tryz.sizeOf68 rfl (H188.blk 6 rfl) (ki_Vat_len (H188.kn 7 rfl))) rfl rfl ?_
        refine ops_cons ?_
        refine op_call rfl Tryz.call30 (vs := #[.agg (List.toArray cs_11_3), .agg (List.toArray cs_8_5)]) rfl rfl rfl (eq_Vat (pushV a1 x2 x0) _ _ _ (H188.kn 1 rfl) (H188.kn 7 rfl)) ?_
        rintro e191 W190 ⟨rfl, hu189⟩
        refine ⟨_, rfl, ?_⟩
        have H192 : St w No [hB g_11_4 68 (List.toArray cs_11_3), hM ki_Vat (pushV a1 x2 x0) cs_11_3, hB g_10_2 74 (List.toArray cs_10_1), hM ki_Message x2 cs_10_1, hB g_9_2 68 (List.toArray cs_9_1), hM ki_Vat x0 cs_9_1, hB g_8_6 68 (List.toArray cs_8_5), hM ki_Vat (pushV a1 x2 x0) cs_8_5, hB g_0_1 60 (List.toArray cs2), hB g_0_0 55 (List.toArray cs0)] W190 := H188.no hu189
        clear H188
        refine ops_cons ?_
        refine op_pure rfl (rn_not rfl) rfl rfl ?_
        refine ops_nil ?_
        refine then_n ?_
        refine cond_f rfl ?_
        refine wp_skip ?_
        refine then_n ?_
        refine wp_seq ?_
        refine wp_seq ?_
        refine reg_draw (fun W' => Blk W' g_9_2 68 (List.toArray cs_9_1) ∧ Blk W' g_0_0 55 (List.toArray cs0)) 5 (by kernel_rfl) ?_
        have H193 : St w No [hB g_11_4 68 (List.toArray cs_11_3), hM ki_Vat (pushV a1 x2 x0) cs_11_3, hB g_10_2 74 (List.toArray cs_10_1), hM ki_Message x2 cs_10_1, hB g_9_2 68 (List.toArray cs_9_1), hM ki_Vat x0 cs_9_1, hB g_8_6 68 (List.toArray cs_8_5), hM ki_Vat (pushV a1 x2 x0) cs_8_5, hB g_0_1 60 (List.toArray cs2), hB g_0_0 55 (List.toArray cs0)] W190.drew := H192.drew
        clear H192
        have hS194 : Blk W190.drew g_9_2 68 (List.toArray cs_9_1) ∧ Blk W190.drew g_0_0 55 (List.toArray cs0) := ⟨H193.blk 4 rfl, H193.blk 9 rfl⟩
        refine anyS_take (i := 0) rfl (by kernel_rfl) (by kernel_rfl) (by kernel_rfl) (by kernel_rfl) (by kernel_rfl) (fun _ _ _ h => h) rfl rfl hS194 (fun W' hs' => rn_loadB Tryz.isAgg68 Tryz.sizeOf68 rfl hs'.1 (ki_Vat_len (H193.kn 5 rfl))) ?_
        refine anyS_take (i := 1) rfl (by kernel_rfl) (by kernel_rfl) (by kernel_rfl) (by kernel_rfl) (by kernel_rfl) (fun _ _ _ h => h) rfl rfl hS194 (fun W' hs' => rn_loadB Tryz.isAgg55 Tryz.sizeOf55 rfl hs'.2 hl0_) ?_
        refine anyS_one (i := 2) (by kernel_rfl) ?_
        refine op_call rfl Tryz.call27 (vs := #[.agg (List.toArray cs0)]) rfl rfl rfl (to_Vat x0 _ _ (K_upd H193.1 hK0) hs_x0) ?_
        rintro e199 W198 ⟨cs_14_2, rfl, hM196, hu197⟩
        refine ⟨_, rfl, ?_⟩
        have hl200 := ki_Vat_len (ki_Vat.K_of_M hM196)
        have ho201 := ki_Vat_one (ki_Vat.K_of_M hM196)
        have H202 : St w No [hM ki_Vat x0 cs_14_2, hB g_11_4 68 (List.toArray cs_11_3), hM ki_Vat (pushV a1 x2 x0) cs_11_3, hB g_10_2 74 (List.toArray cs_10_1), hM ki_Message x2 cs_10_1, hB g_9_2 68 (List.toArray cs_9_1), hM ki_Vat x0 cs_9_1, hB g_8_6 68 (List.toArray cs_8_5), hM ki_Vat (pushV a1 x2 x0) cs_8_5, hB g_0_1 60 (List.toArray cs2), hB g_0_0 55 (List.toArray cs0)] W198 := H193.new hu197 hM196
        clear H193
        have hS203 : Blk W198 g_9_2 68 (List.toArray cs_9_1) ∧ Blk W198 g_0_0 55 (List.toArray cs0) := ⟨H202.blk 5 rfl, H202.blk 10 rfl⟩
        refine ⟨fun _ => hS203, ?_⟩
        refine anyS_one (i := 3) (by kernel_rfl) ?_
        refine op_call rfl Tryz.call30 (vs := #[.agg (List.toArray cs_9_1), .agg (List.toArray cs_14_2)]) rfl rfl rfl (eq_Vat x0 _ _ _ (H202.kn 6 rfl) (H202.kn 0 rfl)) ?_
        rintro e206 W205 ⟨rfl, hu204⟩
        refine ⟨_, rfl, ?_⟩
        have H207 : St w No [hM ki_Vat x0 cs_14_2, hB g_11_4 68 (List.toArray cs_11_3), hM ki_Vat (pushV a1 x2 x0) cs_11_3, hB g_10_2 74 (List.toArray cs_10_1), hM ki_Message x2 cs_10_1, hB g_9_2 68 (List.toArray cs_9_1), hM ki_Vat x0 cs_9_1, hB g_8_6 68 (List.toArray cs_8_5), hM ki_Vat (pushV a1 x2 x0) cs_8_5, hB g_0_1 60 (List.toArray cs2), hB g_0_0 55 (List.toArray cs0)] W205 := H202.no hu204
        clear H202
        have hS208 : Blk W205 g_9_2 68 (List.toArray cs_9_1) ∧ Blk W205 g_0_0 55 (List.toArray cs0) := ⟨H207.blk 5 rfl, H207.blk 10 rfl⟩
        refine ⟨fun _ => hS208, ?_⟩
        refine anyS_take (i := 4) rfl (by kernel_rfl) (by kernel_rfl) (by kernel_rfl) (by kernel_rfl) (by kernel_rfl) (fun _ _ _ h => h) rfl rfl hS208 (fun W' hs' => rn_not rfl) ?_
        refine anyS_done (by kernel_rfl) ?_ _
        refine then_n ?_
        refine cond_f rfl ?_
        refine wp_skip ?_
        refine then_n ?_
        refine wp_seq ?_
        refine wp_seq ?_
        refine reg_draw (fun W' => Blk W' g_10_2 74 (List.toArray cs_10_1) ∧ Blk W' g_0_1 60 (List.toArray cs2)) 5 (by kernel_rfl) ?_
        have H209 : St w No [hM ki_Vat x0 cs_14_2, hB g_11_4 68 (List.toArray cs_11_3), hM ki_Vat (pushV a1 x2 x0) cs_11_3, hB g_10_2 74 (List.toArray cs_10_1), hM ki_Message x2 cs_10_1, hB g_9_2 68 (List.toArray cs_9_1), hM ki_Vat x0 cs_9_1, hB g_8_6 68 (List.toArray cs_8_5), hM ki_Vat (pushV a1 x2 x0) cs_8_5, hB g_0_1 60 (List.toArray cs2), hB g_0_0 55 (List.toArray cs0)] W205.drew := H207.drew
        clear H207
        have hS210 : Blk W205.drew g_10_2 74 (List.toArray cs_10_1) ∧ Blk W205.drew g_0_1 60 (List.toArray cs2) := ⟨H209.blk 3 rfl, H209.blk 9 rfl⟩
        refine anyS_take (i := 0) rfl (by kernel_rfl) (by kernel_rfl) (by kernel_rfl) (by kernel_rfl) (by kernel_rfl) (fun _ _ _ h => h) rfl rfl hS210 (fun W' hs' => rn_loadB Tryz.isAgg74 Tryz.sizeOf74 rfl hs'.1 (ki_Message_len (H209.kn 4 rfl))) ?_
        refine anyS_take (i := 1) rfl (by kernel_rfl) (by kernel_rfl) (by kernel_rfl) (by kernel_rfl) (by kernel_rfl) (fun _ _ _ h => h) rfl rfl hS210 (fun W' hs' => rn_loadB Tryz.isAgg60 Tryz.sizeOf60 rfl hs'.2 hl2_) ?_
        refine anyS_one (i := 2) (by kernel_rfl) ?_
        refine op_call rfl Tryz.call28 (vs := #[.agg (List.toArray cs2)]) rfl rfl rfl (to_Message x2 _ _ (K_upd H209.1 hK2) hs_x2) ?_
        rintro e215 W214 ⟨cs_16_2, rfl, hM212, hu213⟩
        refine ⟨_, rfl, ?_⟩
        have hl216 := ki_Message_len (ki_Message.K_of_M hM212)
        have ho217 := ki_Message_one (ki_Message.K_of_M hM212)
        have H218 : St w No [hM ki_Message x2 cs_16_2, hM ki_Vat x0 cs_14_2, hB g_11_4 68 (List.toArray cs_11_3), hM ki_Vat (pushV a1 x2 x0) cs_11_3, hB g_10_2 74 (List.toArray cs_10_1), hM ki_Message x2 cs_10_1, hB g_9_2 68 (List.toArray cs_9_1), hM ki_Vat x0 cs_9_1, hB g_8_6 68 (List.toArray cs_8_5), hM ki_Vat (pushV a1 x2 x0) cs_8_5, hB g_0_1 60 (List.toArray cs2), hB g_0_0 55 (List.toArray cs0)] W214 := H209.new hu213 hM212
        clear H209
        have hS219 : Blk W214 g_10_2 74 (List.toArray cs_10_1) ∧ Blk W214 g_0_1 60 (List.toArray cs2) := ⟨H218.blk 4 rfl, H218.blk 10 rfl⟩
        refine ⟨fun _ => hS219, ?_⟩
        refine anyS_one (i := 3) (by kernel_rfl) ?_
        refine op_call rfl Tryz.call31 (vs := #[.agg (List.toArray cs_10_1), .agg (List.toArray cs_16_2)]) rfl rfl rfl (eq_Message x2 _ _ _ (H218.kn 5 rfl) (H218.kn 0 rfl)) ?_
        rintro e222 W221 ⟨rfl, hu220⟩
        refine ⟨_, rfl, ?_⟩
        have H223 : St w No [hM ki_Message x2 cs_16_2, hM ki_Vat x0 cs_14_2, hB g_11_4 68 (List.toArray cs_11_3), hM ki_Vat (pushV a1 x2 x0) cs_11_3, hB g_10_2 74 (List.toArray cs_10_1), hM ki_Message x2 cs_10_1, hB g_9_2 68 (List.toArray cs_9_1), hM ki_Vat x0 cs_9_1, hB g_8_6 68 (List.toArray cs_8_5), hM ki_Vat (pushV a1 x2 x0) cs_8_5, hB g_0_1 60 (List.toArray cs2), hB g_0_0 55 (List.toArray cs0)] W221 := H218.no hu220
        clear H218
        have hS224 : Blk W221 g_10_2 74 (List.toArray cs_10_1) ∧ Blk W221 g_0_1 60 (List.toArray cs2) := ⟨H223.blk 4 rfl, H223.blk 10 rfl⟩
        refine ⟨fun _ => hS224, ?_⟩
        refine anyS_take (i := 4) rfl (by kernel_rfl) (by kernel_rfl) (by kernel_rfl) (by kernel_rfl) (by kernel_rfl) (fun _ _ _ h => h) rfl rfl hS224 (fun W' hs' => rn_not rfl) ?_
        refine anyS_done (by kernel_rfl) ?_ _
        refine then_n ?_
        refine cond_f rfl ?_
        refine wp_skip ?_
        refine then_n ?_
        refine wp_seq ?_
        refine reg_seq [0] rfl ?_
        refine ops_cons ?_
        refine op_pure rfl (rn_assign rfl) rfl rfl ?_
        refine ops_nil ?_
        refine then_n ?_
        refine wp_seq ?_
        refine reg_seq [0, 1, 2, 3] rfl ?_
        refine ops_cons ?_
        refine op_pure rfl (rn_loadB Tryz.isAgg68 Tryz.sizeOf68 rfl (H223.blk 6 rfl) (ki_Vat_len (H223.kn 7 rfl))) rfl rfl ?_
        refine ops_cons ?_
        refine op_pure rfl (rn_move rfl) rfl rfl ?_
        refine ops_cons ?_
        have H231 : St w No [hM ki_Vat x0 cs_9_1, hM ki_Message x2 cs_16_2, hM ki_Vat x0 cs_14_2, hB g_11_4 68 (List.toArray cs_11_3), hM ki_Vat (pushV a1 x2 x0) cs_11_3, hB g_10_2 74 (List.toArray cs_10_1), hM ki_Message x2 cs_10_1, hB g_9_2 68 (List.toArray cs_9_1), hB g_8_6 68 (List.toArray cs_8_5), hM ki_Vat (pushV a1 x2 x0) cs_8_5, hB g_0_1 60 (List.toArray cs2), hB g_0_0 55 (List.toArray cs0)] W221 := H223.pick [7, 0, 1, 2, 3, 4, 5, 6, 8, 9, 10, 11] (by decide) rfl
        clear H223
        obtain ⟨F226, hM227, hF228, hT229⟩ := H231.turn
        refine op_call rfl Tryz.call32 (vs := #[.agg (List.toArray cs_9_1), .int .i64 (1)]) rfl rfl rfl (markv_Vat_c x0 _ F226 _ _ hM227 (by omega) (by omega)) ?_
        rintro e233 W232 ⟨rfl, hM230, hu225⟩
        refine ⟨_, rfl, ?_⟩
        have H234 : St w No [hM ki_Vat (mkv_Vat 1 x0) cs_9_1, hM ki_Message x2 cs_16_2, hM ki_Vat x0 cs_14_2, hB g_11_4 68 (List.toArray cs_11_3), hM ki_Vat (pushV a1 x2 x0) cs_11_3, hB g_10_2 74 (List.toArray cs_10_1), hM ki_Message x2 cs_10_1, hB g_9_2 68 (List.toArray cs_9_1), hB g_8_6 68 (List.toArray cs_8_5), hM ki_Vat (pushV a1 x2 x0) cs_8_5, hB g_0_1 60 (List.toArray cs2), hB g_0_0 55 (List.toArray cs0)] W232 := hT229 (hM ki_Vat (mkv_Vat 1 x0) cs_9_1) _ hu225 ((hM ki_Vat (mkv_Vat 1 x0) cs_9_1).mono (fun _ q => .inl q) hM230)
        clear H231
        refine ops_cons ?_
        refine op_pure rfl (rn_assign rfl) rfl rfl ?_
        refine ops_nil ?_
        refine then_n ?_
        refine wp_seq ?_
        refine reg_seq [0, 1, 2, 3] rfl ?_
        refine ops_cons ?_
        refine op_pure rfl (rn_loadB Tryz.isAgg74 Tryz.sizeOf74 rfl (H234.blk 5 rfl) (ki_Message_len (H234.kn 6 rfl))) rfl rfl ?_
        refine ops_cons ?_
        refine op_pure rfl (rn_move rfl) rfl rfl ?_
        refine ops_cons ?_
        have H241 : St w No [hM ki_Message x2 cs_10_1, hM ki_Vat (mkv_Vat 1 x0) cs_9_1, hM ki_Message x2 cs_16_2, hM ki_Vat x0 cs_14_2, hB g_11_4 68 (List.toArray cs_11_3), hM ki_Vat (pushV a1 x2 x0) cs_11_3, hB g_10_2 74 (List.toArray cs_10_1), hB g_9_2 68 (List.toArray cs_9_1), hB g_8_6 68 (List.toArray cs_8_5), hM ki_Vat (pushV a1 x2 x0) cs_8_5, hB g_0_1 60 (List.toArray cs2), hB g_0_0 55 (List.toArray cs0)] W232 := H234.pick [6, 0, 1, 2, 3, 4, 5, 7, 8, 9, 10, 11] (by decide) rfl
        clear H234
        obtain ⟨F236, hM237, hF238, hT239⟩ := H241.turn
        refine op_call rfl Tryz.call33 (vs := #[.agg (List.toArray cs_10_1), .int .i64 ((1 + cntv_Vat x0))]) rfl rfl rfl (markv_Message_c x2 _ F236 _ _ hM237 (by omega) (by omega)) ?_
        rintro e243 W242 ⟨rfl, hM240, hu235⟩
        refine ⟨_, rfl, ?_⟩
        have H244 : St w No [hM ki_Message (mkv_Message (1 + cntv_Vat x0) x2) cs_10_1, hM ki_Vat (mkv_Vat 1 x0) cs_9_1, hM ki_Message x2 cs_16_2, hM ki_Vat x0 cs_14_2, hB g_11_4 68 (List.toArray cs_11_3), hM ki_Vat (pushV a1 x2 x0) cs_11_3, hB g_10_2 74 (List.toArray cs_10_1), hB g_9_2 68 (List.toArray cs_9_1), hB g_8_6 68 (List.toArray cs_8_5), hM ki_Vat (pushV a1 x2 x0) cs_8_5, hB g_0_1 60 (List.toArray cs2), hB g_0_0 55 (List.toArray cs0)] W242 := hT239 (hM ki_Message (mkv_Message (1 + cntv_Vat x0) x2) cs_10_1) _ hu235 ((hM ki_Message (mkv_Message (1 + cntv_Vat x0) x2) cs_10_1).mono (fun _ q => .inl q) hM240)
        clear H241
        refine ops_cons ?_
        refine op_pure rfl (rn_assign rfl) rfl rfl ?_
        refine ops_nil ?_
        refine then_n ?_
        refine wp_seq ?_
        refine wp_seq ?_
        refine reg_seq [0, 1, 2, 3, 4, 5, 6, 7] rfl ?_
        refine ops_cons ?_
        refine op_pure rfl (rn_move rfl) rfl rfl ?_
        refine ops_cons ?_
        refine op_pure rfl (rn_decF (by omega) (rn_lss rfl rfl)) rfl rfl ?_
        refine ops_cons ?_
        refine op_pure rfl (rn_move rfl) rfl rfl ?_
        refine ops_cons ?_
        refine op_G rfl rfl rfl rfl (fun _ ho245 => ?_)
        refine op_pure ho245 (rn_loadB Tryz.isAgg68 Tryz.sizeOf68 rfl (H244.blk 4 rfl) (ki_Vat_len (H244.kn 5 rfl))) rfl rfl ?_
        refine ops_cons ?_
        refine op_G rfl rfl rfl rfl (fun _ ho246 => ?_)
        refine op_pure ho246 (rn_loadB Tryz.isAgg68 Tryz.sizeOf68 rfl (H244.blk 8 rfl) (ki_Vat_len (H244.kn 9 rfl))) rfl rfl ?_
        refine ops_cons ?_
        refine op_G rfl rfl rfl rfl (fun _ ho247 => ?_)
        refine op_call ho247 Tryz.call30 (vs := #[.agg (List.toArray cs_11_3), .agg (List.toArray cs_8_5)]) rfl rfl rfl (eq_Vat (pushV a1 x2 x0) _ _ _ (H244.kn 5 rfl) (H244.kn 9 rfl)) ?_
        rintro e250 W249 ⟨rfl, hu248⟩
        refine ⟨_, rfl, ?_⟩
        have H251 : St w No [hM ki_Message (mkv_Message (1 + cntv_Vat x0) x2) cs_10_1, hM ki_Vat (mkv_Vat 1 x0) cs_9_1, hM ki_Message x2 cs_16_2, hM ki_Vat x0 cs_14_2, hB g_11_4 68 (List.toArray cs_11_3), hM ki_Vat (pushV a1 x2 x0) cs_11_3, hB g_10_2 74 (List.toArray cs_10_1), hB g_9_2 68 (List.toArray cs_9_1), hB g_8_6 68 (List.toArray cs_8_5), hM ki_Vat (pushV a1 x2 x0) cs_8_5, hB g_0_1 60 (List.toArray cs2), hB g_0_0 55 (List.toArray cs0)] W249 := H244.no hu248
        clear H244
        refine ops_cons ?_
        refine op_G rfl rfl rfl rfl (fun _ ho252 => ?_)
        refine op_pure ho252 (rn_not rfl) rfl rfl ?_
        refine ops_cons ?_
        refine op_pure rfl (rn_pick (v := .bool (false)) (b := false) rfl rfl rfl rfl) rfl rfl ?_
        refine ops_nil ?_
        refine then_n ?_
        refine cond_f rfl ?_
        refine wp_skip ?_
        refine then_n ?_
        refine wp_seq ?_
        refine reg_seq [0] rfl ?_
        refine ops_cons ?_
        refine op_pure rfl (rn_assign rfl) rfl rfl ?_
        refine ops_nil ?_
        refine then_n ?_
        refine wp_seq ?_
        refine reg_seq [0, 1, 2, 3] rfl ?_
        refine ops_cons ?_
        refine op_pure rfl (rn_loadB Tryz.isAgg68 Tryz.sizeOf68 rfl (H251.blk 4 rfl) (ki_Vat_len (H251.kn 5 rfl))) rfl rfl ?_
        refine ops_cons ?_
        refine op_pure rfl (rn_move rfl) rfl rfl ?_
        refine ops_cons ?_
        have H259 : St w No [hM ki_Vat (pushV a1 x2 x0) cs_11_3, hM ki_Message (mkv_Message (1 + cntv_Vat x0) x2) cs_10_1, hM ki_Vat (mkv_Vat 1 x0) cs_9_1, hM ki_Message x2 cs_16_2, hM ki_Vat x0 cs_14_2, hB g_11_4 68 (List.toArray cs_11_3), hB g_10_2 74 (List.toArray cs_10_1), hB g_9_2 68 (List.toArray cs_9_1), hB g_8_6 68 (List.toArray cs_8_5), hM ki_Vat (pushV a1 x2 x0) cs_8_5, hB g_0_1 60 (List.toArray cs2), hB g_0_0 55 (List.toArray cs0)] W249 := H251.pick [5, 0, 1, 2, 3, 4, 6, 7, 8, 9, 10, 11] (by decide) rfl
        clear H251
        obtain ⟨F254, hM255, hF256, hT257⟩ := H259.turn
        refine op_call rfl Tryz.call32 (vs := #[.agg (List.toArray cs_11_3), .int .i64 (1)]) rfl rfl rfl (markv_Vat_c (pushV a1 x2 x0) _ F254 _ _ hM255 (by omega) (by omega)) ?_
        rintro e261 W260 ⟨rfl, hM258, hu253⟩
        refine ⟨_, rfl, ?_⟩
        have H262 : St w No [hM ki_Vat (mkv_Vat 1 (pushV a1 x2 x0)) cs_11_3, hM ki_Message (mkv_Message (1 + cntv_Vat x0) x2) cs_10_1, hM ki_Vat (mkv_Vat 1 x0) cs_9_1, hM ki_Message x2 cs_16_2, hM ki_Vat x0 cs_14_2, hB g_11_4 68 (List.toArray cs_11_3), hB g_10_2 74 (List.toArray cs_10_1), hB g_9_2 68 (List.toArray cs_9_1), hB g_8_6 68 (List.toArray cs_8_5), hM ki_Vat (pushV a1 x2 x0) cs_8_5, hB g_0_1 60 (List.toArray cs2), hB g_0_0 55 (List.toArray cs0)] W260 := hT257 (hM ki_Vat (mkv_Vat 1 (pushV a1 x2 x0)) cs_11_3) _ hu253 ((hM ki_Vat (mkv_Vat 1 (pushV a1 x2 x0)) cs_11_3).mono (fun _ q => .inl q) hM258)
        clear H259
        refine ops_cons ?_
        refine op_pure rfl (rn_assign rfl) rfl rfl ?_
        refine ops_nil ?_
        refine then_n ?_
        refine wp_seq ?_
        refine reg_seq [0] rfl ?_
        refine ops_cons ?_
        refine op_pure rfl (rn_assign rfl) rfl rfl ?_
        refine ops_nil ?_
        refine then_n ?_
        refine wp_seq ?_
        refine reg_seq [0, 1, 2, 3] rfl ?_
        refine ops_cons ?_
        refine op_pure rfl (rn_loadB Tryz.isAgg68 Tryz.sizeOf68 rfl (H262.blk 5 rfl) (ki_Vat_len (H262.kn 0 rfl))) rfl rfl ?_
        refine ops_cons ?_
        refine op_pure rfl (rn_move rfl) rfl rfl ?_
        refine ops_cons ?_
        refine op_call rfl Tryz.call34 (vs := #[.agg (List.toArray cs_11_3), .int .i64 (1)]) rfl rfl rfl (heldv_Vat_c (pushV a1 x2 x0) _ _ _ (H262.kn 0 rfl) (by omega) (by omega)) ?_
        rintro e265 W264 ⟨rfl, hu263⟩
        refine ⟨_, rfl, ?_⟩
        have H266 : St w No [hM ki_Vat (mkv_Vat 1 (pushV a1 x2 x0)) cs_11_3, hM ki_Message (mkv_Message (1 + cntv_Vat x0) x2) cs_10_1, hM ki_Vat (mkv_Vat 1 x0) cs_9_1, hM ki_Message x2 cs_16_2, hM ki_Vat x0 cs_14_2, hB g_11_4 68 (List.toArray cs_11_3), hB g_10_2 74 (List.toArray cs_10_1), hB g_9_2 68 (List.toArray cs_9_1), hB g_8_6 68 (List.toArray cs_8_5), hM ki_Vat (pushV a1 x2 x0) cs_8_5, hB g_0_1 60 (List.toArray cs2), hB g_0_0 55 (List.toArray cs0)] W264 := H262.no hu263
        clear H262
        refine ops_cons ?_
        refine op_pure rfl (rn_assign rfl) rfl rfl ?_
        refine ops_nil ?_
        refine then_n ?_
        refine wp_seq ?_
        refine wp_seq ?_
        refine reg_seq [0, 1] rfl ?_
        refine ops_cons ?_
        refine op_pure rfl (rn_move rfl) rfl rfl ?_
        refine ops_cons ?_
        refine op_pure rfl (rn_decF (by omega) (rn_lss rfl rfl)) rfl rfl ?_
        refine ops_nil ?_
        refine then_n ?_
        refine cond_f rfl ?_
        refine wp_skip ?_
        refine then_n ?_
        refine wp_seq ?_
        refine wp_seq ?_
        refine reg_seq [0, 1, 2] rfl ?_
        refine ops_cons ?_
        refine op_pure rfl (rn_move rfl) rfl rfl ?_
        refine ops_cons ?_
        refine op_pure rfl (rn_move rfl) rfl rfl ?_
        refine ops_cons ?_
        refine op_pure rfl (rn_decF (not_not_intro rfl) (rn_neq rfl rfl)) rfl rfl ?_
        refine ops_nil ?_
        refine then_n ?_
        refine cond_f rfl ?_
        refine wp_skip ?_
        refine then_n ?_
        refine wp_seq ?_
        refine reg_cut (fun a' W' => ∃ (cs_31_5 : List Value) (g_31_6 : Nat) (x' : Nat → Value), a' = actOf 97 x' [(8, .pointer (some ⟨g_8_6, 0, none⟩)), (11, .pointer (some ⟨g_11_4, 0, none⟩)), (13, .int .i64 ((1 + cntv_Vat (pushV a1 x2 x0)))), (15, .pointer (some ⟨g_31_6, 0, none⟩))] ∧ St w No [hB g_31_6 68 (List.toArray cs_31_5), hM ki_Vat (pushV a1 x2 x0) cs_31_5, hM ki_Vat (mkv_Vat 1 (pushV a1 x2 x0)) cs_11_3, hB g_11_4 68 (List.toArray cs_11_3), hB g_8_6 68 (List.toArray cs_8_5), hM ki_Vat (pushV a1 x2 x0) cs_8_5] W') ?_ ?_
        · refine reg_draw (fun W' => Blk W' g_0_0 55 (List.toArray cs0) ∧ Blk W' g_0_1 60 (List.toArray cs2)) 8 (by kernel_rfl) ?_
          have H267 : St w No [hM ki_Vat (mkv_Vat 1 (pushV a1 x2 x0)) cs_11_3, hM ki_Message (mkv_Message (1 + cntv_Vat x0) x2) cs_10_1, hM ki_Vat (mkv_Vat 1 x0) cs_9_1, hM ki_Message x2 cs_16_2, hM ki_Vat x0 cs_14_2, hB g_11_4 68 (List.toArray cs_11_3), hB g_10_2 74 (List.toArray cs_10_1), hB g_9_2 68 (List.toArray cs_9_1), hB g_8_6 68 (List.toArray cs_8_5), hM ki_Vat (pushV a1 x2 x0) cs_8_5, hB g_0_1 60 (List.toArray cs2), hB g_0_0 55 (List.toArray cs0)] W264.drew := H266.drew
          clear H266
          have hS268 : Blk W264.drew g_0_0 55 (List.toArray cs0) ∧ Blk W264.drew g_0_1 60 (List.toArray cs2) := ⟨H267.blk 11 rfl, H267.blk 10 rfl⟩
          refine anyS_take (i := 0) rfl (by kernel_rfl) (by kernel_rfl) (by kernel_rfl) (by kernel_rfl) (by kernel_rfl) (fun _ _ _ h => h) rfl rfl hS268 (fun W' hs' => rn_loadB Tryz.isAgg55 Tryz.sizeOf55 rfl hs'.1 hl0_) ?_
          refine anyS_take (i := 2) rfl (by kernel_rfl) (by kernel_rfl) (by kernel_rfl) (by kernel_rfl) (by kernel_rfl) (fun _ _ _ h => h) rfl rfl hS268 (fun W' hs' => rn_move rfl) ?_
          refine anyS_take (i := 3) rfl (by kernel_rfl) (by kernel_rfl) (by kernel_rfl) (by kernel_rfl) (by kernel_rfl) (fun _ _ _ h => h) rfl rfl hS268 (fun W' hs' => rn_loadB Tryz.isAgg60 Tryz.sizeOf60 rfl hs'.2 hl2_) ?_
          refine anyS_two (i := 1) (i2 := 6) (by kernel_rfl) ?_ ?_
          · refine op_call rfl Tryz.call27 (vs := #[.agg (List.toArray cs0)]) rfl rfl rfl (to_Vat x0 _ _ (K_upd H267.1 hK0) hs_x0) ?_
            rintro e273 W272 ⟨cs_31_1, rfl, hM270, hu271⟩
            refine ⟨_, rfl, ?_⟩
            have hl274 := ki_Vat_len (ki_Vat.K_of_M hM270)
            have ho275 := ki_Vat_one (ki_Vat.K_of_M hM270)
            have H276 : St w No [hM ki_Vat x0 cs_31_1, hM ki_Vat (mkv_Vat 1 (pushV a1 x2 x0)) cs_11_3, hM ki_Message (mkv_Message (1 + cntv_Vat x0) x2) cs_10_1, hM ki_Vat (mkv_Vat 1 x0) cs_9_1, hM ki_Message x2 cs_16_2, hM ki_Vat x0 cs_14_2, hB g_11_4 68 (List.toArray cs_11_3), hB g_10_2 74 (List.toArray cs_10_1), hB g_9_2 68 (List.toArray cs_9_1), hB g_8_6 68 (List.toArray cs_8_5), hM ki_Vat (pushV a1 x2 x0) cs_8_5, hB g_0_1 60 (List.toArray cs2), hB g_0_0 55 (List.toArray cs0)] W272 := H267.new hu271 hM270
            clear H267
            have hS277 : Blk W272 g_0_0 55 (List.toArray cs0) ∧ Blk W272 g_0_1 60 (List.toArray cs2) := ⟨H276.blk 12 rfl, H276.blk 11 rfl⟩
            refine ⟨fun _ => hS277, ?_⟩
            refine anyS_two (i := 4) (i2 := 6) (by kernel_rfl) ?_ ?_
            · refine op_call rfl Tryz.call28 (vs := #[.agg (List.toArray cs2)]) rfl rfl rfl (to_Message x2 _ _ (K_upd H276.1 hK2) hs_x2) ?_
              rintro e282 W281 ⟨cs_31_4, rfl, hM279, hu280⟩
              refine ⟨_, rfl, ?_⟩
              have hl283 := ki_Message_len (ki_Message.K_of_M hM279)
              have ho284 := ki_Message_one (ki_Message.K_of_M hM279)
              have H285 : St w No [hM ki_Message x2 cs_31_4, hM ki_Vat x0 cs_31_1, hM ki_Vat (mkv_Vat 1 (pushV a1 x2 x0)) cs_11_3, hM ki_Message (mkv_Message (1 + cntv_Vat x0) x2) cs_10_1, hM ki_Vat (mkv_Vat 1 x0) cs_9_1, hM ki_Message x2 cs_16_2, hM ki_Vat x0 cs_14_2, hB g_11_4 68 (List.toArray cs_11_3), hB g_10_2 74 (List.toArray cs_10_1), hB g_9_2 68 (List.toArray cs_9_1), hB g_8_6 68 (List.toArray cs_8_5), hM ki_Vat (pushV a1 x2 x0) cs_8_5, hB g_0_1 60 (List.toArray cs2), hB g_0_0 55 (List.toArray cs0)] W281 := H276.new hu280 hM279
              clear H276
              have hS286 : Blk W281 g_0_0 55 (List.toArray cs0) ∧ Blk W281 g_0_1 60 (List.toArray cs2) := ⟨H285.blk 13 rfl, H285.blk 12 rfl⟩
              refine ⟨fun _ => hS286, ?_⟩
              refine anyS_two (i := 5) (i2 := 6) (by kernel_rfl) ?_ ?_
              · refine op_call rfl Tryz.call29 (vs := #[.agg (List.toArray cs_31_1), .int .i64 (a1), .agg (List.toArray cs_31_4)]) rfl rfl rfl (push_I x0 a1 x2 _ _ _ (H285.kn 1 rfl) (Nat.le_trans hs_x0 (by decide)) (H285.kn 0 rfl) (Nat.le_trans hs_x2 (by decide))) ?_
                rintro e290 W289 ⟨cs_31_5, rfl, hM287, hu288⟩
                refine ⟨_, rfl, ?_⟩
                have H291 : St w No [hM ki_Vat (pushV a1 x2 x0) cs_31_5, hM ki_Message x2 cs_31_4, hM ki_Vat x0 cs_31_1, hM ki_Vat (mkv_Vat 1 (pushV a1 x2 x0)) cs_11_3, hM ki_Message (mkv_Message (1 + cntv_Vat x0) x2) cs_10_1, hM ki_Vat (mkv_Vat 1 x0) cs_9_1, hM ki_Message x2 cs_16_2, hM ki_Vat x0 cs_14_2, hB g_11_4 68 (List.toArray cs_11_3), hB g_10_2 74 (List.toArray cs_10_1), hB g_9_2 68 (List.toArray cs_9_1), hB g_8_6 68 (List.toArray cs_8_5), hM ki_Vat (pushV a1 x2 x0) cs_8_5, hB g_0_1 60 (List.toArray cs2), hB g_0_0 55 (List.toArray cs0)] W289 := H285.new hu288 hM287
                clear H285
                have hS292 : Blk W289 g_0_0 55 (List.toArray cs0) ∧ Blk W289 g_0_1 60 (List.toArray cs2) := ⟨H291.blk 14 rfl, H291.blk 13 rfl⟩
                refine ⟨fun _ => hS292, ?_⟩
                refine anyS_one (i := 6) (by kernel_rfl) ?_
                refine op_alloc rfl Tryz.zeroValue68 rfl rfl H291 ?_
                intro g_31_6 W293 hu294 Ha295
                clear H291
                have H296 : St w No [hB g_31_6 68 #[.int .i64 (0), .slice none 0 0, .slice none 0 0, .slice none 0 0, .slice none 0 0], hM ki_Vat (pushV a1 x2 x0) cs_31_5, hM ki_Message x2 cs_31_4, hM ki_Vat x0 cs_31_1, hM ki_Vat (mkv_Vat 1 (pushV a1 x2 x0)) cs_11_3, hM ki_Message (mkv_Message (1 + cntv_Vat x0) x2) cs_10_1, hM ki_Vat (mkv_Vat 1 x0) cs_9_1, hM ki_Message x2 cs_16_2, hM ki_Vat x0 cs_14_2, hB g_11_4 68 (List.toArray cs_11_3), hB g_10_2 74 (List.toArray cs_10_1), hB g_9_2 68 (List.toArray cs_9_1), hB g_8_6 68 (List.toArray cs_8_5), hM ki_Vat (pushV a1 x2 x0) cs_8_5, hB g_0_1 60 (List.toArray cs2), hB g_0_0 55 (List.toArray cs0)] W293 := Ha295
                clear Ha295
                clear hu294
                have hS297 : Blk W293 g_0_0 55 (List.toArray cs0) ∧ Blk W293 g_0_1 60 (List.toArray cs2) := ⟨H296.blk 15 rfl, H296.blk 14 rfl⟩
                refine ⟨fun _ => hS297, ?_⟩
                refine anyS_one (i := 7) (by kernel_rfl) ?_
                refine op_storeW rfl Tryz.sizeOf68 rfl rfl (ki_Vat_len (H296.kn 1 rfl)) rfl (ki_Vat_one (H296.kn 1 rfl)) H296 ?_
                intro W298 hu299 Ha300
                clear H296
                have H301 : St w No [hB g_31_6 68 (List.toArray cs_31_5), hM ki_Vat (pushV a1 x2 x0) cs_31_5, hM ki_Message x2 cs_31_4, hM ki_Vat x0 cs_31_1, hM ki_Vat (mkv_Vat 1 (pushV a1 x2 x0)) cs_11_3, hM ki_Message (mkv_Message (1 + cntv_Vat x0) x2) cs_10_1, hM ki_Vat (mkv_Vat 1 x0) cs_9_1, hM ki_Message x2 cs_16_2, hM ki_Vat x0 cs_14_2, hB g_11_4 68 (List.toArray cs_11_3), hB g_10_2 74 (List.toArray cs_10_1), hB g_9_2 68 (List.toArray cs_9_1), hB g_8_6 68 (List.toArray cs_8_5), hM ki_Vat (pushV a1 x2 x0) cs_8_5, hB g_0_1 60 (List.toArray cs2), hB g_0_0 55 (List.toArray cs0)] W298 := Ha300
                clear Ha300
                clear hu299
                have hS302 : Blk W298 g_0_0 55 (List.toArray cs0) ∧ Blk W298 g_0_1 60 (List.toArray cs2) := ⟨H301.blk 15 rfl, H301.blk 14 rfl⟩
                refine ⟨fun _ => hS302, ?_⟩
                refine anyS_done (by kernel_rfl) ?_ _
                exact (actOf_drop2 [(8, .pointer (some ⟨g_8_6, 0, none⟩)), (11, .pointer (some ⟨g_11_4, 0, none⟩)), (13, .int .i64 ((1 + cntv_Vat (pushV a1 x2 x0)))), (15, .pointer (some ⟨g_31_6, 0, none⟩))] rfl).elim fun x' hx => ⟨cs_31_5, g_31_6, x', hx, H301.pick [0, 1, 4, 9, 12, 13] (by decide) rfl⟩
              · refine op_alloc rfl Tryz.zeroValue68 rfl rfl H285 ?_
                intro g_31_6 W303 hu304 Ha305
                clear H285
                have H306 : St w No [hB g_31_6 68 #[.int .i64 (0), .slice none 0 0, .slice none 0 0, .slice none 0 0, .slice none 0 0], hM ki_Message x2 cs_31_4, hM ki_Vat x0 cs_31_1, hM ki_Vat (mkv_Vat 1 (pushV a1 x2 x0)) cs_11_3, hM ki_Message (mkv_Message (1 + cntv_Vat x0) x2) cs_10_1, hM ki_Vat (mkv_Vat 1 x0) cs_9_1, hM ki_Message x2 cs_16_2, hM ki_Vat x0 cs_14_2, hB g_11_4 68 (List.toArray cs_11_3), hB g_10_2 74 (List.toArray cs_10_1), hB g_9_2 68 (List.toArray cs_9_1), hB g_8_6 68 (List.toArray cs_8_5), hM ki_Vat (pushV a1 x2 x0) cs_8_5, hB g_0_1 60 (List.toArray cs2), hB g_0_0 55 (List.toArray cs0)] W303 := Ha305
                clear Ha305
                clear hu304
                have hS307 : Blk W303 g_0_0 55 (List.toArray cs0) ∧ Blk W303 g_0_1 60 (List.toArray cs2) := ⟨H306.blk 14 rfl, H306.blk 13 rfl⟩
                refine ⟨fun _ => hS307, ?_⟩
                refine anyS_one (i := 5) (by kernel_rfl) ?_
                refine op_call rfl Tryz.call29 (vs := #[.agg (List.toArray cs_31_1), .int .i64 (a1), .agg (List.toArray cs_31_4)]) rfl rfl rfl (push_I x0 a1 x2 _ _ _ (H306.kn 2 rfl) (Nat.le_trans hs_x0 (by decide)) (H306.kn 1 rfl) (Nat.le_trans hs_x2 (by decide))) ?_
                rintro e311 W310 ⟨cs_31_5, rfl, hM308, hu309⟩
                refine ⟨_, rfl, ?_⟩
                have H312 : St w No [hM ki_Vat (pushV a1 x2 x0) cs_31_5, hB g_31_6 68 #[.int .i64 (0), .slice none 0 0, .slice none 0 0, .slice none 0 0, .slice none 0 0], hM ki_Message x2 cs_31_4, hM ki_Vat x0 cs_31_1, hM ki_Vat (mkv_Vat 1 (pushV a1 x2 x0)) cs_11_3, hM ki_Message (mkv_Message (1 + cntv_Vat x0) x2) cs_10_1, hM ki_Vat (mkv_Vat 1 x0) cs_9_1, hM ki_Message x2 cs_16_2, hM ki_Vat x0 cs_14_2, hB g_11_4 68 (List.toArray cs_11_3), hB g_10_2 74 (List.toArray cs_10_1), hB g_9_2 68 (List.toArray cs_9_1), hB g_8_6 68 (List.toArray cs_8_5), hM ki_Vat (pushV a1 x2 x0) cs_8_5, hB g_0_1 60 (List.toArray cs2), hB g_0_0 55 (List.toArray cs0)] W310 := H306.new hu309 hM308
                clear H306
                have hS313 : Blk W310 g_0_0 55 (List.toArray cs0) ∧ Blk W310 g_0_1 60 (List.toArray cs2) := ⟨H312.blk 15 rfl, H312.blk 14 rfl⟩
                refine ⟨fun _ => hS313, ?_⟩
                refine anyS_one (i := 7) (by kernel_rfl) ?_
                have H317 : St w No [hB g_31_6 68 #[.int .i64 (0), .slice none 0 0, .slice none 0 0, .slice none 0 0, .slice none 0 0], hM ki_Vat (pushV a1 x2 x0) cs_31_5, hM ki_Message x2 cs_31_4, hM ki_Vat x0 cs_31_1, hM ki_Vat (mkv_Vat 1 (pushV a1 x2 x0)) cs_11_3, hM ki_Message (mkv_Message (1 + cntv_Vat x0) x2) cs_10_1, hM ki_Vat (mkv_Vat 1 x0) cs_9_1, hM ki_Message x2 cs_16_2, hM ki_Vat x0 cs_14_2, hB g_11_4 68 (List.toArray cs_11_3), hB g_10_2 74 (List.toArray cs_10_1), hB g_9_2 68 (List.toArray cs_9_1), hB g_8_6 68 (List.toArray cs_8_5), hM ki_Vat (pushV a1 x2 x0) cs_8_5, hB g_0_1 60 (List.toArray cs2), hB g_0_0 55 (List.toArray cs0)] W310 := H312.pick [1, 0, 2, 3, 4, 5, 6, 7, 8, 9, 10, 11, 12, 13, 14, 15] (by decide) rfl
                clear H312
                refine op_storeW rfl Tryz.sizeOf68 rfl rfl (ki_Vat_len (H317.kn 1 rfl)) rfl (ki_Vat_one (H317.kn 1 rfl)) H317 ?_
                intro W314 hu315 Ha316
                clear H317
                have H318 : St w No [hB g_31_6 68 (List.toArray cs_31_5), hM ki_Vat (pushV a1 x2 x0) cs_31_5, hM ki_Message x2 cs_31_4, hM ki_Vat x0 cs_31_1, hM ki_Vat (mkv_Vat 1 (pushV a1 x2 x0)) cs_11_3, hM ki_Message (mkv_Message (1 + cntv_Vat x0) x2) cs_10_1, hM ki_Vat (mkv_Vat 1 x0) cs_9_1, hM ki_Message x2 cs_16_2, hM ki_Vat x0 cs_14_2, hB g_11_4 68 (List.toArray cs_11_3), hB g_10_2 74 (List.toArray cs_10_1), hB g_9_2 68 (List.toArray cs_9_1), hB g_8_6 68 (List.toArray cs_8_5), hM ki_Vat (pushV a1 x2 x0) cs_8_5, hB g_0_1 60 (List.toArray cs2), hB g_0_0 55 (List.toArray cs0)] W314 := Ha316
                clear Ha316
                clear hu315
                have hS319 : Blk W314 g_0_0 55 (List.toArray cs0) ∧ Blk W314 g_0_1 60 (List.toArray cs2) := ⟨H318.blk 15 rfl, H318.blk 14 rfl⟩
                refine ⟨fun _ => hS319, ?_⟩
                refine anyS_done (by kernel_rfl) ?_ _
                exact (actOf_drop2 [(8, .pointer (some ⟨g_8_6, 0, none⟩)), (11, .pointer (some ⟨g_11_4, 0, none⟩)), (13, .int .i64 ((1 + cntv_Vat (pushV a1 x2 x0)))), (15, .pointer (some ⟨g_31_6, 0, none⟩))] rfl).elim fun x' hx => ⟨cs_31_5, g_31_6, x', hx, H318.pick [0, 1, 4, 9, 12, 13] (by decide) rfl⟩
            · refine op_alloc rfl Tryz.zeroValue68 rfl rfl H276 ?_
              intro g_31_6 W320 hu321 Ha322
              clear H276
              have H323 : St w No [hB g_31_6 68 #[.int .i64 (0), .slice none 0 0, .slice none 0 0, .slice none 0 0, .slice none 0 0], hM ki_Vat x0 cs_31_1, hM ki_Vat (mkv_Vat 1 (pushV a1 x2 x0)) cs_11_3, hM ki_Message (mkv_Message (1 + cntv_Vat x0) x2) cs_10_1, hM ki_Vat (mkv_Vat 1 x0) cs_9_1, hM ki_Message x2 cs_16_2, hM ki_Vat x0 cs_14_2, hB g_11_4 68 (List.toArray cs_11_3), hB g_10_2 74 (List.toArray cs_10_1), hB g_9_2 68 (List.toArray cs_9_1), hB g_8_6 68 (List.toArray cs_8_5), hM ki_Vat (pushV a1 x2 x0) cs_8_5, hB g_0_1 60 (List.toArray cs2), hB g_0_0 55 (List.toArray cs0)] W320 := Ha322
              clear Ha322
              clear hu321
              have hS324 : Blk W320 g_0_0 55 (List.toArray cs0) ∧ Blk W320 g_0_1 60 (List.toArray cs2) := ⟨H323.blk 13 rfl, H323.blk 12 rfl⟩
              refine ⟨fun _ => hS324, ?_⟩
              refine anyS_one (i := 4) (by kernel_rfl) ?_
              refine op_call rfl Tryz.call28 (vs := #[.agg (List.toArray cs2)]) rfl rfl rfl (to_Message x2 _ _ (K_upd H323.1 hK2) hs_x2) ?_
              rintro e329 W328 ⟨cs_31_4, rfl, hM326, hu327⟩
              refine ⟨_, rfl, ?_⟩
              have hl330 := ki_Message_len (ki_Message.K_of_M hM326)
              have ho331 := ki_Message_one (ki_Message.K_of_M hM326)
              have H332 : St w No [hM ki_Message x2 cs_31_4, hB g_31_6 68 #[.int .i64 (0), .slice none 0 0, .slice none 0 0, .slice none 0 0, .slice none 0 0], hM ki_Vat x0 cs_31_1, hM ki_Vat (mkv_Vat 1 (pushV a1 x2 x0)) cs_11_3, hM ki_Message (mkv_Message (1 + cntv_Vat x0) x2) cs_10_1, hM ki_Vat (mkv_Vat 1 x0) cs_9_1, hM ki_Message x2 cs_16_2, hM ki_Vat x0 cs_14_2, hB g_11_4 68 (List.toArray cs_11_3), hB g_10_2 74 (List.toArray cs_10_1), hB g_9_2 68 (List.toArray cs_9_1), hB g_8_6 68 (List.toArray cs_8_5), hM ki_Vat (pushV a1 x2 x0) cs_8_5, hB g_0_1 60 (List.toArray cs2), hB g_0_0 55 (List.toArray cs0)] W328 := H323.new hu327 hM326
              clear H323
              have hS333 : Blk W328 g_0_0 55 (List.toArray cs0) ∧ Blk W328 g_0_1 60 (List.toArray cs2) := ⟨H332.blk 14 rfl, H332.blk 13 rfl⟩
              refine ⟨fun _ => hS333, ?_⟩
              refine anyS_one (i := 5) (by kernel_rfl) ?_
              refine op_call rfl Tryz.call29 (vs := #[.agg (List.toArray cs_31_1), .int .i64 (a1), .agg (List.toArray cs_31_4)]) rfl rfl rfl (push_I x0 a1 x2 _ _ _ (H332.kn 2 rfl) (Nat.le_trans hs_x0 (by decide)) (H332.kn 0 rfl) (Nat.le_trans hs_x2 (by decide))) ?_
              rintro e337 W336 ⟨cs_31_5, rfl, hM334, hu335⟩
              refine ⟨_, rfl, ?_⟩
              have H338 : St w No [hM ki_Vat (pushV a1 x2 x0) cs_31_5, hM ki_Message x2 cs_31_4, hB g_31_6 68 #[.int .i64 (0), .slice none 0 0, .slice none 0 0, .slice none 0 0, .slice none 0 0], hM ki_Vat x0 cs_31_1, hM ki_Vat (mkv_Vat 1 (pushV a1 x2 x0)) cs_11_3, hM ki_Message (mkv_Message (1 + cntv_Vat x0) x2) cs_10_1, hM ki_Vat (mkv_Vat 1 x0) cs_9_1, hM ki_Message x2 cs_16_2, hM ki_Vat x0 cs_14_2, hB g_11_4 68 (List.toArray cs_11_3), hB g_10_2 74 (List.toArray cs_10_1), hB g_9_2 68 (List.toArray cs_9_1), hB g_8_6 68 (List.toArray cs_8_5), hM ki_Vat (pushV a1 x2 x0) cs_8_5, hB g_0_1 60 (List.toArray cs2), hB g_0_0 55 (List.toArray cs0)] W336 := H332.new hu335 hM334
              clear H332
              have hS339 : Blk W336 g_0_0 55 (List.toArray cs0) ∧ Blk W336 g_0_1 60 (List.toArray cs2) := ⟨H338.blk 15 rfl, H338.blk 14 rfl⟩
              refine ⟨fun _ => hS339, ?_⟩
              refine anyS_one (i := 7) (by kernel_rfl) ?_
              have H343 : St w No [hB g_31_6 68 #[.int .i64 (0), .slice none 0 0, .slice none 0 0, .slice none 0 0, .slice none 0 0], hM ki_Vat (pushV a1 x2 x0) cs_31_5, hM ki_Message x2 cs_31_4, hM ki_Vat x0 cs_31_1, hM ki_Vat (mkv_Vat 1 (pushV a1 x2 x0)) cs_11_3, hM ki_Message (mkv_Message (1 + cntv_Vat x0) x2) cs_10_1, hM ki_Vat (mkv_Vat 1 x0) cs_9_1, hM ki_Message x2 cs_16_2, hM ki_Vat x0 cs_14_2, hB g_11_4 68 (List.toArray cs_11_3), hB g_10_2 74 (List.toArray cs_10_1), hB g_9_2 68 (List.toArray cs_9_1), hB g_8_6 68 (List.toArray cs_8_5), hM ki_Vat (pushV a1 x2 x0) cs_8_5, hB g_0_1 60 (List.toArray cs2), hB g_0_0 55 (List.toArray cs0)] W336 := H338.pick [2, 0, 1, 3, 4, 5, 6, 7, 8, 9, 10, 11, 12, 13, 14, 15] (by decide) rfl
              clear H338
              refine op_storeW rfl Tryz.sizeOf68 rfl rfl (ki_Vat_len (H343.kn 1 rfl)) rfl (ki_Vat_one (H343.kn 1 rfl)) H343 ?_
              intro W340 hu341 Ha342
              clear H343
              have H344 : St w No [hB g_31_6 68 (List.toArray cs_31_5), hM ki_Vat (pushV a1 x2 x0) cs_31_5, hM ki_Message x2 cs_31_4, hM ki_Vat x0 cs_31_1, hM ki_Vat (mkv_Vat 1 (pushV a1 x2 x0)) cs_11_3, hM ki_Message (mkv_Message (1 + cntv_Vat x0) x2) cs_10_1, hM ki_Vat (mkv_Vat 1 x0) cs_9_1, hM ki_Message x2 cs_16_2, hM ki_Vat x0 cs_14_2, hB g_11_4 68 (List.toArray cs_11_3), hB g_10_2 74 (List.toArray cs_10_1), hB g_9_2 68 (List.toArray cs_9_1), hB g_8_6 68 (List.toArray cs_8_5), hM ki_Vat (pushV a1 x2 x0) cs_8_5, hB g_0_1 60 (List.toArray cs2), hB g_0_0 55 (List.toArray cs0)] W340 := Ha342
              clear Ha342
              clear hu341
              have hS345 : Blk W340 g_0_0 55 (List.toArray cs0) ∧ Blk W340 g_0_1 60 (List.toArray cs2) := ⟨H344.blk 15 rfl, H344.blk 14 rfl⟩
              refine ⟨fun _ => hS345, ?_⟩
              refine anyS_done (by kernel_rfl) ?_ _
              exact (actOf_drop2 [(8, .pointer (some ⟨g_8_6, 0, none⟩)), (11, .pointer (some ⟨g_11_4, 0, none⟩)), (13, .int .i64 ((1 + cntv_Vat (pushV a1 x2 x0)))), (15, .pointer (some ⟨g_31_6, 0, none⟩))] rfl).elim fun x' hx => ⟨cs_31_5, g_31_6, x', hx, H344.pick [0, 1, 4, 9, 12, 13] (by decide) rfl⟩
          · refine op_alloc rfl Tryz.zeroValue68 rfl rfl H267 ?_
            intro g_31_6 W346 hu347 Ha348
            clear H267
            have H349 : St w No [hB g_31_6 68 #[.int .i64 (0), .slice none 0 0, .slice none 0 0, .slice none 0 0, .slice none 0 0], hM ki_Vat (mkv_Vat 1 (pushV a1 x2 x0)) cs_11_3, hM ki_Message (mkv_Message (1 + cntv_Vat x0) x2) cs_10_1, hM ki_Vat (mkv_Vat 1 x0) cs_9_1, hM ki_Message x2 cs_16_2, hM ki_Vat x0 cs_14_2, hB g_11_4 68 (List.toArray cs_11_3), hB g_10_2 74 (List.toArray cs_10_1), hB g_9_2 68 (List.toArray cs_9_1), hB g_8_6 68 (List.toArray cs_8_5), hM ki_Vat (pushV a1 x2 x0) cs_8_5, hB g_0_1 60 (List.toArray cs2), hB g_0_0 55 (List.toArray cs0)] W346 := Ha348
            clear Ha348
            clear hu347
            have hS350 : Blk W346 g_0_0 55 (List.toArray cs0) ∧ Blk W346 g_0_1 60 (List.toArray cs2) := ⟨H349.blk 12 rfl, H349.blk 11 rfl⟩
            refine ⟨fun _ => hS350, ?_⟩
            refine anyS_one (i := 1) (by kernel_rfl) ?_
            refine op_call rfl Tryz.call27 (vs := #[.agg (List.toArray cs0)]) rfl rfl rfl (to_Vat x0 _ _ (K_upd H349.1 hK0) hs_x0) ?_
            rintro e355 W354 ⟨cs_31_1, rfl, hM352, hu353⟩
            refine ⟨_, rfl, ?_⟩
            have hl356 := ki_Vat_len (ki_Vat.K_of_M hM352)
            have ho357 := ki_Vat_one (ki_Vat.K_of_M hM352)
            have H358 : St w No [hM ki_Vat x0 cs_31_1, hB g_31_6 68 #[.int .i64 (0), .slice none 0 0, .slice none 0 0, .slice none 0 0, .slice none 0 0], hM ki_Vat (mkv_Vat 1 (pushV a1 x2 x0)) cs_11_3, hM ki_Message (mkv_Message (1 + cntv_Vat x0) x2) cs_10_1, hM ki_Vat (mkv_Vat 1 x0) cs_9_1, hM ki_Message x2 cs_16_2, hM ki_Vat x0 cs_14_2, hB g_11_4 68 (List.toArray cs_11_3), hB g_10_2 74 (List.toArray cs_10_1), hB g_9_2 68 (List.toArray cs_9_1), hB g_8_6 68 (List.toArray cs_8_5), hM ki_Vat (pushV a1 x2 x0) cs_8_5, hB g_0_1 60 (List.toArray cs2), hB g_0_0 55 (List.toArray cs0)] W354 := H349.new hu353 hM352
            clear H349
            have hS359 : Blk W354 g_0_0 55 (List.toArray cs0) ∧ Blk W354 g_0_1 60 (List.toArray cs2) := ⟨H358.blk 13 rfl, H358.blk 12 rfl⟩
            refine ⟨fun _ => hS359, ?_⟩
            refine anyS_one (i := 4) (by kernel_rfl) ?_
            refine op_call rfl Tryz.call28 (vs := #[.agg (List.toArray cs2)]) rfl rfl rfl (to_Message x2 _ _ (K_upd H358.1 hK2) hs_x2) ?_
            rintro e364 W363 ⟨cs_31_4, rfl, hM361, hu362⟩
            refine ⟨_, rfl, ?_⟩
            have hl365 := ki_Message_len (ki_Message.K_of_M hM361)
            have ho366 := ki_Message_one (ki_Message.K_of_M hM361)
            have H367 : St w No [hM ki_Message x2 cs_31_4, hM ki_Vat x0 cs_31_1, hB g_31_6 68 #[.int .i64 (0), .slice none 0 0, .slice none 0 0, .slice none 0 0, .slice none 0 0], hM ki_Vat (mkv_Vat 1 (pushV a1 x2 x0)) cs_11_3, hM ki_Message (mkv_Message (1 + cntv_Vat x0) x2) cs_10_1, hM ki_Vat (mkv_Vat 1 x0) cs_9_1, hM ki_Message x2 cs_16_2, hM ki_Vat x0 cs_14_2, hB g_11_4 68 (List.toArray cs_11_3), hB g_10_2 74 (List.toArray cs_10_1), hB g_9_2 68 (List.toArray cs_9_1), hB g_8_6 68 (List.toArray cs_8_5), hM ki_Vat (pushV a1 x2 x0) cs_8_5, hB g_0_1 60 (List.toArray cs2), hB g_0_0 55 (List.toArray cs0)] W363 := H358.new hu362 hM361
            clear H358
            have hS368 : Blk W363 g_0_0 55 (List.toArray cs0) ∧ Blk W363 g_0_1 60 (List.toArray cs2) := ⟨H367.blk 14 rfl, H367.blk 13 rfl⟩
            refine ⟨fun _ => hS368, ?_⟩
            refine anyS_one (i := 5) (by kernel_rfl) ?_
            refine op_call rfl Tryz.call29 (vs := #[.agg (List.toArray cs_31_1), .int .i64 (a1), .agg (List.toArray cs_31_4)]) rfl rfl rfl (push_I x0 a1 x2 _ _ _ (H367.kn 1 rfl) (Nat.le_trans hs_x0 (by decide)) (H367.kn 0 rfl) (Nat.le_trans hs_x2 (by decide))) ?_
            rintro e372 W371 ⟨cs_31_5, rfl, hM369, hu370⟩
            refine ⟨_, rfl, ?_⟩
            have H373 : St w No [hM ki_Vat (pushV a1 x2 x0) cs_31_5, hM ki_Message x2 cs_31_4, hM ki_Vat x0 cs_31_1, hB g_31_6 68 #[.int .i64 (0), .slice none 0 0, .slice none 0 0, .slice none 0 0, .slice none 0 0], hM ki_Vat (mkv_Vat 1 (pushV a1 x2 x0)) cs_11_3, hM ki_Message (mkv_Message (1 + cntv_Vat x0) x2) cs_10_1, hM ki_Vat (mkv_Vat 1 x0) cs_9_1, hM ki_Message x2 cs_16_2, hM ki_Vat x0 cs_14_2, hB g_11_4 68 (List.toArray cs_11_3), hB g_10_2 74 (List.toArray cs_10_1), hB g_9_2 68 (List.toArray cs_9_1), hB g_8_6 68 (List.toArray cs_8_5), hM ki_Vat (pushV a1 x2 x0) cs_8_5, hB g_0_1 60 (List.toArray cs2), hB g_0_0 55 (List.toArray cs0)] W371 := H367.new hu370 hM369
            clear H367
            have hS374 : Blk W371 g_0_0 55 (List.toArray cs0) ∧ Blk W371 g_0_1 60 (List.toArray cs2) := ⟨H373.blk 15 rfl, H373.blk 14 rfl⟩
            refine ⟨fun _ => hS374, ?_⟩
            refine anyS_one (i := 7) (by kernel_rfl) ?_
            have H378 : St w No [hB g_31_6 68 #[.int .i64 (0), .slice none 0 0, .slice none 0 0, .slice none 0 0, .slice none 0 0], hM ki_Vat (pushV a1 x2 x0) cs_31_5, hM ki_Message x2 cs_31_4, hM ki_Vat x0 cs_31_1, hM ki_Vat (mkv_Vat 1 (pushV a1 x2 x0)) cs_11_3, hM ki_Message (mkv_Message (1 + cntv_Vat x0) x2) cs_10_1, hM ki_Vat (mkv_Vat 1 x0) cs_9_1, hM ki_Message x2 cs_16_2, hM ki_Vat x0 cs_14_2, hB g_11_4 68 (List.toArray cs_11_3), hB g_10_2 74 (List.toArray cs_10_1), hB g_9_2 68 (List.toArray cs_9_1), hB g_8_6 68 (List.toArray cs_8_5), hM ki_Vat (pushV a1 x2 x0) cs_8_5, hB g_0_1 60 (List.toArray cs2), hB g_0_0 55 (List.toArray cs0)] W371 := H373.pick [3, 0, 1, 2, 4, 5, 6, 7, 8, 9, 10, 11, 12, 13, 14, 15] (by decide) rfl
            clear H373
            refine op_storeW rfl Tryz.sizeOf68 rfl rfl (ki_Vat_len (H378.kn 1 rfl)) rfl (ki_Vat_one (H378.kn 1 rfl)) H378 ?_
            intro W375 hu376 Ha377
            clear H378
            have H379 : St w No [hB g_31_6 68 (List.toArray cs_31_5), hM ki_Vat (pushV a1 x2 x0) cs_31_5, hM ki_Message x2 cs_31_4, hM ki_Vat x0 cs_31_1, hM ki_Vat (mkv_Vat 1 (pushV a1 x2 x0)) cs_11_3, hM ki_Message (mkv_Message (1 + cntv_Vat x0) x2) cs_10_1, hM ki_Vat (mkv_Vat 1 x0) cs_9_1, hM ki_Message x2 cs_16_2, hM ki_Vat x0 cs_14_2, hB g_11_4 68 (List.toArray cs_11_3), hB g_10_2 74 (List.toArray cs_10_1), hB g_9_2 68 (List.toArray cs_9_1), hB g_8_6 68 (List.toArray cs_8_5), hM ki_Vat (pushV a1 x2 x0) cs_8_5, hB g_0_1 60 (List.toArray cs2), hB g_0_0 55 (List.toArray cs0)] W375 := Ha377
            clear Ha377
            clear hu376
            have hS380 : Blk W375 g_0_0 55 (List.toArray cs0) ∧ Blk W375 g_0_1 60 (List.toArray cs2) := ⟨H379.blk 15 rfl, H379.blk 14 rfl⟩
            refine ⟨fun _ => hS380, ?_⟩
            refine anyS_done (by kernel_rfl) ?_ _
            exact (actOf_drop2 [(8, .pointer (some ⟨g_8_6, 0, none⟩)), (11, .pointer (some ⟨g_11_4, 0, none⟩)), (13, .int .i64 ((1 + cntv_Vat (pushV a1 x2 x0)))), (15, .pointer (some ⟨g_31_6, 0, none⟩))] rfl).elim fun x' hx => ⟨cs_31_5, g_31_6, x', hx, H379.pick [0, 1, 4, 9, 12, 13] (by decide) rfl⟩
        · rintro _ W382 ⟨cs_31_5, g_31_6, x383, rfl, H381⟩
          refine then_n ?_
          refine wp_seq ?_
          refine wp_seq ?_
          refine reg_seq [0, 1, 2, 3] rfl ?_
          refine ops_cons ?_
          refine op_pure rfl (rn_loadB Tryz.isAgg68 Tryz.sizeOf68 rfl (H381.blk 0 rfl) (ki_Vat_len (H381.kn 1 rfl))) rfl rfl ?_
          refine ops_cons ?_
          refine op_pure rfl (rn_loadB Tryz.isAgg68 Tryz.sizeOf68 rfl (H381.blk 4 rfl) (ki_Vat_len (H381.kn 5 rfl))) rfl rfl ?_
          refine ops_cons ?_
          refine op_call rfl Tryz.call30 (vs := #[.agg (List.toArray cs_31_5), .agg (List.toArray cs_8_5)]) rfl rfl rfl (eq_Vat (pushV a1 x2 x0) _ _ _ (H381.kn 1 rfl) (H381.kn 5 rfl)) ?_
          rintro e386 W385 ⟨rfl, hu384⟩
          refine ⟨_, rfl, ?_⟩
          have H387 : St w No [hB g_31_6 68 (List.toArray cs_31_5), hM ki_Vat (pushV a1 x2 x0) cs_31_5, hM ki_Vat (mkv_Vat 1 (pushV a1 x2 x0)) cs_11_3, hB g_11_4 68 (List.toArray cs_11_3), hB g_8_6 68 (List.toArray cs_8_5), hM ki_Vat (pushV a1 x2 x0) cs_8_5] W385 := H381.no hu384
          clear H381
          refine ops_cons ?_
          refine op_pure rfl (rn_not rfl) rfl rfl ?_
          refine ops_nil ?_
          refine then_n ?_
          refine cond_f rfl ?_
          refine wp_skip ?_
          refine then_n ?_
          refine wp_seq ?_
          refine reg_seq [0] rfl ?_
          refine ops_cons ?_
          refine op_pure rfl (rn_assign rfl) rfl rfl ?_
          refine ops_nil ?_
          refine then_n ?_
          refine wp_seq ?_
          refine reg_seq [0, 1, 2, 3] rfl ?_
          refine ops_cons ?_
          refine op_pure rfl (rn_loadB Tryz.isAgg68 Tryz.sizeOf68 rfl (H387.blk 3 rfl) (ki_Vat_len (H387.kn 2 rfl))) rfl rfl ?_
          refine ops_cons ?_
          refine op_pure rfl (rn_move rfl) rfl rfl ?_
          refine ops_cons ?_
          refine op_call rfl Tryz.call34 (vs := #[.agg (List.toArray cs_11_3), .int .i64 (1)]) rfl rfl rfl (heldv_Vat_c (pushV a1 x2 x0) _ _ _ (H387.kn 2 rfl) (by omega) (by omega)) ?_
          rintro e390 W389 ⟨rfl, hu388⟩
          refine ⟨_, rfl, ?_⟩
          have H391 : St w No [hB g_31_6 68 (List.toArray cs_31_5), hM ki_Vat (pushV a1 x2 x0) cs_31_5, hM ki_Vat (mkv_Vat 1 (pushV a1 x2 x0)) cs_11_3, hB g_11_4 68 (List.toArray cs_11_3), hB g_8_6 68 (List.toArray cs_8_5), hM ki_Vat (pushV a1 x2 x0) cs_8_5] W389 := H387.no hu388
          clear H387
          refine ops_cons ?_
          refine op_pure rfl (rn_assign rfl) rfl rfl ?_
          refine ops_nil ?_
          refine then_n ?_
          refine wp_seq ?_
          refine wp_seq ?_
          refine reg_seq [0, 1] rfl ?_
          refine ops_cons ?_
          refine op_pure rfl (rn_move rfl) rfl rfl ?_
          refine ops_cons ?_
          refine op_pure rfl (rn_decF (by omega) (rn_lss rfl rfl)) rfl rfl ?_
          refine ops_nil ?_
          refine then_n ?_
          refine cond_f rfl ?_
          refine wp_skip ?_
          refine then_n ?_
          refine wp_seq ?_
          refine wp_seq ?_
          refine reg_seq [0, 1, 2] rfl ?_
          refine ops_cons ?_
          refine op_pure rfl (rn_move rfl) rfl rfl ?_
          refine ops_cons ?_
          refine op_pure rfl (rn_move rfl) rfl rfl ?_
          refine ops_cons ?_
          refine op_pure rfl (rn_decF (not_not_intro rfl) (rn_neq rfl rfl)) rfl rfl ?_
          refine ops_nil ?_
          refine then_n ?_
          refine cond_f rfl ?_
          refine wp_skip ?_
          refine then_n ?_
          refine wp_seq ?_
          refine reg_seq [0] rfl ?_
          refine ops_cons ?_
          refine op_pure rfl (rn_assign rfl) rfl rfl ?_
          refine ops_nil ?_
          refine then_n ?_
          refine wp_ret ?_
          refine post_tmp (.inl rfl) Tryz.results5 rfl ?_
          exact ⟨rfl, H391.1⟩
end Go.Proofs.YtfnedoiplblldaaGreatFam
