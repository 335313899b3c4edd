/- Worlds copied. No conditions. -/
import Derived.Test.YtfnedoiplblldaaGreatProg
import Derived.Test.YtfnedoiplblldaaGreatTy
import Derived.Test.YtfnedoiplblldaaGreatOpn
import Derived.Test.YtfnedoiplblldaaGreatFamWorld
import Derived.Test.YtfnedoiplblldaaGreatCx8
import Derived.Test.YtfnedoiplblldaaGreatCp5
import Derived.Test.YtfnedoiplblldaaGreatCp6
import Derived.Test.YtfnedoiplblldaaGreatCp10
namespace Go.Proofs.YtfnedoiplblldaaGreatFam
open Go.ChangeShapes Go.WideShapes Go.RowKit Go.Proofs.YtfnedoiplblldaaGreatSep Go.Proofs.YtfnedoiplblldaaGreatT Go.Proofs.YtfnedoiplblldaaGreatK
set_option linter.unusedVariables false
set_option linter.unusedSimpArgs false
set_option maxHeartbeats 4000000 in
set_option maxRecDepth 100000 in
theorem l21Copy_s (x : GWorld) (cs : List Value) (w : World) (h : ki_World.K w x cs) (hs : szn_World x ≤ 4194304) : Calls Tryz.prog 55 #[.agg cs.toArray] w (RetAgg ki_World x w) := by
  obtain ⟨Ax0, cx0, Ax1, cx1, Ax2, cx2, Ax3, cx3, rfl, hlx0, hCx0, hlx1, hCx1, hlx2, hCx2, hlx3, hCx3⟩ := ki_World_K h
  have s_Library : sznS szn_Script x.Library ≤ 4194304 := by unfold szn_World at hs; omega
  have n_Library : x.Library.length ≤ 4194304 := by unfold sznS at s_Library; omega
  have s_Vats : sznS szn_Vat x.Vats ≤ 4194304 := by unfold szn_World at hs; omega
  have n_Vats : x.Vats.length ≤ 4194304 := by unfold sznS at s_Vats; omega
  have s_Channels : sznS szn_Channel x.Channels ≤ 4194304 := by unfold szn_World at hs; omega
  have n_Channels : x.Channels.length ≤ 4194304 := by unfold sznS at s_Channels; omega
  have s_Notes : sznS szn_Note x.Notes ≤ 4194304 := by unfold szn_World at hs; omega
  have n_Notes : x.Notes.length ≤ 4194304 := by unfold sznS at s_Notes; omega
  refine enter 37 [(0, .agg #[.slice Ax0 x.Library.length cx0, .slice Ax1 x.Vats.length cx1, .slice Ax2 x.Channels.length cx2, .slice Ax3 x.Notes.length cx3, .int .i64 (x.Strays)])] Tryz.func55 rfl (by kernel_rfl) ?_
  intro xj
  have H1 : St w No [] w := St.enter
  refine wp_seq ?_
  refine reg_seq [0, 1] rfl ?_
  refine ops_cons ?_
  refine op_box rfl rfl rfl rfl H1 ?_
  intro g_0_0 W2 hu3 Ha4
  clear H1
  have H5 : St w No [hB g_0_0 36 #[.slice Ax0 x.Library.length cx0, .slice Ax1 x.Vats.length cx1, .slice Ax2 x.Channels.length cx2, .slice Ax3 x.Notes.length cx3, .int .i64 (x.Strays)]] W2 := Ha4
  clear Ha4
  clear hu3
  refine ops_cons ?_
  refine op_alloc rfl Tryz.zeroValue36 rfl rfl H5 ?_
  intro g_0_1 W6 hu7 Ha8
  clear H5
  have H9 : St w No [hB g_0_1 36 #[.slice none 0 0, .slice none 0 0, .slice none 0 0, .slice none 0 0, .int .i64 (0)], hB g_0_0 36 #[.slice Ax0 x.Library.length cx0, .slice Ax1 x.Vats.length cx1, .slice Ax2 x.Channels.length cx2, .slice Ax3 x.Notes.length cx3, .int .i64 (x.Strays)]] W6 := Ha8
  clear Ha8
  clear hu7
  refine ops_nil ?_
  refine then_n ?_
  refine wp_seq ?_
  refine reg_cut (fun a' W' => ∃ (B_1_2 : Option Addr) (c_1_2 : Nat) (B_1_5 : Option Addr) (c_1_5 : Nat) (B_1_9 : Option Addr) (c_1_9 : Nat) (g_1_13 : Nat) (x' : Nat → Value), a' = actOf 37 x' [(1, .pointer (some ⟨g_0_0, 0, none⟩)), (2, .pointer (some ⟨g_0_1, 0, none⟩)), (3, .pointer (some ⟨g_1_13, 0, none⟩))] ∧ St w No [hB g_1_13 36 #[.slice B_1_2 x.Library.length c_1_2, .slice none 0 0, .slice B_1_5 x.Channels.length c_1_5, .slice B_1_9 x.Notes.length c_1_9, .int .i64 (x.Strays)], hR ki_Note 110 (.slice B_1_9 x.Notes.length c_1_9) x.Notes, hR ki_Channel 196 (.slice B_1_5 x.Channels.length c_1_5) x.Channels, hR ki_Script 133 (.slice B_1_2 x.Library.length c_1_2) x.Library, hB g_0_1 36 #[.slice none 0 0, .slice none 0 0, .slice none 0 0, .slice none 0 0, .int .i64 (0)], hB g_0_0 36 #[.slice Ax0 x.Library.length cx0, .slice Ax1 x.Vats.length cx1, .slice Ax2 x.Channels.length cx2, .slice Ax3 x.Notes.length cx3, .int .i64 (x.Strays)]] W') ?_ ?_
  · refine reg_draw (fun W' => Blk W' g_0_0 36 #[.slice Ax0 x.Library.length cx0, .slice Ax1 x.Vats.length cx1, .slice Ax2 x.Channels.length cx2, .slice Ax3 x.Notes.length cx3, .int .i64 (x.Strays)]) 15 (by kernel_rfl) ?_
    have H10 : St w No [hB g_0_1 36 #[.slice none 0 0, .slice none 0 0, .slice none 0 0, .slice none 0 0, .int .i64 (0)], hB g_0_0 36 #[.slice Ax0 x.Library.length cx0, .slice Ax1 x.Vats.length cx1, .slice Ax2 x.Channels.length cx2, .slice Ax3 x.Notes.length cx3, .int .i64 (x.Strays)]] W6.drew := H9.drew
    clear H9
    have hS11 : Blk W6.drew g_0_0 36 #[.slice Ax0 x.Library.length cx0, .slice Ax1 x.Vats.length cx1, .slice Ax2 x.Channels.length cx2, .slice Ax3 x.Notes.length cx3, .int .i64 (x.Strays)] := H10.blk 1 rfl
    refine anyS_take (i := 0) rfl (by kernel_rfl) (by kernel_rfl) (by kernel_rfl) (by kernel_rfl) (by kernel_rfl) (fun _ _ _ h => h) rfl rfl hS11 (fun W' hs' => rn_field fa_36_0 rfl) ?_
    refine anyS_take (i := 1) rfl (by kernel_rfl) (by kernel_rfl) (by kernel_rfl) (by kernel_rfl) (by kernel_rfl) (fun _ _ _ h => h) rfl rfl hS11 (fun W' hs' => rn_loadC (v := .slice Ax0 x.Library.length cx0) Tryz.isAgg31 rfl hs' rfl) ?_
    refine anyS_take (i := 3) rfl (by kernel_rfl) (by kernel_rfl) (by kernel_rfl) (by kernel_rfl) (by kernel_rfl) (fun _ _ _ h => h) rfl rfl hS11 (fun W' hs' => rn_field fa_36_2 rfl) ?_
    refine anyS_take (i := 4) rfl (by kernel_rfl) (by kernel_rfl) (by kernel_rfl) (by kernel_rfl) (by kernel_rfl) (fun _ _ _ h => h) rfl rfl hS11 (fun W' hs' => rn_loadC (v := .slice Ax2 x.Channels.length cx2) Tryz.isAgg33 rfl hs' rfl) ?_
    refine anyS_take (i := 7) rfl (by kernel_rfl) (by kernel_rfl) (by kernel_rfl) (by kernel_rfl) (by kernel_rfl) (fun _ _ _ h => h) rfl rfl hS11 (fun W' hs' => rn_field fa_36_3 rfl) ?_
    refine anyS_take (i := 8) rfl (by kernel_rfl) (by kernel_rfl) (by kernel_rfl) (by kernel_rfl) (by kernel_rfl) (fun _ _ _ h => h) rfl rfl hS11 (fun W' hs' => rn_loadC (v := .slice Ax3 x.Notes.length cx3) Tryz.isAgg34 rfl hs' rfl) ?_
    refine anyS_take (i := 10) rfl (by kernel_rfl) (by kernel_rfl) (by kernel_rfl) (by kernel_rfl) (by kernel_rfl) (fun _ _ _ h => h) rfl rfl hS11 (fun W' hs' => rn_field fa_36_4 rfl) ?_
    refine anyS_take (i := 11) rfl (by kernel_rfl) (by kernel_rfl) (by kernel_rfl) (by kernel_rfl) (by kernel_rfl) (fun _ _ _ h => h) rfl rfl hS11 (fun W' hs' => rn_loadC (v := .int .i64 (x.Strays)) Tryz.isAgg3 rfl hs' rfl) ?_
    refine anyS_three (i := 2) (i2 := 6) (i3 := 13) (by kernel_rfl) ?_ ?_ ?_
    · refine op_call rfl Tryz.call75 (vs := #[.slice Ax0 x.Library.length cx0]) rfl rfl rfl (l6CopyAll_s x.Library _ _ _ (C_upd H10.1 hCx0) s_Library) ?_
      rintro e16 W15 ⟨v12, rfl, hR13, hu14⟩
      refine ⟨_, rfl, ?_⟩
      obtain ⟨B_1_2, c_1_2, rfl⟩ := R_slice hR13
      have H17 : St w No [hR ki_Script 133 (.slice B_1_2 x.Library.length c_1_2) x.Library, hB g_0_1 36 #[.slice none 0 0, .slice none 0 0, .slice none 0 0, .slice none 0 0, .int .i64 (0)], hB g_0_0 36 #[.slice Ax0 x.Library.length cx0, .slice Ax1 x.Vats.length cx1, .slice Ax2 x.Channels.length cx2, .slice Ax3 x.Notes.length cx3, .int .i64 (x.Strays)]] W15 := H10.new hu14 hR13
      clear H10
      have hS18 : Blk W15 g_0_0 36 #[.slice Ax0 x.Library.length cx0, .slice Ax1 x.Vats.length cx1, .slice Ax2 x.Channels.length cx2, .slice Ax3 x.Notes.length cx3, .int .i64 (x.Strays)] := H17.blk 2 rfl
      refine ⟨fun _ => hS18, ?_⟩
      refine anyS_three (i := 5) (i2 := 6) (i3 := 13) (by kernel_rfl) ?_ ?_ ?_
      · refine op_call rfl Tryz.call134 (vs := #[.slice Ax2 x.Channels.length cx2]) rfl rfl rfl (l20Copy_s x.Channels _ _ _ (C_upd H17.1 hCx2) s_Channels) ?_
        rintro e23 W22 ⟨v19, rfl, hR20, hu21⟩
        refine ⟨_, rfl, ?_⟩
        obtain ⟨B_1_5, c_1_5, rfl⟩ := R_slice hR20
        have H24 : St w No [hR ki_Channel 196 (.slice B_1_5 x.Channels.length c_1_5) x.Channels, hR ki_Script 133 (.slice B_1_2 x.Library.length c_1_2) x.Library, hB g_0_1 36 #[.slice none 0 0, .slice none 0 0, .slice none 0 0, .slice none 0 0, .int .i64 (0)], hB g_0_0 36 #[.slice Ax0 x.Library.length cx0, .slice Ax1 x.Vats.length cx1, .slice Ax2 x.Channels.length cx2, .slice Ax3 x.Notes.length cx3, .int .i64 (x.Strays)]] W22 := H17.new hu21 hR20
        clear H17
        have hS25 : Blk W22 g_0_0 36 #[.slice Ax0 x.Library.length cx0, .slice Ax1 x.Vats.length cx1, .slice Ax2 x.Channels.length cx2, .slice Ax3 x.Notes.length cx3, .int .i64 (x.Strays)] := H24.blk 3 rfl
        refine ⟨fun _ => hS25, ?_⟩
        refine anyS_two (i := 6) (i2 := 13) (by kernel_rfl) ?_ ?_
        · refine op_slice0 (dk := ki_Note) rfl Tryz.runUnderlying34 Tryz.sizeOf110 rfl rfl H24 ?_
          intro A_1_6 W26 hu27 Ha28
          clear H24
          have H29 : St w No [hR ki_Note 110 (.slice A_1_6 0 0) ([]), hR ki_Channel 196 (.slice B_1_5 x.Channels.length c_1_5) x.Channels, hR ki_Script 133 (.slice B_1_2 x.Library.length c_1_2) x.Library, hB g_0_1 36 #[.slice none 0 0, .slice none 0 0, .slice none 0 0, .slice none 0 0, .int .i64 (0)], hB g_0_0 36 #[.slice Ax0 x.Library.length cx0, .slice Ax1 x.Vats.length cx1, .slice Ax2 x.Channels.length cx2, .slice Ax3 x.Notes.length cx3, .int .i64 (x.Strays)]] W26 := Ha28
          clear Ha28
          clear hu27
          have hS30 : Blk W26 g_0_0 36 #[.slice Ax0 x.Library.length cx0, .slice Ax1 x.Vats.length cx1, .slice Ax2 x.Channels.length cx2, .slice Ax3 x.Notes.length cx3, .int .i64 (x.Strays)] := H29.blk 4 rfl
          refine ⟨fun _ => hS30, ?_⟩
          refine anyS_two (i := 9) (i2 := 13) (by kernel_rfl) ?_ ?_
          · refine op_appendN' (xs := []) (ys := x.Notes) (n' := x.Notes.length) (zs := x.Notes) rfl Tryz.underlying34 ki_Note_info rfl (by decide) (by decide) flat_Note rfl rfl (C_upd H29.1 hCx3) (by simp; omega) (by simp) (List.nil_append _) rfl rfl H29 ?_
            intro B_1_9 c_1_9 W31 Ha32
            clear H29
            have H33 : St w No [hR ki_Note 110 (.slice B_1_9 x.Notes.length c_1_9) x.Notes, hR ki_Channel 196 (.slice B_1_5 x.Channels.length c_1_5) x.Channels, hR ki_Script 133 (.slice B_1_2 x.Library.length c_1_2) x.Library, hB g_0_1 36 #[.slice none 0 0, .slice none 0 0, .slice none 0 0, .slice none 0 0, .int .i64 (0)], hB g_0_0 36 #[.slice Ax0 x.Library.length cx0, .slice Ax1 x.Vats.length cx1, .slice Ax2 x.Channels.length cx2, .slice Ax3 x.Notes.length cx3, .int .i64 (x.Strays)]] W31 := Ha32
            clear Ha32
            have hS34 : Blk W31 g_0_0 36 #[.slice Ax0 x.Library.length cx0, .slice Ax1 x.Vats.length cx1, .slice Ax2 x.Channels.length cx2, .slice Ax3 x.Notes.length cx3, .int .i64 (x.Strays)] := H33.blk 4 rfl
            refine ⟨fun _ => hS34, ?_⟩
            refine anyS_take (i := 12) rfl (by kernel_rfl) (by kernel_rfl) (by kernel_rfl) (by kernel_rfl) (by kernel_rfl) (fun _ _ _ h => h) rfl rfl hS34 (fun W' hs' => rn_build (vs := [(0, .slice B_1_2 x.Library.length c_1_2), (2, .slice B_1_5 x.Channels.length c_1_5), (3, .slice B_1_9 x.Notes.length c_1_9), (4, .int .i64 (x.Strays))]) (cells := #[.slice B_1_2 x.Library.length c_1_2, .slice none 0 0, .slice B_1_5 x.Channels.length c_1_5, .slice B_1_9 x.Notes.length c_1_9, .int .i64 (x.Strays)]) rfl (by kernel_rfl)) ?_
            refine anyS_one (i := 13) (by kernel_rfl) ?_
            refine op_alloc rfl Tryz.zeroValue36 rfl rfl H33 ?_
            intro g_1_13 W35 hu36 Ha37
            clear H33
            have H38 : St w No [hB g_1_13 36 #[.slice none 0 0, .slice none 0 0, .slice none 0 0, .slice none 0 0, .int .i64 (0)], hR ki_Note 110 (.slice B_1_9 x.Notes.length c_1_9) x.Notes, hR ki_Channel 196 (.slice B_1_5 x.Channels.length c_1_5) x.Channels, hR ki_Script 133 (.slice B_1_2 x.Library.length c_1_2) x.Library, hB g_0_1 36 #[.slice none 0 0, .slice none 0 0, .slice none 0 0, .slice none 0 0, .int .i64 (0)], hB g_0_0 36 #[.slice Ax0 x.Library.length cx0, .slice Ax1 x.Vats.length cx1, .slice Ax2 x.Channels.length cx2, .slice Ax3 x.Notes.length cx3, .int .i64 (x.Strays)]] W35 := Ha37
            clear Ha37
            clear hu36
            have hS39 : Blk W35 g_0_0 36 #[.slice Ax0 x.Library.length cx0, .slice Ax1 x.Vats.length cx1, .slice Ax2 x.Channels.length cx2, .slice Ax3 x.Notes.length cx3, .int .i64 (x.Strays)] := H38.blk 5 rfl
            refine ⟨fun _ => hS39, ?_⟩
            refine anyS_one (i := 14) (by kernel_rfl) ?_
            refine op_storeW rfl Tryz.sizeOf36 rfl rfl rfl rfl (by simp [Value.oneCell']) H38 ?_
            intro W40 hu41 Ha42
            clear H38
            have H43 : St w No [hB g_1_13 36 #[.slice B_1_2 x.Library.length c_1_2, .slice none 0 0, .slice B_1_5 x.Channels.length c_1_5, .slice B_1_9 x.Notes.length c_1_9, .int .i64 (x.Strays)], hR ki_Note 110 (.slice B_1_9 x.Notes.length c_1_9) x.Notes, hR ki_Channel 196 (.slice B_1_5 x.Channels.length c_1_5) x.Channels, hR ki_Script 133 (.slice B_1_2 x.Library.length c_1_2) x.Library, hB g_0_1 36 #[.slice none 0 0, .slice none 0 0, .slice none 0 0, .slice none 0 0, .int .i64 (0)], hB g_0_0 36 #[.slice Ax0 x.Library.length cx0, .slice Ax1 x.Vats.length cx1, .slice Ax2 x.Channels.length cx2, .slice Ax3 x.Notes.length cx3, .int .i64 (x.Strays)]] W40 := Ha42
            clear Ha42
            clear hu41
            have hS44 : Blk W40 g_0_0 36 #[.slice Ax0 x.Library.length cx0, .slice Ax1 x.Vats.length cx1, .slice Ax2 x.Channels.length cx2, .slice Ax3 x.Notes.length cx3, .int .i64 (x.Strays)] := H43.blk 5 rfl
            refine ⟨fun _ => hS44, ?_⟩
            refine anyS_done (by kernel_rfl) ?_ _
            exact (actOf_drop2 [(1, .pointer (some ⟨g_0_0, 0, none⟩)), (2, .pointer (some ⟨g_0_1, 0, none⟩)), (3, .pointer (some ⟨g_1_13, 0, none⟩))] rfl).elim fun x' hx => ⟨B_1_2, c_1_2, B_1_5, c_1_5, B_1_9, c_1_9, g_1_13, x', hx, H43⟩
          · refine op_alloc rfl Tryz.zeroValue36 rfl rfl H29 ?_
            intro g_1_13 W45 hu46 Ha47
            clear H29
            have H48 : St w No [hB g_1_13 36 #[.slice none 0 0, .slice none 0 0, .slice none 0 0, .slice none 0 0, .int .i64 (0)], hR ki_Note 110 (.slice A_1_6 0 0) ([]), hR ki_Channel 196 (.slice B_1_5 x.Channels.length c_1_5) x.Channels, hR ki_Script 133 (.slice B_1_2 x.Library.length c_1_2) x.Library, hB g_0_1 36 #[.slice none 0 0, .slice none 0 0, .slice none 0 0, .slice none 0 0, .int .i64 (0)], hB g_0_0 36 #[.slice Ax0 x.Library.length cx0, .slice Ax1 x.Vats.length cx1, .slice Ax2 x.Channels.length cx2, .slice Ax3 x.Notes.length cx3, .int .i64 (x.Strays)]] W45 := Ha47
            clear Ha47
            clear hu46
            have hS49 : Blk W45 g_0_0 36 #[.slice Ax0 x.Library.length cx0, .slice Ax1 x.Vats.length cx1, .slice Ax2 x.Channels.length cx2, .slice Ax3 x.Notes.length cx3, .int .i64 (x.Strays)] := H48.blk 5 rfl
            refine ⟨fun _ => hS49, ?_⟩
            refine anyS_one (i := 9) (by kernel_rfl) ?_
            have H52 : St w No [hR ki_Note 110 (.slice A_1_6 0 0) ([]), hB g_1_13 36 #[.slice none 0 0, .slice none 0 0, .slice none 0 0, .slice none 0 0, .int .i64 (0)], hR ki_Channel 196 (.slice B_1_5 x.Channels.length c_1_5) x.Channels, hR ki_Script 133 (.slice B_1_2 x.Library.length c_1_2) x.Library, hB g_0_1 36 #[.slice none 0 0, .slice none 0 0, .slice none 0 0, .slice none 0 0, .int .i64 (0)], hB g_0_0 36 #[.slice Ax0 x.Library.length cx0, .slice Ax1 x.Vats.length cx1, .slice Ax2 x.Channels.length cx2, .slice Ax3 x.Notes.length cx3, .int .i64 (x.Strays)]] W45 := H48.pick [1, 0, 2, 3, 4, 5] (by decide) rfl
            clear H48
            refine op_appendN' (xs := []) (ys := x.Notes) (n' := x.Notes.length) (zs := x.Notes) rfl Tryz.underlying34 ki_Note_info rfl (by decide) (by decide) flat_Note rfl rfl (C_upd H52.1 hCx3) (by simp; omega) (by simp) (List.nil_append _) rfl rfl H52 ?_
            intro B_1_9 c_1_9 W50 Ha51
            clear H52
            have H53 : St w No [hR ki_Note 110 (.slice B_1_9 x.Notes.length c_1_9) x.Notes, hB g_1_13 36 #[.slice none 0 0, .slice none 0 0, .slice none 0 0, .slice none 0 0, .int .i64 (0)], hR ki_Channel 196 (.slice B_1_5 x.Channels.length c_1_5) x.Channels, hR ki_Script 133 (.slice B_1_2 x.Library.length c_1_2) x.Library, hB g_0_1 36 #[.slice none 0 0, .slice none 0 0, .slice none 0 0, .slice none 0 0, .int .i64 (0)], hB g_0_0 36 #[.slice Ax0 x.Library.length cx0, .slice Ax1 x.Vats.length cx1, .slice Ax2 x.Channels.length cx2, .slice Ax3 x.Notes.length cx3, .int .i64 (x.Strays)]] W50 := Ha51
            clear Ha51
            have hS54 : Blk W50 g_0_0 36 #[.slice Ax0 x.Library.length cx0, .slice Ax1 x.Vats.length cx1, .slice Ax2 x.Channels.length cx2, .slice Ax3 x.Notes.length cx3, .int .i64 (x.Strays)] := H53.blk 5 rfl
            refine ⟨fun _ => hS54, ?_⟩
            refine anyS_take (i := 12) rfl (by kernel_rfl) (by kernel_rfl) (by kernel_rfl) (by kernel_rfl) (by kernel_rfl) (fun _ _ _ h => h) rfl rfl hS54 (fun W' hs' => rn_build (vs := [(0, .slice B_1_2 x.Library.length c_1_2), (2, .slice B_1_5 x.Channels.length c_1_5), (3, .slice B_1_9 x.Notes.length c_1_9), (4, .int .i64 (x.Strays))]) (cells := #[.slice B_1_2 x.Library.length c_1_2, .slice none 0 0, .slice B_1_5 x.Channels.length c_1_5, .slice B_1_9 x.Notes.length c_1_9, .int .i64 (x.Strays)]) rfl (by kernel_rfl)) ?_
            refine anyS_one (i := 14) (by kernel_rfl) ?_
            have H58 : St w No [hB g_1_13 36 #[.slice none 0 0, .slice none 0 0, .slice none 0 0, .slice none 0 0, .int .i64 (0)], hR ki_Note 110 (.slice B_1_9 x.Notes.length c_1_9) x.Notes, hR ki_Channel 196 (.slice B_1_5 x.Channels.length c_1_5) x.Channels, hR ki_Script 133 (.slice B_1_2 x.Library.length c_1_2) x.Library, hB g_0_1 36 #[.slice none 0 0, .slice none 0 0, .slice none 0 0, .slice none 0 0, .int .i64 (0)], hB g_0_0 36 #[.slice Ax0 x.Library.length cx0, .slice Ax1 x.Vats.length cx1, .slice Ax2 x.Channels.length cx2, .slice Ax3 x.Notes.length cx3, .int .i64 (x.Strays)]] W50 := H53.pick [1, 0, 2, 3, 4, 5] (by decide) rfl
            clear H53
            refine op_storeW rfl Tryz.sizeOf36 rfl rfl rfl rfl (by simp [Value.oneCell']) H58 ?_
            intro W55 hu56 Ha57
            clear H58
            have H59 : St w No [hB g_1_13 36 #[.slice B_1_2 x.Library.length c_1_2, .slice none 0 0, .slice B_1_5 x.Channels.length c_1_5, .slice B_1_9 x.Notes.length c_1_9, .int .i64 (x.Strays)], hR ki_Note 110 (.slice B_1_9 x.Notes.length c_1_9) x.Notes, hR ki_Channel 196 (.slice B_1_5 x.Channels.length c_1_5) x.Channels, hR ki_Script 133 (.slice B_1_2 x.Library.length c_1_2) x.Library, hB g_0_1 36 #[.slice none 0 0, .slice none 0 0, .slice none 0 0, .slice none 0 0, .int .i64 (0)], hB g_0_0 36 #[.slice Ax0 x.Library.length cx0, .slice Ax1 x.Vats.length cx1, .slice Ax2 x.Channels.length cx2, .slice Ax3 x.Notes.length cx3, .int .i64 (x.Strays)]] W55 := Ha57
            clear Ha57
            clear hu56
            have hS60 : Blk W55 g_0_0 36 #[.slice Ax0 x.Library.length cx0, .slice Ax1 x.Vats.length cx1, .slice Ax2 x.Channels.length cx2, .slice Ax3 x.Notes.length cx3, .int .i64 (x.Strays)] := H59.blk 5 rfl
            refine ⟨fun _ => hS60, ?_⟩
            refine anyS_done (by kernel_rfl) ?_ _
            exact (actOf_drop2 [(1, .pointer (some ⟨g_0_0, 0, none⟩)), (2, .pointer (some ⟨g_0_1, 0, none⟩)), (3, .pointer (some ⟨g_1_13, 0, none⟩))] rfl).elim fun x' hx => ⟨B_1_2, c_1_2, B_1_5, c_1_5, B_1_9, c_1_9, g_1_13, x', hx, H59⟩
        · refine op_alloc rfl Tryz.zeroValue36 rfl rfl H24 ?_
          intro g_1_13 W61 hu62 Ha63
          clear H24
          have H64 : St w No [hB g_1_13 36 #[.slice none 0 0, .slice none 0 0, .slice none 0 0, .slice none 0 0, .int .i64 (0)], hR ki_Channel 196 (.slice B_1_5 x.Channels.length c_1_5) x.Channels, hR ki_Script 133 (.slice B_1_2 x.Library.length c_1_2) x.Library, hB g_0_1 36 #[.slice none 0 0, .slice none 0 0, .slice none 0 0, .slice none 0 0, .int .i64 (0)], hB g_0_0 36 #[.slice Ax0 x.Library.length cx0, .slice Ax1 x.Vats.length cx1, .slice Ax2 x.Channels.length cx2, .slice Ax3 x.Notes.length cx3, .int .i64 (x.Strays)]] W61 := Ha63
          clear Ha63
          clear hu62
          have hS65 : Blk W61 g_0_0 36 #[.slice Ax0 x.Library.length cx0, .slice Ax1 x.Vats.length cx1, .slice Ax2 x.Channels.length cx2, .slice Ax3 x.Notes.length cx3, .int .i64 (x.Strays)] := H64.blk 4 rfl
          refine ⟨fun _ => hS65, ?_⟩
          refine anyS_one (i := 6) (by kernel_rfl) ?_
          refine op_slice0 (dk := ki_Note) rfl Tryz.runUnderlying34 Tryz.sizeOf110 rfl rfl H64 ?_
          intro A_1_6 W66 hu67 Ha68
          clear H64
          have H69 : St w No [hR ki_Note 110 (.slice A_1_6 0 0) ([]), hB g_1_13 36 #[.slice none 0 0, .slice none 0 0, .slice none 0 0, .slice none 0 0, .int .i64 (0)], hR ki_Channel 196 (.slice B_1_5 x.Channels.length c_1_5) x.Channels, hR ki_Script 133 (.slice B_1_2 x.Library.length c_1_2) x.Library, hB g_0_1 36 #[.slice none 0 0, .slice none 0 0, .slice none 0 0, .slice none 0 0, .int .i64 (0)], hB g_0_0 36 #[.slice Ax0 x.Library.length cx0, .slice Ax1 x.Vats.length cx1, .slice Ax2 x.Channels.length cx2, .slice Ax3 x.Notes.length cx3, .int .i64 (x.Strays)]] W66 := Ha68
          clear Ha68
          clear hu67
          have hS70 : Blk W66 g_0_0 36 #[.slice Ax0 x.Library.length cx0, .slice Ax1 x.Vats.length cx1, .slice Ax2 x.Channels.length cx2, .slice Ax3 x.Notes.length cx3, .int .i64 (x.Strays)] := H69.blk 5 rfl
          refine ⟨fun _ => hS70, ?_⟩
          refine anyS_one (i := 9) (by kernel_rfl) ?_
          refine op_appendN' (xs := []) (ys := x.Notes) (n' := x.Notes.length) (zs := x.Notes) rfl Tryz.underlying34 ki_Note_info rfl (by decide) (by decide) flat_Note rfl rfl (C_upd H69.1 hCx3) (by simp; omega) (by simp) (List.nil_append _) rfl rfl H69 ?_
          intro B_1_9 c_1_9 W71 Ha72
          clear H69
          have H73 : St w No [hR ki_Note 110 (.slice B_1_9 x.Notes.length c_1_9) x.Notes, hB g_1_13 36 #[.slice none 0 0, .slice none 0 0, .slice none 0 0, .slice none 0 0, .int .i64 (0)], hR ki_Channel 196 (.slice B_1_5 x.Channels.length c_1_5) x.Channels, hR ki_Script 133 (.slice B_1_2 x.Library.length c_1_2) x.Library, hB g_0_1 36 #[.slice none 0 0, .slice none 0 0, .slice none 0 0, .slice none 0 0, .int .i64 (0)], hB g_0_0 36 #[.slice Ax0 x.Library.length cx0, .slice Ax1 x.Vats.length cx1, .slice Ax2 x.Channels.length cx2, .slice Ax3 x.Notes.length cx3, .int .i64 (x.Strays)]] W71 := Ha72
          clear Ha72
          have hS74 : Blk W71 g_0_0 36 #[.slice Ax0 x.Library.length cx0, .slice Ax1 x.Vats.length cx1, .slice Ax2 x.Channels.length cx2, .slice Ax3 x.Notes.length cx3, .int .i64 (x.Strays)] := H73.blk 5 rfl
          refine ⟨fun _ => hS74, ?_⟩
          refine anyS_take (i := 12) rfl (by kernel_rfl) (by kernel_rfl) (by kernel_rfl) (by kernel_rfl) (by kernel_rfl) (fun _ _ _ h => h) rfl rfl hS74 (fun W' hs' => rn_build (vs := [(0, .slice B_1_2 x.Library.length c_1_2), (2, .slice B_1_5 x.Channels.length c_1_5), (3, .slice B_1_9 x.Notes.length c_1_9), (4, .int .i64 (x.Strays))]) (cells := #[.slice B_1_2 x.Library.length c_1_2, .slice none 0 0, .slice B_1_5 x.Channels.length c_1_5, .slice B_1_9 x.Notes.length c_1_9, .int .i64 (x.Strays)]) rfl (by kernel_rfl)) ?_
          refine anyS_one (i := 14) (by kernel_rfl) ?_
          have H78 : St w No [hB g_1_13 36 #[.slice none 0 0, .slice none 0 0, .slice none 0 0, .slice none 0 0, .int .i64 (0)], hR ki_Note 110 (.slice B_1_9 x.Notes.length c_1_9) x.Notes, hR ki_Channel 196 (.slice B_1_5 x.Channels.length c_1_5) x.Channels, hR ki_Script 133 (.slice B_1_2 x.Library.length c_1_2) x.Library, hB g_0_1 36 #[.slice none 0 0, .slice none 0 0, .slice none 0 0, .slice none 0 0, .int .i64 (0)], hB g_0_0 36 #[.slice Ax0 x.Library.length cx0, .slice Ax1 x.Vats.length cx1, .slice Ax2 x.Channels.length cx2, .slice Ax3 x.Notes.length cx3, .int .i64 (x.Strays)]] W71 := H73.pick [1, 0, 2, 3, 4, 5] (by decide) rfl
          clear H73
          refine op_storeW rfl Tryz.sizeOf36 rfl rfl rfl rfl (by simp [Value.oneCell']) H78 ?_
          intro W75 hu76 Ha77
          clear H78
          have H79 : St w No [hB g_1_13 36 #[.slice B_1_2 x.Library.length c_1_2, .slice none 0 0, .slice B_1_5 x.Channels.length c_1_5, .slice B_1_9 x.Notes.length c_1_9, .int .i64 (x.Strays)], hR ki_Note 110 (.slice B_1_9 x.Notes.length c_1_9) x.Notes, hR ki_Channel 196 (.slice B_1_5 x.Channels.length c_1_5) x.Channels, hR ki_Script 133 (.slice B_1_2 x.Library.length c_1_2) x.Library, hB g_0_1 36 #[.slice none 0 0, .slice none 0 0, .slice none 0 0, .slice none 0 0, .int .i64 (0)], hB g_0_0 36 #[.slice Ax0 x.Library.length cx0, .slice Ax1 x.Vats.length cx1, .slice Ax2 x.Channels.length cx2, .slice Ax3 x.Notes.length cx3, .int .i64 (x.Strays)]] W75 := Ha77
          clear Ha77
          clear hu76
          have hS80 : Blk W75 g_0_0 36 #[.slice Ax0 x.Library.length cx0, .slice Ax1 x.Vats.length cx1, .slice Ax2 x.Channels.length cx2, .slice Ax3 x.Notes.length cx3, .int .i64 (x.Strays)] := H79.blk 5 rfl
          refine ⟨fun _ => hS80, ?_⟩
          refine anyS_done (by kernel_rfl) ?_ _
          exact (actOf_drop2 [(1, .pointer (some ⟨g_0_0, 0, none⟩)), (2, .pointer (some ⟨g_0_1, 0, none⟩)), (3, .pointer (some ⟨g_1_13, 0, none⟩))] rfl).elim fun x' hx => ⟨B_1_2, c_1_2, B_1_5, c_1_5, B_1_9, c_1_9, g_1_13, x', hx, H79⟩
      · refine op_slice0 (dk := ki_Note) rfl Tryz.runUnderlying34 Tryz.sizeOf110 rfl rfl H17 ?_
        intro A_1_6 W81 hu82 Ha83
        clear H17
        have H84 : St w No [hR ki_Note 110 (.slice A_1_6 0 0) ([]), hR ki_Script 133 (.slice B_1_2 x.Library.length c_1_2) x.Library, hB g_0_1 36 #[.slice none 0 0, .slice none 0 0, .slice none 0 0, .slice none 0 0, .int .i64 (0)], hB g_0_0 36 #[.slice Ax0 x.Library.length cx0, .slice Ax1 x.Vats.length cx1, .slice Ax2 x.Channels.length cx2, .slice Ax3 x.Notes.length cx3, .int .i64 (x.Strays)]] W81 := Ha83
        clear Ha83
        clear hu82
        have hS85 : Blk W81 g_0_0 36 #[.slice Ax0 x.Library.length cx0, .slice Ax1 x.Vats.length cx1, .slice Ax2 x.Channels.length cx2, .slice Ax3 x.Notes.length cx3, .int .i64 (x.Strays)] := H84.blk 3 rfl
        refine ⟨fun _ => hS85, ?_⟩
        refine anyS_two (i := 5) (i2 := 13) (by kernel_rfl) ?_ ?_
        · refine op_call rfl Tryz.call134 (vs := #[.slice Ax2 x.Channels.length cx2]) rfl rfl rfl (l20Copy_s x.Channels _ _ _ (C_upd H84.1 hCx2) s_Channels) ?_
          rintro e90 W89 ⟨v86, rfl, hR87, hu88⟩
          refine ⟨_, rfl, ?_⟩
          obtain ⟨B_1_5, c_1_5, rfl⟩ := R_slice hR87
          have H91 : St w No [hR ki_Channel 196 (.slice B_1_5 x.Channels.length c_1_5) x.Channels, hR ki_Note 110 (.slice A_1_6 0 0) ([]), hR ki_Script 133 (.slice B_1_2 x.Library.length c_1_2) x.Library, hB g_0_1 36 #[.slice none 0 0, .slice none 0 0, .slice none 0 0, .slice none 0 0, .int .i64 (0)], hB g_0_0 36 #[.slice Ax0 x.Library.length cx0, .slice Ax1 x.Vats.length cx1, .slice Ax2 x.Channels.length cx2, .slice Ax3 x.Notes.length cx3, .int .i64 (x.Strays)]] W89 := H84.new hu88 hR87
          clear H84
          have hS92 : Blk W89 g_0_0 36 #[.slice Ax0 x.Library.length cx0, .slice Ax1 x.Vats.length cx1, .slice Ax2 x.Channels.length cx2, .slice Ax3 x.Notes.length cx3, .int .i64 (x.Strays)] := H91.blk 4 rfl
          refine ⟨fun _ => hS92, ?_⟩
          refine anyS_two (i := 9) (i2 := 13) (by kernel_rfl) ?_ ?_
          · have H95 : St w No [hR ki_Note 110 (.slice A_1_6 0 0) ([]), hR ki_Channel 196 (.slice B_1_5 x.Channels.length c_1_5) x.Channels, hR ki_Script 133 (.slice B_1_2 x.Library.length c_1_2) x.Library, hB g_0_1 36 #[.slice none 0 0, .slice none 0 0, .slice none 0 0, .slice none 0 0, .int .i64 (0)], hB g_0_0 36 #[.slice Ax0 x.Library.length cx0, .slice Ax1 x.Vats.length cx1, .slice Ax2 x.Channels.length cx2, .slice Ax3 x.Notes.length cx3, .int .i64 (x.Strays)]] W89 := H91.pick [1, 0, 2, 3, 4] (by decide) rfl
            clear H91
            refine op_appendN' (xs := []) (ys := x.Notes) (n' := x.Notes.length) (zs := x.Notes) rfl Tryz.underlying34 ki_Note_info rfl (by decide) (by decide) flat_Note rfl rfl (C_upd H95.1 hCx3) (by simp; omega) (by simp) (List.nil_append _) rfl rfl H95 ?_
            intro B_1_9 c_1_9 W93 Ha94
            clear H95
            have H96 : St w No [hR ki_Note 110 (.slice B_1_9 x.Notes.length c_1_9) x.Notes, hR ki_Channel 196 (.slice B_1_5 x.Channels.length c_1_5) x.Channels, hR ki_Script 133 (.slice B_1_2 x.Library.length c_1_2) x.Library, hB g_0_1 36 #[.slice none 0 0, .slice none 0 0, .slice none 0 0, .slice none 0 0, .int .i64 (0)], hB g_0_0 36 #[.slice Ax0 x.Library.length cx0, .slice Ax1 x.Vats.length cx1, .slice Ax2 x.Channels.length cx2, .slice Ax3 x.Notes.length cx3, .int .i64 (x.Strays)]] W93 := Ha94
            clear Ha94
            have hS97 : Blk W93 g_0_0 36 #[.slice Ax0 x.Library.length cx0, .slice Ax1 x.Vats.length cx1, .slice Ax2 x.Channels.length cx2, .slice Ax3 x.Notes.length cx3, .int .i64 (x.Strays)] := H96.blk 4 rfl
            refine ⟨fun _ => hS97, ?_⟩
            refine anyS_take (i := 12) rfl (by kernel_rfl) (by kernel_rfl) (by kernel_rfl) (by kernel_rfl) (by kernel_rfl) (fun _ _ _ h => h) rfl rfl hS97 (fun W' hs' => rn_build (vs := [(0, .slice B_1_2 x.Library.length c_1_2), (2, .slice B_1_5 x.Channels.length c_1_5), (3, .slice B_1_9 x.Notes.length c_1_9), (4, .int .i64 (x.Strays))]) (cells := #[.slice B_1_2 x.Library.length c_1_2, .slice none 0 0, .slice B_1_5 x.Channels.length c_1_5, .slice B_1_9 x.Notes.length c_1_9, .int .i64 (x.Strays)]) rfl (by kernel_rfl)) ?_
            refine anyS_one (i := 13) (by kernel_rfl) ?_
            refine op_alloc rfl Tryz.zeroValue36 rfl rfl H96 ?_
            intro g_1_13 W98 hu99 Ha100
            clear H96
            have H101 : St w No [hB g_1_13 36 #[.slice none 0 0, .slice none 0 0, .slice none 0 0, .slice none 0 0, .int .i64 (0)], hR ki_Note 110 (.slice B_1_9 x.Notes.length c_1_9) x.Notes, hR ki_Channel 196 (.slice B_1_5 x.Channels.length c_1_5) x.Channels, hR ki_Script 133 (.slice B_1_2 x.Library.length c_1_2) x.Library, hB g_0_1 36 #[.slice none 0 0, .slice none 0 0, .slice none 0 0, .slice none 0 0, .int .i64 (0)], hB g_0_0 36 #[.slice Ax0 x.Library.length cx0, .slice Ax1 x.Vats.length cx1, .slice Ax2 x.Channels.length cx2, .slice Ax3 x.Notes.length cx3, .int .i64 (x.Strays)]] W98 := Ha100
            clear Ha100
            clear hu99
            have hS102 : Blk W98 g_0_0 36 #[.slice Ax0 x.Library.length cx0, .slice Ax1 x.Vats.length cx1, .slice Ax2 x.Channels.length cx2, .slice Ax3 x.Notes.length cx3, .int .i64 (x.Strays)] := H101.blk 5 rfl
            refine ⟨fun _ => hS102, ?_⟩
            refine anyS_one (i := 14) (by kernel_rfl) ?_
            refine op_storeW rfl Tryz.sizeOf36 rfl rfl rfl rfl (by simp [Value.oneCell']) H101 ?_
            intro W103 hu104 Ha105
            clear H101
            have H106 : St w No [hB g_1_13 36 #[.slice B_1_2 x.Library.length c_1_2, .slice none 0 0, .slice B_1_5 x.Channels.length c_1_5, .slice B_1_9 x.Notes.length c_1_9, .int .i64 (x.Strays)], hR ki_Note 110 (.slice B_1_9 x.Notes.length c_1_9) x.Notes, hR ki_Channel 196 (.slice B_1_5 x.Channels.length c_1_5) x.Channels, hR ki_Script 133 (.slice B_1_2 x.Library.length c_1_2) x.Library, hB g_0_1 36 #[.slice none 0 0, .slice none 0 0, .slice none 0 0, .slice none 0 0, .int .i64 (0)], hB g_0_0 36 #[.slice Ax0 x.Library.length cx0, .slice Ax1 x.Vats.length cx1, .slice Ax2 x.Channels.length cx2, .slice Ax3 x.Notes.length cx3, .int .i64 (x.Strays)]] W103 := Ha105
            clear Ha105
            clear hu104
            have hS107 : Blk W103 g_0_0 36 #[.slice Ax0 x.Library.length cx0, .slice Ax1 x.Vats.length cx1, .slice Ax2 x.Channels.length cx2, .slice Ax3 x.Notes.length cx3, .int .i64 (x.Strays)] := H106.blk 5 rfl
            refine ⟨fun _ => hS107, ?_⟩
            refine anyS_done (by kernel_rfl) ?_ _
            exact (actOf_drop2 [(1, .pointer (some ⟨g_0_0, 0, none⟩)), (2, .pointer (some ⟨g_0_1, 0, none⟩)), (3, .pointer (some ⟨g_1_13, 0, none⟩))] rfl).elim fun x' hx => ⟨B_1_2, c_1_2, B_1_5, c_1_5, B_1_9, c_1_9, g_1_13, x', hx, H106⟩
          · refine op_alloc rfl Tryz.zeroValue36 rfl rfl H91 ?_
            intro g_1_13 W108 hu109 Ha110
            clear H91
            have H111 : St w No [hB g_1_13 36 #[.slice none 0 0, .slice none 0 0, .slice none 0 0, .slice none 0 0, .int .i64 (0)], hR ki_Channel 196 (.slice B_1_5 x.Channels.length c_1_5) x.Channels, hR ki_Note 110 (.slice A_1_6 0 0) ([]), hR ki_Script 133 (.slice B_1_2 x.Library.length c_1_2) x.Library, hB g_0_1 36 #[.slice none 0 0, .slice none 0 0, .slice none 0 0, .slice none 0 0, .int .i64 (0)], hB g_0_0 36 #[.slice Ax0 x.Library.length cx0, .slice Ax1 x.Vats.length cx1, .slice Ax2 x.Channels.length cx2, .slice Ax3 x.Notes.length cx3, .int .i64 (x.Strays)]] W108 := Ha110
            clear Ha110
            clear hu109
            have hS112 : Blk W108 g_0_0 36 #[.slice Ax0 x.Library.length cx0, .slice Ax1 x.Vats.length cx1, .slice Ax2 x.Channels.length cx2, .slice Ax3 x.Notes.length cx3, .int .i64 (x.Strays)] := H111.blk 5 rfl
            refine ⟨fun _ => hS112, ?_⟩
            refine anyS_one (i := 9) (by kernel_rfl) ?_
            have H115 : St w No [hR ki_Note 110 (.slice A_1_6 0 0) ([]), hB g_1_13 36 #[.slice none 0 0, .slice none 0 0, .slice none 0 0, .slice none 0 0, .int .i64 (0)], hR ki_Channel 196 (.slice B_1_5 x.Channels.length c_1_5) x.Channels, hR ki_Script 133 (.slice B_1_2 x.Library.length c_1_2) x.Library, hB g_0_1 36 #[.slice none 0 0, .slice none 0 0, .slice none 0 0, .slice none 0 0, .int .i64 (0)], hB g_0_0 36 #[.slice Ax0 x.Library.length cx0, .slice Ax1 x.Vats.length cx1, .slice Ax2 x.Channels.length cx2, .slice Ax3 x.Notes.length cx3, .int .i64 (x.Strays)]] W108 := H111.pick [2, 0, 1, 3, 4, 5] (by decide) rfl
            clear H111
            refine op_appendN' (xs := []) (ys := x.Notes) (n' := x.Notes.length) (zs := x.Notes) rfl Tryz.underlying34 ki_Note_info rfl (by decide) (by decide) flat_Note rfl rfl (C_upd H115.1 hCx3) (by simp; omega) (by simp) (List.nil_append _) rfl rfl H115 ?_
            intro B_1_9 c_1_9 W113 Ha114
            clear H115
            have H116 : St w No [hR ki_Note 110 (.slice B_1_9 x.Notes.length c_1_9) x.Notes, hB g_1_13 36 #[.slice none 0 0, .slice none 0 0, .slice none 0 0, .slice none 0 0, .int .i64 (0)], hR ki_Channel 196 (.slice B_1_5 x.Channels.length c_1_5) x.Channels, hR ki_Script 133 (.slice B_1_2 x.Library.length c_1_2) x.Library, hB g_0_1 36 #[.slice none 0 0, .slice none 0 0, .slice none 0 0, .slice none 0 0, .int .i64 (0)], hB g_0_0 36 #[.slice Ax0 x.Library.length cx0, .slice Ax1 x.Vats.length cx1, .slice Ax2 x.Channels.length cx2, .slice Ax3 x.Notes.length cx3, .int .i64 (x.Strays)]] W113 := Ha114
            clear Ha114
            have hS117 : Blk W113 g_0_0 36 #[.slice Ax0 x.Library.length cx0, .slice Ax1 x.Vats.length cx1, .slice Ax2 x.Channels.length cx2, .slice Ax3 x.Notes.length cx3, .int .i64 (x.Strays)] := H116.blk 5 rfl
            refine ⟨fun _ => hS117, ?_⟩
            refine anyS_take (i := 12) rfl (by kernel_rfl) (by kernel_rfl) (by kernel_rfl) (by kernel_rfl) (by kernel_rfl) (fun _ _ _ h => h) rfl rfl hS117 (fun W' hs' => rn_build (vs := [(0, .slice B_1_2 x.Library.length c_1_2), (2, .slice B_1_5 x.Channels.length c_1_5), (3, .slice B_1_9 x.Notes.length c_1_9), (4, .int .i64 (x.Strays))]) (cells := #[.slice B_1_2 x.Library.length c_1_2, .slice none 0 0, .slice B_1_5 x.Channels.length c_1_5, .slice B_1_9 x.Notes.length c_1_9, .int .i64 (x.Strays)]) rfl (by kernel_rfl)) ?_
            refine anyS_one (i := 14) (by kernel_rfl) ?_
            have H121 : St w No [hB g_1_13 36 #[.slice none 0 0, .slice none 0 0, .slice none 0 0, .slice none 0 0, .int .i64 (0)], hR ki_Note 110 (.slice B_1_9 x.Notes.length c_1_9) x.Notes, hR ki_Channel 196 (.slice B_1_5 x.Channels.length c_1_5) x.Channels, hR ki_Script 133 (.slice B_1_2 x.Library.length c_1_2) x.Library, hB g_0_1 36 #[.slice none 0 0, .slice none 0 0, .slice none 0 0, .slice none 0 0, .int .i64 (0)], hB g_0_0 36 #[.slice Ax0 x.Library.length cx0, .slice Ax1 x.Vats.length cx1, .slice Ax2 x.Channels.length cx2, .slice Ax3 x.Notes.length cx3, .int .i64 (x.Strays)]] W113 := H116.pick [1, 0, 2, 3, 4, 5] (by decide) rfl
            clear H116
            refine op_storeW rfl Tryz.sizeOf36 rfl rfl rfl rfl (by simp [Value.oneCell']) H121 ?_
            intro W118 hu119 Ha120
            clear H121
            have H122 : St w No [hB g_1_13 36 #[.slice B_1_2 x.Library.length c_1_2, .slice none 0 0, .slice B_1_5 x.Channels.length c_1_5, .slice B_1_9 x.Notes.length c_1_9, .int .i64 (x.Strays)], hR ki_Note 110 (.slice B_1_9 x.Notes.length c_1_9) x.Notes, hR ki_Channel 196 (.slice B_1_5 x.Channels.length c_1_5) x.Channels, hR ki_Script 133 (.slice B_1_2 x.Library.length c_1_2) x.Library, hB g_0_1 36 #[.slice none 0 0, .slice none 0 0, .slice none 0 0, .slice none 0 0, .int .i64 (0)], hB g_0_0 36 #[.slice Ax0 x.Library.length cx0, .slice Ax1 x.Vats.length cx1, .slice Ax2 x.Channels.length cx2, .slice Ax3 x.Notes.length cx3, .int .i64 (x.Strays)]] W118 := Ha120
            clear Ha120
            clear hu119
            have hS123 : Blk W118 g_0_0 36 #[.slice Ax0 x.Library.length cx0, .slice Ax1 x.Vats.length cx1, .slice Ax2 x.Channels.length cx2, .slice Ax3 x.Notes.length cx3, .int .i64 (x.Strays)] := H122.blk 5 rfl
            refine ⟨fun _ => hS123, ?_⟩
            refine anyS_done (by kernel_rfl) ?_ _
            exact (actOf_drop2 [(1, .pointer (some ⟨g_0_0, 0, none⟩)), (2, .pointer (some ⟨g_0_1, 0, none⟩)), (3, .pointer (some ⟨g_1_13, 0, none⟩))] rfl).elim fun x' hx => ⟨B_1_2, c_1_2, B_1_5, c_1_5, B_1_9, c_1_9, g_1_13, x', hx, H122⟩
        · refine op_alloc rfl Tryz.zeroValue36 rfl rfl H84 ?_
          intro g_1_13 W124 hu125 Ha126
          clear H84
          have H127 : St w No [hB g_1_13 36 #[.slice none 0 0, .slice none 0 0, .slice none 0 0, .slice none 0 0, .int .i64 (0)], hR ki_Note 110 (.slice A_1_6 0 0) ([]), hR ki_Script 133 (.slice B_1_2 x.Library.length c_1_2) x.Library, hB g_0_1 36 #[.slice none 0 0, .slice none 0 0, .slice none 0 0, .slice none 0 0, .int .i64 (0)], hB g_0_0 36 #[.slice Ax0 x.Library.length cx0, .slice Ax1 x.Vats.length cx1, .slice Ax2 x.Channels.length cx2, .slice Ax3 x.Notes.length cx3, .int .i64 (x.Strays)]] W124 := Ha126
          clear Ha126
          clear hu125
          have hS128 : Blk W124 g_0_0 36 #[.slice Ax0 x.Library.length cx0, .slice Ax1 x.Vats.length cx1, .slice Ax2 x.Channels.length cx2, .slice Ax3 x.Notes.length cx3, .int .i64 (x.Strays)] := H127.blk 4 rfl
          refine ⟨fun _ => hS128, ?_⟩
          refine anyS_one (i := 5) (by kernel_rfl) ?_
          refine op_call rfl Tryz.call134 (vs := #[.slice Ax2 x.Channels.length cx2]) rfl rfl rfl (l20Copy_s x.Channels _ _ _ (C_upd H127.1 hCx2) s_Channels) ?_
          rintro e133 W132 ⟨v129, rfl, hR130, hu131⟩
          refine ⟨_, rfl, ?_⟩
          obtain ⟨B_1_5, c_1_5, rfl⟩ := R_slice hR130
          have H134 : St w No [hR ki_Channel 196 (.slice B_1_5 x.Channels.length c_1_5) x.Channels, hB g_1_13 36 #[.slice none 0 0, .slice none 0 0, .slice none 0 0, .slice none 0 0, .int .i64 (0)], hR ki_Note 110 (.slice A_1_6 0 0) ([]), hR ki_Script 133 (.slice B_1_2 x.Library.length c_1_2) x.Library, hB g_0_1 36 #[.slice none 0 0, .slice none 0 0, .slice none 0 0, .slice none 0 0, .int .i64 (0)], hB g_0_0 36 #[.slice Ax0 x.Library.length cx0, .slice Ax1 x.Vats.length cx1, .slice Ax2 x.Channels.length cx2, .slice Ax3 x.Notes.length cx3, .int .i64 (x.Strays)]] W132 := H127.new hu131 hR130
          clear H127
          have hS135 : Blk W132 g_0_0 36 #[.slice Ax0 x.Library.length cx0, .slice Ax1 x.Vats.length cx1, .slice Ax2 x.Channels.length cx2, .slice Ax3 x.Notes.length cx3, .int .i64 (x.Strays)] := H134.blk 5 rfl
          refine ⟨fun _ => hS135, ?_⟩
          refine anyS_one (i := 9) (by kernel_rfl) ?_
          have H138 : St w No [hR ki_Note 110 (.slice A_1_6 0 0) ([]), hR ki_Channel 196 (.slice B_1_5 x.Channels.length c_1_5) x.Channels, hB g_1_13 36 #[.slice none 0 0, .slice none 0 0, .slice none 0 0, .slice none 0 0, .int .i64 (0)], hR ki_Script 133 (.slice B_1_2 x.Library.length c_1_2) x.Library, hB g_0_1 36 #[.slice none 0 0, .slice none 0 0, .slice none 0 0, .slice none 0 0, .int .i64 (0)], hB g_0_0 36 #[.slice Ax0 x.Library.length cx0, .slice Ax1 x.Vats.length cx1, .slice Ax2 x.Channels.length cx2, .slice Ax3 x.Notes.length cx3, .int .i64 (x.Strays)]] W132 := H134.pick [2, 0, 1, 3, 4, 5] (by decide) rfl
          clear H134
          refine op_appendN' (xs := []) (ys := x.Notes) (n' := x.Notes.length) (zs := x.Notes) rfl Tryz.underlying34 ki_Note_info rfl (by decide) (by decide) flat_Note rfl rfl (C_upd H138.1 hCx3) (by simp; omega) (by simp) (List.nil_append _) rfl rfl H138 ?_
          intro B_1_9 c_1_9 W136 Ha137
          clear H138
          have H139 : St w No [hR ki_Note 110 (.slice B_1_9 x.Notes.length c_1_9) x.Notes, hR ki_Channel 196 (.slice B_1_5 x.Channels.length c_1_5) x.Channels, hB g_1_13 36 #[.slice none 0 0, .slice none 0 0, .slice none 0 0, .slice none 0 0, .int .i64 (0)], hR ki_Script 133 (.slice B_1_2 x.Library.length c_1_2) x.Library, hB g_0_1 36 #[.slice none 0 0, .slice none 0 0, .slice none 0 0, .slice none 0 0, .int .i64 (0)], hB g_0_0 36 #[.slice Ax0 x.Library.length cx0, .slice Ax1 x.Vats.length cx1, .slice Ax2 x.Channels.length cx2, .slice Ax3 x.Notes.length cx3, .int .i64 (x.Strays)]] W136 := Ha137
          clear Ha137
          have hS140 : Blk W136 g_0_0 36 #[.slice Ax0 x.Library.length cx0, .slice Ax1 x.Vats.length cx1, .slice Ax2 x.Channels.length cx2, .slice Ax3 x.Notes.length cx3, .int .i64 (x.Strays)] := H139.blk 5 rfl
          refine ⟨fun _ => hS140, ?_⟩
          refine anyS_take (i := 12) rfl (by kernel_rfl) (by kernel_rfl) (by kernel_rfl) (by kernel_rfl) (by kernel_rfl) (fun _ _ _ h => h) rfl rfl hS140 (fun W' hs' => rn_build (vs := [(0, .slice B_1_2 x.Library.length c_1_2), (2, .slice B_1_5 x.Channels.length c_1_5), (3, .slice B_1_9 x.Notes.length c_1_9), (4, .int .i64 (x.Strays))]) (cells := #[.slice B_1_2 x.Library.length c_1_2, .slice none 0 0, .slice B_1_5 x.Channels.length c_1_5, .slice B_1_9 x.Notes.length c_1_9, .int .i64 (x.Strays)]) rfl (by kernel_rfl)) ?_
          refine anyS_one (i := 14) (by kernel_rfl) ?_
          have H144 : St w No [hB g_1_13 36 #[.slice none 0 0, .slice none 0 0, .slice none 0 0, .slice none 0 0, .int .i64 (0)], hR ki_Note 110 (.slice B_1_9 x.Notes.length c_1_9) x.Notes, hR ki_Channel 196 (.slice B_1_5 x.Channels.length c_1_5) x.Channels, hR ki_Script 133 (.slice B_1_2 x.Library.length c_1_2) x.Library, hB g_0_1 36 #[.slice none 0 0, .slice none 0 0, .slice none 0 0, .slice none 0 0, .int .i64 (0)], hB g_0_0 36 #[.slice Ax0 x.Library.length cx0, .slice Ax1 x.Vats.length cx1, .slice Ax2 x.Channels.length cx2, .slice Ax3 x.Notes.length cx3, .int .i64 (x.Strays)]] W136 := H139.pick [2, 0, 1, 3, 4, 5] (by decide) rfl
          clear H139
          refine op_storeW rfl Tryz.sizeOf36 rfl rfl rfl rfl (by simp [Value.oneCell']) H144 ?_
          intro W141 hu142 Ha143
          clear H144
          have H145 : St w No [hB g_1_13 36 #[.slice B_1_2 x.Library.length c_1_2, .slice none 0 0, .slice B_1_5 x.Channels.length c_1_5, .slice B_1_9 x.Notes.length c_1_9, .int .i64 (x.Strays)], hR ki_Note 110 (.slice B_1_9 x.Notes.length c_1_9) x.Notes, hR ki_Channel 196 (.slice B_1_5 x.Channels.length c_1_5) x.Channels, hR ki_Script 133 (.slice B_1_2 x.Library.length c_1_2) x.Library, hB g_0_1 36 #[.slice none 0 0, .slice none 0 0, .slice none 0 0, .slice none 0 0, .int .i64 (0)], hB g_0_0 36 #[.slice Ax0 x.Library.length cx0, .slice Ax1 x.Vats.length cx1, .slice Ax2 x.Channels.length cx2, .slice Ax3 x.Notes.length cx3, .int .i64 (x.Strays)]] W141 := Ha143
          clear Ha143
          clear hu142
          have hS146 : Blk W141 g_0_0 36 #[.slice Ax0 x.Library.length cx0, .slice Ax1 x.Vats.length cx1, .slice Ax2 x.Channels.length cx2, .slice Ax3 x.Notes.length cx3, .int .i64 (x.Strays)] := H145.blk 5 rfl
          refine ⟨fun _ => hS146, ?_⟩
          refine anyS_done (by kernel_rfl) ?_ _
          exact (actOf_drop2 [(1, .pointer (some ⟨g_0_0, 0, none⟩)), (2, .pointer (some ⟨g_0_1, 0, none⟩)), (3, .pointer (some ⟨g_1_13, 0, none⟩))] rfl).elim fun x' hx => ⟨B_1_2, c_1_2, B_1_5, c_1_5, B_1_9, c_1_9, g_1_13, x', hx, H145⟩
      · refine op_alloc rfl Tryz.zeroValue36 rfl rfl H17 ?_
        intro g_1_13 W147 hu148 Ha149
        clear H17
        have H150 : St w No [hB g_1_13 36 #[.slice none 0 0, .slice none 0 0, .slice none 0 0, .slice none 0 0, .int .i64 (0)], hR ki_Script 133 (.slice B_1_2 x.Library.length c_1_2) x.Library, hB g_0_1 36 #[.slice none 0 0, .slice none 0 0, .slice none 0 0, .slice none 0 0, .int .i64 (0)], hB g_0_0 36 #[.slice Ax0 x.Library.length cx0, .slice Ax1 x.Vats.length cx1, .slice Ax2 x.Channels.length cx2, .slice Ax3 x.Notes.length cx3, .int .i64 (x.Strays)]] W147 := Ha149
        clear Ha149
        clear hu148
        have hS151 : Blk W147 g_0_0 36 #[.slice Ax0 x.Library.length cx0, .slice Ax1 x.Vats.length cx1, .slice Ax2 x.Channels.length cx2, .slice Ax3 x.Notes.length cx3, .int .i64 (x.Strays)] := H150.blk 3 rfl
        refine ⟨fun _ => hS151, ?_⟩
        refine anyS_two (i := 5) (i2 := 6) (by kernel_rfl) ?_ ?_
        · refine op_call rfl Tryz.call134 (vs := #[.slice Ax2 x.Channels.length cx2]) rfl rfl rfl (l20Copy_s x.Channels _ _ _ (C_upd H150.1 hCx2) s_Channels) ?_
          rintro e156 W155 ⟨v152, rfl, hR153, hu154⟩
          refine ⟨_, rfl, ?_⟩
          obtain ⟨B_1_5, c_1_5, rfl⟩ := R_slice hR153
          have H157 : St w No [hR ki_Channel 196 (.slice B_1_5 x.Channels.length c_1_5) x.Channels, hB g_1_13 36 #[.slice none 0 0, .slice none 0 0, .slice none 0 0, .slice none 0 0, .int .i64 (0)], hR ki_Script 133 (.slice B_1_2 x.Library.length c_1_2) x.Library, hB g_0_1 36 #[.slice none 0 0, .slice none 0 0, .slice none 0 0, .slice none 0 0, .int .i64 (0)], hB g_0_0 36 #[.slice Ax0 x.Library.length cx0, .slice Ax1 x.Vats.length cx1, .slice Ax2 x.Channels.length cx2, .slice Ax3 x.Notes.length cx3, .int .i64 (x.Strays)]] W155 := H150.new hu154 hR153
          clear H150
          have hS158 : Blk W155 g_0_0 36 #[.slice Ax0 x.Library.length cx0, .slice Ax1 x.Vats.length cx1, .slice Ax2 x.Channels.length cx2, .slice Ax3 x.Notes.length cx3, .int .i64 (x.Strays)] := H157.blk 4 rfl
          refine ⟨fun _ => hS158, ?_⟩
          refine anyS_one (i := 6) (by kernel_rfl) ?_
          refine op_slice0 (dk := ki_Note) rfl Tryz.runUnderlying34 Tryz.sizeOf110 rfl rfl H157 ?_
          intro A_1_6 W159 hu160 Ha161
          clear H157
          have H162 : St w No [hR ki_Note 110 (.slice A_1_6 0 0) ([]), hR ki_Channel 196 (.slice B_1_5 x.Channels.length c_1_5) x.Channels, hB g_1_13 36 #[.slice none 0 0, .slice none 0 0, .slice none 0 0, .slice none 0 0, .int .i64 (0)], hR ki_Script 133 (.slice B_1_2 x.Library.length c_1_2) x.Library, hB g_0_1 36 #[.slice none 0 0, .slice none 0 0, .slice none 0 0, .slice none 0 0, .int .i64 (0)], hB g_0_0 36 #[.slice Ax0 x.Library.length cx0, .slice Ax1 x.Vats.length cx1, .slice Ax2 x.Channels.length cx2, .slice Ax3 x.Notes.length cx3, .int .i64 (x.Strays)]] W159 := Ha161
          clear Ha161
          clear hu160
          have hS163 : Blk W159 g_0_0 36 #[.slice Ax0 x.Library.length cx0, .slice Ax1 x.Vats.length cx1, .slice Ax2 x.Channels.length cx2, .slice Ax3 x.Notes.length cx3, .int .i64 (x.Strays)] := H162.blk 5 rfl
          refine ⟨fun _ => hS163, ?_⟩
          refine anyS_one (i := 9) (by kernel_rfl) ?_
          refine op_appendN' (xs := []) (ys := x.Notes) (n' := x.Notes.length) (zs := x.Notes) rfl Tryz.underlying34 ki_Note_info rfl (by decide) (by decide) flat_Note rfl rfl (C_upd H162.1 hCx3) (by simp; omega) (by simp) (List.nil_append _) rfl rfl H162 ?_
          intro B_1_9 c_1_9 W164 Ha165
          clear H162
          have H166 : St w No [hR ki_Note 110 (.slice B_1_9 x.Notes.length c_1_9) x.Notes, hR ki_Channel 196 (.slice B_1_5 x.Channels.length c_1_5) x.Channels, hB g_1_13 36 #[.slice none 0 0, .slice none 0 0, .slice none 0 0, .slice none 0 0, .int .i64 (0)], hR ki_Script 133 (.slice B_1_2 x.Library.length c_1_2) x.Library, hB g_0_1 36 #[.slice none 0 0, .slice none 0 0, .slice none 0 0, .slice none 0 0, .int .i64 (0)], hB g_0_0 36 #[.slice Ax0 x.Library.length cx0, .slice Ax1 x.Vats.length cx1, .slice Ax2 x.Channels.length cx2, .slice Ax3 x.Notes.length cx3, .int .i64 (x.Strays)]] W164 := Ha165
          clear Ha165
          have hS167 : Blk W164 g_0_0 36 #[.slice Ax0 x.Library.length cx0, .slice Ax1 x.Vats.length cx1, .slice Ax2 x.Channels.length cx2, .slice Ax3 x.Notes.length cx3, .int .i64 (x.Strays)] := H166.blk 5 rfl
          refine ⟨fun _ => hS167, ?_⟩
          refine anyS_take (i := 12) rfl (by kernel_rfl) (by kernel_rfl) (by kernel_rfl) (by kernel_rfl) (by kernel_rfl) (fun _ _ _ h => h) rfl rfl hS167 (fun W' hs' => rn_build (vs := [(0, .slice B_1_2 x.Library.length c_1_2), (2, .slice B_1_5 x.Channels.length c_1_5), (3, .slice B_1_9 x.Notes.length c_1_9), (4, .int .i64 (x.Strays))]) (cells := #[.slice B_1_2 x.Library.length c_1_2, .slice none 0 0, .slice B_1_5 x.Channels.length c_1_5, .slice B_1_9 x.Notes.length c_1_9, .int .i64 (x.Strays)]) rfl (by kernel_rfl)) ?_
          refine anyS_one (i := 14) (by kernel_rfl) ?_
          have H171 : St w No [hB g_1_13 36 #[.slice none 0 0, .slice none 0 0, .slice none 0 0, .slice none 0 0, .int .i64 (0)], hR ki_Note 110 (.slice B_1_9 x.Notes.length c_1_9) x.Notes, hR ki_Channel 196 (.slice B_1_5 x.Channels.length c_1_5) x.Channels, hR ki_Script 133 (.slice B_1_2 x.Library.length c_1_2) x.Library, hB g_0_1 36 #[.slice none 0 0, .slice none 0 0, .slice none 0 0, .slice none 0 0, .int .i64 (0)], hB g_0_0 36 #[.slice Ax0 x.Library.length cx0, .slice Ax1 x.Vats.length cx1, .slice Ax2 x.Channels.length cx2, .slice Ax3 x.Notes.length cx3, .int .i64 (x.Strays)]] W164 := H166.pick [2, 0, 1, 3, 4, 5] (by decide) rfl
          clear H166
          refine op_storeW rfl Tryz.sizeOf36 rfl rfl rfl rfl (by simp [Value.oneCell']) H171 ?_
          intro W168 hu169 Ha170
          clear H171
          have H172 : St w No [hB g_1_13 36 #[.slice B_1_2 x.Library.length c_1_2, .slice none 0 0, .slice B_1_5 x.Channels.length c_1_5, .slice B_1_9 x.Notes.length c_1_9, .int .i64 (x.Strays)], hR ki_Note 110 (.slice B_1_9 x.Notes.length c_1_9) x.Notes, hR ki_Channel 196 (.slice B_1_5 x.Channels.length c_1_5) x.Channels, hR ki_Script 133 (.slice B_1_2 x.Library.length c_1_2) x.Library, hB g_0_1 36 #[.slice none 0 0, .slice none 0 0, .slice none 0 0, .slice none 0 0, .int .i64 (0)], hB g_0_0 36 #[.slice Ax0 x.Library.length cx0, .slice Ax1 x.Vats.length cx1, .slice Ax2 x.Channels.length cx2, .slice Ax3 x.Notes.length cx3, .int .i64 (x.Strays)]] W168 := Ha170
          clear Ha170
          clear hu169
          have hS173 : Blk W168 g_0_0 36 #[.slice Ax0 x.Library.length cx0, .slice Ax1 x.Vats.length cx1, .slice Ax2 x.Channels.length cx2, .slice Ax3 x.Notes.length cx3, .int .i64 (x.Strays)] := H172.blk 5 rfl
          refine ⟨fun _ => hS173, ?_⟩
          refine anyS_done (by kernel_rfl) ?_ _
          exact (actOf_drop2 [(1, .pointer (some ⟨g_0_0, 0, none⟩)), (2, .pointer (some ⟨g_0_1, 0, none⟩)), (3, .pointer (some ⟨g_1_13, 0, none⟩))] rfl).elim fun x' hx => ⟨B_1_2, c_1_2, B_1_5, c_1_5, B_1_9, c_1_9, g_1_13, x', hx, H172⟩
        · refine op_slice0 (dk := ki_Note) rfl Tryz.runUnderlying34 Tryz.sizeOf110 rfl rfl H150 ?_
          intro A_1_6 W174 hu175 Ha176
          clear H150
          have H177 : St w No [hR ki_Note 110 (.slice A_1_6 0 0) ([]), hB g_1_13 36 #[.slice none 0 0, .slice none 0 0, .slice none 0 0, .slice none 0 0, .int .i64 (0)], hR ki_Script 133 (.slice B_1_2 x.Library.length c_1_2) x.Library, hB g_0_1 36 #[.slice none 0 0, .slice none 0 0, .slice none 0 0, .slice none 0 0, .int .i64 (0)], hB g_0_0 36 #[.slice Ax0 x.Library.length cx0, .slice Ax1 x.Vats.length cx1, .slice Ax2 x.Channels.length cx2, .slice Ax3 x.Notes.length cx3, .int .i64 (x.Strays)]] W174 := Ha176
          clear Ha176
          clear hu175
          have hS178 : Blk W174 g_0_0 36 #[.slice Ax0 x.Library.length cx0, .slice Ax1 x.Vats.length cx1, .slice Ax2 x.Channels.length cx2, .slice Ax3 x.Notes.length cx3, .int .i64 (x.Strays)] := H177.blk 4 rfl
          refine ⟨fun _ => hS178, ?_⟩
          refine anyS_one (i := 5) (by kernel_rfl) ?_
          refine op_call rfl Tryz.call134 (vs := #[.slice Ax2 x.Channels.length cx2]) rfl rfl rfl (l20Copy_s x.Channels _ _ _ (C_upd H177.1 hCx2) s_Channels) ?_
          rintro e183 W182 ⟨v179, rfl, hR180, hu181⟩
          refine ⟨_, rfl, ?_⟩
          obtain ⟨B_1_5, c_1_5, rfl⟩ := R_slice hR180
          have H184 : St w No [hR ki_Channel 196 (.slice B_1_5 x.Channels.length c_1_5) x.Channels, hR ki_Note 110 (.slice A_1_6 0 0) ([]), hB g_1_13 36 #[.slice none 0 0, .slice none 0 0, .slice none 0 0, .slice none 0 0, .int .i64 (0)], hR ki_Script 133 (.slice B_1_2 x.Library.length c_1_2) x.Library, hB g_0_1 36 #[.slice none 0 0, .slice none 0 0, .slice none 0 0, .slice none 0 0, .int .i64 (0)], hB g_0_0 36 #[.slice Ax0 x.Library.length cx0, .slice Ax1 x.Vats.length cx1, .slice Ax2 x.Channels.length cx2, .slice Ax3 x.Notes.length cx3, .int .i64 (x.Strays)]] W182 := H177.new hu181 hR180
          clear H177
          have hS185 : Blk W182 g_0_0 36 #[.slice Ax0 x.Library.length cx0, .slice Ax1 x.Vats.length cx1, .slice Ax2 x.Channels.length cx2, .slice Ax3 x.Notes.length cx3, .int .i64 (x.Strays)] := H184.blk 5 rfl
          refine ⟨fun _ => hS185, ?_⟩
          refine anyS_one (i := 9) (by kernel_rfl) ?_
          have H188 : St w No [hR ki_Note 110 (.slice A_1_6 0 0) ([]), hR ki_Channel 196 (.slice B_1_5 x.Channels.length c_1_5) x.Channels, hB g_1_13 36 #[.slice none 0 0, .slice none 0 0, .slice none 0 0, .slice none 0 0, .int .i64 (0)], hR ki_Script 133 (.slice B_1_2 x.Library.length c_1_2) x.Library, hB g_0_1 36 #[.slice none 0 0, .slice none 0 0, .slice none 0 0, .slice none 0 0, .int .i64 (0)], hB g_0_0 36 #[.slice Ax0 x.Library.length cx0, .slice Ax1 x.Vats.length cx1, .slice Ax2 x.Channels.length cx2, .slice Ax3 x.Notes.length cx3, .int .i64 (x.Strays)]] W182 := H184.pick [1, 0, 2, 3, 4, 5] (by decide) rfl
          clear H184
          refine op_appendN' (xs := []) (ys := x.Notes) (n' := x.Notes.length) (zs := x.Notes) rfl Tryz.underlying34 ki_Note_info rfl (by decide) (by decide) flat_Note rfl rfl (C_upd H188.1 hCx3) (by simp; omega) (by simp) (List.nil_append _) rfl rfl H188 ?_
          intro B_1_9 c_1_9 W186 Ha187
          clear H188
          have H189 : St w No [hR ki_Note 110 (.slice B_1_9 x.Notes.length c_1_9) x.Notes, hR ki_Channel 196 (.slice B_1_5 x.Channels.length c_1_5) x.Channels, hB g_1_13 36 #[.slice none 0 0, .slice none 0 0, .slice none 0 0, .slice none 0 0, .int .i64 (0)], hR ki_Script 133 (.slice B_1_2 x.Library.length c_1_2) x.Library, hB g_0_1 36 #[.slice none 0 0, .slice none 0 0, .slice none 0 0, .slice none 0 0, .int .i64 (0)], hB g_0_0 36 #[.slice Ax0 x.Library.length cx0, .slice Ax1 x.Vats.length cx1, .slice Ax2 x.Channels.length cx2, .slice Ax3 x.Notes.length cx3, .int .i64 (x.Strays)]] W186 := Ha187
          clear Ha187
          have hS190 : Blk W186 g_0_0 36 #[.slice Ax0 x.Library.length cx0, .slice Ax1 x.Vats.length cx1, .slice Ax2 x.Channels.length cx2, .slice Ax3 x.Notes.length cx3, .int .i64 (x.Strays)] := H189.blk 5 rfl
          refine ⟨fun _ => hS190, ?_⟩
          refine anyS_take (i := 12) rfl (by kernel_rfl) (by kernel_rfl) (by kernel_rfl) (by kernel_rfl) (by kernel_rfl) (fun _ _ _ h => h) rfl rfl hS190 (fun W' hs' => rn_build (vs := [(0, .slice B_1_2 x.Library.length c_1_2), (2, .slice B_1_5 x.Channels.length c_1_5), (3, .slice B_1_9 x.Notes.length c_1_9), (4, .int .i64 (x.Strays))]) (cells := #[.slice B_1_2 x.Library.length c_1_2, .slice none 0 0, .slice B_1_5 x.Channels.length c_1_5, .slice B_1_9 x.Notes.length c_1_9, .int .i64 (x.Strays)]) rfl (by kernel_rfl)) ?_
          refine anyS_one (i := 14) (by kernel_rfl) ?_
          have H194 : St w No [hB g_1_13 36 #[.slice none 0 0, .slice none 0 0, .slice none 0 0, .slice none 0 0, .int .i64 (0)], hR ki_Note 110 (.slice B_1_9 x.Notes.length c_1_9) x.Notes, hR ki_Channel 196 (.slice B_1_5 x.Channels.length c_1_5) x.Channels, hR ki_Script 133 (.slice B_1_2 x.Library.length c_1_2) x.Library, hB g_0_1 36 #[.slice none 0 0, .slice none 0 0, .slice none 0 0, .slice none 0 0, .int .i64 (0)], hB g_0_0 36 #[.slice Ax0 x.Library.length cx0, .slice Ax1 x.Vats.length cx1, .slice Ax2 x.Channels.length cx2, .slice Ax3 x.Notes.length cx3, .int .i64 (x.Strays)]] W186 := H189.pick [2, 0, 1, 3, 4, 5] (by decide) rfl
          clear H189
          refine op_storeW rfl Tryz.sizeOf36 rfl rfl rfl rfl (by simp [Value.oneCell']) H194 ?_
          intro W191 hu192 Ha193
          clear H194
          have H195 : St w No [hB g_1_13 36 #[.slice B_1_2 x.Library.length c_1_2, .slice none 0 0, .slice B_1_5 x.Channels.length c_1_5, .slice B_1_9 x.Notes.length c_1_9, .int .i64 (x.Strays)], hR ki_Note 110 (.slice B_1_9 x.Notes.length c_1_9) x.Notes, hR ki_Channel 196 (.slice B_1_5 x.Channels.length c_1_5) x.Channels, hR ki_Script 133 (.slice B_1_2 x.Library.length c_1_2) x.Library, hB g_0_1 36 #[.slice none 0 0, .slice none 0 0, .slice none 0 0, .slice none 0 0, .int .i64 (0)], hB g_0_0 36 #[.slice Ax0 x.Library.length cx0, .slice Ax1 x.Vats.length cx1, .slice Ax2 x.Channels.length cx2, .slice Ax3 x.Notes.length cx3, .int .i64 (x.Strays)]] W191 := Ha193
          clear Ha193
          clear hu192
          have hS196 : Blk W191 g_0_0 36 #[.slice Ax0 x.Library.length cx0, .slice Ax1 x.Vats.length cx1, .slice Ax2 x.Channels.length cx2, .slice Ax3 x.Notes.length cx3, .int .i64 (x.Strays)] := H195.blk 5 rfl
          refine ⟨fun _ => hS196, ?_⟩
          refine anyS_done (by kernel_rfl) ?_ _
          exact (actOf_drop2 [(1, .pointer (some ⟨g_0_0, 0, none⟩)), (2, .pointer (some ⟨g_0_1, 0, none⟩)), (3, .pointer (some ⟨g_1_13, 0, none⟩))] rfl).elim fun x' hx => ⟨B_1_2, c_1_2, B_1_5, c_1_5, B_1_9, c_1_9, g_1_13, x', hx, H195⟩
    · refine op_slice0 (dk := ki_Note) rfl Tryz.runUnderlying34 Tryz.sizeOf110 rfl rfl H10 ?_
      intro A_1_6 W197 hu198 Ha199
      clear H10
      have H200 : St w No [hR ki_Note 110 (.slice A_1_6 0 0) ([]), hB g_0_1 36 #[.slice none 0 0, .slice none 0 0, .slice none 0 0, .slice none 0 0, .int .i64 (0)], hB g_0_0 36 #[.slice Ax0 x.Library.length cx0, .slice Ax1 x.Vats.length cx1, .slice Ax2 x.Channels.length cx2, .slice Ax3 x.Notes.length cx3, .int .i64 (x.Strays)]] W197 := Ha199
      clear Ha199
      clear hu198
      have hS201 : Blk W197 g_0_0 36 #[.slice Ax0 x.Library.length cx0, .slice Ax1 x.Vats.length cx1, .slice Ax2 x.Channels.length cx2, .slice Ax3 x.Notes.length cx3, .int .i64 (x.Strays)] := H200.blk 2 rfl
      refine ⟨fun _ => hS201, ?_⟩
      refine anyS_two (i := 2) (i2 := 13) (by kernel_rfl) ?_ ?_
      · refine op_call rfl Tryz.call75 (vs := #[.slice Ax0 x.Library.length cx0]) rfl rfl rfl (l6CopyAll_s x.Library _ _ _ (C_upd H200.1 hCx0) s_Library) ?_
        rintro e206 W205 ⟨v202, rfl, hR203, hu204⟩
        refine ⟨_, rfl, ?_⟩
        obtain ⟨B_1_2, c_1_2, rfl⟩ := R_slice hR203
        have H207 : St w No [hR ki_Script 133 (.slice B_1_2 x.Library.length c_1_2) x.Library, hR ki_Note 110 (.slice A_1_6 0 0) ([]), hB g_0_1 36 #[.slice none 0 0, .slice none 0 0, .slice none 0 0, .slice none 0 0, .int .i64 (0)], hB g_0_0 36 #[.slice Ax0 x.Library.length cx0, .slice Ax1 x.Vats.length cx1, .slice Ax2 x.Channels.length cx2, .slice Ax3 x.Notes.length cx3, .int .i64 (x.Strays)]] W205 := H200.new hu204 hR203
        clear H200
        have hS208 : Blk W205 g_0_0 36 #[.slice Ax0 x.Library.length cx0, .slice Ax1 x.Vats.length cx1, .slice Ax2 x.Channels.length cx2, .slice Ax3 x.Notes.length cx3, .int .i64 (x.Strays)] := H207.blk 3 rfl
        refine ⟨fun _ => hS208, ?_⟩
        refine anyS_two (i := 5) (i2 := 13) (by kernel_rfl) ?_ ?_
        · refine op_call rfl Tryz.call134 (vs := #[.slice Ax2 x.Channels.length cx2]) rfl rfl rfl (l20Copy_s x.Channels _ _ _ (C_upd H207.1 hCx2) s_Channels) ?_
          rintro e213 W212 ⟨v209, rfl, hR210, hu211⟩
          refine ⟨_, rfl, ?_⟩
          obtain ⟨B_1_5, c_1_5, rfl⟩ := R_slice hR210
          have H214 : St w No [hR ki_Channel 196 (.slice B_1_5 x.Channels.length c_1_5) x.Channels, hR ki_Script 133 (.slice B_1_2 x.Library.length c_1_2) x.Library, hR ki_Note 110 (.slice A_1_6 0 0) ([]), hB g_0_1 36 #[.slice none 0 0, .slice none 0 0, .slice none 0 0, .slice none 0 0, .int .i64 (0)], hB g_0_0 36 #[.slice Ax0 x.Library.length cx0, .slice Ax1 x.Vats.length cx1, .slice Ax2 x.Channels.length cx2, .slice Ax3 x.Notes.length cx3, .int .i64 (x.Strays)]] W212 := H207.new hu211 hR210
          clear H207
          have hS215 : Blk W212 g_0_0 36 #[.slice Ax0 x.Library.length cx0, .slice Ax1 x.Vats.length cx1, .slice Ax2 x.Channels.length cx2, .slice Ax3 x.Notes.length cx3, .int .i64 (x.Strays)] := H214.blk 4 rfl
          refine ⟨fun _ => hS215, ?_⟩
          refine anyS_two (i := 9) (i2 := 13) (by kernel_rfl) ?_ ?_
          · have H218 : St w No [hR ki_Note 110 (.slice A_1_6 0 0) ([]), hR ki_Channel 196 (.slice B_1_5 x.Channels.length c_1_5) x.Channels, hR ki_Script 133 (.slice B_1_2 x.Library.length c_1_2) x.Library, hB g_0_1 36 #[.slice none 0 0, .slice none 0 0, .slice none 0 0, .slice none 0 0, .int .i64 (0)], hB g_0_0 36 #[.slice Ax0 x.Library.length cx0, .slice Ax1 x.Vats.length cx1, .slice Ax2 x.Channels.length cx2, .slice Ax3 x.Notes.length cx3, .int .i64 (x.Strays)]] W212 := H214.pick [2, 0, 1, 3, 4] (by decide) rfl
            clear H214
            refine op_appendN' (xs := []) (ys := x.Notes) (n' := x.Notes.length) (zs := x.Notes) rfl Tryz.underlying34 ki_Note_info rfl (by decide) (by decide) flat_Note rfl rfl (C_upd H218.1 hCx3) (by simp; omega) (by simp) (List.nil_append _) rfl rfl H218 ?_
            intro B_1_9 c_1_9 W216 Ha217
            clear H218
            have H219 : St w No [hR ki_Note 110 (.slice B_1_9 x.Notes.length c_1_9) x.Notes, hR ki_Channel 196 (.slice B_1_5 x.Channels.length c_1_5) x.Channels, hR ki_Script 133 (.slice B_1_2 x.Library.length c_1_2) x.Library, hB g_0_1 36 #[.slice none 0 0, .slice none 0 0, .slice none 0 0, .slice none 0 0, .int .i64 (0)], hB g_0_0 36 #[.slice Ax0 x.Library.length cx0, .slice Ax1 x.Vats.length cx1, .slice Ax2 x.Channels.length cx2, .slice Ax3 x.Notes.length cx3, .int .i64 (x.Strays)]] W216 := Ha217
            clear Ha217
            have hS220 : Blk W216 g_0_0 36 #[.slice Ax0 x.Library.length cx0, .slice Ax1 x.Vats.length cx1, .slice Ax2 x.Channels.length cx2, .slice Ax3 x.Notes.length cx3, .int .i64 (x.Strays)] := H219.blk 4 rfl
            refine ⟨fun _ => hS220, ?_⟩
            refine anyS_take (i := 12) rfl (by kernel_rfl) (by kernel_rfl) (by kernel_rfl) (by kernel_rfl) (by kernel_rfl) (fun _ _ _ h => h) rfl rfl hS220 (fun W' hs' => rn_build (vs := [(0, .slice B_1_2 x.Library.length c_1_2), (2, .slice B_1_5 x.Channels.length c_1_5), (3, .slice B_1_9 x.Notes.length c_1_9), (4, .int .i64 (x.Strays))]) (cells := #[.slice B_1_2 x.Library.length c_1_2, .slice none 0 0, .slice B_1_5 x.Channels.length c_1_5, .slice B_1_9 x.Notes.length c_1_9, .int .i64 (x.Strays)]) rfl (by kernel_rfl)) ?_
            refine anyS_one (i := 13) (by kernel_rfl) ?_
            refine op_alloc rfl Tryz.zeroValue36 rfl rfl H219 ?_
            intro g_1_13 W221 hu222 Ha223
            clear H219
            have H224 : St w No [hB g_1_13 36 #[.slice none 0 0, .slice none 0 0, .slice none 0 0, .slice none 0 0, .int .i64 (0)], hR ki_Note 110 (.slice B_1_9 x.Notes.length c_1_9) x.Notes, hR ki_Channel 196 (.slice B_1_5 x.Channels.length c_1_5) x.Channels, hR ki_Script 133 (.slice B_1_2 x.Library.length c_1_2) x.Library, hB g_0_1 36 #[.slice none 0 0, .slice none 0 0, .slice none 0 0, .slice none 0 0, .int .i64 (0)], hB g_0_0 36 #[.slice Ax0 x.Library.length cx0, .slice Ax1 x.Vats.length cx1, .slice Ax2 x.Channels.length cx2, .slice Ax3 x.Notes.length cx3, .int .i64 (x.Strays)]] W221 := Ha223
            clear Ha223
            clear hu222
            have hS225 : Blk W221 g_0_0 36 #[.slice Ax0 x.Library.length cx0, .slice Ax1 x.Vats.length cx1, .slice Ax2 x.Channels.length cx2, .slice Ax3 x.Notes.length cx3, .int .i64 (x.Strays)] := H224.blk 5 rfl
            refine ⟨fun _ => hS225, ?_⟩
            refine anyS_one (i := 14) (by kernel_rfl) ?_
            refine op_storeW rfl Tryz.sizeOf36 rfl rfl rfl rfl (by simp [Value.oneCell']) H224 ?_
            intro W226 hu227 Ha228
            clear H224
            have H229 : St w No [hB g_1_13 36 #[.slice B_1_2 x.Library.length c_1_2, .slice none 0 0, .slice B_1_5 x.Channels.length c_1_5, .slice B_1_9 x.Notes.length c_1_9, .int .i64 (x.Strays)], hR ki_Note 110 (.slice B_1_9 x.Notes.length c_1_9) x.Notes, hR ki_Channel 196 (.slice B_1_5 x.Channels.length c_1_5) x.Channels, hR ki_Script 133 (.slice B_1_2 x.Library.length c_1_2) x.Library, hB g_0_1 36 #[.slice none 0 0, .slice none 0 0, .slice none 0 0, .slice none 0 0, .int .i64 (0)], hB g_0_0 36 #[.slice Ax0 x.Library.length cx0, .slice Ax1 x.Vats.length cx1, .slice Ax2 x.Channels.length cx2, .slice Ax3 x.Notes.length cx3, .int .i64 (x.Strays)]] W226 := Ha228
            clear Ha228
            clear hu227
            have hS230 : Blk W226 g_0_0 36 #[.slice Ax0 x.Library.length cx0, .slice Ax1 x.Vats.length cx1, .slice Ax2 x.Channels.length cx2, .slice Ax3 x.Notes.length cx3, .int .i64 (x.Strays)] := H229.blk 5 rfl
            refine ⟨fun _ => hS230, ?_⟩
            refine anyS_done (by kernel_rfl) ?_ _
            exact (actOf_drop2 [(1, .pointer (some ⟨g_0_0, 0, none⟩)), (2, .pointer (some ⟨g_0_1, 0, none⟩)), (3, .pointer (some ⟨g_1_13, 0, none⟩))] rfl).elim fun x' hx => ⟨B_1_2, c_1_2, B_1_5, c_1_5, B_1_9, c_1_9, g_1_13, x', hx, H229⟩
          · refine op_alloc rfl Tryz.zeroValue36 rfl rfl H214 ?_
            intro g_1_13 W231 hu232 Ha233
            clear H214
            have H234 : St w No [hB g_1_13 36 #[.slice none 0 0, .slice none 0 0, .slice none 0 0, .slice none 0 0, .int .i64 (0)], hR ki_Channel 196 (.slice B_1_5 x.Channels.length c_1_5) x.Channels, hR ki_Script 133 (.slice B_1_2 x.Library.length c_1_2) x.Library, hR ki_Note 110 (.slice A_1_6 0 0) ([]), hB g_0_1 36 #[.slice none 0 0, .slice none 0 0, .slice none 0 0, .slice none 0 0, .int .i64 (0)], hB g_0_0 36 #[.slice Ax0 x.Library.length cx0, .slice Ax1 x.Vats.length cx1, .slice Ax2 x.Channels.length cx2, .slice Ax3 x.Notes.length cx3, .int .i64 (x.Strays)]] W231 := Ha233
            clear Ha233
            clear hu232
            have hS235 : Blk W231 g_0_0 36 #[.slice Ax0 x.Library.length cx0, .slice Ax1 x.Vats.length cx1, .slice Ax2 x.Channels.length cx2, .slice Ax3 x.Notes.length cx3, .int .i64 (x.Strays)] := H234.blk 5 rfl
            refine ⟨fun _ => hS235, ?_⟩
            refine anyS_one (i := 9) (by kernel_rfl) ?_
            have H238 : St w No [hR ki_Note 110 (.slice A_1_6 0 0) ([]), hB g_1_13 36 #[.slice none 0 0, .slice none 0 0, .slice none 0 0, .slice none 0 0, .int .i64 (0)], hR ki_Channel 196 (.slice B_1_5 x.Channels.length c_1_5) x.Channels, hR ki_Script 133 (.slice B_1_2 x.Library.length c_1_2) x.Library, hB g_0_1 36 #[.slice none 0 0, .slice none 0 0, .slice none 0 0, .slice none 0 0, .int .i64 (0)], hB g_0_0 36 #[.slice Ax0 x.Library.length cx0, .slice Ax1 x.Vats.length cx1, .slice Ax2 x.Channels.length cx2, .slice Ax3 x.Notes.length cx3, .int .i64 (x.Strays)]] W231 := H234.pick [3, 0, 1, 2, 4, 5] (by decide) rfl
            clear H234
            refine op_appendN' (xs := []) (ys := x.Notes) (n' := x.Notes.length) (zs := x.Notes) rfl Tryz.underlying34 ki_Note_info rfl (by decide) (by decide) flat_Note rfl rfl (C_upd H238.1 hCx3) (by simp; omega) (by simp) (List.nil_append _) rfl rfl H238 ?_
            intro B_1_9 c_1_9 W236 Ha237
            clear H238
            have H239 : St w No [hR ki_Note 110 (.slice B_1_9 x.Notes.length c_1_9) x.Notes, hB g_1_13 36 #[.slice none 0 0, .slice none 0 0, .slice none 0 0, .slice none 0 0, .int .i64 (0)], hR ki_Channel 196 (.slice B_1_5 x.Channels.length c_1_5) x.Channels, hR ki_Script 133 (.slice B_1_2 x.Library.length c_1_2) x.Library, hB g_0_1 36 #[.slice none 0 0, .slice none 0 0, .slice none 0 0, .slice none 0 0, .int .i64 (0)], hB g_0_0 36 #[.slice Ax0 x.Library.length cx0, .slice Ax1 x.Vats.length cx1, .slice Ax2 x.Channels.length cx2, .slice Ax3 x.Notes.length cx3, .int .i64 (x.Strays)]] W236 := Ha237
            clear Ha237
            have hS240 : Blk W236 g_0_0 36 #[.slice Ax0 x.Library.length cx0, .slice Ax1 x.Vats.length cx1, .slice Ax2 x.Channels.length cx2, .slice Ax3 x.Notes.length cx3, .int .i64 (x.Strays)] := H239.blk 5 rfl
            refine ⟨fun _ => hS240, ?_⟩
            refine anyS_take (i := 12) rfl (by kernel_rfl) (by kernel_rfl) (by kernel_rfl) (by kernel_rfl) (by kernel_rfl) (fun _ _ _ h => h) rfl rfl hS240 (fun W' hs' => rn_build (vs := [(0, .slice B_1_2 x.Library.length c_1_2), (2, .slice B_1_5 x.Channels.length c_1_5), (3, .slice B_1_9 x.Notes.length c_1_9), (4, .int .i64 (x.Strays))]) (cells := #[.slice B_1_2 x.Library.length c_1_2, .slice none 0 0, .slice B_1_5 x.Channels.length c_1_5, .slice B_1_9 x.Notes.length c_1_9, .int .i64 (x.Strays)]) rfl (by kernel_rfl)) ?_
            refine anyS_one (i := 14) (by kernel_rfl) ?_
            have H244 : St w No [hB g_1_13 36 #[.slice none 0 0, .slice none 0 0, .slice none 0 0, .slice none 0 0, .int .i64 (0)], hR ki_Note 110 (.slice B_1_9 x.Notes.length c_1_9) x.Notes, hR ki_Channel 196 (.slice B_1_5 x.Channels.length c_1_5) x.Channels, hR ki_Script 133 (.slice B_1_2 x.Library.length c_1_2) x.Library, hB g_0_1 36 #[.slice none 0 0, .slice none 0 0, .slice none 0 0, .slice none 0 0, .int .i64 (0)], hB g_0_0 36 #[.slice Ax0 x.Library.length cx0, .slice Ax1 x.Vats.length cx1, .slice Ax2 x.Channels.length cx2, .slice Ax3 x.Notes.length cx3, .int .i64 (x.Strays)]] W236 := H239.pick [1, 0, 2, 3, 4, 5] (by decide) rfl
            clear H239
            refine op_storeW rfl Tryz.sizeOf36 rfl rfl rfl rfl (by simp [Value.oneCell']) H244 ?_
            intro W241 hu242 Ha243
            clear H244
            have H245 : St w No [hB g_1_13 36 #[.slice B_1_2 x.Library.length c_1_2, .slice none 0 0, .slice B_1_5 x.Channels.length c_1_5, .slice B_1_9 x.Notes.length c_1_9, .int .i64 (x.Strays)], hR ki_Note 110 (.slice B_1_9 x.Notes.length c_1_9) x.Notes, hR ki_Channel 196 (.slice B_1_5 x.Channels.length c_1_5) x.Channels, hR ki_Script 133 (.slice B_1_2 x.Library.length c_1_2) x.Library, hB g_0_1 36 #[.slice none 0 0, .slice none 0 0, .slice none 0 0, .slice none 0 0, .int .i64 (0)], hB g_0_0 36 #[.slice Ax0 x.Library.length cx0, .slice Ax1 x.Vats.length cx1, .slice Ax2 x.Channels.length cx2, .slice Ax3 x.Notes.length cx3, .int .i64 (x.Strays)]] W241 := Ha243
            clear Ha243
            clear hu242
            have hS246 : Blk W241 g_0_0 36 #[.slice Ax0 x.Library.length cx0, .slice Ax1 x.Vats.length cx1, .slice Ax2 x.Channels.length cx2, .slice Ax3 x.Notes.length cx3, .int .i64 (x.Strays)] := H245.blk 5 rfl
            refine ⟨fun _ => hS246, ?_⟩
            refine anyS_done (by kernel_rfl) ?_ _
            exact (actOf_drop2 [(1, .pointer (some ⟨g_0_0, 0, none⟩)), (2, .pointer (some ⟨g_0_1, 0, none⟩)), (3, .pointer (some ⟨g_1_13, 0, none⟩))] rfl).elim fun x' hx => ⟨B_1_2, c_1_2, B_1_5, c_1_5, B_1_9, c_1_9, g_1_13, x', hx, H245⟩
        · refine op_alloc rfl Tryz.zeroValue36 rfl rfl H207 ?_
          intro g_1_13 W247 hu248 Ha249
          clear H207
          have H250 : St w No [hB g_1_13 36 #[.slice none 0 0, .slice none 0 0, .slice none 0 0, .slice none 0 0, .int .i64 (0)], hR ki_Script 133 (.slice B_1_2 x.Library.length c_1_2) x.Library, hR ki_Note 110 (.slice A_1_6 0 0) ([]), hB g_0_1 36 #[.slice none 0 0, .slice none 0 0, .slice none 0 0, .slice none 0 0, .int .i64 (0)], hB g_0_0 36 #[.slice Ax0 x.Library.length cx0, .slice Ax1 x.Vats.length cx1, .slice Ax2 x.Channels.length cx2, .slice Ax3 x.Notes.length cx3, .int .i64 (x.Strays)]] W247 := Ha249
          clear Ha249
          clear hu248
          have hS251 : Blk W247 g_0_0 36 #[.slice Ax0 x.Library.length cx0, .slice Ax1 x.Vats.length cx1, .slice Ax2 x.Channels.length cx2, .slice Ax3 x.Notes.length cx3, .int .i64 (x.Strays)] := H250.blk 4 rfl
          refine ⟨fun _ => hS251, ?_⟩
          refine anyS_one (i := 5) (by kernel_rfl) ?_
          refine op_call rfl Tryz.call134 (vs := #[.slice Ax2 x.Channels.length cx2]) rfl rfl rfl (l20Copy_s x.Channels _ _ _ (C_upd H250.1 hCx2) s_Channels) ?_
          rintro e256 W255 ⟨v252, rfl, hR253, hu254⟩
          refine ⟨_, rfl, ?_⟩
          obtain ⟨B_1_5, c_1_5, rfl⟩ := R_slice hR253
          have H257 : St w No [hR ki_Channel 196 (.slice B_1_5 x.Channels.length c_1_5) x.Channels, hB g_1_13 36 #[.slice none 0 0, .slice none 0 0, .slice none 0 0, .slice none 0 0, .int .i64 (0)], hR ki_Script 133 (.slice B_1_2 x.Library.length c_1_2) x.Library, hR ki_Note 110 (.slice A_1_6 0 0) ([]), hB g_0_1 36 #[.slice none 0 0, .slice none 0 0, .slice none 0 0, .slice none 0 0, .int .i64 (0)], hB g_0_0 36 #[.slice Ax0 x.Library.length cx0, .slice Ax1 x.Vats.length cx1, .slice Ax2 x.Channels.length cx2, .slice Ax3 x.Notes.length cx3, .int .i64 (x.Strays)]] W255 := H250.new hu254 hR253
          clear H250
          have hS258 : Blk W255 g_0_0 36 #[.slice Ax0 x.Library.length cx0, .slice Ax1 x.Vats.length cx1, .slice Ax2 x.Channels.length cx2, .slice Ax3 x.Notes.length cx3, .int .i64 (x.Strays)] := H257.blk 5 rfl
          refine ⟨fun _ => hS258, ?_⟩
          refine anyS_one (i := 9) (by kernel_rfl) ?_
          have H261 : St w No [hR ki_Note 110 (.slice A_1_6 0 0) ([]), hR ki_Channel 196 (.slice B_1_5 x.Channels.length c_1_5) x.Channels, hB g_1_13 36 #[.slice none 0 0, .slice none 0 0, .slice none 0 0, .slice none 0 0, .int .i64 (0)], hR ki_Script 133 (.slice B_1_2 x.Library.length c_1_2) x.Library, hB g_0_1 36 #[.slice none 0 0, .slice none 0 0, .slice none 0 0, .slice none 0 0, .int .i64 (0)], hB g_0_0 36 #[.slice Ax0 x.Library.length cx0, .slice Ax1 x.Vats.length cx1, .slice Ax2 x.Channels.length cx2, .slice Ax3 x.Notes.length cx3, .int .i64 (x.Strays)]] W255 := H257.pick [3, 0, 1, 2, 4, 5] (by decide) rfl
          clear H257
          refine op_appendN' (xs := []) (ys := x.Notes) (n' := x.Notes.length) (zs := x.Notes) rfl Tryz.underlying34 ki_Note_info rfl (by decide) (by decide) flat_Note rfl rfl (C_upd H261.1 hCx3) (by simp; omega) (by simp) (List.nil_append _) rfl rfl H261 ?_
          intro B_1_9 c_1_9 W259 Ha260
          clear H261
          have H262 : St w No [hR ki_Note 110 (.slice B_1_9 x.Notes.length c_1_9) x.Notes, hR ki_Channel 196 (.slice B_1_5 x.Channels.length c_1_5) x.Channels, hB g_1_13 36 #[.slice none 0 0, .slice none 0 0, .slice none 0 0, .slice none 0 0, .int .i64 (0)], hR ki_Script 133 (.slice B_1_2 x.Library.length c_1_2) x.Library, hB g_0_1 36 #[.slice none 0 0, .slice none 0 0, .slice none 0 0, .slice none 0 0, .int .i64 (0)], hB g_0_0 36 #[.slice Ax0 x.Library.length cx0, .slice Ax1 x.Vats.length cx1, .slice Ax2 x.Channels.length cx2, .slice Ax3 x.Notes.length cx3, .int .i64 (x.Strays)]] W259 := Ha260
          clear Ha260
          have hS263 : Blk W259 g_0_0 36 #[.slice Ax0 x.Library.length cx0, .slice Ax1 x.Vats.length cx1, .slice Ax2 x.Channels.length cx2, .slice Ax3 x.Notes.length cx3, .int .i64 (x.Strays)] := H262.blk 5 rfl
          refine ⟨fun _ => hS263, ?_⟩
          refine anyS_take (i := 12) rfl (by kernel_rfl) (by kernel_rfl) (by kernel_rfl) (by kernel_rfl) (by kernel_rfl) (fun _ _ _ h => h) rfl rfl hS263 (fun W' hs' => rn_build (vs := [(0, .slice B_1_2 x.Library.length c_1_2), (2, .slice B_1_5 x.Channels.length c_1_5), (3, .slice B_1_9 x.Notes.length c_1_9), (4, .int .i64 (x.Strays))]) (cells := #[.slice B_1_2 x.Library.length c_1_2, .slice none 0 0, .slice B_1_5 x.Channels.length c_1_5, .slice B_1_9 x.Notes.length c_1_9, .int .i64 (x.Strays)]) rfl (by kernel_rfl)) ?_
          refine anyS_one (i := 14) (by kernel_rfl) ?_
          have H267 : St w No [hB g_1_13 36 #[.slice none 0 0, .slice none 0 0, .slice none 0 0, .slice none 0 0, .int .i64 (0)], hR ki_Note 110 (.slice B_1_9 x.Notes.length c_1_9) x.Notes, hR ki_Channel 196 (.slice B_1_5 x.Channels.length c_1_5) x.Channels, hR ki_Script 133 (.slice B_1_2 x.Library.length c_1_2) x.Library, hB g_0_1 36 #[.slice none 0 0, .slice none 0 0, .slice none 0 0, .slice none 0 0, .int .i64 (0)], hB g_0_0 36 #[.slice Ax0 x.Library.length cx0, .slice Ax1 x.Vats.length cx1, .slice Ax2 x.Channels.length cx2, .slice Ax3 x.Notes.length cx3, .int .i64 (x.Strays)]] W259 := H262.pick [2, 0, 1, 3, 4, 5] (by decide) rfl
          clear H262
          refine op_storeW rfl Tryz.sizeOf36 rfl rfl rfl rfl (by simp [Value.oneCell']) H267 ?_
          intro W264 hu265 Ha266
          clear H267
          have H268 : St w No [hB g_1_13 36 #[.slice B_1_2 x.Library.length c_1_2, .slice none 0 0, .slice B_1_5 x.Channels.length c_1_5, .slice B_1_9 x.Notes.length c_1_9, .int .i64 (x.Strays)], hR ki_Note 110 (.slice B_1_9 x.Notes.length c_1_9) x.Notes, hR ki_Channel 196 (.slice B_1_5 x.Channels.length c_1_5) x.Channels, hR ki_Script 133 (.slice B_1_2 x.Library.length c_1_2) x.Library, hB g_0_1 36 #[.slice none 0 0, .slice none 0 0, .slice none 0 0, .slice none 0 0, .int .i64 (0)], hB g_0_0 36 #[.slice Ax0 x.Library.length cx0, .slice Ax1 x.Vats.length cx1, .slice Ax2 x.Channels.length cx2, .slice Ax3 x.Notes.length cx3, .int .i64 (x.Strays)]] W264 := Ha266
          clear Ha266
          clear hu265
          have hS269 : Blk W264 g_0_0 36 #[.slice Ax0 x.Library.length cx0, .slice Ax1 x.Vats.length cx1, .slice Ax2 x.Channels.length cx2, .slice Ax3 x.Notes.length cx3, .int .i64 (x.Strays)] := H268.blk 5 rfl
          refine ⟨fun _ => hS269, ?_⟩
          refine anyS_done (by kernel_rfl) ?_ _
          exact (actOf_drop2 [(1, .pointer (some ⟨g_0_0, 0, none⟩)), (2, .pointer (some ⟨g_0_1, 0, none⟩)), (3, .pointer (some ⟨g_1_13, 0, none⟩))] rfl).elim fun x' hx => ⟨B_1_2, c_1_2, B_1_5, c_1_5, B_1_9, c_1_9, g_1_13, x', hx, H268⟩
      · refine op_alloc rfl Tryz.zeroValue36 rfl rfl H200 ?_
        intro g_1_13 W270 hu271 Ha272
        clear H200
        have H273 : St w No [hB g_1_13 36 #[.slice none 0 0, .slice none 0 0, .slice none 0 0, .slice none 0 0, .int .i64 (0)], hR ki_Note 110 (.slice A_1_6 0 0) ([]), hB g_0_1 36 #[.slice none 0 0, .slice none 0 0, .slice none 0 0, .slice none 0 0, .int .i64 (0)], hB g_0_0 36 #[.slice Ax0 x.Library.length cx0, .slice Ax1 x.Vats.length cx1, .slice Ax2 x.Channels.length cx2, .slice Ax3 x.Notes.length cx3, .int .i64 (x.Strays)]] W270 := Ha272
        clear Ha272
        clear hu271
        have hS274 : Blk W270 g_0_0 36 #[.slice Ax0 x.Library.length cx0, .slice Ax1 x.Vats.length cx1, .slice Ax2 x.Channels.length cx2, .slice Ax3 x.Notes.length cx3, .int .i64 (x.Strays)] := H273.blk 3 rfl
        refine ⟨fun _ => hS274, ?_⟩
        refine anyS_one (i := 2) (by kernel_rfl) ?_
        refine op_call rfl Tryz.call75 (vs := #[.slice Ax0 x.Library.length cx0]) rfl rfl rfl (l6CopyAll_s x.Library _ _ _ (C_upd H273.1 hCx0) s_Library) ?_
        rintro e279 W278 ⟨v275, rfl, hR276, hu277⟩
        refine ⟨_, rfl, ?_⟩
        obtain ⟨B_1_2, c_1_2, rfl⟩ := R_slice hR276
        have H280 : St w No [hR ki_Script 133 (.slice B_1_2 x.Library.length c_1_2) x.Library, hB g_1_13 36 #[.slice none 0 0, .slice none 0 0, .slice none 0 0, .slice none 0 0, .int .i64 (0)], hR ki_Note 110 (.slice A_1_6 0 0) ([]), hB g_0_1 36 #[.slice none 0 0, .slice none 0 0, .slice none 0 0, .slice none 0 0, .int .i64 (0)], hB g_0_0 36 #[.slice Ax0 x.Library.length cx0, .slice Ax1 x.Vats.length cx1, .slice Ax2 x.Channels.length cx2, .slice Ax3 x.Notes.length cx3, .int .i64 (x.Strays)]] W278 := H273.new hu277 hR276
        clear H273
        have hS281 : Blk W278 g_0_0 36 #[.slice Ax0 x.Library.length cx0, .slice Ax1 x.Vats.length cx1, .slice Ax2 x.Channels.length cx2, .slice Ax3 x.Notes.length cx3, .int .i64 (x.Strays)] := H280.blk 4 rfl
        refine ⟨fun _ => hS281, ?_⟩
        refine anyS_one (i := 5) (by kernel_rfl) ?_
        refine op_call rfl Tryz.call134 (vs := #[.slice Ax2 x.Channels.length cx2]) rfl rfl rfl (l20Copy_s x.Channels _ _ _ (C_upd H280.1 hCx2) s_Channels) ?_
        rintro e286 W285 ⟨v282, rfl, hR283, hu284⟩
        refine ⟨_, rfl, ?_⟩
        obtain ⟨B_1_5, c_1_5, rfl⟩ := R_slice hR283
        have H287 : St w No [hR ki_Channel 196 (.slice B_1_5 x.Channels.length c_1_5) x.Channels, hR ki_Script 133 (.slice B_1_2 x.Library.length c_1_2) x.Library, hB g_1_13 36 #[.slice none 0 0, .slice none 0 0, .slice none 0 0, .slice none 0 0, .int .i64 (0)], hR ki_Note 110 (.slice A_1_6 0 0) ([]), hB g_0_1 36 #[.slice none 0 0, .slice none 0 0, .slice none 0 0, .slice none 0 0, .int .i64 (0)], hB g_0_0 36 #[.slice Ax0 x.Library.length cx0, .slice Ax1 x.Vats.length cx1, .slice Ax2 x.Channels.length cx2, .slice Ax3 x.Notes.length cx3, .int .i64 (x.Strays)]] W285 := H280.new hu284 hR283
        clear H280
        have hS288 : Blk W285 g_0_0 36 #[.slice Ax0 x.Library.length cx0, .slice Ax1 x.Vats.length cx1, .slice Ax2 x.Channels.length cx2, .slice Ax3 x.Notes.length cx3, .int .i64 (x.Strays)] := H287.blk 5 rfl
        refine ⟨fun _ => hS288, ?_⟩
        refine anyS_one (i := 9) (by kernel_rfl) ?_
        have H291 : St w No [hR ki_Note 110 (.slice A_1_6 0 0) ([]), hR ki_Channel 196 (.slice B_1_5 x.Channels.length c_1_5) x.Channels, hR ki_Script 133 (.slice B_1_2 x.Library.length c_1_2) x.Library, hB g_1_13 36 #[.slice none 0 0, .slice none 0 0, .slice none 0 0, .slice none 0 0, .int .i64 (0)], hB g_0_1 36 #[.slice none 0 0, .slice none 0 0, .slice none 0 0, .slice none 0 0, .int .i64 (0)], hB g_0_0 36 #[.slice Ax0 x.Library.length cx0, .slice Ax1 x.Vats.length cx1, .slice Ax2 x.Channels.length cx2, .slice Ax3 x.Notes.length cx3, .int .i64 (x.Strays)]] W285 := H287.pick [3, 0, 1, 2, 4, 5] (by decide) rfl
        clear H287
        refine op_appendN' (xs := []) (ys := x.Notes) (n' := x.Notes.length) (zs := x.Notes) rfl Tryz.underlying34 ki_Note_info rfl (by decide) (by decide) flat_Note rfl rfl (C_upd H291.1 hCx3) (by simp; omega) (by simp) (List.nil_append _) rfl rfl H291 ?_
        intro B_1_9 c_1_9 W289 Ha290
        clear H291
        have H292 : St w No [hR ki_Note 110 (.slice B_1_9 x.Notes.length c_1_9) x.Notes, hR ki_Channel 196 (.slice B_1_5 x.Channels.length c_1_5) x.Channels, hR ki_Script 133 (.slice B_1_2 x.Library.length c_1_2) x.Library, hB g_1_13 36 #[.slice none 0 0, .slice none 0 0, .slice none 0 0, .slice none 0 0, .int .i64 (0)], hB g_0_1 36 #[.slice none 0 0, .slice none 0 0, .slice none 0 0, .slice none 0 0, .int .i64 (0)], hB g_0_0 36 #[.slice Ax0 x.Library.length cx0, .slice Ax1 x.Vats.length cx1, .slice Ax2 x.Channels.length cx2, .slice Ax3 x.Notes.length cx3, .int .i64 (x.Strays)]] W289 := Ha290
        clear Ha290
        have hS293 : Blk W289 g_0_0 36 #[.slice Ax0 x.Library.length cx0, .slice Ax1 x.Vats.length cx1, .slice Ax2 x.Channels.length cx2, .slice Ax3 x.Notes.length cx3, .int .i64 (x.Strays)] := H292.blk 5 rfl
        refine ⟨fun _ => hS293, ?_⟩
        refine anyS_take (i := 12) rfl (by kernel_rfl) (by kernel_rfl) (by kernel_rfl) (by kernel_rfl) (by kernel_rfl) (fun _ _ _ h => h) rfl rfl hS293 (fun W' hs' => rn_build (vs := [(0, .slice B_1_2 x.Library.length c_1_2), (2, .slice B_1_5 x.Channels.length c_1_5), (3, .slice B_1_9 x.Notes.length c_1_9), (4, .int .i64 (x.Strays))]) (cells := #[.slice B_1_2 x.Library.length c_1_2, .slice none 0 0, .slice B_1_5 x.Channels.length c_1_5, .slice B_1_9 x.Notes.length c_1_9, .int .i64 (x.Strays)]) rfl (by kernel_rfl)) ?_
        refine anyS_one (i := 14) (by kernel_rfl) ?_
        have H297 : St w No [hB g_1_13 36 #[.slice none 0 0, .slice none 0 0, .slice none 0 0, .slice none 0 0, .int .i64 (0)], hR ki_Note 110 (.slice B_1_9 x.Notes.length c_1_9) x.Notes, hR ki_Channel 196 (.slice B_1_5 x.Channels.length c_1_5) x.Channels, hR ki_Script 133 (.slice B_1_2 x.Library.length c_1_2) x.Library, hB g_0_1 36 #[.slice none 0 0, .slice none 0 0, .slice none 0 0, .slice none 0 0, .int .i64 (0)], hB g_0_0 36 #[.slice Ax0 x.Library.length cx0, .slice Ax1 x.Vats.length cx1, .slice Ax2 x.Channels.length cx2, .slice Ax3 x.Notes.length cx3, .int .i64 (x.Strays)]] W289 := H292.pick [3, 0, 1, 2, 4, 5] (by decide) rfl
        clear H292
        refine op_storeW rfl Tryz.sizeOf36 rfl rfl rfl rfl (by simp [Value.oneCell']) H297 ?_
        intro W294 hu295 Ha296
        clear H297
        have H298 : St w No [hB g_1_13 36 #[.slice B_1_2 x.Library.length c_1_2, .slice none 0 0, .slice B_1_5 x.Channels.length c_1_5, .slice B_1_9 x.Notes.length c_1_9, .int .i64 (x.Strays)], hR ki_Note 110 (.slice B_1_9 x.Notes.length c_1_9) x.Notes, hR ki_Channel 196 (.slice B_1_5 x.Channels.length c_1_5) x.Channels, hR ki_Script 133 (.slice B_1_2 x.Library.length c_1_2) x.Library, hB g_0_1 36 #[.slice none 0 0, .slice none 0 0, .slice none 0 0, .slice none 0 0, .int .i64 (0)], hB g_0_0 36 #[.slice Ax0 x.Library.length cx0, .slice Ax1 x.Vats.length cx1, .slice Ax2 x.Channels.length cx2, .slice Ax3 x.Notes.length cx3, .int .i64 (x.Strays)]] W294 := Ha296
        clear Ha296
        clear hu295
        have hS299 : Blk W294 g_0_0 36 #[.slice Ax0 x.Library.length cx0, .slice Ax1 x.Vats.length cx1, .slice Ax2 x.Channels.length cx2, .slice Ax3 x.Notes.length cx3, .int .i64 (x.Strays)] := H298.blk 5 rfl
        refine ⟨fun _ => hS299, ?_⟩
        refine anyS_done (by kernel_rfl) ?_ _
        exact (actOf_drop2 [(1, .pointer (some ⟨g_0_0, 0, none⟩)), (2, .pointer (some ⟨g_0_1, 0, none⟩)), (3, .pointer (some ⟨g_1_13, 0, none⟩))] rfl).elim fun x' hx => ⟨B_1_2, c_1_2, B_1_5, c_1_5, B_1_9, c_1_9, g_1_13, x', hx, H298⟩
    · refine op_alloc rfl Tryz.zeroValue36 rfl rfl H10 ?_
      intro g_1_13 W300 hu301 Ha302
      clear H10
      have H303 : St w No [hB g_1_13 36 #[.slice none 0 0, .slice none 0 0, .slice none 0 0, .slice none 0 0, .int .i64 (0)], hB g_0_1 36 #[.slice none 0 0, .slice none 0 0, .slice none 0 0, .slice none 0 0, .int .i64 (0)], hB g_0_0 36 #[.slice Ax0 x.Library.length cx0, .slice Ax1 x.Vats.length cx1, .slice Ax2 x.Channels.length cx2, .slice Ax3 x.Notes.length cx3, .int .i64 (x.Strays)]] W300 := Ha302
      clear Ha302
      clear hu301
      have hS304 : Blk W300 g_0_0 36 #[.slice Ax0 x.Library.length cx0, .slice Ax1 x.Vats.length cx1, .slice Ax2 x.Channels.length cx2, .slice Ax3 x.Notes.length cx3, .int .i64 (x.Strays)] := H303.blk 2 rfl
      refine ⟨fun _ => hS304, ?_⟩
      refine anyS_two (i := 2) (i2 := 6) (by kernel_rfl) ?_ ?_
      · refine op_call rfl Tryz.call75 (vs := #[.slice Ax0 x.Library.length cx0]) rfl rfl rfl (l6CopyAll_s x.Library _ _ _ (C_upd H303.1 hCx0) s_Library) ?_
        rintro e309 W308 ⟨v305, rfl, hR306, hu307⟩
        refine ⟨_, rfl, ?_⟩
        obtain ⟨B_1_2, c_1_2, rfl⟩ := R_slice hR306
        have H310 : St w No [hR ki_Script 133 (.slice B_1_2 x.Library.length c_1_2) x.Library, hB g_1_13 36 #[.slice none 0 0, .slice none 0 0, .slice none 0 0, .slice none 0 0, .int .i64 (0)], hB g_0_1 36 #[.slice none 0 0, .slice none 0 0, .slice none 0 0, .slice none 0 0, .int .i64 (0)], hB g_0_0 36 #[.slice Ax0 x.Library.length cx0, .slice Ax1 x.Vats.length cx1, .slice Ax2 x.Channels.length cx2, .slice Ax3 x.Notes.length cx3, .int .i64 (x.Strays)]] W308 := H303.new hu307 hR306
        clear H303
        have hS311 : Blk W308 g_0_0 36 #[.slice Ax0 x.Library.length cx0, .slice Ax1 x.Vats.length cx1, .slice Ax2 x.Channels.length cx2, .slice Ax3 x.Notes.length cx3, .int .i64 (x.Strays)] := H310.blk 3 rfl
        refine ⟨fun _ => hS311, ?_⟩
        refine anyS_two (i := 5) (i2 := 6) (by kernel_rfl) ?_ ?_
        · refine op_call rfl Tryz.call134 (vs := #[.slice Ax2 x.Channels.length cx2]) rfl rfl rfl (l20Copy_s x.Channels _ _ _ (C_upd H310.1 hCx2) s_Channels) ?_
          rintro e316 W315 ⟨v312, rfl, hR313, hu314⟩
          refine ⟨_, rfl, ?_⟩
          obtain ⟨B_1_5, c_1_5, rfl⟩ := R_slice hR313
          have H317 : St w No [hR ki_Channel 196 (.slice B_1_5 x.Channels.length c_1_5) x.Channels, hR ki_Script 133 (.slice B_1_2 x.Library.length c_1_2) x.Library, hB g_1_13 36 #[.slice none 0 0, .slice none 0 0, .slice none 0 0, .slice none 0 0, .int .i64 (0)], hB g_0_1 36 #[.slice none 0 0, .slice none 0 0, .slice none 0 0, .slice none 0 0, .int .i64 (0)], hB g_0_0 36 #[.slice Ax0 x.Library.length cx0, .slice Ax1 x.Vats.length cx1, .slice Ax2 x.Channels.length cx2, .slice Ax3 x.Notes.length cx3, .int .i64 (x.Strays)]] W315 := H310.new hu314 hR313
          clear H310
          have hS318 : Blk W315 g_0_0 36 #[.slice Ax0 x.Library.length cx0, .slice Ax1 x.Vats.length cx1, .slice Ax2 x.Channels.length cx2, .slice Ax3 x.Notes.length cx3, .int .i64 (x.Strays)] := H317.blk 4 rfl
          refine ⟨fun _ => hS318, ?_⟩
          refine anyS_one (i := 6) (by kernel_rfl) ?_
          refine op_slice0 (dk := ki_Note) rfl Tryz.runUnderlying34 Tryz.sizeOf110 rfl rfl H317 ?_
          intro A_1_6 W319 hu320 Ha321
          clear H317
          have H322 : St w No [hR ki_Note 110 (.slice A_1_6 0 0) ([]), hR ki_Channel 196 (.slice B_1_5 x.Channels.length c_1_5) x.Channels, hR ki_Script 133 (.slice B_1_2 x.Library.length c_1_2) x.Library, hB g_1_13 36 #[.slice none 0 0, .slice none 0 0, .slice none 0 0, .slice none 0 0, .int .i64 (0)], hB g_0_1 36 #[.slice none 0 0, .slice none 0 0, .slice none 0 0, .slice none 0 0, .int .i64 (0)], hB g_0_0 36 #[.slice Ax0 x.Library.length cx0, .slice Ax1 x.Vats.length cx1, .slice Ax2 x.Channels.length cx2, .slice Ax3 x.Notes.length cx3, .int .i64 (x.Strays)]] W319 := Ha321
          clear Ha321
          clear hu320
          have hS323 : Blk W319 g_0_0 36 #[.slice Ax0 x.Library.length cx0, .slice Ax1 x.Vats.length cx1, .slice Ax2 x.Channels.length cx2, .slice Ax3 x.Notes.length cx3, .int .i64 (x.Strays)] := H322.blk 5 rfl
          refine ⟨fun _ => hS323, ?_⟩
          refine anyS_one (i := 9) (by kernel_rfl) ?_
          refine op_appendN' (xs := []) (ys := x.Notes) (n' := x.Notes.length) (zs := x.Notes) rfl Tryz.underlying34 ki_Note_info rfl (by decide) (by decide) flat_Note rfl rfl (C_upd H322.1 hCx3) (by simp; omega) (by simp) (List.nil_append _) rfl rfl H322 ?_
          intro B_1_9 c_1_9 W324 Ha325
          clear H322
          have H326 : St w No [hR ki_Note 110 (.slice B_1_9 x.Notes.length c_1_9) x.Notes, hR ki_Channel 196 (.slice B_1_5 x.Channels.length c_1_5) x.Channels, hR ki_Script 133 (.slice B_1_2 x.Library.length c_1_2) x.Library, hB g_1_13 36 #[.slice none 0 0, .slice none 0 0, .slice none 0 0, .slice none 0 0, .int .i64 (0)], hB g_0_1 36 #[.slice none 0 0, .slice none 0 0, .slice none 0 0, .slice none 0 0, .int .i64 (0)], hB g_0_0 36 #[.slice Ax0 x.Library.length cx0, .slice Ax1 x.Vats.length cx1, .slice Ax2 x.Channels.length cx2, .slice Ax3 x.Notes.length cx3, .int .i64 (x.Strays)]] W324 := Ha325
          clear Ha325
          have hS327 : Blk W324 g_0_0 36 #[.slice Ax0 x.Library.length cx0, .slice Ax1 x.Vats.length cx1, .slice Ax2 x.Channels.length cx2, .slice Ax3 x.Notes.length cx3, .int .i64 (x.Strays)] := H326.blk 5 rfl
          refine ⟨fun _ => hS327, ?_⟩
          refine anyS_take (i := 12) rfl (by kernel_rfl) (by kernel_rfl) (by kernel_rfl) (by kernel_rfl) (by kernel_rfl) (fun _ _ _ h => h) rfl rfl hS327 (fun W' hs' => rn_build (vs := [(0, .slice B_1_2 x.Library.length c_1_2), (2, .slice B_1_5 x.Channels.length c_1_5), (3, .slice B_1_9 x.Notes.length c_1_9), (4, .int .i64 (x.Strays))]) (cells := #[.slice B_1_2 x.Library.length c_1_2, .slice none 0 0, .slice B_1_5 x.Channels.length c_1_5, .slice B_1_9 x.Notes.length c_1_9, .int .i64 (x.Strays)]) rfl (by kernel_rfl)) ?_
          refine anyS_one (i := 14) (by kernel_rfl) ?_
          have H331 : St w No [hB g_1_13 36 #[.slice none 0 0, .slice none 0 0, .slice none 0 0, .slice none 0 0, .int .i64 (0)], hR ki_Note 110 (.slice B_1_9 x.Notes.length c_1_9) x.Notes, hR ki_Channel 196 (.slice B_1_5 x.Channels.length c_1_5) x.Channels, hR ki_Script 133 (.slice B_1_2 x.Library.length c_1_2) x.Library, hB g_0_1 36 #[.slice none 0 0, .slice none 0 0, .slice none 0 0, .slice none 0 0, .int .i64 (0)], hB g_0_0 36 #[.slice Ax0 x.Library.length cx0, .slice Ax1 x.Vats.length cx1, .slice Ax2 x.Channels.length cx2, .slice Ax3 x.Notes.length cx3, .int .i64 (x.Strays)]] W324 := H326.pick [3, 0, 1, 2, 4, 5] (by decide) rfl
          clear H326
          refine op_storeW rfl Tryz.sizeOf36 rfl rfl rfl rfl (by simp [Value.oneCell']) H331 ?_
          intro W328 hu329 Ha330
          clear H331
          have H332 : St w No [hB g_1_13 36 #[.slice B_1_2 x.Library.length c_1_2, .slice none 0 0, .slice B_1_5 x.Channels.length c_1_5, .slice B_1_9 x.Notes.length c_1_9, .int .i64 (x.Strays)], hR ki_Note 110 (.slice B_1_9 x.Notes.length c_1_9) x.Notes, hR ki_Channel 196 (.slice B_1_5 x.Channels.length c_1_5) x.Channels, hR ki_Script 133 (.slice B_1_2 x.Library.length c_1_2) x.Library, hB g_0_1 36 #[.slice none 0 0, .slice none 0 0, .slice none 0 0, .slice none 0 0, .int .i64 (0)], hB g_0_0 36 #[.slice Ax0 x.Library.length cx0, .slice Ax1 x.Vats.length cx1, .slice Ax2 x.Channels.length cx2, .slice Ax3 x.Notes.length cx3, .int .i64 (x.Strays)]] W328 := Ha330
          clear Ha330
          clear hu329
          have hS333 : Blk W328 g_0_0 36 #[.slice Ax0 x.Library.length cx0, .slice Ax1 x.Vats.length cx1, .slice Ax2 x.Channels.length cx2, .slice Ax3 x.Notes.length cx3, .int .i64 (x.Strays)] := H332.blk 5 rfl
          refine ⟨fun _ => hS333, ?_⟩
          refine anyS_done (by kernel_rfl) ?_ _
          exact (actOf_drop2 [(1, .pointer (some ⟨g_0_0, 0, none⟩)), (2, .pointer (some ⟨g_0_1, 0, none⟩)), (3, .pointer (some ⟨g_1_13, 0, none⟩))] rfl).elim fun x' hx => ⟨B_1_2, c_1_2, B_1_5, c_1_5, B_1_9, c_1_9, g_1_13, x', hx, H332⟩
        · refine op_slice0 (dk := ki_Note) rfl Tryz.runUnderlying34 Tryz.sizeOf110 rfl rfl H310 ?_
          intro A_1_6 W334 hu335 Ha336
          clear H310
          have H337 : St w No [hR ki_Note 110 (.slice A_1_6 0 0) ([]), hR ki_Script 133 (.slice B_1_2 x.Library.length c_1_2) x.Library, hB g_1_13 36 #[.slice none 0 0, .slice none 0 0, .slice none 0 0, .slice none 0 0, .int .i64 (0)], hB g_0_1 36 #[.slice none 0 0, .slice none 0 0, .slice none 0 0, .slice none 0 0, .int .i64 (0)], hB g_0_0 36 #[.slice Ax0 x.Library.length cx0, .slice Ax1 x.Vats.length cx1, .slice Ax2 x.Channels.length cx2, .slice Ax3 x.Notes.length cx3, .int .i64 (x.Strays)]] W334 := Ha336
          clear Ha336
          clear hu335
          have hS338 : Blk W334 g_0_0 36 #[.slice Ax0 x.Library.length cx0, .slice Ax1 x.Vats.length cx1, .slice Ax2 x.Channels.length cx2, .slice Ax3 x.Notes.length cx3, .int .i64 (x.Strays)] := H337.blk 4 rfl
          refine ⟨fun _ => hS338, ?_⟩
          refine anyS_one (i := 5) (by kernel_rfl) ?_
          refine op_call rfl Tryz.call134 (vs := #[.slice Ax2 x.Channels.length cx2]) rfl rfl rfl (l20Copy_s x.Channels _ _ _ (C_upd H337.1 hCx2) s_Channels) ?_
          rintro e343 W342 ⟨v339, rfl, hR340, hu341⟩
          refine ⟨_, rfl, ?_⟩
          obtain ⟨B_1_5, c_1_5, rfl⟩ := R_slice hR340
          have H344 : St w No [hR ki_Channel 196 (.slice B_1_5 x.Channels.length c_1_5) x.Channels, hR ki_Note 110 (.slice A_1_6 0 0) ([]), hR ki_Script 133 (.slice B_1_2 x.Library.length c_1_2) x.Library, hB g_1_13 36 #[.slice none 0 0, .slice none 0 0, .slice none 0 0, .slice none 0 0, .int .i64 (0)], hB g_0_1 36 #[.slice none 0 0, .slice none 0 0, .slice none 0 0, .slice none 0 0, .int .i64 (0)], hB g_0_0 36 #[.slice Ax0 x.Library.length cx0, .slice Ax1 x.Vats.length cx1, .slice Ax2 x.Channels.length cx2, .slice Ax3 x.Notes.length cx3, .int .i64 (x.Strays)]] W342 := H337.new hu341 hR340
          clear H337
          have hS345 : Blk W342 g_0_0 36 #[.slice Ax0 x.Library.length cx0, .slice Ax1 x.Vats.length cx1, .slice Ax2 x.Channels.length cx2, .slice Ax3 x.Notes.length cx3, .int .i64 (x.Strays)] := H344.blk 5 rfl
          refine ⟨fun _ => hS345, ?_⟩
          refine anyS_one (i := 9) (by kernel_rfl) ?_
          have H348 : St w No [hR ki_Note 110 (.slice A_1_6 0 0) ([]), hR ki_Channel 196 (.slice B_1_5 x.Channels.length c_1_5) x.Channels, hR ki_Script 133 (.slice B_1_2 x.Library.length c_1_2) x.Library, hB g_1_13 36 #[.slice none 0 0, .slice none 0 0, .slice none 0 0, .slice none 0 0, .int .i64 (0)], hB g_0_1 36 #[.slice none 0 0, .slice none 0 0, .slice none 0 0, .slice none 0 0, .int .i64 (0)], hB g_0_0 36 #[.slice Ax0 x.Library.length cx0, .slice Ax1 x.Vats.length cx1, .slice Ax2 x.Channels.length cx2, .slice Ax3 x.Notes.length cx3, .int .i64 (x.Strays)]] W342 := H344.pick [1, 0, 2, 3, 4, 5] (by decide) rfl
          clear H344
          refine op_appendN' (xs := []) (ys := x.Notes) (n' := x.Notes.length) (zs := x.Notes) rfl Tryz.underlying34 ki_Note_info rfl (by decide) (by decide) flat_Note rfl rfl (C_upd H348.1 hCx3) (by simp; omega) (by simp) (List.nil_append _) rfl rfl H348 ?_
          intro B_1_9 c_1_9 W346 Ha347
          clear H348
          have H349 : St w No [hR ki_Note 110 (.slice B_1_9 x.Notes.length c_1_9) x.Notes, hR ki_Channel 196 (.slice B_1_5 x.Channels.length c_1_5) x.Channels, hR ki_Script 133 (.slice B_1_2 x.Library.length c_1_2) x.Library, hB g_1_13 36 #[.slice none 0 0, .slice none 0 0, .slice none 0 0, .slice none 0 0, .int .i64 (0)], hB g_0_1 36 #[.slice none 0 0, .slice none 0 0, .slice none 0 0, .slice none 0 0, .int .i64 (0)], hB g_0_0 36 #[.slice Ax0 x.Library.length cx0, .slice Ax1 x.Vats.length cx1, .slice Ax2 x.Channels.length cx2, .slice Ax3 x.Notes.length cx3, .int .i64 (x.Strays)]] W346 := Ha347
          clear Ha347
          have hS350 : Blk W346 g_0_0 36 #[.slice Ax0 x.Library.length cx0, .slice Ax1 x.Vats.length cx1, .slice Ax2 x.Channels.length cx2, .slice Ax3 x.Notes.length cx3, .int .i64 (x.Strays)] := H349.blk 5 rfl
          refine ⟨fun _ => hS350, ?_⟩
          refine anyS_take (i := 12) rfl (by kernel_rfl) (by kernel_rfl) (by kernel_rfl) (by kernel_rfl) (by kernel_rfl) (fun _ _ _ h => h) rfl rfl hS350 (fun W' hs' => rn_build (vs := [(0, .slice B_1_2 x.Library.length c_1_2), (2, .slice B_1_5 x.Channels.length c_1_5), (3, .slice B_1_9 x.Notes.length c_1_9), (4, .int .i64 (x.Strays))]) (cells := #[.slice B_1_2 x.Library.length c_1_2, .slice none 0 0, .slice B_1_5 x.Channels.length c_1_5, .slice B_1_9 x.Notes.length c_1_9, .int .i64 (x.Strays)]) rfl (by kernel_rfl)) ?_
          refine anyS_one (i := 14) (by kernel_rfl) ?_
          have H354 : St w No [hB g_1_13 36 #[.slice none 0 0, .slice none 0 0, .slice none 0 0, .slice none 0 0, .int .i64 (0)], hR ki_Note 110 (.slice B_1_9 x.Notes.length c_1_9) x.Notes, hR ki_Channel 196 (.slice B_1_5 x.Channels.length c_1_5) x.Channels, hR ki_Script 133 (.slice B_1_2 x.Library.length c_1_2) x.Library, hB g_0_1 36 #[.slice none 0 0, .slice none 0 0, .slice none 0 0, .slice none 0 0, .int .i64 (0)], hB g_0_0 36 #[.slice Ax0 x.Library.length cx0, .slice Ax1 x.Vats.length cx1, .slice Ax2 x.Channels.length cx2, .slice Ax3 x.Notes.length cx3, .int .i64 (x.Strays)]] W346 := H349.pick [3, 0, 1, 2, 4, 5] (by decide) rfl
          clear H349
          refine op_storeW rfl Tryz.sizeOf36 rfl rfl rfl rfl (by simp [Value.oneCell']) H354 ?_
          intro W351 hu352 Ha353
          clear H354
          have H355 : St w No [hB g_1_13 36 #[.slice B_1_2 x.Library.length c_1_2, .slice none 0 0, .slice B_1_5 x.Channels.length c_1_5, .slice B_1_9 x.Notes.length c_1_9, .int .i64 (x.Strays)], hR ki_Note 110 (.slice B_1_9 x.Notes.length c_1_9) x.Notes, hR ki_Channel 196 (.slice B_1_5 x.Channels.length c_1_5) x.Channels, hR ki_Script 133 (.slice B_1_2 x.Library.length c_1_2) x.Library, hB g_0_1 36 #[.slice none 0 0, .slice none 0 0, .slice none 0 0, .slice none 0 0, .int .i64 (0)], hB g_0_0 36 #[.slice Ax0 x.Library.length cx0, .slice Ax1 x.Vats.length cx1, .slice Ax2 x.Channels.length cx2, .slice Ax3 x.Notes.length cx3, .int .i64 (x.Strays)]] W351 := Ha353
          clear Ha353
          clear hu352
          have hS356 : Blk W351 g_0_0 36 #[.slice Ax0 x.Library.length cx0, .slice Ax1 x.Vats.length cx1, .slice Ax2 x.Channels.length cx2, .slice Ax3 x.Notes.length cx3, .int .i64 (x.Strays)] := H355.blk 5 rfl
          refine ⟨fun _ => hS356, ?_⟩
          refine anyS_done (by kernel_rfl) ?_ _
          exact (actOf_drop2 [(1, .pointer (some ⟨g_0_0, 0, none⟩)), (2, .pointer (some ⟨g_0_1, 0, none⟩)), (3, .pointer (some ⟨g_1_13, 0, none⟩))] rfl).elim fun x' hx => ⟨B_1_2, c_1_2, B_1_5, c_1_5, B_1_9, c_1_9, g_1_13, x', hx, H355⟩
      · refine op_slice0 (dk := ki_Note) rfl Tryz.runUnderlying34 Tryz.sizeOf110 rfl rfl H303 ?_
        intro A_1_6 W357 hu358 Ha359
        clear H303
        have H360 : St w No [hR ki_Note 110 (.slice A_1_6 0 0) ([]), hB g_1_13 36 #[.slice none 0 0, .slice none 0 0, .slice none 0 0, .slice none 0 0, .int .i64 (0)], hB g_0_1 36 #[.slice none 0 0, .slice none 0 0, .slice none 0 0, .slice none 0 0, .int .i64 (0)], hB g_0_0 36 #[.slice Ax0 x.Library.length cx0, .slice Ax1 x.Vats.length cx1, .slice Ax2 x.Channels.length cx2, .slice Ax3 x.Notes.length cx3, .int .i64 (x.Strays)]] W357 := Ha359
        clear Ha359
        clear hu358
        have hS361 : Blk W357 g_0_0 36 #[.slice Ax0 x.Library.length cx0, .slice Ax1 x.Vats.length cx1, .slice Ax2 x.Channels.length cx2, .slice Ax3 x.Notes.length cx3, .int .i64 (x.Strays)] := H360.blk 3 rfl
        refine ⟨fun _ => hS361, ?_⟩
        refine anyS_one (i := 2) (by kernel_rfl) ?_
        refine op_call rfl Tryz.call75 (vs := #[.slice Ax0 x.Library.length cx0]) rfl rfl rfl (l6CopyAll_s x.Library _ _ _ (C_upd H360.1 hCx0) s_Library) ?_
        rintro e366 W365 ⟨v362, rfl, hR363, hu364⟩
        refine ⟨_, rfl, ?_⟩
        obtain ⟨B_1_2, c_1_2, rfl⟩ := R_slice hR363
        have H367 : St w No [hR ki_Script 133 (.slice B_1_2 x.Library.length c_1_2) x.Library, hR ki_Note 110 (.slice A_1_6 0 0) ([]), hB g_1_13 36 #[.slice none 0 0, .slice none 0 0, .slice none 0 0, .slice none 0 0, .int .i64 (0)], hB g_0_1 36 #[.slice none 0 0, .slice none 0 0, .slice none 0 0, .slice none 0 0, .int .i64 (0)], hB g_0_0 36 #[.slice Ax0 x.Library.length cx0, .slice Ax1 x.Vats.length cx1, .slice Ax2 x.Channels.length cx2, .slice Ax3 x.Notes.length cx3, .int .i64 (x.Strays)]] W365 := H360.new hu364 hR363
        clear H360
        have hS368 : Blk W365 g_0_0 36 #[.slice Ax0 x.Library.length cx0, .slice Ax1 x.Vats.length cx1, .slice Ax2 x.Channels.length cx2, .slice Ax3 x.Notes.length cx3, .int .i64 (x.Strays)] := H367.blk 4 rfl
        refine ⟨fun _ => hS368, ?_⟩
        refine anyS_one (i := 5) (by kernel_rfl) ?_
        refine op_call rfl Tryz.call134 (vs := #[.slice Ax2 x.Channels.length cx2]) rfl rfl rfl (l20Copy_s x.Channels _ _ _ (C_upd H367.1 hCx2) s_Channels) ?_
        rintro e373 W372 ⟨v369, rfl, hR370, hu371⟩
        refine ⟨_, rfl, ?_⟩
        obtain ⟨B_1_5, c_1_5, rfl⟩ := R_slice hR370
        have H374 : St w No [hR ki_Channel 196 (.slice B_1_5 x.Channels.length c_1_5) x.Channels, hR ki_Script 133 (.slice B_1_2 x.Library.length c_1_2) x.Library, hR ki_Note 110 (.slice A_1_6 0 0) ([]), hB g_1_13 36 #[.slice none 0 0, .slice none 0 0, .slice none 0 0, .slice none 0 0, .int .i64 (0)], hB g_0_1 36 #[.slice none 0 0, .slice none 0 0, .slice none 0 0, .slice none 0 0, .int .i64 (0)], hB g_0_0 36 #[.slice Ax0 x.Library.length cx0, .slice Ax1 x.Vats.length cx1, .slice Ax2 x.Channels.length cx2, .slice Ax3 x.Notes.length cx3, .int .i64 (x.Strays)]] W372 := H367.new hu371 hR370
        clear H367
        have hS375 : Blk W372 g_0_0 36 #[.slice Ax0 x.Library.length cx0, .slice Ax1 x.Vats.length cx1, .slice Ax2 x.Channels.length cx2, .slice Ax3 x.Notes.length cx3, .int .i64 (x.Strays)] := H374.blk 5 rfl
        refine ⟨fun _ => hS375, ?_⟩
        refine anyS_one (i := 9) (by kernel_rfl) ?_
        have H378 : St w No [hR ki_Note 110 (.slice A_1_6 0 0) ([]), hR ki_Channel 196 (.slice B_1_5 x.Channels.length c_1_5) x.Channels, hR ki_Script 133 (.slice B_1_2 x.Library.length c_1_2) x.Library, hB g_1_13 36 #[.slice none 0 0, .slice none 0 0, .slice none 0 0, .slice none 0 0, .int .i64 (0)], hB g_0_1 36 #[.slice none 0 0, .slice none 0 0, .slice none 0 0, .slice none 0 0, .int .i64 (0)], hB g_0_0 36 #[.slice Ax0 x.Library.length cx0, .slice Ax1 x.Vats.length cx1, .slice Ax2 x.Channels.length cx2, .slice Ax3 x.Notes.length cx3, .int .i64 (x.Strays)]] W372 := H374.pick [2, 0, 1, 3, 4, 5] (by decide) rfl
        clear H374
        refine op_appendN' (xs := []) (ys := x.Notes) (n' := x.Notes.length) (zs := x.Notes) rfl Tryz.underlying34 ki_Note_info rfl (by decide) (by decide) flat_Note rfl rfl (C_upd H378.1 hCx3) (by simp; omega) (by simp) (List.nil_append _) rfl rfl H378 ?_
        intro B_1_9 c_1_9 W376 Ha377
        clear H378
        have H379 : St w No [hR ki_Note 110 (.slice B_1_9 x.Notes.length c_1_9) x.Notes, hR ki_Channel 196 (.slice B_1_5 x.Channels.length c_1_5) x.Channels, hR ki_Script 133 (.slice B_1_2 x.Library.length c_1_2) x.Library, hB g_1_13 36 #[.slice none 0 0, .slice none 0 0, .slice none 0 0, .slice none 0 0, .int .i64 (0)], hB g_0_1 36 #[.slice none 0 0, .slice none 0 0, .slice none 0 0, .slice none 0 0, .int .i64 (0)], hB g_0_0 36 #[.slice Ax0 x.Library.length cx0, .slice Ax1 x.Vats.length cx1, .slice Ax2 x.Channels.length cx2, .slice Ax3 x.Notes.length cx3, .int .i64 (x.Strays)]] W376 := Ha377
        clear Ha377
        have hS380 : Blk W376 g_0_0 36 #[.slice Ax0 x.Library.length cx0, .slice Ax1 x.Vats.length cx1, .slice Ax2 x.Channels.length cx2, .slice Ax3 x.Notes.length cx3, .int .i64 (x.Strays)] := H379.blk 5 rfl
        refine ⟨fun _ => hS380, ?_⟩
        refine anyS_take (i := 12) rfl (by kernel_rfl) (by kernel_rfl) (by kernel_rfl) (by kernel_rfl) (by kernel_rfl) (fun _ _ _ h => h) rfl rfl hS380 (fun W' hs' => rn_build (vs := [(0, .slice B_1_2 x.Library.length c_1_2), (2, .slice B_1_5 x.Channels.length c_1_5), (3, .slice B_1_9 x.Notes.length c_1_9), (4, .int .i64 (x.Strays))]) (cells := #[.slice B_1_2 x.Library.length c_1_2, .slice none 0 0, .slice B_1_5 x.Channels.length c_1_5, .slice B_1_9 x.Notes.length c_1_9, .int .i64 (x.Strays)]) rfl (by kernel_rfl)) ?_
        refine anyS_one (i := 14) (by kernel_rfl) ?_
        have H384 : St w No [hB g_1_13 36 #[.slice none 0 0, .slice none 0 0, .slice none 0 0, .slice none 0 0, .int .i64 (0)], hR ki_Note 110 (.slice B_1_9 x.Notes.length c_1_9) x.Notes, hR ki_Channel 196 (.slice B_1_5 x.Channels.length c_1_5) x.Channels, hR ki_Script 133 (.slice B_1_2 x.Library.length c_1_2) x.Library, hB g_0_1 36 #[.slice none 0 0, .slice none 0 0, .slice none 0 0, .slice none 0 0, .int .i64 (0)], hB g_0_0 36 #[.slice Ax0 x.Library.length cx0, .slice Ax1 x.Vats.length cx1, .slice Ax2 x.Channels.length cx2, .slice Ax3 x.Notes.length cx3, .int .i64 (x.Strays)]] W376 := H379.pick [3, 0, 1, 2, 4, 5] (by decide) rfl
        clear H379
        refine op_storeW rfl Tryz.sizeOf36 rfl rfl rfl rfl (by simp [Value.oneCell']) H384 ?_
        intro W381 hu382 Ha383
        clear H384
        have H385 : St w No [hB g_1_13 36 #[.slice B_1_2 x.Library.length c_1_2, .slice none 0 0, .slice B_1_5 x.Channels.length c_1_5, .slice B_1_9 x.Notes.length c_1_9, .int .i64 (x.Strays)], hR ki_Note 110 (.slice B_1_9 x.Notes.length c_1_9) x.Notes, hR ki_Channel 196 (.slice B_1_5 x.Channels.length c_1_5) x.Channels, hR ki_Script 133 (.slice B_1_2 x.Library.length c_1_2) x.Library, hB g_0_1 36 #[.slice none 0 0, .slice none 0 0, .slice none 0 0, .slice none 0 0, .int .i64 (0)], hB g_0_0 36 #[.slice Ax0 x.Library.length cx0, .slice Ax1 x.Vats.length cx1, .slice Ax2 x.Channels.length cx2, .slice Ax3 x.Notes.length cx3, .int .i64 (x.Strays)]] W381 := Ha383
        clear Ha383
        clear hu382
        have hS386 : Blk W381 g_0_0 36 #[.slice Ax0 x.Library.length cx0, .slice Ax1 x.Vats.length cx1, .slice Ax2 x.Channels.length cx2, .slice Ax3 x.Notes.length cx3, .int .i64 (x.Strays)] := H385.blk 5 rfl
        refine ⟨fun _ => hS386, ?_⟩
        refine anyS_done (by kernel_rfl) ?_ _
        exact (actOf_drop2 [(1, .pointer (some ⟨g_0_0, 0, none⟩)), (2, .pointer (some ⟨g_0_1, 0, none⟩)), (3, .pointer (some ⟨g_1_13, 0, none⟩))] rfl).elim fun x' hx => ⟨B_1_2, c_1_2, B_1_5, c_1_5, B_1_9, c_1_9, g_1_13, x', hx, H385⟩
  · rintro _ W388 ⟨B_1_2, c_1_2, B_1_5, c_1_5, B_1_9, c_1_9, g_1_13, x389, rfl, H387⟩
    refine then_n ?_
    refine wp_seq ?_
    refine wp_seq ?_
    refine reg_seq [0] rfl ?_
    refine ops_cons ?_
    refine op_pure rfl (rn_assign rfl) rfl rfl ?_
    refine ops_nil ?_
    refine then_n ?_
    refine wp_block ?_
    have H390 : St w No [hR ki_Vat 68 (.slice none 0 0) ([]), hB g_1_13 36 #[.slice B_1_2 x.Library.length c_1_2, .slice none 0 0, .slice B_1_5 x.Channels.length c_1_5, .slice B_1_9 x.Notes.length c_1_9, .int .i64 (x.Strays)], hR ki_Note 110 (.slice B_1_9 x.Notes.length c_1_9) x.Notes, hR ki_Channel 196 (.slice B_1_5 x.Channels.length c_1_5) x.Channels, hR ki_Script 133 (.slice B_1_2 x.Library.length c_1_2) x.Library, hB g_0_1 36 #[.slice none 0 0, .slice none 0 0, .slice none 0 0, .slice none 0 0, .int .i64 (0)], hB g_0_0 36 #[.slice Ax0 x.Library.length cx0, .slice Ax1 x.Vats.length cx1, .slice Ax2 x.Channels.length cx2, .slice Ax3 x.Notes.length cx3, .int .i64 (x.Strays)]] W388 := H387.add0 (q := hR ki_Vat 68 (.slice none 0 0) []) R_nil
    clear H387
    refine wp_loop_ghost (fun r a' W' => ∃ (i1 : Nat) (A_1 : Option Addr) (c_1 : Nat) (x' : Nat → Value), a' = actOf 37 x' [(1, .pointer (some ⟨g_0_0, 0, none⟩)), (2, .pointer (some ⟨g_0_1, 0, none⟩)), (3, .pointer (some ⟨g_1_13, 0, none⟩)), (4, .int .i64 (((i1 : Nat) : Int)))] ∧ (i1 + r = x.Vats.length) ∧ St w No [hR ki_Vat 68 (.slice A_1 i1 c_1) (x.Vats.take i1), hB g_1_13 36 #[.slice B_1_2 x.Library.length c_1_2, .slice A_1 i1 c_1, .slice B_1_5 x.Channels.length c_1_5, .slice B_1_9 x.Notes.length c_1_9, .int .i64 (x.Strays)], hR ki_Note 110 (.slice B_1_9 x.Notes.length c_1_9) x.Notes, hR ki_Channel 196 (.slice B_1_5 x.Channels.length c_1_5) x.Channels, hR ki_Script 133 (.slice B_1_2 x.Library.length c_1_2) x.Library, hB g_0_1 36 #[.slice none 0 0, .slice none 0 0, .slice none 0 0, .slice none 0 0, .int .i64 (0)], hB g_0_0 36 #[.slice Ax0 x.Library.length cx0, .slice Ax1 x.Vats.length cx1, .slice Ax2 x.Channels.length cx2, .slice Ax3 x.Notes.length cx3, .int .i64 (x.Strays)]] W') x.Vats.length ?_ ?_
    · exact (actOf_drop2 [(1, .pointer (some ⟨g_0_0, 0, none⟩)), (2, .pointer (some ⟨g_0_1, 0, none⟩)), (3, .pointer (some ⟨g_1_13, 0, none⟩)), (4, .int .i64 (((0 : Nat) : Int)))] rfl).elim fun x' hx => ⟨0, none, 0, x', hx, (by omega), H390⟩
    · rintro r391 _ W392 ⟨i1, A_1, c_1, x393, rfl, hi1, H394⟩
      clear H390
      refine wp_seq ?_
      refine wp_seq ?_
      refine reg_seq [0, 1, 2, 3, 4] rfl ?_
      refine ops_cons ?_
      refine op_pure rfl (rn_move rfl) rfl rfl ?_
      refine ops_cons ?_
      refine op_pure rfl (rn_field fa_36_1 rfl) rfl rfl ?_
      refine ops_cons ?_
      refine op_pure rfl (rn_loadC (v := .slice Ax1 x.Vats.length cx1) Tryz.isAgg32 rfl (H394.blk 6 rfl) rfl) rfl rfl ?_
      refine ops_cons ?_
      refine op_pure rfl (rn_len Tryz.runUnderlying32 rfl) rfl rfl ?_
      refine ops_cons ?_
      refine op_pure rfl (rn_lss rfl rfl) rfl rfl ?_
      refine ops_nil ?_
      refine then_n ?_
      refine cond_dec rfl (fun hc395 => ?_) (fun hc395 => ?_)
      · have hlt1 : i1 < x.Vats.length := by omega
        obtain ⟨ade396, cse396, hAe396, hKe396, hce396⟩ := C_elem hCx1 i1 hlt1
        have hle396 := ki_Vat_len hKe396
        have hoe396 := ki_Vat_one hKe396
        have hsi1 : szn_Vat x.Vats[i1] ≤ 4194304 := by have h1 := sumS_at szn_Vat x.Vats i1 hlt1; have h2 := s_Vats; unfold sznS at h2; omega
        refine wp_skip ?_
        refine then_n ?_
        refine wp_seq ?_
        refine wp_block ?_
        refine reg_draw (fun W' => Blk W' g_1_13 36 #[.slice B_1_2 x.Library.length c_1_2, .slice A_1 i1 c_1, .slice B_1_5 x.Channels.length c_1_5, .slice B_1_9 x.Notes.length c_1_9, .int .i64 (x.Strays)] ∧ Blk W' g_0_0 36 #[.slice Ax0 x.Library.length cx0, .slice Ax1 x.Vats.length cx1, .slice Ax2 x.Channels.length cx2, .slice Ax3 x.Notes.length cx3, .int .i64 (x.Strays)] ∧ Cat W' (Addr.add ade396 (i1 * 5)) cse396) 11 (by kernel_rfl) ?_
        have H397 : St w No [hR ki_Vat 68 (.slice A_1 i1 c_1) (x.Vats.take i1), hB g_1_13 36 #[.slice B_1_2 x.Library.length c_1_2, .slice A_1 i1 c_1, .slice B_1_5 x.Channels.length c_1_5, .slice B_1_9 x.Notes.length c_1_9, .int .i64 (x.Strays)], hR ki_Note 110 (.slice B_1_9 x.Notes.length c_1_9) x.Notes, hR ki_Channel 196 (.slice B_1_5 x.Channels.length c_1_5) x.Channels, hR ki_Script 133 (.slice B_1_2 x.Library.length c_1_2) x.Library, hB g_0_1 36 #[.slice none 0 0, .slice none 0 0, .slice none 0 0, .slice none 0 0, .int .i64 (0)], hB g_0_0 36 #[.slice Ax0 x.Library.length cx0, .slice Ax1 x.Vats.length cx1, .slice Ax2 x.Channels.length cx2, .slice Ax3 x.Notes.length cx3, .int .i64 (x.Strays)]] W392.drew := H394.drew
        clear H394
        have hS398 : Blk W392.drew g_1_13 36 #[.slice B_1_2 x.Library.length c_1_2, .slice A_1 i1 c_1, .slice B_1_5 x.Channels.length c_1_5, .slice B_1_9 x.Notes.length c_1_9, .int .i64 (x.Strays)] ∧ Blk W392.drew g_0_0 36 #[.slice Ax0 x.Library.length cx0, .slice Ax1 x.Vats.length cx1, .slice Ax2 x.Channels.length cx2, .slice Ax3 x.Notes.length cx3, .int .i64 (x.Strays)] ∧ Cat W392.drew (Addr.add ade396 (i1 * 5)) cse396 := ⟨H397.blk 1 rfl, H397.blk 6 rfl, (Cat.upd hce396 H397.1)⟩
        refine anyS_take (i := 0) rfl (by kernel_rfl) (by kernel_rfl) (by kernel_rfl) (by kernel_rfl) (by kernel_rfl) (fun _ _ _ h => h) rfl rfl hS398 (fun W' hs' => rn_field fa_36_1 rfl) ?_
        refine anyS_take (i := 1) rfl (by kernel_rfl) (by kernel_rfl) (by kernel_rfl) (by kernel_rfl) (by kernel_rfl) (fun _ _ _ h => h) rfl rfl hS398 (fun W' hs' => rn_loadC (v := .slice A_1 i1 c_1) Tryz.isAgg32 rfl hs'.1 rfl) ?_
        refine anyS_take (i := 2) rfl (by kernel_rfl) (by kernel_rfl) (by kernel_rfl) (by kernel_rfl) (by kernel_rfl) (fun _ _ _ h => h) rfl rfl hS398 (fun W' hs' => rn_field fa_36_1 rfl) ?_
        refine anyS_take (i := 3) rfl (by kernel_rfl) (by kernel_rfl) (by kernel_rfl) (by kernel_rfl) (by kernel_rfl) (fun _ _ _ h => h) rfl rfl hS398 (fun W' hs' => rn_loadC (v := .slice Ax1 x.Vats.length cx1) Tryz.isAgg32 rfl hs'.2.1 rfl) ?_
        refine anyS_take (i := 4) rfl (by kernel_rfl) (by kernel_rfl) (by kernel_rfl) (by kernel_rfl) (by kernel_rfl) (fun _ _ _ h => h) rfl rfl hS398 (fun W' hs' => rn_move rfl) ?_
        refine anyS_take (i := 5) rfl (by kernel_rfl) (by kernel_rfl) (by kernel_rfl) (by kernel_rfl) (by kernel_rfl) (fun _ _ _ h => h) rfl rfl hS398 (fun W' hs' => rn_indexA (k := i1) Tryz.runUnderlying32 Tryz.sizeOf68 rfl rfl hAe396 hlt1) ?_
        refine anyS_take (i := 6) rfl (by kernel_rfl) (by kernel_rfl) (by kernel_rfl) (by kernel_rfl) (by kernel_rfl) (fun _ _ _ h => h) rfl rfl hS398 (fun W' hs' => rn_loadN Tryz.isAgg68 Tryz.sizeOf68 rfl hs'.2.2 hle396) ?_
        refine anyS_one (i := 7) (by kernel_rfl) ?_
        refine op_call rfl Tryz.call90 (vs := #[.agg (List.toArray cse396)]) rfl rfl rfl (l12Copy_s x.Vats[i1] _ _ (K_upd H397.1 hKe396) hsi1) ?_
        rintro e402 W401 ⟨cs_5_7, rfl, hM399, hu400⟩
        refine ⟨_, rfl, ?_⟩
        have hl403 := ki_Vat_len (ki_Vat.K_of_M hM399)
        have ho404 := ki_Vat_one (ki_Vat.K_of_M hM399)
        have H405 : St w No [hM ki_Vat (x.Vats[i1]) cs_5_7, hR ki_Vat 68 (.slice A_1 i1 c_1) (x.Vats.take i1), hB g_1_13 36 #[.slice B_1_2 x.Library.length c_1_2, .slice A_1 i1 c_1, .slice B_1_5 x.Channels.length c_1_5, .slice B_1_9 x.Notes.length c_1_9, .int .i64 (x.Strays)], hR ki_Note 110 (.slice B_1_9 x.Notes.length c_1_9) x.Notes, hR ki_Channel 196 (.slice B_1_5 x.Channels.length c_1_5) x.Channels, hR ki_Script 133 (.slice B_1_2 x.Library.length c_1_2) x.Library, hB g_0_1 36 #[.slice none 0 0, .slice none 0 0, .slice none 0 0, .slice none 0 0, .int .i64 (0)], hB g_0_0 36 #[.slice Ax0 x.Library.length cx0, .slice Ax1 x.Vats.length cx1, .slice Ax2 x.Channels.length cx2, .slice Ax3 x.Notes.length cx3, .int .i64 (x.Strays)]] W401 := H397.new hu400 hM399
        clear H397
        have hS406 : Blk W401 g_1_13 36 #[.slice B_1_2 x.Library.length c_1_2, .slice A_1 i1 c_1, .slice B_1_5 x.Channels.length c_1_5, .slice B_1_9 x.Notes.length c_1_9, .int .i64 (x.Strays)] ∧ Blk W401 g_0_0 36 #[.slice Ax0 x.Library.length cx0, .slice Ax1 x.Vats.length cx1, .slice Ax2 x.Channels.length cx2, .slice Ax3 x.Notes.length cx3, .int .i64 (x.Strays)] ∧ Cat W401 (Addr.add ade396 (i1 * 5)) cse396 := ⟨H405.blk 2 rfl, H405.blk 7 rfl, (Cat.upd hce396 H405.1)⟩
        refine ⟨fun _ => hS406, ?_⟩
        refine anyS_one (i := 8) (by kernel_rfl) ?_
        refine op_slice1 rfl Tryz.runUnderlying32 Tryz.sizeOf68 (by decide) Tryz.zeroValue68 rfl (ki_Vat_len (H405.kn 0 rfl)) rfl rfl H405 ?_
        intro g_5_8 W407 hu408 Ha409
        clear H405
        have H410 : St w No [hB g_5_8 68 (List.toArray cs_5_7), hM ki_Vat (x.Vats[i1]) cs_5_7, hR ki_Vat 68 (.slice A_1 i1 c_1) (x.Vats.take i1), hB g_1_13 36 #[.slice B_1_2 x.Library.length c_1_2, .slice A_1 i1 c_1, .slice B_1_5 x.Channels.length c_1_5, .slice B_1_9 x.Notes.length c_1_9, .int .i64 (x.Strays)], hR ki_Note 110 (.slice B_1_9 x.Notes.length c_1_9) x.Notes, hR ki_Channel 196 (.slice B_1_5 x.Channels.length c_1_5) x.Channels, hR ki_Script 133 (.slice B_1_2 x.Library.length c_1_2) x.Library, hB g_0_1 36 #[.slice none 0 0, .slice none 0 0, .slice none 0 0, .slice none 0 0, .int .i64 (0)], hB g_0_0 36 #[.slice Ax0 x.Library.length cx0, .slice Ax1 x.Vats.length cx1, .slice Ax2 x.Channels.length cx2, .slice Ax3 x.Notes.length cx3, .int .i64 (x.Strays)]] W407 := Ha409
        clear Ha409
        clear hu408
        have hS411 : Blk W407 g_1_13 36 #[.slice B_1_2 x.Library.length c_1_2, .slice A_1 i1 c_1, .slice B_1_5 x.Channels.length c_1_5, .slice B_1_9 x.Notes.length c_1_9, .int .i64 (x.Strays)] ∧ Blk W407 g_0_0 36 #[.slice Ax0 x.Library.length cx0, .slice Ax1 x.Vats.length cx1, .slice Ax2 x.Channels.length cx2, .slice Ax3 x.Notes.length cx3, .int .i64 (x.Strays)] ∧ Cat W407 (Addr.add ade396 (i1 * 5)) cse396 := ⟨H410.blk 3 rfl, H410.blk 8 rfl, (Cat.upd hce396 H410.1)⟩
        refine ⟨fun _ => hS411, ?_⟩
        refine anyS_one (i := 9) (by kernel_rfl) ?_
        have H414 : St w No [hR ki_Vat 68 (.slice A_1 i1 c_1) (x.Vats.take i1), hB g_5_8 68 (List.toArray cs_5_7), hM ki_Vat (x.Vats[i1]) cs_5_7, hB g_1_13 36 #[.slice B_1_2 x.Library.length c_1_2, .slice A_1 i1 c_1, .slice B_1_5 x.Channels.length c_1_5, .slice B_1_9 x.Notes.length c_1_9, .int .i64 (x.Strays)], hR ki_Note 110 (.slice B_1_9 x.Notes.length c_1_9) x.Notes, hR ki_Channel 196 (.slice B_1_5 x.Channels.length c_1_5) x.Channels, hR ki_Script 133 (.slice B_1_2 x.Library.length c_1_2) x.Library, hB g_0_1 36 #[.slice none 0 0, .slice none 0 0, .slice none 0 0, .slice none 0 0, .int .i64 (0)], hB g_0_0 36 #[.slice Ax0 x.Library.length cx0, .slice Ax1 x.Vats.length cx1, .slice Ax2 x.Channels.length cx2, .slice Ax3 x.Notes.length cx3, .int .i64 (x.Strays)]] W407 := H410.pick [2, 0, 1, 3, 4, 5, 6, 7, 8] (by decide) rfl
        clear H410
        refine op_append1' (xs := (x.Vats.take i1)) (p := x.Vats[i1]) (n' := (i1 + 1)) (ys := (x.Vats.take (i1 + 1))) rfl Tryz.underlying32 ki_Vat_info rfl (by decide) (by decide) rfl rfl (by rw [List.length_take, Nat.min_eq_left (by omega)]; omega) (by rw [List.length_take, Nat.min_eq_left (by omega)]) (List.take_succ_eq_append_getElem hlt1).symm rfl rfl H414 ?_
        intro B_5_9 c_5_9 W412 Ha413
        clear H414
        have H415 : St w No [hR ki_Vat 68 (.slice B_5_9 (i1 + 1) c_5_9) (x.Vats.take (i1 + 1)), hB g_1_13 36 #[.slice B_1_2 x.Library.length c_1_2, .slice A_1 i1 c_1, .slice B_1_5 x.Channels.length c_1_5, .slice B_1_9 x.Notes.length c_1_9, .int .i64 (x.Strays)], hR ki_Note 110 (.slice B_1_9 x.Notes.length c_1_9) x.Notes, hR ki_Channel 196 (.slice B_1_5 x.Channels.length c_1_5) x.Channels, hR ki_Script 133 (.slice B_1_2 x.Library.length c_1_2) x.Library, hB g_0_1 36 #[.slice none 0 0, .slice none 0 0, .slice none 0 0, .slice none 0 0, .int .i64 (0)], hB g_0_0 36 #[.slice Ax0 x.Library.length cx0, .slice Ax1 x.Vats.length cx1, .slice Ax2 x.Channels.length cx2, .slice Ax3 x.Notes.length cx3, .int .i64 (x.Strays)]] W412 := Ha413
        clear Ha413
        have hS416 : Blk W412 g_1_13 36 #[.slice B_1_2 x.Library.length c_1_2, .slice A_1 i1 c_1, .slice B_1_5 x.Channels.length c_1_5, .slice B_1_9 x.Notes.length c_1_9, .int .i64 (x.Strays)] ∧ Blk W412 g_0_0 36 #[.slice Ax0 x.Library.length cx0, .slice Ax1 x.Vats.length cx1, .slice Ax2 x.Channels.length cx2, .slice Ax3 x.Notes.length cx3, .int .i64 (x.Strays)] ∧ Cat W412 (Addr.add ade396 (i1 * 5)) cse396 := ⟨H415.blk 1 rfl, H415.blk 6 rfl, (Cat.upd hce396 H415.1)⟩
        refine ⟨fun _ => hS416, ?_⟩
        refine anyS_take (i := 10) rfl (by kernel_rfl) (by kernel_rfl) (by kernel_rfl) (by kernel_rfl) (by kernel_rfl) (fun _ _ _ h => h) rfl rfl hS416 (fun W' hs' => rn_field fa_36_1 rfl) ?_
        refine anyS_one (i := 11) (by kernel_rfl) ?_
        have H420 : St w No [hB g_1_13 36 #[.slice B_1_2 x.Library.length c_1_2, .slice A_1 i1 c_1, .slice B_1_5 x.Channels.length c_1_5, .slice B_1_9 x.Notes.length c_1_9, .int .i64 (x.Strays)], hR ki_Vat 68 (.slice B_5_9 (i1 + 1) c_5_9) (x.Vats.take (i1 + 1)), hR ki_Note 110 (.slice B_1_9 x.Notes.length c_1_9) x.Notes, hR ki_Channel 196 (.slice B_1_5 x.Channels.length c_1_5) x.Channels, hR ki_Script 133 (.slice B_1_2 x.Library.length c_1_2) x.Library, hB g_0_1 36 #[.slice none 0 0, .slice none 0 0, .slice none 0 0, .slice none 0 0, .int .i64 (0)], hB g_0_0 36 #[.slice Ax0 x.Library.length cx0, .slice Ax1 x.Vats.length cx1, .slice Ax2 x.Channels.length cx2, .slice Ax3 x.Notes.length cx3, .int .i64 (x.Strays)]] W412 := H415.pick [1, 0, 2, 3, 4, 5, 6] (by decide) rfl
        clear H415
        refine op_store rfl Tryz.sizeOf32 rfl rfl rfl (Nat.le_of_ble_eq_true rfl) (by simp [Value.cells, Value.oneCell']) H420 ?_
        intro W417 hu418 Ha419
        clear H420
        have H421 : St w No [hB g_1_13 36 #[.slice B_1_2 x.Library.length c_1_2, .slice B_5_9 (i1 + 1) c_5_9, .slice B_1_5 x.Channels.length c_1_5, .slice B_1_9 x.Notes.length c_1_9, .int .i64 (x.Strays)], hR ki_Vat 68 (.slice B_5_9 (i1 + 1) c_5_9) (x.Vats.take (i1 + 1)), hR ki_Note 110 (.slice B_1_9 x.Notes.length c_1_9) x.Notes, hR ki_Channel 196 (.slice B_1_5 x.Channels.length c_1_5) x.Channels, hR ki_Script 133 (.slice B_1_2 x.Library.length c_1_2) x.Library, hB g_0_1 36 #[.slice none 0 0, .slice none 0 0, .slice none 0 0, .slice none 0 0, .int .i64 (0)], hB g_0_0 36 #[.slice Ax0 x.Library.length cx0, .slice Ax1 x.Vats.length cx1, .slice Ax2 x.Channels.length cx2, .slice Ax3 x.Notes.length cx3, .int .i64 (x.Strays)]] W417 := Ha419
        clear Ha419
        clear hu418
        refine ⟨fun h => absS (by kernel_rfl) h, ?_⟩
        refine anyS_done (by kernel_rfl) ?_ _
        refine inB_n ?_
        refine then_n ?_
        refine reg_seq [0, 1, 2] rfl ?_
        refine ops_cons ?_
        refine op_pure rfl (rn_move rfl) rfl rfl ?_
        refine ops_cons ?_
        refine op_pure rfl (rn_inc (k := i1) rfl rfl (by omega)) rfl rfl ?_
        refine ops_cons ?_
        refine op_pure rfl (rn_assign rfl) rfl rfl ?_
        refine ops_nil ?_
        refine then_n ?_
        exact (actOf_drop2 [(1, .pointer (some ⟨g_0_0, 0, none⟩)), (2, .pointer (some ⟨g_0_1, 0, none⟩)), (3, .pointer (some ⟨g_1_13, 0, none⟩)), (4, .int .i64 (((i1 + 1 : Nat) : Int)))] rfl).elim fun x' hx => ⟨r391 - 1, (by omega), i1 + 1, B_5_9, c_5_9, x', hx, (by omega), H421.pick [1, 0, 2, 3, 4, 5, 6] (by decide) rfl⟩
      · obtain rfl : i1 = x.Vats.length := by omega
        rw [List.take_length] at H394
        have H422 : St w No [hR ki_Vat 68 (.slice A_1 x.Vats.length c_1) x.Vats, hB g_1_13 36 #[.slice B_1_2 x.Library.length c_1_2, .slice A_1 x.Vats.length c_1, .slice B_1_5 x.Channels.length c_1_5, .slice B_1_9 x.Notes.length c_1_9, .int .i64 (x.Strays)], hR ki_Note 110 (.slice B_1_9 x.Notes.length c_1_9) x.Notes, hR ki_Channel 196 (.slice B_1_5 x.Channels.length c_1_5) x.Channels, hR ki_Script 133 (.slice B_1_2 x.Library.length c_1_2) x.Library, hB g_0_1 36 #[.slice none 0 0, .slice none 0 0, .slice none 0 0, .slice none 0 0, .int .i64 (0)], hB g_0_0 36 #[.slice Ax0 x.Library.length cx0, .slice Ax1 x.Vats.length cx1, .slice Ax2 x.Channels.length cx2, .slice Ax3 x.Notes.length cx3, .int .i64 (x.Strays)]] W392 := H394
        clear H394
        refine wp_exit ?_
        refine then_x ?_
        refine then_x ?_
        refine inB_x ?_
        refine then_n ?_
        refine wp_seq ?_
        refine reg_seq [0, 1] rfl ?_
        refine ops_cons ?_
        refine op_pure rfl (rn_loadB Tryz.isAgg36 Tryz.sizeOf36 rfl (H422.blk 1 rfl) rfl) rfl rfl ?_
        refine ops_cons ?_
        have H426 : St w No [hB g_0_1 36 #[.slice none 0 0, .slice none 0 0, .slice none 0 0, .slice none 0 0, .int .i64 (0)], hR ki_Vat 68 (.slice A_1 x.Vats.length c_1) x.Vats, hB g_1_13 36 #[.slice B_1_2 x.Library.length c_1_2, .slice A_1 x.Vats.length c_1, .slice B_1_5 x.Channels.length c_1_5, .slice B_1_9 x.Notes.length c_1_9, .int .i64 (x.Strays)], hR ki_Note 110 (.slice B_1_9 x.Notes.length c_1_9) x.Notes, hR ki_Channel 196 (.slice B_1_5 x.Channels.length c_1_5) x.Channels, hR ki_Script 133 (.slice B_1_2 x.Library.length c_1_2) x.Library, hB g_0_0 36 #[.slice Ax0 x.Library.length cx0, .slice Ax1 x.Vats.length cx1, .slice Ax2 x.Channels.length cx2, .slice Ax3 x.Notes.length cx3, .int .i64 (x.Strays)]] W392 := H422.pick [5, 0, 1, 2, 3, 4, 6] (by decide) rfl
        clear H422
        refine op_storeW rfl Tryz.sizeOf36 rfl rfl rfl rfl (by simp [Value.oneCell']) H426 ?_
        intro W423 hu424 Ha425
        clear H426
        have H427 : St w No [hB g_0_1 36 #[.slice B_1_2 x.Library.length c_1_2, .slice A_1 x.Vats.length c_1, .slice B_1_5 x.Channels.length c_1_5, .slice B_1_9 x.Notes.length c_1_9, .int .i64 (x.Strays)], hR ki_Vat 68 (.slice A_1 x.Vats.length c_1) x.Vats, hB g_1_13 36 #[.slice B_1_2 x.Library.length c_1_2, .slice A_1 x.Vats.length c_1, .slice B_1_5 x.Channels.length c_1_5, .slice B_1_9 x.Notes.length c_1_9, .int .i64 (x.Strays)], hR ki_Note 110 (.slice B_1_9 x.Notes.length c_1_9) x.Notes, hR ki_Channel 196 (.slice B_1_5 x.Channels.length c_1_5) x.Channels, hR ki_Script 133 (.slice B_1_2 x.Library.length c_1_2) x.Library, hB g_0_0 36 #[.slice Ax0 x.Library.length cx0, .slice Ax1 x.Vats.length cx1, .slice Ax2 x.Channels.length cx2, .slice Ax3 x.Notes.length cx3, .int .i64 (x.Strays)]] W423 := Ha425
        clear Ha425
        clear hu424
        refine ops_nil ?_
        refine then_n ?_
        refine wp_ret ?_
        refine post_cell (.inl rfl) Tryz.results55 Tryz.isAgg36 Tryz.sizeOf36 rfl (H427.blk 0 rfl) rfl ?_
        exact ⟨_, rfl, ki_World_close (H427.pick [5, 1, 4, 3] (by decide) rfl).star, H427.1⟩
set_option maxHeartbeats 4000000 in
set_option maxRecDepth 100000 in
theorem copied_World (x : GWorld) (cs : List Value) (w : World) (h : ki_World.K w x cs) (hs : szn_World x ≤ 4194304) : Calls Tryz.prog 60 #[.agg cs.toArray] w (RetAgg ki_World x w) := by
  obtain ⟨Ax0, cx0, Ax1, cx1, Ax2, cx2, Ax3, cx3, rfl, hlx0, hCx0, hlx1, hCx1, hlx2, hCx2, hlx3, hCx3⟩ := ki_World_K h
  have s_Library : sznS szn_Script x.Library ≤ 4194304 := by unfold szn_World at hs; omega
  have n_Library : x.Library.length ≤ 4194304 := by unfold sznS at s_Library; omega
  have s_Vats : sznS szn_Vat x.Vats ≤ 4194304 := by unfold szn_World at hs; omega
  have n_Vats : x.Vats.length ≤ 4194304 := by unfold sznS at s_Vats; omega
  have s_Channels : sznS szn_Channel x.Channels ≤ 4194304 := by unfold szn_World at hs; omega
  have n_Channels : x.Channels.length ≤ 4194304 := by unfold sznS at s_Channels; omega
  have s_Notes : sznS szn_Note x.Notes ≤ 4194304 := by unfold szn_World at hs; omega
  have n_Notes : x.Notes.length ≤ 4194304 := by unfold sznS at s_Notes; omega
  refine enter 34 [(0, .agg #[.slice Ax0 x.Library.length cx0, .slice Ax1 x.Vats.length cx1, .slice Ax2 x.Channels.length cx2, .slice Ax3 x.Notes.length cx3, .int .i64 (x.Strays)])] Tryz.func60 rfl (by kernel_rfl) ?_
  intro xj
  have H1 : St w No [] w := St.enter
  refine wp_seq ?_
  refine reg_seq [0, 1] rfl ?_
  refine ops_cons ?_
  refine op_box rfl rfl rfl rfl H1 ?_
  intro g_0_0 W2 hu3 Ha4
  clear H1
  have H5 : St w No [hB g_0_0 36 #[.slice Ax0 x.Library.length cx0, .slice Ax1 x.Vats.length cx1, .slice Ax2 x.Channels.length cx2, .slice Ax3 x.Notes.length cx3, .int .i64 (x.Strays)]] W2 := Ha4
  clear Ha4
  clear hu3
  refine ops_cons ?_
  refine op_alloc rfl Tryz.zeroValue36 rfl rfl H5 ?_
  intro g_0_1 W6 hu7 Ha8
  clear H5
  have H9 : St w No [hB g_0_1 36 #[.slice none 0 0, .slice none 0 0, .slice none 0 0, .slice none 0 0, .int .i64 (0)], hB g_0_0 36 #[.slice Ax0 x.Library.length cx0, .slice Ax1 x.Vats.length cx1, .slice Ax2 x.Channels.length cx2, .slice Ax3 x.Notes.length cx3, .int .i64 (x.Strays)]] W6 := Ha8
  clear Ha8
  clear hu7
  refine ops_nil ?_
  refine then_n ?_
  refine wp_seq ?_
  refine reg_cut (fun a' W' => ∃ (B_1_2 : Option Addr) (c_1_2 : Nat) (B_1_5 : Option Addr) (c_1_5 : Nat) (B_1_8 : Option Addr) (c_1_8 : Nat) (g_1_12 : Nat) (x' : Nat → Value), a' = actOf 34 x' [(1, .pointer (some ⟨g_0_0, 0, none⟩)), (2, .pointer (some ⟨g_0_1, 0, none⟩)), (3, .pointer (some ⟨g_1_12, 0, none⟩))] ∧ St w No [hB g_1_12 36 #[.slice B_1_2 x.Library.length c_1_2, .slice none 0 0, .slice B_1_5 x.Channels.length c_1_5, .slice B_1_8 x.Notes.length c_1_8, .int .i64 (x.Strays)], hR ki_Note 110 (.slice B_1_8 x.Notes.length c_1_8) x.Notes, hR ki_Channel 196 (.slice B_1_5 x.Channels.length c_1_5) x.Channels, hR ki_Script 133 (.slice B_1_2 x.Library.length c_1_2) x.Library, hB g_0_1 36 #[.slice none 0 0, .slice none 0 0, .slice none 0 0, .slice none 0 0, .int .i64 (0)], hB g_0_0 36 #[.slice Ax0 x.Library.length cx0, .slice Ax1 x.Vats.length cx1, .slice Ax2 x.Channels.length cx2, .slice Ax3 x.Notes.length cx3, .int .i64 (x.Strays)]] W') ?_ ?_
  · refine reg_draw (fun W' => Blk W' g_0_0 36 #[.slice Ax0 x.Library.length cx0, .slice Ax1 x.Vats.length cx1, .slice Ax2 x.Channels.length cx2, .slice Ax3 x.Notes.length cx3, .int .i64 (x.Strays)]) 14 (by kernel_rfl) ?_
    have H10 : St w No [hB g_0_1 36 #[.slice none 0 0, .slice none 0 0, .slice none 0 0, .slice none 0 0, .int .i64 (0)], hB g_0_0 36 #[.slice Ax0 x.Library.length cx0, .slice Ax1 x.Vats.length cx1, .slice Ax2 x.Channels.length cx2, .slice Ax3 x.Notes.length cx3, .int .i64 (x.Strays)]] W6.drew := H9.drew
    clear H9
    have hS11 : Blk W6.drew g_0_0 36 #[.slice Ax0 x.Library.length cx0, .slice Ax1 x.Vats.length cx1, .slice Ax2 x.Channels.length cx2, .slice Ax3 x.Notes.length cx3, .int .i64 (x.Strays)] := H10.blk 1 rfl
    refine anyS_take (i := 0) rfl (by kernel_rfl) (by kernel_rfl) (by kernel_rfl) (by kernel_rfl) (by kernel_rfl) (fun _ _ _ h => h) rfl rfl hS11 (fun W' hs' => rn_field fa_36_0 rfl) ?_
    refine anyS_take (i := 1) rfl (by kernel_rfl) (by kernel_rfl) (by kernel_rfl) (by kernel_rfl) (by kernel_rfl) (fun _ _ _ h => h) rfl rfl hS11 (fun W' hs' => rn_loadC (v := .slice Ax0 x.Library.length cx0) Tryz.isAgg31 rfl hs' rfl) ?_
    refine anyS_take (i := 3) rfl (by kernel_rfl) (by kernel_rfl) (by kernel_rfl) (by kernel_rfl) (by kernel_rfl) (fun _ _ _ h => h) rfl rfl hS11 (fun W' hs' => rn_field fa_36_2 rfl) ?_
    refine anyS_take (i := 4) rfl (by kernel_rfl) (by kernel_rfl) (by kernel_rfl) (by kernel_rfl) (by kernel_rfl) (fun _ _ _ h => h) rfl rfl hS11 (fun W' hs' => rn_loadC (v := .slice Ax2 x.Channels.length cx2) Tryz.isAgg33 rfl hs' rfl) ?_
    refine anyS_take (i := 6) rfl (by kernel_rfl) (by kernel_rfl) (by kernel_rfl) (by kernel_rfl) (by kernel_rfl) (fun _ _ _ h => h) rfl rfl hS11 (fun W' hs' => rn_field fa_36_3 rfl) ?_
    refine anyS_take (i := 7) rfl (by kernel_rfl) (by kernel_rfl) (by kernel_rfl) (by kernel_rfl) (by kernel_rfl) (fun _ _ _ h => h) rfl rfl hS11 (fun W' hs' => rn_loadC (v := .slice Ax3 x.Notes.length cx3) Tryz.isAgg34 rfl hs' rfl) ?_
    refine anyS_take (i := 9) rfl (by kernel_rfl) (by kernel_rfl) (by kernel_rfl) (by kernel_rfl) (by kernel_rfl) (fun _ _ _ h => h) rfl rfl hS11 (fun W' hs' => rn_field fa_36_4 rfl) ?_
    refine anyS_take (i := 10) rfl (by kernel_rfl) (by kernel_rfl) (by kernel_rfl) (by kernel_rfl) (by kernel_rfl) (fun _ _ _ h => h) rfl rfl hS11 (fun W' hs' => rn_loadC (v := .int .i64 (x.Strays)) Tryz.isAgg3 rfl hs' rfl) ?_
    refine anyS_two (i := 2) (i2 := 12) (by kernel_rfl) ?_ ?_
    · refine op_call rfl Tryz.call79 (vs := #[.slice Ax0 x.Library.length cx0]) rfl rfl rfl (copiedScripts_i x.Library _ _ _ (C_upd H10.1 hCx0) s_Library) ?_
      rintro e16 W15 ⟨v12, rfl, hR13, hu14⟩
      refine ⟨_, rfl, ?_⟩
      obtain ⟨B_1_2, c_1_2, rfl⟩ := R_slice hR13
      have H17 : St w No [hR ki_Script 133 (.slice B_1_2 x.Library.length c_1_2) x.Library, hB g_0_1 36 #[.slice none 0 0, .slice none 0 0, .slice none 0 0, .slice none 0 0, .int .i64 (0)], hB g_0_0 36 #[.slice Ax0 x.Library.length cx0, .slice Ax1 x.Vats.length cx1, .slice Ax2 x.Channels.length cx2, .slice Ax3 x.Notes.length cx3, .int .i64 (x.Strays)]] W15 := H10.new hu14 hR13
      clear H10
      have hS18 : Blk W15 g_0_0 36 #[.slice Ax0 x.Library.length cx0, .slice Ax1 x.Vats.length cx1, .slice Ax2 x.Channels.length cx2, .slice Ax3 x.Notes.length cx3, .int .i64 (x.Strays)] := H17.blk 2 rfl
      refine ⟨fun _ => hS18, ?_⟩
      refine anyS_two (i := 5) (i2 := 12) (by kernel_rfl) ?_ ?_
      · refine op_call rfl Tryz.call137 (vs := #[.slice Ax2 x.Channels.length cx2]) rfl rfl rfl (copiedChannels_i x.Channels _ _ _ (C_upd H17.1 hCx2) s_Channels) ?_
        rintro e23 W22 ⟨v19, rfl, hR20, hu21⟩
        refine ⟨_, rfl, ?_⟩
        obtain ⟨B_1_5, c_1_5, rfl⟩ := R_slice hR20
        have H24 : St w No [hR ki_Channel 196 (.slice B_1_5 x.Channels.length c_1_5) x.Channels, hR ki_Script 133 (.slice B_1_2 x.Library.length c_1_2) x.Library, hB g_0_1 36 #[.slice none 0 0, .slice none 0 0, .slice none 0 0, .slice none 0 0, .int .i64 (0)], hB g_0_0 36 #[.slice Ax0 x.Library.length cx0, .slice Ax1 x.Vats.length cx1, .slice Ax2 x.Channels.length cx2, .slice Ax3 x.Notes.length cx3, .int .i64 (x.Strays)]] W22 := H17.new hu21 hR20
        clear H17
        have hS25 : Blk W22 g_0_0 36 #[.slice Ax0 x.Library.length cx0, .slice Ax1 x.Vats.length cx1, .slice Ax2 x.Channels.length cx2, .slice Ax3 x.Notes.length cx3, .int .i64 (x.Strays)] := H24.blk 3 rfl
        refine ⟨fun _ => hS25, ?_⟩
        refine anyS_two (i := 8) (i2 := 12) (by kernel_rfl) ?_ ?_
        · refine op_call rfl Tryz.call138 (vs := #[.slice Ax3 x.Notes.length cx3]) rfl rfl rfl (clone_Note x.Notes _ _ _ (C_upd H24.1 hCx3) n_Notes) ?_
          rintro e30 W29 ⟨v26, rfl, hR27, hu28⟩
          refine ⟨_, rfl, ?_⟩
          obtain ⟨B_1_8, c_1_8, rfl⟩ := R_slice hR27
          have H31 : St w No [hR ki_Note 110 (.slice B_1_8 x.Notes.length c_1_8) x.Notes, hR ki_Channel 196 (.slice B_1_5 x.Channels.length c_1_5) x.Channels, hR ki_Script 133 (.slice B_1_2 x.Library.length c_1_2) x.Library, hB g_0_1 36 #[.slice none 0 0, .slice none 0 0, .slice none 0 0, .slice none 0 0, .int .i64 (0)], hB g_0_0 36 #[.slice Ax0 x.Library.length cx0, .slice Ax1 x.Vats.length cx1, .slice Ax2 x.Channels.length cx2, .slice Ax3 x.Notes.length cx3, .int .i64 (x.Strays)]] W29 := H24.new hu28 hR27
          clear H24
          have hS32 : Blk W29 g_0_0 36 #[.slice Ax0 x.Library.length cx0, .slice Ax1 x.Vats.length cx1, .slice Ax2 x.Channels.length cx2, .slice Ax3 x.Notes.length cx3, .int .i64 (x.Strays)] := H31.blk 4 rfl
          refine ⟨fun _ => hS32, ?_⟩
          refine anyS_take (i := 11) rfl (by kernel_rfl) (by kernel_rfl) (by kernel_rfl) (by kernel_rfl) (by kernel_rfl) (fun _ _ _ h => h) rfl rfl hS32 (fun W' hs' => rn_build (vs := [(0, .slice B_1_2 x.Library.length c_1_2), (1, .slice none 0 0), (2, .slice B_1_5 x.Channels.length c_1_5), (3, .slice B_1_8 x.Notes.length c_1_8), (4, .int .i64 (x.Strays))]) (cells := #[.slice B_1_2 x.Library.length c_1_2, .slice none 0 0, .slice B_1_5 x.Channels.length c_1_5, .slice B_1_8 x.Notes.length c_1_8, .int .i64 (x.Strays)]) rfl (by kernel_rfl)) ?_
          refine anyS_one (i := 12) (by kernel_rfl) ?_
          refine op_alloc rfl Tryz.zeroValue36 rfl rfl H31 ?_
          intro g_1_12 W33 hu34 Ha35
          clear H31
          have H36 : St w No [hB g_1_12 36 #[.slice none 0 0, .slice none 0 0, .slice none 0 0, .slice none 0 0, .int .i64 (0)], hR ki_Note 110 (.slice B_1_8 x.Notes.length c_1_8) x.Notes, hR ki_Channel 196 (.slice B_1_5 x.Channels.length c_1_5) x.Channels, hR ki_Script 133 (.slice B_1_2 x.Library.length c_1_2) x.Library, hB g_0_1 36 #[.slice none 0 0, .slice none 0 0, .slice none 0 0, .slice none 0 0, .int .i64 (0)], hB g_0_0 36 #[.slice Ax0 x.Library.length cx0, .slice Ax1 x.Vats.length cx1, .slice Ax2 x.Channels.length cx2, .slice Ax3 x.Notes.length cx3, .int .i64 (x.Strays)]] W33 := Ha35
          clear Ha35
          clear hu34
          have hS37 : Blk W33 g_0_0 36 #[.slice Ax0 x.Library.length cx0, .slice Ax1 x.Vats.length cx1, .slice Ax2 x.Channels.length cx2, .slice Ax3 x.Notes.length cx3, .int .i64 (x.Strays)] := H36.blk 5 rfl
          refine ⟨fun _ => hS37, ?_⟩
          refine anyS_one (i := 13) (by kernel_rfl) ?_
          refine op_storeW rfl Tryz.sizeOf36 rfl rfl rfl rfl (by simp [Value.oneCell']) H36 ?_
          intro W38 hu39 Ha40
          clear H36
          have H41 : St w No [hB g_1_12 36 #[.slice B_1_2 x.Library.length c_1_2, .slice none 0 0, .slice B_1_5 x.Channels.length c_1_5, .slice B_1_8 x.Notes.length c_1_8, .int .i64 (x.Strays)], hR ki_Note 110 (.slice B_1_8 x.Notes.length c_1_8) x.Notes, hR ki_Channel 196 (.slice B_1_5 x.Channels.length c_1_5) x.Channels, hR ki_Script 133 (.slice B_1_2 x.Library.length c_1_2) x.Library, hB g_0_1 36 #[.slice none 0 0, .slice none 0 0, .slice none 0 0, .slice none 0 0, .int .i64 (0)], hB g_0_0 36 #[.slice Ax0 x.Library.length cx0, .slice Ax1 x.Vats.length cx1, .slice Ax2 x.Channels.length cx2, .slice Ax3 x.Notes.length cx3, .int .i64 (x.Strays)]] W38 := Ha40
          clear Ha40
          clear hu39
          have hS42 : Blk W38 g_0_0 36 #[.slice Ax0 x.Library.length cx0, .slice Ax1 x.Vats.length cx1, .slice Ax2 x.Channels.length cx2, .slice Ax3 x.Notes.length cx3, .int .i64 (x.Strays)] := H41.blk 5 rfl
          refine ⟨fun _ => hS42, ?_⟩
          refine anyS_done (by kernel_rfl) ?_ _
          exact (actOf_drop2 [(1, .pointer (some ⟨g_0_0, 0, none⟩)), (2, .pointer (some ⟨g_0_1, 0, none⟩)), (3, .pointer (some ⟨g_1_12, 0, none⟩))] rfl).elim fun x' hx => ⟨B_1_2, c_1_2, B_1_5, c_1_5, B_1_8, c_1_8, g_1_12, x', hx, H41⟩
        · refine op_alloc rfl Tryz.zeroValue36 rfl rfl H24 ?_
          intro g_1_12 W43 hu44 Ha45
          clear H24
          have H46 : St w No [hB g_1_12 36 #[.slice none 0 0, .slice none 0 0, .slice none 0 0, .slice none 0 0, .int .i64 (0)], hR ki_Channel 196 (.slice B_1_5 x.Channels.length c_1_5) x.Channels, hR ki_Script 133 (.slice B_1_2 x.Library.length c_1_2) x.Library, hB g_0_1 36 #[.slice none 0 0, .slice none 0 0, .slice none 0 0, .slice none 0 0, .int .i64 (0)], hB g_0_0 36 #[.slice Ax0 x.Library.length cx0, .slice Ax1 x.Vats.length cx1, .slice Ax2 x.Channels.length cx2, .slice Ax3 x.Notes.length cx3, .int .i64 (x.Strays)]] W43 := Ha45
          clear Ha45
          clear hu44
          have hS47 : Blk W43 g_0_0 36 #[.slice Ax0 x.Library.length cx0, .slice Ax1 x.Vats.length cx1, .slice Ax2 x.Channels.length cx2, .slice Ax3 x.Notes.length cx3, .int .i64 (x.Strays)] := H46.blk 4 rfl
          refine ⟨fun _ => hS47, ?_⟩
          refine anyS_one (i := 8) (by kernel_rfl) ?_
          refine op_call rfl Tryz.call138 (vs := #[.slice Ax3 x.Notes.length cx3]) rfl rfl rfl (clone_Note x.Notes _ _ _ (C_upd H46.1 hCx3) n_Notes) ?_
          rintro e52 W51 ⟨v48, rfl, hR49, hu50⟩
          refine ⟨_, rfl, ?_⟩
          obtain ⟨B_1_8, c_1_8, rfl⟩ := R_slice hR49
          have H53 : St w No [hR ki_Note 110 (.slice B_1_8 x.Notes.length c_1_8) x.Notes, hB g_1_12 36 #[.slice none 0 0, .slice none 0 0, .slice none 0 0, .slice none 0 0, .int .i64 (0)], hR ki_Channel 196 (.slice B_1_5 x.Channels.length c_1_5) x.Channels, hR ki_Script 133 (.slice B_1_2 x.Library.length c_1_2) x.Library, hB g_0_1 36 #[.slice none 0 0, .slice none 0 0, .slice none 0 0, .slice none 0 0, .int .i64 (0)], hB g_0_0 36 #[.slice Ax0 x.Library.length cx0, .slice Ax1 x.Vats.length cx1, .slice Ax2 x.Channels.length cx2, .slice Ax3 x.Notes.length cx3, .int .i64 (x.Strays)]] W51 := H46.new hu50 hR49
          clear H46
          have hS54 : Blk W51 g_0_0 36 #[.slice Ax0 x.Library.length cx0, .slice Ax1 x.Vats.length cx1, .slice Ax2 x.Channels.length cx2, .slice Ax3 x.Notes.length cx3, .int .i64 (x.Strays)] := H53.blk 5 rfl
          refine ⟨fun _ => hS54, ?_⟩
          refine anyS_take (i := 11) rfl (by kernel_rfl) (by kernel_rfl) (by kernel_rfl) (by kernel_rfl) (by kernel_rfl) (fun _ _ _ h => h) rfl rfl hS54 (fun W' hs' => rn_build (vs := [(0, .slice B_1_2 x.Library.length c_1_2), (1, .slice none 0 0), (2, .slice B_1_5 x.Channels.length c_1_5), (3, .slice B_1_8 x.Notes.length c_1_8), (4, .int .i64 (x.Strays))]) (cells := #[.slice B_1_2 x.Library.length c_1_2, .slice none 0 0, .slice B_1_5 x.Channels.length c_1_5, .slice B_1_8 x.Notes.length c_1_8, .int .i64 (x.Strays)]) rfl (by kernel_rfl)) ?_
          refine anyS_one (i := 13) (by kernel_rfl) ?_
          have H58 : St w No [hB g_1_12 36 #[.slice none 0 0, .slice none 0 0, .slice none 0 0, .slice none 0 0, .int .i64 (0)], hR ki_Note 110 (.slice B_1_8 x.Notes.length c_1_8) x.Notes, hR ki_Channel 196 (.slice B_1_5 x.Channels.length c_1_5) x.Channels, hR ki_Script 133 (.slice B_1_2 x.Library.length c_1_2) x.Library, hB g_0_1 36 #[.slice none 0 0, .slice none 0 0, .slice none 0 0, .slice none 0 0, .int .i64 (0)], hB g_0_0 36 #[.slice Ax0 x.Library.length cx0, .slice Ax1 x.Vats.length cx1, .slice Ax2 x.Channels.length cx2, .slice Ax3 x.Notes.length cx3, .int .i64 (x.Strays)]] W51 := H53.pick [1, 0, 2, 3, 4, 5] (by decide) rfl
          clear H53
          refine op_storeW rfl Tryz.sizeOf36 rfl rfl rfl rfl (by simp [Value.oneCell']) H58 ?_
          intro W55 hu56 Ha57
          clear H58
          have H59 : St w No [hB g_1_12 36 #[.slice B_1_2 x.Library.length c_1_2, .slice none 0 0, .slice B_1_5 x.Channels.length c_1_5, .slice B_1_8 x.Notes.length c_1_8, .int .i64 (x.Strays)], hR ki_Note 110 (.slice B_1_8 x.Notes.length c_1_8) x.Notes, hR ki_Channel 196 (.slice B_1_5 x.Channels.length c_1_5) x.Channels, hR ki_Script 133 (.slice B_1_2 x.Library.length c_1_2) x.Library, hB g_0_1 36 #[.slice none 0 0, .slice none 0 0, .slice none 0 0, .slice none 0 0, .int .i64 (0)], hB g_0_0 36 #[.slice Ax0 x.Library.length cx0, .slice Ax1 x.Vats.length cx1, .slice Ax2 x.Channels.length cx2, .slice Ax3 x.Notes.length cx3, .int .i64 (x.Strays)]] W55 := Ha57
          clear Ha57
          clear hu56
          have hS60 : Blk W55 g_0_0 36 #[.slice Ax0 x.Library.length cx0, .slice Ax1 x.Vats.length cx1, .slice Ax2 x.Channels.length cx2, .slice Ax3 x.Notes.length cx3, .int .i64 (x.Strays)] := H59.blk 5 rfl
          refine ⟨fun _ => hS60, ?_⟩
          refine anyS_done (by kernel_rfl) ?_ _
          exact (actOf_drop2 [(1, .pointer (some ⟨g_0_0, 0, none⟩)), (2, .pointer (some ⟨g_0_1, 0, none⟩)), (3, .pointer (some ⟨g_1_12, 0, none⟩))] rfl).elim fun x' hx => ⟨B_1_2, c_1_2, B_1_5, c_1_5, B_1_8, c_1_8, g_1_12, x', hx, H59⟩
      · refine op_alloc rfl Tryz.zeroValue36 rfl rfl H17 ?_
        intro g_1_12 W61 hu62 Ha63
        clear H17
        have H64 : St w No [hB g_1_12 36 #[.slice none 0 0, .slice none 0 0, .slice none 0 0, .slice none 0 0, .int .i64 (0)], hR ki_Script 133 (.slice B_1_2 x.Library.length c_1_2) x.Library, hB g_0_1 36 #[.slice none 0 0, .slice none 0 0, .slice none 0 0, .slice none 0 0, .int .i64 (0)], hB g_0_0 36 #[.slice Ax0 x.Library.length cx0, .slice Ax1 x.Vats.length cx1, .slice Ax2 x.Channels.length cx2, .slice Ax3 x.Notes.length cx3, .int .i64 (x.Strays)]] W61 := Ha63
        clear Ha63
        clear hu62
        have hS65 : Blk W61 g_0_0 36 #[.slice Ax0 x.Library.length cx0, .slice Ax1 x.Vats.length cx1, .slice Ax2 x.Channels.length cx2, .slice Ax3 x.Notes.length cx3, .int .i64 (x.Strays)] := H64.blk 3 rfl
        refine ⟨fun _ => hS65, ?_⟩
        refine anyS_one (i := 5) (by kernel_rfl) ?_
        refine op_call rfl Tryz.call137 (vs := #[.slice Ax2 x.Channels.length cx2]) rfl rfl rfl (copiedChannels_i x.Channels _ _ _ (C_upd H64.1 hCx2) s_Channels) ?_
        rintro e70 W69 ⟨v66, rfl, hR67, hu68⟩
        refine ⟨_, rfl, ?_⟩
        obtain ⟨B_1_5, c_1_5, rfl⟩ := R_slice hR67
        have H71 : St w No [hR ki_Channel 196 (.slice B_1_5 x.Channels.length c_1_5) x.Channels, hB g_1_12 36 #[.slice none 0 0, .slice none 0 0, .slice none 0 0, .slice none 0 0, .int .i64 (0)], hR ki_Script 133 (.slice B_1_2 x.Library.length c_1_2) x.Library, hB g_0_1 36 #[.slice none 0 0, .slice none 0 0, .slice none 0 0, .slice none 0 0, .int .i64 (0)], hB g_0_0 36 #[.slice Ax0 x.Library.length cx0, .slice Ax1 x.Vats.length cx1, .slice Ax2 x.Channels.length cx2, .slice Ax3 x.Notes.length cx3, .int .i64 (x.Strays)]] W69 := H64.new hu68 hR67
        clear H64
        have hS72 : Blk W69 g_0_0 36 #[.slice Ax0 x.Library.length cx0, .slice Ax1 x.Vats.length cx1, .slice Ax2 x.Channels.length cx2, .slice Ax3 x.Notes.length cx3, .int .i64 (x.Strays)] := H71.blk 4 rfl
        refine ⟨fun _ => hS72, ?_⟩
        refine anyS_one (i := 8) (by kernel_rfl) ?_
        refine op_call rfl Tryz.call138 (vs := #[.slice Ax3 x.Notes.length cx3]) rfl rfl rfl (clone_Note x.Notes _ _ _ (C_upd H71.1 hCx3) n_Notes) ?_
        rintro e77 W76 ⟨v73, rfl, hR74, hu75⟩
        refine ⟨_, rfl, ?_⟩
        obtain ⟨B_1_8, c_1_8, rfl⟩ := R_slice hR74
        have H78 : St w No [hR ki_Note 110 (.slice B_1_8 x.Notes.length c_1_8) x.Notes, hR ki_Channel 196 (.slice B_1_5 x.Channels.length c_1_5) x.Channels, hB g_1_12 36 #[.slice none 0 0, .slice none 0 0, .slice none 0 0, .slice none 0 0, .int .i64 (0)], hR ki_Script 133 (.slice B_1_2 x.Library.length c_1_2) x.Library, hB g_0_1 36 #[.slice none 0 0, .slice none 0 0, .slice none 0 0, .slice none 0 0, .int .i64 (0)], hB g_0_0 36 #[.slice Ax0 x.Library.length cx0, .slice Ax1 x.Vats.length cx1, .slice Ax2 x.Channels.length cx2, .slice Ax3 x.Notes.length cx3, .int .i64 (x.Strays)]] W76 := H71.new hu75 hR74
        clear H71
        have hS79 : Blk W76 g_0_0 36 #[.slice Ax0 x.Library.length cx0, .slice Ax1 x.Vats.length cx1, .slice Ax2 x.Channels.length cx2, .slice Ax3 x.Notes.length cx3, .int .i64 (x.Strays)] := H78.blk 5 rfl
        refine ⟨fun _ => hS79, ?_⟩
        refine anyS_take (i := 11) rfl (by kernel_rfl) (by kernel_rfl) (by kernel_rfl) (by kernel_rfl) (by kernel_rfl) (fun _ _ _ h => h) rfl rfl hS79 (fun W' hs' => rn_build (vs := [(0, .slice B_1_2 x.Library.length c_1_2), (1, .slice none 0 0), (2, .slice B_1_5 x.Channels.length c_1_5), (3, .slice B_1_8 x.Notes.length c_1_8), (4, .int .i64 (x.Strays))]) (cells := #[.slice B_1_2 x.Library.length c_1_2, .slice none 0 0, .slice B_1_5 x.Channels.length c_1_5, .slice B_1_8 x.Notes.length c_1_8, .int .i64 (x.Strays)]) rfl (by kernel_rfl)) ?_
        refine anyS_one (i := 13) (by kernel_rfl) ?_
        have H83 : St w No [hB g_1_12 36 #[.slice none 0 0, .slice none 0 0, .slice none 0 0, .slice none 0 0, .int .i64 (0)], hR ki_Note 110 (.slice B_1_8 x.Notes.length c_1_8) x.Notes, hR ki_Channel 196 (.slice B_1_5 x.Channels.length c_1_5) x.Channels, hR ki_Script 133 (.slice B_1_2 x.Library.length c_1_2) x.Library, hB g_0_1 36 #[.slice none 0 0, .slice none 0 0, .slice none 0 0, .slice none 0 0, .int .i64 (0)], hB g_0_0 36 #[.slice Ax0 x.Library.length cx0, .slice Ax1 x.Vats.length cx1, .slice Ax2 x.Channels.length cx2, .slice Ax3 x.Notes.length cx3, .int .i64 (x.Strays)]] W76 := H78.pick [2, 0, 1, 3, 4, 5] (by decide) rfl
        clear H78
        refine op_storeW rfl Tryz.sizeOf36 rfl rfl rfl rfl (by simp [Value.oneCell']) H83 ?_
        intro W80 hu81 Ha82
        clear H83
        have H84 : St w No [hB g_1_12 36 #[.slice B_1_2 x.Library.length c_1_2, .slice none 0 0, .slice B_1_5 x.Channels.length c_1_5, .slice B_1_8 x.Notes.length c_1_8, .int .i64 (x.Strays)], hR ki_Note 110 (.slice B_1_8 x.Notes.length c_1_8) x.Notes, hR ki_Channel 196 (.slice B_1_5 x.Channels.length c_1_5) x.Channels, hR ki_Script 133 (.slice B_1_2 x.Library.length c_1_2) x.Library, hB g_0_1 36 #[.slice none 0 0, .slice none 0 0, .slice none 0 0, .slice none 0 0, .int .i64 (0)], hB g_0_0 36 #[.slice Ax0 x.Library.length cx0, .slice Ax1 x.Vats.length cx1, .slice Ax2 x.Channels.length cx2, .slice Ax3 x.Notes.length cx3, .int .i64 (x.Strays)]] W80 := Ha82
        clear Ha82
        clear hu81
        have hS85 : Blk W80 g_0_0 36 #[.slice Ax0 x.Library.length cx0, .slice Ax1 x.Vats.length cx1, .slice Ax2 x.Channels.length cx2, .slice Ax3 x.Notes.length cx3, .int .i64 (x.Strays)] := H84.blk 5 rfl
        refine ⟨fun _ => hS85, ?_⟩
        refine anyS_done (by kernel_rfl) ?_ _
        exact (actOf_drop2 [(1, .pointer (some ⟨g_0_0, 0, none⟩)), (2, .pointer (some ⟨g_0_1, 0, none⟩)), (3, .pointer (some ⟨g_1_12, 0, none⟩))] rfl).elim fun x' hx => ⟨B_1_2, c_1_2, B_1_5, c_1_5, B_1_8, c_1_8, g_1_12, x', hx, H84⟩
    · refine op_alloc rfl Tryz.zeroValue36 rfl rfl H10 ?_
      intro g_1_12 W86 hu87 Ha88
      clear H10
      have H89 : St w No [hB g_1_12 36 #[.slice none 0 0, .slice none 0 0, .slice none 0 0, .slice none 0 0, .int .i64 (0)], hB g_0_1 36 #[.slice none 0 0, .slice none 0 0, .slice none 0 0, .slice none 0 0, .int .i64 (0)], hB g_0_0 36 #[.slice Ax0 x.Library.length cx0, .slice Ax1 x.Vats.length cx1, .slice Ax2 x.Channels.length cx2, .slice Ax3 x.Notes.length cx3, .int .i64 (x.Strays)]] W86 := Ha88
      clear Ha88
      clear hu87
      have hS90 : Blk W86 g_0_0 36 #[.slice Ax0 x.Library.length cx0, .slice Ax1 x.Vats.length cx1, .slice Ax2 x.Channels.length cx2, .slice Ax3 x.Notes.length cx3, .int .i64 (x.Strays)] := H89.blk 2 rfl
      refine ⟨fun _ => hS90, ?_⟩
      refine anyS_one (i := 2) (by kernel_rfl) ?_
      refine op_call rfl Tryz.call79 (vs := #[.slice Ax0 x.Library.length cx0]) rfl rfl rfl (copiedScripts_i x.Library _ _ _ (C_upd H89.1 hCx0) s_Library) ?_
      rintro e95 W94 ⟨v91, rfl, hR92, hu93⟩
      refine ⟨_, rfl, ?_⟩
      obtain ⟨B_1_2, c_1_2, rfl⟩ := R_slice hR92
      have H96 : St w No [hR ki_Script 133 (.slice B_1_2 x.Library.length c_1_2) x.Library, hB g_1_12 36 #[.slice none 0 0, .slice none 0 0, .slice none 0 0, .slice none 0 0, .int .i64 (0)], hB g_0_1 36 #[.slice none 0 0, .slice none 0 0, .slice none 0 0, .slice none 0 0, .int .i64 (0)], hB g_0_0 36 #[.slice Ax0 x.Library.length cx0, .slice Ax1 x.Vats.length cx1, .slice Ax2 x.Channels.length cx2, .slice Ax3 x.Notes.length cx3, .int .i64 (x.Strays)]] W94 := H89.new hu93 hR92
      clear H89
      have hS97 : Blk W94 g_0_0 36 #[.slice Ax0 x.Library.length cx0, .slice Ax1 x.Vats.length cx1, .slice Ax2 x.Channels.length cx2, .slice Ax3 x.Notes.length cx3, .int .i64 (x.Strays)] := H96.blk 3 rfl
      refine ⟨fun _ => hS97, ?_⟩
      refine anyS_one (i := 5) (by kernel_rfl) ?_
      refine op_call rfl Tryz.call137 (vs := #[.slice Ax2 x.Channels.length cx2]) rfl rfl rfl (copiedChannels_i x.Channels _ _ _ (C_upd H96.1 hCx2) s_Channels) ?_
      rintro e102 W101 ⟨v98, rfl, hR99, hu100⟩
      refine ⟨_, rfl, ?_⟩
      obtain ⟨B_1_5, c_1_5, rfl⟩ := R_slice hR99
      have H103 : St w No [hR ki_Channel 196 (.slice B_1_5 x.Channels.length c_1_5) x.Channels, hR ki_Script 133 (.slice B_1_2 x.Library.length c_1_2) x.Library, hB g_1_12 36 #[.slice none 0 0, .slice none 0 0, .slice none 0 0, .slice none 0 0, .int .i64 (0)], hB g_0_1 36 #[.slice none 0 0, .slice none 0 0, .slice none 0 0, .slice none 0 0, .int .i64 (0)], hB g_0_0 36 #[.slice Ax0 x.Library.length cx0, .slice Ax1 x.Vats.length cx1, .slice Ax2 x.Channels.length cx2, .slice Ax3 x.Notes.length cx3, .int .i64 (x.Strays)]] W101 := H96.new hu100 hR99
      clear H96
      have hS104 : Blk W101 g_0_0 36 #[.slice Ax0 x.Library.length cx0, .slice Ax1 x.Vats.length cx1, .slice Ax2 x.Channels.length cx2, .slice Ax3 x.Notes.length cx3, .int .i64 (x.Strays)] := H103.blk 4 rfl
      refine ⟨fun _ => hS104, ?_⟩
      refine anyS_one (i := 8) (by kernel_rfl) ?_
      refine op_call rfl Tryz.call138 (vs := #[.slice Ax3 x.Notes.length cx3]) rfl rfl rfl (clone_Note x.Notes _ _ _ (C_upd H103.1 hCx3) n_Notes) ?_
      rintro e109 W108 ⟨v105, rfl, hR106, hu107⟩
      refine ⟨_, rfl, ?_⟩
      obtain ⟨B_1_8, c_1_8, rfl⟩ := R_slice hR106
      have H110 : St w No [hR ki_Note 110 (.slice B_1_8 x.Notes.length c_1_8) x.Notes, hR ki_Channel 196 (.slice B_1_5 x.Channels.length c_1_5) x.Channels, hR ki_Script 133 (.slice B_1_2 x.Library.length c_1_2) x.Library, hB g_1_12 36 #[.slice none 0 0, .slice none 0 0, .slice none 0 0, .slice none 0 0, .int .i64 (0)], hB g_0_1 36 #[.slice none 0 0, .slice none 0 0, .slice none 0 0, .slice none 0 0, .int .i64 (0)], hB g_0_0 36 #[.slice Ax0 x.Library.length cx0, .slice Ax1 x.Vats.length cx1, .slice Ax2 x.Channels.length cx2, .slice Ax3 x.Notes.length cx3, .int .i64 (x.Strays)]] W108 := H103.new hu107 hR106
      clear H103
      have hS111 : Blk W108 g_0_0 36 #[.slice Ax0 x.Library.length cx0, .slice Ax1 x.Vats.length cx1, .slice Ax2 x.Channels.length cx2, .slice Ax3 x.Notes.length cx3, .int .i64 (x.Strays)] := H110.blk 5 rfl
      refine ⟨fun _ => hS111, ?_⟩
      refine anyS_take (i := 11) rfl (by kernel_rfl) (by kernel_rfl) (by kernel_rfl) (by kernel_rfl) (by kernel_rfl) (fun _ _ _ h => h) rfl rfl hS111 (fun W' hs' => rn_build (vs := [(0, .slice B_1_2 x.Library.length c_1_2), (1, .slice none 0 0), (2, .slice B_1_5 x.Channels.length c_1_5), (3, .slice B_1_8 x.Notes.length c_1_8), (4, .int .i64 (x.Strays))]) (cells := #[.slice B_1_2 x.Library.length c_1_2, .slice none 0 0, .slice B_1_5 x.Channels.length c_1_5, .slice B_1_8 x.Notes.length c_1_8, .int .i64 (x.Strays)]) rfl (by kernel_rfl)) ?_
      refine anyS_one (i := 13) (by kernel_rfl) ?_
      have H115 : St w No [hB g_1_12 36 #[.slice none 0 0, .slice none 0 0, .slice none 0 0, .slice none 0 0, .int .i64 (0)], hR ki_Note 110 (.slice B_1_8 x.Notes.length c_1_8) x.Notes, hR ki_Channel 196 (.slice B_1_5 x.Channels.length c_1_5) x.Channels, hR ki_Script 133 (.slice B_1_2 x.Library.length c_1_2) x.Library, hB g_0_1 36 #[.slice none 0 0, .slice none 0 0, .slice none 0 0, .slice none 0 0, .int .i64 (0)], hB g_0_0 36 #[.slice Ax0 x.Library.length cx0, .slice Ax1 x.Vats.length cx1, .slice Ax2 x.Channels.length cx2, .slice Ax3 x.Notes.length cx3, .int .i64 (x.Strays)]] W108 := H110.pick [3, 0, 1, 2, 4, 5] (by decide) rfl
      clear H110
      refine op_storeW rfl Tryz.sizeOf36 rfl rfl rfl rfl (by simp [Value.oneCell']) H115 ?_
      intro W112 hu113 Ha114
      clear H115
      have H116 : St w No [hB g_1_12 36 #[.slice B_1_2 x.Library.length c_1_2, .slice none 0 0, .slice B_1_5 x.Channels.length c_1_5, .slice B_1_8 x.Notes.length c_1_8, .int .i64 (x.Strays)], hR ki_Note 110 (.slice B_1_8 x.Notes.length c_1_8) x.Notes, hR ki_Channel 196 (.slice B_1_5 x.Channels.length c_1_5) x.Channels, hR ki_Script 133 (.slice B_1_2 x.Library.length c_1_2) x.Library, hB g_0_1 36 #[.slice none 0 0, .slice none 0 0, .slice none 0 0, .slice none 0 0, .int .i64 (0)], hB g_0_0 36 #[.slice Ax0 x.Library.length cx0, .slice Ax1 x.Vats.length cx1, .slice Ax2 x.Channels.length cx2, .slice Ax3 x.Notes.length cx3, .int .i64 (x.Strays)]] W112 := Ha114
      clear Ha114
      clear hu113
      have hS117 : Blk W112 g_0_0 36 #[.slice Ax0 x.Library.length cx0, .slice Ax1 x.Vats.length cx1, .slice Ax2 x.Channels.length cx2, .slice Ax3 x.Notes.length cx3, .int .i64 (x.Strays)] := H116.blk 5 rfl
      refine ⟨fun _ => hS117, ?_⟩
      refine anyS_done (by kernel_rfl) ?_ _
      exact (actOf_drop2 [(1, .pointer (some ⟨g_0_0, 0, none⟩)), (2, .pointer (some ⟨g_0_1, 0, none⟩)), (3, .pointer (some ⟨g_1_12, 0, none⟩))] rfl).elim fun x' hx => ⟨B_1_2, c_1_2, B_1_5, c_1_5, B_1_8, c_1_8, g_1_12, x', hx, H116⟩
  · rintro _ W119 ⟨B_1_2, c_1_2, B_1_5, c_1_5, B_1_8, c_1_8, g_1_12, x120, rfl, H118⟩
    refine then_n ?_
    refine wp_seq ?_
    refine wp_seq ?_
    refine reg_seq [0, 1, 2, 3] rfl ?_
    refine ops_cons ?_
    refine op_pure rfl (rn_field fa_36_1 rfl) rfl rfl ?_
    refine ops_cons ?_
    refine op_pure rfl (rn_loadC (v := .slice Ax1 x.Vats.length cx1) Tryz.isAgg32 rfl (H118.blk 5 rfl) rfl) rfl rfl ?_
    refine ops_cons ?_
    refine op_pure rfl (rn_len Tryz.runUnderlying32 rfl) rfl rfl ?_
    refine ops_cons ?_
    refine op_pure rfl (rn_move rfl) rfl rfl ?_
    refine ops_nil ?_
    refine then_n ?_
    refine wp_block ?_
    have H121 : St w No [hR ki_Vat 68 (.slice none 0 0) ([]), hB g_1_12 36 #[.slice B_1_2 x.Library.length c_1_2, .slice none 0 0, .slice B_1_5 x.Channels.length c_1_5, .slice B_1_8 x.Notes.length c_1_8, .int .i64 (x.Strays)], hR ki_Note 110 (.slice B_1_8 x.Notes.length c_1_8) x.Notes, hR ki_Channel 196 (.slice B_1_5 x.Channels.length c_1_5) x.Channels, hR ki_Script 133 (.slice B_1_2 x.Library.length c_1_2) x.Library, hB g_0_1 36 #[.slice none 0 0, .slice none 0 0, .slice none 0 0, .slice none 0 0, .int .i64 (0)], hB g_0_0 36 #[.slice Ax0 x.Library.length cx0, .slice Ax1 x.Vats.length cx1, .slice Ax2 x.Channels.length cx2, .slice Ax3 x.Notes.length cx3, .int .i64 (x.Strays)]] W119 := H118.add0 (q := hR ki_Vat 68 (.slice none 0 0) []) R_nil
    clear H118
    refine wp_loop_ghost (fun r a' W' => ∃ (i1 : Nat) (A_1 : Option Addr) (c_1 : Nat) (x' : Nat → Value), a' = actOf 34 x' [(2, .pointer (some ⟨g_0_1, 0, none⟩)), (3, .pointer (some ⟨g_1_12, 0, none⟩)), (19, .slice Ax1 x.Vats.length cx1), (20, .int .i64 ((x.Vats.length : Nat))), (21, .int .i64 (((i1 : Nat) : Int)))] ∧ (i1 + r = x.Vats.length) ∧ St w No [hR ki_Vat 68 (.slice A_1 i1 c_1) (x.Vats.take i1), hB g_1_12 36 #[.slice B_1_2 x.Library.length c_1_2, .slice A_1 i1 c_1, .slice B_1_5 x.Channels.length c_1_5, .slice B_1_8 x.Notes.length c_1_8, .int .i64 (x.Strays)], hR ki_Note 110 (.slice B_1_8 x.Notes.length c_1_8) x.Notes, hR ki_Channel 196 (.slice B_1_5 x.Channels.length c_1_5) x.Channels, hR ki_Script 133 (.slice B_1_2 x.Library.length c_1_2) x.Library, hB g_0_1 36 #[.slice none 0 0, .slice none 0 0, .slice none 0 0, .slice none 0 0, .int .i64 (0)], hB g_0_0 36 #[.slice Ax0 x.Library.length cx0, .slice Ax1 x.Vats.length cx1, .slice Ax2 x.Channels.length cx2, .slice Ax3 x.Notes.length cx3, .int .i64 (x.Strays)]] W') x.Vats.length ?_ ?_
    · exact (actOf_drop2 [(2, .pointer (some ⟨g_0_1, 0, none⟩)), (3, .pointer (some ⟨g_1_12, 0, none⟩)), (19, .slice Ax1 x.Vats.length cx1), (20, .int .i64 ((x.Vats.length : Nat))), (21, .int .i64 (((0 : Nat) : Int)))] rfl).elim fun x' hx => ⟨0, none, 0, x', hx, (by omega), H121⟩
    · rintro r122 _ W123 ⟨i1, A_1, c_1, x124, rfl, hi1, H125⟩
      clear H121
      refine wp_seq ?_
      refine reg_seq [0] rfl ?_
      refine ops_cons ?_
      refine op_pure rfl (rn_lss rfl rfl) rfl rfl ?_
      refine ops_nil ?_
      refine then_n ?_
      refine wp_seq ?_
      refine cond_dec rfl (fun hc126 => ?_) (fun hc126 => ?_)
      · have hlt1 : i1 < x.Vats.length := by omega
        obtain ⟨ade127, cse127, hAe127, hKe127, hce127⟩ := C_elem hCx1 i1 hlt1
        have hle127 := ki_Vat_len hKe127
        have hoe127 := ki_Vat_one hKe127
        have hsi1 : szn_Vat x.Vats[i1] ≤ 4194304 := by have h1 := sumS_at szn_Vat x.Vats i1 hlt1; have h2 := s_Vats; unfold sznS at h2; omega
        refine wp_skip ?_
        refine then_n ?_
        refine wp_seq ?_
        refine wp_block ?_
        refine wp_seq ?_
        refine reg_seq [0, 1, 2, 3] rfl ?_
        refine ops_cons ?_
        refine op_pure rfl (rn_indexA (k := i1) Tryz.runUnderlying32 Tryz.sizeOf68 rfl rfl hAe127 hlt1) rfl rfl ?_
        refine ops_cons ?_
        refine op_pure rfl (rn_loadN Tryz.isAgg68 Tryz.sizeOf68 rfl (Cat.upd hce127 H125.1) hle127) rfl rfl ?_
        refine ops_cons ?_
        refine op_alloc rfl Tryz.zeroValue68 rfl rfl H125 ?_
        intro g_4_2 W128 hu129 Ha130
        clear H125
        have H131 : St w No [hB g_4_2 68 #[.int .i64 (0), .slice none 0 0, .slice none 0 0, .slice none 0 0, .slice none 0 0], hR ki_Vat 68 (.slice A_1 i1 c_1) (x.Vats.take i1), hB g_1_12 36 #[.slice B_1_2 x.Library.length c_1_2, .slice A_1 i1 c_1, .slice B_1_5 x.Channels.length c_1_5, .slice B_1_8 x.Notes.length c_1_8, .int .i64 (x.Strays)], hR ki_Note 110 (.slice B_1_8 x.Notes.length c_1_8) x.Notes, hR ki_Channel 196 (.slice B_1_5 x.Channels.length c_1_5) x.Channels, hR ki_Script 133 (.slice B_1_2 x.Library.length c_1_2) x.Library, hB g_0_1 36 #[.slice none 0 0, .slice none 0 0, .slice none 0 0, .slice none 0 0, .int .i64 (0)], hB g_0_0 36 #[.slice Ax0 x.Library.length cx0, .slice Ax1 x.Vats.length cx1, .slice Ax2 x.Channels.length cx2, .slice Ax3 x.Notes.length cx3, .int .i64 (x.Strays)]] W128 := Ha130
        clear Ha130
        clear hu129
        refine ops_cons ?_
        refine op_storeW rfl Tryz.sizeOf68 rfl rfl hle127 rfl hoe127 H131 ?_
        intro W132 hu133 Ha134
        clear H131
        have H135 : St w No [hB g_4_2 68 (List.toArray cse127), hR ki_Vat 68 (.slice A_1 i1 c_1) (x.Vats.take i1), hB g_1_12 36 #[.slice B_1_2 x.Library.length c_1_2, .slice A_1 i1 c_1, .slice B_1_5 x.Channels.length c_1_5, .slice B_1_8 x.Notes.length c_1_8, .int .i64 (x.Strays)], hR ki_Note 110 (.slice B_1_8 x.Notes.length c_1_8) x.Notes, hR ki_Channel 196 (.slice B_1_5 x.Channels.length c_1_5) x.Channels, hR ki_Script 133 (.slice B_1_2 x.Library.length c_1_2) x.Library, hB g_0_1 36 #[.slice none 0 0, .slice none 0 0, .slice none 0 0, .slice none 0 0, .int .i64 (0)], hB g_0_0 36 #[.slice Ax0 x.Library.length cx0, .slice Ax1 x.Vats.length cx1, .slice Ax2 x.Channels.length cx2, .slice Ax3 x.Notes.length cx3, .int .i64 (x.Strays)]] W132 := Ha134
        clear Ha134
        clear hu133
        refine ops_nil ?_
        refine then_n ?_
        refine reg_draw (fun W' => Blk W' g_1_12 36 #[.slice B_1_2 x.Library.length c_1_2, .slice A_1 i1 c_1, .slice B_1_5 x.Channels.length c_1_5, .slice B_1_8 x.Notes.length c_1_8, .int .i64 (x.Strays)] ∧ Blk W' g_4_2 68 (List.toArray cse127)) 7 (by kernel_rfl) ?_
        have H136 : St w No [hB g_4_2 68 (List.toArray cse127), hR ki_Vat 68 (.slice A_1 i1 c_1) (x.Vats.take i1), hB g_1_12 36 #[.slice B_1_2 x.Library.length c_1_2, .slice A_1 i1 c_1, .slice B_1_5 x.Channels.length c_1_5, .slice B_1_8 x.Notes.length c_1_8, .int .i64 (x.Strays)], hR ki_Note 110 (.slice B_1_8 x.Notes.length c_1_8) x.Notes, hR ki_Channel 196 (.slice B_1_5 x.Channels.length c_1_5) x.Channels, hR ki_Script 133 (.slice B_1_2 x.Library.length c_1_2) x.Library, hB g_0_1 36 #[.slice none 0 0, .slice none 0 0, .slice none 0 0, .slice none 0 0, .int .i64 (0)], hB g_0_0 36 #[.slice Ax0 x.Library.length cx0, .slice Ax1 x.Vats.length cx1, .slice Ax2 x.Channels.length cx2, .slice Ax3 x.Notes.length cx3, .int .i64 (x.Strays)]] W132.drew := H135.drew
        clear H135
        have hS137 : Blk W132.drew g_1_12 36 #[.slice B_1_2 x.Library.length c_1_2, .slice A_1 i1 c_1, .slice B_1_5 x.Channels.length c_1_5, .slice B_1_8 x.Notes.length c_1_8, .int .i64 (x.Strays)] ∧ Blk W132.drew g_4_2 68 (List.toArray cse127) := ⟨H136.blk 2 rfl, H136.blk 0 rfl⟩
        refine anyS_take (i := 0) rfl (by kernel_rfl) (by kernel_rfl) (by kernel_rfl) (by kernel_rfl) (by kernel_rfl) (fun _ _ _ h => h) rfl rfl hS137 (fun W' hs' => rn_field fa_36_1 rfl) ?_
        refine anyS_take (i := 1) rfl (by kernel_rfl) (by kernel_rfl) (by kernel_rfl) (by kernel_rfl) (by kernel_rfl) (fun _ _ _ h => h) rfl rfl hS137 (fun W' hs' => rn_loadC (v := .slice A_1 i1 c_1) Tryz.isAgg32 rfl hs'.1 rfl) ?_
        refine anyS_take (i := 2) rfl (by kernel_rfl) (by kernel_rfl) (by kernel_rfl) (by kernel_rfl) (by kernel_rfl) (fun _ _ _ h => h) rfl rfl hS137 (fun W' hs' => rn_loadB Tryz.isAgg68 Tryz.sizeOf68 rfl hs'.2 hle127) ?_
        refine anyS_one (i := 3) (by kernel_rfl) ?_
        refine op_call rfl Tryz.call99 (vs := #[.agg (List.toArray cse127)]) rfl rfl rfl (copied_Vat x.Vats[i1] _ _ (K_upd H136.1 hKe127) hsi1) ?_
        rintro e141 W140 ⟨cs_5_3, rfl, hM138, hu139⟩
        refine ⟨_, rfl, ?_⟩
        have hl142 := ki_Vat_len (ki_Vat.K_of_M hM138)
        have ho143 := ki_Vat_one (ki_Vat.K_of_M hM138)
        have H144 : St w No [hM ki_Vat (x.Vats[i1]) cs_5_3, hB g_4_2 68 (List.toArray cse127), hR ki_Vat 68 (.slice A_1 i1 c_1) (x.Vats.take i1), hB g_1_12 36 #[.slice B_1_2 x.Library.length c_1_2, .slice A_1 i1 c_1, .slice B_1_5 x.Channels.length c_1_5, .slice B_1_8 x.Notes.length c_1_8, .int .i64 (x.Strays)], hR ki_Note 110 (.slice B_1_8 x.Notes.length c_1_8) x.Notes, hR ki_Channel 196 (.slice B_1_5 x.Channels.length c_1_5) x.Channels, hR ki_Script 133 (.slice B_1_2 x.Library.length c_1_2) x.Library, hB g_0_1 36 #[.slice none 0 0, .slice none 0 0, .slice none 0 0, .slice none 0 0, .int .i64 (0)], hB g_0_0 36 #[.slice Ax0 x.Library.length cx0, .slice Ax1 x.Vats.length cx1, .slice Ax2 x.Channels.length cx2, .slice Ax3 x.Notes.length cx3, .int .i64 (x.Strays)]] W140 := H136.new hu139 hM138
        clear H136
        have hS145 : Blk W140 g_1_12 36 #[.slice B_1_2 x.Library.length c_1_2, .slice A_1 i1 c_1, .slice B_1_5 x.Channels.length c_1_5, .slice B_1_8 x.Notes.length c_1_8, .int .i64 (x.Strays)] ∧ Blk W140 g_4_2 68 (List.toArray cse127) := ⟨H144.blk 3 rfl, H144.blk 1 rfl⟩
        refine ⟨fun _ => hS145, ?_⟩
        refine anyS_one (i := 4) (by kernel_rfl) ?_
        refine op_slice1 rfl Tryz.runUnderlying32 Tryz.sizeOf68 (by decide) Tryz.zeroValue68 rfl (ki_Vat_len (H144.kn 0 rfl)) rfl rfl H144 ?_
        intro g_5_4 W146 hu147 Ha148
        clear H144
        have H149 : St w No [hB g_5_4 68 (List.toArray cs_5_3), hM ki_Vat (x.Vats[i1]) cs_5_3, hB g_4_2 68 (List.toArray cse127), hR ki_Vat 68 (.slice A_1 i1 c_1) (x.Vats.take i1), hB g_1_12 36 #[.slice B_1_2 x.Library.length c_1_2, .slice A_1 i1 c_1, .slice B_1_5 x.Channels.length c_1_5, .slice B_1_8 x.Notes.length c_1_8, .int .i64 (x.Strays)], hR ki_Note 110 (.slice B_1_8 x.Notes.length c_1_8) x.Notes, hR ki_Channel 196 (.slice B_1_5 x.Channels.length c_1_5) x.Channels, hR ki_Script 133 (.slice B_1_2 x.Library.length c_1_2) x.Library, hB g_0_1 36 #[.slice none 0 0, .slice none 0 0, .slice none 0 0, .slice none 0 0, .int .i64 (0)], hB g_0_0 36 #[.slice Ax0 x.Library.length cx0, .slice Ax1 x.Vats.length cx1, .slice Ax2 x.Channels.length cx2, .slice Ax3 x.Notes.length cx3, .int .i64 (x.Strays)]] W146 := Ha148
        clear Ha148
        clear hu147
        have hS150 : Blk W146 g_1_12 36 #[.slice B_1_2 x.Library.length c_1_2, .slice A_1 i1 c_1, .slice B_1_5 x.Channels.length c_1_5, .slice B_1_8 x.Notes.length c_1_8, .int .i64 (x.Strays)] ∧ Blk W146 g_4_2 68 (List.toArray cse127) := ⟨H149.blk 4 rfl, H149.blk 2 rfl⟩
        refine ⟨fun _ => hS150, ?_⟩
        refine anyS_one (i := 5) (by kernel_rfl) ?_
        have H153 : St w No [hR ki_Vat 68 (.slice A_1 i1 c_1) (x.Vats.take i1), hB g_5_4 68 (List.toArray cs_5_3), hM ki_Vat (x.Vats[i1]) cs_5_3, hB g_4_2 68 (List.toArray cse127), hB g_1_12 36 #[.slice B_1_2 x.Library.length c_1_2, .slice A_1 i1 c_1, .slice B_1_5 x.Channels.length c_1_5, .slice B_1_8 x.Notes.length c_1_8, .int .i64 (x.Strays)], hR ki_Note 110 (.slice B_1_8 x.Notes.length c_1_8) x.Notes, hR ki_Channel 196 (.slice B_1_5 x.Channels.length c_1_5) x.Channels, hR ki_Script 133 (.slice B_1_2 x.Library.length c_1_2) x.Library, hB g_0_1 36 #[.slice none 0 0, .slice none 0 0, .slice none 0 0, .slice none 0 0, .int .i64 (0)], hB g_0_0 36 #[.slice Ax0 x.Library.length cx0, .slice Ax1 x.Vats.length cx1, .slice Ax2 x.Channels.length cx2, .slice Ax3 x.Notes.length cx3, .int .i64 (x.Strays)]] W146 := H149.pick [3, 0, 1, 2, 4, 5, 6, 7, 8, 9] (by decide) rfl
        clear H149
        refine op_append1' (xs := (x.Vats.take i1)) (p := x.Vats[i1]) (n' := (i1 + 1)) (ys := (x.Vats.take (i1 + 1))) rfl Tryz.underlying32 ki_Vat_info rfl (by decide) (by decide) rfl rfl (by rw [List.length_take, Nat.min_eq_left (by omega)]; omega) (by rw [List.length_take, Nat.min_eq_left (by omega)]) (List.take_succ_eq_append_getElem hlt1).symm rfl rfl H153 ?_
        intro B_5_5 c_5_5 W151 Ha152
        clear H153
        have H154 : St w No [hR ki_Vat 68 (.slice B_5_5 (i1 + 1) c_5_5) (x.Vats.take (i1 + 1)), hB g_4_2 68 (List.toArray cse127), hB g_1_12 36 #[.slice B_1_2 x.Library.length c_1_2, .slice A_1 i1 c_1, .slice B_1_5 x.Channels.length c_1_5, .slice B_1_8 x.Notes.length c_1_8, .int .i64 (x.Strays)], hR ki_Note 110 (.slice B_1_8 x.Notes.length c_1_8) x.Notes, hR ki_Channel 196 (.slice B_1_5 x.Channels.length c_1_5) x.Channels, hR ki_Script 133 (.slice B_1_2 x.Library.length c_1_2) x.Library, hB g_0_1 36 #[.slice none 0 0, .slice none 0 0, .slice none 0 0, .slice none 0 0, .int .i64 (0)], hB g_0_0 36 #[.slice Ax0 x.Library.length cx0, .slice Ax1 x.Vats.length cx1, .slice Ax2 x.Channels.length cx2, .slice Ax3 x.Notes.length cx3, .int .i64 (x.Strays)]] W151 := Ha152
        clear Ha152
        have hS155 : Blk W151 g_1_12 36 #[.slice B_1_2 x.Library.length c_1_2, .slice A_1 i1 c_1, .slice B_1_5 x.Channels.length c_1_5, .slice B_1_8 x.Notes.length c_1_8, .int .i64 (x.Strays)] ∧ Blk W151 g_4_2 68 (List.toArray cse127) := ⟨H154.blk 2 rfl, H154.blk 1 rfl⟩
        refine ⟨fun _ => hS155, ?_⟩
        refine anyS_take (i := 6) rfl (by kernel_rfl) (by kernel_rfl) (by kernel_rfl) (by kernel_rfl) (by kernel_rfl) (fun _ _ _ h => h) rfl rfl hS155 (fun W' hs' => rn_field fa_36_1 rfl) ?_
        refine anyS_one (i := 7) (by kernel_rfl) ?_
        have H159 : St w No [hB g_1_12 36 #[.slice B_1_2 x.Library.length c_1_2, .slice A_1 i1 c_1, .slice B_1_5 x.Channels.length c_1_5, .slice B_1_8 x.Notes.length c_1_8, .int .i64 (x.Strays)], hR ki_Vat 68 (.slice B_5_5 (i1 + 1) c_5_5) (x.Vats.take (i1 + 1)), hB g_4_2 68 (List.toArray cse127), hR ki_Note 110 (.slice B_1_8 x.Notes.length c_1_8) x.Notes, hR ki_Channel 196 (.slice B_1_5 x.Channels.length c_1_5) x.Channels, hR ki_Script 133 (.slice B_1_2 x.Library.length c_1_2) x.Library, hB g_0_1 36 #[.slice none 0 0, .slice none 0 0, .slice none 0 0, .slice none 0 0, .int .i64 (0)], hB g_0_0 36 #[.slice Ax0 x.Library.length cx0, .slice Ax1 x.Vats.length cx1, .slice Ax2 x.Channels.length cx2, .slice Ax3 x.Notes.length cx3, .int .i64 (x.Strays)]] W151 := H154.pick [2, 0, 1, 3, 4, 5, 6, 7] (by decide) rfl
        clear H154
        refine op_store rfl Tryz.sizeOf32 rfl rfl rfl (Nat.le_of_ble_eq_true rfl) (by simp [Value.cells, Value.oneCell']) H159 ?_
        intro W156 hu157 Ha158
        clear H159
        have H160 : St w No [hB g_1_12 36 #[.slice B_1_2 x.Library.length c_1_2, .slice B_5_5 (i1 + 1) c_5_5, .slice B_1_5 x.Channels.length c_1_5, .slice B_1_8 x.Notes.length c_1_8, .int .i64 (x.Strays)], hR ki_Vat 68 (.slice B_5_5 (i1 + 1) c_5_5) (x.Vats.take (i1 + 1)), hB g_4_2 68 (List.toArray cse127), hR ki_Note 110 (.slice B_1_8 x.Notes.length c_1_8) x.Notes, hR ki_Channel 196 (.slice B_1_5 x.Channels.length c_1_5) x.Channels, hR ki_Script 133 (.slice B_1_2 x.Library.length c_1_2) x.Library, hB g_0_1 36 #[.slice none 0 0, .slice none 0 0, .slice none 0 0, .slice none 0 0, .int .i64 (0)], hB g_0_0 36 #[.slice Ax0 x.Library.length cx0, .slice Ax1 x.Vats.length cx1, .slice Ax2 x.Channels.length cx2, .slice Ax3 x.Notes.length cx3, .int .i64 (x.Strays)]] W156 := Ha158
        clear Ha158
        clear hu157
        refine ⟨fun h => absS (by kernel_rfl) h, ?_⟩
        refine anyS_done (by kernel_rfl) ?_ _
        refine inB_n ?_
        refine then_n ?_
        refine reg_seq [0, 1] rfl ?_
        refine ops_cons ?_
        refine op_pure rfl (rn_inc (k := i1) rfl rfl (by omega)) rfl rfl ?_
        refine ops_cons ?_
        refine op_pure rfl (rn_move rfl) rfl rfl ?_
        refine ops_nil ?_
        refine then_n ?_
        exact (actOf_drop2 [(2, .pointer (some ⟨g_0_1, 0, none⟩)), (3, .pointer (some ⟨g_1_12, 0, none⟩)), (19, .slice Ax1 x.Vats.length cx1), (20, .int .i64 ((x.Vats.length : Nat))), (21, .int .i64 (((i1 + 1 : Nat) : Int)))] rfl).elim fun x' hx => ⟨r122 - 1, (by omega), i1 + 1, B_5_5, c_5_5, x', hx, (by omega), H160.pick [1, 0, 3, 4, 5, 6, 7] (by decide) rfl⟩
      · obtain rfl : i1 = x.Vats.length := by omega
        rw [List.take_length] at H125
        have H161 : St w No [hR ki_Vat 68 (.slice A_1 x.Vats.length c_1) x.Vats, hB g_1_12 36 #[.slice B_1_2 x.Library.length c_1_2, .slice A_1 x.Vats.length c_1, .slice B_1_5 x.Channels.length c_1_5, .slice B_1_8 x.Notes.length c_1_8, .int .i64 (x.Strays)], hR ki_Note 110 (.slice B_1_8 x.Notes.length c_1_8) x.Notes, hR ki_Channel 196 (.slice B_1_5 x.Channels.length c_1_5) x.Channels, hR ki_Script 133 (.slice B_1_2 x.Library.length c_1_2) x.Library, hB g_0_1 36 #[.slice none 0 0, .slice none 0 0, .slice none 0 0, .slice none 0 0, .int .i64 (0)], hB g_0_0 36 #[.slice Ax0 x.Library.length cx0, .slice Ax1 x.Vats.length cx1, .slice Ax2 x.Channels.length cx2, .slice Ax3 x.Notes.length cx3, .int .i64 (x.Strays)]] W123 := H125
        clear H125
        refine wp_exit ?_
        refine then_x ?_
        refine then_x ?_
        refine inB_x ?_
        refine then_n ?_
        refine wp_seq ?_
        refine reg_seq [0, 1] rfl ?_
        refine ops_cons ?_
        refine op_pure rfl (rn_loadB Tryz.isAgg36 Tryz.sizeOf36 rfl (H161.blk 1 rfl) rfl) rfl rfl ?_
        refine ops_cons ?_
        have H165 : St w No [hB g_0_1 36 #[.slice none 0 0, .slice none 0 0, .slice none 0 0, .slice none 0 0, .int .i64 (0)], hR ki_Vat 68 (.slice A_1 x.Vats.length c_1) x.Vats, hB g_1_12 36 #[.slice B_1_2 x.Library.length c_1_2, .slice A_1 x.Vats.length c_1, .slice B_1_5 x.Channels.length c_1_5, .slice B_1_8 x.Notes.length c_1_8, .int .i64 (x.Strays)], hR ki_Note 110 (.slice B_1_8 x.Notes.length c_1_8) x.Notes, hR ki_Channel 196 (.slice B_1_5 x.Channels.length c_1_5) x.Channels, hR ki_Script 133 (.slice B_1_2 x.Library.length c_1_2) x.Library, hB g_0_0 36 #[.slice Ax0 x.Library.length cx0, .slice Ax1 x.Vats.length cx1, .slice Ax2 x.Channels.length cx2, .slice Ax3 x.Notes.length cx3, .int .i64 (x.Strays)]] W123 := H161.pick [5, 0, 1, 2, 3, 4, 6] (by decide) rfl
        clear H161
        refine op_storeW rfl Tryz.sizeOf36 rfl rfl rfl rfl (by simp [Value.oneCell']) H165 ?_
        intro W162 hu163 Ha164
        clear H165
        have H166 : St w No [hB g_0_1 36 #[.slice B_1_2 x.Library.length c_1_2, .slice A_1 x.Vats.length c_1, .slice B_1_5 x.Channels.length c_1_5, .slice B_1_8 x.Notes.length c_1_8, .int .i64 (x.Strays)], hR ki_Vat 68 (.slice A_1 x.Vats.length c_1) x.Vats, hB g_1_12 36 #[.slice B_1_2 x.Library.length c_1_2, .slice A_1 x.Vats.length c_1, .slice B_1_5 x.Channels.length c_1_5, .slice B_1_8 x.Notes.length c_1_8, .int .i64 (x.Strays)], hR ki_Note 110 (.slice B_1_8 x.Notes.length c_1_8) x.Notes, hR ki_Channel 196 (.slice B_1_5 x.Channels.length c_1_5) x.Channels, hR ki_Script 133 (.slice B_1_2 x.Library.length c_1_2) x.Library, hB g_0_0 36 #[.slice Ax0 x.Library.length cx0, .slice Ax1 x.Vats.length cx1, .slice Ax2 x.Channels.length cx2, .slice Ax3 x.Notes.length cx3, .int .i64 (x.Strays)]] W162 := Ha164
        clear Ha164
        clear hu163
        refine ops_nil ?_
        refine then_n ?_
        refine wp_ret ?_
        refine post_cell (.inl rfl) Tryz.results60 Tryz.isAgg36 Tryz.sizeOf36 rfl (H166.blk 0 rfl) rfl ?_
        exact ⟨_, rfl, ki_World_close (H166.pick [5, 1, 4, 3] (by decide) rfl).star, H166.1⟩
end Go.Proofs.YtfnedoiplblldaaGreatFam
