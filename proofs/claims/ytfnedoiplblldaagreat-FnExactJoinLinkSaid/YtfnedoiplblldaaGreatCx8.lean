/- Vats copied. No conditions. -/
import Derived.Test.YtfnedoiplblldaaGreatProg
import Derived.Test.YtfnedoiplblldaaGreatTy
import Derived.Test.YtfnedoiplblldaaGreatOpn
import Derived.Test.YtfnedoiplblldaaGreatFamVat
import Derived.Test.YtfnedoiplblldaaGreatCp4
import Derived.Test.YtfnedoiplblldaaGreatCp2
namespace Go.Proofs.YtfnedoiplblldaaGreatFam
open Go.ChangeShapes Go.WideShapes Go.RowKit Go.Proofs.YtfnedoiplblldaaGreatSep Go.Proofs.YtfnedoiplblldaaGreatT Go.Proofs.YtfnedoiplblldaaGreatK
set_option linter.unusedVariables false
set_option linter.unusedSimpArgs false
set_option maxHeartbeats 4000000 in
set_option maxRecDepth 100000 in
theorem l12Copy_s (x : GVat) (cs : List Value) (w : World) (h : ki_Vat.K w x cs) (hs : szn_Vat x ≤ 4194304) : Calls Tryz.prog 90 #[.agg cs.toArray] w (RetAgg ki_Vat x w) := by
  obtain ⟨Ax1, cx1, Ax2, cx2, Ax3, cx3, Ax4, cx4, rfl, hlx1, hCx1, hlx2, hCx2, hlx3, hCx3, hlx4, hCx4⟩ := ki_Vat_K h
  have s_Entities : sznS szn_Entity x.Entities ≤ 4194304 := by unfold szn_Vat at hs; omega
  have n_Entities : x.Entities.length ≤ 4194304 := by unfold sznS at s_Entities; omega
  have s_Loop : sznS szn_Sent x.Loop ≤ 4194304 := by unfold szn_Vat at hs; omega
  have n_Loop : x.Loop.length ≤ 4194304 := by unfold sznS at s_Loop; omega
  have s_Links : sznS szn_Link x.Links ≤ 4194304 := by unfold szn_Vat at hs; omega
  have n_Links : x.Links.length ≤ 4194304 := by unfold sznS at s_Links; omega
  have s_Out : sznS szn_Outgoing x.Out ≤ 4194304 := by unfold szn_Vat at hs; omega
  have n_Out : x.Out.length ≤ 4194304 := by unfold sznS at s_Out; omega
  refine enter 76 [(0, .agg #[.int .i64 (x.Id), .slice Ax1 x.Entities.length cx1, .slice Ax2 x.Loop.length cx2, .slice Ax3 x.Links.length cx3, .slice Ax4 x.Out.length cx4])] Tryz.func90 rfl (by kernel_rfl) ?_
  intro xj
  have H1 : St w No [] w := St.enter
  refine wp_seq ?_
  refine reg_seq [0, 1] rfl ?_
  refine ops_cons ?_
  refine op_box rfl rfl rfl rfl H1 ?_
  intro g_0_0 W2 hu3 Ha4
  clear H1
  have H5 : St w No [hB g_0_0 68 #[.int .i64 (x.Id), .slice Ax1 x.Entities.length cx1, .slice Ax2 x.Loop.length cx2, .slice Ax3 x.Links.length cx3, .slice Ax4 x.Out.length cx4]] W2 := Ha4
  clear Ha4
  clear hu3
  refine ops_cons ?_
  refine op_alloc rfl Tryz.zeroValue68 rfl rfl H5 ?_
  intro g_0_1 W6 hu7 Ha8
  clear H5
  have H9 : St w No [hB g_0_1 68 #[.int .i64 (0), .slice none 0 0, .slice none 0 0, .slice none 0 0, .slice none 0 0], hB g_0_0 68 #[.int .i64 (x.Id), .slice Ax1 x.Entities.length cx1, .slice Ax2 x.Loop.length cx2, .slice Ax3 x.Links.length cx3, .slice Ax4 x.Out.length cx4]] W6 := Ha8
  clear Ha8
  clear hu7
  refine ops_nil ?_
  refine then_n ?_
  refine wp_seq ?_
  refine reg_cut (fun a' W' => ∃ (B_1_4 : Option Addr) (c_1_4 : Nat) (g_1_6 : Nat) (x' : Nat → Value), a' = actOf 76 x' [(1, .pointer (some ⟨g_0_0, 0, none⟩)), (2, .pointer (some ⟨g_0_1, 0, none⟩)), (3, .pointer (some ⟨g_1_6, 0, none⟩))] ∧ St w No [hB g_1_6 68 #[.int .i64 (x.Id), .slice none 0 0, .slice B_1_4 x.Loop.length c_1_4, .slice none 0 0, .slice none 0 0], hR ki_Sent 235 (.slice B_1_4 x.Loop.length c_1_4) x.Loop, hB g_0_1 68 #[.int .i64 (0), .slice none 0 0, .slice none 0 0, .slice none 0 0, .slice none 0 0], hB g_0_0 68 #[.int .i64 (x.Id), .slice Ax1 x.Entities.length cx1, .slice Ax2 x.Loop.length cx2, .slice Ax3 x.Links.length cx3, .slice Ax4 x.Out.length cx4]] W') ?_ ?_
  · refine reg_draw (fun W' => Blk W' g_0_0 68 #[.int .i64 (x.Id), .slice Ax1 x.Entities.length cx1, .slice Ax2 x.Loop.length cx2, .slice Ax3 x.Links.length cx3, .slice Ax4 x.Out.length cx4]) 8 (by kernel_rfl) ?_
    have H10 : St w No [hB g_0_1 68 #[.int .i64 (0), .slice none 0 0, .slice none 0 0, .slice none 0 0, .slice none 0 0], hB g_0_0 68 #[.int .i64 (x.Id), .slice Ax1 x.Entities.length cx1, .slice Ax2 x.Loop.length cx2, .slice Ax3 x.Links.length cx3, .slice Ax4 x.Out.length cx4]] W6.drew := H9.drew
    clear H9
    have hS11 : Blk W6.drew g_0_0 68 #[.int .i64 (x.Id), .slice Ax1 x.Entities.length cx1, .slice Ax2 x.Loop.length cx2, .slice Ax3 x.Links.length cx3, .slice Ax4 x.Out.length cx4] := H10.blk 1 rfl
    refine anyS_take (i := 0) rfl (by kernel_rfl) (by kernel_rfl) (by kernel_rfl) (by kernel_rfl) (by kernel_rfl) (fun _ _ _ h => h) rfl rfl hS11 (fun W' hs' => rn_field fa_68_0 rfl) ?_
    refine anyS_take (i := 1) rfl (by kernel_rfl) (by kernel_rfl) (by kernel_rfl) (by kernel_rfl) (by kernel_rfl) (fun _ _ _ h => h) rfl rfl hS11 (fun W' hs' => rn_loadC (v := .int .i64 (x.Id)) Tryz.isAgg3 rfl hs' rfl) ?_
    refine anyS_take (i := 2) rfl (by kernel_rfl) (by kernel_rfl) (by kernel_rfl) (by kernel_rfl) (by kernel_rfl) (fun _ _ _ h => h) rfl rfl hS11 (fun W' hs' => rn_field fa_68_2 rfl) ?_
    refine anyS_take (i := 3) rfl (by kernel_rfl) (by kernel_rfl) (by kernel_rfl) (by kernel_rfl) (by kernel_rfl) (fun _ _ _ h => h) rfl rfl hS11 (fun W' hs' => rn_loadC (v := .slice Ax2 x.Loop.length cx2) Tryz.isAgg64 rfl hs' rfl) ?_
    refine anyS_two (i := 4) (i2 := 6) (by kernel_rfl) ?_ ?_
    · refine op_call rfl Tryz.call157 (vs := #[.slice Ax2 x.Loop.length cx2]) rfl rfl rfl (l9CopySents_s x.Loop _ _ _ (C_upd H10.1 hCx2) s_Loop) ?_
      rintro e16 W15 ⟨v12, rfl, hR13, hu14⟩
      refine ⟨_, rfl, ?_⟩
      obtain ⟨B_1_4, c_1_4, rfl⟩ := R_slice hR13
      have H17 : St w No [hR ki_Sent 235 (.slice B_1_4 x.Loop.length c_1_4) x.Loop, hB g_0_1 68 #[.int .i64 (0), .slice none 0 0, .slice none 0 0, .slice none 0 0, .slice none 0 0], hB g_0_0 68 #[.int .i64 (x.Id), .slice Ax1 x.Entities.length cx1, .slice Ax2 x.Loop.length cx2, .slice Ax3 x.Links.length cx3, .slice Ax4 x.Out.length cx4]] W15 := H10.new hu14 hR13
      clear H10
      have hS18 : Blk W15 g_0_0 68 #[.int .i64 (x.Id), .slice Ax1 x.Entities.length cx1, .slice Ax2 x.Loop.length cx2, .slice Ax3 x.Links.length cx3, .slice Ax4 x.Out.length cx4] := H17.blk 2 rfl
      refine ⟨fun _ => hS18, ?_⟩
      refine anyS_take (i := 5) rfl (by kernel_rfl) (by kernel_rfl) (by kernel_rfl) (by kernel_rfl) (by kernel_rfl) (fun _ _ _ h => h) rfl rfl hS18 (fun W' hs' => rn_build (vs := [(0, .int .i64 (x.Id)), (2, .slice B_1_4 x.Loop.length c_1_4)]) (cells := #[.int .i64 (x.Id), .slice none 0 0, .slice B_1_4 x.Loop.length c_1_4, .slice none 0 0, .slice none 0 0]) rfl (by kernel_rfl)) ?_
      refine anyS_one (i := 6) (by kernel_rfl) ?_
      refine op_alloc rfl Tryz.zeroValue68 rfl rfl H17 ?_
      intro g_1_6 W19 hu20 Ha21
      clear H17
      have H22 : St w No [hB g_1_6 68 #[.int .i64 (0), .slice none 0 0, .slice none 0 0, .slice none 0 0, .slice none 0 0], hR ki_Sent 235 (.slice B_1_4 x.Loop.length c_1_4) x.Loop, hB g_0_1 68 #[.int .i64 (0), .slice none 0 0, .slice none 0 0, .slice none 0 0, .slice none 0 0], hB g_0_0 68 #[.int .i64 (x.Id), .slice Ax1 x.Entities.length cx1, .slice Ax2 x.Loop.length cx2, .slice Ax3 x.Links.length cx3, .slice Ax4 x.Out.length cx4]] W19 := Ha21
      clear Ha21
      clear hu20
      have hS23 : Blk W19 g_0_0 68 #[.int .i64 (x.Id), .slice Ax1 x.Entities.length cx1, .slice Ax2 x.Loop.length cx2, .slice Ax3 x.Links.length cx3, .slice Ax4 x.Out.length cx4] := H22.blk 3 rfl
      refine ⟨fun _ => hS23, ?_⟩
      refine anyS_one (i := 7) (by kernel_rfl) ?_
      refine op_storeW rfl Tryz.sizeOf68 rfl rfl rfl rfl (by simp [Value.oneCell']) H22 ?_
      intro W24 hu25 Ha26
      clear H22
      have H27 : St w No [hB g_1_6 68 #[.int .i64 (x.Id), .slice none 0 0, .slice B_1_4 x.Loop.length c_1_4, .slice none 0 0, .slice none 0 0], hR ki_Sent 235 (.slice B_1_4 x.Loop.length c_1_4) x.Loop, hB g_0_1 68 #[.int .i64 (0), .slice none 0 0, .slice none 0 0, .slice none 0 0, .slice none 0 0], hB g_0_0 68 #[.int .i64 (x.Id), .slice Ax1 x.Entities.length cx1, .slice Ax2 x.Loop.length cx2, .slice Ax3 x.Links.length cx3, .slice Ax4 x.Out.length cx4]] W24 := Ha26
      clear Ha26
      clear hu25
      have hS28 : Blk W24 g_0_0 68 #[.int .i64 (x.Id), .slice Ax1 x.Entities.length cx1, .slice Ax2 x.Loop.length cx2, .slice Ax3 x.Links.length cx3, .slice Ax4 x.Out.length cx4] := H27.blk 3 rfl
      refine ⟨fun _ => hS28, ?_⟩
      refine anyS_done (by kernel_rfl) ?_ _
      exact (actOf_drop2 [(1, .pointer (some ⟨g_0_0, 0, none⟩)), (2, .pointer (some ⟨g_0_1, 0, none⟩)), (3, .pointer (some ⟨g_1_6, 0, none⟩))] rfl).elim fun x' hx => ⟨B_1_4, c_1_4, g_1_6, x', hx, H27⟩
    · refine op_alloc rfl Tryz.zeroValue68 rfl rfl H10 ?_
      intro g_1_6 W29 hu30 Ha31
      clear H10
      have H32 : St w No [hB g_1_6 68 #[.int .i64 (0), .slice none 0 0, .slice none 0 0, .slice none 0 0, .slice none 0 0], hB g_0_1 68 #[.int .i64 (0), .slice none 0 0, .slice none 0 0, .slice none 0 0, .slice none 0 0], hB g_0_0 68 #[.int .i64 (x.Id), .slice Ax1 x.Entities.length cx1, .slice Ax2 x.Loop.length cx2, .slice Ax3 x.Links.length cx3, .slice Ax4 x.Out.length cx4]] W29 := Ha31
      clear Ha31
      clear hu30
      have hS33 : Blk W29 g_0_0 68 #[.int .i64 (x.Id), .slice Ax1 x.Entities.length cx1, .slice Ax2 x.Loop.length cx2, .slice Ax3 x.Links.length cx3, .slice Ax4 x.Out.length cx4] := H32.blk 2 rfl
      refine ⟨fun _ => hS33, ?_⟩
      refine anyS_one (i := 4) (by kernel_rfl) ?_
      refine op_call rfl Tryz.call157 (vs := #[.slice Ax2 x.Loop.length cx2]) rfl rfl rfl (l9CopySents_s x.Loop _ _ _ (C_upd H32.1 hCx2) s_Loop) ?_
      rintro e38 W37 ⟨v34, rfl, hR35, hu36⟩
      refine ⟨_, rfl, ?_⟩
      obtain ⟨B_1_4, c_1_4, rfl⟩ := R_slice hR35
      have H39 : St w No [hR ki_Sent 235 (.slice B_1_4 x.Loop.length c_1_4) x.Loop, hB g_1_6 68 #[.int .i64 (0), .slice none 0 0, .slice none 0 0, .slice none 0 0, .slice none 0 0], hB g_0_1 68 #[.int .i64 (0), .slice none 0 0, .slice none 0 0, .slice none 0 0, .slice none 0 0], hB g_0_0 68 #[.int .i64 (x.Id), .slice Ax1 x.Entities.length cx1, .slice Ax2 x.Loop.length cx2, .slice Ax3 x.Links.length cx3, .slice Ax4 x.Out.length cx4]] W37 := H32.new hu36 hR35
      clear H32
      have hS40 : Blk W37 g_0_0 68 #[.int .i64 (x.Id), .slice Ax1 x.Entities.length cx1, .slice Ax2 x.Loop.length cx2, .slice Ax3 x.Links.length cx3, .slice Ax4 x.Out.length cx4] := H39.blk 3 rfl
      refine ⟨fun _ => hS40, ?_⟩
      refine anyS_take (i := 5) rfl (by kernel_rfl) (by kernel_rfl) (by kernel_rfl) (by kernel_rfl) (by kernel_rfl) (fun _ _ _ h => h) rfl rfl hS40 (fun W' hs' => rn_build (vs := [(0, .int .i64 (x.Id)), (2, .slice B_1_4 x.Loop.length c_1_4)]) (cells := #[.int .i64 (x.Id), .slice none 0 0, .slice B_1_4 x.Loop.length c_1_4, .slice none 0 0, .slice none 0 0]) rfl (by kernel_rfl)) ?_
      refine anyS_one (i := 7) (by kernel_rfl) ?_
      have H44 : St w No [hB g_1_6 68 #[.int .i64 (0), .slice none 0 0, .slice none 0 0, .slice none 0 0, .slice none 0 0], hR ki_Sent 235 (.slice B_1_4 x.Loop.length c_1_4) x.Loop, hB g_0_1 68 #[.int .i64 (0), .slice none 0 0, .slice none 0 0, .slice none 0 0, .slice none 0 0], hB g_0_0 68 #[.int .i64 (x.Id), .slice Ax1 x.Entities.length cx1, .slice Ax2 x.Loop.length cx2, .slice Ax3 x.Links.length cx3, .slice Ax4 x.Out.length cx4]] W37 := H39.pick [1, 0, 2, 3] (by decide) rfl
      clear H39
      refine op_storeW rfl Tryz.sizeOf68 rfl rfl rfl rfl (by simp [Value.oneCell']) H44 ?_
      intro W41 hu42 Ha43
      clear H44
      have H45 : St w No [hB g_1_6 68 #[.int .i64 (x.Id), .slice none 0 0, .slice B_1_4 x.Loop.length c_1_4, .slice none 0 0, .slice none 0 0], hR ki_Sent 235 (.slice B_1_4 x.Loop.length c_1_4) x.Loop, hB g_0_1 68 #[.int .i64 (0), .slice none 0 0, .slice none 0 0, .slice none 0 0, .slice none 0 0], hB g_0_0 68 #[.int .i64 (x.Id), .slice Ax1 x.Entities.length cx1, .slice Ax2 x.Loop.length cx2, .slice Ax3 x.Links.length cx3, .slice Ax4 x.Out.length cx4]] W41 := Ha43
      clear Ha43
      clear hu42
      have hS46 : Blk W41 g_0_0 68 #[.int .i64 (x.Id), .slice Ax1 x.Entities.length cx1, .slice Ax2 x.Loop.length cx2, .slice Ax3 x.Links.length cx3, .slice Ax4 x.Out.length cx4] := H45.blk 3 rfl
      refine ⟨fun _ => hS46, ?_⟩
      refine anyS_done (by kernel_rfl) ?_ _
      exact (actOf_drop2 [(1, .pointer (some ⟨g_0_0, 0, none⟩)), (2, .pointer (some ⟨g_0_1, 0, none⟩)), (3, .pointer (some ⟨g_1_6, 0, none⟩))] rfl).elim fun x' hx => ⟨B_1_4, c_1_4, g_1_6, x', hx, H45⟩
  · rintro _ W48 ⟨B_1_4, c_1_4, g_1_6, x49, rfl, H47⟩
    refine then_n ?_
    refine wp_seq ?_
    refine wp_seq ?_
    refine reg_seq [0] rfl ?_
    refine ops_cons ?_
    refine op_pure rfl (rn_assign rfl) rfl rfl ?_
    refine ops_nil ?_
    refine then_n ?_
    refine wp_block ?_
    have H50 : St w No [hR ki_Entity 171 (.slice none 0 0) ([]), hB g_1_6 68 #[.int .i64 (x.Id), .slice none 0 0, .slice B_1_4 x.Loop.length c_1_4, .slice none 0 0, .slice none 0 0], hR ki_Sent 235 (.slice B_1_4 x.Loop.length c_1_4) x.Loop, hB g_0_1 68 #[.int .i64 (0), .slice none 0 0, .slice none 0 0, .slice none 0 0, .slice none 0 0], hB g_0_0 68 #[.int .i64 (x.Id), .slice Ax1 x.Entities.length cx1, .slice Ax2 x.Loop.length cx2, .slice Ax3 x.Links.length cx3, .slice Ax4 x.Out.length cx4]] W48 := H47.add0 (q := hR ki_Entity 171 (.slice none 0 0) []) R_nil
    clear H47
    refine wp_loop_ghost (fun r a' W' => ∃ (i1 : Nat) (A_1 : Option Addr) (c_1 : Nat) (x' : Nat → Value), a' = actOf 76 x' [(1, .pointer (some ⟨g_0_0, 0, none⟩)), (2, .pointer (some ⟨g_0_1, 0, none⟩)), (3, .pointer (some ⟨g_1_6, 0, none⟩)), (4, .int .i64 (((i1 : Nat) : Int)))] ∧ (i1 + r = x.Entities.length) ∧ St w No [hR ki_Entity 171 (.slice A_1 i1 c_1) (x.Entities.take i1), hB g_1_6 68 #[.int .i64 (x.Id), .slice A_1 i1 c_1, .slice B_1_4 x.Loop.length c_1_4, .slice none 0 0, .slice none 0 0], hR ki_Sent 235 (.slice B_1_4 x.Loop.length c_1_4) x.Loop, hB g_0_1 68 #[.int .i64 (0), .slice none 0 0, .slice none 0 0, .slice none 0 0, .slice none 0 0], hB g_0_0 68 #[.int .i64 (x.Id), .slice Ax1 x.Entities.length cx1, .slice Ax2 x.Loop.length cx2, .slice Ax3 x.Links.length cx3, .slice Ax4 x.Out.length cx4]] W') x.Entities.length ?_ ?_
    · exact (actOf_drop2 [(1, .pointer (some ⟨g_0_0, 0, none⟩)), (2, .pointer (some ⟨g_0_1, 0, none⟩)), (3, .pointer (some ⟨g_1_6, 0, none⟩)), (4, .int .i64 (((0 : Nat) : Int)))] rfl).elim fun x' hx => ⟨0, none, 0, x', hx, (by omega), H50⟩
    · rintro r51 _ W52 ⟨i1, A_1, c_1, x53, rfl, hi1, H54⟩
      clear H50
      refine wp_seq ?_
      refine wp_seq ?_
      refine reg_seq [0, 1, 2, 3, 4] rfl ?_
      refine ops_cons ?_
      refine op_pure rfl (rn_move rfl) rfl rfl ?_
      refine ops_cons ?_
      refine op_pure rfl (rn_field fa_68_1 rfl) rfl rfl ?_
      refine ops_cons ?_
      refine op_pure rfl (rn_loadC (v := .slice Ax1 x.Entities.length cx1) Tryz.isAgg63 rfl (H54.blk 4 rfl) rfl) rfl rfl ?_
      refine ops_cons ?_
      refine op_pure rfl (rn_len Tryz.runUnderlying63 rfl) rfl rfl ?_
      refine ops_cons ?_
      refine op_pure rfl (rn_lss rfl rfl) rfl rfl ?_
      refine ops_nil ?_
      refine then_n ?_
      refine cond_dec rfl (fun hc55 => ?_) (fun hc55 => ?_)
      · have hlt1 : i1 < x.Entities.length := by omega
        obtain ⟨ade56, cse56, hAe56, hKe56, hce56⟩ := C_elem hCx1 i1 hlt1
        have hle56 := ki_Entity_len hKe56
        have hoe56 := ki_Entity_one hKe56
        have hsi1 : szn_Entity x.Entities[i1] ≤ 4194304 := by have h1 := sumS_at szn_Entity x.Entities i1 hlt1; have h2 := s_Entities; unfold sznS at h2; omega
        refine wp_skip ?_
        refine then_n ?_
        refine wp_seq ?_
        refine wp_block ?_
        refine reg_draw (fun W' => Blk W' g_1_6 68 #[.int .i64 (x.Id), .slice A_1 i1 c_1, .slice B_1_4 x.Loop.length c_1_4, .slice none 0 0, .slice none 0 0] ∧ Blk W' g_0_0 68 #[.int .i64 (x.Id), .slice Ax1 x.Entities.length cx1, .slice Ax2 x.Loop.length cx2, .slice Ax3 x.Links.length cx3, .slice Ax4 x.Out.length cx4] ∧ Cat W' (Addr.add ade56 (i1 * 12)) cse56) 11 (by kernel_rfl) ?_
        have H57 : St w No [hR ki_Entity 171 (.slice A_1 i1 c_1) (x.Entities.take i1), hB g_1_6 68 #[.int .i64 (x.Id), .slice A_1 i1 c_1, .slice B_1_4 x.Loop.length c_1_4, .slice none 0 0, .slice none 0 0], hR ki_Sent 235 (.slice B_1_4 x.Loop.length c_1_4) x.Loop, hB g_0_1 68 #[.int .i64 (0), .slice none 0 0, .slice none 0 0, .slice none 0 0, .slice none 0 0], hB g_0_0 68 #[.int .i64 (x.Id), .slice Ax1 x.Entities.length cx1, .slice Ax2 x.Loop.length cx2, .slice Ax3 x.Links.length cx3, .slice Ax4 x.Out.length cx4]] W52.drew := H54.drew
        clear H54
        have hS58 : Blk W52.drew g_1_6 68 #[.int .i64 (x.Id), .slice A_1 i1 c_1, .slice B_1_4 x.Loop.length c_1_4, .slice none 0 0, .slice none 0 0] ∧ Blk W52.drew g_0_0 68 #[.int .i64 (x.Id), .slice Ax1 x.Entities.length cx1, .slice Ax2 x.Loop.length cx2, .slice Ax3 x.Links.length cx3, .slice Ax4 x.Out.length cx4] ∧ Cat W52.drew (Addr.add ade56 (i1 * 12)) cse56 := ⟨H57.blk 1 rfl, H57.blk 4 rfl, (Cat.upd hce56 H57.1)⟩
        refine anyS_take (i := 0) rfl (by kernel_rfl) (by kernel_rfl) (by kernel_rfl) (by kernel_rfl) (by kernel_rfl) (fun _ _ _ h => h) rfl rfl hS58 (fun W' hs' => rn_field fa_68_1 rfl) ?_
        refine anyS_take (i := 1) rfl (by kernel_rfl) (by kernel_rfl) (by kernel_rfl) (by kernel_rfl) (by kernel_rfl) (fun _ _ _ h => h) rfl rfl hS58 (fun W' hs' => rn_loadC (v := .slice A_1 i1 c_1) Tryz.isAgg63 rfl hs'.1 rfl) ?_
        refine anyS_take (i := 2) rfl (by kernel_rfl) (by kernel_rfl) (by kernel_rfl) (by kernel_rfl) (by kernel_rfl) (fun _ _ _ h => h) rfl rfl hS58 (fun W' hs' => rn_field fa_68_1 rfl) ?_
        refine anyS_take (i := 3) rfl (by kernel_rfl) (by kernel_rfl) (by kernel_rfl) (by kernel_rfl) (by kernel_rfl) (fun _ _ _ h => h) rfl rfl hS58 (fun W' hs' => rn_loadC (v := .slice Ax1 x.Entities.length cx1) Tryz.isAgg63 rfl hs'.2.1 rfl) ?_
        refine anyS_take (i := 4) rfl (by kernel_rfl) (by kernel_rfl) (by kernel_rfl) (by kernel_rfl) (by kernel_rfl) (fun _ _ _ h => h) rfl rfl hS58 (fun W' hs' => rn_move rfl) ?_
        refine anyS_take (i := 5) rfl (by kernel_rfl) (by kernel_rfl) (by kernel_rfl) (by kernel_rfl) (by kernel_rfl) (fun _ _ _ h => h) rfl rfl hS58 (fun W' hs' => rn_indexA (k := i1) Tryz.runUnderlying63 Tryz.sizeOf171 rfl rfl hAe56 hlt1) ?_
        refine anyS_take (i := 6) rfl (by kernel_rfl) (by kernel_rfl) (by kernel_rfl) (by kernel_rfl) (by kernel_rfl) (fun _ _ _ h => h) rfl rfl hS58 (fun W' hs' => rn_loadN Tryz.isAgg171 Tryz.sizeOf171 rfl hs'.2.2 hle56) ?_
        refine anyS_one (i := 7) (by kernel_rfl) ?_
        refine op_call rfl Tryz.call158 (vs := #[.agg (List.toArray cse56)]) rfl rfl rfl (l9Copy_s x.Entities[i1] _ _ (K_upd H57.1 hKe56) hsi1) ?_
        rintro e62 W61 ⟨cs_5_7, rfl, hM59, hu60⟩
        refine ⟨_, rfl, ?_⟩
        have hl63 := ki_Entity_len (ki_Entity.K_of_M hM59)
        have ho64 := ki_Entity_one (ki_Entity.K_of_M hM59)
        have H65 : St w No [hM ki_Entity (x.Entities[i1]) cs_5_7, hR ki_Entity 171 (.slice A_1 i1 c_1) (x.Entities.take i1), hB g_1_6 68 #[.int .i64 (x.Id), .slice A_1 i1 c_1, .slice B_1_4 x.Loop.length c_1_4, .slice none 0 0, .slice none 0 0], hR ki_Sent 235 (.slice B_1_4 x.Loop.length c_1_4) x.Loop, hB g_0_1 68 #[.int .i64 (0), .slice none 0 0, .slice none 0 0, .slice none 0 0, .slice none 0 0], hB g_0_0 68 #[.int .i64 (x.Id), .slice Ax1 x.Entities.length cx1, .slice Ax2 x.Loop.length cx2, .slice Ax3 x.Links.length cx3, .slice Ax4 x.Out.length cx4]] W61 := H57.new hu60 hM59
        clear H57
        have hS66 : Blk W61 g_1_6 68 #[.int .i64 (x.Id), .slice A_1 i1 c_1, .slice B_1_4 x.Loop.length c_1_4, .slice none 0 0, .slice none 0 0] ∧ Blk W61 g_0_0 68 #[.int .i64 (x.Id), .slice Ax1 x.Entities.length cx1, .slice Ax2 x.Loop.length cx2, .slice Ax3 x.Links.length cx3, .slice Ax4 x.Out.length cx4] ∧ Cat W61 (Addr.add ade56 (i1 * 12)) cse56 := ⟨H65.blk 2 rfl, H65.blk 5 rfl, (Cat.upd hce56 H65.1)⟩
        refine ⟨fun _ => hS66, ?_⟩
        refine anyS_one (i := 8) (by kernel_rfl) ?_
        refine op_slice1 rfl Tryz.runUnderlying63 Tryz.sizeOf171 (by decide) Tryz.zeroValue171 rfl (ki_Entity_len (H65.kn 0 rfl)) rfl rfl H65 ?_
        intro g_5_8 W67 hu68 Ha69
        clear H65
        have H70 : St w No [hB g_5_8 171 (List.toArray cs_5_7), hM ki_Entity (x.Entities[i1]) cs_5_7, hR ki_Entity 171 (.slice A_1 i1 c_1) (x.Entities.take i1), hB g_1_6 68 #[.int .i64 (x.Id), .slice A_1 i1 c_1, .slice B_1_4 x.Loop.length c_1_4, .slice none 0 0, .slice none 0 0], hR ki_Sent 235 (.slice B_1_4 x.Loop.length c_1_4) x.Loop, hB g_0_1 68 #[.int .i64 (0), .slice none 0 0, .slice none 0 0, .slice none 0 0, .slice none 0 0], hB g_0_0 68 #[.int .i64 (x.Id), .slice Ax1 x.Entities.length cx1, .slice Ax2 x.Loop.length cx2, .slice Ax3 x.Links.length cx3, .slice Ax4 x.Out.length cx4]] W67 := Ha69
        clear Ha69
        clear hu68
        have hS71 : Blk W67 g_1_6 68 #[.int .i64 (x.Id), .slice A_1 i1 c_1, .slice B_1_4 x.Loop.length c_1_4, .slice none 0 0, .slice none 0 0] ∧ Blk W67 g_0_0 68 #[.int .i64 (x.Id), .slice Ax1 x.Entities.length cx1, .slice Ax2 x.Loop.length cx2, .slice Ax3 x.Links.length cx3, .slice Ax4 x.Out.length cx4] ∧ Cat W67 (Addr.add ade56 (i1 * 12)) cse56 := ⟨H70.blk 3 rfl, H70.blk 6 rfl, (Cat.upd hce56 H70.1)⟩
        refine ⟨fun _ => hS71, ?_⟩
        refine anyS_one (i := 9) (by kernel_rfl) ?_
        have H74 : St w No [hR ki_Entity 171 (.slice A_1 i1 c_1) (x.Entities.take i1), hB g_5_8 171 (List.toArray cs_5_7), hM ki_Entity (x.Entities[i1]) cs_5_7, hB g_1_6 68 #[.int .i64 (x.Id), .slice A_1 i1 c_1, .slice B_1_4 x.Loop.length c_1_4, .slice none 0 0, .slice none 0 0], hR ki_Sent 235 (.slice B_1_4 x.Loop.length c_1_4) x.Loop, hB g_0_1 68 #[.int .i64 (0), .slice none 0 0, .slice none 0 0, .slice none 0 0, .slice none 0 0], hB g_0_0 68 #[.int .i64 (x.Id), .slice Ax1 x.Entities.length cx1, .slice Ax2 x.Loop.length cx2, .slice Ax3 x.Links.length cx3, .slice Ax4 x.Out.length cx4]] W67 := H70.pick [2, 0, 1, 3, 4, 5, 6] (by decide) rfl
        clear H70
        refine op_append1' (xs := (x.Entities.take i1)) (p := x.Entities[i1]) (n' := (i1 + 1)) (ys := (x.Entities.take (i1 + 1))) rfl Tryz.underlying63 ki_Entity_info rfl (by decide) (by decide) rfl rfl (by rw [List.length_take, Nat.min_eq_left (by omega)]; omega) (by rw [List.length_take, Nat.min_eq_left (by omega)]) (List.take_succ_eq_append_getElem hlt1).symm rfl rfl H74 ?_
        intro B_5_9 c_5_9 W72 Ha73
        clear H74
        have H75 : St w No [hR ki_Entity 171 (.slice B_5_9 (i1 + 1) c_5_9) (x.Entities.take (i1 + 1)), hB g_1_6 68 #[.int .i64 (x.Id), .slice A_1 i1 c_1, .slice B_1_4 x.Loop.length c_1_4, .slice none 0 0, .slice none 0 0], hR ki_Sent 235 (.slice B_1_4 x.Loop.length c_1_4) x.Loop, hB g_0_1 68 #[.int .i64 (0), .slice none 0 0, .slice none 0 0, .slice none 0 0, .slice none 0 0], hB g_0_0 68 #[.int .i64 (x.Id), .slice Ax1 x.Entities.length cx1, .slice Ax2 x.Loop.length cx2, .slice Ax3 x.Links.length cx3, .slice Ax4 x.Out.length cx4]] W72 := Ha73
        clear Ha73
        have hS76 : Blk W72 g_1_6 68 #[.int .i64 (x.Id), .slice A_1 i1 c_1, .slice B_1_4 x.Loop.length c_1_4, .slice none 0 0, .slice none 0 0] ∧ Blk W72 g_0_0 68 #[.int .i64 (x.Id), .slice Ax1 x.Entities.length cx1, .slice Ax2 x.Loop.length cx2, .slice Ax3 x.Links.length cx3, .slice Ax4 x.Out.length cx4] ∧ Cat W72 (Addr.add ade56 (i1 * 12)) cse56 := ⟨H75.blk 1 rfl, H75.blk 4 rfl, (Cat.upd hce56 H75.1)⟩
        refine ⟨fun _ => hS76, ?_⟩
        refine anyS_take (i := 10) rfl (by kernel_rfl) (by kernel_rfl) (by kernel_rfl) (by kernel_rfl) (by kernel_rfl) (fun _ _ _ h => h) rfl rfl hS76 (fun W' hs' => rn_field fa_68_1 rfl) ?_
        refine anyS_one (i := 11) (by kernel_rfl) ?_
        have H80 : St w No [hB g_1_6 68 #[.int .i64 (x.Id), .slice A_1 i1 c_1, .slice B_1_4 x.Loop.length c_1_4, .slice none 0 0, .slice none 0 0], hR ki_Entity 171 (.slice B_5_9 (i1 + 1) c_5_9) (x.Entities.take (i1 + 1)), hR ki_Sent 235 (.slice B_1_4 x.Loop.length c_1_4) x.Loop, hB g_0_1 68 #[.int .i64 (0), .slice none 0 0, .slice none 0 0, .slice none 0 0, .slice none 0 0], hB g_0_0 68 #[.int .i64 (x.Id), .slice Ax1 x.Entities.length cx1, .slice Ax2 x.Loop.length cx2, .slice Ax3 x.Links.length cx3, .slice Ax4 x.Out.length cx4]] W72 := H75.pick [1, 0, 2, 3, 4] (by decide) rfl
        clear H75
        refine op_store rfl Tryz.sizeOf63 rfl rfl rfl (Nat.le_of_ble_eq_true rfl) (by simp [Value.cells, Value.oneCell']) H80 ?_
        intro W77 hu78 Ha79
        clear H80
        have H81 : St w No [hB g_1_6 68 #[.int .i64 (x.Id), .slice B_5_9 (i1 + 1) c_5_9, .slice B_1_4 x.Loop.length c_1_4, .slice none 0 0, .slice none 0 0], hR ki_Entity 171 (.slice B_5_9 (i1 + 1) c_5_9) (x.Entities.take (i1 + 1)), hR ki_Sent 235 (.slice B_1_4 x.Loop.length c_1_4) x.Loop, hB g_0_1 68 #[.int .i64 (0), .slice none 0 0, .slice none 0 0, .slice none 0 0, .slice none 0 0], hB g_0_0 68 #[.int .i64 (x.Id), .slice Ax1 x.Entities.length cx1, .slice Ax2 x.Loop.length cx2, .slice Ax3 x.Links.length cx3, .slice Ax4 x.Out.length cx4]] W77 := Ha79
        clear Ha79
        clear hu78
        refine ⟨fun h => absS (by kernel_rfl) h, ?_⟩
        refine anyS_done (by kernel_rfl) ?_ _
        refine inB_n ?_
        refine then_n ?_
        refine reg_seq [0, 1, 2] rfl ?_
        refine ops_cons ?_
        refine op_pure rfl (rn_move rfl) rfl rfl ?_
        refine ops_cons ?_
        refine op_pure rfl (rn_inc (k := i1) rfl rfl (by omega)) rfl rfl ?_
        refine ops_cons ?_
        refine op_pure rfl (rn_assign rfl) rfl rfl ?_
        refine ops_nil ?_
        refine then_n ?_
        exact (actOf_drop2 [(1, .pointer (some ⟨g_0_0, 0, none⟩)), (2, .pointer (some ⟨g_0_1, 0, none⟩)), (3, .pointer (some ⟨g_1_6, 0, none⟩)), (4, .int .i64 (((i1 + 1 : Nat) : Int)))] rfl).elim fun x' hx => ⟨r51 - 1, (by omega), i1 + 1, B_5_9, c_5_9, x', hx, (by omega), H81.pick [1, 0, 2, 3, 4] (by decide) rfl⟩
      · obtain rfl : i1 = x.Entities.length := by omega
        rw [List.take_length] at H54
        have H82 : St w No [hR ki_Entity 171 (.slice A_1 x.Entities.length c_1) x.Entities, hB g_1_6 68 #[.int .i64 (x.Id), .slice A_1 x.Entities.length c_1, .slice B_1_4 x.Loop.length c_1_4, .slice none 0 0, .slice none 0 0], hR ki_Sent 235 (.slice B_1_4 x.Loop.length c_1_4) x.Loop, hB g_0_1 68 #[.int .i64 (0), .slice none 0 0, .slice none 0 0, .slice none 0 0, .slice none 0 0], hB g_0_0 68 #[.int .i64 (x.Id), .slice Ax1 x.Entities.length cx1, .slice Ax2 x.Loop.length cx2, .slice Ax3 x.Links.length cx3, .slice Ax4 x.Out.length cx4]] W52 := H54
        clear H54
        refine wp_exit ?_
        refine then_x ?_
        refine then_x ?_
        refine inB_x ?_
        refine then_n ?_
        refine wp_seq ?_
        refine wp_seq ?_
        refine reg_seq [0] rfl ?_
        refine ops_cons ?_
        refine op_pure rfl (rn_assign rfl) rfl rfl ?_
        refine ops_nil ?_
        refine then_n ?_
        refine wp_block ?_
        have H83 : St w No [hR ki_Link 178 (.slice none 0 0) ([]), hR ki_Entity 171 (.slice A_1 x.Entities.length c_1) x.Entities, hB g_1_6 68 #[.int .i64 (x.Id), .slice A_1 x.Entities.length c_1, .slice B_1_4 x.Loop.length c_1_4, .slice none 0 0, .slice none 0 0], hR ki_Sent 235 (.slice B_1_4 x.Loop.length c_1_4) x.Loop, hB g_0_1 68 #[.int .i64 (0), .slice none 0 0, .slice none 0 0, .slice none 0 0, .slice none 0 0], hB g_0_0 68 #[.int .i64 (x.Id), .slice Ax1 x.Entities.length cx1, .slice Ax2 x.Loop.length cx2, .slice Ax3 x.Links.length cx3, .slice Ax4 x.Out.length cx4]] W52 := H82.add0 (q := hR ki_Link 178 (.slice none 0 0) []) R_nil
        clear H82
        refine wp_loop_ghost (fun r a' W' => ∃ (i2 : Nat) (A_2 : Option Addr) (c_2 : Nat) (x' : Nat → Value), a' = actOf 76 x' [(1, .pointer (some ⟨g_0_0, 0, none⟩)), (2, .pointer (some ⟨g_0_1, 0, none⟩)), (3, .pointer (some ⟨g_1_6, 0, none⟩)), (5, .int .i64 (((i2 : Nat) : Int)))] ∧ (i2 + r = x.Links.length) ∧ St w No [hR ki_Link 178 (.slice A_2 i2 c_2) (x.Links.take i2), hR ki_Entity 171 (.slice A_1 x.Entities.length c_1) x.Entities, hB g_1_6 68 #[.int .i64 (x.Id), .slice A_1 x.Entities.length c_1, .slice B_1_4 x.Loop.length c_1_4, .slice A_2 i2 c_2, .slice none 0 0], hR ki_Sent 235 (.slice B_1_4 x.Loop.length c_1_4) x.Loop, hB g_0_1 68 #[.int .i64 (0), .slice none 0 0, .slice none 0 0, .slice none 0 0, .slice none 0 0], hB g_0_0 68 #[.int .i64 (x.Id), .slice Ax1 x.Entities.length cx1, .slice Ax2 x.Loop.length cx2, .slice Ax3 x.Links.length cx3, .slice Ax4 x.Out.length cx4]] W') x.Links.length ?_ ?_
        · exact (actOf_drop2 [(1, .pointer (some ⟨g_0_0, 0, none⟩)), (2, .pointer (some ⟨g_0_1, 0, none⟩)), (3, .pointer (some ⟨g_1_6, 0, none⟩)), (5, .int .i64 (((0 : Nat) : Int)))] rfl).elim fun x' hx => ⟨0, none, 0, x', hx, (by omega), H83⟩
        · rintro r84 _ W85 ⟨i2, A_2, c_2, x86, rfl, hi2, H87⟩
          clear H83
          refine wp_seq ?_
          refine wp_seq ?_
          refine reg_seq [0, 1, 2, 3, 4] rfl ?_
          refine ops_cons ?_
          refine op_pure rfl (rn_move rfl) rfl rfl ?_
          refine ops_cons ?_
          refine op_pure rfl (rn_field fa_68_3 rfl) rfl rfl ?_
          refine ops_cons ?_
          refine op_pure rfl (rn_loadC (v := .slice Ax3 x.Links.length cx3) Tryz.isAgg65 rfl (H87.blk 5 rfl) rfl) rfl rfl ?_
          refine ops_cons ?_
          refine op_pure rfl (rn_len Tryz.runUnderlying65 rfl) rfl rfl ?_
          refine ops_cons ?_
          refine op_pure rfl (rn_lss rfl rfl) rfl rfl ?_
          refine ops_nil ?_
          refine then_n ?_
          refine cond_dec rfl (fun hc88 => ?_) (fun hc88 => ?_)
          · have hlt2 : i2 < x.Links.length := by omega
            obtain ⟨ade89, cse89, hAe89, hKe89, hce89⟩ := C_elem hCx3 i2 hlt2
            have hle89 := ki_Link_len hKe89
            have hoe89 := ki_Link_one hKe89
            have hsi2 : szn_Link x.Links[i2] ≤ 4194304 := by have h1 := sumS_at szn_Link x.Links i2 hlt2; have h2 := s_Links; unfold sznS at h2; omega
            refine wp_skip ?_
            refine then_n ?_
            refine wp_seq ?_
            refine wp_block ?_
            refine reg_draw (fun W' => Blk W' g_1_6 68 #[.int .i64 (x.Id), .slice A_1 x.Entities.length c_1, .slice B_1_4 x.Loop.length c_1_4, .slice A_2 i2 c_2, .slice none 0 0] ∧ Blk W' g_0_0 68 #[.int .i64 (x.Id), .slice Ax1 x.Entities.length cx1, .slice Ax2 x.Loop.length cx2, .slice Ax3 x.Links.length cx3, .slice Ax4 x.Out.length cx4] ∧ Cat W' (Addr.add ade89 (i2 * 7)) cse89) 11 (by kernel_rfl) ?_
            have H90 : St w No [hR ki_Link 178 (.slice A_2 i2 c_2) (x.Links.take i2), hR ki_Entity 171 (.slice A_1 x.Entities.length c_1) x.Entities, hB g_1_6 68 #[.int .i64 (x.Id), .slice A_1 x.Entities.length c_1, .slice B_1_4 x.Loop.length c_1_4, .slice A_2 i2 c_2, .slice none 0 0], hR ki_Sent 235 (.slice B_1_4 x.Loop.length c_1_4) x.Loop, hB g_0_1 68 #[.int .i64 (0), .slice none 0 0, .slice none 0 0, .slice none 0 0, .slice none 0 0], hB g_0_0 68 #[.int .i64 (x.Id), .slice Ax1 x.Entities.length cx1, .slice Ax2 x.Loop.length cx2, .slice Ax3 x.Links.length cx3, .slice Ax4 x.Out.length cx4]] W85.drew := H87.drew
            clear H87
            have hS91 : Blk W85.drew g_1_6 68 #[.int .i64 (x.Id), .slice A_1 x.Entities.length c_1, .slice B_1_4 x.Loop.length c_1_4, .slice A_2 i2 c_2, .slice none 0 0] ∧ Blk W85.drew g_0_0 68 #[.int .i64 (x.Id), .slice Ax1 x.Entities.length cx1, .slice Ax2 x.Loop.length cx2, .slice Ax3 x.Links.length cx3, .slice Ax4 x.Out.length cx4] ∧ Cat W85.drew (Addr.add ade89 (i2 * 7)) cse89 := ⟨H90.blk 2 rfl, H90.blk 5 rfl, (Cat.upd hce89 H90.1)⟩
            refine anyS_take (i := 0) rfl (by kernel_rfl) (by kernel_rfl) (by kernel_rfl) (by kernel_rfl) (by kernel_rfl) (fun _ _ _ h => h) rfl rfl hS91 (fun W' hs' => rn_field fa_68_3 rfl) ?_
            refine anyS_take (i := 1) rfl (by kernel_rfl) (by kernel_rfl) (by kernel_rfl) (by kernel_rfl) (by kernel_rfl) (fun _ _ _ h => h) rfl rfl hS91 (fun W' hs' => rn_loadC (v := .slice A_2 i2 c_2) Tryz.isAgg65 rfl hs'.1 rfl) ?_
            refine anyS_take (i := 2) rfl (by kernel_rfl) (by kernel_rfl) (by kernel_rfl) (by kernel_rfl) (by kernel_rfl) (fun _ _ _ h => h) rfl rfl hS91 (fun W' hs' => rn_field fa_68_3 rfl) ?_
            refine anyS_take (i := 3) rfl (by kernel_rfl) (by kernel_rfl) (by kernel_rfl) (by kernel_rfl) (by kernel_rfl) (fun _ _ _ h => h) rfl rfl hS91 (fun W' hs' => rn_loadC (v := .slice Ax3 x.Links.length cx3) Tryz.isAgg65 rfl hs'.2.1 rfl) ?_
            refine anyS_take (i := 4) rfl (by kernel_rfl) (by kernel_rfl) (by kernel_rfl) (by kernel_rfl) (by kernel_rfl) (fun _ _ _ h => h) rfl rfl hS91 (fun W' hs' => rn_move rfl) ?_
            refine anyS_take (i := 5) rfl (by kernel_rfl) (by kernel_rfl) (by kernel_rfl) (by kernel_rfl) (by kernel_rfl) (fun _ _ _ h => h) rfl rfl hS91 (fun W' hs' => rn_indexA (k := i2) Tryz.runUnderlying65 Tryz.sizeOf178 rfl rfl hAe89 hlt2) ?_
            refine anyS_take (i := 6) rfl (by kernel_rfl) (by kernel_rfl) (by kernel_rfl) (by kernel_rfl) (by kernel_rfl) (fun _ _ _ h => h) rfl rfl hS91 (fun W' hs' => rn_loadN Tryz.isAgg178 Tryz.sizeOf178 rfl hs'.2.2 hle89) ?_
            refine anyS_one (i := 7) (by kernel_rfl) ?_
            refine op_call rfl Tryz.call159 (vs := #[.agg (List.toArray cse89)]) rfl rfl rfl (l10Copy_s x.Links[i2] _ _ (K_upd H90.1 hKe89) hsi2) ?_
            rintro e95 W94 ⟨cs_9_7, rfl, hM92, hu93⟩
            refine ⟨_, rfl, ?_⟩
            have hl96 := ki_Link_len (ki_Link.K_of_M hM92)
            have ho97 := ki_Link_one (ki_Link.K_of_M hM92)
            have H98 : St w No [hM ki_Link (x.Links[i2]) cs_9_7, hR ki_Link 178 (.slice A_2 i2 c_2) (x.Links.take i2), hR ki_Entity 171 (.slice A_1 x.Entities.length c_1) x.Entities, hB g_1_6 68 #[.int .i64 (x.Id), .slice A_1 x.Entities.length c_1, .slice B_1_4 x.Loop.length c_1_4, .slice A_2 i2 c_2, .slice none 0 0], hR ki_Sent 235 (.slice B_1_4 x.Loop.length c_1_4) x.Loop, hB g_0_1 68 #[.int .i64 (0), .slice none 0 0, .slice none 0 0, .slice none 0 0, .slice none 0 0], hB g_0_0 68 #[.int .i64 (x.Id), .slice Ax1 x.Entities.length cx1, .slice Ax2 x.Loop.length cx2, .slice Ax3 x.Links.length cx3, .slice Ax4 x.Out.length cx4]] W94 := H90.new hu93 hM92
            clear H90
            have hS99 : Blk W94 g_1_6 68 #[.int .i64 (x.Id), .slice A_1 x.Entities.length c_1, .slice B_1_4 x.Loop.length c_1_4, .slice A_2 i2 c_2, .slice none 0 0] ∧ Blk W94 g_0_0 68 #[.int .i64 (x.Id), .slice Ax1 x.Entities.length cx1, .slice Ax2 x.Loop.length cx2, .slice Ax3 x.Links.length cx3, .slice Ax4 x.Out.length cx4] ∧ Cat W94 (Addr.add ade89 (i2 * 7)) cse89 := ⟨H98.blk 3 rfl, H98.blk 6 rfl, (Cat.upd hce89 H98.1)⟩
            refine ⟨fun _ => hS99, ?_⟩
            refine anyS_one (i := 8) (by kernel_rfl) ?_
            refine op_slice1 rfl Tryz.runUnderlying65 Tryz.sizeOf178 (by decide) Tryz.zeroValue178 rfl (ki_Link_len (H98.kn 0 rfl)) rfl rfl H98 ?_
            intro g_9_8 W100 hu101 Ha102
            clear H98
            have H103 : St w No [hB g_9_8 178 (List.toArray cs_9_7), hM ki_Link (x.Links[i2]) cs_9_7, hR ki_Link 178 (.slice A_2 i2 c_2) (x.Links.take i2), hR ki_Entity 171 (.slice A_1 x.Entities.length c_1) x.Entities, hB g_1_6 68 #[.int .i64 (x.Id), .slice A_1 x.Entities.length c_1, .slice B_1_4 x.Loop.length c_1_4, .slice A_2 i2 c_2, .slice none 0 0], hR ki_Sent 235 (.slice B_1_4 x.Loop.length c_1_4) x.Loop, hB g_0_1 68 #[.int .i64 (0), .slice none 0 0, .slice none 0 0, .slice none 0 0, .slice none 0 0], hB g_0_0 68 #[.int .i64 (x.Id), .slice Ax1 x.Entities.length cx1, .slice Ax2 x.Loop.length cx2, .slice Ax3 x.Links.length cx3, .slice Ax4 x.Out.length cx4]] W100 := Ha102
            clear Ha102
            clear hu101
            have hS104 : Blk W100 g_1_6 68 #[.int .i64 (x.Id), .slice A_1 x.Entities.length c_1, .slice B_1_4 x.Loop.length c_1_4, .slice A_2 i2 c_2, .slice none 0 0] ∧ Blk W100 g_0_0 68 #[.int .i64 (x.Id), .slice Ax1 x.Entities.length cx1, .slice Ax2 x.Loop.length cx2, .slice Ax3 x.Links.length cx3, .slice Ax4 x.Out.length cx4] ∧ Cat W100 (Addr.add ade89 (i2 * 7)) cse89 := ⟨H103.blk 4 rfl, H103.blk 7 rfl, (Cat.upd hce89 H103.1)⟩
            refine ⟨fun _ => hS104, ?_⟩
            refine anyS_one (i := 9) (by kernel_rfl) ?_
            have H107 : St w No [hR ki_Link 178 (.slice A_2 i2 c_2) (x.Links.take i2), hB g_9_8 178 (List.toArray cs_9_7), hM ki_Link (x.Links[i2]) cs_9_7, hR ki_Entity 171 (.slice A_1 x.Entities.length c_1) x.Entities, hB g_1_6 68 #[.int .i64 (x.Id), .slice A_1 x.Entities.length c_1, .slice B_1_4 x.Loop.length c_1_4, .slice A_2 i2 c_2, .slice none 0 0], hR ki_Sent 235 (.slice B_1_4 x.Loop.length c_1_4) x.Loop, hB g_0_1 68 #[.int .i64 (0), .slice none 0 0, .slice none 0 0, .slice none 0 0, .slice none 0 0], hB g_0_0 68 #[.int .i64 (x.Id), .slice Ax1 x.Entities.length cx1, .slice Ax2 x.Loop.length cx2, .slice Ax3 x.Links.length cx3, .slice Ax4 x.Out.length cx4]] W100 := H103.pick [2, 0, 1, 3, 4, 5, 6, 7] (by decide) rfl
            clear H103
            refine op_append1' (xs := (x.Links.take i2)) (p := x.Links[i2]) (n' := (i2 + 1)) (ys := (x.Links.take (i2 + 1))) rfl Tryz.underlying65 ki_Link_info rfl (by decide) (by decide) rfl rfl (by rw [List.length_take, Nat.min_eq_left (by omega)]; omega) (by rw [List.length_take, Nat.min_eq_left (by omega)]) (List.take_succ_eq_append_getElem hlt2).symm rfl rfl H107 ?_
            intro B_9_9 c_9_9 W105 Ha106
            clear H107
            have H108 : St w No [hR ki_Link 178 (.slice B_9_9 (i2 + 1) c_9_9) (x.Links.take (i2 + 1)), hR ki_Entity 171 (.slice A_1 x.Entities.length c_1) x.Entities, hB g_1_6 68 #[.int .i64 (x.Id), .slice A_1 x.Entities.length c_1, .slice B_1_4 x.Loop.length c_1_4, .slice A_2 i2 c_2, .slice none 0 0], hR ki_Sent 235 (.slice B_1_4 x.Loop.length c_1_4) x.Loop, hB g_0_1 68 #[.int .i64 (0), .slice none 0 0, .slice none 0 0, .slice none 0 0, .slice none 0 0], hB g_0_0 68 #[.int .i64 (x.Id), .slice Ax1 x.Entities.length cx1, .slice Ax2 x.Loop.length cx2, .slice Ax3 x.Links.length cx3, .slice Ax4 x.Out.length cx4]] W105 := Ha106
            clear Ha106
            have hS109 : Blk W105 g_1_6 68 #[.int .i64 (x.Id), .slice A_1 x.Entities.length c_1, .slice B_1_4 x.Loop.length c_1_4, .slice A_2 i2 c_2, .slice none 0 0] ∧ Blk W105 g_0_0 68 #[.int .i64 (x.Id), .slice Ax1 x.Entities.length cx1, .slice Ax2 x.Loop.length cx2, .slice Ax3 x.Links.length cx3, .slice Ax4 x.Out.length cx4] ∧ Cat W105 (Addr.add ade89 (i2 * 7)) cse89 := ⟨H108.blk 2 rfl, H108.blk 5 rfl, (Cat.upd hce89 H108.1)⟩
            refine ⟨fun _ => hS109, ?_⟩
            refine anyS_take (i := 10) rfl (by kernel_rfl) (by kernel_rfl) (by kernel_rfl) (by kernel_rfl) (by kernel_rfl) (fun _ _ _ h => h) rfl rfl hS109 (fun W' hs' => rn_field fa_68_3 rfl) ?_
            refine anyS_one (i := 11) (by kernel_rfl) ?_
            have H113 : St w No [hB g_1_6 68 #[.int .i64 (x.Id), .slice A_1 x.Entities.length c_1, .slice B_1_4 x.Loop.length c_1_4, .slice A_2 i2 c_2, .slice none 0 0], hR ki_Link 178 (.slice B_9_9 (i2 + 1) c_9_9) (x.Links.take (i2 + 1)), hR ki_Entity 171 (.slice A_1 x.Entities.length c_1) x.Entities, hR ki_Sent 235 (.slice B_1_4 x.Loop.length c_1_4) x.Loop, hB g_0_1 68 #[.int .i64 (0), .slice none 0 0, .slice none 0 0, .slice none 0 0, .slice none 0 0], hB g_0_0 68 #[.int .i64 (x.Id), .slice Ax1 x.Entities.length cx1, .slice Ax2 x.Loop.length cx2, .slice Ax3 x.Links.length cx3, .slice Ax4 x.Out.length cx4]] W105 := H108.pick [2, 0, 1, 3, 4, 5] (by decide) rfl
            clear H108
            refine op_store rfl Tryz.sizeOf65 rfl rfl rfl (Nat.le_of_ble_eq_true rfl) (by simp [Value.cells, Value.oneCell']) H113 ?_
            intro W110 hu111 Ha112
            clear H113
            have H114 : St w No [hB g_1_6 68 #[.int .i64 (x.Id), .slice A_1 x.Entities.length c_1, .slice B_1_4 x.Loop.length c_1_4, .slice B_9_9 (i2 + 1) c_9_9, .slice none 0 0], hR ki_Link 178 (.slice B_9_9 (i2 + 1) c_9_9) (x.Links.take (i2 + 1)), hR ki_Entity 171 (.slice A_1 x.Entities.length c_1) x.Entities, hR ki_Sent 235 (.slice B_1_4 x.Loop.length c_1_4) x.Loop, hB g_0_1 68 #[.int .i64 (0), .slice none 0 0, .slice none 0 0, .slice none 0 0, .slice none 0 0], hB g_0_0 68 #[.int .i64 (x.Id), .slice Ax1 x.Entities.length cx1, .slice Ax2 x.Loop.length cx2, .slice Ax3 x.Links.length cx3, .slice Ax4 x.Out.length cx4]] W110 := Ha112
            clear Ha112
            clear hu111
            refine ⟨fun h => absS (by kernel_rfl) h, ?_⟩
            refine anyS_done (by kernel_rfl) ?_ _
            refine inB_n ?_
            refine then_n ?_
            refine reg_seq [0, 1, 2] rfl ?_
            refine ops_cons ?_
            refine op_pure rfl (rn_move rfl) rfl rfl ?_
            refine ops_cons ?_
            refine op_pure rfl (rn_inc (k := i2) rfl rfl (by omega)) rfl rfl ?_
            refine ops_cons ?_
            refine op_pure rfl (rn_assign rfl) rfl rfl ?_
            refine ops_nil ?_
            refine then_n ?_
            exact (actOf_drop2 [(1, .pointer (some ⟨g_0_0, 0, none⟩)), (2, .pointer (some ⟨g_0_1, 0, none⟩)), (3, .pointer (some ⟨g_1_6, 0, none⟩)), (5, .int .i64 (((i2 + 1 : Nat) : Int)))] rfl).elim fun x' hx => ⟨r84 - 1, (by omega), i2 + 1, B_9_9, c_9_9, x', hx, (by omega), H114.pick [1, 2, 0, 3, 4, 5] (by decide) rfl⟩
          · obtain rfl : i2 = x.Links.length := by omega
            rw [List.take_length] at H87
            have H115 : St w No [hR ki_Link 178 (.slice A_2 x.Links.length c_2) x.Links, hR ki_Entity 171 (.slice A_1 x.Entities.length c_1) x.Entities, hB g_1_6 68 #[.int .i64 (x.Id), .slice A_1 x.Entities.length c_1, .slice B_1_4 x.Loop.length c_1_4, .slice A_2 x.Links.length c_2, .slice none 0 0], hR ki_Sent 235 (.slice B_1_4 x.Loop.length c_1_4) x.Loop, hB g_0_1 68 #[.int .i64 (0), .slice none 0 0, .slice none 0 0, .slice none 0 0, .slice none 0 0], hB g_0_0 68 #[.int .i64 (x.Id), .slice Ax1 x.Entities.length cx1, .slice Ax2 x.Loop.length cx2, .slice Ax3 x.Links.length cx3, .slice Ax4 x.Out.length cx4]] W85 := H87
            clear H87
            refine wp_exit ?_
            refine then_x ?_
            refine then_x ?_
            refine inB_x ?_
            refine then_n ?_
            refine wp_seq ?_
            refine wp_seq ?_
            refine reg_seq [0] rfl ?_
            refine ops_cons ?_
            refine op_pure rfl (rn_assign rfl) rfl rfl ?_
            refine ops_nil ?_
            refine then_n ?_
            refine wp_block ?_
            have H116 : St w No [hR ki_Outgoing 147 (.slice none 0 0) ([]), hR ki_Link 178 (.slice A_2 x.Links.length c_2) x.Links, hR ki_Entity 171 (.slice A_1 x.Entities.length c_1) x.Entities, hB g_1_6 68 #[.int .i64 (x.Id), .slice A_1 x.Entities.length c_1, .slice B_1_4 x.Loop.length c_1_4, .slice A_2 x.Links.length c_2, .slice none 0 0], hR ki_Sent 235 (.slice B_1_4 x.Loop.length c_1_4) x.Loop, hB g_0_1 68 #[.int .i64 (0), .slice none 0 0, .slice none 0 0, .slice none 0 0, .slice none 0 0], hB g_0_0 68 #[.int .i64 (x.Id), .slice Ax1 x.Entities.length cx1, .slice Ax2 x.Loop.length cx2, .slice Ax3 x.Links.length cx3, .slice Ax4 x.Out.length cx4]] W85 := H115.add0 (q := hR ki_Outgoing 147 (.slice none 0 0) []) R_nil
            clear H115
            refine wp_loop_ghost (fun r a' W' => ∃ (i3 : Nat) (A_3 : Option Addr) (c_3 : Nat) (x' : Nat → Value), a' = actOf 76 x' [(1, .pointer (some ⟨g_0_0, 0, none⟩)), (2, .pointer (some ⟨g_0_1, 0, none⟩)), (3, .pointer (some ⟨g_1_6, 0, none⟩)), (6, .int .i64 (((i3 : Nat) : Int)))] ∧ (i3 + r = x.Out.length) ∧ St w No [hR ki_Outgoing 147 (.slice A_3 i3 c_3) (x.Out.take i3), hR ki_Link 178 (.slice A_2 x.Links.length c_2) x.Links, hR ki_Entity 171 (.slice A_1 x.Entities.length c_1) x.Entities, hB g_1_6 68 #[.int .i64 (x.Id), .slice A_1 x.Entities.length c_1, .slice B_1_4 x.Loop.length c_1_4, .slice A_2 x.Links.length c_2, .slice A_3 i3 c_3], hR ki_Sent 235 (.slice B_1_4 x.Loop.length c_1_4) x.Loop, hB g_0_1 68 #[.int .i64 (0), .slice none 0 0, .slice none 0 0, .slice none 0 0, .slice none 0 0], hB g_0_0 68 #[.int .i64 (x.Id), .slice Ax1 x.Entities.length cx1, .slice Ax2 x.Loop.length cx2, .slice Ax3 x.Links.length cx3, .slice Ax4 x.Out.length cx4]] W') x.Out.length ?_ ?_
            · exact (actOf_drop2 [(1, .pointer (some ⟨g_0_0, 0, none⟩)), (2, .pointer (some ⟨g_0_1, 0, none⟩)), (3, .pointer (some ⟨g_1_6, 0, none⟩)), (6, .int .i64 (((0 : Nat) : Int)))] rfl).elim fun x' hx => ⟨0, none, 0, x', hx, (by omega), H116⟩
            · rintro r117 _ W118 ⟨i3, A_3, c_3, x119, rfl, hi3, H120⟩
              clear H116
              refine wp_seq ?_
              refine wp_seq ?_
              refine reg_seq [0, 1, 2, 3, 4] rfl ?_
              refine ops_cons ?_
              refine op_pure rfl (rn_move rfl) rfl rfl ?_
              refine ops_cons ?_
              refine op_pure rfl (rn_field fa_68_4 rfl) rfl rfl ?_
              refine ops_cons ?_
              refine op_pure rfl (rn_loadC (v := .slice Ax4 x.Out.length cx4) Tryz.isAgg66 rfl (H120.blk 6 rfl) rfl) rfl rfl ?_
              refine ops_cons ?_
              refine op_pure rfl (rn_len Tryz.runUnderlying66 rfl) rfl rfl ?_
              refine ops_cons ?_
              refine op_pure rfl (rn_lss rfl rfl) rfl rfl ?_
              refine ops_nil ?_
              refine then_n ?_
              refine cond_dec rfl (fun hc121 => ?_) (fun hc121 => ?_)
              · have hlt3 : i3 < x.Out.length := by omega
                obtain ⟨ade122, cse122, hAe122, hKe122, hce122⟩ := C_elem hCx4 i3 hlt3
                have hle122 := ki_Outgoing_len hKe122
                have hoe122 := ki_Outgoing_one hKe122
                have hsi3 : szn_Outgoing x.Out[i3] ≤ 4194304 := by have h1 := sumS_at szn_Outgoing x.Out i3 hlt3; have h2 := s_Out; unfold sznS at h2; omega
                obtain ⟨Aade122_6, cade122_6, rfl, hlade122_6, hCade122_6⟩ := ki_Outgoing_K hKe122
                have hsw : szn_Message x.Out[i3].Message ≤ 4194304 := by have h1 := hsi3; unfold szn_Outgoing at h1; omega
                refine wp_skip ?_
                refine then_n ?_
                refine wp_seq ?_
                refine wp_block ?_
                refine reg_draw (fun W' => Blk W' g_1_6 68 #[.int .i64 (x.Id), .slice A_1 x.Entities.length c_1, .slice B_1_4 x.Loop.length c_1_4, .slice A_2 x.Links.length c_2, .slice A_3 i3 c_3] ∧ Blk W' g_0_0 68 #[.int .i64 (x.Id), .slice Ax1 x.Entities.length cx1, .slice Ax2 x.Loop.length cx2, .slice Ax3 x.Links.length cx3, .slice Ax4 x.Out.length cx4] ∧ Cat W' (Addr.add ade122 (i3 * 13)) [.int .i64 (x.Out[i3].To), .int .i64 (x.Out[i3].Message.Kind), .int .i64 (x.Out[i3].Message.Pos), .int .i64 (x.Out[i3].Message.Answer), .int .i64 (x.Out[i3].Message.Question), .string (x.Out[i3].Message.Name), .slice Aade122_6 (x.Out[i3].Message.Args.length) cade122_6, .int .i64 (x.Out[i3].Message.Value.Kind), .int .i64 (x.Out[i3].Message.Value.N), .int .i64 (x.Out[i3].Message.Count), .int .i64 (x.Out[i3].Message.Tag.Vat), .int .i64 (x.Out[i3].Message.Tag.Entity), .int .i64 (x.Out[i3].Message.Tag.Seq)]) 19 (by kernel_rfl) ?_
                have H123 : St w No [hR ki_Outgoing 147 (.slice A_3 i3 c_3) (x.Out.take i3), hR ki_Link 178 (.slice A_2 x.Links.length c_2) x.Links, hR ki_Entity 171 (.slice A_1 x.Entities.length c_1) x.Entities, hB g_1_6 68 #[.int .i64 (x.Id), .slice A_1 x.Entities.length c_1, .slice B_1_4 x.Loop.length c_1_4, .slice A_2 x.Links.length c_2, .slice A_3 i3 c_3], hR ki_Sent 235 (.slice B_1_4 x.Loop.length c_1_4) x.Loop, hB g_0_1 68 #[.int .i64 (0), .slice none 0 0, .slice none 0 0, .slice none 0 0, .slice none 0 0], hB g_0_0 68 #[.int .i64 (x.Id), .slice Ax1 x.Entities.length cx1, .slice Ax2 x.Loop.length cx2, .slice Ax3 x.Links.length cx3, .slice Ax4 x.Out.length cx4]] W118.drew := H120.drew
                clear H120
                have hS124 : Blk W118.drew g_1_6 68 #[.int .i64 (x.Id), .slice A_1 x.Entities.length c_1, .slice B_1_4 x.Loop.length c_1_4, .slice A_2 x.Links.length c_2, .slice A_3 i3 c_3] ∧ Blk W118.drew g_0_0 68 #[.int .i64 (x.Id), .slice Ax1 x.Entities.length cx1, .slice Ax2 x.Loop.length cx2, .slice Ax3 x.Links.length cx3, .slice Ax4 x.Out.length cx4] ∧ Cat W118.drew (Addr.add ade122 (i3 * 13)) [.int .i64 (x.Out[i3].To), .int .i64 (x.Out[i3].Message.Kind), .int .i64 (x.Out[i3].Message.Pos), .int .i64 (x.Out[i3].Message.Answer), .int .i64 (x.Out[i3].Message.Question), .string (x.Out[i3].Message.Name), .slice Aade122_6 (x.Out[i3].Message.Args.length) cade122_6, .int .i64 (x.Out[i3].Message.Value.Kind), .int .i64 (x.Out[i3].Message.Value.N), .int .i64 (x.Out[i3].Message.Count), .int .i64 (x.Out[i3].Message.Tag.Vat), .int .i64 (x.Out[i3].Message.Tag.Entity), .int .i64 (x.Out[i3].Message.Tag.Seq)] := ⟨H123.blk 3 rfl, H123.blk 6 rfl, (Cat.upd hce122 H123.1)⟩
                refine anyS_take (i := 0) rfl (by kernel_rfl) (by kernel_rfl) (by kernel_rfl) (by kernel_rfl) (by kernel_rfl) (fun _ _ _ h => h) rfl rfl hS124 (fun W' hs' => rn_field fa_68_4 rfl) ?_
                refine anyS_take (i := 1) rfl (by kernel_rfl) (by kernel_rfl) (by kernel_rfl) (by kernel_rfl) (by kernel_rfl) (fun _ _ _ h => h) rfl rfl hS124 (fun W' hs' => rn_loadC (v := .slice A_3 i3 c_3) Tryz.isAgg66 rfl hs'.1 rfl) ?_
                refine anyS_take (i := 2) rfl (by kernel_rfl) (by kernel_rfl) (by kernel_rfl) (by kernel_rfl) (by kernel_rfl) (fun _ _ _ h => h) rfl rfl hS124 (fun W' hs' => rn_field fa_68_4 rfl) ?_
                refine anyS_take (i := 3) rfl (by kernel_rfl) (by kernel_rfl) (by kernel_rfl) (by kernel_rfl) (by kernel_rfl) (fun _ _ _ h => h) rfl rfl hS124 (fun W' hs' => rn_loadC (v := .slice Ax4 x.Out.length cx4) Tryz.isAgg66 rfl hs'.2.1 rfl) ?_
                refine anyS_take (i := 4) rfl (by kernel_rfl) (by kernel_rfl) (by kernel_rfl) (by kernel_rfl) (by kernel_rfl) (fun _ _ _ h => h) rfl rfl hS124 (fun W' hs' => rn_move rfl) ?_
                refine anyS_take (i := 5) rfl (by kernel_rfl) (by kernel_rfl) (by kernel_rfl) (by kernel_rfl) (by kernel_rfl) (fun _ _ _ h => h) rfl rfl hS124 (fun W' hs' => rn_indexA (k := i3) Tryz.runUnderlying66 Tryz.sizeOf147 rfl rfl hAe122 hlt3) ?_
                refine anyS_take (i := 6) rfl (by kernel_rfl) (by kernel_rfl) (by kernel_rfl) (by kernel_rfl) (by kernel_rfl) (fun _ _ _ h => h) rfl rfl hS124 (fun W' hs' => rn_field fa_147_0 rfl) ?_
                refine anyS_take (i := 7) rfl (by kernel_rfl) (by kernel_rfl) (by kernel_rfl) (by kernel_rfl) (by kernel_rfl) (fun _ _ _ h => h) rfl rfl hS124 (fun W' hs' => rn_loadE (v := .int .i64 (x.Out[i3].To)) Tryz.isAgg3 rfl hs'.2.2 rfl) ?_
                refine anyS_take (i := 8) rfl (by kernel_rfl) (by kernel_rfl) (by kernel_rfl) (by kernel_rfl) (by kernel_rfl) (fun _ _ _ h => h) rfl rfl hS124 (fun W' hs' => rn_field fa_68_4 rfl) ?_
                refine anyS_take (i := 9) rfl (by kernel_rfl) (by kernel_rfl) (by kernel_rfl) (by kernel_rfl) (by kernel_rfl) (fun _ _ _ h => h) rfl rfl hS124 (fun W' hs' => rn_loadC (v := .slice Ax4 x.Out.length cx4) Tryz.isAgg66 rfl hs'.2.1 rfl) ?_
                refine anyS_take (i := 10) rfl (by kernel_rfl) (by kernel_rfl) (by kernel_rfl) (by kernel_rfl) (by kernel_rfl) (fun _ _ _ h => h) rfl rfl hS124 (fun W' hs' => rn_move rfl) ?_
                refine anyS_take (i := 11) rfl (by kernel_rfl) (by kernel_rfl) (by kernel_rfl) (by kernel_rfl) (by kernel_rfl) (fun _ _ _ h => h) rfl rfl hS124 (fun W' hs' => rn_indexA (k := i3) Tryz.runUnderlying66 Tryz.sizeOf147 rfl rfl hAe122 hlt3) ?_
                refine anyS_take (i := 12) rfl (by kernel_rfl) (by kernel_rfl) (by kernel_rfl) (by kernel_rfl) (by kernel_rfl) (fun _ _ _ h => h) rfl rfl hS124 (fun W' hs' => rn_field fa_147_1 rfl) ?_
                refine anyS_take (i := 13) rfl (by kernel_rfl) (by kernel_rfl) (by kernel_rfl) (by kernel_rfl) (by kernel_rfl) (fun _ _ _ h => h) rfl rfl hS124 (fun W' hs' => rn_loadES (sub := [.int .i64 (x.Out[i3].Message.Kind), .int .i64 (x.Out[i3].Message.Pos), .int .i64 (x.Out[i3].Message.Answer), .int .i64 (x.Out[i3].Message.Question), .string (x.Out[i3].Message.Name), .slice Aade122_6 (x.Out[i3].Message.Args.length) cade122_6, .int .i64 (x.Out[i3].Message.Value.Kind), .int .i64 (x.Out[i3].Message.Value.N), .int .i64 (x.Out[i3].Message.Count), .int .i64 (x.Out[i3].Message.Tag.Vat), .int .i64 (x.Out[i3].Message.Tag.Entity), .int .i64 (x.Out[i3].Message.Tag.Seq)]) Tryz.isAgg74 Tryz.sizeOf74 rfl hs'.2.2 rfl rfl) ?_
                refine anyS_one (i := 14) (by kernel_rfl) ?_
                refine op_call rfl Tryz.call92 (vs := #[.agg #[.int .i64 (x.Out[i3].Message.Kind), .int .i64 (x.Out[i3].Message.Pos), .int .i64 (x.Out[i3].Message.Answer), .int .i64 (x.Out[i3].Message.Question), .string (x.Out[i3].Message.Name), .slice Aade122_6 (x.Out[i3].Message.Args.length) cade122_6, .int .i64 (x.Out[i3].Message.Value.Kind), .int .i64 (x.Out[i3].Message.Value.N), .int .i64 (x.Out[i3].Message.Count), .int .i64 (x.Out[i3].Message.Tag.Vat), .int .i64 (x.Out[i3].Message.Tag.Entity), .int .i64 (x.Out[i3].Message.Tag.Seq)]]) rfl rfl rfl (l11Copy_s x.Out[i3].Message _ _ (ki_Message_Kmk _ (x.Out[i3].Message) hlade122_6 (C_upd H123.1 hCade122_6)) hsw) ?_
                rintro e130 W129 ⟨cs125, rfl, hM126, hu127⟩
                refine ⟨_, rfl, ?_⟩
                obtain ⟨B_13_14_5, c_13_14_5, rfl, hst128⟩ := ki_Message_open hM126
                have H131 : St w No [hR ki_Wire 72 (.slice B_13_14_5 (x.Out[i3].Message.Args.length) c_13_14_5) (x.Out[i3].Message.Args), hR ki_Outgoing 147 (.slice A_3 i3 c_3) (x.Out.take i3), hR ki_Link 178 (.slice A_2 x.Links.length c_2) x.Links, hR ki_Entity 171 (.slice A_1 x.Entities.length c_1) x.Entities, hB g_1_6 68 #[.int .i64 (x.Id), .slice A_1 x.Entities.length c_1, .slice B_1_4 x.Loop.length c_1_4, .slice A_2 x.Links.length c_2, .slice A_3 i3 c_3], hR ki_Sent 235 (.slice B_1_4 x.Loop.length c_1_4) x.Loop, hB g_0_1 68 #[.int .i64 (0), .slice none 0 0, .slice none 0 0, .slice none 0 0, .slice none 0 0], hB g_0_0 68 #[.int .i64 (x.Id), .slice Ax1 x.Entities.length cx1, .slice Ax2 x.Loop.length cx2, .slice Ax3 x.Links.length cx3, .slice Ax4 x.Out.length cx4]] W129 := H123.news hu127 hst128
                clear H123
                have hS132 : Blk W129 g_1_6 68 #[.int .i64 (x.Id), .slice A_1 x.Entities.length c_1, .slice B_1_4 x.Loop.length c_1_4, .slice A_2 x.Links.length c_2, .slice A_3 i3 c_3] ∧ Blk W129 g_0_0 68 #[.int .i64 (x.Id), .slice Ax1 x.Entities.length cx1, .slice Ax2 x.Loop.length cx2, .slice Ax3 x.Links.length cx3, .slice Ax4 x.Out.length cx4] ∧ Cat W129 (Addr.add ade122 (i3 * 13)) [.int .i64 (x.Out[i3].To), .int .i64 (x.Out[i3].Message.Kind), .int .i64 (x.Out[i3].Message.Pos), .int .i64 (x.Out[i3].Message.Answer), .int .i64 (x.Out[i3].Message.Question), .string (x.Out[i3].Message.Name), .slice Aade122_6 (x.Out[i3].Message.Args.length) cade122_6, .int .i64 (x.Out[i3].Message.Value.Kind), .int .i64 (x.Out[i3].Message.Value.N), .int .i64 (x.Out[i3].Message.Count), .int .i64 (x.Out[i3].Message.Tag.Vat), .int .i64 (x.Out[i3].Message.Tag.Entity), .int .i64 (x.Out[i3].Message.Tag.Seq)] := ⟨H131.blk 4 rfl, H131.blk 7 rfl, (Cat.upd hce122 H131.1)⟩
                refine ⟨fun _ => hS132, ?_⟩
                refine anyS_take (i := 15) rfl (by kernel_rfl) (by kernel_rfl) (by kernel_rfl) (by kernel_rfl) (by kernel_rfl) (fun _ _ _ h => h) rfl rfl hS132 (fun W' hs' => rn_build (vs := [(0, .int .i64 (x.Out[i3].To)), (1, .agg #[.int .i64 (x.Out[i3].Message.Kind), .int .i64 (x.Out[i3].Message.Pos), .int .i64 (x.Out[i3].Message.Answer), .int .i64 (x.Out[i3].Message.Question), .string (x.Out[i3].Message.Name), .slice B_13_14_5 (x.Out[i3].Message.Args.length) c_13_14_5, .int .i64 (x.Out[i3].Message.Value.Kind), .int .i64 (x.Out[i3].Message.Value.N), .int .i64 (x.Out[i3].Message.Count), .int .i64 (x.Out[i3].Message.Tag.Vat), .int .i64 (x.Out[i3].Message.Tag.Entity), .int .i64 (x.Out[i3].Message.Tag.Seq)])]) (cells := #[.int .i64 (x.Out[i3].To), .int .i64 (x.Out[i3].Message.Kind), .int .i64 (x.Out[i3].Message.Pos), .int .i64 (x.Out[i3].Message.Answer), .int .i64 (x.Out[i3].Message.Question), .string (x.Out[i3].Message.Name), .slice B_13_14_5 (x.Out[i3].Message.Args.length) c_13_14_5, .int .i64 (x.Out[i3].Message.Value.Kind), .int .i64 (x.Out[i3].Message.Value.N), .int .i64 (x.Out[i3].Message.Count), .int .i64 (x.Out[i3].Message.Tag.Vat), .int .i64 (x.Out[i3].Message.Tag.Entity), .int .i64 (x.Out[i3].Message.Tag.Seq)]) rfl (by kernel_rfl)) ?_
                refine anyS_one (i := 16) (by kernel_rfl) ?_
                refine op_slice1 rfl Tryz.runUnderlying66 Tryz.sizeOf147 (by decide) Tryz.zeroValue147 rfl rfl rfl rfl H131 ?_
                intro g_13_16 W133 hu134 Ha135
                clear H131
                have H136 : St w No [hB g_13_16 147 #[.int .i64 (x.Out[i3].To), .int .i64 (x.Out[i3].Message.Kind), .int .i64 (x.Out[i3].Message.Pos), .int .i64 (x.Out[i3].Message.Answer), .int .i64 (x.Out[i3].Message.Question), .string (x.Out[i3].Message.Name), .slice B_13_14_5 (x.Out[i3].Message.Args.length) c_13_14_5, .int .i64 (x.Out[i3].Message.Value.Kind), .int .i64 (x.Out[i3].Message.Value.N), .int .i64 (x.Out[i3].Message.Count), .int .i64 (x.Out[i3].Message.Tag.Vat), .int .i64 (x.Out[i3].Message.Tag.Entity), .int .i64 (x.Out[i3].Message.Tag.Seq)], hR ki_Wire 72 (.slice B_13_14_5 (x.Out[i3].Message.Args.length) c_13_14_5) (x.Out[i3].Message.Args), hR ki_Outgoing 147 (.slice A_3 i3 c_3) (x.Out.take i3), hR ki_Link 178 (.slice A_2 x.Links.length c_2) x.Links, hR ki_Entity 171 (.slice A_1 x.Entities.length c_1) x.Entities, hB g_1_6 68 #[.int .i64 (x.Id), .slice A_1 x.Entities.length c_1, .slice B_1_4 x.Loop.length c_1_4, .slice A_2 x.Links.length c_2, .slice A_3 i3 c_3], hR ki_Sent 235 (.slice B_1_4 x.Loop.length c_1_4) x.Loop, hB g_0_1 68 #[.int .i64 (0), .slice none 0 0, .slice none 0 0, .slice none 0 0, .slice none 0 0], hB g_0_0 68 #[.int .i64 (x.Id), .slice Ax1 x.Entities.length cx1, .slice Ax2 x.Loop.length cx2, .slice Ax3 x.Links.length cx3, .slice Ax4 x.Out.length cx4]] W133 := Ha135
                clear Ha135
                clear hu134
                have hS137 : Blk W133 g_1_6 68 #[.int .i64 (x.Id), .slice A_1 x.Entities.length c_1, .slice B_1_4 x.Loop.length c_1_4, .slice A_2 x.Links.length c_2, .slice A_3 i3 c_3] ∧ Blk W133 g_0_0 68 #[.int .i64 (x.Id), .slice Ax1 x.Entities.length cx1, .slice Ax2 x.Loop.length cx2, .slice Ax3 x.Links.length cx3, .slice Ax4 x.Out.length cx4] ∧ Cat W133 (Addr.add ade122 (i3 * 13)) [.int .i64 (x.Out[i3].To), .int .i64 (x.Out[i3].Message.Kind), .int .i64 (x.Out[i3].Message.Pos), .int .i64 (x.Out[i3].Message.Answer), .int .i64 (x.Out[i3].Message.Question), .string (x.Out[i3].Message.Name), .slice Aade122_6 (x.Out[i3].Message.Args.length) cade122_6, .int .i64 (x.Out[i3].Message.Value.Kind), .int .i64 (x.Out[i3].Message.Value.N), .int .i64 (x.Out[i3].Message.Count), .int .i64 (x.Out[i3].Message.Tag.Vat), .int .i64 (x.Out[i3].Message.Tag.Entity), .int .i64 (x.Out[i3].Message.Tag.Seq)] := ⟨H136.blk 5 rfl, H136.blk 8 rfl, (Cat.upd hce122 H136.1)⟩
                refine ⟨fun _ => hS137, ?_⟩
                refine anyS_one (i := 17) (by kernel_rfl) ?_
                have H140 : St w No [hR ki_Wire 72 (.slice B_13_14_5 (x.Out[i3].Message.Args.length) c_13_14_5) (x.Out[i3].Message.Args), hB g_13_16 147 #[.int .i64 (x.Out[i3].To), .int .i64 (x.Out[i3].Message.Kind), .int .i64 (x.Out[i3].Message.Pos), .int .i64 (x.Out[i3].Message.Answer), .int .i64 (x.Out[i3].Message.Question), .string (x.Out[i3].Message.Name), .slice B_13_14_5 (x.Out[i3].Message.Args.length) c_13_14_5, .int .i64 (x.Out[i3].Message.Value.Kind), .int .i64 (x.Out[i3].Message.Value.N), .int .i64 (x.Out[i3].Message.Count), .int .i64 (x.Out[i3].Message.Tag.Vat), .int .i64 (x.Out[i3].Message.Tag.Entity), .int .i64 (x.Out[i3].Message.Tag.Seq)], hR ki_Outgoing 147 (.slice A_3 i3 c_3) (x.Out.take i3), hR ki_Link 178 (.slice A_2 x.Links.length c_2) x.Links, hR ki_Entity 171 (.slice A_1 x.Entities.length c_1) x.Entities, hB g_1_6 68 #[.int .i64 (x.Id), .slice A_1 x.Entities.length c_1, .slice B_1_4 x.Loop.length c_1_4, .slice A_2 x.Links.length c_2, .slice A_3 i3 c_3], hR ki_Sent 235 (.slice B_1_4 x.Loop.length c_1_4) x.Loop, hB g_0_1 68 #[.int .i64 (0), .slice none 0 0, .slice none 0 0, .slice none 0 0, .slice none 0 0], hB g_0_0 68 #[.int .i64 (x.Id), .slice Ax1 x.Entities.length cx1, .slice Ax2 x.Loop.length cx2, .slice Ax3 x.Links.length cx3, .slice Ax4 x.Out.length cx4]] W133 := H136.pick [1, 0, 2, 3, 4, 5, 6, 7, 8] (by decide) rfl
                clear H136
                have H141 : St w No [hM ki_Outgoing (x.Out[i3]) [.int .i64 (x.Out[i3].To), .int .i64 (x.Out[i3].Message.Kind), .int .i64 (x.Out[i3].Message.Pos), .int .i64 (x.Out[i3].Message.Answer), .int .i64 (x.Out[i3].Message.Question), .string (x.Out[i3].Message.Name), .slice B_13_14_5 (x.Out[i3].Message.Args.length) c_13_14_5, .int .i64 (x.Out[i3].Message.Value.Kind), .int .i64 (x.Out[i3].Message.Value.N), .int .i64 (x.Out[i3].Message.Count), .int .i64 (x.Out[i3].Message.Tag.Vat), .int .i64 (x.Out[i3].Message.Tag.Entity), .int .i64 (x.Out[i3].Message.Tag.Seq)], hB g_13_16 147 #[.int .i64 (x.Out[i3].To), .int .i64 (x.Out[i3].Message.Kind), .int .i64 (x.Out[i3].Message.Pos), .int .i64 (x.Out[i3].Message.Answer), .int .i64 (x.Out[i3].Message.Question), .string (x.Out[i3].Message.Name), .slice B_13_14_5 (x.Out[i3].Message.Args.length) c_13_14_5, .int .i64 (x.Out[i3].Message.Value.Kind), .int .i64 (x.Out[i3].Message.Value.N), .int .i64 (x.Out[i3].Message.Count), .int .i64 (x.Out[i3].Message.Tag.Vat), .int .i64 (x.Out[i3].Message.Tag.Entity), .int .i64 (x.Out[i3].Message.Tag.Seq)], hR ki_Outgoing 147 (.slice A_3 i3 c_3) (x.Out.take i3), hR ki_Link 178 (.slice A_2 x.Links.length c_2) x.Links, hR ki_Entity 171 (.slice A_1 x.Entities.length c_1) x.Entities, hB g_1_6 68 #[.int .i64 (x.Id), .slice A_1 x.Entities.length c_1, .slice B_1_4 x.Loop.length c_1_4, .slice A_2 x.Links.length c_2, .slice A_3 i3 c_3], hR ki_Sent 235 (.slice B_1_4 x.Loop.length c_1_4) x.Loop, hB g_0_1 68 #[.int .i64 (0), .slice none 0 0, .slice none 0 0, .slice none 0 0, .slice none 0 0], hB g_0_0 68 #[.int .i64 (x.Id), .slice Ax1 x.Entities.length cx1, .slice Ax2 x.Loop.length cx2, .slice Ax3 x.Links.length cx3, .slice Ax4 x.Out.length cx4]] W133 := H140.swap (l0 := [hR ki_Wire 72 (.slice B_13_14_5 (x.Out[i3].Message.Args.length) c_13_14_5) (x.Out[i3].Message.Args)]) (l' := [hM ki_Outgoing (x.Out[i3]) [.int .i64 (x.Out[i3].To), .int .i64 (x.Out[i3].Message.Kind), .int .i64 (x.Out[i3].Message.Pos), .int .i64 (x.Out[i3].Message.Answer), .int .i64 (x.Out[i3].Message.Question), .string (x.Out[i3].Message.Name), .slice B_13_14_5 (x.Out[i3].Message.Args.length) c_13_14_5, .int .i64 (x.Out[i3].Message.Value.Kind), .int .i64 (x.Out[i3].Message.Value.N), .int .i64 (x.Out[i3].Message.Count), .int .i64 (x.Out[i3].Message.Tag.Vat), .int .i64 (x.Out[i3].Message.Tag.Entity), .int .i64 (x.Out[i3].Message.Tag.Seq)]]) (fun _ h => Star.one (ki_Outgoing_close h))
                clear H140
                have H142 : St w No [hR ki_Outgoing 147 (.slice A_3 i3 c_3) (x.Out.take i3), hB g_13_16 147 #[.int .i64 (x.Out[i3].To), .int .i64 (x.Out[i3].Message.Kind), .int .i64 (x.Out[i3].Message.Pos), .int .i64 (x.Out[i3].Message.Answer), .int .i64 (x.Out[i3].Message.Question), .string (x.Out[i3].Message.Name), .slice B_13_14_5 (x.Out[i3].Message.Args.length) c_13_14_5, .int .i64 (x.Out[i3].Message.Value.Kind), .int .i64 (x.Out[i3].Message.Value.N), .int .i64 (x.Out[i3].Message.Count), .int .i64 (x.Out[i3].Message.Tag.Vat), .int .i64 (x.Out[i3].Message.Tag.Entity), .int .i64 (x.Out[i3].Message.Tag.Seq)], hM ki_Outgoing (x.Out[i3]) [.int .i64 (x.Out[i3].To), .int .i64 (x.Out[i3].Message.Kind), .int .i64 (x.Out[i3].Message.Pos), .int .i64 (x.Out[i3].Message.Answer), .int .i64 (x.Out[i3].Message.Question), .string (x.Out[i3].Message.Name), .slice B_13_14_5 (x.Out[i3].Message.Args.length) c_13_14_5, .int .i64 (x.Out[i3].Message.Value.Kind), .int .i64 (x.Out[i3].Message.Value.N), .int .i64 (x.Out[i3].Message.Count), .int .i64 (x.Out[i3].Message.Tag.Vat), .int .i64 (x.Out[i3].Message.Tag.Entity), .int .i64 (x.Out[i3].Message.Tag.Seq)], hR ki_Link 178 (.slice A_2 x.Links.length c_2) x.Links, hR ki_Entity 171 (.slice A_1 x.Entities.length c_1) x.Entities, hB g_1_6 68 #[.int .i64 (x.Id), .slice A_1 x.Entities.length c_1, .slice B_1_4 x.Loop.length c_1_4, .slice A_2 x.Links.length c_2, .slice A_3 i3 c_3], hR ki_Sent 235 (.slice B_1_4 x.Loop.length c_1_4) x.Loop, hB g_0_1 68 #[.int .i64 (0), .slice none 0 0, .slice none 0 0, .slice none 0 0, .slice none 0 0], hB g_0_0 68 #[.int .i64 (x.Id), .slice Ax1 x.Entities.length cx1, .slice Ax2 x.Loop.length cx2, .slice Ax3 x.Links.length cx3, .slice Ax4 x.Out.length cx4]] W133 := H141.pick [2, 1, 0, 3, 4, 5, 6, 7, 8] (by decide) rfl
                clear H141
                refine op_append1' (xs := (x.Out.take i3)) (p := x.Out[i3]) (n' := (i3 + 1)) (ys := (x.Out.take (i3 + 1))) rfl Tryz.underlying66 ki_Outgoing_info rfl (by decide) (by decide) rfl rfl (by rw [List.length_take, Nat.min_eq_left (by omega)]; omega) (by rw [List.length_take, Nat.min_eq_left (by omega)]) (List.take_succ_eq_append_getElem hlt3).symm rfl rfl H142 ?_
                intro B_13_17 c_13_17 W138 Ha139
                clear H142
                have H143 : St w No [hR ki_Outgoing 147 (.slice B_13_17 (i3 + 1) c_13_17) (x.Out.take (i3 + 1)), hR ki_Link 178 (.slice A_2 x.Links.length c_2) x.Links, hR ki_Entity 171 (.slice A_1 x.Entities.length c_1) x.Entities, hB g_1_6 68 #[.int .i64 (x.Id), .slice A_1 x.Entities.length c_1, .slice B_1_4 x.Loop.length c_1_4, .slice A_2 x.Links.length c_2, .slice A_3 i3 c_3], hR ki_Sent 235 (.slice B_1_4 x.Loop.length c_1_4) x.Loop, hB g_0_1 68 #[.int .i64 (0), .slice none 0 0, .slice none 0 0, .slice none 0 0, .slice none 0 0], hB g_0_0 68 #[.int .i64 (x.Id), .slice Ax1 x.Entities.length cx1, .slice Ax2 x.Loop.length cx2, .slice Ax3 x.Links.length cx3, .slice Ax4 x.Out.length cx4]] W138 := Ha139
                clear Ha139
                have hS144 : Blk W138 g_1_6 68 #[.int .i64 (x.Id), .slice A_1 x.Entities.length c_1, .slice B_1_4 x.Loop.length c_1_4, .slice A_2 x.Links.length c_2, .slice A_3 i3 c_3] ∧ Blk W138 g_0_0 68 #[.int .i64 (x.Id), .slice Ax1 x.Entities.length cx1, .slice Ax2 x.Loop.length cx2, .slice Ax3 x.Links.length cx3, .slice Ax4 x.Out.length cx4] ∧ Cat W138 (Addr.add ade122 (i3 * 13)) [.int .i64 (x.Out[i3].To), .int .i64 (x.Out[i3].Message.Kind), .int .i64 (x.Out[i3].Message.Pos), .int .i64 (x.Out[i3].Message.Answer), .int .i64 (x.Out[i3].Message.Question), .string (x.Out[i3].Message.Name), .slice Aade122_6 (x.Out[i3].Message.Args.length) cade122_6, .int .i64 (x.Out[i3].Message.Value.Kind), .int .i64 (x.Out[i3].Message.Value.N), .int .i64 (x.Out[i3].Message.Count), .int .i64 (x.Out[i3].Message.Tag.Vat), .int .i64 (x.Out[i3].Message.Tag.Entity), .int .i64 (x.Out[i3].Message.Tag.Seq)] := ⟨H143.blk 3 rfl, H143.blk 6 rfl, (Cat.upd hce122 H143.1)⟩
                refine ⟨fun _ => hS144, ?_⟩
                refine anyS_take (i := 18) rfl (by kernel_rfl) (by kernel_rfl) (by kernel_rfl) (by kernel_rfl) (by kernel_rfl) (fun _ _ _ h => h) rfl rfl hS144 (fun W' hs' => rn_field fa_68_4 rfl) ?_
                refine anyS_one (i := 19) (by kernel_rfl) ?_
                have H148 : St w No [hB g_1_6 68 #[.int .i64 (x.Id), .slice A_1 x.Entities.length c_1, .slice B_1_4 x.Loop.length c_1_4, .slice A_2 x.Links.length c_2, .slice A_3 i3 c_3], hR ki_Outgoing 147 (.slice B_13_17 (i3 + 1) c_13_17) (x.Out.take (i3 + 1)), hR ki_Link 178 (.slice A_2 x.Links.length c_2) x.Links, hR ki_Entity 171 (.slice A_1 x.Entities.length c_1) x.Entities, hR ki_Sent 235 (.slice B_1_4 x.Loop.length c_1_4) x.Loop, hB g_0_1 68 #[.int .i64 (0), .slice none 0 0, .slice none 0 0, .slice none 0 0, .slice none 0 0], hB g_0_0 68 #[.int .i64 (x.Id), .slice Ax1 x.Entities.length cx1, .slice Ax2 x.Loop.length cx2, .slice Ax3 x.Links.length cx3, .slice Ax4 x.Out.length cx4]] W138 := H143.pick [3, 0, 1, 2, 4, 5, 6] (by decide) rfl
                clear H143
                refine op_store rfl Tryz.sizeOf66 rfl rfl rfl (Nat.le_of_ble_eq_true rfl) (by simp [Value.cells, Value.oneCell']) H148 ?_
                intro W145 hu146 Ha147
                clear H148
                have H149 : St w No [hB g_1_6 68 #[.int .i64 (x.Id), .slice A_1 x.Entities.length c_1, .slice B_1_4 x.Loop.length c_1_4, .slice A_2 x.Links.length c_2, .slice B_13_17 (i3 + 1) c_13_17], hR ki_Outgoing 147 (.slice B_13_17 (i3 + 1) c_13_17) (x.Out.take (i3 + 1)), hR ki_Link 178 (.slice A_2 x.Links.length c_2) x.Links, hR ki_Entity 171 (.slice A_1 x.Entities.length c_1) x.Entities, hR ki_Sent 235 (.slice B_1_4 x.Loop.length c_1_4) x.Loop, hB g_0_1 68 #[.int .i64 (0), .slice none 0 0, .slice none 0 0, .slice none 0 0, .slice none 0 0], hB g_0_0 68 #[.int .i64 (x.Id), .slice Ax1 x.Entities.length cx1, .slice Ax2 x.Loop.length cx2, .slice Ax3 x.Links.length cx3, .slice Ax4 x.Out.length cx4]] W145 := Ha147
                clear Ha147
                clear hu146
                refine ⟨fun h => absS (by kernel_rfl) h, ?_⟩
                refine anyS_done (by kernel_rfl) ?_ _
                refine inB_n ?_
                refine then_n ?_
                refine reg_seq [0, 1, 2] rfl ?_
                refine ops_cons ?_
                refine op_pure rfl (rn_move rfl) rfl rfl ?_
                refine ops_cons ?_
                refine op_pure rfl (rn_inc (k := i3) rfl rfl (by omega)) rfl rfl ?_
                refine ops_cons ?_
                refine op_pure rfl (rn_assign rfl) rfl rfl ?_
                refine ops_nil ?_
                refine then_n ?_
                exact (actOf_drop2 [(1, .pointer (some ⟨g_0_0, 0, none⟩)), (2, .pointer (some ⟨g_0_1, 0, none⟩)), (3, .pointer (some ⟨g_1_6, 0, none⟩)), (6, .int .i64 (((i3 + 1 : Nat) : Int)))] rfl).elim fun x' hx => ⟨r117 - 1, (by omega), i3 + 1, B_13_17, c_13_17, x', hx, (by omega), H149.pick [1, 2, 3, 0, 4, 5, 6] (by decide) rfl⟩
              · obtain rfl : i3 = x.Out.length := by omega
                rw [List.take_length] at H120
                have H150 : St w No [hR ki_Outgoing 147 (.slice A_3 x.Out.length c_3) x.Out, hR ki_Link 178 (.slice A_2 x.Links.length c_2) x.Links, hR ki_Entity 171 (.slice A_1 x.Entities.length c_1) x.Entities, hB g_1_6 68 #[.int .i64 (x.Id), .slice A_1 x.Entities.length c_1, .slice B_1_4 x.Loop.length c_1_4, .slice A_2 x.Links.length c_2, .slice A_3 x.Out.length c_3], hR ki_Sent 235 (.slice B_1_4 x.Loop.length c_1_4) x.Loop, hB g_0_1 68 #[.int .i64 (0), .slice none 0 0, .slice none 0 0, .slice none 0 0, .slice none 0 0], hB g_0_0 68 #[.int .i64 (x.Id), .slice Ax1 x.Entities.length cx1, .slice Ax2 x.Loop.length cx2, .slice Ax3 x.Links.length cx3, .slice Ax4 x.Out.length cx4]] W118 := H120
                clear H120
                refine wp_exit ?_
                refine then_x ?_
                refine then_x ?_
                refine inB_x ?_
                refine then_n ?_
                refine wp_seq ?_
                refine reg_seq [0, 1] rfl ?_
                refine ops_cons ?_
                refine op_pure rfl (rn_loadB Tryz.isAgg68 Tryz.sizeOf68 rfl (H150.blk 3 rfl) rfl) rfl rfl ?_
                refine ops_cons ?_
                have H154 : St w No [hB g_0_1 68 #[.int .i64 (0), .slice none 0 0, .slice none 0 0, .slice none 0 0, .slice none 0 0], hR ki_Outgoing 147 (.slice A_3 x.Out.length c_3) x.Out, hR ki_Link 178 (.slice A_2 x.Links.length c_2) x.Links, hR ki_Entity 171 (.slice A_1 x.Entities.length c_1) x.Entities, hB g_1_6 68 #[.int .i64 (x.Id), .slice A_1 x.Entities.length c_1, .slice B_1_4 x.Loop.length c_1_4, .slice A_2 x.Links.length c_2, .slice A_3 x.Out.length c_3], hR ki_Sent 235 (.slice B_1_4 x.Loop.length c_1_4) x.Loop, hB g_0_0 68 #[.int .i64 (x.Id), .slice Ax1 x.Entities.length cx1, .slice Ax2 x.Loop.length cx2, .slice Ax3 x.Links.length cx3, .slice Ax4 x.Out.length cx4]] W118 := H150.pick [5, 0, 1, 2, 3, 4, 6] (by decide) rfl
                clear H150
                refine op_storeW rfl Tryz.sizeOf68 rfl rfl rfl rfl (by simp [Value.oneCell']) H154 ?_
                intro W151 hu152 Ha153
                clear H154
                have H155 : St w No [hB g_0_1 68 #[.int .i64 (x.Id), .slice A_1 x.Entities.length c_1, .slice B_1_4 x.Loop.length c_1_4, .slice A_2 x.Links.length c_2, .slice A_3 x.Out.length c_3], hR ki_Outgoing 147 (.slice A_3 x.Out.length c_3) x.Out, hR ki_Link 178 (.slice A_2 x.Links.length c_2) x.Links, hR ki_Entity 171 (.slice A_1 x.Entities.length c_1) x.Entities, hB g_1_6 68 #[.int .i64 (x.Id), .slice A_1 x.Entities.length c_1, .slice B_1_4 x.Loop.length c_1_4, .slice A_2 x.Links.length c_2, .slice A_3 x.Out.length c_3], hR ki_Sent 235 (.slice B_1_4 x.Loop.length c_1_4) x.Loop, hB g_0_0 68 #[.int .i64 (x.Id), .slice Ax1 x.Entities.length cx1, .slice Ax2 x.Loop.length cx2, .slice Ax3 x.Links.length cx3, .slice Ax4 x.Out.length cx4]] W151 := Ha153
                clear Ha153
                clear hu152
                refine ops_nil ?_
                refine then_n ?_
                refine wp_ret ?_
                refine post_cell (.inl rfl) Tryz.results90 Tryz.isAgg68 Tryz.sizeOf68 rfl (H155.blk 0 rfl) rfl ?_
                exact ⟨_, rfl, ki_Vat_close (H155.pick [3, 5, 2, 1] (by decide) rfl).star, H155.1⟩
set_option maxHeartbeats 4000000 in
set_option maxRecDepth 100000 in
theorem copied_Vat (x : GVat) (cs : List Value) (w : World) (h : ki_Vat.K w x cs) (hs : szn_Vat x ≤ 4194304) : Calls Tryz.prog 99 #[.agg cs.toArray] w (RetAgg ki_Vat x w) := by
  obtain ⟨Ax1, cx1, Ax2, cx2, Ax3, cx3, Ax4, cx4, rfl, hlx1, hCx1, hlx2, hCx2, hlx3, hCx3, hlx4, hCx4⟩ := ki_Vat_K h
  have s_Entities : sznS szn_Entity x.Entities ≤ 4194304 := by unfold szn_Vat at hs; omega
  have n_Entities : x.Entities.length ≤ 4194304 := by unfold sznS at s_Entities; omega
  have s_Loop : sznS szn_Sent x.Loop ≤ 4194304 := by unfold szn_Vat at hs; omega
  have n_Loop : x.Loop.length ≤ 4194304 := by unfold sznS at s_Loop; omega
  have s_Links : sznS szn_Link x.Links ≤ 4194304 := by unfold szn_Vat at hs; omega
  have n_Links : x.Links.length ≤ 4194304 := by unfold sznS at s_Links; omega
  have s_Out : sznS szn_Outgoing x.Out ≤ 4194304 := by unfold szn_Vat at hs; omega
  have n_Out : x.Out.length ≤ 4194304 := by unfold sznS at s_Out; omega
  refine enter 66 [(0, .agg #[.int .i64 (x.Id), .slice Ax1 x.Entities.length cx1, .slice Ax2 x.Loop.length cx2, .slice Ax3 x.Links.length cx3, .slice Ax4 x.Out.length cx4])] Tryz.func99 rfl (by kernel_rfl) ?_
  intro xj
  have H1 : St w No [] w := St.enter
  refine wp_seq ?_
  refine reg_seq [0, 1] rfl ?_
  refine ops_cons ?_
  refine op_box rfl rfl rfl rfl H1 ?_
  intro g_0_0 W2 hu3 Ha4
  clear H1
  have H5 : St w No [hB g_0_0 68 #[.int .i64 (x.Id), .slice Ax1 x.Entities.length cx1, .slice Ax2 x.Loop.length cx2, .slice Ax3 x.Links.length cx3, .slice Ax4 x.Out.length cx4]] W2 := Ha4
  clear Ha4
  clear hu3
  refine ops_cons ?_
  refine op_alloc rfl Tryz.zeroValue68 rfl rfl H5 ?_
  intro g_0_1 W6 hu7 Ha8
  clear H5
  have H9 : St w No [hB g_0_1 68 #[.int .i64 (0), .slice none 0 0, .slice none 0 0, .slice none 0 0, .slice none 0 0], hB g_0_0 68 #[.int .i64 (x.Id), .slice Ax1 x.Entities.length cx1, .slice Ax2 x.Loop.length cx2, .slice Ax3 x.Links.length cx3, .slice Ax4 x.Out.length cx4]] W6 := Ha8
  clear Ha8
  clear hu7
  refine ops_nil ?_
  refine then_n ?_
  refine wp_seq ?_
  refine reg_cut (fun a' W' => ∃ (B_1_4 : Option Addr) (c_1_4 : Nat) (g_1_6 : Nat) (x' : Nat → Value), a' = actOf 66 x' [(1, .pointer (some ⟨g_0_0, 0, none⟩)), (2, .pointer (some ⟨g_0_1, 0, none⟩)), (3, .pointer (some ⟨g_1_6, 0, none⟩))] ∧ St w No [hB g_1_6 68 #[.int .i64 (x.Id), .slice none 0 0, .slice B_1_4 x.Loop.length c_1_4, .slice none 0 0, .slice none 0 0], hR ki_Sent 235 (.slice B_1_4 x.Loop.length c_1_4) x.Loop, hB g_0_1 68 #[.int .i64 (0), .slice none 0 0, .slice none 0 0, .slice none 0 0, .slice none 0 0], hB g_0_0 68 #[.int .i64 (x.Id), .slice Ax1 x.Entities.length cx1, .slice Ax2 x.Loop.length cx2, .slice Ax3 x.Links.length cx3, .slice Ax4 x.Out.length cx4]] W') ?_ ?_
  · refine reg_draw (fun W' => Blk W' g_0_0 68 #[.int .i64 (x.Id), .slice Ax1 x.Entities.length cx1, .slice Ax2 x.Loop.length cx2, .slice Ax3 x.Links.length cx3, .slice Ax4 x.Out.length cx4]) 8 (by kernel_rfl) ?_
    have H10 : St w No [hB g_0_1 68 #[.int .i64 (0), .slice none 0 0, .slice none 0 0, .slice none 0 0, .slice none 0 0], hB g_0_0 68 #[.int .i64 (x.Id), .slice Ax1 x.Entities.length cx1, .slice Ax2 x.Loop.length cx2, .slice Ax3 x.Links.length cx3, .slice Ax4 x.Out.length cx4]] W6.drew := H9.drew
    clear H9
    have hS11 : Blk W6.drew g_0_0 68 #[.int .i64 (x.Id), .slice Ax1 x.Entities.length cx1, .slice Ax2 x.Loop.length cx2, .slice Ax3 x.Links.length cx3, .slice Ax4 x.Out.length cx4] := H10.blk 1 rfl
    refine anyS_take (i := 0) rfl (by kernel_rfl) (by kernel_rfl) (by kernel_rfl) (by kernel_rfl) (by kernel_rfl) (fun _ _ _ h => h) rfl rfl hS11 (fun W' hs' => rn_field fa_68_0 rfl) ?_
    refine anyS_take (i := 1) rfl (by kernel_rfl) (by kernel_rfl) (by kernel_rfl) (by kernel_rfl) (by kernel_rfl) (fun _ _ _ h => h) rfl rfl hS11 (fun W' hs' => rn_loadC (v := .int .i64 (x.Id)) Tryz.isAgg3 rfl hs' rfl) ?_
    refine anyS_take (i := 2) rfl (by kernel_rfl) (by kernel_rfl) (by kernel_rfl) (by kernel_rfl) (by kernel_rfl) (fun _ _ _ h => h) rfl rfl hS11 (fun W' hs' => rn_field fa_68_2 rfl) ?_
    refine anyS_take (i := 3) rfl (by kernel_rfl) (by kernel_rfl) (by kernel_rfl) (by kernel_rfl) (by kernel_rfl) (fun _ _ _ h => h) rfl rfl hS11 (fun W' hs' => rn_loadC (v := .slice Ax2 x.Loop.length cx2) Tryz.isAgg64 rfl hs' rfl) ?_
    refine anyS_two (i := 4) (i2 := 6) (by kernel_rfl) ?_ ?_
    · refine op_call rfl Tryz.call164 (vs := #[.slice Ax2 x.Loop.length cx2]) rfl rfl rfl (copiedSents_i x.Loop _ _ _ (C_upd H10.1 hCx2) s_Loop) ?_
      rintro e16 W15 ⟨v12, rfl, hR13, hu14⟩
      refine ⟨_, rfl, ?_⟩
      obtain ⟨B_1_4, c_1_4, rfl⟩ := R_slice hR13
      have H17 : St w No [hR ki_Sent 235 (.slice B_1_4 x.Loop.length c_1_4) x.Loop, hB g_0_1 68 #[.int .i64 (0), .slice none 0 0, .slice none 0 0, .slice none 0 0, .slice none 0 0], hB g_0_0 68 #[.int .i64 (x.Id), .slice Ax1 x.Entities.length cx1, .slice Ax2 x.Loop.length cx2, .slice Ax3 x.Links.length cx3, .slice Ax4 x.Out.length cx4]] W15 := H10.new hu14 hR13
      clear H10
      have hS18 : Blk W15 g_0_0 68 #[.int .i64 (x.Id), .slice Ax1 x.Entities.length cx1, .slice Ax2 x.Loop.length cx2, .slice Ax3 x.Links.length cx3, .slice Ax4 x.Out.length cx4] := H17.blk 2 rfl
      refine ⟨fun _ => hS18, ?_⟩
      refine anyS_take (i := 5) rfl (by kernel_rfl) (by kernel_rfl) (by kernel_rfl) (by kernel_rfl) (by kernel_rfl) (fun _ _ _ h => h) rfl rfl hS18 (fun W' hs' => rn_build (vs := [(0, .int .i64 (x.Id)), (2, .slice B_1_4 x.Loop.length c_1_4)]) (cells := #[.int .i64 (x.Id), .slice none 0 0, .slice B_1_4 x.Loop.length c_1_4, .slice none 0 0, .slice none 0 0]) rfl (by kernel_rfl)) ?_
      refine anyS_one (i := 6) (by kernel_rfl) ?_
      refine op_alloc rfl Tryz.zeroValue68 rfl rfl H17 ?_
      intro g_1_6 W19 hu20 Ha21
      clear H17
      have H22 : St w No [hB g_1_6 68 #[.int .i64 (0), .slice none 0 0, .slice none 0 0, .slice none 0 0, .slice none 0 0], hR ki_Sent 235 (.slice B_1_4 x.Loop.length c_1_4) x.Loop, hB g_0_1 68 #[.int .i64 (0), .slice none 0 0, .slice none 0 0, .slice none 0 0, .slice none 0 0], hB g_0_0 68 #[.int .i64 (x.Id), .slice Ax1 x.Entities.length cx1, .slice Ax2 x.Loop.length cx2, .slice Ax3 x.Links.length cx3, .slice Ax4 x.Out.length cx4]] W19 := Ha21
      clear Ha21
      clear hu20
      have hS23 : Blk W19 g_0_0 68 #[.int .i64 (x.Id), .slice Ax1 x.Entities.length cx1, .slice Ax2 x.Loop.length cx2, .slice Ax3 x.Links.length cx3, .slice Ax4 x.Out.length cx4] := H22.blk 3 rfl
      refine ⟨fun _ => hS23, ?_⟩
      refine anyS_one (i := 7) (by kernel_rfl) ?_
      refine op_storeW rfl Tryz.sizeOf68 rfl rfl rfl rfl (by simp [Value.oneCell']) H22 ?_
      intro W24 hu25 Ha26
      clear H22
      have H27 : St w No [hB g_1_6 68 #[.int .i64 (x.Id), .slice none 0 0, .slice B_1_4 x.Loop.length c_1_4, .slice none 0 0, .slice none 0 0], hR ki_Sent 235 (.slice B_1_4 x.Loop.length c_1_4) x.Loop, hB g_0_1 68 #[.int .i64 (0), .slice none 0 0, .slice none 0 0, .slice none 0 0, .slice none 0 0], hB g_0_0 68 #[.int .i64 (x.Id), .slice Ax1 x.Entities.length cx1, .slice Ax2 x.Loop.length cx2, .slice Ax3 x.Links.length cx3, .slice Ax4 x.Out.length cx4]] W24 := Ha26
      clear Ha26
      clear hu25
      have hS28 : Blk W24 g_0_0 68 #[.int .i64 (x.Id), .slice Ax1 x.Entities.length cx1, .slice Ax2 x.Loop.length cx2, .slice Ax3 x.Links.length cx3, .slice Ax4 x.Out.length cx4] := H27.blk 3 rfl
      refine ⟨fun _ => hS28, ?_⟩
      refine anyS_done (by kernel_rfl) ?_ _
      exact (actOf_drop2 [(1, .pointer (some ⟨g_0_0, 0, none⟩)), (2, .pointer (some ⟨g_0_1, 0, none⟩)), (3, .pointer (some ⟨g_1_6, 0, none⟩))] rfl).elim fun x' hx => ⟨B_1_4, c_1_4, g_1_6, x', hx, H27⟩
    · refine op_alloc rfl Tryz.zeroValue68 rfl rfl H10 ?_
      intro g_1_6 W29 hu30 Ha31
      clear H10
      have H32 : St w No [hB g_1_6 68 #[.int .i64 (0), .slice none 0 0, .slice none 0 0, .slice none 0 0, .slice none 0 0], hB g_0_1 68 #[.int .i64 (0), .slice none 0 0, .slice none 0 0, .slice none 0 0, .slice none 0 0], hB g_0_0 68 #[.int .i64 (x.Id), .slice Ax1 x.Entities.length cx1, .slice Ax2 x.Loop.length cx2, .slice Ax3 x.Links.length cx3, .slice Ax4 x.Out.length cx4]] W29 := Ha31
      clear Ha31
      clear hu30
      have hS33 : Blk W29 g_0_0 68 #[.int .i64 (x.Id), .slice Ax1 x.Entities.length cx1, .slice Ax2 x.Loop.length cx2, .slice Ax3 x.Links.length cx3, .slice Ax4 x.Out.length cx4] := H32.blk 2 rfl
      refine ⟨fun _ => hS33, ?_⟩
      refine anyS_one (i := 4) (by kernel_rfl) ?_
      refine op_call rfl Tryz.call164 (vs := #[.slice Ax2 x.Loop.length cx2]) rfl rfl rfl (copiedSents_i x.Loop _ _ _ (C_upd H32.1 hCx2) s_Loop) ?_
      rintro e38 W37 ⟨v34, rfl, hR35, hu36⟩
      refine ⟨_, rfl, ?_⟩
      obtain ⟨B_1_4, c_1_4, rfl⟩ := R_slice hR35
      have H39 : St w No [hR ki_Sent 235 (.slice B_1_4 x.Loop.length c_1_4) x.Loop, hB g_1_6 68 #[.int .i64 (0), .slice none 0 0, .slice none 0 0, .slice none 0 0, .slice none 0 0], hB g_0_1 68 #[.int .i64 (0), .slice none 0 0, .slice none 0 0, .slice none 0 0, .slice none 0 0], hB g_0_0 68 #[.int .i64 (x.Id), .slice Ax1 x.Entities.length cx1, .slice Ax2 x.Loop.length cx2, .slice Ax3 x.Links.length cx3, .slice Ax4 x.Out.length cx4]] W37 := H32.new hu36 hR35
      clear H32
      have hS40 : Blk W37 g_0_0 68 #[.int .i64 (x.Id), .slice Ax1 x.Entities.length cx1, .slice Ax2 x.Loop.length cx2, .slice Ax3 x.Links.length cx3, .slice Ax4 x.Out.length cx4] := H39.blk 3 rfl
      refine ⟨fun _ => hS40, ?_⟩
      refine anyS_take (i := 5) rfl (by kernel_rfl) (by kernel_rfl) (by kernel_rfl) (by kernel_rfl) (by kernel_rfl) (fun _ _ _ h => h) rfl rfl hS40 (fun W' hs' => rn_build (vs := [(0, .int .i64 (x.Id)), (2, .slice B_1_4 x.Loop.length c_1_4)]) (cells := #[.int .i64 (x.Id), .slice none 0 0, .slice B_1_4 x.Loop.length c_1_4, .slice none 0 0, .slice none 0 0]) rfl (by kernel_rfl)) ?_
      refine anyS_one (i := 7) (by kernel_rfl) ?_
      have H44 : St w No [hB g_1_6 68 #[.int .i64 (0), .slice none 0 0, .slice none 0 0, .slice none 0 0, .slice none 0 0], hR ki_Sent 235 (.slice B_1_4 x.Loop.length c_1_4) x.Loop, hB g_0_1 68 #[.int .i64 (0), .slice none 0 0, .slice none 0 0, .slice none 0 0, .slice none 0 0], hB g_0_0 68 #[.int .i64 (x.Id), .slice Ax1 x.Entities.length cx1, .slice Ax2 x.Loop.length cx2, .slice Ax3 x.Links.length cx3, .slice Ax4 x.Out.length cx4]] W37 := H39.pick [1, 0, 2, 3] (by decide) rfl
      clear H39
      refine op_storeW rfl Tryz.sizeOf68 rfl rfl rfl rfl (by simp [Value.oneCell']) H44 ?_
      intro W41 hu42 Ha43
      clear H44
      have H45 : St w No [hB g_1_6 68 #[.int .i64 (x.Id), .slice none 0 0, .slice B_1_4 x.Loop.length c_1_4, .slice none 0 0, .slice none 0 0], hR ki_Sent 235 (.slice B_1_4 x.Loop.length c_1_4) x.Loop, hB g_0_1 68 #[.int .i64 (0), .slice none 0 0, .slice none 0 0, .slice none 0 0, .slice none 0 0], hB g_0_0 68 #[.int .i64 (x.Id), .slice Ax1 x.Entities.length cx1, .slice Ax2 x.Loop.length cx2, .slice Ax3 x.Links.length cx3, .slice Ax4 x.Out.length cx4]] W41 := Ha43
      clear Ha43
      clear hu42
      have hS46 : Blk W41 g_0_0 68 #[.int .i64 (x.Id), .slice Ax1 x.Entities.length cx1, .slice Ax2 x.Loop.length cx2, .slice Ax3 x.Links.length cx3, .slice Ax4 x.Out.length cx4] := H45.blk 3 rfl
      refine ⟨fun _ => hS46, ?_⟩
      refine anyS_done (by kernel_rfl) ?_ _
      exact (actOf_drop2 [(1, .pointer (some ⟨g_0_0, 0, none⟩)), (2, .pointer (some ⟨g_0_1, 0, none⟩)), (3, .pointer (some ⟨g_1_6, 0, none⟩))] rfl).elim fun x' hx => ⟨B_1_4, c_1_4, g_1_6, x', hx, H45⟩
  · rintro _ W48 ⟨B_1_4, c_1_4, g_1_6, x49, rfl, H47⟩
    refine then_n ?_
    refine wp_seq ?_
    refine wp_seq ?_
    refine reg_seq [0, 1, 2, 3] rfl ?_
    refine ops_cons ?_
    refine op_pure rfl (rn_field fa_68_1 rfl) rfl rfl ?_
    refine ops_cons ?_
    refine op_pure rfl (rn_loadC (v := .slice Ax1 x.Entities.length cx1) Tryz.isAgg63 rfl (H47.blk 3 rfl) rfl) rfl rfl ?_
    refine ops_cons ?_
    refine op_pure rfl (rn_len Tryz.runUnderlying63 rfl) rfl rfl ?_
    refine ops_cons ?_
    refine op_pure rfl (rn_move rfl) rfl rfl ?_
    refine ops_nil ?_
    refine then_n ?_
    refine wp_block ?_
    have H50 : St w No [hR ki_Entity 171 (.slice none 0 0) ([]), hB g_1_6 68 #[.int .i64 (x.Id), .slice none 0 0, .slice B_1_4 x.Loop.length c_1_4, .slice none 0 0, .slice none 0 0], hR ki_Sent 235 (.slice B_1_4 x.Loop.length c_1_4) x.Loop, hB g_0_1 68 #[.int .i64 (0), .slice none 0 0, .slice none 0 0, .slice none 0 0, .slice none 0 0], hB g_0_0 68 #[.int .i64 (x.Id), .slice Ax1 x.Entities.length cx1, .slice Ax2 x.Loop.length cx2, .slice Ax3 x.Links.length cx3, .slice Ax4 x.Out.length cx4]] W48 := H47.add0 (q := hR ki_Entity 171 (.slice none 0 0) []) R_nil
    clear H47
    refine wp_loop_ghost (fun r a' W' => ∃ (i1 : Nat) (A_1 : Option Addr) (c_1 : Nat) (x' : Nat → Value), a' = actOf 66 x' [(1, .pointer (some ⟨g_0_0, 0, none⟩)), (2, .pointer (some ⟨g_0_1, 0, none⟩)), (3, .pointer (some ⟨g_1_6, 0, none⟩)), (17, .slice Ax1 x.Entities.length cx1), (18, .int .i64 ((x.Entities.length : Nat))), (19, .int .i64 (((i1 : Nat) : Int)))] ∧ (i1 + r = x.Entities.length) ∧ St w No [hR ki_Entity 171 (.slice A_1 i1 c_1) (x.Entities.take i1), hB g_1_6 68 #[.int .i64 (x.Id), .slice A_1 i1 c_1, .slice B_1_4 x.Loop.length c_1_4, .slice none 0 0, .slice none 0 0], hR ki_Sent 235 (.slice B_1_4 x.Loop.length c_1_4) x.Loop, hB g_0_1 68 #[.int .i64 (0), .slice none 0 0, .slice none 0 0, .slice none 0 0, .slice none 0 0], hB g_0_0 68 #[.int .i64 (x.Id), .slice Ax1 x.Entities.length cx1, .slice Ax2 x.Loop.length cx2, .slice Ax3 x.Links.length cx3, .slice Ax4 x.Out.length cx4]] W') x.Entities.length ?_ ?_
    · exact (actOf_drop2 [(1, .pointer (some ⟨g_0_0, 0, none⟩)), (2, .pointer (some ⟨g_0_1, 0, none⟩)), (3, .pointer (some ⟨g_1_6, 0, none⟩)), (17, .slice Ax1 x.Entities.length cx1), (18, .int .i64 ((x.Entities.length : Nat))), (19, .int .i64 (((0 : Nat) : Int)))] rfl).elim fun x' hx => ⟨0, none, 0, x', hx, (by omega), H50⟩
    · rintro r51 _ W52 ⟨i1, A_1, c_1, x53, rfl, hi1, H54⟩
      clear H50
      refine wp_seq ?_
      refine reg_seq [0] rfl ?_
      refine ops_cons ?_
      refine op_pure rfl (rn_lss rfl rfl) rfl rfl ?_
      refine ops_nil ?_
      refine then_n ?_
      refine wp_seq ?_
      refine cond_dec rfl (fun hc55 => ?_) (fun hc55 => ?_)
      · have hlt1 : i1 < x.Entities.length := by omega
        obtain ⟨ade56, cse56, hAe56, hKe56, hce56⟩ := C_elem hCx1 i1 hlt1
        have hle56 := ki_Entity_len hKe56
        have hoe56 := ki_Entity_one hKe56
        have hsi1 : szn_Entity x.Entities[i1] ≤ 4194304 := by have h1 := sumS_at szn_Entity x.Entities i1 hlt1; have h2 := s_Entities; unfold sznS at h2; omega
        refine wp_skip ?_
        refine then_n ?_
        refine wp_seq ?_
        refine wp_block ?_
        refine wp_seq ?_
        refine reg_seq [0, 1, 2, 3] rfl ?_
        refine ops_cons ?_
        refine op_pure rfl (rn_indexA (k := i1) Tryz.runUnderlying63 Tryz.sizeOf171 rfl rfl hAe56 hlt1) rfl rfl ?_
        refine ops_cons ?_
        refine op_pure rfl (rn_loadN Tryz.isAgg171 Tryz.sizeOf171 rfl (Cat.upd hce56 H54.1) hle56) rfl rfl ?_
        refine ops_cons ?_
        refine op_alloc rfl Tryz.zeroValue171 rfl rfl H54 ?_
        intro g_4_2 W57 hu58 Ha59
        clear H54
        have H60 : St w No [hB g_4_2 171 #[.int .i64 (0), .int .i64 (0), .slice none 0 0, .int .i64 (0), .int .i64 (0), .int .i64 (0), .slice none 0 0, .slice none 0 0, .int .i64 (0), .int .i64 (0), .int .i64 (0), .int .i64 (0)], hR ki_Entity 171 (.slice A_1 i1 c_1) (x.Entities.take i1), hB g_1_6 68 #[.int .i64 (x.Id), .slice A_1 i1 c_1, .slice B_1_4 x.Loop.length c_1_4, .slice none 0 0, .slice none 0 0], hR ki_Sent 235 (.slice B_1_4 x.Loop.length c_1_4) x.Loop, hB g_0_1 68 #[.int .i64 (0), .slice none 0 0, .slice none 0 0, .slice none 0 0, .slice none 0 0], hB g_0_0 68 #[.int .i64 (x.Id), .slice Ax1 x.Entities.length cx1, .slice Ax2 x.Loop.length cx2, .slice Ax3 x.Links.length cx3, .slice Ax4 x.Out.length cx4]] W57 := Ha59
        clear Ha59
        clear hu58
        refine ops_cons ?_
        refine op_storeW rfl Tryz.sizeOf171 rfl rfl hle56 rfl hoe56 H60 ?_
        intro W61 hu62 Ha63
        clear H60
        have H64 : St w No [hB g_4_2 171 (List.toArray cse56), hR ki_Entity 171 (.slice A_1 i1 c_1) (x.Entities.take i1), hB g_1_6 68 #[.int .i64 (x.Id), .slice A_1 i1 c_1, .slice B_1_4 x.Loop.length c_1_4, .slice none 0 0, .slice none 0 0], hR ki_Sent 235 (.slice B_1_4 x.Loop.length c_1_4) x.Loop, hB g_0_1 68 #[.int .i64 (0), .slice none 0 0, .slice none 0 0, .slice none 0 0, .slice none 0 0], hB g_0_0 68 #[.int .i64 (x.Id), .slice Ax1 x.Entities.length cx1, .slice Ax2 x.Loop.length cx2, .slice Ax3 x.Links.length cx3, .slice Ax4 x.Out.length cx4]] W61 := Ha63
        clear Ha63
        clear hu62
        refine ops_nil ?_
        refine then_n ?_
        refine reg_draw (fun W' => Blk W' g_1_6 68 #[.int .i64 (x.Id), .slice A_1 i1 c_1, .slice B_1_4 x.Loop.length c_1_4, .slice none 0 0, .slice none 0 0] ∧ Blk W' g_4_2 171 (List.toArray cse56)) 7 (by kernel_rfl) ?_
        have H65 : St w No [hB g_4_2 171 (List.toArray cse56), hR ki_Entity 171 (.slice A_1 i1 c_1) (x.Entities.take i1), hB g_1_6 68 #[.int .i64 (x.Id), .slice A_1 i1 c_1, .slice B_1_4 x.Loop.length c_1_4, .slice none 0 0, .slice none 0 0], hR ki_Sent 235 (.slice B_1_4 x.Loop.length c_1_4) x.Loop, hB g_0_1 68 #[.int .i64 (0), .slice none 0 0, .slice none 0 0, .slice none 0 0, .slice none 0 0], hB g_0_0 68 #[.int .i64 (x.Id), .slice Ax1 x.Entities.length cx1, .slice Ax2 x.Loop.length cx2, .slice Ax3 x.Links.length cx3, .slice Ax4 x.Out.length cx4]] W61.drew := H64.drew
        clear H64
        have hS66 : Blk W61.drew g_1_6 68 #[.int .i64 (x.Id), .slice A_1 i1 c_1, .slice B_1_4 x.Loop.length c_1_4, .slice none 0 0, .slice none 0 0] ∧ Blk W61.drew g_4_2 171 (List.toArray cse56) := ⟨H65.blk 2 rfl, H65.blk 0 rfl⟩
        refine anyS_take (i := 0) rfl (by kernel_rfl) (by kernel_rfl) (by kernel_rfl) (by kernel_rfl) (by kernel_rfl) (fun _ _ _ h => h) rfl rfl hS66 (fun W' hs' => rn_field fa_68_1 rfl) ?_
        refine anyS_take (i := 1) rfl (by kernel_rfl) (by kernel_rfl) (by kernel_rfl) (by kernel_rfl) (by kernel_rfl) (fun _ _ _ h => h) rfl rfl hS66 (fun W' hs' => rn_loadC (v := .slice A_1 i1 c_1) Tryz.isAgg63 rfl hs'.1 rfl) ?_
        refine anyS_take (i := 2) rfl (by kernel_rfl) (by kernel_rfl) (by kernel_rfl) (by kernel_rfl) (by kernel_rfl) (fun _ _ _ h => h) rfl rfl hS66 (fun W' hs' => rn_loadB Tryz.isAgg171 Tryz.sizeOf171 rfl hs'.2 hle56) ?_
        refine anyS_one (i := 3) (by kernel_rfl) ?_
        refine op_call rfl Tryz.call165 (vs := #[.agg (List.toArray cse56)]) rfl rfl rfl (copied_Entity x.Entities[i1] _ _ (K_upd H65.1 hKe56) hsi1) ?_
        rintro e70 W69 ⟨cs_5_3, rfl, hM67, hu68⟩
        refine ⟨_, rfl, ?_⟩
        have hl71 := ki_Entity_len (ki_Entity.K_of_M hM67)
        have ho72 := ki_Entity_one (ki_Entity.K_of_M hM67)
        have H73 : St w No [hM ki_Entity (x.Entities[i1]) cs_5_3, hB g_4_2 171 (List.toArray cse56), hR ki_Entity 171 (.slice A_1 i1 c_1) (x.Entities.take i1), hB g_1_6 68 #[.int .i64 (x.Id), .slice A_1 i1 c_1, .slice B_1_4 x.Loop.length c_1_4, .slice none 0 0, .slice none 0 0], hR ki_Sent 235 (.slice B_1_4 x.Loop.length c_1_4) x.Loop, hB g_0_1 68 #[.int .i64 (0), .slice none 0 0, .slice none 0 0, .slice none 0 0, .slice none 0 0], hB g_0_0 68 #[.int .i64 (x.Id), .slice Ax1 x.Entities.length cx1, .slice Ax2 x.Loop.length cx2, .slice Ax3 x.Links.length cx3, .slice Ax4 x.Out.length cx4]] W69 := H65.new hu68 hM67
        clear H65
        have hS74 : Blk W69 g_1_6 68 #[.int .i64 (x.Id), .slice A_1 i1 c_1, .slice B_1_4 x.Loop.length c_1_4, .slice none 0 0, .slice none 0 0] ∧ Blk W69 g_4_2 171 (List.toArray cse56) := ⟨H73.blk 3 rfl, H73.blk 1 rfl⟩
        refine ⟨fun _ => hS74, ?_⟩
        refine anyS_one (i := 4) (by kernel_rfl) ?_
        refine op_slice1 rfl Tryz.runUnderlying63 Tryz.sizeOf171 (by decide) Tryz.zeroValue171 rfl (ki_Entity_len (H73.kn 0 rfl)) rfl rfl H73 ?_
        intro g_5_4 W75 hu76 Ha77
        clear H73
        have H78 : St w No [hB g_5_4 171 (List.toArray cs_5_3), hM ki_Entity (x.Entities[i1]) cs_5_3, hB g_4_2 171 (List.toArray cse56), hR ki_Entity 171 (.slice A_1 i1 c_1) (x.Entities.take i1), hB g_1_6 68 #[.int .i64 (x.Id), .slice A_1 i1 c_1, .slice B_1_4 x.Loop.length c_1_4, .slice none 0 0, .slice none 0 0], hR ki_Sent 235 (.slice B_1_4 x.Loop.length c_1_4) x.Loop, hB g_0_1 68 #[.int .i64 (0), .slice none 0 0, .slice none 0 0, .slice none 0 0, .slice none 0 0], hB g_0_0 68 #[.int .i64 (x.Id), .slice Ax1 x.Entities.length cx1, .slice Ax2 x.Loop.length cx2, .slice Ax3 x.Links.length cx3, .slice Ax4 x.Out.length cx4]] W75 := Ha77
        clear Ha77
        clear hu76
        have hS79 : Blk W75 g_1_6 68 #[.int .i64 (x.Id), .slice A_1 i1 c_1, .slice B_1_4 x.Loop.length c_1_4, .slice none 0 0, .slice none 0 0] ∧ Blk W75 g_4_2 171 (List.toArray cse56) := ⟨H78.blk 4 rfl, H78.blk 2 rfl⟩
        refine ⟨fun _ => hS79, ?_⟩
        refine anyS_one (i := 5) (by kernel_rfl) ?_
        have H82 : St w No [hR ki_Entity 171 (.slice A_1 i1 c_1) (x.Entities.take i1), hB g_5_4 171 (List.toArray cs_5_3), hM ki_Entity (x.Entities[i1]) cs_5_3, hB g_4_2 171 (List.toArray cse56), hB g_1_6 68 #[.int .i64 (x.Id), .slice A_1 i1 c_1, .slice B_1_4 x.Loop.length c_1_4, .slice none 0 0, .slice none 0 0], hR ki_Sent 235 (.slice B_1_4 x.Loop.length c_1_4) x.Loop, hB g_0_1 68 #[.int .i64 (0), .slice none 0 0, .slice none 0 0, .slice none 0 0, .slice none 0 0], hB g_0_0 68 #[.int .i64 (x.Id), .slice Ax1 x.Entities.length cx1, .slice Ax2 x.Loop.length cx2, .slice Ax3 x.Links.length cx3, .slice Ax4 x.Out.length cx4]] W75 := H78.pick [3, 0, 1, 2, 4, 5, 6, 7] (by decide) rfl
        clear H78
        refine op_append1' (xs := (x.Entities.take i1)) (p := x.Entities[i1]) (n' := (i1 + 1)) (ys := (x.Entities.take (i1 + 1))) rfl Tryz.underlying63 ki_Entity_info rfl (by decide) (by decide) rfl rfl (by rw [List.length_take, Nat.min_eq_left (by omega)]; omega) (by rw [List.length_take, Nat.min_eq_left (by omega)]) (List.take_succ_eq_append_getElem hlt1).symm rfl rfl H82 ?_
        intro B_5_5 c_5_5 W80 Ha81
        clear H82
        have H83 : St w No [hR ki_Entity 171 (.slice B_5_5 (i1 + 1) c_5_5) (x.Entities.take (i1 + 1)), hB g_4_2 171 (List.toArray cse56), hB g_1_6 68 #[.int .i64 (x.Id), .slice A_1 i1 c_1, .slice B_1_4 x.Loop.length c_1_4, .slice none 0 0, .slice none 0 0], hR ki_Sent 235 (.slice B_1_4 x.Loop.length c_1_4) x.Loop, hB g_0_1 68 #[.int .i64 (0), .slice none 0 0, .slice none 0 0, .slice none 0 0, .slice none 0 0], hB g_0_0 68 #[.int .i64 (x.Id), .slice Ax1 x.Entities.length cx1, .slice Ax2 x.Loop.length cx2, .slice Ax3 x.Links.length cx3, .slice Ax4 x.Out.length cx4]] W80 := Ha81
        clear Ha81
        have hS84 : Blk W80 g_1_6 68 #[.int .i64 (x.Id), .slice A_1 i1 c_1, .slice B_1_4 x.Loop.length c_1_4, .slice none 0 0, .slice none 0 0] ∧ Blk W80 g_4_2 171 (List.toArray cse56) := ⟨H83.blk 2 rfl, H83.blk 1 rfl⟩
        refine ⟨fun _ => hS84, ?_⟩
        refine anyS_take (i := 6) rfl (by kernel_rfl) (by kernel_rfl) (by kernel_rfl) (by kernel_rfl) (by kernel_rfl) (fun _ _ _ h => h) rfl rfl hS84 (fun W' hs' => rn_field fa_68_1 rfl) ?_
        refine anyS_one (i := 7) (by kernel_rfl) ?_
        have H88 : St w No [hB g_1_6 68 #[.int .i64 (x.Id), .slice A_1 i1 c_1, .slice B_1_4 x.Loop.length c_1_4, .slice none 0 0, .slice none 0 0], hR ki_Entity 171 (.slice B_5_5 (i1 + 1) c_5_5) (x.Entities.take (i1 + 1)), hB g_4_2 171 (List.toArray cse56), hR ki_Sent 235 (.slice B_1_4 x.Loop.length c_1_4) x.Loop, hB g_0_1 68 #[.int .i64 (0), .slice none 0 0, .slice none 0 0, .slice none 0 0, .slice none 0 0], hB g_0_0 68 #[.int .i64 (x.Id), .slice Ax1 x.Entities.length cx1, .slice Ax2 x.Loop.length cx2, .slice Ax3 x.Links.length cx3, .slice Ax4 x.Out.length cx4]] W80 := H83.pick [2, 0, 1, 3, 4, 5] (by decide) rfl
        clear H83
        refine op_store rfl Tryz.sizeOf63 rfl rfl rfl (Nat.le_of_ble_eq_true rfl) (by simp [Value.cells, Value.oneCell']) H88 ?_
        intro W85 hu86 Ha87
        clear H88
        have H89 : St w No [hB g_1_6 68 #[.int .i64 (x.Id), .slice B_5_5 (i1 + 1) c_5_5, .slice B_1_4 x.Loop.length c_1_4, .slice none 0 0, .slice none 0 0], hR ki_Entity 171 (.slice B_5_5 (i1 + 1) c_5_5) (x.Entities.take (i1 + 1)), hB g_4_2 171 (List.toArray cse56), hR ki_Sent 235 (.slice B_1_4 x.Loop.length c_1_4) x.Loop, hB g_0_1 68 #[.int .i64 (0), .slice none 0 0, .slice none 0 0, .slice none 0 0, .slice none 0 0], hB g_0_0 68 #[.int .i64 (x.Id), .slice Ax1 x.Entities.length cx1, .slice Ax2 x.Loop.length cx2, .slice Ax3 x.Links.length cx3, .slice Ax4 x.Out.length cx4]] W85 := Ha87
        clear Ha87
        clear hu86
        refine ⟨fun h => absS (by kernel_rfl) h, ?_⟩
        refine anyS_done (by kernel_rfl) ?_ _
        refine inB_n ?_
        refine then_n ?_
        refine reg_seq [0, 1] rfl ?_
        refine ops_cons ?_
        refine op_pure rfl (rn_inc (k := i1) rfl rfl (by omega)) rfl rfl ?_
        refine ops_cons ?_
        refine op_pure rfl (rn_move rfl) rfl rfl ?_
        refine ops_nil ?_
        refine then_n ?_
        exact (actOf_drop2 [(1, .pointer (some ⟨g_0_0, 0, none⟩)), (2, .pointer (some ⟨g_0_1, 0, none⟩)), (3, .pointer (some ⟨g_1_6, 0, none⟩)), (17, .slice Ax1 x.Entities.length cx1), (18, .int .i64 ((x.Entities.length : Nat))), (19, .int .i64 (((i1 + 1 : Nat) : Int)))] rfl).elim fun x' hx => ⟨r51 - 1, (by omega), i1 + 1, B_5_5, c_5_5, x', hx, (by omega), H89.pick [1, 0, 3, 4, 5] (by decide) rfl⟩
      · obtain rfl : i1 = x.Entities.length := by omega
        rw [List.take_length] at H54
        have H90 : St w No [hR ki_Entity 171 (.slice A_1 x.Entities.length c_1) x.Entities, hB g_1_6 68 #[.int .i64 (x.Id), .slice A_1 x.Entities.length c_1, .slice B_1_4 x.Loop.length c_1_4, .slice none 0 0, .slice none 0 0], hR ki_Sent 235 (.slice B_1_4 x.Loop.length c_1_4) x.Loop, hB g_0_1 68 #[.int .i64 (0), .slice none 0 0, .slice none 0 0, .slice none 0 0, .slice none 0 0], hB g_0_0 68 #[.int .i64 (x.Id), .slice Ax1 x.Entities.length cx1, .slice Ax2 x.Loop.length cx2, .slice Ax3 x.Links.length cx3, .slice Ax4 x.Out.length cx4]] W52 := H54
        clear H54
        refine wp_exit ?_
        refine then_x ?_
        refine then_x ?_
        refine inB_x ?_
        refine then_n ?_
        refine wp_seq ?_
        refine wp_seq ?_
        refine reg_seq [0, 1, 2, 3] rfl ?_
        refine ops_cons ?_
        refine op_pure rfl (rn_field fa_68_3 rfl) rfl rfl ?_
        refine ops_cons ?_
        refine op_pure rfl (rn_loadC (v := .slice Ax3 x.Links.length cx3) Tryz.isAgg65 rfl (H90.blk 4 rfl) rfl) rfl rfl ?_
        refine ops_cons ?_
        refine op_pure rfl (rn_len Tryz.runUnderlying65 rfl) rfl rfl ?_
        refine ops_cons ?_
        refine op_pure rfl (rn_move rfl) rfl rfl ?_
        refine ops_nil ?_
        refine then_n ?_
        refine wp_block ?_
        have H91 : St w No [hR ki_Link 178 (.slice none 0 0) ([]), hR ki_Entity 171 (.slice A_1 x.Entities.length c_1) x.Entities, hB g_1_6 68 #[.int .i64 (x.Id), .slice A_1 x.Entities.length c_1, .slice B_1_4 x.Loop.length c_1_4, .slice none 0 0, .slice none 0 0], hR ki_Sent 235 (.slice B_1_4 x.Loop.length c_1_4) x.Loop, hB g_0_1 68 #[.int .i64 (0), .slice none 0 0, .slice none 0 0, .slice none 0 0, .slice none 0 0], hB g_0_0 68 #[.int .i64 (x.Id), .slice Ax1 x.Entities.length cx1, .slice Ax2 x.Loop.length cx2, .slice Ax3 x.Links.length cx3, .slice Ax4 x.Out.length cx4]] W52 := H90.add0 (q := hR ki_Link 178 (.slice none 0 0) []) R_nil
        clear H90
        refine wp_loop_ghost (fun r a' W' => ∃ (i2 : Nat) (A_2 : Option Addr) (c_2 : Nat) (x' : Nat → Value), a' = actOf 66 x' [(1, .pointer (some ⟨g_0_0, 0, none⟩)), (2, .pointer (some ⟨g_0_1, 0, none⟩)), (3, .pointer (some ⟨g_1_6, 0, none⟩)), (32, .slice Ax3 x.Links.length cx3), (33, .int .i64 ((x.Links.length : Nat))), (34, .int .i64 (((i2 : Nat) : Int)))] ∧ (i2 + r = x.Links.length) ∧ St w No [hR ki_Link 178 (.slice A_2 i2 c_2) (x.Links.take i2), hR ki_Entity 171 (.slice A_1 x.Entities.length c_1) x.Entities, hB g_1_6 68 #[.int .i64 (x.Id), .slice A_1 x.Entities.length c_1, .slice B_1_4 x.Loop.length c_1_4, .slice A_2 i2 c_2, .slice none 0 0], hR ki_Sent 235 (.slice B_1_4 x.Loop.length c_1_4) x.Loop, hB g_0_1 68 #[.int .i64 (0), .slice none 0 0, .slice none 0 0, .slice none 0 0, .slice none 0 0], hB g_0_0 68 #[.int .i64 (x.Id), .slice Ax1 x.Entities.length cx1, .slice Ax2 x.Loop.length cx2, .slice Ax3 x.Links.length cx3, .slice Ax4 x.Out.length cx4]] W') x.Links.length ?_ ?_
        · exact (actOf_drop2 [(1, .pointer (some ⟨g_0_0, 0, none⟩)), (2, .pointer (some ⟨g_0_1, 0, none⟩)), (3, .pointer (some ⟨g_1_6, 0, none⟩)), (32, .slice Ax3 x.Links.length cx3), (33, .int .i64 ((x.Links.length : Nat))), (34, .int .i64 (((0 : Nat) : Int)))] rfl).elim fun x' hx => ⟨0, none, 0, x', hx, (by omega), H91⟩
        · rintro r92 _ W93 ⟨i2, A_2, c_2, x94, rfl, hi2, H95⟩
          clear H91
          refine wp_seq ?_
          refine reg_seq [0] rfl ?_
          refine ops_cons ?_
          refine op_pure rfl (rn_lss rfl rfl) rfl rfl ?_
          refine ops_nil ?_
          refine then_n ?_
          refine wp_seq ?_
          refine cond_dec rfl (fun hc96 => ?_) (fun hc96 => ?_)
          · have hlt2 : i2 < x.Links.length := by omega
            obtain ⟨ade97, cse97, hAe97, hKe97, hce97⟩ := C_elem hCx3 i2 hlt2
            have hle97 := ki_Link_len hKe97
            have hoe97 := ki_Link_one hKe97
            have hsi2 : szn_Link x.Links[i2] ≤ 4194304 := by have h1 := sumS_at szn_Link x.Links i2 hlt2; have h2 := s_Links; unfold sznS at h2; omega
            refine wp_skip ?_
            refine then_n ?_
            refine wp_seq ?_
            refine wp_block ?_
            refine wp_seq ?_
            refine reg_seq [0, 1, 2, 3] rfl ?_
            refine ops_cons ?_
            refine op_pure rfl (rn_indexA (k := i2) Tryz.runUnderlying65 Tryz.sizeOf178 rfl rfl hAe97 hlt2) rfl rfl ?_
            refine ops_cons ?_
            refine op_pure rfl (rn_loadN Tryz.isAgg178 Tryz.sizeOf178 rfl (Cat.upd hce97 H95.1) hle97) rfl rfl ?_
            refine ops_cons ?_
            refine op_alloc rfl Tryz.zeroValue178 rfl rfl H95 ?_
            intro g_9_2 W98 hu99 Ha100
            clear H95
            have H101 : St w No [hB g_9_2 178 #[.int .i64 (0), .bool (false), .slice none 0 0, .int .i64 (0), .slice none 0 0, .int .i64 (0), .slice none 0 0], hR ki_Link 178 (.slice A_2 i2 c_2) (x.Links.take i2), hR ki_Entity 171 (.slice A_1 x.Entities.length c_1) x.Entities, hB g_1_6 68 #[.int .i64 (x.Id), .slice A_1 x.Entities.length c_1, .slice B_1_4 x.Loop.length c_1_4, .slice A_2 i2 c_2, .slice none 0 0], hR ki_Sent 235 (.slice B_1_4 x.Loop.length c_1_4) x.Loop, hB g_0_1 68 #[.int .i64 (0), .slice none 0 0, .slice none 0 0, .slice none 0 0, .slice none 0 0], hB g_0_0 68 #[.int .i64 (x.Id), .slice Ax1 x.Entities.length cx1, .slice Ax2 x.Loop.length cx2, .slice Ax3 x.Links.length cx3, .slice Ax4 x.Out.length cx4]] W98 := Ha100
            clear Ha100
            clear hu99
            refine ops_cons ?_
            refine op_storeW rfl Tryz.sizeOf178 rfl rfl hle97 rfl hoe97 H101 ?_
            intro W102 hu103 Ha104
            clear H101
            have H105 : St w No [hB g_9_2 178 (List.toArray cse97), hR ki_Link 178 (.slice A_2 i2 c_2) (x.Links.take i2), hR ki_Entity 171 (.slice A_1 x.Entities.length c_1) x.Entities, hB g_1_6 68 #[.int .i64 (x.Id), .slice A_1 x.Entities.length c_1, .slice B_1_4 x.Loop.length c_1_4, .slice A_2 i2 c_2, .slice none 0 0], hR ki_Sent 235 (.slice B_1_4 x.Loop.length c_1_4) x.Loop, hB g_0_1 68 #[.int .i64 (0), .slice none 0 0, .slice none 0 0, .slice none 0 0, .slice none 0 0], hB g_0_0 68 #[.int .i64 (x.Id), .slice Ax1 x.Entities.length cx1, .slice Ax2 x.Loop.length cx2, .slice Ax3 x.Links.length cx3, .slice Ax4 x.Out.length cx4]] W102 := Ha104
            clear Ha104
            clear hu103
            refine ops_nil ?_
            refine then_n ?_
            refine reg_draw (fun W' => Blk W' g_1_6 68 #[.int .i64 (x.Id), .slice A_1 x.Entities.length c_1, .slice B_1_4 x.Loop.length c_1_4, .slice A_2 i2 c_2, .slice none 0 0] ∧ Blk W' g_9_2 178 (List.toArray cse97)) 7 (by kernel_rfl) ?_
            have H106 : St w No [hB g_9_2 178 (List.toArray cse97), hR ki_Link 178 (.slice A_2 i2 c_2) (x.Links.take i2), hR ki_Entity 171 (.slice A_1 x.Entities.length c_1) x.Entities, hB g_1_6 68 #[.int .i64 (x.Id), .slice A_1 x.Entities.length c_1, .slice B_1_4 x.Loop.length c_1_4, .slice A_2 i2 c_2, .slice none 0 0], hR ki_Sent 235 (.slice B_1_4 x.Loop.length c_1_4) x.Loop, hB g_0_1 68 #[.int .i64 (0), .slice none 0 0, .slice none 0 0, .slice none 0 0, .slice none 0 0], hB g_0_0 68 #[.int .i64 (x.Id), .slice Ax1 x.Entities.length cx1, .slice Ax2 x.Loop.length cx2, .slice Ax3 x.Links.length cx3, .slice Ax4 x.Out.length cx4]] W102.drew := H105.drew
            clear H105
            have hS107 : Blk W102.drew g_1_6 68 #[.int .i64 (x.Id), .slice A_1 x.Entities.length c_1, .slice B_1_4 x.Loop.length c_1_4, .slice A_2 i2 c_2, .slice none 0 0] ∧ Blk W102.drew g_9_2 178 (List.toArray cse97) := ⟨H106.blk 3 rfl, H106.blk 0 rfl⟩
            refine anyS_take (i := 0) rfl (by kernel_rfl) (by kernel_rfl) (by kernel_rfl) (by kernel_rfl) (by kernel_rfl) (fun _ _ _ h => h) rfl rfl hS107 (fun W' hs' => rn_field fa_68_3 rfl) ?_
            refine anyS_take (i := 1) rfl (by kernel_rfl) (by kernel_rfl) (by kernel_rfl) (by kernel_rfl) (by kernel_rfl) (fun _ _ _ h => h) rfl rfl hS107 (fun W' hs' => rn_loadC (v := .slice A_2 i2 c_2) Tryz.isAgg65 rfl hs'.1 rfl) ?_
            refine anyS_take (i := 2) rfl (by kernel_rfl) (by kernel_rfl) (by kernel_rfl) (by kernel_rfl) (by kernel_rfl) (fun _ _ _ h => h) rfl rfl hS107 (fun W' hs' => rn_loadB Tryz.isAgg178 Tryz.sizeOf178 rfl hs'.2 hle97) ?_
            refine anyS_one (i := 3) (by kernel_rfl) ?_
            refine op_call rfl Tryz.call166 (vs := #[.agg (List.toArray cse97)]) rfl rfl rfl (copied_Link x.Links[i2] _ _ (K_upd H106.1 hKe97) hsi2) ?_
            rintro e111 W110 ⟨cs_10_3, rfl, hM108, hu109⟩
            refine ⟨_, rfl, ?_⟩
            have hl112 := ki_Link_len (ki_Link.K_of_M hM108)
            have ho113 := ki_Link_one (ki_Link.K_of_M hM108)
            have H114 : St w No [hM ki_Link (x.Links[i2]) cs_10_3, hB g_9_2 178 (List.toArray cse97), hR ki_Link 178 (.slice A_2 i2 c_2) (x.Links.take i2), hR ki_Entity 171 (.slice A_1 x.Entities.length c_1) x.Entities, hB g_1_6 68 #[.int .i64 (x.Id), .slice A_1 x.Entities.length c_1, .slice B_1_4 x.Loop.length c_1_4, .slice A_2 i2 c_2, .slice none 0 0], hR ki_Sent 235 (.slice B_1_4 x.Loop.length c_1_4) x.Loop, hB g_0_1 68 #[.int .i64 (0), .slice none 0 0, .slice none 0 0, .slice none 0 0, .slice none 0 0], hB g_0_0 68 #[.int .i64 (x.Id), .slice Ax1 x.Entities.length cx1, .slice Ax2 x.Loop.length cx2, .slice Ax3 x.Links.length cx3, .slice Ax4 x.Out.length cx4]] W110 := H106.new hu109 hM108
            clear H106
            have hS115 : Blk W110 g_1_6 68 #[.int .i64 (x.Id), .slice A_1 x.Entities.length c_1, .slice B_1_4 x.Loop.length c_1_4, .slice A_2 i2 c_2, .slice none 0 0] ∧ Blk W110 g_9_2 178 (List.toArray cse97) := ⟨H114.blk 4 rfl, H114.blk 1 rfl⟩
            refine ⟨fun _ => hS115, ?_⟩
            refine anyS_one (i := 4) (by kernel_rfl) ?_
            refine op_slice1 rfl Tryz.runUnderlying65 Tryz.sizeOf178 (by decide) Tryz.zeroValue178 rfl (ki_Link_len (H114.kn 0 rfl)) rfl rfl H114 ?_
            intro g_10_4 W116 hu117 Ha118
            clear H114
            have H119 : St w No [hB g_10_4 178 (List.toArray cs_10_3), hM ki_Link (x.Links[i2]) cs_10_3, hB g_9_2 178 (List.toArray cse97), hR ki_Link 178 (.slice A_2 i2 c_2) (x.Links.take i2), hR ki_Entity 171 (.slice A_1 x.Entities.length c_1) x.Entities, hB g_1_6 68 #[.int .i64 (x.Id), .slice A_1 x.Entities.length c_1, .slice B_1_4 x.Loop.length c_1_4, .slice A_2 i2 c_2, .slice none 0 0], hR ki_Sent 235 (.slice B_1_4 x.Loop.length c_1_4) x.Loop, hB g_0_1 68 #[.int .i64 (0), .slice none 0 0, .slice none 0 0, .slice none 0 0, .slice none 0 0], hB g_0_0 68 #[.int .i64 (x.Id), .slice Ax1 x.Entities.length cx1, .slice Ax2 x.Loop.length cx2, .slice Ax3 x.Links.length cx3, .slice Ax4 x.Out.length cx4]] W116 := Ha118
            clear Ha118
            clear hu117
            have hS120 : Blk W116 g_1_6 68 #[.int .i64 (x.Id), .slice A_1 x.Entities.length c_1, .slice B_1_4 x.Loop.length c_1_4, .slice A_2 i2 c_2, .slice none 0 0] ∧ Blk W116 g_9_2 178 (List.toArray cse97) := ⟨H119.blk 5 rfl, H119.blk 2 rfl⟩
            refine ⟨fun _ => hS120, ?_⟩
            refine anyS_one (i := 5) (by kernel_rfl) ?_
            have H123 : St w No [hR ki_Link 178 (.slice A_2 i2 c_2) (x.Links.take i2), hB g_10_4 178 (List.toArray cs_10_3), hM ki_Link (x.Links[i2]) cs_10_3, hB g_9_2 178 (List.toArray cse97), hR ki_Entity 171 (.slice A_1 x.Entities.length c_1) x.Entities, hB g_1_6 68 #[.int .i64 (x.Id), .slice A_1 x.Entities.length c_1, .slice B_1_4 x.Loop.length c_1_4, .slice A_2 i2 c_2, .slice none 0 0], hR ki_Sent 235 (.slice B_1_4 x.Loop.length c_1_4) x.Loop, hB g_0_1 68 #[.int .i64 (0), .slice none 0 0, .slice none 0 0, .slice none 0 0, .slice none 0 0], hB g_0_0 68 #[.int .i64 (x.Id), .slice Ax1 x.Entities.length cx1, .slice Ax2 x.Loop.length cx2, .slice Ax3 x.Links.length cx3, .slice Ax4 x.Out.length cx4]] W116 := H119.pick [3, 0, 1, 2, 4, 5, 6, 7, 8] (by decide) rfl
            clear H119
            refine op_append1' (xs := (x.Links.take i2)) (p := x.Links[i2]) (n' := (i2 + 1)) (ys := (x.Links.take (i2 + 1))) rfl Tryz.underlying65 ki_Link_info rfl (by decide) (by decide) rfl rfl (by rw [List.length_take, Nat.min_eq_left (by omega)]; omega) (by rw [List.length_take, Nat.min_eq_left (by omega)]) (List.take_succ_eq_append_getElem hlt2).symm rfl rfl H123 ?_
            intro B_10_5 c_10_5 W121 Ha122
            clear H123
            have H124 : St w No [hR ki_Link 178 (.slice B_10_5 (i2 + 1) c_10_5) (x.Links.take (i2 + 1)), hB g_9_2 178 (List.toArray cse97), hR ki_Entity 171 (.slice A_1 x.Entities.length c_1) x.Entities, hB g_1_6 68 #[.int .i64 (x.Id), .slice A_1 x.Entities.length c_1, .slice B_1_4 x.Loop.length c_1_4, .slice A_2 i2 c_2, .slice none 0 0], hR ki_Sent 235 (.slice B_1_4 x.Loop.length c_1_4) x.Loop, hB g_0_1 68 #[.int .i64 (0), .slice none 0 0, .slice none 0 0, .slice none 0 0, .slice none 0 0], hB g_0_0 68 #[.int .i64 (x.Id), .slice Ax1 x.Entities.length cx1, .slice Ax2 x.Loop.length cx2, .slice Ax3 x.Links.length cx3, .slice Ax4 x.Out.length cx4]] W121 := Ha122
            clear Ha122
            have hS125 : Blk W121 g_1_6 68 #[.int .i64 (x.Id), .slice A_1 x.Entities.length c_1, .slice B_1_4 x.Loop.length c_1_4, .slice A_2 i2 c_2, .slice none 0 0] ∧ Blk W121 g_9_2 178 (List.toArray cse97) := ⟨H124.blk 3 rfl, H124.blk 1 rfl⟩
            refine ⟨fun _ => hS125, ?_⟩
            refine anyS_take (i := 6) rfl (by kernel_rfl) (by kernel_rfl) (by kernel_rfl) (by kernel_rfl) (by kernel_rfl) (fun _ _ _ h => h) rfl rfl hS125 (fun W' hs' => rn_field fa_68_3 rfl) ?_
            refine anyS_one (i := 7) (by kernel_rfl) ?_
            have H129 : St w No [hB g_1_6 68 #[.int .i64 (x.Id), .slice A_1 x.Entities.length c_1, .slice B_1_4 x.Loop.length c_1_4, .slice A_2 i2 c_2, .slice none 0 0], hR ki_Link 178 (.slice B_10_5 (i2 + 1) c_10_5) (x.Links.take (i2 + 1)), hB g_9_2 178 (List.toArray cse97), hR ki_Entity 171 (.slice A_1 x.Entities.length c_1) x.Entities, hR ki_Sent 235 (.slice B_1_4 x.Loop.length c_1_4) x.Loop, hB g_0_1 68 #[.int .i64 (0), .slice none 0 0, .slice none 0 0, .slice none 0 0, .slice none 0 0], hB g_0_0 68 #[.int .i64 (x.Id), .slice Ax1 x.Entities.length cx1, .slice Ax2 x.Loop.length cx2, .slice Ax3 x.Links.length cx3, .slice Ax4 x.Out.length cx4]] W121 := H124.pick [3, 0, 1, 2, 4, 5, 6] (by decide) rfl
            clear H124
            refine op_store rfl Tryz.sizeOf65 rfl rfl rfl (Nat.le_of_ble_eq_true rfl) (by simp [Value.cells, Value.oneCell']) H129 ?_
            intro W126 hu127 Ha128
            clear H129
            have H130 : St w No [hB g_1_6 68 #[.int .i64 (x.Id), .slice A_1 x.Entities.length c_1, .slice B_1_4 x.Loop.length c_1_4, .slice B_10_5 (i2 + 1) c_10_5, .slice none 0 0], hR ki_Link 178 (.slice B_10_5 (i2 + 1) c_10_5) (x.Links.take (i2 + 1)), hB g_9_2 178 (List.toArray cse97), hR ki_Entity 171 (.slice A_1 x.Entities.length c_1) x.Entities, hR ki_Sent 235 (.slice B_1_4 x.Loop.length c_1_4) x.Loop, hB g_0_1 68 #[.int .i64 (0), .slice none 0 0, .slice none 0 0, .slice none 0 0, .slice none 0 0], hB g_0_0 68 #[.int .i64 (x.Id), .slice Ax1 x.Entities.length cx1, .slice Ax2 x.Loop.length cx2, .slice Ax3 x.Links.length cx3, .slice Ax4 x.Out.length cx4]] W126 := Ha128
            clear Ha128
            clear hu127
            refine ⟨fun h => absS (by kernel_rfl) h, ?_⟩
            refine anyS_done (by kernel_rfl) ?_ _
            refine inB_n ?_
            refine then_n ?_
            refine reg_seq [0, 1] rfl ?_
            refine ops_cons ?_
            refine op_pure rfl (rn_inc (k := i2) rfl rfl (by omega)) rfl rfl ?_
            refine ops_cons ?_
            refine op_pure rfl (rn_move rfl) rfl rfl ?_
            refine ops_nil ?_
            refine then_n ?_
            exact (actOf_drop2 [(1, .pointer (some ⟨g_0_0, 0, none⟩)), (2, .pointer (some ⟨g_0_1, 0, none⟩)), (3, .pointer (some ⟨g_1_6, 0, none⟩)), (32, .slice Ax3 x.Links.length cx3), (33, .int .i64 ((x.Links.length : Nat))), (34, .int .i64 (((i2 + 1 : Nat) : Int)))] rfl).elim fun x' hx => ⟨r92 - 1, (by omega), i2 + 1, B_10_5, c_10_5, x', hx, (by omega), H130.pick [1, 3, 0, 4, 5, 6] (by decide) rfl⟩
          · obtain rfl : i2 = x.Links.length := by omega
            rw [List.take_length] at H95
            have H131 : St w No [hR ki_Link 178 (.slice A_2 x.Links.length c_2) x.Links, hR ki_Entity 171 (.slice A_1 x.Entities.length c_1) x.Entities, hB g_1_6 68 #[.int .i64 (x.Id), .slice A_1 x.Entities.length c_1, .slice B_1_4 x.Loop.length c_1_4, .slice A_2 x.Links.length c_2, .slice none 0 0], hR ki_Sent 235 (.slice B_1_4 x.Loop.length c_1_4) x.Loop, hB g_0_1 68 #[.int .i64 (0), .slice none 0 0, .slice none 0 0, .slice none 0 0, .slice none 0 0], hB g_0_0 68 #[.int .i64 (x.Id), .slice Ax1 x.Entities.length cx1, .slice Ax2 x.Loop.length cx2, .slice Ax3 x.Links.length cx3, .slice Ax4 x.Out.length cx4]] W93 := H95
            clear H95
            refine wp_exit ?_
            refine then_x ?_
            refine then_x ?_
            refine inB_x ?_
            refine then_n ?_
            refine wp_seq ?_
            refine wp_seq ?_
            refine reg_seq [0, 1, 2, 3] rfl ?_
            refine ops_cons ?_
            refine op_pure rfl (rn_field fa_68_4 rfl) rfl rfl ?_
            refine ops_cons ?_
            refine op_pure rfl (rn_loadC (v := .slice Ax4 x.Out.length cx4) Tryz.isAgg66 rfl (H131.blk 5 rfl) rfl) rfl rfl ?_
            refine ops_cons ?_
            refine op_pure rfl (rn_len Tryz.runUnderlying66 rfl) rfl rfl ?_
            refine ops_cons ?_
            refine op_pure rfl (rn_move rfl) rfl rfl ?_
            refine ops_nil ?_
            refine then_n ?_
            refine wp_block ?_
            have H132 : St w No [hR ki_Outgoing 147 (.slice none 0 0) ([]), hR ki_Link 178 (.slice A_2 x.Links.length c_2) x.Links, hR ki_Entity 171 (.slice A_1 x.Entities.length c_1) x.Entities, hB g_1_6 68 #[.int .i64 (x.Id), .slice A_1 x.Entities.length c_1, .slice B_1_4 x.Loop.length c_1_4, .slice A_2 x.Links.length c_2, .slice none 0 0], hR ki_Sent 235 (.slice B_1_4 x.Loop.length c_1_4) x.Loop, hB g_0_1 68 #[.int .i64 (0), .slice none 0 0, .slice none 0 0, .slice none 0 0, .slice none 0 0], hB g_0_0 68 #[.int .i64 (x.Id), .slice Ax1 x.Entities.length cx1, .slice Ax2 x.Loop.length cx2, .slice Ax3 x.Links.length cx3, .slice Ax4 x.Out.length cx4]] W93 := H131.add0 (q := hR ki_Outgoing 147 (.slice none 0 0) []) R_nil
            clear H131
            refine wp_loop_ghost (fun r a' W' => ∃ (i3 : Nat) (A_3 : Option Addr) (c_3 : Nat) (x' : Nat → Value), a' = actOf 66 x' [(2, .pointer (some ⟨g_0_1, 0, none⟩)), (3, .pointer (some ⟨g_1_6, 0, none⟩)), (47, .slice Ax4 x.Out.length cx4), (48, .int .i64 ((x.Out.length : Nat))), (49, .int .i64 (((i3 : Nat) : Int)))] ∧ (i3 + r = x.Out.length) ∧ St w No [hR ki_Outgoing 147 (.slice A_3 i3 c_3) (x.Out.take i3), hR ki_Link 178 (.slice A_2 x.Links.length c_2) x.Links, hR ki_Entity 171 (.slice A_1 x.Entities.length c_1) x.Entities, hB g_1_6 68 #[.int .i64 (x.Id), .slice A_1 x.Entities.length c_1, .slice B_1_4 x.Loop.length c_1_4, .slice A_2 x.Links.length c_2, .slice A_3 i3 c_3], hR ki_Sent 235 (.slice B_1_4 x.Loop.length c_1_4) x.Loop, hB g_0_1 68 #[.int .i64 (0), .slice none 0 0, .slice none 0 0, .slice none 0 0, .slice none 0 0], hB g_0_0 68 #[.int .i64 (x.Id), .slice Ax1 x.Entities.length cx1, .slice Ax2 x.Loop.length cx2, .slice Ax3 x.Links.length cx3, .slice Ax4 x.Out.length cx4]] W') x.Out.length ?_ ?_
            · exact (actOf_drop2 [(2, .pointer (some ⟨g_0_1, 0, none⟩)), (3, .pointer (some ⟨g_1_6, 0, none⟩)), (47, .slice Ax4 x.Out.length cx4), (48, .int .i64 ((x.Out.length : Nat))), (49, .int .i64 (((0 : Nat) : Int)))] rfl).elim fun x' hx => ⟨0, none, 0, x', hx, (by omega), H132⟩
            · rintro r133 _ W134 ⟨i3, A_3, c_3, x135, rfl, hi3, H136⟩
              clear H132
              refine wp_seq ?_
              refine reg_seq [0] rfl ?_
              refine ops_cons ?_
              refine op_pure rfl (rn_lss rfl rfl) rfl rfl ?_
              refine ops_nil ?_
              refine then_n ?_
              refine wp_seq ?_
              refine cond_dec rfl (fun hc137 => ?_) (fun hc137 => ?_)
              · have hlt3 : i3 < x.Out.length := by omega
                obtain ⟨ade138, cse138, hAe138, hKe138, hce138⟩ := C_elem hCx4 i3 hlt3
                have hle138 := ki_Outgoing_len hKe138
                have hoe138 := ki_Outgoing_one hKe138
                have hsi3 : szn_Outgoing x.Out[i3] ≤ 4194304 := by have h1 := sumS_at szn_Outgoing x.Out i3 hlt3; have h2 := s_Out; unfold sznS at h2; omega
                obtain ⟨Aade138_6, cade138_6, rfl, hlade138_6, hCade138_6⟩ := ki_Outgoing_K hKe138
                have hsw : szn_Message x.Out[i3].Message ≤ 4194304 := by have h1 := hsi3; unfold szn_Outgoing at h1; omega
                refine wp_skip ?_
                refine then_n ?_
                refine wp_seq ?_
                refine wp_block ?_
                refine wp_seq ?_
                refine reg_seq [0, 1, 2, 3] rfl ?_
                refine ops_cons ?_
                refine op_pure rfl (rn_indexA (k := i3) Tryz.runUnderlying66 Tryz.sizeOf147 rfl rfl hAe138 hlt3) rfl rfl ?_
                refine ops_cons ?_
                refine op_pure rfl (rn_loadN Tryz.isAgg147 Tryz.sizeOf147 rfl (Cat.upd hce138 H136.1) rfl) rfl rfl ?_
                refine ops_cons ?_
                refine op_alloc rfl Tryz.zeroValue147 rfl rfl H136 ?_
                intro g_14_2 W139 hu140 Ha141
                clear H136
                have H142 : St w No [hB g_14_2 147 #[.int .i64 (0), .int .i64 (0), .int .i64 (0), .int .i64 (0), .int .i64 (0), .string (⟨#[]⟩), .slice none 0 0, .int .i64 (0), .int .i64 (0), .int .i64 (0), .int .i64 (0), .int .i64 (0), .int .i64 (0)], hR ki_Outgoing 147 (.slice A_3 i3 c_3) (x.Out.take i3), hR ki_Link 178 (.slice A_2 x.Links.length c_2) x.Links, hR ki_Entity 171 (.slice A_1 x.Entities.length c_1) x.Entities, hB g_1_6 68 #[.int .i64 (x.Id), .slice A_1 x.Entities.length c_1, .slice B_1_4 x.Loop.length c_1_4, .slice A_2 x.Links.length c_2, .slice A_3 i3 c_3], hR ki_Sent 235 (.slice B_1_4 x.Loop.length c_1_4) x.Loop, hB g_0_1 68 #[.int .i64 (0), .slice none 0 0, .slice none 0 0, .slice none 0 0, .slice none 0 0], hB g_0_0 68 #[.int .i64 (x.Id), .slice Ax1 x.Entities.length cx1, .slice Ax2 x.Loop.length cx2, .slice Ax3 x.Links.length cx3, .slice Ax4 x.Out.length cx4]] W139 := Ha141
                clear Ha141
                clear hu140
                refine ops_cons ?_
                refine op_storeW rfl Tryz.sizeOf147 rfl rfl rfl rfl (by simp [Value.oneCell']) H142 ?_
                intro W143 hu144 Ha145
                clear H142
                have H146 : St w No [hB g_14_2 147 #[.int .i64 (x.Out[i3].To), .int .i64 (x.Out[i3].Message.Kind), .int .i64 (x.Out[i3].Message.Pos), .int .i64 (x.Out[i3].Message.Answer), .int .i64 (x.Out[i3].Message.Question), .string (x.Out[i3].Message.Name), .slice Aade138_6 (x.Out[i3].Message.Args.length) cade138_6, .int .i64 (x.Out[i3].Message.Value.Kind), .int .i64 (x.Out[i3].Message.Value.N), .int .i64 (x.Out[i3].Message.Count), .int .i64 (x.Out[i3].Message.Tag.Vat), .int .i64 (x.Out[i3].Message.Tag.Entity), .int .i64 (x.Out[i3].Message.Tag.Seq)], hR ki_Outgoing 147 (.slice A_3 i3 c_3) (x.Out.take i3), hR ki_Link 178 (.slice A_2 x.Links.length c_2) x.Links, hR ki_Entity 171 (.slice A_1 x.Entities.length c_1) x.Entities, hB g_1_6 68 #[.int .i64 (x.Id), .slice A_1 x.Entities.length c_1, .slice B_1_4 x.Loop.length c_1_4, .slice A_2 x.Links.length c_2, .slice A_3 i3 c_3], hR ki_Sent 235 (.slice B_1_4 x.Loop.length c_1_4) x.Loop, hB g_0_1 68 #[.int .i64 (0), .slice none 0 0, .slice none 0 0, .slice none 0 0, .slice none 0 0], hB g_0_0 68 #[.int .i64 (x.Id), .slice Ax1 x.Entities.length cx1, .slice Ax2 x.Loop.length cx2, .slice Ax3 x.Links.length cx3, .slice Ax4 x.Out.length cx4]] W143 := Ha145
                clear Ha145
                clear hu144
                refine ops_nil ?_
                refine then_n ?_
                refine reg_draw (fun W' => Blk W' g_1_6 68 #[.int .i64 (x.Id), .slice A_1 x.Entities.length c_1, .slice B_1_4 x.Loop.length c_1_4, .slice A_2 x.Links.length c_2, .slice A_3 i3 c_3] ∧ Blk W' g_14_2 147 #[.int .i64 (x.Out[i3].To), .int .i64 (x.Out[i3].Message.Kind), .int .i64 (x.Out[i3].Message.Pos), .int .i64 (x.Out[i3].Message.Answer), .int .i64 (x.Out[i3].Message.Question), .string (x.Out[i3].Message.Name), .slice Aade138_6 (x.Out[i3].Message.Args.length) cade138_6, .int .i64 (x.Out[i3].Message.Value.Kind), .int .i64 (x.Out[i3].Message.Value.N), .int .i64 (x.Out[i3].Message.Count), .int .i64 (x.Out[i3].Message.Tag.Vat), .int .i64 (x.Out[i3].Message.Tag.Entity), .int .i64 (x.Out[i3].Message.Tag.Seq)]) 11 (by kernel_rfl) ?_
                have H147 : St w No [hB g_14_2 147 #[.int .i64 (x.Out[i3].To), .int .i64 (x.Out[i3].Message.Kind), .int .i64 (x.Out[i3].Message.Pos), .int .i64 (x.Out[i3].Message.Answer), .int .i64 (x.Out[i3].Message.Question), .string (x.Out[i3].Message.Name), .slice Aade138_6 (x.Out[i3].Message.Args.length) cade138_6, .int .i64 (x.Out[i3].Message.Value.Kind), .int .i64 (x.Out[i3].Message.Value.N), .int .i64 (x.Out[i3].Message.Count), .int .i64 (x.Out[i3].Message.Tag.Vat), .int .i64 (x.Out[i3].Message.Tag.Entity), .int .i64 (x.Out[i3].Message.Tag.Seq)], hR ki_Outgoing 147 (.slice A_3 i3 c_3) (x.Out.take i3), hR ki_Link 178 (.slice A_2 x.Links.length c_2) x.Links, hR ki_Entity 171 (.slice A_1 x.Entities.length c_1) x.Entities, hB g_1_6 68 #[.int .i64 (x.Id), .slice A_1 x.Entities.length c_1, .slice B_1_4 x.Loop.length c_1_4, .slice A_2 x.Links.length c_2, .slice A_3 i3 c_3], hR ki_Sent 235 (.slice B_1_4 x.Loop.length c_1_4) x.Loop, hB g_0_1 68 #[.int .i64 (0), .slice none 0 0, .slice none 0 0, .slice none 0 0, .slice none 0 0], hB g_0_0 68 #[.int .i64 (x.Id), .slice Ax1 x.Entities.length cx1, .slice Ax2 x.Loop.length cx2, .slice Ax3 x.Links.length cx3, .slice Ax4 x.Out.length cx4]] W143.drew := H146.drew
                clear H146
                have hS148 : Blk W143.drew g_1_6 68 #[.int .i64 (x.Id), .slice A_1 x.Entities.length c_1, .slice B_1_4 x.Loop.length c_1_4, .slice A_2 x.Links.length c_2, .slice A_3 i3 c_3] ∧ Blk W143.drew g_14_2 147 #[.int .i64 (x.Out[i3].To), .int .i64 (x.Out[i3].Message.Kind), .int .i64 (x.Out[i3].Message.Pos), .int .i64 (x.Out[i3].Message.Answer), .int .i64 (x.Out[i3].Message.Question), .string (x.Out[i3].Message.Name), .slice Aade138_6 (x.Out[i3].Message.Args.length) cade138_6, .int .i64 (x.Out[i3].Message.Value.Kind), .int .i64 (x.Out[i3].Message.Value.N), .int .i64 (x.Out[i3].Message.Count), .int .i64 (x.Out[i3].Message.Tag.Vat), .int .i64 (x.Out[i3].Message.Tag.Entity), .int .i64 (x.Out[i3].Message.Tag.Seq)] := ⟨H147.blk 4 rfl, H147.blk 0 rfl⟩
                refine anyS_take (i := 0) rfl (by kernel_rfl) (by kernel_rfl) (by kernel_rfl) (by kernel_rfl) (by kernel_rfl) (fun _ _ _ h => h) rfl rfl hS148 (fun W' hs' => rn_field fa_68_4 rfl) ?_
                refine anyS_take (i := 1) rfl (by kernel_rfl) (by kernel_rfl) (by kernel_rfl) (by kernel_rfl) (by kernel_rfl) (fun _ _ _ h => h) rfl rfl hS148 (fun W' hs' => rn_loadC (v := .slice A_3 i3 c_3) Tryz.isAgg66 rfl hs'.1 rfl) ?_
                refine anyS_take (i := 2) rfl (by kernel_rfl) (by kernel_rfl) (by kernel_rfl) (by kernel_rfl) (by kernel_rfl) (fun _ _ _ h => h) rfl rfl hS148 (fun W' hs' => rn_field fa_147_0 rfl) ?_
                refine anyS_take (i := 3) rfl (by kernel_rfl) (by kernel_rfl) (by kernel_rfl) (by kernel_rfl) (by kernel_rfl) (fun _ _ _ h => h) rfl rfl hS148 (fun W' hs' => rn_loadC (v := .int .i64 (x.Out[i3].To)) Tryz.isAgg3 rfl hs'.2 rfl) ?_
                refine anyS_take (i := 4) rfl (by kernel_rfl) (by kernel_rfl) (by kernel_rfl) (by kernel_rfl) (by kernel_rfl) (fun _ _ _ h => h) rfl rfl hS148 (fun W' hs' => rn_field fa_147_1 rfl) ?_
                refine anyS_take (i := 5) rfl (by kernel_rfl) (by kernel_rfl) (by kernel_rfl) (by kernel_rfl) (by kernel_rfl) (fun _ _ _ h => h) rfl rfl hS148 (fun W' hs' => rn_loadS (sub := #[.int .i64 (x.Out[i3].Message.Kind), .int .i64 (x.Out[i3].Message.Pos), .int .i64 (x.Out[i3].Message.Answer), .int .i64 (x.Out[i3].Message.Question), .string (x.Out[i3].Message.Name), .slice Aade138_6 (x.Out[i3].Message.Args.length) cade138_6, .int .i64 (x.Out[i3].Message.Value.Kind), .int .i64 (x.Out[i3].Message.Value.N), .int .i64 (x.Out[i3].Message.Count), .int .i64 (x.Out[i3].Message.Tag.Vat), .int .i64 (x.Out[i3].Message.Tag.Entity), .int .i64 (x.Out[i3].Message.Tag.Seq)]) Tryz.isAgg74 Tryz.sizeOf74 rfl hs'.2 rfl rfl) ?_
                refine anyS_one (i := 6) (by kernel_rfl) ?_
                refine op_call rfl Tryz.call101 (vs := #[.agg #[.int .i64 (x.Out[i3].Message.Kind), .int .i64 (x.Out[i3].Message.Pos), .int .i64 (x.Out[i3].Message.Answer), .int .i64 (x.Out[i3].Message.Question), .string (x.Out[i3].Message.Name), .slice Aade138_6 (x.Out[i3].Message.Args.length) cade138_6, .int .i64 (x.Out[i3].Message.Value.Kind), .int .i64 (x.Out[i3].Message.Value.N), .int .i64 (x.Out[i3].Message.Count), .int .i64 (x.Out[i3].Message.Tag.Vat), .int .i64 (x.Out[i3].Message.Tag.Entity), .int .i64 (x.Out[i3].Message.Tag.Seq)]]) rfl rfl rfl (copied_Message x.Out[i3].Message _ _ (ki_Message_Kmk _ (x.Out[i3].Message) hlade138_6 (C_upd H147.1 hCade138_6)) hsw) ?_
                rintro e154 W153 ⟨cs149, rfl, hM150, hu151⟩
                refine ⟨_, rfl, ?_⟩
                obtain ⟨B_15_6_5, c_15_6_5, rfl, hst152⟩ := ki_Message_open hM150
                have H155 : St w No [hR ki_Wire 72 (.slice B_15_6_5 (x.Out[i3].Message.Args.length) c_15_6_5) (x.Out[i3].Message.Args), hB g_14_2 147 #[.int .i64 (x.Out[i3].To), .int .i64 (x.Out[i3].Message.Kind), .int .i64 (x.Out[i3].Message.Pos), .int .i64 (x.Out[i3].Message.Answer), .int .i64 (x.Out[i3].Message.Question), .string (x.Out[i3].Message.Name), .slice Aade138_6 (x.Out[i3].Message.Args.length) cade138_6, .int .i64 (x.Out[i3].Message.Value.Kind), .int .i64 (x.Out[i3].Message.Value.N), .int .i64 (x.Out[i3].Message.Count), .int .i64 (x.Out[i3].Message.Tag.Vat), .int .i64 (x.Out[i3].Message.Tag.Entity), .int .i64 (x.Out[i3].Message.Tag.Seq)], hR ki_Outgoing 147 (.slice A_3 i3 c_3) (x.Out.take i3), hR ki_Link 178 (.slice A_2 x.Links.length c_2) x.Links, hR ki_Entity 171 (.slice A_1 x.Entities.length c_1) x.Entities, hB g_1_6 68 #[.int .i64 (x.Id), .slice A_1 x.Entities.length c_1, .slice B_1_4 x.Loop.length c_1_4, .slice A_2 x.Links.length c_2, .slice A_3 i3 c_3], hR ki_Sent 235 (.slice B_1_4 x.Loop.length c_1_4) x.Loop, hB g_0_1 68 #[.int .i64 (0), .slice none 0 0, .slice none 0 0, .slice none 0 0, .slice none 0 0], hB g_0_0 68 #[.int .i64 (x.Id), .slice Ax1 x.Entities.length cx1, .slice Ax2 x.Loop.length cx2, .slice Ax3 x.Links.length cx3, .slice Ax4 x.Out.length cx4]] W153 := H147.news hu151 hst152
                clear H147
                have hS156 : Blk W153 g_1_6 68 #[.int .i64 (x.Id), .slice A_1 x.Entities.length c_1, .slice B_1_4 x.Loop.length c_1_4, .slice A_2 x.Links.length c_2, .slice A_3 i3 c_3] ∧ Blk W153 g_14_2 147 #[.int .i64 (x.Out[i3].To), .int .i64 (x.Out[i3].Message.Kind), .int .i64 (x.Out[i3].Message.Pos), .int .i64 (x.Out[i3].Message.Answer), .int .i64 (x.Out[i3].Message.Question), .string (x.Out[i3].Message.Name), .slice Aade138_6 (x.Out[i3].Message.Args.length) cade138_6, .int .i64 (x.Out[i3].Message.Value.Kind), .int .i64 (x.Out[i3].Message.Value.N), .int .i64 (x.Out[i3].Message.Count), .int .i64 (x.Out[i3].Message.Tag.Vat), .int .i64 (x.Out[i3].Message.Tag.Entity), .int .i64 (x.Out[i3].Message.Tag.Seq)] := ⟨H155.blk 5 rfl, H155.blk 1 rfl⟩
                refine ⟨fun _ => hS156, ?_⟩
                refine anyS_take (i := 7) rfl (by kernel_rfl) (by kernel_rfl) (by kernel_rfl) (by kernel_rfl) (by kernel_rfl) (fun _ _ _ h => h) rfl rfl hS156 (fun W' hs' => rn_build (vs := [(0, .int .i64 (x.Out[i3].To)), (1, .agg #[.int .i64 (x.Out[i3].Message.Kind), .int .i64 (x.Out[i3].Message.Pos), .int .i64 (x.Out[i3].Message.Answer), .int .i64 (x.Out[i3].Message.Question), .string (x.Out[i3].Message.Name), .slice B_15_6_5 (x.Out[i3].Message.Args.length) c_15_6_5, .int .i64 (x.Out[i3].Message.Value.Kind), .int .i64 (x.Out[i3].Message.Value.N), .int .i64 (x.Out[i3].Message.Count), .int .i64 (x.Out[i3].Message.Tag.Vat), .int .i64 (x.Out[i3].Message.Tag.Entity), .int .i64 (x.Out[i3].Message.Tag.Seq)])]) (cells := #[.int .i64 (x.Out[i3].To), .int .i64 (x.Out[i3].Message.Kind), .int .i64 (x.Out[i3].Message.Pos), .int .i64 (x.Out[i3].Message.Answer), .int .i64 (x.Out[i3].Message.Question), .string (x.Out[i3].Message.Name), .slice B_15_6_5 (x.Out[i3].Message.Args.length) c_15_6_5, .int .i64 (x.Out[i3].Message.Value.Kind), .int .i64 (x.Out[i3].Message.Value.N), .int .i64 (x.Out[i3].Message.Count), .int .i64 (x.Out[i3].Message.Tag.Vat), .int .i64 (x.Out[i3].Message.Tag.Entity), .int .i64 (x.Out[i3].Message.Tag.Seq)]) rfl (by kernel_rfl)) ?_
                refine anyS_one (i := 8) (by kernel_rfl) ?_
                refine op_slice1 rfl Tryz.runUnderlying66 Tryz.sizeOf147 (by decide) Tryz.zeroValue147 rfl rfl rfl rfl H155 ?_
                intro g_15_8 W157 hu158 Ha159
                clear H155
                have H160 : St w No [hB g_15_8 147 #[.int .i64 (x.Out[i3].To), .int .i64 (x.Out[i3].Message.Kind), .int .i64 (x.Out[i3].Message.Pos), .int .i64 (x.Out[i3].Message.Answer), .int .i64 (x.Out[i3].Message.Question), .string (x.Out[i3].Message.Name), .slice B_15_6_5 (x.Out[i3].Message.Args.length) c_15_6_5, .int .i64 (x.Out[i3].Message.Value.Kind), .int .i64 (x.Out[i3].Message.Value.N), .int .i64 (x.Out[i3].Message.Count), .int .i64 (x.Out[i3].Message.Tag.Vat), .int .i64 (x.Out[i3].Message.Tag.Entity), .int .i64 (x.Out[i3].Message.Tag.Seq)], hR ki_Wire 72 (.slice B_15_6_5 (x.Out[i3].Message.Args.length) c_15_6_5) (x.Out[i3].Message.Args), hB g_14_2 147 #[.int .i64 (x.Out[i3].To), .int .i64 (x.Out[i3].Message.Kind), .int .i64 (x.Out[i3].Message.Pos), .int .i64 (x.Out[i3].Message.Answer), .int .i64 (x.Out[i3].Message.Question), .string (x.Out[i3].Message.Name), .slice Aade138_6 (x.Out[i3].Message.Args.length) cade138_6, .int .i64 (x.Out[i3].Message.Value.Kind), .int .i64 (x.Out[i3].Message.Value.N), .int .i64 (x.Out[i3].Message.Count), .int .i64 (x.Out[i3].Message.Tag.Vat), .int .i64 (x.Out[i3].Message.Tag.Entity), .int .i64 (x.Out[i3].Message.Tag.Seq)], hR ki_Outgoing 147 (.slice A_3 i3 c_3) (x.Out.take i3), hR ki_Link 178 (.slice A_2 x.Links.length c_2) x.Links, hR ki_Entity 171 (.slice A_1 x.Entities.length c_1) x.Entities, hB g_1_6 68 #[.int .i64 (x.Id), .slice A_1 x.Entities.length c_1, .slice B_1_4 x.Loop.length c_1_4, .slice A_2 x.Links.length c_2, .slice A_3 i3 c_3], hR ki_Sent 235 (.slice B_1_4 x.Loop.length c_1_4) x.Loop, hB g_0_1 68 #[.int .i64 (0), .slice none 0 0, .slice none 0 0, .slice none 0 0, .slice none 0 0], hB g_0_0 68 #[.int .i64 (x.Id), .slice Ax1 x.Entities.length cx1, .slice Ax2 x.Loop.length cx2, .slice Ax3 x.Links.length cx3, .slice Ax4 x.Out.length cx4]] W157 := Ha159
                clear Ha159
                clear hu158
                have hS161 : Blk W157 g_1_6 68 #[.int .i64 (x.Id), .slice A_1 x.Entities.length c_1, .slice B_1_4 x.Loop.length c_1_4, .slice A_2 x.Links.length c_2, .slice A_3 i3 c_3] ∧ Blk W157 g_14_2 147 #[.int .i64 (x.Out[i3].To), .int .i64 (x.Out[i3].Message.Kind), .int .i64 (x.Out[i3].Message.Pos), .int .i64 (x.Out[i3].Message.Answer), .int .i64 (x.Out[i3].Message.Question), .string (x.Out[i3].Message.Name), .slice Aade138_6 (x.Out[i3].Message.Args.length) cade138_6, .int .i64 (x.Out[i3].Message.Value.Kind), .int .i64 (x.Out[i3].Message.Value.N), .int .i64 (x.Out[i3].Message.Count), .int .i64 (x.Out[i3].Message.Tag.Vat), .int .i64 (x.Out[i3].Message.Tag.Entity), .int .i64 (x.Out[i3].Message.Tag.Seq)] := ⟨H160.blk 6 rfl, H160.blk 2 rfl⟩
                refine ⟨fun _ => hS161, ?_⟩
                refine anyS_one (i := 9) (by kernel_rfl) ?_
                have H164 : St w No [hR ki_Wire 72 (.slice B_15_6_5 (x.Out[i3].Message.Args.length) c_15_6_5) (x.Out[i3].Message.Args), hB g_15_8 147 #[.int .i64 (x.Out[i3].To), .int .i64 (x.Out[i3].Message.Kind), .int .i64 (x.Out[i3].Message.Pos), .int .i64 (x.Out[i3].Message.Answer), .int .i64 (x.Out[i3].Message.Question), .string (x.Out[i3].Message.Name), .slice B_15_6_5 (x.Out[i3].Message.Args.length) c_15_6_5, .int .i64 (x.Out[i3].Message.Value.Kind), .int .i64 (x.Out[i3].Message.Value.N), .int .i64 (x.Out[i3].Message.Count), .int .i64 (x.Out[i3].Message.Tag.Vat), .int .i64 (x.Out[i3].Message.Tag.Entity), .int .i64 (x.Out[i3].Message.Tag.Seq)], hB g_14_2 147 #[.int .i64 (x.Out[i3].To), .int .i64 (x.Out[i3].Message.Kind), .int .i64 (x.Out[i3].Message.Pos), .int .i64 (x.Out[i3].Message.Answer), .int .i64 (x.Out[i3].Message.Question), .string (x.Out[i3].Message.Name), .slice Aade138_6 (x.Out[i3].Message.Args.length) cade138_6, .int .i64 (x.Out[i3].Message.Value.Kind), .int .i64 (x.Out[i3].Message.Value.N), .int .i64 (x.Out[i3].Message.Count), .int .i64 (x.Out[i3].Message.Tag.Vat), .int .i64 (x.Out[i3].Message.Tag.Entity), .int .i64 (x.Out[i3].Message.Tag.Seq)], hR ki_Outgoing 147 (.slice A_3 i3 c_3) (x.Out.take i3), hR ki_Link 178 (.slice A_2 x.Links.length c_2) x.Links, hR ki_Entity 171 (.slice A_1 x.Entities.length c_1) x.Entities, hB g_1_6 68 #[.int .i64 (x.Id), .slice A_1 x.Entities.length c_1, .slice B_1_4 x.Loop.length c_1_4, .slice A_2 x.Links.length c_2, .slice A_3 i3 c_3], hR ki_Sent 235 (.slice B_1_4 x.Loop.length c_1_4) x.Loop, hB g_0_1 68 #[.int .i64 (0), .slice none 0 0, .slice none 0 0, .slice none 0 0, .slice none 0 0], hB g_0_0 68 #[.int .i64 (x.Id), .slice Ax1 x.Entities.length cx1, .slice Ax2 x.Loop.length cx2, .slice Ax3 x.Links.length cx3, .slice Ax4 x.Out.length cx4]] W157 := H160.pick [1, 0, 2, 3, 4, 5, 6, 7, 8, 9] (by decide) rfl
                clear H160
                have H165 : St w No [hM ki_Outgoing (x.Out[i3]) [.int .i64 (x.Out[i3].To), .int .i64 (x.Out[i3].Message.Kind), .int .i64 (x.Out[i3].Message.Pos), .int .i64 (x.Out[i3].Message.Answer), .int .i64 (x.Out[i3].Message.Question), .string (x.Out[i3].Message.Name), .slice B_15_6_5 (x.Out[i3].Message.Args.length) c_15_6_5, .int .i64 (x.Out[i3].Message.Value.Kind), .int .i64 (x.Out[i3].Message.Value.N), .int .i64 (x.Out[i3].Message.Count), .int .i64 (x.Out[i3].Message.Tag.Vat), .int .i64 (x.Out[i3].Message.Tag.Entity), .int .i64 (x.Out[i3].Message.Tag.Seq)], hB g_15_8 147 #[.int .i64 (x.Out[i3].To), .int .i64 (x.Out[i3].Message.Kind), .int .i64 (x.Out[i3].Message.Pos), .int .i64 (x.Out[i3].Message.Answer), .int .i64 (x.Out[i3].Message.Question), .string (x.Out[i3].Message.Name), .slice B_15_6_5 (x.Out[i3].Message.Args.length) c_15_6_5, .int .i64 (x.Out[i3].Message.Value.Kind), .int .i64 (x.Out[i3].Message.Value.N), .int .i64 (x.Out[i3].Message.Count), .int .i64 (x.Out[i3].Message.Tag.Vat), .int .i64 (x.Out[i3].Message.Tag.Entity), .int .i64 (x.Out[i3].Message.Tag.Seq)], hB g_14_2 147 #[.int .i64 (x.Out[i3].To), .int .i64 (x.Out[i3].Message.Kind), .int .i64 (x.Out[i3].Message.Pos), .int .i64 (x.Out[i3].Message.Answer), .int .i64 (x.Out[i3].Message.Question), .string (x.Out[i3].Message.Name), .slice Aade138_6 (x.Out[i3].Message.Args.length) cade138_6, .int .i64 (x.Out[i3].Message.Value.Kind), .int .i64 (x.Out[i3].Message.Value.N), .int .i64 (x.Out[i3].Message.Count), .int .i64 (x.Out[i3].Message.Tag.Vat), .int .i64 (x.Out[i3].Message.Tag.Entity), .int .i64 (x.Out[i3].Message.Tag.Seq)], hR ki_Outgoing 147 (.slice A_3 i3 c_3) (x.Out.take i3), hR ki_Link 178 (.slice A_2 x.Links.length c_2) x.Links, hR ki_Entity 171 (.slice A_1 x.Entities.length c_1) x.Entities, hB g_1_6 68 #[.int .i64 (x.Id), .slice A_1 x.Entities.length c_1, .slice B_1_4 x.Loop.length c_1_4, .slice A_2 x.Links.length c_2, .slice A_3 i3 c_3], hR ki_Sent 235 (.slice B_1_4 x.Loop.length c_1_4) x.Loop, hB g_0_1 68 #[.int .i64 (0), .slice none 0 0, .slice none 0 0, .slice none 0 0, .slice none 0 0], hB g_0_0 68 #[.int .i64 (x.Id), .slice Ax1 x.Entities.length cx1, .slice Ax2 x.Loop.length cx2, .slice Ax3 x.Links.length cx3, .slice Ax4 x.Out.length cx4]] W157 := H164.swap (l0 := [hR ki_Wire 72 (.slice B_15_6_5 (x.Out[i3].Message.Args.length) c_15_6_5) (x.Out[i3].Message.Args)]) (l' := [hM ki_Outgoing (x.Out[i3]) [.int .i64 (x.Out[i3].To), .int .i64 (x.Out[i3].Message.Kind), .int .i64 (x.Out[i3].Message.Pos), .int .i64 (x.Out[i3].Message.Answer), .int .i64 (x.Out[i3].Message.Question), .string (x.Out[i3].Message.Name), .slice B_15_6_5 (x.Out[i3].Message.Args.length) c_15_6_5, .int .i64 (x.Out[i3].Message.Value.Kind), .int .i64 (x.Out[i3].Message.Value.N), .int .i64 (x.Out[i3].Message.Count), .int .i64 (x.Out[i3].Message.Tag.Vat), .int .i64 (x.Out[i3].Message.Tag.Entity), .int .i64 (x.Out[i3].Message.Tag.Seq)]]) (fun _ h => Star.one (ki_Outgoing_close h))
                clear H164
                have H166 : St w No [hR ki_Outgoing 147 (.slice A_3 i3 c_3) (x.Out.take i3), hB g_15_8 147 #[.int .i64 (x.Out[i3].To), .int .i64 (x.Out[i3].Message.Kind), .int .i64 (x.Out[i3].Message.Pos), .int .i64 (x.Out[i3].Message.Answer), .int .i64 (x.Out[i3].Message.Question), .string (x.Out[i3].Message.Name), .slice B_15_6_5 (x.Out[i3].Message.Args.length) c_15_6_5, .int .i64 (x.Out[i3].Message.Value.Kind), .int .i64 (x.Out[i3].Message.Value.N), .int .i64 (x.Out[i3].Message.Count), .int .i64 (x.Out[i3].Message.Tag.Vat), .int .i64 (x.Out[i3].Message.Tag.Entity), .int .i64 (x.Out[i3].Message.Tag.Seq)], hM ki_Outgoing (x.Out[i3]) [.int .i64 (x.Out[i3].To), .int .i64 (x.Out[i3].Message.Kind), .int .i64 (x.Out[i3].Message.Pos), .int .i64 (x.Out[i3].Message.Answer), .int .i64 (x.Out[i3].Message.Question), .string (x.Out[i3].Message.Name), .slice B_15_6_5 (x.Out[i3].Message.Args.length) c_15_6_5, .int .i64 (x.Out[i3].Message.Value.Kind), .int .i64 (x.Out[i3].Message.Value.N), .int .i64 (x.Out[i3].Message.Count), .int .i64 (x.Out[i3].Message.Tag.Vat), .int .i64 (x.Out[i3].Message.Tag.Entity), .int .i64 (x.Out[i3].Message.Tag.Seq)], hB g_14_2 147 #[.int .i64 (x.Out[i3].To), .int .i64 (x.Out[i3].Message.Kind), .int .i64 (x.Out[i3].Message.Pos), .int .i64 (x.Out[i3].Message.Answer), .int .i64 (x.Out[i3].Message.Question), .string (x.Out[i3].Message.Name), .slice Aade138_6 (x.Out[i3].Message.Args.length) cade138_6, .int .i64 (x.Out[i3].Message.Value.Kind), .int .i64 (x.Out[i3].Message.Value.N), .int .i64 (x.Out[i3].Message.Count), .int .i64 (x.Out[i3].Message.Tag.Vat), .int .i64 (x.Out[i3].Message.Tag.Entity), .int .i64 (x.Out[i3].Message.Tag.Seq)], hR ki_Link 178 (.slice A_2 x.Links.length c_2) x.Links, hR ki_Entity 171 (.slice A_1 x.Entities.length c_1) x.Entities, hB g_1_6 68 #[.int .i64 (x.Id), .slice A_1 x.Entities.length c_1, .slice B_1_4 x.Loop.length c_1_4, .slice A_2 x.Links.length c_2, .slice A_3 i3 c_3], hR ki_Sent 235 (.slice B_1_4 x.Loop.length c_1_4) x.Loop, hB g_0_1 68 #[.int .i64 (0), .slice none 0 0, .slice none 0 0, .slice none 0 0, .slice none 0 0], hB g_0_0 68 #[.int .i64 (x.Id), .slice Ax1 x.Entities.length cx1, .slice Ax2 x.Loop.length cx2, .slice Ax3 x.Links.length cx3, .slice Ax4 x.Out.length cx4]] W157 := H165.pick [3, 1, 0, 2, 4, 5, 6, 7, 8, 9] (by decide) rfl
                clear H165
                refine op_append1' (xs := (x.Out.take i3)) (p := x.Out[i3]) (n' := (i3 + 1)) (ys := (x.Out.take (i3 + 1))) rfl Tryz.underlying66 ki_Outgoing_info rfl (by decide) (by decide) rfl rfl (by rw [List.length_take, Nat.min_eq_left (by omega)]; omega) (by rw [List.length_take, Nat.min_eq_left (by omega)]) (List.take_succ_eq_append_getElem hlt3).symm rfl rfl H166 ?_
                intro B_15_9 c_15_9 W162 Ha163
                clear H166
                have H167 : St w No [hR ki_Outgoing 147 (.slice B_15_9 (i3 + 1) c_15_9) (x.Out.take (i3 + 1)), hB g_14_2 147 #[.int .i64 (x.Out[i3].To), .int .i64 (x.Out[i3].Message.Kind), .int .i64 (x.Out[i3].Message.Pos), .int .i64 (x.Out[i3].Message.Answer), .int .i64 (x.Out[i3].Message.Question), .string (x.Out[i3].Message.Name), .slice Aade138_6 (x.Out[i3].Message.Args.length) cade138_6, .int .i64 (x.Out[i3].Message.Value.Kind), .int .i64 (x.Out[i3].Message.Value.N), .int .i64 (x.Out[i3].Message.Count), .int .i64 (x.Out[i3].Message.Tag.Vat), .int .i64 (x.Out[i3].Message.Tag.Entity), .int .i64 (x.Out[i3].Message.Tag.Seq)], hR ki_Link 178 (.slice A_2 x.Links.length c_2) x.Links, hR ki_Entity 171 (.slice A_1 x.Entities.length c_1) x.Entities, hB g_1_6 68 #[.int .i64 (x.Id), .slice A_1 x.Entities.length c_1, .slice B_1_4 x.Loop.length c_1_4, .slice A_2 x.Links.length c_2, .slice A_3 i3 c_3], hR ki_Sent 235 (.slice B_1_4 x.Loop.length c_1_4) x.Loop, hB g_0_1 68 #[.int .i64 (0), .slice none 0 0, .slice none 0 0, .slice none 0 0, .slice none 0 0], hB g_0_0 68 #[.int .i64 (x.Id), .slice Ax1 x.Entities.length cx1, .slice Ax2 x.Loop.length cx2, .slice Ax3 x.Links.length cx3, .slice Ax4 x.Out.length cx4]] W162 := Ha163
                clear Ha163
                have hS168 : Blk W162 g_1_6 68 #[.int .i64 (x.Id), .slice A_1 x.Entities.length c_1, .slice B_1_4 x.Loop.length c_1_4, .slice A_2 x.Links.length c_2, .slice A_3 i3 c_3] ∧ Blk W162 g_14_2 147 #[.int .i64 (x.Out[i3].To), .int .i64 (x.Out[i3].Message.Kind), .int .i64 (x.Out[i3].Message.Pos), .int .i64 (x.Out[i3].Message.Answer), .int .i64 (x.Out[i3].Message.Question), .string (x.Out[i3].Message.Name), .slice Aade138_6 (x.Out[i3].Message.Args.length) cade138_6, .int .i64 (x.Out[i3].Message.Value.Kind), .int .i64 (x.Out[i3].Message.Value.N), .int .i64 (x.Out[i3].Message.Count), .int .i64 (x.Out[i3].Message.Tag.Vat), .int .i64 (x.Out[i3].Message.Tag.Entity), .int .i64 (x.Out[i3].Message.Tag.Seq)] := ⟨H167.blk 4 rfl, H167.blk 1 rfl⟩
                refine ⟨fun _ => hS168, ?_⟩
                refine anyS_take (i := 10) rfl (by kernel_rfl) (by kernel_rfl) (by kernel_rfl) (by kernel_rfl) (by kernel_rfl) (fun _ _ _ h => h) rfl rfl hS168 (fun W' hs' => rn_field fa_68_4 rfl) ?_
                refine anyS_one (i := 11) (by kernel_rfl) ?_
                have H172 : St w No [hB g_1_6 68 #[.int .i64 (x.Id), .slice A_1 x.Entities.length c_1, .slice B_1_4 x.Loop.length c_1_4, .slice A_2 x.Links.length c_2, .slice A_3 i3 c_3], hR ki_Outgoing 147 (.slice B_15_9 (i3 + 1) c_15_9) (x.Out.take (i3 + 1)), hB g_14_2 147 #[.int .i64 (x.Out[i3].To), .int .i64 (x.Out[i3].Message.Kind), .int .i64 (x.Out[i3].Message.Pos), .int .i64 (x.Out[i3].Message.Answer), .int .i64 (x.Out[i3].Message.Question), .string (x.Out[i3].Message.Name), .slice Aade138_6 (x.Out[i3].Message.Args.length) cade138_6, .int .i64 (x.Out[i3].Message.Value.Kind), .int .i64 (x.Out[i3].Message.Value.N), .int .i64 (x.Out[i3].Message.Count), .int .i64 (x.Out[i3].Message.Tag.Vat), .int .i64 (x.Out[i3].Message.Tag.Entity), .int .i64 (x.Out[i3].Message.Tag.Seq)], hR ki_Link 178 (.slice A_2 x.Links.length c_2) x.Links, hR ki_Entity 171 (.slice A_1 x.Entities.length c_1) x.Entities, hR ki_Sent 235 (.slice B_1_4 x.Loop.length c_1_4) x.Loop, hB g_0_1 68 #[.int .i64 (0), .slice none 0 0, .slice none 0 0, .slice none 0 0, .slice none 0 0], hB g_0_0 68 #[.int .i64 (x.Id), .slice Ax1 x.Entities.length cx1, .slice Ax2 x.Loop.length cx2, .slice Ax3 x.Links.length cx3, .slice Ax4 x.Out.length cx4]] W162 := H167.pick [4, 0, 1, 2, 3, 5, 6, 7] (by decide) rfl
                clear H167
                refine op_store rfl Tryz.sizeOf66 rfl rfl rfl (Nat.le_of_ble_eq_true rfl) (by simp [Value.cells, Value.oneCell']) H172 ?_
                intro W169 hu170 Ha171
                clear H172
                have H173 : St w No [hB g_1_6 68 #[.int .i64 (x.Id), .slice A_1 x.Entities.length c_1, .slice B_1_4 x.Loop.length c_1_4, .slice A_2 x.Links.length c_2, .slice B_15_9 (i3 + 1) c_15_9], hR ki_Outgoing 147 (.slice B_15_9 (i3 + 1) c_15_9) (x.Out.take (i3 + 1)), hB g_14_2 147 #[.int .i64 (x.Out[i3].To), .int .i64 (x.Out[i3].Message.Kind), .int .i64 (x.Out[i3].Message.Pos), .int .i64 (x.Out[i3].Message.Answer), .int .i64 (x.Out[i3].Message.Question), .string (x.Out[i3].Message.Name), .slice Aade138_6 (x.Out[i3].Message.Args.length) cade138_6, .int .i64 (x.Out[i3].Message.Value.Kind), .int .i64 (x.Out[i3].Message.Value.N), .int .i64 (x.Out[i3].Message.Count), .int .i64 (x.Out[i3].Message.Tag.Vat), .int .i64 (x.Out[i3].Message.Tag.Entity), .int .i64 (x.Out[i3].Message.Tag.Seq)], hR ki_Link 178 (.slice A_2 x.Links.length c_2) x.Links, hR ki_Entity 171 (.slice A_1 x.Entities.length c_1) x.Entities, hR ki_Sent 235 (.slice B_1_4 x.Loop.length c_1_4) x.Loop, hB g_0_1 68 #[.int .i64 (0), .slice none 0 0, .slice none 0 0, .slice none 0 0, .slice none 0 0], hB g_0_0 68 #[.int .i64 (x.Id), .slice Ax1 x.Entities.length cx1, .slice Ax2 x.Loop.length cx2, .slice Ax3 x.Links.length cx3, .slice Ax4 x.Out.length cx4]] W169 := Ha171
                clear Ha171
                clear hu170
                refine ⟨fun h => absS (by kernel_rfl) h, ?_⟩
                refine anyS_done (by kernel_rfl) ?_ _
                refine inB_n ?_
                refine then_n ?_
                refine reg_seq [0, 1] rfl ?_
                refine ops_cons ?_
                refine op_pure rfl (rn_inc (k := i3) rfl rfl (by omega)) rfl rfl ?_
                refine ops_cons ?_
                refine op_pure rfl (rn_move rfl) rfl rfl ?_
                refine ops_nil ?_
                refine then_n ?_
                exact (actOf_drop2 [(2, .pointer (some ⟨g_0_1, 0, none⟩)), (3, .pointer (some ⟨g_1_6, 0, none⟩)), (47, .slice Ax4 x.Out.length cx4), (48, .int .i64 ((x.Out.length : Nat))), (49, .int .i64 (((i3 + 1 : Nat) : Int)))] rfl).elim fun x' hx => ⟨r133 - 1, (by omega), i3 + 1, B_15_9, c_15_9, x', hx, (by omega), H173.pick [1, 3, 4, 0, 5, 6, 7] (by decide) rfl⟩
              · obtain rfl : i3 = x.Out.length := by omega
                rw [List.take_length] at H136
                have H174 : St w No [hR ki_Outgoing 147 (.slice A_3 x.Out.length c_3) x.Out, hR ki_Link 178 (.slice A_2 x.Links.length c_2) x.Links, hR ki_Entity 171 (.slice A_1 x.Entities.length c_1) x.Entities, hB g_1_6 68 #[.int .i64 (x.Id), .slice A_1 x.Entities.length c_1, .slice B_1_4 x.Loop.length c_1_4, .slice A_2 x.Links.length c_2, .slice A_3 x.Out.length c_3], hR ki_Sent 235 (.slice B_1_4 x.Loop.length c_1_4) x.Loop, hB g_0_1 68 #[.int .i64 (0), .slice none 0 0, .slice none 0 0, .slice none 0 0, .slice none 0 0], hB g_0_0 68 #[.int .i64 (x.Id), .slice Ax1 x.Entities.length cx1, .slice Ax2 x.Loop.length cx2, .slice Ax3 x.Links.length cx3, .slice Ax4 x.Out.length cx4]] W134 := H136
                clear H136
                refine wp_exit ?_
                refine then_x ?_
                refine then_x ?_
                refine inB_x ?_
                refine then_n ?_
                refine wp_seq ?_
                refine reg_seq [0, 1] rfl ?_
                refine ops_cons ?_
                refine op_pure rfl (rn_loadB Tryz.isAgg68 Tryz.sizeOf68 rfl (H174.blk 3 rfl) rfl) rfl rfl ?_
                refine ops_cons ?_
                have H178 : St w No [hB g_0_1 68 #[.int .i64 (0), .slice none 0 0, .slice none 0 0, .slice none 0 0, .slice none 0 0], hR ki_Outgoing 147 (.slice A_3 x.Out.length c_3) x.Out, hR ki_Link 178 (.slice A_2 x.Links.length c_2) x.Links, hR ki_Entity 171 (.slice A_1 x.Entities.length c_1) x.Entities, hB g_1_6 68 #[.int .i64 (x.Id), .slice A_1 x.Entities.length c_1, .slice B_1_4 x.Loop.length c_1_4, .slice A_2 x.Links.length c_2, .slice A_3 x.Out.length c_3], hR ki_Sent 235 (.slice B_1_4 x.Loop.length c_1_4) x.Loop, hB g_0_0 68 #[.int .i64 (x.Id), .slice Ax1 x.Entities.length cx1, .slice Ax2 x.Loop.length cx2, .slice Ax3 x.Links.length cx3, .slice Ax4 x.Out.length cx4]] W134 := H174.pick [5, 0, 1, 2, 3, 4, 6] (by decide) rfl
                clear H174
                refine op_storeW rfl Tryz.sizeOf68 rfl rfl rfl rfl (by simp [Value.oneCell']) H178 ?_
                intro W175 hu176 Ha177
                clear H178
                have H179 : St w No [hB g_0_1 68 #[.int .i64 (x.Id), .slice A_1 x.Entities.length c_1, .slice B_1_4 x.Loop.length c_1_4, .slice A_2 x.Links.length c_2, .slice A_3 x.Out.length c_3], hR ki_Outgoing 147 (.slice A_3 x.Out.length c_3) x.Out, hR ki_Link 178 (.slice A_2 x.Links.length c_2) x.Links, hR ki_Entity 171 (.slice A_1 x.Entities.length c_1) x.Entities, hB g_1_6 68 #[.int .i64 (x.Id), .slice A_1 x.Entities.length c_1, .slice B_1_4 x.Loop.length c_1_4, .slice A_2 x.Links.length c_2, .slice A_3 x.Out.length c_3], hR ki_Sent 235 (.slice B_1_4 x.Loop.length c_1_4) x.Loop, hB g_0_0 68 #[.int .i64 (x.Id), .slice Ax1 x.Entities.length cx1, .slice Ax2 x.Loop.length cx2, .slice Ax3 x.Links.length cx3, .slice Ax4 x.Out.length cx4]] W175 := Ha177
                clear Ha177
                clear hu176
                refine ops_nil ?_
                refine then_n ?_
                refine wp_ret ?_
                refine post_cell (.inl rfl) Tryz.results99 Tryz.isAgg68 Tryz.sizeOf68 rfl (H179.blk 0 rfl) rfl ?_
                exact ⟨_, rfl, ki_Vat_close (H179.pick [3, 5, 2, 1] (by decide) rfl).star, H179.1⟩
end Go.Proofs.YtfnedoiplblldaaGreatFam
