/- AddEntity: what the reference and the program compute. No conditions. -/
import Derived.Test.YtfnedoiplblldaaGreatProg
import Derived.Test.YtfnedoiplblldaaGreatTy
import Derived.Test.YtfnedoiplblldaaGreatOpn
import Derived.Test.YtfnedoiplblldaaGreatSym3
import Derived.Test.YtfnedoiplblldaaGreatCx8
namespace Go.Proofs.YtfnedoiplblldaaGreatFam
open Go.ChangeShapes Go.WideShapes Go.RowKit Go.Proofs.YtfnedoiplblldaaGreatSep Go.Proofs.YtfnedoiplblldaaGreatT Go.Proofs.YtfnedoiplblldaaGreatK
set_option linter.unusedVariables false
set_option linter.unusedSimpArgs false
/-- A struct and a number. -/
def RetAI {α : Type} (d : Kn α) (x : α) (n : Int) (w : World) (e : Ending) (w' : World) : Prop := ∃ cs, e = .returned (.tuple #[.agg cs.toArray, .int .i64 n]) ∧ d.M w' (New w) x cs ∧ Upd No w w'
def addL (e : GEntity) (l : List GEntity) : List GEntity := if l.length < 200 then l ++ [e] else l
def addN (l : List GEntity) : Int := if l.length < 200 then l.length else -1
def addE (e : GEntity) (x : GVat) : GVat := ⟨x.Id, addL e x.Entities, x.Loop, x.Links, x.Out⟩
theorem addL_yes (e : GEntity) (l : List GEntity) (h : l.length < 200) : addL e l = l ++ [e] := if_pos h
theorem addL_no (e : GEntity) (l : List GEntity) (h : ¬ l.length < 200) : addL e l = l := if_neg h
theorem addN_yes (l : List GEntity) (h : l.length < 200) : addN l = l.length := if_pos h
theorem addN_no (l : List GEntity) (h : ¬ l.length < 200) : addN l = -1 := if_neg h
theorem addE_bd (e : GEntity) (x : GVat) (h : szn_Vat x ≤ 1048576) (h2 : szn_Entity e ≤ 1048576) : szn_Vat (addE e x) ≤ 4194304 := by
  have h1 : sznS szn_Entity (addL e x.Entities) ≤ sznS szn_Entity x.Entities + szn_Entity e + 1 := by
    unfold addL
    split
    · unfold sznS
      rw [sumS_append, List.length_append, List.length_singleton]
      simp only [sumS]
      omega
    · omega
  unfold szn_Vat at h ⊢
  simp only [addE]
  omega
set_option maxHeartbeats 4000000 in
set_option maxRecDepth 100000 in
theorem addEntity_s (x : GVat) (e : GEntity) (cs ce : List Value) (w : World) (h : ki_Vat.K w x cs) (hs : szn_Vat x ≤ 4194304) (h2 : ki_Entity.K w e ce) (hs2 : szn_Entity e ≤ 4194304) : Calls Tryz.prog 117 #[.agg cs.toArray, .agg ce.toArray] w (RetAI ki_Vat (addE e x) (addN x.Entities) w) := by
  obtain ⟨Ax1, cx1, Ax2, cx2, Ax3, cx3, Ax4, cx4, rfl, hlx1, hCx1, hlx2, hCx2, hlx3, hCx3, hlx4, hCx4⟩ := ki_Vat_K h
  have s_Entities : sznS szn_Entity x.Entities ≤ 4194304 := by unfold szn_Vat at hs; omega
  have n_Entities : x.Entities.length ≤ 4194304 := by unfold sznS at s_Entities; omega
  have s_Loop : sznS szn_Sent x.Loop ≤ 4194304 := by unfold szn_Vat at hs; omega
  have n_Loop : x.Loop.length ≤ 4194304 := by unfold sznS at s_Loop; omega
  have s_Links : sznS szn_Link x.Links ≤ 4194304 := by unfold szn_Vat at hs; omega
  have n_Links : x.Links.length ≤ 4194304 := by unfold sznS at s_Links; omega
  have s_Out : sznS szn_Outgoing x.Out ≤ 4194304 := by unfold szn_Vat at hs; omega
  have n_Out : x.Out.length ≤ 4194304 := by unfold sznS at s_Out; omega
  have hl_e : ce.length = 12 := ki_Entity_len h2
  have ho_e : ∀ u ∈ (List.toArray ce).toList, u.oneCell' = true := ki_Entity_one h2
  refine enter 25 [(0, .agg #[.int .i64 (x.Id), .slice Ax1 x.Entities.length cx1, .slice Ax2 x.Loop.length cx2, .slice Ax3 x.Links.length cx3, .slice Ax4 x.Out.length cx4]), (1, .agg (List.toArray ce))] Tryz.func117 rfl (by kernel_rfl) ?_
  intro xj
  have H1 : St w No [] w := St.enter
  refine wp_seq ?_
  refine reg_seq [0, 1, 2, 3] rfl ?_
  refine ops_cons ?_
  refine op_box rfl rfl rfl rfl H1 ?_
  intro g_0_0 W2 hu3 Ha4
  clear H1
  have H5 : St w No [hB g_0_0 68 #[.int .i64 (x.Id), .slice Ax1 x.Entities.length cx1, .slice Ax2 x.Loop.length cx2, .slice Ax3 x.Links.length cx3, .slice Ax4 x.Out.length cx4]] W2 := Ha4
  clear Ha4
  clear hu3
  refine ops_cons ?_
  refine op_box rfl rfl rfl rfl H5 ?_
  intro g_0_1 W6 hu7 Ha8
  clear H5
  have H9 : St w No [hB g_0_1 171 (List.toArray ce), hB g_0_0 68 #[.int .i64 (x.Id), .slice Ax1 x.Entities.length cx1, .slice Ax2 x.Loop.length cx2, .slice Ax3 x.Links.length cx3, .slice Ax4 x.Out.length cx4]] W6 := Ha8
  clear Ha8
  clear hu7
  refine ops_cons ?_
  refine op_alloc rfl Tryz.zeroValue68 rfl rfl H9 ?_
  intro g_0_2 W10 hu11 Ha12
  clear H9
  have H13 : St w No [hB g_0_2 68 #[.int .i64 (0), .slice none 0 0, .slice none 0 0, .slice none 0 0, .slice none 0 0], hB g_0_1 171 (List.toArray ce), hB g_0_0 68 #[.int .i64 (x.Id), .slice Ax1 x.Entities.length cx1, .slice Ax2 x.Loop.length cx2, .slice Ax3 x.Links.length cx3, .slice Ax4 x.Out.length cx4]] W10 := Ha12
  clear Ha12
  clear hu11
  refine ops_cons ?_
  refine op_pure rfl (rn_assign rfl) rfl rfl ?_
  refine ops_nil ?_
  refine then_n ?_
  refine wp_seq ?_
  refine reg_seq [0, 1, 2, 3] rfl ?_
  refine ops_cons ?_
  refine op_pure rfl (rn_loadB Tryz.isAgg68 Tryz.sizeOf68 rfl (H13.blk 2 rfl) rfl) rfl rfl ?_
  refine ops_cons ?_
  refine op_call rfl Tryz.call90 (vs := #[.agg #[.int .i64 (x.Id), .slice Ax1 x.Entities.length cx1, .slice Ax2 x.Loop.length cx2, .slice Ax3 x.Links.length cx3, .slice Ax4 x.Out.length cx4]]) rfl rfl rfl (l12Copy_s x _ _ (ki_Vat_Kmk _ x hlx1 (C_upd H13.1 hCx1) hlx2 (C_upd H13.1 hCx2) hlx3 (C_upd H13.1 hCx3) hlx4 (C_upd H13.1 hCx4)) hs) ?_
  rintro e19 W18 ⟨cs14, rfl, hM15, hu16⟩
  refine ⟨_, rfl, ?_⟩
  obtain ⟨B_1_1_1, c_1_1_1, B_1_1_2, c_1_1_2, B_1_1_3, c_1_1_3, B_1_1_4, c_1_1_4, rfl, hst17⟩ := ki_Vat_open hM15
  have H20 : St w No [hR ki_Entity 171 (.slice B_1_1_1 x.Entities.length c_1_1_1) x.Entities, hR ki_Sent 235 (.slice B_1_1_2 x.Loop.length c_1_1_2) x.Loop, hR ki_Link 178 (.slice B_1_1_3 x.Links.length c_1_1_3) x.Links, hR ki_Outgoing 147 (.slice B_1_1_4 x.Out.length c_1_1_4) x.Out, hB g_0_2 68 #[.int .i64 (0), .slice none 0 0, .slice none 0 0, .slice none 0 0, .slice none 0 0], hB g_0_1 171 (List.toArray ce), hB g_0_0 68 #[.int .i64 (x.Id), .slice Ax1 x.Entities.length cx1, .slice Ax2 x.Loop.length cx2, .slice Ax3 x.Links.length cx3, .slice Ax4 x.Out.length cx4]] W18 := H13.news hu16 hst17
  clear H13
  refine ops_cons ?_
  refine op_alloc rfl Tryz.zeroValue68 rfl rfl H20 ?_
  intro g_1_2 W21 hu22 Ha23
  clear H20
  have H24 : St w No [hB g_1_2 68 #[.int .i64 (0), .slice none 0 0, .slice none 0 0, .slice none 0 0, .slice none 0 0], hR ki_Entity 171 (.slice B_1_1_1 x.Entities.length c_1_1_1) x.Entities, hR ki_Sent 235 (.slice B_1_1_2 x.Loop.length c_1_1_2) x.Loop, hR ki_Link 178 (.slice B_1_1_3 x.Links.length c_1_1_3) x.Links, hR ki_Outgoing 147 (.slice B_1_1_4 x.Out.length c_1_1_4) x.Out, hB g_0_2 68 #[.int .i64 (0), .slice none 0 0, .slice none 0 0, .slice none 0 0, .slice none 0 0], hB g_0_1 171 (List.toArray ce), hB g_0_0 68 #[.int .i64 (x.Id), .slice Ax1 x.Entities.length cx1, .slice Ax2 x.Loop.length cx2, .slice Ax3 x.Links.length cx3, .slice Ax4 x.Out.length cx4]] W21 := Ha23
  clear Ha23
  clear hu22
  refine ops_cons ?_
  refine op_storeW rfl Tryz.sizeOf68 rfl rfl rfl rfl (by simp [Value.oneCell']) H24 ?_
  intro W25 hu26 Ha27
  clear H24
  have H28 : St w No [hB g_1_2 68 #[.int .i64 (x.Id), .slice B_1_1_1 x.Entities.length c_1_1_1, .slice B_1_1_2 x.Loop.length c_1_1_2, .slice B_1_1_3 x.Links.length c_1_1_3, .slice B_1_1_4 x.Out.length c_1_1_4], hR ki_Entity 171 (.slice B_1_1_1 x.Entities.length c_1_1_1) x.Entities, hR ki_Sent 235 (.slice B_1_1_2 x.Loop.length c_1_1_2) x.Loop, hR ki_Link 178 (.slice B_1_1_3 x.Links.length c_1_1_3) x.Links, hR ki_Outgoing 147 (.slice B_1_1_4 x.Out.length c_1_1_4) x.Out, hB g_0_2 68 #[.int .i64 (0), .slice none 0 0, .slice none 0 0, .slice none 0 0, .slice none 0 0], hB g_0_1 171 (List.toArray ce), hB g_0_0 68 #[.int .i64 (x.Id), .slice Ax1 x.Entities.length cx1, .slice Ax2 x.Loop.length cx2, .slice Ax3 x.Links.length cx3, .slice Ax4 x.Out.length cx4]] W25 := Ha27
  clear Ha27
  clear hu26
  refine ops_nil ?_
  refine then_n ?_
  refine wp_seq ?_
  refine wp_seq ?_
  refine reg_seq [0, 1, 2, 3] rfl ?_
  refine ops_cons ?_
  refine op_pure rfl (rn_field fa_68_1 rfl) rfl rfl ?_
  refine ops_cons ?_
  refine op_pure rfl (rn_loadC (v := .slice Ax1 x.Entities.length cx1) Tryz.isAgg63 rfl (H28.blk 7 rfl) rfl) rfl rfl ?_
  refine ops_cons ?_
  refine op_pure rfl (rn_len Tryz.runUnderlying63 rfl) rfl rfl ?_
  refine ops_cons ?_
  refine op_pure rfl (rn_geq rfl rfl) rfl rfl ?_
  refine ops_nil ?_
  refine then_n ?_
  refine cond_dec rfl (fun hc29 => ?_) (fun hc29 => ?_)
  · refine wp_seq ?_
    refine reg_seq [0, 1, 2] rfl ?_
    refine ops_cons ?_
    refine op_pure rfl (rn_loadB Tryz.isAgg68 Tryz.sizeOf68 rfl (H28.blk 0 rfl) rfl) rfl rfl ?_
    refine ops_cons ?_
    have H33 : St w No [hB g_0_2 68 #[.int .i64 (0), .slice none 0 0, .slice none 0 0, .slice none 0 0, .slice none 0 0], hB g_1_2 68 #[.int .i64 (x.Id), .slice B_1_1_1 x.Entities.length c_1_1_1, .slice B_1_1_2 x.Loop.length c_1_1_2, .slice B_1_1_3 x.Links.length c_1_1_3, .slice B_1_1_4 x.Out.length c_1_1_4], hR ki_Entity 171 (.slice B_1_1_1 x.Entities.length c_1_1_1) x.Entities, hR ki_Sent 235 (.slice B_1_1_2 x.Loop.length c_1_1_2) x.Loop, hR ki_Link 178 (.slice B_1_1_3 x.Links.length c_1_1_3) x.Links, hR ki_Outgoing 147 (.slice B_1_1_4 x.Out.length c_1_1_4) x.Out, hB g_0_1 171 (List.toArray ce), hB g_0_0 68 #[.int .i64 (x.Id), .slice Ax1 x.Entities.length cx1, .slice Ax2 x.Loop.length cx2, .slice Ax3 x.Links.length cx3, .slice Ax4 x.Out.length cx4]] W25 := H28.pick [5, 0, 1, 2, 3, 4, 6, 7] (by decide) rfl
    clear H28
    refine op_storeW rfl Tryz.sizeOf68 rfl rfl rfl rfl (by simp [Value.oneCell']) H33 ?_
    intro W30 hu31 Ha32
    clear H33
    have H34 : St w No [hB g_0_2 68 #[.int .i64 (x.Id), .slice B_1_1_1 x.Entities.length c_1_1_1, .slice B_1_1_2 x.Loop.length c_1_1_2, .slice B_1_1_3 x.Links.length c_1_1_3, .slice B_1_1_4 x.Out.length c_1_1_4], hB g_1_2 68 #[.int .i64 (x.Id), .slice B_1_1_1 x.Entities.length c_1_1_1, .slice B_1_1_2 x.Loop.length c_1_1_2, .slice B_1_1_3 x.Links.length c_1_1_3, .slice B_1_1_4 x.Out.length c_1_1_4], hR ki_Entity 171 (.slice B_1_1_1 x.Entities.length c_1_1_1) x.Entities, hR ki_Sent 235 (.slice B_1_1_2 x.Loop.length c_1_1_2) x.Loop, hR ki_Link 178 (.slice B_1_1_3 x.Links.length c_1_1_3) x.Links, hR ki_Outgoing 147 (.slice B_1_1_4 x.Out.length c_1_1_4) x.Out, hB g_0_1 171 (List.toArray ce), hB g_0_0 68 #[.int .i64 (x.Id), .slice Ax1 x.Entities.length cx1, .slice Ax2 x.Loop.length cx2, .slice Ax3 x.Links.length cx3, .slice Ax4 x.Out.length cx4]] W30 := Ha32
    clear Ha32
    clear hu31
    refine ops_cons ?_
    refine op_pure rfl (rn_assign rfl) rfl rfl ?_
    refine ops_nil ?_
    refine then_n ?_
    refine wp_ret ?_
    refine then_r ?_
    have hlt : ¬ x.Entities.length < 200 := by omega
    have e1 := addL_no e x.Entities hlt
    have e2 := addN_no x.Entities hlt
    refine post_cell_tmp (.inl rfl) Tryz.results117 Tryz.isAgg68 Tryz.sizeOf68 rfl rfl (H34.blk 0 rfl) rfl ?_
    refine ⟨[.int .i64 (x.Id), .slice B_1_1_1 x.Entities.length c_1_1_1, .slice B_1_1_2 x.Loop.length c_1_1_2, .slice B_1_1_3 x.Links.length c_1_1_3, .slice B_1_1_4 x.Out.length c_1_1_4], by rw [e2], ?_, H34.1⟩
    unfold addE
    rw [e1]
    exact ki_Vat_close (H34.pick [2, 3, 4, 5] (by decide) rfl).star
  · refine wp_skip ?_
    refine then_n ?_
    refine wp_seq ?_
    refine reg_draw (fun W' => Blk W' g_1_2 68 #[.int .i64 (x.Id), .slice B_1_1_1 x.Entities.length c_1_1_1, .slice B_1_1_2 x.Loop.length c_1_1_2, .slice B_1_1_3 x.Links.length c_1_1_3, .slice B_1_1_4 x.Out.length c_1_1_4] ∧ Blk W' g_0_1 171 (List.toArray ce)) 7 (by kernel_rfl) ?_
    have H35 : St w No [hB g_1_2 68 #[.int .i64 (x.Id), .slice B_1_1_1 x.Entities.length c_1_1_1, .slice B_1_1_2 x.Loop.length c_1_1_2, .slice B_1_1_3 x.Links.length c_1_1_3, .slice B_1_1_4 x.Out.length c_1_1_4], hR ki_Entity 171 (.slice B_1_1_1 x.Entities.length c_1_1_1) x.Entities, hR ki_Sent 235 (.slice B_1_1_2 x.Loop.length c_1_1_2) x.Loop, hR ki_Link 178 (.slice B_1_1_3 x.Links.length c_1_1_3) x.Links, hR ki_Outgoing 147 (.slice B_1_1_4 x.Out.length c_1_1_4) x.Out, hB g_0_2 68 #[.int .i64 (0), .slice none 0 0, .slice none 0 0, .slice none 0 0, .slice none 0 0], hB g_0_1 171 (List.toArray ce), hB g_0_0 68 #[.int .i64 (x.Id), .slice Ax1 x.Entities.length cx1, .slice Ax2 x.Loop.length cx2, .slice Ax3 x.Links.length cx3, .slice Ax4 x.Out.length cx4]] W25.drew := H28.drew
    clear H28
    have hS36 : Blk W25.drew g_1_2 68 #[.int .i64 (x.Id), .slice B_1_1_1 x.Entities.length c_1_1_1, .slice B_1_1_2 x.Loop.length c_1_1_2, .slice B_1_1_3 x.Links.length c_1_1_3, .slice B_1_1_4 x.Out.length c_1_1_4] ∧ Blk W25.drew g_0_1 171 (List.toArray ce) := ⟨H35.blk 0 rfl, H35.blk 6 rfl⟩
    refine anyS_take (i := 0) rfl (by kernel_rfl) (by kernel_rfl) (by kernel_rfl) (by kernel_rfl) (by kernel_rfl) (fun _ _ _ h => h) rfl rfl hS36 (fun W' hs' => rn_field fa_68_1 rfl) ?_
    refine anyS_take (i := 1) rfl (by kernel_rfl) (by kernel_rfl) (by kernel_rfl) (by kernel_rfl) (by kernel_rfl) (fun _ _ _ h => h) rfl rfl hS36 (fun W' hs' => rn_loadC (v := .slice B_1_1_1 x.Entities.length c_1_1_1) Tryz.isAgg63 rfl hs'.1 rfl) ?_
    refine anyS_take (i := 2) rfl (by kernel_rfl) (by kernel_rfl) (by kernel_rfl) (by kernel_rfl) (by kernel_rfl) (fun _ _ _ h => h) rfl rfl hS36 (fun W' hs' => rn_loadB Tryz.isAgg171 Tryz.sizeOf171 rfl hs'.2 hl_e) ?_
    refine anyS_one (i := 3) (by kernel_rfl) ?_
    refine op_call rfl Tryz.call158 (vs := #[.agg (List.toArray ce)]) rfl rfl rfl (l9Copy_s e _ _ (K_upd H35.1 h2) hs2) ?_
    rintro e40 W39 ⟨cs_4_3, rfl, hM37, hu38⟩
    refine ⟨_, rfl, ?_⟩
    have hl41 := ki_Entity_len (ki_Entity.K_of_M hM37)
    have ho42 := ki_Entity_one (ki_Entity.K_of_M hM37)
    have H43 : St w No [hM ki_Entity e cs_4_3, hB g_1_2 68 #[.int .i64 (x.Id), .slice B_1_1_1 x.Entities.length c_1_1_1, .slice B_1_1_2 x.Loop.length c_1_1_2, .slice B_1_1_3 x.Links.length c_1_1_3, .slice B_1_1_4 x.Out.length c_1_1_4], hR ki_Entity 171 (.slice B_1_1_1 x.Entities.length c_1_1_1) x.Entities, hR ki_Sent 235 (.slice B_1_1_2 x.Loop.length c_1_1_2) x.Loop, hR ki_Link 178 (.slice B_1_1_3 x.Links.length c_1_1_3) x.Links, hR ki_Outgoing 147 (.slice B_1_1_4 x.Out.length c_1_1_4) x.Out, hB g_0_2 68 #[.int .i64 (0), .slice none 0 0, .slice none 0 0, .slice none 0 0, .slice none 0 0], hB g_0_1 171 (List.toArray ce), hB g_0_0 68 #[.int .i64 (x.Id), .slice Ax1 x.Entities.length cx1, .slice Ax2 x.Loop.length cx2, .slice Ax3 x.Links.length cx3, .slice Ax4 x.Out.length cx4]] W39 := H35.new hu38 hM37
    clear H35
    have hS44 : Blk W39 g_1_2 68 #[.int .i64 (x.Id), .slice B_1_1_1 x.Entities.length c_1_1_1, .slice B_1_1_2 x.Loop.length c_1_1_2, .slice B_1_1_3 x.Links.length c_1_1_3, .slice B_1_1_4 x.Out.length c_1_1_4] ∧ Blk W39 g_0_1 171 (List.toArray ce) := ⟨H43.blk 1 rfl, H43.blk 7 rfl⟩
    refine ⟨fun _ => hS44, ?_⟩
    refine anyS_one (i := 4) (by kernel_rfl) ?_
    refine op_slice1 rfl Tryz.runUnderlying63 Tryz.sizeOf171 (by decide) Tryz.zeroValue171 rfl (ki_Entity_len (H43.kn 0 rfl)) rfl rfl H43 ?_
    intro g_4_4 W45 hu46 Ha47
    clear H43
    have H48 : St w No [hB g_4_4 171 (List.toArray cs_4_3), hM ki_Entity e cs_4_3, hB g_1_2 68 #[.int .i64 (x.Id), .slice B_1_1_1 x.Entities.length c_1_1_1, .slice B_1_1_2 x.Loop.length c_1_1_2, .slice B_1_1_3 x.Links.length c_1_1_3, .slice B_1_1_4 x.Out.length c_1_1_4], hR ki_Entity 171 (.slice B_1_1_1 x.Entities.length c_1_1_1) x.Entities, hR ki_Sent 235 (.slice B_1_1_2 x.Loop.length c_1_1_2) x.Loop, hR ki_Link 178 (.slice B_1_1_3 x.Links.length c_1_1_3) x.Links, hR ki_Outgoing 147 (.slice B_1_1_4 x.Out.length c_1_1_4) x.Out, hB g_0_2 68 #[.int .i64 (0), .slice none 0 0, .slice none 0 0, .slice none 0 0, .slice none 0 0], hB g_0_1 171 (List.toArray ce), hB g_0_0 68 #[.int .i64 (x.Id), .slice Ax1 x.Entities.length cx1, .slice Ax2 x.Loop.length cx2, .slice Ax3 x.Links.length cx3, .slice Ax4 x.Out.length cx4]] W45 := Ha47
    clear Ha47
    clear hu46
    have hS49 : Blk W45 g_1_2 68 #[.int .i64 (x.Id), .slice B_1_1_1 x.Entities.length c_1_1_1, .slice B_1_1_2 x.Loop.length c_1_1_2, .slice B_1_1_3 x.Links.length c_1_1_3, .slice B_1_1_4 x.Out.length c_1_1_4] ∧ Blk W45 g_0_1 171 (List.toArray ce) := ⟨H48.blk 2 rfl, H48.blk 8 rfl⟩
    refine ⟨fun _ => hS49, ?_⟩
    refine anyS_one (i := 5) (by kernel_rfl) ?_
    have H52 : St w No [hR ki_Entity 171 (.slice B_1_1_1 x.Entities.length c_1_1_1) x.Entities, hB g_4_4 171 (List.toArray cs_4_3), hM ki_Entity e cs_4_3, hB g_1_2 68 #[.int .i64 (x.Id), .slice B_1_1_1 x.Entities.length c_1_1_1, .slice B_1_1_2 x.Loop.length c_1_1_2, .slice B_1_1_3 x.Links.length c_1_1_3, .slice B_1_1_4 x.Out.length c_1_1_4], hR ki_Sent 235 (.slice B_1_1_2 x.Loop.length c_1_1_2) x.Loop, hR ki_Link 178 (.slice B_1_1_3 x.Links.length c_1_1_3) x.Links, hR ki_Outgoing 147 (.slice B_1_1_4 x.Out.length c_1_1_4) x.Out, hB g_0_2 68 #[.int .i64 (0), .slice none 0 0, .slice none 0 0, .slice none 0 0, .slice none 0 0], hB g_0_1 171 (List.toArray ce), hB g_0_0 68 #[.int .i64 (x.Id), .slice Ax1 x.Entities.length cx1, .slice Ax2 x.Loop.length cx2, .slice Ax3 x.Links.length cx3, .slice Ax4 x.Out.length cx4]] W45 := H48.pick [3, 0, 1, 2, 4, 5, 6, 7, 8, 9] (by decide) rfl
    clear H48
    refine op_append1' (xs := x.Entities) (p := e) (n' := (x.Entities.length + 1)) (ys := (x.Entities ++ [e])) rfl Tryz.underlying63 ki_Entity_info rfl (by decide) (by decide) rfl rfl (by omega) rfl rfl rfl rfl H52 ?_
    intro B_4_5 c_4_5 W50 Ha51
    clear H52
    have H53 : St w No [hR ki_Entity 171 (.slice B_4_5 (x.Entities.length + 1) c_4_5) (x.Entities ++ [e]), hB g_1_2 68 #[.int .i64 (x.Id), .slice B_1_1_1 x.Entities.length c_1_1_1, .slice B_1_1_2 x.Loop.length c_1_1_2, .slice B_1_1_3 x.Links.length c_1_1_3, .slice B_1_1_4 x.Out.length c_1_1_4], hR ki_Sent 235 (.slice B_1_1_2 x.Loop.length c_1_1_2) x.Loop, hR ki_Link 178 (.slice B_1_1_3 x.Links.length c_1_1_3) x.Links, hR ki_Outgoing 147 (.slice B_1_1_4 x.Out.length c_1_1_4) x.Out, hB g_0_2 68 #[.int .i64 (0), .slice none 0 0, .slice none 0 0, .slice none 0 0, .slice none 0 0], hB g_0_1 171 (List.toArray ce), hB g_0_0 68 #[.int .i64 (x.Id), .slice Ax1 x.Entities.length cx1, .slice Ax2 x.Loop.length cx2, .slice Ax3 x.Links.length cx3, .slice Ax4 x.Out.length cx4]] W50 := Ha51
    clear Ha51
    have hS54 : Blk W50 g_1_2 68 #[.int .i64 (x.Id), .slice B_1_1_1 x.Entities.length c_1_1_1, .slice B_1_1_2 x.Loop.length c_1_1_2, .slice B_1_1_3 x.Links.length c_1_1_3, .slice B_1_1_4 x.Out.length c_1_1_4] ∧ Blk W50 g_0_1 171 (List.toArray ce) := ⟨H53.blk 1 rfl, H53.blk 6 rfl⟩
    refine ⟨fun _ => hS54, ?_⟩
    refine anyS_take (i := 6) rfl (by kernel_rfl) (by kernel_rfl) (by kernel_rfl) (by kernel_rfl) (by kernel_rfl) (fun _ _ _ h => h) rfl rfl hS54 (fun W' hs' => rn_field fa_68_1 rfl) ?_
    refine anyS_one (i := 7) (by kernel_rfl) ?_
    have H58 : St w No [hB g_1_2 68 #[.int .i64 (x.Id), .slice B_1_1_1 x.Entities.length c_1_1_1, .slice B_1_1_2 x.Loop.length c_1_1_2, .slice B_1_1_3 x.Links.length c_1_1_3, .slice B_1_1_4 x.Out.length c_1_1_4], hR ki_Entity 171 (.slice B_4_5 (x.Entities.length + 1) c_4_5) (x.Entities ++ [e]), hR ki_Sent 235 (.slice B_1_1_2 x.Loop.length c_1_1_2) x.Loop, hR ki_Link 178 (.slice B_1_1_3 x.Links.length c_1_1_3) x.Links, hR ki_Outgoing 147 (.slice B_1_1_4 x.Out.length c_1_1_4) x.Out, hB g_0_2 68 #[.int .i64 (0), .slice none 0 0, .slice none 0 0, .slice none 0 0, .slice none 0 0], hB g_0_1 171 (List.toArray ce), hB g_0_0 68 #[.int .i64 (x.Id), .slice Ax1 x.Entities.length cx1, .slice Ax2 x.Loop.length cx2, .slice Ax3 x.Links.length cx3, .slice Ax4 x.Out.length cx4]] W50 := H53.pick [1, 0, 2, 3, 4, 5, 6, 7] (by decide) rfl
    clear H53
    refine op_store rfl Tryz.sizeOf63 rfl rfl rfl (Nat.le_of_ble_eq_true rfl) (by simp [Value.cells, Value.oneCell']) H58 ?_
    intro W55 hu56 Ha57
    clear H58
    have H59 : St w No [hB g_1_2 68 #[.int .i64 (x.Id), .slice B_4_5 (x.Entities.length + 1) c_4_5, .slice B_1_1_2 x.Loop.length c_1_1_2, .slice B_1_1_3 x.Links.length c_1_1_3, .slice B_1_1_4 x.Out.length c_1_1_4], hR ki_Entity 171 (.slice B_4_5 (x.Entities.length + 1) c_4_5) (x.Entities ++ [e]), hR ki_Sent 235 (.slice B_1_1_2 x.Loop.length c_1_1_2) x.Loop, hR ki_Link 178 (.slice B_1_1_3 x.Links.length c_1_1_3) x.Links, hR ki_Outgoing 147 (.slice B_1_1_4 x.Out.length c_1_1_4) x.Out, hB g_0_2 68 #[.int .i64 (0), .slice none 0 0, .slice none 0 0, .slice none 0 0, .slice none 0 0], hB g_0_1 171 (List.toArray ce), hB g_0_0 68 #[.int .i64 (x.Id), .slice Ax1 x.Entities.length cx1, .slice Ax2 x.Loop.length cx2, .slice Ax3 x.Links.length cx3, .slice Ax4 x.Out.length cx4]] W55 := Ha57
    clear Ha57
    clear hu56
    refine ⟨fun h => absS (by kernel_rfl) h, ?_⟩
    refine anyS_done (by kernel_rfl) ?_ _
    refine then_n ?_
    refine wp_seq ?_
    refine reg_draw (fun W' => Blk W' g_1_2 68 #[.int .i64 (x.Id), .slice B_4_5 (x.Entities.length + 1) c_4_5, .slice B_1_1_2 x.Loop.length c_1_1_2, .slice B_1_1_3 x.Links.length c_1_1_3, .slice B_1_1_4 x.Out.length c_1_1_4] ∧ Blk W' g_0_0 68 #[.int .i64 (x.Id), .slice Ax1 x.Entities.length cx1, .slice Ax2 x.Loop.length cx2, .slice Ax3 x.Links.length cx3, .slice Ax4 x.Out.length cx4]) 6 (by kernel_rfl) ?_
    have H60 : St w No [hB g_1_2 68 #[.int .i64 (x.Id), .slice B_4_5 (x.Entities.length + 1) c_4_5, .slice B_1_1_2 x.Loop.length c_1_1_2, .slice B_1_1_3 x.Links.length c_1_1_3, .slice B_1_1_4 x.Out.length c_1_1_4], hR ki_Entity 171 (.slice B_4_5 (x.Entities.length + 1) c_4_5) (x.Entities ++ [e]), hR ki_Sent 235 (.slice B_1_1_2 x.Loop.length c_1_1_2) x.Loop, hR ki_Link 178 (.slice B_1_1_3 x.Links.length c_1_1_3) x.Links, hR ki_Outgoing 147 (.slice B_1_1_4 x.Out.length c_1_1_4) x.Out, hB g_0_2 68 #[.int .i64 (0), .slice none 0 0, .slice none 0 0, .slice none 0 0, .slice none 0 0], hB g_0_1 171 (List.toArray ce), hB g_0_0 68 #[.int .i64 (x.Id), .slice Ax1 x.Entities.length cx1, .slice Ax2 x.Loop.length cx2, .slice Ax3 x.Links.length cx3, .slice Ax4 x.Out.length cx4]] W55.drew := H59.drew
    clear H59
    have hS61 : Blk W55.drew g_1_2 68 #[.int .i64 (x.Id), .slice B_4_5 (x.Entities.length + 1) c_4_5, .slice B_1_1_2 x.Loop.length c_1_1_2, .slice B_1_1_3 x.Links.length c_1_1_3, .slice B_1_1_4 x.Out.length c_1_1_4] ∧ Blk W55.drew g_0_0 68 #[.int .i64 (x.Id), .slice Ax1 x.Entities.length cx1, .slice Ax2 x.Loop.length cx2, .slice Ax3 x.Links.length cx3, .slice Ax4 x.Out.length cx4] := ⟨H60.blk 0 rfl, H60.blk 7 rfl⟩
    refine anyS_take (i := 0) rfl (by kernel_rfl) (by kernel_rfl) (by kernel_rfl) (by kernel_rfl) (by kernel_rfl) (fun _ _ _ h => h) rfl rfl hS61 (fun W' hs' => rn_loadB Tryz.isAgg68 Tryz.sizeOf68 rfl hs'.1 rfl) ?_
    refine anyS_take (i := 1) rfl (by kernel_rfl) (by kernel_rfl) (by kernel_rfl) (by kernel_rfl) (by kernel_rfl) (fun _ _ _ h => h) rfl rfl hS61 (fun W' hs' => rn_field fa_68_1 rfl) ?_
    refine anyS_take (i := 2) rfl (by kernel_rfl) (by kernel_rfl) (by kernel_rfl) (by kernel_rfl) (by kernel_rfl) (fun _ _ _ h => h) rfl rfl hS61 (fun W' hs' => rn_loadC (v := .slice Ax1 x.Entities.length cx1) Tryz.isAgg63 rfl hs'.2 rfl) ?_
    refine anyS_take (i := 3) rfl (by kernel_rfl) (by kernel_rfl) (by kernel_rfl) (by kernel_rfl) (by kernel_rfl) (fun _ _ _ h => h) rfl rfl hS61 (fun W' hs' => rn_len Tryz.runUnderlying63 rfl) ?_
    refine anyS_one (i := 4) (by kernel_rfl) ?_
    have H65 : St w No [hB g_0_2 68 #[.int .i64 (0), .slice none 0 0, .slice none 0 0, .slice none 0 0, .slice none 0 0], hB g_1_2 68 #[.int .i64 (x.Id), .slice B_4_5 (x.Entities.length + 1) c_4_5, .slice B_1_1_2 x.Loop.length c_1_1_2, .slice B_1_1_3 x.Links.length c_1_1_3, .slice B_1_1_4 x.Out.length c_1_1_4], hR ki_Entity 171 (.slice B_4_5 (x.Entities.length + 1) c_4_5) (x.Entities ++ [e]), hR ki_Sent 235 (.slice B_1_1_2 x.Loop.length c_1_1_2) x.Loop, hR ki_Link 178 (.slice B_1_1_3 x.Links.length c_1_1_3) x.Links, hR ki_Outgoing 147 (.slice B_1_1_4 x.Out.length c_1_1_4) x.Out, hB g_0_1 171 (List.toArray ce), hB g_0_0 68 #[.int .i64 (x.Id), .slice Ax1 x.Entities.length cx1, .slice Ax2 x.Loop.length cx2, .slice Ax3 x.Links.length cx3, .slice Ax4 x.Out.length cx4]] W55.drew := H60.pick [5, 0, 1, 2, 3, 4, 6, 7] (by decide) rfl
    clear H60
    refine op_storeW rfl Tryz.sizeOf68 rfl rfl rfl rfl (by simp [Value.oneCell']) H65 ?_
    intro W62 hu63 Ha64
    clear H65
    have H66 : St w No [hB g_0_2 68 #[.int .i64 (x.Id), .slice B_4_5 (x.Entities.length + 1) c_4_5, .slice B_1_1_2 x.Loop.length c_1_1_2, .slice B_1_1_3 x.Links.length c_1_1_3, .slice B_1_1_4 x.Out.length c_1_1_4], hB g_1_2 68 #[.int .i64 (x.Id), .slice B_4_5 (x.Entities.length + 1) c_4_5, .slice B_1_1_2 x.Loop.length c_1_1_2, .slice B_1_1_3 x.Links.length c_1_1_3, .slice B_1_1_4 x.Out.length c_1_1_4], hR ki_Entity 171 (.slice B_4_5 (x.Entities.length + 1) c_4_5) (x.Entities ++ [e]), hR ki_Sent 235 (.slice B_1_1_2 x.Loop.length c_1_1_2) x.Loop, hR ki_Link 178 (.slice B_1_1_3 x.Links.length c_1_1_3) x.Links, hR ki_Outgoing 147 (.slice B_1_1_4 x.Out.length c_1_1_4) x.Out, hB g_0_1 171 (List.toArray ce), hB g_0_0 68 #[.int .i64 (x.Id), .slice Ax1 x.Entities.length cx1, .slice Ax2 x.Loop.length cx2, .slice Ax3 x.Links.length cx3, .slice Ax4 x.Out.length cx4]] W62 := Ha64
    clear Ha64
    clear hu63
    have hS67 : Blk W62 g_1_2 68 #[.int .i64 (x.Id), .slice B_4_5 (x.Entities.length + 1) c_4_5, .slice B_1_1_2 x.Loop.length c_1_1_2, .slice B_1_1_3 x.Links.length c_1_1_3, .slice B_1_1_4 x.Out.length c_1_1_4] ∧ Blk W62 g_0_0 68 #[.int .i64 (x.Id), .slice Ax1 x.Entities.length cx1, .slice Ax2 x.Loop.length cx2, .slice Ax3 x.Links.length cx3, .slice Ax4 x.Out.length cx4] := ⟨H66.blk 1 rfl, H66.blk 7 rfl⟩
    refine ⟨fun _ => hS67, ?_⟩
    refine anyS_take (i := 5) rfl (by kernel_rfl) (by kernel_rfl) (by kernel_rfl) (by kernel_rfl) (by kernel_rfl) (fun _ _ _ h => h) rfl rfl hS67 (fun W' hs' => rn_assign rfl) ?_
    refine anyS_done (by kernel_rfl) ?_ _
    refine then_n ?_
    refine wp_ret ?_
    have hlt : x.Entities.length < 200 := by omega
    have e1 := addL_yes e x.Entities hlt
    have e2 := addN_yes x.Entities hlt
    refine post_cell_tmp (.inl rfl) Tryz.results117 Tryz.isAgg68 Tryz.sizeOf68 rfl rfl (H66.blk 0 rfl) rfl ?_
    refine ⟨[.int .i64 (x.Id), .slice B_4_5 (x.Entities.length + 1) c_4_5, .slice B_1_1_2 x.Loop.length c_1_1_2, .slice B_1_1_3 x.Links.length c_1_1_3, .slice B_1_1_4 x.Out.length c_1_1_4], by rw [e2], ?_, H66.1⟩
    unfold addE
    rw [e1]
    exact ki_Vat_close (H66.pick [2, 3, 4, 5] (by decide) rfl).star
set_option maxHeartbeats 4000000 in
set_option maxRecDepth 100000 in
theorem add_i (l : List GEntity) (e : GEntity) (g c0 : Nat) (A0 : Option Addr) (ce : List Value) (u0 u2 u3 u4 : Value) (F0 : Nat → Prop) (w : World) (h : Star [hB g 68 #[u0, .slice A0 l.length c0, u2, u3, u4], hR ki_Entity 171 (.slice A0 l.length c0) l, hM ki_Entity e ce] w F0) (hn : l.length ≤ 4194304) : Calls Tryz.prog 121 #[.pointer (some ⟨g, 0, none⟩), .agg ce.toArray] w (fun e' w' => ∃ A c, e' = .returned (.int .i64 (addN l)) ∧ St w F0 [hB g 68 #[u0, .slice A (addL e l).length c, u2, u3, u4], hR ki_Entity 171 (.slice A (addL e l).length c) (addL e l)] w') := by
  have H0 : St w F0 _ w := St.enterF h
  have hke := H0.kn 2 rfl
  have hl_e : ce.length = 12 := ki_Entity_len hke
  have ho_e : ∀ u ∈ (List.toArray ce).toList, u.oneCell' = true := ki_Entity_one hke
  refine enter 27 [(0, .pointer (some ⟨g, 0, none⟩)), (1, .agg (List.toArray ce))] Tryz.func121 rfl (by kernel_rfl) ?_
  intro xj
  have H1 : St w F0 [hB g 68 #[u0, .slice A0 l.length c0, u2, u3, u4], hR ki_Entity 171 (.slice A0 l.length c0) l, hM ki_Entity e ce] w := H0
  refine wp_seq ?_
  refine reg_seq [0, 1] rfl ?_
  refine ops_cons ?_
  refine op_box rfl rfl rfl rfl H1 ?_
  intro g_0_0 W2 hu3 Ha4
  clear H1
  have H5 : St w F0 [hB g_0_0 171 (List.toArray ce), hB g 68 #[u0, .slice A0 l.length c0, u2, u3, u4], hR ki_Entity 171 (.slice A0 l.length c0) l, hM ki_Entity e ce] W2 := Ha4
  clear Ha4
  clear hu3
  refine ops_cons ?_
  refine op_pure rfl (rn_assign rfl) rfl rfl ?_
  refine ops_nil ?_
  refine then_n ?_
  refine wp_seq ?_
  refine wp_seq ?_
  refine reg_seq [0, 1, 2, 3, 4, 5] rfl ?_
  refine ops_cons ?_
  refine op_pure rfl (rn_move rfl) rfl rfl ?_
  refine ops_cons ?_
  refine op_pure rfl (rn_nilCheck rfl) rfl rfl ?_
  refine ops_cons ?_
  refine op_pure rfl (rn_field fa_68_1 rfl) rfl rfl ?_
  refine ops_cons ?_
  refine op_pure rfl (rn_loadC (v := .slice A0 l.length c0) Tryz.isAgg63 rfl (H5.blk 1 rfl) rfl) rfl rfl ?_
  refine ops_cons ?_
  refine op_pure rfl (rn_len Tryz.runUnderlying63 rfl) rfl rfl ?_
  refine ops_cons ?_
  refine op_pure rfl (rn_geq rfl rfl) rfl rfl ?_
  refine ops_nil ?_
  refine then_n ?_
  refine cond_dec rfl (fun hc6 => ?_) (fun hc6 => ?_)
  · refine wp_seq ?_
    refine reg_seq [0] rfl ?_
    refine ops_cons ?_
    refine op_pure rfl (rn_assign rfl) rfl rfl ?_
    refine ops_nil ?_
    refine then_n ?_
    refine wp_ret ?_
    refine then_r ?_
    have hlt : ¬ l.length < 200 := by omega
    have e1 := addL_no e l hlt
    have e2 := addN_no l hlt
    refine post_tmp (.inl rfl) Tryz.results121 rfl ?_
    rw [e1, e2]
    exact ⟨A0, c0, rfl, H5.pick [1, 2] (by decide) rfl⟩
  · refine wp_skip ?_
    refine then_n ?_
    refine wp_seq ?_
    refine reg_draw (fun W' => Blk W' g 68 #[u0, .slice A0 l.length c0, u2, u3, u4] ∧ Blk W' g_0_0 171 (List.toArray ce)) 10 (by kernel_rfl) ?_
    have H7 : St w F0 [hB g_0_0 171 (List.toArray ce), hB g 68 #[u0, .slice A0 l.length c0, u2, u3, u4], hR ki_Entity 171 (.slice A0 l.length c0) l, hM ki_Entity e ce] W2.drew := H5.drew
    clear H5
    have hS8 : Blk W2.drew g 68 #[u0, .slice A0 l.length c0, u2, u3, u4] ∧ Blk W2.drew g_0_0 171 (List.toArray ce) := ⟨H7.blk 1 rfl, H7.blk 0 rfl⟩
    refine anyS_take (i := 0) rfl (by kernel_rfl) (by kernel_rfl) (by kernel_rfl) (by kernel_rfl) (by kernel_rfl) (fun _ _ _ h => h) rfl rfl hS8 (fun W' hs' => rn_move rfl) ?_
    refine anyS_take (i := 1) rfl (by kernel_rfl) (by kernel_rfl) (by kernel_rfl) (by kernel_rfl) (by kernel_rfl) (fun _ _ _ h => h) rfl rfl hS8 (fun W' hs' => rn_move rfl) ?_
    refine anyS_take (i := 2) rfl (by kernel_rfl) (by kernel_rfl) (by kernel_rfl) (by kernel_rfl) (by kernel_rfl) (fun _ _ _ h => h) rfl rfl hS8 (fun W' hs' => rn_nilCheck rfl) ?_
    refine anyS_take (i := 3) rfl (by kernel_rfl) (by kernel_rfl) (by kernel_rfl) (by kernel_rfl) (by kernel_rfl) (fun _ _ _ h => h) rfl rfl hS8 (fun W' hs' => rn_field fa_68_1 rfl) ?_
    refine anyS_take (i := 4) rfl (by kernel_rfl) (by kernel_rfl) (by kernel_rfl) (by kernel_rfl) (by kernel_rfl) (fun _ _ _ h => h) rfl rfl hS8 (fun W' hs' => rn_loadC (v := .slice A0 l.length c0) Tryz.isAgg63 rfl hs'.1 rfl) ?_
    refine anyS_take (i := 5) rfl (by kernel_rfl) (by kernel_rfl) (by kernel_rfl) (by kernel_rfl) (by kernel_rfl) (fun _ _ _ h => h) rfl rfl hS8 (fun W' hs' => rn_loadB Tryz.isAgg171 Tryz.sizeOf171 rfl hs'.2 (ki_Entity_len (H7.kn 3 rfl))) ?_
    refine anyS_one (i := 6) (by kernel_rfl) ?_
    refine op_slice1 rfl Tryz.runUnderlying63 Tryz.sizeOf171 (by decide) Tryz.zeroValue171 rfl (ki_Entity_len (H7.kn 3 rfl)) rfl rfl H7 ?_
    intro g_3_6 W9 hu10 Ha11
    clear H7
    have H12 : St w F0 [hB g_3_6 171 (List.toArray ce), hB g_0_0 171 (List.toArray ce), hB g 68 #[u0, .slice A0 l.length c0, u2, u3, u4], hR ki_Entity 171 (.slice A0 l.length c0) l, hM ki_Entity e ce] W9 := Ha11
    clear Ha11
    clear hu10
    have hS13 : Blk W9 g 68 #[u0, .slice A0 l.length c0, u2, u3, u4] ∧ Blk W9 g_0_0 171 (List.toArray ce) := ⟨H12.blk 2 rfl, H12.blk 1 rfl⟩
    refine ⟨fun _ => hS13, ?_⟩
    refine anyS_one (i := 7) (by kernel_rfl) ?_
    have H16 : St w F0 [hR ki_Entity 171 (.slice A0 l.length c0) l, hB g_3_6 171 (List.toArray ce), hM ki_Entity e ce, hB g_0_0 171 (List.toArray ce), hB g 68 #[u0, .slice A0 l.length c0, u2, u3, u4]] W9 := H12.pick [3, 0, 4, 1, 2] (by decide) rfl
    clear H12
    refine op_append1' (xs := l) (p := e) (n' := (l.length + 1)) (ys := (l ++ [e])) rfl Tryz.underlying63 ki_Entity_info rfl (by decide) (by decide) rfl rfl (by omega) rfl rfl rfl rfl H16 ?_
    intro B_3_7 c_3_7 W14 Ha15
    clear H16
    have H17 : St w F0 [hR ki_Entity 171 (.slice B_3_7 (l.length + 1) c_3_7) (l ++ [e]), hB g_0_0 171 (List.toArray ce), hB g 68 #[u0, .slice A0 l.length c0, u2, u3, u4]] W14 := Ha15
    clear Ha15
    have hS18 : Blk W14 g 68 #[u0, .slice A0 l.length c0, u2, u3, u4] ∧ Blk W14 g_0_0 171 (List.toArray ce) := ⟨H17.blk 2 rfl, H17.blk 1 rfl⟩
    refine ⟨fun _ => hS18, ?_⟩
    refine anyS_one (i := 8) (by kernel_rfl) ?_
    refine op_pure rfl (rn_nilCheck rfl) rfl rfl ?_
    have hS19 : Blk W14 g 68 #[u0, .slice A0 l.length c0, u2, u3, u4] ∧ Blk W14 g_0_0 171 (List.toArray ce) := ⟨H17.blk 2 rfl, H17.blk 1 rfl⟩
    refine ⟨fun _ => hS19, ?_⟩
    refine anyS_take (i := 9) rfl (by kernel_rfl) (by kernel_rfl) (by kernel_rfl) (by kernel_rfl) (by kernel_rfl) (fun _ _ _ h => h) rfl rfl hS19 (fun W' hs' => rn_field fa_68_1 rfl) ?_
    refine anyS_one (i := 10) (by kernel_rfl) ?_
    have H23 : St w F0 [hB g 68 #[u0, .slice A0 l.length c0, u2, u3, u4], hR ki_Entity 171 (.slice B_3_7 (l.length + 1) c_3_7) (l ++ [e]), hB g_0_0 171 (List.toArray ce)] W14 := H17.pick [2, 0, 1] (by decide) rfl
    clear H17
    refine op_store rfl Tryz.sizeOf63 rfl rfl rfl (Nat.le_of_ble_eq_true rfl) (by simp [Value.cells, Value.oneCell']) H23 ?_
    intro W20 hu21 Ha22
    clear H23
    have H24 : St w F0 [hB g 68 #[u0, .slice B_3_7 (l.length + 1) c_3_7, u2, u3, u4], hR ki_Entity 171 (.slice B_3_7 (l.length + 1) c_3_7) (l ++ [e]), hB g_0_0 171 (List.toArray ce)] W20 := Ha22
    clear Ha22
    clear hu21
    refine ⟨fun h => absS (by kernel_rfl) h, ?_⟩
    refine anyS_done (by kernel_rfl) ?_ _
    refine then_n ?_
    refine wp_seq ?_
    refine reg_seq [0, 1, 2, 3, 4, 5, 6] rfl ?_
    refine ops_cons ?_
    refine op_pure rfl (rn_move rfl) rfl rfl ?_
    refine ops_cons ?_
    refine op_pure rfl (rn_nilCheck rfl) rfl rfl ?_
    refine ops_cons ?_
    refine op_pure rfl (rn_field fa_68_1 rfl) rfl rfl ?_
    refine ops_cons ?_
    refine op_pure rfl (rn_loadC (v := .slice B_3_7 (l.length + 1) c_3_7) Tryz.isAgg63 rfl (H24.blk 0 rfl) rfl) rfl rfl ?_
    refine ops_cons ?_
    refine op_pure rfl (rn_len Tryz.runUnderlying63 rfl) rfl rfl ?_
    refine ops_cons ?_
    refine op_pure rfl (rn_sub rfl rfl (by omega)) rfl rfl ?_
    refine ops_cons ?_
    refine op_pure rfl (rn_assign rfl) rfl rfl ?_
    refine ops_nil ?_
    refine then_n ?_
    refine wp_ret ?_
    have hlt : l.length < 200 := by omega
    have e1 := addL_yes e l hlt
    have e2 := addN_yes l hlt
    refine post_tmp (.inl rfl) Tryz.results121 rfl ?_
    rw [e1, e2]
    rw [List.length_append]
    exact ⟨B_3_7, c_3_7, congrArg (fun z => Ending.returned (Value.int IntKind.i64 z)) (by omega), H24.pick [0, 1] (by decide) rfl⟩
end Go.Proofs.YtfnedoiplblldaaGreatFam
