/- MakeObject: what the reference and the program compute. No conditions. -/
import Derived.Test.YtfnedoiplblldaaGreatProg
import Derived.Test.YtfnedoiplblldaaGreatTy
import Derived.Test.YtfnedoiplblldaaGreatOpn
import Derived.Test.YtfnedoiplblldaaGreatSym3
import Derived.Test.YtfnedoiplblldaaGreatAddE
import Derived.Test.YtfnedoiplblldaaGreatVals
import Derived.Test.YtfnedoiplblldaaGreatClones
namespace Go.Proofs.YtfnedoiplblldaaGreatFam
open Go.ChangeShapes Go.WideShapes Go.RowKit Go.Proofs.YtfnedoiplblldaaGreatSep Go.Proofs.YtfnedoiplblldaaGreatT Go.Proofs.YtfnedoiplblldaaGreatK
set_option linter.unusedVariables false
set_option linter.unusedSimpArgs false
def objE (s : Int) (sl : List GValue) : GEntity := ⟨1, s, sl, 0, ⟨0, 0⟩, [], [], 0, 0, 0, 0⟩
def moOk (s : Int) (sl : List GValue) (x : GVat) : Bool := decide (0 ≤ s ∧ s ≤ 5) && (decide (sl.length ≤ 3) && sl.all (isV x.Entities.length))
def moE (s : Int) (sl : List GValue) (x : GVat) : GVat := if moOk s sl x then addE (objE s sl) x else x
def moN (s : Int) (sl : List GValue) (x : GVat) : Int := if moOk s sl x then addN x.Entities else -1
theorem objE_bd (s : Int) (sl : List GValue) (B : Nat) (h : sznS szn_Value sl ≤ B) : szn_Entity (objE s sl) ≤ B := by
  simpa [szn_Entity, objE, sznS, sumS, szn_Value] using h
theorem moE_bd (s : Int) (sl : List GValue) (x : GVat) (h : szn_Vat x ≤ 1048576) (h2 : sznS szn_Value sl ≤ 1048576) : szn_Vat (moE s sl x) ≤ 4194304 := by
  unfold moE
  split
  · exact addE_bd _ x h (objE_bd s sl _ h2)
  · omega
set_option maxHeartbeats 4000000 in
set_option maxRecDepth 100000 in
theorem newObject_s (s : Int) (sl : List GValue) (A : Option Addr) (c : Nat) (w : World) (hC : C ki_Value w A sl) (hsl : sl.length ≤ 4194304) : Calls Tryz.prog 118 #[.int .i64 s, .slice A sl.length c] w (RetAgg ki_Entity (objE s sl) w) := by
  refine enter 10 [(0, .int .i64 (s)), (1, .slice A sl.length c)] Tryz.func118 rfl (by kernel_rfl) ?_
  intro xj
  have H1 : St w No [] w := St.enter
  refine wp_seq ?_
  refine reg_seq [0] rfl ?_
  refine ops_cons ?_
  refine op_alloc rfl Tryz.zeroValue171 rfl rfl H1 ?_
  intro g_0_0 W2 hu3 Ha4
  clear H1
  have H5 : St w No [hB g_0_0 171 #[.int .i64 (0), .int .i64 (0), .slice none 0 0, .int .i64 (0), .int .i64 (0), .int .i64 (0), .slice none 0 0, .slice none 0 0, .int .i64 (0), .int .i64 (0), .int .i64 (0), .int .i64 (0)]] W2 := Ha4
  clear Ha4
  clear hu3
  refine ops_nil ?_
  refine then_n ?_
  refine wp_seq ?_
  refine reg_seq [0, 1, 2, 3, 4, 5] rfl ?_
  refine ops_cons ?_
  refine op_pure rfl (rn_move rfl) rfl rfl ?_
  refine ops_cons ?_
  refine op_slice0 (dk := ki_Value) rfl Tryz.runUnderlying85 Tryz.sizeOf95 rfl rfl H5 ?_
  intro A_1_1 W6 hu7 Ha8
  clear H5
  have H9 : St w No [hR ki_Value 95 (.slice A_1_1 0 0) ([]), hB g_0_0 171 #[.int .i64 (0), .int .i64 (0), .slice none 0 0, .int .i64 (0), .int .i64 (0), .int .i64 (0), .slice none 0 0, .slice none 0 0, .int .i64 (0), .int .i64 (0), .int .i64 (0), .int .i64 (0)]] W6 := Ha8
  clear Ha8
  clear hu7
  refine ops_cons ?_
  refine op_pure rfl (rn_move rfl) rfl rfl ?_
  refine ops_cons ?_
  refine op_appendN' (xs := []) (ys := sl) (n' := sl.length) (zs := sl) rfl Tryz.underlying85 ki_Value_info rfl (by decide) (by decide) flat_Value rfl rfl (C_upd H9.1 hC) (by simp; omega) (by simp) (List.nil_append _) rfl rfl H9 ?_
  intro B_1_3 c_1_3 W10 Ha11
  clear H9
  have H12 : St w No [hR ki_Value 95 (.slice B_1_3 sl.length c_1_3) sl, hB g_0_0 171 #[.int .i64 (0), .int .i64 (0), .slice none 0 0, .int .i64 (0), .int .i64 (0), .int .i64 (0), .slice none 0 0, .slice none 0 0, .int .i64 (0), .int .i64 (0), .int .i64 (0), .int .i64 (0)]] W10 := Ha11
  clear Ha11
  refine ops_cons ?_
  refine op_pure rfl (rn_build (vs := [(0, .int .i64 (1)), (1, .int .i64 (s)), (2, .slice B_1_3 sl.length c_1_3)]) (cells := #[.int .i64 (1), .int .i64 (s), .slice B_1_3 sl.length c_1_3, .int .i64 (0), .int .i64 (0), .int .i64 (0), .slice none 0 0, .slice none 0 0, .int .i64 (0), .int .i64 (0), .int .i64 (0), .int .i64 (0)]) rfl (by kernel_rfl)) rfl rfl ?_
  refine ops_cons ?_
  have H16 : St w No [hB g_0_0 171 #[.int .i64 (0), .int .i64 (0), .slice none 0 0, .int .i64 (0), .int .i64 (0), .int .i64 (0), .slice none 0 0, .slice none 0 0, .int .i64 (0), .int .i64 (0), .int .i64 (0), .int .i64 (0)], hR ki_Value 95 (.slice B_1_3 sl.length c_1_3) sl] W10 := H12.pick [1, 0] (by decide) rfl
  clear H12
  refine op_storeW rfl Tryz.sizeOf171 rfl rfl rfl rfl (by simp [Value.oneCell']) H16 ?_
  intro W13 hu14 Ha15
  clear H16
  have H17 : St w No [hB g_0_0 171 #[.int .i64 (1), .int .i64 (s), .slice B_1_3 sl.length c_1_3, .int .i64 (0), .int .i64 (0), .int .i64 (0), .slice none 0 0, .slice none 0 0, .int .i64 (0), .int .i64 (0), .int .i64 (0), .int .i64 (0)], hR ki_Value 95 (.slice B_1_3 sl.length c_1_3) sl] W13 := Ha15
  clear Ha15
  clear hu14
  refine ops_nil ?_
  refine then_n ?_
  refine wp_ret ?_
  refine post_cell (.inl rfl) Tryz.results118 Tryz.isAgg171 Tryz.sizeOf171 rfl (H17.blk 0 rfl) rfl ?_
  have H18 : St w No [hR ki_Sent 235 (.slice none 0 0) ([]), hB g_0_0 171 #[.int .i64 (1), .int .i64 (s), .slice B_1_3 sl.length c_1_3, .int .i64 (0), .int .i64 (0), .int .i64 (0), .slice none 0 0, .slice none 0 0, .int .i64 (0), .int .i64 (0), .int .i64 (0), .int .i64 (0)], hR ki_Value 95 (.slice B_1_3 sl.length c_1_3) sl] W13 := H17.add0 (q := hR ki_Sent 235 (.slice none 0 0) []) R_nil
  clear H17
  have H19 : St w No [hR ki_Asker 285 (.slice none 0 0) ([]), hR ki_Sent 235 (.slice none 0 0) ([]), hB g_0_0 171 #[.int .i64 (1), .int .i64 (s), .slice B_1_3 sl.length c_1_3, .int .i64 (0), .int .i64 (0), .int .i64 (0), .slice none 0 0, .slice none 0 0, .int .i64 (0), .int .i64 (0), .int .i64 (0), .int .i64 (0)], hR ki_Value 95 (.slice B_1_3 sl.length c_1_3) sl] W13 := H18.add0 (q := hR ki_Asker 285 (.slice none 0 0) []) R_nil
  clear H18
  have H20 : St w No [hR ki_Value 95 (.slice B_1_3 sl.length c_1_3) sl, hR ki_Sent 235 (.slice none 0 0) ([]), hR ki_Asker 285 (.slice none 0 0) ([]), hB g_0_0 171 #[.int .i64 (1), .int .i64 (s), .slice B_1_3 sl.length c_1_3, .int .i64 (0), .int .i64 (0), .int .i64 (0), .slice none 0 0, .slice none 0 0, .int .i64 (0), .int .i64 (0), .int .i64 (0), .int .i64 (0)]] W13 := H19.pick [3, 1, 0, 2] (by decide) rfl
  clear H19
  have H21 : St w No [hM ki_Entity (objE s sl) [.int .i64 (1), .int .i64 (s), .slice B_1_3 sl.length c_1_3, .int .i64 (0), .int .i64 (0), .int .i64 (0), .slice none 0 0, .slice none 0 0, .int .i64 (0), .int .i64 (0), .int .i64 (0), .int .i64 (0)], hB g_0_0 171 #[.int .i64 (1), .int .i64 (s), .slice B_1_3 sl.length c_1_3, .int .i64 (0), .int .i64 (0), .int .i64 (0), .slice none 0 0, .slice none 0 0, .int .i64 (0), .int .i64 (0), .int .i64 (0), .int .i64 (0)]] W13 := H20.swap (l0 := [hR ki_Value 95 (.slice B_1_3 sl.length c_1_3) sl, hR ki_Sent 235 (.slice none 0 0) ([]), hR ki_Asker 285 (.slice none 0 0) ([])]) (l' := [hM ki_Entity (objE s sl) [.int .i64 (1), .int .i64 (s), .slice B_1_3 sl.length c_1_3, .int .i64 (0), .int .i64 (0), .int .i64 (0), .slice none 0 0, .slice none 0 0, .int .i64 (0), .int .i64 (0), .int .i64 (0), .int .i64 (0)]]) (fun _ h => Star.one (ki_Entity_close (x := (objE s sl)) h))
  clear H20
  have hq := (H21.pick [0] (by decide) rfl : St w No [hM ki_Entity (objE s sl) [.int .i64 (1), .int .i64 (s), .slice B_1_3 sl.length c_1_3, .int .i64 (0), .int .i64 (0), .int .i64 (0), .slice none 0 0, .slice none 0 0, .int .i64 (0), .int .i64 (0), .int .i64 (0), .int .i64 (0)]] W13).fin1
  exact ⟨_, rfl, hq.1, hq.2⟩
set_option maxHeartbeats 4000000 in
set_option maxRecDepth 100000 in
theorem newObject_i (s : Int) (sl : List GValue) (A : Option Addr) (c : Nat) (w : World) (hC : C ki_Value w A sl) (hsl : sl.length ≤ 4194304) : Calls Tryz.prog 122 #[.int .i64 s, .slice A sl.length c] w (RetAgg ki_Entity (objE s sl) w) := by
  refine enter 9 [(0, .int .i64 (s)), (1, .slice A sl.length c)] Tryz.func122 rfl (by kernel_rfl) ?_
  intro xj
  have H1 : St w No [] w := St.enter
  refine wp_seq ?_
  refine reg_seq [0] rfl ?_
  refine ops_cons ?_
  refine op_alloc rfl Tryz.zeroValue171 rfl rfl H1 ?_
  intro g_0_0 W2 hu3 Ha4
  clear H1
  have H5 : St w No [hB g_0_0 171 #[.int .i64 (0), .int .i64 (0), .slice none 0 0, .int .i64 (0), .int .i64 (0), .int .i64 (0), .slice none 0 0, .slice none 0 0, .int .i64 (0), .int .i64 (0), .int .i64 (0), .int .i64 (0)]] W2 := Ha4
  clear Ha4
  clear hu3
  refine ops_nil ?_
  refine then_n ?_
  refine wp_seq ?_
  refine reg_seq [0, 1, 2, 3, 4] rfl ?_
  refine ops_cons ?_
  refine op_pure rfl (rn_move rfl) rfl rfl ?_
  refine ops_cons ?_
  refine op_pure rfl (rn_move rfl) rfl rfl ?_
  refine ops_cons ?_
  refine op_call rfl Tryz.call184 (vs := #[.slice A sl.length c]) rfl rfl rfl (clone_Value sl _ _ _ (C_upd H5.1 hC) hsl) ?_
  rintro e10 W9 ⟨v6, rfl, hR7, hu8⟩
  refine ⟨_, rfl, ?_⟩
  obtain ⟨B_1_2, c_1_2, rfl⟩ := R_slice hR7
  have H11 : St w No [hR ki_Value 95 (.slice B_1_2 sl.length c_1_2) sl, hB g_0_0 171 #[.int .i64 (0), .int .i64 (0), .slice none 0 0, .int .i64 (0), .int .i64 (0), .int .i64 (0), .slice none 0 0, .slice none 0 0, .int .i64 (0), .int .i64 (0), .int .i64 (0), .int .i64 (0)]] W9 := H5.new hu8 hR7
  clear H5
  refine ops_cons ?_
  refine op_pure rfl (rn_build (vs := [(0, .int .i64 (1)), (1, .int .i64 (s)), (2, .slice B_1_2 sl.length c_1_2)]) (cells := #[.int .i64 (1), .int .i64 (s), .slice B_1_2 sl.length c_1_2, .int .i64 (0), .int .i64 (0), .int .i64 (0), .slice none 0 0, .slice none 0 0, .int .i64 (0), .int .i64 (0), .int .i64 (0), .int .i64 (0)]) rfl (by kernel_rfl)) rfl rfl ?_
  refine ops_cons ?_
  have H15 : St w No [hB g_0_0 171 #[.int .i64 (0), .int .i64 (0), .slice none 0 0, .int .i64 (0), .int .i64 (0), .int .i64 (0), .slice none 0 0, .slice none 0 0, .int .i64 (0), .int .i64 (0), .int .i64 (0), .int .i64 (0)], hR ki_Value 95 (.slice B_1_2 sl.length c_1_2) sl] W9 := H11.pick [1, 0] (by decide) rfl
  clear H11
  refine op_storeW rfl Tryz.sizeOf171 rfl rfl rfl rfl (by simp [Value.oneCell']) H15 ?_
  intro W12 hu13 Ha14
  clear H15
  have H16 : St w No [hB g_0_0 171 #[.int .i64 (1), .int .i64 (s), .slice B_1_2 sl.length c_1_2, .int .i64 (0), .int .i64 (0), .int .i64 (0), .slice none 0 0, .slice none 0 0, .int .i64 (0), .int .i64 (0), .int .i64 (0), .int .i64 (0)], hR ki_Value 95 (.slice B_1_2 sl.length c_1_2) sl] W12 := Ha14
  clear Ha14
  clear hu13
  refine ops_nil ?_
  refine then_n ?_
  refine wp_ret ?_
  refine post_cell (.inl rfl) Tryz.results122 Tryz.isAgg171 Tryz.sizeOf171 rfl (H16.blk 0 rfl) rfl ?_
  have H17 : St w No [hR ki_Sent 235 (.slice none 0 0) ([]), hB g_0_0 171 #[.int .i64 (1), .int .i64 (s), .slice B_1_2 sl.length c_1_2, .int .i64 (0), .int .i64 (0), .int .i64 (0), .slice none 0 0, .slice none 0 0, .int .i64 (0), .int .i64 (0), .int .i64 (0), .int .i64 (0)], hR ki_Value 95 (.slice B_1_2 sl.length c_1_2) sl] W12 := H16.add0 (q := hR ki_Sent 235 (.slice none 0 0) []) R_nil
  clear H16
  have H18 : St w No [hR ki_Asker 285 (.slice none 0 0) ([]), hR ki_Sent 235 (.slice none 0 0) ([]), hB g_0_0 171 #[.int .i64 (1), .int .i64 (s), .slice B_1_2 sl.length c_1_2, .int .i64 (0), .int .i64 (0), .int .i64 (0), .slice none 0 0, .slice none 0 0, .int .i64 (0), .int .i64 (0), .int .i64 (0), .int .i64 (0)], hR ki_Value 95 (.slice B_1_2 sl.length c_1_2) sl] W12 := H17.add0 (q := hR ki_Asker 285 (.slice none 0 0) []) R_nil
  clear H17
  have H19 : St w No [hR ki_Value 95 (.slice B_1_2 sl.length c_1_2) sl, hR ki_Sent 235 (.slice none 0 0) ([]), hR ki_Asker 285 (.slice none 0 0) ([]), hB g_0_0 171 #[.int .i64 (1), .int .i64 (s), .slice B_1_2 sl.length c_1_2, .int .i64 (0), .int .i64 (0), .int .i64 (0), .slice none 0 0, .slice none 0 0, .int .i64 (0), .int .i64 (0), .int .i64 (0), .int .i64 (0)]] W12 := H18.pick [3, 1, 0, 2] (by decide) rfl
  clear H18
  have H20 : St w No [hM ki_Entity (objE s sl) [.int .i64 (1), .int .i64 (s), .slice B_1_2 sl.length c_1_2, .int .i64 (0), .int .i64 (0), .int .i64 (0), .slice none 0 0, .slice none 0 0, .int .i64 (0), .int .i64 (0), .int .i64 (0), .int .i64 (0)], hB g_0_0 171 #[.int .i64 (1), .int .i64 (s), .slice B_1_2 sl.length c_1_2, .int .i64 (0), .int .i64 (0), .int .i64 (0), .slice none 0 0, .slice none 0 0, .int .i64 (0), .int .i64 (0), .int .i64 (0), .int .i64 (0)]] W12 := H19.swap (l0 := [hR ki_Value 95 (.slice B_1_2 sl.length c_1_2) sl, hR ki_Sent 235 (.slice none 0 0) ([]), hR ki_Asker 285 (.slice none 0 0) ([])]) (l' := [hM ki_Entity (objE s sl) [.int .i64 (1), .int .i64 (s), .slice B_1_2 sl.length c_1_2, .int .i64 (0), .int .i64 (0), .int .i64 (0), .slice none 0 0, .slice none 0 0, .int .i64 (0), .int .i64 (0), .int .i64 (0), .int .i64 (0)]]) (fun _ h => Star.one (ki_Entity_close (x := (objE s sl)) h))
  clear H19
  have hq := (H20.pick [0] (by decide) rfl : St w No [hM ki_Entity (objE s sl) [.int .i64 (1), .int .i64 (s), .slice B_1_2 sl.length c_1_2, .int .i64 (0), .int .i64 (0), .int .i64 (0), .slice none 0 0, .slice none 0 0, .int .i64 (0), .int .i64 (0), .int .i64 (0), .int .i64 (0)]] W12).fin1
  exact ⟨_, rfl, hq.1, hq.2⟩
set_option maxHeartbeats 4000000 in
set_option maxRecDepth 100000 in
theorem makeObject_s (x : GVat) (s : Int) (sl : List GValue) (cs : List Value) (A : Option Addr) (c : Nat) (w : World) (h : ki_Vat.K w x cs) (hs : szn_Vat x ≤ 4194304) (hC : C ki_Value w A sl) (hsl : sznS szn_Value sl ≤ 4194304) : Calls Tryz.prog 36 #[.agg cs.toArray, .int .i64 s, .slice A sl.length c] w (RetAI ki_Vat (moE s sl x) (moN s sl x) w) := by
  obtain ⟨Ax1, cx1, Ax2, cx2, Ax3, cx3, Ax4, cx4, rfl, hlx1, hCx1, hlx2, hCx2, hlx3, hCx3, hlx4, hCx4⟩ := ki_Vat_K h
  have s_Entities : sznS szn_Entity x.Entities ≤ 4194304 := by unfold szn_Vat at hs; omega
  have n_Entities : x.Entities.length ≤ 4194304 := by unfold sznS at s_Entities; omega
  have s_Loop : sznS szn_Sent x.Loop ≤ 4194304 := by unfold szn_Vat at hs; omega
  have n_Loop : x.Loop.length ≤ 4194304 := by unfold sznS at s_Loop; omega
  have s_Links : sznS szn_Link x.Links ≤ 4194304 := by unfold szn_Vat at hs; omega
  have n_Links : x.Links.length ≤ 4194304 := by unfold sznS at s_Links; omega
  have s_Out : sznS szn_Outgoing x.Out ≤ 4194304 := by unfold szn_Vat at hs; omega
  have n_Out : x.Out.length ≤ 4194304 := by unfold sznS at s_Out; omega
  have hnl : sl.length ≤ 4194304 := by unfold sznS at hsl; omega
  refine enter 33 [(0, .agg #[.int .i64 (x.Id), .slice Ax1 x.Entities.length cx1, .slice Ax2 x.Loop.length cx2, .slice Ax3 x.Links.length cx3, .slice Ax4 x.Out.length cx4]), (1, .int .i64 (s)), (2, .slice A sl.length c)] Tryz.func36 rfl (by kernel_rfl) ?_
  intro xj
  have H1 : St w No [] w := St.enter
  refine wp_seq ?_
  refine reg_seq [0, 1, 2] rfl ?_
  refine ops_cons ?_
  refine op_box rfl rfl rfl rfl H1 ?_
  intro g_0_0 W2 hu3 Ha4
  clear H1
  have H5 : St w No [hB g_0_0 68 #[.int .i64 (x.Id), .slice Ax1 x.Entities.length cx1, .slice Ax2 x.Loop.length cx2, .slice Ax3 x.Links.length cx3, .slice Ax4 x.Out.length cx4]] W2 := Ha4
  clear Ha4
  clear hu3
  refine ops_cons ?_
  refine op_alloc rfl Tryz.zeroValue68 rfl rfl H5 ?_
  intro g_0_1 W6 hu7 Ha8
  clear H5
  have H9 : St w No [hB g_0_1 68 #[.int .i64 (0), .slice none 0 0, .slice none 0 0, .slice none 0 0, .slice none 0 0], hB g_0_0 68 #[.int .i64 (x.Id), .slice Ax1 x.Entities.length cx1, .slice Ax2 x.Loop.length cx2, .slice Ax3 x.Links.length cx3, .slice Ax4 x.Out.length cx4]] W6 := Ha8
  clear Ha8
  clear hu7
  refine ops_cons ?_
  refine op_pure rfl (rn_assign rfl) rfl rfl ?_
  refine ops_nil ?_
  refine then_n ?_
  refine wp_seq ?_
  refine wp_seq ?_
  refine reg_seq [0, 1, 2, 3, 4, 5, 6, 7, 8, 9, 10, 11, 12, 13, 14, 15] rfl ?_
  refine ops_cons ?_
  refine op_pure rfl (rn_move rfl) rfl rfl ?_
  by_cases hg10 : (decide (0 ≤ s ∧ s ≤ 5)) = true
  · refine ops_cons ?_
    refine op_call rfl Tryz.call115 (vs := #[.int .i64 (s), .int .i64 (0), .int .i64 (5)]) rfl rfl rfl (retb (l1In_s s 0 5 _) hg10) ?_
    rintro e13 W12 ⟨rfl, hu11⟩
    refine ⟨_, rfl, ?_⟩
    have H14 : St w No [hB g_0_1 68 #[.int .i64 (0), .slice none 0 0, .slice none 0 0, .slice none 0 0, .slice none 0 0], hB g_0_0 68 #[.int .i64 (x.Id), .slice Ax1 x.Entities.length cx1, .slice Ax2 x.Loop.length cx2, .slice Ax3 x.Links.length cx3, .slice Ax4 x.Out.length cx4]] W12 := H9.no hu11
    clear H9
    refine ops_cons ?_
    refine op_pure rfl (rn_not rfl) rfl rfl ?_
    refine ops_cons ?_
    refine op_pure rfl (rn_move rfl) rfl rfl ?_
    refine ops_cons ?_
    refine op_G rfl rfl rfl rfl (fun _ ho15 => ?_)
    refine op_pure ho15 (rn_move rfl) rfl rfl ?_
    refine ops_cons ?_
    refine op_G rfl rfl rfl rfl (fun _ ho16 => ?_)
    refine op_pure ho16 (rn_len Tryz.runUnderlying85 rfl) rfl rfl ?_
    by_cases hg17 : (3 : Int) < (sl.length : Nat)
    · refine ops_cons ?_
      refine op_G rfl rfl rfl rfl (fun _ ho18 => ?_)
      refine op_pure ho18 (rn_decT hg17 (rn_gtr rfl rfl)) rfl rfl ?_
      refine ops_cons ?_
      refine op_pure rfl (rn_pick (v := .bool (true)) (b := false) rfl rfl rfl rfl) rfl rfl ?_
      refine ops_cons ?_
      refine op_pure rfl (rn_move rfl) rfl rfl ?_
      refine ops_cons ?_
      refine op_skipG rfl rfl rfl rfl rfl rfl rfl ?_
      refine ops_cons ?_
      refine op_skipG rfl rfl rfl rfl rfl rfl rfl ?_
      refine ops_cons ?_
      refine op_skipG rfl rfl rfl rfl rfl rfl rfl ?_
      refine ops_cons ?_
      refine op_skipG rfl rfl rfl rfl rfl rfl rfl ?_
      refine ops_cons ?_
      refine op_skipG rfl rfl rfl rfl rfl rfl rfl ?_
      refine ops_cons ?_
      refine op_skipG rfl rfl rfl rfl rfl rfl rfl ?_
      refine ops_cons ?_
      refine op_pure rfl (rn_pick (v := .bool (true)) (b := true) rfl rfl rfl rfl) rfl rfl ?_
      refine ops_nil ?_
      refine then_n ?_
      refine cond_t rfl ?_
      refine wp_seq ?_
      refine reg_seq [0, 1, 2, 3] rfl ?_
      refine ops_cons ?_
      refine op_pure rfl (rn_loadB Tryz.isAgg68 Tryz.sizeOf68 rfl (H14.blk 1 rfl) rfl) rfl rfl ?_
      refine ops_cons ?_
      refine op_call rfl Tryz.call90 (vs := #[.agg #[.int .i64 (x.Id), .slice Ax1 x.Entities.length cx1, .slice Ax2 x.Loop.length cx2, .slice Ax3 x.Links.length cx3, .slice Ax4 x.Out.length cx4]]) rfl rfl rfl (l12Copy_s x _ _ (ki_Vat_Kmk _ x hlx1 (C_upd H14.1 hCx1) hlx2 (C_upd H14.1 hCx2) hlx3 (C_upd H14.1 hCx3) hlx4 (C_upd H14.1 hCx4)) hs) ?_
      rintro e22 W21 ⟨cs_2_1, rfl, hM19, hu20⟩
      refine ⟨_, rfl, ?_⟩
      have hl23 := ki_Vat_len (ki_Vat.K_of_M hM19)
      have ho24 := ki_Vat_one (ki_Vat.K_of_M hM19)
      have H25 : St w No [hM ki_Vat x cs_2_1, hB g_0_1 68 #[.int .i64 (0), .slice none 0 0, .slice none 0 0, .slice none 0 0, .slice none 0 0], hB g_0_0 68 #[.int .i64 (x.Id), .slice Ax1 x.Entities.length cx1, .slice Ax2 x.Loop.length cx2, .slice Ax3 x.Links.length cx3, .slice Ax4 x.Out.length cx4]] W21 := H14.new hu20 hM19
      clear H14
      refine ops_cons ?_
      have H29 : St w No [hB g_0_1 68 #[.int .i64 (0), .slice none 0 0, .slice none 0 0, .slice none 0 0, .slice none 0 0], hM ki_Vat x cs_2_1, hB g_0_0 68 #[.int .i64 (x.Id), .slice Ax1 x.Entities.length cx1, .slice Ax2 x.Loop.length cx2, .slice Ax3 x.Links.length cx3, .slice Ax4 x.Out.length cx4]] W21 := H25.pick [1, 0, 2] (by decide) rfl
      clear H25
      refine op_storeW rfl Tryz.sizeOf68 rfl rfl (ki_Vat_len (H29.kn 1 rfl)) rfl (ki_Vat_one (H29.kn 1 rfl)) H29 ?_
      intro W26 hu27 Ha28
      clear H29
      have H30 : St w No [hB g_0_1 68 (List.toArray cs_2_1), hM ki_Vat x cs_2_1, hB g_0_0 68 #[.int .i64 (x.Id), .slice Ax1 x.Entities.length cx1, .slice Ax2 x.Loop.length cx2, .slice Ax3 x.Links.length cx3, .slice Ax4 x.Out.length cx4]] W26 := Ha28
      clear Ha28
      clear hu27
      refine ops_cons ?_
      refine op_pure rfl (rn_assign rfl) rfl rfl ?_
      refine ops_nil ?_
      refine then_n ?_
      refine wp_ret ?_
      refine then_r ?_
      have hok : ¬ moOk s sl x = true := by intro hq; simp only [moOk, Bool.and_eq_true, decide_eq_true_eq] at hq; have := hq.2.1; omega
      have e1 : moE s sl x = x := if_neg hok
      have e2 : moN s sl x = -1 := if_neg hok
      refine post_cell_tmp (.inl rfl) Tryz.results36 Tryz.isAgg68 Tryz.sizeOf68 rfl rfl (H30.blk 0 rfl) (ki_Vat_len (H30.kn 1 rfl)) ?_
      rw [e1, e2]
      have hq := (H30.pick [1] (by decide) rfl : St w No [hM ki_Vat x cs_2_1] W26).fin1
      exact ⟨_, rfl, hq.1, hq.2⟩
    · refine ops_cons ?_
      refine op_G rfl rfl rfl rfl (fun _ ho31 => ?_)
      refine op_pure ho31 (rn_decF hg17 (rn_gtr rfl rfl)) rfl rfl ?_
      refine ops_cons ?_
      refine op_pure rfl (rn_pick (v := .bool (false)) (b := false) rfl rfl rfl rfl) rfl rfl ?_
      refine ops_cons ?_
      refine op_pure rfl (rn_move rfl) rfl rfl ?_
      refine ops_cons ?_
      refine op_G rfl rfl rfl rfl (fun _ ho32 => ?_)
      refine op_pure ho32 (rn_move rfl) rfl rfl ?_
      refine ops_cons ?_
      refine op_G rfl rfl rfl rfl (fun _ ho33 => ?_)
      refine op_pure ho33 (rn_field fa_68_1 rfl) rfl rfl ?_
      refine ops_cons ?_
      refine op_G rfl rfl rfl rfl (fun _ ho34 => ?_)
      refine op_pure ho34 (rn_loadC (v := .slice Ax1 x.Entities.length cx1) Tryz.isAgg63 rfl (H14.blk 1 rfl) rfl) rfl rfl ?_
      refine ops_cons ?_
      refine op_G rfl rfl rfl rfl (fun _ ho35 => ?_)
      refine op_pure ho35 (rn_len Tryz.runUnderlying63 rfl) rfl rfl ?_
      by_cases hg36 : (sl.all (isV x.Entities.length)) = true
      · refine ops_cons ?_
        refine op_G rfl rfl rfl rfl (fun _ ho37 => ?_)
        refine op_call ho37 Tryz.call116 (vs := #[.slice A sl.length c, .int .i64 ((x.Entities.length : Nat))]) rfl rfl rfl (retb (areValues_s sl _ _ x.Entities.length n_Entities hnl _ (C_upd H14.1 hC)) hg36) ?_
        rintro e40 W39 ⟨rfl, hu38⟩
        refine ⟨_, rfl, ?_⟩
        have H41 : St w No [hB g_0_1 68 #[.int .i64 (0), .slice none 0 0, .slice none 0 0, .slice none 0 0, .slice none 0 0], hB g_0_0 68 #[.int .i64 (x.Id), .slice Ax1 x.Entities.length cx1, .slice Ax2 x.Loop.length cx2, .slice Ax3 x.Links.length cx3, .slice Ax4 x.Out.length cx4]] W39 := H14.no hu38
        clear H14
        refine ops_cons ?_
        refine op_G rfl rfl rfl rfl (fun _ ho42 => ?_)
        refine op_pure ho42 (rn_not rfl) rfl rfl ?_
        refine ops_cons ?_
        refine op_pure rfl (rn_pick (v := .bool (false)) (b := false) rfl rfl rfl rfl) rfl rfl ?_
        refine ops_nil ?_
        refine then_n ?_
        refine cond_f rfl ?_
        refine wp_skip ?_
        refine then_n ?_
        refine wp_seq ?_
        refine reg_draw (fun W' => Blk W' g_0_0 68 #[.int .i64 (x.Id), .slice Ax1 x.Entities.length cx1, .slice Ax2 x.Loop.length cx2, .slice Ax3 x.Links.length cx3, .slice Ax4 x.Out.length cx4]) 9 (by kernel_rfl) ?_
        have H43 : St w No [hB g_0_1 68 #[.int .i64 (0), .slice none 0 0, .slice none 0 0, .slice none 0 0, .slice none 0 0], hB g_0_0 68 #[.int .i64 (x.Id), .slice Ax1 x.Entities.length cx1, .slice Ax2 x.Loop.length cx2, .slice Ax3 x.Links.length cx3, .slice Ax4 x.Out.length cx4]] W39.drew := H41.drew
        clear H41
        have hS44 : Blk W39.drew g_0_0 68 #[.int .i64 (x.Id), .slice Ax1 x.Entities.length cx1, .slice Ax2 x.Loop.length cx2, .slice Ax3 x.Links.length cx3, .slice Ax4 x.Out.length cx4] := H43.blk 1 rfl
        refine anyS_take (i := 0) rfl (by kernel_rfl) (by kernel_rfl) (by kernel_rfl) (by kernel_rfl) (by kernel_rfl) (fun _ _ _ h => h) rfl rfl hS44 (fun W' hs' => rn_loadB Tryz.isAgg68 Tryz.sizeOf68 rfl hs' rfl) ?_
        refine anyS_take (i := 1) rfl (by kernel_rfl) (by kernel_rfl) (by kernel_rfl) (by kernel_rfl) (by kernel_rfl) (fun _ _ _ h => h) rfl rfl hS44 (fun W' hs' => rn_move rfl) ?_
        refine anyS_take (i := 2) rfl (by kernel_rfl) (by kernel_rfl) (by kernel_rfl) (by kernel_rfl) (by kernel_rfl) (fun _ _ _ h => h) rfl rfl hS44 (fun W' hs' => rn_move rfl) ?_
        refine anyS_one (i := 3) (by kernel_rfl) ?_
        refine op_call rfl Tryz.call118 (vs := #[.int .i64 (s), .slice A sl.length c]) rfl rfl rfl (newObject_s s sl _ _ _ (C_upd H43.1 hC) hnl) ?_
        rintro e48 W47 ⟨cs_3_3, rfl, hM45, hu46⟩
        refine ⟨_, rfl, ?_⟩
        have H49 : St w No [hM ki_Entity (objE s sl) cs_3_3, hB g_0_1 68 #[.int .i64 (0), .slice none 0 0, .slice none 0 0, .slice none 0 0, .slice none 0 0], hB g_0_0 68 #[.int .i64 (x.Id), .slice Ax1 x.Entities.length cx1, .slice Ax2 x.Loop.length cx2, .slice Ax3 x.Links.length cx3, .slice Ax4 x.Out.length cx4]] W47 := H43.new hu46 hM45
        clear H43
        have hS50 : Blk W47 g_0_0 68 #[.int .i64 (x.Id), .slice Ax1 x.Entities.length cx1, .slice Ax2 x.Loop.length cx2, .slice Ax3 x.Links.length cx3, .slice Ax4 x.Out.length cx4] := H49.blk 2 rfl
        refine ⟨fun _ => hS50, ?_⟩
        refine anyS_one (i := 4) (by kernel_rfl) ?_
        refine op_call rfl Tryz.call117 (vs := #[.agg #[.int .i64 (x.Id), .slice Ax1 x.Entities.length cx1, .slice Ax2 x.Loop.length cx2, .slice Ax3 x.Links.length cx3, .slice Ax4 x.Out.length cx4], .agg (List.toArray cs_3_3)]) rfl rfl rfl (addEntity_s x (objE s sl) _ _ _ (ki_Vat_Kmk _ x hlx1 (C_upd H49.1 hCx1) hlx2 (C_upd H49.1 hCx2) hlx3 (C_upd H49.1 hCx3) hlx4 (C_upd H49.1 hCx4)) hs (H49.kn 0 rfl) (objE_bd s sl _ hsl)) ?_
        rintro e54 W53 ⟨cs_3_4, rfl, hM51, hu52⟩
        refine ⟨_, rfl, ?_⟩
        have hl55 := ki_Vat_len (ki_Vat.K_of_M hM51)
        have ho56 := ki_Vat_one (ki_Vat.K_of_M hM51)
        have H57 : St w No [hM ki_Vat (addE (objE s sl) x) cs_3_4, hM ki_Entity (objE s sl) cs_3_3, hB g_0_1 68 #[.int .i64 (0), .slice none 0 0, .slice none 0 0, .slice none 0 0, .slice none 0 0], hB g_0_0 68 #[.int .i64 (x.Id), .slice Ax1 x.Entities.length cx1, .slice Ax2 x.Loop.length cx2, .slice Ax3 x.Links.length cx3, .slice Ax4 x.Out.length cx4]] W53 := H49.new hu52 hM51
        clear H49
        have hS58 : Blk W53 g_0_0 68 #[.int .i64 (x.Id), .slice Ax1 x.Entities.length cx1, .slice Ax2 x.Loop.length cx2, .slice Ax3 x.Links.length cx3, .slice Ax4 x.Out.length cx4] := H57.blk 3 rfl
        refine ⟨fun _ => hS58, ?_⟩
        refine anyS_take (i := 5) rfl (by kernel_rfl) (by kernel_rfl) (by kernel_rfl) (by kernel_rfl) (by kernel_rfl) (fun _ _ _ h => h) rfl rfl hS58 (fun W' hs' => rn_extract (v := .agg (List.toArray cs_3_4)) rfl rfl) ?_
        refine anyS_take (i := 6) rfl (by kernel_rfl) (by kernel_rfl) (by kernel_rfl) (by kernel_rfl) (by kernel_rfl) (fun _ _ _ h => h) rfl rfl hS58 (fun W' hs' => rn_extract (v := .int .i64 ((addN x.Entities))) rfl rfl) ?_
        refine anyS_one (i := 7) (by kernel_rfl) ?_
        have H62 : St w No [hB g_0_1 68 #[.int .i64 (0), .slice none 0 0, .slice none 0 0, .slice none 0 0, .slice none 0 0], hM ki_Vat (addE (objE s sl) x) cs_3_4, hM ki_Entity (objE s sl) cs_3_3, hB g_0_0 68 #[.int .i64 (x.Id), .slice Ax1 x.Entities.length cx1, .slice Ax2 x.Loop.length cx2, .slice Ax3 x.Links.length cx3, .slice Ax4 x.Out.length cx4]] W53 := H57.pick [2, 0, 1, 3] (by decide) rfl
        clear H57
        refine op_storeW rfl Tryz.sizeOf68 rfl rfl (ki_Vat_len (H62.kn 1 rfl)) rfl (ki_Vat_one (H62.kn 1 rfl)) H62 ?_
        intro W59 hu60 Ha61
        clear H62
        have H63 : St w No [hB g_0_1 68 (List.toArray cs_3_4), hM ki_Vat (addE (objE s sl) x) cs_3_4, hM ki_Entity (objE s sl) cs_3_3, hB g_0_0 68 #[.int .i64 (x.Id), .slice Ax1 x.Entities.length cx1, .slice Ax2 x.Loop.length cx2, .slice Ax3 x.Links.length cx3, .slice Ax4 x.Out.length cx4]] W59 := Ha61
        clear Ha61
        clear hu60
        have hS64 : Blk W59 g_0_0 68 #[.int .i64 (x.Id), .slice Ax1 x.Entities.length cx1, .slice Ax2 x.Loop.length cx2, .slice Ax3 x.Links.length cx3, .slice Ax4 x.Out.length cx4] := H63.blk 3 rfl
        refine ⟨fun _ => hS64, ?_⟩
        refine anyS_take (i := 8) rfl (by kernel_rfl) (by kernel_rfl) (by kernel_rfl) (by kernel_rfl) (by kernel_rfl) (fun _ _ _ h => h) rfl rfl hS64 (fun W' hs' => rn_assign rfl) ?_
        refine anyS_done (by kernel_rfl) ?_ _
        refine then_n ?_
        refine wp_ret ?_
        have hok : moOk s sl x = true := by simp only [moOk, Bool.and_eq_true]; exact ⟨hg10, decide_eq_true (by omega), hg36⟩
        have e1 : moE s sl x = addE (objE s sl) x := if_pos hok
        have e2 : moN s sl x = addN x.Entities := if_pos hok
        refine post_cell_tmp (.inl rfl) Tryz.results36 Tryz.isAgg68 Tryz.sizeOf68 rfl rfl (H63.blk 0 rfl) (ki_Vat_len (H63.kn 1 rfl)) ?_
        rw [e1, e2]
        have hq := (H63.pick [1] (by decide) rfl : St w No [hM ki_Vat (addE (objE s sl) x) cs_3_4] W59).fin1
        exact ⟨_, rfl, hq.1, hq.2⟩
      · refine ops_cons ?_
        refine op_G rfl rfl rfl rfl (fun _ ho65 => ?_)
        refine op_call ho65 Tryz.call116 (vs := #[.slice A sl.length c, .int .i64 ((x.Entities.length : Nat))]) rfl rfl rfl (retb (areValues_s sl _ _ x.Entities.length n_Entities hnl _ (C_upd H14.1 hC)) (eq_false_of_ne_true hg36)) ?_
        rintro e68 W67 ⟨rfl, hu66⟩
        refine ⟨_, rfl, ?_⟩
        have H69 : St w No [hB g_0_1 68 #[.int .i64 (0), .slice none 0 0, .slice none 0 0, .slice none 0 0, .slice none 0 0], hB g_0_0 68 #[.int .i64 (x.Id), .slice Ax1 x.Entities.length cx1, .slice Ax2 x.Loop.length cx2, .slice Ax3 x.Links.length cx3, .slice Ax4 x.Out.length cx4]] W67 := H14.no hu66
        clear H14
        refine ops_cons ?_
        refine op_G rfl rfl rfl rfl (fun _ ho70 => ?_)
        refine op_pure ho70 (rn_not rfl) rfl rfl ?_
        refine ops_cons ?_
        refine op_pure rfl (rn_pick (v := .bool (true)) (b := false) rfl rfl rfl rfl) rfl rfl ?_
        refine ops_nil ?_
        refine then_n ?_
        refine cond_t rfl ?_
        refine wp_seq ?_
        refine reg_seq [0, 1, 2, 3] rfl ?_
        refine ops_cons ?_
        refine op_pure rfl (rn_loadB Tryz.isAgg68 Tryz.sizeOf68 rfl (H69.blk 1 rfl) rfl) rfl rfl ?_
        refine ops_cons ?_
        refine op_call rfl Tryz.call90 (vs := #[.agg #[.int .i64 (x.Id), .slice Ax1 x.Entities.length cx1, .slice Ax2 x.Loop.length cx2, .slice Ax3 x.Links.length cx3, .slice Ax4 x.Out.length cx4]]) rfl rfl rfl (l12Copy_s x _ _ (ki_Vat_Kmk _ x hlx1 (C_upd H69.1 hCx1) hlx2 (C_upd H69.1 hCx2) hlx3 (C_upd H69.1 hCx3) hlx4 (C_upd H69.1 hCx4)) hs) ?_
        rintro e74 W73 ⟨cs_2_1, rfl, hM71, hu72⟩
        refine ⟨_, rfl, ?_⟩
        have hl75 := ki_Vat_len (ki_Vat.K_of_M hM71)
        have ho76 := ki_Vat_one (ki_Vat.K_of_M hM71)
        have H77 : St w No [hM ki_Vat x cs_2_1, hB g_0_1 68 #[.int .i64 (0), .slice none 0 0, .slice none 0 0, .slice none 0 0, .slice none 0 0], hB g_0_0 68 #[.int .i64 (x.Id), .slice Ax1 x.Entities.length cx1, .slice Ax2 x.Loop.length cx2, .slice Ax3 x.Links.length cx3, .slice Ax4 x.Out.length cx4]] W73 := H69.new hu72 hM71
        clear H69
        refine ops_cons ?_
        have H81 : St w No [hB g_0_1 68 #[.int .i64 (0), .slice none 0 0, .slice none 0 0, .slice none 0 0, .slice none 0 0], hM ki_Vat x cs_2_1, hB g_0_0 68 #[.int .i64 (x.Id), .slice Ax1 x.Entities.length cx1, .slice Ax2 x.Loop.length cx2, .slice Ax3 x.Links.length cx3, .slice Ax4 x.Out.length cx4]] W73 := H77.pick [1, 0, 2] (by decide) rfl
        clear H77
        refine op_storeW rfl Tryz.sizeOf68 rfl rfl (ki_Vat_len (H81.kn 1 rfl)) rfl (ki_Vat_one (H81.kn 1 rfl)) H81 ?_
        intro W78 hu79 Ha80
        clear H81
        have H82 : St w No [hB g_0_1 68 (List.toArray cs_2_1), hM ki_Vat x cs_2_1, hB g_0_0 68 #[.int .i64 (x.Id), .slice Ax1 x.Entities.length cx1, .slice Ax2 x.Loop.length cx2, .slice Ax3 x.Links.length cx3, .slice Ax4 x.Out.length cx4]] W78 := Ha80
        clear Ha80
        clear hu79
        refine ops_cons ?_
        refine op_pure rfl (rn_assign rfl) rfl rfl ?_
        refine ops_nil ?_
        refine then_n ?_
        refine wp_ret ?_
        refine then_r ?_
        have hok : ¬ moOk s sl x = true := by intro hq; simp only [moOk, Bool.and_eq_true, decide_eq_true_eq] at hq; exact hg36 hq.2.2
        have e1 : moE s sl x = x := if_neg hok
        have e2 : moN s sl x = -1 := if_neg hok
        refine post_cell_tmp (.inl rfl) Tryz.results36 Tryz.isAgg68 Tryz.sizeOf68 rfl rfl (H82.blk 0 rfl) (ki_Vat_len (H82.kn 1 rfl)) ?_
        rw [e1, e2]
        have hq := (H82.pick [1] (by decide) rfl : St w No [hM ki_Vat x cs_2_1] W78).fin1
        exact ⟨_, rfl, hq.1, hq.2⟩
  · refine ops_cons ?_
    refine op_call rfl Tryz.call115 (vs := #[.int .i64 (s), .int .i64 (0), .int .i64 (5)]) rfl rfl rfl (retb (l1In_s s 0 5 _) (eq_false_of_ne_true hg10)) ?_
    rintro e85 W84 ⟨rfl, hu83⟩
    refine ⟨_, rfl, ?_⟩
    have H86 : St w No [hB g_0_1 68 #[.int .i64 (0), .slice none 0 0, .slice none 0 0, .slice none 0 0, .slice none 0 0], hB g_0_0 68 #[.int .i64 (x.Id), .slice Ax1 x.Entities.length cx1, .slice Ax2 x.Loop.length cx2, .slice Ax3 x.Links.length cx3, .slice Ax4 x.Out.length cx4]] W84 := H9.no hu83
    clear H9
    refine ops_cons ?_
    refine op_pure rfl (rn_not rfl) rfl rfl ?_
    refine ops_cons ?_
    refine op_pure rfl (rn_move rfl) rfl rfl ?_
    refine ops_cons ?_
    refine op_skipG rfl rfl rfl rfl rfl rfl rfl ?_
    refine ops_cons ?_
    refine op_skipG rfl rfl rfl rfl rfl rfl rfl ?_
    refine ops_cons ?_
    refine op_skipG rfl rfl rfl rfl rfl rfl rfl ?_
    refine ops_cons ?_
    refine op_pure rfl (rn_pick (v := .bool (true)) (b := true) rfl rfl rfl rfl) rfl rfl ?_
    refine ops_cons ?_
    refine op_pure rfl (rn_move rfl) rfl rfl ?_
    refine ops_cons ?_
    refine op_skipG rfl rfl rfl rfl rfl rfl rfl ?_
    refine ops_cons ?_
    refine op_skipG rfl rfl rfl rfl rfl rfl rfl ?_
    refine ops_cons ?_
    refine op_skipG rfl rfl rfl rfl rfl rfl rfl ?_
    refine ops_cons ?_
    refine op_skipG rfl rfl rfl rfl rfl rfl rfl ?_
    refine ops_cons ?_
    refine op_skipG rfl rfl rfl rfl rfl rfl rfl ?_
    refine ops_cons ?_
    refine op_skipG rfl rfl rfl rfl rfl rfl rfl ?_
    refine ops_cons ?_
    refine op_pure rfl (rn_pick (v := .bool (true)) (b := true) rfl rfl rfl rfl) rfl rfl ?_
    refine ops_nil ?_
    refine then_n ?_
    refine cond_t rfl ?_
    refine wp_seq ?_
    refine reg_seq [0, 1, 2, 3] rfl ?_
    refine ops_cons ?_
    refine op_pure rfl (rn_loadB Tryz.isAgg68 Tryz.sizeOf68 rfl (H86.blk 1 rfl) rfl) rfl rfl ?_
    refine ops_cons ?_
    refine op_call rfl Tryz.call90 (vs := #[.agg #[.int .i64 (x.Id), .slice Ax1 x.Entities.length cx1, .slice Ax2 x.Loop.length cx2, .slice Ax3 x.Links.length cx3, .slice Ax4 x.Out.length cx4]]) rfl rfl rfl (l12Copy_s x _ _ (ki_Vat_Kmk _ x hlx1 (C_upd H86.1 hCx1) hlx2 (C_upd H86.1 hCx2) hlx3 (C_upd H86.1 hCx3) hlx4 (C_upd H86.1 hCx4)) hs) ?_
    rintro e90 W89 ⟨cs_2_1, rfl, hM87, hu88⟩
    refine ⟨_, rfl, ?_⟩
    have hl91 := ki_Vat_len (ki_Vat.K_of_M hM87)
    have ho92 := ki_Vat_one (ki_Vat.K_of_M hM87)
    have H93 : St w No [hM ki_Vat x cs_2_1, hB g_0_1 68 #[.int .i64 (0), .slice none 0 0, .slice none 0 0, .slice none 0 0, .slice none 0 0], hB g_0_0 68 #[.int .i64 (x.Id), .slice Ax1 x.Entities.length cx1, .slice Ax2 x.Loop.length cx2, .slice Ax3 x.Links.length cx3, .slice Ax4 x.Out.length cx4]] W89 := H86.new hu88 hM87
    clear H86
    refine ops_cons ?_
    have H97 : St w No [hB g_0_1 68 #[.int .i64 (0), .slice none 0 0, .slice none 0 0, .slice none 0 0, .slice none 0 0], hM ki_Vat x cs_2_1, hB g_0_0 68 #[.int .i64 (x.Id), .slice Ax1 x.Entities.length cx1, .slice Ax2 x.Loop.length cx2, .slice Ax3 x.Links.length cx3, .slice Ax4 x.Out.length cx4]] W89 := H93.pick [1, 0, 2] (by decide) rfl
    clear H93
    refine op_storeW rfl Tryz.sizeOf68 rfl rfl (ki_Vat_len (H97.kn 1 rfl)) rfl (ki_Vat_one (H97.kn 1 rfl)) H97 ?_
    intro W94 hu95 Ha96
    clear H97
    have H98 : St w No [hB g_0_1 68 (List.toArray cs_2_1), hM ki_Vat x cs_2_1, hB g_0_0 68 #[.int .i64 (x.Id), .slice Ax1 x.Entities.length cx1, .slice Ax2 x.Loop.length cx2, .slice Ax3 x.Links.length cx3, .slice Ax4 x.Out.length cx4]] W94 := Ha96
    clear Ha96
    clear hu95
    refine ops_cons ?_
    refine op_pure rfl (rn_assign rfl) rfl rfl ?_
    refine ops_nil ?_
    refine then_n ?_
    refine wp_ret ?_
    refine then_r ?_
    have hok : ¬ moOk s sl x = true := by intro hq; simp only [moOk, Bool.and_eq_true, decide_eq_true_eq] at hq; exact hg10 (decide_eq_true hq.1)
    have e1 : moE s sl x = x := if_neg hok
    have e2 : moN s sl x = -1 := if_neg hok
    refine post_cell_tmp (.inl rfl) Tryz.results36 Tryz.isAgg68 Tryz.sizeOf68 rfl rfl (H98.blk 0 rfl) (ki_Vat_len (H98.kn 1 rfl)) ?_
    rw [e1, e2]
    have hq := (H98.pick [1] (by decide) rfl : St w No [hM ki_Vat x cs_2_1] W94).fin1
    exact ⟨_, rfl, hq.1, hq.2⟩
set_option maxHeartbeats 4000000 in
set_option maxRecDepth 100000 in
theorem makeObject_i (x : GVat) (s : Int) (sl : List GValue) (cs : List Value) (A : Option Addr) (c : Nat) (w : World) (h : ki_Vat.K w x cs) (hs : szn_Vat x ≤ 4194304) (hC : C ki_Value w A sl) (hsl : sznS szn_Value sl ≤ 4194304) : Calls Tryz.prog 38 #[.agg cs.toArray, .int .i64 s, .slice A sl.length c] w (RetAI ki_Vat (moE s sl x) (moN s sl x) w) := by
  obtain ⟨Ax1, cx1, Ax2, cx2, Ax3, cx3, Ax4, cx4, rfl, hlx1, hCx1, hlx2, hCx2, hlx3, hCx3, hlx4, hCx4⟩ := ki_Vat_K h
  have s_Entities : sznS szn_Entity x.Entities ≤ 4194304 := by unfold szn_Vat at hs; omega
  have n_Entities : x.Entities.length ≤ 4194304 := by unfold sznS at s_Entities; omega
  have s_Loop : sznS szn_Sent x.Loop ≤ 4194304 := by unfold szn_Vat at hs; omega
  have n_Loop : x.Loop.length ≤ 4194304 := by unfold sznS at s_Loop; omega
  have s_Links : sznS szn_Link x.Links ≤ 4194304 := by unfold szn_Vat at hs; omega
  have n_Links : x.Links.length ≤ 4194304 := by unfold sznS at s_Links; omega
  have s_Out : sznS szn_Outgoing x.Out ≤ 4194304 := by unfold szn_Vat at hs; omega
  have n_Out : x.Out.length ≤ 4194304 := by unfold sznS at s_Out; omega
  have hnl : sl.length ≤ 4194304 := by unfold sznS at hsl; omega
  refine enter 35 [(0, .agg #[.int .i64 (x.Id), .slice Ax1 x.Entities.length cx1, .slice Ax2 x.Loop.length cx2, .slice Ax3 x.Links.length cx3, .slice Ax4 x.Out.length cx4]), (1, .int .i64 (s)), (2, .slice A sl.length c)] Tryz.func38 rfl (by kernel_rfl) ?_
  intro xj
  have H1 : St w No [] w := St.enter
  refine wp_seq ?_
  refine reg_seq [0, 1, 2] rfl ?_
  refine ops_cons ?_
  refine op_box rfl rfl rfl rfl H1 ?_
  intro g_0_0 W2 hu3 Ha4
  clear H1
  have H5 : St w No [hB g_0_0 68 #[.int .i64 (x.Id), .slice Ax1 x.Entities.length cx1, .slice Ax2 x.Loop.length cx2, .slice Ax3 x.Links.length cx3, .slice Ax4 x.Out.length cx4]] W2 := Ha4
  clear Ha4
  clear hu3
  refine ops_cons ?_
  refine op_alloc rfl Tryz.zeroValue68 rfl rfl H5 ?_
  intro g_0_1 W6 hu7 Ha8
  clear H5
  have H9 : St w No [hB g_0_1 68 #[.int .i64 (0), .slice none 0 0, .slice none 0 0, .slice none 0 0, .slice none 0 0], hB g_0_0 68 #[.int .i64 (x.Id), .slice Ax1 x.Entities.length cx1, .slice Ax2 x.Loop.length cx2, .slice Ax3 x.Links.length cx3, .slice Ax4 x.Out.length cx4]] W6 := Ha8
  clear Ha8
  clear hu7
  refine ops_cons ?_
  refine op_pure rfl (rn_assign rfl) rfl rfl ?_
  refine ops_nil ?_
  refine then_n ?_
  refine wp_seq ?_
  refine reg_seq [0, 1, 2, 3] rfl ?_
  refine ops_cons ?_
  refine op_pure rfl (rn_loadB Tryz.isAgg68 Tryz.sizeOf68 rfl (H9.blk 1 rfl) rfl) rfl rfl ?_
  refine ops_cons ?_
  refine op_call rfl Tryz.call99 (vs := #[.agg #[.int .i64 (x.Id), .slice Ax1 x.Entities.length cx1, .slice Ax2 x.Loop.length cx2, .slice Ax3 x.Links.length cx3, .slice Ax4 x.Out.length cx4]]) rfl rfl rfl (copied_Vat x _ _ (ki_Vat_Kmk _ x hlx1 (C_upd H9.1 hCx1) hlx2 (C_upd H9.1 hCx2) hlx3 (C_upd H9.1 hCx3) hlx4 (C_upd H9.1 hCx4)) hs) ?_
  rintro e15 W14 ⟨cs10, rfl, hM11, hu12⟩
  refine ⟨_, rfl, ?_⟩
  obtain ⟨B_1_1_1, c_1_1_1, B_1_1_2, c_1_1_2, B_1_1_3, c_1_1_3, B_1_1_4, c_1_1_4, rfl, hst13⟩ := ki_Vat_open hM11
  have H16 : St w No [hR ki_Entity 171 (.slice B_1_1_1 x.Entities.length c_1_1_1) x.Entities, hR ki_Sent 235 (.slice B_1_1_2 x.Loop.length c_1_1_2) x.Loop, hR ki_Link 178 (.slice B_1_1_3 x.Links.length c_1_1_3) x.Links, hR ki_Outgoing 147 (.slice B_1_1_4 x.Out.length c_1_1_4) x.Out, hB g_0_1 68 #[.int .i64 (0), .slice none 0 0, .slice none 0 0, .slice none 0 0, .slice none 0 0], hB g_0_0 68 #[.int .i64 (x.Id), .slice Ax1 x.Entities.length cx1, .slice Ax2 x.Loop.length cx2, .slice Ax3 x.Links.length cx3, .slice Ax4 x.Out.length cx4]] W14 := H9.news hu12 hst13
  clear H9
  refine ops_cons ?_
  refine op_alloc rfl Tryz.zeroValue68 rfl rfl H16 ?_
  intro g_1_2 W17 hu18 Ha19
  clear H16
  have H20 : St w No [hB g_1_2 68 #[.int .i64 (0), .slice none 0 0, .slice none 0 0, .slice none 0 0, .slice none 0 0], hR ki_Entity 171 (.slice B_1_1_1 x.Entities.length c_1_1_1) x.Entities, hR ki_Sent 235 (.slice B_1_1_2 x.Loop.length c_1_1_2) x.Loop, hR ki_Link 178 (.slice B_1_1_3 x.Links.length c_1_1_3) x.Links, hR ki_Outgoing 147 (.slice B_1_1_4 x.Out.length c_1_1_4) x.Out, hB g_0_1 68 #[.int .i64 (0), .slice none 0 0, .slice none 0 0, .slice none 0 0, .slice none 0 0], hB g_0_0 68 #[.int .i64 (x.Id), .slice Ax1 x.Entities.length cx1, .slice Ax2 x.Loop.length cx2, .slice Ax3 x.Links.length cx3, .slice Ax4 x.Out.length cx4]] W17 := Ha19
  clear Ha19
  clear hu18
  refine ops_cons ?_
  refine op_storeW rfl Tryz.sizeOf68 rfl rfl rfl rfl (by simp [Value.oneCell']) H20 ?_
  intro W21 hu22 Ha23
  clear H20
  have H24 : St w No [hB g_1_2 68 #[.int .i64 (x.Id), .slice B_1_1_1 x.Entities.length c_1_1_1, .slice B_1_1_2 x.Loop.length c_1_1_2, .slice B_1_1_3 x.Links.length c_1_1_3, .slice B_1_1_4 x.Out.length c_1_1_4], hR ki_Entity 171 (.slice B_1_1_1 x.Entities.length c_1_1_1) x.Entities, hR ki_Sent 235 (.slice B_1_1_2 x.Loop.length c_1_1_2) x.Loop, hR ki_Link 178 (.slice B_1_1_3 x.Links.length c_1_1_3) x.Links, hR ki_Outgoing 147 (.slice B_1_1_4 x.Out.length c_1_1_4) x.Out, hB g_0_1 68 #[.int .i64 (0), .slice none 0 0, .slice none 0 0, .slice none 0 0, .slice none 0 0], hB g_0_0 68 #[.int .i64 (x.Id), .slice Ax1 x.Entities.length cx1, .slice Ax2 x.Loop.length cx2, .slice Ax3 x.Links.length cx3, .slice Ax4 x.Out.length cx4]] W21 := Ha23
  clear Ha23
  clear hu22
  refine ops_nil ?_
  refine then_n ?_
  refine wp_seq ?_
  refine wp_seq ?_
  refine reg_seq [0, 1, 2, 3, 4, 5, 6, 7, 8, 9, 10, 11, 12, 13, 14, 15] rfl ?_
  refine ops_cons ?_
  refine op_pure rfl (rn_move rfl) rfl rfl ?_
  by_cases hg25 : (decide (0 ≤ s ∧ s ≤ 5)) = true
  · refine ops_cons ?_
    refine op_call rfl Tryz.call119 (vs := #[.int .i64 (s), .int .i64 (0), .int .i64 (5)]) rfl rfl rfl (retb (in_i s 0 5 _) hg25) ?_
    rintro e28 W27 ⟨rfl, hu26⟩
    refine ⟨_, rfl, ?_⟩
    have H29 : St w No [hB g_1_2 68 #[.int .i64 (x.Id), .slice B_1_1_1 x.Entities.length c_1_1_1, .slice B_1_1_2 x.Loop.length c_1_1_2, .slice B_1_1_3 x.Links.length c_1_1_3, .slice B_1_1_4 x.Out.length c_1_1_4], hR ki_Entity 171 (.slice B_1_1_1 x.Entities.length c_1_1_1) x.Entities, hR ki_Sent 235 (.slice B_1_1_2 x.Loop.length c_1_1_2) x.Loop, hR ki_Link 178 (.slice B_1_1_3 x.Links.length c_1_1_3) x.Links, hR ki_Outgoing 147 (.slice B_1_1_4 x.Out.length c_1_1_4) x.Out, hB g_0_1 68 #[.int .i64 (0), .slice none 0 0, .slice none 0 0, .slice none 0 0, .slice none 0 0], hB g_0_0 68 #[.int .i64 (x.Id), .slice Ax1 x.Entities.length cx1, .slice Ax2 x.Loop.length cx2, .slice Ax3 x.Links.length cx3, .slice Ax4 x.Out.length cx4]] W27 := H24.no hu26
    clear H24
    refine ops_cons ?_
    refine op_pure rfl (rn_not rfl) rfl rfl ?_
    refine ops_cons ?_
    refine op_pure rfl (rn_move rfl) rfl rfl ?_
    refine ops_cons ?_
    refine op_G rfl rfl rfl rfl (fun _ ho30 => ?_)
    refine op_pure ho30 (rn_move rfl) rfl rfl ?_
    refine ops_cons ?_
    refine op_G rfl rfl rfl rfl (fun _ ho31 => ?_)
    refine op_pure ho31 (rn_len Tryz.runUnderlying85 rfl) rfl rfl ?_
    by_cases hg32 : (3 : Int) < (sl.length : Nat)
    · refine ops_cons ?_
      refine op_G rfl rfl rfl rfl (fun _ ho33 => ?_)
      refine op_pure ho33 (rn_decT hg32 (rn_gtr rfl rfl)) rfl rfl ?_
      refine ops_cons ?_
      refine op_pure rfl (rn_pick (v := .bool (true)) (b := false) rfl rfl rfl rfl) rfl rfl ?_
      refine ops_cons ?_
      refine op_pure rfl (rn_move rfl) rfl rfl ?_
      refine ops_cons ?_
      refine op_skipG rfl rfl rfl rfl rfl rfl rfl ?_
      refine ops_cons ?_
      refine op_skipG rfl rfl rfl rfl rfl rfl rfl ?_
      refine ops_cons ?_
      refine op_skipG rfl rfl rfl rfl rfl rfl rfl ?_
      refine ops_cons ?_
      refine op_skipG rfl rfl rfl rfl rfl rfl rfl ?_
      refine ops_cons ?_
      refine op_skipG rfl rfl rfl rfl rfl rfl rfl ?_
      refine ops_cons ?_
      refine op_skipG rfl rfl rfl rfl rfl rfl rfl ?_
      refine ops_cons ?_
      refine op_pure rfl (rn_pick (v := .bool (true)) (b := true) rfl rfl rfl rfl) rfl rfl ?_
      refine ops_nil ?_
      refine then_n ?_
      refine cond_t rfl ?_
      refine wp_seq ?_
      refine reg_seq [0, 1, 2] rfl ?_
      refine ops_cons ?_
      refine op_pure rfl (rn_loadB Tryz.isAgg68 Tryz.sizeOf68 rfl (H29.blk 0 rfl) rfl) rfl rfl ?_
      refine ops_cons ?_
      have H37 : St w No [hB g_0_1 68 #[.int .i64 (0), .slice none 0 0, .slice none 0 0, .slice none 0 0, .slice none 0 0], hB g_1_2 68 #[.int .i64 (x.Id), .slice B_1_1_1 x.Entities.length c_1_1_1, .slice B_1_1_2 x.Loop.length c_1_1_2, .slice B_1_1_3 x.Links.length c_1_1_3, .slice B_1_1_4 x.Out.length c_1_1_4], hR ki_Entity 171 (.slice B_1_1_1 x.Entities.length c_1_1_1) x.Entities, hR ki_Sent 235 (.slice B_1_1_2 x.Loop.length c_1_1_2) x.Loop, hR ki_Link 178 (.slice B_1_1_3 x.Links.length c_1_1_3) x.Links, hR ki_Outgoing 147 (.slice B_1_1_4 x.Out.length c_1_1_4) x.Out, hB g_0_0 68 #[.int .i64 (x.Id), .slice Ax1 x.Entities.length cx1, .slice Ax2 x.Loop.length cx2, .slice Ax3 x.Links.length cx3, .slice Ax4 x.Out.length cx4]] W27 := H29.pick [5, 0, 1, 2, 3, 4, 6] (by decide) rfl
      clear H29
      refine op_storeW rfl Tryz.sizeOf68 rfl rfl rfl rfl (by simp [Value.oneCell']) H37 ?_
      intro W34 hu35 Ha36
      clear H37
      have H38 : St w No [hB g_0_1 68 #[.int .i64 (x.Id), .slice B_1_1_1 x.Entities.length c_1_1_1, .slice B_1_1_2 x.Loop.length c_1_1_2, .slice B_1_1_3 x.Links.length c_1_1_3, .slice B_1_1_4 x.Out.length c_1_1_4], hB g_1_2 68 #[.int .i64 (x.Id), .slice B_1_1_1 x.Entities.length c_1_1_1, .slice B_1_1_2 x.Loop.length c_1_1_2, .slice B_1_1_3 x.Links.length c_1_1_3, .slice B_1_1_4 x.Out.length c_1_1_4], hR ki_Entity 171 (.slice B_1_1_1 x.Entities.length c_1_1_1) x.Entities, hR ki_Sent 235 (.slice B_1_1_2 x.Loop.length c_1_1_2) x.Loop, hR ki_Link 178 (.slice B_1_1_3 x.Links.length c_1_1_3) x.Links, hR ki_Outgoing 147 (.slice B_1_1_4 x.Out.length c_1_1_4) x.Out, hB g_0_0 68 #[.int .i64 (x.Id), .slice Ax1 x.Entities.length cx1, .slice Ax2 x.Loop.length cx2, .slice Ax3 x.Links.length cx3, .slice Ax4 x.Out.length cx4]] W34 := Ha36
      clear Ha36
      clear hu35
      refine ops_cons ?_
      refine op_pure rfl (rn_assign rfl) rfl rfl ?_
      refine ops_nil ?_
      refine then_n ?_
      refine wp_ret ?_
      refine then_r ?_
      have hok : ¬ moOk s sl x = true := by intro hq; simp only [moOk, Bool.and_eq_true, decide_eq_true_eq] at hq; have := hq.2.1; omega
      have e1 : moE s sl x = x := if_neg hok
      have e2 : moN s sl x = -1 := if_neg hok
      refine post_cell_tmp (.inl rfl) Tryz.results38 Tryz.isAgg68 Tryz.sizeOf68 rfl rfl (H38.blk 0 rfl) rfl ?_
      rw [e1, e2]
      exact ⟨_, rfl, ki_Vat_close (x := x) (H38.pick [2, 3, 4, 5] (by decide) rfl).star, H38.1⟩
    · refine ops_cons ?_
      refine op_G rfl rfl rfl rfl (fun _ ho39 => ?_)
      refine op_pure ho39 (rn_decF hg32 (rn_gtr rfl rfl)) rfl rfl ?_
      refine ops_cons ?_
      refine op_pure rfl (rn_pick (v := .bool (false)) (b := false) rfl rfl rfl rfl) rfl rfl ?_
      refine ops_cons ?_
      refine op_pure rfl (rn_move rfl) rfl rfl ?_
      refine ops_cons ?_
      refine op_G rfl rfl rfl rfl (fun _ ho40 => ?_)
      refine op_pure ho40 (rn_move rfl) rfl rfl ?_
      refine ops_cons ?_
      refine op_G rfl rfl rfl rfl (fun _ ho41 => ?_)
      refine op_pure ho41 (rn_field fa_68_1 rfl) rfl rfl ?_
      refine ops_cons ?_
      refine op_G rfl rfl rfl rfl (fun _ ho42 => ?_)
      refine op_pure ho42 (rn_loadC (v := .slice Ax1 x.Entities.length cx1) Tryz.isAgg63 rfl (H29.blk 6 rfl) rfl) rfl rfl ?_
      refine ops_cons ?_
      refine op_G rfl rfl rfl rfl (fun _ ho43 => ?_)
      refine op_pure ho43 (rn_len Tryz.runUnderlying63 rfl) rfl rfl ?_
      by_cases hg44 : (sl.all (isV x.Entities.length)) = true
      · refine ops_cons ?_
        refine op_G rfl rfl rfl rfl (fun _ ho45 => ?_)
        refine op_call ho45 Tryz.call120 (vs := #[.slice A sl.length c, .int .i64 ((x.Entities.length : Nat))]) rfl rfl rfl (retb (areValues_i sl _ _ x.Entities.length n_Entities _ (C_upd H29.1 hC)) hg44) ?_
        rintro e48 W47 ⟨rfl, hu46⟩
        refine ⟨_, rfl, ?_⟩
        have H49 : St w No [hB g_1_2 68 #[.int .i64 (x.Id), .slice B_1_1_1 x.Entities.length c_1_1_1, .slice B_1_1_2 x.Loop.length c_1_1_2, .slice B_1_1_3 x.Links.length c_1_1_3, .slice B_1_1_4 x.Out.length c_1_1_4], hR ki_Entity 171 (.slice B_1_1_1 x.Entities.length c_1_1_1) x.Entities, hR ki_Sent 235 (.slice B_1_1_2 x.Loop.length c_1_1_2) x.Loop, hR ki_Link 178 (.slice B_1_1_3 x.Links.length c_1_1_3) x.Links, hR ki_Outgoing 147 (.slice B_1_1_4 x.Out.length c_1_1_4) x.Out, hB g_0_1 68 #[.int .i64 (0), .slice none 0 0, .slice none 0 0, .slice none 0 0, .slice none 0 0], hB g_0_0 68 #[.int .i64 (x.Id), .slice Ax1 x.Entities.length cx1, .slice Ax2 x.Loop.length cx2, .slice Ax3 x.Links.length cx3, .slice Ax4 x.Out.length cx4]] W47 := H29.no hu46
        clear H29
        refine ops_cons ?_
        refine op_G rfl rfl rfl rfl (fun _ ho50 => ?_)
        refine op_pure ho50 (rn_not rfl) rfl rfl ?_
        refine ops_cons ?_
        refine op_pure rfl (rn_pick (v := .bool (false)) (b := false) rfl rfl rfl rfl) rfl rfl ?_
        refine ops_nil ?_
        refine then_n ?_
        refine cond_f rfl ?_
        refine wp_skip ?_
        refine then_n ?_
        refine wp_seq ?_
        refine reg_seq [0, 1, 2, 3, 4] rfl ?_
        refine ops_cons ?_
        refine op_pure rfl (rn_move rfl) rfl rfl ?_
        refine ops_cons ?_
        refine op_pure rfl (rn_move rfl) rfl rfl ?_
        refine ops_cons ?_
        refine op_call rfl Tryz.call122 (vs := #[.int .i64 (s), .slice A sl.length c]) rfl rfl rfl (newObject_i s sl _ _ _ (C_upd H49.1 hC) hnl) ?_
        rintro e54 W53 ⟨cs_4_2, rfl, hM51, hu52⟩
        refine ⟨_, rfl, ?_⟩
        have H55 : St w No [hM ki_Entity (objE s sl) cs_4_2, hB g_1_2 68 #[.int .i64 (x.Id), .slice B_1_1_1 x.Entities.length c_1_1_1, .slice B_1_1_2 x.Loop.length c_1_1_2, .slice B_1_1_3 x.Links.length c_1_1_3, .slice B_1_1_4 x.Out.length c_1_1_4], hR ki_Entity 171 (.slice B_1_1_1 x.Entities.length c_1_1_1) x.Entities, hR ki_Sent 235 (.slice B_1_1_2 x.Loop.length c_1_1_2) x.Loop, hR ki_Link 178 (.slice B_1_1_3 x.Links.length c_1_1_3) x.Links, hR ki_Outgoing 147 (.slice B_1_1_4 x.Out.length c_1_1_4) x.Out, hB g_0_1 68 #[.int .i64 (0), .slice none 0 0, .slice none 0 0, .slice none 0 0, .slice none 0 0], hB g_0_0 68 #[.int .i64 (x.Id), .slice Ax1 x.Entities.length cx1, .slice Ax2 x.Loop.length cx2, .slice Ax3 x.Links.length cx3, .slice Ax4 x.Out.length cx4]] W53 := H49.new hu52 hM51
        clear H49
        refine ops_cons ?_
        have H56 : St w No [hB g_1_2 68 #[.int .i64 (x.Id), .slice B_1_1_1 x.Entities.length c_1_1_1, .slice B_1_1_2 x.Loop.length c_1_1_2, .slice B_1_1_3 x.Links.length c_1_1_3, .slice B_1_1_4 x.Out.length c_1_1_4], hR ki_Entity 171 (.slice B_1_1_1 x.Entities.length c_1_1_1) x.Entities, hM ki_Entity (objE s sl) cs_4_2, hR ki_Sent 235 (.slice B_1_1_2 x.Loop.length c_1_1_2) x.Loop, hR ki_Link 178 (.slice B_1_1_3 x.Links.length c_1_1_3) x.Links, hR ki_Outgoing 147 (.slice B_1_1_4 x.Out.length c_1_1_4) x.Out, hB g_0_1 68 #[.int .i64 (0), .slice none 0 0, .slice none 0 0, .slice none 0 0, .slice none 0 0], hB g_0_0 68 #[.int .i64 (x.Id), .slice Ax1 x.Entities.length cx1, .slice Ax2 x.Loop.length cx2, .slice Ax3 x.Links.length cx3, .slice Ax4 x.Out.length cx4]] W53 := H55.pick [1, 2, 0, 3, 4, 5, 6, 7] (by decide) rfl
        clear H55
        obtain ⟨F57, hs58, _, hfr59⟩ := St.frame (l0 := [hB g_1_2 68 #[.int .i64 (x.Id), .slice B_1_1_1 x.Entities.length c_1_1_1, .slice B_1_1_2 x.Loop.length c_1_1_2, .slice B_1_1_3 x.Links.length c_1_1_3, .slice B_1_1_4 x.Out.length c_1_1_4], hR ki_Entity 171 (.slice B_1_1_1 x.Entities.length c_1_1_1) x.Entities, hM ki_Entity (objE s sl) cs_4_2]) (l := [hR ki_Sent 235 (.slice B_1_1_2 x.Loop.length c_1_1_2) x.Loop, hR ki_Link 178 (.slice B_1_1_3 x.Links.length c_1_1_3) x.Links, hR ki_Outgoing 147 (.slice B_1_1_4 x.Out.length c_1_1_4) x.Out, hB g_0_1 68 #[.int .i64 (0), .slice none 0 0, .slice none 0 0, .slice none 0 0, .slice none 0 0], hB g_0_0 68 #[.int .i64 (x.Id), .slice Ax1 x.Entities.length cx1, .slice Ax2 x.Loop.length cx2, .slice Ax3 x.Links.length cx3, .slice Ax4 x.Out.length cx4]]) H56
        refine op_call rfl Tryz.call121 (vs := #[.pointer (some ⟨g_1_2, 0, none⟩), .agg (List.toArray cs_4_2)]) rfl rfl rfl (add_i x.Entities (objE s sl) _ _ _ _ _ _ _ _ _ _ hs58 n_Entities) ?_
        rintro e62 W61 ⟨A_4_3, c_4_3, rfl, Hn60⟩
        refine ⟨_, rfl, ?_⟩
        have H63 : St w No [hB g_1_2 68 #[.int .i64 (x.Id), .slice A_4_3 ((addL (objE s sl) x.Entities).length) c_4_3, .slice B_1_1_2 x.Loop.length c_1_1_2, .slice B_1_1_3 x.Links.length c_1_1_3, .slice B_1_1_4 x.Out.length c_1_1_4], hR ki_Entity 171 (.slice A_4_3 ((addL (objE s sl) x.Entities).length) c_4_3) (addL (objE s sl) x.Entities), hR ki_Sent 235 (.slice B_1_1_2 x.Loop.length c_1_1_2) x.Loop, hR ki_Link 178 (.slice B_1_1_3 x.Links.length c_1_1_3) x.Links, hR ki_Outgoing 147 (.slice B_1_1_4 x.Out.length c_1_1_4) x.Out, hB g_0_1 68 #[.int .i64 (0), .slice none 0 0, .slice none 0 0, .slice none 0 0, .slice none 0 0], hB g_0_0 68 #[.int .i64 (x.Id), .slice Ax1 x.Entities.length cx1, .slice Ax2 x.Loop.length cx2, .slice Ax3 x.Links.length cx3, .slice Ax4 x.Out.length cx4]] W61 := hfr59 _ _ Hn60
        clear H56
        refine ops_cons ?_
        refine op_pure rfl (rn_assign rfl) rfl rfl ?_
        refine ops_nil ?_
        refine then_n ?_
        refine wp_seq ?_
        refine reg_seq [0, 1, 2, 3] rfl ?_
        refine ops_cons ?_
        refine op_pure rfl (rn_loadB Tryz.isAgg68 Tryz.sizeOf68 rfl (H63.blk 0 rfl) rfl) rfl rfl ?_
        refine ops_cons ?_
        refine op_pure rfl (rn_move rfl) rfl rfl ?_
        refine ops_cons ?_
        have H67 : St w No [hB g_0_1 68 #[.int .i64 (0), .slice none 0 0, .slice none 0 0, .slice none 0 0, .slice none 0 0], hB g_1_2 68 #[.int .i64 (x.Id), .slice A_4_3 ((addL (objE s sl) x.Entities).length) c_4_3, .slice B_1_1_2 x.Loop.length c_1_1_2, .slice B_1_1_3 x.Links.length c_1_1_3, .slice B_1_1_4 x.Out.length c_1_1_4], hR ki_Entity 171 (.slice A_4_3 ((addL (objE s sl) x.Entities).length) c_4_3) (addL (objE s sl) x.Entities), hR ki_Sent 235 (.slice B_1_1_2 x.Loop.length c_1_1_2) x.Loop, hR ki_Link 178 (.slice B_1_1_3 x.Links.length c_1_1_3) x.Links, hR ki_Outgoing 147 (.slice B_1_1_4 x.Out.length c_1_1_4) x.Out, hB g_0_0 68 #[.int .i64 (x.Id), .slice Ax1 x.Entities.length cx1, .slice Ax2 x.Loop.length cx2, .slice Ax3 x.Links.length cx3, .slice Ax4 x.Out.length cx4]] W61 := H63.pick [5, 0, 1, 2, 3, 4, 6] (by decide) rfl
        clear H63
        refine op_storeW rfl Tryz.sizeOf68 rfl rfl rfl rfl (by simp [Value.oneCell']) H67 ?_
        intro W64 hu65 Ha66
        clear H67
        have H68 : St w No [hB g_0_1 68 #[.int .i64 (x.Id), .slice A_4_3 ((addL (objE s sl) x.Entities).length) c_4_3, .slice B_1_1_2 x.Loop.length c_1_1_2, .slice B_1_1_3 x.Links.length c_1_1_3, .slice B_1_1_4 x.Out.length c_1_1_4], hB g_1_2 68 #[.int .i64 (x.Id), .slice A_4_3 ((addL (objE s sl) x.Entities).length) c_4_3, .slice B_1_1_2 x.Loop.length c_1_1_2, .slice B_1_1_3 x.Links.length c_1_1_3, .slice B_1_1_4 x.Out.length c_1_1_4], hR ki_Entity 171 (.slice A_4_3 ((addL (objE s sl) x.Entities).length) c_4_3) (addL (objE s sl) x.Entities), hR ki_Sent 235 (.slice B_1_1_2 x.Loop.length c_1_1_2) x.Loop, hR ki_Link 178 (.slice B_1_1_3 x.Links.length c_1_1_3) x.Links, hR ki_Outgoing 147 (.slice B_1_1_4 x.Out.length c_1_1_4) x.Out, hB g_0_0 68 #[.int .i64 (x.Id), .slice Ax1 x.Entities.length cx1, .slice Ax2 x.Loop.length cx2, .slice Ax3 x.Links.length cx3, .slice Ax4 x.Out.length cx4]] W64 := Ha66
        clear Ha66
        clear hu65
        refine ops_cons ?_
        refine op_pure rfl (rn_assign rfl) rfl rfl ?_
        refine ops_nil ?_
        refine then_n ?_
        refine wp_ret ?_
        have hok : moOk s sl x = true := by simp only [moOk, Bool.and_eq_true]; exact ⟨hg25, decide_eq_true (by omega), hg44⟩
        have e1 : moE s sl x = addE (objE s sl) x := if_pos hok
        have e2 : moN s sl x = addN x.Entities := if_pos hok
        refine post_cell_tmp (.inl rfl) Tryz.results38 Tryz.isAgg68 Tryz.sizeOf68 rfl rfl (H68.blk 0 rfl) rfl ?_
        rw [e1, e2]
        exact ⟨_, rfl, ki_Vat_close (x := (addE (objE s sl) x)) (H68.pick [2, 3, 4, 5] (by decide) rfl).star, H68.1⟩
      · refine ops_cons ?_
        refine op_G rfl rfl rfl rfl (fun _ ho69 => ?_)
        refine op_call ho69 Tryz.call120 (vs := #[.slice A sl.length c, .int .i64 ((x.Entities.length : Nat))]) rfl rfl rfl (retb (areValues_i sl _ _ x.Entities.length n_Entities _ (C_upd H29.1 hC)) (eq_false_of_ne_true hg44)) ?_
        rintro e72 W71 ⟨rfl, hu70⟩
        refine ⟨_, rfl, ?_⟩
        have H73 : St w No [hB g_1_2 68 #[.int .i64 (x.Id), .slice B_1_1_1 x.Entities.length c_1_1_1, .slice B_1_1_2 x.Loop.length c_1_1_2, .slice B_1_1_3 x.Links.length c_1_1_3, .slice B_1_1_4 x.Out.length c_1_1_4], hR ki_Entity 171 (.slice B_1_1_1 x.Entities.length c_1_1_1) x.Entities, hR ki_Sent 235 (.slice B_1_1_2 x.Loop.length c_1_1_2) x.Loop, hR ki_Link 178 (.slice B_1_1_3 x.Links.length c_1_1_3) x.Links, hR ki_Outgoing 147 (.slice B_1_1_4 x.Out.length c_1_1_4) x.Out, hB g_0_1 68 #[.int .i64 (0), .slice none 0 0, .slice none 0 0, .slice none 0 0, .slice none 0 0], hB g_0_0 68 #[.int .i64 (x.Id), .slice Ax1 x.Entities.length cx1, .slice Ax2 x.Loop.length cx2, .slice Ax3 x.Links.length cx3, .slice Ax4 x.Out.length cx4]] W71 := H29.no hu70
        clear H29
        refine ops_cons ?_
        refine op_G rfl rfl rfl rfl (fun _ ho74 => ?_)
        refine op_pure ho74 (rn_not rfl) rfl rfl ?_
        refine ops_cons ?_
        refine op_pure rfl (rn_pick (v := .bool (true)) (b := false) rfl rfl rfl rfl) rfl rfl ?_
        refine ops_nil ?_
        refine then_n ?_
        refine cond_t rfl ?_
        refine wp_seq ?_
        refine reg_seq [0, 1, 2] rfl ?_
        refine ops_cons ?_
        refine op_pure rfl (rn_loadB Tryz.isAgg68 Tryz.sizeOf68 rfl (H73.blk 0 rfl) rfl) rfl rfl ?_
        refine ops_cons ?_
        have H78 : St w No [hB g_0_1 68 #[.int .i64 (0), .slice none 0 0, .slice none 0 0, .slice none 0 0, .slice none 0 0], hB g_1_2 68 #[.int .i64 (x.Id), .slice B_1_1_1 x.Entities.length c_1_1_1, .slice B_1_1_2 x.Loop.length c_1_1_2, .slice B_1_1_3 x.Links.length c_1_1_3, .slice B_1_1_4 x.Out.length c_1_1_4], hR ki_Entity 171 (.slice B_1_1_1 x.Entities.length c_1_1_1) x.Entities, hR ki_Sent 235 (.slice B_1_1_2 x.Loop.length c_1_1_2) x.Loop, hR ki_Link 178 (.slice B_1_1_3 x.Links.length c_1_1_3) x.Links, hR ki_Outgoing 147 (.slice B_1_1_4 x.Out.length c_1_1_4) x.Out, hB g_0_0 68 #[.int .i64 (x.Id), .slice Ax1 x.Entities.length cx1, .slice Ax2 x.Loop.length cx2, .slice Ax3 x.Links.length cx3, .slice Ax4 x.Out.length cx4]] W71 := H73.pick [5, 0, 1, 2, 3, 4, 6] (by decide) rfl
        clear H73
        refine op_storeW rfl Tryz.sizeOf68 rfl rfl rfl rfl (by simp [Value.oneCell']) H78 ?_
        intro W75 hu76 Ha77
        clear H78
        have H79 : St w No [hB g_0_1 68 #[.int .i64 (x.Id), .slice B_1_1_1 x.Entities.length c_1_1_1, .slice B_1_1_2 x.Loop.length c_1_1_2, .slice B_1_1_3 x.Links.length c_1_1_3, .slice B_1_1_4 x.Out.length c_1_1_4], hB g_1_2 68 #[.int .i64 (x.Id), .slice B_1_1_1 x.Entities.length c_1_1_1, .slice B_1_1_2 x.Loop.length c_1_1_2, .slice B_1_1_3 x.Links.length c_1_1_3, .slice B_1_1_4 x.Out.length c_1_1_4], hR ki_Entity 171 (.slice B_1_1_1 x.Entities.length c_1_1_1) x.Entities, hR ki_Sent 235 (.slice B_1_1_2 x.Loop.length c_1_1_2) x.Loop, hR ki_Link 178 (.slice B_1_1_3 x.Links.length c_1_1_3) x.Links, hR ki_Outgoing 147 (.slice B_1_1_4 x.Out.length c_1_1_4) x.Out, hB g_0_0 68 #[.int .i64 (x.Id), .slice Ax1 x.Entities.length cx1, .slice Ax2 x.Loop.length cx2, .slice Ax3 x.Links.length cx3, .slice Ax4 x.Out.length cx4]] W75 := Ha77
        clear Ha77
        clear hu76
        refine ops_cons ?_
        refine op_pure rfl (rn_assign rfl) rfl rfl ?_
        refine ops_nil ?_
        refine then_n ?_
        refine wp_ret ?_
        refine then_r ?_
        have hok : ¬ moOk s sl x = true := by intro hq; simp only [moOk, Bool.and_eq_true, decide_eq_true_eq] at hq; exact hg44 hq.2.2
        have e1 : moE s sl x = x := if_neg hok
        have e2 : moN s sl x = -1 := if_neg hok
        refine post_cell_tmp (.inl rfl) Tryz.results38 Tryz.isAgg68 Tryz.sizeOf68 rfl rfl (H79.blk 0 rfl) rfl ?_
        rw [e1, e2]
        exact ⟨_, rfl, ki_Vat_close (x := x) (H79.pick [2, 3, 4, 5] (by decide) rfl).star, H79.1⟩
  · refine ops_cons ?_
    refine op_call rfl Tryz.call119 (vs := #[.int .i64 (s), .int .i64 (0), .int .i64 (5)]) rfl rfl rfl (retb (in_i s 0 5 _) (eq_false_of_ne_true hg25)) ?_
    rintro e82 W81 ⟨rfl, hu80⟩
    refine ⟨_, rfl, ?_⟩
    have H83 : St w No [hB g_1_2 68 #[.int .i64 (x.Id), .slice B_1_1_1 x.Entities.length c_1_1_1, .slice B_1_1_2 x.Loop.length c_1_1_2, .slice B_1_1_3 x.Links.length c_1_1_3, .slice B_1_1_4 x.Out.length c_1_1_4], hR ki_Entity 171 (.slice B_1_1_1 x.Entities.length c_1_1_1) x.Entities, hR ki_Sent 235 (.slice B_1_1_2 x.Loop.length c_1_1_2) x.Loop, hR ki_Link 178 (.slice B_1_1_3 x.Links.length c_1_1_3) x.Links, hR ki_Outgoing 147 (.slice B_1_1_4 x.Out.length c_1_1_4) x.Out, hB g_0_1 68 #[.int .i64 (0), .slice none 0 0, .slice none 0 0, .slice none 0 0, .slice none 0 0], hB g_0_0 68 #[.int .i64 (x.Id), .slice Ax1 x.Entities.length cx1, .slice Ax2 x.Loop.length cx2, .slice Ax3 x.Links.length cx3, .slice Ax4 x.Out.length cx4]] W81 := H24.no hu80
    clear H24
    refine ops_cons ?_
    refine op_pure rfl (rn_not rfl) rfl rfl ?_
    refine ops_cons ?_
    refine op_pure rfl (rn_move rfl) rfl rfl ?_
    refine ops_cons ?_
    refine op_skipG rfl rfl rfl rfl rfl rfl rfl ?_
    refine ops_cons ?_
    refine op_skipG rfl rfl rfl rfl rfl rfl rfl ?_
    refine ops_cons ?_
    refine op_skipG rfl rfl rfl rfl rfl rfl rfl ?_
    refine ops_cons ?_
    refine op_pure rfl (rn_pick (v := .bool (true)) (b := true) rfl rfl rfl rfl) rfl rfl ?_
    refine ops_cons ?_
    refine op_pure rfl (rn_move rfl) rfl rfl ?_
    refine ops_cons ?_
    refine op_skipG rfl rfl rfl rfl rfl rfl rfl ?_
    refine ops_cons ?_
    refine op_skipG rfl rfl rfl rfl rfl rfl rfl ?_
    refine ops_cons ?_
    refine op_skipG rfl rfl rfl rfl rfl rfl rfl ?_
    refine ops_cons ?_
    refine op_skipG rfl rfl rfl rfl rfl rfl rfl ?_
    refine ops_cons ?_
    refine op_skipG rfl rfl rfl rfl rfl rfl rfl ?_
    refine ops_cons ?_
    refine op_skipG rfl rfl rfl rfl rfl rfl rfl ?_
    refine ops_cons ?_
    refine op_pure rfl (rn_pick (v := .bool (true)) (b := true) rfl rfl rfl rfl) rfl rfl ?_
    refine ops_nil ?_
    refine then_n ?_
    refine cond_t rfl ?_
    refine wp_seq ?_
    refine reg_seq [0, 1, 2] rfl ?_
    refine ops_cons ?_
    refine op_pure rfl (rn_loadB Tryz.isAgg68 Tryz.sizeOf68 rfl (H83.blk 0 rfl) rfl) rfl rfl ?_
    refine ops_cons ?_
    have H87 : St w No [hB g_0_1 68 #[.int .i64 (0), .slice none 0 0, .slice none 0 0, .slice none 0 0, .slice none 0 0], hB g_1_2 68 #[.int .i64 (x.Id), .slice B_1_1_1 x.Entities.length c_1_1_1, .slice B_1_1_2 x.Loop.length c_1_1_2, .slice B_1_1_3 x.Links.length c_1_1_3, .slice B_1_1_4 x.Out.length c_1_1_4], hR ki_Entity 171 (.slice B_1_1_1 x.Entities.length c_1_1_1) x.Entities, hR ki_Sent 235 (.slice B_1_1_2 x.Loop.length c_1_1_2) x.Loop, hR ki_Link 178 (.slice B_1_1_3 x.Links.length c_1_1_3) x.Links, hR ki_Outgoing 147 (.slice B_1_1_4 x.Out.length c_1_1_4) x.Out, hB g_0_0 68 #[.int .i64 (x.Id), .slice Ax1 x.Entities.length cx1, .slice Ax2 x.Loop.length cx2, .slice Ax3 x.Links.length cx3, .slice Ax4 x.Out.length cx4]] W81 := H83.pick [5, 0, 1, 2, 3, 4, 6] (by decide) rfl
    clear H83
    refine op_storeW rfl Tryz.sizeOf68 rfl rfl rfl rfl (by simp [Value.oneCell']) H87 ?_
    intro W84 hu85 Ha86
    clear H87
    have H88 : St w No [hB g_0_1 68 #[.int .i64 (x.Id), .slice B_1_1_1 x.Entities.length c_1_1_1, .slice B_1_1_2 x.Loop.length c_1_1_2, .slice B_1_1_3 x.Links.length c_1_1_3, .slice B_1_1_4 x.Out.length c_1_1_4], hB g_1_2 68 #[.int .i64 (x.Id), .slice B_1_1_1 x.Entities.length c_1_1_1, .slice B_1_1_2 x.Loop.length c_1_1_2, .slice B_1_1_3 x.Links.length c_1_1_3, .slice B_1_1_4 x.Out.length c_1_1_4], hR ki_Entity 171 (.slice B_1_1_1 x.Entities.length c_1_1_1) x.Entities, hR ki_Sent 235 (.slice B_1_1_2 x.Loop.length c_1_1_2) x.Loop, hR ki_Link 178 (.slice B_1_1_3 x.Links.length c_1_1_3) x.Links, hR ki_Outgoing 147 (.slice B_1_1_4 x.Out.length c_1_1_4) x.Out, hB g_0_0 68 #[.int .i64 (x.Id), .slice Ax1 x.Entities.length cx1, .slice Ax2 x.Loop.length cx2, .slice Ax3 x.Links.length cx3, .slice Ax4 x.Out.length cx4]] W84 := Ha86
    clear Ha86
    clear hu85
    refine ops_cons ?_
    refine op_pure rfl (rn_assign rfl) rfl rfl ?_
    refine ops_nil ?_
    refine then_n ?_
    refine wp_ret ?_
    refine then_r ?_
    have hok : ¬ moOk s sl x = true := by intro hq; simp only [moOk, Bool.and_eq_true, decide_eq_true_eq] at hq; exact hg25 (decide_eq_true hq.1)
    have e1 : moE s sl x = x := if_neg hok
    have e2 : moN s sl x = -1 := if_neg hok
    refine post_cell_tmp (.inl rfl) Tryz.results38 Tryz.isAgg68 Tryz.sizeOf68 rfl rfl (H88.blk 0 rfl) rfl ?_
    rw [e1, e2]
    exact ⟨_, rfl, ki_Vat_close (x := x) (H88.pick [2, 3, 4, 5] (by decide) rfl).star, H88.1⟩
end Go.Proofs.YtfnedoiplblldaaGreatFam
