/- MethodOf: what the reference and the program compute. No conditions. -/
import Derived.Test.YtfnedoiplblldaaProg
import Derived.Test.YtfnedoiplblldaaTy
import Derived.Test.YtfnedoiplblldaaOpn
import Derived.Test.YtfnedoiplblldaaIns
import Derived.Test.YtfnedoiplblldaaClones
namespace Go.Proofs.YtfnedoiplblldaaFam
open Go.ChangeShapes Go.WideShapes Go.RowKit Go.Proofs.YtfnedoiplblldaaSep Go.Proofs.YtfnedoiplblldaaT Go.Proofs.YtfnedoiplblldaaK
set_option linter.unusedVariables false
set_option linter.unusedSimpArgs false
/-- A struct and a bool. -/
def RetAB {α : Type} (d : Kn α) (x : α) (b : Bool) (w : World) (e : Ending) (w' : World) : Prop := ∃ cs, e = .returned (.tuple #[.agg cs.toArray, .bool b]) ∧ d.M w' (New w) x cs ∧ Upd No w w'
def metO (l : List GScript) (s : Int) (nm : ByteArray) : Option GMethod := if 0 ≤ s then (l[s.toNat]?).bind (fun c => c.Methods.find? (fun m => m.Name.toList == nm.toList)) else none
def metM (l : List GScript) (s : Int) (nm : ByteArray) : GMethod := (metO l s nm).getD zMethod
def metB (l : List GScript) (s : Int) (nm : ByteArray) : Bool := (metO l s nm).isSome
theorem metO_in (l : List GScript) (k : Nat) (nm : ByteArray) (h : k < l.length) : metO l (k : Int) nm = l[k].Methods.find? (fun m => m.Name.toList == nm.toList) := by
  unfold metO
  rw [if_pos (by omega), Int.toNat_natCast, List.getElem?_eq_getElem h]
  rfl
theorem metO_out (l : List GScript) (s : Int) (nm : ByteArray) (h : ¬ (0 ≤ s ∧ s ≤ (l.length : Int) - 1)) : metO l s nm = none := by
  unfold metO
  split
  · rw [List.getElem?_eq_none (by omega)]
    rfl
  · rfl
theorem metM_bd (l : List GScript) (s : Int) (nm : ByteArray) (h : sznS szn_Script l ≤ 1048576) : szn_Method (metM l s nm) ≤ 4194304 := by
  unfold metM
  cases e : metO l s nm with
  | none => exact (by decide : szn_Method zMethod ≤ 4194304)
  | some m =>
    simp only [Option.getD_some]
    unfold metO at e
    split at e
    · obtain ⟨c, hc, hm⟩ := Option.bind_eq_some_iff.1 e
      obtain ⟨hi, rfl⟩ := List.getElem?_eq_some_iff.1 hc
      have hmem := List.mem_of_find?_eq_some hm
      obtain ⟨j, hj, rfl⟩ := List.mem_iff_getElem.1 hmem
      have h1 := sumS_at szn_Script l _ hi
      have h2 := sumS_at szn_Method (l[s.toNat].Methods) j hj
      have h3 : szn_Script l[s.toNat] = l[s.toNat].Name.size + sznS szn_Method l[s.toNat].Methods := rfl
      unfold sznS at h h3
      omega
    · cases e
set_option maxHeartbeats 4000000 in
set_option maxRecDepth 100000 in
theorem l6CopyMethod_s (x : GMethod) (cs : List Value) (w : World) (h : ki_Method.K w x cs) (hs : szn_Method x ≤ 4194304) : Calls Try.prog 103 #[.agg cs.toArray] w (RetAgg ki_Method x w) := by
  obtain ⟨Ax1, cx1, rfl, hlx1, hCx1⟩ := ki_Method_K h
  have s_Code : sznS szn_Instr x.Code ≤ 4194304 := by unfold szn_Method at hs; omega
  have n_Code : x.Code.length ≤ 4194304 := by unfold sznS at s_Code; omega
  refine enter 10 [(0, .agg #[.string (x.Name), .slice Ax1 x.Code.length cx1])] Try.func103 rfl (by kernel_rfl) ?_
  intro xj
  have H1 : St w No [] w := St.enter
  refine wp_seq ?_
  refine reg_seq [0, 1] rfl ?_
  refine ops_cons ?_
  refine op_box rfl rfl rfl rfl H1 ?_
  intro g_0_0 W2 hu3 Ha4
  clear H1
  have H5 : St w No [hB g_0_0 83 #[.string (x.Name), .slice Ax1 x.Code.length cx1]] W2 := Ha4
  clear Ha4
  clear hu3
  refine ops_cons ?_
  refine op_alloc rfl Try.zeroValue83 rfl rfl H5 ?_
  intro g_0_1 W6 hu7 Ha8
  clear H5
  have H9 : St w No [hB g_0_1 83 #[.string (⟨#[]⟩), .slice none 0 0], hB g_0_0 83 #[.string (x.Name), .slice Ax1 x.Code.length cx1]] W6 := Ha8
  clear Ha8
  clear hu7
  refine ops_nil ?_
  refine then_n ?_
  refine wp_seq ?_
  refine reg_draw (fun W' => Blk W' g_0_0 83 #[.string (x.Name), .slice Ax1 x.Code.length cx1]) 8 (by kernel_rfl) ?_
  have H10 : St w No [hB g_0_1 83 #[.string (⟨#[]⟩), .slice none 0 0], hB g_0_0 83 #[.string (x.Name), .slice Ax1 x.Code.length cx1]] W6.drew := H9.drew
  clear H9
  have hS11 : Blk W6.drew g_0_0 83 #[.string (x.Name), .slice Ax1 x.Code.length cx1] := H10.blk 1 rfl
  refine anyS_take (i := 0) rfl (by kernel_rfl) (by kernel_rfl) (by kernel_rfl) (by kernel_rfl) (by kernel_rfl) (fun _ _ _ h => h) rfl rfl hS11 (fun W' hs' => rn_field fa_83_0 rfl) ?_
  refine anyS_take (i := 1) rfl (by kernel_rfl) (by kernel_rfl) (by kernel_rfl) (by kernel_rfl) (by kernel_rfl) (fun _ _ _ h => h) rfl rfl hS11 (fun W' hs' => rn_loadC (v := .string (x.Name)) Try.isAgg9 rfl hs' rfl) ?_
  refine anyS_take (i := 3) rfl (by kernel_rfl) (by kernel_rfl) (by kernel_rfl) (by kernel_rfl) (by kernel_rfl) (fun _ _ _ h => h) rfl rfl hS11 (fun W' hs' => rn_field fa_83_1 rfl) ?_
  refine anyS_take (i := 4) rfl (by kernel_rfl) (by kernel_rfl) (by kernel_rfl) (by kernel_rfl) (by kernel_rfl) (fun _ _ _ h => h) rfl rfl hS11 (fun W' hs' => rn_loadC (v := .slice Ax1 x.Code.length cx1) Try.isAgg81 rfl hs' rfl) ?_
  refine anyS_one (i := 2) (by kernel_rfl) ?_
  refine op_slice0 (dk := ki_Instr) rfl Try.runUnderlying81 Try.sizeOf221 rfl rfl H10 ?_
  intro A_1_2 W12 hu13 Ha14
  clear H10
  have H15 : St w No [hR ki_Instr 221 (.slice A_1_2 0 0) ([]), hB g_0_1 83 #[.string (⟨#[]⟩), .slice none 0 0], hB g_0_0 83 #[.string (x.Name), .slice Ax1 x.Code.length cx1]] W12 := Ha14
  clear Ha14
  clear hu13
  have hS16 : Blk W12 g_0_0 83 #[.string (x.Name), .slice Ax1 x.Code.length cx1] := H15.blk 2 rfl
  refine ⟨fun _ => hS16, ?_⟩
  refine anyS_one (i := 5) (by kernel_rfl) ?_
  refine op_appendN' (xs := []) (ys := x.Code) (n' := x.Code.length) (zs := x.Code) rfl Try.underlying81 ki_Instr_info rfl (by decide) (by decide) flat_Instr rfl rfl (C_upd H15.1 hCx1) (by simp; omega) (by simp) (List.nil_append _) rfl rfl H15 ?_
  intro B_1_5 c_1_5 W17 Ha18
  clear H15
  have H19 : St w No [hR ki_Instr 221 (.slice B_1_5 x.Code.length c_1_5) x.Code, hB g_0_1 83 #[.string (⟨#[]⟩), .slice none 0 0], hB g_0_0 83 #[.string (x.Name), .slice Ax1 x.Code.length cx1]] W17 := Ha18
  clear Ha18
  have hS20 : Blk W17 g_0_0 83 #[.string (x.Name), .slice Ax1 x.Code.length cx1] := H19.blk 2 rfl
  refine ⟨fun _ => hS20, ?_⟩
  refine anyS_take (i := 6) rfl (by kernel_rfl) (by kernel_rfl) (by kernel_rfl) (by kernel_rfl) (by kernel_rfl) (fun _ _ _ h => h) rfl rfl hS20 (fun W' hs' => rn_build (vs := [(0, .string (x.Name)), (1, .slice B_1_5 x.Code.length c_1_5)]) (cells := #[.string (x.Name), .slice B_1_5 x.Code.length c_1_5]) rfl (by kernel_rfl)) ?_
  refine anyS_one (i := 7) (by kernel_rfl) ?_
  have H24 : St w No [hB g_0_1 83 #[.string (⟨#[]⟩), .slice none 0 0], hR ki_Instr 221 (.slice B_1_5 x.Code.length c_1_5) x.Code, hB g_0_0 83 #[.string (x.Name), .slice Ax1 x.Code.length cx1]] W17 := H19.pick [1, 0, 2] (by decide) rfl
  clear H19
  refine op_storeW rfl Try.sizeOf83 rfl rfl rfl rfl (by simp [Value.oneCell']) H24 ?_
  intro W21 hu22 Ha23
  clear H24
  have H25 : St w No [hB g_0_1 83 #[.string (x.Name), .slice B_1_5 x.Code.length c_1_5], hR ki_Instr 221 (.slice B_1_5 x.Code.length c_1_5) x.Code, hB g_0_0 83 #[.string (x.Name), .slice Ax1 x.Code.length cx1]] W21 := Ha23
  clear Ha23
  clear hu22
  have hS26 : Blk W21 g_0_0 83 #[.string (x.Name), .slice Ax1 x.Code.length cx1] := H25.blk 2 rfl
  refine ⟨fun _ => hS26, ?_⟩
  refine anyS_done (by kernel_rfl) ?_ _
  refine then_n ?_
  refine wp_ret ?_
  refine post_cell (.inl rfl) Try.results103 Try.isAgg83 Try.sizeOf83 rfl (H25.blk 0 rfl) rfl ?_
  exact ⟨_, rfl, ki_Method_close (H25.pick [1] (by decide) rfl).star, H25.1⟩
set_option maxHeartbeats 4000000 in
set_option maxRecDepth 100000 in
theorem copied_Method (x : GMethod) (cs : List Value) (w : World) (h : ki_Method.K w x cs) (hs : szn_Method x ≤ 4194304) : Calls Try.prog 106 #[.agg cs.toArray] w (RetAgg ki_Method x w) := by
  obtain ⟨Ax1, cx1, rfl, hlx1, hCx1⟩ := ki_Method_K h
  have s_Code : sznS szn_Instr x.Code ≤ 4194304 := by unfold szn_Method at hs; omega
  have n_Code : x.Code.length ≤ 4194304 := by unfold sznS at s_Code; omega
  refine enter 9 [(0, .agg #[.string (x.Name), .slice Ax1 x.Code.length cx1])] Try.func106 rfl (by kernel_rfl) ?_
  intro xj
  have H1 : St w No [] w := St.enter
  refine wp_seq ?_
  refine reg_seq [0, 1] rfl ?_
  refine ops_cons ?_
  refine op_box rfl rfl rfl rfl H1 ?_
  intro g_0_0 W2 hu3 Ha4
  clear H1
  have H5 : St w No [hB g_0_0 83 #[.string (x.Name), .slice Ax1 x.Code.length cx1]] W2 := Ha4
  clear Ha4
  clear hu3
  refine ops_cons ?_
  refine op_alloc rfl Try.zeroValue83 rfl rfl H5 ?_
  intro g_0_1 W6 hu7 Ha8
  clear H5
  have H9 : St w No [hB g_0_1 83 #[.string (⟨#[]⟩), .slice none 0 0], hB g_0_0 83 #[.string (x.Name), .slice Ax1 x.Code.length cx1]] W6 := Ha8
  clear Ha8
  clear hu7
  refine ops_nil ?_
  refine then_n ?_
  refine wp_seq ?_
  refine reg_draw (fun W' => Blk W' g_0_0 83 #[.string (x.Name), .slice Ax1 x.Code.length cx1]) 7 (by kernel_rfl) ?_
  have H10 : St w No [hB g_0_1 83 #[.string (⟨#[]⟩), .slice none 0 0], hB g_0_0 83 #[.string (x.Name), .slice Ax1 x.Code.length cx1]] W6.drew := H9.drew
  clear H9
  have hS11 : Blk W6.drew g_0_0 83 #[.string (x.Name), .slice Ax1 x.Code.length cx1] := H10.blk 1 rfl
  refine anyS_take (i := 0) rfl (by kernel_rfl) (by kernel_rfl) (by kernel_rfl) (by kernel_rfl) (by kernel_rfl) (fun _ _ _ h => h) rfl rfl hS11 (fun W' hs' => rn_field fa_83_0 rfl) ?_
  refine anyS_take (i := 1) rfl (by kernel_rfl) (by kernel_rfl) (by kernel_rfl) (by kernel_rfl) (by kernel_rfl) (fun _ _ _ h => h) rfl rfl hS11 (fun W' hs' => rn_loadC (v := .string (x.Name)) Try.isAgg9 rfl hs' rfl) ?_
  refine anyS_take (i := 2) rfl (by kernel_rfl) (by kernel_rfl) (by kernel_rfl) (by kernel_rfl) (by kernel_rfl) (fun _ _ _ h => h) rfl rfl hS11 (fun W' hs' => rn_field fa_83_1 rfl) ?_
  refine anyS_take (i := 3) rfl (by kernel_rfl) (by kernel_rfl) (by kernel_rfl) (by kernel_rfl) (by kernel_rfl) (fun _ _ _ h => h) rfl rfl hS11 (fun W' hs' => rn_loadC (v := .slice Ax1 x.Code.length cx1) Try.isAgg81 rfl hs' rfl) ?_
  refine anyS_one (i := 4) (by kernel_rfl) ?_
  refine op_call rfl Try.call146 (vs := #[.slice Ax1 x.Code.length cx1]) rfl rfl rfl (clone_Instr x.Code _ _ _ (C_upd H10.1 hCx1) n_Code) ?_
  rintro e16 W15 ⟨v12, rfl, hR13, hu14⟩
  refine ⟨_, rfl, ?_⟩
  obtain ⟨B_1_4, c_1_4, rfl⟩ := R_slice hR13
  have H17 : St w No [hR ki_Instr 221 (.slice B_1_4 x.Code.length c_1_4) x.Code, hB g_0_1 83 #[.string (⟨#[]⟩), .slice none 0 0], hB g_0_0 83 #[.string (x.Name), .slice Ax1 x.Code.length cx1]] W15 := H10.new hu14 hR13
  clear H10
  have hS18 : Blk W15 g_0_0 83 #[.string (x.Name), .slice Ax1 x.Code.length cx1] := H17.blk 2 rfl
  refine ⟨fun _ => hS18, ?_⟩
  refine anyS_take (i := 5) rfl (by kernel_rfl) (by kernel_rfl) (by kernel_rfl) (by kernel_rfl) (by kernel_rfl) (fun _ _ _ h => h) rfl rfl hS18 (fun W' hs' => rn_build (vs := [(0, .string (x.Name)), (1, .slice B_1_4 x.Code.length c_1_4)]) (cells := #[.string (x.Name), .slice B_1_4 x.Code.length c_1_4]) rfl (by kernel_rfl)) ?_
  refine anyS_one (i := 6) (by kernel_rfl) ?_
  have H22 : St w No [hB g_0_1 83 #[.string (⟨#[]⟩), .slice none 0 0], hR ki_Instr 221 (.slice B_1_4 x.Code.length c_1_4) x.Code, hB g_0_0 83 #[.string (x.Name), .slice Ax1 x.Code.length cx1]] W15 := H17.pick [1, 0, 2] (by decide) rfl
  clear H17
  refine op_storeW rfl Try.sizeOf83 rfl rfl rfl rfl (by simp [Value.oneCell']) H22 ?_
  intro W19 hu20 Ha21
  clear H22
  have H23 : St w No [hB g_0_1 83 #[.string (x.Name), .slice B_1_4 x.Code.length c_1_4], hR ki_Instr 221 (.slice B_1_4 x.Code.length c_1_4) x.Code, hB g_0_0 83 #[.string (x.Name), .slice Ax1 x.Code.length cx1]] W19 := Ha21
  clear Ha21
  clear hu20
  have hS24 : Blk W19 g_0_0 83 #[.string (x.Name), .slice Ax1 x.Code.length cx1] := H23.blk 2 rfl
  refine ⟨fun _ => hS24, ?_⟩
  refine anyS_done (by kernel_rfl) ?_ _
  refine then_n ?_
  refine wp_ret ?_
  refine post_cell (.inl rfl) Try.results106 Try.isAgg83 Try.sizeOf83 rfl (H23.blk 0 rfl) rfl ?_
  exact ⟨_, rfl, ki_Method_close (H23.pick [1] (by decide) rfl).star, H23.1⟩
set_option maxHeartbeats 4000000 in
set_option maxRecDepth 100000 in
theorem methodOf_s_out (l : List GScript) (A : Option Addr) (c : Nat) (s : Int) (nm : ByteArray) (w : World) (h : C ki_Script w A l) (hs : sznS szn_Script l ≤ 4194304) (ho : ¬ (0 ≤ s ∧ s ≤ (l.length : Int) - 1)) : Calls Try.prog 34 #[.slice A l.length c, .int .i64 s, .string nm] w (RetAB ki_Method (metM l s nm) (metB l s nm) w) := by
  have hn : l.length ≤ 4194304 := by unfold sznS at hs; omega
  refine enter 47 [(0, .slice A l.length c), (1, .int .i64 (s)), (2, .string (nm))] Try.func34 rfl (by kernel_rfl) ?_
  intro xj
  have H1 : St w No [] w := St.enter
  refine wp_seq ?_
  refine reg_seq [0, 1] rfl ?_
  refine ops_cons ?_
  refine op_alloc rfl Try.zeroValue83 rfl rfl H1 ?_
  intro g_0_0 W2 hu3 Ha4
  clear H1
  have H5 : St w No [hB g_0_0 83 #[.string (⟨#[]⟩), .slice none 0 0]] W2 := Ha4
  clear Ha4
  clear hu3
  refine ops_cons ?_
  refine op_pure rfl (rn_assign rfl) rfl rfl ?_
  refine ops_nil ?_
  refine then_n ?_
  refine wp_seq ?_
  refine wp_seq ?_
  refine reg_seq [0, 1, 2, 3, 4, 5] rfl ?_
  refine ops_cons ?_
  refine op_pure rfl (rn_move rfl) rfl rfl ?_
  refine ops_cons ?_
  refine op_pure rfl (rn_move rfl) rfl rfl ?_
  refine ops_cons ?_
  refine op_pure rfl (rn_len Try.runUnderlying86 rfl) rfl rfl ?_
  refine ops_cons ?_
  refine op_pure rfl (rn_sub rfl rfl (by omega)) rfl rfl ?_
  refine ops_cons ?_
  refine op_call rfl Try.call102 (vs := #[.int .i64 (s), .int .i64 (0), .int .i64 (((l.length : Nat) - 1))]) rfl rfl rfl (l1In_s_f s 0 ((l.length : Nat) - 1) _ (by omega)) ?_
  rintro e8 W7 ⟨rfl, hu6⟩
  refine ⟨_, rfl, ?_⟩
  have H9 : St w No [hB g_0_0 83 #[.string (⟨#[]⟩), .slice none 0 0]] W7 := H5.no hu6
  clear H5
  refine ops_cons ?_
  refine op_pure rfl (rn_not rfl) rfl rfl ?_
  refine ops_nil ?_
  refine then_n ?_
  refine cond_t rfl ?_
  refine wp_seq ?_
  refine reg_seq [0, 1, 2] rfl ?_
  refine ops_cons ?_
  refine op_pure rfl (rn_build (vs := []) (cells := #[.string (⟨#[]⟩), .slice none 0 0]) rfl (by kernel_rfl)) rfl rfl ?_
  refine ops_cons ?_
  refine op_storeW rfl Try.sizeOf83 rfl rfl rfl rfl (by simp [Value.oneCell']) H9 ?_
  intro W10 hu11 Ha12
  clear H9
  have H13 : St w No [hB g_0_0 83 #[.string (⟨#[]⟩), .slice none 0 0]] W10 := Ha12
  clear Ha12
  clear hu11
  refine ops_cons ?_
  refine op_pure rfl (rn_assign rfl) rfl rfl ?_
  refine ops_nil ?_
  refine then_n ?_
  refine wp_ret ?_
  refine then_r ?_
  have e1 := metO_out l s nm ho
  refine post_cell_tmp (.inl rfl) Try.results34 Try.isAgg83 Try.sizeOf83 rfl rfl (H13.blk 0 rfl) rfl ?_
  refine ⟨[.string (⟨#[]⟩), .slice none 0 0], by simp only [metB, e1]; rfl, ?_, H13.1⟩
  simp only [metM, e1]
  exact ki_Method.M_mono (fun _ q => q.elim) (ki_Method_zero _)
set_option maxHeartbeats 4000000 in
set_option maxRecDepth 100000 in
theorem methodOf_s_in (l : List GScript) (A : Option Addr) (c : Nat) (k : Nat) (nm : ByteArray) (w : World) (h : C ki_Script w A l) (hs : sznS szn_Script l ≤ 4194304) (hk : k < l.length) : Calls Try.prog 34 #[.slice A l.length c, .int .i64 (k : Int), .string nm] w (RetAB ki_Method (metM l k nm) (metB l k nm) w) := by
  have hn : l.length ≤ 4194304 := by unfold sznS at hs; omega
  have hsk : szn_Script l[k] ≤ 4194304 := by have h1 := sumS_at szn_Script l k hk; unfold sznS at hs; omega
  have hsm : sznS szn_Method l[k].Methods ≤ 4194304 := by unfold szn_Script at hsk; omega
  have hnm : l[k].Methods.length ≤ 4194304 := by unfold sznS at hsm; omega
  have hm := metO_in l k nm hk
  refine enter 47 [(0, .slice A l.length c), (1, .int .i64 (((k : Nat) : Int))), (2, .string (nm))] Try.func34 rfl (by kernel_rfl) ?_
  intro xj
  have H1 : St w No [] w := St.enter
  obtain ⟨ade2, cse2, hAe2, hKe2, hce2⟩ := C_elem h k hk
  have hle2 := ki_Script_len hKe2
  have hoe2 := ki_Script_one hKe2
  obtain ⟨Aade2_1, cade2_1, rfl, hlade2_1, hCade2_1⟩ := ki_Script_K hKe2
  refine wp_seq ?_
  refine reg_seq [0, 1] rfl ?_
  refine ops_cons ?_
  refine op_alloc rfl Try.zeroValue83 rfl rfl H1 ?_
  intro g_0_0 W3 hu4 Ha5
  clear H1
  have H6 : St w No [hB g_0_0 83 #[.string (⟨#[]⟩), .slice none 0 0]] W3 := Ha5
  clear Ha5
  clear hu4
  refine ops_cons ?_
  refine op_pure rfl (rn_assign rfl) rfl rfl ?_
  refine ops_nil ?_
  refine then_n ?_
  refine wp_seq ?_
  refine wp_seq ?_
  refine reg_seq [0, 1, 2, 3, 4, 5] rfl ?_
  refine ops_cons ?_
  refine op_pure rfl (rn_move rfl) rfl rfl ?_
  refine ops_cons ?_
  refine op_pure rfl (rn_move rfl) rfl rfl ?_
  refine ops_cons ?_
  refine op_pure rfl (rn_len Try.runUnderlying86 rfl) rfl rfl ?_
  refine ops_cons ?_
  refine op_pure rfl (rn_sub rfl rfl (by omega)) rfl rfl ?_
  refine ops_cons ?_
  refine op_call rfl Try.call102 (vs := #[.int .i64 (((k : Nat) : Int)), .int .i64 (0), .int .i64 (((l.length : Nat) - 1))]) rfl rfl rfl (l1In_s_t ((k : Nat) : Int) 0 ((l.length : Nat) - 1) _ (by omega)) ?_
  rintro e9 W8 ⟨rfl, hu7⟩
  refine ⟨_, rfl, ?_⟩
  have H10 : St w No [hB g_0_0 83 #[.string (⟨#[]⟩), .slice none 0 0]] W8 := H6.no hu7
  clear H6
  refine ops_cons ?_
  refine op_pure rfl (rn_not rfl) rfl rfl ?_
  refine ops_nil ?_
  refine then_n ?_
  refine cond_f rfl ?_
  refine wp_skip ?_
  refine then_n ?_
  refine wp_seq ?_
  refine wp_seq ?_
  refine reg_seq [0] rfl ?_
  refine ops_cons ?_
  refine op_pure rfl (rn_assign rfl) rfl rfl ?_
  refine ops_nil ?_
  refine then_n ?_
  refine wp_block ?_
  refine wp_loop_ghost (fun r a' W' => ∃ (i1 : Nat) (x' : Nat → Value), a' = actOf 47 x' [(0, .slice A l.length c), (1, .int .i64 (((k : Nat) : Int))), (2, .string (nm)), (6, .pointer (some ⟨g_0_0, 0, none⟩)), (8, .int .i64 (((i1 : Nat) : Int)))] ∧ (i1 + r = l[k].Methods.length) ∧ (l[k].Methods.find? (fun m : GMethod => m.Name.toList == nm.toList) = (l[k].Methods.drop i1).find? (fun m : GMethod => m.Name.toList == nm.toList)) ∧ St w No [hB g_0_0 83 #[.string (⟨#[]⟩), .slice none 0 0]] W') (l[k].Methods.length) ?_ ?_
  · exact (actOf_drop2 [(0, .slice A l.length c), (1, .int .i64 (((k : Nat) : Int))), (2, .string (nm)), (6, .pointer (some ⟨g_0_0, 0, none⟩)), (8, .int .i64 (((0 : Nat) : Int)))] rfl).elim fun x' hx => ⟨0, x', hx, (by omega), (by rw [List.drop_zero]), H10⟩
  · rintro r11 _ W12 ⟨i1, x13, rfl, hi1, hf1, H14⟩
    clear H10
    refine wp_seq ?_
    refine wp_seq ?_
    refine reg_seq [0, 1, 2, 3, 4, 5, 6, 7] rfl ?_
    refine ops_cons ?_
    refine op_pure rfl (rn_move rfl) rfl rfl ?_
    refine ops_cons ?_
    refine op_pure rfl (rn_move rfl) rfl rfl ?_
    refine ops_cons ?_
    refine op_pure rfl (rn_move rfl) rfl rfl ?_
    refine ops_cons ?_
    refine op_pure rfl (rn_indexA (k := k) Try.runUnderlying86 Try.sizeOf161 rfl rfl hAe2 hk) rfl rfl ?_
    refine ops_cons ?_
    refine op_pure rfl (rn_field fa_161_1 rfl) rfl rfl ?_
    refine ops_cons ?_
    refine op_pure rfl (rn_loadE (v := .slice Aade2_1 (l[k].Methods.length) cade2_1) Try.isAgg159 rfl (Cat.upd hce2 H14.1) rfl) rfl rfl ?_
    refine ops_cons ?_
    refine op_pure rfl (rn_len Try.runUnderlying159 rfl) rfl rfl ?_
    refine ops_cons ?_
    refine op_pure rfl (rn_lss rfl rfl) rfl rfl ?_
    refine ops_nil ?_
    refine then_n ?_
    refine cond_dec rfl (fun hc15 => ?_) (fun hc15 => ?_)
    · have hlt1 : i1 < l[k].Methods.length := by omega
      obtain ⟨ade16, cse16, hAe16, hKe16, hce16⟩ := C_elem hCade2_1 i1 hlt1
      have hle16 := ki_Method_len hKe16
      have hoe16 := ki_Method_one hKe16
      obtain ⟨Aade16_1, cade16_1, rfl, hlade16_1, hCade16_1⟩ := ki_Method_K hKe16
      have hsi1 : szn_Method l[k].Methods[i1] ≤ 4194304 := by have h1 := sumS_at szn_Method l[k].Methods i1 hlt1; unfold sznS at hsm; omega
      refine wp_skip ?_
      refine then_n ?_
      refine wp_seq ?_
      refine wp_block ?_
      refine wp_seq ?_
      refine reg_seq [0, 1, 2, 3, 4, 5, 6, 7, 8, 9, 10] rfl ?_
      refine ops_cons ?_
      refine op_pure rfl (rn_move rfl) rfl rfl ?_
      refine ops_cons ?_
      refine op_pure rfl (rn_move rfl) rfl rfl ?_
      refine ops_cons ?_
      refine op_pure rfl (rn_indexA (k := k) Try.runUnderlying86 Try.sizeOf161 rfl rfl hAe2 hk) rfl rfl ?_
      refine ops_cons ?_
      refine op_pure rfl (rn_field fa_161_1 rfl) rfl rfl ?_
      refine ops_cons ?_
      refine op_pure rfl (rn_loadE (v := .slice Aade2_1 (l[k].Methods.length) cade2_1) Try.isAgg159 rfl (Cat.upd hce2 H14.1) rfl) rfl rfl ?_
      refine ops_cons ?_
      refine op_pure rfl (rn_move rfl) rfl rfl ?_
      refine ops_cons ?_
      refine op_pure rfl (rn_indexA (k := i1) Try.runUnderlying159 Try.sizeOf83 rfl rfl hAe16 hlt1) rfl rfl ?_
      refine ops_cons ?_
      refine op_pure rfl (rn_field fa_83_0 rfl) rfl rfl ?_
      refine ops_cons ?_
      refine op_pure rfl (rn_loadE (v := .string (l[k].Methods[i1].Name)) Try.isAgg9 rfl (Cat.upd hce16 H14.1) rfl) rfl rfl ?_
      refine ops_cons ?_
      refine op_pure rfl (rn_move rfl) rfl rfl ?_
      refine ops_cons ?_
      refine op_pure rfl (rn_streql rfl rfl) rfl rfl ?_
      refine ops_nil ?_
      refine then_n ?_
      refine cond_b (b := (l[k].Methods[i1].Name).toList == nm.toList) rfl (fun hc17 => ?_) (fun hc17 => ?_)
      · refine wp_seq ?_
        refine reg_seq [0, 1, 2, 3, 4, 5, 6, 7, 8, 9, 10] rfl ?_
        refine ops_cons ?_
        refine op_pure rfl (rn_move rfl) rfl rfl ?_
        refine ops_cons ?_
        refine op_pure rfl (rn_move rfl) rfl rfl ?_
        refine ops_cons ?_
        refine op_pure rfl (rn_indexA (k := k) Try.runUnderlying86 Try.sizeOf161 rfl rfl hAe2 hk) rfl rfl ?_
        refine ops_cons ?_
        refine op_pure rfl (rn_field fa_161_1 rfl) rfl rfl ?_
        refine ops_cons ?_
        refine op_pure rfl (rn_loadE (v := .slice Aade2_1 (l[k].Methods.length) cade2_1) Try.isAgg159 rfl (Cat.upd hce2 H14.1) rfl) rfl rfl ?_
        refine ops_cons ?_
        refine op_pure rfl (rn_move rfl) rfl rfl ?_
        refine ops_cons ?_
        refine op_pure rfl (rn_indexA (k := i1) Try.runUnderlying159 Try.sizeOf83 rfl rfl hAe16 hlt1) rfl rfl ?_
        refine ops_cons ?_
        refine op_pure rfl (rn_loadN Try.isAgg83 Try.sizeOf83 rfl (Cat.upd hce16 H14.1) rfl) rfl rfl ?_
        refine ops_cons ?_
        refine op_call rfl Try.call103 (vs := #[.agg #[.string (l[k].Methods[i1].Name), .slice Aade16_1 (l[k].Methods[i1].Code.length) cade16_1]]) rfl rfl rfl (l6CopyMethod_s l[k].Methods[i1] _ _ (K_upd H14.1 hKe16) hsi1) ?_
        rintro e21 W20 ⟨cs_7_8, rfl, hM18, hu19⟩
        refine ⟨_, rfl, ?_⟩
        have hl22 := ki_Method_len (ki_Method.K_of_M hM18)
        have ho23 := ki_Method_one (ki_Method.K_of_M hM18)
        have H24 : St w No [hM ki_Method (l[k].Methods[i1]) cs_7_8, hB g_0_0 83 #[.string (⟨#[]⟩), .slice none 0 0]] W20 := H14.new hu19 hM18
        clear H14
        refine ops_cons ?_
        have H28 : St w No [hB g_0_0 83 #[.string (⟨#[]⟩), .slice none 0 0], hM ki_Method (l[k].Methods[i1]) cs_7_8] W20 := H24.pick [1, 0] (by decide) rfl
        clear H24
        refine op_storeW rfl Try.sizeOf83 rfl rfl (ki_Method_len (H28.kn 1 rfl)) rfl (ki_Method_one (H28.kn 1 rfl)) H28 ?_
        intro W25 hu26 Ha27
        clear H28
        have H29 : St w No [hB g_0_0 83 (List.toArray cs_7_8), hM ki_Method (l[k].Methods[i1]) cs_7_8] W25 := Ha27
        clear Ha27
        clear hu26
        refine ops_cons ?_
        refine op_pure rfl (rn_assign rfl) rfl rfl ?_
        refine ops_nil ?_
        refine then_n ?_
        refine wp_ret ?_
        refine inB_r ?_
        refine then_r ?_
        refine then_r ?_
        refine inB_r ?_
        refine then_r ?_
        have e1 := hm.trans (hf1.trans (find_yes (fun m : GMethod => m.Name.toList == nm.toList) l[k].Methods i1 hlt1 hc17))
        refine post_cell_tmp (.inl rfl) Try.results34 Try.isAgg83 Try.sizeOf83 rfl rfl (H29.blk 0 rfl) (ki_Method_len (H29.kn 1 rfl)) ?_
        have hq := (H29.pick [1] (by decide) rfl : St w No [hM ki_Method (l[k].Methods[i1]) cs_7_8] W25).fin1
        exact ⟨cs_7_8, by simp only [metB, e1]; rfl, by simp only [metM, e1]; exact hq.1, hq.2⟩
      · refine wp_skip ?_
        refine inB_n ?_
        refine then_n ?_
        refine reg_seq [0, 1, 2] rfl ?_
        refine ops_cons ?_
        refine op_pure rfl (rn_move rfl) rfl rfl ?_
        refine ops_cons ?_
        refine op_pure rfl (rn_inc (k := i1) rfl rfl (by omega)) rfl rfl ?_
        refine ops_cons ?_
        refine op_pure rfl (rn_assign rfl) rfl rfl ?_
        refine ops_nil ?_
        refine then_n ?_
        exact (actOf_drop2 [(0, .slice A l.length c), (1, .int .i64 (((k : Nat) : Int))), (2, .string (nm)), (6, .pointer (some ⟨g_0_0, 0, none⟩)), (8, .int .i64 (((i1 + 1 : Nat) : Int)))] rfl).elim fun x' hx => ⟨r11 - 1, (by omega), i1 + 1, x', hx, (by omega), (hf1.trans (find_no (fun m : GMethod => m.Name.toList == nm.toList) l[k].Methods i1 hlt1 hc17)), H14⟩
    · have hge1 : l[k].Methods.length ≤ i1 := by omega
      refine wp_exit ?_
      refine then_x ?_
      refine then_x ?_
      refine inB_x ?_
      refine then_n ?_
      refine wp_seq ?_
      refine reg_seq [0, 1, 2] rfl ?_
      refine ops_cons ?_
      refine op_pure rfl (rn_build (vs := []) (cells := #[.string (⟨#[]⟩), .slice none 0 0]) rfl (by kernel_rfl)) rfl rfl ?_
      refine ops_cons ?_
      refine op_storeW rfl Try.sizeOf83 rfl rfl rfl rfl (by simp [Value.oneCell']) H14 ?_
      intro W30 hu31 Ha32
      clear H14
      have H33 : St w No [hB g_0_0 83 #[.string (⟨#[]⟩), .slice none 0 0]] W30 := Ha32
      clear Ha32
      clear hu31
      refine ops_cons ?_
      refine op_pure rfl (rn_assign rfl) rfl rfl ?_
      refine ops_nil ?_
      refine then_n ?_
      refine wp_ret ?_
      have e1 := hm.trans (hf1.trans (find_end (fun m : GMethod => m.Name.toList == nm.toList) l[k].Methods _ hge1))
      refine post_cell_tmp (.inl rfl) Try.results34 Try.isAgg83 Try.sizeOf83 rfl rfl (H33.blk 0 rfl) rfl ?_
      refine ⟨[.string (⟨#[]⟩), .slice none 0 0], by simp only [metB, e1]; rfl, ?_, H33.1⟩
      simp only [metM, e1]
      exact ki_Method.M_mono (fun _ q => q.elim) (ki_Method_zero _)
theorem methodOf_s (l : List GScript) (A : Option Addr) (c : Nat) (s : Int) (nm : ByteArray) (w : World) (h : C ki_Script w A l) (hs : sznS szn_Script l ≤ 4194304) : Calls Try.prog 34 #[.slice A l.length c, .int .i64 s, .string nm] w (RetAB ki_Method (metM l s nm) (metB l s nm) w) := by
  by_cases ho : 0 ≤ s ∧ s ≤ (l.length : Int) - 1
  · obtain ⟨k, rfl⟩ : ∃ k : Nat, s = k := ⟨s.toNat, by omega⟩
    exact methodOf_s_in l A c k nm w h hs (by omega)
  · exact methodOf_s_out l A c s nm w h hs ho
set_option maxHeartbeats 4000000 in
set_option maxRecDepth 100000 in
theorem methodOf_i_out (l : List GScript) (A : Option Addr) (c : Nat) (s : Int) (nm : ByteArray) (w : World) (h : C ki_Script w A l) (hs : sznS szn_Script l ≤ 4194304) (ho : ¬ (0 ≤ s ∧ s ≤ (l.length : Int) - 1)) : Calls Try.prog 36 #[.slice A l.length c, .int .i64 s, .string nm] w (RetAB ki_Method (metM l s nm) (metB l s nm) w) := by
  have hn : l.length ≤ 4194304 := by unfold sznS at hs; omega
  refine enter 35 [(0, .slice A l.length c), (1, .int .i64 (s)), (2, .string (nm))] Try.func36 rfl (by kernel_rfl) ?_
  intro xj
  have H1 : St w No [] w := St.enter
  refine wp_seq ?_
  refine reg_seq [0, 1] rfl ?_
  refine ops_cons ?_
  refine op_alloc rfl Try.zeroValue83 rfl rfl H1 ?_
  intro g_0_0 W2 hu3 Ha4
  clear H1
  have H5 : St w No [hB g_0_0 83 #[.string (⟨#[]⟩), .slice none 0 0]] W2 := Ha4
  clear Ha4
  clear hu3
  refine ops_cons ?_
  refine op_pure rfl (rn_assign rfl) rfl rfl ?_
  refine ops_nil ?_
  refine then_n ?_
  refine wp_seq ?_
  refine wp_seq ?_
  refine reg_seq [0, 1, 2, 3, 4, 5] rfl ?_
  refine ops_cons ?_
  refine op_pure rfl (rn_move rfl) rfl rfl ?_
  refine ops_cons ?_
  refine op_pure rfl (rn_move rfl) rfl rfl ?_
  refine ops_cons ?_
  refine op_pure rfl (rn_len Try.runUnderlying86 rfl) rfl rfl ?_
  refine ops_cons ?_
  refine op_pure rfl (rn_sub rfl rfl (by omega)) rfl rfl ?_
  refine ops_cons ?_
  refine op_call rfl Try.call105 (vs := #[.int .i64 (s), .int .i64 (0), .int .i64 (((l.length : Nat) - 1))]) rfl rfl rfl (in_i_f s 0 ((l.length : Nat) - 1) _ (by omega)) ?_
  rintro e8 W7 ⟨rfl, hu6⟩
  refine ⟨_, rfl, ?_⟩
  have H9 : St w No [hB g_0_0 83 #[.string (⟨#[]⟩), .slice none 0 0]] W7 := H5.no hu6
  clear H5
  refine ops_cons ?_
  refine op_pure rfl (rn_not rfl) rfl rfl ?_
  refine ops_nil ?_
  refine then_n ?_
  refine cond_t rfl ?_
  refine wp_seq ?_
  refine reg_seq [0, 1, 2] rfl ?_
  refine ops_cons ?_
  refine op_pure rfl (rn_build (vs := []) (cells := #[.string (⟨#[]⟩), .slice none 0 0]) rfl (by kernel_rfl)) rfl rfl ?_
  refine ops_cons ?_
  refine op_storeW rfl Try.sizeOf83 rfl rfl rfl rfl (by simp [Value.oneCell']) H9 ?_
  intro W10 hu11 Ha12
  clear H9
  have H13 : St w No [hB g_0_0 83 #[.string (⟨#[]⟩), .slice none 0 0]] W10 := Ha12
  clear Ha12
  clear hu11
  refine ops_cons ?_
  refine op_pure rfl (rn_assign rfl) rfl rfl ?_
  refine ops_nil ?_
  refine then_n ?_
  refine wp_ret ?_
  refine then_r ?_
  have e1 := metO_out l s nm ho
  refine post_cell_tmp (.inl rfl) Try.results36 Try.isAgg83 Try.sizeOf83 rfl rfl (H13.blk 0 rfl) rfl ?_
  refine ⟨[.string (⟨#[]⟩), .slice none 0 0], by simp only [metB, e1]; rfl, ?_, H13.1⟩
  simp only [metM, e1]
  exact ki_Method.M_mono (fun _ q => q.elim) (ki_Method_zero _)
set_option maxHeartbeats 4000000 in
set_option maxRecDepth 100000 in
theorem methodOf_i_in (l : List GScript) (A : Option Addr) (c : Nat) (k : Nat) (nm : ByteArray) (w : World) (h : C ki_Script w A l) (hs : sznS szn_Script l ≤ 4194304) (hk : k < l.length) : Calls Try.prog 36 #[.slice A l.length c, .int .i64 (k : Int), .string nm] w (RetAB ki_Method (metM l k nm) (metB l k nm) w) := by
  have hn : l.length ≤ 4194304 := by unfold sznS at hs; omega
  have hsk : szn_Script l[k] ≤ 4194304 := by have h1 := sumS_at szn_Script l k hk; unfold sznS at hs; omega
  have hsm : sznS szn_Method l[k].Methods ≤ 4194304 := by unfold szn_Script at hsk; omega
  have hnm : l[k].Methods.length ≤ 4194304 := by unfold sznS at hsm; omega
  have hm := metO_in l k nm hk
  refine enter 35 [(0, .slice A l.length c), (1, .int .i64 (((k : Nat) : Int))), (2, .string (nm))] Try.func36 rfl (by kernel_rfl) ?_
  intro xj
  have H1 : St w No [] w := St.enter
  obtain ⟨ade2, cse2, hAe2, hKe2, hce2⟩ := C_elem h k hk
  have hle2 := ki_Script_len hKe2
  have hoe2 := ki_Script_one hKe2
  obtain ⟨Aade2_1, cade2_1, rfl, hlade2_1, hCade2_1⟩ := ki_Script_K hKe2
  refine wp_seq ?_
  refine reg_seq [0, 1] rfl ?_
  refine ops_cons ?_
  refine op_alloc rfl Try.zeroValue83 rfl rfl H1 ?_
  intro g_0_0 W3 hu4 Ha5
  clear H1
  have H6 : St w No [hB g_0_0 83 #[.string (⟨#[]⟩), .slice none 0 0]] W3 := Ha5
  clear Ha5
  clear hu4
  refine ops_cons ?_
  refine op_pure rfl (rn_assign rfl) rfl rfl ?_
  refine ops_nil ?_
  refine then_n ?_
  refine wp_seq ?_
  refine wp_seq ?_
  refine reg_seq [0, 1, 2, 3, 4, 5] rfl ?_
  refine ops_cons ?_
  refine op_pure rfl (rn_move rfl) rfl rfl ?_
  refine ops_cons ?_
  refine op_pure rfl (rn_move rfl) rfl rfl ?_
  refine ops_cons ?_
  refine op_pure rfl (rn_len Try.runUnderlying86 rfl) rfl rfl ?_
  refine ops_cons ?_
  refine op_pure rfl (rn_sub rfl rfl (by omega)) rfl rfl ?_
  refine ops_cons ?_
  refine op_call rfl Try.call105 (vs := #[.int .i64 (((k : Nat) : Int)), .int .i64 (0), .int .i64 (((l.length : Nat) - 1))]) rfl rfl rfl (in_i_t ((k : Nat) : Int) 0 ((l.length : Nat) - 1) _ (by omega)) ?_
  rintro e9 W8 ⟨rfl, hu7⟩
  refine ⟨_, rfl, ?_⟩
  have H10 : St w No [hB g_0_0 83 #[.string (⟨#[]⟩), .slice none 0 0]] W8 := H6.no hu7
  clear H6
  refine ops_cons ?_
  refine op_pure rfl (rn_not rfl) rfl rfl ?_
  refine ops_nil ?_
  refine then_n ?_
  refine cond_f rfl ?_
  refine wp_skip ?_
  refine then_n ?_
  refine wp_seq ?_
  refine wp_seq ?_
  refine reg_seq [0, 1, 2, 3, 4, 5, 6] rfl ?_
  refine ops_cons ?_
  refine op_pure rfl (rn_move rfl) rfl rfl ?_
  refine ops_cons ?_
  refine op_pure rfl (rn_move rfl) rfl rfl ?_
  refine ops_cons ?_
  refine op_pure rfl (rn_indexA (k := k) Try.runUnderlying86 Try.sizeOf161 rfl rfl hAe2 hk) rfl rfl ?_
  refine ops_cons ?_
  refine op_pure rfl (rn_field fa_161_1 rfl) rfl rfl ?_
  refine ops_cons ?_
  refine op_pure rfl (rn_loadE (v := .slice Aade2_1 (l[k].Methods.length) cade2_1) Try.isAgg159 rfl (Cat.upd hce2 H10.1) rfl) rfl rfl ?_
  refine ops_cons ?_
  refine op_pure rfl (rn_len Try.runUnderlying159 rfl) rfl rfl ?_
  refine ops_cons ?_
  refine op_pure rfl (rn_move rfl) rfl rfl ?_
  refine ops_nil ?_
  refine then_n ?_
  refine wp_block ?_
  refine wp_loop_ghost (fun r a' W' => ∃ (i1 : Nat) (x' : Nat → Value), a' = actOf 35 x' [(2, .string (nm)), (6, .pointer (some ⟨g_0_0, 0, none⟩)), (21, .slice Aade2_1 (l[k].Methods.length) cade2_1), (22, .int .i64 ((l[k].Methods.length : Nat))), (23, .int .i64 (((i1 : Nat) : Int)))] ∧ (i1 + r = l[k].Methods.length) ∧ (l[k].Methods.find? (fun m : GMethod => m.Name.toList == nm.toList) = (l[k].Methods.drop i1).find? (fun m : GMethod => m.Name.toList == nm.toList)) ∧ St w No [hB g_0_0 83 #[.string (⟨#[]⟩), .slice none 0 0]] W') (l[k].Methods.length) ?_ ?_
  · exact (actOf_drop2 [(2, .string (nm)), (6, .pointer (some ⟨g_0_0, 0, none⟩)), (21, .slice Aade2_1 (l[k].Methods.length) cade2_1), (22, .int .i64 ((l[k].Methods.length : Nat))), (23, .int .i64 (((0 : Nat) : Int)))] rfl).elim fun x' hx => ⟨0, x', hx, (by omega), (by rw [List.drop_zero]), H10⟩
  · rintro r11 _ W12 ⟨i1, x13, rfl, hi1, hf1, H14⟩
    clear H10
    refine wp_seq ?_
    refine reg_seq [0] rfl ?_
    refine ops_cons ?_
    refine op_pure rfl (rn_lss rfl rfl) rfl rfl ?_
    refine ops_nil ?_
    refine then_n ?_
    refine wp_seq ?_
    refine cond_dec rfl (fun hc15 => ?_) (fun hc15 => ?_)
    · have hlt1 : i1 < l[k].Methods.length := by omega
      obtain ⟨ade16, cse16, hAe16, hKe16, hce16⟩ := C_elem hCade2_1 i1 hlt1
      have hle16 := ki_Method_len hKe16
      have hoe16 := ki_Method_one hKe16
      obtain ⟨Aade16_1, cade16_1, rfl, hlade16_1, hCade16_1⟩ := ki_Method_K hKe16
      have hsi1 : szn_Method l[k].Methods[i1] ≤ 4194304 := by have h1 := sumS_at szn_Method l[k].Methods i1 hlt1; unfold sznS at hsm; omega
      refine wp_skip ?_
      refine then_n ?_
      refine wp_seq ?_
      refine wp_block ?_
      refine wp_seq ?_
      refine reg_seq [0, 1, 2, 3] rfl ?_
      refine ops_cons ?_
      refine op_pure rfl (rn_indexA (k := i1) Try.runUnderlying159 Try.sizeOf83 rfl rfl hAe16 hlt1) rfl rfl ?_
      refine ops_cons ?_
      refine op_pure rfl (rn_loadN Try.isAgg83 Try.sizeOf83 rfl (Cat.upd hce16 H14.1) rfl) rfl rfl ?_
      refine ops_cons ?_
      refine op_alloc rfl Try.zeroValue83 rfl rfl H14 ?_
      intro g_5_2 W17 hu18 Ha19
      clear H14
      have H20 : St w No [hB g_5_2 83 #[.string (⟨#[]⟩), .slice none 0 0], hB g_0_0 83 #[.string (⟨#[]⟩), .slice none 0 0]] W17 := Ha19
      clear Ha19
      clear hu18
      refine ops_cons ?_
      refine op_storeW rfl Try.sizeOf83 rfl rfl rfl rfl (by simp [Value.oneCell']) H20 ?_
      intro W21 hu22 Ha23
      clear H20
      have H24 : St w No [hB g_5_2 83 #[.string (l[k].Methods[i1].Name), .slice Aade16_1 (l[k].Methods[i1].Code.length) cade16_1], hB g_0_0 83 #[.string (⟨#[]⟩), .slice none 0 0]] W21 := Ha23
      clear Ha23
      clear hu22
      refine ops_nil ?_
      refine then_n ?_
      refine wp_seq ?_
      refine reg_seq [0, 1, 2, 3] rfl ?_
      refine ops_cons ?_
      refine op_pure rfl (rn_field fa_83_0 rfl) rfl rfl ?_
      refine ops_cons ?_
      refine op_pure rfl (rn_loadC (v := .string (l[k].Methods[i1].Name)) Try.isAgg9 rfl (H24.blk 0 rfl) rfl) rfl rfl ?_
      refine ops_cons ?_
      refine op_pure rfl (rn_move rfl) rfl rfl ?_
      refine ops_cons ?_
      refine op_pure rfl (rn_streql rfl rfl) rfl rfl ?_
      refine ops_nil ?_
      refine then_n ?_
      refine cond_b (b := (l[k].Methods[i1].Name).toList == nm.toList) rfl (fun hc25 => ?_) (fun hc25 => ?_)
      · refine wp_seq ?_
        refine reg_seq [0, 1, 2, 3] rfl ?_
        refine ops_cons ?_
        refine op_pure rfl (rn_loadB Try.isAgg83 Try.sizeOf83 rfl (H24.blk 0 rfl) rfl) rfl rfl ?_
        refine ops_cons ?_
        refine op_call rfl Try.call106 (vs := #[.agg #[.string (l[k].Methods[i1].Name), .slice Aade16_1 (l[k].Methods[i1].Code.length) cade16_1]]) rfl rfl rfl (copied_Method l[k].Methods[i1] _ _ (ki_Method_Kmk _ (l[k].Methods[i1]) hlade16_1 (C_upd H24.1 hCade16_1)) hsi1) ?_
        rintro e29 W28 ⟨cs_7_1, rfl, hM26, hu27⟩
        refine ⟨_, rfl, ?_⟩
        have hl30 := ki_Method_len (ki_Method.K_of_M hM26)
        have ho31 := ki_Method_one (ki_Method.K_of_M hM26)
        have H32 : St w No [hM ki_Method (l[k].Methods[i1]) cs_7_1, hB g_5_2 83 #[.string (l[k].Methods[i1].Name), .slice Aade16_1 (l[k].Methods[i1].Code.length) cade16_1], hB g_0_0 83 #[.string (⟨#[]⟩), .slice none 0 0]] W28 := H24.new hu27 hM26
        clear H24
        refine ops_cons ?_
        have H36 : St w No [hB g_0_0 83 #[.string (⟨#[]⟩), .slice none 0 0], hM ki_Method (l[k].Methods[i1]) cs_7_1, hB g_5_2 83 #[.string (l[k].Methods[i1].Name), .slice Aade16_1 (l[k].Methods[i1].Code.length) cade16_1]] W28 := H32.pick [2, 0, 1] (by decide) rfl
        clear H32
        refine op_storeW rfl Try.sizeOf83 rfl rfl (ki_Method_len (H36.kn 1 rfl)) rfl (ki_Method_one (H36.kn 1 rfl)) H36 ?_
        intro W33 hu34 Ha35
        clear H36
        have H37 : St w No [hB g_0_0 83 (List.toArray cs_7_1), hM ki_Method (l[k].Methods[i1]) cs_7_1, hB g_5_2 83 #[.string (l[k].Methods[i1].Name), .slice Aade16_1 (l[k].Methods[i1].Code.length) cade16_1]] W33 := Ha35
        clear Ha35
        clear hu34
        refine ops_cons ?_
        refine op_pure rfl (rn_assign rfl) rfl rfl ?_
        refine ops_nil ?_
        refine then_n ?_
        refine wp_ret ?_
        refine inB_r ?_
        refine then_r ?_
        refine then_r ?_
        refine inB_r ?_
        refine then_r ?_
        have e1 := hm.trans (hf1.trans (find_yes (fun m : GMethod => m.Name.toList == nm.toList) l[k].Methods i1 hlt1 hc25))
        refine post_cell_tmp (.inl rfl) Try.results36 Try.isAgg83 Try.sizeOf83 rfl rfl (H37.blk 0 rfl) (ki_Method_len (H37.kn 1 rfl)) ?_
        have hq := (H37.pick [1] (by decide) rfl : St w No [hM ki_Method (l[k].Methods[i1]) cs_7_1] W33).fin1
        exact ⟨cs_7_1, by simp only [metB, e1]; rfl, by simp only [metM, e1]; exact hq.1, hq.2⟩
      · refine wp_skip ?_
        refine inB_n ?_
        refine then_n ?_
        refine reg_seq [0, 1] rfl ?_
        refine ops_cons ?_
        refine op_pure rfl (rn_inc (k := i1) rfl rfl (by omega)) rfl rfl ?_
        refine ops_cons ?_
        refine op_pure rfl (rn_move rfl) rfl rfl ?_
        refine ops_nil ?_
        refine then_n ?_
        exact (actOf_drop2 [(2, .string (nm)), (6, .pointer (some ⟨g_0_0, 0, none⟩)), (21, .slice Aade2_1 (l[k].Methods.length) cade2_1), (22, .int .i64 ((l[k].Methods.length : Nat))), (23, .int .i64 (((i1 + 1 : Nat) : Int)))] rfl).elim fun x' hx => ⟨r11 - 1, (by omega), i1 + 1, x', hx, (by omega), (hf1.trans (find_no (fun m : GMethod => m.Name.toList == nm.toList) l[k].Methods i1 hlt1 hc25)), H24.pick [1] (by decide) rfl⟩
    · have hge1 : l[k].Methods.length ≤ i1 := by omega
      refine wp_exit ?_
      refine then_x ?_
      refine then_x ?_
      refine inB_x ?_
      refine then_n ?_
      refine wp_seq ?_
      refine reg_seq [0, 1, 2] rfl ?_
      refine ops_cons ?_
      refine op_pure rfl (rn_build (vs := []) (cells := #[.string (⟨#[]⟩), .slice none 0 0]) rfl (by kernel_rfl)) rfl rfl ?_
      refine ops_cons ?_
      refine op_storeW rfl Try.sizeOf83 rfl rfl rfl rfl (by simp [Value.oneCell']) H14 ?_
      intro W38 hu39 Ha40
      clear H14
      have H41 : St w No [hB g_0_0 83 #[.string (⟨#[]⟩), .slice none 0 0]] W38 := Ha40
      clear Ha40
      clear hu39
      refine ops_cons ?_
      refine op_pure rfl (rn_assign rfl) rfl rfl ?_
      refine ops_nil ?_
      refine then_n ?_
      refine wp_ret ?_
      have e1 := hm.trans (hf1.trans (find_end (fun m : GMethod => m.Name.toList == nm.toList) l[k].Methods _ hge1))
      refine post_cell_tmp (.inl rfl) Try.results36 Try.isAgg83 Try.sizeOf83 rfl rfl (H41.blk 0 rfl) rfl ?_
      refine ⟨[.string (⟨#[]⟩), .slice none 0 0], by simp only [metB, e1]; rfl, ?_, H41.1⟩
      simp only [metM, e1]
      exact ki_Method.M_mono (fun _ q => q.elim) (ki_Method_zero _)
theorem methodOf_i (l : List GScript) (A : Option Addr) (c : Nat) (s : Int) (nm : ByteArray) (w : World) (h : C ki_Script w A l) (hs : sznS szn_Script l ≤ 4194304) : Calls Try.prog 36 #[.slice A l.length c, .int .i64 s, .string nm] w (RetAB ki_Method (metM l s nm) (metB l s nm) w) := by
  by_cases ho : 0 ≤ s ∧ s ≤ (l.length : Int) - 1
  · obtain ⟨k, rfl⟩ : ∃ k : Nat, s = k := ⟨s.toNat, by omega⟩
    exact methodOf_i_in l A c k nm w h hs (by omega)
  · exact methodOf_i_out l A c s nm w h hs ho
end Go.Proofs.YtfnedoiplblldaaFam
