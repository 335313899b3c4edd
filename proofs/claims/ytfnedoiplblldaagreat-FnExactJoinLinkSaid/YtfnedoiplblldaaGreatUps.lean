/- Links: searches. No conditions. -/
import Derived.Test.YtfnedoiplblldaaGreatProg
import Derived.Test.YtfnedoiplblldaaGreatTy
import Derived.Test.YtfnedoiplblldaaGreatOpn
import Derived.Test.YtfnedoiplblldaaGreatSym3
import Derived.Test.YtfnedoiplblldaaGreatLFind
import Derived.Test.YtfnedoiplblldaaGreatPtr
namespace Go.Proofs.YtfnedoiplblldaaGreatFam
open Go.ChangeShapes Go.WideShapes Go.RowKit Go.Proofs.YtfnedoiplblldaaGreatSep Go.Proofs.YtfnedoiplblldaaGreatT Go.Proofs.YtfnedoiplblldaaGreatK
set_option linter.unusedVariables false
set_option linter.unusedSimpArgs false
def peP (p : Int) : GLink → Bool := fun x => decide (x.Peer = p)
def upP (p : Int) : GLink → Bool := fun x => decide (x.Peer = p) && x.Up
theorem up_pe (p : Int) (l : List GLink) (h : l.any (upP p) = true) : ∃ k : Nat, k < l.length ∧ fidx (peP p) 0 l = k := by
  have h1 := fidx_any (peP p) l 0 (Int.le_refl 0)
  have h2 : l.any (peP p) = true := by
    obtain ⟨x, hx, hp⟩ := List.any_eq_true.1 h
    refine List.any_eq_true.2 ⟨x, hx, ?_⟩
    simp only [upP, Bool.and_eq_true] at hp
    exact hp.1
  rw [h2] at h1
  have h3 : 0 ≤ fidx (peP p) 0 l := of_decide_eq_true h1
  rcases fidx_range (peP p) l 0 with h4 | h4
  · omega
  · exact ⟨(fidx (peP p) 0 l).toNat, by omega, by omega⟩
theorem any_no {α : Type} (p : α → Bool) (l : List α) (i : Nat) (h : i < l.length) (hp : p l[i] = false) : (l.drop i).any p = (l.drop (i + 1)).any p := by
  rw [List.drop_eq_getElem_cons h, List.any_cons, hp, Bool.false_or]
theorem any_yes {α : Type} (p : α → Bool) (l : List α) (i : Nat) (h : i < l.length) (hp : p l[i] = true) : (l.drop i).any p = true := by
  rw [List.drop_eq_getElem_cons h, List.any_cons, hp, Bool.true_or]
theorem any_end {α : Type} (p : α → Bool) (l : List α) (i : Nat) (h : l.length ≤ i) : (l.drop i).any p = false := by
  rw [List.drop_eq_nil_of_le h]; rfl
set_option maxHeartbeats 4000000 in
set_option maxRecDepth 100000 in
theorem lkU_clo (x : GLink) (cs : List Value) (p : Int) (g : Nat) (w : World) (h : ki_Link.K w x cs) (hc : w.cell? ⟨g, 0, none⟩ = some (.int .i64 p)) : Calls Tryz.prog 213 #[.agg cs.toArray, .pointer (some ⟨g, 0, none⟩)] w (RetBool (upP p x) w) := by
  obtain ⟨Ax2, cx2, Ax4, cx4, Ax6, cx6, rfl, hlx2, hCx2, hlx4, hCx4, hlx6, hCx6⟩ := ki_Link_K h
  refine enter 12 [(0, .agg #[.int .i64 (x.Peer), .bool (x.Up), .slice Ax2 x.Exports.length cx2, .int .i64 (x.Next), .slice Ax4 x.Questions.length cx4, .int .i64 (x.Asked), .slice Ax6 x.Answers.length cx6]), (1, .pointer (some ⟨g, 0, none⟩))] Tryz.func213 rfl (by kernel_rfl) ?_
  intro xj
  have H1 : St w No [] w := St.enter
  refine wp_seq ?_
  refine reg_seq [0, 1] rfl ?_
  refine ops_cons ?_
  refine op_box rfl rfl rfl rfl H1 ?_
  intro g_0_0 W2 hu3 Ha4
  clear H1
  have H5 : St w No [hB g_0_0 178 #[.int .i64 (x.Peer), .bool (x.Up), .slice Ax2 x.Exports.length cx2, .int .i64 (x.Next), .slice Ax4 x.Questions.length cx4, .int .i64 (x.Asked), .slice Ax6 x.Answers.length cx6]] W2 := Ha4
  clear Ha4
  clear hu3
  refine ops_cons ?_
  refine op_pure rfl (rn_assign rfl) rfl rfl ?_
  refine ops_nil ?_
  refine then_n ?_
  refine wp_seq ?_
  refine reg_seq [0, 1, 2, 3, 4, 5, 6, 7, 8] rfl ?_
  refine ops_cons ?_
  refine op_pure rfl (rn_field fa_178_0 rfl) rfl rfl ?_
  refine ops_cons ?_
  refine op_pure rfl (rn_loadC (k := 0) (v := .int .i64 (x.Peer)) Tryz.isAgg3 rfl (H5.blk 0 rfl) rfl) rfl rfl ?_
  refine ops_cons ?_
  refine op_pure rfl (rn_load (v := .int .i64 (p)) Tryz.isAgg3 rfl (H5.1.read hc)) rfl rfl ?_
  by_cases hg6 : (x.Peer : Int) = p
  · refine ops_cons ?_
    refine op_pure rfl (rn_decT hg6 (rn_eql rfl rfl)) rfl rfl ?_
    refine ops_cons ?_
    refine op_pure rfl (rn_move rfl) rfl rfl ?_
    refine ops_cons ?_
    refine op_G rfl rfl rfl rfl (fun _ ho7 => ?_)
    refine op_pure ho7 (rn_field fa_178_1 rfl) rfl rfl ?_
    by_cases hg8 : x.Up = true
    · refine ops_cons ?_
      refine op_G rfl rfl rfl rfl (fun _ ho9 => ?_)
      refine op_pure ho9 (rn_bool (b := x.Up) hg8 (rn_loadC (k := 1) (v := .bool (x.Up)) Tryz.isAgg4 rfl (H5.blk 0 rfl) rfl)) rfl rfl ?_
      refine ops_cons ?_
      refine op_pure rfl (rn_pick (v := .bool (true)) (b := true) rfl rfl rfl rfl) rfl rfl ?_
      refine ops_cons ?_
      refine op_pure rfl (rn_assign rfl) rfl rfl ?_
      refine ops_nil ?_
      refine then_n ?_
      refine wp_ret ?_
      refine post_tmp (.inl rfl) Tryz.results213 rfl ?_
      exact ⟨congrArg (fun z => Ending.returned (Value.bool z)) (by simp [upP, *]), H5.1⟩
    · refine ops_cons ?_
      refine op_G rfl rfl rfl rfl (fun _ ho10 => ?_)
      refine op_pure ho10 (rn_bool (b := x.Up) (eq_false_of_ne_true hg8) (rn_loadC (k := 1) (v := .bool (x.Up)) Tryz.isAgg4 rfl (H5.blk 0 rfl) rfl)) rfl rfl ?_
      refine ops_cons ?_
      refine op_pure rfl (rn_pick (v := .bool (false)) (b := true) rfl rfl rfl rfl) rfl rfl ?_
      refine ops_cons ?_
      refine op_pure rfl (rn_assign rfl) rfl rfl ?_
      refine ops_nil ?_
      refine then_n ?_
      refine wp_ret ?_
      refine post_tmp (.inl rfl) Tryz.results213 rfl ?_
      exact ⟨congrArg (fun z => Ending.returned (Value.bool z)) (by simp [upP, *]), H5.1⟩
  · refine ops_cons ?_
    refine op_pure rfl (rn_decF hg6 (rn_eql rfl rfl)) rfl rfl ?_
    refine ops_cons ?_
    refine op_pure rfl (rn_move rfl) rfl rfl ?_
    refine ops_cons ?_
    refine op_skipG rfl rfl rfl rfl rfl rfl rfl ?_
    refine ops_cons ?_
    refine op_skipG rfl rfl rfl rfl rfl rfl rfl ?_
    refine ops_cons ?_
    refine op_pure rfl (rn_pick (v := .bool (false)) (b := false) rfl rfl rfl rfl) rfl rfl ?_
    refine ops_cons ?_
    refine op_pure rfl (rn_assign rfl) rfl rfl ?_
    refine ops_nil ?_
    refine then_n ?_
    refine wp_ret ?_
    refine post_tmp (.inl rfl) Tryz.results213 rfl ?_
    exact ⟨congrArg (fun z => Ending.returned (Value.bool z)) (by simp [upP, *]), H5.1⟩
set_option maxHeartbeats 4000000 in
set_option maxRecDepth 100000 in
theorem lkP_clo (x : GLink) (cs : List Value) (p : Int) (g : Nat) (w : World) (h : ki_Link.K w x cs) (hc : w.cell? ⟨g, 0, none⟩ = some (.int .i64 p)) : Calls Tryz.prog 219 #[.agg cs.toArray, .pointer (some ⟨g, 0, none⟩)] w (RetBool (peP p x) w) := by
  obtain ⟨Ax2, cx2, Ax4, cx4, Ax6, cx6, rfl, hlx2, hCx2, hlx4, hCx4, hlx6, hCx6⟩ := ki_Link_K h
  refine enter 8 [(0, .agg #[.int .i64 (x.Peer), .bool (x.Up), .slice Ax2 x.Exports.length cx2, .int .i64 (x.Next), .slice Ax4 x.Questions.length cx4, .int .i64 (x.Asked), .slice Ax6 x.Answers.length cx6]), (1, .pointer (some ⟨g, 0, none⟩))] Tryz.func219 rfl (by kernel_rfl) ?_
  intro xj
  have H1 : St w No [] w := St.enter
  refine wp_seq ?_
  refine reg_seq [0, 1] rfl ?_
  refine ops_cons ?_
  refine op_box rfl rfl rfl rfl H1 ?_
  intro g_0_0 W2 hu3 Ha4
  clear H1
  have H5 : St w No [hB g_0_0 178 #[.int .i64 (x.Peer), .bool (x.Up), .slice Ax2 x.Exports.length cx2, .int .i64 (x.Next), .slice Ax4 x.Questions.length cx4, .int .i64 (x.Asked), .slice Ax6 x.Answers.length cx6]] W2 := Ha4
  clear Ha4
  clear hu3
  refine ops_cons ?_
  refine op_pure rfl (rn_assign rfl) rfl rfl ?_
  refine ops_nil ?_
  refine then_n ?_
  refine wp_seq ?_
  refine reg_seq [0, 1, 2, 3, 4] rfl ?_
  refine ops_cons ?_
  refine op_pure rfl (rn_field fa_178_0 rfl) rfl rfl ?_
  refine ops_cons ?_
  refine op_pure rfl (rn_loadC (k := 0) (v := .int .i64 (x.Peer)) Tryz.isAgg3 rfl (H5.blk 0 rfl) rfl) rfl rfl ?_
  refine ops_cons ?_
  refine op_pure rfl (rn_load (v := .int .i64 (p)) Tryz.isAgg3 rfl (H5.1.read hc)) rfl rfl ?_
  refine ops_cons ?_
  refine op_pure rfl (rn_eql rfl rfl) rfl rfl ?_
  refine ops_cons ?_
  refine op_pure rfl (rn_assign rfl) rfl rfl ?_
  refine ops_nil ?_
  refine then_n ?_
  refine wp_ret ?_
  refine post_tmp (.inl rfl) Tryz.results219 rfl ?_
  exact ⟨congrArg (fun z => Ending.returned (Value.bool z)) (by simp [peP, *]), H5.1⟩
set_option maxHeartbeats 4000000 in
set_option maxRecDepth 100000 in
theorem linkTo_i (l : List GLink) (p : Int) (u0 u1 u2 u4 : Value) (A : Option Addr) (c : Nat) (w : World) (h : C ki_Link w A l) : Calls Tryz.prog 185 #[.agg #[u0, u1, u2, .slice A l.length c, u4], .int .i64 p] w (RetInt (fidx (peP p) 0 l) w) := by
  refine enter 9 [(0, .agg #[u0, u1, u2, .slice A l.length c, u4]), (1, .int .i64 (p))] Tryz.func185 rfl (by kernel_rfl) ?_
  intro xj
  have H1 : St w No [] w := St.enter
  refine wp_seq ?_
  refine reg_seq [0, 1, 2] rfl ?_
  refine ops_cons ?_
  refine op_box rfl rfl rfl rfl H1 ?_
  intro g_0_0 W2 hu3 Ha4
  clear H1
  have H5 : St w No [hB g_0_0 68 #[u0, u1, u2, .slice A l.length c, u4]] W2 := Ha4
  clear Ha4
  clear hu3
  refine ops_cons ?_
  refine op_box rfl rfl rfl rfl H5 ?_
  intro g_0_1 W6 hu7 Ha8
  clear H5
  have H9 : St w No [hB g_0_1 3 #[.int .i64 (p)], hB g_0_0 68 #[u0, u1, u2, .slice A l.length c, u4]] W6 := Ha8
  clear Ha8
  clear hu7
  refine ops_cons ?_
  refine op_pure rfl (rn_assign rfl) rfl rfl ?_
  refine ops_nil ?_
  refine then_n ?_
  refine wp_seq ?_
  refine reg_seq [0, 1, 2, 3, 4] rfl ?_
  refine ops_cons ?_
  refine op_pure rfl (rn_field fa_68_3 rfl) rfl rfl ?_
  refine ops_cons ?_
  refine op_pure rfl (rn_loadC (k := 3) (v := .slice A l.length c) Tryz.isAgg65 rfl (H9.blk 1 rfl) rfl) rfl rfl ?_
  refine ops_cons ?_
  refine op_pure rfl (rn_makeFunc (us := #[]) (vs := #[.pointer (some ⟨g_0_1, 0, none⟩)]) rfl rfl) rfl rfl ?_
  refine ops_cons ?_
  refine op_call rfl Tryz.call218 (vs := #[.slice A l.length c, .func (.func 219) #[] #[.pointer (some ⟨g_0_1, 0, none⟩)]]) rfl rfl rfl (lkP_idx (.pointer (some ⟨g_0_1, 0, none⟩)) (peP p) l _ _ _ (C_upd H9.1 h) (fun x cs w' hu hK => lkP_clo x cs p _ w' hK (hu.read ((H9.blk 0 rfl).at 0 rfl)))) ?_
  rintro e12 W11 ⟨rfl, hu10⟩
  refine ⟨_, rfl, ?_⟩
  have H13 : St w No [hB g_0_1 3 #[.int .i64 (p)], hB g_0_0 68 #[u0, u1, u2, .slice A l.length c, u4]] W11 := H9.no hu10
  clear H9
  refine ops_cons ?_
  refine op_pure rfl (rn_assign rfl) rfl rfl ?_
  refine ops_nil ?_
  refine then_n ?_
  refine wp_ret ?_
  refine post_tmp (.inl rfl) Tryz.results185 rfl ?_
  exact ⟨rfl, H13.1⟩
set_option maxHeartbeats 4000000 in
set_option maxRecDepth 100000 in
theorem link_yes (l : List GLink) (p : Int) (g c0 : Nat) (A0 : Option Addr) (u0 u1 u2 u4 : Value) (F0 : Nat → Prop) (w : World) (h : Star [hB g 68 #[u0, u1, u2, .slice A0 l.length c0, u4], hR ki_Link 178 (.slice A0 l.length c0) l] w F0) (hup : l.any (upP p) = true) (k : Nat) (hk : k < l.length) (hf : fidx (peP p) 0 l = k) : Calls Tryz.prog 167 #[.pointer (some ⟨g, 0, none⟩), .int .i64 p] w (fun e' w' => ∃ a, A0 = some a ∧ e' = .returned (.pointer (some (Addr.add a (k * 7)))) ∧ St w F0 [hB g 68 #[u0, u1, u2, .slice A0 l.length c0, u4], hR ki_Link 178 (.slice A0 l.length c0) l] w') := by
  refine enter 29 [(0, .pointer (some ⟨g, 0, none⟩)), (1, .int .i64 (p))] Tryz.func167 rfl (by kernel_rfl) ?_
  intro xj
  have H1 : St w F0 [hB g 68 #[u0, u1, u2, .slice A0 l.length c0, u4], hR ki_Link 178 (.slice A0 l.length c0) l] w := St.enterF h
  refine wp_seq ?_
  refine reg_seq [0, 1] rfl ?_
  refine ops_cons ?_
  refine op_box rfl rfl rfl rfl H1 ?_
  intro g_0_0 W2 hu3 Ha4
  clear H1
  have H5 : St w F0 [hB g_0_0 3 #[.int .i64 (p)], hB g 68 #[u0, u1, u2, .slice A0 l.length c0, u4], hR ki_Link 178 (.slice A0 l.length c0) l] W2 := Ha4
  clear Ha4
  clear hu3
  refine ops_cons ?_
  refine op_pure rfl (rn_assign rfl) rfl rfl ?_
  refine ops_nil ?_
  refine then_n ?_
  refine wp_seq ?_
  refine reg_seq [0, 1, 2, 3, 4, 5, 6] rfl ?_
  refine ops_cons ?_
  refine op_pure rfl (rn_move rfl) rfl rfl ?_
  refine ops_cons ?_
  refine op_pure rfl (rn_nilCheck rfl) rfl rfl ?_
  refine ops_cons ?_
  refine op_pure rfl (rn_field fa_68_3 rfl) rfl rfl ?_
  refine ops_cons ?_
  refine op_pure rfl (rn_loadC (k := 3) (v := .slice A0 l.length c0) Tryz.isAgg65 rfl (H5.blk 1 rfl) rfl) rfl rfl ?_
  refine ops_cons ?_
  refine op_pure rfl (rn_makeFunc (us := #[]) (vs := #[.pointer (some ⟨g_0_0, 0, none⟩)]) rfl rfl) rfl rfl ?_
  refine ops_cons ?_
  refine op_call rfl Tryz.call212 (vs := #[.slice A0 l.length c0, .func (.func 213) #[] #[.pointer (some ⟨g_0_0, 0, none⟩)]]) rfl rfl rfl (retb (lkU_has (.pointer (some ⟨g_0_0, 0, none⟩)) (upP p) l _ _ _ (H5.rowC 2 rfl) (fun x cs w' hu hK => lkU_clo x cs p _ w' hK (hu.read ((H5.blk 0 rfl).at 0 rfl)))) hup) ?_
  rintro e8 W7 ⟨rfl, hu6⟩
  refine ⟨_, rfl, ?_⟩
  have H9 : St w F0 [hB g_0_0 3 #[.int .i64 (p)], hB g 68 #[u0, u1, u2, .slice A0 l.length c0, u4], hR ki_Link 178 (.slice A0 l.length c0) l] W7 := H5.no hu6
  clear H5
  refine ops_cons ?_
  refine op_pure rfl (rn_assign rfl) rfl rfl ?_
  refine ops_nil ?_
  refine then_n ?_
  refine wp_seq ?_
  refine wp_seq ?_
  refine reg_draw (fun W' => Blk W' g 68 #[u0, u1, u2, .slice A0 l.length c0, u4] ∧ Blk W' g_0_0 3 #[.int .i64 (p)]) 6 (by kernel_rfl) ?_
  have H10 : St w F0 [hB g_0_0 3 #[.int .i64 (p)], hB g 68 #[u0, u1, u2, .slice A0 l.length c0, u4], hR ki_Link 178 (.slice A0 l.length c0) l] W7.drew := H9.drew
  clear H9
  have hS11 : Blk W7.drew g 68 #[u0, u1, u2, .slice A0 l.length c0, u4] ∧ Blk W7.drew g_0_0 3 #[.int .i64 (p)] := ⟨H10.blk 1 rfl, H10.blk 0 rfl⟩
  refine anyS_take (i := 0) rfl (by kernel_rfl) (by kernel_rfl) (by kernel_rfl) (by kernel_rfl) (by kernel_rfl) (fun _ _ _ h => h) rfl rfl hS11 (fun W' hs' => rn_move rfl) ?_
  refine anyS_take (i := 1) rfl (by kernel_rfl) (by kernel_rfl) (by kernel_rfl) (by kernel_rfl) (by kernel_rfl) (fun _ _ _ h => h) rfl rfl hS11 (fun W' hs' => rn_nilCheck rfl) ?_
  refine anyS_take (i := 2) rfl (by kernel_rfl) (by kernel_rfl) (by kernel_rfl) (by kernel_rfl) (by kernel_rfl) (fun _ _ _ h => h) rfl rfl hS11 (fun W' hs' => rn_loadB Tryz.isAgg68 Tryz.sizeOf68 rfl hs'.1 rfl) ?_
  refine anyS_take (i := 3) rfl (by kernel_rfl) (by kernel_rfl) (by kernel_rfl) (by kernel_rfl) (by kernel_rfl) (fun _ _ _ h => h) rfl rfl hS11 (fun W' hs' => rn_loadC (k := 0) (v := .int .i64 (p)) Tryz.isAgg3 rfl hs'.2 rfl) ?_
  refine anyS_one (i := 4) (by kernel_rfl) ?_
  refine op_call rfl Tryz.call185 (vs := #[.agg #[u0, u1, u2, .slice A0 l.length c0, u4], .int .i64 (p)]) rfl rfl rfl (hf ▸ (linkTo_i l p _ _ _ _ _ _ _ (H10.rowC 2 rfl))) ?_
  rintro e14 W13 ⟨rfl, hu12⟩
  refine ⟨_, rfl, ?_⟩
  have H15 : St w F0 [hB g_0_0 3 #[.int .i64 (p)], hB g 68 #[u0, u1, u2, .slice A0 l.length c0, u4], hR ki_Link 178 (.slice A0 l.length c0) l] W13 := H10.no hu12
  clear H10
  have hS16 : Blk W13 g 68 #[u0, u1, u2, .slice A0 l.length c0, u4] ∧ Blk W13 g_0_0 3 #[.int .i64 (p)] := ⟨H15.blk 1 rfl, H15.blk 0 rfl⟩
  refine ⟨fun _ => hS16, ?_⟩
  refine anyS_take (i := 5) rfl (by kernel_rfl) (by kernel_rfl) (by kernel_rfl) (by kernel_rfl) (by kernel_rfl) (fun _ _ _ h => h) rfl rfl hS16 (fun W' hs' => rn_assign rfl) ?_
  refine anyS_done (by kernel_rfl) ?_ _
  refine then_n ?_
  refine wp_seq ?_
  refine reg_seq [0, 1, 2, 3, 4] rfl ?_
  refine ops_cons ?_
  refine op_pure rfl (rn_move rfl) rfl rfl ?_
  refine ops_cons ?_
  refine op_pure rfl (rn_decT (by omega) (rn_geq rfl rfl)) rfl rfl ?_
  refine ops_cons ?_
  refine op_pure rfl (rn_move rfl) rfl rfl ?_
  refine ops_cons ?_
  refine op_G rfl rfl rfl rfl (fun _ ho17 => ?_)
  refine op_pure ho17 (rn_move rfl) rfl rfl ?_
  refine ops_cons ?_
  refine op_pure rfl (rn_pick (v := .bool (true)) (b := true) rfl rfl rfl rfl) rfl rfl ?_
  refine ops_nil ?_
  refine then_n ?_
  refine cond_t rfl ?_
  refine wp_seq ?_
  obtain ⟨ad, cse, hA, hKe, hce⟩ := C_elem (H15.rowC 2 rfl) k hk
  refine reg_seq [0, 1, 2, 3, 4, 5, 6] rfl ?_
  refine ops_cons ?_
  refine op_pure rfl (rn_move rfl) rfl rfl ?_
  refine ops_cons ?_
  refine op_pure rfl (rn_nilCheck rfl) rfl rfl ?_
  refine ops_cons ?_
  refine op_pure rfl (rn_field fa_68_3 rfl) rfl rfl ?_
  refine ops_cons ?_
  refine op_pure rfl (rn_loadC (k := 3) (v := .slice A0 l.length c0) Tryz.isAgg65 rfl (H15.blk 1 rfl) rfl) rfl rfl ?_
  refine ops_cons ?_
  refine op_pure rfl (rn_move rfl) rfl rfl ?_
  refine ops_cons ?_
  refine op_pure rfl (rn_indexA (k := k) Tryz.runUnderlying65 Tryz.sizeOf178 rfl rfl hA hk) rfl rfl ?_
  refine ops_cons ?_
  refine op_pure rfl (rn_assign rfl) rfl rfl ?_
  refine ops_nil ?_
  refine then_n ?_
  refine wp_ret ?_
  refine then_r ?_
  refine post_tmp (.inl rfl) Tryz.results167 rfl ?_
  exact ⟨_, hA, rfl, H15.pick [1, 2] (by decide) rfl⟩
set_option maxHeartbeats 4000000 in
set_option maxRecDepth 100000 in
theorem link_no (l : List GLink) (p : Int) (g c0 : Nat) (A0 : Option Addr) (u0 u1 u2 u4 : Value) (F0 : Nat → Prop) (w : World) (h : Star [hB g 68 #[u0, u1, u2, .slice A0 l.length c0, u4], hR ki_Link 178 (.slice A0 l.length c0) l] w F0) (hup : l.any (upP p) = false) : Calls Tryz.prog 167 #[.pointer (some ⟨g, 0, none⟩), .int .i64 p] w (fun e' w' => e' = .returned (.pointer none) ∧ St w F0 [hB g 68 #[u0, u1, u2, .slice A0 l.length c0, u4], hR ki_Link 178 (.slice A0 l.length c0) l] w') := by
  refine enter 29 [(0, .pointer (some ⟨g, 0, none⟩)), (1, .int .i64 (p))] Tryz.func167 rfl (by kernel_rfl) ?_
  intro xj
  have H1 : St w F0 [hB g 68 #[u0, u1, u2, .slice A0 l.length c0, u4], hR ki_Link 178 (.slice A0 l.length c0) l] w := St.enterF h
  refine wp_seq ?_
  refine reg_seq [0, 1] rfl ?_
  refine ops_cons ?_
  refine op_box rfl rfl rfl rfl H1 ?_
  intro g_0_0 W2 hu3 Ha4
  clear H1
  have H5 : St w F0 [hB g_0_0 3 #[.int .i64 (p)], hB g 68 #[u0, u1, u2, .slice A0 l.length c0, u4], hR ki_Link 178 (.slice A0 l.length c0) l] W2 := Ha4
  clear Ha4
  clear hu3
  refine ops_cons ?_
  refine op_pure rfl (rn_assign rfl) rfl rfl ?_
  refine ops_nil ?_
  refine then_n ?_
  refine wp_seq ?_
  refine reg_seq [0, 1, 2, 3, 4, 5, 6] rfl ?_
  refine ops_cons ?_
  refine op_pure rfl (rn_move rfl) rfl rfl ?_
  refine ops_cons ?_
  refine op_pure rfl (rn_nilCheck rfl) rfl rfl ?_
  refine ops_cons ?_
  refine op_pure rfl (rn_field fa_68_3 rfl) rfl rfl ?_
  refine ops_cons ?_
  refine op_pure rfl (rn_loadC (k := 3) (v := .slice A0 l.length c0) Tryz.isAgg65 rfl (H5.blk 1 rfl) rfl) rfl rfl ?_
  refine ops_cons ?_
  refine op_pure rfl (rn_makeFunc (us := #[]) (vs := #[.pointer (some ⟨g_0_0, 0, none⟩)]) rfl rfl) rfl rfl ?_
  refine ops_cons ?_
  refine op_call rfl Tryz.call212 (vs := #[.slice A0 l.length c0, .func (.func 213) #[] #[.pointer (some ⟨g_0_0, 0, none⟩)]]) rfl rfl rfl (retb (lkU_has (.pointer (some ⟨g_0_0, 0, none⟩)) (upP p) l _ _ _ (H5.rowC 2 rfl) (fun x cs w' hu hK => lkU_clo x cs p _ w' hK (hu.read ((H5.blk 0 rfl).at 0 rfl)))) hup) ?_
  rintro e8 W7 ⟨rfl, hu6⟩
  refine ⟨_, rfl, ?_⟩
  have H9 : St w F0 [hB g_0_0 3 #[.int .i64 (p)], hB g 68 #[u0, u1, u2, .slice A0 l.length c0, u4], hR ki_Link 178 (.slice A0 l.length c0) l] W7 := H5.no hu6
  clear H5
  refine ops_cons ?_
  refine op_pure rfl (rn_assign rfl) rfl rfl ?_
  refine ops_nil ?_
  refine then_n ?_
  refine wp_seq ?_
  refine wp_seq ?_
  refine reg_draw (fun W' => Blk W' g 68 #[u0, u1, u2, .slice A0 l.length c0, u4] ∧ Blk W' g_0_0 3 #[.int .i64 (p)]) 6 (by kernel_rfl) ?_
  have H10 : St w F0 [hB g_0_0 3 #[.int .i64 (p)], hB g 68 #[u0, u1, u2, .slice A0 l.length c0, u4], hR ki_Link 178 (.slice A0 l.length c0) l] W7.drew := H9.drew
  clear H9
  have hS11 : Blk W7.drew g 68 #[u0, u1, u2, .slice A0 l.length c0, u4] ∧ Blk W7.drew g_0_0 3 #[.int .i64 (p)] := ⟨H10.blk 1 rfl, H10.blk 0 rfl⟩
  refine anyS_take (i := 0) rfl (by kernel_rfl) (by kernel_rfl) (by kernel_rfl) (by kernel_rfl) (by kernel_rfl) (fun _ _ _ h => h) rfl rfl hS11 (fun W' hs' => rn_move rfl) ?_
  refine anyS_take (i := 1) rfl (by kernel_rfl) (by kernel_rfl) (by kernel_rfl) (by kernel_rfl) (by kernel_rfl) (fun _ _ _ h => h) rfl rfl hS11 (fun W' hs' => rn_nilCheck rfl) ?_
  refine anyS_take (i := 2) rfl (by kernel_rfl) (by kernel_rfl) (by kernel_rfl) (by kernel_rfl) (by kernel_rfl) (fun _ _ _ h => h) rfl rfl hS11 (fun W' hs' => rn_loadB Tryz.isAgg68 Tryz.sizeOf68 rfl hs'.1 rfl) ?_
  refine anyS_take (i := 3) rfl (by kernel_rfl) (by kernel_rfl) (by kernel_rfl) (by kernel_rfl) (by kernel_rfl) (fun _ _ _ h => h) rfl rfl hS11 (fun W' hs' => rn_loadC (k := 0) (v := .int .i64 (p)) Tryz.isAgg3 rfl hs'.2 rfl) ?_
  refine anyS_one (i := 4) (by kernel_rfl) ?_
  refine op_call rfl Tryz.call185 (vs := #[.agg #[u0, u1, u2, .slice A0 l.length c0, u4], .int .i64 (p)]) rfl rfl rfl (linkTo_i l p _ _ _ _ _ _ _ (H10.rowC 2 rfl)) ?_
  rintro e14 W13 ⟨rfl, hu12⟩
  refine ⟨_, rfl, ?_⟩
  have H15 : St w F0 [hB g_0_0 3 #[.int .i64 (p)], hB g 68 #[u0, u1, u2, .slice A0 l.length c0, u4], hR ki_Link 178 (.slice A0 l.length c0) l] W13 := H10.no hu12
  clear H10
  have hS16 : Blk W13 g 68 #[u0, u1, u2, .slice A0 l.length c0, u4] ∧ Blk W13 g_0_0 3 #[.int .i64 (p)] := ⟨H15.blk 1 rfl, H15.blk 0 rfl⟩
  refine ⟨fun _ => hS16, ?_⟩
  refine anyS_take (i := 5) rfl (by kernel_rfl) (by kernel_rfl) (by kernel_rfl) (by kernel_rfl) (by kernel_rfl) (fun _ _ _ h => h) rfl rfl hS16 (fun W' hs' => rn_assign rfl) ?_
  refine anyS_done (by kernel_rfl) ?_ _
  refine then_n ?_
  refine wp_seq ?_
  refine reg_seq [0, 1, 2, 3, 4] rfl ?_
  refine ops_cons ?_
  refine op_pure rfl (rn_move rfl) rfl rfl ?_
  by_cases hg17 : (0 : Int) ≤ (fidx (peP p) 0 l)
  · refine ops_cons ?_
    refine op_pure rfl (rn_decT hg17 (rn_geq rfl rfl)) rfl rfl ?_
    refine ops_cons ?_
    refine op_pure rfl (rn_move rfl) rfl rfl ?_
    refine ops_cons ?_
    refine op_G rfl rfl rfl rfl (fun _ ho18 => ?_)
    refine op_pure ho18 (rn_move rfl) rfl rfl ?_
    refine ops_cons ?_
    refine op_pure rfl (rn_pick (v := .bool (false)) (b := true) rfl rfl rfl rfl) rfl rfl ?_
    refine ops_nil ?_
    refine then_n ?_
    refine cond_f rfl ?_
    refine wp_skip ?_
    refine then_n ?_
    refine wp_seq ?_
    refine reg_seq [0] rfl ?_
    refine ops_cons ?_
    refine op_pure rfl (rn_assign rfl) rfl rfl ?_
    refine ops_nil ?_
    refine then_n ?_
    refine wp_ret ?_
    refine post_tmp (.inl rfl) Tryz.results167 rfl ?_
    exact ⟨rfl, H15.pick [1, 2] (by decide) rfl⟩
  · refine ops_cons ?_
    refine op_pure rfl (rn_decF hg17 (rn_geq rfl rfl)) rfl rfl ?_
    refine ops_cons ?_
    refine op_pure rfl (rn_move rfl) rfl rfl ?_
    refine ops_cons ?_
    refine op_skipG rfl rfl rfl rfl rfl rfl rfl ?_
    refine ops_cons ?_
    refine op_pure rfl (rn_pick (v := .bool (false)) (b := false) rfl rfl rfl rfl) rfl rfl ?_
    refine ops_nil ?_
    refine then_n ?_
    refine cond_f rfl ?_
    refine wp_skip ?_
    refine then_n ?_
    refine wp_seq ?_
    refine reg_seq [0] rfl ?_
    refine ops_cons ?_
    refine op_pure rfl (rn_assign rfl) rfl rfl ?_
    refine ops_nil ?_
    refine then_n ?_
    refine wp_ret ?_
    refine post_tmp (.inl rfl) Tryz.results167 rfl ?_
    exact ⟨rfl, H15.pick [1, 2] (by decide) rfl⟩
set_option maxHeartbeats 4000000 in
set_option maxRecDepth 100000 in
theorem isUp_s (x : GVat) (p : Int) (cs : List Value) (hl : x.Links.length ≤ 4194304) (w : World) (h : ki_Vat.K w x cs) : Calls Tryz.prog 91 #[.agg cs.toArray, .int .i64 p] w (RetBool (x.Links.any (upP p)) w) := by
  obtain ⟨Ax1, cx1, Ax2, cx2, Ax3, cx3, Ax4, cx4, rfl, hlx1, hCx1, hlx2, hCx2, hlx3, hCx3, hlx4, hCx4⟩ := ki_Vat_K h
  refine enter 29 [(0, .agg #[.int .i64 (x.Id), .slice Ax1 x.Entities.length cx1, .slice Ax2 x.Loop.length cx2, .slice Ax3 x.Links.length cx3, .slice Ax4 x.Out.length cx4]), (1, .int .i64 (p))] Tryz.func91 rfl (by kernel_rfl) ?_
  intro xj
  have H1 : St w No [] w := St.enter
  refine wp_seq ?_
  refine reg_seq [0, 1] rfl ?_
  refine ops_cons ?_
  refine op_box rfl rfl rfl rfl H1 ?_
  intro g_0_0 W2 hu3 Ha4
  clear H1
  have H5 : St w No [hB g_0_0 68 #[.int .i64 (x.Id), .slice Ax1 x.Entities.length cx1, .slice Ax2 x.Loop.length cx2, .slice Ax3 x.Links.length cx3, .slice Ax4 x.Out.length cx4]] W2 := Ha4
  clear Ha4
  clear hu3
  refine ops_cons ?_
  refine op_pure rfl (rn_assign rfl) rfl rfl ?_
  refine ops_nil ?_
  refine then_n ?_
  refine wp_seq ?_
  refine wp_seq ?_
  refine reg_seq [0] rfl ?_
  refine ops_cons ?_
  refine op_pure rfl (rn_assign rfl) rfl rfl ?_
  refine ops_nil ?_
  refine then_n ?_
  refine wp_block ?_
  refine wp_loop_ghost (fun r a' W' => ∃ (i1 : Nat) (x' : Nat → Value), a' = actOf 29 x' [(1, .int .i64 (p)), (2, .pointer (some ⟨g_0_0, 0, none⟩)), (5, .int .i64 (((i1 : Nat) : Int)))] ∧ (i1 + r = x.Links.length) ∧ (x.Links.any (upP p) = (x.Links.drop i1).any (upP p)) ∧ St w No [hB g_0_0 68 #[.int .i64 (x.Id), .slice Ax1 x.Entities.length cx1, .slice Ax2 x.Loop.length cx2, .slice Ax3 x.Links.length cx3, .slice Ax4 x.Out.length cx4]] W') x.Links.length ?_ ?_
  · exact (actOf_drop2 [(1, .int .i64 (p)), (2, .pointer (some ⟨g_0_0, 0, none⟩)), (5, .int .i64 (((0 : Nat) : Int)))] rfl).elim fun x' hx => ⟨0, x', hx, (by omega), (by rw [List.drop_zero]), H5⟩
  · rintro r6 _ W7 ⟨i1, x8, rfl, hi1, hf1, H9⟩
    clear H5
    refine wp_seq ?_
    refine wp_seq ?_
    refine reg_seq [0, 1, 2, 3, 4] rfl ?_
    refine ops_cons ?_
    refine op_pure rfl (rn_move rfl) rfl rfl ?_
    refine ops_cons ?_
    refine op_pure rfl (rn_field fa_68_3 rfl) rfl rfl ?_
    refine ops_cons ?_
    refine op_pure rfl (rn_loadC (k := 3) (v := .slice Ax3 x.Links.length cx3) Tryz.isAgg65 rfl (H9.blk 0 rfl) rfl) rfl rfl ?_
    refine ops_cons ?_
    refine op_pure rfl (rn_len Tryz.runUnderlying65 rfl) rfl rfl ?_
    refine ops_cons ?_
    refine op_pure rfl (rn_lss rfl rfl) rfl rfl ?_
    refine ops_nil ?_
    refine then_n ?_
    refine cond_dec rfl (fun hc10 => ?_) (fun hc10 => ?_)
    · have hlt1 : i1 < x.Links.length := by omega
      obtain ⟨ade11, cse11, hAe11, hKe11, hce11⟩ := C_elem hCx3 i1 hlt1
      have hle11 := ki_Link_len hKe11
      have hoe11 := ki_Link_one hKe11
      obtain ⟨Aade11_2, cade11_2, Aade11_4, cade11_4, Aade11_6, cade11_6, rfl, hlade11_2, hCade11_2, hlade11_4, hCade11_4, hlade11_6, hCade11_6⟩ := ki_Link_K hKe11
      refine wp_skip ?_
      refine then_n ?_
      refine wp_seq ?_
      refine wp_block ?_
      refine wp_seq ?_
      refine reg_seq [0, 1, 2, 3, 4, 5, 6, 7, 8, 9, 10, 11, 12, 13, 14, 15] rfl ?_
      refine ops_cons ?_
      refine op_pure rfl (rn_field fa_68_3 rfl) rfl rfl ?_
      refine ops_cons ?_
      refine op_pure rfl (rn_loadC (k := 3) (v := .slice Ax3 x.Links.length cx3) Tryz.isAgg65 rfl (H9.blk 0 rfl) rfl) rfl rfl ?_
      refine ops_cons ?_
      refine op_pure rfl (rn_move rfl) rfl rfl ?_
      refine ops_cons ?_
      refine op_pure rfl (rn_indexA (k := i1) Tryz.runUnderlying65 Tryz.sizeOf178 rfl rfl hAe11 hlt1) rfl rfl ?_
      refine ops_cons ?_
      refine op_pure rfl (rn_field fa_178_0 rfl) rfl rfl ?_
      refine ops_cons ?_
      refine op_pure rfl (rn_loadE (v := .int .i64 (x.Links[i1].Peer)) Tryz.isAgg3 rfl (Cat.upd hce11 H9.1) rfl) rfl rfl ?_
      refine ops_cons ?_
      refine op_pure rfl (rn_move rfl) rfl rfl ?_
      by_cases hg12 : ((x.Links[i1].Peer) : Int) = p
      · refine ops_cons ?_
        refine op_pure rfl (rn_decT hg12 (rn_eql rfl rfl)) rfl rfl ?_
        refine ops_cons ?_
        refine op_pure rfl (rn_move rfl) rfl rfl ?_
        refine ops_cons ?_
        refine op_G rfl rfl rfl rfl (fun _ ho13 => ?_)
        refine op_pure ho13 (rn_field fa_68_3 rfl) rfl rfl ?_
        refine ops_cons ?_
        refine op_G rfl rfl rfl rfl (fun _ ho14 => ?_)
        refine op_pure ho14 (rn_loadC (k := 3) (v := .slice Ax3 x.Links.length cx3) Tryz.isAgg65 rfl (H9.blk 0 rfl) rfl) rfl rfl ?_
        refine ops_cons ?_
        refine op_G rfl rfl rfl rfl (fun _ ho15 => ?_)
        refine op_pure ho15 (rn_move rfl) rfl rfl ?_
        refine ops_cons ?_
        refine op_G rfl rfl rfl rfl (fun _ ho16 => ?_)
        refine op_pure ho16 (rn_indexA (k := i1) Tryz.runUnderlying65 Tryz.sizeOf178 rfl rfl hAe11 hlt1) rfl rfl ?_
        refine ops_cons ?_
        refine op_G rfl rfl rfl rfl (fun _ ho17 => ?_)
        refine op_pure ho17 (rn_field fa_178_1 rfl) rfl rfl ?_
        by_cases hg18 : (x.Links[i1].Up) = true
        · refine ops_cons ?_
          refine op_G rfl rfl rfl rfl (fun _ ho19 => ?_)
          refine op_pure ho19 (rn_bool (b := x.Links[i1].Up) hg18 (rn_loadE (v := .bool (x.Links[i1].Up)) Tryz.isAgg4 rfl (Cat.upd hce11 H9.1) rfl)) rfl rfl ?_
          refine ops_cons ?_
          refine op_pure rfl (rn_pick (v := .bool (true)) (b := true) rfl rfl rfl rfl) rfl rfl ?_
          refine ops_nil ?_
          refine then_n ?_
          refine cond_t rfl ?_
          refine wp_seq ?_
          refine reg_seq [0] rfl ?_
          refine ops_cons ?_
          refine op_pure rfl (rn_assign rfl) rfl rfl ?_
          refine ops_nil ?_
          refine then_n ?_
          refine wp_ret ?_
          refine inB_r ?_
          refine then_r ?_
          refine then_r ?_
          refine inB_r ?_
          refine then_r ?_
          refine post_tmp (.inl rfl) Tryz.results91 rfl ?_
          exact ⟨by rw [hf1, any_yes (upP p) x.Links _ hlt1 (by simp only [upP, Bool.and_eq_true]; exact ⟨decide_eq_true (by assumption), by assumption⟩)], H9.1⟩
        · refine ops_cons ?_
          refine op_G rfl rfl rfl rfl (fun _ ho20 => ?_)
          refine op_pure ho20 (rn_bool (b := x.Links[i1].Up) (eq_false_of_ne_true hg18) (rn_loadE (v := .bool (x.Links[i1].Up)) Tryz.isAgg4 rfl (Cat.upd hce11 H9.1) rfl)) rfl rfl ?_
          refine ops_cons ?_
          refine op_pure rfl (rn_pick (v := .bool (false)) (b := true) rfl rfl rfl rfl) rfl rfl ?_
          refine ops_nil ?_
          refine then_n ?_
          refine cond_f rfl ?_
          refine wp_skip ?_
          refine inB_n ?_
          refine then_n ?_
          refine reg_seq [0, 1, 2] rfl ?_
          refine ops_cons ?_
          refine op_pure rfl (rn_move rfl) rfl rfl ?_
          refine ops_cons ?_
          refine op_pure rfl (rn_inc (k := i1) rfl rfl (by omega)) rfl rfl ?_
          refine ops_cons ?_
          refine op_pure rfl (rn_assign rfl) rfl rfl ?_
          refine ops_nil ?_
          refine then_n ?_
          exact (actOf_drop2 [(1, .int .i64 (p)), (2, .pointer (some ⟨g_0_0, 0, none⟩)), (5, .int .i64 (((i1 + 1 : Nat) : Int)))] rfl).elim fun x' hx => ⟨r6 - 1, (by omega), i1 + 1, x', hx, (by omega), (hf1.trans (any_no (upP p) x.Links i1 hlt1 (by simp only [upP, Bool.and_eq_false_iff]; first | exact .inl (decide_eq_false (by assumption)) | exact .inr (Bool.eq_false_iff.2 (by assumption))))), H9⟩
      · refine ops_cons ?_
        refine op_pure rfl (rn_decF hg12 (rn_eql rfl rfl)) rfl rfl ?_
        refine ops_cons ?_
        refine op_pure rfl (rn_move rfl) rfl rfl ?_
        refine ops_cons ?_
        refine op_skipG rfl rfl rfl rfl rfl rfl rfl ?_
        refine ops_cons ?_
        refine op_skipG rfl rfl rfl rfl rfl rfl rfl ?_
        refine ops_cons ?_
        refine op_skipG rfl rfl rfl rfl rfl rfl rfl ?_
        refine ops_cons ?_
        refine op_skipG rfl rfl rfl rfl rfl rfl rfl ?_
        refine ops_cons ?_
        refine op_skipG rfl rfl rfl rfl rfl rfl rfl ?_
        refine ops_cons ?_
        refine op_skipG rfl rfl rfl rfl rfl rfl rfl ?_
        refine ops_cons ?_
        refine op_pure rfl (rn_pick (v := .bool (false)) (b := false) rfl rfl rfl rfl) rfl rfl ?_
        refine ops_nil ?_
        refine then_n ?_
        refine cond_f rfl ?_
        refine wp_skip ?_
        refine inB_n ?_
        refine then_n ?_
        refine reg_seq [0, 1, 2] rfl ?_
        refine ops_cons ?_
        refine op_pure rfl (rn_move rfl) rfl rfl ?_
        refine ops_cons ?_
        refine op_pure rfl (rn_inc (k := i1) rfl rfl (by omega)) rfl rfl ?_
        refine ops_cons ?_
        refine op_pure rfl (rn_assign rfl) rfl rfl ?_
        refine ops_nil ?_
        refine then_n ?_
        exact (actOf_drop2 [(1, .int .i64 (p)), (2, .pointer (some ⟨g_0_0, 0, none⟩)), (5, .int .i64 (((i1 + 1 : Nat) : Int)))] rfl).elim fun x' hx => ⟨r6 - 1, (by omega), i1 + 1, x', hx, (by omega), (hf1.trans (any_no (upP p) x.Links i1 hlt1 (by simp only [upP, Bool.and_eq_false_iff]; first | exact .inl (decide_eq_false (by assumption)) | exact .inr (Bool.eq_false_iff.2 (by assumption))))), H9⟩
    · have hge1 : x.Links.length ≤ i1 := by omega
      refine wp_exit ?_
      refine then_x ?_
      refine then_x ?_
      refine inB_x ?_
      refine then_n ?_
      refine wp_seq ?_
      refine reg_seq [0] rfl ?_
      refine ops_cons ?_
      refine op_pure rfl (rn_assign rfl) rfl rfl ?_
      refine ops_nil ?_
      refine then_n ?_
      refine wp_ret ?_
      refine post_tmp (.inl rfl) Tryz.results91 rfl ?_
      exact ⟨by rw [hf1, any_end (upP p) x.Links _ hge1], H9.1⟩
end Go.Proofs.YtfnedoiplblldaaGreatFam
