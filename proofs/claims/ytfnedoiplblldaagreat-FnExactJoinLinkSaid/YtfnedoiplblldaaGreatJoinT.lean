/- JoinLink: what the reference and the program compute. No conditions. -/
import Derived.Test.YtfnedoiplblldaaGreatProg
import Derived.Test.YtfnedoiplblldaaGreatTy
import Derived.Test.YtfnedoiplblldaaGreatOpn
import Derived.Test.YtfnedoiplblldaaGreatSym3
import Derived.Test.YtfnedoiplblldaaGreatMks
import Derived.Test.YtfnedoiplblldaaGreatUps
namespace Go.Proofs.YtfnedoiplblldaaGreatFam
open Go.ChangeShapes Go.WideShapes Go.RowKit Go.Proofs.YtfnedoiplblldaaGreatSep Go.Proofs.YtfnedoiplblldaaGreatT Go.Proofs.YtfnedoiplblldaaGreatK
set_option linter.unusedVariables false
set_option linter.unusedSimpArgs false
attribute [local irreducible] wpOps wpOp
def jOk (p : Int) (le : List GEntity) (ll : List GLink) : Bool := decide (0 ≤ fidx (peP p) 0 ll) && (!(ll.getD (fidx (peP p) 0 ll).toNat (zL 0)).Up && decide (le.length < 200))
def jE (p : Int) (le : List GEntity) (ll : List GLink) : List GEntity := if jOk p le ll = true then addL (prE p 1) le else le
def jL (p : Int) (le : List GEntity) (ll : List GLink) : List GLink := if jOk p le ll = true then ll.set (fidx (peP p) 0 ll).toNat (pxV 0 (zL p)) else ll
def jN (p : Int) (le : List GEntity) (ll : List GLink) : Int := if jOk p le ll = true then addN le else -1
def joinV (p : Int) (x : GVat) : GVat := ⟨x.Id, jE p x.Entities x.Links, x.Loop, jL p x.Entities x.Links, x.Out⟩
theorem j_no (p : Int) (le : List GEntity) (ll : List GLink) (hf : fidx (peP p) 0 ll = -1) : jOk p le ll = false := by
  unfold jOk
  rw [hf]
  rfl
theorem j_yes (p : Int) (le : List GEntity) (ll : List GLink) (k : Nat) (hk : k < ll.length) (hf : fidx (peP p) 0 ll = (k : Int)) : jOk p le ll = (!ll[k].Up && decide (le.length < 200)) := by
  have h0 : (0 : Int) ≤ (k : Int) := by omega
  have hd : ll.getD k (zL 0) = ll[k] := by simp [List.getD, hk]
  unfold jOk
  rw [hf, Int.toNat_natCast, hd, decide_eq_true h0, Bool.true_and]
theorem j_out (p : Int) (le : List GEntity) (ll : List GLink) (h : jOk p le ll = false) : jE p le ll = le ∧ jL p le ll = ll ∧ jN p le ll = -1 := by
  unfold jE jL jN
  rw [h]
  exact ⟨rfl, rfl, rfl⟩
theorem j_in (p : Int) (le : List GEntity) (ll : List GLink) (k : Nat) (hf : fidx (peP p) 0 ll = (k : Int)) (h : jOk p le ll = true) : jE p le ll = addL (prE p 1) le ∧ jL p le ll = ll.set k (pxV 0 (zL p)) ∧ jN p le ll = addN le := by
  unfold jE jL jN
  rw [h, hf]
  exact ⟨rfl, rfl, rfl⟩
theorem sumS_set {α : Type} (s : α → Nat) (y : α) : ∀ (l : List α) (k : Nat), sumS s (l.set k y) ≤ sumS s l + s y
  | [], k => by simp [sumS]
  | x :: l, 0 => by
    simp only [List.set_cons_zero, sumS]
    omega
  | x :: l, k + 1 => by
    have := sumS_set s y l k
    simp only [List.set_cons_succ, sumS]
    omega
theorem joinV_bd (p : Int) (x : GVat) (h : szn_Vat x ≤ 1048576) : szn_Vat (joinV p x) ≤ 4194304 := by
  have h1 : sznS szn_Entity (jE p x.Entities x.Links) ≤ sznS szn_Entity x.Entities + 1 := by
    unfold jE addL
    split
    · split
      · unfold sznS
        rw [sumS_append, List.length_append, List.length_singleton]
        have h0 : sumS szn_Entity [prE p 1] = 0 := rfl
        omega
      · omega
    · omega
  have h2 : sznS szn_Link (jL p x.Entities x.Links) ≤ sznS szn_Link x.Links + 1 := by
    unfold jL
    split
    · have h3 := sumS_set szn_Link (pxV 0 (zL p)) x.Links (fidx (peP p) 0 x.Links).toNat
      have h4 : szn_Link (pxV 0 (zL p)) = 1 := rfl
      unfold sznS
      rw [List.length_set]
      omega
    · omega
  unfold szn_Vat at h ⊢
  simp only [joinV]
  omega
theorem vat_closeN {W : World} {F : Nat → Prop} {x : GVat} {n : Nat} {B1 : Option Addr} {c1 : Nat} {B2 : Option Addr} {c2 : Nat} {B3 : Option Addr} {c3 : Nat} {B4 : Option Addr} {c4 : Nat} (hn : n = x.Links.length) (h : Star [hR ki_Entity 171 (.slice B1 x.Entities.length c1) x.Entities, hR ki_Sent 235 (.slice B2 x.Loop.length c2) x.Loop, hR ki_Link 178 (.slice B3 n c3) x.Links, hR ki_Outgoing 147 (.slice B4 x.Out.length c4) x.Out] W F) : ki_Vat.M W F x [.int .i64 (x.Id), .slice B1 x.Entities.length c1, .slice B2 x.Loop.length c2, .slice B3 n c3, .slice B4 x.Out.length c4] := by
  subst hn
  exact ki_Vat_close h
set_option maxHeartbeats 4000000 in
set_option maxRecDepth 100000 in
theorem linkTo_s (x : GVat) (p : Int) (cs : List Value) (hl : x.Links.length ≤ 4194304) (w : World) (h : ki_Vat.K w x cs) (q : Int) (hq : fidx (peP p) 0 x.Links = q) : Calls Tryz.prog 124 #[.agg cs.toArray, .int .i64 p] w (RetInt q w) := by
  obtain ⟨Ax1, cx1, Ax2, cx2, Ax3, cx3, Ax4, cx4, rfl, hlx1, hCx1, hlx2, hCx2, hlx3, hCx3, hlx4, hCx4⟩ := ki_Vat_K h
  refine enter 22 [(0, .agg #[.int .i64 (x.Id), .slice Ax1 x.Entities.length cx1, .slice Ax2 x.Loop.length cx2, .slice Ax3 x.Links.length cx3, .slice Ax4 x.Out.length cx4]), (1, .int .i64 (p))] Tryz.func124 rfl (by kernel_rfl) ?_
  intro xj
  have H1 : St w No [] w := St.enter
  refine wp_seq ?_
  refine reg_seq [0, 1] rfl ?_
  refine ops_cons ?_
  refine op_box rfl rfl rfl rfl H1 ?_
  intro g_0_0 W2 hu3 Ha4
  clear H1
  have H5 : St w No [hB g_0_0 68 #[.int .i64 (x.Id), .slice Ax1 x.Entities.length cx1, .slice Ax2 x.Loop.length cx2, .slice Ax3 x.Links.length cx3, .slice Ax4 x.Out.length cx4]] W2 := Ha4
  clear Ha4
  clear hu3
  refine ops_cons ?_
  refine op_pure rfl (rn_assign rfl) rfl rfl ?_
  refine ops_nil ?_
  refine then_n ?_
  refine wp_seq ?_
  refine wp_seq ?_
  refine reg_seq [0] rfl ?_
  refine ops_cons ?_
  refine op_pure rfl (rn_assign rfl) rfl rfl ?_
  refine ops_nil ?_
  refine then_n ?_
  refine wp_block ?_
  refine wp_loop_ghost (fun r a' W' => ∃ (i1 : Nat) (x' : Nat → Value), a' = actOf 22 x' [(1, .int .i64 (p)), (2, .pointer (some ⟨g_0_0, 0, none⟩)), (5, .int .i64 (((i1 : Nat) : Int)))] ∧ (i1 + r = x.Links.length) ∧ (fidx (peP p) 0 x.Links = fidx (peP p) ((i1 : Nat) : Int) (x.Links.drop i1)) ∧ St w No [hB g_0_0 68 #[.int .i64 (x.Id), .slice Ax1 x.Entities.length cx1, .slice Ax2 x.Loop.length cx2, .slice Ax3 x.Links.length cx3, .slice Ax4 x.Out.length cx4]] W') x.Links.length ?_ ?_
  · exact (actOf_drop2 [(1, .int .i64 (p)), (2, .pointer (some ⟨g_0_0, 0, none⟩)), (5, .int .i64 (((0 : Nat) : Int)))] rfl).elim fun x' hx => ⟨0, x', hx, (by omega), (by rw [List.drop_zero]; rfl), H5⟩
  · rintro r6 _ W7 ⟨i1, x8, rfl, hi1, hf1, H9⟩
    clear H5
    refine wp_seq ?_
    refine wp_seq ?_
    refine reg_seq [0, 1, 2, 3, 4] rfl ?_
    refine ops_cons ?_
    refine op_pure rfl (rn_move rfl) rfl rfl ?_
    refine ops_cons ?_
    refine op_pure rfl (rn_field fa_68_3 rfl) rfl rfl ?_
    refine ops_cons ?_
    refine op_pure rfl (rn_loadC (k := 3) (v := .slice Ax3 x.Links.length cx3) Tryz.isAgg65 rfl (H9.blk 0 rfl) rfl) rfl rfl ?_
    refine ops_cons ?_
    refine op_pure rfl (rn_len Tryz.runUnderlying65 rfl) rfl rfl ?_
    refine ops_cons ?_
    refine op_pure rfl (rn_lss rfl rfl) rfl rfl ?_
    refine ops_nil ?_
    refine then_n ?_
    refine cond_dec rfl (fun hc10 => ?_) (fun hc10 => ?_)
    · have hlt1 : i1 < x.Links.length := by omega
      obtain ⟨ade11, cse11, hAe11, hKe11, hce11⟩ := C_elem hCx3 i1 hlt1
      have hle11 := ki_Link_len hKe11
      have hoe11 := ki_Link_one hKe11
      obtain ⟨Aade11_2, cade11_2, Aade11_4, cade11_4, Aade11_6, cade11_6, rfl, hlade11_2, hCade11_2, hlade11_4, hCade11_4, hlade11_6, hCade11_6⟩ := ki_Link_K hKe11
      refine wp_skip ?_
      refine then_n ?_
      refine wp_seq ?_
      refine wp_block ?_
      refine wp_seq ?_
      refine reg_seq [0, 1, 2, 3, 4, 5, 6, 7] rfl ?_
      refine ops_cons ?_
      refine op_pure rfl (rn_field fa_68_3 rfl) rfl rfl ?_
      refine ops_cons ?_
      refine op_pure rfl (rn_loadC (k := 3) (v := .slice Ax3 x.Links.length cx3) Tryz.isAgg65 rfl (H9.blk 0 rfl) rfl) rfl rfl ?_
      refine ops_cons ?_
      refine op_pure rfl (rn_move rfl) rfl rfl ?_
      refine ops_cons ?_
      refine op_pure rfl (rn_indexA (k := i1) Tryz.runUnderlying65 Tryz.sizeOf178 rfl rfl hAe11 hlt1) rfl rfl ?_
      refine ops_cons ?_
      refine op_pure rfl (rn_field fa_178_0 rfl) rfl rfl ?_
      refine ops_cons ?_
      refine op_pure rfl (rn_loadE (v := .int .i64 (x.Links[i1].Peer)) Tryz.isAgg3 rfl (Cat.upd hce11 H9.1) rfl) rfl rfl ?_
      refine ops_cons ?_
      refine op_pure rfl (rn_move rfl) rfl rfl ?_
      refine ops_cons ?_
      refine op_pure rfl (rn_eql rfl rfl) rfl rfl ?_
      refine ops_nil ?_
      refine then_n ?_
      refine cond_dec rfl (fun hc12 => ?_) (fun hc12 => ?_)
      · refine wp_seq ?_
        refine reg_seq [0, 1] rfl ?_
        refine ops_cons ?_
        refine op_pure rfl (rn_move rfl) rfl rfl ?_
        refine ops_cons ?_
        refine op_pure rfl (rn_assign rfl) rfl rfl ?_
        refine ops_nil ?_
        refine then_n ?_
        refine wp_ret ?_
        refine inB_r ?_
        refine then_r ?_
        refine then_r ?_
        refine inB_r ?_
        refine then_r ?_
        refine post_tmp (.inl rfl) Tryz.results124 rfl ?_
        exact ⟨by rw [← hq, hf1, fidx_yes (peP p) x.Links _ hlt1 (decide_eq_true (by assumption))], H9.1⟩
      · refine wp_skip ?_
        refine inB_n ?_
        refine then_n ?_
        refine reg_seq [0, 1, 2] rfl ?_
        refine ops_cons ?_
        refine op_pure rfl (rn_move rfl) rfl rfl ?_
        refine ops_cons ?_
        refine op_pure rfl (rn_inc (k := i1) rfl rfl (by omega)) rfl rfl ?_
        refine ops_cons ?_
        refine op_pure rfl (rn_assign rfl) rfl rfl ?_
        refine ops_nil ?_
        refine then_n ?_
        exact (actOf_drop2 [(1, .int .i64 (p)), (2, .pointer (some ⟨g_0_0, 0, none⟩)), (5, .int .i64 (((i1 + 1 : Nat) : Int)))] rfl).elim fun x' hx => ⟨r6 - 1, (by omega), i1 + 1, x', hx, (by omega), (hf1.trans (fidx_no (peP p) x.Links i1 hlt1 (decide_eq_false (by assumption)))), H9⟩
    · have hge1 : x.Links.length ≤ i1 := by omega
      refine wp_exit ?_
      refine then_x ?_
      refine then_x ?_
      refine inB_x ?_
      refine then_n ?_
      refine wp_seq ?_
      refine reg_seq [0] rfl ?_
      refine ops_cons ?_
      refine op_pure rfl (rn_assign rfl) rfl rfl ?_
      refine ops_nil ?_
      refine then_n ?_
      refine wp_ret ?_
      refine post_tmp (.inl rfl) Tryz.results124 rfl ?_
      exact ⟨by rw [← hq, hf1, fidx_end (peP p) x.Links _ hge1], H9.1⟩
set_option maxHeartbeats 4000000 in
set_option maxRecDepth 100000 in
theorem joinLink_s_no (x : GVat) (p : Int) (cs : List Value) (w : World) (h : ki_Vat.K w x cs) (hs : szn_Vat x ≤ 4194304) (hf : fidx (peP p) 0 x.Links = -1) : Calls Tryz.prog 41 #[.agg cs.toArray, .int .i64 p] w (RetAI ki_Vat (joinV p x) (jN p x.Entities x.Links) w) := by
  obtain ⟨Ax1, cx1, Ax2, cx2, Ax3, cx3, Ax4, cx4, rfl, hlx1, hCx1, hlx2, hCx2, hlx3, hCx3, hlx4, hCx4⟩ := ki_Vat_K h
  have s_Entities : sznS szn_Entity x.Entities ≤ 4194304 := by unfold szn_Vat at hs; omega
  have n_Entities : x.Entities.length ≤ 4194304 := by unfold sznS at s_Entities; omega
  have s_Loop : sznS szn_Sent x.Loop ≤ 4194304 := by unfold szn_Vat at hs; omega
  have n_Loop : x.Loop.length ≤ 4194304 := by unfold sznS at s_Loop; omega
  have s_Links : sznS szn_Link x.Links ≤ 4194304 := by unfold szn_Vat at hs; omega
  have n_Links : x.Links.length ≤ 4194304 := by unfold sznS at s_Links; omega
  have s_Out : sznS szn_Outgoing x.Out ≤ 4194304 := by unfold szn_Vat at hs; omega
  have n_Out : x.Out.length ≤ 4194304 := by unfold sznS at s_Out; omega
  refine enter 52 [(0, .agg #[.int .i64 (x.Id), .slice Ax1 x.Entities.length cx1, .slice Ax2 x.Loop.length cx2, .slice Ax3 x.Links.length cx3, .slice Ax4 x.Out.length cx4]), (1, .int .i64 (p))] Tryz.func41 rfl (by kernel_rfl) ?_
  intro xj
  have H1 : St w No [] w := St.enter
  refine wp_seq ?_
  refine reg_seq [0, 1, 2] rfl ?_
  refine ops_cons ?_
  refine op_box rfl rfl rfl rfl H1 ?_
  intro g_0_0 W2 hu3 Ha4
  clear H1
  have H5 : St w No [hB g_0_0 68 #[.int .i64 (x.Id), .slice Ax1 x.Entities.length cx1, .slice Ax2 x.Loop.length cx2, .slice Ax3 x.Links.length cx3, .slice Ax4 x.Out.length cx4]] W2 := Ha4
  clear Ha4
  clear hu3
  refine ops_cons ?_
  refine op_alloc rfl Tryz.zeroValue68 rfl rfl H5 ?_
  intro g_0_1 W6 hu7 Ha8
  clear H5
  have H9 : St w No [hB g_0_1 68 #[.int .i64 (0), .slice none 0 0, .slice none 0 0, .slice none 0 0, .slice none 0 0], hB g_0_0 68 #[.int .i64 (x.Id), .slice Ax1 x.Entities.length cx1, .slice Ax2 x.Loop.length cx2, .slice Ax3 x.Links.length cx3, .slice Ax4 x.Out.length cx4]] W6 := Ha8
  clear Ha8
  clear hu7
  refine ops_cons ?_
  refine op_pure rfl (rn_assign rfl) rfl rfl ?_
  refine ops_nil ?_
  refine then_n ?_
  refine wp_seq ?_
  refine reg_seq [0, 1, 2, 3] rfl ?_
  refine ops_cons ?_
  refine op_pure rfl (rn_loadB Tryz.isAgg68 Tryz.sizeOf68 rfl (H9.blk 1 rfl) rfl) rfl rfl ?_
  refine ops_cons ?_
  refine op_pure rfl (rn_move rfl) rfl rfl ?_
  refine ops_cons ?_
  refine op_call rfl Tryz.call124 (vs := #[.agg #[.int .i64 (x.Id), .slice Ax1 x.Entities.length cx1, .slice Ax2 x.Loop.length cx2, .slice Ax3 x.Links.length cx3, .slice Ax4 x.Out.length cx4], .int .i64 (p)]) rfl rfl rfl (linkTo_s x p _ n_Links _ (ki_Vat_Kmk _ x hlx1 (C_upd H9.1 hCx1) hlx2 (C_upd H9.1 hCx2) hlx3 (C_upd H9.1 hCx3) hlx4 (C_upd H9.1 hCx4)) (-1) hf) ?_
  rintro e12 W11 ⟨rfl, hu10⟩
  refine ⟨_, rfl, ?_⟩
  have H13 : St w No [hB g_0_1 68 #[.int .i64 (0), .slice none 0 0, .slice none 0 0, .slice none 0 0, .slice none 0 0], hB g_0_0 68 #[.int .i64 (x.Id), .slice Ax1 x.Entities.length cx1, .slice Ax2 x.Loop.length cx2, .slice Ax3 x.Links.length cx3, .slice Ax4 x.Out.length cx4]] W11 := H9.no hu10
  clear H9
  refine ops_cons ?_
  refine op_pure rfl (rn_assign rfl) rfl rfl ?_
  refine ops_nil ?_
  refine then_n ?_
  refine wp_seq ?_
  refine wp_seq ?_
  refine reg_seq [0, 1, 2, 3, 4, 5, 6, 7, 8, 9, 10, 11, 12, 13, 14, 15] rfl ?_
  refine ops_cons ?_
  refine op_pure rfl (rn_move rfl) rfl rfl ?_
  refine ops_cons ?_
  refine op_pure rfl (rn_decT (p := ((-1) : Int) < 0) (by decide) (rn_lss (p := (-1)) (q := 0) rfl rfl)) rfl rfl ?_
  refine ops_cons ?_
  refine op_pure rfl (rn_move rfl) rfl rfl ?_
  refine ops_cons ?_
  refine op_skipG rfl rfl rfl rfl rfl rfl rfl ?_
  refine ops_cons ?_
  refine op_skipG rfl rfl rfl rfl rfl rfl rfl ?_
  refine ops_cons ?_
  refine op_skipG rfl rfl rfl rfl rfl rfl rfl ?_
  refine ops_cons ?_
  refine op_skipG rfl rfl rfl rfl rfl rfl rfl ?_
  refine ops_cons ?_
  refine op_skipG rfl rfl rfl rfl rfl rfl rfl ?_
  refine ops_cons ?_
  refine op_skipG rfl rfl rfl rfl rfl rfl rfl ?_
  refine ops_cons ?_
  refine op_pure rfl (rn_pick (v := .bool (true)) (b := true) rfl rfl rfl rfl) rfl rfl ?_
  refine ops_cons ?_
  refine op_pure rfl (rn_move rfl) rfl rfl ?_
  refine ops_cons ?_
  refine op_skipG rfl rfl rfl rfl rfl rfl rfl ?_
  refine ops_cons ?_
  refine op_skipG rfl rfl rfl rfl rfl rfl rfl ?_
  refine ops_cons ?_
  refine op_skipG rfl rfl rfl rfl rfl rfl rfl ?_
  refine ops_cons ?_
  refine op_skipG rfl rfl rfl rfl rfl rfl rfl ?_
  refine ops_cons ?_
  refine op_pure rfl (rn_pick (v := .bool (true)) (b := true) rfl rfl rfl rfl) rfl rfl ?_
  refine ops_nil ?_
  refine then_n ?_
  refine cond_t rfl ?_
  refine wp_seq ?_
  refine reg_seq [0, 1, 2, 3] rfl ?_
  refine ops_cons ?_
  refine op_pure rfl (rn_loadB Tryz.isAgg68 Tryz.sizeOf68 rfl (H13.blk 1 rfl) rfl) rfl rfl ?_
  refine ops_cons ?_
  refine op_call rfl Tryz.call90 (vs := #[.agg #[.int .i64 (x.Id), .slice Ax1 x.Entities.length cx1, .slice Ax2 x.Loop.length cx2, .slice Ax3 x.Links.length cx3, .slice Ax4 x.Out.length cx4]]) rfl rfl rfl (l12Copy_s x _ _ (ki_Vat_Kmk _ x hlx1 (C_upd H13.1 hCx1) hlx2 (C_upd H13.1 hCx2) hlx3 (C_upd H13.1 hCx3) hlx4 (C_upd H13.1 hCx4)) hs) ?_
  rintro e17 W16 ⟨cs_3_1, rfl, hM14, hu15⟩
  refine ⟨_, rfl, ?_⟩
  have hl18 := ki_Vat_len (ki_Vat.K_of_M hM14)
  have ho19 := ki_Vat_one (ki_Vat.K_of_M hM14)
  have H20 : St w No [hM ki_Vat x cs_3_1, hB g_0_1 68 #[.int .i64 (0), .slice none 0 0, .slice none 0 0, .slice none 0 0, .slice none 0 0], hB g_0_0 68 #[.int .i64 (x.Id), .slice Ax1 x.Entities.length cx1, .slice Ax2 x.Loop.length cx2, .slice Ax3 x.Links.length cx3, .slice Ax4 x.Out.length cx4]] W16 := H13.new hu15 hM14
  clear H13
  refine ops_cons ?_
  have H24 : St w No [hB g_0_1 68 #[.int .i64 (0), .slice none 0 0, .slice none 0 0, .slice none 0 0, .slice none 0 0], hM ki_Vat x cs_3_1, hB g_0_0 68 #[.int .i64 (x.Id), .slice Ax1 x.Entities.length cx1, .slice Ax2 x.Loop.length cx2, .slice Ax3 x.Links.length cx3, .slice Ax4 x.Out.length cx4]] W16 := H20.pick [1, 0, 2] (by decide) rfl
  clear H20
  refine op_storeW rfl Tryz.sizeOf68 rfl rfl (ki_Vat_len (H24.kn 1 rfl)) rfl (ki_Vat_one (H24.kn 1 rfl)) H24 ?_
  intro W21 hu22 Ha23
  clear H24
  have H25 : St w No [hB g_0_1 68 (List.toArray cs_3_1), hM ki_Vat x cs_3_1, hB g_0_0 68 #[.int .i64 (x.Id), .slice Ax1 x.Entities.length cx1, .slice Ax2 x.Loop.length cx2, .slice Ax3 x.Links.length cx3, .slice Ax4 x.Out.length cx4]] W21 := Ha23
  clear Ha23
  clear hu22
  refine ops_cons ?_
  refine op_pure rfl (rn_assign rfl) rfl rfl ?_
  refine ops_nil ?_
  refine then_n ?_
  refine wp_ret ?_
  refine then_r ?_
  obtain ⟨e1, e2, e3⟩ := j_out p x.Entities x.Links (j_no p x.Entities x.Links hf)
  refine post_cell_tmp (.inl rfl) Tryz.results41 Tryz.isAgg68 Tryz.sizeOf68 rfl rfl (H25.blk 0 rfl) (ki_Vat_len (H25.kn 1 rfl)) ?_
  unfold joinV
  rw [e1, e2, e3]
  have hq := (H25.pick [1] (by decide) rfl : St w No [hM ki_Vat x cs_3_1] W21).fin1
  exact ⟨_, rfl, hq.1, hq.2⟩
set_option maxHeartbeats 4000000 in
set_option maxRecDepth 100000 in
theorem joinLink_s_yes (x : GVat) (p : Int) (cs : List Value) (w : World) (h : ki_Vat.K w x cs) (hs : szn_Vat x ≤ 4194304) (k : Nat) (hk : k < x.Links.length) (hf : fidx (peP p) 0 x.Links = (k : Int)) : Calls Tryz.prog 41 #[.agg cs.toArray, .int .i64 p] w (RetAI ki_Vat (joinV p x) (jN p x.Entities x.Links) w) := by
  obtain ⟨Ax1, cx1, Ax2, cx2, Ax3, cx3, Ax4, cx4, rfl, hlx1, hCx1, hlx2, hCx2, hlx3, hCx3, hlx4, hCx4⟩ := ki_Vat_K h
  have s_Entities : sznS szn_Entity x.Entities ≤ 4194304 := by unfold szn_Vat at hs; omega
  have n_Entities : x.Entities.length ≤ 4194304 := by unfold sznS at s_Entities; omega
  have s_Loop : sznS szn_Sent x.Loop ≤ 4194304 := by unfold szn_Vat at hs; omega
  have n_Loop : x.Loop.length ≤ 4194304 := by unfold sznS at s_Loop; omega
  have s_Links : sznS szn_Link x.Links ≤ 4194304 := by unfold szn_Vat at hs; omega
  have n_Links : x.Links.length ≤ 4194304 := by unfold sznS at s_Links; omega
  have s_Out : sznS szn_Outgoing x.Out ≤ 4194304 := by unfold szn_Vat at hs; omega
  have n_Out : x.Out.length ≤ 4194304 := by unfold sznS at s_Out; omega
  obtain ⟨ade1, cse1, hAe1, hKe1, hce1⟩ := C_elem hCx3 k hk
  have hle1 := ki_Link_len hKe1
  have hoe1 := ki_Link_one hKe1
  obtain ⟨Aade1_2, cade1_2, Aade1_4, cade1_4, Aade1_6, cade1_6, rfl, hlade1_2, hCade1_2, hlade1_4, hCade1_4, hlade1_6, hCade1_6⟩ := ki_Link_K hKe1
  refine enter 52 [(0, .agg #[.int .i64 (x.Id), .slice Ax1 x.Entities.length cx1, .slice Ax2 x.Loop.length cx2, .slice Ax3 x.Links.length cx3, .slice Ax4 x.Out.length cx4]), (1, .int .i64 (p))] Tryz.func41 rfl (by kernel_rfl) ?_
  intro xj
  have H2 : St w No [] w := St.enter
  refine wp_seq ?_
  refine reg_seq [0, 1, 2] rfl ?_
  refine ops_cons ?_
  refine op_box rfl rfl rfl rfl H2 ?_
  intro g_0_0 W3 hu4 Ha5
  clear H2
  have H6 : St w No [hB g_0_0 68 #[.int .i64 (x.Id), .slice Ax1 x.Entities.length cx1, .slice Ax2 x.Loop.length cx2, .slice Ax3 x.Links.length cx3, .slice Ax4 x.Out.length cx4]] W3 := Ha5
  clear Ha5
  clear hu4
  refine ops_cons ?_
  refine op_alloc rfl Tryz.zeroValue68 rfl rfl H6 ?_
  intro g_0_1 W7 hu8 Ha9
  clear H6
  have H10 : St w No [hB g_0_1 68 #[.int .i64 (0), .slice none 0 0, .slice none 0 0, .slice none 0 0, .slice none 0 0], hB g_0_0 68 #[.int .i64 (x.Id), .slice Ax1 x.Entities.length cx1, .slice Ax2 x.Loop.length cx2, .slice Ax3 x.Links.length cx3, .slice Ax4 x.Out.length cx4]] W7 := Ha9
  clear Ha9
  clear hu8
  refine ops_cons ?_
  refine op_pure rfl (rn_assign rfl) rfl rfl ?_
  refine ops_nil ?_
  refine then_n ?_
  refine wp_seq ?_
  refine reg_seq [0, 1, 2, 3] rfl ?_
  refine ops_cons ?_
  refine op_pure rfl (rn_loadB Tryz.isAgg68 Tryz.sizeOf68 rfl (H10.blk 1 rfl) rfl) rfl rfl ?_
  refine ops_cons ?_
  refine op_pure rfl (rn_move rfl) rfl rfl ?_
  refine ops_cons ?_
  refine op_call rfl Tryz.call124 (vs := #[.agg #[.int .i64 (x.Id), .slice Ax1 x.Entities.length cx1, .slice Ax2 x.Loop.length cx2, .slice Ax3 x.Links.length cx3, .slice Ax4 x.Out.length cx4], .int .i64 (p)]) rfl rfl rfl (linkTo_s x p _ n_Links _ (ki_Vat_Kmk _ x hlx1 (C_upd H10.1 hCx1) hlx2 (C_upd H10.1 hCx2) hlx3 (C_upd H10.1 hCx3) hlx4 (C_upd H10.1 hCx4)) ((k : Nat) : Int) hf) ?_
  rintro e13 W12 ⟨rfl, hu11⟩
  refine ⟨_, rfl, ?_⟩
  have H14 : St w No [hB g_0_1 68 #[.int .i64 (0), .slice none 0 0, .slice none 0 0, .slice none 0 0, .slice none 0 0], hB g_0_0 68 #[.int .i64 (x.Id), .slice Ax1 x.Entities.length cx1, .slice Ax2 x.Loop.length cx2, .slice Ax3 x.Links.length cx3, .slice Ax4 x.Out.length cx4]] W12 := H10.no hu11
  clear H10
  refine ops_cons ?_
  refine op_pure rfl (rn_assign rfl) rfl rfl ?_
  refine ops_nil ?_
  refine then_n ?_
  refine wp_seq ?_
  refine wp_seq ?_
  refine reg_seq [0, 1, 2, 3, 4, 5, 6, 7, 8, 9, 10, 11, 12, 13, 14, 15] rfl ?_
  refine ops_cons ?_
  refine op_pure rfl (rn_move rfl) rfl rfl ?_
  refine ops_cons ?_
  refine op_pure rfl (rn_decF (p := (((k : Nat) : Int) : Int) < 0) (by omega) (rn_lss (p := ((k : Nat) : Int)) (q := 0) rfl rfl)) rfl rfl ?_
  refine ops_cons ?_
  refine op_pure rfl (rn_move rfl) rfl rfl ?_
  refine ops_cons ?_
  refine op_G rfl rfl rfl rfl (fun _ ho15 => ?_)
  refine op_pure ho15 (rn_field fa_68_3 rfl) rfl rfl ?_
  refine ops_cons ?_
  refine op_G rfl rfl rfl rfl (fun _ ho16 => ?_)
  refine op_pure ho16 (rn_loadC (k := 3) (v := .slice Ax3 x.Links.length cx3) Tryz.isAgg65 rfl (H14.blk 1 rfl) rfl) rfl rfl ?_
  refine ops_cons ?_
  refine op_G rfl rfl rfl rfl (fun _ ho17 => ?_)
  refine op_pure ho17 (rn_move rfl) rfl rfl ?_
  refine ops_cons ?_
  refine op_G rfl rfl rfl rfl (fun _ ho18 => ?_)
  refine op_pure ho18 (rn_indexA (k := k) Tryz.runUnderlying65 Tryz.sizeOf178 rfl rfl hAe1 hk) rfl rfl ?_
  refine ops_cons ?_
  refine op_G rfl rfl rfl rfl (fun _ ho19 => ?_)
  refine op_pure ho19 (rn_field fa_178_1 rfl) rfl rfl ?_
  by_cases hg20 : (x.Links[k].Up) = true
  · refine ops_cons ?_
    refine op_G rfl rfl rfl rfl (fun _ ho21 => ?_)
    refine op_pure ho21 (rn_bool (b := x.Links[k].Up) hg20 (rn_loadE (v := .bool (x.Links[k].Up)) Tryz.isAgg4 rfl (Cat.upd hce1 H14.1) rfl)) rfl rfl ?_
    refine ops_cons ?_
    refine op_pure rfl (rn_pick (v := .bool (true)) (b := false) rfl rfl rfl rfl) rfl rfl ?_
    refine ops_cons ?_
    refine op_pure rfl (rn_move rfl) rfl rfl ?_
    refine ops_cons ?_
    refine op_skipG rfl rfl rfl rfl rfl rfl rfl ?_
    refine ops_cons ?_
    refine op_skipG rfl rfl rfl rfl rfl rfl rfl ?_
    refine ops_cons ?_
    refine op_skipG rfl rfl rfl rfl rfl rfl rfl ?_
    refine ops_cons ?_
    refine op_skipG rfl rfl rfl rfl rfl rfl rfl ?_
    refine ops_cons ?_
    refine op_pure rfl (rn_pick (v := .bool (true)) (b := true) rfl rfl rfl rfl) rfl rfl ?_
    refine ops_nil ?_
    refine then_n ?_
    refine cond_t rfl ?_
    refine wp_seq ?_
    refine reg_seq [0, 1, 2, 3] rfl ?_
    refine ops_cons ?_
    refine op_pure rfl (rn_loadB Tryz.isAgg68 Tryz.sizeOf68 rfl (H14.blk 1 rfl) rfl) rfl rfl ?_
    refine ops_cons ?_
    refine op_call rfl Tryz.call90 (vs := #[.agg #[.int .i64 (x.Id), .slice Ax1 x.Entities.length cx1, .slice Ax2 x.Loop.length cx2, .slice Ax3 x.Links.length cx3, .slice Ax4 x.Out.length cx4]]) rfl rfl rfl (l12Copy_s x _ _ (ki_Vat_Kmk _ x hlx1 (C_upd H14.1 hCx1) hlx2 (C_upd H14.1 hCx2) hlx3 (C_upd H14.1 hCx3) hlx4 (C_upd H14.1 hCx4)) hs) ?_
    rintro e25 W24 ⟨cs_3_1, rfl, hM22, hu23⟩
    refine ⟨_, rfl, ?_⟩
    have hl26 := ki_Vat_len (ki_Vat.K_of_M hM22)
    have ho27 := ki_Vat_one (ki_Vat.K_of_M hM22)
    have H28 : St w No [hM ki_Vat x cs_3_1, hB g_0_1 68 #[.int .i64 (0), .slice none 0 0, .slice none 0 0, .slice none 0 0, .slice none 0 0], hB g_0_0 68 #[.int .i64 (x.Id), .slice Ax1 x.Entities.length cx1, .slice Ax2 x.Loop.length cx2, .slice Ax3 x.Links.length cx3, .slice Ax4 x.Out.length cx4]] W24 := H14.new hu23 hM22
    clear H14
    refine ops_cons ?_
    have H32 : St w No [hB g_0_1 68 #[.int .i64 (0), .slice none 0 0, .slice none 0 0, .slice none 0 0, .slice none 0 0], hM ki_Vat x cs_3_1, hB g_0_0 68 #[.int .i64 (x.Id), .slice Ax1 x.Entities.length cx1, .slice Ax2 x.Loop.length cx2, .slice Ax3 x.Links.length cx3, .slice Ax4 x.Out.length cx4]] W24 := H28.pick [1, 0, 2] (by decide) rfl
    clear H28
    refine op_storeW rfl Tryz.sizeOf68 rfl rfl (ki_Vat_len (H32.kn 1 rfl)) rfl (ki_Vat_one (H32.kn 1 rfl)) H32 ?_
    intro W29 hu30 Ha31
    clear H32
    have H33 : St w No [hB g_0_1 68 (List.toArray cs_3_1), hM ki_Vat x cs_3_1, hB g_0_0 68 #[.int .i64 (x.Id), .slice Ax1 x.Entities.length cx1, .slice Ax2 x.Loop.length cx2, .slice Ax3 x.Links.length cx3, .slice Ax4 x.Out.length cx4]] W29 := Ha31
    clear Ha31
    clear hu30
    refine ops_cons ?_
    refine op_pure rfl (rn_assign rfl) rfl rfl ?_
    refine ops_nil ?_
    refine then_n ?_
    refine wp_ret ?_
    refine then_r ?_
    have hok : jOk p x.Entities x.Links = false := by rw [j_yes p x.Entities x.Links k hk hf, hg20]; rfl
    obtain ⟨e1, e2, e3⟩ := j_out p x.Entities x.Links hok
    refine post_cell_tmp (.inl rfl) Tryz.results41 Tryz.isAgg68 Tryz.sizeOf68 rfl rfl (H33.blk 0 rfl) (ki_Vat_len (H33.kn 1 rfl)) ?_
    unfold joinV
    rw [e1, e2, e3]
    have hq := (H33.pick [1] (by decide) rfl : St w No [hM ki_Vat x cs_3_1] W29).fin1
    exact ⟨_, rfl, hq.1, hq.2⟩
  · refine ops_cons ?_
    refine op_G rfl rfl rfl rfl (fun _ ho34 => ?_)
    refine op_pure ho34 (rn_bool (b := x.Links[k].Up) (eq_false_of_ne_true hg20) (rn_loadE (v := .bool (x.Links[k].Up)) Tryz.isAgg4 rfl (Cat.upd hce1 H14.1) rfl)) rfl rfl ?_
    refine ops_cons ?_
    refine op_pure rfl (rn_pick (v := .bool (false)) (b := false) rfl rfl rfl rfl) rfl rfl ?_
    refine ops_cons ?_
    refine op_pure rfl (rn_move rfl) rfl rfl ?_
    refine ops_cons ?_
    refine op_G rfl rfl rfl rfl (fun _ ho35 => ?_)
    refine op_pure ho35 (rn_field fa_68_1 rfl) rfl rfl ?_
    refine ops_cons ?_
    refine op_G rfl rfl rfl rfl (fun _ ho36 => ?_)
    refine op_pure ho36 (rn_loadC (k := 1) (v := .slice Ax1 x.Entities.length cx1) Tryz.isAgg63 rfl (H14.blk 1 rfl) rfl) rfl rfl ?_
    refine ops_cons ?_
    refine op_G rfl rfl rfl rfl (fun _ ho37 => ?_)
    refine op_pure ho37 (rn_len Tryz.runUnderlying63 rfl) rfl rfl ?_
    by_cases hg38 : (200 : Int) ≤ (x.Entities.length : Nat)
    · refine ops_cons ?_
      refine op_G rfl rfl rfl rfl (fun _ ho39 => ?_)
      refine op_pure ho39 (rn_decT hg38 (rn_geq rfl rfl)) rfl rfl ?_
      refine ops_cons ?_
      refine op_pure rfl (rn_pick (v := .bool (true)) (b := false) rfl rfl rfl rfl) rfl rfl ?_
      refine ops_nil ?_
      refine then_n ?_
      refine cond_t rfl ?_
      refine wp_seq ?_
      refine reg_seq [0, 1, 2, 3] rfl ?_
      refine ops_cons ?_
      refine op_pure rfl (rn_loadB Tryz.isAgg68 Tryz.sizeOf68 rfl (H14.blk 1 rfl) rfl) rfl rfl ?_
      refine ops_cons ?_
      refine op_call rfl Tryz.call90 (vs := #[.agg #[.int .i64 (x.Id), .slice Ax1 x.Entities.length cx1, .slice Ax2 x.Loop.length cx2, .slice Ax3 x.Links.length cx3, .slice Ax4 x.Out.length cx4]]) rfl rfl rfl (l12Copy_s x _ _ (ki_Vat_Kmk _ x hlx1 (C_upd H14.1 hCx1) hlx2 (C_upd H14.1 hCx2) hlx3 (C_upd H14.1 hCx3) hlx4 (C_upd H14.1 hCx4)) hs) ?_
      rintro e43 W42 ⟨cs_3_1, rfl, hM40, hu41⟩
      refine ⟨_, rfl, ?_⟩
      have hl44 := ki_Vat_len (ki_Vat.K_of_M hM40)
      have ho45 := ki_Vat_one (ki_Vat.K_of_M hM40)
      have H46 : St w No [hM ki_Vat x cs_3_1, hB g_0_1 68 #[.int .i64 (0), .slice none 0 0, .slice none 0 0, .slice none 0 0, .slice none 0 0], hB g_0_0 68 #[.int .i64 (x.Id), .slice Ax1 x.Entities.length cx1, .slice Ax2 x.Loop.length cx2, .slice Ax3 x.Links.length cx3, .slice Ax4 x.Out.length cx4]] W42 := H14.new hu41 hM40
      clear H14
      refine ops_cons ?_
      have H50 : St w No [hB g_0_1 68 #[.int .i64 (0), .slice none 0 0, .slice none 0 0, .slice none 0 0, .slice none 0 0], hM ki_Vat x cs_3_1, hB g_0_0 68 #[.int .i64 (x.Id), .slice Ax1 x.Entities.length cx1, .slice Ax2 x.Loop.length cx2, .slice Ax3 x.Links.length cx3, .slice Ax4 x.Out.length cx4]] W42 := H46.pick [1, 0, 2] (by decide) rfl
      clear H46
      refine op_storeW rfl Tryz.sizeOf68 rfl rfl (ki_Vat_len (H50.kn 1 rfl)) rfl (ki_Vat_one (H50.kn 1 rfl)) H50 ?_
      intro W47 hu48 Ha49
      clear H50
      have H51 : St w No [hB g_0_1 68 (List.toArray cs_3_1), hM ki_Vat x cs_3_1, hB g_0_0 68 #[.int .i64 (x.Id), .slice Ax1 x.Entities.length cx1, .slice Ax2 x.Loop.length cx2, .slice Ax3 x.Links.length cx3, .slice Ax4 x.Out.length cx4]] W47 := Ha49
      clear Ha49
      clear hu48
      refine ops_cons ?_
      refine op_pure rfl (rn_assign rfl) rfl rfl ?_
      refine ops_nil ?_
      refine then_n ?_
      refine wp_ret ?_
      refine then_r ?_
      have hU : x.Links[k].Up = false := by first | exact Bool.eq_false_iff.2 hg20 | exact hg20
      have hok : jOk p x.Entities x.Links = false := by rw [j_yes p x.Entities x.Links k hk hf, hU]; exact (decide_eq_false (by omega) : decide (x.Entities.length < 200) = false)
      obtain ⟨e1, e2, e3⟩ := j_out p x.Entities x.Links hok
      refine post_cell_tmp (.inl rfl) Tryz.results41 Tryz.isAgg68 Tryz.sizeOf68 rfl rfl (H51.blk 0 rfl) (ki_Vat_len (H51.kn 1 rfl)) ?_
      unfold joinV
      rw [e1, e2, e3]
      have hq := (H51.pick [1] (by decide) rfl : St w No [hM ki_Vat x cs_3_1] W47).fin1
      exact ⟨_, rfl, hq.1, hq.2⟩
    · refine ops_cons ?_
      refine op_G rfl rfl rfl rfl (fun _ ho52 => ?_)
      refine op_pure ho52 (rn_decF hg38 (rn_geq rfl rfl)) rfl rfl ?_
      refine ops_cons ?_
      refine op_pure rfl (rn_pick (v := .bool (false)) (b := false) rfl rfl rfl rfl) rfl rfl ?_
      refine ops_nil ?_
      refine then_n ?_
      refine cond_f rfl ?_
      refine wp_skip ?_
      refine then_n ?_
      refine wp_seq ?_
      refine reg_cut (fun a' W' => ∃ (B_4_3_1 : Option Addr) (c_4_3_1 : Nat) (B_4_3_2 : Option Addr) (c_4_3_2 : Nat) (B_4_3_3 : Option Addr) (c_4_3_3 : Nat) (B_4_3_4 : Option Addr) (c_4_3_4 : Nat) (g_4_7 : Nat) (x' : Nat → Value), a' = actOf 52 x' [(1, .int .i64 (p)), (4, .pointer (some ⟨g_0_1, 0, none⟩)), (6, .int .i64 (((k : Nat) : Int))), (7, .pointer (some ⟨g_4_7, 0, none⟩)), (8, .int .i64 ((addN x.Entities)))] ∧ St w No [hB g_4_7 68 #[.int .i64 ((addE (prE p 1) x).Id), .slice B_4_3_1 ((addE (prE p 1) x).Entities.length) c_4_3_1, .slice B_4_3_2 ((addE (prE p 1) x).Loop.length) c_4_3_2, .slice B_4_3_3 ((addE (prE p 1) x).Links.length) c_4_3_3, .slice B_4_3_4 ((addE (prE p 1) x).Out.length) c_4_3_4], hR ki_Entity 171 (.slice B_4_3_1 ((addE (prE p 1) x).Entities.length) c_4_3_1) ((addE (prE p 1) x).Entities), hR ki_Sent 235 (.slice B_4_3_2 ((addE (prE p 1) x).Loop.length) c_4_3_2) ((addE (prE p 1) x).Loop), hR ki_Link 178 (.slice B_4_3_3 ((addE (prE p 1) x).Links.length) c_4_3_3) ((addE (prE p 1) x).Links), hR ki_Outgoing 147 (.slice B_4_3_4 ((addE (prE p 1) x).Out.length) c_4_3_4) ((addE (prE p 1) x).Out), hB g_0_1 68 #[.int .i64 (0), .slice none 0 0, .slice none 0 0, .slice none 0 0, .slice none 0 0]] W') ?_ ?_
      · refine reg_draw (fun W' => Blk W' g_0_0 68 #[.int .i64 (x.Id), .slice Ax1 x.Entities.length cx1, .slice Ax2 x.Loop.length cx2, .slice Ax3 x.Links.length cx3, .slice Ax4 x.Out.length cx4]) 10 (by kernel_rfl) ?_
        have H53 : St w No [hB g_0_1 68 #[.int .i64 (0), .slice none 0 0, .slice none 0 0, .slice none 0 0, .slice none 0 0], hB g_0_0 68 #[.int .i64 (x.Id), .slice Ax1 x.Entities.length cx1, .slice Ax2 x.Loop.length cx2, .slice Ax3 x.Links.length cx3, .slice Ax4 x.Out.length cx4]] W12.drew := H14.drew
        clear H14
        have hS54 : Blk W12.drew g_0_0 68 #[.int .i64 (x.Id), .slice Ax1 x.Entities.length cx1, .slice Ax2 x.Loop.length cx2, .slice Ax3 x.Links.length cx3, .slice Ax4 x.Out.length cx4] := H53.blk 1 rfl
        refine anyS_take (i := 0) rfl (by kernel_rfl) (by kernel_rfl) (by kernel_rfl) (by kernel_rfl) (by kernel_rfl) (fun _ _ _ h => h) rfl rfl hS54 (fun W' hs' => rn_loadB Tryz.isAgg68 Tryz.sizeOf68 rfl hs' rfl) ?_
        refine anyS_take (i := 1) rfl (by kernel_rfl) (by kernel_rfl) (by kernel_rfl) (by kernel_rfl) (by kernel_rfl) (fun _ _ _ h => h) rfl rfl hS54 (fun W' hs' => rn_move rfl) ?_
        refine anyS_two (i := 2) (i2 := 7) (by kernel_rfl) ?_ ?_
        · refine op_call rfl Tryz.call125 (vs := #[.int .i64 (p), .int .i64 (1)]) rfl rfl rfl (newProxy_s p 1 _) ?_
          rintro e58 W57 ⟨cs_4_2, rfl, hM55, hu56⟩
          refine ⟨_, rfl, ?_⟩
          have hl59 := ki_Entity_len (ki_Entity.K_of_M hM55)
          have ho60 := ki_Entity_one (ki_Entity.K_of_M hM55)
          have H61 : St w No [hM ki_Entity (prE p 1) cs_4_2, hB g_0_1 68 #[.int .i64 (0), .slice none 0 0, .slice none 0 0, .slice none 0 0, .slice none 0 0], hB g_0_0 68 #[.int .i64 (x.Id), .slice Ax1 x.Entities.length cx1, .slice Ax2 x.Loop.length cx2, .slice Ax3 x.Links.length cx3, .slice Ax4 x.Out.length cx4]] W57 := H53.new hu56 hM55
          clear H53
          have hS62 : Blk W57 g_0_0 68 #[.int .i64 (x.Id), .slice Ax1 x.Entities.length cx1, .slice Ax2 x.Loop.length cx2, .slice Ax3 x.Links.length cx3, .slice Ax4 x.Out.length cx4] := H61.blk 2 rfl
          refine ⟨fun _ => hS62, ?_⟩
          refine anyS_two (i := 3) (i2 := 7) (by kernel_rfl) ?_ ?_
          · refine op_call rfl Tryz.call117 (vs := #[.agg #[.int .i64 (x.Id), .slice Ax1 x.Entities.length cx1, .slice Ax2 x.Loop.length cx2, .slice Ax3 x.Links.length cx3, .slice Ax4 x.Out.length cx4], .agg (List.toArray cs_4_2)]) rfl rfl rfl (addEntity_s x (prE p 1) _ _ _ (ki_Vat_Kmk _ x hlx1 (C_upd H61.1 hCx1) hlx2 (C_upd H61.1 hCx2) hlx3 (C_upd H61.1 hCx3) hlx4 (C_upd H61.1 hCx4)) hs (H61.kn 0 rfl) (Nat.le_of_ble_eq_true rfl)) ?_
            rintro e68 W67 ⟨cs63, rfl, hM64, hu65⟩
            refine ⟨_, rfl, ?_⟩
            obtain ⟨B_4_3_1, c_4_3_1, B_4_3_2, c_4_3_2, B_4_3_3, c_4_3_3, B_4_3_4, c_4_3_4, rfl, hst66⟩ := ki_Vat_open hM64
            have H69 : St w No [hR ki_Entity 171 (.slice B_4_3_1 ((addE (prE p 1) x).Entities.length) c_4_3_1) ((addE (prE p 1) x).Entities), hR ki_Sent 235 (.slice B_4_3_2 ((addE (prE p 1) x).Loop.length) c_4_3_2) ((addE (prE p 1) x).Loop), hR ki_Link 178 (.slice B_4_3_3 ((addE (prE p 1) x).Links.length) c_4_3_3) ((addE (prE p 1) x).Links), hR ki_Outgoing 147 (.slice B_4_3_4 ((addE (prE p 1) x).Out.length) c_4_3_4) ((addE (prE p 1) x).Out), hM ki_Entity (prE p 1) cs_4_2, hB g_0_1 68 #[.int .i64 (0), .slice none 0 0, .slice none 0 0, .slice none 0 0, .slice none 0 0], hB g_0_0 68 #[.int .i64 (x.Id), .slice Ax1 x.Entities.length cx1, .slice Ax2 x.Loop.length cx2, .slice Ax3 x.Links.length cx3, .slice Ax4 x.Out.length cx4]] W67 := H61.news hu65 hst66
            clear H61
            have hS70 : Blk W67 g_0_0 68 #[.int .i64 (x.Id), .slice Ax1 x.Entities.length cx1, .slice Ax2 x.Loop.length cx2, .slice Ax3 x.Links.length cx3, .slice Ax4 x.Out.length cx4] := H69.blk 6 rfl
            refine ⟨fun _ => hS70, ?_⟩
            refine anyS_take (i := 4) rfl (by kernel_rfl) (by kernel_rfl) (by kernel_rfl) (by kernel_rfl) (by kernel_rfl) (fun _ _ _ h => h) rfl rfl hS70 (fun W' hs' => rn_move rfl) ?_
            refine anyS_take (i := 5) rfl (by kernel_rfl) (by kernel_rfl) (by kernel_rfl) (by kernel_rfl) (by kernel_rfl) (fun _ _ _ h => h) rfl rfl hS70 (fun W' hs' => rn_extract (v := .agg #[.int .i64 ((addE (prE p 1) x).Id), .slice B_4_3_1 ((addE (prE p 1) x).Entities.length) c_4_3_1, .slice B_4_3_2 ((addE (prE p 1) x).Loop.length) c_4_3_2, .slice B_4_3_3 ((addE (prE p 1) x).Links.length) c_4_3_3, .slice B_4_3_4 ((addE (prE p 1) x).Out.length) c_4_3_4]) rfl rfl) ?_
            refine anyS_take (i := 6) rfl (by kernel_rfl) (by kernel_rfl) (by kernel_rfl) (by kernel_rfl) (by kernel_rfl) (fun _ _ _ h => h) rfl rfl hS70 (fun W' hs' => rn_extract (v := .int .i64 ((addN x.Entities))) rfl rfl) ?_
            refine anyS_one (i := 7) (by kernel_rfl) ?_
            refine op_alloc rfl Tryz.zeroValue68 rfl rfl H69 ?_
            intro g_4_7 W71 hu72 Ha73
            clear H69
            have H74 : St w No [hB g_4_7 68 #[.int .i64 (0), .slice none 0 0, .slice none 0 0, .slice none 0 0, .slice none 0 0], hR ki_Entity 171 (.slice B_4_3_1 ((addE (prE p 1) x).Entities.length) c_4_3_1) ((addE (prE p 1) x).Entities), hR ki_Sent 235 (.slice B_4_3_2 ((addE (prE p 1) x).Loop.length) c_4_3_2) ((addE (prE p 1) x).Loop), hR ki_Link 178 (.slice B_4_3_3 ((addE (prE p 1) x).Links.length) c_4_3_3) ((addE (prE p 1) x).Links), hR ki_Outgoing 147 (.slice B_4_3_4 ((addE (prE p 1) x).Out.length) c_4_3_4) ((addE (prE p 1) x).Out), hM ki_Entity (prE p 1) cs_4_2, hB g_0_1 68 #[.int .i64 (0), .slice none 0 0, .slice none 0 0, .slice none 0 0, .slice none 0 0], hB g_0_0 68 #[.int .i64 (x.Id), .slice Ax1 x.Entities.length cx1, .slice Ax2 x.Loop.length cx2, .slice Ax3 x.Links.length cx3, .slice Ax4 x.Out.length cx4]] W71 := Ha73
            clear Ha73
            clear hu72
            have hS75 : Blk W71 g_0_0 68 #[.int .i64 (x.Id), .slice Ax1 x.Entities.length cx1, .slice Ax2 x.Loop.length cx2, .slice Ax3 x.Links.length cx3, .slice Ax4 x.Out.length cx4] := H74.blk 7 rfl
            refine ⟨fun _ => hS75, ?_⟩
            refine anyS_one (i := 8) (by kernel_rfl) ?_
            refine op_storeW rfl Tryz.sizeOf68 rfl rfl rfl rfl (by simp [Value.oneCell']) H74 ?_
            intro W76 hu77 Ha78
            clear H74
            have H79 : St w No [hB g_4_7 68 #[.int .i64 ((addE (prE p 1) x).Id), .slice B_4_3_1 ((addE (prE p 1) x).Entities.length) c_4_3_1, .slice B_4_3_2 ((addE (prE p 1) x).Loop.length) c_4_3_2, .slice B_4_3_3 ((addE (prE p 1) x).Links.length) c_4_3_3, .slice B_4_3_4 ((addE (prE p 1) x).Out.length) c_4_3_4], hR ki_Entity 171 (.slice B_4_3_1 ((addE (prE p 1) x).Entities.length) c_4_3_1) ((addE (prE p 1) x).Entities), hR ki_Sent 235 (.slice B_4_3_2 ((addE (prE p 1) x).Loop.length) c_4_3_2) ((addE (prE p 1) x).Loop), hR ki_Link 178 (.slice B_4_3_3 ((addE (prE p 1) x).Links.length) c_4_3_3) ((addE (prE p 1) x).Links), hR ki_Outgoing 147 (.slice B_4_3_4 ((addE (prE p 1) x).Out.length) c_4_3_4) ((addE (prE p 1) x).Out), hM ki_Entity (prE p 1) cs_4_2, hB g_0_1 68 #[.int .i64 (0), .slice none 0 0, .slice none 0 0, .slice none 0 0, .slice none 0 0], hB g_0_0 68 #[.int .i64 (x.Id), .slice Ax1 x.Entities.length cx1, .slice Ax2 x.Loop.length cx2, .slice Ax3 x.Links.length cx3, .slice Ax4 x.Out.length cx4]] W76 := Ha78
            clear Ha78
            clear hu77
            have hS80 : Blk W76 g_0_0 68 #[.int .i64 (x.Id), .slice Ax1 x.Entities.length cx1, .slice Ax2 x.Loop.length cx2, .slice Ax3 x.Links.length cx3, .slice Ax4 x.Out.length cx4] := H79.blk 7 rfl
            refine ⟨fun _ => hS80, ?_⟩
            refine anyS_take (i := 9) rfl (by kernel_rfl) (by kernel_rfl) (by kernel_rfl) (by kernel_rfl) (by kernel_rfl) (fun _ _ _ h => h) rfl rfl hS80 (fun W' hs' => rn_assign rfl) ?_
            refine anyS_done (by kernel_rfl) ?_ _
            exact (actOf_drop2 [(1, .int .i64 (p)), (4, .pointer (some ⟨g_0_1, 0, none⟩)), (6, .int .i64 (((k : Nat) : Int))), (7, .pointer (some ⟨g_4_7, 0, none⟩)), (8, .int .i64 ((addN x.Entities)))] rfl).elim fun x' hx => ⟨B_4_3_1, c_4_3_1, B_4_3_2, c_4_3_2, B_4_3_3, c_4_3_3, B_4_3_4, c_4_3_4, g_4_7, x', hx, H79.pick [0, 1, 2, 3, 4, 6] (by decide) rfl⟩
          · refine op_alloc rfl Tryz.zeroValue68 rfl rfl H61 ?_
            intro g_4_7 W81 hu82 Ha83
            clear H61
            have H84 : St w No [hB g_4_7 68 #[.int .i64 (0), .slice none 0 0, .slice none 0 0, .slice none 0 0, .slice none 0 0], hM ki_Entity (prE p 1) cs_4_2, hB g_0_1 68 #[.int .i64 (0), .slice none 0 0, .slice none 0 0, .slice none 0 0, .slice none 0 0], hB g_0_0 68 #[.int .i64 (x.Id), .slice Ax1 x.Entities.length cx1, .slice Ax2 x.Loop.length cx2, .slice Ax3 x.Links.length cx3, .slice Ax4 x.Out.length cx4]] W81 := Ha83
            clear Ha83
            clear hu82
            have hS85 : Blk W81 g_0_0 68 #[.int .i64 (x.Id), .slice Ax1 x.Entities.length cx1, .slice Ax2 x.Loop.length cx2, .slice Ax3 x.Links.length cx3, .slice Ax4 x.Out.length cx4] := H84.blk 3 rfl
            refine ⟨fun _ => hS85, ?_⟩
            refine anyS_one (i := 3) (by kernel_rfl) ?_
            refine op_call rfl Tryz.call117 (vs := #[.agg #[.int .i64 (x.Id), .slice Ax1 x.Entities.length cx1, .slice Ax2 x.Loop.length cx2, .slice Ax3 x.Links.length cx3, .slice Ax4 x.Out.length cx4], .agg (List.toArray cs_4_2)]) rfl rfl rfl (addEntity_s x (prE p 1) _ _ _ (ki_Vat_Kmk _ x hlx1 (C_upd H84.1 hCx1) hlx2 (C_upd H84.1 hCx2) hlx3 (C_upd H84.1 hCx3) hlx4 (C_upd H84.1 hCx4)) hs (H84.kn 1 rfl) (Nat.le_of_ble_eq_true rfl)) ?_
            rintro e91 W90 ⟨cs86, rfl, hM87, hu88⟩
            refine ⟨_, rfl, ?_⟩
            obtain ⟨B_4_3_1, c_4_3_1, B_4_3_2, c_4_3_2, B_4_3_3, c_4_3_3, B_4_3_4, c_4_3_4, rfl, hst89⟩ := ki_Vat_open hM87
            have H92 : St w No [hR ki_Entity 171 (.slice B_4_3_1 ((addE (prE p 1) x).Entities.length) c_4_3_1) ((addE (prE p 1) x).Entities), hR ki_Sent 235 (.slice B_4_3_2 ((addE (prE p 1) x).Loop.length) c_4_3_2) ((addE (prE p 1) x).Loop), hR ki_Link 178 (.slice B_4_3_3 ((addE (prE p 1) x).Links.length) c_4_3_3) ((addE (prE p 1) x).Links), hR ki_Outgoing 147 (.slice B_4_3_4 ((addE (prE p 1) x).Out.length) c_4_3_4) ((addE (prE p 1) x).Out), hB g_4_7 68 #[.int .i64 (0), .slice none 0 0, .slice none 0 0, .slice none 0 0, .slice none 0 0], hM ki_Entity (prE p 1) cs_4_2, hB g_0_1 68 #[.int .i64 (0), .slice none 0 0, .slice none 0 0, .slice none 0 0, .slice none 0 0], hB g_0_0 68 #[.int .i64 (x.Id), .slice Ax1 x.Entities.length cx1, .slice Ax2 x.Loop.length cx2, .slice Ax3 x.Links.length cx3, .slice Ax4 x.Out.length cx4]] W90 := H84.news hu88 hst89
            clear H84
            have hS93 : Blk W90 g_0_0 68 #[.int .i64 (x.Id), .slice Ax1 x.Entities.length cx1, .slice Ax2 x.Loop.length cx2, .slice Ax3 x.Links.length cx3, .slice Ax4 x.Out.length cx4] := H92.blk 7 rfl
            refine ⟨fun _ => hS93, ?_⟩
            refine anyS_take (i := 4) rfl (by kernel_rfl) (by kernel_rfl) (by kernel_rfl) (by kernel_rfl) (by kernel_rfl) (fun _ _ _ h => h) rfl rfl hS93 (fun W' hs' => rn_move rfl) ?_
            refine anyS_take (i := 5) rfl (by kernel_rfl) (by kernel_rfl) (by kernel_rfl) (by kernel_rfl) (by kernel_rfl) (fun _ _ _ h => h) rfl rfl hS93 (fun W' hs' => rn_extract (v := .agg #[.int .i64 ((addE (prE p 1) x).Id), .slice B_4_3_1 ((addE (prE p 1) x).Entities.length) c_4_3_1, .slice B_4_3_2 ((addE (prE p 1) x).Loop.length) c_4_3_2, .slice B_4_3_3 ((addE (prE p 1) x).Links.length) c_4_3_3, .slice B_4_3_4 ((addE (prE p 1) x).Out.length) c_4_3_4]) rfl rfl) ?_
            refine anyS_take (i := 6) rfl (by kernel_rfl) (by kernel_rfl) (by kernel_rfl) (by kernel_rfl) (by kernel_rfl) (fun _ _ _ h => h) rfl rfl hS93 (fun W' hs' => rn_extract (v := .int .i64 ((addN x.Entities))) rfl rfl) ?_
            refine anyS_one (i := 8) (by kernel_rfl) ?_
            have H97 : St w No [hB g_4_7 68 #[.int .i64 (0), .slice none 0 0, .slice none 0 0, .slice none 0 0, .slice none 0 0], hR ki_Entity 171 (.slice B_4_3_1 ((addE (prE p 1) x).Entities.length) c_4_3_1) ((addE (prE p 1) x).Entities), hR ki_Sent 235 (.slice B_4_3_2 ((addE (prE p 1) x).Loop.length) c_4_3_2) ((addE (prE p 1) x).Loop), hR ki_Link 178 (.slice B_4_3_3 ((addE (prE p 1) x).Links.length) c_4_3_3) ((addE (prE p 1) x).Links), hR ki_Outgoing 147 (.slice B_4_3_4 ((addE (prE p 1) x).Out.length) c_4_3_4) ((addE (prE p 1) x).Out), hM ki_Entity (prE p 1) cs_4_2, hB g_0_1 68 #[.int .i64 (0), .slice none 0 0, .slice none 0 0, .slice none 0 0, .slice none 0 0], hB g_0_0 68 #[.int .i64 (x.Id), .slice Ax1 x.Entities.length cx1, .slice Ax2 x.Loop.length cx2, .slice Ax3 x.Links.length cx3, .slice Ax4 x.Out.length cx4]] W90 := H92.pick [4, 0, 1, 2, 3, 5, 6, 7] (by decide) rfl
            clear H92
            refine op_storeW rfl Tryz.sizeOf68 rfl rfl rfl rfl (by simp [Value.oneCell']) H97 ?_
            intro W94 hu95 Ha96
            clear H97
            have H98 : St w No [hB g_4_7 68 #[.int .i64 ((addE (prE p 1) x).Id), .slice B_4_3_1 ((addE (prE p 1) x).Entities.length) c_4_3_1, .slice B_4_3_2 ((addE (prE p 1) x).Loop.length) c_4_3_2, .slice B_4_3_3 ((addE (prE p 1) x).Links.length) c_4_3_3, .slice B_4_3_4 ((addE (prE p 1) x).Out.length) c_4_3_4], hR ki_Entity 171 (.slice B_4_3_1 ((addE (prE p 1) x).Entities.length) c_4_3_1) ((addE (prE p 1) x).Entities), hR ki_Sent 235 (.slice B_4_3_2 ((addE (prE p 1) x).Loop.length) c_4_3_2) ((addE (prE p 1) x).Loop), hR ki_Link 178 (.slice B_4_3_3 ((addE (prE p 1) x).Links.length) c_4_3_3) ((addE (prE p 1) x).Links), hR ki_Outgoing 147 (.slice B_4_3_4 ((addE (prE p 1) x).Out.length) c_4_3_4) ((addE (prE p 1) x).Out), hM ki_Entity (prE p 1) cs_4_2, hB g_0_1 68 #[.int .i64 (0), .slice none 0 0, .slice none 0 0, .slice none 0 0, .slice none 0 0], hB g_0_0 68 #[.int .i64 (x.Id), .slice Ax1 x.Entities.length cx1, .slice Ax2 x.Loop.length cx2, .slice Ax3 x.Links.length cx3, .slice Ax4 x.Out.length cx4]] W94 := Ha96
            clear Ha96
            clear hu95
            have hS99 : Blk W94 g_0_0 68 #[.int .i64 (x.Id), .slice Ax1 x.Entities.length cx1, .slice Ax2 x.Loop.length cx2, .slice Ax3 x.Links.length cx3, .slice Ax4 x.Out.length cx4] := H98.blk 7 rfl
            refine ⟨fun _ => hS99, ?_⟩
            refine anyS_take (i := 9) rfl (by kernel_rfl) (by kernel_rfl) (by kernel_rfl) (by kernel_rfl) (by kernel_rfl) (fun _ _ _ h => h) rfl rfl hS99 (fun W' hs' => rn_assign rfl) ?_
            refine anyS_done (by kernel_rfl) ?_ _
            exact (actOf_drop2 [(1, .int .i64 (p)), (4, .pointer (some ⟨g_0_1, 0, none⟩)), (6, .int .i64 (((k : Nat) : Int))), (7, .pointer (some ⟨g_4_7, 0, none⟩)), (8, .int .i64 ((addN x.Entities)))] rfl).elim fun x' hx => ⟨B_4_3_1, c_4_3_1, B_4_3_2, c_4_3_2, B_4_3_3, c_4_3_3, B_4_3_4, c_4_3_4, g_4_7, x', hx, H98.pick [0, 1, 2, 3, 4, 6] (by decide) rfl⟩
        · refine op_alloc rfl Tryz.zeroValue68 rfl rfl H53 ?_
          intro g_4_7 W100 hu101 Ha102
          clear H53
          have H103 : St w No [hB g_4_7 68 #[.int .i64 (0), .slice none 0 0, .slice none 0 0, .slice none 0 0, .slice none 0 0], hB g_0_1 68 #[.int .i64 (0), .slice none 0 0, .slice none 0 0, .slice none 0 0, .slice none 0 0], hB g_0_0 68 #[.int .i64 (x.Id), .slice Ax1 x.Entities.length cx1, .slice Ax2 x.Loop.length cx2, .slice Ax3 x.Links.length cx3, .slice Ax4 x.Out.length cx4]] W100 := Ha102
          clear Ha102
          clear hu101
          have hS104 : Blk W100 g_0_0 68 #[.int .i64 (x.Id), .slice Ax1 x.Entities.length cx1, .slice Ax2 x.Loop.length cx2, .slice Ax3 x.Links.length cx3, .slice Ax4 x.Out.length cx4] := H103.blk 2 rfl
          refine ⟨fun _ => hS104, ?_⟩
          refine anyS_one (i := 2) (by kernel_rfl) ?_
          refine op_call rfl Tryz.call125 (vs := #[.int .i64 (p), .int .i64 (1)]) rfl rfl rfl (newProxy_s p 1 _) ?_
          rintro e108 W107 ⟨cs_4_2, rfl, hM105, hu106⟩
          refine ⟨_, rfl, ?_⟩
          have hl109 := ki_Entity_len (ki_Entity.K_of_M hM105)
          have ho110 := ki_Entity_one (ki_Entity.K_of_M hM105)
          have H111 : St w No [hM ki_Entity (prE p 1) cs_4_2, hB g_4_7 68 #[.int .i64 (0), .slice none 0 0, .slice none 0 0, .slice none 0 0, .slice none 0 0], hB g_0_1 68 #[.int .i64 (0), .slice none 0 0, .slice none 0 0, .slice none 0 0, .slice none 0 0], hB g_0_0 68 #[.int .i64 (x.Id), .slice Ax1 x.Entities.length cx1, .slice Ax2 x.Loop.length cx2, .slice Ax3 x.Links.length cx3, .slice Ax4 x.Out.length cx4]] W107 := H103.new hu106 hM105
          clear H103
          have hS112 : Blk W107 g_0_0 68 #[.int .i64 (x.Id), .slice Ax1 x.Entities.length cx1, .slice Ax2 x.Loop.length cx2, .slice Ax3 x.Links.length cx3, .slice Ax4 x.Out.length cx4] := H111.blk 3 rfl
          refine ⟨fun _ => hS112, ?_⟩
          refine anyS_one (i := 3) (by kernel_rfl) ?_
          refine op_call rfl Tryz.call117 (vs := #[.agg #[.int .i64 (x.Id), .slice Ax1 x.Entities.length cx1, .slice Ax2 x.Loop.length cx2, .slice Ax3 x.Links.length cx3, .slice Ax4 x.Out.length cx4], .agg (List.toArray cs_4_2)]) rfl rfl rfl (addEntity_s x (prE p 1) _ _ _ (ki_Vat_Kmk _ x hlx1 (C_upd H111.1 hCx1) hlx2 (C_upd H111.1 hCx2) hlx3 (C_upd H111.1 hCx3) hlx4 (C_upd H111.1 hCx4)) hs (H111.kn 0 rfl) (Nat.le_of_ble_eq_true rfl)) ?_
          rintro e118 W117 ⟨cs113, rfl, hM114, hu115⟩
          refine ⟨_, rfl, ?_⟩
          obtain ⟨B_4_3_1, c_4_3_1, B_4_3_2, c_4_3_2, B_4_3_3, c_4_3_3, B_4_3_4, c_4_3_4, rfl, hst116⟩ := ki_Vat_open hM114
          have H119 : St w No [hR ki_Entity 171 (.slice B_4_3_1 ((addE (prE p 1) x).Entities.length) c_4_3_1) ((addE (prE p 1) x).Entities), hR ki_Sent 235 (.slice B_4_3_2 ((addE (prE p 1) x).Loop.length) c_4_3_2) ((addE (prE p 1) x).Loop), hR ki_Link 178 (.slice B_4_3_3 ((addE (prE p 1) x).Links.length) c_4_3_3) ((addE (prE p 1) x).Links), hR ki_Outgoing 147 (.slice B_4_3_4 ((addE (prE p 1) x).Out.length) c_4_3_4) ((addE (prE p 1) x).Out), hM ki_Entity (prE p 1) cs_4_2, hB g_4_7 68 #[.int .i64 (0), .slice none 0 0, .slice none 0 0, .slice none 0 0, .slice none 0 0], hB g_0_1 68 #[.int .i64 (0), .slice none 0 0, .slice none 0 0, .slice none 0 0, .slice none 0 0], hB g_0_0 68 #[.int .i64 (x.Id), .slice Ax1 x.Entities.length cx1, .slice Ax2 x.Loop.length cx2, .slice Ax3 x.Links.length cx3, .slice Ax4 x.Out.length cx4]] W117 := H111.news hu115 hst116
          clear H111
          have hS120 : Blk W117 g_0_0 68 #[.int .i64 (x.Id), .slice Ax1 x.Entities.length cx1, .slice Ax2 x.Loop.length cx2, .slice Ax3 x.Links.length cx3, .slice Ax4 x.Out.length cx4] := H119.blk 7 rfl
          refine ⟨fun _ => hS120, ?_⟩
          refine anyS_take (i := 4) rfl (by kernel_rfl) (by kernel_rfl) (by kernel_rfl) (by kernel_rfl) (by kernel_rfl) (fun _ _ _ h => h) rfl rfl hS120 (fun W' hs' => rn_move rfl) ?_
          refine anyS_take (i := 5) rfl (by kernel_rfl) (by kernel_rfl) (by kernel_rfl) (by kernel_rfl) (by kernel_rfl) (fun _ _ _ h => h) rfl rfl hS120 (fun W' hs' => rn_extract (v := .agg #[.int .i64 ((addE (prE p 1) x).Id), .slice B_4_3_1 ((addE (prE p 1) x).Entities.length) c_4_3_1, .slice B_4_3_2 ((addE (prE p 1) x).Loop.length) c_4_3_2, .slice B_4_3_3 ((addE (prE p 1) x).Links.length) c_4_3_3, .slice B_4_3_4 ((addE (prE p 1) x).Out.length) c_4_3_4]) rfl rfl) ?_
          refine anyS_take (i := 6) rfl (by kernel_rfl) (by kernel_rfl) (by kernel_rfl) (by kernel_rfl) (by kernel_rfl) (fun _ _ _ h => h) rfl rfl hS120 (fun W' hs' => rn_extract (v := .int .i64 ((addN x.Entities))) rfl rfl) ?_
          refine anyS_one (i := 8) (by kernel_rfl) ?_
          have H124 : St w No [hB g_4_7 68 #[.int .i64 (0), .slice none 0 0, .slice none 0 0, .slice none 0 0, .slice none 0 0], hR ki_Entity 171 (.slice B_4_3_1 ((addE (prE p 1) x).Entities.length) c_4_3_1) ((addE (prE p 1) x).Entities), hR ki_Sent 235 (.slice B_4_3_2 ((addE (prE p 1) x).Loop.length) c_4_3_2) ((addE (prE p 1) x).Loop), hR ki_Link 178 (.slice B_4_3_3 ((addE (prE p 1) x).Links.length) c_4_3_3) ((addE (prE p 1) x).Links), hR ki_Outgoing 147 (.slice B_4_3_4 ((addE (prE p 1) x).Out.length) c_4_3_4) ((addE (prE p 1) x).Out), hM ki_Entity (prE p 1) cs_4_2, hB g_0_1 68 #[.int .i64 (0), .slice none 0 0, .slice none 0 0, .slice none 0 0, .slice none 0 0], hB g_0_0 68 #[.int .i64 (x.Id), .slice Ax1 x.Entities.length cx1, .slice Ax2 x.Loop.length cx2, .slice Ax3 x.Links.length cx3, .slice Ax4 x.Out.length cx4]] W117 := H119.pick [5, 0, 1, 2, 3, 4, 6, 7] (by decide) rfl
          clear H119
          refine op_storeW rfl Tryz.sizeOf68 rfl rfl rfl rfl (by simp [Value.oneCell']) H124 ?_
          intro W121 hu122 Ha123
          clear H124
          have H125 : St w No [hB g_4_7 68 #[.int .i64 ((addE (prE p 1) x).Id), .slice B_4_3_1 ((addE (prE p 1) x).Entities.length) c_4_3_1, .slice B_4_3_2 ((addE (prE p 1) x).Loop.length) c_4_3_2, .slice B_4_3_3 ((addE (prE p 1) x).Links.length) c_4_3_3, .slice B_4_3_4 ((addE (prE p 1) x).Out.length) c_4_3_4], hR ki_Entity 171 (.slice B_4_3_1 ((addE (prE p 1) x).Entities.length) c_4_3_1) ((addE (prE p 1) x).Entities), hR ki_Sent 235 (.slice B_4_3_2 ((addE (prE p 1) x).Loop.length) c_4_3_2) ((addE (prE p 1) x).Loop), hR ki_Link 178 (.slice B_4_3_3 ((addE (prE p 1) x).Links.length) c_4_3_3) ((addE (prE p 1) x).Links), hR ki_Outgoing 147 (.slice B_4_3_4 ((addE (prE p 1) x).Out.length) c_4_3_4) ((addE (prE p 1) x).Out), hM ki_Entity (prE p 1) cs_4_2, hB g_0_1 68 #[.int .i64 (0), .slice none 0 0, .slice none 0 0, .slice none 0 0, .slice none 0 0], hB g_0_0 68 #[.int .i64 (x.Id), .slice Ax1 x.Entities.length cx1, .slice Ax2 x.Loop.length cx2, .slice Ax3 x.Links.length cx3, .slice Ax4 x.Out.length cx4]] W121 := Ha123
          clear Ha123
          clear hu122
          have hS126 : Blk W121 g_0_0 68 #[.int .i64 (x.Id), .slice Ax1 x.Entities.length cx1, .slice Ax2 x.Loop.length cx2, .slice Ax3 x.Links.length cx3, .slice Ax4 x.Out.length cx4] := H125.blk 7 rfl
          refine ⟨fun _ => hS126, ?_⟩
          refine anyS_take (i := 9) rfl (by kernel_rfl) (by kernel_rfl) (by kernel_rfl) (by kernel_rfl) (by kernel_rfl) (fun _ _ _ h => h) rfl rfl hS126 (fun W' hs' => rn_assign rfl) ?_
          refine anyS_done (by kernel_rfl) ?_ _
          exact (actOf_drop2 [(1, .int .i64 (p)), (4, .pointer (some ⟨g_0_1, 0, none⟩)), (6, .int .i64 (((k : Nat) : Int))), (7, .pointer (some ⟨g_4_7, 0, none⟩)), (8, .int .i64 ((addN x.Entities)))] rfl).elim fun x' hx => ⟨B_4_3_1, c_4_3_1, B_4_3_2, c_4_3_2, B_4_3_3, c_4_3_3, B_4_3_4, c_4_3_4, g_4_7, x', hx, H125.pick [0, 1, 2, 3, 4, 6] (by decide) rfl⟩
      · rintro _ W128 ⟨B_4_3_1, c_4_3_1, B_4_3_2, c_4_3_2, B_4_3_3, c_4_3_3, B_4_3_4, c_4_3_4, g_4_7, x129, rfl, H127⟩
        refine then_n ?_
        refine wp_seq ?_
        refine reg_seq [0, 1, 2, 3, 4, 5, 6, 7, 8] rfl ?_
        refine ops_cons ?_
        refine op_pure rfl (rn_move rfl) rfl rfl ?_
        refine ops_cons ?_
        refine op_call rfl Tryz.call127 (vs := #[.int .i64 (p)]) rfl rfl rfl (newLink_s p _) ?_
        rintro e133 W132 ⟨cs_5_1, rfl, hM130, hu131⟩
        refine ⟨_, rfl, ?_⟩
        have hl134 := ki_Link_len (ki_Link.K_of_M hM130)
        have ho135 := ki_Link_one (ki_Link.K_of_M hM130)
        have H136 : St w No [hM ki_Link (zL p) cs_5_1, hB g_4_7 68 #[.int .i64 ((addE (prE p 1) x).Id), .slice B_4_3_1 ((addE (prE p 1) x).Entities.length) c_4_3_1, .slice B_4_3_2 ((addE (prE p 1) x).Loop.length) c_4_3_2, .slice B_4_3_3 ((addE (prE p 1) x).Links.length) c_4_3_3, .slice B_4_3_4 ((addE (prE p 1) x).Out.length) c_4_3_4], hR ki_Entity 171 (.slice B_4_3_1 ((addE (prE p 1) x).Entities.length) c_4_3_1) ((addE (prE p 1) x).Entities), hR ki_Sent 235 (.slice B_4_3_2 ((addE (prE p 1) x).Loop.length) c_4_3_2) ((addE (prE p 1) x).Loop), hR ki_Link 178 (.slice B_4_3_3 ((addE (prE p 1) x).Links.length) c_4_3_3) ((addE (prE p 1) x).Links), hR ki_Outgoing 147 (.slice B_4_3_4 ((addE (prE p 1) x).Out.length) c_4_3_4) ((addE (prE p 1) x).Out), hB g_0_1 68 #[.int .i64 (0), .slice none 0 0, .slice none 0 0, .slice none 0 0, .slice none 0 0]] W132 := H127.new hu131 hM130
        clear H127
        refine ops_cons ?_
        refine op_call rfl Tryz.call126 (vs := #[.agg (List.toArray cs_5_1), .int .i64 (0)]) rfl rfl rfl (putExport_s (zL p) 0 _ _ (H136.kn 0 rfl) (Nat.le_of_ble_eq_true rfl)) ?_
        rintro e142 W141 ⟨cs137, rfl, hM138, hu139⟩
        refine ⟨_, rfl, ?_⟩
        obtain ⟨B_5_2_2, c_5_2_2, B_5_2_4, c_5_2_4, B_5_2_6, c_5_2_6, rfl, hst140⟩ := ki_Link_open hM138
        have H143 : St w No [hR ki_Export 256 (.slice B_5_2_2 ((pxV 0 (zL p)).Exports.length) c_5_2_2) ((pxV 0 (zL p)).Exports), hR ki_Question 289 (.slice B_5_2_4 ((pxV 0 (zL p)).Questions.length) c_5_2_4) ((pxV 0 (zL p)).Questions), hR ki_Question 289 (.slice B_5_2_6 ((pxV 0 (zL p)).Answers.length) c_5_2_6) ((pxV 0 (zL p)).Answers), hM ki_Link (zL p) cs_5_1, hB g_4_7 68 #[.int .i64 ((addE (prE p 1) x).Id), .slice B_4_3_1 ((addE (prE p 1) x).Entities.length) c_4_3_1, .slice B_4_3_2 ((addE (prE p 1) x).Loop.length) c_4_3_2, .slice B_4_3_3 ((addE (prE p 1) x).Links.length) c_4_3_3, .slice B_4_3_4 ((addE (prE p 1) x).Out.length) c_4_3_4], hR ki_Entity 171 (.slice B_4_3_1 ((addE (prE p 1) x).Entities.length) c_4_3_1) ((addE (prE p 1) x).Entities), hR ki_Sent 235 (.slice B_4_3_2 ((addE (prE p 1) x).Loop.length) c_4_3_2) ((addE (prE p 1) x).Loop), hR ki_Link 178 (.slice B_4_3_3 ((addE (prE p 1) x).Links.length) c_4_3_3) ((addE (prE p 1) x).Links), hR ki_Outgoing 147 (.slice B_4_3_4 ((addE (prE p 1) x).Out.length) c_4_3_4) ((addE (prE p 1) x).Out), hB g_0_1 68 #[.int .i64 (0), .slice none 0 0, .slice none 0 0, .slice none 0 0, .slice none 0 0]] W141 := H136.news hu139 hst140
        clear H136
        refine ops_cons ?_
        refine op_pure rfl (rn_move rfl) rfl rfl ?_
        refine ops_cons ?_
        refine op_pure rfl (rn_extract (v := .agg #[.int .i64 ((pxV 0 (zL p)).Peer), .bool ((pxV 0 (zL p)).Up), .slice B_5_2_2 ((pxV 0 (zL p)).Exports.length) c_5_2_2, .int .i64 ((pxV 0 (zL p)).Next), .slice B_5_2_4 ((pxV 0 (zL p)).Questions.length) c_5_2_4, .int .i64 ((pxV 0 (zL p)).Asked), .slice B_5_2_6 ((pxV 0 (zL p)).Answers.length) c_5_2_6]) rfl rfl) rfl rfl ?_
        refine ops_cons ?_
        refine op_pure rfl (rn_extract (v := .int .i64 ((pxN 0 (zL p).Exports (zL p).Next))) rfl rfl) rfl rfl ?_
        refine ops_cons ?_
        refine op_alloc rfl Tryz.zeroValue178 rfl rfl H143 ?_
        intro g_5_6 W144 hu145 Ha146
        clear H143
        have H147 : St w No [hB g_5_6 178 #[.int .i64 (0), .bool (false), .slice none 0 0, .int .i64 (0), .slice none 0 0, .int .i64 (0), .slice none 0 0], hR ki_Export 256 (.slice B_5_2_2 ((pxV 0 (zL p)).Exports.length) c_5_2_2) ((pxV 0 (zL p)).Exports), hR ki_Question 289 (.slice B_5_2_4 ((pxV 0 (zL p)).Questions.length) c_5_2_4) ((pxV 0 (zL p)).Questions), hR ki_Question 289 (.slice B_5_2_6 ((pxV 0 (zL p)).Answers.length) c_5_2_6) ((pxV 0 (zL p)).Answers), hM ki_Link (zL p) cs_5_1, hB g_4_7 68 #[.int .i64 ((addE (prE p 1) x).Id), .slice B_4_3_1 ((addE (prE p 1) x).Entities.length) c_4_3_1, .slice B_4_3_2 ((addE (prE p 1) x).Loop.length) c_4_3_2, .slice B_4_3_3 ((addE (prE p 1) x).Links.length) c_4_3_3, .slice B_4_3_4 ((addE (prE p 1) x).Out.length) c_4_3_4], hR ki_Entity 171 (.slice B_4_3_1 ((addE (prE p 1) x).Entities.length) c_4_3_1) ((addE (prE p 1) x).Entities), hR ki_Sent 235 (.slice B_4_3_2 ((addE (prE p 1) x).Loop.length) c_4_3_2) ((addE (prE p 1) x).Loop), hR ki_Link 178 (.slice B_4_3_3 ((addE (prE p 1) x).Links.length) c_4_3_3) ((addE (prE p 1) x).Links), hR ki_Outgoing 147 (.slice B_4_3_4 ((addE (prE p 1) x).Out.length) c_4_3_4) ((addE (prE p 1) x).Out), hB g_0_1 68 #[.int .i64 (0), .slice none 0 0, .slice none 0 0, .slice none 0 0, .slice none 0 0]] W144 := Ha146
        clear Ha146
        clear hu145
        refine ops_cons ?_
        refine op_storeW rfl Tryz.sizeOf178 rfl rfl rfl rfl (by simp [Value.oneCell']) H147 ?_
        intro W148 hu149 Ha150
        clear H147
        have H151 : St w No [hB g_5_6 178 #[.int .i64 ((pxV 0 (zL p)).Peer), .bool ((pxV 0 (zL p)).Up), .slice B_5_2_2 ((pxV 0 (zL p)).Exports.length) c_5_2_2, .int .i64 ((pxV 0 (zL p)).Next), .slice B_5_2_4 ((pxV 0 (zL p)).Questions.length) c_5_2_4, .int .i64 ((pxV 0 (zL p)).Asked), .slice B_5_2_6 ((pxV 0 (zL p)).Answers.length) c_5_2_6], hR ki_Export 256 (.slice B_5_2_2 ((pxV 0 (zL p)).Exports.length) c_5_2_2) ((pxV 0 (zL p)).Exports), hR ki_Question 289 (.slice B_5_2_4 ((pxV 0 (zL p)).Questions.length) c_5_2_4) ((pxV 0 (zL p)).Questions), hR ki_Question 289 (.slice B_5_2_6 ((pxV 0 (zL p)).Answers.length) c_5_2_6) ((pxV 0 (zL p)).Answers), hM ki_Link (zL p) cs_5_1, hB g_4_7 68 #[.int .i64 ((addE (prE p 1) x).Id), .slice B_4_3_1 ((addE (prE p 1) x).Entities.length) c_4_3_1, .slice B_4_3_2 ((addE (prE p 1) x).Loop.length) c_4_3_2, .slice B_4_3_3 ((addE (prE p 1) x).Links.length) c_4_3_3, .slice B_4_3_4 ((addE (prE p 1) x).Out.length) c_4_3_4], hR ki_Entity 171 (.slice B_4_3_1 ((addE (prE p 1) x).Entities.length) c_4_3_1) ((addE (prE p 1) x).Entities), hR ki_Sent 235 (.slice B_4_3_2 ((addE (prE p 1) x).Loop.length) c_4_3_2) ((addE (prE p 1) x).Loop), hR ki_Link 178 (.slice B_4_3_3 ((addE (prE p 1) x).Links.length) c_4_3_3) ((addE (prE p 1) x).Links), hR ki_Outgoing 147 (.slice B_4_3_4 ((addE (prE p 1) x).Out.length) c_4_3_4) ((addE (prE p 1) x).Out), hB g_0_1 68 #[.int .i64 (0), .slice none 0 0, .slice none 0 0, .slice none 0 0, .slice none 0 0]] W148 := Ha150
        clear Ha150
        clear hu149
        refine ops_cons ?_
        refine op_pure rfl (rn_assign rfl) rfl rfl ?_
        refine ops_nil ?_
        refine then_n ?_
        refine wp_seq ?_
        have H152 : St w No [hR ki_Link 178 (.slice B_4_3_3 ((addE (prE p 1) x).Links.length) c_4_3_3) ((addE (prE p 1) x).Links), hB g_5_6 178 #[.int .i64 ((pxV 0 (zL p)).Peer), .bool ((pxV 0 (zL p)).Up), .slice B_5_2_2 ((pxV 0 (zL p)).Exports.length) c_5_2_2, .int .i64 ((pxV 0 (zL p)).Next), .slice B_5_2_4 ((pxV 0 (zL p)).Questions.length) c_5_2_4, .int .i64 ((pxV 0 (zL p)).Asked), .slice B_5_2_6 ((pxV 0 (zL p)).Answers.length) c_5_2_6], hR ki_Export 256 (.slice B_5_2_2 ((pxV 0 (zL p)).Exports.length) c_5_2_2) ((pxV 0 (zL p)).Exports), hR ki_Question 289 (.slice B_5_2_4 ((pxV 0 (zL p)).Questions.length) c_5_2_4) ((pxV 0 (zL p)).Questions), hR ki_Question 289 (.slice B_5_2_6 ((pxV 0 (zL p)).Answers.length) c_5_2_6) ((pxV 0 (zL p)).Answers), hM ki_Link (zL p) cs_5_1, hB g_4_7 68 #[.int .i64 ((addE (prE p 1) x).Id), .slice B_4_3_1 ((addE (prE p 1) x).Entities.length) c_4_3_1, .slice B_4_3_2 ((addE (prE p 1) x).Loop.length) c_4_3_2, .slice B_4_3_3 ((addE (prE p 1) x).Links.length) c_4_3_3, .slice B_4_3_4 ((addE (prE p 1) x).Out.length) c_4_3_4], hR ki_Entity 171 (.slice B_4_3_1 ((addE (prE p 1) x).Entities.length) c_4_3_1) ((addE (prE p 1) x).Entities), hR ki_Sent 235 (.slice B_4_3_2 ((addE (prE p 1) x).Loop.length) c_4_3_2) ((addE (prE p 1) x).Loop), hR ki_Outgoing 147 (.slice B_4_3_4 ((addE (prE p 1) x).Out.length) c_4_3_4) ((addE (prE p 1) x).Out), hB g_0_1 68 #[.int .i64 (0), .slice none 0 0, .slice none 0 0, .slice none 0 0, .slice none 0 0]] W148 := H151.pick [8, 0, 1, 2, 3, 4, 5, 6, 7, 9, 10] (by decide) rfl
        clear H151
        obtain ⟨gf153, rfl⟩ := H152.openS (q := k) (show k < (addE (prE p 1) x).Links.length from hk)
        obtain ⟨ce154, hn155, H156⟩ := H152.openG (q := k) (show k < (addE (prE p 1) x).Links.length from hk)
        clear H152
        have H157 : St w No [hE ki_Link 178 gf153 c_4_3_3 k ce154 ((addE (prE p 1) x).Links), hM ki_Link (x.Links[k]) ce154, hB g_5_6 178 #[.int .i64 ((pxV 0 (zL p)).Peer), .bool ((pxV 0 (zL p)).Up), .slice B_5_2_2 ((pxV 0 (zL p)).Exports.length) c_5_2_2, .int .i64 ((pxV 0 (zL p)).Next), .slice B_5_2_4 ((pxV 0 (zL p)).Questions.length) c_5_2_4, .int .i64 ((pxV 0 (zL p)).Asked), .slice B_5_2_6 ((pxV 0 (zL p)).Answers.length) c_5_2_6], hR ki_Export 256 (.slice B_5_2_2 ((pxV 0 (zL p)).Exports.length) c_5_2_2) ((pxV 0 (zL p)).Exports), hR ki_Question 289 (.slice B_5_2_4 ((pxV 0 (zL p)).Questions.length) c_5_2_4) ((pxV 0 (zL p)).Questions), hR ki_Question 289 (.slice B_5_2_6 ((pxV 0 (zL p)).Answers.length) c_5_2_6) ((pxV 0 (zL p)).Answers), hM ki_Link (zL p) cs_5_1, hB g_4_7 68 #[.int .i64 ((addE (prE p 1) x).Id), .slice B_4_3_1 ((addE (prE p 1) x).Entities.length) c_4_3_1, .slice B_4_3_2 ((addE (prE p 1) x).Loop.length) c_4_3_2, .slice (some ⟨gf153, 0, none⟩) ((addE (prE p 1) x).Links.length) c_4_3_3, .slice B_4_3_4 ((addE (prE p 1) x).Out.length) c_4_3_4], hR ki_Entity 171 (.slice B_4_3_1 ((addE (prE p 1) x).Entities.length) c_4_3_1) ((addE (prE p 1) x).Entities), hR ki_Sent 235 (.slice B_4_3_2 ((addE (prE p 1) x).Loop.length) c_4_3_2) ((addE (prE p 1) x).Loop), hR ki_Outgoing 147 (.slice B_4_3_4 ((addE (prE p 1) x).Out.length) c_4_3_4) ((addE (prE p 1) x).Out), hB g_0_1 68 #[.int .i64 (0), .slice none 0 0, .slice none 0 0, .slice none 0 0, .slice none 0 0]] W148 := H156
        clear H156
        have H168 : St w No [hM ki_Link (x.Links[k]) ce154, hE ki_Link 178 gf153 c_4_3_3 k ce154 ((addE (prE p 1) x).Links), hB g_5_6 178 #[.int .i64 ((pxV 0 (zL p)).Peer), .bool ((pxV 0 (zL p)).Up), .slice B_5_2_2 ((pxV 0 (zL p)).Exports.length) c_5_2_2, .int .i64 ((pxV 0 (zL p)).Next), .slice B_5_2_4 ((pxV 0 (zL p)).Questions.length) c_5_2_4, .int .i64 ((pxV 0 (zL p)).Asked), .slice B_5_2_6 ((pxV 0 (zL p)).Answers.length) c_5_2_6], hR ki_Export 256 (.slice B_5_2_2 ((pxV 0 (zL p)).Exports.length) c_5_2_2) ((pxV 0 (zL p)).Exports), hR ki_Question 289 (.slice B_5_2_4 ((pxV 0 (zL p)).Questions.length) c_5_2_4) ((pxV 0 (zL p)).Questions), hR ki_Question 289 (.slice B_5_2_6 ((pxV 0 (zL p)).Answers.length) c_5_2_6) ((pxV 0 (zL p)).Answers), hM ki_Link (zL p) cs_5_1, hB g_4_7 68 #[.int .i64 ((addE (prE p 1) x).Id), .slice B_4_3_1 ((addE (prE p 1) x).Entities.length) c_4_3_1, .slice B_4_3_2 ((addE (prE p 1) x).Loop.length) c_4_3_2, .slice (some ⟨gf153, 0, none⟩) ((addE (prE p 1) x).Links.length) c_4_3_3, .slice B_4_3_4 ((addE (prE p 1) x).Out.length) c_4_3_4], hR ki_Entity 171 (.slice B_4_3_1 ((addE (prE p 1) x).Entities.length) c_4_3_1) ((addE (prE p 1) x).Entities), hR ki_Sent 235 (.slice B_4_3_2 ((addE (prE p 1) x).Loop.length) c_4_3_2) ((addE (prE p 1) x).Loop), hR ki_Outgoing 147 (.slice B_4_3_4 ((addE (prE p 1) x).Out.length) c_4_3_4) ((addE (prE p 1) x).Out), hB g_0_1 68 #[.int .i64 (0), .slice none 0 0, .slice none 0 0, .slice none 0 0, .slice none 0 0]] W148 := H157.pick [1, 0, 2, 3, 4, 5, 6, 7, 8, 9, 10, 11] (by decide) rfl
        clear H157
        obtain ⟨F158, hM159, hb160⟩ := H168.unM
        obtain ⟨B162, c163, B164, c165, B166, c167, rfl, hst161⟩ := ki_Link_open hM159
        have H169 : St w No [hR ki_Export 256 (.slice B162 ((x.Links[k]).Exports.length) c163) ((x.Links[k]).Exports), hR ki_Question 289 (.slice B164 ((x.Links[k]).Questions.length) c165) ((x.Links[k]).Questions), hR ki_Question 289 (.slice B166 ((x.Links[k]).Answers.length) c167) ((x.Links[k]).Answers), hE ki_Link 178 gf153 c_4_3_3 k [.int .i64 ((x.Links[k]).Peer), .bool ((x.Links[k]).Up), .slice B162 ((x.Links[k]).Exports.length) c163, .int .i64 ((x.Links[k]).Next), .slice B164 ((x.Links[k]).Questions.length) c165, .int .i64 ((x.Links[k]).Asked), .slice B166 ((x.Links[k]).Answers.length) c167] ((addE (prE p 1) x).Links), hB g_5_6 178 #[.int .i64 ((pxV 0 (zL p)).Peer), .bool ((pxV 0 (zL p)).Up), .slice B_5_2_2 ((pxV 0 (zL p)).Exports.length) c_5_2_2, .int .i64 ((pxV 0 (zL p)).Next), .slice B_5_2_4 ((pxV 0 (zL p)).Questions.length) c_5_2_4, .int .i64 ((pxV 0 (zL p)).Asked), .slice B_5_2_6 ((pxV 0 (zL p)).Answers.length) c_5_2_6], hR ki_Export 256 (.slice B_5_2_2 ((pxV 0 (zL p)).Exports.length) c_5_2_2) ((pxV 0 (zL p)).Exports), hR ki_Question 289 (.slice B_5_2_4 ((pxV 0 (zL p)).Questions.length) c_5_2_4) ((pxV 0 (zL p)).Questions), hR ki_Question 289 (.slice B_5_2_6 ((pxV 0 (zL p)).Answers.length) c_5_2_6) ((pxV 0 (zL p)).Answers), hM ki_Link (zL p) cs_5_1, hB g_4_7 68 #[.int .i64 ((addE (prE p 1) x).Id), .slice B_4_3_1 ((addE (prE p 1) x).Entities.length) c_4_3_1, .slice B_4_3_2 ((addE (prE p 1) x).Loop.length) c_4_3_2, .slice (some ⟨gf153, 0, none⟩) ((addE (prE p 1) x).Links.length) c_4_3_3, .slice B_4_3_4 ((addE (prE p 1) x).Out.length) c_4_3_4], hR ki_Entity 171 (.slice B_4_3_1 ((addE (prE p 1) x).Entities.length) c_4_3_1) ((addE (prE p 1) x).Entities), hR ki_Sent 235 (.slice B_4_3_2 ((addE (prE p 1) x).Loop.length) c_4_3_2) ((addE (prE p 1) x).Loop), hR ki_Outgoing 147 (.slice B_4_3_4 ((addE (prE p 1) x).Out.length) c_4_3_4) ((addE (prE p 1) x).Out), hB g_0_1 68 #[.int .i64 (0), .slice none 0 0, .slice none 0 0, .slice none 0 0, .slice none 0 0]] W148 := hb160 _ hst161
        clear H168
        refine reg_seq [0, 1, 2, 3, 4, 5] rfl ?_
        refine ops_cons ?_
        refine op_pure rfl (rn_field fa_68_3 rfl) rfl rfl ?_
        refine ops_cons ?_
        refine op_pure rfl (rn_loadC (k := 3) (v := .slice (some ⟨gf153, 0, none⟩) ((addE (prE p 1) x).Links.length) c_4_3_3) Tryz.isAgg65 rfl (H169.blk 9 rfl) rfl) rfl rfl ?_
        refine ops_cons ?_
        refine op_pure rfl (rn_move rfl) rfl rfl ?_
        refine ops_cons ?_
        refine op_pure rfl (rn_loadB Tryz.isAgg178 Tryz.sizeOf178 rfl (H169.blk 4 rfl) rfl) rfl rfl ?_
        refine ops_cons ?_
        refine op_pure rfl (rn_indexA (k := k) Tryz.runUnderlying65 Tryz.sizeOf178 rfl rfl rfl (Nat.lt_of_lt_of_eq (show k < (addE (prE p 1) x).Links.length from hk) hn155.symm)) rfl rfl ?_
        refine ops_cons ?_
        have H173 : St w No [hE ki_Link 178 gf153 c_4_3_3 k [.int .i64 ((x.Links[k]).Peer), .bool ((x.Links[k]).Up), .slice B162 ((x.Links[k]).Exports.length) c163, .int .i64 ((x.Links[k]).Next), .slice B164 ((x.Links[k]).Questions.length) c165, .int .i64 ((x.Links[k]).Asked), .slice B166 ((x.Links[k]).Answers.length) c167] ((addE (prE p 1) x).Links), hR ki_Export 256 (.slice B162 ((x.Links[k]).Exports.length) c163) ((x.Links[k]).Exports), hR ki_Question 289 (.slice B164 ((x.Links[k]).Questions.length) c165) ((x.Links[k]).Questions), hR ki_Question 289 (.slice B166 ((x.Links[k]).Answers.length) c167) ((x.Links[k]).Answers), hB g_5_6 178 #[.int .i64 ((pxV 0 (zL p)).Peer), .bool ((pxV 0 (zL p)).Up), .slice B_5_2_2 ((pxV 0 (zL p)).Exports.length) c_5_2_2, .int .i64 ((pxV 0 (zL p)).Next), .slice B_5_2_4 ((pxV 0 (zL p)).Questions.length) c_5_2_4, .int .i64 ((pxV 0 (zL p)).Asked), .slice B_5_2_6 ((pxV 0 (zL p)).Answers.length) c_5_2_6], hR ki_Export 256 (.slice B_5_2_2 ((pxV 0 (zL p)).Exports.length) c_5_2_2) ((pxV 0 (zL p)).Exports), hR ki_Question 289 (.slice B_5_2_4 ((pxV 0 (zL p)).Questions.length) c_5_2_4) ((pxV 0 (zL p)).Questions), hR ki_Question 289 (.slice B_5_2_6 ((pxV 0 (zL p)).Answers.length) c_5_2_6) ((pxV 0 (zL p)).Answers), hM ki_Link (zL p) cs_5_1, hB g_4_7 68 #[.int .i64 ((addE (prE p 1) x).Id), .slice B_4_3_1 ((addE (prE p 1) x).Entities.length) c_4_3_1, .slice B_4_3_2 ((addE (prE p 1) x).Loop.length) c_4_3_2, .slice (some ⟨gf153, 0, none⟩) ((addE (prE p 1) x).Links.length) c_4_3_3, .slice B_4_3_4 ((addE (prE p 1) x).Out.length) c_4_3_4], hR ki_Entity 171 (.slice B_4_3_1 ((addE (prE p 1) x).Entities.length) c_4_3_1) ((addE (prE p 1) x).Entities), hR ki_Sent 235 (.slice B_4_3_2 ((addE (prE p 1) x).Loop.length) c_4_3_2) ((addE (prE p 1) x).Loop), hR ki_Outgoing 147 (.slice B_4_3_4 ((addE (prE p 1) x).Out.length) c_4_3_4) ((addE (prE p 1) x).Out), hB g_0_1 68 #[.int .i64 (0), .slice none 0 0, .slice none 0 0, .slice none 0 0, .slice none 0 0]] W148 := H169.pick [3, 0, 1, 2, 4, 5, 6, 7, 8, 9, 10, 11, 12, 13] (by decide) rfl
        clear H169
        refine op_storeE (dk := ki_Link) (k := 0) (ce' := [.int .i64 ((pxV 0 (zL p)).Peer), .bool ((pxV 0 (zL p)).Up), .slice B_5_2_2 ((pxV 0 (zL p)).Exports.length) c_5_2_2, .int .i64 ((pxV 0 (zL p)).Next), .slice B_5_2_4 ((pxV 0 (zL p)).Questions.length) c_5_2_4, .int .i64 ((pxV 0 (zL p)).Asked), .slice B_5_2_6 ((pxV 0 (zL p)).Answers.length) c_5_2_6]) rfl Tryz.sizeOf178 rfl rfl rfl rfl (Nat.le_of_ble_eq_true rfl) (by simp [Value.cells, Value.oneCell']) rfl H173 ?_
        intro W170 hu171 Ha172
        clear H173
        have H174 : St w No [hE ki_Link 178 gf153 c_4_3_3 k [.int .i64 ((pxV 0 (zL p)).Peer), .bool ((pxV 0 (zL p)).Up), .slice B_5_2_2 ((pxV 0 (zL p)).Exports.length) c_5_2_2, .int .i64 ((pxV 0 (zL p)).Next), .slice B_5_2_4 ((pxV 0 (zL p)).Questions.length) c_5_2_4, .int .i64 ((pxV 0 (zL p)).Asked), .slice B_5_2_6 ((pxV 0 (zL p)).Answers.length) c_5_2_6] ((addE (prE p 1) x).Links), hR ki_Export 256 (.slice B162 ((x.Links[k]).Exports.length) c163) ((x.Links[k]).Exports), hR ki_Question 289 (.slice B164 ((x.Links[k]).Questions.length) c165) ((x.Links[k]).Questions), hR ki_Question 289 (.slice B166 ((x.Links[k]).Answers.length) c167) ((x.Links[k]).Answers), hB g_5_6 178 #[.int .i64 ((pxV 0 (zL p)).Peer), .bool ((pxV 0 (zL p)).Up), .slice B_5_2_2 ((pxV 0 (zL p)).Exports.length) c_5_2_2, .int .i64 ((pxV 0 (zL p)).Next), .slice B_5_2_4 ((pxV 0 (zL p)).Questions.length) c_5_2_4, .int .i64 ((pxV 0 (zL p)).Asked), .slice B_5_2_6 ((pxV 0 (zL p)).Answers.length) c_5_2_6], hR ki_Export 256 (.slice B_5_2_2 ((pxV 0 (zL p)).Exports.length) c_5_2_2) ((pxV 0 (zL p)).Exports), hR ki_Question 289 (.slice B_5_2_4 ((pxV 0 (zL p)).Questions.length) c_5_2_4) ((pxV 0 (zL p)).Questions), hR ki_Question 289 (.slice B_5_2_6 ((pxV 0 (zL p)).Answers.length) c_5_2_6) ((pxV 0 (zL p)).Answers), hM ki_Link (zL p) cs_5_1, hB g_4_7 68 #[.int .i64 ((addE (prE p 1) x).Id), .slice B_4_3_1 ((addE (prE p 1) x).Entities.length) c_4_3_1, .slice B_4_3_2 ((addE (prE p 1) x).Loop.length) c_4_3_2, .slice (some ⟨gf153, 0, none⟩) ((addE (prE p 1) x).Links.length) c_4_3_3, .slice B_4_3_4 ((addE (prE p 1) x).Out.length) c_4_3_4], hR ki_Entity 171 (.slice B_4_3_1 ((addE (prE p 1) x).Entities.length) c_4_3_1) ((addE (prE p 1) x).Entities), hR ki_Sent 235 (.slice B_4_3_2 ((addE (prE p 1) x).Loop.length) c_4_3_2) ((addE (prE p 1) x).Loop), hR ki_Outgoing 147 (.slice B_4_3_4 ((addE (prE p 1) x).Out.length) c_4_3_4) ((addE (prE p 1) x).Out), hB g_0_1 68 #[.int .i64 (0), .slice none 0 0, .slice none 0 0, .slice none 0 0, .slice none 0 0]] W170 := Ha172
        clear Ha172
        clear hu171
        refine ops_nil ?_
        have H175 : St w No [hR ki_Export 256 (.slice B_5_2_2 ((pxV 0 (zL p)).Exports.length) c_5_2_2) ((pxV 0 (zL p)).Exports), hR ki_Question 289 (.slice B_5_2_4 ((pxV 0 (zL p)).Questions.length) c_5_2_4) ((pxV 0 (zL p)).Questions), hR ki_Question 289 (.slice B_5_2_6 ((pxV 0 (zL p)).Answers.length) c_5_2_6) ((pxV 0 (zL p)).Answers), hE ki_Link 178 gf153 c_4_3_3 k [.int .i64 ((pxV 0 (zL p)).Peer), .bool ((pxV 0 (zL p)).Up), .slice B_5_2_2 ((pxV 0 (zL p)).Exports.length) c_5_2_2, .int .i64 ((pxV 0 (zL p)).Next), .slice B_5_2_4 ((pxV 0 (zL p)).Questions.length) c_5_2_4, .int .i64 ((pxV 0 (zL p)).Asked), .slice B_5_2_6 ((pxV 0 (zL p)).Answers.length) c_5_2_6] ((addE (prE p 1) x).Links), hR ki_Export 256 (.slice B162 ((x.Links[k]).Exports.length) c163) ((x.Links[k]).Exports), hR ki_Question 289 (.slice B164 ((x.Links[k]).Questions.length) c165) ((x.Links[k]).Questions), hR ki_Question 289 (.slice B166 ((x.Links[k]).Answers.length) c167) ((x.Links[k]).Answers), hB g_5_6 178 #[.int .i64 ((pxV 0 (zL p)).Peer), .bool ((pxV 0 (zL p)).Up), .slice B_5_2_2 ((pxV 0 (zL p)).Exports.length) c_5_2_2, .int .i64 ((pxV 0 (zL p)).Next), .slice B_5_2_4 ((pxV 0 (zL p)).Questions.length) c_5_2_4, .int .i64 ((pxV 0 (zL p)).Asked), .slice B_5_2_6 ((pxV 0 (zL p)).Answers.length) c_5_2_6], hM ki_Link (zL p) cs_5_1, hB g_4_7 68 #[.int .i64 ((addE (prE p 1) x).Id), .slice B_4_3_1 ((addE (prE p 1) x).Entities.length) c_4_3_1, .slice B_4_3_2 ((addE (prE p 1) x).Loop.length) c_4_3_2, .slice (some ⟨gf153, 0, none⟩) ((addE (prE p 1) x).Links.length) c_4_3_3, .slice B_4_3_4 ((addE (prE p 1) x).Out.length) c_4_3_4], hR ki_Entity 171 (.slice B_4_3_1 ((addE (prE p 1) x).Entities.length) c_4_3_1) ((addE (prE p 1) x).Entities), hR ki_Sent 235 (.slice B_4_3_2 ((addE (prE p 1) x).Loop.length) c_4_3_2) ((addE (prE p 1) x).Loop), hR ki_Outgoing 147 (.slice B_4_3_4 ((addE (prE p 1) x).Out.length) c_4_3_4) ((addE (prE p 1) x).Out), hB g_0_1 68 #[.int .i64 (0), .slice none 0 0, .slice none 0 0, .slice none 0 0, .slice none 0 0]] W170 := H174.pick [5, 6, 7, 0, 1, 2, 3, 4, 8, 9, 10, 11, 12, 13] (by decide) rfl
        clear H174
        have H176 : St w No [hM ki_Link (pxV 0 (zL p)) [.int .i64 ((pxV 0 (zL p)).Peer), .bool ((pxV 0 (zL p)).Up), .slice B_5_2_2 ((pxV 0 (zL p)).Exports.length) c_5_2_2, .int .i64 ((pxV 0 (zL p)).Next), .slice B_5_2_4 ((pxV 0 (zL p)).Questions.length) c_5_2_4, .int .i64 ((pxV 0 (zL p)).Asked), .slice B_5_2_6 ((pxV 0 (zL p)).Answers.length) c_5_2_6], hE ki_Link 178 gf153 c_4_3_3 k [.int .i64 ((pxV 0 (zL p)).Peer), .bool ((pxV 0 (zL p)).Up), .slice B_5_2_2 ((pxV 0 (zL p)).Exports.length) c_5_2_2, .int .i64 ((pxV 0 (zL p)).Next), .slice B_5_2_4 ((pxV 0 (zL p)).Questions.length) c_5_2_4, .int .i64 ((pxV 0 (zL p)).Asked), .slice B_5_2_6 ((pxV 0 (zL p)).Answers.length) c_5_2_6] ((addE (prE p 1) x).Links), hR ki_Export 256 (.slice B162 ((x.Links[k]).Exports.length) c163) ((x.Links[k]).Exports), hR ki_Question 289 (.slice B164 ((x.Links[k]).Questions.length) c165) ((x.Links[k]).Questions), hR ki_Question 289 (.slice B166 ((x.Links[k]).Answers.length) c167) ((x.Links[k]).Answers), hB g_5_6 178 #[.int .i64 ((pxV 0 (zL p)).Peer), .bool ((pxV 0 (zL p)).Up), .slice B_5_2_2 ((pxV 0 (zL p)).Exports.length) c_5_2_2, .int .i64 ((pxV 0 (zL p)).Next), .slice B_5_2_4 ((pxV 0 (zL p)).Questions.length) c_5_2_4, .int .i64 ((pxV 0 (zL p)).Asked), .slice B_5_2_6 ((pxV 0 (zL p)).Answers.length) c_5_2_6], hM ki_Link (zL p) cs_5_1, hB g_4_7 68 #[.int .i64 ((addE (prE p 1) x).Id), .slice B_4_3_1 ((addE (prE p 1) x).Entities.length) c_4_3_1, .slice B_4_3_2 ((addE (prE p 1) x).Loop.length) c_4_3_2, .slice (some ⟨gf153, 0, none⟩) ((addE (prE p 1) x).Links.length) c_4_3_3, .slice B_4_3_4 ((addE (prE p 1) x).Out.length) c_4_3_4], hR ki_Entity 171 (.slice B_4_3_1 ((addE (prE p 1) x).Entities.length) c_4_3_1) ((addE (prE p 1) x).Entities), hR ki_Sent 235 (.slice B_4_3_2 ((addE (prE p 1) x).Loop.length) c_4_3_2) ((addE (prE p 1) x).Loop), hR ki_Outgoing 147 (.slice B_4_3_4 ((addE (prE p 1) x).Out.length) c_4_3_4) ((addE (prE p 1) x).Out), hB g_0_1 68 #[.int .i64 (0), .slice none 0 0, .slice none 0 0, .slice none 0 0, .slice none 0 0]] W170 := H175.swap (l0 := [hR ki_Export 256 (.slice B_5_2_2 ((pxV 0 (zL p)).Exports.length) c_5_2_2) ((pxV 0 (zL p)).Exports), hR ki_Question 289 (.slice B_5_2_4 ((pxV 0 (zL p)).Questions.length) c_5_2_4) ((pxV 0 (zL p)).Questions), hR ki_Question 289 (.slice B_5_2_6 ((pxV 0 (zL p)).Answers.length) c_5_2_6) ((pxV 0 (zL p)).Answers)]) (l' := [hM ki_Link (pxV 0 (zL p)) [.int .i64 ((pxV 0 (zL p)).Peer), .bool ((pxV 0 (zL p)).Up), .slice B_5_2_2 ((pxV 0 (zL p)).Exports.length) c_5_2_2, .int .i64 ((pxV 0 (zL p)).Next), .slice B_5_2_4 ((pxV 0 (zL p)).Questions.length) c_5_2_4, .int .i64 ((pxV 0 (zL p)).Asked), .slice B_5_2_6 ((pxV 0 (zL p)).Answers.length) c_5_2_6]]) (fun _ h => Star.one (ki_Link_close (x := (pxV 0 (zL p))) h))
        clear H175
        have H177 : St w No [hE ki_Link 178 gf153 c_4_3_3 k [.int .i64 ((pxV 0 (zL p)).Peer), .bool ((pxV 0 (zL p)).Up), .slice B_5_2_2 ((pxV 0 (zL p)).Exports.length) c_5_2_2, .int .i64 ((pxV 0 (zL p)).Next), .slice B_5_2_4 ((pxV 0 (zL p)).Questions.length) c_5_2_4, .int .i64 ((pxV 0 (zL p)).Asked), .slice B_5_2_6 ((pxV 0 (zL p)).Answers.length) c_5_2_6] ((addE (prE p 1) x).Links), hM ki_Link (pxV 0 (zL p)) [.int .i64 ((pxV 0 (zL p)).Peer), .bool ((pxV 0 (zL p)).Up), .slice B_5_2_2 ((pxV 0 (zL p)).Exports.length) c_5_2_2, .int .i64 ((pxV 0 (zL p)).Next), .slice B_5_2_4 ((pxV 0 (zL p)).Questions.length) c_5_2_4, .int .i64 ((pxV 0 (zL p)).Asked), .slice B_5_2_6 ((pxV 0 (zL p)).Answers.length) c_5_2_6], hR ki_Export 256 (.slice B162 ((x.Links[k]).Exports.length) c163) ((x.Links[k]).Exports), hR ki_Question 289 (.slice B164 ((x.Links[k]).Questions.length) c165) ((x.Links[k]).Questions), hR ki_Question 289 (.slice B166 ((x.Links[k]).Answers.length) c167) ((x.Links[k]).Answers), hB g_5_6 178 #[.int .i64 ((pxV 0 (zL p)).Peer), .bool ((pxV 0 (zL p)).Up), .slice B_5_2_2 ((pxV 0 (zL p)).Exports.length) c_5_2_2, .int .i64 ((pxV 0 (zL p)).Next), .slice B_5_2_4 ((pxV 0 (zL p)).Questions.length) c_5_2_4, .int .i64 ((pxV 0 (zL p)).Asked), .slice B_5_2_6 ((pxV 0 (zL p)).Answers.length) c_5_2_6], hM ki_Link (zL p) cs_5_1, hB g_4_7 68 #[.int .i64 ((addE (prE p 1) x).Id), .slice B_4_3_1 ((addE (prE p 1) x).Entities.length) c_4_3_1, .slice B_4_3_2 ((addE (prE p 1) x).Loop.length) c_4_3_2, .slice (some ⟨gf153, 0, none⟩) ((addE (prE p 1) x).Links.length) c_4_3_3, .slice B_4_3_4 ((addE (prE p 1) x).Out.length) c_4_3_4], hR ki_Entity 171 (.slice B_4_3_1 ((addE (prE p 1) x).Entities.length) c_4_3_1) ((addE (prE p 1) x).Entities), hR ki_Sent 235 (.slice B_4_3_2 ((addE (prE p 1) x).Loop.length) c_4_3_2) ((addE (prE p 1) x).Loop), hR ki_Outgoing 147 (.slice B_4_3_4 ((addE (prE p 1) x).Out.length) c_4_3_4) ((addE (prE p 1) x).Out), hB g_0_1 68 #[.int .i64 (0), .slice none 0 0, .slice none 0 0, .slice none 0 0, .slice none 0 0]] W170 := H176.pick [1, 0, 2, 3, 4, 5, 6, 7, 8, 9, 10, 11] (by decide) rfl
        clear H176
        have H178 : St w No [hR ki_Link 178 (.slice (some ⟨gf153, 0, none⟩) ((addE (prE p 1) x).Links.length) c_4_3_3) (x.Links.set k (pxV 0 (zL p))), hR ki_Export 256 (.slice B162 ((x.Links[k]).Exports.length) c163) ((x.Links[k]).Exports), hR ki_Question 289 (.slice B164 ((x.Links[k]).Questions.length) c165) ((x.Links[k]).Questions), hR ki_Question 289 (.slice B166 ((x.Links[k]).Answers.length) c167) ((x.Links[k]).Answers), hB g_5_6 178 #[.int .i64 ((pxV 0 (zL p)).Peer), .bool ((pxV 0 (zL p)).Up), .slice B_5_2_2 ((pxV 0 (zL p)).Exports.length) c_5_2_2, .int .i64 ((pxV 0 (zL p)).Next), .slice B_5_2_4 ((pxV 0 (zL p)).Questions.length) c_5_2_4, .int .i64 ((pxV 0 (zL p)).Asked), .slice B_5_2_6 ((pxV 0 (zL p)).Answers.length) c_5_2_6], hM ki_Link (zL p) cs_5_1, hB g_4_7 68 #[.int .i64 ((addE (prE p 1) x).Id), .slice B_4_3_1 ((addE (prE p 1) x).Entities.length) c_4_3_1, .slice B_4_3_2 ((addE (prE p 1) x).Loop.length) c_4_3_2, .slice (some ⟨gf153, 0, none⟩) ((addE (prE p 1) x).Links.length) c_4_3_3, .slice B_4_3_4 ((addE (prE p 1) x).Out.length) c_4_3_4], hR ki_Entity 171 (.slice B_4_3_1 ((addE (prE p 1) x).Entities.length) c_4_3_1) ((addE (prE p 1) x).Entities), hR ki_Sent 235 (.slice B_4_3_2 ((addE (prE p 1) x).Loop.length) c_4_3_2) ((addE (prE p 1) x).Loop), hR ki_Outgoing 147 (.slice B_4_3_4 ((addE (prE p 1) x).Out.length) c_4_3_4) ((addE (prE p 1) x).Out), hB g_0_1 68 #[.int .i64 (0), .slice none 0 0, .slice none 0 0, .slice none 0 0, .slice none 0 0]] W170 := H177.closeG rfl (List.length_set ..).symm
        clear H177
        refine then_n ?_
        refine wp_seq ?_
        refine reg_seq [0, 1, 2, 3] rfl ?_
        refine ops_cons ?_
        refine op_pure rfl (rn_loadB Tryz.isAgg68 Tryz.sizeOf68 rfl (H178.blk 6 rfl) rfl) rfl rfl ?_
        refine ops_cons ?_
        refine op_pure rfl (rn_move rfl) rfl rfl ?_
        refine ops_cons ?_
        have H182 : St w No [hB g_0_1 68 #[.int .i64 (0), .slice none 0 0, .slice none 0 0, .slice none 0 0, .slice none 0 0], hR ki_Link 178 (.slice (some ⟨gf153, 0, none⟩) ((addE (prE p 1) x).Links.length) c_4_3_3) (x.Links.set k (pxV 0 (zL p))), hR ki_Export 256 (.slice B162 ((x.Links[k]).Exports.length) c163) ((x.Links[k]).Exports), hR ki_Question 289 (.slice B164 ((x.Links[k]).Questions.length) c165) ((x.Links[k]).Questions), hR ki_Question 289 (.slice B166 ((x.Links[k]).Answers.length) c167) ((x.Links[k]).Answers), hB g_5_6 178 #[.int .i64 ((pxV 0 (zL p)).Peer), .bool ((pxV 0 (zL p)).Up), .slice B_5_2_2 ((pxV 0 (zL p)).Exports.length) c_5_2_2, .int .i64 ((pxV 0 (zL p)).Next), .slice B_5_2_4 ((pxV 0 (zL p)).Questions.length) c_5_2_4, .int .i64 ((pxV 0 (zL p)).Asked), .slice B_5_2_6 ((pxV 0 (zL p)).Answers.length) c_5_2_6], hM ki_Link (zL p) cs_5_1, hB g_4_7 68 #[.int .i64 ((addE (prE p 1) x).Id), .slice B_4_3_1 ((addE (prE p 1) x).Entities.length) c_4_3_1, .slice B_4_3_2 ((addE (prE p 1) x).Loop.length) c_4_3_2, .slice (some ⟨gf153, 0, none⟩) ((addE (prE p 1) x).Links.length) c_4_3_3, .slice B_4_3_4 ((addE (prE p 1) x).Out.length) c_4_3_4], hR ki_Entity 171 (.slice B_4_3_1 ((addE (prE p 1) x).Entities.length) c_4_3_1) ((addE (prE p 1) x).Entities), hR ki_Sent 235 (.slice B_4_3_2 ((addE (prE p 1) x).Loop.length) c_4_3_2) ((addE (prE p 1) x).Loop), hR ki_Outgoing 147 (.slice B_4_3_4 ((addE (prE p 1) x).Out.length) c_4_3_4) ((addE (prE p 1) x).Out)] W170 := H178.pick [10, 0, 1, 2, 3, 4, 5, 6, 7, 8, 9] (by decide) rfl
        clear H178
        refine op_storeW rfl Tryz.sizeOf68 rfl rfl rfl rfl (by simp [Value.oneCell']) H182 ?_
        intro W179 hu180 Ha181
        clear H182
        have H183 : St w No [hB g_0_1 68 #[.int .i64 ((addE (prE p 1) x).Id), .slice B_4_3_1 ((addE (prE p 1) x).Entities.length) c_4_3_1, .slice B_4_3_2 ((addE (prE p 1) x).Loop.length) c_4_3_2, .slice (some ⟨gf153, 0, none⟩) ((addE (prE p 1) x).Links.length) c_4_3_3, .slice B_4_3_4 ((addE (prE p 1) x).Out.length) c_4_3_4], hR ki_Link 178 (.slice (some ⟨gf153, 0, none⟩) ((addE (prE p 1) x).Links.length) c_4_3_3) (x.Links.set k (pxV 0 (zL p))), hR ki_Export 256 (.slice B162 ((x.Links[k]).Exports.length) c163) ((x.Links[k]).Exports), hR ki_Question 289 (.slice B164 ((x.Links[k]).Questions.length) c165) ((x.Links[k]).Questions), hR ki_Question 289 (.slice B166 ((x.Links[k]).Answers.length) c167) ((x.Links[k]).Answers), hB g_5_6 178 #[.int .i64 ((pxV 0 (zL p)).Peer), .bool ((pxV 0 (zL p)).Up), .slice B_5_2_2 ((pxV 0 (zL p)).Exports.length) c_5_2_2, .int .i64 ((pxV 0 (zL p)).Next), .slice B_5_2_4 ((pxV 0 (zL p)).Questions.length) c_5_2_4, .int .i64 ((pxV 0 (zL p)).Asked), .slice B_5_2_6 ((pxV 0 (zL p)).Answers.length) c_5_2_6], hM ki_Link (zL p) cs_5_1, hB g_4_7 68 #[.int .i64 ((addE (prE p 1) x).Id), .slice B_4_3_1 ((addE (prE p 1) x).Entities.length) c_4_3_1, .slice B_4_3_2 ((addE (prE p 1) x).Loop.length) c_4_3_2, .slice (some ⟨gf153, 0, none⟩) ((addE (prE p 1) x).Links.length) c_4_3_3, .slice B_4_3_4 ((addE (prE p 1) x).Out.length) c_4_3_4], hR ki_Entity 171 (.slice B_4_3_1 ((addE (prE p 1) x).Entities.length) c_4_3_1) ((addE (prE p 1) x).Entities), hR ki_Sent 235 (.slice B_4_3_2 ((addE (prE p 1) x).Loop.length) c_4_3_2) ((addE (prE p 1) x).Loop), hR ki_Outgoing 147 (.slice B_4_3_4 ((addE (prE p 1) x).Out.length) c_4_3_4) ((addE (prE p 1) x).Out)] W179 := Ha181
        clear Ha181
        clear hu180
        refine ops_cons ?_
        refine op_pure rfl (rn_assign rfl) rfl rfl ?_
        refine ops_nil ?_
        refine then_n ?_
        refine wp_ret ?_
        have hU : x.Links[k].Up = false := by first | exact Bool.eq_false_iff.2 hg20 | exact hg20
        have hok : jOk p x.Entities x.Links = true := by rw [j_yes p x.Entities x.Links k hk hf, hU]; exact (decide_eq_true (by omega) : decide (x.Entities.length < 200) = true)
        obtain ⟨e1, e2, e3⟩ := j_in p x.Entities x.Links k hf hok
        refine post_cell_tmp (.inl rfl) Tryz.results41 Tryz.isAgg68 Tryz.sizeOf68 rfl rfl (H183.blk 0 rfl) rfl ?_
        unfold joinV
        rw [e1, e2, e3]
        exact ⟨_, rfl, vat_closeN (x := ⟨x.Id, addL (prE p 1) x.Entities, x.Loop, x.Links.set k (pxV 0 (zL p)), x.Out⟩) (List.length_set ..).symm (H183.pick [8, 9, 1, 10] (by decide) rfl).star, H183.1⟩
set_option maxHeartbeats 4000000 in
set_option maxRecDepth 100000 in
theorem join_no (le : List GEntity) (ll : List GLink) (p : Int) (g cE cL : Nat) (AE AL : Option Addr) (u0 u2 u4 : Value) (F0 : Nat → Prop) (w : World) (h : Star [hB g 68 #[u0, .slice AE (le).length cE, u2, .slice AL (ll).length cL, u4], hR ki_Entity 171 (.slice AE (le).length cE) (le), hR ki_Link 178 (.slice AL (ll).length cL) (ll)] w F0) (hne : le.length ≤ 4194304) (hf : fidx (peP p) 0 ll = -1) : Calls Tryz.prog 128 #[.pointer (some ⟨g, 0, none⟩), .int .i64 p] w (fun e' w' => ∃ A c A2 c2, e' = .returned (.int .i64 (jN p le ll)) ∧ St w F0 [hB g 68 #[u0, .slice A (jE p le ll).length c, u2, .slice A2 (jL p le ll).length c2, u4], hR ki_Entity 171 (.slice A (jE p le ll).length c) (jE p le ll), hR ki_Link 178 (.slice A2 (jL p le ll).length c2) (jL p le ll)] w') := by
  refine enter 42 [(0, .pointer (some ⟨g, 0, none⟩)), (1, .int .i64 (p))] Tryz.func128 rfl (by kernel_rfl) ?_
  intro xj
  have H1 : St w F0 [hB g 68 #[u0, .slice AE le.length cE, u2, .slice AL ll.length cL, u4], hR ki_Entity 171 (.slice AE le.length cE) le, hR ki_Link 178 (.slice AL ll.length cL) ll] w := St.enterF h
  refine wp_seq ?_
  refine reg_seq [0] rfl ?_
  refine ops_cons ?_
  refine op_pure rfl (rn_assign rfl) rfl rfl ?_
  refine ops_nil ?_
  refine then_n ?_
  refine wp_seq ?_
  refine reg_seq [0, 1, 2, 3, 4, 5] rfl ?_
  refine ops_cons ?_
  refine op_pure rfl (rn_move rfl) rfl rfl ?_
  refine ops_cons ?_
  refine op_pure rfl (rn_nilCheck rfl) rfl rfl ?_
  refine ops_cons ?_
  refine op_pure rfl (rn_loadB Tryz.isAgg68 Tryz.sizeOf68 rfl (H1.blk 0 rfl) rfl) rfl rfl ?_
  refine ops_cons ?_
  refine op_pure rfl (rn_move rfl) rfl rfl ?_
  refine ops_cons ?_
  refine op_call rfl Tryz.call185 (vs := #[.agg #[u0, .slice AE le.length cE, u2, .slice AL ll.length cL, u4], .int .i64 (p)]) rfl rfl rfl (hf ▸ (linkTo_i ll p _ _ _ _ _ _ _ (H1.rowC 2 rfl))) ?_
  rintro e4 W3 ⟨rfl, hu2⟩
  refine ⟨_, rfl, ?_⟩
  have H5 : St w F0 [hB g 68 #[u0, .slice AE le.length cE, u2, .slice AL ll.length cL, u4], hR ki_Entity 171 (.slice AE le.length cE) le, hR ki_Link 178 (.slice AL ll.length cL) ll] W3 := H1.no hu2
  clear H1
  refine ops_cons ?_
  refine op_pure rfl (rn_assign rfl) rfl rfl ?_
  refine ops_nil ?_
  refine then_n ?_
  refine wp_seq ?_
  refine wp_seq ?_
  refine reg_seq [0, 1, 2, 3, 4, 5, 6, 7, 8, 9, 10, 11] rfl ?_
  refine ops_cons ?_
  refine op_pure rfl (rn_move rfl) rfl rfl ?_
  refine ops_cons ?_
  refine op_pure rfl (rn_decT (p := ((-1) : Int) < 0) (by decide) (rn_lss (p := (-1)) (q := 0) rfl rfl)) rfl rfl ?_
  refine ops_cons ?_
  refine op_pure rfl (rn_move rfl) rfl rfl ?_
  refine ops_cons ?_
  refine op_skipG rfl rfl rfl rfl rfl rfl rfl ?_
  refine ops_cons ?_
  refine op_skipG rfl rfl rfl rfl rfl rfl rfl ?_
  refine ops_cons ?_
  refine op_skipG rfl rfl rfl rfl rfl rfl rfl ?_
  refine ops_cons ?_
  refine op_skipG rfl rfl rfl rfl rfl rfl rfl ?_
  refine ops_cons ?_
  refine op_skipG rfl rfl rfl rfl rfl rfl rfl ?_
  refine ops_cons ?_
  refine op_skipG rfl rfl rfl rfl rfl rfl rfl ?_
  refine ops_cons ?_
  refine op_skipG rfl rfl rfl rfl rfl rfl rfl ?_
  refine ops_cons ?_
  refine op_skipG rfl rfl rfl rfl rfl rfl rfl ?_
  refine ops_cons ?_
  refine op_pure rfl (rn_pick (v := .bool (true)) (b := true) rfl rfl rfl rfl) rfl rfl ?_
  refine ops_nil ?_
  refine then_n ?_
  refine cond_t rfl ?_
  refine wp_seq ?_
  refine reg_seq [0] rfl ?_
  refine ops_cons ?_
  refine op_pure rfl (rn_assign rfl) rfl rfl ?_
  refine ops_nil ?_
  refine then_n ?_
  refine wp_ret ?_
  refine then_r ?_
  obtain ⟨e1, e2, e3⟩ := j_out p le ll (j_no p le ll hf)
  refine post_tmp (.inl rfl) Tryz.results128 rfl ?_
  rw [e1, e2, e3]
  exact ⟨AE, cE, AL, cL, rfl, H5.pick [0, 1, 2] (by decide) rfl⟩
set_option maxHeartbeats 4000000 in
set_option maxRecDepth 100000 in
theorem join_yes (le : List GEntity) (ll : List GLink) (p : Int) (g cE cL : Nat) (AE AL : Option Addr) (u0 u2 u4 : Value) (F0 : Nat → Prop) (w : World) (h : Star [hB g 68 #[u0, .slice AE (le).length cE, u2, .slice AL (ll).length cL, u4], hR ki_Entity 171 (.slice AE (le).length cE) (le), hR ki_Link 178 (.slice AL (ll).length cL) (ll)] w F0) (hne : le.length ≤ 4194304) (k : Nat) (hk : k < ll.length) (hf : fidx (peP p) 0 ll = (k : Int)) : Calls Tryz.prog 128 #[.pointer (some ⟨g, 0, none⟩), .int .i64 p] w (fun e' w' => ∃ A c A2 c2, e' = .returned (.int .i64 (jN p le ll)) ∧ St w F0 [hB g 68 #[u0, .slice A (jE p le ll).length c, u2, .slice A2 (jL p le ll).length c2, u4], hR ki_Entity 171 (.slice A (jE p le ll).length c) (jE p le ll), hR ki_Link 178 (.slice A2 (jL p le ll).length c2) (jL p le ll)] w') := by
  refine enter 42 [(0, .pointer (some ⟨g, 0, none⟩)), (1, .int .i64 (p))] Tryz.func128 rfl (by kernel_rfl) ?_
  intro xj
  have H1 : St w F0 [hB g 68 #[u0, .slice AE le.length cE, u2, .slice AL ll.length cL, u4], hR ki_Entity 171 (.slice AE le.length cE) le, hR ki_Link 178 (.slice AL ll.length cL) ll] w := St.enterF h
  refine wp_seq ?_
  refine reg_seq [0] rfl ?_
  refine ops_cons ?_
  refine op_pure rfl (rn_assign rfl) rfl rfl ?_
  refine ops_nil ?_
  refine then_n ?_
  refine wp_seq ?_
  refine reg_seq [0, 1, 2, 3, 4, 5] rfl ?_
  refine ops_cons ?_
  refine op_pure rfl (rn_move rfl) rfl rfl ?_
  refine ops_cons ?_
  refine op_pure rfl (rn_nilCheck rfl) rfl rfl ?_
  refine ops_cons ?_
  refine op_pure rfl (rn_loadB Tryz.isAgg68 Tryz.sizeOf68 rfl (H1.blk 0 rfl) rfl) rfl rfl ?_
  refine ops_cons ?_
  refine op_pure rfl (rn_move rfl) rfl rfl ?_
  refine ops_cons ?_
  refine op_call rfl Tryz.call185 (vs := #[.agg #[u0, .slice AE le.length cE, u2, .slice AL ll.length cL, u4], .int .i64 (p)]) rfl rfl rfl (hf ▸ (linkTo_i ll p _ _ _ _ _ _ _ (H1.rowC 2 rfl))) ?_
  rintro e4 W3 ⟨rfl, hu2⟩
  refine ⟨_, rfl, ?_⟩
  have H5 : St w F0 [hB g 68 #[u0, .slice AE le.length cE, u2, .slice AL ll.length cL, u4], hR ki_Entity 171 (.slice AE le.length cE) le, hR ki_Link 178 (.slice AL ll.length cL) ll] W3 := H1.no hu2
  clear H1
  refine ops_cons ?_
  refine op_pure rfl (rn_assign rfl) rfl rfl ?_
  refine ops_nil ?_
  refine then_n ?_
  refine wp_seq ?_
  refine wp_seq ?_
  obtain ⟨ade, cse, hAe, hKe, hce⟩ := C_elem (H5.rowC 2 rfl) k hk
  obtain ⟨Aade_2, cade_2, Aade_4, cade_4, Aade_6, cade_6, rfl, hlade_2, hCade_2, hlade_4, hCade_4, hlade_6, hCade_6⟩ := ki_Link_K hKe
  refine reg_seq [0, 1, 2, 3, 4, 5, 6, 7, 8, 9, 10, 11] rfl ?_
  refine ops_cons ?_
  refine op_pure rfl (rn_move rfl) rfl rfl ?_
  refine ops_cons ?_
  refine op_pure rfl (rn_decF (p := (((k : Nat) : Int) : Int) < 0) (by omega) (rn_lss (p := ((k : Nat) : Int)) (q := 0) rfl rfl)) rfl rfl ?_
  refine ops_cons ?_
  refine op_pure rfl (rn_move rfl) rfl rfl ?_
  refine ops_cons ?_
  refine op_G rfl rfl rfl rfl (fun _ ho6 => ?_)
  refine op_pure ho6 (rn_move rfl) rfl rfl ?_
  refine ops_cons ?_
  refine op_G rfl rfl rfl rfl (fun _ ho7 => ?_)
  refine op_pure ho7 (rn_nilCheck rfl) rfl rfl ?_
  refine ops_cons ?_
  refine op_G rfl rfl rfl rfl (fun _ ho8 => ?_)
  refine op_pure ho8 (rn_field fa_68_3 rfl) rfl rfl ?_
  refine ops_cons ?_
  refine op_G rfl rfl rfl rfl (fun _ ho9 => ?_)
  refine op_pure ho9 (rn_loadC (k := 3) (v := .slice AL ll.length cL) Tryz.isAgg65 rfl (H5.blk 0 rfl) rfl) rfl rfl ?_
  refine ops_cons ?_
  refine op_G rfl rfl rfl rfl (fun _ ho10 => ?_)
  refine op_pure ho10 (rn_move rfl) rfl rfl ?_
  refine ops_cons ?_
  refine op_G rfl rfl rfl rfl (fun _ ho11 => ?_)
  refine op_pure ho11 (rn_indexA (k := k) Tryz.runUnderlying65 Tryz.sizeOf178 rfl rfl hAe hk) rfl rfl ?_
  refine ops_cons ?_
  refine op_G rfl rfl rfl rfl (fun _ ho12 => ?_)
  refine op_pure ho12 (rn_field fa_178_1 rfl) rfl rfl ?_
  by_cases hg13 : (ll[k].Up) = true
  · refine ops_cons ?_
    refine op_G rfl rfl rfl rfl (fun _ ho14 => ?_)
    refine op_pure ho14 (rn_bool (b := ll[k].Up) hg13 (rn_loadE (v := .bool (ll[k].Up)) Tryz.isAgg4 rfl hce rfl)) rfl rfl ?_
    refine ops_cons ?_
    refine op_pure rfl (rn_pick (v := .bool (true)) (b := false) rfl rfl rfl rfl) rfl rfl ?_
    refine ops_nil ?_
    refine then_n ?_
    refine cond_t rfl ?_
    refine wp_seq ?_
    refine reg_seq [0] rfl ?_
    refine ops_cons ?_
    refine op_pure rfl (rn_assign rfl) rfl rfl ?_
    refine ops_nil ?_
    refine then_n ?_
    refine wp_ret ?_
    refine then_r ?_
    have hok : jOk p le ll = false := by rw [j_yes p le ll k hk hf, hg13]; rfl
    obtain ⟨e1, e2, e3⟩ := j_out p le ll hok
    refine post_tmp (.inl rfl) Tryz.results128 rfl ?_
    rw [e1, e2, e3]
    exact ⟨AE, cE, AL, cL, rfl, H5.pick [0, 1, 2] (by decide) rfl⟩
  · refine ops_cons ?_
    refine op_G rfl rfl rfl rfl (fun _ ho15 => ?_)
    refine op_pure ho15 (rn_bool (b := ll[k].Up) (eq_false_of_ne_true hg13) (rn_loadE (v := .bool (ll[k].Up)) Tryz.isAgg4 rfl hce rfl)) rfl rfl ?_
    refine ops_cons ?_
    refine op_pure rfl (rn_pick (v := .bool (false)) (b := false) rfl rfl rfl rfl) rfl rfl ?_
    refine ops_nil ?_
    refine then_n ?_
    refine cond_f rfl ?_
    refine wp_skip ?_
    refine then_n ?_
    refine wp_seq ?_
    refine reg_seq [0, 1, 2, 3, 4] rfl ?_
    refine ops_cons ?_
    refine op_pure rfl (rn_move rfl) rfl rfl ?_
    refine ops_cons ?_
    refine op_pure rfl (rn_move rfl) rfl rfl ?_
    refine ops_cons ?_
    refine op_call rfl Tryz.call150 (vs := #[.int .i64 (p), .int .i64 (1)]) rfl rfl rfl (newProxy_i p 1 _) ?_
    rintro e19 W18 ⟨cs_4_2, rfl, hM16, hu17⟩
    refine ⟨_, rfl, ?_⟩
    have hl20 := ki_Entity_len (ki_Entity.K_of_M hM16)
    have ho21 := ki_Entity_one (ki_Entity.K_of_M hM16)
    have H22 : St w F0 [hM ki_Entity (prE p 1) cs_4_2, hB g 68 #[u0, .slice AE le.length cE, u2, .slice AL ll.length cL, u4], hR ki_Entity 171 (.slice AE le.length cE) le, hR ki_Link 178 (.slice AL ll.length cL) ll] W18 := H5.new hu17 hM16
    clear H5
    refine ops_cons ?_
    have H23 : St w F0 [hB g 68 #[u0, .slice AE le.length cE, u2, .slice AL ll.length cL, u4], hR ki_Entity 171 (.slice AE le.length cE) le, hM ki_Entity (prE p 1) cs_4_2, hR ki_Link 178 (.slice AL ll.length cL) ll] W18 := H22.pick [1, 2, 0, 3] (by decide) rfl
    clear H22
    obtain ⟨F24, hs25, _, hfr26⟩ := St.frame (l0 := [hB g 68 #[u0, .slice AE le.length cE, u2, .slice AL ll.length cL, u4], hR ki_Entity 171 (.slice AE le.length cE) le, hM ki_Entity (prE p 1) cs_4_2]) (l := [hR ki_Link 178 (.slice AL ll.length cL) ll]) H23
    refine op_call rfl Tryz.call121 (vs := #[.pointer (some ⟨g, 0, none⟩), .agg (List.toArray cs_4_2)]) rfl rfl rfl (add_i le (prE p 1) _ _ _ _ _ _ _ _ _ _ hs25 hne) ?_
    rintro e29 W28 ⟨A_4_3, c_4_3, rfl, Hn27⟩
    refine ⟨_, rfl, ?_⟩
    have H30 : St w F0 [hB g 68 #[u0, .slice A_4_3 ((addL (prE p 1) le).length) c_4_3, u2, .slice AL ll.length cL, u4], hR ki_Entity 171 (.slice A_4_3 ((addL (prE p 1) le).length) c_4_3) (addL (prE p 1) le), hR ki_Link 178 (.slice AL ll.length cL) ll] W28 := hfr26 _ _ Hn27
    clear H23
    refine ops_cons ?_
    refine op_pure rfl (rn_assign rfl) rfl rfl ?_
    refine ops_nil ?_
    refine then_n ?_
    refine wp_seq ?_
    refine wp_seq ?_
    refine reg_seq [0, 1] rfl ?_
    refine ops_cons ?_
    refine op_pure rfl (rn_move rfl) rfl rfl ?_
    refine ops_cons ?_
    refine op_pure rfl (rn_geq rfl rfl) rfl rfl ?_
    refine ops_nil ?_
    refine then_n ?_
    refine cond_dec rfl (fun hc31 => ?_) (fun hc31 => ?_)
    · refine wp_seq ?_
      refine reg_seq [0, 1, 2, 3] rfl ?_
      refine ops_cons ?_
      refine op_pure rfl (rn_move rfl) rfl rfl ?_
      refine ops_cons ?_
      refine op_call rfl Tryz.call148 (vs := #[.int .i64 (p)]) rfl rfl rfl (newLink_i p _) ?_
      rintro e37 W36 ⟨cs32, rfl, hM33, hu34⟩
      refine ⟨_, rfl, ?_⟩
      obtain ⟨B_6_1_2, c_6_1_2, B_6_1_4, c_6_1_4, B_6_1_6, c_6_1_6, rfl, hst35⟩ := ki_Link_open hM33
      have H38 : St w F0 [hR ki_Export 256 (.slice B_6_1_2 ((zL p).Exports.length) c_6_1_2) ((zL p).Exports), hR ki_Question 289 (.slice B_6_1_4 ((zL p).Questions.length) c_6_1_4) ((zL p).Questions), hR ki_Question 289 (.slice B_6_1_6 ((zL p).Answers.length) c_6_1_6) ((zL p).Answers), hB g 68 #[u0, .slice A_4_3 ((addL (prE p 1) le).length) c_4_3, u2, .slice AL ll.length cL, u4], hR ki_Entity 171 (.slice A_4_3 ((addL (prE p 1) le).length) c_4_3) (addL (prE p 1) le), hR ki_Link 178 (.slice AL ll.length cL) ll] W36 := H30.news hu34 hst35
      clear H30
      refine ops_cons ?_
      refine op_alloc rfl Tryz.zeroValue178 rfl rfl H38 ?_
      intro g_6_2 W39 hu40 Ha41
      clear H38
      have H42 : St w F0 [hB g_6_2 178 #[.int .i64 (0), .bool (false), .slice none 0 0, .int .i64 (0), .slice none 0 0, .int .i64 (0), .slice none 0 0], hR ki_Export 256 (.slice B_6_1_2 ((zL p).Exports.length) c_6_1_2) ((zL p).Exports), hR ki_Question 289 (.slice B_6_1_4 ((zL p).Questions.length) c_6_1_4) ((zL p).Questions), hR ki_Question 289 (.slice B_6_1_6 ((zL p).Answers.length) c_6_1_6) ((zL p).Answers), hB g 68 #[u0, .slice A_4_3 ((addL (prE p 1) le).length) c_4_3, u2, .slice AL ll.length cL, u4], hR ki_Entity 171 (.slice A_4_3 ((addL (prE p 1) le).length) c_4_3) (addL (prE p 1) le), hR ki_Link 178 (.slice AL ll.length cL) ll] W39 := Ha41
      clear Ha41
      clear hu40
      refine ops_cons ?_
      refine op_storeW rfl Tryz.sizeOf178 rfl rfl rfl rfl (by simp [Value.oneCell']) H42 ?_
      intro W43 hu44 Ha45
      clear H42
      have H46 : St w F0 [hB g_6_2 178 #[.int .i64 ((zL p).Peer), .bool ((zL p).Up), .slice B_6_1_2 ((zL p).Exports.length) c_6_1_2, .int .i64 ((zL p).Next), .slice B_6_1_4 ((zL p).Questions.length) c_6_1_4, .int .i64 ((zL p).Asked), .slice B_6_1_6 ((zL p).Answers.length) c_6_1_6], hR ki_Export 256 (.slice B_6_1_2 ((zL p).Exports.length) c_6_1_2) ((zL p).Exports), hR ki_Question 289 (.slice B_6_1_4 ((zL p).Questions.length) c_6_1_4) ((zL p).Questions), hR ki_Question 289 (.slice B_6_1_6 ((zL p).Answers.length) c_6_1_6) ((zL p).Answers), hB g 68 #[u0, .slice A_4_3 ((addL (prE p 1) le).length) c_4_3, u2, .slice AL ll.length cL, u4], hR ki_Entity 171 (.slice A_4_3 ((addL (prE p 1) le).length) c_4_3) (addL (prE p 1) le), hR ki_Link 178 (.slice AL ll.length cL) ll] W43 := Ha45
      clear Ha45
      clear hu44
      refine ops_nil ?_
      refine then_n ?_
      refine wp_seq ?_
      refine reg_seq [0] rfl ?_
      refine ops_cons ?_
      obtain ⟨F47, hs48, _, hfr49⟩ := St.frame (l0 := [hB g_6_2 178 #[.int .i64 ((zL p).Peer), .bool ((zL p).Up), .slice B_6_1_2 ((zL p).Exports.length) c_6_1_2, .int .i64 ((zL p).Next), .slice B_6_1_4 ((zL p).Questions.length) c_6_1_4, .int .i64 ((zL p).Asked), .slice B_6_1_6 ((zL p).Answers.length) c_6_1_6], hR ki_Export 256 (.slice B_6_1_2 ((zL p).Exports.length) c_6_1_2) ((zL p).Exports)]) (l := [hR ki_Question 289 (.slice B_6_1_4 ((zL p).Questions.length) c_6_1_4) ((zL p).Questions), hR ki_Question 289 (.slice B_6_1_6 ((zL p).Answers.length) c_6_1_6) ((zL p).Answers), hB g 68 #[u0, .slice A_4_3 ((addL (prE p 1) le).length) c_4_3, u2, .slice AL ll.length cL, u4], hR ki_Entity 171 (.slice A_4_3 ((addL (prE p 1) le).length) c_4_3) (addL (prE p 1) le), hR ki_Link 178 (.slice AL ll.length cL) ll]) H46
      refine op_call rfl Tryz.call149 (vs := #[.pointer (some ⟨g_6_2, 0, none⟩), .int .i64 (0)]) rfl rfl rfl (put_i ((zL p).Exports) 0 ((zL p).Next) _ _ _ _ _ _ _ _ _ _ hs48 (Nat.le_of_ble_eq_true rfl)) ?_
      rintro e52 W51 ⟨A_7_0, c_7_0, rfl, Hn50⟩
      refine ⟨_, rfl, ?_⟩
      have H53 : St w F0 [hB g_6_2 178 #[.int .i64 ((zL p).Peer), .bool ((zL p).Up), .slice A_7_0 ((pxL 0 ((zL p).Exports) ((zL p).Next)).length) c_7_0, .int .i64 (pxX 0 ((zL p).Exports) ((zL p).Next)), .slice B_6_1_4 ((zL p).Questions.length) c_6_1_4, .int .i64 ((zL p).Asked), .slice B_6_1_6 ((zL p).Answers.length) c_6_1_6], hR ki_Export 256 (.slice A_7_0 ((pxL 0 ((zL p).Exports) ((zL p).Next)).length) c_7_0) (pxL 0 ((zL p).Exports) ((zL p).Next)), hR ki_Question 289 (.slice B_6_1_4 ((zL p).Questions.length) c_6_1_4) ((zL p).Questions), hR ki_Question 289 (.slice B_6_1_6 ((zL p).Answers.length) c_6_1_6) ((zL p).Answers), hB g 68 #[u0, .slice A_4_3 ((addL (prE p 1) le).length) c_4_3, u2, .slice AL ll.length cL, u4], hR ki_Entity 171 (.slice A_4_3 ((addL (prE p 1) le).length) c_4_3) (addL (prE p 1) le), hR ki_Link 178 (.slice AL ll.length cL) ll] W51 := hfr49 _ _ Hn50
      clear H46
      refine ops_nil ?_
      refine then_n ?_
      have H54 : St w F0 [hR ki_Link 178 (.slice AL ll.length cL) ll, hB g_6_2 178 #[.int .i64 ((zL p).Peer), .bool ((zL p).Up), .slice A_7_0 ((pxL 0 ((zL p).Exports) ((zL p).Next)).length) c_7_0, .int .i64 (pxX 0 ((zL p).Exports) ((zL p).Next)), .slice B_6_1_4 ((zL p).Questions.length) c_6_1_4, .int .i64 ((zL p).Asked), .slice B_6_1_6 ((zL p).Answers.length) c_6_1_6], hR ki_Export 256 (.slice A_7_0 ((pxL 0 ((zL p).Exports) ((zL p).Next)).length) c_7_0) (pxL 0 ((zL p).Exports) ((zL p).Next)), hR ki_Question 289 (.slice B_6_1_4 ((zL p).Questions.length) c_6_1_4) ((zL p).Questions), hR ki_Question 289 (.slice B_6_1_6 ((zL p).Answers.length) c_6_1_6) ((zL p).Answers), hB g 68 #[u0, .slice A_4_3 ((addL (prE p 1) le).length) c_4_3, u2, .slice AL ll.length cL, u4], hR ki_Entity 171 (.slice A_4_3 ((addL (prE p 1) le).length) c_4_3) (addL (prE p 1) le)] W51 := H53.pick [6, 0, 1, 2, 3, 4, 5] (by decide) rfl
      clear H53
      obtain ⟨gf55, rfl⟩ := H54.openS (q := k) hk
      obtain ⟨ce56, hn57, H58⟩ := H54.openG (q := k) hk
      clear H54
      have H59 : St w F0 [hE ki_Link 178 gf55 cL k ce56 ll, hM ki_Link (ll[k]) ce56, hB g_6_2 178 #[.int .i64 ((zL p).Peer), .bool ((zL p).Up), .slice A_7_0 ((pxL 0 ((zL p).Exports) ((zL p).Next)).length) c_7_0, .int .i64 (pxX 0 ((zL p).Exports) ((zL p).Next)), .slice B_6_1_4 ((zL p).Questions.length) c_6_1_4, .int .i64 ((zL p).Asked), .slice B_6_1_6 ((zL p).Answers.length) c_6_1_6], hR ki_Export 256 (.slice A_7_0 ((pxL 0 ((zL p).Exports) ((zL p).Next)).length) c_7_0) (pxL 0 ((zL p).Exports) ((zL p).Next)), hR ki_Question 289 (.slice B_6_1_4 ((zL p).Questions.length) c_6_1_4) ((zL p).Questions), hR ki_Question 289 (.slice B_6_1_6 ((zL p).Answers.length) c_6_1_6) ((zL p).Answers), hB g 68 #[u0, .slice A_4_3 ((addL (prE p 1) le).length) c_4_3, u2, .slice (some ⟨gf55, 0, none⟩) ll.length cL, u4], hR ki_Entity 171 (.slice A_4_3 ((addL (prE p 1) le).length) c_4_3) (addL (prE p 1) le)] W51 := H58
      clear H58
      have H70 : St w F0 [hM ki_Link (ll[k]) ce56, hE ki_Link 178 gf55 cL k ce56 ll, hB g_6_2 178 #[.int .i64 ((zL p).Peer), .bool ((zL p).Up), .slice A_7_0 ((pxL 0 ((zL p).Exports) ((zL p).Next)).length) c_7_0, .int .i64 (pxX 0 ((zL p).Exports) ((zL p).Next)), .slice B_6_1_4 ((zL p).Questions.length) c_6_1_4, .int .i64 ((zL p).Asked), .slice B_6_1_6 ((zL p).Answers.length) c_6_1_6], hR ki_Export 256 (.slice A_7_0 ((pxL 0 ((zL p).Exports) ((zL p).Next)).length) c_7_0) (pxL 0 ((zL p).Exports) ((zL p).Next)), hR ki_Question 289 (.slice B_6_1_4 ((zL p).Questions.length) c_6_1_4) ((zL p).Questions), hR ki_Question 289 (.slice B_6_1_6 ((zL p).Answers.length) c_6_1_6) ((zL p).Answers), hB g 68 #[u0, .slice A_4_3 ((addL (prE p 1) le).length) c_4_3, u2, .slice (some ⟨gf55, 0, none⟩) ll.length cL, u4], hR ki_Entity 171 (.slice A_4_3 ((addL (prE p 1) le).length) c_4_3) (addL (prE p 1) le)] W51 := H59.pick [1, 0, 2, 3, 4, 5, 6, 7] (by decide) rfl
      clear H59
      obtain ⟨F60, hM61, hb62⟩ := H70.unM
      obtain ⟨B64, c65, B66, c67, B68, c69, rfl, hst63⟩ := ki_Link_open hM61
      have H71 : St w F0 [hR ki_Export 256 (.slice B64 ((ll[k]).Exports.length) c65) ((ll[k]).Exports), hR ki_Question 289 (.slice B66 ((ll[k]).Questions.length) c67) ((ll[k]).Questions), hR ki_Question 289 (.slice B68 ((ll[k]).Answers.length) c69) ((ll[k]).Answers), hE ki_Link 178 gf55 cL k [.int .i64 ((ll[k]).Peer), .bool ((ll[k]).Up), .slice B64 ((ll[k]).Exports.length) c65, .int .i64 ((ll[k]).Next), .slice B66 ((ll[k]).Questions.length) c67, .int .i64 ((ll[k]).Asked), .slice B68 ((ll[k]).Answers.length) c69] ll, hB g_6_2 178 #[.int .i64 ((zL p).Peer), .bool ((zL p).Up), .slice A_7_0 ((pxL 0 ((zL p).Exports) ((zL p).Next)).length) c_7_0, .int .i64 (pxX 0 ((zL p).Exports) ((zL p).Next)), .slice B_6_1_4 ((zL p).Questions.length) c_6_1_4, .int .i64 ((zL p).Asked), .slice B_6_1_6 ((zL p).Answers.length) c_6_1_6], hR ki_Export 256 (.slice A_7_0 ((pxL 0 ((zL p).Exports) ((zL p).Next)).length) c_7_0) (pxL 0 ((zL p).Exports) ((zL p).Next)), hR ki_Question 289 (.slice B_6_1_4 ((zL p).Questions.length) c_6_1_4) ((zL p).Questions), hR ki_Question 289 (.slice B_6_1_6 ((zL p).Answers.length) c_6_1_6) ((zL p).Answers), hB g 68 #[u0, .slice A_4_3 ((addL (prE p 1) le).length) c_4_3, u2, .slice (some ⟨gf55, 0, none⟩) ll.length cL, u4], hR ki_Entity 171 (.slice A_4_3 ((addL (prE p 1) le).length) c_4_3) (addL (prE p 1) le)] W51 := hb62 _ hst63
      clear H70
      refine reg_draw (fun W' => Blk W' g 68 #[u0, .slice A_4_3 ((addL (prE p 1) le).length) c_4_3, u2, .slice (some ⟨gf55, 0, none⟩) ll.length cL, u4] ∧ Blk W' g_6_2 178 #[.int .i64 ((zL p).Peer), .bool ((zL p).Up), .slice A_7_0 ((pxL 0 ((zL p).Exports) ((zL p).Next)).length) c_7_0, .int .i64 (pxX 0 ((zL p).Exports) ((zL p).Next)), .slice B_6_1_4 ((zL p).Questions.length) c_6_1_4, .int .i64 ((zL p).Asked), .slice B_6_1_6 ((zL p).Answers.length) c_6_1_6]) 8 (by kernel_rfl) ?_
      have H72 : St w F0 [hR ki_Export 256 (.slice B64 ((ll[k]).Exports.length) c65) ((ll[k]).Exports), hR ki_Question 289 (.slice B66 ((ll[k]).Questions.length) c67) ((ll[k]).Questions), hR ki_Question 289 (.slice B68 ((ll[k]).Answers.length) c69) ((ll[k]).Answers), hE ki_Link 178 gf55 cL k [.int .i64 ((ll[k]).Peer), .bool ((ll[k]).Up), .slice B64 ((ll[k]).Exports.length) c65, .int .i64 ((ll[k]).Next), .slice B66 ((ll[k]).Questions.length) c67, .int .i64 ((ll[k]).Asked), .slice B68 ((ll[k]).Answers.length) c69] ll, hB g_6_2 178 #[.int .i64 ((zL p).Peer), .bool ((zL p).Up), .slice A_7_0 ((pxL 0 ((zL p).Exports) ((zL p).Next)).length) c_7_0, .int .i64 (pxX 0 ((zL p).Exports) ((zL p).Next)), .slice B_6_1_4 ((zL p).Questions.length) c_6_1_4, .int .i64 ((zL p).Asked), .slice B_6_1_6 ((zL p).Answers.length) c_6_1_6], hR ki_Export 256 (.slice A_7_0 ((pxL 0 ((zL p).Exports) ((zL p).Next)).length) c_7_0) (pxL 0 ((zL p).Exports) ((zL p).Next)), hR ki_Question 289 (.slice B_6_1_4 ((zL p).Questions.length) c_6_1_4) ((zL p).Questions), hR ki_Question 289 (.slice B_6_1_6 ((zL p).Answers.length) c_6_1_6) ((zL p).Answers), hB g 68 #[u0, .slice A_4_3 ((addL (prE p 1) le).length) c_4_3, u2, .slice (some ⟨gf55, 0, none⟩) ll.length cL, u4], hR ki_Entity 171 (.slice A_4_3 ((addL (prE p 1) le).length) c_4_3) (addL (prE p 1) le)] W51.drew := H71.drew
      clear H71
      have hS73 : Blk W51.drew g 68 #[u0, .slice A_4_3 ((addL (prE p 1) le).length) c_4_3, u2, .slice (some ⟨gf55, 0, none⟩) ll.length cL, u4] ∧ Blk W51.drew g_6_2 178 #[.int .i64 ((zL p).Peer), .bool ((zL p).Up), .slice A_7_0 ((pxL 0 ((zL p).Exports) ((zL p).Next)).length) c_7_0, .int .i64 (pxX 0 ((zL p).Exports) ((zL p).Next)), .slice B_6_1_4 ((zL p).Questions.length) c_6_1_4, .int .i64 ((zL p).Asked), .slice B_6_1_6 ((zL p).Answers.length) c_6_1_6] := ⟨H72.blk 8 rfl, H72.blk 4 rfl⟩
      refine anyS_take (i := 0) rfl (by kernel_rfl) (by kernel_rfl) (by kernel_rfl) (by kernel_rfl) (by kernel_rfl) (fun _ _ _ h => h) rfl rfl hS73 (fun W' hs' => rn_move rfl) ?_
      refine anyS_take (i := 1) rfl (by kernel_rfl) (by kernel_rfl) (by kernel_rfl) (by kernel_rfl) (by kernel_rfl) (fun _ _ _ h => h) rfl rfl hS73 (fun W' hs' => rn_nilCheck rfl) ?_
      refine anyS_take (i := 2) rfl (by kernel_rfl) (by kernel_rfl) (by kernel_rfl) (by kernel_rfl) (by kernel_rfl) (fun _ _ _ h => h) rfl rfl hS73 (fun W' hs' => rn_field fa_68_3 rfl) ?_
      refine anyS_take (i := 3) rfl (by kernel_rfl) (by kernel_rfl) (by kernel_rfl) (by kernel_rfl) (by kernel_rfl) (fun _ _ _ h => h) rfl rfl hS73 (fun W' hs' => rn_loadC (k := 3) (v := .slice (some ⟨gf55, 0, none⟩) ll.length cL) Tryz.isAgg65 rfl hs'.1 rfl) ?_
      refine anyS_take (i := 4) rfl (by kernel_rfl) (by kernel_rfl) (by kernel_rfl) (by kernel_rfl) (by kernel_rfl) (fun _ _ _ h => h) rfl rfl hS73 (fun W' hs' => rn_move rfl) ?_
      refine anyS_take (i := 5) rfl (by kernel_rfl) (by kernel_rfl) (by kernel_rfl) (by kernel_rfl) (by kernel_rfl) (fun _ _ _ h => h) rfl rfl hS73 (fun W' hs' => rn_loadB Tryz.isAgg178 Tryz.sizeOf178 rfl hs'.2 rfl) ?_
      refine anyS_take (i := 6) rfl (by kernel_rfl) (by kernel_rfl) (by kernel_rfl) (by kernel_rfl) (by kernel_rfl) (fun _ _ _ h => h) rfl rfl hS73 (fun W' hs' => rn_indexA (k := k) Tryz.runUnderlying65 Tryz.sizeOf178 rfl rfl rfl (Nat.lt_of_lt_of_eq hk hn57.symm)) ?_
      refine anyS_one (i := 7) (by kernel_rfl) ?_
      have H77 : St w F0 [hE ki_Link 178 gf55 cL k [.int .i64 ((ll[k]).Peer), .bool ((ll[k]).Up), .slice B64 ((ll[k]).Exports.length) c65, .int .i64 ((ll[k]).Next), .slice B66 ((ll[k]).Questions.length) c67, .int .i64 ((ll[k]).Asked), .slice B68 ((ll[k]).Answers.length) c69] ll, hR ki_Export 256 (.slice B64 ((ll[k]).Exports.length) c65) ((ll[k]).Exports), hR ki_Question 289 (.slice B66 ((ll[k]).Questions.length) c67) ((ll[k]).Questions), hR ki_Question 289 (.slice B68 ((ll[k]).Answers.length) c69) ((ll[k]).Answers), hB g_6_2 178 #[.int .i64 ((zL p).Peer), .bool ((zL p).Up), .slice A_7_0 ((pxL 0 ((zL p).Exports) ((zL p).Next)).length) c_7_0, .int .i64 (pxX 0 ((zL p).Exports) ((zL p).Next)), .slice B_6_1_4 ((zL p).Questions.length) c_6_1_4, .int .i64 ((zL p).Asked), .slice B_6_1_6 ((zL p).Answers.length) c_6_1_6], hR ki_Export 256 (.slice A_7_0 ((pxL 0 ((zL p).Exports) ((zL p).Next)).length) c_7_0) (pxL 0 ((zL p).Exports) ((zL p).Next)), hR ki_Question 289 (.slice B_6_1_4 ((zL p).Questions.length) c_6_1_4) ((zL p).Questions), hR ki_Question 289 (.slice B_6_1_6 ((zL p).Answers.length) c_6_1_6) ((zL p).Answers), hB g 68 #[u0, .slice A_4_3 ((addL (prE p 1) le).length) c_4_3, u2, .slice (some ⟨gf55, 0, none⟩) ll.length cL, u4], hR ki_Entity 171 (.slice A_4_3 ((addL (prE p 1) le).length) c_4_3) (addL (prE p 1) le)] W51.drew := H72.pick [3, 0, 1, 2, 4, 5, 6, 7, 8, 9] (by decide) rfl
      clear H72
      refine op_storeE (dk := ki_Link) (k := 0) (ce' := [.int .i64 ((zL p).Peer), .bool ((zL p).Up), .slice A_7_0 ((pxL 0 ((zL p).Exports) ((zL p).Next)).length) c_7_0, .int .i64 (pxX 0 ((zL p).Exports) ((zL p).Next)), .slice B_6_1_4 ((zL p).Questions.length) c_6_1_4, .int .i64 ((zL p).Asked), .slice B_6_1_6 ((zL p).Answers.length) c_6_1_6]) rfl Tryz.sizeOf178 rfl rfl rfl rfl (Nat.le_of_ble_eq_true rfl) (by simp [Value.cells, Value.oneCell']) rfl H77 ?_
      intro W74 hu75 Ha76
      clear H77
      have H78 : St w F0 [hE ki_Link 178 gf55 cL k [.int .i64 ((zL p).Peer), .bool ((zL p).Up), .slice A_7_0 ((pxL 0 ((zL p).Exports) ((zL p).Next)).length) c_7_0, .int .i64 (pxX 0 ((zL p).Exports) ((zL p).Next)), .slice B_6_1_4 ((zL p).Questions.length) c_6_1_4, .int .i64 ((zL p).Asked), .slice B_6_1_6 ((zL p).Answers.length) c_6_1_6] ll, hR ki_Export 256 (.slice B64 ((ll[k]).Exports.length) c65) ((ll[k]).Exports), hR ki_Question 289 (.slice B66 ((ll[k]).Questions.length) c67) ((ll[k]).Questions), hR ki_Question 289 (.slice B68 ((ll[k]).Answers.length) c69) ((ll[k]).Answers), hB g_6_2 178 #[.int .i64 ((zL p).Peer), .bool ((zL p).Up), .slice A_7_0 ((pxL 0 ((zL p).Exports) ((zL p).Next)).length) c_7_0, .int .i64 (pxX 0 ((zL p).Exports) ((zL p).Next)), .slice B_6_1_4 ((zL p).Questions.length) c_6_1_4, .int .i64 ((zL p).Asked), .slice B_6_1_6 ((zL p).Answers.length) c_6_1_6], hR ki_Export 256 (.slice A_7_0 ((pxL 0 ((zL p).Exports) ((zL p).Next)).length) c_7_0) (pxL 0 ((zL p).Exports) ((zL p).Next)), hR ki_Question 289 (.slice B_6_1_4 ((zL p).Questions.length) c_6_1_4) ((zL p).Questions), hR ki_Question 289 (.slice B_6_1_6 ((zL p).Answers.length) c_6_1_6) ((zL p).Answers), hB g 68 #[u0, .slice A_4_3 ((addL (prE p 1) le).length) c_4_3, u2, .slice (some ⟨gf55, 0, none⟩) ll.length cL, u4], hR ki_Entity 171 (.slice A_4_3 ((addL (prE p 1) le).length) c_4_3) (addL (prE p 1) le)] W74 := Ha76
      clear Ha76
      clear hu75
      have hS79 : Blk W74 g 68 #[u0, .slice A_4_3 ((addL (prE p 1) le).length) c_4_3, u2, .slice (some ⟨gf55, 0, none⟩) ll.length cL, u4] ∧ Blk W74 g_6_2 178 #[.int .i64 ((zL p).Peer), .bool ((zL p).Up), .slice A_7_0 ((pxL 0 ((zL p).Exports) ((zL p).Next)).length) c_7_0, .int .i64 (pxX 0 ((zL p).Exports) ((zL p).Next)), .slice B_6_1_4 ((zL p).Questions.length) c_6_1_4, .int .i64 ((zL p).Asked), .slice B_6_1_6 ((zL p).Answers.length) c_6_1_6] := ⟨H78.blk 8 rfl, H78.blk 4 rfl⟩
      refine ⟨fun _ => hS79, ?_⟩
      refine anyS_done (by kernel_rfl) ?_ _
      have H80 : St w F0 [hR ki_Export 256 (.slice A_7_0 ((pxL 0 ((zL p).Exports) ((zL p).Next)).length) c_7_0) (pxL 0 ((zL p).Exports) ((zL p).Next)), hR ki_Question 289 (.slice B_6_1_4 ((zL p).Questions.length) c_6_1_4) ((zL p).Questions), hR ki_Question 289 (.slice B_6_1_6 ((zL p).Answers.length) c_6_1_6) ((zL p).Answers), hE ki_Link 178 gf55 cL k [.int .i64 ((zL p).Peer), .bool ((zL p).Up), .slice A_7_0 ((pxL 0 ((zL p).Exports) ((zL p).Next)).length) c_7_0, .int .i64 (pxX 0 ((zL p).Exports) ((zL p).Next)), .slice B_6_1_4 ((zL p).Questions.length) c_6_1_4, .int .i64 ((zL p).Asked), .slice B_6_1_6 ((zL p).Answers.length) c_6_1_6] ll, hR ki_Export 256 (.slice B64 ((ll[k]).Exports.length) c65) ((ll[k]).Exports), hR ki_Question 289 (.slice B66 ((ll[k]).Questions.length) c67) ((ll[k]).Questions), hR ki_Question 289 (.slice B68 ((ll[k]).Answers.length) c69) ((ll[k]).Answers), hB g_6_2 178 #[.int .i64 ((zL p).Peer), .bool ((zL p).Up), .slice A_7_0 ((pxL 0 ((zL p).Exports) ((zL p).Next)).length) c_7_0, .int .i64 (pxX 0 ((zL p).Exports) ((zL p).Next)), .slice B_6_1_4 ((zL p).Questions.length) c_6_1_4, .int .i64 ((zL p).Asked), .slice B_6_1_6 ((zL p).Answers.length) c_6_1_6], hB g 68 #[u0, .slice A_4_3 ((addL (prE p 1) le).length) c_4_3, u2, .slice (some ⟨gf55, 0, none⟩) ll.length cL, u4], hR ki_Entity 171 (.slice A_4_3 ((addL (prE p 1) le).length) c_4_3) (addL (prE p 1) le)] W74 := H78.pick [5, 6, 7, 0, 1, 2, 3, 4, 8, 9] (by decide) rfl
      clear H78
      have H81 : St w F0 [hM ki_Link (pxV 0 (zL p)) [.int .i64 ((zL p).Peer), .bool ((zL p).Up), .slice A_7_0 ((pxL 0 ((zL p).Exports) ((zL p).Next)).length) c_7_0, .int .i64 (pxX 0 ((zL p).Exports) ((zL p).Next)), .slice B_6_1_4 ((zL p).Questions.length) c_6_1_4, .int .i64 ((zL p).Asked), .slice B_6_1_6 ((zL p).Answers.length) c_6_1_6], hE ki_Link 178 gf55 cL k [.int .i64 ((zL p).Peer), .bool ((zL p).Up), .slice A_7_0 ((pxL 0 ((zL p).Exports) ((zL p).Next)).length) c_7_0, .int .i64 (pxX 0 ((zL p).Exports) ((zL p).Next)), .slice B_6_1_4 ((zL p).Questions.length) c_6_1_4, .int .i64 ((zL p).Asked), .slice B_6_1_6 ((zL p).Answers.length) c_6_1_6] ll, hR ki_Export 256 (.slice B64 ((ll[k]).Exports.length) c65) ((ll[k]).Exports), hR ki_Question 289 (.slice B66 ((ll[k]).Questions.length) c67) ((ll[k]).Questions), hR ki_Question 289 (.slice B68 ((ll[k]).Answers.length) c69) ((ll[k]).Answers), hB g_6_2 178 #[.int .i64 ((zL p).Peer), .bool ((zL p).Up), .slice A_7_0 ((pxL 0 ((zL p).Exports) ((zL p).Next)).length) c_7_0, .int .i64 (pxX 0 ((zL p).Exports) ((zL p).Next)), .slice B_6_1_4 ((zL p).Questions.length) c_6_1_4, .int .i64 ((zL p).Asked), .slice B_6_1_6 ((zL p).Answers.length) c_6_1_6], hB g 68 #[u0, .slice A_4_3 ((addL (prE p 1) le).length) c_4_3, u2, .slice (some ⟨gf55, 0, none⟩) ll.length cL, u4], hR ki_Entity 171 (.slice A_4_3 ((addL (prE p 1) le).length) c_4_3) (addL (prE p 1) le)] W74 := H80.swap (l0 := [hR ki_Export 256 (.slice A_7_0 ((pxL 0 ((zL p).Exports) ((zL p).Next)).length) c_7_0) (pxL 0 ((zL p).Exports) ((zL p).Next)), hR ki_Question 289 (.slice B_6_1_4 ((zL p).Questions.length) c_6_1_4) ((zL p).Questions), hR ki_Question 289 (.slice B_6_1_6 ((zL p).Answers.length) c_6_1_6) ((zL p).Answers)]) (l' := [hM ki_Link (pxV 0 (zL p)) [.int .i64 ((zL p).Peer), .bool ((zL p).Up), .slice A_7_0 ((pxL 0 ((zL p).Exports) ((zL p).Next)).length) c_7_0, .int .i64 (pxX 0 ((zL p).Exports) ((zL p).Next)), .slice B_6_1_4 ((zL p).Questions.length) c_6_1_4, .int .i64 ((zL p).Asked), .slice B_6_1_6 ((zL p).Answers.length) c_6_1_6]]) (fun _ h => Star.one (ki_Link_close (x := (pxV 0 (zL p))) h))
      clear H80
      have H82 : St w F0 [hE ki_Link 178 gf55 cL k [.int .i64 ((zL p).Peer), .bool ((zL p).Up), .slice A_7_0 ((pxL 0 ((zL p).Exports) ((zL p).Next)).length) c_7_0, .int .i64 (pxX 0 ((zL p).Exports) ((zL p).Next)), .slice B_6_1_4 ((zL p).Questions.length) c_6_1_4, .int .i64 ((zL p).Asked), .slice B_6_1_6 ((zL p).Answers.length) c_6_1_6] ll, hM ki_Link (pxV 0 (zL p)) [.int .i64 ((zL p).Peer), .bool ((zL p).Up), .slice A_7_0 ((pxL 0 ((zL p).Exports) ((zL p).Next)).length) c_7_0, .int .i64 (pxX 0 ((zL p).Exports) ((zL p).Next)), .slice B_6_1_4 ((zL p).Questions.length) c_6_1_4, .int .i64 ((zL p).Asked), .slice B_6_1_6 ((zL p).Answers.length) c_6_1_6], hR ki_Export 256 (.slice B64 ((ll[k]).Exports.length) c65) ((ll[k]).Exports), hR ki_Question 289 (.slice B66 ((ll[k]).Questions.length) c67) ((ll[k]).Questions), hR ki_Question 289 (.slice B68 ((ll[k]).Answers.length) c69) ((ll[k]).Answers), hB g_6_2 178 #[.int .i64 ((zL p).Peer), .bool ((zL p).Up), .slice A_7_0 ((pxL 0 ((zL p).Exports) ((zL p).Next)).length) c_7_0, .int .i64 (pxX 0 ((zL p).Exports) ((zL p).Next)), .slice B_6_1_4 ((zL p).Questions.length) c_6_1_4, .int .i64 ((zL p).Asked), .slice B_6_1_6 ((zL p).Answers.length) c_6_1_6], hB g 68 #[u0, .slice A_4_3 ((addL (prE p 1) le).length) c_4_3, u2, .slice (some ⟨gf55, 0, none⟩) ll.length cL, u4], hR ki_Entity 171 (.slice A_4_3 ((addL (prE p 1) le).length) c_4_3) (addL (prE p 1) le)] W74 := H81.pick [1, 0, 2, 3, 4, 5, 6, 7] (by decide) rfl
      clear H81
      have H83 : St w F0 [hR ki_Link 178 (.slice (some ⟨gf55, 0, none⟩) ll.length cL) (ll.set k (pxV 0 (zL p))), hR ki_Export 256 (.slice B64 ((ll[k]).Exports.length) c65) ((ll[k]).Exports), hR ki_Question 289 (.slice B66 ((ll[k]).Questions.length) c67) ((ll[k]).Questions), hR ki_Question 289 (.slice B68 ((ll[k]).Answers.length) c69) ((ll[k]).Answers), hB g_6_2 178 #[.int .i64 ((zL p).Peer), .bool ((zL p).Up), .slice A_7_0 ((pxL 0 ((zL p).Exports) ((zL p).Next)).length) c_7_0, .int .i64 (pxX 0 ((zL p).Exports) ((zL p).Next)), .slice B_6_1_4 ((zL p).Questions.length) c_6_1_4, .int .i64 ((zL p).Asked), .slice B_6_1_6 ((zL p).Answers.length) c_6_1_6], hB g 68 #[u0, .slice A_4_3 ((addL (prE p 1) le).length) c_4_3, u2, .slice (some ⟨gf55, 0, none⟩) ll.length cL, u4], hR ki_Entity 171 (.slice A_4_3 ((addL (prE p 1) le).length) c_4_3) (addL (prE p 1) le)] W74 := H82.closeG rfl (List.length_set ..).symm
      clear H82
      refine then_n ?_
      refine wp_seq ?_
      refine reg_seq [0, 1] rfl ?_
      refine ops_cons ?_
      refine op_pure rfl (rn_move rfl) rfl rfl ?_
      refine ops_cons ?_
      refine op_pure rfl (rn_assign rfl) rfl rfl ?_
      refine ops_nil ?_
      refine then_n ?_
      refine wp_ret ?_
      have hlt : le.length < 200 := by rcases Nat.lt_or_ge le.length 200 with q | q; exact q; have := addN_no le (by omega); omega
      have hU : ll[k].Up = false := by first | exact Bool.eq_false_iff.2 hg13 | exact hg13
      have hok : jOk p le ll = true := by rw [j_yes p le ll k hk hf, hU]; exact (decide_eq_true (by omega) : decide (le.length < 200) = true)
      obtain ⟨e1, e2, e3⟩ := j_in p le ll k hf hok
      refine post_tmp (.inl rfl) Tryz.results128 rfl ?_
      rw [e1, e2, e3]
      rw [List.length_set]
      exact ⟨A_4_3, c_4_3, (some ⟨gf55, 0, none⟩), cL, rfl, H83.pick [5, 6, 0] (by decide) rfl⟩
    · refine wp_skip ?_
      refine then_n ?_
      refine wp_seq ?_
      refine reg_seq [0, 1] rfl ?_
      refine ops_cons ?_
      refine op_pure rfl (rn_move rfl) rfl rfl ?_
      refine ops_cons ?_
      refine op_pure rfl (rn_assign rfl) rfl rfl ?_
      refine ops_nil ?_
      refine then_n ?_
      refine wp_ret ?_
      have hlt : ¬ le.length < 200 := by intro q; have := addN_yes le q; omega
      have hU : ll[k].Up = false := by first | exact Bool.eq_false_iff.2 hg13 | exact hg13
      have hok : jOk p le ll = false := by rw [j_yes p le ll k hk hf, hU]; exact (decide_eq_false (by omega) : decide (le.length < 200) = false)
      obtain ⟨e1, e2, e3⟩ := j_out p le ll hok
      replace e1 := e1.trans (addL_no (prE p 1) le hlt).symm
      replace e3 := e3.trans (addN_no le hlt).symm
      refine post_tmp (.inl rfl) Tryz.results128 rfl ?_
      rw [e1, e2, e3]
      exact ⟨A_4_3, c_4_3, AL, cL, rfl, H30.pick [0, 1, 2] (by decide) rfl⟩
theorem join_i (le : List GEntity) (ll : List GLink) (p : Int) (g cE cL : Nat) (AE AL : Option Addr) (u0 u2 u4 : Value) (F0 : Nat → Prop) (w : World) (h : Star [hB g 68 #[u0, .slice AE (le).length cE, u2, .slice AL (ll).length cL, u4], hR ki_Entity 171 (.slice AE (le).length cE) (le), hR ki_Link 178 (.slice AL (ll).length cL) (ll)] w F0) (hne : le.length ≤ 4194304) : Calls Tryz.prog 128 #[.pointer (some ⟨g, 0, none⟩), .int .i64 p] w (fun e' w' => ∃ A c A2 c2, e' = .returned (.int .i64 (jN p le ll)) ∧ St w F0 [hB g 68 #[u0, .slice A (jE p le ll).length c, u2, .slice A2 (jL p le ll).length c2, u4], hR ki_Entity 171 (.slice A (jE p le ll).length c) (jE p le ll), hR ki_Link 178 (.slice A2 (jL p le ll).length c2) (jL p le ll)] w') := by
  rcases fidx_case (peP p) ll with hf | ⟨k, hk, hf⟩
  · exact join_no le ll p g cE cL AE AL u0 u2 u4 F0 w h hne hf
  · exact join_yes le ll p g cE cL AE AL u0 u2 u4 F0 w h hne k hk hf
theorem joinLink_S (x : GVat) (p : Int) (cs : List Value) (w : World) (h : ki_Vat.K w x cs) (hs : szn_Vat x ≤ 4194304) : Calls Tryz.prog 41 #[.agg cs.toArray, .int .i64 p] w (RetAI ki_Vat (joinV p x) (jN p x.Entities x.Links) w) := by
  rcases fidx_case (peP p) x.Links with hf | ⟨k, hk, hf⟩
  · exact joinLink_s_no x p cs w h hs hf
  · exact joinLink_s_yes x p cs w h hs k hk hf
set_option maxHeartbeats 4000000 in
set_option maxRecDepth 100000 in
theorem joinLink_I (x : GVat) (p : Int) (cs : List Value) (w : World) (h : ki_Vat.K w x cs) (hs : szn_Vat x ≤ 4194304) : Calls Tryz.prog 42 #[.agg cs.toArray, .int .i64 p] w (RetAI ki_Vat (joinV p x) (jN p x.Entities x.Links) w) := by
  obtain ⟨Ax1, cx1, Ax2, cx2, Ax3, cx3, Ax4, cx4, rfl, hlx1, hCx1, hlx2, hCx2, hlx3, hCx3, hlx4, hCx4⟩ := ki_Vat_K h
  have s_Entities : sznS szn_Entity x.Entities ≤ 4194304 := by unfold szn_Vat at hs; omega
  have n_Entities : x.Entities.length ≤ 4194304 := by unfold sznS at s_Entities; omega
  have s_Loop : sznS szn_Sent x.Loop ≤ 4194304 := by unfold szn_Vat at hs; omega
  have n_Loop : x.Loop.length ≤ 4194304 := by unfold sznS at s_Loop; omega
  have s_Links : sznS szn_Link x.Links ≤ 4194304 := by unfold szn_Vat at hs; omega
  have n_Links : x.Links.length ≤ 4194304 := by unfold sznS at s_Links; omega
  have s_Out : sznS szn_Outgoing x.Out ≤ 4194304 := by unfold szn_Vat at hs; omega
  have n_Out : x.Out.length ≤ 4194304 := by unfold sznS at s_Out; omega
  refine enter 14 [(0, .agg #[.int .i64 (x.Id), .slice Ax1 x.Entities.length cx1, .slice Ax2 x.Loop.length cx2, .slice Ax3 x.Links.length cx3, .slice Ax4 x.Out.length cx4]), (1, .int .i64 (p))] Tryz.func42 rfl (by kernel_rfl) ?_
  intro xj
  have H1 : St w No [] w := St.enter
  refine wp_seq ?_
  refine reg_seq [0, 1, 2] rfl ?_
  refine ops_cons ?_
  refine op_box rfl rfl rfl rfl H1 ?_
  intro g_0_0 W2 hu3 Ha4
  clear H1
  have H5 : St w No [hB g_0_0 68 #[.int .i64 (x.Id), .slice Ax1 x.Entities.length cx1, .slice Ax2 x.Loop.length cx2, .slice Ax3 x.Links.length cx3, .slice Ax4 x.Out.length cx4]] W2 := Ha4
  clear Ha4
  clear hu3
  refine ops_cons ?_
  refine op_alloc rfl Tryz.zeroValue68 rfl rfl H5 ?_
  intro g_0_1 W6 hu7 Ha8
  clear H5
  have H9 : St w No [hB g_0_1 68 #[.int .i64 (0), .slice none 0 0, .slice none 0 0, .slice none 0 0, .slice none 0 0], hB g_0_0 68 #[.int .i64 (x.Id), .slice Ax1 x.Entities.length cx1, .slice Ax2 x.Loop.length cx2, .slice Ax3 x.Links.length cx3, .slice Ax4 x.Out.length cx4]] W6 := Ha8
  clear Ha8
  clear hu7
  refine ops_cons ?_
  refine op_pure rfl (rn_assign rfl) rfl rfl ?_
  refine ops_nil ?_
  refine then_n ?_
  refine wp_seq ?_
  refine reg_seq [0, 1, 2, 3] rfl ?_
  refine ops_cons ?_
  refine op_pure rfl (rn_loadB Tryz.isAgg68 Tryz.sizeOf68 rfl (H9.blk 1 rfl) rfl) rfl rfl ?_
  refine ops_cons ?_
  refine op_call rfl Tryz.call99 (vs := #[.agg #[.int .i64 (x.Id), .slice Ax1 x.Entities.length cx1, .slice Ax2 x.Loop.length cx2, .slice Ax3 x.Links.length cx3, .slice Ax4 x.Out.length cx4]]) rfl rfl rfl (copied_Vat x _ _ (ki_Vat_Kmk _ x hlx1 (C_upd H9.1 hCx1) hlx2 (C_upd H9.1 hCx2) hlx3 (C_upd H9.1 hCx3) hlx4 (C_upd H9.1 hCx4)) hs) ?_
  rintro e15 W14 ⟨cs10, rfl, hM11, hu12⟩
  refine ⟨_, rfl, ?_⟩
  obtain ⟨B_1_1_1, c_1_1_1, B_1_1_2, c_1_1_2, B_1_1_3, c_1_1_3, B_1_1_4, c_1_1_4, rfl, hst13⟩ := ki_Vat_open hM11
  have H16 : St w No [hR ki_Entity 171 (.slice B_1_1_1 x.Entities.length c_1_1_1) x.Entities, hR ki_Sent 235 (.slice B_1_1_2 x.Loop.length c_1_1_2) x.Loop, hR ki_Link 178 (.slice B_1_1_3 x.Links.length c_1_1_3) x.Links, hR ki_Outgoing 147 (.slice B_1_1_4 x.Out.length c_1_1_4) x.Out, hB g_0_1 68 #[.int .i64 (0), .slice none 0 0, .slice none 0 0, .slice none 0 0, .slice none 0 0], hB g_0_0 68 #[.int .i64 (x.Id), .slice Ax1 x.Entities.length cx1, .slice Ax2 x.Loop.length cx2, .slice Ax3 x.Links.length cx3, .slice Ax4 x.Out.length cx4]] W14 := H9.news hu12 hst13
  clear H9
  refine ops_cons ?_
  refine op_alloc rfl Tryz.zeroValue68 rfl rfl H16 ?_
  intro g_1_2 W17 hu18 Ha19
  clear H16
  have H20 : St w No [hB g_1_2 68 #[.int .i64 (0), .slice none 0 0, .slice none 0 0, .slice none 0 0, .slice none 0 0], hR ki_Entity 171 (.slice B_1_1_1 x.Entities.length c_1_1_1) x.Entities, hR ki_Sent 235 (.slice B_1_1_2 x.Loop.length c_1_1_2) x.Loop, hR ki_Link 178 (.slice B_1_1_3 x.Links.length c_1_1_3) x.Links, hR ki_Outgoing 147 (.slice B_1_1_4 x.Out.length c_1_1_4) x.Out, hB g_0_1 68 #[.int .i64 (0), .slice none 0 0, .slice none 0 0, .slice none 0 0, .slice none 0 0], hB g_0_0 68 #[.int .i64 (x.Id), .slice Ax1 x.Entities.length cx1, .slice Ax2 x.Loop.length cx2, .slice Ax3 x.Links.length cx3, .slice Ax4 x.Out.length cx4]] W17 := Ha19
  clear Ha19
  clear hu18
  refine ops_cons ?_
  refine op_storeW rfl Tryz.sizeOf68 rfl rfl rfl rfl (by simp [Value.oneCell']) H20 ?_
  intro W21 hu22 Ha23
  clear H20
  have H24 : St w No [hB g_1_2 68 #[.int .i64 (x.Id), .slice B_1_1_1 x.Entities.length c_1_1_1, .slice B_1_1_2 x.Loop.length c_1_1_2, .slice B_1_1_3 x.Links.length c_1_1_3, .slice B_1_1_4 x.Out.length c_1_1_4], hR ki_Entity 171 (.slice B_1_1_1 x.Entities.length c_1_1_1) x.Entities, hR ki_Sent 235 (.slice B_1_1_2 x.Loop.length c_1_1_2) x.Loop, hR ki_Link 178 (.slice B_1_1_3 x.Links.length c_1_1_3) x.Links, hR ki_Outgoing 147 (.slice B_1_1_4 x.Out.length c_1_1_4) x.Out, hB g_0_1 68 #[.int .i64 (0), .slice none 0 0, .slice none 0 0, .slice none 0 0, .slice none 0 0], hB g_0_0 68 #[.int .i64 (x.Id), .slice Ax1 x.Entities.length cx1, .slice Ax2 x.Loop.length cx2, .slice Ax3 x.Links.length cx3, .slice Ax4 x.Out.length cx4]] W21 := Ha23
  clear Ha23
  clear hu22
  refine ops_nil ?_
  refine then_n ?_
  refine wp_seq ?_
  refine reg_seq [0, 1, 2] rfl ?_
  refine ops_cons ?_
  refine op_pure rfl (rn_move rfl) rfl rfl ?_
  refine ops_cons ?_
  have H25 : St w No [hB g_1_2 68 #[.int .i64 (x.Id), .slice B_1_1_1 x.Entities.length c_1_1_1, .slice B_1_1_2 x.Loop.length c_1_1_2, .slice B_1_1_3 x.Links.length c_1_1_3, .slice B_1_1_4 x.Out.length c_1_1_4], hR ki_Entity 171 (.slice B_1_1_1 x.Entities.length c_1_1_1) x.Entities, hR ki_Link 178 (.slice B_1_1_3 x.Links.length c_1_1_3) x.Links, hR ki_Sent 235 (.slice B_1_1_2 x.Loop.length c_1_1_2) x.Loop, hR ki_Outgoing 147 (.slice B_1_1_4 x.Out.length c_1_1_4) x.Out, hB g_0_1 68 #[.int .i64 (0), .slice none 0 0, .slice none 0 0, .slice none 0 0, .slice none 0 0], hB g_0_0 68 #[.int .i64 (x.Id), .slice Ax1 x.Entities.length cx1, .slice Ax2 x.Loop.length cx2, .slice Ax3 x.Links.length cx3, .slice Ax4 x.Out.length cx4]] W21 := H24.pick [0, 1, 3, 2, 4, 5, 6] (by decide) rfl
  clear H24
  obtain ⟨F26, hs27, _, hfr28⟩ := St.frame (l0 := [hB g_1_2 68 #[.int .i64 (x.Id), .slice B_1_1_1 x.Entities.length c_1_1_1, .slice B_1_1_2 x.Loop.length c_1_1_2, .slice B_1_1_3 x.Links.length c_1_1_3, .slice B_1_1_4 x.Out.length c_1_1_4], hR ki_Entity 171 (.slice B_1_1_1 x.Entities.length c_1_1_1) x.Entities, hR ki_Link 178 (.slice B_1_1_3 x.Links.length c_1_1_3) x.Links]) (l := [hR ki_Sent 235 (.slice B_1_1_2 x.Loop.length c_1_1_2) x.Loop, hR ki_Outgoing 147 (.slice B_1_1_4 x.Out.length c_1_1_4) x.Out, hB g_0_1 68 #[.int .i64 (0), .slice none 0 0, .slice none 0 0, .slice none 0 0, .slice none 0 0], hB g_0_0 68 #[.int .i64 (x.Id), .slice Ax1 x.Entities.length cx1, .slice Ax2 x.Loop.length cx2, .slice Ax3 x.Links.length cx3, .slice Ax4 x.Out.length cx4]]) H25
  refine op_call rfl Tryz.call128 (vs := #[.pointer (some ⟨g_1_2, 0, none⟩), .int .i64 (p)]) rfl rfl rfl (join_i x.Entities x.Links p _ _ _ _ _ _ _ _ _ _ hs27 n_Entities) ?_
  rintro e31 W30 ⟨A_2_1, c_2_1, B_2_1_2, c_2_1_2, rfl, Hn29⟩
  refine ⟨_, rfl, ?_⟩
  have H32 : St w No [hB g_1_2 68 #[.int .i64 (x.Id), .slice A_2_1 ((jE p x.Entities x.Links).length) c_2_1, .slice B_1_1_2 x.Loop.length c_1_1_2, .slice B_2_1_2 ((jL p x.Entities x.Links).length) c_2_1_2, .slice B_1_1_4 x.Out.length c_1_1_4], hR ki_Entity 171 (.slice A_2_1 ((jE p x.Entities x.Links).length) c_2_1) (jE p x.Entities x.Links), hR ki_Link 178 (.slice B_2_1_2 ((jL p x.Entities x.Links).length) c_2_1_2) (jL p x.Entities x.Links), hR ki_Sent 235 (.slice B_1_1_2 x.Loop.length c_1_1_2) x.Loop, hR ki_Outgoing 147 (.slice B_1_1_4 x.Out.length c_1_1_4) x.Out, hB g_0_1 68 #[.int .i64 (0), .slice none 0 0, .slice none 0 0, .slice none 0 0, .slice none 0 0], hB g_0_0 68 #[.int .i64 (x.Id), .slice Ax1 x.Entities.length cx1, .slice Ax2 x.Loop.length cx2, .slice Ax3 x.Links.length cx3, .slice Ax4 x.Out.length cx4]] W30 := hfr28 _ _ Hn29
  clear H25
  refine ops_cons ?_
  refine op_pure rfl (rn_assign rfl) rfl rfl ?_
  refine ops_nil ?_
  refine then_n ?_
  refine wp_seq ?_
  refine reg_seq [0, 1, 2, 3] rfl ?_
  refine ops_cons ?_
  refine op_pure rfl (rn_loadB Tryz.isAgg68 Tryz.sizeOf68 rfl (H32.blk 0 rfl) rfl) rfl rfl ?_
  refine ops_cons ?_
  refine op_pure rfl (rn_move rfl) rfl rfl ?_
  refine ops_cons ?_
  have H36 : St w No [hB g_0_1 68 #[.int .i64 (0), .slice none 0 0, .slice none 0 0, .slice none 0 0, .slice none 0 0], hB g_1_2 68 #[.int .i64 (x.Id), .slice A_2_1 ((jE p x.Entities x.Links).length) c_2_1, .slice B_1_1_2 x.Loop.length c_1_1_2, .slice B_2_1_2 ((jL p x.Entities x.Links).length) c_2_1_2, .slice B_1_1_4 x.Out.length c_1_1_4], hR ki_Entity 171 (.slice A_2_1 ((jE p x.Entities x.Links).length) c_2_1) (jE p x.Entities x.Links), hR ki_Link 178 (.slice B_2_1_2 ((jL p x.Entities x.Links).length) c_2_1_2) (jL p x.Entities x.Links), hR ki_Sent 235 (.slice B_1_1_2 x.Loop.length c_1_1_2) x.Loop, hR ki_Outgoing 147 (.slice B_1_1_4 x.Out.length c_1_1_4) x.Out, hB g_0_0 68 #[.int .i64 (x.Id), .slice Ax1 x.Entities.length cx1, .slice Ax2 x.Loop.length cx2, .slice Ax3 x.Links.length cx3, .slice Ax4 x.Out.length cx4]] W30 := H32.pick [5, 0, 1, 2, 3, 4, 6] (by decide) rfl
  clear H32
  refine op_storeW rfl Tryz.sizeOf68 rfl rfl rfl rfl (by simp [Value.oneCell']) H36 ?_
  intro W33 hu34 Ha35
  clear H36
  have H37 : St w No [hB g_0_1 68 #[.int .i64 (x.Id), .slice A_2_1 ((jE p x.Entities x.Links).length) c_2_1, .slice B_1_1_2 x.Loop.length c_1_1_2, .slice B_2_1_2 ((jL p x.Entities x.Links).length) c_2_1_2, .slice B_1_1_4 x.Out.length c_1_1_4], hB g_1_2 68 #[.int .i64 (x.Id), .slice A_2_1 ((jE p x.Entities x.Links).length) c_2_1, .slice B_1_1_2 x.Loop.length c_1_1_2, .slice B_2_1_2 ((jL p x.Entities x.Links).length) c_2_1_2, .slice B_1_1_4 x.Out.length c_1_1_4], hR ki_Entity 171 (.slice A_2_1 ((jE p x.Entities x.Links).length) c_2_1) (jE p x.Entities x.Links), hR ki_Link 178 (.slice B_2_1_2 ((jL p x.Entities x.Links).length) c_2_1_2) (jL p x.Entities x.Links), hR ki_Sent 235 (.slice B_1_1_2 x.Loop.length c_1_1_2) x.Loop, hR ki_Outgoing 147 (.slice B_1_1_4 x.Out.length c_1_1_4) x.Out, hB g_0_0 68 #[.int .i64 (x.Id), .slice Ax1 x.Entities.length cx1, .slice Ax2 x.Loop.length cx2, .slice Ax3 x.Links.length cx3, .slice Ax4 x.Out.length cx4]] W33 := Ha35
  clear Ha35
  clear hu34
  refine ops_cons ?_
  refine op_pure rfl (rn_assign rfl) rfl rfl ?_
  refine ops_nil ?_
  refine then_n ?_
  refine wp_ret ?_
  refine post_cell_tmp (.inl rfl) Tryz.results42 Tryz.isAgg68 Tryz.sizeOf68 rfl rfl (H37.blk 0 rfl) rfl ?_
  exact ⟨_, rfl, ki_Vat_close (x := joinV p x) (H37.pick [2, 4, 3, 5] (by decide) rfl).star, H37.1⟩
end Go.Proofs.YtfnedoiplblldaaGreatFam
