/- NoteTurn: what the reference and the program compute. No conditions. -/
import Derived.Test.YtfnedoiplblldaaGreatProg
import Derived.Test.YtfnedoiplblldaaGreatTy
import Derived.Test.YtfnedoiplblldaaGreatOpn
import Derived.Test.YtfnedoiplblldaaGreatCx9
namespace Go.Proofs.YtfnedoiplblldaaGreatFam
open Go.ChangeShapes Go.WideShapes Go.RowKit Go.Proofs.YtfnedoiplblldaaGreatSep Go.Proofs.YtfnedoiplblldaaGreatT Go.Proofs.YtfnedoiplblldaaGreatK
set_option linter.unusedVariables false
set_option linter.unusedSimpArgs false
def noteL (n : GNote) (l : List GNote) : List GNote := if l.length < 2000 then l ++ [n] else l
theorem noteL_yes (n : GNote) (l : List GNote) (h : l.length < 2000) : noteL n l = l ++ [n] := if_pos h
theorem noteL_no (n : GNote) (l : List GNote) (h : ¬ l.length < 2000) : noteL n l = l := if_neg h
def ntW (a b : Int) (t : GTag) (x : GWorld) : GWorld := ⟨x.Library, x.Vats, x.Channels, noteL ⟨2, a, b, t⟩ x.Notes, x.Strays⟩
theorem ntW_bd (a b : Int) (t : GTag) (x : GWorld) (h : szn_World x ≤ 1048576) : szn_World (ntW a b t x) ≤ 4194304 := by
  have h1 : sznS szn_Note (noteL ⟨2, a, b, t⟩ x.Notes) ≤ sznS szn_Note x.Notes + 1 := by
    unfold noteL
    split
    · unfold sznS
      rw [sumS_append, List.length_append, List.length_singleton]
      simp only [sumS, szn_Note]
      omega
    · omega
  unfold szn_World at h ⊢
  simp only [ntW]
  omega
set_option maxHeartbeats 4000000 in
set_option maxRecDepth 100000 in
theorem note_s (l : List GNote) (n : GNote) (g c0 : Nat) (A0 : Option Addr) (u0 u1 u2 u4 : Value) (F0 : Nat → Prop) (w : World) (h : Star [hB g 36 #[u0, u1, u2, .slice A0 l.length c0, u4], hR ki_Note 110 (.slice A0 l.length c0) l] w F0) (hn : l.length ≤ 4194304) : Calls Tryz.prog 56 #[.pointer (some ⟨g, 0, none⟩), .agg #[.int .i64 (n.Kind), .int .i64 (n.Vat), .int .i64 (n.Entity), .int .i64 (n.Tag.Vat), .int .i64 (n.Tag.Entity), .int .i64 (n.Tag.Seq)]] w (fun e' w' => ∃ A c, e' = .returned (.tuple #[]) ∧ St w F0 [hB g 36 #[u0, u1, u2, .slice A (noteL n l).length c, u4], hR ki_Note 110 (.slice A (noteL n l).length c) (noteL n l)] w') := by
  refine enter 20 [(0, .pointer (some ⟨g, 0, none⟩)), (1, .agg #[.int .i64 (n.Kind), .int .i64 (n.Vat), .int .i64 (n.Entity), .int .i64 (n.Tag.Vat), .int .i64 (n.Tag.Entity), .int .i64 (n.Tag.Seq)])] Tryz.func56 rfl (by kernel_rfl) ?_
  intro xj
  have H1 : St w F0 [hB g 36 #[u0, u1, u2, .slice A0 l.length c0, u4], hR ki_Note 110 (.slice A0 l.length c0) l] w := St.enterF h
  refine wp_seq ?_
  refine reg_seq [0] rfl ?_
  refine ops_cons ?_
  refine op_box rfl rfl rfl rfl H1 ?_
  intro g_0_0 W2 hu3 Ha4
  clear H1
  have H5 : St w F0 [hB g_0_0 110 #[.int .i64 (n.Kind), .int .i64 (n.Vat), .int .i64 (n.Entity), .int .i64 (n.Tag.Vat), .int .i64 (n.Tag.Entity), .int .i64 (n.Tag.Seq)], hB g 36 #[u0, u1, u2, .slice A0 l.length c0, u4], hR ki_Note 110 (.slice A0 l.length c0) l] W2 := Ha4
  clear Ha4
  clear hu3
  refine ops_nil ?_
  refine then_n ?_
  refine wp_seq ?_
  refine reg_seq [0, 1, 2, 3, 4, 5] rfl ?_
  refine ops_cons ?_
  refine op_pure rfl (rn_move rfl) rfl rfl ?_
  refine ops_cons ?_
  refine op_pure rfl (rn_nilCheck rfl) rfl rfl ?_
  refine ops_cons ?_
  refine op_pure rfl (rn_field fa_36_3 rfl) rfl rfl ?_
  refine ops_cons ?_
  refine op_pure rfl (rn_loadC (v := .slice A0 l.length c0) Tryz.isAgg34 rfl (H5.blk 1 rfl) rfl) rfl rfl ?_
  refine ops_cons ?_
  refine op_pure rfl (rn_len Tryz.runUnderlying34 rfl) rfl rfl ?_
  refine ops_cons ?_
  refine op_pure rfl (rn_lss rfl rfl) rfl rfl ?_
  refine ops_nil ?_
  refine then_n ?_
  refine cond_dec rfl (fun hc6 => ?_) (fun hc6 => ?_)
  · refine reg_draw (fun W' => Blk W' g 36 #[u0, u1, u2, .slice A0 l.length c0, u4] ∧ Blk W' g_0_0 110 #[.int .i64 (n.Kind), .int .i64 (n.Vat), .int .i64 (n.Entity), .int .i64 (n.Tag.Vat), .int .i64 (n.Tag.Entity), .int .i64 (n.Tag.Seq)]) 10 (by kernel_rfl) ?_
    have H7 : St w F0 [hB g_0_0 110 #[.int .i64 (n.Kind), .int .i64 (n.Vat), .int .i64 (n.Entity), .int .i64 (n.Tag.Vat), .int .i64 (n.Tag.Entity), .int .i64 (n.Tag.Seq)], hB g 36 #[u0, u1, u2, .slice A0 l.length c0, u4], hR ki_Note 110 (.slice A0 l.length c0) l] W2.drew := H5.drew
    clear H5
    have hS8 : Blk W2.drew g 36 #[u0, u1, u2, .slice A0 l.length c0, u4] ∧ Blk W2.drew g_0_0 110 #[.int .i64 (n.Kind), .int .i64 (n.Vat), .int .i64 (n.Entity), .int .i64 (n.Tag.Vat), .int .i64 (n.Tag.Entity), .int .i64 (n.Tag.Seq)] := ⟨H7.blk 1 rfl, H7.blk 0 rfl⟩
    refine anyS_take (i := 0) rfl (by kernel_rfl) (by kernel_rfl) (by kernel_rfl) (by kernel_rfl) (by kernel_rfl) (fun _ _ _ h => h) rfl rfl hS8 (fun W' hs' => rn_move rfl) ?_
    refine anyS_take (i := 1) rfl (by kernel_rfl) (by kernel_rfl) (by kernel_rfl) (by kernel_rfl) (by kernel_rfl) (fun _ _ _ h => h) rfl rfl hS8 (fun W' hs' => rn_move rfl) ?_
    refine anyS_take (i := 2) rfl (by kernel_rfl) (by kernel_rfl) (by kernel_rfl) (by kernel_rfl) (by kernel_rfl) (fun _ _ _ h => h) rfl rfl hS8 (fun W' hs' => rn_nilCheck rfl) ?_
    refine anyS_take (i := 3) rfl (by kernel_rfl) (by kernel_rfl) (by kernel_rfl) (by kernel_rfl) (by kernel_rfl) (fun _ _ _ h => h) rfl rfl hS8 (fun W' hs' => rn_field fa_36_3 rfl) ?_
    refine anyS_take (i := 4) rfl (by kernel_rfl) (by kernel_rfl) (by kernel_rfl) (by kernel_rfl) (by kernel_rfl) (fun _ _ _ h => h) rfl rfl hS8 (fun W' hs' => rn_loadC (v := .slice A0 l.length c0) Tryz.isAgg34 rfl hs'.1 rfl) ?_
    refine anyS_take (i := 5) rfl (by kernel_rfl) (by kernel_rfl) (by kernel_rfl) (by kernel_rfl) (by kernel_rfl) (fun _ _ _ h => h) rfl rfl hS8 (fun W' hs' => rn_loadB Tryz.isAgg110 Tryz.sizeOf110 rfl hs'.2 rfl) ?_
    refine anyS_one (i := 6) (by kernel_rfl) ?_
    refine op_slice1 rfl Tryz.runUnderlying34 Tryz.sizeOf110 (by decide) Tryz.zeroValue110 rfl rfl rfl rfl H7 ?_
    intro g_2_6 W9 hu10 Ha11
    clear H7
    have H12 : St w F0 [hB g_2_6 110 #[.int .i64 (n.Kind), .int .i64 (n.Vat), .int .i64 (n.Entity), .int .i64 (n.Tag.Vat), .int .i64 (n.Tag.Entity), .int .i64 (n.Tag.Seq)], hB g_0_0 110 #[.int .i64 (n.Kind), .int .i64 (n.Vat), .int .i64 (n.Entity), .int .i64 (n.Tag.Vat), .int .i64 (n.Tag.Entity), .int .i64 (n.Tag.Seq)], hB g 36 #[u0, u1, u2, .slice A0 l.length c0, u4], hR ki_Note 110 (.slice A0 l.length c0) l] W9 := Ha11
    clear Ha11
    clear hu10
    have hS13 : Blk W9 g 36 #[u0, u1, u2, .slice A0 l.length c0, u4] ∧ Blk W9 g_0_0 110 #[.int .i64 (n.Kind), .int .i64 (n.Vat), .int .i64 (n.Entity), .int .i64 (n.Tag.Vat), .int .i64 (n.Tag.Entity), .int .i64 (n.Tag.Seq)] := ⟨H12.blk 2 rfl, H12.blk 1 rfl⟩
    refine ⟨fun _ => hS13, ?_⟩
    refine anyS_one (i := 7) (by kernel_rfl) ?_
    have H16 : St w F0 [hR ki_Note 110 (.slice A0 l.length c0) l, hB g_2_6 110 #[.int .i64 (n.Kind), .int .i64 (n.Vat), .int .i64 (n.Entity), .int .i64 (n.Tag.Vat), .int .i64 (n.Tag.Entity), .int .i64 (n.Tag.Seq)], hB g_0_0 110 #[.int .i64 (n.Kind), .int .i64 (n.Vat), .int .i64 (n.Entity), .int .i64 (n.Tag.Vat), .int .i64 (n.Tag.Entity), .int .i64 (n.Tag.Seq)], hB g 36 #[u0, u1, u2, .slice A0 l.length c0, u4]] W9 := H12.pick [3, 0, 1, 2] (by decide) rfl
    clear H12
    refine op_append1f' (xs := l) (p := n) (n' := (l.length + 1)) (ys := (l ++ [n])) rfl Tryz.underlying34 ki_Note_info rfl (by decide) (by decide) rfl rfl (ki_Note_mk _ No n) (by omega) rfl rfl rfl rfl H16 ?_
    intro B_2_7 c_2_7 W14 Ha15
    clear H16
    have H17 : St w F0 [hR ki_Note 110 (.slice B_2_7 (l.length + 1) c_2_7) (l ++ [n]), hB g_0_0 110 #[.int .i64 (n.Kind), .int .i64 (n.Vat), .int .i64 (n.Entity), .int .i64 (n.Tag.Vat), .int .i64 (n.Tag.Entity), .int .i64 (n.Tag.Seq)], hB g 36 #[u0, u1, u2, .slice A0 l.length c0, u4]] W14 := Ha15
    clear Ha15
    have hS18 : Blk W14 g 36 #[u0, u1, u2, .slice A0 l.length c0, u4] ∧ Blk W14 g_0_0 110 #[.int .i64 (n.Kind), .int .i64 (n.Vat), .int .i64 (n.Entity), .int .i64 (n.Tag.Vat), .int .i64 (n.Tag.Entity), .int .i64 (n.Tag.Seq)] := ⟨H17.blk 2 rfl, H17.blk 1 rfl⟩
    refine ⟨fun _ => hS18, ?_⟩
    refine anyS_one (i := 8) (by kernel_rfl) ?_
    refine op_pure rfl (rn_nilCheck rfl) rfl rfl ?_
    have hS19 : Blk W14 g 36 #[u0, u1, u2, .slice A0 l.length c0, u4] ∧ Blk W14 g_0_0 110 #[.int .i64 (n.Kind), .int .i64 (n.Vat), .int .i64 (n.Entity), .int .i64 (n.Tag.Vat), .int .i64 (n.Tag.Entity), .int .i64 (n.Tag.Seq)] := ⟨H17.blk 2 rfl, H17.blk 1 rfl⟩
    refine ⟨fun _ => hS19, ?_⟩
    refine anyS_take (i := 9) rfl (by kernel_rfl) (by kernel_rfl) (by kernel_rfl) (by kernel_rfl) (by kernel_rfl) (fun _ _ _ h => h) rfl rfl hS19 (fun W' hs' => rn_field fa_36_3 rfl) ?_
    refine anyS_one (i := 10) (by kernel_rfl) ?_
    have H23 : St w F0 [hB g 36 #[u0, u1, u2, .slice A0 l.length c0, u4], hR ki_Note 110 (.slice B_2_7 (l.length + 1) c_2_7) (l ++ [n]), hB g_0_0 110 #[.int .i64 (n.Kind), .int .i64 (n.Vat), .int .i64 (n.Entity), .int .i64 (n.Tag.Vat), .int .i64 (n.Tag.Entity), .int .i64 (n.Tag.Seq)]] W14 := H17.pick [2, 0, 1] (by decide) rfl
    clear H17
    refine op_store rfl Tryz.sizeOf34 rfl rfl rfl (Nat.le_of_ble_eq_true rfl) (by simp [Value.cells, Value.oneCell']) H23 ?_
    intro W20 hu21 Ha22
    clear H23
    have H24 : St w F0 [hB g 36 #[u0, u1, u2, .slice B_2_7 (l.length + 1) c_2_7, u4], hR ki_Note 110 (.slice B_2_7 (l.length + 1) c_2_7) (l ++ [n]), hB g_0_0 110 #[.int .i64 (n.Kind), .int .i64 (n.Vat), .int .i64 (n.Entity), .int .i64 (n.Tag.Vat), .int .i64 (n.Tag.Entity), .int .i64 (n.Tag.Seq)]] W20 := Ha22
    clear Ha22
    clear hu21
    refine ⟨fun h => absS (by kernel_rfl) h, ?_⟩
    refine anyS_done (by kernel_rfl) ?_ _
    have hlt : l.length < 2000 := by omega
    have e1 := noteL_yes n l hlt
    refine post_void (.inr rfl) Tryz.results56 ?_
    rw [e1]
    rw [List.length_append]
    exact ⟨B_2_7, c_2_7, rfl, H24.pick [0, 1] (by decide) rfl⟩
  · refine wp_skip ?_
    have hlt : ¬ l.length < 2000 := by omega
    have e1 := noteL_no n l hlt
    refine post_void (.inr rfl) Tryz.results56 ?_
    rw [e1]
    exact ⟨A0, c0, rfl, H5.pick [1, 2] (by decide) rfl⟩
set_option maxHeartbeats 4000000 in
set_option maxRecDepth 100000 in
theorem note_i (l : List GNote) (n : GNote) (g c0 : Nat) (A0 : Option Addr) (u0 u1 u2 u4 : Value) (F0 : Nat → Prop) (w : World) (h : Star [hB g 36 #[u0, u1, u2, .slice A0 l.length c0, u4], hR ki_Note 110 (.slice A0 l.length c0) l] w F0) (hn : l.length ≤ 4194304) : Calls Tryz.prog 61 #[.pointer (some ⟨g, 0, none⟩), .agg #[.int .i64 (n.Kind), .int .i64 (n.Vat), .int .i64 (n.Entity), .int .i64 (n.Tag.Vat), .int .i64 (n.Tag.Entity), .int .i64 (n.Tag.Seq)]] w (fun e' w' => ∃ A c, e' = .returned (.bool (decide (l.length < 2000))) ∧ St w F0 [hB g 36 #[u0, u1, u2, .slice A (noteL n l).length c, u4], hR ki_Note 110 (.slice A (noteL n l).length c) (noteL n l)] w') := by
  refine enter 21 [(0, .pointer (some ⟨g, 0, none⟩)), (1, .agg #[.int .i64 (n.Kind), .int .i64 (n.Vat), .int .i64 (n.Entity), .int .i64 (n.Tag.Vat), .int .i64 (n.Tag.Entity), .int .i64 (n.Tag.Seq)])] Tryz.func61 rfl (by kernel_rfl) ?_
  intro xj
  have H1 : St w F0 [hB g 36 #[u0, u1, u2, .slice A0 l.length c0, u4], hR ki_Note 110 (.slice A0 l.length c0) l] w := St.enterF h
  refine wp_seq ?_
  refine reg_seq [0, 1] rfl ?_
  refine ops_cons ?_
  refine op_box rfl rfl rfl rfl H1 ?_
  intro g_0_0 W2 hu3 Ha4
  clear H1
  have H5 : St w F0 [hB g_0_0 110 #[.int .i64 (n.Kind), .int .i64 (n.Vat), .int .i64 (n.Entity), .int .i64 (n.Tag.Vat), .int .i64 (n.Tag.Entity), .int .i64 (n.Tag.Seq)], hB g 36 #[u0, u1, u2, .slice A0 l.length c0, u4], hR ki_Note 110 (.slice A0 l.length c0) l] W2 := Ha4
  clear Ha4
  clear hu3
  refine ops_cons ?_
  refine op_pure rfl (rn_assign rfl) rfl rfl ?_
  refine ops_nil ?_
  refine then_n ?_
  refine wp_seq ?_
  refine wp_seq ?_
  refine reg_seq [0, 1, 2, 3, 4, 5] rfl ?_
  refine ops_cons ?_
  refine op_pure rfl (rn_move rfl) rfl rfl ?_
  refine ops_cons ?_
  refine op_pure rfl (rn_nilCheck rfl) rfl rfl ?_
  refine ops_cons ?_
  refine op_pure rfl (rn_field fa_36_3 rfl) rfl rfl ?_
  refine ops_cons ?_
  refine op_pure rfl (rn_loadC (v := .slice A0 l.length c0) Tryz.isAgg34 rfl (H5.blk 1 rfl) rfl) rfl rfl ?_
  refine ops_cons ?_
  refine op_pure rfl (rn_len Tryz.runUnderlying34 rfl) rfl rfl ?_
  refine ops_cons ?_
  refine op_pure rfl (rn_geq rfl rfl) rfl rfl ?_
  refine ops_nil ?_
  refine then_n ?_
  refine cond_dec rfl (fun hc6 => ?_) (fun hc6 => ?_)
  · refine wp_seq ?_
    refine reg_seq [0] rfl ?_
    refine ops_cons ?_
    refine op_pure rfl (rn_assign rfl) rfl rfl ?_
    refine ops_nil ?_
    refine then_n ?_
    refine wp_ret ?_
    refine then_r ?_
    have hlt : ¬ l.length < 2000 := by omega
    have e1 := noteL_no n l hlt
    refine post_tmp (.inl rfl) Tryz.results61 rfl ?_
    rw [e1]
    exact ⟨A0, c0, by rw [decide_eq_false hlt], H5.pick [1, 2] (by decide) rfl⟩
  · refine wp_skip ?_
    refine then_n ?_
    refine wp_seq ?_
    refine reg_draw (fun W' => Blk W' g 36 #[u0, u1, u2, .slice A0 l.length c0, u4] ∧ Blk W' g_0_0 110 #[.int .i64 (n.Kind), .int .i64 (n.Vat), .int .i64 (n.Entity), .int .i64 (n.Tag.Vat), .int .i64 (n.Tag.Entity), .int .i64 (n.Tag.Seq)]) 10 (by kernel_rfl) ?_
    have H7 : St w F0 [hB g_0_0 110 #[.int .i64 (n.Kind), .int .i64 (n.Vat), .int .i64 (n.Entity), .int .i64 (n.Tag.Vat), .int .i64 (n.Tag.Entity), .int .i64 (n.Tag.Seq)], hB g 36 #[u0, u1, u2, .slice A0 l.length c0, u4], hR ki_Note 110 (.slice A0 l.length c0) l] W2.drew := H5.drew
    clear H5
    have hS8 : Blk W2.drew g 36 #[u0, u1, u2, .slice A0 l.length c0, u4] ∧ Blk W2.drew g_0_0 110 #[.int .i64 (n.Kind), .int .i64 (n.Vat), .int .i64 (n.Entity), .int .i64 (n.Tag.Vat), .int .i64 (n.Tag.Entity), .int .i64 (n.Tag.Seq)] := ⟨H7.blk 1 rfl, H7.blk 0 rfl⟩
    refine anyS_take (i := 0) rfl (by kernel_rfl) (by kernel_rfl) (by kernel_rfl) (by kernel_rfl) (by kernel_rfl) (fun _ _ _ h => h) rfl rfl hS8 (fun W' hs' => rn_move rfl) ?_
    refine anyS_take (i := 1) rfl (by kernel_rfl) (by kernel_rfl) (by kernel_rfl) (by kernel_rfl) (by kernel_rfl) (fun _ _ _ h => h) rfl rfl hS8 (fun W' hs' => rn_move rfl) ?_
    refine anyS_take (i := 2) rfl (by kernel_rfl) (by kernel_rfl) (by kernel_rfl) (by kernel_rfl) (by kernel_rfl) (fun _ _ _ h => h) rfl rfl hS8 (fun W' hs' => rn_nilCheck rfl) ?_
    refine anyS_take (i := 3) rfl (by kernel_rfl) (by kernel_rfl) (by kernel_rfl) (by kernel_rfl) (by kernel_rfl) (fun _ _ _ h => h) rfl rfl hS8 (fun W' hs' => rn_field fa_36_3 rfl) ?_
    refine anyS_take (i := 4) rfl (by kernel_rfl) (by kernel_rfl) (by kernel_rfl) (by kernel_rfl) (by kernel_rfl) (fun _ _ _ h => h) rfl rfl hS8 (fun W' hs' => rn_loadC (v := .slice A0 l.length c0) Tryz.isAgg34 rfl hs'.1 rfl) ?_
    refine anyS_take (i := 5) rfl (by kernel_rfl) (by kernel_rfl) (by kernel_rfl) (by kernel_rfl) (by kernel_rfl) (fun _ _ _ h => h) rfl rfl hS8 (fun W' hs' => rn_loadB Tryz.isAgg110 Tryz.sizeOf110 rfl hs'.2 rfl) ?_
    refine anyS_one (i := 6) (by kernel_rfl) ?_
    refine op_slice1 rfl Tryz.runUnderlying34 Tryz.sizeOf110 (by decide) Tryz.zeroValue110 rfl rfl rfl rfl H7 ?_
    intro g_3_6 W9 hu10 Ha11
    clear H7
    have H12 : St w F0 [hB g_3_6 110 #[.int .i64 (n.Kind), .int .i64 (n.Vat), .int .i64 (n.Entity), .int .i64 (n.Tag.Vat), .int .i64 (n.Tag.Entity), .int .i64 (n.Tag.Seq)], hB g_0_0 110 #[.int .i64 (n.Kind), .int .i64 (n.Vat), .int .i64 (n.Entity), .int .i64 (n.Tag.Vat), .int .i64 (n.Tag.Entity), .int .i64 (n.Tag.Seq)], hB g 36 #[u0, u1, u2, .slice A0 l.length c0, u4], hR ki_Note 110 (.slice A0 l.length c0) l] W9 := Ha11
    clear Ha11
    clear hu10
    have hS13 : Blk W9 g 36 #[u0, u1, u2, .slice A0 l.length c0, u4] ∧ Blk W9 g_0_0 110 #[.int .i64 (n.Kind), .int .i64 (n.Vat), .int .i64 (n.Entity), .int .i64 (n.Tag.Vat), .int .i64 (n.Tag.Entity), .int .i64 (n.Tag.Seq)] := ⟨H12.blk 2 rfl, H12.blk 1 rfl⟩
    refine ⟨fun _ => hS13, ?_⟩
    refine anyS_one (i := 7) (by kernel_rfl) ?_
    have H16 : St w F0 [hR ki_Note 110 (.slice A0 l.length c0) l, hB g_3_6 110 #[.int .i64 (n.Kind), .int .i64 (n.Vat), .int .i64 (n.Entity), .int .i64 (n.Tag.Vat), .int .i64 (n.Tag.Entity), .int .i64 (n.Tag.Seq)], hB g_0_0 110 #[.int .i64 (n.Kind), .int .i64 (n.Vat), .int .i64 (n.Entity), .int .i64 (n.Tag.Vat), .int .i64 (n.Tag.Entity), .int .i64 (n.Tag.Seq)], hB g 36 #[u0, u1, u2, .slice A0 l.length c0, u4]] W9 := H12.pick [3, 0, 1, 2] (by decide) rfl
    clear H12
    refine op_append1f' (xs := l) (p := n) (n' := (l.length + 1)) (ys := (l ++ [n])) rfl Tryz.underlying34 ki_Note_info rfl (by decide) (by decide) rfl rfl (ki_Note_mk _ No n) (by omega) rfl rfl rfl rfl H16 ?_
    intro B_3_7 c_3_7 W14 Ha15
    clear H16
    have H17 : St w F0 [hR ki_Note 110 (.slice B_3_7 (l.length + 1) c_3_7) (l ++ [n]), hB g_0_0 110 #[.int .i64 (n.Kind), .int .i64 (n.Vat), .int .i64 (n.Entity), .int .i64 (n.Tag.Vat), .int .i64 (n.Tag.Entity), .int .i64 (n.Tag.Seq)], hB g 36 #[u0, u1, u2, .slice A0 l.length c0, u4]] W14 := Ha15
    clear Ha15
    have hS18 : Blk W14 g 36 #[u0, u1, u2, .slice A0 l.length c0, u4] ∧ Blk W14 g_0_0 110 #[.int .i64 (n.Kind), .int .i64 (n.Vat), .int .i64 (n.Entity), .int .i64 (n.Tag.Vat), .int .i64 (n.Tag.Entity), .int .i64 (n.Tag.Seq)] := ⟨H17.blk 2 rfl, H17.blk 1 rfl⟩
    refine ⟨fun _ => hS18, ?_⟩
    refine anyS_one (i := 8) (by kernel_rfl) ?_
    refine op_pure rfl (rn_nilCheck rfl) rfl rfl ?_
    have hS19 : Blk W14 g 36 #[u0, u1, u2, .slice A0 l.length c0, u4] ∧ Blk W14 g_0_0 110 #[.int .i64 (n.Kind), .int .i64 (n.Vat), .int .i64 (n.Entity), .int .i64 (n.Tag.Vat), .int .i64 (n.Tag.Entity), .int .i64 (n.Tag.Seq)] := ⟨H17.blk 2 rfl, H17.blk 1 rfl⟩
    refine ⟨fun _ => hS19, ?_⟩
    refine anyS_take (i := 9) rfl (by kernel_rfl) (by kernel_rfl) (by kernel_rfl) (by kernel_rfl) (by kernel_rfl) (fun _ _ _ h => h) rfl rfl hS19 (fun W' hs' => rn_field fa_36_3 rfl) ?_
    refine anyS_one (i := 10) (by kernel_rfl) ?_
    have H23 : St w F0 [hB g 36 #[u0, u1, u2, .slice A0 l.length c0, u4], hR ki_Note 110 (.slice B_3_7 (l.length + 1) c_3_7) (l ++ [n]), hB g_0_0 110 #[.int .i64 (n.Kind), .int .i64 (n.Vat), .int .i64 (n.Entity), .int .i64 (n.Tag.Vat), .int .i64 (n.Tag.Entity), .int .i64 (n.Tag.Seq)]] W14 := H17.pick [2, 0, 1] (by decide) rfl
    clear H17
    refine op_store rfl Tryz.sizeOf34 rfl rfl rfl (Nat.le_of_ble_eq_true rfl) (by simp [Value.cells, Value.oneCell']) H23 ?_
    intro W20 hu21 Ha22
    clear H23
    have H24 : St w F0 [hB g 36 #[u0, u1, u2, .slice B_3_7 (l.length + 1) c_3_7, u4], hR ki_Note 110 (.slice B_3_7 (l.length + 1) c_3_7) (l ++ [n]), hB g_0_0 110 #[.int .i64 (n.Kind), .int .i64 (n.Vat), .int .i64 (n.Entity), .int .i64 (n.Tag.Vat), .int .i64 (n.Tag.Entity), .int .i64 (n.Tag.Seq)]] W20 := Ha22
    clear Ha22
    clear hu21
    refine ⟨fun h => absS (by kernel_rfl) h, ?_⟩
    refine anyS_done (by kernel_rfl) ?_ _
    refine then_n ?_
    refine wp_seq ?_
    refine reg_seq [0] rfl ?_
    refine ops_cons ?_
    refine op_pure rfl (rn_assign rfl) rfl rfl ?_
    refine ops_nil ?_
    refine then_n ?_
    refine wp_ret ?_
    have hlt : l.length < 2000 := by omega
    have e1 := noteL_yes n l hlt
    refine post_tmp (.inl rfl) Tryz.results61 rfl ?_
    rw [e1]
    rw [List.length_append]
    exact ⟨B_3_7, c_3_7, by rw [decide_eq_true hlt], H24.pick [0, 1] (by decide) rfl⟩
set_option maxHeartbeats 4000000 in
set_option maxRecDepth 100000 in
theorem noteTurn_s (x : GWorld) (cs : List Value) (a b : Int) (t : GTag) (ct : List Value) (w : World) (h : ki_World.K w x cs) (hs : szn_World x ≤ 4194304) (h2 : ki_Tag.K w t ct) : Calls Tryz.prog 11 #[.agg cs.toArray, .int .i64 a, .int .i64 b, .agg ct.toArray] w (RetAgg ki_World (ntW a b t x) w) := by
  obtain ⟨Ax0, cx0, Ax1, cx1, Ax2, cx2, Ax3, cx3, rfl, hlx0, hCx0, hlx1, hCx1, hlx2, hCx2, hlx3, hCx3⟩ := ki_World_K h
  have s_Library : sznS szn_Script x.Library ≤ 4194304 := by unfold szn_World at hs; omega
  have n_Library : x.Library.length ≤ 4194304 := by unfold sznS at s_Library; omega
  have s_Vats : sznS szn_Vat x.Vats ≤ 4194304 := by unfold szn_World at hs; omega
  have n_Vats : x.Vats.length ≤ 4194304 := by unfold sznS at s_Vats; omega
  have s_Channels : sznS szn_Channel x.Channels ≤ 4194304 := by unfold szn_World at hs; omega
  have n_Channels : x.Channels.length ≤ 4194304 := by unfold sznS at s_Channels; omega
  have s_Notes : sznS szn_Note x.Notes ≤ 4194304 := by unfold szn_World at hs; omega
  have n_Notes : x.Notes.length ≤ 4194304 := by unfold sznS at s_Notes; omega
  obtain rfl := ki_Tag_K h2
  refine enter 18 [(0, .agg #[.slice Ax0 x.Library.length cx0, .slice Ax1 x.Vats.length cx1, .slice Ax2 x.Channels.length cx2, .slice Ax3 x.Notes.length cx3, .int .i64 (x.Strays)]), (1, .int .i64 (a)), (2, .int .i64 (b)), (3, .agg #[.int .i64 (t.Vat), .int .i64 (t.Entity), .int .i64 (t.Seq)])] Tryz.func11 rfl (by kernel_rfl) ?_
  intro xj
  have H1 : St w No [] w := St.enter
  refine wp_seq ?_
  refine reg_seq [0, 1, 2] rfl ?_
  refine ops_cons ?_
  refine op_box rfl rfl rfl rfl H1 ?_
  intro g_0_0 W2 hu3 Ha4
  clear H1
  have H5 : St w No [hB g_0_0 36 #[.slice Ax0 x.Library.length cx0, .slice Ax1 x.Vats.length cx1, .slice Ax2 x.Channels.length cx2, .slice Ax3 x.Notes.length cx3, .int .i64 (x.Strays)]] W2 := Ha4
  clear Ha4
  clear hu3
  refine ops_cons ?_
  refine op_box rfl rfl rfl rfl H5 ?_
  intro g_0_1 W6 hu7 Ha8
  clear H5
  have H9 : St w No [hB g_0_1 39 #[.int .i64 (t.Vat), .int .i64 (t.Entity), .int .i64 (t.Seq)], hB g_0_0 36 #[.slice Ax0 x.Library.length cx0, .slice Ax1 x.Vats.length cx1, .slice Ax2 x.Channels.length cx2, .slice Ax3 x.Notes.length cx3, .int .i64 (x.Strays)]] W6 := Ha8
  clear Ha8
  clear hu7
  refine ops_cons ?_
  refine op_alloc rfl Tryz.zeroValue36 rfl rfl H9 ?_
  intro g_0_2 W10 hu11 Ha12
  clear H9
  have H13 : St w No [hB g_0_2 36 #[.slice none 0 0, .slice none 0 0, .slice none 0 0, .slice none 0 0, .int .i64 (0)], hB g_0_1 39 #[.int .i64 (t.Vat), .int .i64 (t.Entity), .int .i64 (t.Seq)], hB g_0_0 36 #[.slice Ax0 x.Library.length cx0, .slice Ax1 x.Vats.length cx1, .slice Ax2 x.Channels.length cx2, .slice Ax3 x.Notes.length cx3, .int .i64 (x.Strays)]] W10 := Ha12
  clear Ha12
  clear hu11
  refine ops_nil ?_
  refine then_n ?_
  refine wp_seq ?_
  refine reg_seq [0, 1, 2, 3] rfl ?_
  refine ops_cons ?_
  refine op_pure rfl (rn_loadB Tryz.isAgg36 Tryz.sizeOf36 rfl (H13.blk 2 rfl) rfl) rfl rfl ?_
  refine ops_cons ?_
  refine op_call rfl Tryz.call55 (vs := #[.agg #[.slice Ax0 x.Library.length cx0, .slice Ax1 x.Vats.length cx1, .slice Ax2 x.Channels.length cx2, .slice Ax3 x.Notes.length cx3, .int .i64 (x.Strays)]]) rfl rfl rfl (l21Copy_s x _ _ (ki_World_Kmk _ x hlx0 (C_upd H13.1 hCx0) hlx1 (C_upd H13.1 hCx1) hlx2 (C_upd H13.1 hCx2) hlx3 (C_upd H13.1 hCx3)) hs) ?_
  rintro e19 W18 ⟨cs14, rfl, hM15, hu16⟩
  refine ⟨_, rfl, ?_⟩
  obtain ⟨B_1_1_0, c_1_1_0, B_1_1_1, c_1_1_1, B_1_1_2, c_1_1_2, B_1_1_3, c_1_1_3, rfl, hst17⟩ := ki_World_open hM15
  have H20 : St w No [hR ki_Script 133 (.slice B_1_1_0 x.Library.length c_1_1_0) x.Library, hR ki_Vat 68 (.slice B_1_1_1 x.Vats.length c_1_1_1) x.Vats, hR ki_Channel 196 (.slice B_1_1_2 x.Channels.length c_1_1_2) x.Channels, hR ki_Note 110 (.slice B_1_1_3 x.Notes.length c_1_1_3) x.Notes, hB g_0_2 36 #[.slice none 0 0, .slice none 0 0, .slice none 0 0, .slice none 0 0, .int .i64 (0)], hB g_0_1 39 #[.int .i64 (t.Vat), .int .i64 (t.Entity), .int .i64 (t.Seq)], hB g_0_0 36 #[.slice Ax0 x.Library.length cx0, .slice Ax1 x.Vats.length cx1, .slice Ax2 x.Channels.length cx2, .slice Ax3 x.Notes.length cx3, .int .i64 (x.Strays)]] W18 := H13.news hu16 hst17
  clear H13
  refine ops_cons ?_
  refine op_alloc rfl Tryz.zeroValue36 rfl rfl H20 ?_
  intro g_1_2 W21 hu22 Ha23
  clear H20
  have H24 : St w No [hB g_1_2 36 #[.slice none 0 0, .slice none 0 0, .slice none 0 0, .slice none 0 0, .int .i64 (0)], hR ki_Script 133 (.slice B_1_1_0 x.Library.length c_1_1_0) x.Library, hR ki_Vat 68 (.slice B_1_1_1 x.Vats.length c_1_1_1) x.Vats, hR ki_Channel 196 (.slice B_1_1_2 x.Channels.length c_1_1_2) x.Channels, hR ki_Note 110 (.slice B_1_1_3 x.Notes.length c_1_1_3) x.Notes, hB g_0_2 36 #[.slice none 0 0, .slice none 0 0, .slice none 0 0, .slice none 0 0, .int .i64 (0)], hB g_0_1 39 #[.int .i64 (t.Vat), .int .i64 (t.Entity), .int .i64 (t.Seq)], hB g_0_0 36 #[.slice Ax0 x.Library.length cx0, .slice Ax1 x.Vats.length cx1, .slice Ax2 x.Channels.length cx2, .slice Ax3 x.Notes.length cx3, .int .i64 (x.Strays)]] W21 := Ha23
  clear Ha23
  clear hu22
  refine ops_cons ?_
  refine op_storeW rfl Tryz.sizeOf36 rfl rfl rfl rfl (by simp [Value.oneCell']) H24 ?_
  intro W25 hu26 Ha27
  clear H24
  have H28 : St w No [hB g_1_2 36 #[.slice B_1_1_0 x.Library.length c_1_1_0, .slice B_1_1_1 x.Vats.length c_1_1_1, .slice B_1_1_2 x.Channels.length c_1_1_2, .slice B_1_1_3 x.Notes.length c_1_1_3, .int .i64 (x.Strays)], hR ki_Script 133 (.slice B_1_1_0 x.Library.length c_1_1_0) x.Library, hR ki_Vat 68 (.slice B_1_1_1 x.Vats.length c_1_1_1) x.Vats, hR ki_Channel 196 (.slice B_1_1_2 x.Channels.length c_1_1_2) x.Channels, hR ki_Note 110 (.slice B_1_1_3 x.Notes.length c_1_1_3) x.Notes, hB g_0_2 36 #[.slice none 0 0, .slice none 0 0, .slice none 0 0, .slice none 0 0, .int .i64 (0)], hB g_0_1 39 #[.int .i64 (t.Vat), .int .i64 (t.Entity), .int .i64 (t.Seq)], hB g_0_0 36 #[.slice Ax0 x.Library.length cx0, .slice Ax1 x.Vats.length cx1, .slice Ax2 x.Channels.length cx2, .slice Ax3 x.Notes.length cx3, .int .i64 (x.Strays)]] W25 := Ha27
  clear Ha27
  clear hu26
  refine ops_nil ?_
  refine then_n ?_
  refine wp_seq ?_
  refine reg_seq [0, 1, 2, 3, 4] rfl ?_
  refine ops_cons ?_
  refine op_pure rfl (rn_move rfl) rfl rfl ?_
  refine ops_cons ?_
  refine op_pure rfl (rn_move rfl) rfl rfl ?_
  refine ops_cons ?_
  refine op_pure rfl (rn_loadB Tryz.isAgg39 Tryz.sizeOf39 rfl (H28.blk 6 rfl) rfl) rfl rfl ?_
  refine ops_cons ?_
  refine op_pure rfl (rn_build (vs := [(0, .int .i64 (2)), (1, .int .i64 (a)), (2, .int .i64 (b)), (3, .agg #[.int .i64 (t.Vat), .int .i64 (t.Entity), .int .i64 (t.Seq)])]) (cells := #[.int .i64 (2), .int .i64 (a), .int .i64 (b), .int .i64 (t.Vat), .int .i64 (t.Entity), .int .i64 (t.Seq)]) rfl (by kernel_rfl)) rfl rfl ?_
  refine ops_cons ?_
  have H29 : St w No [hB g_1_2 36 #[.slice B_1_1_0 x.Library.length c_1_1_0, .slice B_1_1_1 x.Vats.length c_1_1_1, .slice B_1_1_2 x.Channels.length c_1_1_2, .slice B_1_1_3 x.Notes.length c_1_1_3, .int .i64 (x.Strays)], hR ki_Note 110 (.slice B_1_1_3 x.Notes.length c_1_1_3) x.Notes, hR ki_Script 133 (.slice B_1_1_0 x.Library.length c_1_1_0) x.Library, hR ki_Vat 68 (.slice B_1_1_1 x.Vats.length c_1_1_1) x.Vats, hR ki_Channel 196 (.slice B_1_1_2 x.Channels.length c_1_1_2) x.Channels, hB g_0_2 36 #[.slice none 0 0, .slice none 0 0, .slice none 0 0, .slice none 0 0, .int .i64 (0)], hB g_0_1 39 #[.int .i64 (t.Vat), .int .i64 (t.Entity), .int .i64 (t.Seq)], hB g_0_0 36 #[.slice Ax0 x.Library.length cx0, .slice Ax1 x.Vats.length cx1, .slice Ax2 x.Channels.length cx2, .slice Ax3 x.Notes.length cx3, .int .i64 (x.Strays)]] W25 := H28.pick [0, 4, 1, 2, 3, 5, 6, 7] (by decide) rfl
  clear H28
  obtain ⟨F30, hs31, _, hfr32⟩ := St.frame (l0 := [hB g_1_2 36 #[.slice B_1_1_0 x.Library.length c_1_1_0, .slice B_1_1_1 x.Vats.length c_1_1_1, .slice B_1_1_2 x.Channels.length c_1_1_2, .slice B_1_1_3 x.Notes.length c_1_1_3, .int .i64 (x.Strays)], hR ki_Note 110 (.slice B_1_1_3 x.Notes.length c_1_1_3) x.Notes]) (l := [hR ki_Script 133 (.slice B_1_1_0 x.Library.length c_1_1_0) x.Library, hR ki_Vat 68 (.slice B_1_1_1 x.Vats.length c_1_1_1) x.Vats, hR ki_Channel 196 (.slice B_1_1_2 x.Channels.length c_1_1_2) x.Channels, hB g_0_2 36 #[.slice none 0 0, .slice none 0 0, .slice none 0 0, .slice none 0 0, .int .i64 (0)], hB g_0_1 39 #[.int .i64 (t.Vat), .int .i64 (t.Entity), .int .i64 (t.Seq)], hB g_0_0 36 #[.slice Ax0 x.Library.length cx0, .slice Ax1 x.Vats.length cx1, .slice Ax2 x.Channels.length cx2, .slice Ax3 x.Notes.length cx3, .int .i64 (x.Strays)]]) H29
  refine op_call rfl Tryz.call56 (vs := #[.pointer (some ⟨g_1_2, 0, none⟩), .agg #[.int .i64 (2), .int .i64 (a), .int .i64 (b), .int .i64 (t.Vat), .int .i64 (t.Entity), .int .i64 (t.Seq)]]) rfl rfl rfl (note_s x.Notes ⟨2, a, b, t⟩ _ _ _ _ _ _ _ _ _ hs31 n_Notes) ?_
  rintro e35 W34 ⟨A_2_4, c_2_4, rfl, Hn33⟩
  refine ⟨_, rfl, ?_⟩
  have H36 : St w No [hB g_1_2 36 #[.slice B_1_1_0 x.Library.length c_1_1_0, .slice B_1_1_1 x.Vats.length c_1_1_1, .slice B_1_1_2 x.Channels.length c_1_1_2, .slice A_2_4 ((noteL ⟨2, a, b, t⟩ x.Notes).length) c_2_4, .int .i64 (x.Strays)], hR ki_Note 110 (.slice A_2_4 ((noteL ⟨2, a, b, t⟩ x.Notes).length) c_2_4) (noteL ⟨2, a, b, t⟩ x.Notes), hR ki_Script 133 (.slice B_1_1_0 x.Library.length c_1_1_0) x.Library, hR ki_Vat 68 (.slice B_1_1_1 x.Vats.length c_1_1_1) x.Vats, hR ki_Channel 196 (.slice B_1_1_2 x.Channels.length c_1_1_2) x.Channels, hB g_0_2 36 #[.slice none 0 0, .slice none 0 0, .slice none 0 0, .slice none 0 0, .int .i64 (0)], hB g_0_1 39 #[.int .i64 (t.Vat), .int .i64 (t.Entity), .int .i64 (t.Seq)], hB g_0_0 36 #[.slice Ax0 x.Library.length cx0, .slice Ax1 x.Vats.length cx1, .slice Ax2 x.Channels.length cx2, .slice Ax3 x.Notes.length cx3, .int .i64 (x.Strays)]] W34 := hfr32 _ _ Hn33
  clear H29
  refine ops_nil ?_
  refine then_n ?_
  refine wp_seq ?_
  refine reg_seq [0, 1] rfl ?_
  refine ops_cons ?_
  refine op_pure rfl (rn_loadB Tryz.isAgg36 Tryz.sizeOf36 rfl (H36.blk 0 rfl) rfl) rfl rfl ?_
  refine ops_cons ?_
  have H40 : St w No [hB g_0_2 36 #[.slice none 0 0, .slice none 0 0, .slice none 0 0, .slice none 0 0, .int .i64 (0)], hB g_1_2 36 #[.slice B_1_1_0 x.Library.length c_1_1_0, .slice B_1_1_1 x.Vats.length c_1_1_1, .slice B_1_1_2 x.Channels.length c_1_1_2, .slice A_2_4 ((noteL ⟨2, a, b, t⟩ x.Notes).length) c_2_4, .int .i64 (x.Strays)], hR ki_Note 110 (.slice A_2_4 ((noteL ⟨2, a, b, t⟩ x.Notes).length) c_2_4) (noteL ⟨2, a, b, t⟩ x.Notes), hR ki_Script 133 (.slice B_1_1_0 x.Library.length c_1_1_0) x.Library, hR ki_Vat 68 (.slice B_1_1_1 x.Vats.length c_1_1_1) x.Vats, hR ki_Channel 196 (.slice B_1_1_2 x.Channels.length c_1_1_2) x.Channels, hB g_0_1 39 #[.int .i64 (t.Vat), .int .i64 (t.Entity), .int .i64 (t.Seq)], hB g_0_0 36 #[.slice Ax0 x.Library.length cx0, .slice Ax1 x.Vats.length cx1, .slice Ax2 x.Channels.length cx2, .slice Ax3 x.Notes.length cx3, .int .i64 (x.Strays)]] W34 := H36.pick [5, 0, 1, 2, 3, 4, 6, 7] (by decide) rfl
  clear H36
  refine op_storeW rfl Tryz.sizeOf36 rfl rfl rfl rfl (by simp [Value.oneCell']) H40 ?_
  intro W37 hu38 Ha39
  clear H40
  have H41 : St w No [hB g_0_2 36 #[.slice B_1_1_0 x.Library.length c_1_1_0, .slice B_1_1_1 x.Vats.length c_1_1_1, .slice B_1_1_2 x.Channels.length c_1_1_2, .slice A_2_4 ((noteL ⟨2, a, b, t⟩ x.Notes).length) c_2_4, .int .i64 (x.Strays)], hB g_1_2 36 #[.slice B_1_1_0 x.Library.length c_1_1_0, .slice B_1_1_1 x.Vats.length c_1_1_1, .slice B_1_1_2 x.Channels.length c_1_1_2, .slice A_2_4 ((noteL ⟨2, a, b, t⟩ x.Notes).length) c_2_4, .int .i64 (x.Strays)], hR ki_Note 110 (.slice A_2_4 ((noteL ⟨2, a, b, t⟩ x.Notes).length) c_2_4) (noteL ⟨2, a, b, t⟩ x.Notes), hR ki_Script 133 (.slice B_1_1_0 x.Library.length c_1_1_0) x.Library, hR ki_Vat 68 (.slice B_1_1_1 x.Vats.length c_1_1_1) x.Vats, hR ki_Channel 196 (.slice B_1_1_2 x.Channels.length c_1_1_2) x.Channels, hB g_0_1 39 #[.int .i64 (t.Vat), .int .i64 (t.Entity), .int .i64 (t.Seq)], hB g_0_0 36 #[.slice Ax0 x.Library.length cx0, .slice Ax1 x.Vats.length cx1, .slice Ax2 x.Channels.length cx2, .slice Ax3 x.Notes.length cx3, .int .i64 (x.Strays)]] W37 := Ha39
  clear Ha39
  clear hu38
  refine ops_nil ?_
  refine then_n ?_
  refine wp_ret ?_
  refine post_cell (.inl rfl) Tryz.results11 Tryz.isAgg36 Tryz.sizeOf36 rfl (H41.blk 0 rfl) rfl ?_
  exact ⟨_, rfl, ki_World_close (x := (ntW a b t x)) (H41.pick [3, 4, 5, 2] (by decide) rfl).star, H41.1⟩
set_option maxHeartbeats 4000000 in
set_option maxRecDepth 100000 in
theorem noteTurn_i (x : GWorld) (cs : List Value) (a b : Int) (t : GTag) (ct : List Value) (w : World) (h : ki_World.K w x cs) (hs : szn_World x ≤ 4194304) (h2 : ki_Tag.K w t ct) : Calls Tryz.prog 14 #[.agg cs.toArray, .int .i64 a, .int .i64 b, .agg ct.toArray] w (RetAgg ki_World (ntW a b t x) w) := by
  obtain ⟨Ax0, cx0, Ax1, cx1, Ax2, cx2, Ax3, cx3, rfl, hlx0, hCx0, hlx1, hCx1, hlx2, hCx2, hlx3, hCx3⟩ := ki_World_K h
  have s_Library : sznS szn_Script x.Library ≤ 4194304 := by unfold szn_World at hs; omega
  have n_Library : x.Library.length ≤ 4194304 := by unfold sznS at s_Library; omega
  have s_Vats : sznS szn_Vat x.Vats ≤ 4194304 := by unfold szn_World at hs; omega
  have n_Vats : x.Vats.length ≤ 4194304 := by unfold sznS at s_Vats; omega
  have s_Channels : sznS szn_Channel x.Channels ≤ 4194304 := by unfold szn_World at hs; omega
  have n_Channels : x.Channels.length ≤ 4194304 := by unfold sznS at s_Channels; omega
  have s_Notes : sznS szn_Note x.Notes ≤ 4194304 := by unfold szn_World at hs; omega
  have n_Notes : x.Notes.length ≤ 4194304 := by unfold sznS at s_Notes; omega
  obtain rfl := ki_Tag_K h2
  refine enter 18 [(0, .agg #[.slice Ax0 x.Library.length cx0, .slice Ax1 x.Vats.length cx1, .slice Ax2 x.Channels.length cx2, .slice Ax3 x.Notes.length cx3, .int .i64 (x.Strays)]), (1, .int .i64 (a)), (2, .int .i64 (b)), (3, .agg #[.int .i64 (t.Vat), .int .i64 (t.Entity), .int .i64 (t.Seq)])] Tryz.func14 rfl (by kernel_rfl) ?_
  intro xj
  have H1 : St w No [] w := St.enter
  refine wp_seq ?_
  refine reg_seq [0, 1, 2] rfl ?_
  refine ops_cons ?_
  refine op_box rfl rfl rfl rfl H1 ?_
  intro g_0_0 W2 hu3 Ha4
  clear H1
  have H5 : St w No [hB g_0_0 36 #[.slice Ax0 x.Library.length cx0, .slice Ax1 x.Vats.length cx1, .slice Ax2 x.Channels.length cx2, .slice Ax3 x.Notes.length cx3, .int .i64 (x.Strays)]] W2 := Ha4
  clear Ha4
  clear hu3
  refine ops_cons ?_
  refine op_box rfl rfl rfl rfl H5 ?_
  intro g_0_1 W6 hu7 Ha8
  clear H5
  have H9 : St w No [hB g_0_1 39 #[.int .i64 (t.Vat), .int .i64 (t.Entity), .int .i64 (t.Seq)], hB g_0_0 36 #[.slice Ax0 x.Library.length cx0, .slice Ax1 x.Vats.length cx1, .slice Ax2 x.Channels.length cx2, .slice Ax3 x.Notes.length cx3, .int .i64 (x.Strays)]] W6 := Ha8
  clear Ha8
  clear hu7
  refine ops_cons ?_
  refine op_alloc rfl Tryz.zeroValue36 rfl rfl H9 ?_
  intro g_0_2 W10 hu11 Ha12
  clear H9
  have H13 : St w No [hB g_0_2 36 #[.slice none 0 0, .slice none 0 0, .slice none 0 0, .slice none 0 0, .int .i64 (0)], hB g_0_1 39 #[.int .i64 (t.Vat), .int .i64 (t.Entity), .int .i64 (t.Seq)], hB g_0_0 36 #[.slice Ax0 x.Library.length cx0, .slice Ax1 x.Vats.length cx1, .slice Ax2 x.Channels.length cx2, .slice Ax3 x.Notes.length cx3, .int .i64 (x.Strays)]] W10 := Ha12
  clear Ha12
  clear hu11
  refine ops_nil ?_
  refine then_n ?_
  refine wp_seq ?_
  refine reg_seq [0, 1, 2, 3] rfl ?_
  refine ops_cons ?_
  refine op_pure rfl (rn_loadB Tryz.isAgg36 Tryz.sizeOf36 rfl (H13.blk 2 rfl) rfl) rfl rfl ?_
  refine ops_cons ?_
  refine op_call rfl Tryz.call60 (vs := #[.agg #[.slice Ax0 x.Library.length cx0, .slice Ax1 x.Vats.length cx1, .slice Ax2 x.Channels.length cx2, .slice Ax3 x.Notes.length cx3, .int .i64 (x.Strays)]]) rfl rfl rfl (copied_World x _ _ (ki_World_Kmk _ x hlx0 (C_upd H13.1 hCx0) hlx1 (C_upd H13.1 hCx1) hlx2 (C_upd H13.1 hCx2) hlx3 (C_upd H13.1 hCx3)) hs) ?_
  rintro e19 W18 ⟨cs14, rfl, hM15, hu16⟩
  refine ⟨_, rfl, ?_⟩
  obtain ⟨B_1_1_0, c_1_1_0, B_1_1_1, c_1_1_1, B_1_1_2, c_1_1_2, B_1_1_3, c_1_1_3, rfl, hst17⟩ := ki_World_open hM15
  have H20 : St w No [hR ki_Script 133 (.slice B_1_1_0 x.Library.length c_1_1_0) x.Library, hR ki_Vat 68 (.slice B_1_1_1 x.Vats.length c_1_1_1) x.Vats, hR ki_Channel 196 (.slice B_1_1_2 x.Channels.length c_1_1_2) x.Channels, hR ki_Note 110 (.slice B_1_1_3 x.Notes.length c_1_1_3) x.Notes, hB g_0_2 36 #[.slice none 0 0, .slice none 0 0, .slice none 0 0, .slice none 0 0, .int .i64 (0)], hB g_0_1 39 #[.int .i64 (t.Vat), .int .i64 (t.Entity), .int .i64 (t.Seq)], hB g_0_0 36 #[.slice Ax0 x.Library.length cx0, .slice Ax1 x.Vats.length cx1, .slice Ax2 x.Channels.length cx2, .slice Ax3 x.Notes.length cx3, .int .i64 (x.Strays)]] W18 := H13.news hu16 hst17
  clear H13
  refine ops_cons ?_
  refine op_alloc rfl Tryz.zeroValue36 rfl rfl H20 ?_
  intro g_1_2 W21 hu22 Ha23
  clear H20
  have H24 : St w No [hB g_1_2 36 #[.slice none 0 0, .slice none 0 0, .slice none 0 0, .slice none 0 0, .int .i64 (0)], hR ki_Script 133 (.slice B_1_1_0 x.Library.length c_1_1_0) x.Library, hR ki_Vat 68 (.slice B_1_1_1 x.Vats.length c_1_1_1) x.Vats, hR ki_Channel 196 (.slice B_1_1_2 x.Channels.length c_1_1_2) x.Channels, hR ki_Note 110 (.slice B_1_1_3 x.Notes.length c_1_1_3) x.Notes, hB g_0_2 36 #[.slice none 0 0, .slice none 0 0, .slice none 0 0, .slice none 0 0, .int .i64 (0)], hB g_0_1 39 #[.int .i64 (t.Vat), .int .i64 (t.Entity), .int .i64 (t.Seq)], hB g_0_0 36 #[.slice Ax0 x.Library.length cx0, .slice Ax1 x.Vats.length cx1, .slice Ax2 x.Channels.length cx2, .slice Ax3 x.Notes.length cx3, .int .i64 (x.Strays)]] W21 := Ha23
  clear Ha23
  clear hu22
  refine ops_cons ?_
  refine op_storeW rfl Tryz.sizeOf36 rfl rfl rfl rfl (by simp [Value.oneCell']) H24 ?_
  intro W25 hu26 Ha27
  clear H24
  have H28 : St w No [hB g_1_2 36 #[.slice B_1_1_0 x.Library.length c_1_1_0, .slice B_1_1_1 x.Vats.length c_1_1_1, .slice B_1_1_2 x.Channels.length c_1_1_2, .slice B_1_1_3 x.Notes.length c_1_1_3, .int .i64 (x.Strays)], hR ki_Script 133 (.slice B_1_1_0 x.Library.length c_1_1_0) x.Library, hR ki_Vat 68 (.slice B_1_1_1 x.Vats.length c_1_1_1) x.Vats, hR ki_Channel 196 (.slice B_1_1_2 x.Channels.length c_1_1_2) x.Channels, hR ki_Note 110 (.slice B_1_1_3 x.Notes.length c_1_1_3) x.Notes, hB g_0_2 36 #[.slice none 0 0, .slice none 0 0, .slice none 0 0, .slice none 0 0, .int .i64 (0)], hB g_0_1 39 #[.int .i64 (t.Vat), .int .i64 (t.Entity), .int .i64 (t.Seq)], hB g_0_0 36 #[.slice Ax0 x.Library.length cx0, .slice Ax1 x.Vats.length cx1, .slice Ax2 x.Channels.length cx2, .slice Ax3 x.Notes.length cx3, .int .i64 (x.Strays)]] W25 := Ha27
  clear Ha27
  clear hu26
  refine ops_nil ?_
  refine then_n ?_
  refine wp_seq ?_
  refine reg_seq [0, 1, 2, 3, 4] rfl ?_
  refine ops_cons ?_
  refine op_pure rfl (rn_move rfl) rfl rfl ?_
  refine ops_cons ?_
  refine op_pure rfl (rn_move rfl) rfl rfl ?_
  refine ops_cons ?_
  refine op_pure rfl (rn_loadB Tryz.isAgg39 Tryz.sizeOf39 rfl (H28.blk 6 rfl) rfl) rfl rfl ?_
  refine ops_cons ?_
  refine op_pure rfl (rn_build (vs := [(0, .int .i64 (2)), (1, .int .i64 (a)), (2, .int .i64 (b)), (3, .agg #[.int .i64 (t.Vat), .int .i64 (t.Entity), .int .i64 (t.Seq)])]) (cells := #[.int .i64 (2), .int .i64 (a), .int .i64 (b), .int .i64 (t.Vat), .int .i64 (t.Entity), .int .i64 (t.Seq)]) rfl (by kernel_rfl)) rfl rfl ?_
  refine ops_cons ?_
  have H29 : St w No [hB g_1_2 36 #[.slice B_1_1_0 x.Library.length c_1_1_0, .slice B_1_1_1 x.Vats.length c_1_1_1, .slice B_1_1_2 x.Channels.length c_1_1_2, .slice B_1_1_3 x.Notes.length c_1_1_3, .int .i64 (x.Strays)], hR ki_Note 110 (.slice B_1_1_3 x.Notes.length c_1_1_3) x.Notes, hR ki_Script 133 (.slice B_1_1_0 x.Library.length c_1_1_0) x.Library, hR ki_Vat 68 (.slice B_1_1_1 x.Vats.length c_1_1_1) x.Vats, hR ki_Channel 196 (.slice B_1_1_2 x.Channels.length c_1_1_2) x.Channels, hB g_0_2 36 #[.slice none 0 0, .slice none 0 0, .slice none 0 0, .slice none 0 0, .int .i64 (0)], hB g_0_1 39 #[.int .i64 (t.Vat), .int .i64 (t.Entity), .int .i64 (t.Seq)], hB g_0_0 36 #[.slice Ax0 x.Library.length cx0, .slice Ax1 x.Vats.length cx1, .slice Ax2 x.Channels.length cx2, .slice Ax3 x.Notes.length cx3, .int .i64 (x.Strays)]] W25 := H28.pick [0, 4, 1, 2, 3, 5, 6, 7] (by decide) rfl
  clear H28
  obtain ⟨F30, hs31, _, hfr32⟩ := St.frame (l0 := [hB g_1_2 36 #[.slice B_1_1_0 x.Library.length c_1_1_0, .slice B_1_1_1 x.Vats.length c_1_1_1, .slice B_1_1_2 x.Channels.length c_1_1_2, .slice B_1_1_3 x.Notes.length c_1_1_3, .int .i64 (x.Strays)], hR ki_Note 110 (.slice B_1_1_3 x.Notes.length c_1_1_3) x.Notes]) (l := [hR ki_Script 133 (.slice B_1_1_0 x.Library.length c_1_1_0) x.Library, hR ki_Vat 68 (.slice B_1_1_1 x.Vats.length c_1_1_1) x.Vats, hR ki_Channel 196 (.slice B_1_1_2 x.Channels.length c_1_1_2) x.Channels, hB g_0_2 36 #[.slice none 0 0, .slice none 0 0, .slice none 0 0, .slice none 0 0, .int .i64 (0)], hB g_0_1 39 #[.int .i64 (t.Vat), .int .i64 (t.Entity), .int .i64 (t.Seq)], hB g_0_0 36 #[.slice Ax0 x.Library.length cx0, .slice Ax1 x.Vats.length cx1, .slice Ax2 x.Channels.length cx2, .slice Ax3 x.Notes.length cx3, .int .i64 (x.Strays)]]) H29
  refine op_call rfl Tryz.call61 (vs := #[.pointer (some ⟨g_1_2, 0, none⟩), .agg #[.int .i64 (2), .int .i64 (a), .int .i64 (b), .int .i64 (t.Vat), .int .i64 (t.Entity), .int .i64 (t.Seq)]]) rfl rfl rfl (note_i x.Notes ⟨2, a, b, t⟩ _ _ _ _ _ _ _ _ _ hs31 n_Notes) ?_
  rintro e35 W34 ⟨A_2_4, c_2_4, rfl, Hn33⟩
  refine ⟨_, rfl, ?_⟩
  have H36 : St w No [hB g_1_2 36 #[.slice B_1_1_0 x.Library.length c_1_1_0, .slice B_1_1_1 x.Vats.length c_1_1_1, .slice B_1_1_2 x.Channels.length c_1_1_2, .slice A_2_4 ((noteL ⟨2, a, b, t⟩ x.Notes).length) c_2_4, .int .i64 (x.Strays)], hR ki_Note 110 (.slice A_2_4 ((noteL ⟨2, a, b, t⟩ x.Notes).length) c_2_4) (noteL ⟨2, a, b, t⟩ x.Notes), hR ki_Script 133 (.slice B_1_1_0 x.Library.length c_1_1_0) x.Library, hR ki_Vat 68 (.slice B_1_1_1 x.Vats.length c_1_1_1) x.Vats, hR ki_Channel 196 (.slice B_1_1_2 x.Channels.length c_1_1_2) x.Channels, hB g_0_2 36 #[.slice none 0 0, .slice none 0 0, .slice none 0 0, .slice none 0 0, .int .i64 (0)], hB g_0_1 39 #[.int .i64 (t.Vat), .int .i64 (t.Entity), .int .i64 (t.Seq)], hB g_0_0 36 #[.slice Ax0 x.Library.length cx0, .slice Ax1 x.Vats.length cx1, .slice Ax2 x.Channels.length cx2, .slice Ax3 x.Notes.length cx3, .int .i64 (x.Strays)]] W34 := hfr32 _ _ Hn33
  clear H29
  refine ops_nil ?_
  refine then_n ?_
  refine wp_seq ?_
  refine reg_seq [0, 1] rfl ?_
  refine ops_cons ?_
  refine op_pure rfl (rn_loadB Tryz.isAgg36 Tryz.sizeOf36 rfl (H36.blk 0 rfl) rfl) rfl rfl ?_
  refine ops_cons ?_
  have H40 : St w No [hB g_0_2 36 #[.slice none 0 0, .slice none 0 0, .slice none 0 0, .slice none 0 0, .int .i64 (0)], hB g_1_2 36 #[.slice B_1_1_0 x.Library.length c_1_1_0, .slice B_1_1_1 x.Vats.length c_1_1_1, .slice B_1_1_2 x.Channels.length c_1_1_2, .slice A_2_4 ((noteL ⟨2, a, b, t⟩ x.Notes).length) c_2_4, .int .i64 (x.Strays)], hR ki_Note 110 (.slice A_2_4 ((noteL ⟨2, a, b, t⟩ x.Notes).length) c_2_4) (noteL ⟨2, a, b, t⟩ x.Notes), hR ki_Script 133 (.slice B_1_1_0 x.Library.length c_1_1_0) x.Library, hR ki_Vat 68 (.slice B_1_1_1 x.Vats.length c_1_1_1) x.Vats, hR ki_Channel 196 (.slice B_1_1_2 x.Channels.length c_1_1_2) x.Channels, hB g_0_1 39 #[.int .i64 (t.Vat), .int .i64 (t.Entity), .int .i64 (t.Seq)], hB g_0_0 36 #[.slice Ax0 x.Library.length cx0, .slice Ax1 x.Vats.length cx1, .slice Ax2 x.Channels.length cx2, .slice Ax3 x.Notes.length cx3, .int .i64 (x.Strays)]] W34 := H36.pick [5, 0, 1, 2, 3, 4, 6, 7] (by decide) rfl
  clear H36
  refine op_storeW rfl Tryz.sizeOf36 rfl rfl rfl rfl (by simp [Value.oneCell']) H40 ?_
  intro W37 hu38 Ha39
  clear H40
  have H41 : St w No [hB g_0_2 36 #[.slice B_1_1_0 x.Library.length c_1_1_0, .slice B_1_1_1 x.Vats.length c_1_1_1, .slice B_1_1_2 x.Channels.length c_1_1_2, .slice A_2_4 ((noteL ⟨2, a, b, t⟩ x.Notes).length) c_2_4, .int .i64 (x.Strays)], hB g_1_2 36 #[.slice B_1_1_0 x.Library.length c_1_1_0, .slice B_1_1_1 x.Vats.length c_1_1_1, .slice B_1_1_2 x.Channels.length c_1_1_2, .slice A_2_4 ((noteL ⟨2, a, b, t⟩ x.Notes).length) c_2_4, .int .i64 (x.Strays)], hR ki_Note 110 (.slice A_2_4 ((noteL ⟨2, a, b, t⟩ x.Notes).length) c_2_4) (noteL ⟨2, a, b, t⟩ x.Notes), hR ki_Script 133 (.slice B_1_1_0 x.Library.length c_1_1_0) x.Library, hR ki_Vat 68 (.slice B_1_1_1 x.Vats.length c_1_1_1) x.Vats, hR ki_Channel 196 (.slice B_1_1_2 x.Channels.length c_1_1_2) x.Channels, hB g_0_1 39 #[.int .i64 (t.Vat), .int .i64 (t.Entity), .int .i64 (t.Seq)], hB g_0_0 36 #[.slice Ax0 x.Library.length cx0, .slice Ax1 x.Vats.length cx1, .slice Ax2 x.Channels.length cx2, .slice Ax3 x.Notes.length cx3, .int .i64 (x.Strays)]] W37 := Ha39
  clear Ha39
  clear hu38
  refine ops_nil ?_
  refine then_n ?_
  refine wp_ret ?_
  refine post_cell (.inl rfl) Tryz.results14 Tryz.isAgg36 Tryz.sizeOf36 rfl (H41.blk 0 rfl) rfl ?_
  exact ⟨_, rfl, ki_World_close (x := (ntW a b t x)) (H41.pick [3, 4, 5, 2] (by decide) rfl).star, H41.1⟩
end Go.Proofs.YtfnedoiplblldaaGreatFam
