/- Values tested. No conditions. -/
import Derived.Test.YtfnedoiplblldaaGreatProg
import Derived.Test.YtfnedoiplblldaaGreatTy
import Derived.Test.YtfnedoiplblldaaGreatOpn
import Derived.Test.YtfnedoiplblldaaGreatSym3
import Derived.Test.YtfnedoiplblldaaGreatIns
import Derived.Test.YtfnedoiplblldaaGreatVFind
namespace Go.Proofs.YtfnedoiplblldaaGreatFam
open Go.ChangeShapes Go.WideShapes Go.RowKit Go.Proofs.YtfnedoiplblldaaGreatSep Go.Proofs.YtfnedoiplblldaaGreatT Go.Proofs.YtfnedoiplblldaaGreatK
set_option linter.unusedVariables false
set_option linter.unusedSimpArgs false
def isV (n : Nat) (x : GValue) : Bool := if x.Kind = 0 then decide (0 ≤ x.N ∧ x.N ≤ 999999) else if x.Kind = 1 then decide (0 ≤ x.N ∧ x.N < n) else decide (x.Kind = 2 ∧ x.N = 0)
theorem all_no {α : Type} (p : α → Bool) (l : List α) (i : Nat) (h : i < l.length) (hp : p l[i] = true) : (l.drop i).all p = (l.drop (i + 1)).all p := by
  rw [List.drop_eq_getElem_cons h, List.all_cons, hp, Bool.true_and]
theorem all_yes {α : Type} (p : α → Bool) (l : List α) (i : Nat) (h : i < l.length) (hp : p l[i] = false) : (l.drop i).all p = false := by
  rw [List.drop_eq_getElem_cons h, List.all_cons, hp, Bool.false_and]
theorem all_end {α : Type} (p : α → Bool) (l : List α) (i : Nat) (h : l.length ≤ i) : (l.drop i).all p = true := by
  rw [List.drop_eq_nil_of_le h]; rfl
theorem any_all {α : Type} (p : α → Bool) (l : List α) : (!l.any (fun x => !p x)) = l.all p := by
  induction l with
  | nil => rfl
  | cons x l ih => simp [List.any_cons, List.all_cons, ← ih]
set_option maxHeartbeats 4000000 in
set_option maxRecDepth 100000 in
theorem isValue_s (x : GValue) (cs : List Value) (n : Nat) (hn : n ≤ 4194304) (w : World) (h : ki_Value.K w x cs) : Calls Tryz.prog 180 #[.agg cs.toArray, .int .i64 n] w (RetBool (isV n x) w) := by
  obtain rfl := ki_Value_K h
  refine enter 31 [(0, .agg #[.int .i64 (x.Kind), .int .i64 (x.N)]), (1, .int .i64 (((n : Nat) : Int)))] Tryz.func180 rfl (by kernel_rfl) ?_
  intro xj
  have H1 : St w No [] w := St.enter
  refine wp_seq ?_
  refine reg_seq [0, 1] rfl ?_
  refine ops_cons ?_
  refine op_box rfl rfl rfl rfl H1 ?_
  intro g_0_0 W2 hu3 Ha4
  clear H1
  have H5 : St w No [hB g_0_0 95 #[.int .i64 (x.Kind), .int .i64 (x.N)]] W2 := Ha4
  clear Ha4
  clear hu3
  refine ops_cons ?_
  refine op_pure rfl (rn_assign rfl) rfl rfl ?_
  refine ops_nil ?_
  refine then_n ?_
  refine wp_seq ?_
  refine wp_seq ?_
  refine reg_seq [0, 1] rfl ?_
  refine ops_cons ?_
  refine op_pure rfl (rn_field fa_95_0 rfl) rfl rfl ?_
  refine ops_cons ?_
  refine op_pure rfl (rn_loadC (v := .int .i64 (x.Kind)) Tryz.isAgg3 rfl (H5.blk 0 rfl) rfl) rfl rfl ?_
  refine ops_nil ?_
  refine then_n ?_
  refine wp_block ?_
  refine wp_seq ?_
  refine reg_seq [0, 1] rfl ?_
  refine ops_cons ?_
  refine op_pure rfl (rn_eql rfl rfl) rfl rfl ?_
  refine ops_cons ?_
  refine op_pure rfl (rn_assign rfl) rfl rfl ?_
  refine ops_nil ?_
  refine then_n ?_
  refine cond_dec rfl (fun hc6 => ?_) (fun hc6 => ?_)
  · refine wp_seq ?_
    refine reg_seq [0, 1, 2, 3] rfl ?_
    refine ops_cons ?_
    refine op_pure rfl (rn_field fa_95_1 rfl) rfl rfl ?_
    refine ops_cons ?_
    refine op_pure rfl (rn_loadC (v := .int .i64 (x.N)) Tryz.isAgg3 rfl (H5.blk 0 rfl) rfl) rfl rfl ?_
    refine ops_cons ?_
    refine op_call rfl Tryz.call115 (vs := #[.int .i64 (x.N), .int .i64 (0), .int .i64 (999999)]) rfl rfl rfl (l1In_s x.N 0 999999 _) ?_
    rintro e9 W8 ⟨rfl, hu7⟩
    refine ⟨_, rfl, ?_⟩
    have H10 : St w No [hB g_0_0 95 #[.int .i64 (x.Kind), .int .i64 (x.N)]] W8 := H5.no hu7
    clear H5
    refine ops_cons ?_
    refine op_pure rfl (rn_assign rfl) rfl rfl ?_
    refine ops_nil ?_
    refine then_n ?_
    refine wp_ret ?_
    refine inB_r ?_
    refine then_r ?_
    refine post_tmp (.inl rfl) Tryz.results180 rfl ?_
    refine ⟨congrArg (fun z => Ending.returned (Value.bool z)) ?_, H10.1⟩
    unfold isV
    first | (split <;> (try split) <;> simp <;> omega) | (split <;> (try split) <;> first | omega | rfl | (congr 1; apply propext; omega) | (apply decide_eq_decide.2; omega) | (simp; omega))
  · refine wp_seq ?_
    refine reg_seq [0, 1] rfl ?_
    refine ops_cons ?_
    refine op_pure rfl (rn_eql rfl rfl) rfl rfl ?_
    refine ops_cons ?_
    refine op_pure rfl (rn_assign rfl) rfl rfl ?_
    refine ops_nil ?_
    refine then_n ?_
    refine cond_dec rfl (fun hc11 => ?_) (fun hc11 => ?_)
    · refine wp_seq ?_
      refine reg_seq [0, 1, 2, 3, 4, 5, 6, 7, 8, 9] rfl ?_
      refine ops_cons ?_
      refine op_pure rfl (rn_field fa_95_1 rfl) rfl rfl ?_
      refine ops_cons ?_
      refine op_pure rfl (rn_loadC (v := .int .i64 (x.N)) Tryz.isAgg3 rfl (H5.blk 0 rfl) rfl) rfl rfl ?_
      by_cases hg12 : (0 : Int) ≤ x.N
      · refine ops_cons ?_
        refine op_pure rfl (rn_decT hg12 (rn_geq rfl rfl)) rfl rfl ?_
        refine ops_cons ?_
        refine op_pure rfl (rn_move rfl) rfl rfl ?_
        refine ops_cons ?_
        refine op_G rfl rfl rfl rfl (fun _ ho13 => ?_)
        refine op_pure ho13 (rn_field fa_95_1 rfl) rfl rfl ?_
        refine ops_cons ?_
        refine op_G rfl rfl rfl rfl (fun _ ho14 => ?_)
        refine op_pure ho14 (rn_loadC (v := .int .i64 (x.N)) Tryz.isAgg3 rfl (H5.blk 0 rfl) rfl) rfl rfl ?_
        refine ops_cons ?_
        refine op_G rfl rfl rfl rfl (fun _ ho15 => ?_)
        refine op_pure ho15 (rn_move rfl) rfl rfl ?_
        by_cases hg16 : (x.N : Int) < ((n : Nat) : Int)
        · refine ops_cons ?_
          refine op_G rfl rfl rfl rfl (fun _ ho17 => ?_)
          refine op_pure ho17 (rn_decT hg16 (rn_lss rfl rfl)) rfl rfl ?_
          refine ops_cons ?_
          refine op_pure rfl (rn_pick (v := .bool (true)) (b := true) rfl rfl rfl rfl) rfl rfl ?_
          refine ops_cons ?_
          refine op_pure rfl (rn_assign rfl) rfl rfl ?_
          refine ops_nil ?_
          refine then_n ?_
          refine wp_ret ?_
          refine inB_r ?_
          refine then_r ?_
          refine post_tmp (.inl rfl) Tryz.results180 rfl ?_
          refine ⟨congrArg (fun z => Ending.returned (Value.bool z)) ?_, H5.1⟩
          unfold isV
          first | (split <;> (try split) <;> simp <;> omega) | (split <;> (try split) <;> first | omega | rfl | (congr 1; apply propext; omega) | (apply decide_eq_decide.2; omega) | (simp; omega))
        · refine ops_cons ?_
          refine op_G rfl rfl rfl rfl (fun _ ho18 => ?_)
          refine op_pure ho18 (rn_decF hg16 (rn_lss rfl rfl)) rfl rfl ?_
          refine ops_cons ?_
          refine op_pure rfl (rn_pick (v := .bool (false)) (b := true) rfl rfl rfl rfl) rfl rfl ?_
          refine ops_cons ?_
          refine op_pure rfl (rn_assign rfl) rfl rfl ?_
          refine ops_nil ?_
          refine then_n ?_
          refine wp_ret ?_
          refine inB_r ?_
          refine then_r ?_
          refine post_tmp (.inl rfl) Tryz.results180 rfl ?_
          refine ⟨congrArg (fun z => Ending.returned (Value.bool z)) ?_, H5.1⟩
          unfold isV
          first | (split <;> (try split) <;> simp <;> omega) | (split <;> (try split) <;> first | omega | rfl | (congr 1; apply propext; omega) | (apply decide_eq_decide.2; omega) | (simp; omega))
      · refine ops_cons ?_
        refine op_pure rfl (rn_decF hg12 (rn_geq rfl rfl)) rfl rfl ?_
        refine ops_cons ?_
        refine op_pure rfl (rn_move rfl) rfl rfl ?_
        refine ops_cons ?_
        refine op_skipG rfl rfl rfl rfl rfl rfl rfl ?_
        refine ops_cons ?_
        refine op_skipG rfl rfl rfl rfl rfl rfl rfl ?_
        refine ops_cons ?_
        refine op_skipG rfl rfl rfl rfl rfl rfl rfl ?_
        refine ops_cons ?_
        refine op_skipG rfl rfl rfl rfl rfl rfl rfl ?_
        refine ops_cons ?_
        refine op_pure rfl (rn_pick (v := .bool (false)) (b := false) rfl rfl rfl rfl) rfl rfl ?_
        refine ops_cons ?_
        refine op_pure rfl (rn_assign rfl) rfl rfl ?_
        refine ops_nil ?_
        refine then_n ?_
        refine wp_ret ?_
        refine inB_r ?_
        refine then_r ?_
        refine post_tmp (.inl rfl) Tryz.results180 rfl ?_
        refine ⟨congrArg (fun z => Ending.returned (Value.bool z)) ?_, H5.1⟩
        unfold isV
        first | (split <;> (try split) <;> simp <;> omega) | (split <;> (try split) <;> first | omega | rfl | (congr 1; apply propext; omega) | (apply decide_eq_decide.2; omega) | (simp; omega))
    · refine wp_skip ?_
      refine inB_n ?_
      refine then_n ?_
      refine wp_seq ?_
      refine reg_seq [0, 1, 2, 3, 4, 5, 6, 7, 8] rfl ?_
      refine ops_cons ?_
      refine op_pure rfl (rn_field fa_95_0 rfl) rfl rfl ?_
      refine ops_cons ?_
      refine op_pure rfl (rn_loadC (v := .int .i64 (x.Kind)) Tryz.isAgg3 rfl (H5.blk 0 rfl) rfl) rfl rfl ?_
      by_cases hg19 : (x.Kind : Int) = 2
      · refine ops_cons ?_
        refine op_pure rfl (rn_decT hg19 (rn_eql rfl rfl)) rfl rfl ?_
        refine ops_cons ?_
        refine op_pure rfl (rn_move rfl) rfl rfl ?_
        refine ops_cons ?_
        refine op_G rfl rfl rfl rfl (fun _ ho20 => ?_)
        refine op_pure ho20 (rn_field fa_95_1 rfl) rfl rfl ?_
        refine ops_cons ?_
        refine op_G rfl rfl rfl rfl (fun _ ho21 => ?_)
        refine op_pure ho21 (rn_loadC (v := .int .i64 (x.N)) Tryz.isAgg3 rfl (H5.blk 0 rfl) rfl) rfl rfl ?_
        by_cases hg22 : (x.N : Int) = 0
        · refine ops_cons ?_
          refine op_G rfl rfl rfl rfl (fun _ ho23 => ?_)
          refine op_pure ho23 (rn_decT hg22 (rn_eql rfl rfl)) rfl rfl ?_
          refine ops_cons ?_
          refine op_pure rfl (rn_pick (v := .bool (true)) (b := true) rfl rfl rfl rfl) rfl rfl ?_
          refine ops_cons ?_
          refine op_pure rfl (rn_assign rfl) rfl rfl ?_
          refine ops_nil ?_
          refine then_n ?_
          refine wp_ret ?_
          refine post_tmp (.inl rfl) Tryz.results180 rfl ?_
          refine ⟨congrArg (fun z => Ending.returned (Value.bool z)) ?_, H5.1⟩
          unfold isV
          first | (split <;> (try split) <;> simp <;> omega) | (split <;> (try split) <;> first | omega | rfl | (congr 1; apply propext; omega) | (apply decide_eq_decide.2; omega) | (simp; omega))
        · refine ops_cons ?_
          refine op_G rfl rfl rfl rfl (fun _ ho24 => ?_)
          refine op_pure ho24 (rn_decF hg22 (rn_eql rfl rfl)) rfl rfl ?_
          refine ops_cons ?_
          refine op_pure rfl (rn_pick (v := .bool (false)) (b := true) rfl rfl rfl rfl) rfl rfl ?_
          refine ops_cons ?_
          refine op_pure rfl (rn_assign rfl) rfl rfl ?_
          refine ops_nil ?_
          refine then_n ?_
          refine wp_ret ?_
          refine post_tmp (.inl rfl) Tryz.results180 rfl ?_
          refine ⟨congrArg (fun z => Ending.returned (Value.bool z)) ?_, H5.1⟩
          unfold isV
          first | (split <;> (try split) <;> simp <;> omega) | (split <;> (try split) <;> first | omega | rfl | (congr 1; apply propext; omega) | (apply decide_eq_decide.2; omega) | (simp; omega))
      · refine ops_cons ?_
        refine op_pure rfl (rn_decF hg19 (rn_eql rfl rfl)) rfl rfl ?_
        refine ops_cons ?_
        refine op_pure rfl (rn_move rfl) rfl rfl ?_
        refine ops_cons ?_
        refine op_skipG rfl rfl rfl rfl rfl rfl rfl ?_
        refine ops_cons ?_
        refine op_skipG rfl rfl rfl rfl rfl rfl rfl ?_
        refine ops_cons ?_
        refine op_skipG rfl rfl rfl rfl rfl rfl rfl ?_
        refine ops_cons ?_
        refine op_pure rfl (rn_pick (v := .bool (false)) (b := false) rfl rfl rfl rfl) rfl rfl ?_
        refine ops_cons ?_
        refine op_pure rfl (rn_assign rfl) rfl rfl ?_
        refine ops_nil ?_
        refine then_n ?_
        refine wp_ret ?_
        refine post_tmp (.inl rfl) Tryz.results180 rfl ?_
        refine ⟨congrArg (fun z => Ending.returned (Value.bool z)) ?_, H5.1⟩
        unfold isV
        first | (split <;> (try split) <;> simp <;> omega) | (split <;> (try split) <;> first | omega | rfl | (congr 1; apply propext; omega) | (apply decide_eq_decide.2; omega) | (simp; omega))
set_option maxHeartbeats 4000000 in
set_option maxRecDepth 100000 in
theorem isValue_i (x : GValue) (cs : List Value) (n : Nat) (hn : n ≤ 4194304) (w : World) (h : ki_Value.K w x cs) : Calls Tryz.prog 183 #[.agg cs.toArray, .int .i64 n] w (RetBool (isV n x) w) := by
  obtain rfl := ki_Value_K h
  refine enter 24 [(0, .agg #[.int .i64 (x.Kind), .int .i64 (x.N)]), (1, .int .i64 (((n : Nat) : Int)))] Tryz.func183 rfl (by kernel_rfl) ?_
  intro xj
  have H1 : St w No [] w := St.enter
  refine wp_seq ?_
  refine reg_seq [0, 1] rfl ?_
  refine ops_cons ?_
  refine op_box rfl rfl rfl rfl H1 ?_
  intro g_0_0 W2 hu3 Ha4
  clear H1
  have H5 : St w No [hB g_0_0 95 #[.int .i64 (x.Kind), .int .i64 (x.N)]] W2 := Ha4
  clear Ha4
  clear hu3
  refine ops_cons ?_
  refine op_pure rfl (rn_assign rfl) rfl rfl ?_
  refine ops_nil ?_
  refine then_n ?_
  refine wp_seq ?_
  refine wp_seq ?_
  refine reg_seq [0, 1] rfl ?_
  refine ops_cons ?_
  refine op_pure rfl (rn_field fa_95_0 rfl) rfl rfl ?_
  refine ops_cons ?_
  refine op_pure rfl (rn_loadC (v := .int .i64 (x.Kind)) Tryz.isAgg3 rfl (H5.blk 0 rfl) rfl) rfl rfl ?_
  refine ops_nil ?_
  refine then_n ?_
  refine wp_block ?_
  refine wp_seq ?_
  refine reg_seq [0, 1] rfl ?_
  refine ops_cons ?_
  refine op_pure rfl (rn_eql rfl rfl) rfl rfl ?_
  refine ops_cons ?_
  refine op_pure rfl (rn_assign rfl) rfl rfl ?_
  refine ops_nil ?_
  refine then_n ?_
  refine cond_dec rfl (fun hc6 => ?_) (fun hc6 => ?_)
  · refine wp_seq ?_
    refine reg_seq [0, 1, 2, 3] rfl ?_
    refine ops_cons ?_
    refine op_pure rfl (rn_field fa_95_1 rfl) rfl rfl ?_
    refine ops_cons ?_
    refine op_pure rfl (rn_loadC (v := .int .i64 (x.N)) Tryz.isAgg3 rfl (H5.blk 0 rfl) rfl) rfl rfl ?_
    refine ops_cons ?_
    refine op_call rfl Tryz.call119 (vs := #[.int .i64 (x.N), .int .i64 (0), .int .i64 (999999)]) rfl rfl rfl (in_i x.N 0 999999 _) ?_
    rintro e9 W8 ⟨rfl, hu7⟩
    refine ⟨_, rfl, ?_⟩
    have H10 : St w No [hB g_0_0 95 #[.int .i64 (x.Kind), .int .i64 (x.N)]] W8 := H5.no hu7
    clear H5
    refine ops_cons ?_
    refine op_pure rfl (rn_assign rfl) rfl rfl ?_
    refine ops_nil ?_
    refine then_n ?_
    refine wp_ret ?_
    refine inB_r ?_
    refine then_r ?_
    refine post_tmp (.inl rfl) Tryz.results183 rfl ?_
    refine ⟨congrArg (fun z => Ending.returned (Value.bool z)) ?_, H10.1⟩
    unfold isV
    first | (split <;> (try split) <;> simp <;> omega) | (split <;> (try split) <;> first | omega | rfl | (congr 1; apply propext; omega) | (apply decide_eq_decide.2; omega) | (simp; omega))
  · refine wp_seq ?_
    refine reg_seq [0, 1] rfl ?_
    refine ops_cons ?_
    refine op_pure rfl (rn_eql rfl rfl) rfl rfl ?_
    refine ops_cons ?_
    refine op_pure rfl (rn_assign rfl) rfl rfl ?_
    refine ops_nil ?_
    refine then_n ?_
    refine cond_dec rfl (fun hc11 => ?_) (fun hc11 => ?_)
    · refine wp_seq ?_
      refine reg_seq [0, 1, 2, 3, 4, 5] rfl ?_
      refine ops_cons ?_
      refine op_pure rfl (rn_field fa_95_1 rfl) rfl rfl ?_
      refine ops_cons ?_
      refine op_pure rfl (rn_loadC (v := .int .i64 (x.N)) Tryz.isAgg3 rfl (H5.blk 0 rfl) rfl) rfl rfl ?_
      refine ops_cons ?_
      refine op_pure rfl (rn_move rfl) rfl rfl ?_
      refine ops_cons ?_
      refine op_pure rfl (rn_sub rfl rfl (by omega)) rfl rfl ?_
      refine ops_cons ?_
      refine op_call rfl Tryz.call119 (vs := #[.int .i64 (x.N), .int .i64 (0), .int .i64 ((((n : Nat) : Int) - 1))]) rfl rfl rfl (in_i x.N 0 (((n : Nat) : Int) - 1) _) ?_
      rintro e14 W13 ⟨rfl, hu12⟩
      refine ⟨_, rfl, ?_⟩
      have H15 : St w No [hB g_0_0 95 #[.int .i64 (x.Kind), .int .i64 (x.N)]] W13 := H5.no hu12
      clear H5
      refine ops_cons ?_
      refine op_pure rfl (rn_assign rfl) rfl rfl ?_
      refine ops_nil ?_
      refine then_n ?_
      refine wp_ret ?_
      refine inB_r ?_
      refine then_r ?_
      refine post_tmp (.inl rfl) Tryz.results183 rfl ?_
      refine ⟨congrArg (fun z => Ending.returned (Value.bool z)) ?_, H15.1⟩
      unfold isV
      first | (split <;> (try split) <;> simp <;> omega) | (split <;> (try split) <;> first | omega | rfl | (congr 1; apply propext; omega) | (apply decide_eq_decide.2; omega) | (simp; omega))
    · refine wp_seq ?_
      refine reg_seq [0, 1] rfl ?_
      refine ops_cons ?_
      refine op_pure rfl (rn_eql rfl rfl) rfl rfl ?_
      refine ops_cons ?_
      refine op_pure rfl (rn_assign rfl) rfl rfl ?_
      refine ops_nil ?_
      refine then_n ?_
      refine cond_dec rfl (fun hc16 => ?_) (fun hc16 => ?_)
      · refine wp_seq ?_
        refine reg_seq [0, 1, 2, 3] rfl ?_
        refine ops_cons ?_
        refine op_pure rfl (rn_field fa_95_1 rfl) rfl rfl ?_
        refine ops_cons ?_
        refine op_pure rfl (rn_loadC (v := .int .i64 (x.N)) Tryz.isAgg3 rfl (H5.blk 0 rfl) rfl) rfl rfl ?_
        refine ops_cons ?_
        refine op_pure rfl (rn_eql rfl rfl) rfl rfl ?_
        refine ops_cons ?_
        refine op_pure rfl (rn_assign rfl) rfl rfl ?_
        refine ops_nil ?_
        refine then_n ?_
        refine wp_ret ?_
        refine inB_r ?_
        refine then_r ?_
        refine post_tmp (.inl rfl) Tryz.results183 rfl ?_
        refine ⟨congrArg (fun z => Ending.returned (Value.bool z)) ?_, H5.1⟩
        unfold isV
        first | (split <;> (try split) <;> simp <;> omega) | (split <;> (try split) <;> first | omega | rfl | (congr 1; apply propext; omega) | (apply decide_eq_decide.2; omega) | (simp; omega))
      · refine wp_skip ?_
        refine inB_n ?_
        refine then_n ?_
        refine wp_seq ?_
        refine reg_seq [0] rfl ?_
        refine ops_cons ?_
        refine op_pure rfl (rn_assign rfl) rfl rfl ?_
        refine ops_nil ?_
        refine then_n ?_
        refine wp_ret ?_
        refine post_tmp (.inl rfl) Tryz.results183 rfl ?_
        refine ⟨congrArg (fun z => Ending.returned (Value.bool z)) ?_, H5.1⟩
        unfold isV
        first | (split <;> (try split) <;> simp <;> omega) | (split <;> (try split) <;> first | omega | rfl | (congr 1; apply propext; omega) | (apply decide_eq_decide.2; omega) | (simp; omega))
set_option maxHeartbeats 4000000 in
set_option maxRecDepth 100000 in
theorem areValues_s (l : List GValue) (A : Option Addr) (c n : Nat) (hn : n ≤ 4194304) (hl : l.length ≤ 4194304) (w : World) (h : C ki_Value w A l) : Calls Tryz.prog 116 #[.slice A l.length c, .int .i64 n] w (RetBool (l.all (isV n)) w) := by
  refine enter 19 [(0, .slice A l.length c), (1, .int .i64 (((n : Nat) : Int)))] Tryz.func116 rfl (by kernel_rfl) ?_
  intro xj
  have H1 : St w No [] w := St.enter
  refine wp_seq ?_
  refine reg_seq [0] rfl ?_
  refine ops_cons ?_
  refine op_pure rfl (rn_assign rfl) rfl rfl ?_
  refine ops_nil ?_
  refine then_n ?_
  refine wp_seq ?_
  refine wp_seq ?_
  refine reg_seq [0] rfl ?_
  refine ops_cons ?_
  refine op_pure rfl (rn_assign rfl) rfl rfl ?_
  refine ops_nil ?_
  refine then_n ?_
  refine wp_block ?_
  refine wp_loop_ghost (fun r a' W' => ∃ (i1 : Nat) (x' : Nat → Value), a' = actOf 19 x' [(0, .slice A l.length c), (1, .int .i64 (((n : Nat) : Int))), (5, .int .i64 (((i1 : Nat) : Int)))] ∧ (i1 + r = l.length) ∧ (l.all (isV n) = (l.drop i1).all (isV n)) ∧ St w No [] W') l.length ?_ ?_
  · exact (actOf_drop2 [(0, .slice A l.length c), (1, .int .i64 (((n : Nat) : Int))), (5, .int .i64 (((0 : Nat) : Int)))] rfl).elim fun x' hx => ⟨0, x', hx, (by omega), (by rw [List.drop_zero]), H1⟩
  · rintro r2 _ W3 ⟨i1, x4, rfl, hi1, hf1, H5⟩
    clear H1
    refine wp_seq ?_
    refine wp_seq ?_
    refine reg_seq [0, 1, 2, 3] rfl ?_
    refine ops_cons ?_
    refine op_pure rfl (rn_move rfl) rfl rfl ?_
    refine ops_cons ?_
    refine op_pure rfl (rn_move rfl) rfl rfl ?_
    refine ops_cons ?_
    refine op_pure rfl (rn_len Tryz.runUnderlying85 rfl) rfl rfl ?_
    refine ops_cons ?_
    refine op_pure rfl (rn_lss rfl rfl) rfl rfl ?_
    refine ops_nil ?_
    refine then_n ?_
    refine cond_dec rfl (fun hc6 => ?_) (fun hc6 => ?_)
    · have hlt1 : i1 < l.length := by omega
      obtain ⟨ade7, cse7, hAe7, hKe7, hce7⟩ := C_elem h i1 hlt1
      have hle7 := ki_Value_len hKe7
      have hoe7 := ki_Value_one hKe7
      refine wp_skip ?_
      refine then_n ?_
      refine wp_seq ?_
      refine wp_block ?_
      refine wp_seq ?_
      refine reg_seq [0, 1, 2, 3, 4, 5, 6] rfl ?_
      refine ops_cons ?_
      refine op_pure rfl (rn_move rfl) rfl rfl ?_
      refine ops_cons ?_
      refine op_pure rfl (rn_move rfl) rfl rfl ?_
      refine ops_cons ?_
      refine op_pure rfl (rn_indexA (k := i1) Tryz.runUnderlying85 Tryz.sizeOf95 rfl rfl hAe7 hlt1) rfl rfl ?_
      refine ops_cons ?_
      refine op_pure rfl (rn_loadN Tryz.isAgg95 Tryz.sizeOf95 rfl (Cat.upd hce7 H5.1) hle7) rfl rfl ?_
      refine ops_cons ?_
      refine op_pure rfl (rn_move rfl) rfl rfl ?_
      refine ops_cons ?_
      refine op_call rfl Tryz.call180 (vs := #[.agg (List.toArray cse7), .int .i64 (((n : Nat) : Int))]) rfl rfl rfl (isValue_s (l[i1]) _ n hn _ (K_upd H5.1 hKe7)) ?_
      rintro e10 W9 ⟨rfl, hu8⟩
      refine ⟨_, rfl, ?_⟩
      have H11 : St w No [] W9 := H5.no hu8
      clear H5
      refine ops_cons ?_
      refine op_pure rfl (rn_not rfl) rfl rfl ?_
      refine ops_nil ?_
      refine then_n ?_
      refine cond_b (b := !(isV n (l[i1]))) rfl (fun hc12 => ?_) (fun hc12 => ?_)
      · refine wp_seq ?_
        refine reg_seq [0] rfl ?_
        refine ops_cons ?_
        refine op_pure rfl (rn_assign rfl) rfl rfl ?_
        refine ops_nil ?_
        refine then_n ?_
        refine wp_ret ?_
        refine inB_r ?_
        refine then_r ?_
        refine then_r ?_
        refine inB_r ?_
        refine then_r ?_
        refine post_tmp (.inl rfl) Tryz.results116 rfl ?_
        exact ⟨by rw [hf1, all_yes (isV n) l _ hlt1 (by simpa using hc12)], H11.1⟩
      · refine wp_skip ?_
        refine inB_n ?_
        refine then_n ?_
        refine reg_seq [0, 1, 2] rfl ?_
        refine ops_cons ?_
        refine op_pure rfl (rn_move rfl) rfl rfl ?_
        refine ops_cons ?_
        refine op_pure rfl (rn_inc (k := i1) rfl rfl (by omega)) rfl rfl ?_
        refine ops_cons ?_
        refine op_pure rfl (rn_assign rfl) rfl rfl ?_
        refine ops_nil ?_
        refine then_n ?_
        exact (actOf_drop2 [(0, .slice A l.length c), (1, .int .i64 (((n : Nat) : Int))), (5, .int .i64 (((i1 + 1 : Nat) : Int)))] rfl).elim fun x' hx => ⟨r2 - 1, (by omega), i1 + 1, x', hx, (by omega), (hf1.trans (all_no (isV n) l i1 hlt1 (by simpa using hc12))), H11⟩
    · have hge1 : l.length ≤ i1 := by omega
      refine wp_exit ?_
      refine then_x ?_
      refine then_x ?_
      refine inB_x ?_
      refine then_n ?_
      refine wp_seq ?_
      refine reg_seq [0] rfl ?_
      refine ops_cons ?_
      refine op_pure rfl (rn_assign rfl) rfl rfl ?_
      refine ops_nil ?_
      refine then_n ?_
      refine wp_ret ?_
      refine post_tmp (.inl rfl) Tryz.results116 rfl ?_
      exact ⟨by rw [hf1, all_end (isV n) l _ hge1], H5.1⟩
set_option maxHeartbeats 4000000 in
set_option maxRecDepth 100000 in
theorem areV_clo (x : GValue) (cs : List Value) (n g : Nat) (hn : n ≤ 4194304) (w : World) (h : ki_Value.K w x cs) (hc : w.cell? ⟨g, 0, none⟩ = some (.int .i64 n)) : Calls Tryz.prog 182 #[.agg cs.toArray, .pointer (some ⟨g, 0, none⟩)] w (RetBool (!isV n x) w) := by
  have hl_x : cs.length = 2 := ki_Value_len h
  have ho_x : ∀ u ∈ (List.toArray cs).toList, u.oneCell' = true := ki_Value_one h
  refine enter 8 [(0, .agg (List.toArray cs)), (1, .pointer (some ⟨g, 0, none⟩))] Tryz.func182 rfl (by kernel_rfl) ?_
  intro xj
  have H1 : St w No [] w := St.enter
  refine wp_seq ?_
  refine reg_seq [0, 1] rfl ?_
  refine ops_cons ?_
  refine op_box rfl rfl rfl rfl H1 ?_
  intro g_0_0 W2 hu3 Ha4
  clear H1
  have H5 : St w No [hB g_0_0 95 (List.toArray cs)] W2 := Ha4
  clear Ha4
  clear hu3
  refine ops_cons ?_
  refine op_pure rfl (rn_assign rfl) rfl rfl ?_
  refine ops_nil ?_
  refine then_n ?_
  refine wp_seq ?_
  refine reg_seq [0, 1, 2, 3, 4] rfl ?_
  refine ops_cons ?_
  refine op_pure rfl (rn_loadB Tryz.isAgg95 Tryz.sizeOf95 rfl (H5.blk 0 rfl) hl_x) rfl rfl ?_
  refine ops_cons ?_
  refine op_pure rfl (rn_load (v := .int .i64 (((n : Nat) : Int))) Tryz.isAgg3 rfl (H5.1.read hc)) rfl rfl ?_
  refine ops_cons ?_
  refine op_call rfl Tryz.call183 (vs := #[.agg (List.toArray cs), .int .i64 (((n : Nat) : Int))]) rfl rfl rfl (isValue_i x _ n hn _ (K_upd H5.1 h)) ?_
  rintro e8 W7 ⟨rfl, hu6⟩
  refine ⟨_, rfl, ?_⟩
  have H9 : St w No [hB g_0_0 95 (List.toArray cs)] W7 := H5.no hu6
  clear H5
  refine ops_cons ?_
  refine op_pure rfl (rn_not rfl) rfl rfl ?_
  refine ops_cons ?_
  refine op_pure rfl (rn_assign rfl) rfl rfl ?_
  refine ops_nil ?_
  refine then_n ?_
  refine wp_ret ?_
  refine post_tmp (.inl rfl) Tryz.results182 rfl ?_
  exact ⟨rfl, H9.1⟩
set_option maxHeartbeats 4000000 in
set_option maxRecDepth 100000 in
theorem areValues_i (l : List GValue) (A : Option Addr) (c n : Nat) (hn : n ≤ 4194304) (w : World) (h : C ki_Value w A l) : Calls Tryz.prog 120 #[.slice A l.length c, .int .i64 n] w (RetBool (l.all (isV n)) w) := by
  refine enter 9 [(0, .slice A l.length c), (1, .int .i64 (((n : Nat) : Int)))] Tryz.func120 rfl (by kernel_rfl) ?_
  intro xj
  have H1 : St w No [] w := St.enter
  refine wp_seq ?_
  refine reg_seq [0, 1] rfl ?_
  refine ops_cons ?_
  refine op_box rfl rfl rfl rfl H1 ?_
  intro g_0_0 W2 hu3 Ha4
  clear H1
  have H5 : St w No [hB g_0_0 3 #[.int .i64 (((n : Nat) : Int))]] W2 := Ha4
  clear Ha4
  clear hu3
  refine ops_cons ?_
  refine op_pure rfl (rn_assign rfl) rfl rfl ?_
  refine ops_nil ?_
  refine then_n ?_
  refine wp_seq ?_
  refine reg_seq [0, 1, 2, 3, 4] rfl ?_
  refine ops_cons ?_
  refine op_pure rfl (rn_move rfl) rfl rfl ?_
  refine ops_cons ?_
  refine op_pure rfl (rn_makeFunc (us := #[]) (vs := #[.pointer (some ⟨g_0_0, 0, none⟩)]) rfl rfl) rfl rfl ?_
  refine ops_cons ?_
  refine op_call rfl Tryz.call181 (vs := #[.slice A l.length c, .func (.func 182) #[] #[.pointer (some ⟨g_0_0, 0, none⟩)]]) rfl rfl rfl (areV_has (.pointer (some ⟨g_0_0, 0, none⟩)) (fun x => !isV n x) l _ _ _ (C_upd H5.1 h) (fun x cs w' hu hK => areV_clo x cs n _ hn w' hK (hu.read ((H5.blk 0 rfl).at 0 rfl)))) ?_
  rintro e8 W7 ⟨rfl, hu6⟩
  refine ⟨_, rfl, ?_⟩
  have H9 : St w No [hB g_0_0 3 #[.int .i64 (((n : Nat) : Int))]] W7 := H5.no hu6
  clear H5
  refine ops_cons ?_
  refine op_pure rfl (rn_not rfl) rfl rfl ?_
  refine ops_cons ?_
  refine op_pure rfl (rn_assign rfl) rfl rfl ?_
  refine ops_nil ?_
  refine then_n ?_
  refine wp_ret ?_
  refine post_tmp (.inl rfl) Tryz.results120 rfl ?_
  exact ⟨by rw [any_all (isV n) l], H9.1⟩
end Go.Proofs.YtfnedoiplblldaaGreatFam
