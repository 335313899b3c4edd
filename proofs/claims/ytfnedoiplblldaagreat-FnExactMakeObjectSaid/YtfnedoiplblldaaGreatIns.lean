/- Tests of a range; searches. No conditions. -/
import Derived.Test.YtfnedoiplblldaaGreatProg
import Derived.Test.YtfnedoiplblldaaGreatTy
import Derived.Test.YtfnedoiplblldaaGreatOpn
import Derived.Test.YtfnedoiplblldaaGreatSym3
import Derived.Test.YtfnedoiplblldaaGreatFamScript
namespace Go.Proofs.YtfnedoiplblldaaGreatFam
open Go.ChangeShapes Go.WideShapes Go.RowKit Go.Proofs.YtfnedoiplblldaaGreatSep Go.Proofs.YtfnedoiplblldaaGreatT Go.Proofs.YtfnedoiplblldaaGreatK
set_option linter.unusedVariables false
set_option linter.unusedSimpArgs false
theorem find_no {α : Type} (p : α → Bool) (l : List α) (i : Nat) (h : i < l.length) (hp : p l[i] = false) : (l.drop i).find? p = (l.drop (i + 1)).find? p := by
  rw [List.drop_eq_getElem_cons h, List.find?_cons, hp]
theorem find_yes {α : Type} (p : α → Bool) (l : List α) (i : Nat) (h : i < l.length) (hp : p l[i] = true) : (l.drop i).find? p = some l[i] := by
  rw [List.drop_eq_getElem_cons h, List.find?_cons, hp]
theorem find_end {α : Type} (p : α → Bool) (l : List α) (i : Nat) (h : l.length ≤ i) : (l.drop i).find? p = none := by
  rw [List.drop_eq_nil_of_le h]; rfl
set_option maxHeartbeats 4000000 in
set_option maxRecDepth 100000 in
theorem l1In_s (x lo hi : Int) (w : World) : Calls Tryz.prog 115 #[.int .i64 x, .int .i64 lo, .int .i64 hi] w (RetBool (decide (lo ≤ x ∧ x ≤ hi)) w) := by
  by_cases h1 : lo ≤ x
  · by_cases h2 : x ≤ hi
    · refine enter 15 [(0, .int .i64 (x)), (1, .int .i64 (lo)), (2, .int .i64 (hi))] Tryz.func115 rfl (by kernel_rfl) ?_
      intro xj
      have H1 : St w No [] w := St.enter
      refine wp_seq ?_
      refine reg_seq [0] rfl ?_
      refine ops_cons ?_
      refine op_pure rfl (rn_assign rfl) rfl rfl ?_
      refine ops_nil ?_
      refine then_n ?_
      refine wp_seq ?_
      refine reg_seq [0, 1, 2, 3, 4, 5, 6, 7, 8] rfl ?_
      refine ops_cons ?_
      refine op_pure rfl (rn_move rfl) rfl rfl ?_
      refine ops_cons ?_
      refine op_pure rfl (rn_move rfl) rfl rfl ?_
      refine ops_cons ?_
      refine op_pure rfl (rn_decT h1 (rn_geq rfl rfl)) rfl rfl ?_
      refine ops_cons ?_
      refine op_pure rfl (rn_move rfl) rfl rfl ?_
      refine ops_cons ?_
      refine op_G rfl rfl rfl rfl (fun _ ho2 => ?_)
      refine op_pure ho2 (rn_move rfl) rfl rfl ?_
      refine ops_cons ?_
      refine op_G rfl rfl rfl rfl (fun _ ho3 => ?_)
      refine op_pure ho3 (rn_move rfl) rfl rfl ?_
      refine ops_cons ?_
      refine op_G rfl rfl rfl rfl (fun _ ho4 => ?_)
      refine op_pure ho4 (rn_decT h2 (rn_leq rfl rfl)) rfl rfl ?_
      refine ops_cons ?_
      refine op_pure rfl (rn_pick (v := .bool (true)) (b := true) rfl rfl rfl rfl) rfl rfl ?_
      refine ops_cons ?_
      refine op_pure rfl (rn_assign rfl) rfl rfl ?_
      refine ops_nil ?_
      refine then_n ?_
      refine wp_ret ?_
      refine post_tmp (.inl rfl) Tryz.results115 rfl ?_
      exact ⟨by rw [decide_eq_true (⟨h1, h2⟩ : lo ≤ x ∧ x ≤ hi)], H1.1⟩
    · refine enter 15 [(0, .int .i64 (x)), (1, .int .i64 (lo)), (2, .int .i64 (hi))] Tryz.func115 rfl (by kernel_rfl) ?_
      intro xj
      have H1 : St w No [] w := St.enter
      refine wp_seq ?_
      refine reg_seq [0] rfl ?_
      refine ops_cons ?_
      refine op_pure rfl (rn_assign rfl) rfl rfl ?_
      refine ops_nil ?_
      refine then_n ?_
      refine wp_seq ?_
      refine reg_seq [0, 1, 2, 3, 4, 5, 6, 7, 8] rfl ?_
      refine ops_cons ?_
      refine op_pure rfl (rn_move rfl) rfl rfl ?_
      refine ops_cons ?_
      refine op_pure rfl (rn_move rfl) rfl rfl ?_
      refine ops_cons ?_
      refine op_pure rfl (rn_decT h1 (rn_geq rfl rfl)) rfl rfl ?_
      refine ops_cons ?_
      refine op_pure rfl (rn_move rfl) rfl rfl ?_
      refine ops_cons ?_
      refine op_G rfl rfl rfl rfl (fun _ ho2 => ?_)
      refine op_pure ho2 (rn_move rfl) rfl rfl ?_
      refine ops_cons ?_
      refine op_G rfl rfl rfl rfl (fun _ ho3 => ?_)
      refine op_pure ho3 (rn_move rfl) rfl rfl ?_
      refine ops_cons ?_
      refine op_G rfl rfl rfl rfl (fun _ ho4 => ?_)
      refine op_pure ho4 (rn_decF h2 (rn_leq rfl rfl)) rfl rfl ?_
      refine ops_cons ?_
      refine op_pure rfl (rn_pick (v := .bool (false)) (b := true) rfl rfl rfl rfl) rfl rfl ?_
      refine ops_cons ?_
      refine op_pure rfl (rn_assign rfl) rfl rfl ?_
      refine ops_nil ?_
      refine then_n ?_
      refine wp_ret ?_
      refine post_tmp (.inl rfl) Tryz.results115 rfl ?_
      exact ⟨by rw [decide_eq_false (fun q : lo ≤ x ∧ x ≤ hi => h2 q.2)], H1.1⟩
  · refine enter 15 [(0, .int .i64 (x)), (1, .int .i64 (lo)), (2, .int .i64 (hi))] Tryz.func115 rfl (by kernel_rfl) ?_
    intro xj
    have H1 : St w No [] w := St.enter
    refine wp_seq ?_
    refine reg_seq [0] rfl ?_
    refine ops_cons ?_
    refine op_pure rfl (rn_assign rfl) rfl rfl ?_
    refine ops_nil ?_
    refine then_n ?_
    refine wp_seq ?_
    refine reg_seq [0, 1, 2, 3, 4, 5, 6, 7, 8] rfl ?_
    refine ops_cons ?_
    refine op_pure rfl (rn_move rfl) rfl rfl ?_
    refine ops_cons ?_
    refine op_pure rfl (rn_move rfl) rfl rfl ?_
    refine ops_cons ?_
    refine op_pure rfl (rn_decF h1 (rn_geq rfl rfl)) rfl rfl ?_
    refine ops_cons ?_
    refine op_pure rfl (rn_move rfl) rfl rfl ?_
    refine ops_cons ?_
    refine op_skipG rfl rfl rfl rfl rfl rfl rfl ?_
    refine ops_cons ?_
    refine op_skipG rfl rfl rfl rfl rfl rfl rfl ?_
    refine ops_cons ?_
    refine op_skipG rfl rfl rfl rfl rfl rfl rfl ?_
    refine ops_cons ?_
    refine op_pure rfl (rn_pick (v := .bool (false)) (b := false) rfl rfl rfl rfl) rfl rfl ?_
    refine ops_cons ?_
    refine op_pure rfl (rn_assign rfl) rfl rfl ?_
    refine ops_nil ?_
    refine then_n ?_
    refine wp_ret ?_
    refine post_tmp (.inl rfl) Tryz.results115 rfl ?_
    exact ⟨by rw [decide_eq_false (fun q : lo ≤ x ∧ x ≤ hi => h1 q.1)], H1.1⟩
theorem l1In_s_t (x lo hi : Int) (w : World) (h : lo ≤ x ∧ x ≤ hi) : Calls Tryz.prog 115 #[.int .i64 x, .int .i64 lo, .int .i64 hi] w (RetBool true w) := by
  have := l1In_s x lo hi w
  rwa [decide_eq_true h] at this
theorem l1In_s_f (x lo hi : Int) (w : World) (h : ¬ (lo ≤ x ∧ x ≤ hi)) : Calls Tryz.prog 115 #[.int .i64 x, .int .i64 lo, .int .i64 hi] w (RetBool false w) := by
  have := l1In_s x lo hi w
  rwa [decide_eq_false h] at this
set_option maxHeartbeats 4000000 in
set_option maxRecDepth 100000 in
theorem in_i (x lo hi : Int) (w : World) : Calls Tryz.prog 119 #[.int .i64 x, .int .i64 lo, .int .i64 hi] w (RetBool (decide (lo ≤ x ∧ x ≤ hi)) w) := by
  by_cases h1 : lo ≤ x
  · by_cases h2 : x ≤ hi
    · refine enter 15 [(0, .int .i64 (x)), (1, .int .i64 (lo)), (2, .int .i64 (hi))] Tryz.func119 rfl (by kernel_rfl) ?_
      intro xj
      have H1 : St w No [] w := St.enter
      refine wp_seq ?_
      refine reg_seq [0] rfl ?_
      refine ops_cons ?_
      refine op_pure rfl (rn_assign rfl) rfl rfl ?_
      refine ops_nil ?_
      refine then_n ?_
      refine wp_seq ?_
      refine reg_seq [0, 1, 2, 3, 4, 5, 6, 7, 8] rfl ?_
      refine ops_cons ?_
      refine op_pure rfl (rn_move rfl) rfl rfl ?_
      refine ops_cons ?_
      refine op_pure rfl (rn_move rfl) rfl rfl ?_
      refine ops_cons ?_
      refine op_pure rfl (rn_decT h1 (rn_leq rfl rfl)) rfl rfl ?_
      refine ops_cons ?_
      refine op_pure rfl (rn_move rfl) rfl rfl ?_
      refine ops_cons ?_
      refine op_G rfl rfl rfl rfl (fun _ ho2 => ?_)
      refine op_pure ho2 (rn_move rfl) rfl rfl ?_
      refine ops_cons ?_
      refine op_G rfl rfl rfl rfl (fun _ ho3 => ?_)
      refine op_pure ho3 (rn_move rfl) rfl rfl ?_
      refine ops_cons ?_
      refine op_G rfl rfl rfl rfl (fun _ ho4 => ?_)
      refine op_pure ho4 (rn_decT h2 (rn_leq rfl rfl)) rfl rfl ?_
      refine ops_cons ?_
      refine op_pure rfl (rn_pick (v := .bool (true)) (b := true) rfl rfl rfl rfl) rfl rfl ?_
      refine ops_cons ?_
      refine op_pure rfl (rn_assign rfl) rfl rfl ?_
      refine ops_nil ?_
      refine then_n ?_
      refine wp_ret ?_
      refine post_tmp (.inl rfl) Tryz.results119 rfl ?_
      exact ⟨by rw [decide_eq_true (⟨h1, h2⟩ : lo ≤ x ∧ x ≤ hi)], H1.1⟩
    · refine enter 15 [(0, .int .i64 (x)), (1, .int .i64 (lo)), (2, .int .i64 (hi))] Tryz.func119 rfl (by kernel_rfl) ?_
      intro xj
      have H1 : St w No [] w := St.enter
      refine wp_seq ?_
      refine reg_seq [0] rfl ?_
      refine ops_cons ?_
      refine op_pure rfl (rn_assign rfl) rfl rfl ?_
      refine ops_nil ?_
      refine then_n ?_
      refine wp_seq ?_
      refine reg_seq [0, 1, 2, 3, 4, 5, 6, 7, 8] rfl ?_
      refine ops_cons ?_
      refine op_pure rfl (rn_move rfl) rfl rfl ?_
      refine ops_cons ?_
      refine op_pure rfl (rn_move rfl) rfl rfl ?_
      refine ops_cons ?_
      refine op_pure rfl (rn_decT h1 (rn_leq rfl rfl)) rfl rfl ?_
      refine ops_cons ?_
      refine op_pure rfl (rn_move rfl) rfl rfl ?_
      refine ops_cons ?_
      refine op_G rfl rfl rfl rfl (fun _ ho2 => ?_)
      refine op_pure ho2 (rn_move rfl) rfl rfl ?_
      refine ops_cons ?_
      refine op_G rfl rfl rfl rfl (fun _ ho3 => ?_)
      refine op_pure ho3 (rn_move rfl) rfl rfl ?_
      refine ops_cons ?_
      refine op_G rfl rfl rfl rfl (fun _ ho4 => ?_)
      refine op_pure ho4 (rn_decF h2 (rn_leq rfl rfl)) rfl rfl ?_
      refine ops_cons ?_
      refine op_pure rfl (rn_pick (v := .bool (false)) (b := true) rfl rfl rfl rfl) rfl rfl ?_
      refine ops_cons ?_
      refine op_pure rfl (rn_assign rfl) rfl rfl ?_
      refine ops_nil ?_
      refine then_n ?_
      refine wp_ret ?_
      refine post_tmp (.inl rfl) Tryz.results119 rfl ?_
      exact ⟨by rw [decide_eq_false (fun q : lo ≤ x ∧ x ≤ hi => h2 q.2)], H1.1⟩
  · refine enter 15 [(0, .int .i64 (x)), (1, .int .i64 (lo)), (2, .int .i64 (hi))] Tryz.func119 rfl (by kernel_rfl) ?_
    intro xj
    have H1 : St w No [] w := St.enter
    refine wp_seq ?_
    refine reg_seq [0] rfl ?_
    refine ops_cons ?_
    refine op_pure rfl (rn_assign rfl) rfl rfl ?_
    refine ops_nil ?_
    refine then_n ?_
    refine wp_seq ?_
    refine reg_seq [0, 1, 2, 3, 4, 5, 6, 7, 8] rfl ?_
    refine ops_cons ?_
    refine op_pure rfl (rn_move rfl) rfl rfl ?_
    refine ops_cons ?_
    refine op_pure rfl (rn_move rfl) rfl rfl ?_
    refine ops_cons ?_
    refine op_pure rfl (rn_decF h1 (rn_leq rfl rfl)) rfl rfl ?_
    refine ops_cons ?_
    refine op_pure rfl (rn_move rfl) rfl rfl ?_
    refine ops_cons ?_
    refine op_skipG rfl rfl rfl rfl rfl rfl rfl ?_
    refine ops_cons ?_
    refine op_skipG rfl rfl rfl rfl rfl rfl rfl ?_
    refine ops_cons ?_
    refine op_skipG rfl rfl rfl rfl rfl rfl rfl ?_
    refine ops_cons ?_
    refine op_pure rfl (rn_pick (v := .bool (false)) (b := false) rfl rfl rfl rfl) rfl rfl ?_
    refine ops_cons ?_
    refine op_pure rfl (rn_assign rfl) rfl rfl ?_
    refine ops_nil ?_
    refine then_n ?_
    refine wp_ret ?_
    refine post_tmp (.inl rfl) Tryz.results119 rfl ?_
    exact ⟨by rw [decide_eq_false (fun q : lo ≤ x ∧ x ≤ hi => h1 q.1)], H1.1⟩
theorem in_i_t (x lo hi : Int) (w : World) (h : lo ≤ x ∧ x ≤ hi) : Calls Tryz.prog 119 #[.int .i64 x, .int .i64 lo, .int .i64 hi] w (RetBool true w) := by
  have := in_i x lo hi w
  rwa [decide_eq_true h] at this
theorem in_i_f (x lo hi : Int) (w : World) (h : ¬ (lo ≤ x ∧ x ≤ hi)) : Calls Tryz.prog 119 #[.int .i64 x, .int .i64 lo, .int .i64 hi] w (RetBool false w) := by
  have := in_i x lo hi w
  rwa [decide_eq_false h] at this
end Go.Proofs.YtfnedoiplblldaaGreatFam
