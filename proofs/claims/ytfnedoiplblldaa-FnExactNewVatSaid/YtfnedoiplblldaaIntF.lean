/- Rows of numbers: copied, compared, marked. No conditions. -/
import Derived.Test.YtfnedoiplblldaaProg
import Derived.Test.YtfnedoiplblldaaTy
import Derived.Test.YtfnedoiplblldaaOpn
import Derived.Test.YtfnedoiplblldaaSym3
import Derived.Test.YtfnedoiplblldaaFamExport
import Derived.Test.YtfnedoiplblldaaFoc
import Derived.Test.YtfnedoiplblldaaLst2
namespace Go.Proofs.YtfnedoiplblldaaFam
open Go.ChangeShapes Go.WideShapes Go.RowKit Go.Proofs.YtfnedoiplblldaaSep Go.Proofs.YtfnedoiplblldaaT Go.Proofs.YtfnedoiplblldaaK
set_option linter.unusedVariables false
set_option linter.unusedSimpArgs false
def szn_Int (_ : Int) : Nat := 0
def cnt_Int (_ : Int) : Int := 1
def mk_Int (k : Int) (_ : Int) : Int := k
theorem cnt_Int_nn (x : Int) : 0 ≤ cnt_Int x := by unfold cnt_Int; omega
theorem cnt_Int_le (x : Int) : cnt_Int x ≤ 20 + 20 * (szn_Int x : Int) := by unfold cnt_Int szn_Int; omega
set_option maxHeartbeats 4000000 in
set_option maxRecDepth 100000 in
theorem toS_Int (l : List Int) (A : Option Addr) (c : Nat) (w : World) (h : C Kn.int w A l) (hs : l.length ≤ 1048576) : Calls Try.prog 8 #[.slice A l.length c] w (RetRow Kn.int 3 l w) := by
  refine enter 22 [(0, .slice A l.length c)] Try.func8 rfl (by kernel_rfl) ?_
  intro xj
  have H1 : St w No [] w := St.enter
  refine wp_seq ?_
  refine reg_seq [0] rfl ?_
  refine ops_cons ?_
  refine op_pure rfl (rn_assign rfl) rfl rfl ?_
  refine ops_nil ?_
  refine then_n ?_
  refine wp_seq ?_
  refine reg_seq [0, 1, 2, 3] rfl ?_
  refine ops_cons ?_
  refine op_pure rfl (rn_move rfl) rfl rfl ?_
  refine ops_cons ?_
  refine op_pure rfl (rn_len Try.runUnderlying22 rfl) rfl rfl ?_
  refine ops_cons ?_
  refine op_make (dk := Kn.int) (zx := 0) rfl Try.underlying22 int_info rfl (by decide) (fun _ => rfl) (by decide) rfl rfl (by omega) rfl rfl H1 ?_
  intro g_1_2 W2 hu3 Ha4
  clear H1
  have H5 : St w No [hR Kn.int 3 (.slice (some ⟨g_1_2, 0, none⟩) l.length l.length) (List.replicate l.length 0)] W2 := Ha4
  clear Ha4
  clear hu3
  refine ops_cons ?_
  refine op_pure rfl (rn_assign rfl) rfl rfl ?_
  refine ops_nil ?_
  refine then_n ?_
  refine wp_seq ?_
  refine wp_seq ?_
  rw [show (List.replicate l.length 0) = (upTo l (List.replicate l.length 0) 0) from upTo_zero.symm] at H5
  have H6 : St w No [hR Kn.int 3 (.slice (some ⟨g_1_2, 0, none⟩) l.length l.length) (upTo l (List.replicate l.length 0) 0)] W2 := H5
  clear H5
  refine reg_seq [0] rfl ?_
  refine ops_cons ?_
  refine op_pure rfl (rn_assign rfl) rfl rfl ?_
  refine ops_nil ?_
  refine then_n ?_
  refine wp_block ?_
  refine wp_loop_ghost (fun r a' W' => ∃ (i1 : Nat) (x' : Nat → Value), a' = actOf 22 x' [(0, .slice A l.length c), (3, .slice (some ⟨g_1_2, 0, none⟩) l.length l.length), (4, .int .i64 (((i1 : Nat) : Int)))] ∧ (i1 + r = l.length) ∧ St w No [hR Kn.int 3 (.slice (some ⟨g_1_2, 0, none⟩) l.length l.length) (upTo l (List.replicate l.length 0) i1)] W') l.length ?_ ?_
  · exact (actOf_drop2 [(0, .slice A l.length c), (3, .slice (some ⟨g_1_2, 0, none⟩) l.length l.length), (4, .int .i64 (((0 : Nat) : Int)))] rfl).elim fun x' hx => ⟨0, x', hx, (by omega), H6⟩
  · rintro r7 _ W8 ⟨i1, x9, rfl, hi1, H10⟩
    clear H6
    refine wp_seq ?_
    refine wp_seq ?_
    refine reg_seq [0, 1, 2, 3] rfl ?_
    refine ops_cons ?_
    refine op_pure rfl (rn_move rfl) rfl rfl ?_
    refine ops_cons ?_
    refine op_pure rfl (rn_move rfl) rfl rfl ?_
    refine ops_cons ?_
    refine op_pure rfl (rn_len Try.runUnderlying22 rfl) rfl rfl ?_
    refine ops_cons ?_
    refine op_pure rfl (rn_lss rfl rfl) rfl rfl ?_
    refine ops_nil ?_
    refine then_n ?_
    refine cond_dec rfl (fun hc11 => ?_) (fun hc11 => ?_)
    · have hlt1 : i1 < l.length := by omega
      obtain ⟨ade12, cse12, hAe12, hKe12, hce12⟩ := C_elem h i1 hlt1
      obtain rfl : cse12 = [.int .i64 l[i1]] := hKe12
      have hla1 : i1 < (upTo l (List.replicate l.length 0) i1).length := by rw [upTo_len (by simp) (by simp; omega)]; simpa using hlt1
      obtain ⟨ce13, hn14, H15⟩ := H10.openG (q := i1) hla1
      clear H10
      have H16 : St w No [hE Kn.int 3 g_1_2 l.length i1 ce13 (upTo l (List.replicate l.length 0) i1), hM Kn.int ((upTo l (List.replicate l.length 0) i1)[i1]) ce13] W8 := H15
      clear H15
      obtain rfl : ce13 = [.int .i64 ((upTo l (List.replicate l.length 0) i1)[i1])] := H16.kn 1 rfl
      have H17 : St w No [hE Kn.int 3 g_1_2 l.length i1 [.int .i64 ((upTo l (List.replicate l.length 0) i1)[i1])] (upTo l (List.replicate l.length 0) i1)] W8 := H16.pick [0] (by decide) rfl
      clear H16
      refine wp_skip ?_
      refine then_n ?_
      refine wp_seq ?_
      refine wp_block ?_
      refine reg_seq [0, 1, 2, 3, 4, 5, 6, 7] rfl ?_
      refine ops_cons ?_
      refine op_pure rfl (rn_move rfl) rfl rfl ?_
      refine ops_cons ?_
      refine op_pure rfl (rn_move rfl) rfl rfl ?_
      refine ops_cons ?_
      refine op_pure rfl (rn_move rfl) rfl rfl ?_
      refine ops_cons ?_
      refine op_pure rfl (rn_move rfl) rfl rfl ?_
      refine ops_cons ?_
      refine op_pure rfl (rn_indexA (k := i1) Try.runUnderlying22 Try.sizeOf3 rfl rfl hAe12 hlt1) rfl rfl ?_
      refine ops_cons ?_
      refine op_pure rfl (rn_load (v := .int .i64 (l[i1])) Try.isAgg3 rfl (Cat.cell0 (Cat.upd hce12 H17.1) rfl)) rfl rfl ?_
      refine ops_cons ?_
      refine op_pure rfl (rn_indexA (k := i1) Try.runUnderlying22 Try.sizeOf3 rfl rfl rfl (Nat.lt_of_lt_of_eq hla1 hn14.symm)) rfl rfl ?_
      refine ops_cons ?_
      refine op_storeE (dk := Kn.int) (k := 0) (ce' := [.int .i64 (l[i1])]) rfl Try.sizeOf3 rfl rfl rfl rfl (Nat.le_of_ble_eq_true rfl) (by simp [Value.cells, Value.oneCell']) rfl H17 ?_
      intro W18 hu19 Ha20
      clear H17
      have H21 : St w No [hE Kn.int 3 g_1_2 l.length i1 [.int .i64 (l[i1])] (upTo l (List.replicate l.length 0) i1)] W18 := Ha20
      clear Ha20
      clear hu19
      refine ops_nil ?_
      have H22 : St w No [hM Kn.int (l[i1]) [.int .i64 (l[i1])], hE Kn.int 3 g_1_2 l.length i1 [.int .i64 (l[i1])] (upTo l (List.replicate l.length 0) i1)] W18 := H21.add0 (q := hM Kn.int (l[i1]) [.int .i64 (l[i1])]) rfl
      clear H21
      have H23 : St w No [hE Kn.int 3 g_1_2 l.length i1 [.int .i64 (l[i1])] (upTo l (List.replicate l.length 0) i1), hM Kn.int (l[i1]) [.int .i64 (l[i1])]] W18 := H22.pick [1, 0] (by decide) rfl
      clear H22
      have H24 : St w No [hR Kn.int 3 (.slice (some ⟨g_1_2, 0, none⟩) l.length l.length) (upTo l (List.replicate l.length 0) (i1 + 1))] W18 := H23.closeG (upTo_set (by simp) (by simpa using hlt1)) (by rw [upTo_len (by simp) (by simp; omega)]; simp)
      clear H23
      refine inB_n ?_
      refine then_n ?_
      refine reg_seq [0, 1, 2] rfl ?_
      refine ops_cons ?_
      refine op_pure rfl (rn_move rfl) rfl rfl ?_
      refine ops_cons ?_
      refine op_pure rfl (rn_inc (k := i1) rfl rfl (by omega)) rfl rfl ?_
      refine ops_cons ?_
      refine op_pure rfl (rn_assign rfl) rfl rfl ?_
      refine ops_nil ?_
      refine then_n ?_
      exact (actOf_drop2 [(0, .slice A l.length c), (3, .slice (some ⟨g_1_2, 0, none⟩) l.length l.length), (4, .int .i64 (((i1 + 1 : Nat) : Int)))] rfl).elim fun x' hx => ⟨r7 - 1, (by omega), i1 + 1, x', hx, (by omega), H24⟩
    · have hge1 : l.length ≤ i1 := by omega
      rw [upTo_end (by simp) (by simp; omega)] at H10
      have H25 : St w No [hR Kn.int 3 (.slice (some ⟨g_1_2, 0, none⟩) l.length l.length) l] W8 := H10
      clear H10
      refine wp_exit ?_
      refine then_x ?_
      refine then_x ?_
      refine inB_x ?_
      refine then_n ?_
      refine wp_seq ?_
      refine reg_seq [0, 1] rfl ?_
      refine ops_cons ?_
      refine op_pure rfl (rn_move rfl) rfl rfl ?_
      refine ops_cons ?_
      refine op_pure rfl (rn_assign rfl) rfl rfl ?_
      refine ops_nil ?_
      refine then_n ?_
      refine wp_ret ?_
      refine post_tmp (.inl rfl) Try.results8 rfl ?_
      have hq := (H25.pick [0] (by decide) rfl : St w No [hR Kn.int 3 (.slice (some ⟨g_1_2, 0, none⟩) l.length l.length) l] W8).fin1
      exact ⟨_, rfl, hq.1, hq.2⟩
set_option maxHeartbeats 4000000 in
set_option maxRecDepth 100000 in
theorem eqS_Int (l : List Int) (A A' : Option Addr) (c c' : Nat) (w : World) (h : C Kn.int w A l) (h' : C Kn.int w A' l) : Calls Try.prog 11 #[.slice A l.length c, .slice A' l.length c'] w (RetBool true w) := by
  have hn := h.1
  refine enter 26 [(0, .slice A l.length c), (1, .slice A' l.length c')] Try.func11 rfl (by kernel_rfl) ?_
  intro xj
  have H1 : St w No [] w := St.enter
  refine wp_seq ?_
  refine reg_seq [0] rfl ?_
  refine ops_cons ?_
  refine op_pure rfl (rn_assign rfl) rfl rfl ?_
  refine ops_nil ?_
  refine then_n ?_
  refine wp_seq ?_
  refine wp_seq ?_
  refine reg_seq [0, 1, 2, 3, 4] rfl ?_
  refine ops_cons ?_
  refine op_pure rfl (rn_move rfl) rfl rfl ?_
  refine ops_cons ?_
  refine op_pure rfl (rn_len Try.runUnderlying22 rfl) rfl rfl ?_
  refine ops_cons ?_
  refine op_pure rfl (rn_move rfl) rfl rfl ?_
  refine ops_cons ?_
  refine op_pure rfl (rn_len Try.runUnderlying22 rfl) rfl rfl ?_
  refine ops_cons ?_
  refine op_pure rfl (rn_decF (not_not_intro rfl) (rn_neq rfl rfl)) rfl rfl ?_
  refine ops_nil ?_
  refine then_n ?_
  refine cond_f rfl ?_
  refine wp_skip ?_
  refine then_n ?_
  refine wp_seq ?_
  refine wp_seq ?_
  refine reg_seq [0] rfl ?_
  refine ops_cons ?_
  refine op_pure rfl (rn_assign rfl) rfl rfl ?_
  refine ops_nil ?_
  refine then_n ?_
  refine wp_block ?_
  refine wp_loop_ghost (fun r a' W' => ∃ (i1 : Nat) (x' : Nat → Value), a' = actOf 26 x' [(0, .slice A l.length c), (1, .slice A' l.length c'), (5, .int .i64 (((i1 : Nat) : Int)))] ∧ (i1 + r = l.length) ∧ St w No [] W') l.length ?_ ?_
  · exact (actOf_drop2 [(0, .slice A l.length c), (1, .slice A' l.length c'), (5, .int .i64 (((0 : Nat) : Int)))] rfl).elim fun x' hx => ⟨0, x', hx, (by omega), H1⟩
  · rintro r2 _ W3 ⟨i1, x4, rfl, hi1, H5⟩
    clear H1
    refine wp_seq ?_
    refine wp_seq ?_
    refine reg_seq [0, 1, 2, 3] rfl ?_
    refine ops_cons ?_
    refine op_pure rfl (rn_move rfl) rfl rfl ?_
    refine ops_cons ?_
    refine op_pure rfl (rn_move rfl) rfl rfl ?_
    refine ops_cons ?_
    refine op_pure rfl (rn_len Try.runUnderlying22 rfl) rfl rfl ?_
    refine ops_cons ?_
    refine op_pure rfl (rn_lss rfl rfl) rfl rfl ?_
    refine ops_nil ?_
    refine then_n ?_
    refine cond_dec rfl (fun hc6 => ?_) (fun hc6 => ?_)
    · have hlt1 : i1 < l.length := by omega
      obtain ⟨ade7, cse7, hAe7, hKe7, hce7⟩ := C_elem h i1 hlt1
      obtain rfl : cse7 = [.int .i64 l[i1]] := hKe7
      obtain ⟨ade8, cse8, hAe8, hKe8, hce8⟩ := C_elem h' i1 hlt1
      obtain rfl : cse8 = [.int .i64 l[i1]] := hKe8
      refine wp_skip ?_
      refine then_n ?_
      refine wp_seq ?_
      refine wp_block ?_
      refine wp_seq ?_
      refine reg_draw (fun W' => Cat W' (Addr.add ade7 (i1 * 1)) [.int .i64 l[i1]] ∧ Cat W' (Addr.add ade8 (i1 * 1)) [.int .i64 l[i1]]) 9 (by kernel_rfl) ?_
      have H9 : St w No [] W3.drew := H5.drew
      clear H5
      have hS10 : Cat W3.drew (Addr.add ade7 (i1 * 1)) [.int .i64 l[i1]] ∧ Cat W3.drew (Addr.add ade8 (i1 * 1)) [.int .i64 l[i1]] := ⟨(Cat.upd hce7 H9.1), (Cat.upd hce8 H9.1)⟩
      refine anyS_take (i := 0) rfl (by kernel_rfl) (by kernel_rfl) (by kernel_rfl) (by kernel_rfl) (by kernel_rfl) (fun _ _ _ h => h) rfl rfl hS10 (fun W' hs' => rn_move rfl) ?_
      refine anyS_take (i := 1) rfl (by kernel_rfl) (by kernel_rfl) (by kernel_rfl) (by kernel_rfl) (by kernel_rfl) (fun _ _ _ h => h) rfl rfl hS10 (fun W' hs' => rn_move rfl) ?_
      refine anyS_take (i := 2) rfl (by kernel_rfl) (by kernel_rfl) (by kernel_rfl) (by kernel_rfl) (by kernel_rfl) (fun _ _ _ h => h) rfl rfl hS10 (fun W' hs' => rn_indexA (k := i1) Try.runUnderlying22 Try.sizeOf3 rfl rfl hAe7 hlt1) ?_
      refine anyS_take (i := 3) rfl (by kernel_rfl) (by kernel_rfl) (by kernel_rfl) (by kernel_rfl) (by kernel_rfl) (fun _ _ _ h => h) rfl rfl hS10 (fun W' hs' => rn_load (v := .int .i64 (l[i1])) Try.isAgg3 rfl (Cat.cell0 hs'.1 rfl)) ?_
      refine anyS_take (i := 4) rfl (by kernel_rfl) (by kernel_rfl) (by kernel_rfl) (by kernel_rfl) (by kernel_rfl) (fun _ _ _ h => h) rfl rfl hS10 (fun W' hs' => rn_move rfl) ?_
      refine anyS_take (i := 5) rfl (by kernel_rfl) (by kernel_rfl) (by kernel_rfl) (by kernel_rfl) (by kernel_rfl) (fun _ _ _ h => h) rfl rfl hS10 (fun W' hs' => rn_move rfl) ?_
      refine anyS_take (i := 6) rfl (by kernel_rfl) (by kernel_rfl) (by kernel_rfl) (by kernel_rfl) (by kernel_rfl) (fun _ _ _ h => h) rfl rfl hS10 (fun W' hs' => rn_indexA (k := i1) Try.runUnderlying22 Try.sizeOf3 rfl rfl hAe8 hlt1) ?_
      refine anyS_take (i := 7) rfl (by kernel_rfl) (by kernel_rfl) (by kernel_rfl) (by kernel_rfl) (by kernel_rfl) (fun _ _ _ h => h) rfl rfl hS10 (fun W' hs' => rn_load (v := .int .i64 (l[i1])) Try.isAgg3 rfl (Cat.cell0 hs'.2 rfl)) ?_
      refine anyS_take (i := 8) rfl (by kernel_rfl) (by kernel_rfl) (by kernel_rfl) (by kernel_rfl) (by kernel_rfl) (fun _ _ _ h => h) rfl rfl hS10 (fun W' hs' => rn_decF (not_not_intro rfl) (rn_neq rfl rfl)) ?_
      refine anyS_done (by kernel_rfl) ?_ _
      refine then_n ?_
      refine cond_f rfl ?_
      refine wp_skip ?_
      refine inB_n ?_
      refine then_n ?_
      refine reg_seq [0, 1, 2] rfl ?_
      refine ops_cons ?_
      refine op_pure rfl (rn_move rfl) rfl rfl ?_
      refine ops_cons ?_
      refine op_pure rfl (rn_inc (k := i1) rfl rfl (by omega)) rfl rfl ?_
      refine ops_cons ?_
      refine op_pure rfl (rn_assign rfl) rfl rfl ?_
      refine ops_nil ?_
      refine then_n ?_
      exact (actOf_drop2 [(0, .slice A l.length c), (1, .slice A' l.length c'), (5, .int .i64 (((i1 + 1 : Nat) : Int)))] rfl).elim fun x' hx => ⟨r2 - 1, (by omega), i1 + 1, x', hx, (by omega), H9⟩
    · have hge1 : l.length ≤ i1 := by omega
      refine wp_exit ?_
      refine then_x ?_
      refine then_x ?_
      refine inB_x ?_
      refine then_n ?_
      refine wp_seq ?_
      refine reg_seq [0] rfl ?_
      refine ops_cons ?_
      refine op_pure rfl (rn_assign rfl) rfl rfl ?_
      refine ops_nil ?_
      refine then_n ?_
      refine wp_ret ?_
      refine post_tmp (.inl rfl) Try.results11 rfl ?_
      exact ⟨rfl, H5.1⟩
set_option maxHeartbeats 4000000 in
set_option maxRecDepth 100000 in
theorem markS_Int (l : List Int) (k : Int) (F : Nat → Prop) (v : Value) (w : World) (h : R Kn.int 3 w F v l) (hk : 0 ≤ k) (hb : k + cntS cnt_Int l ≤ 4611686018427387904) : Calls Try.prog 12 #[v, .int .i64 k] w (fun e' w' => e' = .returned (.int .i64 (k + cntS cnt_Int l)) ∧ R Kn.int 3 w' (fun b => F b ∨ w.heap.size ≤ b) v (mkS mk_Int cnt_Int k l) ∧ Upd F w w') := by
  obtain ⟨A, c, rfl⟩ := R_slice h
  have hn := R_len h
  refine enter 19 [(0, .slice A l.length c), (1, .int .i64 (k))] Try.func12 rfl (by kernel_rfl) ?_
  intro xj
  have H1 : St w F [hR Kn.int 3 (.slice A l.length c) l] w := St.enterF (Star.one h)
  have hl0 : mkS mk_Int cnt_Int k l = mkS mk_Int cnt_Int k l := rfl
  have z0 : upTo (mkS mk_Int cnt_Int k l) l 0 = l := upTo_zero
  have k0 : k = k + cntS cnt_Int (l.take 0) := by simp [cntS]
  refine wp_seq ?_
  refine reg_seq [0] rfl ?_
  refine ops_cons ?_
  refine op_pure rfl (rn_assign rfl) rfl rfl ?_
  refine ops_nil ?_
  refine then_n ?_
  refine wp_seq ?_
  refine wp_seq ?_
  refine reg_seq [0] rfl ?_
  refine ops_cons ?_
  refine op_pure rfl (rn_assign rfl) rfl rfl ?_
  refine ops_nil ?_
  have H2 : St w F [hR Kn.int 3 (.slice A l.length c) (upTo (mkS mk_Int cnt_Int k l) l 0)] w := by rw [z0]; exact H1
  clear H1
  refine act_gen [(0, .slice A l.length c), (1, .int .i64 (k)), (4, .int .i64 (0)), (5, .int .i64 (0))] rfl ?_
  intro xk
  rw [show (Value.int IntKind.i64 (k)) = .int .i64 (k + cntS cnt_Int (l.take 0)) from congrArg _ k0]
  refine then_n ?_
  refine wp_block ?_
  refine wp_loop_ghost (fun r a' W' => ∃ (i1 : Nat) (x' : Nat → Value), a' = actOf 19 x' [(0, .slice A l.length c), (1, .int .i64 ((k + cntS cnt_Int (l.take i1)))), (5, .int .i64 (((i1 : Nat) : Int)))] ∧ (i1 + r = l.length) ∧ St w F [hR Kn.int 3 (.slice A l.length c) (upTo (mkS mk_Int cnt_Int k l) l i1)] W') l.length ?_ ?_
  · exact (actOf_drop2 [(0, .slice A l.length c), (1, .int .i64 ((k + cntS cnt_Int (l.take 0)))), (5, .int .i64 (((0 : Nat) : Int)))] rfl).elim fun x' hx => ⟨0, x', hx, (by omega), H2⟩
  · rintro r3 _ W4 ⟨i1, x5, rfl, hi1, H6⟩
    clear H2
    refine wp_seq ?_
    refine wp_seq ?_
    refine reg_seq [0, 1, 2, 3] rfl ?_
    refine ops_cons ?_
    refine op_pure rfl (rn_move rfl) rfl rfl ?_
    refine ops_cons ?_
    refine op_pure rfl (rn_move rfl) rfl rfl ?_
    refine ops_cons ?_
    refine op_pure rfl (rn_len Try.runUnderlying22 rfl) rfl rfl ?_
    refine ops_cons ?_
    refine op_pure rfl (rn_lss rfl rfl) rfl rfl ?_
    refine ops_nil ?_
    refine then_n ?_
    refine cond_dec rfl (fun hc7 => ?_) (fun hc7 => ?_)
    · have hlt1 : i1 < l.length := by omega
      have hla1 : i1 < (upTo (mkS mk_Int cnt_Int k l) l i1).length := by rw [upTo_len (mkS_len _ _ _ _) (by omega)]; exact hlt1
      have hst1 := cntS_take cnt_Int l i1 hlt1
      have hle1 := cntS_le cnt_Int cnt_Int_nn l i1
      have hlf1 := cntS_le cnt_Int cnt_Int_nn l (i1 + 1)
      have hone1 : cnt_Int l[i1] = 1 := rfl
      obtain ⟨gf8, rfl⟩ := H6.openS (q := i1) hla1
      obtain ⟨ce9, hn10, H11⟩ := H6.openG (q := i1) hla1
      clear H6
      have H12 : St w F [hE Kn.int 3 gf8 c i1 ce9 (upTo (mkS mk_Int cnt_Int k l) l i1), hM Kn.int ((upTo (mkS mk_Int cnt_Int k l) l i1)[i1]) ce9] W4 := H11
      clear H11
      obtain rfl : ce9 = [.int .i64 ((upTo (mkS mk_Int cnt_Int k l) l i1)[i1])] := H12.kn 1 rfl
      have H13 : St w F [hE Kn.int 3 gf8 c i1 [.int .i64 ((upTo (mkS mk_Int cnt_Int k l) l i1)[i1])] (upTo (mkS mk_Int cnt_Int k l) l i1)] W4 := H12.pick [0] (by decide) rfl
      clear H12
      refine wp_skip ?_
      refine then_n ?_
      refine wp_seq ?_
      refine wp_block ?_
      refine wp_seq ?_
      refine reg_seq [0, 1, 2, 3, 4] rfl ?_
      refine ops_cons ?_
      refine op_pure rfl (rn_move rfl) rfl rfl ?_
      refine ops_cons ?_
      refine op_pure rfl (rn_move rfl) rfl rfl ?_
      refine ops_cons ?_
      refine op_pure rfl (rn_move rfl) rfl rfl ?_
      refine ops_cons ?_
      refine op_pure rfl (rn_indexA (k := i1) Try.runUnderlying22 Try.sizeOf3 rfl rfl rfl (Nat.lt_of_lt_of_eq hla1 hn10.symm)) rfl rfl ?_
      refine ops_cons ?_
      refine op_storeE (dk := Kn.int) (k := 0) (ce' := [.int .i64 ((k + cntS cnt_Int (l.take i1)))]) rfl Try.sizeOf3 rfl rfl rfl rfl (Nat.le_of_ble_eq_true rfl) (by simp [Value.cells, Value.oneCell']) rfl H13 ?_
      intro W14 hu15 Ha16
      clear H13
      have H17 : St w F [hE Kn.int 3 gf8 c i1 [.int .i64 ((k + cntS cnt_Int (l.take i1)))] (upTo (mkS mk_Int cnt_Int k l) l i1)] W14 := Ha16
      clear Ha16
      clear hu15
      refine ops_nil ?_
      have H18 : St w F [hM Kn.int (k + cntS cnt_Int (l.take i1)) [.int .i64 ((k + cntS cnt_Int (l.take i1)))], hE Kn.int 3 gf8 c i1 [.int .i64 ((k + cntS cnt_Int (l.take i1)))] (upTo (mkS mk_Int cnt_Int k l) l i1)] W14 := H17.add0 (q := hM Kn.int (k + cntS cnt_Int (l.take i1)) [.int .i64 ((k + cntS cnt_Int (l.take i1)))]) rfl
      clear H17
      have H19 : St w F [hE Kn.int 3 gf8 c i1 [.int .i64 ((k + cntS cnt_Int (l.take i1)))] (upTo (mkS mk_Int cnt_Int k l) l i1), hM Kn.int (k + cntS cnt_Int (l.take i1)) [.int .i64 ((k + cntS cnt_Int (l.take i1)))]] W14 := H18.pick [1, 0] (by decide) rfl
      clear H18
      have H20 : St w F [hR Kn.int 3 (.slice (some ⟨gf8, 0, none⟩) l.length c) (upTo (mkS mk_Int cnt_Int k l) l (i1 + 1))] W14 := H19.closeG (by have q := mkS_at (m := mk_Int) (c := cnt_Int) l k i1 hlt1; have q2 : (k + cntS cnt_Int (l.take i1)) = (mkS mk_Int cnt_Int k l)[i1]'(by rw [mkS_len]; exact hlt1) := q.symm; rw [q2]; exact upTo_set (mkS_len _ _ _ _) hlt1) (by rw [upTo_len (mkS_len _ _ _ _) (by omega)])
      clear H19
      refine then_n ?_
      refine reg_seq [0, 1, 2] rfl ?_
      refine ops_cons ?_
      refine op_pure rfl (rn_move rfl) rfl rfl ?_
      refine ops_cons ?_
      refine op_pure rfl (rn_int (q := (k + cntS cnt_Int (l.take (i1 + 1)))) (by rw [hst1, hone1]; omega) (rn_add rfl rfl (by rw [hst1, hone1] at hlf1; omega))) rfl rfl ?_
      refine ops_cons ?_
      refine op_pure rfl (rn_assign rfl) rfl rfl ?_
      refine ops_nil ?_
      refine inB_n ?_
      refine then_n ?_
      refine reg_seq [0, 1, 2] rfl ?_
      refine ops_cons ?_
      refine op_pure rfl (rn_move rfl) rfl rfl ?_
      refine ops_cons ?_
      refine op_pure rfl (rn_inc (k := i1) rfl rfl (by omega)) rfl rfl ?_
      refine ops_cons ?_
      refine op_pure rfl (rn_assign rfl) rfl rfl ?_
      refine ops_nil ?_
      refine then_n ?_
      exact (actOf_drop2 [(0, .slice (some ⟨gf8, 0, none⟩) l.length c), (1, .int .i64 ((k + cntS cnt_Int (l.take (i1 + 1))))), (5, .int .i64 (((i1 + 1 : Nat) : Int)))] rfl).elim fun x' hx => ⟨r3 - 1, (by omega), i1 + 1, x', hx, (by omega), H20⟩
    · have hge1 : l.length ≤ i1 := by omega
      rw [upTo_end (mkS_len _ _ _ _) (by omega)] at H6
      have H21 : St w F [hR Kn.int 3 (.slice A l.length c) (mkS mk_Int cnt_Int k l)] W4 := H6
      clear H6
      have htk : l.take i1 = l := List.take_of_length_le hge1
      refine wp_exit ?_
      refine then_x ?_
      refine then_x ?_
      refine inB_x ?_
      refine then_n ?_
      refine wp_seq ?_
      refine reg_seq [0, 1] rfl ?_
      refine ops_cons ?_
      refine op_pure rfl (rn_move rfl) rfl rfl ?_
      refine ops_cons ?_
      refine op_pure rfl (rn_assign rfl) rfl rfl ?_
      refine ops_nil ?_
      refine then_n ?_
      refine wp_ret ?_
      refine post_tmp (.inl rfl) Try.results12 rfl ?_
      rw [htk]
      obtain ⟨hu1, Fs1, b1, _, b3⟩ := H21
      exact ⟨rfl, (hR Kn.int 3 (.slice A l.length c) (mkS mk_Int cnt_Int k l)).mono (fun b hb => b1 0 b hb) (b3 0 _ rfl), hu1⟩
end Go.Proofs.YtfnedoiplblldaaFam
