/- NewVat: what the reference and the program compute. No conditions. -/
import Derived.Test.YtfnedoiplblldaaProg
import Derived.Test.YtfnedoiplblldaaTy
import Derived.Test.YtfnedoiplblldaaOpn
import Derived.Test.YtfnedoiplblldaaSym3
import Derived.Test.YtfnedoiplblldaaPuts
import Derived.Test.YtfnedoiplblldaaClones
namespace Go.Proofs.YtfnedoiplblldaaFam
open Go.ChangeShapes Go.WideShapes Go.RowKit Go.Proofs.YtfnedoiplblldaaSep Go.Proofs.YtfnedoiplblldaaT Go.Proofs.YtfnedoiplblldaaK
set_option linter.unusedVariables false
set_option linter.unusedSimpArgs false
def objE (s : Int) (sl : List GValue) : GEntity := ⟨1, s, sl, 0, ⟨0, 0⟩, [], [], 0, 0, 0, 0⟩
theorem C_nil {α : Type} {d : Kn α} {w : World} {A : Option Addr} : C d w A ([] : List α) := ⟨Nat.zero_le _, fun h => absurd h (Nat.lt_irrefl 0)⟩
def zL (p : Int) : GLink := ⟨p, true, [], 0, [], 0, []⟩
def prE (p q : Int) : GEntity := ⟨3, 0, [], 0, ⟨0, 0⟩, [], [], p, q, 1, 0⟩
def nvLs (ps : List Int) (i : Nat) : List GLink := (ps.take i).map (fun p => pxV 0 (zL p))
def nvEs (sc : Int) (ps : List Int) (i : Nat) : List GEntity := objE sc [] :: (ps.take i).map (fun p => prE p 1)
def nvV (id : Int) (ps : List Int) (sc : Int) : GVat := ⟨id, nvEs sc ps ps.length, [], nvLs ps ps.length, []⟩
theorem nvLs_len (ps : List Int) (i : Nat) (h : i ≤ ps.length) : (nvLs ps i).length = i := by unfold nvLs; rw [List.length_map, List.length_take, Nat.min_eq_left h]
theorem nvEs_len (sc : Int) (ps : List Int) (i : Nat) (h : i ≤ ps.length) : (nvEs sc ps i).length = i + 1 := by unfold nvEs; rw [List.length_cons, List.length_map, List.length_take, Nat.min_eq_left h]
theorem nvLs_succ (ps : List Int) (i : Nat) (h : i < ps.length) : nvLs ps i ++ [pxV 0 (zL ps[i])] = nvLs ps (i + 1) := by
  unfold nvLs
  rw [List.take_succ_eq_append_getElem h, List.map_append]
  rfl
theorem nvEs_succ (sc : Int) (ps : List Int) (i : Nat) (h : i < ps.length) : nvEs sc ps i ++ [prE ps[i] 1] = nvEs sc ps (i + 1) := by
  unfold nvEs
  rw [List.take_succ_eq_append_getElem h, List.map_append]
  rfl
theorem sumS_all {α : Type} (s : α → Nat) (k : Nat) : ∀ l : List α, (∀ x ∈ l, s x ≤ k) → sumS s l ≤ k * l.length
  | [], _ => by simp [sumS]
  | x :: l, h => by
    have h1 := sumS_all s k l (fun y hy => h y (List.mem_cons_of_mem _ hy))
    have h2 := h x List.mem_cons_self
    simp only [sumS, List.length_cons, Nat.mul_add]
    omega
theorem nvV_bd (id : Int) (ps : List Int) (sc : Int) (h : ps.length ≤ 1048576) : szn_Vat (nvV id ps sc) ≤ 4194304 := by
  have h1 : sumS szn_Entity (nvEs sc ps ps.length) ≤ 0 * (nvEs sc ps ps.length).length := by
    refine sumS_all _ _ _ fun x hx => ?_
    unfold nvEs at hx
    rcases List.mem_cons.1 hx with rfl | hx
    · exact Nat.le_refl 0
    · obtain ⟨p, _, rfl⟩ := List.mem_map.1 hx
      exact Nat.le_refl 0
  have h2 : sumS szn_Link (nvLs ps ps.length) ≤ 1 * (nvLs ps ps.length).length := by
    refine sumS_all _ _ _ fun x hx => ?_
    unfold nvLs at hx
    obtain ⟨p, _, rfl⟩ := List.mem_map.1 hx
    exact Nat.le_refl 1
  have h3 := nvEs_len sc ps ps.length (Nat.le_refl _)
  have h4 := nvLs_len ps ps.length (Nat.le_refl _)
  have h5 : szn_Vat (nvV id ps sc) = sznS szn_Entity (nvEs sc ps ps.length) + sznS szn_Sent [] + sznS szn_Link (nvLs ps ps.length) + sznS szn_Outgoing [] := rfl
  have h6 : sznS szn_Sent [] = 0 := rfl
  have h7 : sznS szn_Outgoing [] = 0 := rfl
  rw [h5, h6, h7]
  unfold sznS
  omega
set_option maxHeartbeats 4000000 in
set_option maxRecDepth 100000 in
theorem newObject_s (s : Int) (sl : List GValue) (A : Option Addr) (c : Nat) (w : World) (hC : C ki_Value w A sl) (hsl : sl.length ≤ 4194304) : Calls Try.prog 42 #[.int .i64 s, .slice A sl.length c] w (RetAgg ki_Entity (objE s sl) w) := by
  refine enter 10 [(0, .int .i64 (s)), (1, .slice A sl.length c)] Try.func42 rfl (by kernel_rfl) ?_
  intro xj
  have H1 : St w No [] w := St.enter
  refine wp_seq ?_
  refine reg_seq [0] rfl ?_
  refine ops_cons ?_
  refine op_alloc rfl Try.zeroValue57 rfl rfl H1 ?_
  intro g_0_0 W2 hu3 Ha4
  clear H1
  have H5 : St w No [hB g_0_0 57 #[.int .i64 (0), .int .i64 (0), .slice none 0 0, .int .i64 (0), .int .i64 (0), .int .i64 (0), .slice none 0 0, .slice none 0 0, .int .i64 (0), .int .i64 (0), .int .i64 (0), .int .i64 (0)]] W2 := Ha4
  clear Ha4
  clear hu3
  refine ops_nil ?_
  refine then_n ?_
  refine wp_seq ?_
  refine reg_seq [0, 1, 2, 3, 4, 5] rfl ?_
  refine ops_cons ?_
  refine op_pure rfl (rn_move rfl) rfl rfl ?_
  refine ops_cons ?_
  refine op_slice0 (dk := ki_Value) rfl Try.runUnderlying53 Try.sizeOf54 rfl rfl H5 ?_
  intro A_1_1 W6 hu7 Ha8
  clear H5
  have H9 : St w No [hR ki_Value 54 (.slice A_1_1 0 0) ([]), hB g_0_0 57 #[.int .i64 (0), .int .i64 (0), .slice none 0 0, .int .i64 (0), .int .i64 (0), .int .i64 (0), .slice none 0 0, .slice none 0 0, .int .i64 (0), .int .i64 (0), .int .i64 (0), .int .i64 (0)]] W6 := Ha8
  clear Ha8
  clear hu7
  refine ops_cons ?_
  refine op_pure rfl (rn_move rfl) rfl rfl ?_
  refine ops_cons ?_
  refine op_appendN' (xs := []) (ys := sl) (n' := sl.length) (zs := sl) rfl Try.underlying53 ki_Value_info rfl (by decide) (by decide) flat_Value rfl rfl (C_upd H9.1 hC) (by simp; omega) (by simp) (List.nil_append _) rfl rfl H9 ?_
  intro B_1_3 c_1_3 W10 Ha11
  clear H9
  have H12 : St w No [hR ki_Value 54 (.slice B_1_3 sl.length c_1_3) sl, hB g_0_0 57 #[.int .i64 (0), .int .i64 (0), .slice none 0 0, .int .i64 (0), .int .i64 (0), .int .i64 (0), .slice none 0 0, .slice none 0 0, .int .i64 (0), .int .i64 (0), .int .i64 (0), .int .i64 (0)]] W10 := Ha11
  clear Ha11
  refine ops_cons ?_
  refine op_pure rfl (rn_build (vs := [(0, .int .i64 (1)), (1, .int .i64 (s)), (2, .slice B_1_3 sl.length c_1_3)]) (cells := #[.int .i64 (1), .int .i64 (s), .slice B_1_3 sl.length c_1_3, .int .i64 (0), .int .i64 (0), .int .i64 (0), .slice none 0 0, .slice none 0 0, .int .i64 (0), .int .i64 (0), .int .i64 (0), .int .i64 (0)]) rfl (by kernel_rfl)) rfl rfl ?_
  refine ops_cons ?_
  have H16 : St w No [hB g_0_0 57 #[.int .i64 (0), .int .i64 (0), .slice none 0 0, .int .i64 (0), .int .i64 (0), .int .i64 (0), .slice none 0 0, .slice none 0 0, .int .i64 (0), .int .i64 (0), .int .i64 (0), .int .i64 (0)], hR ki_Value 54 (.slice B_1_3 sl.length c_1_3) sl] W10 := H12.pick [1, 0] (by decide) rfl
  clear H12
  refine op_storeW rfl Try.sizeOf57 rfl rfl rfl rfl (by simp [Value.oneCell']) H16 ?_
  intro W13 hu14 Ha15
  clear H16
  have H17 : St w No [hB g_0_0 57 #[.int .i64 (1), .int .i64 (s), .slice B_1_3 sl.length c_1_3, .int .i64 (0), .int .i64 (0), .int .i64 (0), .slice none 0 0, .slice none 0 0, .int .i64 (0), .int .i64 (0), .int .i64 (0), .int .i64 (0)], hR ki_Value 54 (.slice B_1_3 sl.length c_1_3) sl] W13 := Ha15
  clear Ha15
  clear hu14
  refine ops_nil ?_
  refine then_n ?_
  refine wp_ret ?_
  refine post_cell (.inl rfl) Try.results42 Try.isAgg57 Try.sizeOf57 rfl (H17.blk 0 rfl) rfl ?_
  have H18 : St w No [hR ki_Sent 177 (.slice none 0 0) ([]), hB g_0_0 57 #[.int .i64 (1), .int .i64 (s), .slice B_1_3 sl.length c_1_3, .int .i64 (0), .int .i64 (0), .int .i64 (0), .slice none 0 0, .slice none 0 0, .int .i64 (0), .int .i64 (0), .int .i64 (0), .int .i64 (0)], hR ki_Value 54 (.slice B_1_3 sl.length c_1_3) sl] W13 := H17.add0 (q := hR ki_Sent 177 (.slice none 0 0) []) R_nil
  clear H17
  have H19 : St w No [hR ki_Asker 205 (.slice none 0 0) ([]), hR ki_Sent 177 (.slice none 0 0) ([]), hB g_0_0 57 #[.int .i64 (1), .int .i64 (s), .slice B_1_3 sl.length c_1_3, .int .i64 (0), .int .i64 (0), .int .i64 (0), .slice none 0 0, .slice none 0 0, .int .i64 (0), .int .i64 (0), .int .i64 (0), .int .i64 (0)], hR ki_Value 54 (.slice B_1_3 sl.length c_1_3) sl] W13 := H18.add0 (q := hR ki_Asker 205 (.slice none 0 0) []) R_nil
  clear H18
  have H20 : St w No [hR ki_Value 54 (.slice B_1_3 sl.length c_1_3) sl, hR ki_Sent 177 (.slice none 0 0) ([]), hR ki_Asker 205 (.slice none 0 0) ([]), hB g_0_0 57 #[.int .i64 (1), .int .i64 (s), .slice B_1_3 sl.length c_1_3, .int .i64 (0), .int .i64 (0), .int .i64 (0), .slice none 0 0, .slice none 0 0, .int .i64 (0), .int .i64 (0), .int .i64 (0), .int .i64 (0)]] W13 := H19.pick [3, 1, 0, 2] (by decide) rfl
  clear H19
  have H21 : St w No [hM ki_Entity (objE s sl) [.int .i64 (1), .int .i64 (s), .slice B_1_3 sl.length c_1_3, .int .i64 (0), .int .i64 (0), .int .i64 (0), .slice none 0 0, .slice none 0 0, .int .i64 (0), .int .i64 (0), .int .i64 (0), .int .i64 (0)], hB g_0_0 57 #[.int .i64 (1), .int .i64 (s), .slice B_1_3 sl.length c_1_3, .int .i64 (0), .int .i64 (0), .int .i64 (0), .slice none 0 0, .slice none 0 0, .int .i64 (0), .int .i64 (0), .int .i64 (0), .int .i64 (0)]] W13 := H20.swap (l0 := [hR ki_Value 54 (.slice B_1_3 sl.length c_1_3) sl, hR ki_Sent 177 (.slice none 0 0) ([]), hR ki_Asker 205 (.slice none 0 0) ([])]) (l' := [hM ki_Entity (objE s sl) [.int .i64 (1), .int .i64 (s), .slice B_1_3 sl.length c_1_3, .int .i64 (0), .int .i64 (0), .int .i64 (0), .slice none 0 0, .slice none 0 0, .int .i64 (0), .int .i64 (0), .int .i64 (0), .int .i64 (0)]]) (fun _ h => Star.one (ki_Entity_close (x := (objE s sl)) h))
  clear H20
  have hq := (H21.pick [0] (by decide) rfl : St w No [hM ki_Entity (objE s sl) [.int .i64 (1), .int .i64 (s), .slice B_1_3 sl.length c_1_3, .int .i64 (0), .int .i64 (0), .int .i64 (0), .slice none 0 0, .slice none 0 0, .int .i64 (0), .int .i64 (0), .int .i64 (0), .int .i64 (0)]] W13).fin1
  exact ⟨_, rfl, hq.1, hq.2⟩
set_option maxHeartbeats 4000000 in
set_option maxRecDepth 100000 in
theorem newObject_i (s : Int) (sl : List GValue) (A : Option Addr) (c : Nat) (w : World) (hC : C ki_Value w A sl) (hsl : sl.length ≤ 4194304) : Calls Try.prog 46 #[.int .i64 s, .slice A sl.length c] w (RetAgg ki_Entity (objE s sl) w) := by
  refine enter 9 [(0, .int .i64 (s)), (1, .slice A sl.length c)] Try.func46 rfl (by kernel_rfl) ?_
  intro xj
  have H1 : St w No [] w := St.enter
  refine wp_seq ?_
  refine reg_seq [0] rfl ?_
  refine ops_cons ?_
  refine op_alloc rfl Try.zeroValue57 rfl rfl H1 ?_
  intro g_0_0 W2 hu3 Ha4
  clear H1
  have H5 : St w No [hB g_0_0 57 #[.int .i64 (0), .int .i64 (0), .slice none 0 0, .int .i64 (0), .int .i64 (0), .int .i64 (0), .slice none 0 0, .slice none 0 0, .int .i64 (0), .int .i64 (0), .int .i64 (0), .int .i64 (0)]] W2 := Ha4
  clear Ha4
  clear hu3
  refine ops_nil ?_
  refine then_n ?_
  refine wp_seq ?_
  refine reg_seq [0, 1, 2, 3, 4] rfl ?_
  refine ops_cons ?_
  refine op_pure rfl (rn_move rfl) rfl rfl ?_
  refine ops_cons ?_
  refine op_pure rfl (rn_move rfl) rfl rfl ?_
  refine ops_cons ?_
  refine op_call rfl Try.call114 (vs := #[.slice A sl.length c]) rfl rfl rfl (clone_Value sl _ _ _ (C_upd H5.1 hC) hsl) ?_
  rintro e10 W9 ⟨v6, rfl, hR7, hu8⟩
  refine ⟨_, rfl, ?_⟩
  obtain ⟨B_1_2, c_1_2, rfl⟩ := R_slice hR7
  have H11 : St w No [hR ki_Value 54 (.slice B_1_2 sl.length c_1_2) sl, hB g_0_0 57 #[.int .i64 (0), .int .i64 (0), .slice none 0 0, .int .i64 (0), .int .i64 (0), .int .i64 (0), .slice none 0 0, .slice none 0 0, .int .i64 (0), .int .i64 (0), .int .i64 (0), .int .i64 (0)]] W9 := H5.new hu8 hR7
  clear H5
  refine ops_cons ?_
  refine op_pure rfl (rn_build (vs := [(0, .int .i64 (1)), (1, .int .i64 (s)), (2, .slice B_1_2 sl.length c_1_2)]) (cells := #[.int .i64 (1), .int .i64 (s), .slice B_1_2 sl.length c_1_2, .int .i64 (0), .int .i64 (0), .int .i64 (0), .slice none 0 0, .slice none 0 0, .int .i64 (0), .int .i64 (0), .int .i64 (0), .int .i64 (0)]) rfl (by kernel_rfl)) rfl rfl ?_
  refine ops_cons ?_
  have H15 : St w No [hB g_0_0 57 #[.int .i64 (0), .int .i64 (0), .slice none 0 0, .int .i64 (0), .int .i64 (0), .int .i64 (0), .slice none 0 0, .slice none 0 0, .int .i64 (0), .int .i64 (0), .int .i64 (0), .int .i64 (0)], hR ki_Value 54 (.slice B_1_2 sl.length c_1_2) sl] W9 := H11.pick [1, 0] (by decide) rfl
  clear H11
  refine op_storeW rfl Try.sizeOf57 rfl rfl rfl rfl (by simp [Value.oneCell']) H15 ?_
  intro W12 hu13 Ha14
  clear H15
  have H16 : St w No [hB g_0_0 57 #[.int .i64 (1), .int .i64 (s), .slice B_1_2 sl.length c_1_2, .int .i64 (0), .int .i64 (0), .int .i64 (0), .slice none 0 0, .slice none 0 0, .int .i64 (0), .int .i64 (0), .int .i64 (0), .int .i64 (0)], hR ki_Value 54 (.slice B_1_2 sl.length c_1_2) sl] W12 := Ha14
  clear Ha14
  clear hu13
  refine ops_nil ?_
  refine then_n ?_
  refine wp_ret ?_
  refine post_cell (.inl rfl) Try.results46 Try.isAgg57 Try.sizeOf57 rfl (H16.blk 0 rfl) rfl ?_
  have H17 : St w No [hR ki_Sent 177 (.slice none 0 0) ([]), hB g_0_0 57 #[.int .i64 (1), .int .i64 (s), .slice B_1_2 sl.length c_1_2, .int .i64 (0), .int .i64 (0), .int .i64 (0), .slice none 0 0, .slice none 0 0, .int .i64 (0), .int .i64 (0), .int .i64 (0), .int .i64 (0)], hR ki_Value 54 (.slice B_1_2 sl.length c_1_2) sl] W12 := H16.add0 (q := hR ki_Sent 177 (.slice none 0 0) []) R_nil
  clear H16
  have H18 : St w No [hR ki_Asker 205 (.slice none 0 0) ([]), hR ki_Sent 177 (.slice none 0 0) ([]), hB g_0_0 57 #[.int .i64 (1), .int .i64 (s), .slice B_1_2 sl.length c_1_2, .int .i64 (0), .int .i64 (0), .int .i64 (0), .slice none 0 0, .slice none 0 0, .int .i64 (0), .int .i64 (0), .int .i64 (0), .int .i64 (0)], hR ki_Value 54 (.slice B_1_2 sl.length c_1_2) sl] W12 := H17.add0 (q := hR ki_Asker 205 (.slice none 0 0) []) R_nil
  clear H17
  have H19 : St w No [hR ki_Value 54 (.slice B_1_2 sl.length c_1_2) sl, hR ki_Sent 177 (.slice none 0 0) ([]), hR ki_Asker 205 (.slice none 0 0) ([]), hB g_0_0 57 #[.int .i64 (1), .int .i64 (s), .slice B_1_2 sl.length c_1_2, .int .i64 (0), .int .i64 (0), .int .i64 (0), .slice none 0 0, .slice none 0 0, .int .i64 (0), .int .i64 (0), .int .i64 (0), .int .i64 (0)]] W12 := H18.pick [3, 1, 0, 2] (by decide) rfl
  clear H18
  have H20 : St w No [hM ki_Entity (objE s sl) [.int .i64 (1), .int .i64 (s), .slice B_1_2 sl.length c_1_2, .int .i64 (0), .int .i64 (0), .int .i64 (0), .slice none 0 0, .slice none 0 0, .int .i64 (0), .int .i64 (0), .int .i64 (0), .int .i64 (0)], hB g_0_0 57 #[.int .i64 (1), .int .i64 (s), .slice B_1_2 sl.length c_1_2, .int .i64 (0), .int .i64 (0), .int .i64 (0), .slice none 0 0, .slice none 0 0, .int .i64 (0), .int .i64 (0), .int .i64 (0), .int .i64 (0)]] W12 := H19.swap (l0 := [hR ki_Value 54 (.slice B_1_2 sl.length c_1_2) sl, hR ki_Sent 177 (.slice none 0 0) ([]), hR ki_Asker 205 (.slice none 0 0) ([])]) (l' := [hM ki_Entity (objE s sl) [.int .i64 (1), .int .i64 (s), .slice B_1_2 sl.length c_1_2, .int .i64 (0), .int .i64 (0), .int .i64 (0), .slice none 0 0, .slice none 0 0, .int .i64 (0), .int .i64 (0), .int .i64 (0), .int .i64 (0)]]) (fun _ h => Star.one (ki_Entity_close (x := (objE s sl)) h))
  clear H19
  have hq := (H20.pick [0] (by decide) rfl : St w No [hM ki_Entity (objE s sl) [.int .i64 (1), .int .i64 (s), .slice B_1_2 sl.length c_1_2, .int .i64 (0), .int .i64 (0), .int .i64 (0), .slice none 0 0, .slice none 0 0, .int .i64 (0), .int .i64 (0), .int .i64 (0), .int .i64 (0)]] W12).fin1
  exact ⟨_, rfl, hq.1, hq.2⟩
set_option maxHeartbeats 4000000 in
set_option maxRecDepth 100000 in
theorem newLink_s (p : Int) (w : World) : Calls Try.prog 44 #[.int .i64 p] w (RetAgg ki_Link (zL p) w) := by
  refine enter 5 [(0, .int .i64 (p))] Try.func44 rfl (by kernel_rfl) ?_
  intro xj
  have H1 : St w No [] w := St.enter
  refine wp_seq ?_
  refine reg_seq [0] rfl ?_
  refine ops_cons ?_
  refine op_alloc rfl Try.zeroValue97 rfl rfl H1 ?_
  intro g_0_0 W2 hu3 Ha4
  clear H1
  have H5 : St w No [hB g_0_0 97 #[.int .i64 (0), .bool (false), .slice none 0 0, .int .i64 (0), .slice none 0 0, .int .i64 (0), .slice none 0 0]] W2 := Ha4
  clear Ha4
  clear hu3
  refine ops_nil ?_
  refine then_n ?_
  refine wp_seq ?_
  refine reg_seq [0, 1, 2] rfl ?_
  refine ops_cons ?_
  refine op_pure rfl (rn_move rfl) rfl rfl ?_
  refine ops_cons ?_
  refine op_pure rfl (rn_build (vs := [(0, .int .i64 (p)), (1, .bool (true))]) (cells := #[.int .i64 (p), .bool (true), .slice none 0 0, .int .i64 (0), .slice none 0 0, .int .i64 (0), .slice none 0 0]) rfl (by kernel_rfl)) rfl rfl ?_
  refine ops_cons ?_
  refine op_storeW rfl Try.sizeOf97 rfl rfl rfl rfl (by simp [Value.oneCell']) H5 ?_
  intro W6 hu7 Ha8
  clear H5
  have H9 : St w No [hB g_0_0 97 #[.int .i64 (p), .bool (true), .slice none 0 0, .int .i64 (0), .slice none 0 0, .int .i64 (0), .slice none 0 0]] W6 := Ha8
  clear Ha8
  clear hu7
  refine ops_nil ?_
  refine then_n ?_
  refine wp_ret ?_
  refine post_cell (.inl rfl) Try.results44 Try.isAgg97 Try.sizeOf97 rfl (H9.blk 0 rfl) rfl ?_
  have H10 : St w No [hR ki_Export 172 (.slice none 0 0) ([]), hB g_0_0 97 #[.int .i64 (p), .bool (true), .slice none 0 0, .int .i64 (0), .slice none 0 0, .int .i64 (0), .slice none 0 0]] W6 := H9.add0 (q := hR ki_Export 172 (.slice none 0 0) []) R_nil
  clear H9
  have H11 : St w No [hR ki_Question 230 (.slice none 0 0) ([]), hR ki_Export 172 (.slice none 0 0) ([]), hB g_0_0 97 #[.int .i64 (p), .bool (true), .slice none 0 0, .int .i64 (0), .slice none 0 0, .int .i64 (0), .slice none 0 0]] W6 := H10.add0 (q := hR ki_Question 230 (.slice none 0 0) []) R_nil
  clear H10
  have H12 : St w No [hR ki_Question 230 (.slice none 0 0) ([]), hR ki_Question 230 (.slice none 0 0) ([]), hR ki_Export 172 (.slice none 0 0) ([]), hB g_0_0 97 #[.int .i64 (p), .bool (true), .slice none 0 0, .int .i64 (0), .slice none 0 0, .int .i64 (0), .slice none 0 0]] W6 := H11.add0 (q := hR ki_Question 230 (.slice none 0 0) []) R_nil
  clear H11
  have H13 : St w No [hR ki_Export 172 (.slice none 0 0) ([]), hR ki_Question 230 (.slice none 0 0) ([]), hR ki_Question 230 (.slice none 0 0) ([]), hB g_0_0 97 #[.int .i64 (p), .bool (true), .slice none 0 0, .int .i64 (0), .slice none 0 0, .int .i64 (0), .slice none 0 0]] W6 := H12.pick [2, 1, 0, 3] (by decide) rfl
  clear H12
  have H14 : St w No [hM ki_Link (zL p) [.int .i64 (p), .bool (true), .slice none 0 0, .int .i64 (0), .slice none 0 0, .int .i64 (0), .slice none 0 0], hB g_0_0 97 #[.int .i64 (p), .bool (true), .slice none 0 0, .int .i64 (0), .slice none 0 0, .int .i64 (0), .slice none 0 0]] W6 := H13.swap (l0 := [hR ki_Export 172 (.slice none 0 0) ([]), hR ki_Question 230 (.slice none 0 0) ([]), hR ki_Question 230 (.slice none 0 0) ([])]) (l' := [hM ki_Link (zL p) [.int .i64 (p), .bool (true), .slice none 0 0, .int .i64 (0), .slice none 0 0, .int .i64 (0), .slice none 0 0]]) (fun _ h => Star.one (ki_Link_close (x := (zL p)) h))
  clear H13
  have hq := (H14.pick [0] (by decide) rfl : St w No [hM ki_Link (zL p) [.int .i64 (p), .bool (true), .slice none 0 0, .int .i64 (0), .slice none 0 0, .int .i64 (0), .slice none 0 0]] W6).fin1
  exact ⟨_, rfl, hq.1, hq.2⟩
set_option maxHeartbeats 4000000 in
set_option maxRecDepth 100000 in
theorem newProxy_s (p q : Int) (w : World) : Calls Try.prog 45 #[.int .i64 p, .int .i64 q] w (RetAgg ki_Entity (prE p q) w) := by
  refine enter 8 [(0, .int .i64 (p)), (1, .int .i64 (q))] Try.func45 rfl (by kernel_rfl) ?_
  intro xj
  have H1 : St w No [] w := St.enter
  refine wp_seq ?_
  refine reg_seq [0] rfl ?_
  refine ops_cons ?_
  refine op_alloc rfl Try.zeroValue57 rfl rfl H1 ?_
  intro g_0_0 W2 hu3 Ha4
  clear H1
  have H5 : St w No [hB g_0_0 57 #[.int .i64 (0), .int .i64 (0), .slice none 0 0, .int .i64 (0), .int .i64 (0), .int .i64 (0), .slice none 0 0, .slice none 0 0, .int .i64 (0), .int .i64 (0), .int .i64 (0), .int .i64 (0)]] W2 := Ha4
  clear Ha4
  clear hu3
  refine ops_nil ?_
  refine then_n ?_
  refine wp_seq ?_
  refine reg_seq [0, 1, 2, 3] rfl ?_
  refine ops_cons ?_
  refine op_pure rfl (rn_move rfl) rfl rfl ?_
  refine ops_cons ?_
  refine op_pure rfl (rn_move rfl) rfl rfl ?_
  refine ops_cons ?_
  refine op_pure rfl (rn_build (vs := [(0, .int .i64 (3)), (7, .int .i64 (p)), (8, .int .i64 (q)), (9, .int .i64 (1))]) (cells := #[.int .i64 (3), .int .i64 (0), .slice none 0 0, .int .i64 (0), .int .i64 (0), .int .i64 (0), .slice none 0 0, .slice none 0 0, .int .i64 (p), .int .i64 (q), .int .i64 (1), .int .i64 (0)]) rfl (by kernel_rfl)) rfl rfl ?_
  refine ops_cons ?_
  refine op_storeW rfl Try.sizeOf57 rfl rfl rfl rfl (by simp [Value.oneCell']) H5 ?_
  intro W6 hu7 Ha8
  clear H5
  have H9 : St w No [hB g_0_0 57 #[.int .i64 (3), .int .i64 (0), .slice none 0 0, .int .i64 (0), .int .i64 (0), .int .i64 (0), .slice none 0 0, .slice none 0 0, .int .i64 (p), .int .i64 (q), .int .i64 (1), .int .i64 (0)]] W6 := Ha8
  clear Ha8
  clear hu7
  refine ops_nil ?_
  refine then_n ?_
  refine wp_ret ?_
  refine post_cell (.inl rfl) Try.results45 Try.isAgg57 Try.sizeOf57 rfl (H9.blk 0 rfl) rfl ?_
  have H10 : St w No [hR ki_Value 54 (.slice none 0 0) ([]), hB g_0_0 57 #[.int .i64 (3), .int .i64 (0), .slice none 0 0, .int .i64 (0), .int .i64 (0), .int .i64 (0), .slice none 0 0, .slice none 0 0, .int .i64 (p), .int .i64 (q), .int .i64 (1), .int .i64 (0)]] W6 := H9.add0 (q := hR ki_Value 54 (.slice none 0 0) []) R_nil
  clear H9
  have H11 : St w No [hR ki_Sent 177 (.slice none 0 0) ([]), hR ki_Value 54 (.slice none 0 0) ([]), hB g_0_0 57 #[.int .i64 (3), .int .i64 (0), .slice none 0 0, .int .i64 (0), .int .i64 (0), .int .i64 (0), .slice none 0 0, .slice none 0 0, .int .i64 (p), .int .i64 (q), .int .i64 (1), .int .i64 (0)]] W6 := H10.add0 (q := hR ki_Sent 177 (.slice none 0 0) []) R_nil
  clear H10
  have H12 : St w No [hR ki_Asker 205 (.slice none 0 0) ([]), hR ki_Sent 177 (.slice none 0 0) ([]), hR ki_Value 54 (.slice none 0 0) ([]), hB g_0_0 57 #[.int .i64 (3), .int .i64 (0), .slice none 0 0, .int .i64 (0), .int .i64 (0), .int .i64 (0), .slice none 0 0, .slice none 0 0, .int .i64 (p), .int .i64 (q), .int .i64 (1), .int .i64 (0)]] W6 := H11.add0 (q := hR ki_Asker 205 (.slice none 0 0) []) R_nil
  clear H11
  have H13 : St w No [hR ki_Value 54 (.slice none 0 0) ([]), hR ki_Sent 177 (.slice none 0 0) ([]), hR ki_Asker 205 (.slice none 0 0) ([]), hB g_0_0 57 #[.int .i64 (3), .int .i64 (0), .slice none 0 0, .int .i64 (0), .int .i64 (0), .int .i64 (0), .slice none 0 0, .slice none 0 0, .int .i64 (p), .int .i64 (q), .int .i64 (1), .int .i64 (0)]] W6 := H12.pick [2, 1, 0, 3] (by decide) rfl
  clear H12
  have H14 : St w No [hM ki_Entity (prE p q) [.int .i64 (3), .int .i64 (0), .slice none 0 0, .int .i64 (0), .int .i64 (0), .int .i64 (0), .slice none 0 0, .slice none 0 0, .int .i64 (p), .int .i64 (q), .int .i64 (1), .int .i64 (0)], hB g_0_0 57 #[.int .i64 (3), .int .i64 (0), .slice none 0 0, .int .i64 (0), .int .i64 (0), .int .i64 (0), .slice none 0 0, .slice none 0 0, .int .i64 (p), .int .i64 (q), .int .i64 (1), .int .i64 (0)]] W6 := H13.swap (l0 := [hR ki_Value 54 (.slice none 0 0) ([]), hR ki_Sent 177 (.slice none 0 0) ([]), hR ki_Asker 205 (.slice none 0 0) ([])]) (l' := [hM ki_Entity (prE p q) [.int .i64 (3), .int .i64 (0), .slice none 0 0, .int .i64 (0), .int .i64 (0), .int .i64 (0), .slice none 0 0, .slice none 0 0, .int .i64 (p), .int .i64 (q), .int .i64 (1), .int .i64 (0)]]) (fun _ h => Star.one (ki_Entity_close (x := (prE p q)) h))
  clear H13
  have hq := (H14.pick [0] (by decide) rfl : St w No [hM ki_Entity (prE p q) [.int .i64 (3), .int .i64 (0), .slice none 0 0, .int .i64 (0), .int .i64 (0), .int .i64 (0), .slice none 0 0, .slice none 0 0, .int .i64 (p), .int .i64 (q), .int .i64 (1), .int .i64 (0)]] W6).fin1
  exact ⟨_, rfl, hq.1, hq.2⟩
set_option maxHeartbeats 4000000 in
set_option maxRecDepth 100000 in
theorem newLink_i (p : Int) (w : World) : Calls Try.prog 47 #[.int .i64 p] w (RetAgg ki_Link (zL p) w) := by
  refine enter 5 [(0, .int .i64 (p))] Try.func47 rfl (by kernel_rfl) ?_
  intro xj
  have H1 : St w No [] w := St.enter
  refine wp_seq ?_
  refine reg_seq [0] rfl ?_
  refine ops_cons ?_
  refine op_alloc rfl Try.zeroValue97 rfl rfl H1 ?_
  intro g_0_0 W2 hu3 Ha4
  clear H1
  have H5 : St w No [hB g_0_0 97 #[.int .i64 (0), .bool (false), .slice none 0 0, .int .i64 (0), .slice none 0 0, .int .i64 (0), .slice none 0 0]] W2 := Ha4
  clear Ha4
  clear hu3
  refine ops_nil ?_
  refine then_n ?_
  refine wp_seq ?_
  refine reg_seq [0, 1, 2] rfl ?_
  refine ops_cons ?_
  refine op_pure rfl (rn_move rfl) rfl rfl ?_
  refine ops_cons ?_
  refine op_pure rfl (rn_build (vs := [(0, .int .i64 (p)), (1, .bool (true))]) (cells := #[.int .i64 (p), .bool (true), .slice none 0 0, .int .i64 (0), .slice none 0 0, .int .i64 (0), .slice none 0 0]) rfl (by kernel_rfl)) rfl rfl ?_
  refine ops_cons ?_
  refine op_storeW rfl Try.sizeOf97 rfl rfl rfl rfl (by simp [Value.oneCell']) H5 ?_
  intro W6 hu7 Ha8
  clear H5
  have H9 : St w No [hB g_0_0 97 #[.int .i64 (p), .bool (true), .slice none 0 0, .int .i64 (0), .slice none 0 0, .int .i64 (0), .slice none 0 0]] W6 := Ha8
  clear Ha8
  clear hu7
  refine ops_nil ?_
  refine then_n ?_
  refine wp_ret ?_
  refine post_cell (.inl rfl) Try.results47 Try.isAgg97 Try.sizeOf97 rfl (H9.blk 0 rfl) rfl ?_
  have H10 : St w No [hR ki_Export 172 (.slice none 0 0) ([]), hB g_0_0 97 #[.int .i64 (p), .bool (true), .slice none 0 0, .int .i64 (0), .slice none 0 0, .int .i64 (0), .slice none 0 0]] W6 := H9.add0 (q := hR ki_Export 172 (.slice none 0 0) []) R_nil
  clear H9
  have H11 : St w No [hR ki_Question 230 (.slice none 0 0) ([]), hR ki_Export 172 (.slice none 0 0) ([]), hB g_0_0 97 #[.int .i64 (p), .bool (true), .slice none 0 0, .int .i64 (0), .slice none 0 0, .int .i64 (0), .slice none 0 0]] W6 := H10.add0 (q := hR ki_Question 230 (.slice none 0 0) []) R_nil
  clear H10
  have H12 : St w No [hR ki_Question 230 (.slice none 0 0) ([]), hR ki_Question 230 (.slice none 0 0) ([]), hR ki_Export 172 (.slice none 0 0) ([]), hB g_0_0 97 #[.int .i64 (p), .bool (true), .slice none 0 0, .int .i64 (0), .slice none 0 0, .int .i64 (0), .slice none 0 0]] W6 := H11.add0 (q := hR ki_Question 230 (.slice none 0 0) []) R_nil
  clear H11
  have H13 : St w No [hR ki_Export 172 (.slice none 0 0) ([]), hR ki_Question 230 (.slice none 0 0) ([]), hR ki_Question 230 (.slice none 0 0) ([]), hB g_0_0 97 #[.int .i64 (p), .bool (true), .slice none 0 0, .int .i64 (0), .slice none 0 0, .int .i64 (0), .slice none 0 0]] W6 := H12.pick [2, 1, 0, 3] (by decide) rfl
  clear H12
  have H14 : St w No [hM ki_Link (zL p) [.int .i64 (p), .bool (true), .slice none 0 0, .int .i64 (0), .slice none 0 0, .int .i64 (0), .slice none 0 0], hB g_0_0 97 #[.int .i64 (p), .bool (true), .slice none 0 0, .int .i64 (0), .slice none 0 0, .int .i64 (0), .slice none 0 0]] W6 := H13.swap (l0 := [hR ki_Export 172 (.slice none 0 0) ([]), hR ki_Question 230 (.slice none 0 0) ([]), hR ki_Question 230 (.slice none 0 0) ([])]) (l' := [hM ki_Link (zL p) [.int .i64 (p), .bool (true), .slice none 0 0, .int .i64 (0), .slice none 0 0, .int .i64 (0), .slice none 0 0]]) (fun _ h => Star.one (ki_Link_close (x := (zL p)) h))
  clear H13
  have hq := (H14.pick [0] (by decide) rfl : St w No [hM ki_Link (zL p) [.int .i64 (p), .bool (true), .slice none 0 0, .int .i64 (0), .slice none 0 0, .int .i64 (0), .slice none 0 0]] W6).fin1
  exact ⟨_, rfl, hq.1, hq.2⟩
set_option maxHeartbeats 4000000 in
set_option maxRecDepth 100000 in
theorem newProxy_i (p q : Int) (w : World) : Calls Try.prog 49 #[.int .i64 p, .int .i64 q] w (RetAgg ki_Entity (prE p q) w) := by
  refine enter 8 [(0, .int .i64 (p)), (1, .int .i64 (q))] Try.func49 rfl (by kernel_rfl) ?_
  intro xj
  have H1 : St w No [] w := St.enter
  refine wp_seq ?_
  refine reg_seq [0] rfl ?_
  refine ops_cons ?_
  refine op_alloc rfl Try.zeroValue57 rfl rfl H1 ?_
  intro g_0_0 W2 hu3 Ha4
  clear H1
  have H5 : St w No [hB g_0_0 57 #[.int .i64 (0), .int .i64 (0), .slice none 0 0, .int .i64 (0), .int .i64 (0), .int .i64 (0), .slice none 0 0, .slice none 0 0, .int .i64 (0), .int .i64 (0), .int .i64 (0), .int .i64 (0)]] W2 := Ha4
  clear Ha4
  clear hu3
  refine ops_nil ?_
  refine then_n ?_
  refine wp_seq ?_
  refine reg_seq [0, 1, 2, 3] rfl ?_
  refine ops_cons ?_
  refine op_pure rfl (rn_move rfl) rfl rfl ?_
  refine ops_cons ?_
  refine op_pure rfl (rn_move rfl) rfl rfl ?_
  refine ops_cons ?_
  refine op_pure rfl (rn_build (vs := [(0, .int .i64 (3)), (7, .int .i64 (p)), (8, .int .i64 (q)), (9, .int .i64 (1))]) (cells := #[.int .i64 (3), .int .i64 (0), .slice none 0 0, .int .i64 (0), .int .i64 (0), .int .i64 (0), .slice none 0 0, .slice none 0 0, .int .i64 (p), .int .i64 (q), .int .i64 (1), .int .i64 (0)]) rfl (by kernel_rfl)) rfl rfl ?_
  refine ops_cons ?_
  refine op_storeW rfl Try.sizeOf57 rfl rfl rfl rfl (by simp [Value.oneCell']) H5 ?_
  intro W6 hu7 Ha8
  clear H5
  have H9 : St w No [hB g_0_0 57 #[.int .i64 (3), .int .i64 (0), .slice none 0 0, .int .i64 (0), .int .i64 (0), .int .i64 (0), .slice none 0 0, .slice none 0 0, .int .i64 (p), .int .i64 (q), .int .i64 (1), .int .i64 (0)]] W6 := Ha8
  clear Ha8
  clear hu7
  refine ops_nil ?_
  refine then_n ?_
  refine wp_ret ?_
  refine post_cell (.inl rfl) Try.results49 Try.isAgg57 Try.sizeOf57 rfl (H9.blk 0 rfl) rfl ?_
  have H10 : St w No [hR ki_Value 54 (.slice none 0 0) ([]), hB g_0_0 57 #[.int .i64 (3), .int .i64 (0), .slice none 0 0, .int .i64 (0), .int .i64 (0), .int .i64 (0), .slice none 0 0, .slice none 0 0, .int .i64 (p), .int .i64 (q), .int .i64 (1), .int .i64 (0)]] W6 := H9.add0 (q := hR ki_Value 54 (.slice none 0 0) []) R_nil
  clear H9
  have H11 : St w No [hR ki_Sent 177 (.slice none 0 0) ([]), hR ki_Value 54 (.slice none 0 0) ([]), hB g_0_0 57 #[.int .i64 (3), .int .i64 (0), .slice none 0 0, .int .i64 (0), .int .i64 (0), .int .i64 (0), .slice none 0 0, .slice none 0 0, .int .i64 (p), .int .i64 (q), .int .i64 (1), .int .i64 (0)]] W6 := H10.add0 (q := hR ki_Sent 177 (.slice none 0 0) []) R_nil
  clear H10
  have H12 : St w No [hR ki_Asker 205 (.slice none 0 0) ([]), hR ki_Sent 177 (.slice none 0 0) ([]), hR ki_Value 54 (.slice none 0 0) ([]), hB g_0_0 57 #[.int .i64 (3), .int .i64 (0), .slice none 0 0, .int .i64 (0), .int .i64 (0), .int .i64 (0), .slice none 0 0, .slice none 0 0, .int .i64 (p), .int .i64 (q), .int .i64 (1), .int .i64 (0)]] W6 := H11.add0 (q := hR ki_Asker 205 (.slice none 0 0) []) R_nil
  clear H11
  have H13 : St w No [hR ki_Value 54 (.slice none 0 0) ([]), hR ki_Sent 177 (.slice none 0 0) ([]), hR ki_Asker 205 (.slice none 0 0) ([]), hB g_0_0 57 #[.int .i64 (3), .int .i64 (0), .slice none 0 0, .int .i64 (0), .int .i64 (0), .int .i64 (0), .slice none 0 0, .slice none 0 0, .int .i64 (p), .int .i64 (q), .int .i64 (1), .int .i64 (0)]] W6 := H12.pick [2, 1, 0, 3] (by decide) rfl
  clear H12
  have H14 : St w No [hM ki_Entity (prE p q) [.int .i64 (3), .int .i64 (0), .slice none 0 0, .int .i64 (0), .int .i64 (0), .int .i64 (0), .slice none 0 0, .slice none 0 0, .int .i64 (p), .int .i64 (q), .int .i64 (1), .int .i64 (0)], hB g_0_0 57 #[.int .i64 (3), .int .i64 (0), .slice none 0 0, .int .i64 (0), .int .i64 (0), .int .i64 (0), .slice none 0 0, .slice none 0 0, .int .i64 (p), .int .i64 (q), .int .i64 (1), .int .i64 (0)]] W6 := H13.swap (l0 := [hR ki_Value 54 (.slice none 0 0) ([]), hR ki_Sent 177 (.slice none 0 0) ([]), hR ki_Asker 205 (.slice none 0 0) ([])]) (l' := [hM ki_Entity (prE p q) [.int .i64 (3), .int .i64 (0), .slice none 0 0, .int .i64 (0), .int .i64 (0), .int .i64 (0), .slice none 0 0, .slice none 0 0, .int .i64 (p), .int .i64 (q), .int .i64 (1), .int .i64 (0)]]) (fun _ h => Star.one (ki_Entity_close (x := (prE p q)) h))
  clear H13
  have hq := (H14.pick [0] (by decide) rfl : St w No [hM ki_Entity (prE p q) [.int .i64 (3), .int .i64 (0), .slice none 0 0, .int .i64 (0), .int .i64 (0), .int .i64 (0), .slice none 0 0, .slice none 0 0, .int .i64 (p), .int .i64 (q), .int .i64 (1), .int .i64 (0)]] W6).fin1
  exact ⟨_, rfl, hq.1, hq.2⟩
set_option maxHeartbeats 4000000 in
set_option maxRecDepth 100000 in
theorem newVat_s (id : Int) (ps : List Int) (sc : Int) (A : Option Addr) (c : Nat) (w : World) (hC : C Kn.int w A ps) (hn : ps.length ≤ 1048576) : Calls Try.prog 7 #[.int .i64 id, .slice A ps.length c, .int .i64 sc] w (RetAgg ki_Vat (nvV id ps sc) w) := by
  refine enter 49 [(0, .int .i64 (id)), (1, .slice A ps.length c), (2, .int .i64 (sc))] Try.func7 rfl (by kernel_rfl) ?_
  intro xj
  have H1 : St w No [] w := St.enter
  refine wp_seq ?_
  refine reg_seq [0] rfl ?_
  refine ops_cons ?_
  refine op_alloc rfl Try.zeroValue28 rfl rfl H1 ?_
  intro g_0_0 W2 hu3 Ha4
  clear H1
  have H5 : St w No [hB g_0_0 28 #[.int .i64 (0), .slice none 0 0, .slice none 0 0, .slice none 0 0, .slice none 0 0]] W2 := Ha4
  clear Ha4
  clear hu3
  refine ops_nil ?_
  refine then_n ?_
  refine wp_seq ?_
  refine reg_seq [0, 1, 2, 3, 4, 5, 6, 7] rfl ?_
  refine ops_cons ?_
  refine op_pure rfl (rn_move rfl) rfl rfl ?_
  refine ops_cons ?_
  refine op_pure rfl (rn_move rfl) rfl rfl ?_
  refine ops_cons ?_
  refine op_slice0 (dk := ki_Value) rfl Try.runUnderlying53 Try.sizeOf54 rfl rfl H5 ?_
  intro A_1_2 W6 hu7 Ha8
  clear H5
  have H9 : St w No [hR ki_Value 54 (.slice A_1_2 0 0) ([]), hB g_0_0 28 #[.int .i64 (0), .slice none 0 0, .slice none 0 0, .slice none 0 0, .slice none 0 0]] W6 := Ha8
  clear Ha8
  clear hu7
  refine ops_cons ?_
  refine op_call rfl Try.call42 (vs := #[.int .i64 (sc), .slice A_1_2 0 0]) rfl rfl rfl (newObject_s sc ([]) _ _ _ (H9.rowC 0 rfl) (by simp)) ?_
  rintro e13 W12 ⟨cs_1_3, rfl, hM10, hu11⟩
  refine ⟨_, rfl, ?_⟩
  have hl14 := ki_Entity_len (ki_Entity.K_of_M hM10)
  have ho15 := ki_Entity_one (ki_Entity.K_of_M hM10)
  have H16 : St w No [hM ki_Entity (objE sc ([])) cs_1_3, hR ki_Value 54 (.slice A_1_2 0 0) ([]), hB g_0_0 28 #[.int .i64 (0), .slice none 0 0, .slice none 0 0, .slice none 0 0, .slice none 0 0]] W12 := H9.new hu11 hM10
  clear H9
  refine ops_cons ?_
  refine op_slice1 rfl Try.runUnderlying23 Try.sizeOf57 (by decide) Try.zeroValue57 rfl (ki_Entity_len (H16.kn 0 rfl)) rfl rfl H16 ?_
  intro g_1_4 W17 hu18 Ha19
  clear H16
  have H20 : St w No [hB g_1_4 57 (List.toArray cs_1_3), hM ki_Entity (objE sc ([])) cs_1_3, hR ki_Value 54 (.slice A_1_2 0 0) ([]), hB g_0_0 28 #[.int .i64 (0), .slice none 0 0, .slice none 0 0, .slice none 0 0, .slice none 0 0]] W17 := Ha19
  clear Ha19
  clear hu18
  have H21 : St w No [hR ki_Entity 57 (.slice (some ⟨g_1_4, 0, none⟩) 1 1) ([(objE sc [])]), hR ki_Value 54 (.slice A_1_2 0 0) ([]), hB g_0_0 28 #[.int .i64 (0), .slice none 0 0, .slice none 0 0, .slice none 0 0, .slice none 0 0]] W17 := H20.boxrow (ki_Entity_len (H20.kn 1 rfl))
  clear H20
  refine ops_cons ?_
  refine op_pure rfl (rn_build (vs := [(0, .int .i64 (id)), (1, .slice (some ⟨g_1_4, 0, none⟩) 1 1)]) (cells := #[.int .i64 (id), .slice (some ⟨g_1_4, 0, none⟩) 1 1, .slice none 0 0, .slice none 0 0, .slice none 0 0]) rfl (by kernel_rfl)) rfl rfl ?_
  refine ops_cons ?_
  refine op_alloc rfl Try.zeroValue28 rfl rfl H21 ?_
  intro g_1_6 W22 hu23 Ha24
  clear H21
  have H25 : St w No [hB g_1_6 28 #[.int .i64 (0), .slice none 0 0, .slice none 0 0, .slice none 0 0, .slice none 0 0], hR ki_Entity 57 (.slice (some ⟨g_1_4, 0, none⟩) 1 1) ([(objE sc [])]), hR ki_Value 54 (.slice A_1_2 0 0) ([]), hB g_0_0 28 #[.int .i64 (0), .slice none 0 0, .slice none 0 0, .slice none 0 0, .slice none 0 0]] W22 := Ha24
  clear Ha24
  clear hu23
  refine ops_cons ?_
  refine op_storeW rfl Try.sizeOf28 rfl rfl rfl rfl (by simp [Value.oneCell']) H25 ?_
  intro W26 hu27 Ha28
  clear H25
  have H29 : St w No [hB g_1_6 28 #[.int .i64 (id), .slice (some ⟨g_1_4, 0, none⟩) 1 1, .slice none 0 0, .slice none 0 0, .slice none 0 0], hR ki_Entity 57 (.slice (some ⟨g_1_4, 0, none⟩) 1 1) ([(objE sc [])]), hR ki_Value 54 (.slice A_1_2 0 0) ([]), hB g_0_0 28 #[.int .i64 (0), .slice none 0 0, .slice none 0 0, .slice none 0 0, .slice none 0 0]] W26 := Ha28
  clear Ha28
  clear hu27
  refine ops_nil ?_
  refine then_n ?_
  refine wp_seq ?_
  refine wp_seq ?_
  refine reg_seq [0] rfl ?_
  refine ops_cons ?_
  refine op_pure rfl (rn_assign rfl) rfl rfl ?_
  refine ops_nil ?_
  refine then_n ?_
  refine wp_block ?_
  have H30 : St w No [hR ki_Link 97 (.slice none 0 0) ([]), hB g_1_6 28 #[.int .i64 (id), .slice (some ⟨g_1_4, 0, none⟩) 1 1, .slice none 0 0, .slice none 0 0, .slice none 0 0], hR ki_Entity 57 (.slice (some ⟨g_1_4, 0, none⟩) 1 1) ([(objE sc [])]), hR ki_Value 54 (.slice A_1_2 0 0) ([]), hB g_0_0 28 #[.int .i64 (0), .slice none 0 0, .slice none 0 0, .slice none 0 0, .slice none 0 0]] W26 := H29.add0 (q := hR ki_Link 97 (.slice none 0 0) []) R_nil
  clear H29
  refine wp_loop_ghost (fun r a' W' => ∃ (i1 : Nat) (AL : Option Addr) (cL : Nat) (AE : Option Addr) (cE : Nat) (x' : Nat → Value), a' = actOf 49 x' [(1, .slice A ps.length c), (6, .pointer (some ⟨g_0_0, 0, none⟩)), (7, .pointer (some ⟨g_1_6, 0, none⟩)), (8, .int .i64 (((i1 : Nat) : Int)))] ∧ (i1 + r = ps.length) ∧ St w No [hR ki_Link 97 (.slice AL ((nvLs ps i1).length) cL) (nvLs ps i1), hB g_1_6 28 #[.int .i64 (id), .slice AE ((nvEs sc ps i1).length) cE, .slice none 0 0, .slice AL ((nvLs ps i1).length) cL, .slice none 0 0], hR ki_Entity 57 (.slice AE ((nvEs sc ps i1).length) cE) (nvEs sc ps i1), hB g_0_0 28 #[.int .i64 (0), .slice none 0 0, .slice none 0 0, .slice none 0 0, .slice none 0 0]] W') ps.length ?_ ?_
  · exact (actOf_drop2 [(1, .slice A ps.length c), (6, .pointer (some ⟨g_0_0, 0, none⟩)), (7, .pointer (some ⟨g_1_6, 0, none⟩)), (8, .int .i64 (((0 : Nat) : Int)))] rfl).elim fun x' hx => ⟨0, none, 0, (some ⟨g_1_4, 0, none⟩), 1, x', hx, (by omega), H30.pick [0, 1, 2, 4] (by decide) rfl⟩
  · rintro r31 _ W32 ⟨i1, AL, cL, AE, cE, x33, rfl, hi1, H34⟩
    clear H30
    refine wp_seq ?_
    refine wp_seq ?_
    refine reg_seq [0, 1, 2, 3] rfl ?_
    refine ops_cons ?_
    refine op_pure rfl (rn_move rfl) rfl rfl ?_
    refine ops_cons ?_
    refine op_pure rfl (rn_move rfl) rfl rfl ?_
    refine ops_cons ?_
    refine op_pure rfl (rn_len Try.runUnderlying22 rfl) rfl rfl ?_
    refine ops_cons ?_
    refine op_pure rfl (rn_lss rfl rfl) rfl rfl ?_
    refine ops_nil ?_
    refine then_n ?_
    refine cond_dec rfl (fun hc35 => ?_) (fun hc35 => ?_)
    · have hlt1 : i1 < ps.length := by omega
      obtain ⟨ade36, cse36, hAe36, hKe36, hce36⟩ := C_elem hC i1 hlt1
      obtain rfl : cse36 = [.int .i64 ps[i1]] := hKe36
      refine wp_skip ?_
      refine then_n ?_
      refine wp_seq ?_
      refine wp_block ?_
      refine wp_seq ?_
      refine reg_seq [0, 1, 2, 3, 4, 5, 6, 7, 8, 9, 10, 11] rfl ?_
      refine ops_cons ?_
      refine op_pure rfl (rn_move rfl) rfl rfl ?_
      refine ops_cons ?_
      refine op_pure rfl (rn_move rfl) rfl rfl ?_
      refine ops_cons ?_
      refine op_pure rfl (rn_indexA (k := i1) Try.runUnderlying22 Try.sizeOf3 rfl rfl hAe36 hlt1) rfl rfl ?_
      refine ops_cons ?_
      refine op_pure rfl (rn_load (v := .int .i64 (ps[i1])) Try.isAgg3 rfl (Cat.cell0 (Cat.upd hce36 H34.1) rfl)) rfl rfl ?_
      refine ops_cons ?_
      refine op_call rfl Try.call44 (vs := #[.int .i64 (ps[i1])]) rfl rfl rfl (newLink_s (ps[i1]) _) ?_
      rintro e40 W39 ⟨cs_5_4, rfl, hM37, hu38⟩
      refine ⟨_, rfl, ?_⟩
      have hl41 := ki_Link_len (ki_Link.K_of_M hM37)
      have ho42 := ki_Link_one (ki_Link.K_of_M hM37)
      have H43 : St w No [hM ki_Link (zL (ps[i1])) cs_5_4, hR ki_Link 97 (.slice AL ((nvLs ps i1).length) cL) (nvLs ps i1), hB g_1_6 28 #[.int .i64 (id), .slice AE ((nvEs sc ps i1).length) cE, .slice none 0 0, .slice AL ((nvLs ps i1).length) cL, .slice none 0 0], hR ki_Entity 57 (.slice AE ((nvEs sc ps i1).length) cE) (nvEs sc ps i1), hB g_0_0 28 #[.int .i64 (0), .slice none 0 0, .slice none 0 0, .slice none 0 0, .slice none 0 0]] W39 := H34.new hu38 hM37
      clear H34
      refine ops_cons ?_
      refine op_call rfl Try.call43 (vs := #[.agg (List.toArray cs_5_4), .int .i64 (0)]) rfl rfl rfl (putExport_s (zL (ps[i1])) 0 _ _ (H43.kn 0 rfl) (Nat.le_of_ble_eq_true rfl)) ?_
      rintro e47 W46 ⟨cs_5_5, rfl, hM44, hu45⟩
      refine ⟨_, rfl, ?_⟩
      have hl48 := ki_Link_len (ki_Link.K_of_M hM44)
      have ho49 := ki_Link_one (ki_Link.K_of_M hM44)
      have H50 : St w No [hM ki_Link (pxV 0 (zL (ps[i1]))) cs_5_5, hM ki_Link (zL (ps[i1])) cs_5_4, hR ki_Link 97 (.slice AL ((nvLs ps i1).length) cL) (nvLs ps i1), hB g_1_6 28 #[.int .i64 (id), .slice AE ((nvEs sc ps i1).length) cE, .slice none 0 0, .slice AL ((nvLs ps i1).length) cL, .slice none 0 0], hR ki_Entity 57 (.slice AE ((nvEs sc ps i1).length) cE) (nvEs sc ps i1), hB g_0_0 28 #[.int .i64 (0), .slice none 0 0, .slice none 0 0, .slice none 0 0, .slice none 0 0]] W46 := H43.new hu45 hM44
      clear H43
      refine ops_cons ?_
      refine op_pure rfl (rn_move rfl) rfl rfl ?_
      refine ops_cons ?_
      refine op_pure rfl (rn_extract (v := .agg (List.toArray cs_5_5)) rfl rfl) rfl rfl ?_
      refine ops_cons ?_
      refine op_pure rfl (rn_extract (v := .int .i64 ((pxN 0 (zL (ps[i1])).Exports (zL (ps[i1])).Next))) rfl rfl) rfl rfl ?_
      refine ops_cons ?_
      refine op_alloc rfl Try.zeroValue97 rfl rfl H50 ?_
      intro g_5_9 W51 hu52 Ha53
      clear H50
      have H54 : St w No [hB g_5_9 97 #[.int .i64 (0), .bool (false), .slice none 0 0, .int .i64 (0), .slice none 0 0, .int .i64 (0), .slice none 0 0], hM ki_Link (pxV 0 (zL (ps[i1]))) cs_5_5, hM ki_Link (zL (ps[i1])) cs_5_4, hR ki_Link 97 (.slice AL ((nvLs ps i1).length) cL) (nvLs ps i1), hB g_1_6 28 #[.int .i64 (id), .slice AE ((nvEs sc ps i1).length) cE, .slice none 0 0, .slice AL ((nvLs ps i1).length) cL, .slice none 0 0], hR ki_Entity 57 (.slice AE ((nvEs sc ps i1).length) cE) (nvEs sc ps i1), hB g_0_0 28 #[.int .i64 (0), .slice none 0 0, .slice none 0 0, .slice none 0 0, .slice none 0 0]] W51 := Ha53
      clear Ha53
      clear hu52
      refine ops_cons ?_
      refine op_storeW rfl Try.sizeOf97 rfl rfl (ki_Link_len (H54.kn 1 rfl)) rfl (ki_Link_one (H54.kn 1 rfl)) H54 ?_
      intro W55 hu56 Ha57
      clear H54
      have H58 : St w No [hB g_5_9 97 (List.toArray cs_5_5), hM ki_Link (pxV 0 (zL (ps[i1]))) cs_5_5, hM ki_Link (zL (ps[i1])) cs_5_4, hR ki_Link 97 (.slice AL ((nvLs ps i1).length) cL) (nvLs ps i1), hB g_1_6 28 #[.int .i64 (id), .slice AE ((nvEs sc ps i1).length) cE, .slice none 0 0, .slice AL ((nvLs ps i1).length) cL, .slice none 0 0], hR ki_Entity 57 (.slice AE ((nvEs sc ps i1).length) cE) (nvEs sc ps i1), hB g_0_0 28 #[.int .i64 (0), .slice none 0 0, .slice none 0 0, .slice none 0 0, .slice none 0 0]] W55 := Ha57
      clear Ha57
      clear hu56
      refine ops_cons ?_
      refine op_pure rfl (rn_assign rfl) rfl rfl ?_
      refine ops_nil ?_
      refine then_n ?_
      refine wp_seq ?_
      refine reg_seq [0, 1, 2, 3, 4, 5, 6] rfl ?_
      refine ops_cons ?_
      refine op_pure rfl (rn_field fa_28_3 rfl) rfl rfl ?_
      refine ops_cons ?_
      refine op_pure rfl (rn_loadC (k := 3) (v := .slice AL ((nvLs ps i1).length) cL) Try.isAgg25 rfl (H58.blk 4 rfl) rfl) rfl rfl ?_
      refine ops_cons ?_
      refine op_pure rfl (rn_loadB Try.isAgg97 Try.sizeOf97 rfl (H58.blk 0 rfl) (ki_Link_len (H58.kn 1 rfl))) rfl rfl ?_
      refine ops_cons ?_
      refine op_slice1 rfl Try.runUnderlying25 Try.sizeOf97 (by decide) Try.zeroValue97 rfl (ki_Link_len (H58.kn 1 rfl)) rfl rfl H58 ?_
      intro g_6_3 W59 hu60 Ha61
      clear H58
      have H62 : St w No [hB g_6_3 97 (List.toArray cs_5_5), hB g_5_9 97 (List.toArray cs_5_5), hM ki_Link (pxV 0 (zL (ps[i1]))) cs_5_5, hM ki_Link (zL (ps[i1])) cs_5_4, hR ki_Link 97 (.slice AL ((nvLs ps i1).length) cL) (nvLs ps i1), hB g_1_6 28 #[.int .i64 (id), .slice AE ((nvEs sc ps i1).length) cE, .slice none 0 0, .slice AL ((nvLs ps i1).length) cL, .slice none 0 0], hR ki_Entity 57 (.slice AE ((nvEs sc ps i1).length) cE) (nvEs sc ps i1), hB g_0_0 28 #[.int .i64 (0), .slice none 0 0, .slice none 0 0, .slice none 0 0, .slice none 0 0]] W59 := Ha61
      clear Ha61
      clear hu60
      refine ops_cons ?_
      have H65 : St w No [hR ki_Link 97 (.slice AL ((nvLs ps i1).length) cL) (nvLs ps i1), hB g_6_3 97 (List.toArray cs_5_5), hM ki_Link (pxV 0 (zL (ps[i1]))) cs_5_5, hB g_5_9 97 (List.toArray cs_5_5), hM ki_Link (zL (ps[i1])) cs_5_4, hB g_1_6 28 #[.int .i64 (id), .slice AE ((nvEs sc ps i1).length) cE, .slice none 0 0, .slice AL ((nvLs ps i1).length) cL, .slice none 0 0], hR ki_Entity 57 (.slice AE ((nvEs sc ps i1).length) cE) (nvEs sc ps i1), hB g_0_0 28 #[.int .i64 (0), .slice none 0 0, .slice none 0 0, .slice none 0 0, .slice none 0 0]] W59 := H62.pick [4, 0, 2, 1, 3, 5, 6, 7] (by decide) rfl
      clear H62
      refine op_append1' (xs := (nvLs ps i1)) (p := (pxV 0 (zL ps[i1]))) (n' := (nvLs ps (i1 + 1)).length) (ys := (nvLs ps (i1 + 1))) rfl Try.underlying25 ki_Link_info rfl (by decide) (by decide) rfl rfl (by rw [nvLs_len ps i1 (by omega)]; omega) (by rw [nvLs_len ps i1 (by omega), nvLs_len ps (i1 + 1) (by omega)]) (nvLs_succ ps i1 hlt1) rfl rfl H65 ?_
      intro B_6_4 c_6_4 W63 Ha64
      clear H65
      have H66 : St w No [hR ki_Link 97 (.slice B_6_4 ((nvLs ps (i1 + 1)).length) c_6_4) (nvLs ps (i1 + 1)), hB g_5_9 97 (List.toArray cs_5_5), hM ki_Link (zL (ps[i1])) cs_5_4, hB g_1_6 28 #[.int .i64 (id), .slice AE ((nvEs sc ps i1).length) cE, .slice none 0 0, .slice AL ((nvLs ps i1).length) cL, .slice none 0 0], hR ki_Entity 57 (.slice AE ((nvEs sc ps i1).length) cE) (nvEs sc ps i1), hB g_0_0 28 #[.int .i64 (0), .slice none 0 0, .slice none 0 0, .slice none 0 0, .slice none 0 0]] W63 := Ha64
      clear Ha64
      refine ops_cons ?_
      refine op_pure rfl (rn_field fa_28_3 rfl) rfl rfl ?_
      refine ops_cons ?_
      have H70 : St w No [hB g_1_6 28 #[.int .i64 (id), .slice AE ((nvEs sc ps i1).length) cE, .slice none 0 0, .slice AL ((nvLs ps i1).length) cL, .slice none 0 0], hR ki_Link 97 (.slice B_6_4 ((nvLs ps (i1 + 1)).length) c_6_4) (nvLs ps (i1 + 1)), hB g_5_9 97 (List.toArray cs_5_5), hM ki_Link (zL (ps[i1])) cs_5_4, hR ki_Entity 57 (.slice AE ((nvEs sc ps i1).length) cE) (nvEs sc ps i1), hB g_0_0 28 #[.int .i64 (0), .slice none 0 0, .slice none 0 0, .slice none 0 0, .slice none 0 0]] W63 := H66.pick [3, 0, 1, 2, 4, 5] (by decide) rfl
      clear H66
      refine op_store rfl Try.sizeOf25 rfl rfl rfl (Nat.le_of_ble_eq_true rfl) (by simp [Value.cells, Value.oneCell']) H70 ?_
      intro W67 hu68 Ha69
      clear H70
      have H71 : St w No [hB g_1_6 28 #[.int .i64 (id), .slice AE ((nvEs sc ps i1).length) cE, .slice none 0 0, .slice B_6_4 ((nvLs ps (i1 + 1)).length) c_6_4, .slice none 0 0], hR ki_Link 97 (.slice B_6_4 ((nvLs ps (i1 + 1)).length) c_6_4) (nvLs ps (i1 + 1)), hB g_5_9 97 (List.toArray cs_5_5), hM ki_Link (zL (ps[i1])) cs_5_4, hR ki_Entity 57 (.slice AE ((nvEs sc ps i1).length) cE) (nvEs sc ps i1), hB g_0_0 28 #[.int .i64 (0), .slice none 0 0, .slice none 0 0, .slice none 0 0, .slice none 0 0]] W67 := Ha69
      clear Ha69
      clear hu68
      refine ops_nil ?_
      refine then_n ?_
      refine reg_draw (fun W' => Blk W' g_1_6 28 #[.int .i64 (id), .slice AE ((nvEs sc ps i1).length) cE, .slice none 0 0, .slice B_6_4 ((nvLs ps (i1 + 1)).length) c_6_4, .slice none 0 0] ∧ Cat W' (Addr.add ade36 (i1 * 1)) [.int .i64 ps[i1]]) 10 (by kernel_rfl) ?_
      have H72 : St w No [hB g_1_6 28 #[.int .i64 (id), .slice AE ((nvEs sc ps i1).length) cE, .slice none 0 0, .slice B_6_4 ((nvLs ps (i1 + 1)).length) c_6_4, .slice none 0 0], hR ki_Link 97 (.slice B_6_4 ((nvLs ps (i1 + 1)).length) c_6_4) (nvLs ps (i1 + 1)), hB g_5_9 97 (List.toArray cs_5_5), hM ki_Link (zL (ps[i1])) cs_5_4, hR ki_Entity 57 (.slice AE ((nvEs sc ps i1).length) cE) (nvEs sc ps i1), hB g_0_0 28 #[.int .i64 (0), .slice none 0 0, .slice none 0 0, .slice none 0 0, .slice none 0 0]] W67.drew := H71.drew
      clear H71
      have hS73 : Blk W67.drew g_1_6 28 #[.int .i64 (id), .slice AE ((nvEs sc ps i1).length) cE, .slice none 0 0, .slice B_6_4 ((nvLs ps (i1 + 1)).length) c_6_4, .slice none 0 0] ∧ Cat W67.drew (Addr.add ade36 (i1 * 1)) [.int .i64 ps[i1]] := ⟨H72.blk 0 rfl, (Cat.upd hce36 H72.1)⟩
      refine anyS_take (i := 0) rfl (by kernel_rfl) (by kernel_rfl) (by kernel_rfl) (by kernel_rfl) (by kernel_rfl) (fun _ _ _ h => h) rfl rfl hS73 (fun W' hs' => rn_field fa_28_1 rfl) ?_
      refine anyS_take (i := 1) rfl (by kernel_rfl) (by kernel_rfl) (by kernel_rfl) (by kernel_rfl) (by kernel_rfl) (fun _ _ _ h => h) rfl rfl hS73 (fun W' hs' => rn_loadC (k := 1) (v := .slice AE ((nvEs sc ps i1).length) cE) Try.isAgg23 rfl hs'.1 rfl) ?_
      refine anyS_take (i := 2) rfl (by kernel_rfl) (by kernel_rfl) (by kernel_rfl) (by kernel_rfl) (by kernel_rfl) (fun _ _ _ h => h) rfl rfl hS73 (fun W' hs' => rn_move rfl) ?_
      refine anyS_take (i := 3) rfl (by kernel_rfl) (by kernel_rfl) (by kernel_rfl) (by kernel_rfl) (by kernel_rfl) (fun _ _ _ h => h) rfl rfl hS73 (fun W' hs' => rn_move rfl) ?_
      refine anyS_take (i := 4) rfl (by kernel_rfl) (by kernel_rfl) (by kernel_rfl) (by kernel_rfl) (by kernel_rfl) (fun _ _ _ h => h) rfl rfl hS73 (fun W' hs' => rn_indexA (k := i1) Try.runUnderlying22 Try.sizeOf3 rfl rfl hAe36 hlt1) ?_
      refine anyS_take (i := 5) rfl (by kernel_rfl) (by kernel_rfl) (by kernel_rfl) (by kernel_rfl) (by kernel_rfl) (fun _ _ _ h => h) rfl rfl hS73 (fun W' hs' => rn_load (v := .int .i64 (ps[i1])) Try.isAgg3 rfl (Cat.cell0 hs'.2 rfl)) ?_
      refine anyS_one (i := 6) (by kernel_rfl) ?_
      refine op_call rfl Try.call45 (vs := #[.int .i64 (ps[i1]), .int .i64 (1)]) rfl rfl rfl (newProxy_s (ps[i1]) 1 _) ?_
      rintro e77 W76 ⟨cs_7_6, rfl, hM74, hu75⟩
      refine ⟨_, rfl, ?_⟩
      have hl78 := ki_Entity_len (ki_Entity.K_of_M hM74)
      have ho79 := ki_Entity_one (ki_Entity.K_of_M hM74)
      have H80 : St w No [hM ki_Entity (prE (ps[i1]) 1) cs_7_6, hB g_1_6 28 #[.int .i64 (id), .slice AE ((nvEs sc ps i1).length) cE, .slice none 0 0, .slice B_6_4 ((nvLs ps (i1 + 1)).length) c_6_4, .slice none 0 0], hR ki_Link 97 (.slice B_6_4 ((nvLs ps (i1 + 1)).length) c_6_4) (nvLs ps (i1 + 1)), hB g_5_9 97 (List.toArray cs_5_5), hM ki_Link (zL (ps[i1])) cs_5_4, hR ki_Entity 57 (.slice AE ((nvEs sc ps i1).length) cE) (nvEs sc ps i1), hB g_0_0 28 #[.int .i64 (0), .slice none 0 0, .slice none 0 0, .slice none 0 0, .slice none 0 0]] W76 := H72.new hu75 hM74
      clear H72
      have hS81 : Blk W76 g_1_6 28 #[.int .i64 (id), .slice AE ((nvEs sc ps i1).length) cE, .slice none 0 0, .slice B_6_4 ((nvLs ps (i1 + 1)).length) c_6_4, .slice none 0 0] ∧ Cat W76 (Addr.add ade36 (i1 * 1)) [.int .i64 ps[i1]] := ⟨H80.blk 1 rfl, (Cat.upd hce36 H80.1)⟩
      refine ⟨fun _ => hS81, ?_⟩
      refine anyS_one (i := 7) (by kernel_rfl) ?_
      refine op_slice1 rfl Try.runUnderlying23 Try.sizeOf57 (by decide) Try.zeroValue57 rfl (ki_Entity_len (H80.kn 0 rfl)) rfl rfl H80 ?_
      intro g_7_7 W82 hu83 Ha84
      clear H80
      have H85 : St w No [hB g_7_7 57 (List.toArray cs_7_6), hM ki_Entity (prE (ps[i1]) 1) cs_7_6, hB g_1_6 28 #[.int .i64 (id), .slice AE ((nvEs sc ps i1).length) cE, .slice none 0 0, .slice B_6_4 ((nvLs ps (i1 + 1)).length) c_6_4, .slice none 0 0], hR ki_Link 97 (.slice B_6_4 ((nvLs ps (i1 + 1)).length) c_6_4) (nvLs ps (i1 + 1)), hB g_5_9 97 (List.toArray cs_5_5), hM ki_Link (zL (ps[i1])) cs_5_4, hR ki_Entity 57 (.slice AE ((nvEs sc ps i1).length) cE) (nvEs sc ps i1), hB g_0_0 28 #[.int .i64 (0), .slice none 0 0, .slice none 0 0, .slice none 0 0, .slice none 0 0]] W82 := Ha84
      clear Ha84
      clear hu83
      have hS86 : Blk W82 g_1_6 28 #[.int .i64 (id), .slice AE ((nvEs sc ps i1).length) cE, .slice none 0 0, .slice B_6_4 ((nvLs ps (i1 + 1)).length) c_6_4, .slice none 0 0] ∧ Cat W82 (Addr.add ade36 (i1 * 1)) [.int .i64 ps[i1]] := ⟨H85.blk 2 rfl, (Cat.upd hce36 H85.1)⟩
      refine ⟨fun _ => hS86, ?_⟩
      refine anyS_one (i := 8) (by kernel_rfl) ?_
      have H89 : St w No [hR ki_Entity 57 (.slice AE ((nvEs sc ps i1).length) cE) (nvEs sc ps i1), hB g_7_7 57 (List.toArray cs_7_6), hM ki_Entity (prE (ps[i1]) 1) cs_7_6, hB g_1_6 28 #[.int .i64 (id), .slice AE ((nvEs sc ps i1).length) cE, .slice none 0 0, .slice B_6_4 ((nvLs ps (i1 + 1)).length) c_6_4, .slice none 0 0], hR ki_Link 97 (.slice B_6_4 ((nvLs ps (i1 + 1)).length) c_6_4) (nvLs ps (i1 + 1)), hB g_5_9 97 (List.toArray cs_5_5), hM ki_Link (zL (ps[i1])) cs_5_4, hB g_0_0 28 #[.int .i64 (0), .slice none 0 0, .slice none 0 0, .slice none 0 0, .slice none 0 0]] W82 := H85.pick [6, 0, 1, 2, 3, 4, 5, 7] (by decide) rfl
      clear H85
      refine op_append1' (xs := (nvEs sc ps i1)) (p := (prE ps[i1] 1)) (n' := (nvEs sc ps (i1 + 1)).length) (ys := (nvEs sc ps (i1 + 1))) rfl Try.underlying23 ki_Entity_info rfl (by decide) (by decide) rfl rfl (by rw [nvEs_len sc ps i1 (by omega)]; omega) (by rw [nvEs_len sc ps i1 (by omega), nvEs_len sc ps (i1 + 1) (by omega)]) (nvEs_succ sc ps i1 hlt1) rfl rfl H89 ?_
      intro B_7_8 c_7_8 W87 Ha88
      clear H89
      have H90 : St w No [hR ki_Entity 57 (.slice B_7_8 ((nvEs sc ps (i1 + 1)).length) c_7_8) (nvEs sc ps (i1 + 1)), hB g_1_6 28 #[.int .i64 (id), .slice AE ((nvEs sc ps i1).length) cE, .slice none 0 0, .slice B_6_4 ((nvLs ps (i1 + 1)).length) c_6_4, .slice none 0 0], hR ki_Link 97 (.slice B_6_4 ((nvLs ps (i1 + 1)).length) c_6_4) (nvLs ps (i1 + 1)), hB g_5_9 97 (List.toArray cs_5_5), hM ki_Link (zL (ps[i1])) cs_5_4, hB g_0_0 28 #[.int .i64 (0), .slice none 0 0, .slice none 0 0, .slice none 0 0, .slice none 0 0]] W87 := Ha88
      clear Ha88
      have hS91 : Blk W87 g_1_6 28 #[.int .i64 (id), .slice AE ((nvEs sc ps i1).length) cE, .slice none 0 0, .slice B_6_4 ((nvLs ps (i1 + 1)).length) c_6_4, .slice none 0 0] ∧ Cat W87 (Addr.add ade36 (i1 * 1)) [.int .i64 ps[i1]] := ⟨H90.blk 1 rfl, (Cat.upd hce36 H90.1)⟩
      refine ⟨fun _ => hS91, ?_⟩
      refine anyS_take (i := 9) rfl (by kernel_rfl) (by kernel_rfl) (by kernel_rfl) (by kernel_rfl) (by kernel_rfl) (fun _ _ _ h => h) rfl rfl hS91 (fun W' hs' => rn_field fa_28_1 rfl) ?_
      refine anyS_one (i := 10) (by kernel_rfl) ?_
      have H95 : St w No [hB g_1_6 28 #[.int .i64 (id), .slice AE ((nvEs sc ps i1).length) cE, .slice none 0 0, .slice B_6_4 ((nvLs ps (i1 + 1)).length) c_6_4, .slice none 0 0], hR ki_Entity 57 (.slice B_7_8 ((nvEs sc ps (i1 + 1)).length) c_7_8) (nvEs sc ps (i1 + 1)), hR ki_Link 97 (.slice B_6_4 ((nvLs ps (i1 + 1)).length) c_6_4) (nvLs ps (i1 + 1)), hB g_5_9 97 (List.toArray cs_5_5), hM ki_Link (zL (ps[i1])) cs_5_4, hB g_0_0 28 #[.int .i64 (0), .slice none 0 0, .slice none 0 0, .slice none 0 0, .slice none 0 0]] W87 := H90.pick [1, 0, 2, 3, 4, 5] (by decide) rfl
      clear H90
      refine op_store rfl Try.sizeOf23 rfl rfl rfl (Nat.le_of_ble_eq_true rfl) (by simp [Value.cells, Value.oneCell']) H95 ?_
      intro W92 hu93 Ha94
      clear H95
      have H96 : St w No [hB g_1_6 28 #[.int .i64 (id), .slice B_7_8 ((nvEs sc ps (i1 + 1)).length) c_7_8, .slice none 0 0, .slice B_6_4 ((nvLs ps (i1 + 1)).length) c_6_4, .slice none 0 0], hR ki_Entity 57 (.slice B_7_8 ((nvEs sc ps (i1 + 1)).length) c_7_8) (nvEs sc ps (i1 + 1)), hR ki_Link 97 (.slice B_6_4 ((nvLs ps (i1 + 1)).length) c_6_4) (nvLs ps (i1 + 1)), hB g_5_9 97 (List.toArray cs_5_5), hM ki_Link (zL (ps[i1])) cs_5_4, hB g_0_0 28 #[.int .i64 (0), .slice none 0 0, .slice none 0 0, .slice none 0 0, .slice none 0 0]] W92 := Ha94
      clear Ha94
      clear hu93
      refine ⟨fun h => absS (by kernel_rfl) h, ?_⟩
      refine anyS_done (by kernel_rfl) ?_ _
      refine inB_n ?_
      refine then_n ?_
      refine reg_seq [0, 1, 2] rfl ?_
      refine ops_cons ?_
      refine op_pure rfl (rn_move rfl) rfl rfl ?_
      refine ops_cons ?_
      refine op_pure rfl (rn_inc (k := i1) rfl rfl (by omega)) rfl rfl ?_
      refine ops_cons ?_
      refine op_pure rfl (rn_assign rfl) rfl rfl ?_
      refine ops_nil ?_
      refine then_n ?_
      exact (actOf_drop2 [(1, .slice A ps.length c), (6, .pointer (some ⟨g_0_0, 0, none⟩)), (7, .pointer (some ⟨g_1_6, 0, none⟩)), (8, .int .i64 (((i1 + 1 : Nat) : Int)))] rfl).elim fun x' hx => ⟨r31 - 1, (by omega), (i1 + 1), B_6_4, c_6_4, B_7_8, c_7_8, x', hx, (by omega), H96.pick [2, 0, 1, 5] (by decide) rfl⟩
    · obtain rfl : i1 = ps.length := by omega
      refine wp_exit ?_
      refine then_x ?_
      refine then_x ?_
      refine inB_x ?_
      refine then_n ?_
      refine wp_seq ?_
      refine reg_seq [0, 1] rfl ?_
      refine ops_cons ?_
      refine op_pure rfl (rn_loadB Try.isAgg28 Try.sizeOf28 rfl (H34.blk 1 rfl) rfl) rfl rfl ?_
      refine ops_cons ?_
      have H100 : St w No [hB g_0_0 28 #[.int .i64 (0), .slice none 0 0, .slice none 0 0, .slice none 0 0, .slice none 0 0], hR ki_Link 97 (.slice AL ((nvLs ps ps.length).length) cL) (nvLs ps ps.length), hB g_1_6 28 #[.int .i64 (id), .slice AE ((nvEs sc ps ps.length).length) cE, .slice none 0 0, .slice AL ((nvLs ps ps.length).length) cL, .slice none 0 0], hR ki_Entity 57 (.slice AE ((nvEs sc ps ps.length).length) cE) (nvEs sc ps ps.length)] W32 := H34.pick [3, 0, 1, 2] (by decide) rfl
      clear H34
      refine op_storeW rfl Try.sizeOf28 rfl rfl rfl rfl (by simp [Value.oneCell']) H100 ?_
      intro W97 hu98 Ha99
      clear H100
      have H101 : St w No [hB g_0_0 28 #[.int .i64 (id), .slice AE ((nvEs sc ps ps.length).length) cE, .slice none 0 0, .slice AL ((nvLs ps ps.length).length) cL, .slice none 0 0], hR ki_Link 97 (.slice AL ((nvLs ps ps.length).length) cL) (nvLs ps ps.length), hB g_1_6 28 #[.int .i64 (id), .slice AE ((nvEs sc ps ps.length).length) cE, .slice none 0 0, .slice AL ((nvLs ps ps.length).length) cL, .slice none 0 0], hR ki_Entity 57 (.slice AE ((nvEs sc ps ps.length).length) cE) (nvEs sc ps ps.length)] W97 := Ha99
      clear Ha99
      clear hu98
      refine ops_nil ?_
      refine then_n ?_
      refine wp_ret ?_
      have H102 : St w No [hR ki_Sent 177 (.slice none 0 0) ([]), hB g_0_0 28 #[.int .i64 (id), .slice AE ((nvEs sc ps ps.length).length) cE, .slice none 0 0, .slice AL ((nvLs ps ps.length).length) cL, .slice none 0 0], hR ki_Link 97 (.slice AL ((nvLs ps ps.length).length) cL) (nvLs ps ps.length), hB g_1_6 28 #[.int .i64 (id), .slice AE ((nvEs sc ps ps.length).length) cE, .slice none 0 0, .slice AL ((nvLs ps ps.length).length) cL, .slice none 0 0], hR ki_Entity 57 (.slice AE ((nvEs sc ps ps.length).length) cE) (nvEs sc ps ps.length)] W97 := H101.add0 (q := hR ki_Sent 177 (.slice none 0 0) []) R_nil
      clear H101
      have H103 : St w No [hR ki_Outgoing 181 (.slice none 0 0) ([]), hR ki_Sent 177 (.slice none 0 0) ([]), hB g_0_0 28 #[.int .i64 (id), .slice AE ((nvEs sc ps ps.length).length) cE, .slice none 0 0, .slice AL ((nvLs ps ps.length).length) cL, .slice none 0 0], hR ki_Link 97 (.slice AL ((nvLs ps ps.length).length) cL) (nvLs ps ps.length), hB g_1_6 28 #[.int .i64 (id), .slice AE ((nvEs sc ps ps.length).length) cE, .slice none 0 0, .slice AL ((nvLs ps ps.length).length) cL, .slice none 0 0], hR ki_Entity 57 (.slice AE ((nvEs sc ps ps.length).length) cE) (nvEs sc ps ps.length)] W97 := H102.add0 (q := hR ki_Outgoing 181 (.slice none 0 0) []) R_nil
      clear H102
      refine post_cell (.inl rfl) Try.results7 Try.isAgg28 Try.sizeOf28 rfl (H103.blk 2 rfl) rfl ?_
      exact ⟨_, rfl, ki_Vat_close (x := (nvV id ps sc)) (H103.pick [5, 1, 3, 0] (by decide) rfl).star, H103.1⟩
set_option maxHeartbeats 4000000 in
set_option maxRecDepth 100000 in
theorem newVat_i (id : Int) (ps : List Int) (sc : Int) (A : Option Addr) (c : Nat) (w : World) (hC : C Kn.int w A ps) (hn : ps.length ≤ 1048576) : Calls Try.prog 9 #[.int .i64 id, .slice A ps.length c, .int .i64 sc] w (RetAgg ki_Vat (nvV id ps sc) w) := by
  refine enter 40 [(0, .int .i64 (id)), (1, .slice A ps.length c), (2, .int .i64 (sc))] Try.func9 rfl (by kernel_rfl) ?_
  intro xj
  have H1 : St w No [] w := St.enter
  refine wp_seq ?_
  refine reg_seq [0] rfl ?_
  refine ops_cons ?_
  refine op_alloc rfl Try.zeroValue28 rfl rfl H1 ?_
  intro g_0_0 W2 hu3 Ha4
  clear H1
  have H5 : St w No [hB g_0_0 28 #[.int .i64 (0), .slice none 0 0, .slice none 0 0, .slice none 0 0, .slice none 0 0]] W2 := Ha4
  clear Ha4
  clear hu3
  refine ops_nil ?_
  refine then_n ?_
  refine wp_seq ?_
  refine reg_seq [0, 1, 2, 3, 4, 5, 6] rfl ?_
  refine ops_cons ?_
  refine op_pure rfl (rn_move rfl) rfl rfl ?_
  refine ops_cons ?_
  refine op_pure rfl (rn_move rfl) rfl rfl ?_
  refine ops_cons ?_
  refine op_call rfl Try.call46 (vs := #[.int .i64 (sc), .slice none 0 0]) rfl rfl rfl (newObject_i sc ([]) _ _ _ C_nil (by simp)) ?_
  rintro e9 W8 ⟨cs_1_2, rfl, hM6, hu7⟩
  refine ⟨_, rfl, ?_⟩
  have hl10 := ki_Entity_len (ki_Entity.K_of_M hM6)
  have ho11 := ki_Entity_one (ki_Entity.K_of_M hM6)
  have H12 : St w No [hM ki_Entity (objE sc ([])) cs_1_2, hB g_0_0 28 #[.int .i64 (0), .slice none 0 0, .slice none 0 0, .slice none 0 0, .slice none 0 0]] W8 := H5.new hu7 hM6
  clear H5
  refine ops_cons ?_
  refine op_slice1 rfl Try.runUnderlying23 Try.sizeOf57 (by decide) Try.zeroValue57 rfl (ki_Entity_len (H12.kn 0 rfl)) rfl rfl H12 ?_
  intro g_1_3 W13 hu14 Ha15
  clear H12
  have H16 : St w No [hB g_1_3 57 (List.toArray cs_1_2), hM ki_Entity (objE sc ([])) cs_1_2, hB g_0_0 28 #[.int .i64 (0), .slice none 0 0, .slice none 0 0, .slice none 0 0, .slice none 0 0]] W13 := Ha15
  clear Ha15
  clear hu14
  have H17 : St w No [hR ki_Entity 57 (.slice (some ⟨g_1_3, 0, none⟩) 1 1) ([(objE sc [])]), hB g_0_0 28 #[.int .i64 (0), .slice none 0 0, .slice none 0 0, .slice none 0 0, .slice none 0 0]] W13 := H16.boxrow (ki_Entity_len (H16.kn 1 rfl))
  clear H16
  refine ops_cons ?_
  refine op_pure rfl (rn_build (vs := [(0, .int .i64 (id)), (1, .slice (some ⟨g_1_3, 0, none⟩) 1 1)]) (cells := #[.int .i64 (id), .slice (some ⟨g_1_3, 0, none⟩) 1 1, .slice none 0 0, .slice none 0 0, .slice none 0 0]) rfl (by kernel_rfl)) rfl rfl ?_
  refine ops_cons ?_
  refine op_alloc rfl Try.zeroValue28 rfl rfl H17 ?_
  intro g_1_5 W18 hu19 Ha20
  clear H17
  have H21 : St w No [hB g_1_5 28 #[.int .i64 (0), .slice none 0 0, .slice none 0 0, .slice none 0 0, .slice none 0 0], hR ki_Entity 57 (.slice (some ⟨g_1_3, 0, none⟩) 1 1) ([(objE sc [])]), hB g_0_0 28 #[.int .i64 (0), .slice none 0 0, .slice none 0 0, .slice none 0 0, .slice none 0 0]] W18 := Ha20
  clear Ha20
  clear hu19
  refine ops_cons ?_
  refine op_storeW rfl Try.sizeOf28 rfl rfl rfl rfl (by simp [Value.oneCell']) H21 ?_
  intro W22 hu23 Ha24
  clear H21
  have H25 : St w No [hB g_1_5 28 #[.int .i64 (id), .slice (some ⟨g_1_3, 0, none⟩) 1 1, .slice none 0 0, .slice none 0 0, .slice none 0 0], hR ki_Entity 57 (.slice (some ⟨g_1_3, 0, none⟩) 1 1) ([(objE sc [])]), hB g_0_0 28 #[.int .i64 (0), .slice none 0 0, .slice none 0 0, .slice none 0 0, .slice none 0 0]] W22 := Ha24
  clear Ha24
  clear hu23
  refine ops_nil ?_
  refine then_n ?_
  refine wp_seq ?_
  refine wp_seq ?_
  refine reg_seq [0, 1, 2] rfl ?_
  refine ops_cons ?_
  refine op_pure rfl (rn_move rfl) rfl rfl ?_
  refine ops_cons ?_
  refine op_pure rfl (rn_len Try.runUnderlying22 rfl) rfl rfl ?_
  refine ops_cons ?_
  refine op_pure rfl (rn_move rfl) rfl rfl ?_
  refine ops_nil ?_
  refine then_n ?_
  refine wp_block ?_
  have H26 : St w No [hR ki_Link 97 (.slice none 0 0) ([]), hB g_1_5 28 #[.int .i64 (id), .slice (some ⟨g_1_3, 0, none⟩) 1 1, .slice none 0 0, .slice none 0 0, .slice none 0 0], hR ki_Entity 57 (.slice (some ⟨g_1_3, 0, none⟩) 1 1) ([(objE sc [])]), hB g_0_0 28 #[.int .i64 (0), .slice none 0 0, .slice none 0 0, .slice none 0 0, .slice none 0 0]] W22 := H25.add0 (q := hR ki_Link 97 (.slice none 0 0) []) R_nil
  clear H25
  refine wp_loop_ghost (fun r a' W' => ∃ (i1 : Nat) (AL : Option Addr) (cL : Nat) (AE : Option Addr) (cE : Nat) (x' : Nat → Value), a' = actOf 40 x' [(6, .pointer (some ⟨g_0_0, 0, none⟩)), (7, .pointer (some ⟨g_1_5, 0, none⟩)), (16, .slice A ps.length c), (17, .int .i64 ((ps.length : Nat))), (18, .int .i64 (((i1 : Nat) : Int)))] ∧ (i1 + r = ps.length) ∧ St w No [hR ki_Link 97 (.slice AL ((nvLs ps i1).length) cL) (nvLs ps i1), hB g_1_5 28 #[.int .i64 (id), .slice AE ((nvEs sc ps i1).length) cE, .slice none 0 0, .slice AL ((nvLs ps i1).length) cL, .slice none 0 0], hR ki_Entity 57 (.slice AE ((nvEs sc ps i1).length) cE) (nvEs sc ps i1), hB g_0_0 28 #[.int .i64 (0), .slice none 0 0, .slice none 0 0, .slice none 0 0, .slice none 0 0]] W') ps.length ?_ ?_
  · exact (actOf_drop2 [(6, .pointer (some ⟨g_0_0, 0, none⟩)), (7, .pointer (some ⟨g_1_5, 0, none⟩)), (16, .slice A ps.length c), (17, .int .i64 ((ps.length : Nat))), (18, .int .i64 (((0 : Nat) : Int)))] rfl).elim fun x' hx => ⟨0, none, 0, (some ⟨g_1_3, 0, none⟩), 1, x', hx, (by omega), H26⟩
  · rintro r27 _ W28 ⟨i1, AL, cL, AE, cE, x29, rfl, hi1, H30⟩
    clear H26
    refine wp_seq ?_
    refine reg_seq [0] rfl ?_
    refine ops_cons ?_
    refine op_pure rfl (rn_lss rfl rfl) rfl rfl ?_
    refine ops_nil ?_
    refine then_n ?_
    refine wp_seq ?_
    refine cond_dec rfl (fun hc31 => ?_) (fun hc31 => ?_)
    · have hlt1 : i1 < ps.length := by omega
      obtain ⟨ade32, cse32, hAe32, hKe32, hce32⟩ := C_elem hC i1 hlt1
      obtain rfl : cse32 = [.int .i64 ps[i1]] := hKe32
      refine wp_skip ?_
      refine then_n ?_
      refine wp_seq ?_
      refine wp_block ?_
      refine wp_seq ?_
      refine reg_seq [0, 1, 2] rfl ?_
      refine ops_cons ?_
      refine op_pure rfl (rn_indexA (k := i1) Try.runUnderlying22 Try.sizeOf3 rfl rfl hAe32 hlt1) rfl rfl ?_
      refine ops_cons ?_
      refine op_pure rfl (rn_load (v := .int .i64 (ps[i1])) Try.isAgg3 rfl (Cat.cell0 (Cat.upd hce32 H30.1) rfl)) rfl rfl ?_
      refine ops_cons ?_
      refine op_pure rfl (rn_assign rfl) rfl rfl ?_
      refine ops_nil ?_
      refine then_n ?_
      refine wp_seq ?_
      refine reg_seq [0, 1, 2, 3] rfl ?_
      refine ops_cons ?_
      refine op_pure rfl (rn_move rfl) rfl rfl ?_
      refine ops_cons ?_
      refine op_call rfl Try.call47 (vs := #[.int .i64 (ps[i1])]) rfl rfl rfl (newLink_i (ps[i1]) _) ?_
      rintro e38 W37 ⟨cs33, rfl, hM34, hu35⟩
      refine ⟨_, rfl, ?_⟩
      obtain ⟨B_5_1_2, c_5_1_2, B_5_1_4, c_5_1_4, B_5_1_6, c_5_1_6, rfl, hst36⟩ := ki_Link_open hM34
      have H39 : St w No [hR ki_Export 172 (.slice B_5_1_2 ((zL (ps[i1])).Exports.length) c_5_1_2) ((zL (ps[i1])).Exports), hR ki_Question 230 (.slice B_5_1_4 ((zL (ps[i1])).Questions.length) c_5_1_4) ((zL (ps[i1])).Questions), hR ki_Question 230 (.slice B_5_1_6 ((zL (ps[i1])).Answers.length) c_5_1_6) ((zL (ps[i1])).Answers), hR ki_Link 97 (.slice AL ((nvLs ps i1).length) cL) (nvLs ps i1), hB g_1_5 28 #[.int .i64 (id), .slice AE ((nvEs sc ps i1).length) cE, .slice none 0 0, .slice AL ((nvLs ps i1).length) cL, .slice none 0 0], hR ki_Entity 57 (.slice AE ((nvEs sc ps i1).length) cE) (nvEs sc ps i1), hB g_0_0 28 #[.int .i64 (0), .slice none 0 0, .slice none 0 0, .slice none 0 0, .slice none 0 0]] W37 := H30.news hu35 hst36
      clear H30
      refine ops_cons ?_
      refine op_alloc rfl Try.zeroValue97 rfl rfl H39 ?_
      intro g_5_2 W40 hu41 Ha42
      clear H39
      have H43 : St w No [hB g_5_2 97 #[.int .i64 (0), .bool (false), .slice none 0 0, .int .i64 (0), .slice none 0 0, .int .i64 (0), .slice none 0 0], hR ki_Export 172 (.slice B_5_1_2 ((zL (ps[i1])).Exports.length) c_5_1_2) ((zL (ps[i1])).Exports), hR ki_Question 230 (.slice B_5_1_4 ((zL (ps[i1])).Questions.length) c_5_1_4) ((zL (ps[i1])).Questions), hR ki_Question 230 (.slice B_5_1_6 ((zL (ps[i1])).Answers.length) c_5_1_6) ((zL (ps[i1])).Answers), hR ki_Link 97 (.slice AL ((nvLs ps i1).length) cL) (nvLs ps i1), hB g_1_5 28 #[.int .i64 (id), .slice AE ((nvEs sc ps i1).length) cE, .slice none 0 0, .slice AL ((nvLs ps i1).length) cL, .slice none 0 0], hR ki_Entity 57 (.slice AE ((nvEs sc ps i1).length) cE) (nvEs sc ps i1), hB g_0_0 28 #[.int .i64 (0), .slice none 0 0, .slice none 0 0, .slice none 0 0, .slice none 0 0]] W40 := Ha42
      clear Ha42
      clear hu41
      refine ops_cons ?_
      refine op_storeW rfl Try.sizeOf97 rfl rfl rfl rfl (by simp [Value.oneCell']) H43 ?_
      intro W44 hu45 Ha46
      clear H43
      have H47 : St w No [hB g_5_2 97 #[.int .i64 ((zL (ps[i1])).Peer), .bool ((zL (ps[i1])).Up), .slice B_5_1_2 ((zL (ps[i1])).Exports.length) c_5_1_2, .int .i64 ((zL (ps[i1])).Next), .slice B_5_1_4 ((zL (ps[i1])).Questions.length) c_5_1_4, .int .i64 ((zL (ps[i1])).Asked), .slice B_5_1_6 ((zL (ps[i1])).Answers.length) c_5_1_6], hR ki_Export 172 (.slice B_5_1_2 ((zL (ps[i1])).Exports.length) c_5_1_2) ((zL (ps[i1])).Exports), hR ki_Question 230 (.slice B_5_1_4 ((zL (ps[i1])).Questions.length) c_5_1_4) ((zL (ps[i1])).Questions), hR ki_Question 230 (.slice B_5_1_6 ((zL (ps[i1])).Answers.length) c_5_1_6) ((zL (ps[i1])).Answers), hR ki_Link 97 (.slice AL ((nvLs ps i1).length) cL) (nvLs ps i1), hB g_1_5 28 #[.int .i64 (id), .slice AE ((nvEs sc ps i1).length) cE, .slice none 0 0, .slice AL ((nvLs ps i1).length) cL, .slice none 0 0], hR ki_Entity 57 (.slice AE ((nvEs sc ps i1).length) cE) (nvEs sc ps i1), hB g_0_0 28 #[.int .i64 (0), .slice none 0 0, .slice none 0 0, .slice none 0 0, .slice none 0 0]] W44 := Ha46
      clear Ha46
      clear hu45
      refine ops_nil ?_
      refine then_n ?_
      refine wp_seq ?_
      refine reg_seq [0] rfl ?_
      refine ops_cons ?_
      obtain ⟨F48, hs49, _, hfr50⟩ := St.frame (l0 := [hB g_5_2 97 #[.int .i64 ((zL (ps[i1])).Peer), .bool ((zL (ps[i1])).Up), .slice B_5_1_2 ((zL (ps[i1])).Exports.length) c_5_1_2, .int .i64 ((zL (ps[i1])).Next), .slice B_5_1_4 ((zL (ps[i1])).Questions.length) c_5_1_4, .int .i64 ((zL (ps[i1])).Asked), .slice B_5_1_6 ((zL (ps[i1])).Answers.length) c_5_1_6], hR ki_Export 172 (.slice B_5_1_2 ((zL (ps[i1])).Exports.length) c_5_1_2) ((zL (ps[i1])).Exports)]) (l := [hR ki_Question 230 (.slice B_5_1_4 ((zL (ps[i1])).Questions.length) c_5_1_4) ((zL (ps[i1])).Questions), hR ki_Question 230 (.slice B_5_1_6 ((zL (ps[i1])).Answers.length) c_5_1_6) ((zL (ps[i1])).Answers), hR ki_Link 97 (.slice AL ((nvLs ps i1).length) cL) (nvLs ps i1), hB g_1_5 28 #[.int .i64 (id), .slice AE ((nvEs sc ps i1).length) cE, .slice none 0 0, .slice AL ((nvLs ps i1).length) cL, .slice none 0 0], hR ki_Entity 57 (.slice AE ((nvEs sc ps i1).length) cE) (nvEs sc ps i1), hB g_0_0 28 #[.int .i64 (0), .slice none 0 0, .slice none 0 0, .slice none 0 0, .slice none 0 0]]) H47
      refine op_call rfl Try.call48 (vs := #[.pointer (some ⟨g_5_2, 0, none⟩), .int .i64 (0)]) rfl rfl rfl (put_i ((zL (ps[i1])).Exports) 0 ((zL (ps[i1])).Next) _ _ _ _ _ _ _ _ _ _ hs49 (Nat.le_of_ble_eq_true rfl)) ?_
      rintro e53 W52 ⟨A_6_0, c_6_0, rfl, Hn51⟩
      refine ⟨_, rfl, ?_⟩
      have H54 : St w No [hB g_5_2 97 #[.int .i64 ((zL (ps[i1])).Peer), .bool ((zL (ps[i1])).Up), .slice A_6_0 ((pxL 0 ((zL (ps[i1])).Exports) ((zL (ps[i1])).Next)).length) c_6_0, .int .i64 (pxX 0 ((zL (ps[i1])).Exports) ((zL (ps[i1])).Next)), .slice B_5_1_4 ((zL (ps[i1])).Questions.length) c_5_1_4, .int .i64 ((zL (ps[i1])).Asked), .slice B_5_1_6 ((zL (ps[i1])).Answers.length) c_5_1_6], hR ki_Export 172 (.slice A_6_0 ((pxL 0 ((zL (ps[i1])).Exports) ((zL (ps[i1])).Next)).length) c_6_0) (pxL 0 ((zL (ps[i1])).Exports) ((zL (ps[i1])).Next)), hR ki_Question 230 (.slice B_5_1_4 ((zL (ps[i1])).Questions.length) c_5_1_4) ((zL (ps[i1])).Questions), hR ki_Question 230 (.slice B_5_1_6 ((zL (ps[i1])).Answers.length) c_5_1_6) ((zL (ps[i1])).Answers), hR ki_Link 97 (.slice AL ((nvLs ps i1).length) cL) (nvLs ps i1), hB g_1_5 28 #[.int .i64 (id), .slice AE ((nvEs sc ps i1).length) cE, .slice none 0 0, .slice AL ((nvLs ps i1).length) cL, .slice none 0 0], hR ki_Entity 57 (.slice AE ((nvEs sc ps i1).length) cE) (nvEs sc ps i1), hB g_0_0 28 #[.int .i64 (0), .slice none 0 0, .slice none 0 0, .slice none 0 0, .slice none 0 0]] W52 := hfr50 _ _ Hn51
      clear H47
      refine ops_nil ?_
      refine then_n ?_
      refine wp_seq ?_
      refine reg_seq [0, 1, 2, 3, 4, 5, 6] rfl ?_
      refine ops_cons ?_
      refine op_pure rfl (rn_field fa_28_3 rfl) rfl rfl ?_
      refine ops_cons ?_
      refine op_pure rfl (rn_loadC (k := 3) (v := .slice AL ((nvLs ps i1).length) cL) Try.isAgg25 rfl (H54.blk 5 rfl) rfl) rfl rfl ?_
      refine ops_cons ?_
      refine op_pure rfl (rn_loadB Try.isAgg97 Try.sizeOf97 rfl (H54.blk 0 rfl) rfl) rfl rfl ?_
      refine ops_cons ?_
      refine op_slice1 rfl Try.runUnderlying25 Try.sizeOf97 (by decide) Try.zeroValue97 rfl rfl rfl rfl H54 ?_
      intro g_7_3 W55 hu56 Ha57
      clear H54
      have H58 : St w No [hB g_7_3 97 #[.int .i64 ((zL (ps[i1])).Peer), .bool ((zL (ps[i1])).Up), .slice A_6_0 ((pxL 0 ((zL (ps[i1])).Exports) ((zL (ps[i1])).Next)).length) c_6_0, .int .i64 (pxX 0 ((zL (ps[i1])).Exports) ((zL (ps[i1])).Next)), .slice B_5_1_4 ((zL (ps[i1])).Questions.length) c_5_1_4, .int .i64 ((zL (ps[i1])).Asked), .slice B_5_1_6 ((zL (ps[i1])).Answers.length) c_5_1_6], hB g_5_2 97 #[.int .i64 ((zL (ps[i1])).Peer), .bool ((zL (ps[i1])).Up), .slice A_6_0 ((pxL 0 ((zL (ps[i1])).Exports) ((zL (ps[i1])).Next)).length) c_6_0, .int .i64 (pxX 0 ((zL (ps[i1])).Exports) ((zL (ps[i1])).Next)), .slice B_5_1_4 ((zL (ps[i1])).Questions.length) c_5_1_4, .int .i64 ((zL (ps[i1])).Asked), .slice B_5_1_6 ((zL (ps[i1])).Answers.length) c_5_1_6], hR ki_Export 172 (.slice A_6_0 ((pxL 0 ((zL (ps[i1])).Exports) ((zL (ps[i1])).Next)).length) c_6_0) (pxL 0 ((zL (ps[i1])).Exports) ((zL (ps[i1])).Next)), hR ki_Question 230 (.slice B_5_1_4 ((zL (ps[i1])).Questions.length) c_5_1_4) ((zL (ps[i1])).Questions), hR ki_Question 230 (.slice B_5_1_6 ((zL (ps[i1])).Answers.length) c_5_1_6) ((zL (ps[i1])).Answers), hR ki_Link 97 (.slice AL ((nvLs ps i1).length) cL) (nvLs ps i1), hB g_1_5 28 #[.int .i64 (id), .slice AE ((nvEs sc ps i1).length) cE, .slice none 0 0, .slice AL ((nvLs ps i1).length) cL, .slice none 0 0], hR ki_Entity 57 (.slice AE ((nvEs sc ps i1).length) cE) (nvEs sc ps i1), hB g_0_0 28 #[.int .i64 (0), .slice none 0 0, .slice none 0 0, .slice none 0 0, .slice none 0 0]] W55 := Ha57
      clear Ha57
      clear hu56
      refine ops_cons ?_
      have H61 : St w No [hR ki_Export 172 (.slice A_6_0 ((pxL 0 ((zL (ps[i1])).Exports) ((zL (ps[i1])).Next)).length) c_6_0) (pxL 0 ((zL (ps[i1])).Exports) ((zL (ps[i1])).Next)), hR ki_Question 230 (.slice B_5_1_4 ((zL (ps[i1])).Questions.length) c_5_1_4) ((zL (ps[i1])).Questions), hR ki_Question 230 (.slice B_5_1_6 ((zL (ps[i1])).Answers.length) c_5_1_6) ((zL (ps[i1])).Answers), hB g_7_3 97 #[.int .i64 ((zL (ps[i1])).Peer), .bool ((zL (ps[i1])).Up), .slice A_6_0 ((pxL 0 ((zL (ps[i1])).Exports) ((zL (ps[i1])).Next)).length) c_6_0, .int .i64 (pxX 0 ((zL (ps[i1])).Exports) ((zL (ps[i1])).Next)), .slice B_5_1_4 ((zL (ps[i1])).Questions.length) c_5_1_4, .int .i64 ((zL (ps[i1])).Asked), .slice B_5_1_6 ((zL (ps[i1])).Answers.length) c_5_1_6], hB g_5_2 97 #[.int .i64 ((zL (ps[i1])).Peer), .bool ((zL (ps[i1])).Up), .slice A_6_0 ((pxL 0 ((zL (ps[i1])).Exports) ((zL (ps[i1])).Next)).length) c_6_0, .int .i64 (pxX 0 ((zL (ps[i1])).Exports) ((zL (ps[i1])).Next)), .slice B_5_1_4 ((zL (ps[i1])).Questions.length) c_5_1_4, .int .i64 ((zL (ps[i1])).Asked), .slice B_5_1_6 ((zL (ps[i1])).Answers.length) c_5_1_6], hR ki_Link 97 (.slice AL ((nvLs ps i1).length) cL) (nvLs ps i1), hB g_1_5 28 #[.int .i64 (id), .slice AE ((nvEs sc ps i1).length) cE, .slice none 0 0, .slice AL ((nvLs ps i1).length) cL, .slice none 0 0], hR ki_Entity 57 (.slice AE ((nvEs sc ps i1).length) cE) (nvEs sc ps i1), hB g_0_0 28 #[.int .i64 (0), .slice none 0 0, .slice none 0 0, .slice none 0 0, .slice none 0 0]] W55 := H58.pick [2, 3, 4, 0, 1, 5, 6, 7, 8] (by decide) rfl
      clear H58
      have H62 : St w No [hM ki_Link (pxV 0 (zL ps[i1])) [.int .i64 ((zL (ps[i1])).Peer), .bool ((zL (ps[i1])).Up), .slice A_6_0 ((pxL 0 ((zL (ps[i1])).Exports) ((zL (ps[i1])).Next)).length) c_6_0, .int .i64 (pxX 0 ((zL (ps[i1])).Exports) ((zL (ps[i1])).Next)), .slice B_5_1_4 ((zL (ps[i1])).Questions.length) c_5_1_4, .int .i64 ((zL (ps[i1])).Asked), .slice B_5_1_6 ((zL (ps[i1])).Answers.length) c_5_1_6], hB g_7_3 97 #[.int .i64 ((zL (ps[i1])).Peer), .bool ((zL (ps[i1])).Up), .slice A_6_0 ((pxL 0 ((zL (ps[i1])).Exports) ((zL (ps[i1])).Next)).length) c_6_0, .int .i64 (pxX 0 ((zL (ps[i1])).Exports) ((zL (ps[i1])).Next)), .slice B_5_1_4 ((zL (ps[i1])).Questions.length) c_5_1_4, .int .i64 ((zL (ps[i1])).Asked), .slice B_5_1_6 ((zL (ps[i1])).Answers.length) c_5_1_6], hB g_5_2 97 #[.int .i64 ((zL (ps[i1])).Peer), .bool ((zL (ps[i1])).Up), .slice A_6_0 ((pxL 0 ((zL (ps[i1])).Exports) ((zL (ps[i1])).Next)).length) c_6_0, .int .i64 (pxX 0 ((zL (ps[i1])).Exports) ((zL (ps[i1])).Next)), .slice B_5_1_4 ((zL (ps[i1])).Questions.length) c_5_1_4, .int .i64 ((zL (ps[i1])).Asked), .slice B_5_1_6 ((zL (ps[i1])).Answers.length) c_5_1_6], hR ki_Link 97 (.slice AL ((nvLs ps i1).length) cL) (nvLs ps i1), hB g_1_5 28 #[.int .i64 (id), .slice AE ((nvEs sc ps i1).length) cE, .slice none 0 0, .slice AL ((nvLs ps i1).length) cL, .slice none 0 0], hR ki_Entity 57 (.slice AE ((nvEs sc ps i1).length) cE) (nvEs sc ps i1), hB g_0_0 28 #[.int .i64 (0), .slice none 0 0, .slice none 0 0, .slice none 0 0, .slice none 0 0]] W55 := H61.swap (l0 := [hR ki_Export 172 (.slice A_6_0 ((pxL 0 ((zL (ps[i1])).Exports) ((zL (ps[i1])).Next)).length) c_6_0) (pxL 0 ((zL (ps[i1])).Exports) ((zL (ps[i1])).Next)), hR ki_Question 230 (.slice B_5_1_4 ((zL (ps[i1])).Questions.length) c_5_1_4) ((zL (ps[i1])).Questions), hR ki_Question 230 (.slice B_5_1_6 ((zL (ps[i1])).Answers.length) c_5_1_6) ((zL (ps[i1])).Answers)]) (l' := [hM ki_Link (pxV 0 (zL ps[i1])) [.int .i64 ((zL (ps[i1])).Peer), .bool ((zL (ps[i1])).Up), .slice A_6_0 ((pxL 0 ((zL (ps[i1])).Exports) ((zL (ps[i1])).Next)).length) c_6_0, .int .i64 (pxX 0 ((zL (ps[i1])).Exports) ((zL (ps[i1])).Next)), .slice B_5_1_4 ((zL (ps[i1])).Questions.length) c_5_1_4, .int .i64 ((zL (ps[i1])).Asked), .slice B_5_1_6 ((zL (ps[i1])).Answers.length) c_5_1_6]]) (fun _ h => Star.one (ki_Link_close (x := (pxV 0 (zL ps[i1]))) h))
      clear H61
      have H63 : St w No [hR ki_Link 97 (.slice AL ((nvLs ps i1).length) cL) (nvLs ps i1), hB g_7_3 97 #[.int .i64 ((zL (ps[i1])).Peer), .bool ((zL (ps[i1])).Up), .slice A_6_0 ((pxL 0 ((zL (ps[i1])).Exports) ((zL (ps[i1])).Next)).length) c_6_0, .int .i64 (pxX 0 ((zL (ps[i1])).Exports) ((zL (ps[i1])).Next)), .slice B_5_1_4 ((zL (ps[i1])).Questions.length) c_5_1_4, .int .i64 ((zL (ps[i1])).Asked), .slice B_5_1_6 ((zL (ps[i1])).Answers.length) c_5_1_6], hM ki_Link (pxV 0 (zL ps[i1])) [.int .i64 ((zL (ps[i1])).Peer), .bool ((zL (ps[i1])).Up), .slice A_6_0 ((pxL 0 ((zL (ps[i1])).Exports) ((zL (ps[i1])).Next)).length) c_6_0, .int .i64 (pxX 0 ((zL (ps[i1])).Exports) ((zL (ps[i1])).Next)), .slice B_5_1_4 ((zL (ps[i1])).Questions.length) c_5_1_4, .int .i64 ((zL (ps[i1])).Asked), .slice B_5_1_6 ((zL (ps[i1])).Answers.length) c_5_1_6], hB g_5_2 97 #[.int .i64 ((zL (ps[i1])).Peer), .bool ((zL (ps[i1])).Up), .slice A_6_0 ((pxL 0 ((zL (ps[i1])).Exports) ((zL (ps[i1])).Next)).length) c_6_0, .int .i64 (pxX 0 ((zL (ps[i1])).Exports) ((zL (ps[i1])).Next)), .slice B_5_1_4 ((zL (ps[i1])).Questions.length) c_5_1_4, .int .i64 ((zL (ps[i1])).Asked), .slice B_5_1_6 ((zL (ps[i1])).Answers.length) c_5_1_6], hB g_1_5 28 #[.int .i64 (id), .slice AE ((nvEs sc ps i1).length) cE, .slice none 0 0, .slice AL ((nvLs ps i1).length) cL, .slice none 0 0], hR ki_Entity 57 (.slice AE ((nvEs sc ps i1).length) cE) (nvEs sc ps i1), hB g_0_0 28 #[.int .i64 (0), .slice none 0 0, .slice none 0 0, .slice none 0 0, .slice none 0 0]] W55 := H62.pick [3, 1, 0, 2, 4, 5, 6] (by decide) rfl
      clear H62
      refine op_append1' (xs := (nvLs ps i1)) (p := (pxV 0 (zL ps[i1]))) (n' := (nvLs ps (i1 + 1)).length) (ys := (nvLs ps (i1 + 1))) rfl Try.underlying25 ki_Link_info rfl (by decide) (by decide) rfl rfl (by rw [nvLs_len ps i1 (by omega)]; omega) (by rw [nvLs_len ps i1 (by omega), nvLs_len ps (i1 + 1) (by omega)]) (nvLs_succ ps i1 hlt1) rfl rfl H63 ?_
      intro B_7_4 c_7_4 W59 Ha60
      clear H63
      have H64 : St w No [hR ki_Link 97 (.slice B_7_4 ((nvLs ps (i1 + 1)).length) c_7_4) (nvLs ps (i1 + 1)), hB g_5_2 97 #[.int .i64 ((zL (ps[i1])).Peer), .bool ((zL (ps[i1])).Up), .slice A_6_0 ((pxL 0 ((zL (ps[i1])).Exports) ((zL (ps[i1])).Next)).length) c_6_0, .int .i64 (pxX 0 ((zL (ps[i1])).Exports) ((zL (ps[i1])).Next)), .slice B_5_1_4 ((zL (ps[i1])).Questions.length) c_5_1_4, .int .i64 ((zL (ps[i1])).Asked), .slice B_5_1_6 ((zL (ps[i1])).Answers.length) c_5_1_6], hB g_1_5 28 #[.int .i64 (id), .slice AE ((nvEs sc ps i1).length) cE, .slice none 0 0, .slice AL ((nvLs ps i1).length) cL, .slice none 0 0], hR ki_Entity 57 (.slice AE ((nvEs sc ps i1).length) cE) (nvEs sc ps i1), hB g_0_0 28 #[.int .i64 (0), .slice none 0 0, .slice none 0 0, .slice none 0 0, .slice none 0 0]] W59 := Ha60
      clear Ha60
      refine ops_cons ?_
      refine op_pure rfl (rn_field fa_28_3 rfl) rfl rfl ?_
      refine ops_cons ?_
      have H68 : St w No [hB g_1_5 28 #[.int .i64 (id), .slice AE ((nvEs sc ps i1).length) cE, .slice none 0 0, .slice AL ((nvLs ps i1).length) cL, .slice none 0 0], hR ki_Link 97 (.slice B_7_4 ((nvLs ps (i1 + 1)).length) c_7_4) (nvLs ps (i1 + 1)), hB g_5_2 97 #[.int .i64 ((zL (ps[i1])).Peer), .bool ((zL (ps[i1])).Up), .slice A_6_0 ((pxL 0 ((zL (ps[i1])).Exports) ((zL (ps[i1])).Next)).length) c_6_0, .int .i64 (pxX 0 ((zL (ps[i1])).Exports) ((zL (ps[i1])).Next)), .slice B_5_1_4 ((zL (ps[i1])).Questions.length) c_5_1_4, .int .i64 ((zL (ps[i1])).Asked), .slice B_5_1_6 ((zL (ps[i1])).Answers.length) c_5_1_6], hR ki_Entity 57 (.slice AE ((nvEs sc ps i1).length) cE) (nvEs sc ps i1), hB g_0_0 28 #[.int .i64 (0), .slice none 0 0, .slice none 0 0, .slice none 0 0, .slice none 0 0]] W59 := H64.pick [2, 0, 1, 3, 4] (by decide) rfl
      clear H64
      refine op_store rfl Try.sizeOf25 rfl rfl rfl (Nat.le_of_ble_eq_true rfl) (by simp [Value.cells, Value.oneCell']) H68 ?_
      intro W65 hu66 Ha67
      clear H68
      have H69 : St w No [hB g_1_5 28 #[.int .i64 (id), .slice AE ((nvEs sc ps i1).length) cE, .slice none 0 0, .slice B_7_4 ((nvLs ps (i1 + 1)).length) c_7_4, .slice none 0 0], hR ki_Link 97 (.slice B_7_4 ((nvLs ps (i1 + 1)).length) c_7_4) (nvLs ps (i1 + 1)), hB g_5_2 97 #[.int .i64 ((zL (ps[i1])).Peer), .bool ((zL (ps[i1])).Up), .slice A_6_0 ((pxL 0 ((zL (ps[i1])).Exports) ((zL (ps[i1])).Next)).length) c_6_0, .int .i64 (pxX 0 ((zL (ps[i1])).Exports) ((zL (ps[i1])).Next)), .slice B_5_1_4 ((zL (ps[i1])).Questions.length) c_5_1_4, .int .i64 ((zL (ps[i1])).Asked), .slice B_5_1_6 ((zL (ps[i1])).Answers.length) c_5_1_6], hR ki_Entity 57 (.slice AE ((nvEs sc ps i1).length) cE) (nvEs sc ps i1), hB g_0_0 28 #[.int .i64 (0), .slice none 0 0, .slice none 0 0, .slice none 0 0, .slice none 0 0]] W65 := Ha67
      clear Ha67
      clear hu66
      refine ops_nil ?_
      refine then_n ?_
      refine reg_draw (fun W' => Blk W' g_1_5 28 #[.int .i64 (id), .slice AE ((nvEs sc ps i1).length) cE, .slice none 0 0, .slice B_7_4 ((nvLs ps (i1 + 1)).length) c_7_4, .slice none 0 0]) 7 (by kernel_rfl) ?_
      have H70 : St w No [hB g_1_5 28 #[.int .i64 (id), .slice AE ((nvEs sc ps i1).length) cE, .slice none 0 0, .slice B_7_4 ((nvLs ps (i1 + 1)).length) c_7_4, .slice none 0 0], hR ki_Link 97 (.slice B_7_4 ((nvLs ps (i1 + 1)).length) c_7_4) (nvLs ps (i1 + 1)), hB g_5_2 97 #[.int .i64 ((zL (ps[i1])).Peer), .bool ((zL (ps[i1])).Up), .slice A_6_0 ((pxL 0 ((zL (ps[i1])).Exports) ((zL (ps[i1])).Next)).length) c_6_0, .int .i64 (pxX 0 ((zL (ps[i1])).Exports) ((zL (ps[i1])).Next)), .slice B_5_1_4 ((zL (ps[i1])).Questions.length) c_5_1_4, .int .i64 ((zL (ps[i1])).Asked), .slice B_5_1_6 ((zL (ps[i1])).Answers.length) c_5_1_6], hR ki_Entity 57 (.slice AE ((nvEs sc ps i1).length) cE) (nvEs sc ps i1), hB g_0_0 28 #[.int .i64 (0), .slice none 0 0, .slice none 0 0, .slice none 0 0, .slice none 0 0]] W65.drew := H69.drew
      clear H69
      have hS71 : Blk W65.drew g_1_5 28 #[.int .i64 (id), .slice AE ((nvEs sc ps i1).length) cE, .slice none 0 0, .slice B_7_4 ((nvLs ps (i1 + 1)).length) c_7_4, .slice none 0 0] := H70.blk 0 rfl
      refine anyS_take (i := 0) rfl (by kernel_rfl) (by kernel_rfl) (by kernel_rfl) (by kernel_rfl) (by kernel_rfl) (fun _ _ _ h => h) rfl rfl hS71 (fun W' hs' => rn_field fa_28_1 rfl) ?_
      refine anyS_take (i := 1) rfl (by kernel_rfl) (by kernel_rfl) (by kernel_rfl) (by kernel_rfl) (by kernel_rfl) (fun _ _ _ h => h) rfl rfl hS71 (fun W' hs' => rn_loadC (k := 1) (v := .slice AE ((nvEs sc ps i1).length) cE) Try.isAgg23 rfl hs' rfl) ?_
      refine anyS_take (i := 2) rfl (by kernel_rfl) (by kernel_rfl) (by kernel_rfl) (by kernel_rfl) (by kernel_rfl) (fun _ _ _ h => h) rfl rfl hS71 (fun W' hs' => rn_move rfl) ?_
      refine anyS_one (i := 3) (by kernel_rfl) ?_
      refine op_call rfl Try.call49 (vs := #[.int .i64 (ps[i1]), .int .i64 (1)]) rfl rfl rfl (newProxy_i (ps[i1]) 1 _) ?_
      rintro e75 W74 ⟨cs_8_3, rfl, hM72, hu73⟩
      refine ⟨_, rfl, ?_⟩
      have hl76 := ki_Entity_len (ki_Entity.K_of_M hM72)
      have ho77 := ki_Entity_one (ki_Entity.K_of_M hM72)
      have H78 : St w No [hM ki_Entity (prE (ps[i1]) 1) cs_8_3, hB g_1_5 28 #[.int .i64 (id), .slice AE ((nvEs sc ps i1).length) cE, .slice none 0 0, .slice B_7_4 ((nvLs ps (i1 + 1)).length) c_7_4, .slice none 0 0], hR ki_Link 97 (.slice B_7_4 ((nvLs ps (i1 + 1)).length) c_7_4) (nvLs ps (i1 + 1)), hB g_5_2 97 #[.int .i64 ((zL (ps[i1])).Peer), .bool ((zL (ps[i1])).Up), .slice A_6_0 ((pxL 0 ((zL (ps[i1])).Exports) ((zL (ps[i1])).Next)).length) c_6_0, .int .i64 (pxX 0 ((zL (ps[i1])).Exports) ((zL (ps[i1])).Next)), .slice B_5_1_4 ((zL (ps[i1])).Questions.length) c_5_1_4, .int .i64 ((zL (ps[i1])).Asked), .slice B_5_1_6 ((zL (ps[i1])).Answers.length) c_5_1_6], hR ki_Entity 57 (.slice AE ((nvEs sc ps i1).length) cE) (nvEs sc ps i1), hB g_0_0 28 #[.int .i64 (0), .slice none 0 0, .slice none 0 0, .slice none 0 0, .slice none 0 0]] W74 := H70.new hu73 hM72
      clear H70
      have hS79 : Blk W74 g_1_5 28 #[.int .i64 (id), .slice AE ((nvEs sc ps i1).length) cE, .slice none 0 0, .slice B_7_4 ((nvLs ps (i1 + 1)).length) c_7_4, .slice none 0 0] := H78.blk 1 rfl
      refine ⟨fun _ => hS79, ?_⟩
      refine anyS_one (i := 4) (by kernel_rfl) ?_
      refine op_slice1 rfl Try.runUnderlying23 Try.sizeOf57 (by decide) Try.zeroValue57 rfl (ki_Entity_len (H78.kn 0 rfl)) rfl rfl H78 ?_
      intro g_8_4 W80 hu81 Ha82
      clear H78
      have H83 : St w No [hB g_8_4 57 (List.toArray cs_8_3), hM ki_Entity (prE (ps[i1]) 1) cs_8_3, hB g_1_5 28 #[.int .i64 (id), .slice AE ((nvEs sc ps i1).length) cE, .slice none 0 0, .slice B_7_4 ((nvLs ps (i1 + 1)).length) c_7_4, .slice none 0 0], hR ki_Link 97 (.slice B_7_4 ((nvLs ps (i1 + 1)).length) c_7_4) (nvLs ps (i1 + 1)), hB g_5_2 97 #[.int .i64 ((zL (ps[i1])).Peer), .bool ((zL (ps[i1])).Up), .slice A_6_0 ((pxL 0 ((zL (ps[i1])).Exports) ((zL (ps[i1])).Next)).length) c_6_0, .int .i64 (pxX 0 ((zL (ps[i1])).Exports) ((zL (ps[i1])).Next)), .slice B_5_1_4 ((zL (ps[i1])).Questions.length) c_5_1_4, .int .i64 ((zL (ps[i1])).Asked), .slice B_5_1_6 ((zL (ps[i1])).Answers.length) c_5_1_6], hR ki_Entity 57 (.slice AE ((nvEs sc ps i1).length) cE) (nvEs sc ps i1), hB g_0_0 28 #[.int .i64 (0), .slice none 0 0, .slice none 0 0, .slice none 0 0, .slice none 0 0]] W80 := Ha82
      clear Ha82
      clear hu81
      have hS84 : Blk W80 g_1_5 28 #[.int .i64 (id), .slice AE ((nvEs sc ps i1).length) cE, .slice none 0 0, .slice B_7_4 ((nvLs ps (i1 + 1)).length) c_7_4, .slice none 0 0] := H83.blk 2 rfl
      refine ⟨fun _ => hS84, ?_⟩
      refine anyS_one (i := 5) (by kernel_rfl) ?_
      have H87 : St w No [hR ki_Entity 57 (.slice AE ((nvEs sc ps i1).length) cE) (nvEs sc ps i1), hB g_8_4 57 (List.toArray cs_8_3), hM ki_Entity (prE (ps[i1]) 1) cs_8_3, hB g_1_5 28 #[.int .i64 (id), .slice AE ((nvEs sc ps i1).length) cE, .slice none 0 0, .slice B_7_4 ((nvLs ps (i1 + 1)).length) c_7_4, .slice none 0 0], hR ki_Link 97 (.slice B_7_4 ((nvLs ps (i1 + 1)).length) c_7_4) (nvLs ps (i1 + 1)), hB g_5_2 97 #[.int .i64 ((zL (ps[i1])).Peer), .bool ((zL (ps[i1])).Up), .slice A_6_0 ((pxL 0 ((zL (ps[i1])).Exports) ((zL (ps[i1])).Next)).length) c_6_0, .int .i64 (pxX 0 ((zL (ps[i1])).Exports) ((zL (ps[i1])).Next)), .slice B_5_1_4 ((zL (ps[i1])).Questions.length) c_5_1_4, .int .i64 ((zL (ps[i1])).Asked), .slice B_5_1_6 ((zL (ps[i1])).Answers.length) c_5_1_6], hB g_0_0 28 #[.int .i64 (0), .slice none 0 0, .slice none 0 0, .slice none 0 0, .slice none 0 0]] W80 := H83.pick [5, 0, 1, 2, 3, 4, 6] (by decide) rfl
      clear H83
      refine op_append1' (xs := (nvEs sc ps i1)) (p := (prE ps[i1] 1)) (n' := (nvEs sc ps (i1 + 1)).length) (ys := (nvEs sc ps (i1 + 1))) rfl Try.underlying23 ki_Entity_info rfl (by decide) (by decide) rfl rfl (by rw [nvEs_len sc ps i1 (by omega)]; omega) (by rw [nvEs_len sc ps i1 (by omega), nvEs_len sc ps (i1 + 1) (by omega)]) (nvEs_succ sc ps i1 hlt1) rfl rfl H87 ?_
      intro B_8_5 c_8_5 W85 Ha86
      clear H87
      have H88 : St w No [hR ki_Entity 57 (.slice B_8_5 ((nvEs sc ps (i1 + 1)).length) c_8_5) (nvEs sc ps (i1 + 1)), hB g_1_5 28 #[.int .i64 (id), .slice AE ((nvEs sc ps i1).length) cE, .slice none 0 0, .slice B_7_4 ((nvLs ps (i1 + 1)).length) c_7_4, .slice none 0 0], hR ki_Link 97 (.slice B_7_4 ((nvLs ps (i1 + 1)).length) c_7_4) (nvLs ps (i1 + 1)), hB g_5_2 97 #[.int .i64 ((zL (ps[i1])).Peer), .bool ((zL (ps[i1])).Up), .slice A_6_0 ((pxL 0 ((zL (ps[i1])).Exports) ((zL (ps[i1])).Next)).length) c_6_0, .int .i64 (pxX 0 ((zL (ps[i1])).Exports) ((zL (ps[i1])).Next)), .slice B_5_1_4 ((zL (ps[i1])).Questions.length) c_5_1_4, .int .i64 ((zL (ps[i1])).Asked), .slice B_5_1_6 ((zL (ps[i1])).Answers.length) c_5_1_6], hB g_0_0 28 #[.int .i64 (0), .slice none 0 0, .slice none 0 0, .slice none 0 0, .slice none 0 0]] W85 := Ha86
      clear Ha86
      have hS89 : Blk W85 g_1_5 28 #[.int .i64 (id), .slice AE ((nvEs sc ps i1).length) cE, .slice none 0 0, .slice B_7_4 ((nvLs ps (i1 + 1)).length) c_7_4, .slice none 0 0] := H88.blk 1 rfl
      refine ⟨fun _ => hS89, ?_⟩
      refine anyS_take (i := 6) rfl (by kernel_rfl) (by kernel_rfl) (by kernel_rfl) (by kernel_rfl) (by kernel_rfl) (fun _ _ _ h => h) rfl rfl hS89 (fun W' hs' => rn_field fa_28_1 rfl) ?_
      refine anyS_one (i := 7) (by kernel_rfl) ?_
      have H93 : St w No [hB g_1_5 28 #[.int .i64 (id), .slice AE ((nvEs sc ps i1).length) cE, .slice none 0 0, .slice B_7_4 ((nvLs ps (i1 + 1)).length) c_7_4, .slice none 0 0], hR ki_Entity 57 (.slice B_8_5 ((nvEs sc ps (i1 + 1)).length) c_8_5) (nvEs sc ps (i1 + 1)), hR ki_Link 97 (.slice B_7_4 ((nvLs ps (i1 + 1)).length) c_7_4) (nvLs ps (i1 + 1)), hB g_5_2 97 #[.int .i64 ((zL (ps[i1])).Peer), .bool ((zL (ps[i1])).Up), .slice A_6_0 ((pxL 0 ((zL (ps[i1])).Exports) ((zL (ps[i1])).Next)).length) c_6_0, .int .i64 (pxX 0 ((zL (ps[i1])).Exports) ((zL (ps[i1])).Next)), .slice B_5_1_4 ((zL (ps[i1])).Questions.length) c_5_1_4, .int .i64 ((zL (ps[i1])).Asked), .slice B_5_1_6 ((zL (ps[i1])).Answers.length) c_5_1_6], hB g_0_0 28 #[.int .i64 (0), .slice none 0 0, .slice none 0 0, .slice none 0 0, .slice none 0 0]] W85 := H88.pick [1, 0, 2, 3, 4] (by decide) rfl
      clear H88
      refine op_store rfl Try.sizeOf23 rfl rfl rfl (Nat.le_of_ble_eq_true rfl) (by simp [Value.cells, Value.oneCell']) H93 ?_
      intro W90 hu91 Ha92
      clear H93
      have H94 : St w No [hB g_1_5 28 #[.int .i64 (id), .slice B_8_5 ((nvEs sc ps (i1 + 1)).length) c_8_5, .slice none 0 0, .slice B_7_4 ((nvLs ps (i1 + 1)).length) c_7_4, .slice none 0 0], hR ki_Entity 57 (.slice B_8_5 ((nvEs sc ps (i1 + 1)).length) c_8_5) (nvEs sc ps (i1 + 1)), hR ki_Link 97 (.slice B_7_4 ((nvLs ps (i1 + 1)).length) c_7_4) (nvLs ps (i1 + 1)), hB g_5_2 97 #[.int .i64 ((zL (ps[i1])).Peer), .bool ((zL (ps[i1])).Up), .slice A_6_0 ((pxL 0 ((zL (ps[i1])).Exports) ((zL (ps[i1])).Next)).length) c_6_0, .int .i64 (pxX 0 ((zL (ps[i1])).Exports) ((zL (ps[i1])).Next)), .slice B_5_1_4 ((zL (ps[i1])).Questions.length) c_5_1_4, .int .i64 ((zL (ps[i1])).Asked), .slice B_5_1_6 ((zL (ps[i1])).Answers.length) c_5_1_6], hB g_0_0 28 #[.int .i64 (0), .slice none 0 0, .slice none 0 0, .slice none 0 0, .slice none 0 0]] W90 := Ha92
      clear Ha92
      clear hu91
      refine ⟨fun h => absS (by kernel_rfl) h, ?_⟩
      refine anyS_done (by kernel_rfl) ?_ _
      refine inB_n ?_
      refine then_n ?_
      refine reg_seq [0, 1] rfl ?_
      refine ops_cons ?_
      refine op_pure rfl (rn_inc (k := i1) rfl rfl (by omega)) rfl rfl ?_
      refine ops_cons ?_
      refine op_pure rfl (rn_move rfl) rfl rfl ?_
      refine ops_nil ?_
      refine then_n ?_
      exact (actOf_drop2 [(6, .pointer (some ⟨g_0_0, 0, none⟩)), (7, .pointer (some ⟨g_1_5, 0, none⟩)), (16, .slice A ps.length c), (17, .int .i64 ((ps.length : Nat))), (18, .int .i64 (((i1 + 1 : Nat) : Int)))] rfl).elim fun x' hx => ⟨r27 - 1, (by omega), (i1 + 1), B_7_4, c_7_4, B_8_5, c_8_5, x', hx, (by omega), H94.pick [2, 0, 1, 4] (by decide) rfl⟩
    · obtain rfl : i1 = ps.length := by omega
      refine wp_exit ?_
      refine then_x ?_
      refine then_x ?_
      refine inB_x ?_
      refine then_n ?_
      refine wp_seq ?_
      refine reg_seq [0, 1] rfl ?_
      refine ops_cons ?_
      refine op_pure rfl (rn_loadB Try.isAgg28 Try.sizeOf28 rfl (H30.blk 1 rfl) rfl) rfl rfl ?_
      refine ops_cons ?_
      have H98 : St w No [hB g_0_0 28 #[.int .i64 (0), .slice none 0 0, .slice none 0 0, .slice none 0 0, .slice none 0 0], hR ki_Link 97 (.slice AL ((nvLs ps ps.length).length) cL) (nvLs ps ps.length), hB g_1_5 28 #[.int .i64 (id), .slice AE ((nvEs sc ps ps.length).length) cE, .slice none 0 0, .slice AL ((nvLs ps ps.length).length) cL, .slice none 0 0], hR ki_Entity 57 (.slice AE ((nvEs sc ps ps.length).length) cE) (nvEs sc ps ps.length)] W28 := H30.pick [3, 0, 1, 2] (by decide) rfl
      clear H30
      refine op_storeW rfl Try.sizeOf28 rfl rfl rfl rfl (by simp [Value.oneCell']) H98 ?_
      intro W95 hu96 Ha97
      clear H98
      have H99 : St w No [hB g_0_0 28 #[.int .i64 (id), .slice AE ((nvEs sc ps ps.length).length) cE, .slice none 0 0, .slice AL ((nvLs ps ps.length).length) cL, .slice none 0 0], hR ki_Link 97 (.slice AL ((nvLs ps ps.length).length) cL) (nvLs ps ps.length), hB g_1_5 28 #[.int .i64 (id), .slice AE ((nvEs sc ps ps.length).length) cE, .slice none 0 0, .slice AL ((nvLs ps ps.length).length) cL, .slice none 0 0], hR ki_Entity 57 (.slice AE ((nvEs sc ps ps.length).length) cE) (nvEs sc ps ps.length)] W95 := Ha97
      clear Ha97
      clear hu96
      refine ops_nil ?_
      refine then_n ?_
      refine wp_ret ?_
      have H100 : St w No [hR ki_Sent 177 (.slice none 0 0) ([]), hB g_0_0 28 #[.int .i64 (id), .slice AE ((nvEs sc ps ps.length).length) cE, .slice none 0 0, .slice AL ((nvLs ps ps.length).length) cL, .slice none 0 0], hR ki_Link 97 (.slice AL ((nvLs ps ps.length).length) cL) (nvLs ps ps.length), hB g_1_5 28 #[.int .i64 (id), .slice AE ((nvEs sc ps ps.length).length) cE, .slice none 0 0, .slice AL ((nvLs ps ps.length).length) cL, .slice none 0 0], hR ki_Entity 57 (.slice AE ((nvEs sc ps ps.length).length) cE) (nvEs sc ps ps.length)] W95 := H99.add0 (q := hR ki_Sent 177 (.slice none 0 0) []) R_nil
      clear H99
      have H101 : St w No [hR ki_Outgoing 181 (.slice none 0 0) ([]), hR ki_Sent 177 (.slice none 0 0) ([]), hB g_0_0 28 #[.int .i64 (id), .slice AE ((nvEs sc ps ps.length).length) cE, .slice none 0 0, .slice AL ((nvLs ps ps.length).length) cL, .slice none 0 0], hR ki_Link 97 (.slice AL ((nvLs ps ps.length).length) cL) (nvLs ps ps.length), hB g_1_5 28 #[.int .i64 (id), .slice AE ((nvEs sc ps ps.length).length) cE, .slice none 0 0, .slice AL ((nvLs ps ps.length).length) cL, .slice none 0 0], hR ki_Entity 57 (.slice AE ((nvEs sc ps ps.length).length) cE) (nvEs sc ps ps.length)] W95 := H100.add0 (q := hR ki_Outgoing 181 (.slice none 0 0) []) R_nil
      clear H100
      refine post_cell (.inl rfl) Try.results9 Try.isAgg28 Try.sizeOf28 rfl (H101.blk 2 rfl) rfl ?_
      exact ⟨_, rfl, ki_Vat_close (x := (nvV id ps sc)) (H101.pick [5, 1, 3, 0] (by decide) rfl).star, H101.1⟩
end Go.Proofs.YtfnedoiplblldaaFam
