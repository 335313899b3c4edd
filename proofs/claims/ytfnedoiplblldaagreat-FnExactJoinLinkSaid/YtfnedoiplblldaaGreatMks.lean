/- New links, new proxies. No conditions. -/
import Derived.Test.YtfnedoiplblldaaGreatProg
import Derived.Test.YtfnedoiplblldaaGreatTy
import Derived.Test.YtfnedoiplblldaaGreatOpn
import Derived.Test.YtfnedoiplblldaaGreatSym3
import Derived.Test.YtfnedoiplblldaaGreatPuts
namespace Go.Proofs.YtfnedoiplblldaaGreatFam
open Go.ChangeShapes Go.WideShapes Go.RowKit Go.Proofs.YtfnedoiplblldaaGreatSep Go.Proofs.YtfnedoiplblldaaGreatT Go.Proofs.YtfnedoiplblldaaGreatK
set_option linter.unusedVariables false
set_option linter.unusedSimpArgs false
theorem C_nil {α : Type} {d : Kn α} {w : World} {A : Option Addr} : C d w A ([] : List α) := ⟨Nat.zero_le _, fun h => absurd h (Nat.lt_irrefl 0)⟩
def zL (p : Int) : GLink := ⟨p, true, [], 0, [], 0, []⟩
def prE (p q : Int) : GEntity := ⟨3, 0, [], 0, ⟨0, 0⟩, [], [], p, q, 1, 0⟩
set_option maxHeartbeats 4000000 in
set_option maxRecDepth 100000 in
theorem newLink_s (p : Int) (w : World) : Calls Tryz.prog 127 #[.int .i64 p] w (RetAgg ki_Link (zL p) w) := by
  refine enter 5 [(0, .int .i64 (p))] Tryz.func127 rfl (by kernel_rfl) ?_
  intro xj
  have H1 : St w No [] w := St.enter
  refine wp_seq ?_
  refine reg_seq [0] rfl ?_
  refine ops_cons ?_
  refine op_alloc rfl Tryz.zeroValue178 rfl rfl H1 ?_
  intro g_0_0 W2 hu3 Ha4
  clear H1
  have H5 : St w No [hB g_0_0 178 #[.int .i64 (0), .bool (false), .slice none 0 0, .int .i64 (0), .slice none 0 0, .int .i64 (0), .slice none 0 0]] W2 := Ha4
  clear Ha4
  clear hu3
  refine ops_nil ?_
  refine then_n ?_
  refine wp_seq ?_
  refine reg_seq [0, 1, 2] rfl ?_
  refine ops_cons ?_
  refine op_pure rfl (rn_move rfl) rfl rfl ?_
  refine ops_cons ?_
  refine op_pure rfl (rn_build (vs := [(0, .int .i64 (p)), (1, .bool (true))]) (cells := #[.int .i64 (p), .bool (true), .slice none 0 0, .int .i64 (0), .slice none 0 0, .int .i64 (0), .slice none 0 0]) rfl (by kernel_rfl)) rfl rfl ?_
  refine ops_cons ?_
  refine op_storeW rfl Tryz.sizeOf178 rfl rfl rfl rfl (by simp [Value.oneCell']) H5 ?_
  intro W6 hu7 Ha8
  clear H5
  have H9 : St w No [hB g_0_0 178 #[.int .i64 (p), .bool (true), .slice none 0 0, .int .i64 (0), .slice none 0 0, .int .i64 (0), .slice none 0 0]] W6 := Ha8
  clear Ha8
  clear hu7
  refine ops_nil ?_
  refine then_n ?_
  refine wp_ret ?_
  refine post_cell (.inl rfl) Tryz.results127 Tryz.isAgg178 Tryz.sizeOf178 rfl (H9.blk 0 rfl) rfl ?_
  have H10 : St w No [hR ki_Export 256 (.slice none 0 0) ([]), hB g_0_0 178 #[.int .i64 (p), .bool (true), .slice none 0 0, .int .i64 (0), .slice none 0 0, .int .i64 (0), .slice none 0 0]] W6 := H9.add0 (q := hR ki_Export 256 (.slice none 0 0) []) R_nil
  clear H9
  have H11 : St w No [hR ki_Question 289 (.slice none 0 0) ([]), hR ki_Export 256 (.slice none 0 0) ([]), hB g_0_0 178 #[.int .i64 (p), .bool (true), .slice none 0 0, .int .i64 (0), .slice none 0 0, .int .i64 (0), .slice none 0 0]] W6 := H10.add0 (q := hR ki_Question 289 (.slice none 0 0) []) R_nil
  clear H10
  have H12 : St w No [hR ki_Question 289 (.slice none 0 0) ([]), hR ki_Question 289 (.slice none 0 0) ([]), hR ki_Export 256 (.slice none 0 0) ([]), hB g_0_0 178 #[.int .i64 (p), .bool (true), .slice none 0 0, .int .i64 (0), .slice none 0 0, .int .i64 (0), .slice none 0 0]] W6 := H11.add0 (q := hR ki_Question 289 (.slice none 0 0) []) R_nil
  clear H11
  have H13 : St w No [hR ki_Export 256 (.slice none 0 0) ([]), hR ki_Question 289 (.slice none 0 0) ([]), hR ki_Question 289 (.slice none 0 0) ([]), hB g_0_0 178 #[.int .i64 (p), .bool (true), .slice none 0 0, .int .i64 (0), .slice none 0 0, .int .i64 (0), .slice none 0 0]] W6 := H12.pick [2, 1, 0, 3] (by decide) rfl
  clear H12
  have H14 : St w No [hM ki_Link (zL p) [.int .i64 (p), .bool (true), .slice none 0 0, .int .i64 (0), .slice none 0 0, .int .i64 (0), .slice none 0 0], hB g_0_0 178 #[.int .i64 (p), .bool (true), .slice none 0 0, .int .i64 (0), .slice none 0 0, .int .i64 (0), .slice none 0 0]] W6 := H13.swap (l0 := [hR ki_Export 256 (.slice none 0 0) ([]), hR ki_Question 289 (.slice none 0 0) ([]), hR ki_Question 289 (.slice none 0 0) ([])]) (l' := [hM ki_Link (zL p) [.int .i64 (p), .bool (true), .slice none 0 0, .int .i64 (0), .slice none 0 0, .int .i64 (0), .slice none 0 0]]) (fun _ h => Star.one (ki_Link_close (x := (zL p)) h))
  clear H13
  have hq := (H14.pick [0] (by decide) rfl : St w No [hM ki_Link (zL p) [.int .i64 (p), .bool (true), .slice none 0 0, .int .i64 (0), .slice none 0 0, .int .i64 (0), .slice none 0 0]] W6).fin1
  exact ⟨_, rfl, hq.1, hq.2⟩
set_option maxHeartbeats 4000000 in
set_option maxRecDepth 100000 in
theorem newProxy_s (p q : Int) (w : World) : Calls Tryz.prog 125 #[.int .i64 p, .int .i64 q] w (RetAgg ki_Entity (prE p q) w) := by
  refine enter 8 [(0, .int .i64 (p)), (1, .int .i64 (q))] Tryz.func125 rfl (by kernel_rfl) ?_
  intro xj
  have H1 : St w No [] w := St.enter
  refine wp_seq ?_
  refine reg_seq [0] rfl ?_
  refine ops_cons ?_
  refine op_alloc rfl Tryz.zeroValue171 rfl rfl H1 ?_
  intro g_0_0 W2 hu3 Ha4
  clear H1
  have H5 : St w No [hB g_0_0 171 #[.int .i64 (0), .int .i64 (0), .slice none 0 0, .int .i64 (0), .int .i64 (0), .int .i64 (0), .slice none 0 0, .slice none 0 0, .int .i64 (0), .int .i64 (0), .int .i64 (0), .int .i64 (0)]] W2 := Ha4
  clear Ha4
  clear hu3
  refine ops_nil ?_
  refine then_n ?_
  refine wp_seq ?_
  refine reg_seq [0, 1, 2, 3] rfl ?_
  refine ops_cons ?_
  refine op_pure rfl (rn_move rfl) rfl rfl ?_
  refine ops_cons ?_
  refine op_pure rfl (rn_move rfl) rfl rfl ?_
  refine ops_cons ?_
  refine op_pure rfl (rn_build (vs := [(0, .int .i64 (3)), (7, .int .i64 (p)), (8, .int .i64 (q)), (9, .int .i64 (1))]) (cells := #[.int .i64 (3), .int .i64 (0), .slice none 0 0, .int .i64 (0), .int .i64 (0), .int .i64 (0), .slice none 0 0, .slice none 0 0, .int .i64 (p), .int .i64 (q), .int .i64 (1), .int .i64 (0)]) rfl (by kernel_rfl)) rfl rfl ?_
  refine ops_cons ?_
  refine op_storeW rfl Tryz.sizeOf171 rfl rfl rfl rfl (by simp [Value.oneCell']) H5 ?_
  intro W6 hu7 Ha8
  clear H5
  have H9 : St w No [hB g_0_0 171 #[.int .i64 (3), .int .i64 (0), .slice none 0 0, .int .i64 (0), .int .i64 (0), .int .i64 (0), .slice none 0 0, .slice none 0 0, .int .i64 (p), .int .i64 (q), .int .i64 (1), .int .i64 (0)]] W6 := Ha8
  clear Ha8
  clear hu7
  refine ops_nil ?_
  refine then_n ?_
  refine wp_ret ?_
  refine post_cell (.inl rfl) Tryz.results125 Tryz.isAgg171 Tryz.sizeOf171 rfl (H9.blk 0 rfl) rfl ?_
  have H10 : St w No [hR ki_Value 95 (.slice none 0 0) ([]), hB g_0_0 171 #[.int .i64 (3), .int .i64 (0), .slice none 0 0, .int .i64 (0), .int .i64 (0), .int .i64 (0), .slice none 0 0, .slice none 0 0, .int .i64 (p), .int .i64 (q), .int .i64 (1), .int .i64 (0)]] W6 := H9.add0 (q := hR ki_Value 95 (.slice none 0 0) []) R_nil
  clear H9
  have H11 : St w No [hR ki_Sent 235 (.slice none 0 0) ([]), hR ki_Value 95 (.slice none 0 0) ([]), hB g_0_0 171 #[.int .i64 (3), .int .i64 (0), .slice none 0 0, .int .i64 (0), .int .i64 (0), .int .i64 (0), .slice none 0 0, .slice none 0 0, .int .i64 (p), .int .i64 (q), .int .i64 (1), .int .i64 (0)]] W6 := H10.add0 (q := hR ki_Sent 235 (.slice none 0 0) []) R_nil
  clear H10
  have H12 : St w No [hR ki_Asker 285 (.slice none 0 0) ([]), hR ki_Sent 235 (.slice none 0 0) ([]), hR ki_Value 95 (.slice none 0 0) ([]), hB g_0_0 171 #[.int .i64 (3), .int .i64 (0), .slice none 0 0, .int .i64 (0), .int .i64 (0), .int .i64 (0), .slice none 0 0, .slice none 0 0, .int .i64 (p), .int .i64 (q), .int .i64 (1), .int .i64 (0)]] W6 := H11.add0 (q := hR ki_Asker 285 (.slice none 0 0) []) R_nil
  clear H11
  have H13 : St w No [hR ki_Value 95 (.slice none 0 0) ([]), hR ki_Sent 235 (.slice none 0 0) ([]), hR ki_Asker 285 (.slice none 0 0) ([]), hB g_0_0 171 #[.int .i64 (3), .int .i64 (0), .slice none 0 0, .int .i64 (0), .int .i64 (0), .int .i64 (0), .slice none 0 0, .slice none 0 0, .int .i64 (p), .int .i64 (q), .int .i64 (1), .int .i64 (0)]] W6 := H12.pick [2, 1, 0, 3] (by decide) rfl
  clear H12
  have H14 : St w No [hM ki_Entity (prE p q) [.int .i64 (3), .int .i64 (0), .slice none 0 0, .int .i64 (0), .int .i64 (0), .int .i64 (0), .slice none 0 0, .slice none 0 0, .int .i64 (p), .int .i64 (q), .int .i64 (1), .int .i64 (0)], hB g_0_0 171 #[.int .i64 (3), .int .i64 (0), .slice none 0 0, .int .i64 (0), .int .i64 (0), .int .i64 (0), .slice none 0 0, .slice none 0 0, .int .i64 (p), .int .i64 (q), .int .i64 (1), .int .i64 (0)]] W6 := H13.swap (l0 := [hR ki_Value 95 (.slice none 0 0) ([]), hR ki_Sent 235 (.slice none 0 0) ([]), hR ki_Asker 285 (.slice none 0 0) ([])]) (l' := [hM ki_Entity (prE p q) [.int .i64 (3), .int .i64 (0), .slice none 0 0, .int .i64 (0), .int .i64 (0), .int .i64 (0), .slice none 0 0, .slice none 0 0, .int .i64 (p), .int .i64 (q), .int .i64 (1), .int .i64 (0)]]) (fun _ h => Star.one (ki_Entity_close (x := (prE p q)) h))
  clear H13
  have hq := (H14.pick [0] (by decide) rfl : St w No [hM ki_Entity (prE p q) [.int .i64 (3), .int .i64 (0), .slice none 0 0, .int .i64 (0), .int .i64 (0), .int .i64 (0), .slice none 0 0, .slice none 0 0, .int .i64 (p), .int .i64 (q), .int .i64 (1), .int .i64 (0)]] W6).fin1
  exact ⟨_, rfl, hq.1, hq.2⟩
set_option maxHeartbeats 4000000 in
set_option maxRecDepth 100000 in
theorem newLink_i (p : Int) (w : World) : Calls Tryz.prog 148 #[.int .i64 p] w (RetAgg ki_Link (zL p) w) := by
  refine enter 5 [(0, .int .i64 (p))] Tryz.func148 rfl (by kernel_rfl) ?_
  intro xj
  have H1 : St w No [] w := St.enter
  refine wp_seq ?_
  refine reg_seq [0] rfl ?_
  refine ops_cons ?_
  refine op_alloc rfl Tryz.zeroValue178 rfl rfl H1 ?_
  intro g_0_0 W2 hu3 Ha4
  clear H1
  have H5 : St w No [hB g_0_0 178 #[.int .i64 (0), .bool (false), .slice none 0 0, .int .i64 (0), .slice none 0 0, .int .i64 (0), .slice none 0 0]] W2 := Ha4
  clear Ha4
  clear hu3
  refine ops_nil ?_
  refine then_n ?_
  refine wp_seq ?_
  refine reg_seq [0, 1, 2] rfl ?_
  refine ops_cons ?_
  refine op_pure rfl (rn_move rfl) rfl rfl ?_
  refine ops_cons ?_
  refine op_pure rfl (rn_build (vs := [(0, .int .i64 (p)), (1, .bool (true))]) (cells := #[.int .i64 (p), .bool (true), .slice none 0 0, .int .i64 (0), .slice none 0 0, .int .i64 (0), .slice none 0 0]) rfl (by kernel_rfl)) rfl rfl ?_
  refine ops_cons ?_
  refine op_storeW rfl Tryz.sizeOf178 rfl rfl rfl rfl (by simp [Value.oneCell']) H5 ?_
  intro W6 hu7 Ha8
  clear H5
  have H9 : St w No [hB g_0_0 178 #[.int .i64 (p), .bool (true), .slice none 0 0, .int .i64 (0), .slice none 0 0, .int .i64 (0), .slice none 0 0]] W6 := Ha8
  clear Ha8
  clear hu7
  refine ops_nil ?_
  refine then_n ?_
  refine wp_ret ?_
  refine post_cell (.inl rfl) Tryz.results148 Tryz.isAgg178 Tryz.sizeOf178 rfl (H9.blk 0 rfl) rfl ?_
  have H10 : St w No [hR ki_Export 256 (.slice none 0 0) ([]), hB g_0_0 178 #[.int .i64 (p), .bool (true), .slice none 0 0, .int .i64 (0), .slice none 0 0, .int .i64 (0), .slice none 0 0]] W6 := H9.add0 (q := hR ki_Export 256 (.slice none 0 0) []) R_nil
  clear H9
  have H11 : St w No [hR ki_Question 289 (.slice none 0 0) ([]), hR ki_Export 256 (.slice none 0 0) ([]), hB g_0_0 178 #[.int .i64 (p), .bool (true), .slice none 0 0, .int .i64 (0), .slice none 0 0, .int .i64 (0), .slice none 0 0]] W6 := H10.add0 (q := hR ki_Question 289 (.slice none 0 0) []) R_nil
  clear H10
  have H12 : St w No [hR ki_Question 289 (.slice none 0 0) ([]), hR ki_Question 289 (.slice none 0 0) ([]), hR ki_Export 256 (.slice none 0 0) ([]), hB g_0_0 178 #[.int .i64 (p), .bool (true), .slice none 0 0, .int .i64 (0), .slice none 0 0, .int .i64 (0), .slice none 0 0]] W6 := H11.add0 (q := hR ki_Question 289 (.slice none 0 0) []) R_nil
  clear H11
  have H13 : St w No [hR ki_Export 256 (.slice none 0 0) ([]), hR ki_Question 289 (.slice none 0 0) ([]), hR ki_Question 289 (.slice none 0 0) ([]), hB g_0_0 178 #[.int .i64 (p), .bool (true), .slice none 0 0, .int .i64 (0), .slice none 0 0, .int .i64 (0), .slice none 0 0]] W6 := H12.pick [2, 1, 0, 3] (by decide) rfl
  clear H12
  have H14 : St w No [hM ki_Link (zL p) [.int .i64 (p), .bool (true), .slice none 0 0, .int .i64 (0), .slice none 0 0, .int .i64 (0), .slice none 0 0], hB g_0_0 178 #[.int .i64 (p), .bool (true), .slice none 0 0, .int .i64 (0), .slice none 0 0, .int .i64 (0), .slice none 0 0]] W6 := H13.swap (l0 := [hR ki_Export 256 (.slice none 0 0) ([]), hR ki_Question 289 (.slice none 0 0) ([]), hR ki_Question 289 (.slice none 0 0) ([])]) (l' := [hM ki_Link (zL p) [.int .i64 (p), .bool (true), .slice none 0 0, .int .i64 (0), .slice none 0 0, .int .i64 (0), .slice none 0 0]]) (fun _ h => Star.one (ki_Link_close (x := (zL p)) h))
  clear H13
  have hq := (H14.pick [0] (by decide) rfl : St w No [hM ki_Link (zL p) [.int .i64 (p), .bool (true), .slice none 0 0, .int .i64 (0), .slice none 0 0, .int .i64 (0), .slice none 0 0]] W6).fin1
  exact ⟨_, rfl, hq.1, hq.2⟩
set_option maxHeartbeats 4000000 in
set_option maxRecDepth 100000 in
theorem newProxy_i (p q : Int) (w : World) : Calls Tryz.prog 150 #[.int .i64 p, .int .i64 q] w (RetAgg ki_Entity (prE p q) w) := by
  refine enter 8 [(0, .int .i64 (p)), (1, .int .i64 (q))] Tryz.func150 rfl (by kernel_rfl) ?_
  intro xj
  have H1 : St w No [] w := St.enter
  refine wp_seq ?_
  refine reg_seq [0] rfl ?_
  refine ops_cons ?_
  refine op_alloc rfl Tryz.zeroValue171 rfl rfl H1 ?_
  intro g_0_0 W2 hu3 Ha4
  clear H1
  have H5 : St w No [hB g_0_0 171 #[.int .i64 (0), .int .i64 (0), .slice none 0 0, .int .i64 (0), .int .i64 (0), .int .i64 (0), .slice none 0 0, .slice none 0 0, .int .i64 (0), .int .i64 (0), .int .i64 (0), .int .i64 (0)]] W2 := Ha4
  clear Ha4
  clear hu3
  refine ops_nil ?_
  refine then_n ?_
  refine wp_seq ?_
  refine reg_seq [0, 1, 2, 3] rfl ?_
  refine ops_cons ?_
  refine op_pure rfl (rn_move rfl) rfl rfl ?_
  refine ops_cons ?_
  refine op_pure rfl (rn_move rfl) rfl rfl ?_
  refine ops_cons ?_
  refine op_pure rfl (rn_build (vs := [(0, .int .i64 (3)), (7, .int .i64 (p)), (8, .int .i64 (q)), (9, .int .i64 (1))]) (cells := #[.int .i64 (3), .int .i64 (0), .slice none 0 0, .int .i64 (0), .int .i64 (0), .int .i64 (0), .slice none 0 0, .slice none 0 0, .int .i64 (p), .int .i64 (q), .int .i64 (1), .int .i64 (0)]) rfl (by kernel_rfl)) rfl rfl ?_
  refine ops_cons ?_
  refine op_storeW rfl Tryz.sizeOf171 rfl rfl rfl rfl (by simp [Value.oneCell']) H5 ?_
  intro W6 hu7 Ha8
  clear H5
  have H9 : St w No [hB g_0_0 171 #[.int .i64 (3), .int .i64 (0), .slice none 0 0, .int .i64 (0), .int .i64 (0), .int .i64 (0), .slice none 0 0, .slice none 0 0, .int .i64 (p), .int .i64 (q), .int .i64 (1), .int .i64 (0)]] W6 := Ha8
  clear Ha8
  clear hu7
  refine ops_nil ?_
  refine then_n ?_
  refine wp_ret ?_
  refine post_cell (.inl rfl) Tryz.results150 Tryz.isAgg171 Tryz.sizeOf171 rfl (H9.blk 0 rfl) rfl ?_
  have H10 : St w No [hR ki_Value 95 (.slice none 0 0) ([]), hB g_0_0 171 #[.int .i64 (3), .int .i64 (0), .slice none 0 0, .int .i64 (0), .int .i64 (0), .int .i64 (0), .slice none 0 0, .slice none 0 0, .int .i64 (p), .int .i64 (q), .int .i64 (1), .int .i64 (0)]] W6 := H9.add0 (q := hR ki_Value 95 (.slice none 0 0) []) R_nil
  clear H9
  have H11 : St w No [hR ki_Sent 235 (.slice none 0 0) ([]), hR ki_Value 95 (.slice none 0 0) ([]), hB g_0_0 171 #[.int .i64 (3), .int .i64 (0), .slice none 0 0, .int .i64 (0), .int .i64 (0), .int .i64 (0), .slice none 0 0, .slice none 0 0, .int .i64 (p), .int .i64 (q), .int .i64 (1), .int .i64 (0)]] W6 := H10.add0 (q := hR ki_Sent 235 (.slice none 0 0) []) R_nil
  clear H10
  have H12 : St w No [hR ki_Asker 285 (.slice none 0 0) ([]), hR ki_Sent 235 (.slice none 0 0) ([]), hR ki_Value 95 (.slice none 0 0) ([]), hB g_0_0 171 #[.int .i64 (3), .int .i64 (0), .slice none 0 0, .int .i64 (0), .int .i64 (0), .int .i64 (0), .slice none 0 0, .slice none 0 0, .int .i64 (p), .int .i64 (q), .int .i64 (1), .int .i64 (0)]] W6 := H11.add0 (q := hR ki_Asker 285 (.slice none 0 0) []) R_nil
  clear H11
  have H13 : St w No [hR ki_Value 95 (.slice none 0 0) ([]), hR ki_Sent 235 (.slice none 0 0) ([]), hR ki_Asker 285 (.slice none 0 0) ([]), hB g_0_0 171 #[.int .i64 (3), .int .i64 (0), .slice none 0 0, .int .i64 (0), .int .i64 (0), .int .i64 (0), .slice none 0 0, .slice none 0 0, .int .i64 (p), .int .i64 (q), .int .i64 (1), .int .i64 (0)]] W6 := H12.pick [2, 1, 0, 3] (by decide) rfl
  clear H12
  have H14 : St w No [hM ki_Entity (prE p q) [.int .i64 (3), .int .i64 (0), .slice none 0 0, .int .i64 (0), .int .i64 (0), .int .i64 (0), .slice none 0 0, .slice none 0 0, .int .i64 (p), .int .i64 (q), .int .i64 (1), .int .i64 (0)], hB g_0_0 171 #[.int .i64 (3), .int .i64 (0), .slice none 0 0, .int .i64 (0), .int .i64 (0), .int .i64 (0), .slice none 0 0, .slice none 0 0, .int .i64 (p), .int .i64 (q), .int .i64 (1), .int .i64 (0)]] W6 := H13.swap (l0 := [hR ki_Value 95 (.slice none 0 0) ([]), hR ki_Sent 235 (.slice none 0 0) ([]), hR ki_Asker 285 (.slice none 0 0) ([])]) (l' := [hM ki_Entity (prE p q) [.int .i64 (3), .int .i64 (0), .slice none 0 0, .int .i64 (0), .int .i64 (0), .int .i64 (0), .slice none 0 0, .slice none 0 0, .int .i64 (p), .int .i64 (q), .int .i64 (1), .int .i64 (0)]]) (fun _ h => Star.one (ki_Entity_close (x := (prE p q)) h))
  clear H13
  have hq := (H14.pick [0] (by decide) rfl : St w No [hM ki_Entity (prE p q) [.int .i64 (3), .int .i64 (0), .slice none 0 0, .int .i64 (0), .int .i64 (0), .int .i64 (0), .slice none 0 0, .slice none 0 0, .int .i64 (p), .int .i64 (q), .int .i64 (1), .int .i64 (0)]] W6).fin1
  exact ⟨_, rfl, hq.1, hq.2⟩
end Go.Proofs.YtfnedoiplblldaaGreatFam
