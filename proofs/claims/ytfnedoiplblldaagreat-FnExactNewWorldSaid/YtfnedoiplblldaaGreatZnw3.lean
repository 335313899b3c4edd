/- What the row needs, packed. No conditions beyond those that each law names. -/
import Derived.Test.YtfnedoiplblldaaGreatZnw2
import Derived.Test.YtfnedoiplblldaaGreatProg
import Derived.Test.YtfnedoiplblldaaGreatZnw1
import Derived.WalkKit
import Derived.KernelRfl
import Derived.RowKit3
import Derived.Deep.LoopGhost
import Derived.Deep.QuietTactic
import Derived.BigQuiet
import Derived.StillTailTactics
import Derived.Deep.RegionHeld3
import Derived.Deep.RegionLaw
import Derived.Deep.DeepCutAuto
import Derived.Deep.Slices
import Derived.ChangeArms
import Derived.WideShapes
namespace Go.Proofs.YtfnedoiplblldaaGreatFam
open Go.ChangeShapes Go.WideShapes Go.RowKit Go.Proofs.YtfnedoiplblldaaGreatSep Go.Proofs.YtfnedoiplblldaaGreatT Go.Proofs.YtfnedoiplblldaaGreatK
set_option linter.unusedVariables false
set_option linter.unusedSimpArgs false
attribute [local irreducible] wpOps wpOp
set_option maxHeartbeats 4000000
set_option maxRecDepth 100000
def objE (s : Int) (sl : List GValue) : GEntity := ⟨1, s, sl, 0, ⟨0, 0⟩, [], [], 0, 0, 0, 0⟩
def dS (ps : List Int) (i : Nat) : List GLink := (ps.take i).map (fun p => pxV 0 (zL p))
def dU (sc : Int) (ps : List Int) (i : Nat) : List GEntity := objE sc [] :: (ps.take i).map (fun p => prE p 1)
def nvV (id : Int) (ps : List Int) (sc : Int) : GVat := ⟨id, dU sc ps ps.length, [], dS ps ps.length, []⟩
theorem nvLs_len (ps : List Int) (i : Nat) (h : i ≤ ps.length) : (dS ps i).length = i := by unfold dS; rw [List.length_map, List.length_take, Nat.min_eq_left h]
theorem nvEs_len (sc : Int) (ps : List Int) (i : Nat) (h : i ≤ ps.length) : (dU sc ps i).length = i + 1 := by unfold dU; rw [List.length_cons, List.length_map, List.length_take, Nat.min_eq_left h]
theorem nvLs_succ (ps : List Int) (i : Nat) (h : i < ps.length) : dS ps i ++ [pxV 0 (zL ps[i])] = dS ps (i + 1) := by
 unfold dS
 rw [List.take_succ_eq_append_getElem h, List.map_append]
 rfl
theorem nvEs_succ (sc : Int) (ps : List Int) (i : Nat) (h : i < ps.length) : dU sc ps i ++ [prE ps[i] 1] = dU sc ps (i + 1) := by
 unfold dU
 rw [List.take_succ_eq_append_getElem h, List.map_append]
 rfl
theorem newObject_s (s : Int) (sl : List GValue) (A : Option Addr) (c : Nat) (w : World) (hC : C bF w A sl) (hsl : sl.length ≤ 4194304) : Calls Tryz.prog 118 #[.int .i64 s, .slice A sl.length c] w (iT aS (objE s sl) w) := by
 refine enter 10 [(0, .int .i64 (s)), (1, .slice A sl.length c)] Tryz.func118 rfl kR ?_
 intro xj
 have H1 : St w No [] w := St.enter
 refine wp_seq ?_
 refine aH [0] rfl ?_
 refine aA ?_
 refine eU rfl Tryz.zeroValue171 rfl rfl H1 ?_
 intro g_0_0 W2 hu3 Ha4; clear H1; clear hu3
 refine aI ?_
 refine aG ?_
 refine wp_seq ?_
 refine aH [0, 1, 2, 3, 4, 5] rfl ?_
 refine aA ?_
 refine aB rfl (aF rfl) rfl rfl ?_
 refine aA ?_
 refine kK (dk := bF) rfl Tryz.runUnderlying85 Tryz.sizeOf95 rfl rfl Ha4 ?_
 intro A_1_1 W6 hu7 Ha8; clear Ha4; clear hu7
 refine aA ?_
 refine aB rfl (aF rfl) rfl rfl ?_
 refine aA ?_
 refine op_appendN' (xs := []) (ys := sl) (n' := sl.length) (zs := sl) rfl Tryz.underlying85 ki_Value_info rfl kD kD flat_Value rfl rfl (aO Ha8.1 hC) (by simp; omega) (by simp) (List.nil_append _) rfl rfl Ha8 ?_
 intro B_1_3 c_1_3 W10 Ha11; clear Ha8
 refine aA ?_
 refine aB rfl (gW (vs := [(0, .int .i64 (1)), (1, .int .i64 (s)), (2, .slice B_1_3 sl.length c_1_3)]) (cells := #[.int .i64 (1), .int .i64 (s), .slice B_1_3 sl.length c_1_3, .int .i64 (0), .int .i64 (0), .int .i64 (0), .slice none 0 0, .slice none 0 0, .int .i64 (0), .int .i64 (0), .int .i64 (0), .int .i64 (0)]) rfl kR) rfl rfl ?_
 refine aA ?_
 have H16 : St w No [hB g_0_0 171 #[.int .i64 (0), .int .i64 (0), .slice none 0 0, .int .i64 (0), .int .i64 (0), .int .i64 (0), .slice none 0 0, .slice none 0 0, .int .i64 (0), .int .i64 (0), .int .i64 (0), .int .i64 (0)], hR bF 95 (.slice B_1_3 sl.length c_1_3) sl] W10 := Ha11.pick [1, 0] kD rfl; clear Ha11
 refine dR rfl Tryz.sizeOf171 rfl rfl rfl rfl kS H16 ?_
 intro W13 hu14 Ha15; clear H16; clear hu14
 refine aI ?_
 refine aG ?_
 refine wp_ret ?_
 refine iQ (.inl rfl) Tryz.results118 Tryz.isAgg171 Tryz.sizeOf171 rfl (Ha15.blk 0 rfl) rfl ?_
 have H18 : St w No [hR bR 235 (.slice none 0 0) ([]), hB g_0_0 171 #[.int .i64 (1), .int .i64 (s), .slice B_1_3 sl.length c_1_3, .int .i64 (0), .int .i64 (0), .int .i64 (0), .slice none 0 0, .slice none 0 0, .int .i64 (0), .int .i64 (0), .int .i64 (0), .int .i64 (0)], hR bF 95 (.slice B_1_3 sl.length c_1_3) sl] W13 := Ha15.add0 (q := hR bR 235 (.slice none 0 0) []) fP; clear Ha15
 have H19 : St w No [hR cK 285 (.slice none 0 0) ([]), hR bR 235 (.slice none 0 0) ([]), hB g_0_0 171 #[.int .i64 (1), .int .i64 (s), .slice B_1_3 sl.length c_1_3, .int .i64 (0), .int .i64 (0), .int .i64 (0), .slice none 0 0, .slice none 0 0, .int .i64 (0), .int .i64 (0), .int .i64 (0), .int .i64 (0)], hR bF 95 (.slice B_1_3 sl.length c_1_3) sl] W13 := H18.add0 (q := hR cK 285 (.slice none 0 0) []) fP; clear H18
 have H20 : St w No [hR bF 95 (.slice B_1_3 sl.length c_1_3) sl, hR bR 235 (.slice none 0 0) ([]), hR cK 285 (.slice none 0 0) ([]), hB g_0_0 171 #[.int .i64 (1), .int .i64 (s), .slice B_1_3 sl.length c_1_3, .int .i64 (0), .int .i64 (0), .int .i64 (0), .slice none 0 0, .slice none 0 0, .int .i64 (0), .int .i64 (0), .int .i64 (0), .int .i64 (0)]] W13 := H19.pick [3, 1, 0, 2] kD rfl; clear H19
 have H21 : St w No [hM aS (objE s sl) [.int .i64 (1), .int .i64 (s), .slice B_1_3 sl.length c_1_3, .int .i64 (0), .int .i64 (0), .int .i64 (0), .slice none 0 0, .slice none 0 0, .int .i64 (0), .int .i64 (0), .int .i64 (0), .int .i64 (0)], hB g_0_0 171 #[.int .i64 (1), .int .i64 (s), .slice B_1_3 sl.length c_1_3, .int .i64 (0), .int .i64 (0), .int .i64 (0), .slice none 0 0, .slice none 0 0, .int .i64 (0), .int .i64 (0), .int .i64 (0), .int .i64 (0)]] W13 := H20.swap (l0 := [hR bF 95 (.slice B_1_3 sl.length c_1_3) sl, hR bR 235 (.slice none 0 0) ([]), hR cK 285 (.slice none 0 0) ([])]) (l' := [hM aS (objE s sl) [.int .i64 (1), .int .i64 (s), .slice B_1_3 sl.length c_1_3, .int .i64 (0), .int .i64 (0), .int .i64 (0), .slice none 0 0, .slice none 0 0, .int .i64 (0), .int .i64 (0), .int .i64 (0), .int .i64 (0)]]) (fun _ h => Star.one (jF (x := (objE s sl)) h)); clear H20
 have hq := (H21.pick [0] kD rfl : St w No [hM aS (objE s sl) [.int .i64 (1), .int .i64 (s), .slice B_1_3 sl.length c_1_3, .int .i64 (0), .int .i64 (0), .int .i64 (0), .slice none 0 0, .slice none 0 0, .int .i64 (0), .int .i64 (0), .int .i64 (0), .int .i64 (0)]] W13).fin1
 exact ⟨_, rfl, hq.1, hq.2⟩
theorem newObject_i (s : Int) (sl : List GValue) (A : Option Addr) (c : Nat) (w : World) (hC : C bF w A sl) (hsl : sl.length ≤ 4194304) : Calls Tryz.prog 122 #[.int .i64 s, .slice A sl.length c] w (iT aS (objE s sl) w) := by
 refine enter 9 [(0, .int .i64 (s)), (1, .slice A sl.length c)] Tryz.func122 rfl kR ?_
 intro xj
 have H1 : St w No [] w := St.enter
 refine wp_seq ?_
 refine aH [0] rfl ?_
 refine aA ?_
 refine eU rfl Tryz.zeroValue171 rfl rfl H1 ?_
 intro g_0_0 W2 hu3 Ha4; clear H1; clear hu3
 refine aI ?_
 refine aG ?_
 refine wp_seq ?_
 refine aH [0, 1, 2, 3, 4] rfl ?_
 refine aA ?_
 refine aB rfl (aF rfl) rfl rfl ?_
 refine aA ?_
 refine aB rfl (aF rfl) rfl rfl ?_
 refine aA ?_
 refine dJ rfl Tryz.call184 (vs := #[.slice A sl.length c]) rfl rfl rfl (clone_Value sl _ _ _ (aO Ha4.1 hC) hsl) ?_
 rintro e10 W9 ⟨v6, rfl, hR7, hu8⟩; refine ⟨_, rfl, ?_⟩
 obtain ⟨B_1_2, c_1_2, rfl⟩ := bK hR7
 have H11 := Ha4.new (q := hR bF 95 (.slice B_1_2 sl.length c_1_2) sl) hu8 hR7; clear Ha4
 refine aA ?_
 refine aB rfl (gW (vs := [(0, .int .i64 (1)), (1, .int .i64 (s)), (2, .slice B_1_2 sl.length c_1_2)]) (cells := #[.int .i64 (1), .int .i64 (s), .slice B_1_2 sl.length c_1_2, .int .i64 (0), .int .i64 (0), .int .i64 (0), .slice none 0 0, .slice none 0 0, .int .i64 (0), .int .i64 (0), .int .i64 (0), .int .i64 (0)]) rfl kR) rfl rfl ?_
 refine aA ?_
 have H15 : St w No [hB g_0_0 171 #[.int .i64 (0), .int .i64 (0), .slice none 0 0, .int .i64 (0), .int .i64 (0), .int .i64 (0), .slice none 0 0, .slice none 0 0, .int .i64 (0), .int .i64 (0), .int .i64 (0), .int .i64 (0)], hR bF 95 (.slice B_1_2 sl.length c_1_2) sl] W9 := H11.pick [1, 0] kD rfl; clear H11
 refine dR rfl Tryz.sizeOf171 rfl rfl rfl rfl kS H15 ?_
 intro W12 hu13 Ha14; clear H15; clear hu13
 refine aI ?_
 refine aG ?_
 refine wp_ret ?_
 refine iQ (.inl rfl) Tryz.results122 Tryz.isAgg171 Tryz.sizeOf171 rfl (Ha14.blk 0 rfl) rfl ?_
 have H17 : St w No [hR bR 235 (.slice none 0 0) ([]), hB g_0_0 171 #[.int .i64 (1), .int .i64 (s), .slice B_1_2 sl.length c_1_2, .int .i64 (0), .int .i64 (0), .int .i64 (0), .slice none 0 0, .slice none 0 0, .int .i64 (0), .int .i64 (0), .int .i64 (0), .int .i64 (0)], hR bF 95 (.slice B_1_2 sl.length c_1_2) sl] W12 := Ha14.add0 (q := hR bR 235 (.slice none 0 0) []) fP; clear Ha14
 have H18 : St w No [hR cK 285 (.slice none 0 0) ([]), hR bR 235 (.slice none 0 0) ([]), hB g_0_0 171 #[.int .i64 (1), .int .i64 (s), .slice B_1_2 sl.length c_1_2, .int .i64 (0), .int .i64 (0), .int .i64 (0), .slice none 0 0, .slice none 0 0, .int .i64 (0), .int .i64 (0), .int .i64 (0), .int .i64 (0)], hR bF 95 (.slice B_1_2 sl.length c_1_2) sl] W12 := H17.add0 (q := hR cK 285 (.slice none 0 0) []) fP; clear H17
 have H19 : St w No [hR bF 95 (.slice B_1_2 sl.length c_1_2) sl, hR bR 235 (.slice none 0 0) ([]), hR cK 285 (.slice none 0 0) ([]), hB g_0_0 171 #[.int .i64 (1), .int .i64 (s), .slice B_1_2 sl.length c_1_2, .int .i64 (0), .int .i64 (0), .int .i64 (0), .slice none 0 0, .slice none 0 0, .int .i64 (0), .int .i64 (0), .int .i64 (0), .int .i64 (0)]] W12 := H18.pick [3, 1, 0, 2] kD rfl; clear H18
 have H20 : St w No [hM aS (objE s sl) [.int .i64 (1), .int .i64 (s), .slice B_1_2 sl.length c_1_2, .int .i64 (0), .int .i64 (0), .int .i64 (0), .slice none 0 0, .slice none 0 0, .int .i64 (0), .int .i64 (0), .int .i64 (0), .int .i64 (0)], hB g_0_0 171 #[.int .i64 (1), .int .i64 (s), .slice B_1_2 sl.length c_1_2, .int .i64 (0), .int .i64 (0), .int .i64 (0), .slice none 0 0, .slice none 0 0, .int .i64 (0), .int .i64 (0), .int .i64 (0), .int .i64 (0)]] W12 := H19.swap (l0 := [hR bF 95 (.slice B_1_2 sl.length c_1_2) sl, hR bR 235 (.slice none 0 0) ([]), hR cK 285 (.slice none 0 0) ([])]) (l' := [hM aS (objE s sl) [.int .i64 (1), .int .i64 (s), .slice B_1_2 sl.length c_1_2, .int .i64 (0), .int .i64 (0), .int .i64 (0), .slice none 0 0, .slice none 0 0, .int .i64 (0), .int .i64 (0), .int .i64 (0), .int .i64 (0)]]) (fun _ h => Star.one (jF (x := (objE s sl)) h)); clear H19
 have hq := (H20.pick [0] kD rfl : St w No [hM aS (objE s sl) [.int .i64 (1), .int .i64 (s), .slice B_1_2 sl.length c_1_2, .int .i64 (0), .int .i64 (0), .int .i64 (0), .slice none 0 0, .slice none 0 0, .int .i64 (0), .int .i64 (0), .int .i64 (0), .int .i64 (0)]] W12).fin1
 exact ⟨_, rfl, hq.1, hq.2⟩
theorem newVat_s (id : Int) (ps : List Int) (sc : Int) (A : Option Addr) (c : Nat) (w : World) (hC : C Kn.int w A ps) (hn : ps.length ≤ 1048576) : Calls Tryz.prog 77 #[.int .i64 id, .slice A ps.length c, .int .i64 sc] w (iT dK (nvV id ps sc) w) := by
 refine enter 49 [(0, .int .i64 (id)), (1, .slice A ps.length c), (2, .int .i64 (sc))] Tryz.func77 rfl kR ?_
 intro xj
 have H1 : St w No [] w := St.enter
 refine wp_seq ?_
 refine aH [0] rfl ?_
 refine aA ?_
 refine eU rfl Tryz.zeroValue68 rfl rfl H1 ?_
 intro g_0_0 W2 hu3 Ha4; clear H1; clear hu3
 refine aI ?_
 refine aG ?_
 refine wp_seq ?_
 refine aH [0, 1, 2, 3, 4, 5, 6, 7] rfl ?_
 refine aA ?_
 refine aB rfl (aF rfl) rfl rfl ?_
 refine aA ?_
 refine aB rfl (aF rfl) rfl rfl ?_
 refine aA ?_
 refine kK (dk := bF) rfl Tryz.runUnderlying85 Tryz.sizeOf95 rfl rfl Ha4 ?_
 intro A_1_2 W6 hu7 Ha8; clear Ha4; clear hu7
 refine aA ?_
 refine dJ rfl Tryz.call118 (vs := #[.int .i64 (sc), .slice A_1_2 0 0]) rfl rfl rfl (newObject_s sc ([]) _ _ _ (Ha8.rowC 0 rfl) (by simp)) ?_
 rintro e13 W12 ⟨cs_1_3, rfl, hM10, hu11⟩; refine ⟨_, rfl, ?_⟩
 have hl14 := fA (aS.eT hM10)
 have ho15 := jU (aS.eT hM10)
 have H16 := Ha8.new (q := hM aS (objE sc ([])) cs_1_3) hu11 hM10; clear Ha8
 refine aA ?_
 refine fQ rfl Tryz.runUnderlying63 Tryz.sizeOf171 kD Tryz.zeroValue171 rfl (fA (H16.kn 0 rfl)) rfl rfl H16 ?_
 intro g_1_4 W17 hu18 Ha19; clear H16; clear hu18
 have H21 : St w No [hR aS 171 (.slice (some ⟨g_1_4, 0, none⟩) 1 1) ([(objE sc [])]), hR bF 95 (.slice A_1_2 0 0) ([]), hB g_0_0 68 #[.int .i64 (0), .slice none 0 0, .slice none 0 0, .slice none 0 0, .slice none 0 0]] W17 := Ha19.boxrow (fA (Ha19.kn 1 rfl)); clear Ha19
 refine aA ?_
 refine aB rfl (gW (vs := [(0, .int .i64 (id)), (1, .slice (some ⟨g_1_4, 0, none⟩) 1 1)]) (cells := #[.int .i64 (id), .slice (some ⟨g_1_4, 0, none⟩) 1 1, .slice none 0 0, .slice none 0 0, .slice none 0 0]) rfl kR) rfl rfl ?_
 refine aA ?_
 refine eU rfl Tryz.zeroValue68 rfl rfl H21 ?_
 intro g_1_6 W22 hu23 Ha24; clear H21; clear hu23
 refine aA ?_
 refine dR rfl Tryz.sizeOf68 rfl rfl rfl rfl kS Ha24 ?_
 intro W26 hu27 Ha28; clear Ha24; clear hu27
 refine aI ?_
 refine aG ?_
 refine wp_seq ?_
 refine wp_seq ?_
 refine aH [0] rfl ?_
 refine aA ?_
 refine aB rfl (aP rfl) rfl rfl ?_
 refine aI ?_
 refine aG ?_
 refine wp_block ?_
 have H30 : St w No [hR bB 178 (.slice none 0 0) ([]), hB g_1_6 68 #[.int .i64 (id), .slice (some ⟨g_1_4, 0, none⟩) 1 1, .slice none 0 0, .slice none 0 0, .slice none 0 0], hR aS 171 (.slice (some ⟨g_1_4, 0, none⟩) 1 1) ([(objE sc [])]), hR bF 95 (.slice A_1_2 0 0) ([]), hB g_0_0 68 #[.int .i64 (0), .slice none 0 0, .slice none 0 0, .slice none 0 0, .slice none 0 0]] W26 := Ha28.add0 (q := hR bB 178 (.slice none 0 0) []) fP; clear Ha28
 refine wp_loop_ghost (fun r a' W' => ∃ (i1 : Nat) (AL : Option Addr) (cL : Nat) (AE : Option Addr) (cE : Nat) (x' : Nat → Value), a' = aZ 49 x' [(1, .slice A ps.length c), (6, .pointer (some ⟨g_0_0, 0, none⟩)), (7, .pointer (some ⟨g_1_6, 0, none⟩)), (8, .int .i64 (((i1 : Nat) : Int)))] ∧ (i1 + r = ps.length) ∧ St w No [hR bB 178 (.slice AL ((dS ps i1).length) cL) (dS ps i1), hB g_1_6 68 #[.int .i64 (id), .slice AE ((dU sc ps i1).length) cE, .slice none 0 0, .slice AL ((dS ps i1).length) cL, .slice none 0 0], hR aS 171 (.slice AE ((dU sc ps i1).length) cE) (dU sc ps i1), hB g_0_0 68 #[.int .i64 (0), .slice none 0 0, .slice none 0 0, .slice none 0 0, .slice none 0 0]] W') ps.length ?_ ?_
 ·exact (bX [(1, .slice A ps.length c), (6, .pointer (some ⟨g_0_0, 0, none⟩)), (7, .pointer (some ⟨g_1_6, 0, none⟩)), (8, .int .i64 (((0 : Nat) : Int)))] rfl).elim fun x' hx => ⟨0, none, 0, (some ⟨g_1_4, 0, none⟩), 1, x', hx, kO, H30.pick [0, 1, 2, 4] kD rfl⟩
 ·rintro r31 _ W32 ⟨i1, AL, cL, AE, cE, x33, rfl, hi1, H34⟩; clear H30
  refine wp_seq ?_
  refine wp_seq ?_
  refine aH [0, 1, 2, 3] rfl ?_
  refine aA ?_
  refine aB rfl (aF rfl) rfl rfl ?_
  refine aA ?_
  refine aB rfl (aF rfl) rfl rfl ?_
  refine aA ?_
  refine aB rfl (rn_len Tryz.runUnderlying129 rfl) rfl rfl ?_
  refine aA ?_
  refine aB rfl (rn_lss rfl rfl) rfl rfl ?_
  refine aI ?_
  refine aG ?_
  refine fE rfl (fun hc35 => ?_) (fun hc35 => ?_)
  ·have hlt1 : i1 < ps.length := by omega
   obtain ⟨ade36, cse36, hAe36, hKe36, hce36⟩ := C_elem hC i1 hlt1
   obtain rfl : cse36 = [.int .i64 ps[i1]] := hKe36
   refine wp_skip ?_
   refine aG ?_
   refine wp_seq ?_
   refine wp_block ?_
   refine wp_seq ?_
   refine aH [0, 1, 2, 3, 4, 5, 6, 7, 8, 9, 10, 11] rfl ?_
   refine aA ?_
   refine aB rfl (aF rfl) rfl rfl ?_
   refine aA ?_
   refine aB rfl (aF rfl) rfl rfl ?_
   refine aA ?_
   refine aB rfl (iR (k := i1) Tryz.runUnderlying129 Tryz.sizeOf3 rfl rfl hAe36 hlt1) rfl rfl ?_
   refine aA ?_
   refine aB rfl (rn_load (v := .int .i64 (ps[i1])) Tryz.isAgg3 rfl (Cat.cell0 (Cat.upd hce36 H34.1) rfl)) rfl rfl ?_
   refine aA ?_
   refine dJ rfl Tryz.call127 (vs := #[.int .i64 (ps[i1])]) rfl rfl rfl (newLink_s (ps[i1]) _) ?_
   rintro e40 W39 ⟨cs_5_4, rfl, hM37, hu38⟩; refine ⟨_, rfl, ?_⟩
   have hl41 := j5 (bB.eT hM37)
   have ho42 := ki_Link_one (bB.eT hM37)
   have H43 := H34.new (q := hM bB (zL (ps[i1])) cs_5_4) hu38 hM37; clear H34
   refine aA ?_
   refine dJ rfl Tryz.call126 (vs := #[.agg (List.toArray cs_5_4), .int .i64 (0)]) rfl rfl rfl (putExport_s (zL (ps[i1])) 0 _ _ (H43.kn 0 rfl) (Nat.le_of_ble_eq_true rfl)) ?_
   rintro e47 W46 ⟨cs_5_5, rfl, hM44, hu45⟩; refine ⟨_, rfl, ?_⟩
   have hl48 := j5 (bB.eT hM44)
   have ho49 := ki_Link_one (bB.eT hM44)
   have H50 := H43.new (q := hM bB (pxV 0 (zL (ps[i1]))) cs_5_5) hu45 hM44; clear H43
   refine aA ?_
   refine aB rfl (aF rfl) rfl rfl ?_
   refine aA ?_
   refine aB rfl (rn_extract (v := .agg (List.toArray cs_5_5)) rfl rfl) rfl rfl ?_
   refine aA ?_
   refine aB rfl (rn_extract (v := .int .i64 ((pxN 0 (zL (ps[i1])).aC (zL (ps[i1])).Next))) rfl rfl) rfl rfl ?_
   refine aA ?_
   refine eU rfl Tryz.zeroValue178 rfl rfl H50 ?_
   intro g_5_9 W51 hu52 Ha53; clear H50; clear hu52
   refine aA ?_
   refine dR rfl Tryz.sizeOf178 rfl rfl (j5 (Ha53.kn 1 rfl)) rfl (ki_Link_one (Ha53.kn 1 rfl)) Ha53 ?_
   intro W55 hu56 Ha57; clear Ha53; clear hu56
   refine aA ?_
   refine aB rfl (aP rfl) rfl rfl ?_
   refine aI ?_
   refine aG ?_
   refine wp_seq ?_
   refine aH [0, 1, 2, 3, 4, 5, 6] rfl ?_
   refine aA ?_
   refine aB rfl (bU fa_68_3 rfl) rfl rfl ?_
   refine aA ?_
   refine aB rfl (dZ (k := 3) (v := .slice AL ((dS ps i1).length) cL) Tryz.isAgg65 rfl (Ha57.blk 4 rfl) rfl) rfl rfl ?_
   refine aA ?_
   refine aB rfl (fK Tryz.isAgg178 Tryz.sizeOf178 rfl (Ha57.blk 0 rfl) (j5 (Ha57.kn 1 rfl))) rfl rfl ?_
   refine aA ?_
   refine fQ rfl Tryz.runUnderlying65 Tryz.sizeOf178 kD Tryz.zeroValue178 rfl (j5 (Ha57.kn 1 rfl)) rfl rfl Ha57 ?_
   intro g_6_3 W59 hu60 Ha61; clear Ha57; clear hu60
   refine aA ?_
   have H65 : St w No [hR bB 178 (.slice AL ((dS ps i1).length) cL) (dS ps i1), hB g_6_3 178 (List.toArray cs_5_5), hM bB (pxV 0 (zL (ps[i1]))) cs_5_5, hB g_5_9 178 (List.toArray cs_5_5), hM bB (zL (ps[i1])) cs_5_4, hB g_1_6 68 #[.int .i64 (id), .slice AE ((dU sc ps i1).length) cE, .slice none 0 0, .slice AL ((dS ps i1).length) cL, .slice none 0 0], hR aS 171 (.slice AE ((dU sc ps i1).length) cE) (dU sc ps i1), hB g_0_0 68 #[.int .i64 (0), .slice none 0 0, .slice none 0 0, .slice none 0 0, .slice none 0 0]] W59 := Ha61.pick [4, 0, 2, 1, 3, 5, 6, 7] kD rfl; clear Ha61
   refine iF (xs := (dS ps i1)) (p := (pxV 0 (zL ps[i1]))) (n' := (dS ps (i1 + 1)).length) (ys := (dS ps (i1 + 1))) rfl Tryz.underlying65 ki_Link_info rfl kD kD rfl rfl (by rw [nvLs_len ps i1 kO]; omega) (by rw [nvLs_len ps i1 kO, nvLs_len ps (i1 + 1) kO]) (nvLs_succ ps i1 hlt1) rfl rfl H65 ?_
   intro B_6_4 c_6_4 W63 Ha64; clear H65
   refine aA ?_
   refine aB rfl (bU fa_68_3 rfl) rfl rfl ?_
   refine aA ?_
   have H70 : St w No [hB g_1_6 68 #[.int .i64 (id), .slice AE ((dU sc ps i1).length) cE, .slice none 0 0, .slice AL ((dS ps i1).length) cL, .slice none 0 0], hR bB 178 (.slice B_6_4 ((dS ps (i1 + 1)).length) c_6_4) (dS ps (i1 + 1)), hB g_5_9 178 (List.toArray cs_5_5), hM bB (zL (ps[i1])) cs_5_4, hR aS 171 (.slice AE ((dU sc ps i1).length) cE) (dU sc ps i1), hB g_0_0 68 #[.int .i64 (0), .slice none 0 0, .slice none 0 0, .slice none 0 0, .slice none 0 0]] W63 := Ha64.pick [3, 0, 1, 2, 4, 5] kD rfl; clear Ha64
   refine iU rfl Tryz.sizeOf65 rfl rfl rfl (Nat.le_of_ble_eq_true rfl) (by simp [Value.cells, Value.oneCell']) H70 ?_
   intro W67 hu68 Ha69; clear H70; clear hu68
   refine aI ?_
   refine aG ?_
   refine jX (fun W' => Blk W' g_1_6 68 #[.int .i64 (id), .slice AE ((dU sc ps i1).length) cE, .slice none 0 0, .slice B_6_4 ((dS ps (i1 + 1)).length) c_6_4, .slice none 0 0] ∧ Cat W' (Addr.add ade36 (i1 * 1)) [.int .i64 ps[i1]]) 10 kR ?_
   have H72 := Ha69.drew; clear Ha69
   have hS73 : Blk W67.drew g_1_6 68 #[.int .i64 (id), .slice AE ((dU sc ps i1).length) cE, .slice none 0 0, .slice B_6_4 ((dS ps (i1 + 1)).length) c_6_4, .slice none 0 0] ∧ Cat W67.drew (Addr.add ade36 (i1 * 1)) [.int .i64 ps[i1]] := ⟨H72.blk 0 rfl, (Cat.upd hce36 H72.1)⟩
   refine aY (i := 0) rfl kR kR kR kR kR (fun _ _ _ h => h) rfl rfl hS73 (fun W' hs' => bU fa_68_1 rfl) ?_
   refine aY (i := 1) rfl kR kR kR kR kR (fun _ _ _ h => h) rfl rfl hS73 (fun W' hs' => dZ (k := 1) (v := .slice AE ((dU sc ps i1).length) cE) Tryz.isAgg63 rfl hs'.1 rfl) ?_
   refine aY (i := 2) rfl kR kR kR kR kR (fun _ _ _ h => h) rfl rfl hS73 (fun W' hs' => aF rfl) ?_
   refine aY (i := 3) rfl kR kR kR kR kR (fun _ _ _ h => h) rfl rfl hS73 (fun W' hs' => aF rfl) ?_
   refine aY (i := 4) rfl kR kR kR kR kR (fun _ _ _ h => h) rfl rfl hS73 (fun W' hs' => iR (k := i1) Tryz.runUnderlying129 Tryz.sizeOf3 rfl rfl hAe36 hlt1) ?_
   refine aY (i := 5) rfl kR kR kR kR kR (fun _ _ _ h => h) rfl rfl hS73 (fun W' hs' => rn_load (v := .int .i64 (ps[i1])) Tryz.isAgg3 rfl (Cat.cell0 hs'.2 rfl)) ?_
   refine dY (i := 6) kR ?_
   refine dJ rfl Tryz.call125 (vs := #[.int .i64 (ps[i1]), .int .i64 (1)]) rfl rfl rfl (newProxy_s (ps[i1]) 1 _) ?_
   rintro e77 W76 ⟨cs_7_6, rfl, hM74, hu75⟩; refine ⟨_, rfl, ?_⟩
   have hl78 := fA (aS.eT hM74)
   have ho79 := jU (aS.eT hM74)
   have H80 := H72.new (q := hM aS (prE (ps[i1]) 1) cs_7_6) hu75 hM74; clear H72
   have hS81 := And.intro (H80.blk 1 rfl) ((Cat.upd hce36 H80.1)); refine ⟨fun _ => hS81, ?_⟩
   refine dY (i := 7) kR ?_
   refine fQ rfl Tryz.runUnderlying63 Tryz.sizeOf171 kD Tryz.zeroValue171 rfl (fA (H80.kn 0 rfl)) rfl rfl H80 ?_
   intro g_7_7 W82 hu83 Ha84; clear H80; clear hu83
   have hS86 := And.intro (Ha84.blk 2 rfl) ((Cat.upd hce36 Ha84.1)); refine ⟨fun _ => hS86, ?_⟩
   refine dY (i := 8) kR ?_
   have H89 : St w No [hR aS 171 (.slice AE ((dU sc ps i1).length) cE) (dU sc ps i1), hB g_7_7 171 (List.toArray cs_7_6), hM aS (prE (ps[i1]) 1) cs_7_6, hB g_1_6 68 #[.int .i64 (id), .slice AE ((dU sc ps i1).length) cE, .slice none 0 0, .slice B_6_4 ((dS ps (i1 + 1)).length) c_6_4, .slice none 0 0], hR bB 178 (.slice B_6_4 ((dS ps (i1 + 1)).length) c_6_4) (dS ps (i1 + 1)), hB g_5_9 178 (List.toArray cs_5_5), hM bB (zL (ps[i1])) cs_5_4, hB g_0_0 68 #[.int .i64 (0), .slice none 0 0, .slice none 0 0, .slice none 0 0, .slice none 0 0]] W82 := Ha84.pick [6, 0, 1, 2, 3, 4, 5, 7] kD rfl; clear Ha84
   refine iF (xs := (dU sc ps i1)) (p := (prE ps[i1] 1)) (n' := (dU sc ps (i1 + 1)).length) (ys := (dU sc ps (i1 + 1))) rfl Tryz.underlying63 ki_Entity_info rfl kD kD rfl rfl (by rw [nvEs_len sc ps i1 kO]; omega) (by rw [nvEs_len sc ps i1 kO, nvEs_len sc ps (i1 + 1) kO]) (nvEs_succ sc ps i1 hlt1) rfl rfl H89 ?_
   intro B_7_8 c_7_8 W87 Ha88; clear H89
   have hS91 := And.intro (Ha88.blk 1 rfl) ((Cat.upd hce36 Ha88.1)); refine ⟨fun _ => hS91, ?_⟩
   refine aY (i := 9) rfl kR kR kR kR kR (fun _ _ _ h => h) rfl rfl hS91 (fun W' hs' => bU fa_68_1 rfl) ?_
   refine dY (i := 10) kR ?_
   have H95 : St w No [hB g_1_6 68 #[.int .i64 (id), .slice AE ((dU sc ps i1).length) cE, .slice none 0 0, .slice B_6_4 ((dS ps (i1 + 1)).length) c_6_4, .slice none 0 0], hR aS 171 (.slice B_7_8 ((dU sc ps (i1 + 1)).length) c_7_8) (dU sc ps (i1 + 1)), hR bB 178 (.slice B_6_4 ((dS ps (i1 + 1)).length) c_6_4) (dS ps (i1 + 1)), hB g_5_9 178 (List.toArray cs_5_5), hM bB (zL (ps[i1])) cs_5_4, hB g_0_0 68 #[.int .i64 (0), .slice none 0 0, .slice none 0 0, .slice none 0 0, .slice none 0 0]] W87 := Ha88.pick [1, 0, 2, 3, 4, 5] kD rfl; clear Ha88
   refine iU rfl Tryz.sizeOf63 rfl rfl rfl (Nat.le_of_ble_eq_true rfl) (by simp [Value.cells, Value.oneCell']) H95 ?_
   intro W92 hu93 Ha94; clear H95; clear hu93
   refine ⟨fun h => absS kR h, ?_⟩
   refine jK kR ?_ _
   refine inB_n ?_
   refine aG ?_
   refine aH [0, 1, 2] rfl ?_
   refine aA ?_
   refine aB rfl (aF rfl) rfl rfl ?_
   refine aA ?_
   refine aB rfl (jI (k := i1) rfl rfl kO) rfl rfl ?_
   refine aA ?_
   refine aB rfl (aP rfl) rfl rfl ?_
   refine aI ?_
   refine aG ?_
   exact (bX [(1, .slice A ps.length c), (6, .pointer (some ⟨g_0_0, 0, none⟩)), (7, .pointer (some ⟨g_1_6, 0, none⟩)), (8, .int .i64 (((i1 + 1 : Nat) : Int)))] rfl).elim fun x' hx => ⟨r31 - 1, kO, (i1 + 1), B_6_4, c_6_4, B_7_8, c_7_8, x', hx, kO, Ha94.pick [2, 0, 1, 5] kD rfl⟩
  ·obtain rfl : i1 = ps.length := by omega
   refine wp_exit ?_
   refine gP ?_
   refine gP ?_
   refine inB_x ?_
   refine aG ?_
   refine wp_seq ?_
   refine aH [0, 1] rfl ?_
   refine aA ?_
   refine aB rfl (fK Tryz.isAgg68 Tryz.sizeOf68 rfl (H34.blk 1 rfl) rfl) rfl rfl ?_
   refine aA ?_
   have H100 : St w No [hB g_0_0 68 #[.int .i64 (0), .slice none 0 0, .slice none 0 0, .slice none 0 0, .slice none 0 0], hR bB 178 (.slice AL ((dS ps ps.length).length) cL) (dS ps ps.length), hB g_1_6 68 #[.int .i64 (id), .slice AE ((dU sc ps ps.length).length) cE, .slice none 0 0, .slice AL ((dS ps ps.length).length) cL, .slice none 0 0], hR aS 171 (.slice AE ((dU sc ps ps.length).length) cE) (dU sc ps ps.length)] W32 := H34.pick [3, 0, 1, 2] kD rfl; clear H34
   refine dR rfl Tryz.sizeOf68 rfl rfl rfl rfl kS H100 ?_
   intro W97 hu98 Ha99; clear H100; clear hu98
   refine aI ?_
   refine aG ?_
   refine wp_ret ?_
   have H102 : St w No [hR bR 235 (.slice none 0 0) ([]), hB g_0_0 68 #[.int .i64 (id), .slice AE ((dU sc ps ps.length).length) cE, .slice none 0 0, .slice AL ((dS ps ps.length).length) cL, .slice none 0 0], hR bB 178 (.slice AL ((dS ps ps.length).length) cL) (dS ps ps.length), hB g_1_6 68 #[.int .i64 (id), .slice AE ((dU sc ps ps.length).length) cE, .slice none 0 0, .slice AL ((dS ps ps.length).length) cL, .slice none 0 0], hR aS 171 (.slice AE ((dU sc ps ps.length).length) cE) (dU sc ps ps.length)] W97 := Ha99.add0 (q := hR bR 235 (.slice none 0 0) []) fP; clear Ha99
   have H103 : St w No [hR cO 147 (.slice none 0 0) ([]), hR bR 235 (.slice none 0 0) ([]), hB g_0_0 68 #[.int .i64 (id), .slice AE ((dU sc ps ps.length).length) cE, .slice none 0 0, .slice AL ((dS ps ps.length).length) cL, .slice none 0 0], hR bB 178 (.slice AL ((dS ps ps.length).length) cL) (dS ps ps.length), hB g_1_6 68 #[.int .i64 (id), .slice AE ((dU sc ps ps.length).length) cE, .slice none 0 0, .slice AL ((dS ps ps.length).length) cL, .slice none 0 0], hR aS 171 (.slice AE ((dU sc ps ps.length).length) cE) (dU sc ps ps.length)] W97 := H102.add0 (q := hR cO 147 (.slice none 0 0) []) fP; clear H102
   refine iQ (.inl rfl) Tryz.results77 Tryz.isAgg68 Tryz.sizeOf68 rfl (H103.blk 2 rfl) rfl ?_
   exact ⟨_, rfl, ki_Vat_close (x := (nvV id ps sc)) (H103.pick [5, 1, 3, 0] kD rfl).star, H103.1⟩
theorem newVat_i (id : Int) (ps : List Int) (sc : Int) (A : Option Addr) (c : Nat) (w : World) (hC : C Kn.int w A ps) (hn : ps.length ≤ 1048576) : Calls Tryz.prog 81 #[.int .i64 id, .slice A ps.length c, .int .i64 sc] w (iT dK (nvV id ps sc) w) := by
 refine enter 40 [(0, .int .i64 (id)), (1, .slice A ps.length c), (2, .int .i64 (sc))] Tryz.func81 rfl kR ?_
 intro xj
 have H1 : St w No [] w := St.enter
 refine wp_seq ?_
 refine aH [0] rfl ?_
 refine aA ?_
 refine eU rfl Tryz.zeroValue68 rfl rfl H1 ?_
 intro g_0_0 W2 hu3 Ha4; clear H1; clear hu3
 refine aI ?_
 refine aG ?_
 refine wp_seq ?_
 refine aH [0, 1, 2, 3, 4, 5, 6] rfl ?_
 refine aA ?_
 refine aB rfl (aF rfl) rfl rfl ?_
 refine aA ?_
 refine aB rfl (aF rfl) rfl rfl ?_
 refine aA ?_
 refine dJ rfl Tryz.call122 (vs := #[.int .i64 (sc), .slice none 0 0]) rfl rfl rfl (newObject_i sc ([]) _ _ _ C_nil (by simp)) ?_
 rintro e9 W8 ⟨cs_1_2, rfl, hM6, hu7⟩; refine ⟨_, rfl, ?_⟩
 have hl10 := fA (aS.eT hM6)
 have ho11 := jU (aS.eT hM6)
 have H12 := Ha4.new (q := hM aS (objE sc ([])) cs_1_2) hu7 hM6; clear Ha4
 refine aA ?_
 refine fQ rfl Tryz.runUnderlying63 Tryz.sizeOf171 kD Tryz.zeroValue171 rfl (fA (H12.kn 0 rfl)) rfl rfl H12 ?_
 intro g_1_3 W13 hu14 Ha15; clear H12; clear hu14
 have H17 : St w No [hR aS 171 (.slice (some ⟨g_1_3, 0, none⟩) 1 1) ([(objE sc [])]), hB g_0_0 68 #[.int .i64 (0), .slice none 0 0, .slice none 0 0, .slice none 0 0, .slice none 0 0]] W13 := Ha15.boxrow (fA (Ha15.kn 1 rfl)); clear Ha15
 refine aA ?_
 refine aB rfl (gW (vs := [(0, .int .i64 (id)), (1, .slice (some ⟨g_1_3, 0, none⟩) 1 1)]) (cells := #[.int .i64 (id), .slice (some ⟨g_1_3, 0, none⟩) 1 1, .slice none 0 0, .slice none 0 0, .slice none 0 0]) rfl kR) rfl rfl ?_
 refine aA ?_
 refine eU rfl Tryz.zeroValue68 rfl rfl H17 ?_
 intro g_1_5 W18 hu19 Ha20; clear H17; clear hu19
 refine aA ?_
 refine dR rfl Tryz.sizeOf68 rfl rfl rfl rfl kS Ha20 ?_
 intro W22 hu23 Ha24; clear Ha20; clear hu23
 refine aI ?_
 refine aG ?_
 refine wp_seq ?_
 refine wp_seq ?_
 refine aH [0, 1, 2] rfl ?_
 refine aA ?_
 refine aB rfl (aF rfl) rfl rfl ?_
 refine aA ?_
 refine aB rfl (rn_len Tryz.runUnderlying129 rfl) rfl rfl ?_
 refine aA ?_
 refine aB rfl (aF rfl) rfl rfl ?_
 refine aI ?_
 refine aG ?_
 refine wp_block ?_
 have H26 : St w No [hR bB 178 (.slice none 0 0) ([]), hB g_1_5 68 #[.int .i64 (id), .slice (some ⟨g_1_3, 0, none⟩) 1 1, .slice none 0 0, .slice none 0 0, .slice none 0 0], hR aS 171 (.slice (some ⟨g_1_3, 0, none⟩) 1 1) ([(objE sc [])]), hB g_0_0 68 #[.int .i64 (0), .slice none 0 0, .slice none 0 0, .slice none 0 0, .slice none 0 0]] W22 := Ha24.add0 (q := hR bB 178 (.slice none 0 0) []) fP; clear Ha24
 refine wp_loop_ghost (fun r a' W' => ∃ (i1 : Nat) (AL : Option Addr) (cL : Nat) (AE : Option Addr) (cE : Nat) (x' : Nat → Value), a' = aZ 40 x' [(6, .pointer (some ⟨g_0_0, 0, none⟩)), (7, .pointer (some ⟨g_1_5, 0, none⟩)), (16, .slice A ps.length c), (17, .int .i64 ((ps.length : Nat))), (18, .int .i64 (((i1 : Nat) : Int)))] ∧ (i1 + r = ps.length) ∧ St w No [hR bB 178 (.slice AL ((dS ps i1).length) cL) (dS ps i1), hB g_1_5 68 #[.int .i64 (id), .slice AE ((dU sc ps i1).length) cE, .slice none 0 0, .slice AL ((dS ps i1).length) cL, .slice none 0 0], hR aS 171 (.slice AE ((dU sc ps i1).length) cE) (dU sc ps i1), hB g_0_0 68 #[.int .i64 (0), .slice none 0 0, .slice none 0 0, .slice none 0 0, .slice none 0 0]] W') ps.length ?_ ?_
 ·exact (bX [(6, .pointer (some ⟨g_0_0, 0, none⟩)), (7, .pointer (some ⟨g_1_5, 0, none⟩)), (16, .slice A ps.length c), (17, .int .i64 ((ps.length : Nat))), (18, .int .i64 (((0 : Nat) : Int)))] rfl).elim fun x' hx => ⟨0, none, 0, (some ⟨g_1_3, 0, none⟩), 1, x', hx, kO, H26⟩
 ·rintro r27 _ W28 ⟨i1, AL, cL, AE, cE, x29, rfl, hi1, H30⟩; clear H26
  refine wp_seq ?_
  refine aH [0] rfl ?_
  refine aA ?_
  refine aB rfl (rn_lss rfl rfl) rfl rfl ?_
  refine aI ?_
  refine aG ?_
  refine wp_seq ?_
  refine fE rfl (fun hc31 => ?_) (fun hc31 => ?_)
  ·have hlt1 : i1 < ps.length := by omega
   obtain ⟨ade32, cse32, hAe32, hKe32, hce32⟩ := C_elem hC i1 hlt1
   obtain rfl : cse32 = [.int .i64 ps[i1]] := hKe32
   refine wp_skip ?_
   refine aG ?_
   refine wp_seq ?_
   refine wp_block ?_
   refine wp_seq ?_
   refine aH [0, 1, 2] rfl ?_
   refine aA ?_
   refine aB rfl (iR (k := i1) Tryz.runUnderlying129 Tryz.sizeOf3 rfl rfl hAe32 hlt1) rfl rfl ?_
   refine aA ?_
   refine aB rfl (rn_load (v := .int .i64 (ps[i1])) Tryz.isAgg3 rfl (Cat.cell0 (Cat.upd hce32 H30.1) rfl)) rfl rfl ?_
   refine aA ?_
   refine aB rfl (aP rfl) rfl rfl ?_
   refine aI ?_
   refine aG ?_
   refine wp_seq ?_
   refine aH [0, 1, 2, 3] rfl ?_
   refine aA ?_
   refine aB rfl (aF rfl) rfl rfl ?_
   refine aA ?_
   refine dJ rfl Tryz.call148 (vs := #[.int .i64 (ps[i1])]) rfl rfl rfl (newLink_i (ps[i1]) _) ?_
   rintro e38 W37 ⟨cs33, rfl, hM34, hu35⟩; refine ⟨_, rfl, ?_⟩
   obtain ⟨B_5_1_2, c_5_1_2, B_5_1_4, c_5_1_4, B_5_1_6, c_5_1_6, rfl, hst36⟩ := ki_Link_open hM34
   have H39 := H30.news hu35 hst36; clear H30
   refine aA ?_
   refine eU rfl Tryz.zeroValue178 rfl rfl H39 ?_
   intro g_5_2 W40 hu41 Ha42; clear H39; clear hu41
   refine aA ?_
   refine dR rfl Tryz.sizeOf178 rfl rfl rfl rfl kS Ha42 ?_
   intro W44 hu45 Ha46; clear Ha42; clear hu45
   refine aI ?_
   refine aG ?_
   refine wp_seq ?_
   refine aH [0] rfl ?_
   refine aA ?_
   obtain ⟨F48, hs49, _, hfr50⟩ := St.frame (l0 := [hB g_5_2 178 #[.int .i64 ((zL (ps[i1])).dW), .bool ((zL (ps[i1])).Up), .slice B_5_1_2 ((zL (ps[i1])).aC.length) c_5_1_2, .int .i64 ((zL (ps[i1])).Next), .slice B_5_1_4 ((zL (ps[i1])).aD.length) c_5_1_4, .int .i64 ((zL (ps[i1])).dN), .slice B_5_1_6 ((zL (ps[i1])).aN.length) c_5_1_6], hR aL 256 (.slice B_5_1_2 ((zL (ps[i1])).aC.length) c_5_1_2) ((zL (ps[i1])).aC)]) (l := [hR aJ 289 (.slice B_5_1_4 ((zL (ps[i1])).aD.length) c_5_1_4) ((zL (ps[i1])).aD), hR aJ 289 (.slice B_5_1_6 ((zL (ps[i1])).aN.length) c_5_1_6) ((zL (ps[i1])).aN), hR bB 178 (.slice AL ((dS ps i1).length) cL) (dS ps i1), hB g_1_5 68 #[.int .i64 (id), .slice AE ((dU sc ps i1).length) cE, .slice none 0 0, .slice AL ((dS ps i1).length) cL, .slice none 0 0], hR aS 171 (.slice AE ((dU sc ps i1).length) cE) (dU sc ps i1), hB g_0_0 68 #[.int .i64 (0), .slice none 0 0, .slice none 0 0, .slice none 0 0, .slice none 0 0]]) Ha46
   refine dJ rfl Tryz.call149 (vs := #[.pointer (some ⟨g_5_2, 0, none⟩), .int .i64 (0)]) rfl rfl rfl (put_i ((zL (ps[i1])).aC) 0 ((zL (ps[i1])).Next) _ _ _ _ _ _ _ _ _ _ hs49 (Nat.le_of_ble_eq_true rfl)) ?_
   rintro e53 W52 ⟨A_6_0, c_6_0, rfl, Hn51⟩; refine ⟨_, rfl, ?_⟩
   have H54 := hfr50 _ _ Hn51; clear Ha46
   refine aI ?_
   refine aG ?_
   refine wp_seq ?_
   refine aH [0, 1, 2, 3, 4, 5, 6] rfl ?_
   refine aA ?_
   refine aB rfl (bU fa_68_3 rfl) rfl rfl ?_
   refine aA ?_
   refine aB rfl (dZ (k := 3) (v := .slice AL ((dS ps i1).length) cL) Tryz.isAgg65 rfl (H54.blk 5 rfl) rfl) rfl rfl ?_
   refine aA ?_
   refine aB rfl (fK Tryz.isAgg178 Tryz.sizeOf178 rfl (H54.blk 0 rfl) rfl) rfl rfl ?_
   refine aA ?_
   refine fQ rfl Tryz.runUnderlying65 Tryz.sizeOf178 kD Tryz.zeroValue178 rfl rfl rfl rfl H54 ?_
   intro g_7_3 W55 hu56 Ha57; clear H54; clear hu56
   refine aA ?_
   have H61 : St w No [hR aL 256 (.slice A_6_0 ((pxL 0 ((zL (ps[i1])).aC) ((zL (ps[i1])).Next)).length) c_6_0) (pxL 0 ((zL (ps[i1])).aC) ((zL (ps[i1])).Next)), hR aJ 289 (.slice B_5_1_4 ((zL (ps[i1])).aD.length) c_5_1_4) ((zL (ps[i1])).aD), hR aJ 289 (.slice B_5_1_6 ((zL (ps[i1])).aN.length) c_5_1_6) ((zL (ps[i1])).aN), hB g_7_3 178 #[.int .i64 ((zL (ps[i1])).dW), .bool ((zL (ps[i1])).Up), .slice A_6_0 ((pxL 0 ((zL (ps[i1])).aC) ((zL (ps[i1])).Next)).length) c_6_0, .int .i64 (pxX 0 ((zL (ps[i1])).aC) ((zL (ps[i1])).Next)), .slice B_5_1_4 ((zL (ps[i1])).aD.length) c_5_1_4, .int .i64 ((zL (ps[i1])).dN), .slice B_5_1_6 ((zL (ps[i1])).aN.length) c_5_1_6], hB g_5_2 178 #[.int .i64 ((zL (ps[i1])).dW), .bool ((zL (ps[i1])).Up), .slice A_6_0 ((pxL 0 ((zL (ps[i1])).aC) ((zL (ps[i1])).Next)).length) c_6_0, .int .i64 (pxX 0 ((zL (ps[i1])).aC) ((zL (ps[i1])).Next)), .slice B_5_1_4 ((zL (ps[i1])).aD.length) c_5_1_4, .int .i64 ((zL (ps[i1])).dN), .slice B_5_1_6 ((zL (ps[i1])).aN.length) c_5_1_6], hR bB 178 (.slice AL ((dS ps i1).length) cL) (dS ps i1), hB g_1_5 68 #[.int .i64 (id), .slice AE ((dU sc ps i1).length) cE, .slice none 0 0, .slice AL ((dS ps i1).length) cL, .slice none 0 0], hR aS 171 (.slice AE ((dU sc ps i1).length) cE) (dU sc ps i1), hB g_0_0 68 #[.int .i64 (0), .slice none 0 0, .slice none 0 0, .slice none 0 0, .slice none 0 0]] W55 := Ha57.pick [2, 3, 4, 0, 1, 5, 6, 7, 8] kD rfl; clear Ha57
   have H62 : St w No [hM bB (pxV 0 (zL ps[i1])) [.int .i64 ((zL (ps[i1])).dW), .bool ((zL (ps[i1])).Up), .slice A_6_0 ((pxL 0 ((zL (ps[i1])).aC) ((zL (ps[i1])).Next)).length) c_6_0, .int .i64 (pxX 0 ((zL (ps[i1])).aC) ((zL (ps[i1])).Next)), .slice B_5_1_4 ((zL (ps[i1])).aD.length) c_5_1_4, .int .i64 ((zL (ps[i1])).dN), .slice B_5_1_6 ((zL (ps[i1])).aN.length) c_5_1_6], hB g_7_3 178 #[.int .i64 ((zL (ps[i1])).dW), .bool ((zL (ps[i1])).Up), .slice A_6_0 ((pxL 0 ((zL (ps[i1])).aC) ((zL (ps[i1])).Next)).length) c_6_0, .int .i64 (pxX 0 ((zL (ps[i1])).aC) ((zL (ps[i1])).Next)), .slice B_5_1_4 ((zL (ps[i1])).aD.length) c_5_1_4, .int .i64 ((zL (ps[i1])).dN), .slice B_5_1_6 ((zL (ps[i1])).aN.length) c_5_1_6], hB g_5_2 178 #[.int .i64 ((zL (ps[i1])).dW), .bool ((zL (ps[i1])).Up), .slice A_6_0 ((pxL 0 ((zL (ps[i1])).aC) ((zL (ps[i1])).Next)).length) c_6_0, .int .i64 (pxX 0 ((zL (ps[i1])).aC) ((zL (ps[i1])).Next)), .slice B_5_1_4 ((zL (ps[i1])).aD.length) c_5_1_4, .int .i64 ((zL (ps[i1])).dN), .slice B_5_1_6 ((zL (ps[i1])).aN.length) c_5_1_6], hR bB 178 (.slice AL ((dS ps i1).length) cL) (dS ps i1), hB g_1_5 68 #[.int .i64 (id), .slice AE ((dU sc ps i1).length) cE, .slice none 0 0, .slice AL ((dS ps i1).length) cL, .slice none 0 0], hR aS 171 (.slice AE ((dU sc ps i1).length) cE) (dU sc ps i1), hB g_0_0 68 #[.int .i64 (0), .slice none 0 0, .slice none 0 0, .slice none 0 0, .slice none 0 0]] W55 := H61.swap (l0 := [hR aL 256 (.slice A_6_0 ((pxL 0 ((zL (ps[i1])).aC) ((zL (ps[i1])).Next)).length) c_6_0) (pxL 0 ((zL (ps[i1])).aC) ((zL (ps[i1])).Next)), hR aJ 289 (.slice B_5_1_4 ((zL (ps[i1])).aD.length) c_5_1_4) ((zL (ps[i1])).aD), hR aJ 289 (.slice B_5_1_6 ((zL (ps[i1])).aN.length) c_5_1_6) ((zL (ps[i1])).aN)]) (l' := [hM bB (pxV 0 (zL ps[i1])) [.int .i64 ((zL (ps[i1])).dW), .bool ((zL (ps[i1])).Up), .slice A_6_0 ((pxL 0 ((zL (ps[i1])).aC) ((zL (ps[i1])).Next)).length) c_6_0, .int .i64 (pxX 0 ((zL (ps[i1])).aC) ((zL (ps[i1])).Next)), .slice B_5_1_4 ((zL (ps[i1])).aD.length) c_5_1_4, .int .i64 ((zL (ps[i1])).dN), .slice B_5_1_6 ((zL (ps[i1])).aN.length) c_5_1_6]]) (fun _ h => Star.one (jV (x := (pxV 0 (zL ps[i1]))) h)); clear H61
   have H63 : St w No [hR bB 178 (.slice AL ((dS ps i1).length) cL) (dS ps i1), hB g_7_3 178 #[.int .i64 ((zL (ps[i1])).dW), .bool ((zL (ps[i1])).Up), .slice A_6_0 ((pxL 0 ((zL (ps[i1])).aC) ((zL (ps[i1])).Next)).length) c_6_0, .int .i64 (pxX 0 ((zL (ps[i1])).aC) ((zL (ps[i1])).Next)), .slice B_5_1_4 ((zL (ps[i1])).aD.length) c_5_1_4, .int .i64 ((zL (ps[i1])).dN), .slice B_5_1_6 ((zL (ps[i1])).aN.length) c_5_1_6], hM bB (pxV 0 (zL ps[i1])) [.int .i64 ((zL (ps[i1])).dW), .bool ((zL (ps[i1])).Up), .slice A_6_0 ((pxL 0 ((zL (ps[i1])).aC) ((zL (ps[i1])).Next)).length) c_6_0, .int .i64 (pxX 0 ((zL (ps[i1])).aC) ((zL (ps[i1])).Next)), .slice B_5_1_4 ((zL (ps[i1])).aD.length) c_5_1_4, .int .i64 ((zL (ps[i1])).dN), .slice B_5_1_6 ((zL (ps[i1])).aN.length) c_5_1_6], hB g_5_2 178 #[.int .i64 ((zL (ps[i1])).dW), .bool ((zL (ps[i1])).Up), .slice A_6_0 ((pxL 0 ((zL (ps[i1])).aC) ((zL (ps[i1])).Next)).length) c_6_0, .int .i64 (pxX 0 ((zL (ps[i1])).aC) ((zL (ps[i1])).Next)), .slice B_5_1_4 ((zL (ps[i1])).aD.length) c_5_1_4, .int .i64 ((zL (ps[i1])).dN), .slice B_5_1_6 ((zL (ps[i1])).aN.length) c_5_1_6], hB g_1_5 68 #[.int .i64 (id), .slice AE ((dU sc ps i1).length) cE, .slice none 0 0, .slice AL ((dS ps i1).length) cL, .slice none 0 0], hR aS 171 (.slice AE ((dU sc ps i1).length) cE) (dU sc ps i1), hB g_0_0 68 #[.int .i64 (0), .slice none 0 0, .slice none 0 0, .slice none 0 0, .slice none 0 0]] W55 := H62.pick [3, 1, 0, 2, 4, 5, 6] kD rfl; clear H62
   refine iF (xs := (dS ps i1)) (p := (pxV 0 (zL ps[i1]))) (n' := (dS ps (i1 + 1)).length) (ys := (dS ps (i1 + 1))) rfl Tryz.underlying65 ki_Link_info rfl kD kD rfl rfl (by rw [nvLs_len ps i1 kO]; omega) (by rw [nvLs_len ps i1 kO, nvLs_len ps (i1 + 1) kO]) (nvLs_succ ps i1 hlt1) rfl rfl H63 ?_
   intro B_7_4 c_7_4 W59 Ha60; clear H63
   refine aA ?_
   refine aB rfl (bU fa_68_3 rfl) rfl rfl ?_
   refine aA ?_
   have H68 : St w No [hB g_1_5 68 #[.int .i64 (id), .slice AE ((dU sc ps i1).length) cE, .slice none 0 0, .slice AL ((dS ps i1).length) cL, .slice none 0 0], hR bB 178 (.slice B_7_4 ((dS ps (i1 + 1)).length) c_7_4) (dS ps (i1 + 1)), hB g_5_2 178 #[.int .i64 ((zL (ps[i1])).dW), .bool ((zL (ps[i1])).Up), .slice A_6_0 ((pxL 0 ((zL (ps[i1])).aC) ((zL (ps[i1])).Next)).length) c_6_0, .int .i64 (pxX 0 ((zL (ps[i1])).aC) ((zL (ps[i1])).Next)), .slice B_5_1_4 ((zL (ps[i1])).aD.length) c_5_1_4, .int .i64 ((zL (ps[i1])).dN), .slice B_5_1_6 ((zL (ps[i1])).aN.length) c_5_1_6], hR aS 171 (.slice AE ((dU sc ps i1).length) cE) (dU sc ps i1), hB g_0_0 68 #[.int .i64 (0), .slice none 0 0, .slice none 0 0, .slice none 0 0, .slice none 0 0]] W59 := Ha60.pick [2, 0, 1, 3, 4] kD rfl; clear Ha60
   refine iU rfl Tryz.sizeOf65 rfl rfl rfl (Nat.le_of_ble_eq_true rfl) (by simp [Value.cells, Value.oneCell']) H68 ?_
   intro W65 hu66 Ha67; clear H68; clear hu66
   refine aI ?_
   refine aG ?_
   refine jX (fun W' => Blk W' g_1_5 68 #[.int .i64 (id), .slice AE ((dU sc ps i1).length) cE, .slice none 0 0, .slice B_7_4 ((dS ps (i1 + 1)).length) c_7_4, .slice none 0 0]) 7 kR ?_
   have H70 := Ha67.drew; clear Ha67
   have hS71 : Blk W65.drew g_1_5 68 #[.int .i64 (id), .slice AE ((dU sc ps i1).length) cE, .slice none 0 0, .slice B_7_4 ((dS ps (i1 + 1)).length) c_7_4, .slice none 0 0] := H70.blk 0 rfl
   refine aY (i := 0) rfl kR kR kR kR kR (fun _ _ _ h => h) rfl rfl hS71 (fun W' hs' => bU fa_68_1 rfl) ?_
   refine aY (i := 1) rfl kR kR kR kR kR (fun _ _ _ h => h) rfl rfl hS71 (fun W' hs' => dZ (k := 1) (v := .slice AE ((dU sc ps i1).length) cE) Tryz.isAgg63 rfl hs' rfl) ?_
   refine aY (i := 2) rfl kR kR kR kR kR (fun _ _ _ h => h) rfl rfl hS71 (fun W' hs' => aF rfl) ?_
   refine dY (i := 3) kR ?_
   refine dJ rfl Tryz.call150 (vs := #[.int .i64 (ps[i1]), .int .i64 (1)]) rfl rfl rfl (newProxy_i (ps[i1]) 1 _) ?_
   rintro e75 W74 ⟨cs_8_3, rfl, hM72, hu73⟩; refine ⟨_, rfl, ?_⟩
   have hl76 := fA (aS.eT hM72)
   have ho77 := jU (aS.eT hM72)
   have H78 := H70.new (q := hM aS (prE (ps[i1]) 1) cs_8_3) hu73 hM72; clear H70
   have hS79 := H78.blk 1 rfl; refine ⟨fun _ => hS79, ?_⟩
   refine dY (i := 4) kR ?_
   refine fQ rfl Tryz.runUnderlying63 Tryz.sizeOf171 kD Tryz.zeroValue171 rfl (fA (H78.kn 0 rfl)) rfl rfl H78 ?_
   intro g_8_4 W80 hu81 Ha82; clear H78; clear hu81
   have hS84 := Ha82.blk 2 rfl; refine ⟨fun _ => hS84, ?_⟩
   refine dY (i := 5) kR ?_
   have H87 : St w No [hR aS 171 (.slice AE ((dU sc ps i1).length) cE) (dU sc ps i1), hB g_8_4 171 (List.toArray cs_8_3), hM aS (prE (ps[i1]) 1) cs_8_3, hB g_1_5 68 #[.int .i64 (id), .slice AE ((dU sc ps i1).length) cE, .slice none 0 0, .slice B_7_4 ((dS ps (i1 + 1)).length) c_7_4, .slice none 0 0], hR bB 178 (.slice B_7_4 ((dS ps (i1 + 1)).length) c_7_4) (dS ps (i1 + 1)), hB g_5_2 178 #[.int .i64 ((zL (ps[i1])).dW), .bool ((zL (ps[i1])).Up), .slice A_6_0 ((pxL 0 ((zL (ps[i1])).aC) ((zL (ps[i1])).Next)).length) c_6_0, .int .i64 (pxX 0 ((zL (ps[i1])).aC) ((zL (ps[i1])).Next)), .slice B_5_1_4 ((zL (ps[i1])).aD.length) c_5_1_4, .int .i64 ((zL (ps[i1])).dN), .slice B_5_1_6 ((zL (ps[i1])).aN.length) c_5_1_6], hB g_0_0 68 #[.int .i64 (0), .slice none 0 0, .slice none 0 0, .slice none 0 0, .slice none 0 0]] W80 := Ha82.pick [5, 0, 1, 2, 3, 4, 6] kD rfl; clear Ha82
   refine iF (xs := (dU sc ps i1)) (p := (prE ps[i1] 1)) (n' := (dU sc ps (i1 + 1)).length) (ys := (dU sc ps (i1 + 1))) rfl Tryz.underlying63 ki_Entity_info rfl kD kD rfl rfl (by rw [nvEs_len sc ps i1 kO]; omega) (by rw [nvEs_len sc ps i1 kO, nvEs_len sc ps (i1 + 1) kO]) (nvEs_succ sc ps i1 hlt1) rfl rfl H87 ?_
   intro B_8_5 c_8_5 W85 Ha86; clear H87
   have hS89 := Ha86.blk 1 rfl; refine ⟨fun _ => hS89, ?_⟩
   refine aY (i := 6) rfl kR kR kR kR kR (fun _ _ _ h => h) rfl rfl hS89 (fun W' hs' => bU fa_68_1 rfl) ?_
   refine dY (i := 7) kR ?_
   have H93 : St w No [hB g_1_5 68 #[.int .i64 (id), .slice AE ((dU sc ps i1).length) cE, .slice none 0 0, .slice B_7_4 ((dS ps (i1 + 1)).length) c_7_4, .slice none 0 0], hR aS 171 (.slice B_8_5 ((dU sc ps (i1 + 1)).length) c_8_5) (dU sc ps (i1 + 1)), hR bB 178 (.slice B_7_4 ((dS ps (i1 + 1)).length) c_7_4) (dS ps (i1 + 1)), hB g_5_2 178 #[.int .i64 ((zL (ps[i1])).dW), .bool ((zL (ps[i1])).Up), .slice A_6_0 ((pxL 0 ((zL (ps[i1])).aC) ((zL (ps[i1])).Next)).length) c_6_0, .int .i64 (pxX 0 ((zL (ps[i1])).aC) ((zL (ps[i1])).Next)), .slice B_5_1_4 ((zL (ps[i1])).aD.length) c_5_1_4, .int .i64 ((zL (ps[i1])).dN), .slice B_5_1_6 ((zL (ps[i1])).aN.length) c_5_1_6], hB g_0_0 68 #[.int .i64 (0), .slice none 0 0, .slice none 0 0, .slice none 0 0, .slice none 0 0]] W85 := Ha86.pick [1, 0, 2, 3, 4] kD rfl; clear Ha86
   refine iU rfl Tryz.sizeOf63 rfl rfl rfl (Nat.le_of_ble_eq_true rfl) (by simp [Value.cells, Value.oneCell']) H93 ?_
   intro W90 hu91 Ha92; clear H93; clear hu91
   refine ⟨fun h => absS kR h, ?_⟩
   refine jK kR ?_ _
   refine inB_n ?_
   refine aG ?_
   refine aH [0, 1] rfl ?_
   refine aA ?_
   refine aB rfl (jI (k := i1) rfl rfl kO) rfl rfl ?_
   refine aA ?_
   refine aB rfl (aF rfl) rfl rfl ?_
   refine aI ?_
   refine aG ?_
   exact (bX [(6, .pointer (some ⟨g_0_0, 0, none⟩)), (7, .pointer (some ⟨g_1_5, 0, none⟩)), (16, .slice A ps.length c), (17, .int .i64 ((ps.length : Nat))), (18, .int .i64 (((i1 + 1 : Nat) : Int)))] rfl).elim fun x' hx => ⟨r27 - 1, kO, (i1 + 1), B_7_4, c_7_4, B_8_5, c_8_5, x', hx, kO, Ha92.pick [2, 0, 1, 4] kD rfl⟩
  ·obtain rfl : i1 = ps.length := by omega
   refine wp_exit ?_
   refine gP ?_
   refine gP ?_
   refine inB_x ?_
   refine aG ?_
   refine wp_seq ?_
   refine aH [0, 1] rfl ?_
   refine aA ?_
   refine aB rfl (fK Tryz.isAgg68 Tryz.sizeOf68 rfl (H30.blk 1 rfl) rfl) rfl rfl ?_
   refine aA ?_
   have H98 : St w No [hB g_0_0 68 #[.int .i64 (0), .slice none 0 0, .slice none 0 0, .slice none 0 0, .slice none 0 0], hR bB 178 (.slice AL ((dS ps ps.length).length) cL) (dS ps ps.length), hB g_1_5 68 #[.int .i64 (id), .slice AE ((dU sc ps ps.length).length) cE, .slice none 0 0, .slice AL ((dS ps ps.length).length) cL, .slice none 0 0], hR aS 171 (.slice AE ((dU sc ps ps.length).length) cE) (dU sc ps ps.length)] W28 := H30.pick [3, 0, 1, 2] kD rfl; clear H30
   refine dR rfl Tryz.sizeOf68 rfl rfl rfl rfl kS H98 ?_
   intro W95 hu96 Ha97; clear H98; clear hu96
   refine aI ?_
   refine aG ?_
   refine wp_ret ?_
   have H100 : St w No [hR bR 235 (.slice none 0 0) ([]), hB g_0_0 68 #[.int .i64 (id), .slice AE ((dU sc ps ps.length).length) cE, .slice none 0 0, .slice AL ((dS ps ps.length).length) cL, .slice none 0 0], hR bB 178 (.slice AL ((dS ps ps.length).length) cL) (dS ps ps.length), hB g_1_5 68 #[.int .i64 (id), .slice AE ((dU sc ps ps.length).length) cE, .slice none 0 0, .slice AL ((dS ps ps.length).length) cL, .slice none 0 0], hR aS 171 (.slice AE ((dU sc ps ps.length).length) cE) (dU sc ps ps.length)] W95 := Ha97.add0 (q := hR bR 235 (.slice none 0 0) []) fP; clear Ha97
   have H101 : St w No [hR cO 147 (.slice none 0 0) ([]), hR bR 235 (.slice none 0 0) ([]), hB g_0_0 68 #[.int .i64 (id), .slice AE ((dU sc ps ps.length).length) cE, .slice none 0 0, .slice AL ((dS ps ps.length).length) cL, .slice none 0 0], hR bB 178 (.slice AL ((dS ps ps.length).length) cL) (dS ps ps.length), hB g_1_5 68 #[.int .i64 (id), .slice AE ((dU sc ps ps.length).length) cE, .slice none 0 0, .slice AL ((dS ps ps.length).length) cL, .slice none 0 0], hR aS 171 (.slice AE ((dU sc ps ps.length).length) cE) (dU sc ps ps.length)] W95 := H100.add0 (q := hR cO 147 (.slice none 0 0) []) fP; clear H100
   refine iQ (.inl rfl) Tryz.results81 Tryz.isAgg68 Tryz.sizeOf68 rfl (H101.blk 2 rfl) rfl ?_
   exact ⟨_, rfl, ki_Vat_close (x := (nvV id ps sc)) (H101.pick [5, 1, 3, 0] kD rfl).star, H101.1⟩
theorem l1In_s (x lo hi : Int) (w : World) : Calls Tryz.prog 115 #[.int .i64 x, .int .i64 lo, .int .i64 hi] w (dD (decide (lo ≤ x ∧ x ≤ hi)) w) := by
 by_cases h1 : lo ≤ x
 ·by_cases h2 : x ≤ hi
  ·refine enter 15 [(0, .int .i64 (x)), (1, .int .i64 (lo)), (2, .int .i64 (hi))] Tryz.func115 rfl kR ?_
   intro xj
   have H1 : St w No [] w := St.enter
   refine wp_seq ?_
   refine aH [0] rfl ?_
   refine aA ?_
   refine aB rfl (aP rfl) rfl rfl ?_
   refine aI ?_
   refine aG ?_
   refine wp_seq ?_
   refine aH [0, 1, 2, 3, 4, 5, 6, 7, 8] rfl ?_
   refine aA ?_
   refine aB rfl (aF rfl) rfl rfl ?_
   refine aA ?_
   refine aB rfl (aF rfl) rfl rfl ?_
   refine aA ?_
   refine aB rfl (rn_decT (p := (lo : Int) ≤ x) h1 (rn_geq (p := x) (q := lo) rfl rfl)) rfl rfl ?_
   refine aA ?_
   refine aB rfl (aF rfl) rfl rfl ?_
   refine aA ?_
   refine op_G rfl rfl rfl rfl (fun _ ho2 => ?_)
   refine aB ho2 (aF rfl) rfl rfl ?_
   refine aA ?_
   refine op_G rfl rfl rfl rfl (fun _ ho3 => ?_)
   refine aB ho3 (aF rfl) rfl rfl ?_
   refine aA ?_
   refine op_G rfl rfl rfl rfl (fun _ ho4 => ?_)
   refine aB ho4 (rn_decT (p := (x : Int) ≤ hi) h2 (jH (p := x) (q := hi) rfl rfl)) rfl rfl ?_
   refine aA ?_
   refine aB rfl (rn_pick (v := .bool (true)) (b := true) rfl rfl rfl rfl) rfl rfl ?_
   refine aA ?_
   refine aB rfl (aP rfl) rfl rfl ?_
   refine aI ?_
   refine aG ?_
   refine wp_ret ?_
   refine fJ (.inl rfl) Tryz.results115 rfl ?_
   exact ⟨by rw [decide_eq_true (⟨h1, h2⟩ : lo ≤ x ∧ x ≤ hi)], H1.1⟩
  ·refine enter 15 [(0, .int .i64 (x)), (1, .int .i64 (lo)), (2, .int .i64 (hi))] Tryz.func115 rfl kR ?_
   intro xj
   have H1 : St w No [] w := St.enter
   refine wp_seq ?_
   refine aH [0] rfl ?_
   refine aA ?_
   refine aB rfl (aP rfl) rfl rfl ?_
   refine aI ?_
   refine aG ?_
   refine wp_seq ?_
   refine aH [0, 1, 2, 3, 4, 5, 6, 7, 8] rfl ?_
   refine aA ?_
   refine aB rfl (aF rfl) rfl rfl ?_
   refine aA ?_
   refine aB rfl (aF rfl) rfl rfl ?_
   refine aA ?_
   refine aB rfl (rn_decT (p := (lo : Int) ≤ x) h1 (rn_geq (p := x) (q := lo) rfl rfl)) rfl rfl ?_
   refine aA ?_
   refine aB rfl (aF rfl) rfl rfl ?_
   refine aA ?_
   refine op_G rfl rfl rfl rfl (fun _ ho2 => ?_)
   refine aB ho2 (aF rfl) rfl rfl ?_
   refine aA ?_
   refine op_G rfl rfl rfl rfl (fun _ ho3 => ?_)
   refine aB ho3 (aF rfl) rfl rfl ?_
   refine aA ?_
   refine op_G rfl rfl rfl rfl (fun _ ho4 => ?_)
   refine aB ho4 (jS (p := (x : Int) ≤ hi) h2 (jH (p := x) (q := hi) rfl rfl)) rfl rfl ?_
   refine aA ?_
   refine aB rfl (rn_pick (v := .bool (false)) (b := true) rfl rfl rfl rfl) rfl rfl ?_
   refine aA ?_
   refine aB rfl (aP rfl) rfl rfl ?_
   refine aI ?_
   refine aG ?_
   refine wp_ret ?_
   refine fJ (.inl rfl) Tryz.results115 rfl ?_
   exact ⟨by rw [decide_eq_false (fun q : lo ≤ x ∧ x ≤ hi => h2 q.2)], H1.1⟩
 ·refine enter 15 [(0, .int .i64 (x)), (1, .int .i64 (lo)), (2, .int .i64 (hi))] Tryz.func115 rfl kR ?_
  intro xj
  have H1 : St w No [] w := St.enter
  refine wp_seq ?_
  refine aH [0] rfl ?_
  refine aA ?_
  refine aB rfl (aP rfl) rfl rfl ?_
  refine aI ?_
  refine aG ?_
  refine wp_seq ?_
  refine aH [0, 1, 2, 3, 4, 5, 6, 7, 8] rfl ?_
  refine aA ?_
  refine aB rfl (aF rfl) rfl rfl ?_
  refine aA ?_
  refine aB rfl (aF rfl) rfl rfl ?_
  refine aA ?_
  refine aB rfl (jS (p := (lo : Int) ≤ x) h1 (rn_geq (p := x) (q := lo) rfl rfl)) rfl rfl ?_
  refine aA ?_
  refine aB rfl (aF rfl) rfl rfl ?_
  refine aA ?_
  refine op_skipG rfl rfl rfl rfl rfl rfl rfl ?_
  refine aA ?_
  refine op_skipG rfl rfl rfl rfl rfl rfl rfl ?_
  refine aA ?_
  refine op_skipG rfl rfl rfl rfl rfl rfl rfl ?_
  refine aA ?_
  refine aB rfl (rn_pick (v := .bool (false)) (b := false) rfl rfl rfl rfl) rfl rfl ?_
  refine aA ?_
  refine aB rfl (aP rfl) rfl rfl ?_
  refine aI ?_
  refine aG ?_
  refine wp_ret ?_
  refine fJ (.inl rfl) Tryz.results115 rfl ?_
  exact ⟨by rw [decide_eq_false (fun q : lo ≤ x ∧ x ≤ hi => h1 q.1)], H1.1⟩
theorem in_i (x lo hi : Int) (w : World) : Calls Tryz.prog 119 #[.int .i64 x, .int .i64 lo, .int .i64 hi] w (dD (decide (lo ≤ x ∧ x ≤ hi)) w) := by
 by_cases h1 : lo ≤ x
 ·by_cases h2 : x ≤ hi
  ·refine enter 15 [(0, .int .i64 (x)), (1, .int .i64 (lo)), (2, .int .i64 (hi))] Tryz.func119 rfl kR ?_
   intro xj
   have H1 : St w No [] w := St.enter
   refine wp_seq ?_
   refine aH [0] rfl ?_
   refine aA ?_
   refine aB rfl (aP rfl) rfl rfl ?_
   refine aI ?_
   refine aG ?_
   refine wp_seq ?_
   refine aH [0, 1, 2, 3, 4, 5, 6, 7, 8] rfl ?_
   refine aA ?_
   refine aB rfl (aF rfl) rfl rfl ?_
   refine aA ?_
   refine aB rfl (aF rfl) rfl rfl ?_
   refine aA ?_
   refine aB rfl (rn_decT (p := (lo : Int) ≤ x) h1 (jH (p := lo) (q := x) rfl rfl)) rfl rfl ?_
   refine aA ?_
   refine aB rfl (aF rfl) rfl rfl ?_
   refine aA ?_
   refine op_G rfl rfl rfl rfl (fun _ ho2 => ?_)
   refine aB ho2 (aF rfl) rfl rfl ?_
   refine aA ?_
   refine op_G rfl rfl rfl rfl (fun _ ho3 => ?_)
   refine aB ho3 (aF rfl) rfl rfl ?_
   refine aA ?_
   refine op_G rfl rfl rfl rfl (fun _ ho4 => ?_)
   refine aB ho4 (rn_decT (p := (x : Int) ≤ hi) h2 (jH (p := x) (q := hi) rfl rfl)) rfl rfl ?_
   refine aA ?_
   refine aB rfl (rn_pick (v := .bool (true)) (b := true) rfl rfl rfl rfl) rfl rfl ?_
   refine aA ?_
   refine aB rfl (aP rfl) rfl rfl ?_
   refine aI ?_
   refine aG ?_
   refine wp_ret ?_
   refine fJ (.inl rfl) Tryz.results119 rfl ?_
   exact ⟨by rw [decide_eq_true (⟨h1, h2⟩ : lo ≤ x ∧ x ≤ hi)], H1.1⟩
  ·refine enter 15 [(0, .int .i64 (x)), (1, .int .i64 (lo)), (2, .int .i64 (hi))] Tryz.func119 rfl kR ?_
   intro xj
   have H1 : St w No [] w := St.enter
   refine wp_seq ?_
   refine aH [0] rfl ?_
   refine aA ?_
   refine aB rfl (aP rfl) rfl rfl ?_
   refine aI ?_
   refine aG ?_
   refine wp_seq ?_
   refine aH [0, 1, 2, 3, 4, 5, 6, 7, 8] rfl ?_
   refine aA ?_
   refine aB rfl (aF rfl) rfl rfl ?_
   refine aA ?_
   refine aB rfl (aF rfl) rfl rfl ?_
   refine aA ?_
   refine aB rfl (rn_decT (p := (lo : Int) ≤ x) h1 (jH (p := lo) (q := x) rfl rfl)) rfl rfl ?_
   refine aA ?_
   refine aB rfl (aF rfl) rfl rfl ?_
   refine aA ?_
   refine op_G rfl rfl rfl rfl (fun _ ho2 => ?_)
   refine aB ho2 (aF rfl) rfl rfl ?_
   refine aA ?_
   refine op_G rfl rfl rfl rfl (fun _ ho3 => ?_)
   refine aB ho3 (aF rfl) rfl rfl ?_
   refine aA ?_
   refine op_G rfl rfl rfl rfl (fun _ ho4 => ?_)
   refine aB ho4 (jS (p := (x : Int) ≤ hi) h2 (jH (p := x) (q := hi) rfl rfl)) rfl rfl ?_
   refine aA ?_
   refine aB rfl (rn_pick (v := .bool (false)) (b := true) rfl rfl rfl rfl) rfl rfl ?_
   refine aA ?_
   refine aB rfl (aP rfl) rfl rfl ?_
   refine aI ?_
   refine aG ?_
   refine wp_ret ?_
   refine fJ (.inl rfl) Tryz.results119 rfl ?_
   exact ⟨by rw [decide_eq_false (fun q : lo ≤ x ∧ x ≤ hi => h2 q.2)], H1.1⟩
 ·refine enter 15 [(0, .int .i64 (x)), (1, .int .i64 (lo)), (2, .int .i64 (hi))] Tryz.func119 rfl kR ?_
  intro xj
  have H1 : St w No [] w := St.enter
  refine wp_seq ?_
  refine aH [0] rfl ?_
  refine aA ?_
  refine aB rfl (aP rfl) rfl rfl ?_
  refine aI ?_
  refine aG ?_
  refine wp_seq ?_
  refine aH [0, 1, 2, 3, 4, 5, 6, 7, 8] rfl ?_
  refine aA ?_
  refine aB rfl (aF rfl) rfl rfl ?_
  refine aA ?_
  refine aB rfl (aF rfl) rfl rfl ?_
  refine aA ?_
  refine aB rfl (jS (p := (lo : Int) ≤ x) h1 (jH (p := lo) (q := x) rfl rfl)) rfl rfl ?_
  refine aA ?_
  refine aB rfl (aF rfl) rfl rfl ?_
  refine aA ?_
  refine op_skipG rfl rfl rfl rfl rfl rfl rfl ?_
  refine aA ?_
  refine op_skipG rfl rfl rfl rfl rfl rfl rfl ?_
  refine aA ?_
  refine op_skipG rfl rfl rfl rfl rfl rfl rfl ?_
  refine aA ?_
  refine aB rfl (rn_pick (v := .bool (false)) (b := false) rfl rfl rfl rfl) rfl rfl ?_
  refine aA ?_
  refine aB rfl (aP rfl) rfl rfl ?_
  refine aI ?_
  refine aG ?_
  refine wp_ret ?_
  refine fJ (.inl rfl) Tryz.results119 rfl ?_
  exact ⟨by rw [decide_eq_false (fun q : lo ≤ x ∧ x ≤ hi => h1 q.1)], H1.1⟩
end Go.Proofs.YtfnedoiplblldaaGreatFam
namespace Go.Proofs.YtfnedoiplblldaaGreatFam
open Go.RowKit Go.Proofs.YtfnedoiplblldaaGreatSep Go.Proofs.YtfnedoiplblldaaGreatT Go.Proofs.YtfnedoiplblldaaGreatK
set_option linter.unusedVariables false
set_option linter.unusedSimpArgs false
set_option maxHeartbeats 1000000
set_option maxRecDepth 100000
theorem kl_Script_Kmk (w : World) (x : GScript) {A1 : Option Addr} {c1 : Nat} (hl1 : x.Methods.length ≤ c1) (hC1 : C gH w A1 x.Methods) : jB.K w x [.string x.Name, .slice A1 x.Methods.length c1] := ⟨[_], [_], rfl, rfl, ⟨A1, c1, rfl, hl1, hC1⟩⟩
theorem lI (w : World) (x : GScript) {A1 : Option Addr} {c1 : Nat} (hl1 : x.Methods.length ≤ c1) (hC1 : C bS w A1 x.Methods) : aR.K w x [.string x.Name, .slice A1 x.Methods.length c1] := ⟨[_], [_], rfl, rfl, ⟨A1, c1, rfl, hl1, hC1⟩⟩
theorem to_Script (x : GScript) (cs : List Value) (w : World) (h : jB.K w x cs) (hs : bP x ≤ 1048576) : Calls Tryz.prog 78 #[.agg cs.toArray] w (iT aR x w) := by
 obtain ⟨A1, c1, rfl, hl1, hC1⟩ := kl_Script_K h
 have HC1 := Sd.mk hC1
 clear hC1
 have s_Methods : dP bT x.Methods ≤ 1048576 := by unfold bP at hs; omega
 clear hs
 go_enter Tryz.func78, Tryz.ntmps78
 go_wp2_with fail
 with_reducible refine (toS_Method x.Methods _ _ _ ?hc_Methods s_Methods).mono ?_
 case hc_Methods => exact aO kA HC1.out
 rintro e w_Methods ⟨v1, rfl, hR1, hu⟩
 obtain ⟨B1, b1, rfl⟩ := bK hR1
 obtain ⟨P1, hR1', g1, l1⟩ := fresh_row hR1 (w.heap.size + 1 + 1 + 1) kB
 have ge1 : ∀ b, P1 b → w.heap.size + 1 + 1 < b := fun b hb => by have := g1 b hb; omega
 have n1_1 : ¬ P1 (w.heap.size + 1) := fun q => by have := ge1 _ q; omega
 have n2_1 : ¬ P1 (w.heap.size + 1 + 1) := fun q => by have := ge1 _ q; omega
 have HR1 := Sd.mk hR1'
 have GE1 := Sd.mk ge1
 have LT1 := Sd.mk l1
 have GP1 := Sd.mk g1
 clear hR1 hR1' ge1 l1 g1
 have HB_Methods : Sd (Upd No w w_Methods) := Sd.mk (Upd.then kA hu)
 have cc0_Methods := fun o => hu.bJ (b := w.heap.size) kB (fun q => q) o
 have cc1_Methods := fun o => hu.bJ (b := w.heap.size + 1) kB (fun q => q) o
 have cf1_Methods := fun o => hu.fI (b := w.heap.size + 1) kB (fun q => q) o
 have cc2_Methods := fun o => hu.bJ (b := w.heap.size + 1 + 1) kB (fun q => q) o
 have cf2_Methods := fun o => hu.fI (b := w.heap.size + 1 + 1) kB (fun q => q) o
 have hz_Methods : w.heap.size + 1 + 1 + 1 ≤ w_Methods.heap.size := by have := hu.size; (try simp at this); omega
 clear hu
 go_wp2
 refine bodyPost_ret (v := .agg #[.string x.Name, .slice B1 x.Methods.length b1]) (by simp [results, Tryz.results78, go_sem, cc1_Methods]) rfl ⟨_, rfl, ?_, (by repeat (with_reducible first | exact HB_Methods.out | apply Upd.bZ | apply Upd.bY | apply Upd.bW | apply Upd.alloc | apply Upd.drewN | apply Upd.drew))⟩
 exact jC _ _ _ (R_keep HR1.out (by repeat (with_reducible first | exact Upd.refl _ _ | apply Upd.putP n1_1 | apply Upd.putP n2_1 | apply Upd.alloc))) (fun k hk => by have := GE1.out k hk; simp only [New]; omega)
theorem toS_Script (l : List GScript) (A : Option Addr) (c : Nat) (w : World) (h : C jB w A l) (hs : dP bP l ≤ 1048576) : Calls Tryz.prog 20 #[.slice A l.length c] w (RetRow aR 133 l w) := by
 have hn : l.length ≤ 1048576 := by unfold dP at hs; omega
 have hmk := run_made (P := Tryz.prog) _ _ _ Tryz.underlying31 kN l.length hn kD
 have H := Sd.mk h
 have HS := Sd.mk hs
 clear h hs
 go_enter Tryz.func20, Tryz.ntmps20
 go_wp2
 clear hmk
 have HR : Sd (R aR 133 (w.alloc (madeObj (.agg #[.string ⟨#[]⟩, .slice none 0 0]) (l.length * 2) 133)) (New w) (.slice (some ⟨w.heap.size, 0, none⟩) l.length l.length) (List.replicate l.length zScript)) := Sd.mk (R_made (d := aR) (e := 133) w (.agg #[.string ⟨#[]⟩, .slice none 0 0]) zScript rfl kD ki_Script_zero l.length hn)
 have HU := Sd.mk ((Upd.refl No w).alloc (madeObj (.agg #[.string ⟨#[]⟩, .slice none 0 0]) (l.length * 2) 133))
 go_loopg [4] l.length (fun k v wr => ∃ i : Nat, i + k = l.length ∧ v = .int .i64 i ∧ Sd (R aR 133 wr (New w) (.slice (some ⟨w.heap.size, 0, none⟩) l.length l.length) (upTo l (List.replicate l.length zScript) i)) ∧ Sd (Upd No w wr))
 case atStart => exact ⟨0, by omega, rfl, ⟨by rw [eD]; exact HR.out⟩, HU⟩
 case round =>
  clear HR HU
  obtain ⟨i, hi, rfl, HR, HU⟩ := hrel
  by_cases hlt : i < l.length
  ·obtain ⟨ad, A1, c1, rfl, a0, a1, hl1, hC1⟩ := kl_Script_at (aO HU.out H.out) i hlt
   have HC1 := Sd.mk hC1
   clear hC1
   have hsi : bP l[i] ≤ 1048576 := by have := HS.out; have := sumS_at bP l i hlt; unfold dP at *; omega
   go_wp2_with fail
   with_reducible refine (to_Script l[i] _ _ (kl_Script_Kmk _ _ hl1 HC1.out) hsi).mono ?_
   rintro e w1 ⟨cs, rfl, hM, hu⟩
   obtain ⟨v1, P1, rfl, hR1, i1⟩ := kZ (aR.M_lt hM)
   obtain ⟨D1, d1, rfl⟩ := bK hR1
   have HRowA := bH hu (fun _ _ q => q) (R_lt HR.out)
   have HU1 := Sd.mk (HU.out.then hu)
   have hzw := HU.out.size
   have HR1 := Sd.mk hR1
   have I1 := Sd.mk i1
   clear HR HU hM hu hR1 i1
   obtain ⟨g, cap, cur, ce, Fi, hv, hcap, hat, hM, hg, hFi, hFg, close⟩ := iH HRowA 2 l.length rfl (by rw [fC (by simp) (by simp; omega)]; simp) i zScript (by rw [gB (by simp) (by simpa using hlt)]; simp)
   cases hv
   obtain ⟨y1, _, rfl, -⟩ := kZ hM
   have HAT := Sd.mk hat
   have x0 := hat.cell0 _ rfl
   have x1 := hat.cell 1 _ rfl
   have f0 := hat.free (i * 2)
   have f1 := hat.free (i * 2 + 1)
   have CL := Sd.mk close
   clear hat close hM HRowA
   go_wp2
   have HA := (HAT.out.set0 kD (.string l[i].Name)).set 1 kD (.slice D1 l[i].Methods.length d1)
   have hD1 : ∀ b, P1 b → ¬ (b = w.heap.size ∨ Fi b) := by
    intro b hb q
    have h1 := (I1.out b hb).1
    simp only [New] at h1
    rcases q with rfl | q
    ·exact absurd hg.2 kO
    ·have h2 := (hFi b q).2
     omega
   have HM := jC _ (fun b => P1 b) l[i] (bH HA.upd hD1 HR1.out) (fun k hk => hk)
   have hP1 : ∀ b, (P1 b) → New wr b := by
    intro b hb
    exact (I1.out b hb).1
   have HRowB := CL.out _ _ l[i] _ (New w) HA HM (fun b hb => .inr (fun q => by have h1 := hP1 b hb; have h2 := q.2; simp only [New] at h1; omega)) (fun _ q => q.1) (fun b hb => by have h1 := hP1 b hb; simp only [New] at h1 ⊢; omega)
   rw [fD (by simp) (by simpa using hlt)] at HRowB
   go_roundg (gk - 1)
   case measure => omega
   case rel => exact ⟨i + 1, by omega, by go_num, ⟨HRowB⟩, ⟨by repeat (with_reducible first | exact HU1.out | apply Upd.bW)⟩⟩
  ·go_wp2
   go_ret
   have HRowB := HR.out
   rw [fB (by simp) (by simp; omega)] at HRowB
   exact ⟨_, rfl, HRowB, HU.out⟩
theorem sz_Script (x : GScript) (cs : List Value) (n : Int) (w : World) (h : jB.K w x cs) (hb : Bd_Script x) (h0 : 0 ≤ n) (h1 : n ≤ 1048576) : Calls Tryz.prog 72 #[.agg cs.toArray, .int .i64 n] w (RetSz (bP x) n w) := by
 obtain ⟨A1, c1, rfl, hl1, hC1⟩ := kl_Script_K h
 have HC1 := Sd.mk hC1
 clear hC1
 obtain ⟨b_Name, b_Methods⟩ := hb
 have B_Methods := Sd.mk b_Methods
 clear b_Methods
 go_enter Tryz.func72, Tryz.ntmps72
 by_cases q_Name : ((x.Name.size : Nat) : Int) ≤ n
 case neg =>
  go_wp2
  go_ret
  exact ⟨_, rfl, .inr ⟨by unfold bP; omega, rfl⟩, kA⟩
 go_wp2_with fail
 with_reducible refine (szS_Method x.Methods _ _ _ _ ?hc_Methods B_Methods.out kO kO).mono ?_
 case hc_Methods => exact aO kA HC1.out
 rintro e w_Methods ⟨r_Methods, rfl, hr_Methods, hu⟩
 have HB_Methods : Sd (Upd No w w_Methods) := Sd.mk (Upd.then kA hu)
 have cc0_Methods := fun o => hu.bJ (b := w.heap.size) kB (fun q => q) o
 have hz_Methods : w.heap.size + 1 ≤ w_Methods.heap.size := by have := hu.size; (try simp at this); omega
 clear hu
 rcases hr_Methods with ⟨q_Methods, rfl⟩ | ⟨q_Methods, rfl⟩
 case inr =>
  go_wp2
  go_ret
  exact ⟨_, rfl, .inr ⟨by unfold bP; omega, rfl⟩, (by repeat (with_reducible first | exact HB_Methods.out | apply Upd.bZ | apply Upd.bY | apply Upd.bW | apply Upd.alloc | apply Upd.drewN | apply Upd.drew))⟩
 go_wp2
 go_ret
 exact ⟨_, rfl, .inl ⟨by unfold bP; omega, by unfold bP; omega⟩, (by repeat (with_reducible first | exact HB_Methods.out | apply Upd.bZ | apply Upd.bY | apply Upd.bW | apply Upd.alloc | apply Upd.drewN | apply Upd.drew))⟩
theorem szS_Script (l : List GScript) (A : Option Addr) (c : Nat) (n : Int) (w : World) (h : C jB w A l) (hb : ∀ y ∈ l, Bd_Script y) (h0 : 0 ≤ n) (h1 : n ≤ 1048576) : Calls Tryz.prog 18 #[.slice A l.length c, .int .i64 n] w (RetSz (dP bP l) n w) := by
 have hn := h.1
 have H := Sd.mk h
 clear h
 have HBD := Sd.mk hb
 clear hb
 go_enter Tryz.func18, Tryz.ntmps18
 by_cases q0 : (l.length : Int) ≤ n
 case neg =>
  go_wp2
  go_ret
  exact ⟨_, rfl, .inr ⟨by unfold dP; omega, rfl⟩, Upd.refl _ _⟩
 go_wp2
 go_loopg [1, 5] l.length (fun k u v wr => ∃ i : Nat, i + k = l.length ∧ (sumS bP (l.take i) : Int) ≤ n - l.length ∧ u = .int .i64 (n - l.length - sumS bP (l.take i)) ∧ v = .int .i64 i ∧ Sd (Upd No w wr))
 case atStart => exact ⟨0, by omega, by simp [sumS]; omega, by simp [sumS], rfl, ⟨Upd.refl _ _⟩⟩
 case round =>
  obtain ⟨i, hi, hle, rfl, rfl, HU⟩ := hrel
  by_cases hlt : i < l.length
  ·obtain ⟨ad, A1, c1, rfl, a0, a1, hl1, hC1⟩ := kl_Script_at (aO HU.out H.out) i hlt
   have HC1 := Sd.mk hC1
   clear hC1
   have hst := sumS_step bP l i hlt
   have HST := Sd.mk (kJ bP l i hlt)
   generalize hs : sumS bP (l.take i) = s at *
   have HS := Sd.mk hs
   clear hs
   go_wp2_with fail
   with_reducible refine (sz_Script l[i] _ _ _ (kl_Script_Kmk _ _ hl1 HC1.out) (HBD.out _ (List.getElem_mem hlt)) kO kO).mono ?_
   rintro e w1 ⟨r, rfl, hr, hu⟩
   have HU1 := Sd.mk (HU.out.then hu)
   clear hu HU
   rcases hr with ⟨q, rfl⟩ | ⟨q, rfl⟩
   ·go_wp2
    go_roundg (gk - 1)
    case measure => omega
    case rel => exact ⟨i + 1, by omega, by rw [HST.out]; omega, by rw [HST.out]; exact congrArg (Value.int .i64) kO, by go_num, HU1⟩
   ·go_wp2
    go_ret
    exact ⟨_, rfl, .inr ⟨by unfold dP; omega, rfl⟩, HU1.out⟩
  ·go_wp2
   go_ret
   have e : l.take i = l := List.take_of_length_le kO
   rw [e] at hle
   exact ⟨_, rfl, .inl ⟨by unfold dP; omega, by rw [e]; unfold dP; omega⟩, HU.out⟩
theorem eq_Script (x : GScript) (cs cs' : List Value) (w : World) (h : aR.K w x cs) (h' : aR.K w x cs') : Calls Tryz.prog 82 #[.agg cs.toArray, .agg cs'.toArray] w (dD true w) := by
 obtain ⟨A1, c1, rfl, hl1, hC1⟩ := kY h
 have HC1 := Sd.mk hC1
 clear hC1
 obtain ⟨B1, b1, rfl, hm1, hD1⟩ := kY h'
 have HD1 := Sd.mk hD1
 clear hD1
 go_enter Tryz.func82, Tryz.ntmps82
 go_wp2_with fail
 with_reducible refine (eqS_Method x.Methods _ _ _ _ _ ?hc_Methods ?hd_Methods).mono ?_
 case hc_Methods => exact aO kA HC1.out
 case hd_Methods => exact aO kA HD1.out
 rintro e w_Methods ⟨rfl, hu⟩
 have HB_Methods : Sd (Upd No w w_Methods) := Sd.mk (Upd.then kA hu)
 have cc0_Methods := fun o => hu.bJ (b := w.heap.size) kB (fun q => q) o
 have cc1_Methods := fun o => hu.bJ (b := w.heap.size + 1) kB (fun q => q) o
 have hz_Methods : w.heap.size + 1 + 1 ≤ w_Methods.heap.size := by have := hu.size; (try simp at this); omega
 clear hu
 go_wp2
 go_ret
 exact ⟨rfl, (by repeat (with_reducible first | exact HB_Methods.out | apply Upd.bZ | apply Upd.bY | apply Upd.bW | apply Upd.alloc | apply Upd.drewN | apply Upd.drew))⟩
theorem eqS_Script (l : List GScript) (A A' : Option Addr) (c c' : Nat) (w : World) (h : C aR w A l) (h' : C aR w A' l) : Calls Tryz.prog 22 #[.slice A l.length c, .slice A' l.length c'] w (dD true w) := by
 have hn := h.1
 have H := Sd.mk h
 have H' := Sd.mk h'
 clear h h'
 go_enter Tryz.func22, Tryz.ntmps22
 go_wp2
 go_loopg [5] l.length (fun k v wr => ∃ i : Nat, i + k = l.length ∧ v = .int .i64 i ∧ Sd (Upd No w wr))
 case atStart => exact ⟨0, by omega, rfl, ⟨Upd.refl _ _⟩⟩
 case round =>
  obtain ⟨i, hi, rfl, HU⟩ := hrel
  by_cases hlt : i < l.length
  ·obtain ⟨ad, A1, c1, rfl, a0, a1, hl1, hC1⟩ := jO (aO HU.out H.out) i hlt
   obtain ⟨ad', B1, b1, rfl, z0, z1, hm1, hD1⟩ := jO (aO HU.out H'.out) i hlt
   have HC1 := Sd.mk hC1
   have HD1 := Sd.mk hD1
   clear hC1 hD1
   go_wp2_with fail
   go_still_tail 8, kR
   change wpList _ _ _ _ _ wr.drew
   have HW : Sd (Upd No wr wr.drew) := ⟨(Upd.refl _ _).drew⟩
   have HU2 : Sd (Upd No w wr.drew) := ⟨HU.out.drew⟩
   generalize wr.drew = w2 at *
   go_wp2_with (go_at_call 82; (with_reducible refine (eq_Script l[i] _ _ _ (lI _ _ hl1 (aO HW.out HC1.out)) (lI _ _ hm1 (aO HW.out HD1.out))).mono ?_); rintro e w' ⟨rfl, hu⟩)
   have HU3 := Sd.mk (HU2.out.then hu)
   clear HU2 hu
   go_wp2
   go_roundg (gk - 1)
   case measure => omega
   case rel => exact ⟨i + 1, by omega, by go_num, HU3⟩
  ·go_wp2
   go_ret
   exact ⟨rfl, HU.out⟩
theorem markS_Script (l : List GScript) (k : Int) (F : Nat → Prop) (v : Value) (w : World) (h : R aR 133 w F v l) (hk : 0 ≤ k) (hb : k + aK aW l ≤ 4611686018427387904) : Calls Tryz.prog 23 #[v, .int .i64 k] w (Marks aR 133 F v (k + aK aW l) (mkS fG aW k l) w) := by
 obtain ⟨A, c, rfl⟩ := bK h
 have hn := R_len h
 have H := Sd.mk h
 clear h
 go_enter Tryz.func23, Tryz.ntmps23
 go_wp2
 go_loopg [1, 5] l.length (fun r u v wr => ∃ i : Nat, i + r = l.length ∧ u = .int .i64 (k + aK aW (l.take i)) ∧ v = .int .i64 i ∧ Sd (R aR 133 wr F (.slice A l.length c) (upTo (mkS fG aW k l) l i)) ∧ Sd (Upd F w wr))
 case atStart => exact ⟨0, by omega, by simp [aK], rfl, ⟨by rw [eD]; exact H.out⟩, ⟨Upd.refl _ _⟩⟩
 case round =>
  obtain ⟨i, hi, rfl, rfl, HR, HU⟩ := hrel
  by_cases hlt : i < l.length
  ·have hle := bL aW gD l i
   have hst := cB aW l i hlt
   have hle2 := bL aW gD l (i + 1)
   rw [hst] at hle2
   have HST := Sd.mk hst
   clear hst
   have HMA := Sd.mk (eO fG aW l k i hlt)
   obtain ⟨g, cap, cur, ce, Fi, hv, hcap, hat, hM, hg, hFi, hFg, close⟩ := iH HR.out 2 l.length rfl (fC (aM _ _ _ _) kO) i l[i] (gB (aM _ _ _ _) hlt)
   cases hv
   obtain ⟨v1, P1, rfl, hR1, i1⟩ := kZ hM
   obtain ⟨B1, b1, rfl⟩ := bK hR1
   have HR1 := Sd.mk hR1
   have I1 := Sd.mk i1
   have N1 : ¬ P1 g := fun q => hFg (i1 g q)
   clear hR1 i1
   have nn1 := bN bI gY l[i].Methods
   have HCN : Sd (aW l[i] = aW l[i]) := ⟨rfl⟩
   simp only [aW] at hle2
   generalize hq : k + aK aW (l.take i) = q at *
   have HQ := Sd.mk hq
   have hq0 : 0 ≤ q := by omega
   have hqb : q + ((0 + 1) + aK bI l[i].Methods) ≤ 4611686018427387904 := by omega
   clear hq hle hle2 hb
   generalize hcn1 : aK bI l[i].Methods = cn1 at *
   have HC1 := Sd.mk hcn1
   clear hcn1
   have HAT := Sd.mk hat
   have x0_s := hat.cell0 _ rfl
   have x1_s := hat.cell 1 _ rfl
   have f0_s := hat.free (i * 2)
   have f1_s := hat.free (i * 2 + 1)
   have CL := Sd.mk close
   clear hat close hM HR
   go_wp2_with fail
   with_reducible refine (fV _ _ kO kO).mono ?_
   rintro e w_Name ⟨rfl, hu⟩
   replace HR1 := Sd.mk (bH hu (fun _ _ q => q) (bH (G := fun b => b = g) kC (fun b hb hg' => N1 (hg' ▸ hb)) HR1.out))
   replace HAT := Sd.mk (HAT.out.call hu (fun _ q => q.elim) hFg)
   clear hu x0_s f0_s x1_s f1_s
   have x0_Name := HAT.out.cell0 _ rfl
   have x1_Name := HAT.out.cell 1 _ rfl
   have f0_Name := HAT.out.free (i * 2)
   have f1_Name := HAT.out.free (i * 2 + 1)
   go_wp2_with fail
   with_reducible refine (markS_Method l[i].Methods _ P1 _ _ ?hr_Methods kO (by rw [HC1.out]; omega)).mono ?_
   case hr_Methods => exact (bH (G := fun b => b = g) kC (fun b hb hg' => N1 (hg' ▸ hb)) HR1.out)
   rintro e w_Methods ⟨rfl, hR1, hu⟩
   rw [HC1.out]
   replace HR1 := Sd.mk hR1
   replace HAT := Sd.mk ((HAT.out.set0 kD (.string (mtx (q)))).call hu I1.out hFg)
   clear hR1
   clear hu x0_Name f0_Name x1_Name f1_Name
   have x0_Methods := HAT.out.cell0 _ rfl
   have x1_Methods := HAT.out.cell 1 _ rfl
   have f0_Methods := HAT.out.free (i * 2)
   have f1_Methods := HAT.out.free (i * 2 + 1)
   go_wp2
   have HA := HAT.out
   have hy : (⟨mtx (q), mkS gQ bI (q + 1) l[i].Methods⟩ : GScript) = (mkS fG aW k l)[i]'(by rw [aM]; exact hlt) := by rw [HMA.out]; simp only [fG, HC1.out]
   have HRowB := CL.out _ _ (⟨mtx (q), mkS gQ bI (q + 1) l[i].Methods⟩ : GScript) Fi F HA (jC _ Fi (⟨mtx (q), mkS gQ bI (q + 1) l[i].Methods⟩ : GScript) (bH (G := fun b => b = g) kC (fun b hb hg' => N1 (hg' ▸ hb)) HR1.out) I1.out) (fun _ hb => .inl hb) (fun _ hb => hb) hFi
   rw [hy, fD (aM _ _ _ _) hlt] at HRowB
   go_roundg (gk - 1)
   case measure => omega
   case rel => exact ⟨i + 1, by omega, by rw [HST.out]; simp only [aW]; have := HQ.out; have := HC1.out; exact congrArg (Value.int .i64) kO, by go_num, ⟨HRowB⟩, ⟨HU.out.trans HA.upd (fun _ _ hb => hb) (fun b _ hb => by rcases hb with rfl | hb; exact hg; exact hFi b hb)⟩⟩
  ·go_wp2
   go_ret
   have HRowB := HR.out
   rw [fB (aM _ _ _ _) kO] at HRowB
   have e : l.take i = l := List.take_of_length_le kO
   exact ⟨dL (by rw [e]), HRowB, HU.out⟩
theorem heldS_Script (l : List GScript) (k : Int) (A : Option Addr) (c : Nat) (w : World) (h : C aR w A (mkS fG aW k l)) (hk : 0 ≤ k) (hb : k + aK aW l ≤ 4611686018427387904) : Calls Tryz.prog 68 #[.slice A l.length c, .int .i64 k] w (gN (k + aK aW l) w) := by
 have hn := h.1
 rw [aM] at hn
 have H := Sd.mk h
 clear h
 go_enter Tryz.func68, Tryz.ntmps68
 go_wp2
 go_loopg [1, 5] l.length (fun r u v wr => ∃ i : Nat, i + r = l.length ∧ u = .int .i64 (k + aK aW (l.take i)) ∧ v = .int .i64 i ∧ Sd (Upd No w wr))
 case atStart => exact ⟨0, by omega, by simp [aK], rfl, ⟨Upd.refl _ _⟩⟩
 case round =>
  obtain ⟨i, hi, rfl, rfl, HU⟩ := hrel
  by_cases hlt : i < l.length
  ·have hle := bL aW gD l i
   have hst := cB aW l i hlt
   have hle2 := bL aW gD l (i + 1)
   rw [hst] at hle2
   have HST := Sd.mk hst
   clear hst
   obtain ⟨ad, A1, c1, rfl, a0, a1, hl1, hC1⟩ := jO (aO HU.out H.out) i (by rw [aM]; exact hlt)
   rw [eO fG aW l k i hlt] at a0 a1 hl1 hC1
   simp only [fG, aM] at a0 a1 hl1 hC1
   have nn1 := bN bI gY l[i].Methods
   simp only [aW] at hle2
   generalize hq : k + aK aW (l.take i) = q at *
   have HQ := Sd.mk hq
   have hq0 : 0 ≤ q := by omega
   have hqb : q + ((0 + 1) + aK bI l[i].Methods) ≤ 4611686018427387904 := by omega
   clear hq hle hle2 hb
   generalize hcn1 : aK bI l[i].Methods = cn1 at *
   have HN1 := Sd.mk hcn1
   clear hcn1
   have HC1 := Sd.mk hC1
   clear hC1
   have HX := Sd.mk (Upd.refl No wr)
   go_wp2_with fail
   go_region_held3 (fun w' => w'.cell? (ad.add (i * 2)) = some (.string (mtx q))) (first | exact a0 | exact hu_Name.read a0) (first | (go_at_call 83; (with_reducible refine (fV _ _ kO kO).mono ?_); rintro e w_Name ⟨rfl, hu_Name⟩))
   rename_i hH_Name
   clear hH_Name
   have HY : Sd (Upd No wr w_Name) := Sd.mk ((Upd.refl _ _).drew.then hu_Name)
   clear hu_Name
   replace a0 := HY.out.read a0
   replace a1 := HY.out.read a1
   replace HC1 := Sd.mk (aO HY.out HC1.out)
   replace HX := Sd.mk (HX.out.then HY.out)
   clear HY
   go_wp2_with fail
   with_reducible refine (heldS_Method l[i].Methods _ _ _ _ ?hc_Methods kO (by rw [HN1.out]; omega)).mono ?_
   case hc_Methods => exact HC1.out
   rintro e w_Methods ⟨rfl, hu⟩
   rw [HN1.out]
   replace a0 := hu.read a0
   replace a1 := hu.read a1
   replace HC1 := Sd.mk (aO hu HC1.out)
   replace HX := Sd.mk (HX.out.then hu)
   clear hu
   go_wp2
   go_roundg (gk - 1)
   case measure => omega
   case rel => exact ⟨i + 1, by omega, by rw [HST.out]; simp only [aW]; have := HQ.out; have := HN1.out; exact congrArg (Value.int .i64) kO, by go_num, ⟨HU.out.then HX.out⟩⟩
  ·go_wp2
   go_ret
   have e : l.take i = l := List.take_of_length_le kO
   exact ⟨dL (by rw [e]), HU.out⟩
theorem copied_Method (x : GMethod) (cs : List Value) (w : World) (h : bS.K w x cs) (hs : bT x ≤ 4194304) : Calls Tryz.prog 147 #[.agg cs.toArray] w (iT bS x w) := by
 obtain ⟨A1, c1, rfl, hl1, hC1⟩ := j3 h
 have HC1 := Sd.mk hC1
 clear hC1
 clear h
 have s_Code : dP dX x.Code ≤ 4194304 := by unfold bT at hs; omega
 have n_Code : x.Code.length ≤ 4194304 := by unfold dP at s_Code; omega
 have S_Code := Sd.mk s_Code
 clear hs s_Code
 go_enter Tryz.func147, Tryz.ntmps147
 try go_wp2_with fail
 have hb0 : Sd (Blk ((w.alloc (.cells #[.string x.Name, .slice A1 x.Code.length c1] 210)).alloc (.cells #[.string ⟨#[]⟩, .slice none 0 0] 210)) w.heap.size 210 #[.string x.Name, .slice A1 x.Code.length c1]) := ⟨(Blk.new _ _ _).alloc _⟩
 have hb1 : Sd (Blk ((w.alloc (.cells #[.string x.Name, .slice A1 x.Code.length c1] 210)).alloc (.cells #[.string ⟨#[]⟩, .slice none 0 0] 210)) (w.heap.size + 1) 210 #[.string ⟨#[]⟩, .slice none 0 0]) := ⟨Blk.newAt (by simp)⟩
 have HBB : Sd (Upd No w ((w.alloc (.cells #[.string x.Name, .slice A1 x.Code.length c1] 210)).alloc (.cells #[.string ⟨#[]⟩, .slice none 0 0] 210))) := ⟨((Upd.refl _ _).alloc _).alloc _⟩
 generalize ((w.alloc (.cells #[.string x.Name, .slice A1 x.Code.length c1] 210)).alloc (.cells #[.string ⟨#[]⟩, .slice none 0 0] 210)) = wb at *
 have hzb : w.heap.size + 1 + 1 ≤ wb.heap.size := by have := hb1.out.lt; omega
 have q0_0 := hb0.out.at 0 (v := .string x.Name) rfl
 have q0_1 := hb0.out.at 1 (v := .slice A1 x.Code.length c1) rfl
 have ff0 := hb0.out.free
 go_region_law (first | (go_simp; go_at_call 199; (with_reducible refine (clone_Instr x.Code _ _ _ (aO (by repeat (with_reducible first | exact HBB.out | apply Upd.bZ | apply Upd.bY | apply Upd.bW | apply Upd.alloc | apply Upd.drewN | apply Upd.drew)) HC1.out) n_Code).mono ?_); rintro e w_Code ⟨v1, rfl, hR1, hu⟩; have HY_Code : Sd (Upd No wb w_Code) := Sd.mk (Upd.then (by repeat (with_reducible first | exact Upd.refl _ _ | apply Upd.alloc | apply Upd.drewN | apply Upd.drew)) hu); have hz_Code := HY_Code.out.size; have hb0_Code := Sd.mk (hb0.out.no HY_Code.out); have hb1_Code := Sd.mk (hb1.out.no HY_Code.out); obtain ⟨B1, b1, rfl⟩ := bK hR1; have HR1 : Sd (R dF 274 w_Code (Iv wb.heap.size w_Code.heap.size) (.slice B1 x.Code.length b1) x.Code) := Sd.mk (R_lt (iD (F' := New wb) (fun b q => Nat.le_trans (Upd.size ((by repeat (with_reducible first | exact Upd.refl _ _ | apply Upd.alloc | apply Upd.drewN | apply Upd.drew)) : Upd No wb _)) q) hR1)); have HB_Code : Sd (Upd No w w_Code) := Sd.mk (Upd.then HBB.out HY_Code.out); clear hu hR1; have c0_Code := hb0_Code.out.at 0 (v := .string x.Name) rfl; have c1_Code := hb0_Code.out.at 1 (v := .slice A1 x.Code.length c1) rfl; have ff_Code := hb0_Code.out.free; have d0_Code := hb1_Code.out.at 0 (v := .string ⟨#[]⟩) rfl; have d1_Code := hb1_Code.out.at 1 (v := .slice none 0 0) rfl; have fg_Code := hb1_Code.out.free))
 all_goals
  clear q0_0 q0_1
  have q1_0 := hb1_Code.out.at 0 (v := .string ⟨#[]⟩) rfl
  have q1_1 := hb1_Code.out.at 1 (v := .slice none 0 0) rfl
  have f0 := hb0_Code.out.free
  have f1 := hb1_Code.out.free
  go_wp2
  refine bodyPost_ret (v := .agg #[.string x.Name, .slice B1 x.Code.length b1]) (by simp [results, Tryz.results147, go_sem, q1_0, q1_1]) rfl ⟨_, rfl, ?_, ?_⟩
  ·exact jA _ _ x (bH ((by repeat (first | (with_reducible exact Upd.refl _ _) | (with_reducible refine Upd.alloc ?_ _) | (refine Upd.set ?_ _ _ (.inr (by first | exact .inl rfl | exact .inr rfl))))) : Upd (fun b => b = w.heap.size ∨ b = w.heap.size + 1) w_Code _) (fun b q z => by simp only [Iv] at q; have := hz_Code; omega) HR1.out) (fun k hk => by simp only [Iv] at hk; simp only [New]; have := hz_Code; omega)
  ·exact Upd.trans HB_Code.out ((by repeat (first | (with_reducible exact Upd.refl _ _) | (with_reducible refine Upd.alloc ?_ _) | (refine Upd.set ?_ _ _ (.inr (by first | exact .inl rfl | exact .inr rfl))))) : Upd (fun b => b = w.heap.size ∨ b = w.heap.size + 1) w_Code _) (fun _ _ q => q) (fun b hb q => by rcases q with q | q <;> omega)
end Go.Proofs.YtfnedoiplblldaaGreatFam
namespace Go.Proofs.YtfnedoiplblldaaGreatFam
open Go.RowKit Go.Proofs.YtfnedoiplblldaaGreatSep Go.Proofs.YtfnedoiplblldaaGreatT Go.Proofs.YtfnedoiplblldaaGreatK
set_option linter.unusedVariables false
set_option linter.unusedSimpArgs false
set_option maxHeartbeats 8000000
set_option maxRecDepth 100000
theorem l6CopyMethod_s (x : GMethod) (cs : List Value) (w : World) (h : bS.K w x cs) (hs : bT x ≤ 4194304) : Calls Tryz.prog 197 #[.agg cs.toArray] w (iT bS x w) := by
 obtain ⟨A1, c1, rfl, hl1, hC1⟩ := j3 h
 have HCM := Sd.mk (jG flat_Instr hC1)
 have hn : x.Code.length ≤ 4194304 := by unfold bT dP at hs; omega
 clear h hC1 hs
 go_enter Tryz.func197, Tryz.ntmps197
 try go_wp2_with fail
 have hb0 : Sd (Blk ((w.alloc (.cells #[.string x.Name, .slice A1 x.Code.length c1] 210)).alloc (.cells #[.string ⟨#[]⟩, .slice none 0 0] 210)) w.heap.size 210 #[.string x.Name, .slice A1 x.Code.length c1]) := ⟨(Blk.new _ _ _).alloc _⟩
 have hb1 : Sd (Blk ((w.alloc (.cells #[.string x.Name, .slice A1 x.Code.length c1] 210)).alloc (.cells #[.string ⟨#[]⟩, .slice none 0 0] 210)) (w.heap.size + 1) 210 #[.string ⟨#[]⟩, .slice none 0 0]) := ⟨Blk.newAt (by simp)⟩
 have HBB : Sd (Upd No w ((w.alloc (.cells #[.string x.Name, .slice A1 x.Code.length c1] 210)).alloc (.cells #[.string ⟨#[]⟩, .slice none 0 0] 210))) := ⟨((Upd.refl _ _).alloc _).alloc _⟩
 generalize ((w.alloc (.cells #[.string x.Name, .slice A1 x.Code.length c1] 210)).alloc (.cells #[.string ⟨#[]⟩, .slice none 0 0] 210)) = wb at *
 have hzb : w.heap.size + 1 + 1 ≤ wb.heap.size := by have := hb1.out.lt; omega
 have q0 := hb0.out.at 0 (v := .string x.Name) rfl
 have q1 := hb0.out.at 1 (v := .slice A1 x.Code.length c1) rfl
 have qa0 := fun ob => (hb0.out.alloc ob).at 0 (v := .string x.Name) rfl
 have qa1 := fun ob => (hb0.out.alloc ob).at 1 (v := .slice A1 x.Code.length c1) rfl
 go_region_law ((refine R_appAnyStep (d := dF) (e := 274) (ys := x.Code) (xs := []) (F := fun b => wb.heap.size ≤ b) rfl _ _ 208 _ _ rfl Tryz.underlying208 lC rfl kD kD A1 c1 (fun _ => No) rfl rfl (by first | exact iD (fun b q => (by simpa [New] using q)) (R_emptyAt _ _ (by simp)) | exact R_drew (iD (fun b q => (by simpa [New] using q)) (R_emptyAt _ _ (by simp)))) (CM_upd (by repeat (with_reducible first | exact HBB.out | apply Upd.alloc | apply Upd.drewN | apply Upd.drew)) HCM.out) (fun _ _ q => q.elim) (fun _ _ _ q => q.elim) (by simp; omega) ?_); intro v1 w1 hR hu; have HY : Sd (Upd No wb w1) := Sd.mk (Upd.trans (F := No) (by repeat (with_reducible first | exact Upd.refl _ _ | apply Upd.alloc | apply Upd.drewN | apply Upd.drew)) hu (fun _ _ q => q) (fun b hb q => absurd hb kO)); obtain ⟨B1, b1, rfl⟩ := bK hR; have HR1 : Sd (R dF 274 w1 (fun b => wb.heap.size ≤ b) (.slice B1 x.Code.length b1) x.Code) := Sd.mk (iD (fun b q => (by rcases q with q | ⟨_, _, q⟩ | q; exact q; exact q.elim; (simp at q; omega))) hR); have c0 := (hb0.out.no HY.out).at 0 (v := .string x.Name) rfl; have d0 := (hb1.out.no HY.out).at 0 (v := .string ⟨#[]⟩) rfl; have d1 := (hb1.out.no HY.out).at 1 (v := .slice none 0 0) rfl; have ff := (hb1.out.no HY.out).free; clear hu hR)
 all_goals
  go_wp2
  refine bodyPost_ret (v := .agg #[.string x.Name, .slice B1 x.Code.length b1]) (by simp [results, Tryz.results197, go_sem, d0, d1]) rfl ⟨_, rfl, ?_, ?_⟩
  ·exact jA _ _ x (bH ((by repeat (first | (with_reducible exact Upd.refl _ _) | (refine Upd.set ?_ _ _ (.inr rfl)))) : Upd (fun b => b = w.heap.size + 1) w1 _) (fun b q z => by omega) HR1.out) (fun k hk => by simp only [New]; omega)
  ·exact Upd.trans (HBB.out.then HY.out) ((by repeat (first | (with_reducible exact Upd.refl _ _) | (refine Upd.set ?_ _ _ (.inr rfl)))) : Upd (fun b => b = w.heap.size + 1) w1 _) (fun _ _ q => q) (fun b hb q => by omega)
theorem l6Copy_s (x : GScript) (cs : List Value) (w : World) (h : aR.K w x cs) (hs : bP x ≤ 4194304) : Calls Tryz.prog 145 #[.agg cs.toArray] w (iT aR x w) := by
 obtain ⟨A1, c1, rfl, hl1, hC1⟩ := kY h
 have HC1 := Sd.mk hC1
 clear hC1
 clear h
 have s_Methods : dP bT x.Methods ≤ 4194304 := by unfold bP at hs; omega
 have n_Methods : x.Methods.length ≤ 4194304 := by unfold dP at s_Methods; omega
 have S_Methods := Sd.mk s_Methods
 clear hs s_Methods
 go_enter Tryz.func145, Tryz.ntmps145
 go_wp2
 have hb0 : Sd (Blk (((w.alloc (.cells #[.string x.Name, .slice A1 x.Methods.length c1] 133)).alloc (.cells #[.string ⟨#[]⟩, .slice none 0 0] 133)).alloc (.cells #[.string x.Name, .slice none 0 0] 133)) w.heap.size 133 #[.string x.Name, .slice A1 x.Methods.length c1]) := ⟨((Blk.new _ _ _).alloc _).alloc _⟩
 have hb1 : Sd (Blk (((w.alloc (.cells #[.string x.Name, .slice A1 x.Methods.length c1] 133)).alloc (.cells #[.string ⟨#[]⟩, .slice none 0 0] 133)).alloc (.cells #[.string x.Name, .slice none 0 0] 133)) (w.heap.size + 1) 133 #[.string ⟨#[]⟩, .slice none 0 0]) := ⟨(Blk.newAt (by simp)).alloc _⟩
 have hb2 : Sd (Blk (((w.alloc (.cells #[.string x.Name, .slice A1 x.Methods.length c1] 133)).alloc (.cells #[.string ⟨#[]⟩, .slice none 0 0] 133)).alloc (.cells #[.string x.Name, .slice none 0 0] 133)) (w.heap.size + 1 + 1) 133 #[.string x.Name, .slice none 0 0]) := ⟨Blk.newAt (by simp)⟩
 have HBW : Sd (Upd No w (((w.alloc (.cells #[.string x.Name, .slice A1 x.Methods.length c1] 133)).alloc (.cells #[.string ⟨#[]⟩, .slice none 0 0] 133)).alloc (.cells #[.string x.Name, .slice none 0 0] 133))) := ⟨(((Upd.refl _ _).alloc _).alloc _).alloc _⟩
 generalize (((w.alloc (.cells #[.string x.Name, .slice A1 x.Methods.length c1] 133)).alloc (.cells #[.string ⟨#[]⟩, .slice none 0 0] 133)).alloc (.cells #[.string x.Name, .slice none 0 0] 133)) = ws0 at *
 have hz_0 : w.heap.size + 1 + 1 < ws0.heap.size := hb2.out.lt
 have t0_0 := hb0.out.at 0 (v := .string x.Name) rfl
 have t0_1 := hb0.out.at 1 (v := .slice A1 x.Methods.length c1) rfl
 go_wp2
 clear t0_0 t0_1
 go_loopg [4] x.Methods.length (fun r v wr0 => ∃ (i : Nat) (u0 : Value), i + r = x.Methods.length ∧ v = .int .i64 i ∧ Sd (Blk wr0 (w.heap.size + 1 + 1) 133 #[.string x.Name, u0]) ∧ Sd (R bS 210 wr0 (New ws0) u0 (x.Methods.take i)) ∧ Sd (Upd (fun b => b = (w.heap.size + 1 + 1)) ws0 wr0))
 case atStart => exact ⟨0, .slice none 0 0, by omega, rfl, hb2, ⟨fP⟩, ⟨Upd.refl _ _⟩⟩
 case round =>
  obtain ⟨i0, u0, hi0, rfl, HB2, HR, HU⟩ := hrel
  obtain ⟨wr0, rfl⟩ : ∃ z, z = wr := ⟨_, rfl⟩
  have HW : Sd (Upd No w wr0) := ⟨Upd.trans HBW.out HU.out (fun _ _ q => q) (fun b hb q => absurd hb kO)⟩
  have hzr0 := HU.out.size
  by_cases hlt : i0 < x.Methods.length
  ·obtain ⟨ad, D1, d1, rfl, a0, a1, hm1, hD1⟩ := jN (aO HW.out HC1.out) i0 hlt
   have HD1 := Sd.mk hD1
   clear hD1
   have hsi : bT x.Methods[i0] ≤ 4194304 := by have := sumS_at bT x.Methods i0 hlt; have := S_Methods.out; unfold dP at *; omega
   obtain ⟨Bu, bu, hv⟩ := bK HR.out
   rw [List.length_take, Nat.min_eq_left kO] at hv
   subst hv
   have hbx := hb0.out.upd HU.out kO
   have t0_0 := hbx.at 0 (v := .string x.Name) rfl
   have t0_1 := hbx.at 1 (v := .slice (some ad) x.Methods.length c1) rfl
   clear hbx
   have HUm : Sd (Upd No wr0 wr0) := ⟨Upd.refl _ _⟩
   have HBo := HB2
   have HR1 := Sd.mk (R_lt HR.out)
   go_wp2_with fail
   have so := HBo.out.at 1 (v := .slice Bu i0 bu) rfl
   have fo := HBo.out.free 1
   clear HR HB2
   go_region_law (first | (go_simp; go_at_call 197; (with_reducible refine (l6CopyMethod_s x.Methods[i0] _ _ (jW _ _ hm1 (aO (by repeat (with_reducible first | exact Upd.refl _ _ | apply Upd.alloc | apply Upd.drewN | apply Upd.drew)) HD1.out)) hsi).mono ?_); rintro e w1 ⟨cs, rfl, hM, hu⟩; have HM := Sd.mk (bS.gI (F' := fun b => wr0.heap.size ≤ b) (fun b q => Nat.le_trans (Upd.size ((by repeat (with_reducible first | exact Upd.refl _ _ | apply Upd.alloc | apply Upd.drewN | apply Upd.drew)) : Upd No wr0 _)) q) hM); obtain ⟨v1, P1, rfl, r1, -⟩ := j4 hM; obtain ⟨Bz1, bz1, rfl⟩ := bK r1; clear r1; have HY : Sd (Upd No wr0 w1) := Sd.mk (Upd.then (by repeat (with_reducible first | exact Upd.refl _ _ | apply Upd.alloc | apply Upd.drewN | apply Upd.drew)) hu); skip; have HRA := Sd.mk (R_no HY.out HR1.out); have hz1 := HY.out.size; have HBp := Sd.mk (HBo.out.no HY.out); have so1 := HBp.out.at 1 (v := .slice Bu i0 bu) rfl; have fo1 := HBp.out.free 1; have sa1 := (fun ob => (HBp.out.alloc ob).at 1 (v := .slice Bu i0 bu) rfl); clear hu hM) | ((refine R_appStep (d := bS) (e := 210) rfl _ _ 131 _ _ rfl Tryz.underlying131 kM rfl kD kD x.Methods[i0] _ _ _ rfl rfl rfl HRA.out HM.out (fun b hb q => absurd q.2 kO) (by rw [List.length_take, Nat.min_eq_left kO]; omega) ?_); intro v2 w2 hR hu2; rw [← List.take_succ_eq_append_getElem hlt] at hR; obtain ⟨B2, b2, hv2⟩ := bK hR; rw [List.length_take, Nat.min_eq_left kO] at hv2; subst hv2; have HBq := Sd.mk (HBp.out.upd hu2 (fun q => absurd q.1 (by simp only [New]; omega))); have so2 := HBq.out.at 1 (v := .slice Bu i0 bu) rfl; have fo2 := HBq.out.free 1; have hz2 := hu2.size; have hR3 := Sd.mk (iD (F' := New ws0) (fun b q => (by simp only [New] at q ⊢; omega)) hR); have HX2 : Sd (Upd (fun b => b = (w.heap.size + 1 + 1)) ws0 w2) := Sd.mk (HU.out.trans (Upd.trans (H := fun b => ws0.heap.size ≤ b) (HUm.out.then HY.out) hu2 (fun _ _ q => q.elim) (fun b hb q => (by have := q.1; simp only [New] at this; omega))) (fun _ _ q => q) (fun b hb q => absurd hb kO)); clear hR hu2))
   all_goals
    go_wp2
    go_roundg (gk - 1)
    case measure => omega
    case rel =>
     refine ⟨i0 + 1, .slice B2 (i0 + 1) b2, by omega, by go_num, ⟨?_⟩, ⟨?_⟩, ⟨?_⟩⟩
     ·exact Blk.put HBq.out 1 _ rfl
     ·exact bH (Upd.set (F := fun b => b = (w.heap.size + 1 + 1)) (Upd.refl _ _) _ _ (.inr rfl)) (fun b q z => by simp only [New] at q; omega) hR3.out
     ·exact Upd.set HX2.out _ _ (.inr rfl)
  ·have hie : i0 = x.Methods.length := by omega
   rw [hie, List.take_length] at HR
   obtain ⟨B1, b1, hv⟩ := bK HR.out
   subst hv
   clear hie
   replace HBW := HW
   replace hb0 := Sd.mk (hb0.out.upd HU.out kO)
   replace hb1 := Sd.mk (hb1.out.upd HU.out kO)
   replace hb2 := HB2
   have HR1 : Sd (R bS 210 wr0 (Iv ws0.heap.size wr0.heap.size) (.slice B1 x.Methods.length b1) x.Methods) := Sd.mk (R_lt HR.out)
   clear HR HU HB2 HW
   have t2_0 := hb2.out.at 0 (v := .string x.Name) rfl
   have t2_1 := hb2.out.at 1 (v := .slice B1 x.Methods.length b1) rfl
   have t1_0 := hb1.out.at 0 (v := .string ⟨#[]⟩) rfl
   have t1_1 := hb1.out.at 1 (v := .slice none 0 0) rfl
   have t0_0 := hb0.out.at 0 (v := .string x.Name) rfl
   have t0_1 := hb0.out.at 1 (v := .slice A1 x.Methods.length c1) rfl
   have f1 := hb1.out.free
   go_wp2
   refine bodyPost_ret (v := .agg #[.string x.Name, .slice B1 x.Methods.length b1]) (by simp [results, Tryz.results145, go_sem, t1_0, t1_1]) rfl ⟨_, rfl, ?_, ?_⟩
   ·exact jC _ _ x (bH ((by repeat (first | (with_reducible exact Upd.refl _ _) | (refine Upd.set ?_ _ _ (.inr rfl)))) : Upd (fun b => b = (w.heap.size + 1)) wr0 _) (fun b q z => by (try simp only [Iv] at q); (try dsimp only at q); omega) HR1.out) (fun k hk => by (try simp only [Iv] at hk); (try dsimp only at hk); simp only [New]; omega)
   ·exact Upd.trans HBW.out ((by repeat (first | (with_reducible exact Upd.refl _ _) | (refine Upd.set ?_ _ _ (.inr rfl)))) : Upd (fun b => b = (w.heap.size + 1)) wr0 _) (fun _ _ q => q) (fun b hb q => by omega)
theorem l6CopyAll_s (l : List GScript) (A : Option Addr) (c : Nat) (w : World) (h : C aR w A l) (hs : dP bP l ≤ 4194304) : Calls Tryz.prog 75 #[.slice A l.length c] w (RetRow aR 133 l w) := by
 have hn : l.length ≤ 4194304 := by unfold dP at hs; omega
 have H := Sd.mk h
 have HS := Sd.mk hs
 clear h hs
 go_enter Tryz.func75, Tryz.ntmps75
 go_wp2
 have hR0 : Sd (R aR 133 (w.alloc (.cells #[] 133)) (New w) (.slice (some ⟨w.heap.size, 0, none⟩) 0 0) []) := ⟨R_empty w⟩
 have hU0 : Sd (Upd No w (w.alloc (.cells #[] 133))) := ⟨(Upd.refl _ _).alloc _⟩
 go_loopg [3, 4] l.length (fun r u v wr => ∃ i : Nat, i + r = l.length ∧ v = .int .i64 i ∧ Sd (R aR 133 wr (New w) u (l.take i)) ∧ Sd (Upd No w wr))
 case atStart => exact ⟨0, by omega, rfl, hR0, hU0⟩
 case round =>
  clear hR0 hU0
  obtain ⟨i, hi, rfl, HR, HU⟩ := hrel
  by_cases hlt : i < l.length
  ·obtain ⟨ad, A1, c1, rfl, a0, a1, hl1, hC1⟩ := jO (aO HU.out H.out) i hlt
   have HC1 := Sd.mk hC1
   clear hC1
   have hsi : bP l[i] ≤ 4194304 := by have := sumS_at bP l i hlt; have := HS.out; unfold dP at *; omega
   go_wp2_with fail
   with_reducible refine (l6Copy_s l[i] _ _ (lI _ _ hl1 ?hc1) hsi).mono ?_
   case hc1 => exact aO (by repeat (with_reducible first | exact Upd.refl _ _ | apply Upd.alloc | apply Upd.drewN | apply Upd.drew)) HC1.out
   rintro e w1 ⟨cs, rfl, hM, hu⟩
   obtain ⟨v1, P1, rfl, r1, -⟩ := kZ hM
   obtain ⟨B1, b1, rfl⟩ := bK r1
   clear r1
   have hu' : Upd No wr w1 := Upd.then (by repeat (with_reducible first | exact Upd.refl _ _ | apply Upd.alloc | apply Upd.drewN | apply Upd.drew)) hu
   have hz := HU.out.size
   have hz1 := hu'.size
   have HRA := Sd.mk (bH hu' (fun _ _ q => q) (R_lt HR.out))
   have HM := Sd.mk (aR.gI (F' := fun b => wr.heap.size ≤ b) (fun b hb => by simp [New] at hb; omega) hM)
   have HU1 := Sd.mk (HU.out.then hu')
   clear HR hM hu hu' HU a0 a1
   go_wp2_with (first | (at_builtin; refine R_appOne (d := aR) (e := 133) rfl _ _ 31 _ _ rfl Tryz.underlying31 kN rfl kD kD l[i] _ _ _ rfl rfl rfl HRA.out HM.out (fun b hb q => absurd q.2 kO) (by rw [List.length_take, Nat.min_eq_left kO]; omega) ?_) | fail)
   intro v1 w2 hR hu
   have hR' := Sd.mk (iD (F' := New w) (fun b q => by simp only [New] at q ⊢; omega) hR)
   have HU2 : Sd (Upd No w w2) := Sd.mk (HU1.out.trans hu (fun _ _ q => q) (fun b hb q => absurd hb (by have := q.1; simp only [New] at this; omega)))
   clear hR hu
   go_wp2
   go_roundg (gk - 1)
   case measure => omega
   case rel => exact ⟨i + 1, by omega, by go_num, hR', HU2⟩
  ·go_wp2
   go_ret
   have hRR := HR.out
   rw [List.take_of_length_le kO] at hRR
   exact ⟨_, rfl, hRR, HU.out⟩
end Go.Proofs.YtfnedoiplblldaaGreatFam
namespace Go.Proofs.YtfnedoiplblldaaGreatFam
open Go.RowKit Go.Proofs.YtfnedoiplblldaaGreatSep Go.Proofs.YtfnedoiplblldaaGreatT Go.Proofs.YtfnedoiplblldaaGreatK
set_option linter.unusedVariables false
set_option linter.unusedSimpArgs false
set_option maxHeartbeats 2000000
set_option maxRecDepth 100000
theorem copiedScripts_i (l : List GScript) (A : Option Addr) (c : Nat) (w : World) (h : C aR w A l) (hs : dP bP l ≤ 4194304) : Calls Tryz.prog 79 #[.slice A l.length c] w (RetRow aR 133 l w) := by
 have hn : l.length ≤ 4194304 := by unfold dP at hs; omega
 have H := Sd.mk h
 have HS := Sd.mk hs
 clear h hs
 go_enter Tryz.func79, Tryz.ntmps79
 go_wp2
 have hR0 : Sd (R aR 133 (w.alloc (.cells #[] 133)) (New w) (.slice (some ⟨w.heap.size, 0, none⟩) 0 0) []) := ⟨R_empty w⟩
 have hU0 : Sd (Upd No w (w.alloc (.cells #[] 133))) := ⟨(Upd.refl _ _).alloc _⟩
 go_loopg [3, 12] l.length (fun r u v wr => ∃ i : Nat, i + r = l.length ∧ v = .int .i64 i ∧ Sd (R aR 133 wr (New w) u (l.take i)) ∧ Sd (Upd No w wr))
 case atStart => exact ⟨0, by omega, rfl, hR0, hU0⟩
 case round =>
  clear hR0 hU0
  obtain ⟨i, hi, rfl, HR, HU⟩ := hrel
  obtain ⟨wo, rfl⟩ : ∃ z, z = wr := ⟨_, rfl⟩
  by_cases hlt : i < l.length
  ·obtain ⟨ad, A1, c1, rfl, a0, a1, hl1, hC1⟩ := jO (aO HU.out H.out) i hlt
   have HC1 := Sd.mk hC1
   clear hC1
   have hsi : bP l[i] ≤ 4194304 := by have := sumS_at bP l i hlt; have := HS.out; unfold dP at *; omega
   have hsm : dP bT l[i].Methods ≤ 4194304 := by unfold bP at hsi; omega
   have hnm : l[i].Methods.length ≤ 4194304 := by unfold dP at hsm; omega
   have S_M := Sd.mk hsm
   clear hsi hsm
   go_wp2
   have hb0 : Sd (Blk ((wo.alloc (.cells #[.string l[i].Name, .slice A1 l[i].Methods.length c1] 133)).alloc (.cells #[.string l[i].Name, .slice none 0 0] 133)) wo.heap.size 133 #[.string l[i].Name, .slice A1 l[i].Methods.length c1]) := ⟨(Blk.new _ _ _).alloc _⟩
   have hb2 : Sd (Blk ((wo.alloc (.cells #[.string l[i].Name, .slice A1 l[i].Methods.length c1] 133)).alloc (.cells #[.string l[i].Name, .slice none 0 0] 133)) (wo.heap.size + 1) 133 #[.string l[i].Name, .slice none 0 0]) := ⟨Blk.newAt (by simp)⟩
   have HBW : Sd (Upd No wo ((wo.alloc (.cells #[.string l[i].Name, .slice A1 l[i].Methods.length c1] 133)).alloc (.cells #[.string l[i].Name, .slice none 0 0] 133))) := ⟨((Upd.refl _ _).alloc _).alloc _⟩
   generalize ((wo.alloc (.cells #[.string l[i].Name, .slice A1 l[i].Methods.length c1] 133)).alloc (.cells #[.string l[i].Name, .slice none 0 0] 133)) = ws0 at *
   have hz_0 : wo.heap.size + 1 < ws0.heap.size := hb2.out.lt
   have HRL := Sd.mk (R_lt HR.out)
   clear HR a0 a1
   obtain ⟨g0, hg0⟩ : ∃ g, g = gk := ⟨_, rfl⟩
   go_loopg [22] l[i].Methods.length (fun r v wi => ∃ (k : Nat) (u : Value), k + r = l[i].Methods.length ∧ v = .int .i64 k ∧ Sd (Blk wi (wo.heap.size + 1) 133 #[.string l[i].Name, u]) ∧ Sd (R bS 210 wi (New ws0) u (l[i].Methods.take k)) ∧ Sd (Upd (fun b => b = wo.heap.size + 1) ws0 wi))
   case atStart => exact ⟨0, .slice none 0 0, by omega, rfl, hb2, ⟨fP⟩, ⟨Upd.refl _ _⟩⟩
   case round =>
    obtain ⟨k, u, hk, rfl, HB2, HR, HV⟩ := hrel
    obtain ⟨wi, rfl⟩ : ∃ z, z = wr := ⟨_, rfl⟩
    have HW : Sd (Upd No wo wi) := ⟨Upd.trans HBW.out HV.out (fun _ _ q => q) (fun b hb q => absurd hb kO)⟩
    have hzr := HV.out.size
    by_cases hlk : k < l[i].Methods.length
    ·obtain ⟨ae, D1, d1, he, e0, e1, hm1, hD1⟩ := jN (aO HW.out HC1.out) k hlk
     subst he
     have HD1 := Sd.mk hD1
     clear hD1
     have hsi : bT l[i].Methods[k] ≤ 4194304 := by have := sumS_at bT l[i].Methods k hlk; have := S_M.out; unfold dP at *; omega
     obtain ⟨Bu, bu, hv⟩ := bK HR.out
     rw [List.length_take, Nat.min_eq_left kO] at hv
     subst hv
     go_wp2_with fail
     refine gen_box ?_
     intro wm hB hUm
     clear e0 e1
     have m0 := hB.at 0 (v := .string l[i].Methods[k].Name) rfl
     have m1 := hB.at 1 (v := .slice D1 l[i].Methods[k].Code.length d1) rfl
     have HUm := Sd.mk hUm
     have hzm := hUm.size
     have hbl := hB.lt
     clear hB hUm
     replace HD1 := Sd.mk (aO HUm.out HD1.out)
     have HBo := Sd.mk (HB2.out.no HUm.out)
     have HR1 := Sd.mk (R_no HUm.out (R_lt HR.out))
     have so := HBo.out.at 1 (v := .slice Bu k bu) rfl
     have fo := HBo.out.free 1
     clear HR HB2
     go_region_law (first | (go_simp; go_at_call 147; (with_reducible refine (copied_Method l[i].Methods[k] _ _ (jW _ _ hm1 (aO (by repeat (with_reducible first | exact Upd.refl _ _ | apply Upd.alloc | apply Upd.drewN | apply Upd.drew)) HD1.out)) hsi).mono ?_); rintro e w1 ⟨cs, rfl, hM, hu⟩; have HM := Sd.mk (bS.gI (F' := fun b => wm.heap.size ≤ b) (fun b q => Nat.le_trans (Upd.size ((by repeat (with_reducible first | exact Upd.refl _ _ | apply Upd.alloc | apply Upd.drewN | apply Upd.drew)) : Upd No wm _)) q) hM); obtain ⟨v1, P1, rfl, r1, -⟩ := j4 hM; obtain ⟨Bz1, bz1, rfl⟩ := bK r1; clear r1; have HY : Sd (Upd No wm w1) := Sd.mk (Upd.then (by repeat (with_reducible first | exact Upd.refl _ _ | apply Upd.alloc | apply Upd.drewN | apply Upd.drew)) hu); have HRA := Sd.mk (R_no HY.out HR1.out); have hz1 := HY.out.size; have HBp := Sd.mk (HBo.out.no HY.out); have so1 := HBp.out.at 1 (v := .slice Bu k bu) rfl; have fo1 := HBp.out.free 1; have sa1 := (fun ob => (HBp.out.alloc ob).at 1 (v := .slice Bu k bu) rfl); clear hu hM) | ((refine R_appStep (d := bS) (e := 210) rfl _ _ 131 _ _ rfl Tryz.underlying131 kM rfl kD kD l[i].Methods[k] _ _ _ rfl rfl rfl HRA.out HM.out (fun b hb q => absurd q.2 kO) (by rw [List.length_take, Nat.min_eq_left kO]; omega) ?_); intro v2 w2 hR hu2; rw [← List.take_succ_eq_append_getElem hlk] at hR; obtain ⟨B2, b2, hv2⟩ := bK hR; rw [List.length_take, Nat.min_eq_left kO] at hv2; subst hv2; have HBq := Sd.mk (HBp.out.upd hu2 (fun q => absurd q.1 (by simp only [New]; omega))); have so2 := HBq.out.at 1 (v := .slice Bu k bu) rfl; have fo2 := HBq.out.free 1; have hz2 := hu2.size; have hR3 := Sd.mk (iD (F' := New ws0) (fun b q => (by simp only [New] at q ⊢; omega)) hR); have HX2 : Sd (Upd (fun b => b = wo.heap.size + 1) ws0 w2) := Sd.mk (HV.out.trans (Upd.trans (H := fun b => ws0.heap.size ≤ b) (HUm.out.then HY.out) hu2 (fun _ _ q => q.elim) (fun b hb q => (by have := q.1; simp only [New] at this; omega))) (fun _ _ q => q) (fun b hb q => absurd hb kO)); clear hR hu2))
     all_goals
      go_wp2
      go_roundg (gk - 1)
      case measure => omega
      case rel =>
       refine ⟨k + 1, .slice B2 (k + 1) b2, by omega, by go_num, ⟨?_⟩, ⟨?_⟩, ⟨?_⟩⟩
       ·exact Blk.put HBq.out 1 _ rfl
       ·exact bH (Upd.set (F := fun b => b = wo.heap.size + 1) (Upd.refl _ _) _ _ (.inr rfl)) (fun b q z => by simp only [New] at q; omega) hR3.out
       ·exact Upd.set HX2.out _ _ (.inr rfl)
    ·have hke : k = l[i].Methods.length := by omega
     rw [hke, List.take_length] at HR
     obtain ⟨B1, b1, hv⟩ := bK HR.out
     subst hv
     clear hke
     have o0 := HB2.out.at 0 (v := .string l[i].Name) rfl
     have o1 := HB2.out.at 1 (v := .slice B1 l[i].Methods.length b1) rfl
     have HRM := Sd.mk (R_lt HR.out)
     have HRA := Sd.mk (bH HV.out (fun b q z => by have := q.2; omega) (R_no HBW.out HRL.out))
     have hz := HU.out.size
     go_wp2_with (first | (at_builtin; refine R_appOne (d := aR) (e := 133) rfl _ _ 31 _ _ rfl Tryz.underlying31 kN rfl kD kD l[i] _ (fun b => New ws0 b ∧ b < wi.heap.size) _ rfl rfl rfl HRA.out (jC wi _ l[i] HRM.out (fun _ q => q)) (fun b hb q => by have := hb.1; have := q.2; simp only [New] at *; omega) (by rw [List.length_take, Nat.min_eq_left kO]; omega) ?_) | fail)
     intro v1 w2 hR hu
     have hR' := Sd.mk (iD (F' := New w) (fun b q => by simp only [New] at q ⊢; omega) hR)
     have HU2 : Sd (Upd No w w2) := Sd.mk (Upd.trans (F := No) (HU.out.then HW.out) hu (fun _ _ q => q) (fun b hb q => absurd hb (by have := q.1; simp only [New] at this; omega)))
     clear hR hu
     go_wp2
     go_roundg (g0 - 1)
     case measure => omega
     case rel => exact ⟨i + 1, by omega, by go_num, hR', HU2⟩
  ·go_wp2
   go_ret
   have hRR := HR.out
   rw [List.take_of_length_le kO] at hRR
   exact ⟨_, rfl, hRR, HU.out⟩
end Go.Proofs.YtfnedoiplblldaaGreatFam
namespace Go.Proofs.YtfnedoiplblldaaGreatFam
open Go.RowKit Go.Proofs.YtfnedoiplblldaaGreatSep Go.Proofs.YtfnedoiplblldaaGreatT Go.Proofs.YtfnedoiplblldaaGreatK
set_option linter.unusedVariables false
set_option linter.unusedSimpArgs false
set_option maxHeartbeats 1000000
set_option maxRecDepth 100000
theorem ki_Channel_Kmk (w : World) (x : GChannel) {A2 : Option Addr} {c2 : Nat} (hl2 : x.List.length ≤ c2) (hC2 : C dA w A2 x.List) : aT.K w x [.int .i64 x.From, .int .i64 x.To, .slice A2 x.List.length c2] := ⟨[_], [_, _], rfl, rfl, ⟨[_], [_], rfl, rfl, ⟨A2, c2, rfl, hl2, hC2⟩⟩⟩
theorem eq_Channel (x : GChannel) (cs cs' : List Value) (w : World) (h : aT.K w x cs) (h' : aT.K w x cs') : Calls Tryz.prog 139 #[.agg cs.toArray, .agg cs'.toArray] w (dD true w) := by
 obtain ⟨A2, c2, rfl, hl2, hC2⟩ := ki_Channel_K h
 have HC2 := Sd.mk hC2
 clear hC2
 obtain ⟨B2, b2, rfl, hm2, hD2⟩ := ki_Channel_K h'
 have HD2 := Sd.mk hD2
 clear hD2
 go_enter Tryz.func139, Tryz.ntmps139
 go_wp2_with fail
 with_reducible refine (eqS_Message x.List _ _ _ _ _ ?hc_List ?hd_List).mono ?_
 case hc_List => exact aO kA HC2.out
 case hd_List => exact aO kA HD2.out
 rintro e w_List ⟨rfl, hu⟩
 have HB_List : Sd (Upd No w w_List) := Sd.mk (Upd.then kA hu)
 have cc0_List := fun o => hu.bJ (b := w.heap.size) kB (fun q => q) o
 have cc1_List := fun o => hu.bJ (b := w.heap.size + 1) kB (fun q => q) o
 have hz_List : w.heap.size + 1 + 1 ≤ w_List.heap.size := by have := hu.size; (try simp at this); omega
 clear hu
 go_wp2
 go_ret
 exact ⟨rfl, (by repeat (with_reducible first | exact HB_List.out | apply Upd.bZ | apply Upd.bY | apply Upd.bW | apply Upd.alloc | apply Upd.drewN | apply Upd.drew))⟩
theorem eqS_Channel (l : List GChannel) (A A' : Option Addr) (c c' : Nat) (w : World) (h : C aT w A l) (h' : C aT w A' l) : Calls Tryz.prog 63 #[.slice A l.length c, .slice A' l.length c'] w (dD true w) := by
 have hn := h.1
 have H := Sd.mk h
 have H' := Sd.mk h'
 clear h h'
 go_enter Tryz.func63, Tryz.ntmps63
 go_wp2
 go_loopg [5] l.length (fun k v wr => ∃ i : Nat, i + k = l.length ∧ v = .int .i64 i ∧ Sd (Upd No w wr))
 case atStart => exact ⟨0, by omega, rfl, ⟨Upd.refl _ _⟩⟩
 case round =>
  obtain ⟨i, hi, rfl, HU⟩ := hrel
  by_cases hlt : i < l.length
  ·obtain ⟨ad, A2, c2, rfl, a0, a1, a2, hl2, hC2⟩ := lG (aO HU.out H.out) i hlt
   obtain ⟨ad', B2, b2, rfl, z0, z1, z2, hm2, hD2⟩ := lG (aO HU.out H'.out) i hlt
   have HC2 := Sd.mk hC2
   have HD2 := Sd.mk hD2
   clear hC2 hD2
   go_wp2_with fail
   go_still_tail 8, kR
   change wpList _ _ _ _ _ wr.drew
   have HW : Sd (Upd No wr wr.drew) := ⟨(Upd.refl _ _).drew⟩
   have HU2 : Sd (Upd No w wr.drew) := ⟨HU.out.drew⟩
   generalize wr.drew = w2 at *
   go_wp2_with (go_at_call 139; (with_reducible refine (eq_Channel l[i] _ _ _ (ki_Channel_Kmk _ _ hl2 (aO HW.out HC2.out)) (ki_Channel_Kmk _ _ hm2 (aO HW.out HD2.out))).mono ?_); rintro e w' ⟨rfl, hu⟩)
   have HU3 := Sd.mk (HU2.out.then hu)
   clear HU2 hu
   go_wp2
   go_roundg (gk - 1)
   case measure => omega
   case rel => exact ⟨i + 1, by omega, by go_num, HU3⟩
  ·go_wp2
   go_ret
   exact ⟨rfl, HU.out⟩
theorem markS_Channel (l : List GChannel) (k : Int) (F : Nat → Prop) (v : Value) (w : World) (h : R aT 196 w F v l) (hk : 0 ≤ k) (hb : k + aK bE l ≤ 4611686018427387904) : Calls Tryz.prog 66 #[v, .int .i64 k] w (Marks aT 196 F v (k + aK bE l) (mkS gL bE k l) w) := by
 obtain ⟨A, c, rfl⟩ := bK h
 have hn := R_len h
 have H := Sd.mk h
 clear h
 go_enter Tryz.func66, Tryz.ntmps66
 go_wp2
 go_loopg [1, 5] l.length (fun r u v wr => ∃ i : Nat, i + r = l.length ∧ u = .int .i64 (k + aK bE (l.take i)) ∧ v = .int .i64 i ∧ Sd (R aT 196 wr F (.slice A l.length c) (upTo (mkS gL bE k l) l i)) ∧ Sd (Upd F w wr))
 case atStart => exact ⟨0, by omega, by simp [aK], rfl, ⟨by rw [eD]; exact H.out⟩, ⟨Upd.refl _ _⟩⟩
 case round =>
  obtain ⟨i, hi, rfl, rfl, HR, HU⟩ := hrel
  by_cases hlt : i < l.length
  ·have hle := bL bE gM l i
   have hst := cB bE l i hlt
   have hle2 := bL bE gM l (i + 1)
   rw [hst] at hle2
   have HST := Sd.mk hst
   clear hst
   have HMA := Sd.mk (eO gL bE l k i hlt)
   obtain ⟨g, cap, cur, ce, Fi, hv, hcap, hat, hM, hg, hFi, hFg, close⟩ := iH HR.out 3 l.length rfl (fC (aM _ _ _ _) kO) i l[i] (gB (aM _ _ _ _) hlt)
   cases hv
   obtain ⟨v2, P2, rfl, hR2, i2⟩ := ki_Channel_M hM
   obtain ⟨B2, b2, rfl⟩ := bK hR2
   have HR2 := Sd.mk hR2
   have I2 := Sd.mk i2
   have N2 : ¬ P2 g := fun q => hFg (i2 g q)
   clear hR2 i2
   have nn2 := bN bA gJ l[i].List
   have HCN : Sd (bE l[i] = bE l[i]) := ⟨rfl⟩
   simp only [bE] at hle2
   generalize hq : k + aK bE (l.take i) = q at *
   have HQ := Sd.mk hq
   have hq0 : 0 ≤ q := by omega
   have hqb : q + (((0 + 1) + 1) + aK bA l[i].List) ≤ 4611686018427387904 := by omega
   clear hq hle hle2 hb
   generalize hcn2 : aK bA l[i].List = cn2 at *
   have HC2 := Sd.mk hcn2
   clear hcn2
   have HAT := Sd.mk hat
   have x0_s := hat.cell0 _ rfl
   have x1_s := hat.cell 1 _ rfl
   have x2_s := hat.cell 2 _ rfl
   have f0_s := hat.free (i * 3)
   have f1_s := hat.free (i * 3 + 1)
   have f2_s := hat.free (i * 3 + 2)
   have CL := Sd.mk close
   clear hat close hM HR
   go_wp2_with fail
   with_reducible refine (markS_Message l[i].List _ P2 _ _ ?hr_List kO (by rw [HC2.out]; omega)).mono ?_
   case hr_List => exact (bH (G := fun b => b = g) kC (fun b hb hg' => N2 (hg' ▸ hb)) HR2.out)
   rintro e w_List ⟨rfl, hR2, hu⟩
   rw [HC2.out]
   replace HR2 := Sd.mk hR2
   replace HAT := Sd.mk (((HAT.out.set0 kD (.int .i64 (q))).set 1 kD (.int .i64 ((q + 1)))).call hu I2.out hFg)
   clear hR2
   clear hu x0_s f0_s x1_s f1_s x2_s f2_s
   have x0_List := HAT.out.cell0 _ rfl
   have x1_List := HAT.out.cell 1 _ rfl
   have x2_List := HAT.out.cell 2 _ rfl
   have f0_List := HAT.out.free (i * 3)
   have f1_List := HAT.out.free (i * 3 + 1)
   have f2_List := HAT.out.free (i * 3 + 2)
   go_wp2
   have HA := HAT.out
   have hy : (⟨q, (q + 1), mkS fT bA ((q + 1) + 1) l[i].List⟩ : GChannel) = (mkS gL bE k l)[i]'(by rw [aM]; exact hlt) := by rw [HMA.out]; simp only [gL, HC2.out]
   have HRowB := CL.out _ _ (⟨q, (q + 1), mkS fT bA ((q + 1) + 1) l[i].List⟩ : GChannel) Fi F HA (ki_Channel_mk _ Fi (⟨q, (q + 1), mkS fT bA ((q + 1) + 1) l[i].List⟩ : GChannel) (bH (G := fun b => b = g) kC (fun b hb hg' => N2 (hg' ▸ hb)) HR2.out) I2.out) (fun _ hb => .inl hb) (fun _ hb => hb) hFi
   rw [hy, fD (aM _ _ _ _) hlt] at HRowB
   go_roundg (gk - 1)
   case measure => omega
   case rel => exact ⟨i + 1, by omega, by rw [HST.out]; simp only [bE]; have := HQ.out; have := HC2.out; exact congrArg (Value.int .i64) kO, by go_num, ⟨HRowB⟩, ⟨HU.out.trans HA.upd (fun _ _ hb => hb) (fun b _ hb => by rcases hb with rfl | hb; exact hg; exact hFi b hb)⟩⟩
  ·go_wp2
   go_ret
   have HRowB := HR.out
   rw [fB (aM _ _ _ _) kO] at HRowB
   have e : l.take i = l := List.take_of_length_le kO
   exact ⟨dL (by rw [e]), HRowB, HU.out⟩
theorem heldS_Channel (l : List GChannel) (k : Int) (A : Option Addr) (c : Nat) (w : World) (h : C aT w A (mkS gL bE k l)) (hk : 0 ≤ k) (hb : k + aK bE l ≤ 4611686018427387904) : Calls Tryz.prog 70 #[.slice A l.length c, .int .i64 k] w (gN (k + aK bE l) w) := by
 have hn := h.1
 rw [aM] at hn
 have H := Sd.mk h
 clear h
 go_enter Tryz.func70, Tryz.ntmps70
 go_wp2
 go_loopg [1, 5] l.length (fun r u v wr => ∃ i : Nat, i + r = l.length ∧ u = .int .i64 (k + aK bE (l.take i)) ∧ v = .int .i64 i ∧ Sd (Upd No w wr))
 case atStart => exact ⟨0, by omega, by simp [aK], rfl, ⟨Upd.refl _ _⟩⟩
 case round =>
  obtain ⟨i, hi, rfl, rfl, HU⟩ := hrel
  by_cases hlt : i < l.length
  ·have hle := bL bE gM l i
   have hst := cB bE l i hlt
   have hle2 := bL bE gM l (i + 1)
   rw [hst] at hle2
   have HST := Sd.mk hst
   clear hst
   obtain ⟨ad, A2, c2, rfl, a0, a1, a2, hl2, hC2⟩ := lG (aO HU.out H.out) i (by rw [aM]; exact hlt)
   rw [eO gL bE l k i hlt] at a0 a1 a2 hl2 hC2
   simp only [gL, aM] at a0 a1 a2 hl2 hC2
   have nn2 := bN bA gJ l[i].List
   simp only [bE] at hle2
   generalize hq : k + aK bE (l.take i) = q at *
   have HQ := Sd.mk hq
   have hq0 : 0 ≤ q := by omega
   have hqb : q + (((0 + 1) + 1) + aK bA l[i].List) ≤ 4611686018427387904 := by omega
   clear hq hle hle2 hb
   generalize hcn2 : aK bA l[i].List = cn2 at *
   have HN2 := Sd.mk hcn2
   clear hcn2
   have HC2 := Sd.mk hC2
   clear hC2
   have HX := Sd.mk (Upd.refl No wr)
   go_wp2_with fail
   with_reducible refine (heldS_Message l[i].List _ _ _ _ ?hc_List kO (by rw [HN2.out]; omega)).mono ?_
   case hc_List => exact HC2.out
   rintro e w_List ⟨rfl, hu⟩
   rw [HN2.out]
   replace a0 := hu.read a0
   replace a1 := hu.read a1
   replace a2 := hu.read a2
   replace HC2 := Sd.mk (aO hu HC2.out)
   replace HX := Sd.mk (HX.out.then hu)
   clear hu
   go_wp2
   go_roundg (gk - 1)
   case measure => omega
   case rel => exact ⟨i + 1, by omega, by rw [HST.out]; simp only [bE]; have := HQ.out; have := HN2.out; exact congrArg (Value.int .i64) kO, by go_num, ⟨HU.out.then HX.out⟩⟩
  ·go_wp2
   go_ret
   have e : l.take i = l := List.take_of_length_le kO
   exact ⟨dL (by rw [e]), HU.out⟩
theorem ki_Note_Kmk (w : World) (x : GNote) : eG.K w x [.int .i64 x.Kind, .int .i64 x.Vat, .int .i64 x.Entity, .int .i64 x.Tag.Vat, .int .i64 x.Tag.Entity, .int .i64 x.Tag.Seq] := ⟨[_], [_, _, _, _, _], rfl, rfl, ⟨[_], [_, _, _, _], rfl, rfl, ⟨[_], [_, _, _], rfl, rfl, (iK w _)⟩⟩⟩
theorem eq_Note (x : GNote) (cs cs' : List Value) (w : World) (h : eG.K w x cs) (h' : eG.K w x cs') : Calls Tryz.prog 140 #[.agg cs.toArray, .agg cs'.toArray] w (dD true w) := by
 obtain rfl := ki_Note_K h
 obtain rfl := ki_Note_K h'
 go_enter Tryz.func140, Tryz.ntmps140
 go_wp2_with fail
 with_reducible refine (eq_Tag x.Tag _ _ _ (iK _ _) (iK _ _)).mono ?_
 rintro e w_Tag ⟨rfl, hu⟩
 have HB_Tag : Sd (Upd No w w_Tag) := Sd.mk (Upd.then kA hu)
 have cc0_Tag := fun o => hu.bJ (b := w.heap.size) kB (fun q => q) o
 have cc1_Tag := fun o => hu.bJ (b := w.heap.size + 1) kB (fun q => q) o
 have hz_Tag : w.heap.size + 1 + 1 ≤ w_Tag.heap.size := by have := hu.size; (try simp at this); omega
 clear hu
 go_wp2
 go_ret
 exact ⟨rfl, (by repeat (with_reducible first | exact HB_Tag.out | apply Upd.bZ | apply Upd.bY | apply Upd.bW | apply Upd.alloc | apply Upd.drewN | apply Upd.drew))⟩
theorem eqS_Note (l : List GNote) (A A' : Option Addr) (c c' : Nat) (w : World) (h : C eG w A l) (h' : C eG w A' l) : Calls Tryz.prog 64 #[.slice A l.length c, .slice A' l.length c'] w (dD true w) := by
 have hn := h.1
 have H := Sd.mk h
 have H' := Sd.mk h'
 clear h h'
 go_enter Tryz.func64, Tryz.ntmps64
 go_wp2
 go_loopg [5] l.length (fun k v wr => ∃ i : Nat, i + k = l.length ∧ v = .int .i64 i ∧ Sd (Upd No w wr))
 case atStart => exact ⟨0, by omega, rfl, ⟨Upd.refl _ _⟩⟩
 case round =>
  obtain ⟨i, hi, rfl, HU⟩ := hrel
  by_cases hlt : i < l.length
  ·obtain ⟨ad, rfl, a0, a1, a2, a3, a4, a5⟩ := ki_Note_at (aO HU.out H.out) i hlt
   obtain ⟨ad', rfl, z0, z1, z2, z3, z4, z5⟩ := ki_Note_at (aO HU.out H'.out) i hlt
   go_wp2_with fail
   go_still_tail 8, kR
   change wpList _ _ _ _ _ wr.drew
   have HW : Sd (Upd No wr wr.drew) := ⟨(Upd.refl _ _).drew⟩
   have HU2 : Sd (Upd No w wr.drew) := ⟨HU.out.drew⟩
   generalize wr.drew = w2 at *
   go_wp2_with (go_at_call 140; (with_reducible refine (eq_Note l[i] _ _ _ (ki_Note_Kmk _ _) (ki_Note_Kmk _ _)).mono ?_); rintro e w' ⟨rfl, hu⟩)
   have HU3 := Sd.mk (HU2.out.then hu)
   clear HU2 hu
   go_wp2
   go_roundg (gk - 1)
   case measure => omega
   case rel => exact ⟨i + 1, by omega, by go_num, HU3⟩
  ·go_wp2
   go_ret
   exact ⟨rfl, HU.out⟩
theorem markS_Note (l : List GNote) (k : Int) (F : Nat → Prop) (v : Value) (w : World) (h : R eG 110 w F v l) (hk : 0 ≤ k) (hb : k + aK bV l ≤ 4611686018427387904) : Calls Tryz.prog 67 #[v, .int .i64 k] w (Marks eG 110 F v (k + aK bV l) (mkS jM bV k l) w) := by
 obtain ⟨A, c, rfl⟩ := bK h
 have hn := R_len h
 have H := Sd.mk h
 clear h
 go_enter Tryz.func67, Tryz.ntmps67
 go_wp2
 go_loopg [1, 5] l.length (fun r u v wr => ∃ i : Nat, i + r = l.length ∧ u = .int .i64 (k + aK bV (l.take i)) ∧ v = .int .i64 i ∧ Sd (R eG 110 wr F (.slice A l.length c) (upTo (mkS jM bV k l) l i)) ∧ Sd (Upd F w wr))
 case atStart => exact ⟨0, by omega, by simp [aK], rfl, ⟨by rw [eD]; exact H.out⟩, ⟨Upd.refl _ _⟩⟩
 case round =>
  obtain ⟨i, hi, rfl, rfl, HR, HU⟩ := hrel
  by_cases hlt : i < l.length
  ·have hle := bL bV iW l i
   have hst := cB bV l i hlt
   have hle2 := bL bV iW l (i + 1)
   rw [hst] at hle2
   have HST := Sd.mk hst
   clear hst
   have HMA := Sd.mk (eO jM bV l k i hlt)
   obtain ⟨g, cap, cur, ce, Fi, hv, hcap, hat, hM, hg, hFi, hFg, close⟩ := iH HR.out 6 l.length rfl (fC (aM _ _ _ _) kO) i l[i] (gB (aM _ _ _ _) hlt)
   cases hv
   obtain rfl := ki_Note_M hM
   have HCN : Sd (bV l[i] = bV l[i]) := ⟨rfl⟩
   simp only [bV] at hle2
   generalize hq : k + aK bV (l.take i) = q at *
   have HQ := Sd.mk hq
   have hq0 : 0 ≤ q := by omega
   have hqb : q + ((((((0 + 1) + 1) + 1) + 1) + 1) + 1) ≤ 4611686018427387904 := by omega
   clear hq hle hle2 hb
   have HAT := Sd.mk hat
   have x0_s := hat.cell0 _ rfl
   have x1_s := hat.cell 1 _ rfl
   have x2_s := hat.cell 2 _ rfl
   have x3_s := hat.cell 3 _ rfl
   have x4_s := hat.cell 4 _ rfl
   have x5_s := hat.cell 5 _ rfl
   have f0_s := hat.free (i * 6)
   have f1_s := hat.free (i * 6 + 1)
   have f2_s := hat.free (i * 6 + 2)
   have f3_s := hat.free (i * 6 + 3)
   have f4_s := hat.free (i * 6 + 4)
   have f5_s := hat.free (i * 6 + 5)
   have CL := Sd.mk close
   clear hat close hM HR
   go_wp2
   have HA := ((((((HAT.out.set0 kD (.int .i64 (q))).set 1 kD (.int .i64 ((q + 1)))).set 2 kD (.int .i64 (((q + 1) + 1)))).set 3 kD (.int .i64 ((((q + 1) + 1) + 1)))).set 4 kD (.int .i64 (((((q + 1) + 1) + 1) + 1)))).set 5 kD (.int .i64 ((((((q + 1) + 1) + 1) + 1) + 1))))
   have hy : (⟨q, (q + 1), ((q + 1) + 1), ⟨(((q + 1) + 1) + 1), ((((q + 1) + 1) + 1) + 1), (((((q + 1) + 1) + 1) + 1) + 1)⟩⟩ : GNote) = (mkS jM bV k l)[i]'(by rw [aM]; exact hlt) := by rw [HMA.out]; simp only [jM]
   have HRowB := CL.out _ _ (⟨q, (q + 1), ((q + 1) + 1), ⟨(((q + 1) + 1) + 1), ((((q + 1) + 1) + 1) + 1), (((((q + 1) + 1) + 1) + 1) + 1)⟩⟩ : GNote) Fi F HA (ki_Note_mk _ Fi (⟨q, (q + 1), ((q + 1) + 1), ⟨(((q + 1) + 1) + 1), ((((q + 1) + 1) + 1) + 1), (((((q + 1) + 1) + 1) + 1) + 1)⟩⟩ : GNote)) (fun _ hb => .inl hb) (fun _ hb => hb) hFi
   rw [hy, fD (aM _ _ _ _) hlt] at HRowB
   go_roundg (gk - 1)
   case measure => omega
   case rel => exact ⟨i + 1, by omega, by rw [HST.out]; simp only [bV]; have := HQ.out; exact congrArg (Value.int .i64) kO, by go_num, ⟨HRowB⟩, ⟨HU.out.trans HA.upd (fun _ _ hb => hb) (fun b _ hb => by rcases hb with rfl | hb; exact hg; exact hFi b hb)⟩⟩
  ·go_wp2
   go_ret
   have HRowB := HR.out
   rw [fB (aM _ _ _ _) kO] at HRowB
   have e : l.take i = l := List.take_of_length_le kO
   exact ⟨dL (by rw [e]), HRowB, HU.out⟩
theorem heldS_Note (l : List GNote) (k : Int) (A : Option Addr) (c : Nat) (w : World) (h : C eG w A (mkS jM bV k l)) (hk : 0 ≤ k) (hb : k + aK bV l ≤ 4611686018427387904) : Calls Tryz.prog 71 #[.slice A l.length c, .int .i64 k] w (gN (k + aK bV l) w) := by
 have hn := h.1
 rw [aM] at hn
 have H := Sd.mk h
 clear h
 go_enter Tryz.func71, Tryz.ntmps71
 go_wp2
 go_loopg [1, 5] l.length (fun r u v wr => ∃ i : Nat, i + r = l.length ∧ u = .int .i64 (k + aK bV (l.take i)) ∧ v = .int .i64 i ∧ Sd (Upd No w wr))
 case atStart => exact ⟨0, by omega, by simp [aK], rfl, ⟨Upd.refl _ _⟩⟩
 case round =>
  obtain ⟨i, hi, rfl, rfl, HU⟩ := hrel
  by_cases hlt : i < l.length
  ·have hle := bL bV iW l i
   have hst := cB bV l i hlt
   have hle2 := bL bV iW l (i + 1)
   rw [hst] at hle2
   have HST := Sd.mk hst
   clear hst
   obtain ⟨ad, rfl, a0, a1, a2, a3, a4, a5⟩ := ki_Note_at (aO HU.out H.out) i (by rw [aM]; exact hlt)
   rw [eO jM bV l k i hlt] at a0 a1 a2 a3 a4 a5
   simp only [jM] at a0 a1 a2 a3 a4 a5
   simp only [bV] at hle2
   generalize hq : k + aK bV (l.take i) = q at *
   have HQ := Sd.mk hq
   have hq0 : 0 ≤ q := by omega
   have hqb : q + ((((((0 + 1) + 1) + 1) + 1) + 1) + 1) ≤ 4611686018427387904 := by omega
   clear hq hle hle2 hb
   have HX := Sd.mk (Upd.refl No wr)
   go_wp2
   go_roundg (gk - 1)
   case measure => omega
   case rel => exact ⟨i + 1, by omega, by rw [HST.out]; simp only [bV]; have := HQ.out; exact congrArg (Value.int .i64) kO, by go_num, ⟨HU.out.then HX.out⟩⟩
  ·go_wp2
   go_ret
   have e : l.take i = l := List.take_of_length_le kO
   exact ⟨dL (by rw [e]), HU.out⟩
theorem eq_World (x : GWorld) (cs cs' : List Value) (w : World) (h : dI.K w x cs) (h' : dI.K w x cs') : Calls Tryz.prog 15 #[.agg cs.toArray, .agg cs'.toArray] w (dD true w) := by
 obtain ⟨A0, c0, A1, c1, A2, c2, A3, c3, rfl, hl0, hC0, hl1, hC1, hl2, hC2, hl3, hC3⟩ := ki_World_K h
 have HC0 := Sd.mk hC0
 have HC1 := Sd.mk hC1
 have HC2 := Sd.mk hC2
 have HC3 := Sd.mk hC3
 clear hC0 hC1 hC2 hC3
 obtain ⟨B0, b0, B1, b1, B2, b2, B3, b3, rfl, hm0, hD0, hm1, hD1, hm2, hD2, hm3, hD3⟩ := ki_World_K h'
 have HD0 := Sd.mk hD0
 have HD1 := Sd.mk hD1
 have HD2 := Sd.mk hD2
 have HD3 := Sd.mk hD3
 clear hD0 hD1 hD2 hD3
 go_enter Tryz.func15, Tryz.ntmps15
 go_wp2_with fail
 with_reducible refine (eqS_Script x.eY _ _ _ _ _ ?hc_Library ?hd_Library).mono ?_
 case hc_Library => exact aO kA HC0.out
 case hd_Library => exact aO kA HD0.out
 rintro e w_Library ⟨rfl, hu⟩
 have HB_Library : Sd (Upd No w w_Library) := Sd.mk (Upd.then kA hu)
 have cc0_Library := fun o => hu.bJ (b := w.heap.size) kB (fun q => q) o
 have cc1_Library := fun o => hu.bJ (b := w.heap.size + 1) kB (fun q => q) o
 have hz_Library : w.heap.size + 1 + 1 ≤ w_Library.heap.size := by have := hu.size; (try simp at this); omega
 clear hu
 go_wp2_with fail
 with_reducible refine (eqS_Vat x.Vats _ _ _ _ _ ?hc_Vats ?hd_Vats).mono ?_
 case hc_Vats => exact aO (by repeat (with_reducible first | exact HB_Library.out | apply Upd.bZ | apply Upd.bY | apply Upd.bW | apply Upd.alloc | apply Upd.drewN | apply Upd.drew)) HC1.out
 case hd_Vats => exact aO (by repeat (with_reducible first | exact HB_Library.out | apply Upd.bZ | apply Upd.bY | apply Upd.bW | apply Upd.alloc | apply Upd.drewN | apply Upd.drew)) HD1.out
 rintro e w_Vats ⟨rfl, hu⟩
 have HB_Vats : Sd (Upd No w w_Vats) := Sd.mk (Upd.then (by repeat (with_reducible first | exact HB_Library.out | apply Upd.bZ | apply Upd.bY | apply Upd.bW | apply Upd.alloc | apply Upd.drewN | apply Upd.drew)) hu)
 have cc0_Vats := fun o => hu.bJ (b := w.heap.size) kB (fun q => q) o
 have cc1_Vats := fun o => hu.bJ (b := w.heap.size + 1) kB (fun q => q) o
 have hz_Vats : w.heap.size + 1 + 1 ≤ w_Vats.heap.size := by have := hu.size; (try simp at this); omega
 clear hu
 go_wp2_with fail
 with_reducible refine (eqS_Channel x.eH _ _ _ _ _ ?hc_Channels ?hd_Channels).mono ?_
 case hc_Channels => exact aO (by repeat (with_reducible first | exact HB_Vats.out | apply Upd.bZ | apply Upd.bY | apply Upd.bW | apply Upd.alloc | apply Upd.drewN | apply Upd.drew)) HC2.out
 case hd_Channels => exact aO (by repeat (with_reducible first | exact HB_Vats.out | apply Upd.bZ | apply Upd.bY | apply Upd.bW | apply Upd.alloc | apply Upd.drewN | apply Upd.drew)) HD2.out
 rintro e w_Channels ⟨rfl, hu⟩
 have HB_Channels : Sd (Upd No w w_Channels) := Sd.mk (Upd.then (by repeat (with_reducible first | exact HB_Vats.out | apply Upd.bZ | apply Upd.bY | apply Upd.bW | apply Upd.alloc | apply Upd.drewN | apply Upd.drew)) hu)
 have cc0_Channels := fun o => hu.bJ (b := w.heap.size) kB (fun q => q) o
 have cc1_Channels := fun o => hu.bJ (b := w.heap.size + 1) kB (fun q => q) o
 have hz_Channels : w.heap.size + 1 + 1 ≤ w_Channels.heap.size := by have := hu.size; (try simp at this); omega
 clear hu
 go_wp2_with fail
 with_reducible refine (eqS_Note x.jD _ _ _ _ _ ?hc_Notes ?hd_Notes).mono ?_
 case hc_Notes => exact aO (by repeat (with_reducible first | exact HB_Channels.out | apply Upd.bZ | apply Upd.bY | apply Upd.bW | apply Upd.alloc | apply Upd.drewN | apply Upd.drew)) HC3.out
 case hd_Notes => exact aO (by repeat (with_reducible first | exact HB_Channels.out | apply Upd.bZ | apply Upd.bY | apply Upd.bW | apply Upd.alloc | apply Upd.drewN | apply Upd.drew)) HD3.out
 rintro e w_Notes ⟨rfl, hu⟩
 have HB_Notes : Sd (Upd No w w_Notes) := Sd.mk (Upd.then (by repeat (with_reducible first | exact HB_Channels.out | apply Upd.bZ | apply Upd.bY | apply Upd.bW | apply Upd.alloc | apply Upd.drewN | apply Upd.drew)) hu)
 have cc0_Notes := fun o => hu.bJ (b := w.heap.size) kB (fun q => q) o
 have cc1_Notes := fun o => hu.bJ (b := w.heap.size + 1) kB (fun q => q) o
 have hz_Notes : w.heap.size + 1 + 1 ≤ w_Notes.heap.size := by have := hu.size; (try simp at this); omega
 clear hu
 go_wp2
 go_ret
 exact ⟨rfl, (by repeat (with_reducible first | exact HB_Notes.out | apply Upd.bZ | apply Upd.bY | apply Upd.bW | apply Upd.alloc | apply Upd.drewN | apply Upd.drew))⟩
theorem markv_World_c (x : GWorld) (k : Int) (F : Nat → Prop) (cs : List Value) (w : World) (h : dI.M w F x cs) (hk : 0 ≤ k) (hb : k + cZ x ≤ 4611686018427387904) : Calls Tryz.prog 16 #[.agg cs.toArray, .int .i64 k] w (MarksV dI F cs (k + cZ x) (iZ k x) w) := by
 obtain ⟨v0, P0, v1, P1, v2, P2, v3, P3, rfl, hR0, hR1, hR2, hR3, i0, i1, i2, i3, d0_1, d0_2, d0_3, d1_2, d1_3, d2_3⟩ := ki_World_M (dI.M_lt h)
 obtain ⟨B0, b0, rfl⟩ := bK hR0
 have HR0 := Sd.mk hR0
 have I0 := Sd.mk (fun b q => (i0 b q).1)
 have L0 := Sd.mk (fun b q => (i0 b q).2)
 clear hR0 i0
 have nn0 := bN aW gD x.eY
 obtain ⟨B1, b1, rfl⟩ := bK hR1
 have HR1 := Sd.mk hR1
 have I1 := Sd.mk (fun b q => (i1 b q).1)
 have L1 := Sd.mk (fun b q => (i1 b q).2)
 clear hR1 i1
 have nn1 := bN dB jJ x.Vats
 obtain ⟨B2, b2, rfl⟩ := bK hR2
 have HR2 := Sd.mk hR2
 have I2 := Sd.mk (fun b q => (i2 b q).1)
 have L2 := Sd.mk (fun b q => (i2 b q).2)
 clear hR2 i2
 have nn2 := bN bE gM x.eH
 obtain ⟨B3, b3, rfl⟩ := bK hR3
 have HR3 := Sd.mk hR3
 have I3 := Sd.mk (fun b q => (i3 b q).1)
 have L3 := Sd.mk (fun b q => (i3 b q).2)
 clear hR3 i3
 have nn3 := bN bV iW x.jD
 have D0_1 := Sd.mk d0_1
 clear d0_1
 have D0_2 := Sd.mk d0_2
 clear d0_2
 have D0_3 := Sd.mk d0_3
 clear d0_3
 have D1_2 := Sd.mk d1_2
 clear d1_2
 have D1_3 := Sd.mk d1_3
 clear d1_3
 have D2_3 := Sd.mk d2_3
 clear d2_3
 clear h
 unfold cZ at hb
 generalize hcn0 : aK aW x.eY = cn0 at *
 have HC0 := Sd.mk hcn0
 clear hcn0
 generalize hcn1 : aK dB x.Vats = cn1 at *
 have HC1 := Sd.mk hcn1
 clear hcn1
 generalize hcn2 : aK bE x.eH = cn2 at *
 have HC2 := Sd.mk hcn2
 clear hcn2
 generalize hcn3 : aK bV x.jD = cn3 at *
 have HC3 := Sd.mk hcn3
 clear hcn3
 go_enter Tryz.func16, Tryz.ntmps16
 go_wp2_with fail
 with_reducible refine (markS_Script x.eY _ P0 _ _ ?hr0 kO (by rw [HC0.out]; omega)).mono ?_
 case hr0 => exact bH ((Upd.refl No w).alloc _) (fun _ _ q => q) HR0.out
 rintro e w_0 ⟨rfl, hR0, hu⟩
 rw [HC0.out]
 replace HR1 := Sd.mk (bH hu (fun b hb hg' => D0_1.out b hg' hb) (bH ((Upd.refl No w).alloc _) (fun _ _ q => q) HR1.out))
 replace HR2 := Sd.mk (bH hu (fun b hb hg' => D0_2.out b hg' hb) (bH ((Upd.refl No w).alloc _) (fun _ _ q => q) HR2.out))
 replace HR3 := Sd.mk (bH hu (fun b hb hg' => D0_3.out b hg' hb) (bH ((Upd.refl No w).alloc _) (fun _ _ q => q) HR3.out))
 replace HR0 := Sd.mk hR0
 have cc_0 := fun o => hu.bJ (b := w.heap.size) kB (fun q => absurd (L0.out _ q) (Nat.lt_irrefl _)) o
 have hz_0 : w.heap.size + 1 ≤ w_0.heap.size := by have := hu.size; (try simp at this); omega
 have HU_0 : Sd (Upd F w w_0) := Sd.mk (Upd.trans ((Upd.refl No w).alloc _) hu (fun _ _ q => q.elim) (fun b _ q => I0.out b q))
 clear hu hR0
 go_wp2_with fail
 with_reducible refine (markS_Vat x.Vats _ P1 _ _ ?hr1 kO (by rw [HC1.out]; omega)).mono ?_
 case hr1 => exact HR1.out
 rintro e w_1 ⟨rfl, hR1, hu⟩
 rw [HC1.out]
 replace HR0 := Sd.mk (bH hu (fun b hb hg' => D0_1.out b hb hg') (HR0.out))
 replace HR2 := Sd.mk (bH hu (fun b hb hg' => D1_2.out b hg' hb) (HR2.out))
 replace HR3 := Sd.mk (bH hu (fun b hb hg' => D1_3.out b hg' hb) (HR3.out))
 replace HR1 := Sd.mk hR1
 have cc_1 := fun o => hu.bJ (b := w.heap.size) kB (fun q => absurd (L1.out _ q) (Nat.lt_irrefl _)) o
 have hz_1 : w.heap.size + 1 ≤ w_1.heap.size := by have := hu.size; (try simp at this); omega
 have HU_1 : Sd (Upd F w w_1) := Sd.mk (HU_0.out.trans hu (fun _ _ q => q) (fun b _ q => I1.out b q))
 clear hu hR1
 go_wp2_with fail
 with_reducible refine (markS_Channel x.eH _ P2 _ _ ?hr2 kO (by rw [HC2.out]; omega)).mono ?_
 case hr2 => exact HR2.out
 rintro e w_2 ⟨rfl, hR2, hu⟩
 rw [HC2.out]
 replace HR0 := Sd.mk (bH hu (fun b hb hg' => D0_2.out b hb hg') (HR0.out))
 replace HR1 := Sd.mk (bH hu (fun b hb hg' => D1_2.out b hb hg') (HR1.out))
 replace HR3 := Sd.mk (bH hu (fun b hb hg' => D2_3.out b hg' hb) (HR3.out))
 replace HR2 := Sd.mk hR2
 have cc_2 := fun o => hu.bJ (b := w.heap.size) kB (fun q => absurd (L2.out _ q) (Nat.lt_irrefl _)) o
 have hz_2 : w.heap.size + 1 ≤ w_2.heap.size := by have := hu.size; (try simp at this); omega
 have HU_2 : Sd (Upd F w w_2) := Sd.mk (HU_1.out.trans hu (fun _ _ q => q) (fun b _ q => I2.out b q))
 clear hu hR2
 go_wp2_with fail
 with_reducible refine (markS_Note x.jD _ P3 _ _ ?hr3 kO (by rw [HC3.out]; omega)).mono ?_
 case hr3 => exact HR3.out
 rintro e w_3 ⟨rfl, hR3, hu⟩
 rw [HC3.out]
 replace HR0 := Sd.mk (bH hu (fun b hb hg' => D0_3.out b hb hg') (HR0.out))
 replace HR1 := Sd.mk (bH hu (fun b hb hg' => D1_3.out b hb hg') (HR1.out))
 replace HR2 := Sd.mk (bH hu (fun b hb hg' => D2_3.out b hb hg') (HR2.out))
 replace HR3 := Sd.mk hR3
 have cc_3 := fun o => hu.bJ (b := w.heap.size) kB (fun q => absurd (L3.out _ q) (Nat.lt_irrefl _)) o
 have hz_3 : w.heap.size + 1 ≤ w_3.heap.size := by have := hu.size; (try simp at this); omega
 have HU_3 : Sd (Upd F w w_3) := Sd.mk (HU_2.out.trans hu (fun _ _ q => q) (fun b _ q => I3.out b q))
 clear hu hR3
 have hy : (⟨mkS fG aW k x.eY, mkS mk_Vat dB (k + cn0) x.Vats, mkS gL bE ((k + cn0) + cn1) x.eH, mkS jM bV (((k + cn0) + cn1) + cn2) x.jD, x.Strays⟩ : GWorld) = iZ k x := by simp only [iZ, HC0.out, HC1.out, HC2.out, HC3.out]
 have hc : cZ x = ((((0 + cn0) + cn1) + cn2) + cn3) := by simp only [cZ, HC0.out, HC1.out, HC2.out, HC3.out]
 have HMM := ki_World_mk w_3 F (⟨mkS fG aW k x.eY, mkS mk_Vat dB (k + cn0) x.Vats, mkS gL bE ((k + cn0) + cn1) x.eH, mkS jM bV (((k + cn0) + cn1) + cn2) x.jD, x.Strays⟩ : GWorld) HR0.out HR1.out HR2.out HR3.out I0.out I1.out I2.out I3.out D0_1.out D0_2.out D0_3.out D1_2.out D1_3.out D2_3.out
 rw [hy] at HMM
 have HMM' := Sd.mk HMM
 have Hc := Sd.mk hc
 clear HMM hy hc
 go_wp2
 go_ret
 exact ⟨dL (by rw [Hc.out]; omega), HMM'.out, HU_3.out⟩
theorem heldv_World_c (x : GWorld) (k : Int) (cs : List Value) (w : World) (h : dI.K w (iZ k x) cs) (hk : 0 ≤ k) (hb : k + cZ x ≤ 4611686018427387904) : Calls Tryz.prog 17 #[.agg cs.toArray, .int .i64 k] w (gN (k + cZ x) w) := by
 obtain ⟨A0, c0, A1, c1, A2, c2, A3, c3, rfl, hl0, hC0, hl1, hC1, hl2, hC2, hl3, hC3⟩ := ki_World_K h
 clear h
 simp only [iZ, aM] at hl0 hC0 hl1 hC1 hl2 hC2 hl3 hC3
 simp only [iZ, aM]
 have nn0 := bN aW gD x.eY
 have nn1 := bN dB jJ x.Vats
 have nn2 := bN bE gM x.eH
 have nn3 := bN bV iW x.jD
 unfold cZ at hb
 generalize hcn0 : aK aW x.eY = cn0 at *
 have HN0 := Sd.mk hcn0
 clear hcn0
 have HC0 := Sd.mk hC0
 clear hC0
 generalize hcn1 : aK dB x.Vats = cn1 at *
 have HN1 := Sd.mk hcn1
 clear hcn1
 have HC1 := Sd.mk hC1
 clear hC1
 generalize hcn2 : aK bE x.eH = cn2 at *
 have HN2 := Sd.mk hcn2
 clear hcn2
 have HC2 := Sd.mk hC2
 clear hC2
 generalize hcn3 : aK bV x.jD = cn3 at *
 have HN3 := Sd.mk hcn3
 clear hcn3
 have HC3 := Sd.mk hC3
 clear hC3
 go_enter Tryz.func17, Tryz.ntmps17
 go_wp2_with fail
 with_reducible refine (heldS_Script x.eY _ _ _ _ ?hc0 kO (by rw [HN0.out]; omega)).mono ?_
 case hc0 => exact aO kA HC0.out
 rintro e w_0 ⟨rfl, hu⟩
 rw [HN0.out]
 have HB_0 : Sd (Upd No w w_0) := Sd.mk (Upd.then kA hu)
 have cc_0 := fun o => hu.bJ (b := w.heap.size) kB (fun q => q) o
 have hz_0 : w.heap.size + 1 ≤ w_0.heap.size := by have := hu.size; (try simp at this); omega
 clear hu
 go_wp2_with fail
 with_reducible refine (heldS_Vat x.Vats _ _ _ _ ?hc1 kO (by rw [HN1.out]; omega)).mono ?_
 case hc1 => exact aO (by repeat (with_reducible first | exact HB_0.out | apply Upd.bZ | apply Upd.bY | apply Upd.bW | apply Upd.alloc | apply Upd.drewN | apply Upd.drew)) HC1.out
 rintro e w_1 ⟨rfl, hu⟩
 rw [HN1.out]
 have HB_1 : Sd (Upd No w w_1) := Sd.mk (Upd.then (by repeat (with_reducible first | exact HB_0.out | apply Upd.bZ | apply Upd.bY | apply Upd.bW | apply Upd.alloc | apply Upd.drewN | apply Upd.drew)) hu)
 have cc_1 := fun o => hu.bJ (b := w.heap.size) kB (fun q => q) o
 have hz_1 : w.heap.size + 1 ≤ w_1.heap.size := by have := hu.size; (try simp at this); omega
 clear hu
 go_wp2_with fail
 with_reducible refine (heldS_Channel x.eH _ _ _ _ ?hc2 kO (by rw [HN2.out]; omega)).mono ?_
 case hc2 => exact aO (by repeat (with_reducible first | exact HB_1.out | apply Upd.bZ | apply Upd.bY | apply Upd.bW | apply Upd.alloc | apply Upd.drewN | apply Upd.drew)) HC2.out
 rintro e w_2 ⟨rfl, hu⟩
 rw [HN2.out]
 have HB_2 : Sd (Upd No w w_2) := Sd.mk (Upd.then (by repeat (with_reducible first | exact HB_1.out | apply Upd.bZ | apply Upd.bY | apply Upd.bW | apply Upd.alloc | apply Upd.drewN | apply Upd.drew)) hu)
 have cc_2 := fun o => hu.bJ (b := w.heap.size) kB (fun q => q) o
 have hz_2 : w.heap.size + 1 ≤ w_2.heap.size := by have := hu.size; (try simp at this); omega
 clear hu
 go_wp2_with fail
 with_reducible refine (heldS_Note x.jD _ _ _ _ ?hc3 kO (by rw [HN3.out]; omega)).mono ?_
 case hc3 => exact aO (by repeat (with_reducible first | exact HB_2.out | apply Upd.bZ | apply Upd.bY | apply Upd.bW | apply Upd.alloc | apply Upd.drewN | apply Upd.drew)) HC3.out
 rintro e w_3 ⟨rfl, hu⟩
 rw [HN3.out]
 have HB_3 : Sd (Upd No w w_3) := Sd.mk (Upd.then (by repeat (with_reducible first | exact HB_2.out | apply Upd.bZ | apply Upd.bY | apply Upd.bW | apply Upd.alloc | apply Upd.drewN | apply Upd.drew)) hu)
 have cc_3 := fun o => hu.bJ (b := w.heap.size) kB (fun q => q) o
 have hz_3 : w.heap.size + 1 ≤ w_3.heap.size := by have := hu.size; (try simp at this); omega
 clear hu
 have Hc : Sd (cZ x = ((((0 + cn0) + cn1) + cn2) + cn3)) := ⟨by simp only [cZ, HN0.out, HN1.out, HN2.out, HN3.out]⟩
 go_wp2
 go_ret
 exact ⟨dL (by rw [Hc.out]; omega), HB_3.out⟩
end Go.Proofs.YtfnedoiplblldaaGreatFam
namespace Go.Proofs.YtfnedoiplblldaaGreatFam
open Go.ChangeShapes Go.WideShapes Go.RowKit Go.Proofs.YtfnedoiplblldaaGreatSep Go.Proofs.YtfnedoiplblldaaGreatT Go.Proofs.YtfnedoiplblldaaGreatK
set_option linter.unusedVariables false
set_option linter.unusedSimpArgs false
attribute [local irreducible] wpOps wpOp
set_option maxHeartbeats 4000000
set_option maxRecDepth 100000
theorem reti {f : FuncId} {vs : Array Value} {W W0 : World} {p q : Int} (h : Calls Tryz.prog f vs W (gN p W0)) (e : p = q) : Calls Tryz.prog f vs W (gN q W0) := e ▸ h
def prs (i : Int) : Nat → List Int
 | 0 => []
 | j + 1 => if ((j + 1 : Nat) : Int) = i then prs i j else prs i j ++ [((j + 1 : Nat) : Int)]
theorem prs_len (i : Int) : ∀ j, (prs i j).length ≤ j
 | 0 => Nat.le_refl _
 | j + 1 => by
  have h := prs_len i j
  unfold prs
  split
  ·omega
  ·rw [List.length_append]
   simp only [List.length_cons, List.length_nil]
   omega
def chr (base : List GChannel) (i : Nat) : Nat → List GChannel
 | 0 => base
 | j + 1 => if ((j + 1 : Nat) : Int) = ((i + 1 : Nat) : Int) then chr base i j else chr base i j ++ [⟨((i + 1 : Nat) : Int), ((j + 1 : Nat) : Int), []⟩]
def chs (n : Nat) : Nat → List GChannel
 | 0 => []
 | i + 1 => chr (chs n i) i n
theorem chr_len (base : List GChannel) (i : Nat) : ∀ j, (chr base i j).length ≤ base.length + j
 | 0 => Nat.le_refl _
 | j + 1 => by
  have h := chr_len base i j
  unfold chr
  split
  ·omega
  ·rw [List.length_append]
   simp only [List.length_cons, List.length_nil]
   omega
theorem chs_len (n : Nat) : ∀ i, (chs n i).length ≤ i * n
 | 0 => by simp [chs]
 | i + 1 => by
  have h := chs_len n i
  have h2 := chr_len (chs n i) i n
  unfold chs
  rw [Nat.succ_mul]
  omega
theorem chr_le (n i j : Nat) (hn : n ≤ 4) (hi : i ≤ n) (hj : j ≤ n) : (chr (chs n i) i j).length ≤ 20 := by
 have h := chs_len n i
 have h2 := chr_len (chs n i) i j
 have h3 : i * n ≤ 4 * 4 := Nat.mul_le_mul kO hn
 omega
def dO (n : Nat) : Nat → List GVat
 | 0 => []
 | i + 1 => dO n i ++ [nvV ((i + 1 : Nat) : Int) (prs ((i + 1 : Nat) : Int) n) 0]
theorem kV (n : Nat) : ∀ i, (dO n i).length = i
 | 0 => rfl
 | i + 1 => by
  unfold dO
  rw [List.length_append, kV n i]
  rfl
def nwN (v : Int) : Nat := if v < 1 then 1 else if 4 < v then 4 else v.toNat
def nwW (l : List GScript) (v : Int) : GWorld := ⟨l, dO (nwN v) (nwN v), chs (nwN v) (nwN v), [], 0⟩
theorem nwN_le (v : Int) : 1 ≤ nwN v ∧ nwN v ≤ 4 := by
 unfold nwN
 split
 ·omega
 ·split
  ·omega
  ·omega
theorem nwN_max (v : Int) : (if (if (1 : Int) > v then 1 else v) > 4 then 4 else (if (1 : Int) > v then 1 else v)) = ((nwN v : Nat) : Int) := by
 unfold nwN
 (repeat' split) <;> omega
theorem nw_small : ∀ n, 1 ≤ n → n ≤ 4 → dP szn_Vat (dO n n) ≤ 1000 ∧ dP jZ (chs n n) ≤ 1000
 | 1, _, _ => ⟨Nat.le_of_ble_eq_true kR, Nat.le_of_ble_eq_true kR⟩
 | 2, _, _ => ⟨Nat.le_of_ble_eq_true kR, Nat.le_of_ble_eq_true kR⟩
 | 3, _, _ => ⟨Nat.le_of_ble_eq_true kR, Nat.le_of_ble_eq_true kR⟩
 | 4, _, _ => ⟨Nat.le_of_ble_eq_true kR, Nat.le_of_ble_eq_true kR⟩
 | n + 5, _, h => by omega
theorem nwW_bd (l : List GScript) (v : Int) (h : dP bP l ≤ 1048576) : szn_World (nwW l v) ≤ 4194304 := by
 obtain ⟨h1, h2⟩ := nwN_le v
 obtain ⟨h3, h4⟩ := nw_small (nwN v) h1 h2
 have h5 : dP szn_Note [] = 0 := rfl
 unfold szn_World nwW
 simp only [h5]
 omega
section
variable {P : Program} {n ty : Nat} {x : Nat → Value} {live : List (Nat × Value)} {W : World} {pos : String} {aft : Array Edge} {y z : Operand}
theorem rn_max {dst : Option Nat} {tys : Array Nat} {p q : Int} (hx : evl n live y = some (.int .i64 p)) (hz : evl n live z = some (.int .i64 q)) : Rn P ⟨dst, .call { callee := .builtin .max, args := #[y, z], argTypes := tys }, ty, pos, aft, none⟩ (aZ n x live) W (.int .i64 (if q > p then q else p)) := by
 unfold Rn
 simp [execOp, dQ hx, dQ hz, resolve, invoke, builtin, run_max_int2, Result.andThen]
theorem rn_min {dst : Option Nat} {tys : Array Nat} {p q : Int} (hx : evl n live y = some (.int .i64 p)) (hz : evl n live z = some (.int .i64 q)) : Rn P ⟨dst, .call { callee := .builtin .min, args := #[y, z], argTypes := tys }, ty, pos, aft, none⟩ (aZ n x live) W (.int .i64 (if q < p then q else p)) := by
 unfold Rn
 simp [execOp, dQ hx, dQ hz, resolve, invoke, builtin, run_min_int2, Result.andThen]
end
theorem max_s (a b : Int) (w : World) : Calls Tryz.prog 74 #[.int .i64 a, .int .i64 b] w (gN (if a < b then b else a) w) := by
 refine enter 10 [(0, .int .i64 (a)), (1, .int .i64 (b))] Tryz.func74 rfl kR ?_
 intro xj
 have H1 : St w No [] w := St.enter
 refine wp_seq ?_
 refine aH [0] rfl ?_
 refine aA ?_
 refine aB rfl (aP rfl) rfl rfl ?_
 refine aI ?_
 refine aG ?_
 refine wp_seq ?_
 refine wp_seq ?_
 refine aH [0, 1, 2] rfl ?_
 refine aA ?_
 refine aB rfl (aF rfl) rfl rfl ?_
 refine aA ?_
 refine aB rfl (aF rfl) rfl rfl ?_
 refine aA ?_
 refine aB rfl (rn_gtr rfl rfl) rfl rfl ?_
 refine aI ?_
 refine aG ?_
 refine fE rfl (fun hc2 => ?_) (fun hc2 => ?_)
 ·refine wp_seq ?_
  refine aH [0, 1] rfl ?_
  refine aA ?_
  refine aB rfl (aF rfl) rfl rfl ?_
  refine aA ?_
  refine aB rfl (aP rfl) rfl rfl ?_
  refine aI ?_
  refine aG ?_
  refine wp_ret ?_
  refine then_r ?_
  refine fJ (.inl rfl) Tryz.results74 rfl ?_
  exact ⟨by rw [if_pos kO], H1.1⟩
 ·refine wp_skip ?_
  refine aG ?_
  refine wp_seq ?_
  refine aH [0, 1] rfl ?_
  refine aA ?_
  refine aB rfl (aF rfl) rfl rfl ?_
  refine aA ?_
  refine aB rfl (aP rfl) rfl rfl ?_
  refine aI ?_
  refine aG ?_
  refine wp_ret ?_
  refine fJ (.inl rfl) Tryz.results74 rfl ?_
  exact ⟨by rw [if_neg kO], H1.1⟩
theorem min_s (a b : Int) (w : World) : Calls Tryz.prog 73 #[.int .i64 a, .int .i64 b] w (gN (if b < a then b else a) w) := by
 refine enter 10 [(0, .int .i64 (a)), (1, .int .i64 (b))] Tryz.func73 rfl kR ?_
 intro xj
 have H1 : St w No [] w := St.enter
 refine wp_seq ?_
 refine aH [0] rfl ?_
 refine aA ?_
 refine aB rfl (aP rfl) rfl rfl ?_
 refine aI ?_
 refine aG ?_
 refine wp_seq ?_
 refine wp_seq ?_
 refine aH [0, 1, 2] rfl ?_
 refine aA ?_
 refine aB rfl (aF rfl) rfl rfl ?_
 refine aA ?_
 refine aB rfl (aF rfl) rfl rfl ?_
 refine aA ?_
 refine aB rfl (rn_lss rfl rfl) rfl rfl ?_
 refine aI ?_
 refine aG ?_
 refine fE rfl (fun hc2 => ?_) (fun hc2 => ?_)
 ·refine wp_seq ?_
  refine aH [0, 1] rfl ?_
  refine aA ?_
  refine aB rfl (aF rfl) rfl rfl ?_
  refine aA ?_
  refine aB rfl (aP rfl) rfl rfl ?_
  refine aI ?_
  refine aG ?_
  refine wp_ret ?_
  refine then_r ?_
  refine fJ (.inl rfl) Tryz.results73 rfl ?_
  exact ⟨by rw [if_pos kO], H1.1⟩
 ·refine wp_skip ?_
  refine aG ?_
  refine wp_seq ?_
  refine aH [0, 1] rfl ?_
  refine aA ?_
  refine aB rfl (aF rfl) rfl rfl ?_
  refine aA ?_
  refine aB rfl (aP rfl) rfl rfl ?_
  refine aI ?_
  refine aG ?_
  refine wp_ret ?_
  refine fJ (.inl rfl) Tryz.results73 rfl ?_
  exact ⟨by rw [if_neg kO], H1.1⟩
theorem allCh_s (n : Nat) (h1 : 1 ≤ n) (h4 : n ≤ 4) (w : World) : Calls Tryz.prog 76 #[.int .i64 (n : Int)] w (RetRow aT 196 (chs n n) w) := by
 refine enter 31 [(0, .int .i64 (((n : Nat) : Int)))] Tryz.func76 rfl kR ?_
 intro xj
 have H1 : St w No [] w := St.enter
 refine wp_seq ?_
 refine aH [0] rfl ?_
 refine aA ?_
 refine aB rfl (aP rfl) rfl rfl ?_
 refine aI ?_
 refine aG ?_
 refine wp_seq ?_
 refine aH [0, 1] rfl ?_
 refine aA ?_
 refine kK (dk := aT) rfl Tryz.runUnderlying33 Tryz.sizeOf196 rfl rfl H1 ?_
 intro A_1_0 W2 hu3 Ha4; clear H1; clear hu3
 refine aA ?_
 refine aB rfl (aP rfl) rfl rfl ?_
 refine aI ?_
 refine aG ?_
 refine wp_seq ?_
 refine wp_seq ?_
 refine aH [0, 1, 2] rfl ?_
 refine aA ?_
 refine aB rfl (aF rfl) rfl rfl ?_
 refine aA ?_
 refine dJ rfl Tryz.call115 (vs := #[.int .i64 (((n : Nat) : Int)), .int .i64 (1), .int .i64 (4)]) rfl rfl rfl (retb (l1In_s ((n : Nat) : Int) 1 4 _) (decide_eq_true kO)) ?_
 rintro e8 W7 ⟨rfl, hu6⟩; refine ⟨_, rfl, ?_⟩
 have H9 := Ha4.no hu6; clear Ha4
 refine aA ?_
 refine aB rfl (rn_not rfl) rfl rfl ?_
 refine aI ?_
 refine aG ?_
 refine cond_f rfl ?_
 refine wp_skip ?_
 refine aG ?_
 refine wp_seq ?_
 refine wp_seq ?_
 refine aH [0] rfl ?_
 refine aA ?_
 refine aB rfl (aP rfl) rfl rfl ?_
 refine aI ?_
 refine aG ?_
 refine wp_block ?_
 refine wp_loop_ghost (fun r a' W' => ∃ (i : Nat) (Ai : Option Addr) (ci : Nat) (x' : Nat → Value), a' = aZ 31 x' [(0, .int .i64 (((n : Nat) : Int))), (3, .slice Ai ((chs n i).length) ci), (4, .int .i64 (((i + 1 : Nat) : Int)))] ∧ (i + r = n) ∧ St w No [hR aT 196 (.slice Ai ((chs n i).length) ci) (chs n i)] W') n ?_ ?_
 ·exact (bX [(0, .int .i64 (((n : Nat) : Int))), (3, .slice A_1_0 0 0), (4, .int .i64 (1))] rfl).elim fun x' hx => ⟨0, A_1_0, 0, x', hx, kO, H9⟩
 ·rintro r10 _ W11 ⟨i, Ai, ci, x12, rfl, hi_i, H13⟩; clear H9
  refine wp_seq ?_
  refine wp_seq ?_
  refine aH [0, 1, 2] rfl ?_
  refine aA ?_
  refine aB rfl (aF rfl) rfl rfl ?_
  refine aA ?_
  refine aB rfl (aF rfl) rfl rfl ?_
  refine aA ?_
  refine aB rfl (jH rfl rfl) rfl rfl ?_
  refine aI ?_
  refine aG ?_
  refine fE rfl (fun hc14 => ?_) (fun hc14 => ?_)
  ·have hlt_i : i < n := by omega
   refine wp_skip ?_
   refine aG ?_
   refine wp_seq ?_
   refine wp_block ?_
   refine wp_seq ?_
   refine aH [0] rfl ?_
   refine aA ?_
   refine aB rfl (aP rfl) rfl rfl ?_
   refine aI ?_
   refine aG ?_
   refine wp_block ?_
   refine wp_loop_ghost (fun r a' W' => ∃ (j : Nat) (Aj : Option Addr) (cj : Nat) (x' : Nat → Value), a' = aZ 31 x' [(0, .int .i64 (((n : Nat) : Int))), (3, .slice Aj ((chr (chs n i) i j).length) cj), (4, .int .i64 (((i + 1 : Nat) : Int))), (5, .int .i64 (((j + 1 : Nat) : Int)))] ∧ (j + r = n) ∧ St w No [hR aT 196 (.slice Aj ((chr (chs n i) i j).length) cj) (chr (chs n i) i j)] W') n ?_ ?_
   ·exact (bX [(0, .int .i64 (((n : Nat) : Int))), (3, .slice Ai ((chs n i).length) ci), (4, .int .i64 (((i + 1 : Nat) : Int))), (5, .int .i64 (1))] rfl).elim fun x' hx => ⟨0, Ai, ci, x', hx, kO, H13⟩
   ·rintro r15 _ W16 ⟨j, Aj, cj, x17, rfl, hi_j, H18⟩; clear H13
    refine wp_seq ?_
    refine wp_seq ?_
    refine aH [0, 1, 2] rfl ?_
    refine aA ?_
    refine aB rfl (aF rfl) rfl rfl ?_
    refine aA ?_
    refine aB rfl (aF rfl) rfl rfl ?_
    refine aA ?_
    refine aB rfl (jH rfl rfl) rfl rfl ?_
    refine aI ?_
    refine aG ?_
    refine fE rfl (fun hc19 => ?_) (fun hc19 => ?_)
    ·have hlt_j : j < n := by omega
     refine wp_skip ?_
     refine aG ?_
     refine wp_seq ?_
     refine wp_block ?_
     refine wp_seq ?_
     refine aH [0, 1, 2] rfl ?_
     refine aA ?_
     refine aB rfl (aF rfl) rfl rfl ?_
     refine aA ?_
     refine aB rfl (aF rfl) rfl rfl ?_
     refine aA ?_
     refine aB rfl (rn_neq rfl rfl) rfl rfl ?_
     refine aI ?_
     refine aG ?_
     refine fE rfl (fun hc20 => ?_) (fun hc20 => ?_)
     ·have hadd : (chr (chs n i) i (j + 1)) = (chr (chs n i) i j) ++ [⟨((i + 1 : Nat) : Int), ((j + 1 : Nat) : Int), []⟩] := if_neg kO
      refine aH [0, 1, 2, 3, 4, 5, 6] rfl ?_
      refine aA ?_
      refine aB rfl (aF rfl) rfl rfl ?_
      refine aA ?_
      refine aB rfl (aF rfl) rfl rfl ?_
      refine aA ?_
      refine aB rfl (aF rfl) rfl rfl ?_
      refine aA ?_
      refine aB rfl (gW (vs := [(0, .int .i64 (((i + 1 : Nat) : Int))), (1, .int .i64 (((j + 1 : Nat) : Int)))]) (cells := #[.int .i64 (((i + 1 : Nat) : Int)), .int .i64 (((j + 1 : Nat) : Int)), .slice none 0 0]) rfl kR) rfl rfl ?_
      refine aA ?_
      refine fQ rfl Tryz.runUnderlying33 Tryz.sizeOf196 kD Tryz.zeroValue196 rfl rfl rfl rfl H18 ?_
      intro g_11_4 W21 hu22 Ha23; clear H18; clear hu22
      refine aA ?_
      have H27 : St w No [hR dA 74 (.slice none 0 0) ([]), hB g_11_4 196 #[.int .i64 (((i + 1 : Nat) : Int)), .int .i64 (((j + 1 : Nat) : Int)), .slice none 0 0], hR aT 196 (.slice Aj ((chr (chs n i) i j).length) cj) (chr (chs n i) i j)] W21 := Ha23.add0 (q := hR dA 74 (.slice none 0 0) []) fP; clear Ha23
      have H28 : St w No [hM aT ⟨((i + 1 : Nat) : Int), ((j + 1 : Nat) : Int), []⟩ [.int .i64 (((i + 1 : Nat) : Int)), .int .i64 (((j + 1 : Nat) : Int)), .slice none 0 0], hB g_11_4 196 #[.int .i64 (((i + 1 : Nat) : Int)), .int .i64 (((j + 1 : Nat) : Int)), .slice none 0 0], hR aT 196 (.slice Aj ((chr (chs n i) i j).length) cj) (chr (chs n i) i j)] W21 := H27.swap (l0 := [hR dA 74 (.slice none 0 0) ([])]) (l' := [hM aT ⟨((i + 1 : Nat) : Int), ((j + 1 : Nat) : Int), []⟩ [.int .i64 (((i + 1 : Nat) : Int)), .int .i64 (((j + 1 : Nat) : Int)), .slice none 0 0]]) (fun _ h => Star.one (ki_Channel_close (x := ⟨((i + 1 : Nat) : Int), ((j + 1 : Nat) : Int), []⟩) h)); clear H27
      have H29 : St w No [hR aT 196 (.slice Aj ((chr (chs n i) i j).length) cj) (chr (chs n i) i j), hB g_11_4 196 #[.int .i64 (((i + 1 : Nat) : Int)), .int .i64 (((j + 1 : Nat) : Int)), .slice none 0 0], hM aT ⟨((i + 1 : Nat) : Int), ((j + 1 : Nat) : Int), []⟩ [.int .i64 (((i + 1 : Nat) : Int)), .int .i64 (((j + 1 : Nat) : Int)), .slice none 0 0]] W21 := H28.pick [2, 1, 0] kD rfl; clear H28
      refine iF (xs := (chr (chs n i) i j)) (p := ⟨((i + 1 : Nat) : Int), ((j + 1 : Nat) : Int), []⟩) (n' := (chr (chs n i) i (j + 1)).length) (ys := (chr (chs n i) i (j + 1))) rfl Tryz.underlying33 ki_Channel_info rfl kD kD rfl rfl (by have := chr_le n i j h4 kO kO; omega) (by rw [hadd, List.length_append]; rfl) hadd.symm rfl rfl H29 ?_
      intro B_11_5 c_11_5 W25 Ha26; clear H29
      refine aA ?_
      refine aB rfl (aP rfl) rfl rfl ?_
      refine aI ?_
      refine inB_n ?_
      refine aG ?_
      refine aH [0, 1, 2] rfl ?_
      refine aA ?_
      refine aB rfl (aF rfl) rfl rfl ?_
      refine aA ?_
      refine aB rfl (jI (k := j + 1) rfl rfl kO) rfl rfl ?_
      refine aA ?_
      refine aB rfl (aP rfl) rfl rfl ?_
      refine aI ?_
      refine aG ?_
      exact (bX [(0, .int .i64 (((n : Nat) : Int))), (3, .slice B_11_5 ((chr (chs n i) i (j + 1)).length) c_11_5), (4, .int .i64 (((i + 1 : Nat) : Int))), (5, .int .i64 (((j + 1 + 1 : Nat) : Int)))] rfl).elim fun x' hx => ⟨r15 - 1, kO, j + 1, B_11_5, c_11_5, x', hx, kO, Ha26⟩
     ·have e31 : (chr (chs n i) i (j + 1)) = (chr (chs n i) i j) := if_pos kO
      rw [← e31] at H18 ⊢
      refine wp_skip ?_
      refine inB_n ?_
      refine aG ?_
      refine aH [0, 1, 2] rfl ?_
      refine aA ?_
      refine aB rfl (aF rfl) rfl rfl ?_
      refine aA ?_
      refine aB rfl (jI (k := j + 1) rfl rfl kO) rfl rfl ?_
      refine aA ?_
      refine aB rfl (aP rfl) rfl rfl ?_
      refine aI ?_
      refine aG ?_
      exact (bX [(0, .int .i64 (((n : Nat) : Int))), (3, .slice Aj ((chr (chs n i) i (j + 1)).length) cj), (4, .int .i64 (((i + 1 : Nat) : Int))), (5, .int .i64 (((j + 1 + 1 : Nat) : Int)))] rfl).elim fun x' hx => ⟨r15 - 1, kO, j + 1, Aj, cj, x', hx, kO, H18⟩
    ·obtain rfl : n = j := by omega
     refine wp_exit ?_
     refine gP ?_
     refine gP ?_
     refine inB_x ?_
     refine inB_n ?_
     refine aG ?_
     refine aH [0, 1, 2] rfl ?_
     refine aA ?_
     refine aB rfl (aF rfl) rfl rfl ?_
     refine aA ?_
     refine aB rfl (jI (k := i + 1) rfl rfl kO) rfl rfl ?_
     refine aA ?_
     refine aB rfl (aP rfl) rfl rfl ?_
     refine aI ?_
     refine aG ?_
     exact (bX [(0, .int .i64 (((n : Nat) : Int))), (3, .slice Aj ((chr (chs n i) i n).length) cj), (4, .int .i64 (((i + 1 + 1 : Nat) : Int)))] rfl).elim fun x' hx => ⟨r10 - 1, kO, i + 1, Aj, cj, x', hx, kO, H18⟩
  ·obtain rfl : n = i := by omega
   refine wp_exit ?_
   refine gP ?_
   refine gP ?_
   refine inB_x ?_
   refine aG ?_
   refine wp_seq ?_
   refine aH [0, 1] rfl ?_
   refine aA ?_
   refine aB rfl (aF rfl) rfl rfl ?_
   refine aA ?_
   refine aB rfl (aP rfl) rfl rfl ?_
   refine aI ?_
   refine aG ?_
   refine wp_ret ?_
   refine fJ (.inl rfl) Tryz.results76 rfl ?_
   have hq := (H13.pick [0] kD rfl : St w No [hR aT 196 (.slice Ai ((chs n n).length) ci) (chs n n)] W11).fin1
   exact ⟨_, rfl, hq.1, hq.2⟩
theorem allCh_i (n : Nat) (h1 : 1 ≤ n) (h4 : n ≤ 4) (w : World) : Calls Tryz.prog 80 #[.int .i64 (n : Int)] w (RetRow aT 196 (chs n n) w) := by
 refine enter 31 [(0, .int .i64 (((n : Nat) : Int)))] Tryz.func80 rfl kR ?_
 intro xj
 have H1 : St w No [] w := St.enter
 refine wp_seq ?_
 refine aH [0] rfl ?_
 refine aA ?_
 refine aB rfl (aP rfl) rfl rfl ?_
 refine aI ?_
 refine aG ?_
 refine wp_seq ?_
 refine aH [0, 1] rfl ?_
 refine aA ?_
 refine kK (dk := aT) rfl Tryz.runUnderlying33 Tryz.sizeOf196 rfl rfl H1 ?_
 intro A_1_0 W2 hu3 Ha4; clear H1; clear hu3
 refine aA ?_
 refine aB rfl (aP rfl) rfl rfl ?_
 refine aI ?_
 refine aG ?_
 refine wp_seq ?_
 refine wp_seq ?_
 refine aH [0, 1, 2] rfl ?_
 refine aA ?_
 refine aB rfl (aF rfl) rfl rfl ?_
 refine aA ?_
 refine dJ rfl Tryz.call119 (vs := #[.int .i64 (((n : Nat) : Int)), .int .i64 (1), .int .i64 (4)]) rfl rfl rfl (retb (in_i ((n : Nat) : Int) 1 4 _) (decide_eq_true kO)) ?_
 rintro e8 W7 ⟨rfl, hu6⟩; refine ⟨_, rfl, ?_⟩
 have H9 := Ha4.no hu6; clear Ha4
 refine aA ?_
 refine aB rfl (rn_not rfl) rfl rfl ?_
 refine aI ?_
 refine aG ?_
 refine cond_f rfl ?_
 refine wp_skip ?_
 refine aG ?_
 refine wp_seq ?_
 refine wp_seq ?_
 refine aH [0] rfl ?_
 refine aA ?_
 refine aB rfl (aP rfl) rfl rfl ?_
 refine aI ?_
 refine aG ?_
 refine wp_block ?_
 refine wp_loop_ghost (fun r a' W' => ∃ (i : Nat) (Ai : Option Addr) (ci : Nat) (x' : Nat → Value), a' = aZ 31 x' [(0, .int .i64 (((n : Nat) : Int))), (3, .slice Ai ((chs n i).length) ci), (4, .int .i64 (((i + 1 : Nat) : Int)))] ∧ (i + r = n) ∧ St w No [hR aT 196 (.slice Ai ((chs n i).length) ci) (chs n i)] W') n ?_ ?_
 ·exact (bX [(0, .int .i64 (((n : Nat) : Int))), (3, .slice A_1_0 0 0), (4, .int .i64 (1))] rfl).elim fun x' hx => ⟨0, A_1_0, 0, x', hx, kO, H9⟩
 ·rintro r10 _ W11 ⟨i, Ai, ci, x12, rfl, hi_i, H13⟩; clear H9
  refine wp_seq ?_
  refine wp_seq ?_
  refine aH [0, 1, 2] rfl ?_
  refine aA ?_
  refine aB rfl (aF rfl) rfl rfl ?_
  refine aA ?_
  refine aB rfl (aF rfl) rfl rfl ?_
  refine aA ?_
  refine aB rfl (jH rfl rfl) rfl rfl ?_
  refine aI ?_
  refine aG ?_
  refine fE rfl (fun hc14 => ?_) (fun hc14 => ?_)
  ·have hlt_i : i < n := by omega
   refine wp_skip ?_
   refine aG ?_
   refine wp_seq ?_
   refine wp_block ?_
   refine wp_seq ?_
   refine aH [0] rfl ?_
   refine aA ?_
   refine aB rfl (aP rfl) rfl rfl ?_
   refine aI ?_
   refine aG ?_
   refine wp_block ?_
   refine wp_loop_ghost (fun r a' W' => ∃ (j : Nat) (Aj : Option Addr) (cj : Nat) (x' : Nat → Value), a' = aZ 31 x' [(0, .int .i64 (((n : Nat) : Int))), (3, .slice Aj ((chr (chs n i) i j).length) cj), (4, .int .i64 (((i + 1 : Nat) : Int))), (5, .int .i64 (((j + 1 : Nat) : Int)))] ∧ (j + r = n) ∧ St w No [hR aT 196 (.slice Aj ((chr (chs n i) i j).length) cj) (chr (chs n i) i j)] W') n ?_ ?_
   ·exact (bX [(0, .int .i64 (((n : Nat) : Int))), (3, .slice Ai ((chs n i).length) ci), (4, .int .i64 (((i + 1 : Nat) : Int))), (5, .int .i64 (1))] rfl).elim fun x' hx => ⟨0, Ai, ci, x', hx, kO, H13⟩
   ·rintro r15 _ W16 ⟨j, Aj, cj, x17, rfl, hi_j, H18⟩; clear H13
    refine wp_seq ?_
    refine wp_seq ?_
    refine aH [0, 1, 2] rfl ?_
    refine aA ?_
    refine aB rfl (aF rfl) rfl rfl ?_
    refine aA ?_
    refine aB rfl (aF rfl) rfl rfl ?_
    refine aA ?_
    refine aB rfl (jH rfl rfl) rfl rfl ?_
    refine aI ?_
    refine aG ?_
    refine fE rfl (fun hc19 => ?_) (fun hc19 => ?_)
    ·have hlt_j : j < n := by omega
     refine wp_skip ?_
     refine aG ?_
     refine wp_seq ?_
     refine wp_block ?_
     refine wp_seq ?_
     refine aH [0, 1, 2] rfl ?_
     refine aA ?_
     refine aB rfl (aF rfl) rfl rfl ?_
     refine aA ?_
     refine aB rfl (aF rfl) rfl rfl ?_
     refine aA ?_
     refine aB rfl (rn_neq rfl rfl) rfl rfl ?_
     refine aI ?_
     refine aG ?_
     refine fE rfl (fun hc20 => ?_) (fun hc20 => ?_)
     ·have hadd : (chr (chs n i) i (j + 1)) = (chr (chs n i) i j) ++ [⟨((i + 1 : Nat) : Int), ((j + 1 : Nat) : Int), []⟩] := if_neg kO
      refine aH [0, 1, 2, 3, 4, 5, 6] rfl ?_
      refine aA ?_
      refine aB rfl (aF rfl) rfl rfl ?_
      refine aA ?_
      refine aB rfl (aF rfl) rfl rfl ?_
      refine aA ?_
      refine aB rfl (aF rfl) rfl rfl ?_
      refine aA ?_
      refine aB rfl (gW (vs := [(0, .int .i64 (((i + 1 : Nat) : Int))), (1, .int .i64 (((j + 1 : Nat) : Int)))]) (cells := #[.int .i64 (((i + 1 : Nat) : Int)), .int .i64 (((j + 1 : Nat) : Int)), .slice none 0 0]) rfl kR) rfl rfl ?_
      refine aA ?_
      refine fQ rfl Tryz.runUnderlying33 Tryz.sizeOf196 kD Tryz.zeroValue196 rfl rfl rfl rfl H18 ?_
      intro g_11_4 W21 hu22 Ha23; clear H18; clear hu22
      refine aA ?_
      have H27 : St w No [hR dA 74 (.slice none 0 0) ([]), hB g_11_4 196 #[.int .i64 (((i + 1 : Nat) : Int)), .int .i64 (((j + 1 : Nat) : Int)), .slice none 0 0], hR aT 196 (.slice Aj ((chr (chs n i) i j).length) cj) (chr (chs n i) i j)] W21 := Ha23.add0 (q := hR dA 74 (.slice none 0 0) []) fP; clear Ha23
      have H28 : St w No [hM aT ⟨((i + 1 : Nat) : Int), ((j + 1 : Nat) : Int), []⟩ [.int .i64 (((i + 1 : Nat) : Int)), .int .i64 (((j + 1 : Nat) : Int)), .slice none 0 0], hB g_11_4 196 #[.int .i64 (((i + 1 : Nat) : Int)), .int .i64 (((j + 1 : Nat) : Int)), .slice none 0 0], hR aT 196 (.slice Aj ((chr (chs n i) i j).length) cj) (chr (chs n i) i j)] W21 := H27.swap (l0 := [hR dA 74 (.slice none 0 0) ([])]) (l' := [hM aT ⟨((i + 1 : Nat) : Int), ((j + 1 : Nat) : Int), []⟩ [.int .i64 (((i + 1 : Nat) : Int)), .int .i64 (((j + 1 : Nat) : Int)), .slice none 0 0]]) (fun _ h => Star.one (ki_Channel_close (x := ⟨((i + 1 : Nat) : Int), ((j + 1 : Nat) : Int), []⟩) h)); clear H27
      have H29 : St w No [hR aT 196 (.slice Aj ((chr (chs n i) i j).length) cj) (chr (chs n i) i j), hB g_11_4 196 #[.int .i64 (((i + 1 : Nat) : Int)), .int .i64 (((j + 1 : Nat) : Int)), .slice none 0 0], hM aT ⟨((i + 1 : Nat) : Int), ((j + 1 : Nat) : Int), []⟩ [.int .i64 (((i + 1 : Nat) : Int)), .int .i64 (((j + 1 : Nat) : Int)), .slice none 0 0]] W21 := H28.pick [2, 1, 0] kD rfl; clear H28
      refine iF (xs := (chr (chs n i) i j)) (p := ⟨((i + 1 : Nat) : Int), ((j + 1 : Nat) : Int), []⟩) (n' := (chr (chs n i) i (j + 1)).length) (ys := (chr (chs n i) i (j + 1))) rfl Tryz.underlying33 ki_Channel_info rfl kD kD rfl rfl (by have := chr_le n i j h4 kO kO; omega) (by rw [hadd, List.length_append]; rfl) hadd.symm rfl rfl H29 ?_
      intro B_11_5 c_11_5 W25 Ha26; clear H29
      refine aA ?_
      refine aB rfl (aP rfl) rfl rfl ?_
      refine aI ?_
      refine inB_n ?_
      refine aG ?_
      refine aH [0, 1, 2] rfl ?_
      refine aA ?_
      refine aB rfl (aF rfl) rfl rfl ?_
      refine aA ?_
      refine aB rfl (jI (k := j + 1) rfl rfl kO) rfl rfl ?_
      refine aA ?_
      refine aB rfl (aP rfl) rfl rfl ?_
      refine aI ?_
      refine aG ?_
      exact (bX [(0, .int .i64 (((n : Nat) : Int))), (3, .slice B_11_5 ((chr (chs n i) i (j + 1)).length) c_11_5), (4, .int .i64 (((i + 1 : Nat) : Int))), (5, .int .i64 (((j + 1 + 1 : Nat) : Int)))] rfl).elim fun x' hx => ⟨r15 - 1, kO, j + 1, B_11_5, c_11_5, x', hx, kO, Ha26⟩
     ·have e31 : (chr (chs n i) i (j + 1)) = (chr (chs n i) i j) := if_pos kO
      rw [← e31] at H18 ⊢
      refine wp_skip ?_
      refine inB_n ?_
      refine aG ?_
      refine aH [0, 1, 2] rfl ?_
      refine aA ?_
      refine aB rfl (aF rfl) rfl rfl ?_
      refine aA ?_
      refine aB rfl (jI (k := j + 1) rfl rfl kO) rfl rfl ?_
      refine aA ?_
      refine aB rfl (aP rfl) rfl rfl ?_
      refine aI ?_
      refine aG ?_
      exact (bX [(0, .int .i64 (((n : Nat) : Int))), (3, .slice Aj ((chr (chs n i) i (j + 1)).length) cj), (4, .int .i64 (((i + 1 : Nat) : Int))), (5, .int .i64 (((j + 1 + 1 : Nat) : Int)))] rfl).elim fun x' hx => ⟨r15 - 1, kO, j + 1, Aj, cj, x', hx, kO, H18⟩
    ·obtain rfl : n = j := by omega
     refine wp_exit ?_
     refine gP ?_
     refine gP ?_
     refine inB_x ?_
     refine inB_n ?_
     refine aG ?_
     refine aH [0, 1, 2] rfl ?_
     refine aA ?_
     refine aB rfl (aF rfl) rfl rfl ?_
     refine aA ?_
     refine aB rfl (jI (k := i + 1) rfl rfl kO) rfl rfl ?_
     refine aA ?_
     refine aB rfl (aP rfl) rfl rfl ?_
     refine aI ?_
     refine aG ?_
     exact (bX [(0, .int .i64 (((n : Nat) : Int))), (3, .slice Aj ((chr (chs n i) i n).length) cj), (4, .int .i64 (((i + 1 + 1 : Nat) : Int)))] rfl).elim fun x' hx => ⟨r10 - 1, kO, i + 1, Aj, cj, x', hx, kO, H18⟩
  ·obtain rfl : n = i := by omega
   refine wp_exit ?_
   refine gP ?_
   refine gP ?_
   refine inB_x ?_
   refine aG ?_
   refine wp_seq ?_
   refine aH [0, 1] rfl ?_
   refine aA ?_
   refine aB rfl (aF rfl) rfl rfl ?_
   refine aA ?_
   refine aB rfl (aP rfl) rfl rfl ?_
   refine aI ?_
   refine aG ?_
   refine wp_ret ?_
   refine fJ (.inl rfl) Tryz.results80 rfl ?_
   have hq := (H13.pick [0] kD rfl : St w No [hR aT 196 (.slice Ai ((chs n n).length) ci) (chs n n)] W11).fin1
   exact ⟨_, rfl, hq.1, hq.2⟩
theorem newWorld_S (l : List GScript) (v : Int) (A : Option Addr) (c : Nat) (w : World) (hC : C aR w A l) (hs : dP bP l ≤ 1048576) : Calls Tryz.prog 19 #[.slice A l.length c, .int .i64 v] w (iT dI (nwW l v) w) := by
 refine enter 45 [(0, .slice A l.length c), (1, .int .i64 (v))] Tryz.func19 rfl kR ?_
 intro xj
 have H1 : St w No [] w := St.enter
 have hs4 : dP bP l ≤ 4194304 := by omega
 obtain ⟨n, hn⟩ : ∃ n, n = nwN v := ⟨_, rfl⟩
 have hmx := nwN_max v
 obtain ⟨h1, h4⟩ := nwN_le v
 rw [← hn] at h1 h4 hmx
 have hmn : (if (if (1 : Int) < v then v else 1) < 4 then (if (1 : Int) < v then v else 1) else 4) = ((n : Nat) : Int) := by rw [hn]; unfold nwN; (repeat' split) <;> omega
 refine wp_seq ?_
 refine aH [0] rfl ?_
 refine aA ?_
 refine eU rfl Tryz.zeroValue36 rfl rfl H1 ?_
 intro g_0_0 W2 hu3 Ha4; clear H1; clear hu3
 refine aI ?_
 refine aG ?_
 refine wp_seq ?_
 refine aH [0, 1, 2, 3] rfl ?_
 refine aA ?_
 refine aB rfl (aF rfl) rfl rfl ?_
 refine aA ?_
 refine dJ rfl Tryz.call74 (vs := #[.int .i64 (1), .int .i64 (v)]) rfl rfl rfl (max_s 1 v _) ?_
 rintro e8 W7 ⟨rfl, hu6⟩; refine ⟨_, rfl, ?_⟩
 have H9 := Ha4.no hu6; clear Ha4
 refine aA ?_
 refine dJ rfl Tryz.call73 (vs := #[.int .i64 (4), .int .i64 ((if (1 : Int) < v then v else 1))]) rfl rfl rfl (reti (min_s 4 (if (1 : Int) < v then v else 1) _) hmn) ?_
 rintro e12 W11 ⟨rfl, hu10⟩; refine ⟨_, rfl, ?_⟩
 have H13 := H9.no hu10; clear H9
 refine aA ?_
 refine aB rfl (aP rfl) rfl rfl ?_
 refine aI ?_
 refine aG ?_
 refine wp_seq ?_
 refine aH [0, 1, 2, 3, 4, 5, 6] rfl ?_
 refine aA ?_
 refine aB rfl (aF rfl) rfl rfl ?_
 refine aA ?_
 refine dJ rfl Tryz.call75 (vs := #[.slice A l.length c]) rfl rfl rfl (l6CopyAll_s l _ _ _ (aO H13.1 hC) hs4) ?_
 rintro e18 W17 ⟨v14, rfl, hR15, hu16⟩; refine ⟨_, rfl, ?_⟩
 obtain ⟨B_2_1, c_2_1, rfl⟩ := bK hR15
 have H19 := H13.new (q := hR aR 133 (.slice B_2_1 l.length c_2_1) l) hu16 hR15; clear H13
 refine aA ?_
 refine aB rfl (aF rfl) rfl rfl ?_
 refine aA ?_
 refine dJ rfl Tryz.call76 (vs := #[.int .i64 (((n : Nat) : Int))]) rfl rfl rfl (allCh_s n h1 h4 _) ?_
 rintro e24 W23 ⟨v20, rfl, hR21, hu22⟩; refine ⟨_, rfl, ?_⟩
 obtain ⟨B_2_3, c_2_3, rfl⟩ := bK hR21
 have H25 := H19.new (q := hR aT 196 (.slice B_2_3 ((chs n n).length) c_2_3) (chs n n)) hu22 hR21; clear H19
 refine aA ?_
 refine aB rfl (gW (vs := [(0, .slice B_2_1 l.length c_2_1), (2, .slice B_2_3 ((chs n n).length) c_2_3)]) (cells := #[.slice B_2_1 l.length c_2_1, .slice none 0 0, .slice B_2_3 ((chs n n).length) c_2_3, .slice none 0 0, .int .i64 (0)]) rfl kR) rfl rfl ?_
 refine aA ?_
 refine eU rfl Tryz.zeroValue36 rfl rfl H25 ?_
 intro g_2_5 W26 hu27 Ha28; clear H25; clear hu27
 refine aA ?_
 refine dR rfl Tryz.sizeOf36 rfl rfl rfl rfl kS Ha28 ?_
 intro W30 hu31 Ha32; clear Ha28; clear hu31
 refine aI ?_
 refine aG ?_
 refine wp_seq ?_
 refine wp_seq ?_
 refine aH [0] rfl ?_
 refine aA ?_
 refine aB rfl (aP rfl) rfl rfl ?_
 refine aI ?_
 refine aG ?_
 refine wp_block ?_
 have H34 : St w No [hR dK 68 (.slice none 0 0) ([]), hB g_2_5 36 #[.slice B_2_1 l.length c_2_1, .slice none 0 0, .slice B_2_3 ((chs n n).length) c_2_3, .slice none 0 0, .int .i64 (0)], hR aT 196 (.slice B_2_3 ((chs n n).length) c_2_3) (chs n n), hR aR 133 (.slice B_2_1 l.length c_2_1) l, hB g_0_0 36 #[.slice none 0 0, .slice none 0 0, .slice none 0 0, .slice none 0 0, .int .i64 (0)]] W30 := Ha32.add0 (q := hR dK 68 (.slice none 0 0) []) fP; clear Ha32
 refine wp_loop_ghost (fun r a' W' => ∃ (i : Nat) (Ai : Option Addr) (ci : Nat) (x' : Nat → Value), a' = aZ 45 x' [(4, .pointer (some ⟨g_0_0, 0, none⟩)), (5, .int .i64 (((n : Nat) : Int))), (6, .pointer (some ⟨g_2_5, 0, none⟩)), (7, .int .i64 (((i + 1 : Nat) : Int)))] ∧ (i + r = n) ∧ St w No [hR dK 68 (.slice Ai ((dO n i).length) ci) (dO n i), hB g_2_5 36 #[.slice B_2_1 l.length c_2_1, .slice Ai ((dO n i).length) ci, .slice B_2_3 ((chs n n).length) c_2_3, .slice none 0 0, .int .i64 (0)], hR aT 196 (.slice B_2_3 ((chs n n).length) c_2_3) (chs n n), hR aR 133 (.slice B_2_1 l.length c_2_1) l, hB g_0_0 36 #[.slice none 0 0, .slice none 0 0, .slice none 0 0, .slice none 0 0, .int .i64 (0)]] W') n ?_ ?_
 ·exact (bX [(4, .pointer (some ⟨g_0_0, 0, none⟩)), (5, .int .i64 (((n : Nat) : Int))), (6, .pointer (some ⟨g_2_5, 0, none⟩)), (7, .int .i64 (1))] rfl).elim fun x' hx => ⟨0, none, 0, x', hx, kO, H34⟩
 ·rintro r35 _ W36 ⟨i, Ai, ci, x37, rfl, hi_i, H38⟩; clear H34
  refine wp_seq ?_
  refine wp_seq ?_
  refine aH [0, 1, 2] rfl ?_
  refine aA ?_
  refine aB rfl (aF rfl) rfl rfl ?_
  refine aA ?_
  refine aB rfl (aF rfl) rfl rfl ?_
  refine aA ?_
  refine aB rfl (jH rfl rfl) rfl rfl ?_
  refine aI ?_
  refine aG ?_
  refine fE rfl (fun hc39 => ?_) (fun hc39 => ?_)
  ·have hlt_i : i < n := by omega
   refine wp_skip ?_
   refine aG ?_
   refine wp_seq ?_
   refine wp_block ?_
   refine wp_seq ?_
   refine aH [0, 1] rfl ?_
   refine aA ?_
   refine kK (dk := Kn.int) rfl Tryz.runUnderlying129 Tryz.sizeOf3 rfl rfl H38 ?_
   intro A_6_0 W40 hu41 Ha42; clear H38; clear hu41
   refine aA ?_
   refine aB rfl (aP rfl) rfl rfl ?_
   refine aI ?_
   refine aG ?_
   refine wp_seq ?_
   refine wp_seq ?_
   refine aH [0] rfl ?_
   refine aA ?_
   refine aB rfl (aP rfl) rfl rfl ?_
   refine aI ?_
   refine aG ?_
   refine wp_block ?_
   refine wp_loop_ghost (fun r a' W' => ∃ (j : Nat) (Aj : Option Addr) (cj : Nat) (x' : Nat → Value), a' = aZ 45 x' [(4, .pointer (some ⟨g_0_0, 0, none⟩)), (5, .int .i64 (((n : Nat) : Int))), (6, .pointer (some ⟨g_2_5, 0, none⟩)), (7, .int .i64 (((i + 1 : Nat) : Int))), (8, .slice Aj ((prs ((i + 1 : Nat) : Int) j).length) cj), (9, .int .i64 (((j + 1 : Nat) : Int)))] ∧ (j + r = n) ∧ St w No [hR Kn.int 3 (.slice Aj ((prs ((i + 1 : Nat) : Int) j).length) cj) (prs ((i + 1 : Nat) : Int) j), hR dK 68 (.slice Ai ((dO n i).length) ci) (dO n i), hB g_2_5 36 #[.slice B_2_1 l.length c_2_1, .slice Ai ((dO n i).length) ci, .slice B_2_3 ((chs n n).length) c_2_3, .slice none 0 0, .int .i64 (0)], hR aT 196 (.slice B_2_3 ((chs n n).length) c_2_3) (chs n n), hR aR 133 (.slice B_2_1 l.length c_2_1) l, hB g_0_0 36 #[.slice none 0 0, .slice none 0 0, .slice none 0 0, .slice none 0 0, .int .i64 (0)]] W') n ?_ ?_
   ·exact (bX [(4, .pointer (some ⟨g_0_0, 0, none⟩)), (5, .int .i64 (((n : Nat) : Int))), (6, .pointer (some ⟨g_2_5, 0, none⟩)), (7, .int .i64 (((i + 1 : Nat) : Int))), (8, .slice A_6_0 0 0), (9, .int .i64 (1))] rfl).elim fun x' hx => ⟨0, A_6_0, 0, x', hx, kO, Ha42⟩
   ·rintro r44 _ W45 ⟨j, Aj, cj, x46, rfl, hi_j, H47⟩; clear Ha42
    refine wp_seq ?_
    refine wp_seq ?_
    refine aH [0, 1, 2] rfl ?_
    refine aA ?_
    refine aB rfl (aF rfl) rfl rfl ?_
    refine aA ?_
    refine aB rfl (aF rfl) rfl rfl ?_
    refine aA ?_
    refine aB rfl (jH rfl rfl) rfl rfl ?_
    refine aI ?_
    refine aG ?_
    refine fE rfl (fun hc48 => ?_) (fun hc48 => ?_)
    ·have hlt_j : j < n := by omega
     refine wp_skip ?_
     refine aG ?_
     refine wp_seq ?_
     refine wp_block ?_
     refine wp_seq ?_
     refine aH [0, 1, 2] rfl ?_
     refine aA ?_
     refine aB rfl (aF rfl) rfl rfl ?_
     refine aA ?_
     refine aB rfl (aF rfl) rfl rfl ?_
     refine aA ?_
     refine aB rfl (rn_neq rfl rfl) rfl rfl ?_
     refine aI ?_
     refine aG ?_
     refine fE rfl (fun hc49 => ?_) (fun hc49 => ?_)
     ·have hadd : (prs ((i + 1 : Nat) : Int) (j + 1)) = (prs ((i + 1 : Nat) : Int) j) ++ [((j + 1 : Nat) : Int)] := if_neg kO
      refine aH [0, 1, 2, 3, 4] rfl ?_
      refine aA ?_
      refine aB rfl (aF rfl) rfl rfl ?_
      refine aA ?_
      refine aB rfl (aF rfl) rfl rfl ?_
      refine aA ?_
      refine fQ rfl Tryz.runUnderlying129 Tryz.sizeOf3 kD Tryz.zeroValue3 rfl rfl rfl rfl H47 ?_
      intro g_11_2 W50 hu51 Ha52; clear H47; clear hu51
      refine aA ?_
      have H56 : St w No [hR Kn.int 3 (.slice Aj ((prs ((i + 1 : Nat) : Int) j).length) cj) (prs ((i + 1 : Nat) : Int) j), hB g_11_2 3 #[.int .i64 (((j + 1 : Nat) : Int))], hR dK 68 (.slice Ai ((dO n i).length) ci) (dO n i), hB g_2_5 36 #[.slice B_2_1 l.length c_2_1, .slice Ai ((dO n i).length) ci, .slice B_2_3 ((chs n n).length) c_2_3, .slice none 0 0, .int .i64 (0)], hR aT 196 (.slice B_2_3 ((chs n n).length) c_2_3) (chs n n), hR aR 133 (.slice B_2_1 l.length c_2_1) l, hB g_0_0 36 #[.slice none 0 0, .slice none 0 0, .slice none 0 0, .slice none 0 0, .int .i64 (0)]] W50 := Ha52.pick [1, 0, 2, 3, 4, 5, 6] kD rfl; clear Ha52
      refine kF (xs := (prs ((i + 1 : Nat) : Int) j)) (p := ((j + 1 : Nat) : Int)) (n' := (prs ((i + 1 : Nat) : Int) (j + 1)).length) (ys := (prs ((i + 1 : Nat) : Int) (j + 1))) rfl Tryz.underlying129 int_info rfl kD kD rfl rfl rfl (by have := prs_len ((i + 1 : Nat) : Int) j; omega) (by rw [hadd, List.length_append]; rfl) hadd.symm rfl rfl H56 ?_
      intro B_11_3 c_11_3 W54 Ha55; clear H56
      refine aA ?_
      refine aB rfl (aP rfl) rfl rfl ?_
      refine aI ?_
      refine inB_n ?_
      refine aG ?_
      refine aH [0, 1, 2] rfl ?_
      refine aA ?_
      refine aB rfl (aF rfl) rfl rfl ?_
      refine aA ?_
      refine aB rfl (jI (k := j + 1) rfl rfl kO) rfl rfl ?_
      refine aA ?_
      refine aB rfl (aP rfl) rfl rfl ?_
      refine aI ?_
      refine aG ?_
      exact (bX [(4, .pointer (some ⟨g_0_0, 0, none⟩)), (5, .int .i64 (((n : Nat) : Int))), (6, .pointer (some ⟨g_2_5, 0, none⟩)), (7, .int .i64 (((i + 1 : Nat) : Int))), (8, .slice B_11_3 ((prs ((i + 1 : Nat) : Int) (j + 1)).length) c_11_3), (9, .int .i64 (((j + 1 + 1 : Nat) : Int)))] rfl).elim fun x' hx => ⟨r44 - 1, kO, j + 1, B_11_3, c_11_3, x', hx, kO, Ha55⟩
     ·have e58 : (prs ((i + 1 : Nat) : Int) (j + 1)) = (prs ((i + 1 : Nat) : Int) j) := if_pos kO
      rw [← e58] at H47 ⊢
      refine wp_skip ?_
      refine inB_n ?_
      refine aG ?_
      refine aH [0, 1, 2] rfl ?_
      refine aA ?_
      refine aB rfl (aF rfl) rfl rfl ?_
      refine aA ?_
      refine aB rfl (jI (k := j + 1) rfl rfl kO) rfl rfl ?_
      refine aA ?_
      refine aB rfl (aP rfl) rfl rfl ?_
      refine aI ?_
      refine aG ?_
      exact (bX [(4, .pointer (some ⟨g_0_0, 0, none⟩)), (5, .int .i64 (((n : Nat) : Int))), (6, .pointer (some ⟨g_2_5, 0, none⟩)), (7, .int .i64 (((i + 1 : Nat) : Int))), (8, .slice Aj ((prs ((i + 1 : Nat) : Int) (j + 1)).length) cj), (9, .int .i64 (((j + 1 + 1 : Nat) : Int)))] rfl).elim fun x' hx => ⟨r44 - 1, kO, j + 1, Aj, cj, x', hx, kO, H47⟩
    ·obtain rfl : n = j := by omega
     refine wp_exit ?_
     refine gP ?_
     refine gP ?_
     refine inB_x ?_
     refine aG ?_
     refine jX (fun W' => Blk W' g_2_5 36 #[.slice B_2_1 l.length c_2_1, .slice Ai ((dO n i).length) ci, .slice B_2_3 ((chs n n).length) c_2_3, .slice none 0 0, .int .i64 (0)]) 8 kR ?_
     have H59 := H47.drew; clear H47
     have hS60 : Blk W45.drew g_2_5 36 #[.slice B_2_1 l.length c_2_1, .slice Ai ((dO n i).length) ci, .slice B_2_3 ((chs n n).length) c_2_3, .slice none 0 0, .int .i64 (0)] := H59.blk 2 rfl
     refine aY (i := 0) rfl kR kR kR kR kR (fun _ _ _ h => h) rfl rfl hS60 (fun W' hs' => bU fa_36_1 rfl) ?_
     refine aY (i := 1) rfl kR kR kR kR kR (fun _ _ _ h => h) rfl rfl hS60 (fun W' hs' => dZ (k := 1) (v := .slice Ai ((dO n i).length) ci) Tryz.isAgg32 rfl hs' rfl) ?_
     refine aY (i := 2) rfl kR kR kR kR kR (fun _ _ _ h => h) rfl rfl hS60 (fun W' hs' => aF rfl) ?_
     refine aY (i := 3) rfl kR kR kR kR kR (fun _ _ _ h => h) rfl rfl hS60 (fun W' hs' => aF rfl) ?_
     refine dY (i := 4) kR ?_
     refine dJ rfl Tryz.call77 (vs := #[.int .i64 (((i + 1 : Nat) : Int)), .slice Aj ((prs ((i + 1 : Nat) : Int) n).length) cj, .int .i64 (0)]) rfl rfl rfl (newVat_s ((i + 1 : Nat) : Int) (prs ((i + 1 : Nat) : Int) n) 0 _ _ _ (H59.rowC 0 rfl) (by have := prs_len ((i + 1 : Nat) : Int) n; omega)) ?_
     rintro e64 W63 ⟨cs_12_4, rfl, hM61, hu62⟩; refine ⟨_, rfl, ?_⟩
     have H65 := H59.new (q := hM dK (nvV ((i + 1 : Nat) : Int) (prs ((i + 1 : Nat) : Int) n) 0) cs_12_4) hu62 hM61; clear H59
     have hS66 := H65.blk 3 rfl; refine ⟨fun _ => hS66, ?_⟩
     refine dY (i := 5) kR ?_
     refine fQ rfl Tryz.runUnderlying32 Tryz.sizeOf68 kD Tryz.zeroValue68 rfl (ki_Vat_len (H65.kn 0 rfl)) rfl rfl H65 ?_
     intro g_12_5 W67 hu68 Ha69; clear H65; clear hu68
     have hS71 := Ha69.blk 4 rfl; refine ⟨fun _ => hS71, ?_⟩
     refine dY (i := 6) kR ?_
     have H74 : St w No [hR dK 68 (.slice Ai ((dO n i).length) ci) (dO n i), hB g_12_5 68 (List.toArray cs_12_4), hM dK (nvV ((i + 1 : Nat) : Int) (prs ((i + 1 : Nat) : Int) n) 0) cs_12_4, hR Kn.int 3 (.slice Aj ((prs ((i + 1 : Nat) : Int) n).length) cj) (prs ((i + 1 : Nat) : Int) n), hB g_2_5 36 #[.slice B_2_1 l.length c_2_1, .slice Ai ((dO n i).length) ci, .slice B_2_3 ((chs n n).length) c_2_3, .slice none 0 0, .int .i64 (0)], hR aT 196 (.slice B_2_3 ((chs n n).length) c_2_3) (chs n n), hR aR 133 (.slice B_2_1 l.length c_2_1) l, hB g_0_0 36 #[.slice none 0 0, .slice none 0 0, .slice none 0 0, .slice none 0 0, .int .i64 (0)]] W67 := Ha69.pick [3, 0, 1, 2, 4, 5, 6, 7] kD rfl; clear Ha69
     refine iF (xs := (dO n i)) (p := (nvV ((i + 1 : Nat) : Int) (prs ((i + 1 : Nat) : Int) n) 0)) (n' := (dO n (i + 1)).length) (ys := (dO n (i + 1))) rfl Tryz.underlying32 ki_Vat_info rfl kD kD rfl rfl (by rw [kV]; omega) (by rw [kV, kV]) rfl rfl rfl H74 ?_
     intro B_12_6 c_12_6 W72 Ha73; clear H74
     have hS76 := Ha73.blk 2 rfl; refine ⟨fun _ => hS76, ?_⟩
     refine aY (i := 7) rfl kR kR kR kR kR (fun _ _ _ h => h) rfl rfl hS76 (fun W' hs' => bU fa_36_1 rfl) ?_
     refine dY (i := 8) kR ?_
     have H80 : St w No [hB g_2_5 36 #[.slice B_2_1 l.length c_2_1, .slice Ai ((dO n i).length) ci, .slice B_2_3 ((chs n n).length) c_2_3, .slice none 0 0, .int .i64 (0)], hR dK 68 (.slice B_12_6 ((dO n (i + 1)).length) c_12_6) (dO n (i + 1)), hR Kn.int 3 (.slice Aj ((prs ((i + 1 : Nat) : Int) n).length) cj) (prs ((i + 1 : Nat) : Int) n), hR aT 196 (.slice B_2_3 ((chs n n).length) c_2_3) (chs n n), hR aR 133 (.slice B_2_1 l.length c_2_1) l, hB g_0_0 36 #[.slice none 0 0, .slice none 0 0, .slice none 0 0, .slice none 0 0, .int .i64 (0)]] W72 := Ha73.pick [2, 0, 1, 3, 4, 5] kD rfl; clear Ha73
     refine iU rfl Tryz.sizeOf32 rfl rfl rfl (Nat.le_of_ble_eq_true rfl) (by simp [Value.cells, Value.oneCell']) H80 ?_
     intro W77 hu78 Ha79; clear H80; clear hu78
     refine ⟨fun h => absS kR h, ?_⟩
     refine jK kR ?_ _
     refine inB_n ?_
     refine aG ?_
     refine aH [0, 1, 2] rfl ?_
     refine aA ?_
     refine aB rfl (aF rfl) rfl rfl ?_
     refine aA ?_
     refine aB rfl (jI (k := i + 1) rfl rfl kO) rfl rfl ?_
     refine aA ?_
     refine aB rfl (aP rfl) rfl rfl ?_
     refine aI ?_
     refine aG ?_
     exact (bX [(4, .pointer (some ⟨g_0_0, 0, none⟩)), (5, .int .i64 (((n : Nat) : Int))), (6, .pointer (some ⟨g_2_5, 0, none⟩)), (7, .int .i64 (((i + 1 + 1 : Nat) : Int)))] rfl).elim fun x' hx => ⟨r35 - 1, kO, i + 1, B_12_6, c_12_6, x', hx, kO, Ha79.pick [1, 0, 3, 4, 5] kD rfl⟩
  ·obtain rfl : n = i := by omega
   refine wp_exit ?_
   refine gP ?_
   refine gP ?_
   refine inB_x ?_
   refine aG ?_
   refine wp_seq ?_
   refine aH [0, 1] rfl ?_
   refine aA ?_
   refine aB rfl (fK Tryz.isAgg36 Tryz.sizeOf36 rfl (H38.blk 1 rfl) rfl) rfl rfl ?_
   refine aA ?_
   have H85 : St w No [hB g_0_0 36 #[.slice none 0 0, .slice none 0 0, .slice none 0 0, .slice none 0 0, .int .i64 (0)], hR dK 68 (.slice Ai ((dO n n).length) ci) (dO n n), hB g_2_5 36 #[.slice B_2_1 l.length c_2_1, .slice Ai ((dO n n).length) ci, .slice B_2_3 ((chs n n).length) c_2_3, .slice none 0 0, .int .i64 (0)], hR aT 196 (.slice B_2_3 ((chs n n).length) c_2_3) (chs n n), hR aR 133 (.slice B_2_1 l.length c_2_1) l] W36 := H38.pick [4, 0, 1, 2, 3] kD rfl; clear H38
   refine dR rfl Tryz.sizeOf36 rfl rfl rfl rfl kS H85 ?_
   intro W82 hu83 Ha84; clear H85; clear hu83
   refine aI ?_
   refine aG ?_
   refine wp_ret ?_
   refine iQ (.inl rfl) Tryz.results19 Tryz.isAgg36 Tryz.sizeOf36 rfl (Ha84.blk 0 rfl) rfl ?_
   rw [show nwW l v = (⟨l, dO n n, chs n n, [], 0⟩ : GWorld) from by rw [hn]; rfl]
   have H87 : St w No [hR eG 110 (.slice none 0 0) ([]), hB g_0_0 36 #[.slice B_2_1 l.length c_2_1, .slice Ai ((dO n n).length) ci, .slice B_2_3 ((chs n n).length) c_2_3, .slice none 0 0, .int .i64 (0)], hR dK 68 (.slice Ai ((dO n n).length) ci) (dO n n), hB g_2_5 36 #[.slice B_2_1 l.length c_2_1, .slice Ai ((dO n n).length) ci, .slice B_2_3 ((chs n n).length) c_2_3, .slice none 0 0, .int .i64 (0)], hR aT 196 (.slice B_2_3 ((chs n n).length) c_2_3) (chs n n), hR aR 133 (.slice B_2_1 l.length c_2_1) l] W82 := Ha84.add0 (q := hR eG 110 (.slice none 0 0) []) fP; clear Ha84
   have H88 : St w No [hR aR 133 (.slice B_2_1 l.length c_2_1) l, hR dK 68 (.slice Ai ((dO n n).length) ci) (dO n n), hR aT 196 (.slice B_2_3 ((chs n n).length) c_2_3) (chs n n), hR eG 110 (.slice none 0 0) ([]), hB g_0_0 36 #[.slice B_2_1 l.length c_2_1, .slice Ai ((dO n n).length) ci, .slice B_2_3 ((chs n n).length) c_2_3, .slice none 0 0, .int .i64 (0)], hB g_2_5 36 #[.slice B_2_1 l.length c_2_1, .slice Ai ((dO n n).length) ci, .slice B_2_3 ((chs n n).length) c_2_3, .slice none 0 0, .int .i64 (0)]] W82 := H87.pick [5, 2, 4, 0, 1, 3] kD rfl; clear H87
   have H89 : St w No [hM dI (⟨l, dO n n, chs n n, [], 0⟩ : GWorld) [.slice B_2_1 l.length c_2_1, .slice Ai ((dO n n).length) ci, .slice B_2_3 ((chs n n).length) c_2_3, .slice none 0 0, .int .i64 (0)], hB g_0_0 36 #[.slice B_2_1 l.length c_2_1, .slice Ai ((dO n n).length) ci, .slice B_2_3 ((chs n n).length) c_2_3, .slice none 0 0, .int .i64 (0)], hB g_2_5 36 #[.slice B_2_1 l.length c_2_1, .slice Ai ((dO n n).length) ci, .slice B_2_3 ((chs n n).length) c_2_3, .slice none 0 0, .int .i64 (0)]] W82 := H88.swap (l0 := [hR aR 133 (.slice B_2_1 l.length c_2_1) l, hR dK 68 (.slice Ai ((dO n n).length) ci) (dO n n), hR aT 196 (.slice B_2_3 ((chs n n).length) c_2_3) (chs n n), hR eG 110 (.slice none 0 0) ([])]) (l' := [hM dI (⟨l, dO n n, chs n n, [], 0⟩ : GWorld) [.slice B_2_1 l.length c_2_1, .slice Ai ((dO n n).length) ci, .slice B_2_3 ((chs n n).length) c_2_3, .slice none 0 0, .int .i64 (0)]]) (fun _ h => Star.one (ki_World_close (x := (⟨l, dO n n, chs n n, [], 0⟩ : GWorld)) h)); clear H88
   exact ⟨_, rfl, (H89.pick [0] kD rfl).fin1.1, H89.1⟩
theorem newWorld_I (l : List GScript) (v : Int) (A : Option Addr) (c : Nat) (w : World) (hC : C aR w A l) (hs : dP bP l ≤ 1048576) : Calls Tryz.prog 21 #[.slice A l.length c, .int .i64 v] w (iT dI (nwW l v) w) := by
 refine enter 44 [(0, .slice A l.length c), (1, .int .i64 (v))] Tryz.func21 rfl kR ?_
 intro xj
 have H1 : St w No [] w := St.enter
 have hs4 : dP bP l ≤ 4194304 := by omega
 obtain ⟨n, hn⟩ : ∃ n, n = nwN v := ⟨_, rfl⟩
 have hmx := nwN_max v
 obtain ⟨h1, h4⟩ := nwN_le v
 rw [← hn] at h1 h4 hmx
 have hmn : (if (4 : Int) < (if (1 : Int) > v then 1 else v) then 4 else (if (1 : Int) > v then 1 else v)) = ((n : Nat) : Int) := hmx
 refine wp_seq ?_
 refine aH [0] rfl ?_
 refine aA ?_
 refine eU rfl Tryz.zeroValue36 rfl rfl H1 ?_
 intro g_0_0 W2 hu3 Ha4; clear H1; clear hu3
 refine aI ?_
 refine aG ?_
 refine wp_seq ?_
 refine aH [0, 1, 2, 3] rfl ?_
 refine aA ?_
 refine aB rfl (aF rfl) rfl rfl ?_
 refine aA ?_
 refine aB rfl (rn_max rfl rfl) rfl rfl ?_
 refine aA ?_
 refine aB rfl (rn_int hmn (rn_min rfl rfl)) rfl rfl ?_
 refine aA ?_
 refine aB rfl (aP rfl) rfl rfl ?_
 refine aI ?_
 refine aG ?_
 refine wp_seq ?_
 refine aH [0, 1, 2, 3, 4, 5, 6] rfl ?_
 refine aA ?_
 refine aB rfl (aF rfl) rfl rfl ?_
 refine aA ?_
 refine dJ rfl Tryz.call79 (vs := #[.slice A l.length c]) rfl rfl rfl (copiedScripts_i l _ _ _ (aO Ha4.1 hC) hs4) ?_
 rintro e10 W9 ⟨v6, rfl, hR7, hu8⟩; refine ⟨_, rfl, ?_⟩
 obtain ⟨B_2_1, c_2_1, rfl⟩ := bK hR7
 have H11 := Ha4.new (q := hR aR 133 (.slice B_2_1 l.length c_2_1) l) hu8 hR7; clear Ha4
 refine aA ?_
 refine aB rfl (aF rfl) rfl rfl ?_
 refine aA ?_
 refine dJ rfl Tryz.call80 (vs := #[.int .i64 (((n : Nat) : Int))]) rfl rfl rfl (allCh_i n h1 h4 _) ?_
 rintro e16 W15 ⟨v12, rfl, hR13, hu14⟩; refine ⟨_, rfl, ?_⟩
 obtain ⟨B_2_3, c_2_3, rfl⟩ := bK hR13
 have H17 := H11.new (q := hR aT 196 (.slice B_2_3 ((chs n n).length) c_2_3) (chs n n)) hu14 hR13; clear H11
 refine aA ?_
 refine aB rfl (gW (vs := [(0, .slice B_2_1 l.length c_2_1), (2, .slice B_2_3 ((chs n n).length) c_2_3)]) (cells := #[.slice B_2_1 l.length c_2_1, .slice none 0 0, .slice B_2_3 ((chs n n).length) c_2_3, .slice none 0 0, .int .i64 (0)]) rfl kR) rfl rfl ?_
 refine aA ?_
 refine eU rfl Tryz.zeroValue36 rfl rfl H17 ?_
 intro g_2_5 W18 hu19 Ha20; clear H17; clear hu19
 refine aA ?_
 refine dR rfl Tryz.sizeOf36 rfl rfl rfl rfl kS Ha20 ?_
 intro W22 hu23 Ha24; clear Ha20; clear hu23
 refine aI ?_
 refine aG ?_
 refine wp_seq ?_
 refine wp_seq ?_
 refine aH [0] rfl ?_
 refine aA ?_
 refine aB rfl (aP rfl) rfl rfl ?_
 refine aI ?_
 refine aG ?_
 refine wp_block ?_
 have H26 : St w No [hR dK 68 (.slice none 0 0) ([]), hB g_2_5 36 #[.slice B_2_1 l.length c_2_1, .slice none 0 0, .slice B_2_3 ((chs n n).length) c_2_3, .slice none 0 0, .int .i64 (0)], hR aT 196 (.slice B_2_3 ((chs n n).length) c_2_3) (chs n n), hR aR 133 (.slice B_2_1 l.length c_2_1) l, hB g_0_0 36 #[.slice none 0 0, .slice none 0 0, .slice none 0 0, .slice none 0 0, .int .i64 (0)]] W22 := Ha24.add0 (q := hR dK 68 (.slice none 0 0) []) fP; clear Ha24
 refine wp_loop_ghost (fun r a' W' => ∃ (i : Nat) (Ai : Option Addr) (ci : Nat) (x' : Nat → Value), a' = aZ 44 x' [(1, .int .i64 (((n : Nat) : Int))), (4, .pointer (some ⟨g_0_0, 0, none⟩)), (5, .pointer (some ⟨g_2_5, 0, none⟩)), (6, .int .i64 (((i + 1 : Nat) : Int)))] ∧ (i + r = n) ∧ St w No [hR dK 68 (.slice Ai ((dO n i).length) ci) (dO n i), hB g_2_5 36 #[.slice B_2_1 l.length c_2_1, .slice Ai ((dO n i).length) ci, .slice B_2_3 ((chs n n).length) c_2_3, .slice none 0 0, .int .i64 (0)], hR aT 196 (.slice B_2_3 ((chs n n).length) c_2_3) (chs n n), hR aR 133 (.slice B_2_1 l.length c_2_1) l, hB g_0_0 36 #[.slice none 0 0, .slice none 0 0, .slice none 0 0, .slice none 0 0, .int .i64 (0)]] W') n ?_ ?_
 ·exact (bX [(1, .int .i64 (((n : Nat) : Int))), (4, .pointer (some ⟨g_0_0, 0, none⟩)), (5, .pointer (some ⟨g_2_5, 0, none⟩)), (6, .int .i64 (1))] rfl).elim fun x' hx => ⟨0, none, 0, x', hx, kO, H26⟩
 ·rintro r27 _ W28 ⟨i, Ai, ci, x29, rfl, hi_i, H30⟩; clear H26
  refine wp_seq ?_
  refine wp_seq ?_
  refine aH [0, 1, 2] rfl ?_
  refine aA ?_
  refine aB rfl (aF rfl) rfl rfl ?_
  refine aA ?_
  refine aB rfl (aF rfl) rfl rfl ?_
  refine aA ?_
  refine aB rfl (jH rfl rfl) rfl rfl ?_
  refine aI ?_
  refine aG ?_
  refine fE rfl (fun hc31 => ?_) (fun hc31 => ?_)
  ·have hlt_i : i < n := by omega
   refine wp_skip ?_
   refine aG ?_
   refine wp_seq ?_
   refine wp_block ?_
   refine wp_seq ?_
   refine aH [0, 1] rfl ?_
   refine aA ?_
   refine kK (dk := Kn.int) rfl Tryz.runUnderlying129 Tryz.sizeOf3 rfl rfl H30 ?_
   intro A_6_0 W32 hu33 Ha34; clear H30; clear hu33
   refine aA ?_
   refine aB rfl (aP rfl) rfl rfl ?_
   refine aI ?_
   refine aG ?_
   refine wp_seq ?_
   refine wp_seq ?_
   refine aH [0] rfl ?_
   refine aA ?_
   refine aB rfl (aP rfl) rfl rfl ?_
   refine aI ?_
   refine aG ?_
   refine wp_block ?_
   refine wp_loop_ghost (fun r a' W' => ∃ (j : Nat) (Aj : Option Addr) (cj : Nat) (x' : Nat → Value), a' = aZ 44 x' [(1, .int .i64 (((n : Nat) : Int))), (4, .pointer (some ⟨g_0_0, 0, none⟩)), (5, .pointer (some ⟨g_2_5, 0, none⟩)), (6, .int .i64 (((i + 1 : Nat) : Int))), (7, .slice Aj ((prs ((i + 1 : Nat) : Int) j).length) cj), (8, .int .i64 (((j + 1 : Nat) : Int)))] ∧ (j + r = n) ∧ St w No [hR Kn.int 3 (.slice Aj ((prs ((i + 1 : Nat) : Int) j).length) cj) (prs ((i + 1 : Nat) : Int) j), hR dK 68 (.slice Ai ((dO n i).length) ci) (dO n i), hB g_2_5 36 #[.slice B_2_1 l.length c_2_1, .slice Ai ((dO n i).length) ci, .slice B_2_3 ((chs n n).length) c_2_3, .slice none 0 0, .int .i64 (0)], hR aT 196 (.slice B_2_3 ((chs n n).length) c_2_3) (chs n n), hR aR 133 (.slice B_2_1 l.length c_2_1) l, hB g_0_0 36 #[.slice none 0 0, .slice none 0 0, .slice none 0 0, .slice none 0 0, .int .i64 (0)]] W') n ?_ ?_
   ·exact (bX [(1, .int .i64 (((n : Nat) : Int))), (4, .pointer (some ⟨g_0_0, 0, none⟩)), (5, .pointer (some ⟨g_2_5, 0, none⟩)), (6, .int .i64 (((i + 1 : Nat) : Int))), (7, .slice A_6_0 0 0), (8, .int .i64 (1))] rfl).elim fun x' hx => ⟨0, A_6_0, 0, x', hx, kO, Ha34⟩
   ·rintro r36 _ W37 ⟨j, Aj, cj, x38, rfl, hi_j, H39⟩; clear Ha34
    refine wp_seq ?_
    refine wp_seq ?_
    refine aH [0, 1, 2] rfl ?_
    refine aA ?_
    refine aB rfl (aF rfl) rfl rfl ?_
    refine aA ?_
    refine aB rfl (aF rfl) rfl rfl ?_
    refine aA ?_
    refine aB rfl (jH rfl rfl) rfl rfl ?_
    refine aI ?_
    refine aG ?_
    refine fE rfl (fun hc40 => ?_) (fun hc40 => ?_)
    ·have hlt_j : j < n := by omega
     refine wp_skip ?_
     refine aG ?_
     refine wp_seq ?_
     refine wp_block ?_
     refine wp_seq ?_
     refine aH [0, 1, 2] rfl ?_
     refine aA ?_
     refine aB rfl (aF rfl) rfl rfl ?_
     refine aA ?_
     refine aB rfl (aF rfl) rfl rfl ?_
     refine aA ?_
     refine aB rfl (rn_neq rfl rfl) rfl rfl ?_
     refine aI ?_
     refine aG ?_
     refine fE rfl (fun hc41 => ?_) (fun hc41 => ?_)
     ·have hadd : (prs ((i + 1 : Nat) : Int) (j + 1)) = (prs ((i + 1 : Nat) : Int) j) ++ [((j + 1 : Nat) : Int)] := if_neg kO
      refine aH [0, 1, 2, 3, 4] rfl ?_
      refine aA ?_
      refine aB rfl (aF rfl) rfl rfl ?_
      refine aA ?_
      refine aB rfl (aF rfl) rfl rfl ?_
      refine aA ?_
      refine fQ rfl Tryz.runUnderlying129 Tryz.sizeOf3 kD Tryz.zeroValue3 rfl rfl rfl rfl H39 ?_
      intro g_11_2 W42 hu43 Ha44; clear H39; clear hu43
      refine aA ?_
      have H48 : St w No [hR Kn.int 3 (.slice Aj ((prs ((i + 1 : Nat) : Int) j).length) cj) (prs ((i + 1 : Nat) : Int) j), hB g_11_2 3 #[.int .i64 (((j + 1 : Nat) : Int))], hR dK 68 (.slice Ai ((dO n i).length) ci) (dO n i), hB g_2_5 36 #[.slice B_2_1 l.length c_2_1, .slice Ai ((dO n i).length) ci, .slice B_2_3 ((chs n n).length) c_2_3, .slice none 0 0, .int .i64 (0)], hR aT 196 (.slice B_2_3 ((chs n n).length) c_2_3) (chs n n), hR aR 133 (.slice B_2_1 l.length c_2_1) l, hB g_0_0 36 #[.slice none 0 0, .slice none 0 0, .slice none 0 0, .slice none 0 0, .int .i64 (0)]] W42 := Ha44.pick [1, 0, 2, 3, 4, 5, 6] kD rfl; clear Ha44
      refine kF (xs := (prs ((i + 1 : Nat) : Int) j)) (p := ((j + 1 : Nat) : Int)) (n' := (prs ((i + 1 : Nat) : Int) (j + 1)).length) (ys := (prs ((i + 1 : Nat) : Int) (j + 1))) rfl Tryz.underlying129 int_info rfl kD kD rfl rfl rfl (by have := prs_len ((i + 1 : Nat) : Int) j; omega) (by rw [hadd, List.length_append]; rfl) hadd.symm rfl rfl H48 ?_
      intro B_11_3 c_11_3 W46 Ha47; clear H48
      refine aA ?_
      refine aB rfl (aP rfl) rfl rfl ?_
      refine aI ?_
      refine inB_n ?_
      refine aG ?_
      refine aH [0, 1, 2] rfl ?_
      refine aA ?_
      refine aB rfl (aF rfl) rfl rfl ?_
      refine aA ?_
      refine aB rfl (jI (k := j + 1) rfl rfl kO) rfl rfl ?_
      refine aA ?_
      refine aB rfl (aP rfl) rfl rfl ?_
      refine aI ?_
      refine aG ?_
      exact (bX [(1, .int .i64 (((n : Nat) : Int))), (4, .pointer (some ⟨g_0_0, 0, none⟩)), (5, .pointer (some ⟨g_2_5, 0, none⟩)), (6, .int .i64 (((i + 1 : Nat) : Int))), (7, .slice B_11_3 ((prs ((i + 1 : Nat) : Int) (j + 1)).length) c_11_3), (8, .int .i64 (((j + 1 + 1 : Nat) : Int)))] rfl).elim fun x' hx => ⟨r36 - 1, kO, j + 1, B_11_3, c_11_3, x', hx, kO, Ha47⟩
     ·have e50 : (prs ((i + 1 : Nat) : Int) (j + 1)) = (prs ((i + 1 : Nat) : Int) j) := if_pos kO
      rw [← e50] at H39 ⊢
      refine wp_skip ?_
      refine inB_n ?_
      refine aG ?_
      refine aH [0, 1, 2] rfl ?_
      refine aA ?_
      refine aB rfl (aF rfl) rfl rfl ?_
      refine aA ?_
      refine aB rfl (jI (k := j + 1) rfl rfl kO) rfl rfl ?_
      refine aA ?_
      refine aB rfl (aP rfl) rfl rfl ?_
      refine aI ?_
      refine aG ?_
      exact (bX [(1, .int .i64 (((n : Nat) : Int))), (4, .pointer (some ⟨g_0_0, 0, none⟩)), (5, .pointer (some ⟨g_2_5, 0, none⟩)), (6, .int .i64 (((i + 1 : Nat) : Int))), (7, .slice Aj ((prs ((i + 1 : Nat) : Int) (j + 1)).length) cj), (8, .int .i64 (((j + 1 + 1 : Nat) : Int)))] rfl).elim fun x' hx => ⟨r36 - 1, kO, j + 1, Aj, cj, x', hx, kO, H39⟩
    ·obtain rfl : n = j := by omega
     refine wp_exit ?_
     refine gP ?_
     refine gP ?_
     refine inB_x ?_
     refine aG ?_
     refine jX (fun W' => Blk W' g_2_5 36 #[.slice B_2_1 l.length c_2_1, .slice Ai ((dO n i).length) ci, .slice B_2_3 ((chs n n).length) c_2_3, .slice none 0 0, .int .i64 (0)]) 8 kR ?_
     have H51 := H39.drew; clear H39
     have hS52 : Blk W37.drew g_2_5 36 #[.slice B_2_1 l.length c_2_1, .slice Ai ((dO n i).length) ci, .slice B_2_3 ((chs n n).length) c_2_3, .slice none 0 0, .int .i64 (0)] := H51.blk 2 rfl
     refine aY (i := 0) rfl kR kR kR kR kR (fun _ _ _ h => h) rfl rfl hS52 (fun W' hs' => bU fa_36_1 rfl) ?_
     refine aY (i := 1) rfl kR kR kR kR kR (fun _ _ _ h => h) rfl rfl hS52 (fun W' hs' => dZ (k := 1) (v := .slice Ai ((dO n i).length) ci) Tryz.isAgg32 rfl hs' rfl) ?_
     refine aY (i := 2) rfl kR kR kR kR kR (fun _ _ _ h => h) rfl rfl hS52 (fun W' hs' => aF rfl) ?_
     refine aY (i := 3) rfl kR kR kR kR kR (fun _ _ _ h => h) rfl rfl hS52 (fun W' hs' => aF rfl) ?_
     refine dY (i := 4) kR ?_
     refine dJ rfl Tryz.call81 (vs := #[.int .i64 (((i + 1 : Nat) : Int)), .slice Aj ((prs ((i + 1 : Nat) : Int) n).length) cj, .int .i64 (0)]) rfl rfl rfl (newVat_i ((i + 1 : Nat) : Int) (prs ((i + 1 : Nat) : Int) n) 0 _ _ _ (H51.rowC 0 rfl) (by have := prs_len ((i + 1 : Nat) : Int) n; omega)) ?_
     rintro e56 W55 ⟨cs_12_4, rfl, hM53, hu54⟩; refine ⟨_, rfl, ?_⟩
     have H57 := H51.new (q := hM dK (nvV ((i + 1 : Nat) : Int) (prs ((i + 1 : Nat) : Int) n) 0) cs_12_4) hu54 hM53; clear H51
     have hS58 := H57.blk 3 rfl; refine ⟨fun _ => hS58, ?_⟩
     refine dY (i := 5) kR ?_
     refine fQ rfl Tryz.runUnderlying32 Tryz.sizeOf68 kD Tryz.zeroValue68 rfl (ki_Vat_len (H57.kn 0 rfl)) rfl rfl H57 ?_
     intro g_12_5 W59 hu60 Ha61; clear H57; clear hu60
     have hS63 := Ha61.blk 4 rfl; refine ⟨fun _ => hS63, ?_⟩
     refine dY (i := 6) kR ?_
     have H66 : St w No [hR dK 68 (.slice Ai ((dO n i).length) ci) (dO n i), hB g_12_5 68 (List.toArray cs_12_4), hM dK (nvV ((i + 1 : Nat) : Int) (prs ((i + 1 : Nat) : Int) n) 0) cs_12_4, hR Kn.int 3 (.slice Aj ((prs ((i + 1 : Nat) : Int) n).length) cj) (prs ((i + 1 : Nat) : Int) n), hB g_2_5 36 #[.slice B_2_1 l.length c_2_1, .slice Ai ((dO n i).length) ci, .slice B_2_3 ((chs n n).length) c_2_3, .slice none 0 0, .int .i64 (0)], hR aT 196 (.slice B_2_3 ((chs n n).length) c_2_3) (chs n n), hR aR 133 (.slice B_2_1 l.length c_2_1) l, hB g_0_0 36 #[.slice none 0 0, .slice none 0 0, .slice none 0 0, .slice none 0 0, .int .i64 (0)]] W59 := Ha61.pick [3, 0, 1, 2, 4, 5, 6, 7] kD rfl; clear Ha61
     refine iF (xs := (dO n i)) (p := (nvV ((i + 1 : Nat) : Int) (prs ((i + 1 : Nat) : Int) n) 0)) (n' := (dO n (i + 1)).length) (ys := (dO n (i + 1))) rfl Tryz.underlying32 ki_Vat_info rfl kD kD rfl rfl (by rw [kV]; omega) (by rw [kV, kV]) rfl rfl rfl H66 ?_
     intro B_12_6 c_12_6 W64 Ha65; clear H66
     have hS68 := Ha65.blk 2 rfl; refine ⟨fun _ => hS68, ?_⟩
     refine aY (i := 7) rfl kR kR kR kR kR (fun _ _ _ h => h) rfl rfl hS68 (fun W' hs' => bU fa_36_1 rfl) ?_
     refine dY (i := 8) kR ?_
     have H72 : St w No [hB g_2_5 36 #[.slice B_2_1 l.length c_2_1, .slice Ai ((dO n i).length) ci, .slice B_2_3 ((chs n n).length) c_2_3, .slice none 0 0, .int .i64 (0)], hR dK 68 (.slice B_12_6 ((dO n (i + 1)).length) c_12_6) (dO n (i + 1)), hR Kn.int 3 (.slice Aj ((prs ((i + 1 : Nat) : Int) n).length) cj) (prs ((i + 1 : Nat) : Int) n), hR aT 196 (.slice B_2_3 ((chs n n).length) c_2_3) (chs n n), hR aR 133 (.slice B_2_1 l.length c_2_1) l, hB g_0_0 36 #[.slice none 0 0, .slice none 0 0, .slice none 0 0, .slice none 0 0, .int .i64 (0)]] W64 := Ha65.pick [2, 0, 1, 3, 4, 5] kD rfl; clear Ha65
     refine iU rfl Tryz.sizeOf32 rfl rfl rfl (Nat.le_of_ble_eq_true rfl) (by simp [Value.cells, Value.oneCell']) H72 ?_
     intro W69 hu70 Ha71; clear H72; clear hu70
     refine ⟨fun h => absS kR h, ?_⟩
     refine jK kR ?_ _
     refine inB_n ?_
     refine aG ?_
     refine aH [0, 1, 2] rfl ?_
     refine aA ?_
     refine aB rfl (aF rfl) rfl rfl ?_
     refine aA ?_
     refine aB rfl (jI (k := i + 1) rfl rfl kO) rfl rfl ?_
     refine aA ?_
     refine aB rfl (aP rfl) rfl rfl ?_
     refine aI ?_
     refine aG ?_
     exact (bX [(1, .int .i64 (((n : Nat) : Int))), (4, .pointer (some ⟨g_0_0, 0, none⟩)), (5, .pointer (some ⟨g_2_5, 0, none⟩)), (6, .int .i64 (((i + 1 + 1 : Nat) : Int)))] rfl).elim fun x' hx => ⟨r27 - 1, kO, i + 1, B_12_6, c_12_6, x', hx, kO, Ha71.pick [1, 0, 3, 4, 5] kD rfl⟩
  ·obtain rfl : n = i := by omega
   refine wp_exit ?_
   refine gP ?_
   refine gP ?_
   refine inB_x ?_
   refine aG ?_
   refine wp_seq ?_
   refine aH [0, 1] rfl ?_
   refine aA ?_
   refine aB rfl (fK Tryz.isAgg36 Tryz.sizeOf36 rfl (H30.blk 1 rfl) rfl) rfl rfl ?_
   refine aA ?_
   have H77 : St w No [hB g_0_0 36 #[.slice none 0 0, .slice none 0 0, .slice none 0 0, .slice none 0 0, .int .i64 (0)], hR dK 68 (.slice Ai ((dO n n).length) ci) (dO n n), hB g_2_5 36 #[.slice B_2_1 l.length c_2_1, .slice Ai ((dO n n).length) ci, .slice B_2_3 ((chs n n).length) c_2_3, .slice none 0 0, .int .i64 (0)], hR aT 196 (.slice B_2_3 ((chs n n).length) c_2_3) (chs n n), hR aR 133 (.slice B_2_1 l.length c_2_1) l] W28 := H30.pick [4, 0, 1, 2, 3] kD rfl; clear H30
   refine dR rfl Tryz.sizeOf36 rfl rfl rfl rfl kS H77 ?_
   intro W74 hu75 Ha76; clear H77; clear hu75
   refine aI ?_
   refine aG ?_
   refine wp_ret ?_
   refine iQ (.inl rfl) Tryz.results21 Tryz.isAgg36 Tryz.sizeOf36 rfl (Ha76.blk 0 rfl) rfl ?_
   rw [show nwW l v = (⟨l, dO n n, chs n n, [], 0⟩ : GWorld) from by rw [hn]; rfl]
   have H79 : St w No [hR eG 110 (.slice none 0 0) ([]), hB g_0_0 36 #[.slice B_2_1 l.length c_2_1, .slice Ai ((dO n n).length) ci, .slice B_2_3 ((chs n n).length) c_2_3, .slice none 0 0, .int .i64 (0)], hR dK 68 (.slice Ai ((dO n n).length) ci) (dO n n), hB g_2_5 36 #[.slice B_2_1 l.length c_2_1, .slice Ai ((dO n n).length) ci, .slice B_2_3 ((chs n n).length) c_2_3, .slice none 0 0, .int .i64 (0)], hR aT 196 (.slice B_2_3 ((chs n n).length) c_2_3) (chs n n), hR aR 133 (.slice B_2_1 l.length c_2_1) l] W74 := Ha76.add0 (q := hR eG 110 (.slice none 0 0) []) fP; clear Ha76
   have H80 : St w No [hR aR 133 (.slice B_2_1 l.length c_2_1) l, hR dK 68 (.slice Ai ((dO n n).length) ci) (dO n n), hR aT 196 (.slice B_2_3 ((chs n n).length) c_2_3) (chs n n), hR eG 110 (.slice none 0 0) ([]), hB g_0_0 36 #[.slice B_2_1 l.length c_2_1, .slice Ai ((dO n n).length) ci, .slice B_2_3 ((chs n n).length) c_2_3, .slice none 0 0, .int .i64 (0)], hB g_2_5 36 #[.slice B_2_1 l.length c_2_1, .slice Ai ((dO n n).length) ci, .slice B_2_3 ((chs n n).length) c_2_3, .slice none 0 0, .int .i64 (0)]] W74 := H79.pick [5, 2, 4, 0, 1, 3] kD rfl; clear H79
   have H81 : St w No [hM dI (⟨l, dO n n, chs n n, [], 0⟩ : GWorld) [.slice B_2_1 l.length c_2_1, .slice Ai ((dO n n).length) ci, .slice B_2_3 ((chs n n).length) c_2_3, .slice none 0 0, .int .i64 (0)], hB g_0_0 36 #[.slice B_2_1 l.length c_2_1, .slice Ai ((dO n n).length) ci, .slice B_2_3 ((chs n n).length) c_2_3, .slice none 0 0, .int .i64 (0)], hB g_2_5 36 #[.slice B_2_1 l.length c_2_1, .slice Ai ((dO n n).length) ci, .slice B_2_3 ((chs n n).length) c_2_3, .slice none 0 0, .int .i64 (0)]] W74 := H80.swap (l0 := [hR aR 133 (.slice B_2_1 l.length c_2_1) l, hR dK 68 (.slice Ai ((dO n n).length) ci) (dO n n), hR aT 196 (.slice B_2_3 ((chs n n).length) c_2_3) (chs n n), hR eG 110 (.slice none 0 0) ([])]) (l' := [hM dI (⟨l, dO n n, chs n n, [], 0⟩ : GWorld) [.slice B_2_1 l.length c_2_1, .slice Ai ((dO n n).length) ci, .slice B_2_3 ((chs n n).length) c_2_3, .slice none 0 0, .int .i64 (0)]]) (fun _ h => Star.one (ki_World_close (x := (⟨l, dO n n, chs n n, [], 0⟩ : GWorld)) h)); clear H80
   exact ⟨_, rfl, (H81.pick [0] kD rfl).fin1.1, H81.1⟩
end Go.Proofs.YtfnedoiplblldaaGreatFam
namespace Go.Proofs.YtfnedoiplblldaaGreatT
open Go.Proofs.YtfnedoiplblldaaGreatSep
theorem cntv_World_nn (x : GWorld) : 0 ≤ cZ x := by
 have h0 := bN aW gD x.eY
 have h1 := bN dB jJ x.Vats
 have h2 := bN bE gM x.eH
 have h3 := bN bV iW x.jD
 unfold cZ
 omega
theorem cntv_World_le (x : GWorld) : cZ x ≤ 20 * (szn_World x : Int) := by
 have h0 := dM aW bP cnt_Script_le x.eY
 have h1 := dM dB szn_Vat cnt_Vat_le x.Vats
 have h2 := dM bE jZ cnt_Channel_le x.eH
 have h3 := dM bV szn_Note cnt_Note_le x.jD
 unfold cZ szn_World
 omega
end Go.Proofs.YtfnedoiplblldaaGreatT
namespace Go.Proofs.YtfnedoiplblldaaGreatFam
open Go.ChangeShapes Go.WideShapes Go.RowKit Go.Proofs.YtfnedoiplblldaaGreatSep Go.Proofs.YtfnedoiplblldaaGreatT Go.Proofs.YtfnedoiplblldaaGreatK
set_option linter.unusedVariables false
set_option linter.unusedSimpArgs false
attribute [local irreducible] wpOps wpOp
set_option maxHeartbeats 4000000
set_option maxRecDepth 100000
theorem law_FnExactNewWorld (w : World) (l0 : List GScript) (A0 : Option Addr) (c0 : Nat) (hC0 : C jB w A0 l0) (hl0 : l0.length ≤ c0) (hG0 : l0.length ≤ 9223372036854775807 ∧ ∀ y ∈ l0, Gd_Script y) (a1 : Int) (w1 : (Lit.int .i64 a1).wf = true) : Calls Tryz.prog 4 #[.slice A0 l0.length c0, .int .i64 a1] w (dD true w) := by
 refine enter 74 [(0, .slice A0 l0.length c0), (1, .int .i64 (a1))] Tryz.func4 rfl kR ?_
 intro xj
 have H1 : St w No [] w := St.enter
 refine wp_seq ?_
 refine aH [0] rfl ?_
 refine aA ?_
 refine aB rfl (aP rfl) rfl rfl ?_
 refine aI ?_
 refine aG ?_
 refine wp_seq ?_
 refine aH [0] rfl ?_
 refine aA ?_
 refine aB rfl (aP rfl) rfl rfl ?_
 refine aI ?_
 refine aG ?_
 refine wp_seq ?_
 refine aH [0, 1, 2, 3] rfl ?_
 refine aA ?_
 refine aB rfl (aF rfl) rfl rfl ?_
 refine aA ?_
 refine aB rfl (aF rfl) rfl rfl ?_
 refine aA ?_
 refine dJ rfl Tryz.call18 (vs := #[.slice A0 l0.length c0, .int .i64 (1048576)]) rfl rfl rfl (szS_Script l0 _ _ _ _ (aO H1.1 hC0) (fun y hy => Bd_of_Script (hG0.2 y hy)) kO kO) ?_
 rintro e6 W5 ⟨n3, rfl, hr4, hu2⟩; refine ⟨_, rfl, ?_⟩
 have H7 := H1.no hu2; clear H1
 refine aA ?_
 refine aB rfl (aP rfl) rfl rfl ?_
 refine aI ?_
 refine aG ?_
 refine wp_seq ?_
 refine wp_seq ?_
 refine aH [0, 1] rfl ?_
 refine aA ?_
 refine aB rfl (aF rfl) rfl rfl ?_
 refine aA ?_
 refine aB rfl (rn_lss rfl rfl) rfl rfl ?_
 refine aI ?_
 refine aG ?_
 refine fE rfl (fun hc8 => ?_) (fun hc8 => ?_)
 ·refine wp_seq ?_
  refine aH [0] rfl ?_
  refine aA ?_
  refine aB rfl (aP rfl) rfl rfl ?_
  refine aI ?_
  refine aG ?_
  refine wp_ret ?_
  refine then_r ?_
  refine fJ (.inl rfl) Tryz.results4 rfl ?_
  exact ⟨rfl, H7.1⟩
 ·have hs_l0 : dP bP l0 ≤ 1048576 := by omega
  have hn_l0 : l0.length ≤ 1048576 := by unfold dP at hs_l0; omega
  refine wp_skip ?_
  refine aG ?_
  refine wp_seq ?_
  have nn9 : 0 ≤ aK aW l0 := bN aW gD l0
  have nn9b := dM aW bP cnt_Script_le l0
  have nn9c : dP bP l0 ≤ 4194304 := (Nat.le_trans hs_l0 kD)
  have nn10 : 0 ≤ cZ (nwW l0 a1) := cntv_World_nn (nwW l0 a1)
  have nn10b := cntv_World_le (nwW l0 a1)
  have nn10c : szn_World (nwW l0 a1) ≤ 4194304 := nwW_bd l0 a1 hs_l0
  refine aH [0, 1, 2, 3, 4, 5] rfl ?_
  refine aA ?_
  refine aB rfl (aF rfl) rfl rfl ?_
  refine aA ?_
  refine dJ rfl Tryz.call20 (vs := #[.slice A0 l0.length c0]) rfl rfl rfl (toS_Script l0 _ _ _ (aO H7.1 hC0) hs_l0) ?_
  rintro e15 W14 ⟨v12, rfl, hR13, hu11⟩; refine ⟨_, rfl, ?_⟩
  obtain ⟨B_5_1, c_5_1, rfl⟩ := bK hR13
  have H16 := H7.new (q := hR aR 133 (.slice B_5_1 l0.length c_5_1) l0) hu11 hR13; clear H7
  refine aA ?_
  refine aB rfl (aF rfl) rfl rfl ?_
  refine aA ?_
  refine dJ rfl Tryz.call19 (vs := #[.slice B_5_1 l0.length c_5_1, .int .i64 (a1)]) rfl rfl rfl (newWorld_S l0 a1 _ _ _ (H16.rowC 0 rfl) hs_l0) ?_
  rintro e20 W19 ⟨cs_5_3, rfl, hM17, hu18⟩; refine ⟨_, rfl, ?_⟩
  have H21 := H16.new (q := hM dI (nwW l0 a1) cs_5_3) hu18 hM17; clear H16
  refine aA ?_
  refine eU rfl Tryz.zeroValue36 rfl rfl H21 ?_
  intro g_5_4 W22 hu23 Ha24; clear H21; clear hu23
  refine aA ?_
  refine dR rfl Tryz.sizeOf36 rfl rfl (eX (Ha24.kn 1 rfl)) rfl (ki_World_one (Ha24.kn 1 rfl)) Ha24 ?_
  intro W26 hu27 Ha28; clear Ha24; clear hu27
  refine aI ?_
  refine aG ?_
  refine wp_seq ?_
  refine aH [0, 1, 2] rfl ?_
  refine aA ?_
  refine aB rfl (aF rfl) rfl rfl ?_
  refine aA ?_
  refine dJ rfl Tryz.call20 (vs := #[.slice A0 l0.length c0]) rfl rfl rfl (toS_Script l0 _ _ _ (aO Ha28.1 hC0) hs_l0) ?_
  rintro e34 W33 ⟨v31, rfl, hR32, hu30⟩; refine ⟨_, rfl, ?_⟩
  obtain ⟨B_6_1, c_6_1, rfl⟩ := bK hR32
  have H35 := Ha28.new (q := hR aR 133 (.slice B_6_1 l0.length c_6_1) l0) hu30 hR32; clear Ha28
  refine aA ?_
  refine aB rfl (aP rfl) rfl rfl ?_
  refine aI ?_
  refine aG ?_
  refine wp_seq ?_
  refine aH [0, 1, 2, 3, 4] rfl ?_
  refine aA ?_
  refine aB rfl (aF rfl) rfl rfl ?_
  refine aA ?_
  refine aB rfl (aF rfl) rfl rfl ?_
  refine aA ?_
  refine dJ rfl Tryz.call21 (vs := #[.slice B_6_1 l0.length c_6_1, .int .i64 (a1)]) rfl rfl rfl (newWorld_I l0 a1 _ _ _ (H35.rowC 0 rfl) hs_l0) ?_
  rintro e39 W38 ⟨cs_7_2, rfl, hM36, hu37⟩; refine ⟨_, rfl, ?_⟩
  have H40 := H35.new (q := hM dI (nwW l0 a1) cs_7_2) hu37 hM36; clear H35
  refine aA ?_
  refine eU rfl Tryz.zeroValue36 rfl rfl H40 ?_
  intro g_7_3 W41 hu42 Ha43; clear H40; clear hu42
  refine aA ?_
  refine dR rfl Tryz.sizeOf36 rfl rfl (eX (Ha43.kn 1 rfl)) rfl (ki_World_one (Ha43.kn 1 rfl)) Ha43 ?_
  intro W45 hu46 Ha47; clear Ha43; clear hu46
  refine aI ?_
  refine aG ?_
  refine wp_seq ?_
  refine wp_seq ?_
  refine aH [0, 1, 2, 3] rfl ?_
  refine aA ?_
  refine aB rfl (fK Tryz.isAgg36 Tryz.sizeOf36 rfl (Ha47.blk 0 rfl) (eX (Ha47.kn 1 rfl))) rfl rfl ?_
  refine aA ?_
  refine aB rfl (fK Tryz.isAgg36 Tryz.sizeOf36 rfl (Ha47.blk 3 rfl) (eX (Ha47.kn 4 rfl))) rfl rfl ?_
  refine aA ?_
  refine dJ rfl Tryz.call15 (vs := #[.agg (List.toArray cs_7_2), .agg (List.toArray cs_5_3)]) rfl rfl rfl (eq_World (nwW l0 a1) _ _ _ (Ha47.kn 1 rfl) (Ha47.kn 4 rfl)) ?_
  rintro e51 W50 ⟨rfl, hu49⟩; refine ⟨_, rfl, ?_⟩
  have H52 := Ha47.no hu49; clear Ha47
  refine aA ?_
  refine aB rfl (rn_not rfl) rfl rfl ?_
  refine aI ?_
  refine aG ?_
  refine cond_f rfl ?_
  refine wp_skip ?_
  refine aG ?_
  refine wp_seq ?_
  refine wp_seq ?_
  refine aH [0, 1, 2, 3, 4] rfl ?_
  refine aA ?_
  refine aB rfl (aF rfl) rfl rfl ?_
  refine aA ?_
  refine aB rfl (aF rfl) rfl rfl ?_
  refine aA ?_
  refine dJ rfl Tryz.call20 (vs := #[.slice A0 l0.length c0]) rfl rfl rfl (toS_Script l0 _ _ _ (aO H52.1 hC0) hs_l0) ?_
  rintro e57 W56 ⟨v54, rfl, hR55, hu53⟩; refine ⟨_, rfl, ?_⟩
  obtain ⟨B_10_2, c_10_2, rfl⟩ := bK hR55
  have H58 := H52.new (q := hR aR 133 (.slice B_10_2 l0.length c_10_2) l0) hu53 hR55; clear H52
  refine aA ?_
  refine dJ rfl Tryz.call22 (vs := #[.slice B_6_1 l0.length c_6_1, .slice B_10_2 l0.length c_10_2]) rfl rfl rfl (eqS_Script l0 _ _ _ _ _ (H58.rowC 3 rfl) (H58.rowC 0 rfl)) ?_
  rintro e61 W60 ⟨rfl, hu59⟩; refine ⟨_, rfl, ?_⟩
  have H62 := H58.no hu59; clear H58
  refine aA ?_
  refine aB rfl (rn_not rfl) rfl rfl ?_
  refine aI ?_
  refine aG ?_
  refine cond_f rfl ?_
  refine wp_skip ?_
  refine aG ?_
  refine wp_seq ?_
  refine aH [0] rfl ?_
  refine aA ?_
  refine aB rfl (aP rfl) rfl rfl ?_
  refine aI ?_
  refine aG ?_
  refine wp_seq ?_
  refine aH [0, 1, 2, 3] rfl ?_
  refine aA ?_
  refine aB rfl (aF rfl) rfl rfl ?_
  refine aA ?_
  refine aB rfl (aF rfl) rfl rfl ?_
  refine aA ?_
  have H69 : St w No [hR aR 133 (.slice B_6_1 l0.length c_6_1) l0, hR aR 133 (.slice B_10_2 l0.length c_10_2) l0, hB g_7_3 36 (List.toArray cs_7_2), hM dI (nwW l0 a1) cs_7_2, hB g_5_4 36 (List.toArray cs_5_3), hM dI (nwW l0 a1) cs_5_3, hR aR 133 (.slice B_5_1 l0.length c_5_1) l0] W60 := H62.pick [3, 0, 1, 2, 4, 5, 6] kD rfl; clear H62
  obtain ⟨F64, hM65, hF66, hT67⟩ := H69.turn
  refine dJ rfl Tryz.call23 (vs := #[.slice B_6_1 l0.length c_6_1, .int .i64 (1)]) rfl rfl rfl (markS_Script l0 _ F64 _ _ hM65 kO kO) ?_
  rintro e71 W70 ⟨rfl, hM68, hu63⟩; refine ⟨_, rfl, ?_⟩
  have H72 : St w No [hR aR 133 (.slice B_6_1 l0.length c_6_1) (mkS fG aW 1 l0), hR aR 133 (.slice B_10_2 l0.length c_10_2) l0, hB g_7_3 36 (List.toArray cs_7_2), hM dI (nwW l0 a1) cs_7_2, hB g_5_4 36 (List.toArray cs_5_3), hM dI (nwW l0 a1) cs_5_3, hR aR 133 (.slice B_5_1 l0.length c_5_1) l0] W70 := hT67 (hR aR 133 (.slice B_6_1 l0.length c_6_1) (mkS fG aW 1 l0)) _ hu63 ((hR aR 133 (.slice B_6_1 l0.length c_6_1) (mkS fG aW 1 l0)).mono (fun _ q => .inl q) hM68); clear H69
  refine aA ?_
  refine aB rfl (aP rfl) rfl rfl ?_
  refine aI ?_
  refine aG ?_
  refine wp_seq ?_
  refine wp_seq ?_
  refine aH [0, 1, 2, 3, 4, 5, 6, 7] rfl ?_
  refine aA ?_
  refine aB rfl (aF rfl) rfl rfl ?_
  refine aA ?_
  refine aB rfl (jS (p := ((1 + aK aW l0) : Int) < 0) kO (rn_lss (p := (1 + aK aW l0)) (q := 0) rfl rfl)) rfl rfl ?_
  refine aA ?_
  refine aB rfl (aF rfl) rfl rfl ?_
  refine aA ?_
  refine op_G rfl rfl rfl rfl (fun _ ho73 => ?_)
  refine aB ho73 (fK Tryz.isAgg36 Tryz.sizeOf36 rfl (H72.blk 2 rfl) (eX (H72.kn 3 rfl))) rfl rfl ?_
  refine aA ?_
  refine op_G rfl rfl rfl rfl (fun _ ho74 => ?_)
  refine aB ho74 (fK Tryz.isAgg36 Tryz.sizeOf36 rfl (H72.blk 4 rfl) (eX (H72.kn 5 rfl))) rfl rfl ?_
  refine aA ?_
  refine op_G rfl rfl rfl rfl (fun _ ho75 => ?_)
  refine dJ ho75 Tryz.call15 (vs := #[.agg (List.toArray cs_7_2), .agg (List.toArray cs_5_3)]) rfl rfl rfl (eq_World (nwW l0 a1) _ _ _ (H72.kn 3 rfl) (H72.kn 5 rfl)) ?_
  rintro e78 W77 ⟨rfl, hu76⟩; refine ⟨_, rfl, ?_⟩
  have H79 := H72.no hu76; clear H72
  refine aA ?_
  refine op_G rfl rfl rfl rfl (fun _ ho80 => ?_)
  refine aB ho80 (rn_not rfl) rfl rfl ?_
  refine aA ?_
  refine aB rfl (rn_pick (v := .bool (false)) (b := false) rfl rfl rfl rfl) rfl rfl ?_
  refine aI ?_
  refine aG ?_
  refine cond_f rfl ?_
  refine wp_skip ?_
  refine aG ?_
  refine wp_seq ?_
  refine aH [0] rfl ?_
  refine aA ?_
  refine aB rfl (aP rfl) rfl rfl ?_
  refine aI ?_
  refine aG ?_
  refine wp_seq ?_
  refine aH [0, 1, 2, 3] rfl ?_
  refine aA ?_
  refine aB rfl (fK Tryz.isAgg36 Tryz.sizeOf36 rfl (H79.blk 2 rfl) (eX (H79.kn 3 rfl))) rfl rfl ?_
  refine aA ?_
  refine aB rfl (aF rfl) rfl rfl ?_
  refine aA ?_
  have H87 : St w No [hM dI (nwW l0 a1) cs_7_2, hR aR 133 (.slice B_6_1 l0.length c_6_1) (mkS fG aW 1 l0), hR aR 133 (.slice B_10_2 l0.length c_10_2) l0, hB g_7_3 36 (List.toArray cs_7_2), hB g_5_4 36 (List.toArray cs_5_3), hM dI (nwW l0 a1) cs_5_3, hR aR 133 (.slice B_5_1 l0.length c_5_1) l0] W77 := H79.pick [3, 0, 1, 2, 4, 5, 6] kD rfl; clear H79
  obtain ⟨F82, hM83, hF84, hT85⟩ := H87.turn
  refine dJ rfl Tryz.call16 (vs := #[.agg (List.toArray cs_7_2), .int .i64 (1)]) rfl rfl rfl (markv_World_c (nwW l0 a1) _ F82 _ _ hM83 kO kO) ?_
  rintro e89 W88 ⟨rfl, hM86, hu81⟩; refine ⟨_, rfl, ?_⟩
  have H90 : St w No [hM dI (iZ 1 (nwW l0 a1)) cs_7_2, hR aR 133 (.slice B_6_1 l0.length c_6_1) (mkS fG aW 1 l0), hR aR 133 (.slice B_10_2 l0.length c_10_2) l0, hB g_7_3 36 (List.toArray cs_7_2), hB g_5_4 36 (List.toArray cs_5_3), hM dI (nwW l0 a1) cs_5_3, hR aR 133 (.slice B_5_1 l0.length c_5_1) l0] W88 := hT85 (hM dI (iZ 1 (nwW l0 a1)) cs_7_2) _ hu81 ((hM dI (iZ 1 (nwW l0 a1)) cs_7_2).mono (fun _ q => .inl q) hM86); clear H87
  refine aA ?_
  refine aB rfl (aP rfl) rfl rfl ?_
  refine aI ?_
  refine aG ?_
  refine wp_seq ?_
  refine aH [0] rfl ?_
  refine aA ?_
  refine aB rfl (aP rfl) rfl rfl ?_
  refine aI ?_
  refine aG ?_
  refine wp_seq ?_
  refine aH [0, 1, 2, 3] rfl ?_
  refine aA ?_
  refine aB rfl (fK Tryz.isAgg36 Tryz.sizeOf36 rfl (H90.blk 3 rfl) (eX (H90.kn 0 rfl))) rfl rfl ?_
  refine aA ?_
  refine aB rfl (aF rfl) rfl rfl ?_
  refine aA ?_
  refine dJ rfl Tryz.call17 (vs := #[.agg (List.toArray cs_7_2), .int .i64 (1)]) rfl rfl rfl (heldv_World_c (nwW l0 a1) _ _ _ (H90.kn 0 rfl) kO kO) ?_
  rintro e93 W92 ⟨rfl, hu91⟩; refine ⟨_, rfl, ?_⟩
  have H94 := H90.no hu91; clear H90
  refine aA ?_
  refine aB rfl (aP rfl) rfl rfl ?_
  refine aI ?_
  refine aG ?_
  refine wp_seq ?_
  refine wp_seq ?_
  refine aH [0, 1] rfl ?_
  refine aA ?_
  refine aB rfl (aF rfl) rfl rfl ?_
  refine aA ?_
  refine aB rfl (jS (p := ((1 + cZ (nwW l0 a1)) : Int) < 0) kO (rn_lss (p := (1 + cZ (nwW l0 a1))) (q := 0) rfl rfl)) rfl rfl ?_
  refine aI ?_
  refine aG ?_
  refine cond_f rfl ?_
  refine wp_skip ?_
  refine aG ?_
  refine wp_seq ?_
  refine wp_seq ?_
  refine aH [0, 1, 2] rfl ?_
  refine aA ?_
  refine aB rfl (aF rfl) rfl rfl ?_
  refine aA ?_
  refine aB rfl (aF rfl) rfl rfl ?_
  refine aA ?_
  refine aB rfl (jS (p := ¬ ((1 + cZ (nwW l0 a1)) : Int) = (1 + cZ (nwW l0 a1))) (not_not_intro rfl) (rn_neq (p := (1 + cZ (nwW l0 a1))) (q := (1 + cZ (nwW l0 a1))) rfl rfl)) rfl rfl ?_
  refine aI ?_
  refine aG ?_
  refine cond_f rfl ?_
  refine wp_skip ?_
  refine aG ?_
  refine wp_seq ?_
  refine aH [0, 1, 2, 3, 4, 5] rfl ?_
  refine aA ?_
  refine aB rfl (aF rfl) rfl rfl ?_
  refine aA ?_
  refine dJ rfl Tryz.call20 (vs := #[.slice A0 l0.length c0]) rfl rfl rfl (toS_Script l0 _ _ _ (aO H94.1 hC0) hs_l0) ?_
  rintro e99 W98 ⟨v96, rfl, hR97, hu95⟩; refine ⟨_, rfl, ?_⟩
  obtain ⟨B_24_1, c_24_1, rfl⟩ := bK hR97
  have H100 := H94.new (q := hR aR 133 (.slice B_24_1 l0.length c_24_1) l0) hu95 hR97; clear H94
  refine aA ?_
  refine aB rfl (aF rfl) rfl rfl ?_
  refine aA ?_
  refine dJ rfl Tryz.call21 (vs := #[.slice B_24_1 l0.length c_24_1, .int .i64 (a1)]) rfl rfl rfl (newWorld_I l0 a1 _ _ _ (H100.rowC 0 rfl) hs_l0) ?_
  rintro e104 W103 ⟨cs_24_3, rfl, hM101, hu102⟩; refine ⟨_, rfl, ?_⟩
  have H105 := H100.new (q := hM dI (nwW l0 a1) cs_24_3) hu102 hM101; clear H100
  refine aA ?_
  refine eU rfl Tryz.zeroValue36 rfl rfl H105 ?_
  intro g_24_4 W106 hu107 Ha108; clear H105; clear hu107
  refine aA ?_
  refine dR rfl Tryz.sizeOf36 rfl rfl (eX (Ha108.kn 1 rfl)) rfl (ki_World_one (Ha108.kn 1 rfl)) Ha108 ?_
  intro W110 hu111 Ha112; clear Ha108; clear hu111
  refine aI ?_
  refine aG ?_
  refine wp_seq ?_
  refine wp_seq ?_
  refine aH [0, 1, 2, 3] rfl ?_
  refine aA ?_
  refine aB rfl (fK Tryz.isAgg36 Tryz.sizeOf36 rfl (Ha112.blk 0 rfl) (eX (Ha112.kn 1 rfl))) rfl rfl ?_
  refine aA ?_
  refine aB rfl (fK Tryz.isAgg36 Tryz.sizeOf36 rfl (Ha112.blk 7 rfl) (eX (Ha112.kn 8 rfl))) rfl rfl ?_
  refine aA ?_
  refine dJ rfl Tryz.call15 (vs := #[.agg (List.toArray cs_24_3), .agg (List.toArray cs_5_3)]) rfl rfl rfl (eq_World (nwW l0 a1) _ _ _ (Ha112.kn 1 rfl) (Ha112.kn 8 rfl)) ?_
  rintro e116 W115 ⟨rfl, hu114⟩; refine ⟨_, rfl, ?_⟩
  have H117 := Ha112.no hu114; clear Ha112
  refine aA ?_
  refine aB rfl (rn_not rfl) rfl rfl ?_
  refine aI ?_
  refine aG ?_
  refine cond_f rfl ?_
  refine wp_skip ?_
  refine aG ?_
  refine wp_seq ?_
  refine aH [0] rfl ?_
  refine aA ?_
  refine aB rfl (aP rfl) rfl rfl ?_
  refine aI ?_
  refine aG ?_
  refine wp_seq ?_
  refine aH [0, 1, 2, 3] rfl ?_
  refine aA ?_
  refine aB rfl (fK Tryz.isAgg36 Tryz.sizeOf36 rfl (H117.blk 6 rfl) (eX (H117.kn 3 rfl))) rfl rfl ?_
  refine aA ?_
  refine aB rfl (aF rfl) rfl rfl ?_
  refine aA ?_
  refine dJ rfl Tryz.call17 (vs := #[.agg (List.toArray cs_7_2), .int .i64 (1)]) rfl rfl rfl (heldv_World_c (nwW l0 a1) _ _ _ (H117.kn 3 rfl) kO kO) ?_
  rintro e120 W119 ⟨rfl, hu118⟩; refine ⟨_, rfl, ?_⟩
  have H121 := H117.no hu118; clear H117
  refine aA ?_
  refine aB rfl (aP rfl) rfl rfl ?_
  refine aI ?_
  refine aG ?_
  refine wp_seq ?_
  refine wp_seq ?_
  refine aH [0, 1] rfl ?_
  refine aA ?_
  refine aB rfl (aF rfl) rfl rfl ?_
  refine aA ?_
  refine aB rfl (jS (p := ((1 + cZ (nwW l0 a1)) : Int) < 0) kO (rn_lss (p := (1 + cZ (nwW l0 a1))) (q := 0) rfl rfl)) rfl rfl ?_
  refine aI ?_
  refine aG ?_
  refine cond_f rfl ?_
  refine wp_skip ?_
  refine aG ?_
  refine wp_seq ?_
  refine wp_seq ?_
  refine aH [0, 1, 2] rfl ?_
  refine aA ?_
  refine aB rfl (aF rfl) rfl rfl ?_
  refine aA ?_
  refine aB rfl (aF rfl) rfl rfl ?_
  refine aA ?_
  refine aB rfl (jS (p := ¬ ((1 + cZ (nwW l0 a1)) : Int) = (1 + cZ (nwW l0 a1))) (not_not_intro rfl) (rn_neq (p := (1 + cZ (nwW l0 a1))) (q := (1 + cZ (nwW l0 a1))) rfl rfl)) rfl rfl ?_
  refine aI ?_
  refine aG ?_
  refine cond_f rfl ?_
  refine wp_skip ?_
  refine aG ?_
  refine wp_seq ?_
  refine aH [0] rfl ?_
  refine aA ?_
  refine aB rfl (aP rfl) rfl rfl ?_
  refine aI ?_
  refine aG ?_
  refine wp_ret ?_
  refine fJ (.inl rfl) Tryz.results4 rfl ?_
  exact ⟨rfl, H121.1⟩
end Go.Proofs.YtfnedoiplblldaaGreatFam
namespace Go.Proofs.YtfnedoiplblldaaGreatOpen
open Go.ChangeShapes Go.WideShapes Go.Proofs.YtfnedoiplblldaaGreatSep
structure Opens {α : Type} (P : Program) (t : TypeId) (d : Kn α) (G : α → Prop) : Prop where
 out : ∀ {H : Type} (enc : TypeId × Value → H) (w : World) (base : Nat) (spare : Nat → Bool) (held : Bool) (fuel : Nat) (cs : List Value) (x : DataW H × List MemPlace),
  DataW.trod enc P w base spare held fuel t cs = some x → ∃ v, d.K w v cs ∧ G v
structure OpensFs {α : Type} (P : Program) (fs : List Field) (off : Nat) (d : Kn α) (G : α → Prop) : Prop where
 out : ∀ {H : Type} (enc : TypeId × Value → H) (w : World) (base : Nat) (spare : Nat → Bool) (held : Bool) (fuel : Nat) (cs : List Value), cs.length = off + d.sz →
  (∀ f ∈ fs, ∃ x, DataW.trod enc P w base spare held fuel f.type ((cs.drop f.offset).take (P.cellsOf f.type)) = some x) → ∃ v, d.K w v (cs.drop off) ∧ G v
section
variable {P : Program} {t e : TypeId}
theorem opens_int (ht : P.underlying t = some (.int .i64)) : Opens P t Kn.int (fun n => (Lit.int .i64 n).wf = true) := by
 refine ⟨?_⟩
 intro H enc w base spare held fuel cs x h
 obtain ⟨n, rfl, _, hw⟩ := DataW.trod_int ht h
 exact ⟨n, rfl, hw⟩
theorem opens_string (ht : P.underlying t = some .string) : Opens P t Kn.string (fun s => s.size ≤ 9223372036854775807) := by
 refine ⟨?_⟩
 intro H enc w base spare held fuel cs x h
 obtain ⟨s, rfl, _, hw⟩ := DataW.trod_string ht h
 exact ⟨s, rfl, by simpa [maxLen] using hw⟩
theorem opens_slice {α : Type} {d : Kn α} {G : α → Prop} (z : α) (ht : P.underlying t = some (.slice e)) (hc : P.cellsOf e = d.sz) (he : Opens P e d G) :
 Opens P t (Kn.slice e d) (fun l => l.length ≤ 9223372036854775807 ∧ ∀ x ∈ l, G x) := by
 refine ⟨?_⟩
 intro H enc w base spare held fuel cs x h
 rcases Go.Deep.open_slice ht h with ⟨rfl, _⟩ | ⟨a, len, cap, m, n, D, Pl, rfl, _, hl, hm, hmm, _, hx⟩
 ·exact ⟨[], ⟨none, 0, rfl, Nat.le_refl _, by simp, fun h => absurd h (Nat.lt_irrefl 0)⟩, by simp, by simp⟩
 have hle : len ≤ m := by rw [hmm]; split <;> omega
 have hm' : cap ≤ 9223372036854775807 := by simpa [maxLen] using hm
 haveI : Inhabited α := ⟨z⟩
 obtain ⟨V, hV⟩ := Go.Deep.choose_lt (α := α) (n := len) (p := fun i v => ∃ cs', w.cells? base (a.add (i * P.cellsOf e)) (P.cellsOf e) = some cs' ∧ d.K w v cs' ∧ G v) (fun i hi => by
  obtain ⟨cs', h1, h2⟩ := hx i kO
  obtain ⟨v, hk, hg⟩ := he.out enc w base spare held n cs' _ h2
  exact ⟨v, cs', h1, hk, hg⟩)
 have hlen : ((List.range len).map V).length = len := by simp
 refine ⟨(List.range len).map V, ⟨some a, cap, by rw [hlen], by rw [hlen]; exact hl, by rw [hlen]; omega, fun _ => ⟨a, rfl, fun j p hj => ?_⟩⟩, by rw [hlen]; omega, ?_⟩
 ·obtain ⟨hj1, hj2⟩ := List.getElem?_eq_some_iff.1 hj
  have hj3 : j < len := by rw [hlen] at hj1; exact hj1
  have hp : V j = p := by simpa using hj2
  subst hp
  obtain ⟨cs', h1, hk, _⟩ := hV j hj3
  rw [hc] at h1
  obtain ⟨_, h2, h3⟩ := World.cells?_some h1
  refine ⟨cs', hk, fun i u hu => ?_⟩
  have hi : i < d.sz := by rw [← h2]; exact (List.getElem?_eq_some_iff.1 hu).1
  have := h3 i hi
  rw [hu, Go.Deep.add_add] at this
  exact this
 ·intro x hx
  obtain ⟨j, hj, rfl⟩ := List.mem_map.1 hx
  obtain ⟨_, _, _, hg⟩ := hV j (List.mem_range.1 hj)
  exact hg
theorem opens_iso {α β : Type} {d : Kn α} {G : α → Prop} (f : β → α) (g : α → β) (hfg : ∀ y, f (g y) = y) (h : Opens P t d G) : Opens P t (Kn.iso d f) (fun x => G (f x)) := by
 refine ⟨?_⟩
 intro H enc w base spare held fuel cs x hx
 obtain ⟨v, hk, hg⟩ := h.out enc w base spare held fuel cs x hx
 refine ⟨g v, ?_, ?_⟩
 ·show d.K w (f (g v)) cs
  rw [hfg]
  exact hk
 ·show G (f (g v))
  rw [hfg]
  exact hg
theorem opensFs_one {α : Type} {d : Kn α} {G : α → Prop} {f : Field} {off : Nat} (ho : f.offset = off) (hc : P.cellsOf f.type = d.sz) (h : Opens P f.type d G) : OpensFs P [f] off d G := by
 refine ⟨?_⟩
 intro H enc w base spare held fuel cs hl hf
 obtain ⟨x, hx⟩ := hf f (List.mem_singleton.2 rfl)
 rw [hc, ho, List.take_of_length_le (by rw [List.length_drop]; omega)] at hx
 exact h.out enc w base spare held fuel _ x hx
theorem iL {α β : Type} {a : Kn α} {b : Kn β} {G : α → Prop} {G' : β → Prop} {f : Field} {fs : List Field} {off : Nat} (ho : f.offset = off) (hc : P.cellsOf f.type = a.sz) (h : Opens P f.type a G)
 (h' : OpensFs P fs (off + a.sz) b G') : OpensFs P (f :: fs) off (Kn.pair a b) (fun x => G x.1 ∧ G' x.2) := by
 refine ⟨?_⟩
 intro H enc w base spare held fuel cs hl hf
 have hl' : cs.length = off + (a.sz + b.sz) := hl
 obtain ⟨x, hx⟩ := hf f List.mem_cons_self
 rw [hc, ho] at hx
 obtain ⟨v, hk, hg⟩ := h.out enc w base spare held fuel _ x hx
 obtain ⟨v', hk', hg'⟩ := h'.out enc w base spare held fuel cs kO (fun f hm => hf f (List.mem_cons_of_mem _ hm))
 exact ⟨(v, v'), ⟨_, _, by rw [← List.drop_drop]; exact (List.take_append_drop _ _).symm, hk, hk'⟩, hg, hg'⟩
theorem opens_struct {α : Type} {d : Kn α} {G : α → Prop} {fs : List Field} (ht : P.underlying t = some (.struct fs.toArray)) (hc : P.cellsOf t = d.sz) (h : OpensFs P fs 0 d G) : Opens P t d G := by
 refine ⟨?_⟩
 intro H enc w base spare held fuel cs x hx
 obtain ⟨xs, n, _, _, hl, hlen, hf⟩ := DataW.trod_struct ht hx
 refine h.out enc w base spare held n cs (by rw [hl, hc, Nat.zero_add]) (fun f hm => ?_)
 obtain ⟨i, hi, rfl⟩ := List.mem_iff_getElem.1 hm
 have h1 := hf i fs[i] (by simp [hi])
 have hi' : i < xs.length := by rw [hlen]; simpa using hi
 exact ⟨xs[i], by rw [h1, List.getElem?_eq_getElem hi']⟩
theorem arg_slice {H : Type} {enc : TypeId × Value → H} {w : World} {base : Nat} {spare : Nat → Bool} {held : Bool} {α : Type} {d : Kn α} {G : List α → Prop} {a : Option Addr} {len cap : Nat} {dd : DataW H} {ps : List MemPlace}
 (h : Opens P t (Kn.slice e d) G) (hd : DataW.Trod enc P w base spare held t (.slice a len cap) dd ps) :
 ∃ l : List α, len = l.length ∧ l.length ≤ cap ∧ C d w a l ∧ G l := by
 obtain ⟨fuel, hf⟩ := hd
 obtain ⟨l, ⟨A, c, he, hl, hC⟩, hg⟩ := h.out enc w base spare held fuel _ _ hf
 simp [Value.cells] at he
 obtain ⟨rfl, rfl, rfl⟩ := he
 exact ⟨l, rfl, hl, hC, hg⟩
end
end Go.Proofs.YtfnedoiplblldaaGreatOpen
namespace Go.Proofs.YtfnedoiplblldaaGreatK
open Go.RowKit Go.Proofs.YtfnedoiplblldaaGreatSep Go.Proofs.YtfnedoiplblldaaGreatT Go.Proofs.YtfnedoiplblldaaGreatOpen
theorem opens_Instr : Opens Tryz.prog 313 iE Gd_Instr := by
 have h : Opens Tryz.prog 313 (Kn.pair Kn.int (Kn.pair Kn.int (Kn.pair Kn.int (Kn.pair Kn.int (Kn.pair Kn.int Kn.string))))) (fun p : Int × Int × Int × Int × Int × ByteArray => (fun q : Int => (Lit.int .i64 q).wf = true) p.1 ∧ (fun p : Int × Int × Int × Int × ByteArray => (fun q : Int => (Lit.int .i64 q).wf = true) p.1 ∧ (fun p : Int × Int × Int × ByteArray => (fun q : Int => (Lit.int .i64 q).wf = true) p.1 ∧ (fun p : Int × Int × ByteArray => (fun q : Int => (Lit.int .i64 q).wf = true) p.1 ∧ (fun p : Int × ByteArray => (fun q : Int => (Lit.int .i64 q).wf = true) p.1 ∧ (fun p : ByteArray => p.size ≤ 9223372036854775807) p.2) p.2) p.2) p.2) p.2) := by
  refine opens_struct Tryz.underlying313 kR ?_
  refine iL (G := fun q : Int => (Lit.int .i64 q).wf = true) (G' := fun p : Int × Int × Int × Int × ByteArray => (fun q : Int => (Lit.int .i64 q).wf = true) p.1 ∧ (fun p : Int × Int × Int × ByteArray => (fun q : Int => (Lit.int .i64 q).wf = true) p.1 ∧ (fun p : Int × Int × ByteArray => (fun q : Int => (Lit.int .i64 q).wf = true) p.1 ∧ (fun p : Int × ByteArray => (fun q : Int => (Lit.int .i64 q).wf = true) p.1 ∧ (fun p : ByteArray => p.size ≤ 9223372036854775807) p.2) p.2) p.2) p.2) ?_ ?_ ?_ ?_
  ·rfl
  ·kernel_rfl
  ·exact (opens_int Tryz.underlying3)
  refine iL (G := fun q : Int => (Lit.int .i64 q).wf = true) (G' := fun p : Int × Int × Int × ByteArray => (fun q : Int => (Lit.int .i64 q).wf = true) p.1 ∧ (fun p : Int × Int × ByteArray => (fun q : Int => (Lit.int .i64 q).wf = true) p.1 ∧ (fun p : Int × ByteArray => (fun q : Int => (Lit.int .i64 q).wf = true) p.1 ∧ (fun p : ByteArray => p.size ≤ 9223372036854775807) p.2) p.2) p.2) ?_ ?_ ?_ ?_
  ·rfl
  ·kernel_rfl
  ·exact (opens_int Tryz.underlying3)
  refine iL (G := fun q : Int => (Lit.int .i64 q).wf = true) (G' := fun p : Int × Int × ByteArray => (fun q : Int => (Lit.int .i64 q).wf = true) p.1 ∧ (fun p : Int × ByteArray => (fun q : Int => (Lit.int .i64 q).wf = true) p.1 ∧ (fun p : ByteArray => p.size ≤ 9223372036854775807) p.2) p.2) ?_ ?_ ?_ ?_
  ·rfl
  ·kernel_rfl
  ·exact (opens_int Tryz.underlying3)
  refine iL (G := fun q : Int => (Lit.int .i64 q).wf = true) (G' := fun p : Int × ByteArray => (fun q : Int => (Lit.int .i64 q).wf = true) p.1 ∧ (fun p : ByteArray => p.size ≤ 9223372036854775807) p.2) ?_ ?_ ?_ ?_
  ·rfl
  ·kernel_rfl
  ·exact (opens_int Tryz.underlying3)
  refine iL (G := fun q : Int => (Lit.int .i64 q).wf = true) (G' := fun p : ByteArray => p.size ≤ 9223372036854775807) ?_ ?_ ?_ ?_
  ·rfl
  ·kernel_rfl
  ·exact (opens_int Tryz.underlying3)
  refine opensFs_one ?_ ?_ ?_
  ·rfl
  ·kernel_rfl
  ·exact (opens_string Tryz.underlying9)
 exact opens_iso (fun x : GInstr => (x.Op, x.A, x.B, x.C, x.D, x.Name)) (fun p => ⟨p.1, p.2.1, p.2.2.1, p.2.2.2.1, p.2.2.2.2.1, p.2.2.2.2.2⟩) (fun _ => rfl) h
theorem opens_Method : Opens Tryz.prog 269 gH Gd_Method := by
 have h : Opens Tryz.prog 269 (Kn.pair Kn.string (Kn.slice 313 iE)) (fun p : ByteArray × List GInstr => (fun q : ByteArray => q.size ≤ 9223372036854775807) p.1 ∧ (fun p : List GInstr => (p.length ≤ 9223372036854775807 ∧ ∀ y ∈ p, Gd_Instr y)) p.2) := by
  refine opens_struct Tryz.underlying269 kR ?_
  refine iL (G := fun q : ByteArray => q.size ≤ 9223372036854775807) (G' := fun p : List GInstr => (p.length ≤ 9223372036854775807 ∧ ∀ y ∈ p, Gd_Instr y)) ?_ ?_ ?_ ?_
  ·rfl
  ·kernel_rfl
  ·exact (opens_string Tryz.underlying9)
  refine opensFs_one ?_ ?_ ?_
  ·rfl
  ·kernel_rfl
  ·exact (opens_slice zInstr Tryz.underlying267 kR opens_Instr)
 exact opens_iso (fun x : GMethod => (x.Name, x.Code)) (fun p => ⟨p.1, p.2⟩) (fun _ => rfl) h
theorem opens_Script : Opens Tryz.prog 125 jB Gd_Script := by
 have h : Opens Tryz.prog 125 (Kn.pair Kn.string (Kn.slice 269 gH)) (fun p : ByteArray × List GMethod => (fun q : ByteArray => q.size ≤ 9223372036854775807) p.1 ∧ (fun p : List GMethod => (p.length ≤ 9223372036854775807 ∧ ∀ y ∈ p, Gd_Method y)) p.2) := by
  refine opens_struct Tryz.underlying125 kR ?_
  refine iL (G := fun q : ByteArray => q.size ≤ 9223372036854775807) (G' := fun p : List GMethod => (p.length ≤ 9223372036854775807 ∧ ∀ y ∈ p, Gd_Method y)) ?_ ?_ ?_ ?_
  ·rfl
  ·kernel_rfl
  ·exact (opens_string Tryz.underlying9)
  refine opensFs_one ?_ ?_ ?_
  ·rfl
  ·kernel_rfl
  ·exact (opens_slice zMethod Tryz.underlying123 kR opens_Method)
 exact opens_iso (fun x : GScript => (x.Name, x.Methods)) (fun p => ⟨p.1, p.2⟩) (fun _ => rfl) h
end Go.Proofs.YtfnedoiplblldaaGreatK
