/- What the row needs, packed. No conditions beyond those that each law names. -/
import Derived.Test.YtdfipdpeilegpaaZfv2
import Derived.Test.YtdfipdpeilegpaaProg
import Derived.Test.YtdfipdpeilegpaaZfv1
import Derived.Laws.StructEq
namespace Go.Proofs.YtdfipdpeilegpaaFam
open Go.ChangeShapes Go.WideShapes Go.RowKit Go.Proofs.YtdfipdpeilegpaaSep Go.Proofs.YtdfipdpeilegpaaT Go.Proofs.YtdfipdpeilegpaaK
set_option linter.unusedVariables false
set_option linter.unusedSimpArgs false
attribute [local irreducible] wpOps wpOp
set_option maxHeartbeats 4000000
set_option maxRecDepth 100000
def objE (s : Int) (sl : List GValue) : GEntity := ⟨1, s, sl, 0, ⟨0, 0⟩, [], [], 0, 0, 0, 0⟩
def fG (ps : List Int) (i : Nat) : List GLink := (ps.take i).map (fun p => pxV 0 (zL p))
def fH (sc : Int) (ps : List Int) (i : Nat) : List GEntity := objE sc [] :: (ps.take i).map (fun p => prE p 1)
def nvV (id : Int) (ps : List Int) (sc : Int) : GVat := ⟨id, fH sc ps ps.length, [], fG ps ps.length, []⟩
theorem nvLs_len (ps : List Int) (i : Nat) (h : i ≤ ps.length) : (fG ps i).length = i := by unfold fG; rw [List.length_map, List.length_take, Nat.min_eq_left h]
theorem lD (sc : Int) (ps : List Int) (i : Nat) (h : i ≤ ps.length) : (fH sc ps i).length = i + 1 := by unfold fH; rw [List.length_cons, List.length_map, List.length_take, Nat.min_eq_left h]
theorem nvLs_succ (ps : List Int) (i : Nat) (h : i < ps.length) : fG ps i ++ [pxV 0 (zL ps[i])] = fG ps (i + 1) := by
 unfold fG
 rw [List.take_succ_eq_append_getElem h, List.map_append]
 rfl
theorem nvEs_succ (sc : Int) (ps : List Int) (i : Nat) (h : i < ps.length) : fH sc ps i ++ [prE ps[i] 1] = fH sc ps (i + 1) := by
 unfold fH
 rw [List.take_succ_eq_append_getElem h, List.map_append]
 rfl
theorem newObject_s (s : Int) (sl : List GValue) (A : Option Addr) (c : Nat) (w : World) (hC : C aP w A sl) (hsl : sl.length ≤ 4194304) : Calls Try.prog 121 #[.int .i64 s, .slice A sl.length c] w (iP aL (objE s sl) w) := by
 refine enter 10 [(0, .int .i64 (s)), (1, .slice A sl.length c)] Try.func121 rfl kR ?_
 intro xj
 have H1 : St w No [] w := St.enter
 refine wp_seq ?_
 refine aN [0] rfl ?_
 refine aA ?_
 refine bP rfl Try.zeroValue77 rfl rfl H1 ?_
 intro g_0_0 W2 hu3 Ha4; clear H1; clear hu3
 refine aI ?_
 refine aK ?_
 refine wp_seq ?_
 refine aN [0, 1, 2, 3, 4, 5] rfl ?_
 refine aA ?_
 refine aB rfl (aF rfl) rfl rfl ?_
 refine aA ?_
 refine op_slice0 (dk := aP) rfl Try.runUnderlying74 Try.sizeOf70 rfl rfl Ha4 ?_
 intro A_1_1 W6 hu7 Ha8; clear Ha4; clear hu7
 refine aA ?_
 refine aB rfl (aF rfl) rfl rfl ?_
 refine aA ?_
 refine op_appendN' (xs := []) (ys := sl) (n' := sl.length) (zs := sl) rfl Try.underlying74 iN rfl kD kD flat_Value rfl rfl (cZ Ha8.1 hC) (by simp; omega) (by simp) (List.nil_append _) rfl rfl Ha8 ?_
 intro B_1_3 c_1_3 W10 Ha11; clear Ha8
 refine aA ?_
 refine aB rfl (dS (vs := [(0, .int .i64 (1)), (1, .int .i64 (s)), (2, .slice B_1_3 sl.length c_1_3)]) (cells := #[.int .i64 (1), .int .i64 (s), .slice B_1_3 sl.length c_1_3, .int .i64 (0), .int .i64 (0), .int .i64 (0), .slice none 0 0, .slice none 0 0, .int .i64 (0), .int .i64 (0), .int .i64 (0), .int .i64 (0)]) rfl kR) rfl rfl ?_
 refine aA ?_
 have H16 : St w No [hB g_0_0 77 #[.int .i64 (0), .int .i64 (0), .slice none 0 0, .int .i64 (0), .int .i64 (0), .int .i64 (0), .slice none 0 0, .slice none 0 0, .int .i64 (0), .int .i64 (0), .int .i64 (0), .int .i64 (0)], hR aP 70 (.slice B_1_3 sl.length c_1_3) sl] W10 := Ha11.pick [1, 0] kD rfl; clear Ha11
 refine bG rfl Try.sizeOf77 rfl rfl rfl rfl kS H16 ?_
 intro W13 hu14 Ha15; clear H16; clear hu14
 refine aI ?_
 refine aK ?_
 refine wp_ret ?_
 refine dI (.inl rfl) Try.results121 Try.isAgg77 Try.sizeOf77 rfl (Ha15.blk 0 rfl) rfl ?_
 have H18 : St w No [hR aH 181 (.slice none 0 0) ([]), hB g_0_0 77 #[.int .i64 (1), .int .i64 (s), .slice B_1_3 sl.length c_1_3, .int .i64 (0), .int .i64 (0), .int .i64 (0), .slice none 0 0, .slice none 0 0, .int .i64 (0), .int .i64 (0), .int .i64 (0), .int .i64 (0)], hR aP 70 (.slice B_1_3 sl.length c_1_3) sl] W13 := Ha15.add0 (q := hR aH 181 (.slice none 0 0) []) gI; clear Ha15
 have H19 : St w No [hR aQ 155 (.slice none 0 0) ([]), hR aH 181 (.slice none 0 0) ([]), hB g_0_0 77 #[.int .i64 (1), .int .i64 (s), .slice B_1_3 sl.length c_1_3, .int .i64 (0), .int .i64 (0), .int .i64 (0), .slice none 0 0, .slice none 0 0, .int .i64 (0), .int .i64 (0), .int .i64 (0), .int .i64 (0)], hR aP 70 (.slice B_1_3 sl.length c_1_3) sl] W13 := H18.add0 (q := hR aQ 155 (.slice none 0 0) []) gI; clear H18
 have H20 : St w No [hR aP 70 (.slice B_1_3 sl.length c_1_3) sl, hR aH 181 (.slice none 0 0) ([]), hR aQ 155 (.slice none 0 0) ([]), hB g_0_0 77 #[.int .i64 (1), .int .i64 (s), .slice B_1_3 sl.length c_1_3, .int .i64 (0), .int .i64 (0), .int .i64 (0), .slice none 0 0, .slice none 0 0, .int .i64 (0), .int .i64 (0), .int .i64 (0), .int .i64 (0)]] W13 := H19.pick [3, 1, 0, 2] kD rfl; clear H19
 have H21 : St w No [hM aL (objE s sl) [.int .i64 (1), .int .i64 (s), .slice B_1_3 sl.length c_1_3, .int .i64 (0), .int .i64 (0), .int .i64 (0), .slice none 0 0, .slice none 0 0, .int .i64 (0), .int .i64 (0), .int .i64 (0), .int .i64 (0)], hB g_0_0 77 #[.int .i64 (1), .int .i64 (s), .slice B_1_3 sl.length c_1_3, .int .i64 (0), .int .i64 (0), .int .i64 (0), .slice none 0 0, .slice none 0 0, .int .i64 (0), .int .i64 (0), .int .i64 (0), .int .i64 (0)]] W13 := H20.swap (l0 := [hR aP 70 (.slice B_1_3 sl.length c_1_3) sl, hR aH 181 (.slice none 0 0) ([]), hR aQ 155 (.slice none 0 0) ([])]) (l' := [hM aL (objE s sl) [.int .i64 (1), .int .i64 (s), .slice B_1_3 sl.length c_1_3, .int .i64 (0), .int .i64 (0), .int .i64 (0), .slice none 0 0, .slice none 0 0, .int .i64 (0), .int .i64 (0), .int .i64 (0), .int .i64 (0)]]) (fun _ h => Star.one (gD (x := (objE s sl)) h)); clear H20
 have hq := (H21.pick [0] kD rfl : St w No [hM aL (objE s sl) [.int .i64 (1), .int .i64 (s), .slice B_1_3 sl.length c_1_3, .int .i64 (0), .int .i64 (0), .int .i64 (0), .slice none 0 0, .slice none 0 0, .int .i64 (0), .int .i64 (0), .int .i64 (0), .int .i64 (0)]] W13).fin1
 exact ⟨_, rfl, hq.1, hq.2⟩
theorem newObject_i (s : Int) (sl : List GValue) (A : Option Addr) (c : Nat) (w : World) (hC : C aP w A sl) (hsl : sl.length ≤ 4194304) : Calls Try.prog 89 #[.int .i64 s, .slice A sl.length c] w (iP aL (objE s sl) w) := by
 refine enter 9 [(0, .int .i64 (s)), (1, .slice A sl.length c)] Try.func89 rfl kR ?_
 intro xj
 have H1 : St w No [] w := St.enter
 refine wp_seq ?_
 refine aN [0] rfl ?_
 refine aA ?_
 refine bP rfl Try.zeroValue77 rfl rfl H1 ?_
 intro g_0_0 W2 hu3 Ha4; clear H1; clear hu3
 refine aI ?_
 refine aK ?_
 refine wp_seq ?_
 refine aN [0, 1, 2, 3, 4] rfl ?_
 refine aA ?_
 refine aB rfl (aF rfl) rfl rfl ?_
 refine aA ?_
 refine aB rfl (aF rfl) rfl rfl ?_
 refine aA ?_
 refine bC rfl Try.call133 (vs := #[.slice A sl.length c]) rfl rfl rfl (clone_Value sl _ _ _ (cZ Ha4.1 hC) hsl) ?_
 rintro e10 W9 ⟨v6, rfl, hR7, hu8⟩; refine ⟨_, rfl, ?_⟩
 obtain ⟨B_1_2, c_1_2, rfl⟩ := eZ hR7
 have H11 := Ha4.new (q := hR aP 70 (.slice B_1_2 sl.length c_1_2) sl) hu8 hR7; clear Ha4
 refine aA ?_
 refine aB rfl (dS (vs := [(0, .int .i64 (1)), (1, .int .i64 (s)), (2, .slice B_1_2 sl.length c_1_2)]) (cells := #[.int .i64 (1), .int .i64 (s), .slice B_1_2 sl.length c_1_2, .int .i64 (0), .int .i64 (0), .int .i64 (0), .slice none 0 0, .slice none 0 0, .int .i64 (0), .int .i64 (0), .int .i64 (0), .int .i64 (0)]) rfl kR) rfl rfl ?_
 refine aA ?_
 have H15 : St w No [hB g_0_0 77 #[.int .i64 (0), .int .i64 (0), .slice none 0 0, .int .i64 (0), .int .i64 (0), .int .i64 (0), .slice none 0 0, .slice none 0 0, .int .i64 (0), .int .i64 (0), .int .i64 (0), .int .i64 (0)], hR aP 70 (.slice B_1_2 sl.length c_1_2) sl] W9 := H11.pick [1, 0] kD rfl; clear H11
 refine bG rfl Try.sizeOf77 rfl rfl rfl rfl kS H15 ?_
 intro W12 hu13 Ha14; clear H15; clear hu13
 refine aI ?_
 refine aK ?_
 refine wp_ret ?_
 refine dI (.inl rfl) Try.results89 Try.isAgg77 Try.sizeOf77 rfl (Ha14.blk 0 rfl) rfl ?_
 have H17 : St w No [hR aH 181 (.slice none 0 0) ([]), hB g_0_0 77 #[.int .i64 (1), .int .i64 (s), .slice B_1_2 sl.length c_1_2, .int .i64 (0), .int .i64 (0), .int .i64 (0), .slice none 0 0, .slice none 0 0, .int .i64 (0), .int .i64 (0), .int .i64 (0), .int .i64 (0)], hR aP 70 (.slice B_1_2 sl.length c_1_2) sl] W12 := Ha14.add0 (q := hR aH 181 (.slice none 0 0) []) gI; clear Ha14
 have H18 : St w No [hR aQ 155 (.slice none 0 0) ([]), hR aH 181 (.slice none 0 0) ([]), hB g_0_0 77 #[.int .i64 (1), .int .i64 (s), .slice B_1_2 sl.length c_1_2, .int .i64 (0), .int .i64 (0), .int .i64 (0), .slice none 0 0, .slice none 0 0, .int .i64 (0), .int .i64 (0), .int .i64 (0), .int .i64 (0)], hR aP 70 (.slice B_1_2 sl.length c_1_2) sl] W12 := H17.add0 (q := hR aQ 155 (.slice none 0 0) []) gI; clear H17
 have H19 : St w No [hR aP 70 (.slice B_1_2 sl.length c_1_2) sl, hR aH 181 (.slice none 0 0) ([]), hR aQ 155 (.slice none 0 0) ([]), hB g_0_0 77 #[.int .i64 (1), .int .i64 (s), .slice B_1_2 sl.length c_1_2, .int .i64 (0), .int .i64 (0), .int .i64 (0), .slice none 0 0, .slice none 0 0, .int .i64 (0), .int .i64 (0), .int .i64 (0), .int .i64 (0)]] W12 := H18.pick [3, 1, 0, 2] kD rfl; clear H18
 have H20 : St w No [hM aL (objE s sl) [.int .i64 (1), .int .i64 (s), .slice B_1_2 sl.length c_1_2, .int .i64 (0), .int .i64 (0), .int .i64 (0), .slice none 0 0, .slice none 0 0, .int .i64 (0), .int .i64 (0), .int .i64 (0), .int .i64 (0)], hB g_0_0 77 #[.int .i64 (1), .int .i64 (s), .slice B_1_2 sl.length c_1_2, .int .i64 (0), .int .i64 (0), .int .i64 (0), .slice none 0 0, .slice none 0 0, .int .i64 (0), .int .i64 (0), .int .i64 (0), .int .i64 (0)]] W12 := H19.swap (l0 := [hR aP 70 (.slice B_1_2 sl.length c_1_2) sl, hR aH 181 (.slice none 0 0) ([]), hR aQ 155 (.slice none 0 0) ([])]) (l' := [hM aL (objE s sl) [.int .i64 (1), .int .i64 (s), .slice B_1_2 sl.length c_1_2, .int .i64 (0), .int .i64 (0), .int .i64 (0), .slice none 0 0, .slice none 0 0, .int .i64 (0), .int .i64 (0), .int .i64 (0), .int .i64 (0)]]) (fun _ h => Star.one (gD (x := (objE s sl)) h)); clear H19
 have hq := (H20.pick [0] kD rfl : St w No [hM aL (objE s sl) [.int .i64 (1), .int .i64 (s), .slice B_1_2 sl.length c_1_2, .int .i64 (0), .int .i64 (0), .int .i64 (0), .slice none 0 0, .slice none 0 0, .int .i64 (0), .int .i64 (0), .int .i64 (0), .int .i64 (0)]] W12).fin1
 exact ⟨_, rfl, hq.1, hq.2⟩
theorem newVat_s (id : Int) (ps : List Int) (sc : Int) (A : Option Addr) (c : Nat) (w : World) (hC : C Kn.int w A ps) (hn : ps.length ≤ 1048576) : Calls Try.prog 120 #[.int .i64 id, .slice A ps.length c, .int .i64 sc] w (iP bK (nvV id ps sc) w) := by
 refine enter 49 [(0, .int .i64 (id)), (1, .slice A ps.length c), (2, .int .i64 (sc))] Try.func120 rfl kR ?_
 intro xj
 have H1 : St w No [] w := St.enter
 refine wp_seq ?_
 refine aN [0] rfl ?_
 refine aA ?_
 refine bP rfl Try.zeroValue69 rfl rfl H1 ?_
 intro g_0_0 W2 hu3 Ha4; clear H1; clear hu3
 refine aI ?_
 refine aK ?_
 refine wp_seq ?_
 refine aN [0, 1, 2, 3, 4, 5, 6, 7] rfl ?_
 refine aA ?_
 refine aB rfl (aF rfl) rfl rfl ?_
 refine aA ?_
 refine aB rfl (aF rfl) rfl rfl ?_
 refine aA ?_
 refine op_slice0 (dk := aP) rfl Try.runUnderlying74 Try.sizeOf70 rfl rfl Ha4 ?_
 intro A_1_2 W6 hu7 Ha8; clear Ha4; clear hu7
 refine aA ?_
 refine bC rfl Try.call121 (vs := #[.int .i64 (sc), .slice A_1_2 0 0]) rfl rfl rfl (newObject_s sc ([]) _ _ _ (Ha8.fU 0 rfl) (by simp)) ?_
 rintro e13 W12 ⟨cs_1_3, rfl, hM10, hu11⟩; refine ⟨_, rfl, ?_⟩
 have hl14 := cO (aL.gN hM10)
 have ho15 := fF (aL.gN hM10)
 have H16 := Ha8.new (q := hM aL (objE sc ([])) cs_1_3) hu11 hM10; clear Ha8
 refine aA ?_
 refine dD rfl Try.runUnderlying64 Try.sizeOf77 kD Try.zeroValue77 rfl (cO (H16.kn 0 rfl)) rfl rfl H16 ?_
 intro g_1_4 W17 hu18 Ha19; clear H16; clear hu18
 have H21 : St w No [hR aL 77 (.slice (some ⟨g_1_4, 0, none⟩) 1 1) ([(objE sc [])]), hR aP 70 (.slice A_1_2 0 0) ([]), hB g_0_0 69 #[.int .i64 (0), .slice none 0 0, .slice none 0 0, .slice none 0 0, .slice none 0 0]] W17 := Ha19.iG (cO (Ha19.kn 1 rfl)); clear Ha19
 refine aA ?_
 refine aB rfl (dS (vs := [(0, .int .i64 (id)), (1, .slice (some ⟨g_1_4, 0, none⟩) 1 1)]) (cells := #[.int .i64 (id), .slice (some ⟨g_1_4, 0, none⟩) 1 1, .slice none 0 0, .slice none 0 0, .slice none 0 0]) rfl kR) rfl rfl ?_
 refine aA ?_
 refine bP rfl Try.zeroValue69 rfl rfl H21 ?_
 intro g_1_6 W22 hu23 Ha24; clear H21; clear hu23
 refine aA ?_
 refine bG rfl Try.sizeOf69 rfl rfl rfl rfl kS Ha24 ?_
 intro W26 hu27 Ha28; clear Ha24; clear hu27
 refine aI ?_
 refine aK ?_
 refine wp_seq ?_
 refine wp_seq ?_
 refine aN [0] rfl ?_
 refine aA ?_
 refine aB rfl (aR rfl) rfl rfl ?_
 refine aI ?_
 refine aK ?_
 refine wp_block ?_
 have H30 : St w No [hR aW 138 (.slice none 0 0) ([]), hB g_1_6 69 #[.int .i64 (id), .slice (some ⟨g_1_4, 0, none⟩) 1 1, .slice none 0 0, .slice none 0 0, .slice none 0 0], hR aL 77 (.slice (some ⟨g_1_4, 0, none⟩) 1 1) ([(objE sc [])]), hR aP 70 (.slice A_1_2 0 0) ([]), hB g_0_0 69 #[.int .i64 (0), .slice none 0 0, .slice none 0 0, .slice none 0 0, .slice none 0 0]] W26 := Ha28.add0 (q := hR aW 138 (.slice none 0 0) []) gI; clear Ha28
 refine wp_loop_ghost (fun r a' W' => ∃ (i1 : Nat) (AL : Option Addr) (cL : Nat) (AE : Option Addr) (cE : Nat) (x' : Nat → Value), a' = bH 49 x' [(1, .slice A ps.length c), (6, .pointer (some ⟨g_0_0, 0, none⟩)), (7, .pointer (some ⟨g_1_6, 0, none⟩)), (8, .int .i64 (((i1 : Nat) : Int)))] ∧ (i1 + r = ps.length) ∧ St w No [hR aW 138 (.slice AL ((fG ps i1).length) cL) (fG ps i1), hB g_1_6 69 #[.int .i64 (id), .slice AE ((fH sc ps i1).length) cE, .slice none 0 0, .slice AL ((fG ps i1).length) cL, .slice none 0 0], hR aL 77 (.slice AE ((fH sc ps i1).length) cE) (fH sc ps i1), hB g_0_0 69 #[.int .i64 (0), .slice none 0 0, .slice none 0 0, .slice none 0 0, .slice none 0 0]] W') ps.length ?_ ?_
 ·exact (aZ [(1, .slice A ps.length c), (6, .pointer (some ⟨g_0_0, 0, none⟩)), (7, .pointer (some ⟨g_1_6, 0, none⟩)), (8, .int .i64 (((0 : Nat) : Int)))] rfl).elim fun x' hx => ⟨0, none, 0, (some ⟨g_1_4, 0, none⟩), 1, x', hx, kO, H30.pick [0, 1, 2, 4] kD rfl⟩
 ·rintro r31 _ W32 ⟨i1, AL, cL, AE, cE, x33, rfl, hi1, H34⟩; clear H30
  refine wp_seq ?_
  refine wp_seq ?_
  refine aN [0, 1, 2, 3] rfl ?_
  refine aA ?_
  refine aB rfl (aF rfl) rfl rfl ?_
  refine aA ?_
  refine aB rfl (aF rfl) rfl rfl ?_
  refine aA ?_
  refine aB rfl (dP Try.runUnderlying82 rfl) rfl rfl ?_
  refine aA ?_
  refine aB rfl (gB rfl rfl) rfl rfl ?_
  refine aI ?_
  refine aK ?_
  refine dB rfl (fun hc35 => ?_) (fun hc35 => ?_)
  ·have hlt1 : i1 < ps.length := by omega
   obtain ⟨ade36, cse36, hAe36, hKe36, hce36⟩ := fT hC i1 hlt1
   obtain rfl : cse36 = [.int .i64 ps[i1]] := hKe36
   refine wp_skip ?_
   refine aK ?_
   refine wp_seq ?_
   refine wp_block ?_
   refine wp_seq ?_
   refine aN [0, 1, 2, 3, 4, 5, 6, 7, 8, 9, 10, 11] rfl ?_
   refine aA ?_
   refine aB rfl (aF rfl) rfl rfl ?_
   refine aA ?_
   refine aB rfl (aF rfl) rfl rfl ?_
   refine aA ?_
   refine aB rfl (bQ (k := i1) Try.runUnderlying82 Try.sizeOf3 rfl rfl hAe36 hlt1) rfl rfl ?_
   refine aA ?_
   refine aB rfl (iQ (v := .int .i64 (ps[i1])) Try.isAgg3 rfl (Cat.cell0 (Cat.upd hce36 H34.1) rfl)) rfl rfl ?_
   refine aA ?_
   refine bC rfl Try.call153 (vs := #[.int .i64 (ps[i1])]) rfl rfl rfl (newLink_s (ps[i1]) _) ?_
   rintro e40 W39 ⟨cs_5_4, rfl, hM37, hu38⟩; refine ⟨_, rfl, ?_⟩
   have hl41 := gP (aW.gN hM37)
   have ho42 := iW (aW.gN hM37)
   have H43 := H34.new (q := hM aW (zL (ps[i1])) cs_5_4) hu38 hM37; clear H34
   refine aA ?_
   refine bC rfl Try.call152 (vs := #[.agg (List.toArray cs_5_4), .int .i64 (0)]) rfl rfl rfl (putExport_s (zL (ps[i1])) 0 _ _ (H43.kn 0 rfl) (Nat.le_of_ble_eq_true rfl)) ?_
   rintro e47 W46 ⟨cs_5_5, rfl, hM44, hu45⟩; refine ⟨_, rfl, ?_⟩
   have hl48 := gP (aW.gN hM44)
   have ho49 := iW (aW.gN hM44)
   have H50 := H43.new (q := hM aW (pxV 0 (zL (ps[i1]))) cs_5_5) hu45 hM44; clear H43
   refine aA ?_
   refine aB rfl (aF rfl) rfl rfl ?_
   refine aA ?_
   refine aB rfl (dY (v := .agg (List.toArray cs_5_5)) rfl rfl) rfl rfl ?_
   refine aA ?_
   refine aB rfl (dY (v := .int .i64 ((pxN 0 (zL (ps[i1])).aV (zL (ps[i1])).Next))) rfl rfl) rfl rfl ?_
   refine aA ?_
   refine bP rfl Try.zeroValue138 rfl rfl H50 ?_
   intro g_5_9 W51 hu52 Ha53; clear H50; clear hu52
   refine aA ?_
   refine bG rfl Try.sizeOf138 rfl rfl (gP (Ha53.kn 1 rfl)) rfl (iW (Ha53.kn 1 rfl)) Ha53 ?_
   intro W55 hu56 Ha57; clear Ha53; clear hu56
   refine aA ?_
   refine aB rfl (aR rfl) rfl rfl ?_
   refine aI ?_
   refine aK ?_
   refine wp_seq ?_
   refine aN [0, 1, 2, 3, 4, 5, 6] rfl ?_
   refine aA ?_
   refine aB rfl (aU gW rfl) rfl rfl ?_
   refine aA ?_
   refine aB rfl (bB (k := 3) (v := .slice AL ((fG ps i1).length) cL) Try.isAgg66 rfl (Ha57.blk 4 rfl) rfl) rfl rfl ?_
   refine aA ?_
   refine aB rfl (bN Try.isAgg138 Try.sizeOf138 rfl (Ha57.blk 0 rfl) (gP (Ha57.kn 1 rfl))) rfl rfl ?_
   refine aA ?_
   refine dD rfl Try.runUnderlying66 Try.sizeOf138 kD Try.zeroValue138 rfl (gP (Ha57.kn 1 rfl)) rfl rfl Ha57 ?_
   intro g_6_3 W59 hu60 Ha61; clear Ha57; clear hu60
   refine aA ?_
   have H65 : St w No [hR aW 138 (.slice AL ((fG ps i1).length) cL) (fG ps i1), hB g_6_3 138 (List.toArray cs_5_5), hM aW (pxV 0 (zL (ps[i1]))) cs_5_5, hB g_5_9 138 (List.toArray cs_5_5), hM aW (zL (ps[i1])) cs_5_4, hB g_1_6 69 #[.int .i64 (id), .slice AE ((fH sc ps i1).length) cE, .slice none 0 0, .slice AL ((fG ps i1).length) cL, .slice none 0 0], hR aL 77 (.slice AE ((fH sc ps i1).length) cE) (fH sc ps i1), hB g_0_0 69 #[.int .i64 (0), .slice none 0 0, .slice none 0 0, .slice none 0 0, .slice none 0 0]] W59 := Ha61.pick [4, 0, 2, 1, 3, 5, 6, 7] kD rfl; clear Ha61
   refine gG (xs := (fG ps i1)) (p := (pxV 0 (zL ps[i1]))) (n' := (fG ps (i1 + 1)).length) (ys := (fG ps (i1 + 1))) rfl Try.underlying66 kV rfl kD kD rfl rfl (by rw [nvLs_len ps i1 kO]; omega) (by rw [nvLs_len ps i1 kO, nvLs_len ps (i1 + 1) kO]) (nvLs_succ ps i1 hlt1) rfl rfl H65 ?_
   intro B_6_4 c_6_4 W63 Ha64; clear H65
   refine aA ?_
   refine aB rfl (aU gW rfl) rfl rfl ?_
   refine aA ?_
   have H70 : St w No [hB g_1_6 69 #[.int .i64 (id), .slice AE ((fH sc ps i1).length) cE, .slice none 0 0, .slice AL ((fG ps i1).length) cL, .slice none 0 0], hR aW 138 (.slice B_6_4 ((fG ps (i1 + 1)).length) c_6_4) (fG ps (i1 + 1)), hB g_5_9 138 (List.toArray cs_5_5), hM aW (zL (ps[i1])) cs_5_4, hR aL 77 (.slice AE ((fH sc ps i1).length) cE) (fH sc ps i1), hB g_0_0 69 #[.int .i64 (0), .slice none 0 0, .slice none 0 0, .slice none 0 0, .slice none 0 0]] W63 := Ha64.pick [3, 0, 1, 2, 4, 5] kD rfl; clear Ha64
   refine bR rfl Try.sizeOf66 rfl rfl rfl (Nat.le_of_ble_eq_true rfl) (by simp [Value.cells, Value.oneCell']) H70 ?_
   intro W67 hu68 Ha69; clear H70; clear hu68
   refine aI ?_
   refine aK ?_
   refine dG (fun W' => Blk W' g_1_6 69 #[.int .i64 (id), .slice AE ((fH sc ps i1).length) cE, .slice none 0 0, .slice B_6_4 ((fG ps (i1 + 1)).length) c_6_4, .slice none 0 0] ∧ Cat W' (Addr.add ade36 (i1 * 1)) [.int .i64 ps[i1]]) 10 kR ?_
   have H72 := Ha69.drew; clear Ha69
   have hS73 : Blk W67.drew g_1_6 69 #[.int .i64 (id), .slice AE ((fH sc ps i1).length) cE, .slice none 0 0, .slice B_6_4 ((fG ps (i1 + 1)).length) c_6_4, .slice none 0 0] ∧ Cat W67.drew (Addr.add ade36 (i1 * 1)) [.int .i64 ps[i1]] := ⟨H72.blk 0 rfl, (Cat.upd hce36 H72.1)⟩
   refine aO (i := 0) rfl kR kR kR kR kR (fun _ _ _ h => h) rfl rfl hS73 (fun W' hs' => aU eD rfl) ?_
   refine aO (i := 1) rfl kR kR kR kR kR (fun _ _ _ h => h) rfl rfl hS73 (fun W' hs' => bB (k := 1) (v := .slice AE ((fH sc ps i1).length) cE) Try.isAgg64 rfl hs'.1 rfl) ?_
   refine aO (i := 2) rfl kR kR kR kR kR (fun _ _ _ h => h) rfl rfl hS73 (fun W' hs' => aF rfl) ?_
   refine aO (i := 3) rfl kR kR kR kR kR (fun _ _ _ h => h) rfl rfl hS73 (fun W' hs' => aF rfl) ?_
   refine aO (i := 4) rfl kR kR kR kR kR (fun _ _ _ h => h) rfl rfl hS73 (fun W' hs' => bQ (k := i1) Try.runUnderlying82 Try.sizeOf3 rfl rfl hAe36 hlt1) ?_
   refine aO (i := 5) rfl kR kR kR kR kR (fun _ _ _ h => h) rfl rfl hS73 (fun W' hs' => iQ (v := .int .i64 (ps[i1])) Try.isAgg3 rfl (Cat.cell0 hs'.2 rfl)) ?_
   refine bM (i := 6) kR ?_
   refine bC rfl Try.call124 (vs := #[.int .i64 (ps[i1]), .int .i64 (1)]) rfl rfl rfl (newProxy_s (ps[i1]) 1 _) ?_
   rintro e77 W76 ⟨cs_7_6, rfl, hM74, hu75⟩; refine ⟨_, rfl, ?_⟩
   have hl78 := cO (aL.gN hM74)
   have ho79 := fF (aL.gN hM74)
   have H80 := H72.new (q := hM aL (prE (ps[i1]) 1) cs_7_6) hu75 hM74; clear H72
   have hS81 := And.intro (H80.blk 1 rfl) ((Cat.upd hce36 H80.1)); refine ⟨fun _ => hS81, ?_⟩
   refine bM (i := 7) kR ?_
   refine dD rfl Try.runUnderlying64 Try.sizeOf77 kD Try.zeroValue77 rfl (cO (H80.kn 0 rfl)) rfl rfl H80 ?_
   intro g_7_7 W82 hu83 Ha84; clear H80; clear hu83
   have hS86 := And.intro (Ha84.blk 2 rfl) ((Cat.upd hce36 Ha84.1)); refine ⟨fun _ => hS86, ?_⟩
   refine bM (i := 8) kR ?_
   have H89 : St w No [hR aL 77 (.slice AE ((fH sc ps i1).length) cE) (fH sc ps i1), hB g_7_7 77 (List.toArray cs_7_6), hM aL (prE (ps[i1]) 1) cs_7_6, hB g_1_6 69 #[.int .i64 (id), .slice AE ((fH sc ps i1).length) cE, .slice none 0 0, .slice B_6_4 ((fG ps (i1 + 1)).length) c_6_4, .slice none 0 0], hR aW 138 (.slice B_6_4 ((fG ps (i1 + 1)).length) c_6_4) (fG ps (i1 + 1)), hB g_5_9 138 (List.toArray cs_5_5), hM aW (zL (ps[i1])) cs_5_4, hB g_0_0 69 #[.int .i64 (0), .slice none 0 0, .slice none 0 0, .slice none 0 0, .slice none 0 0]] W82 := Ha84.pick [6, 0, 1, 2, 3, 4, 5, 7] kD rfl; clear Ha84
   refine gG (xs := (fH sc ps i1)) (p := (prE ps[i1] 1)) (n' := (fH sc ps (i1 + 1)).length) (ys := (fH sc ps (i1 + 1))) rfl Try.underlying64 gY rfl kD kD rfl rfl (by rw [lD sc ps i1 kO]; omega) (by rw [lD sc ps i1 kO, lD sc ps (i1 + 1) kO]) (nvEs_succ sc ps i1 hlt1) rfl rfl H89 ?_
   intro B_7_8 c_7_8 W87 Ha88; clear H89
   have hS91 := And.intro (Ha88.blk 1 rfl) ((Cat.upd hce36 Ha88.1)); refine ⟨fun _ => hS91, ?_⟩
   refine aO (i := 9) rfl kR kR kR kR kR (fun _ _ _ h => h) rfl rfl hS91 (fun W' hs' => aU eD rfl) ?_
   refine bM (i := 10) kR ?_
   have H95 : St w No [hB g_1_6 69 #[.int .i64 (id), .slice AE ((fH sc ps i1).length) cE, .slice none 0 0, .slice B_6_4 ((fG ps (i1 + 1)).length) c_6_4, .slice none 0 0], hR aL 77 (.slice B_7_8 ((fH sc ps (i1 + 1)).length) c_7_8) (fH sc ps (i1 + 1)), hR aW 138 (.slice B_6_4 ((fG ps (i1 + 1)).length) c_6_4) (fG ps (i1 + 1)), hB g_5_9 138 (List.toArray cs_5_5), hM aW (zL (ps[i1])) cs_5_4, hB g_0_0 69 #[.int .i64 (0), .slice none 0 0, .slice none 0 0, .slice none 0 0, .slice none 0 0]] W87 := Ha88.pick [1, 0, 2, 3, 4, 5] kD rfl; clear Ha88
   refine bR rfl Try.sizeOf64 rfl rfl rfl (Nat.le_of_ble_eq_true rfl) (by simp [Value.cells, Value.oneCell']) H95 ?_
   intro W92 hu93 Ha94; clear H95; clear hu93
   refine ⟨fun h => absS kR h, ?_⟩
   refine cB kR ?_ _
   refine eP ?_
   refine aK ?_
   refine aN [0, 1, 2] rfl ?_
   refine aA ?_
   refine aB rfl (aF rfl) rfl rfl ?_
   refine aA ?_
   refine aB rfl (gT (k := i1) rfl rfl kO) rfl rfl ?_
   refine aA ?_
   refine aB rfl (aR rfl) rfl rfl ?_
   refine aI ?_
   refine aK ?_
   exact (aZ [(1, .slice A ps.length c), (6, .pointer (some ⟨g_0_0, 0, none⟩)), (7, .pointer (some ⟨g_1_6, 0, none⟩)), (8, .int .i64 (((i1 + 1 : Nat) : Int)))] rfl).elim fun x' hx => ⟨r31 - 1, kO, (i1 + 1), B_6_4, c_6_4, B_7_8, c_7_8, x', hx, kO, Ha94.pick [2, 0, 1, 5] kD rfl⟩
  ·obtain rfl : i1 = ps.length := by omega
   refine wp_exit ?_
   refine dX ?_
   refine dX ?_
   refine iH ?_
   refine aK ?_
   refine wp_seq ?_
   refine aN [0, 1] rfl ?_
   refine aA ?_
   refine aB rfl (bN Try.isAgg69 Try.sizeOf69 rfl (H34.blk 1 rfl) rfl) rfl rfl ?_
   refine aA ?_
   have H100 : St w No [hB g_0_0 69 #[.int .i64 (0), .slice none 0 0, .slice none 0 0, .slice none 0 0, .slice none 0 0], hR aW 138 (.slice AL ((fG ps ps.length).length) cL) (fG ps ps.length), hB g_1_6 69 #[.int .i64 (id), .slice AE ((fH sc ps ps.length).length) cE, .slice none 0 0, .slice AL ((fG ps ps.length).length) cL, .slice none 0 0], hR aL 77 (.slice AE ((fH sc ps ps.length).length) cE) (fH sc ps ps.length)] W32 := H34.pick [3, 0, 1, 2] kD rfl; clear H34
   refine bG rfl Try.sizeOf69 rfl rfl rfl rfl kS H100 ?_
   intro W97 hu98 Ha99; clear H100; clear hu98
   refine aI ?_
   refine aK ?_
   refine wp_ret ?_
   have H102 : St w No [hR aH 181 (.slice none 0 0) ([]), hB g_0_0 69 #[.int .i64 (id), .slice AE ((fH sc ps ps.length).length) cE, .slice none 0 0, .slice AL ((fG ps ps.length).length) cL, .slice none 0 0], hR aW 138 (.slice AL ((fG ps ps.length).length) cL) (fG ps ps.length), hB g_1_6 69 #[.int .i64 (id), .slice AE ((fH sc ps ps.length).length) cE, .slice none 0 0, .slice AL ((fG ps ps.length).length) cL, .slice none 0 0], hR aL 77 (.slice AE ((fH sc ps ps.length).length) cE) (fH sc ps ps.length)] W97 := Ha99.add0 (q := hR aH 181 (.slice none 0 0) []) gI; clear Ha99
   have H103 : St w No [hR aS 150 (.slice none 0 0) ([]), hR aH 181 (.slice none 0 0) ([]), hB g_0_0 69 #[.int .i64 (id), .slice AE ((fH sc ps ps.length).length) cE, .slice none 0 0, .slice AL ((fG ps ps.length).length) cL, .slice none 0 0], hR aW 138 (.slice AL ((fG ps ps.length).length) cL) (fG ps ps.length), hB g_1_6 69 #[.int .i64 (id), .slice AE ((fH sc ps ps.length).length) cE, .slice none 0 0, .slice AL ((fG ps ps.length).length) cL, .slice none 0 0], hR aL 77 (.slice AE ((fH sc ps ps.length).length) cE) (fH sc ps ps.length)] W97 := H102.add0 (q := hR aS 150 (.slice none 0 0) []) gI; clear H102
   refine dI (.inl rfl) Try.results120 Try.isAgg69 Try.sizeOf69 rfl (H103.blk 2 rfl) rfl ?_
   exact ⟨_, rfl, gM (x := (nvV id ps sc)) (H103.pick [5, 1, 3, 0] kD rfl).star, H103.1⟩
theorem newVat_i (id : Int) (ps : List Int) (sc : Int) (A : Option Addr) (c : Nat) (w : World) (hC : C Kn.int w A ps) (hn : ps.length ≤ 1048576) : Calls Try.prog 37 #[.int .i64 id, .slice A ps.length c, .int .i64 sc] w (iP bK (nvV id ps sc) w) := by
 refine enter 40 [(0, .int .i64 (id)), (1, .slice A ps.length c), (2, .int .i64 (sc))] Try.func37 rfl kR ?_
 intro xj
 have H1 : St w No [] w := St.enter
 refine wp_seq ?_
 refine aN [0] rfl ?_
 refine aA ?_
 refine bP rfl Try.zeroValue69 rfl rfl H1 ?_
 intro g_0_0 W2 hu3 Ha4; clear H1; clear hu3
 refine aI ?_
 refine aK ?_
 refine wp_seq ?_
 refine aN [0, 1, 2, 3, 4, 5, 6] rfl ?_
 refine aA ?_
 refine aB rfl (aF rfl) rfl rfl ?_
 refine aA ?_
 refine aB rfl (aF rfl) rfl rfl ?_
 refine aA ?_
 refine bC rfl Try.call89 (vs := #[.int .i64 (sc), .slice none 0 0]) rfl rfl rfl (newObject_i sc ([]) _ _ _ C_nil (by simp)) ?_
 rintro e9 W8 ⟨cs_1_2, rfl, hM6, hu7⟩; refine ⟨_, rfl, ?_⟩
 have hl10 := cO (aL.gN hM6)
 have ho11 := fF (aL.gN hM6)
 have H12 := Ha4.new (q := hM aL (objE sc ([])) cs_1_2) hu7 hM6; clear Ha4
 refine aA ?_
 refine dD rfl Try.runUnderlying64 Try.sizeOf77 kD Try.zeroValue77 rfl (cO (H12.kn 0 rfl)) rfl rfl H12 ?_
 intro g_1_3 W13 hu14 Ha15; clear H12; clear hu14
 have H17 : St w No [hR aL 77 (.slice (some ⟨g_1_3, 0, none⟩) 1 1) ([(objE sc [])]), hB g_0_0 69 #[.int .i64 (0), .slice none 0 0, .slice none 0 0, .slice none 0 0, .slice none 0 0]] W13 := Ha15.iG (cO (Ha15.kn 1 rfl)); clear Ha15
 refine aA ?_
 refine aB rfl (dS (vs := [(0, .int .i64 (id)), (1, .slice (some ⟨g_1_3, 0, none⟩) 1 1)]) (cells := #[.int .i64 (id), .slice (some ⟨g_1_3, 0, none⟩) 1 1, .slice none 0 0, .slice none 0 0, .slice none 0 0]) rfl kR) rfl rfl ?_
 refine aA ?_
 refine bP rfl Try.zeroValue69 rfl rfl H17 ?_
 intro g_1_5 W18 hu19 Ha20; clear H17; clear hu19
 refine aA ?_
 refine bG rfl Try.sizeOf69 rfl rfl rfl rfl kS Ha20 ?_
 intro W22 hu23 Ha24; clear Ha20; clear hu23
 refine aI ?_
 refine aK ?_
 refine wp_seq ?_
 refine wp_seq ?_
 refine aN [0, 1, 2] rfl ?_
 refine aA ?_
 refine aB rfl (aF rfl) rfl rfl ?_
 refine aA ?_
 refine aB rfl (dP Try.runUnderlying82 rfl) rfl rfl ?_
 refine aA ?_
 refine aB rfl (aF rfl) rfl rfl ?_
 refine aI ?_
 refine aK ?_
 refine wp_block ?_
 have H26 : St w No [hR aW 138 (.slice none 0 0) ([]), hB g_1_5 69 #[.int .i64 (id), .slice (some ⟨g_1_3, 0, none⟩) 1 1, .slice none 0 0, .slice none 0 0, .slice none 0 0], hR aL 77 (.slice (some ⟨g_1_3, 0, none⟩) 1 1) ([(objE sc [])]), hB g_0_0 69 #[.int .i64 (0), .slice none 0 0, .slice none 0 0, .slice none 0 0, .slice none 0 0]] W22 := Ha24.add0 (q := hR aW 138 (.slice none 0 0) []) gI; clear Ha24
 refine wp_loop_ghost (fun r a' W' => ∃ (i1 : Nat) (AL : Option Addr) (cL : Nat) (AE : Option Addr) (cE : Nat) (x' : Nat → Value), a' = bH 40 x' [(6, .pointer (some ⟨g_0_0, 0, none⟩)), (7, .pointer (some ⟨g_1_5, 0, none⟩)), (16, .slice A ps.length c), (17, .int .i64 ((ps.length : Nat))), (18, .int .i64 (((i1 : Nat) : Int)))] ∧ (i1 + r = ps.length) ∧ St w No [hR aW 138 (.slice AL ((fG ps i1).length) cL) (fG ps i1), hB g_1_5 69 #[.int .i64 (id), .slice AE ((fH sc ps i1).length) cE, .slice none 0 0, .slice AL ((fG ps i1).length) cL, .slice none 0 0], hR aL 77 (.slice AE ((fH sc ps i1).length) cE) (fH sc ps i1), hB g_0_0 69 #[.int .i64 (0), .slice none 0 0, .slice none 0 0, .slice none 0 0, .slice none 0 0]] W') ps.length ?_ ?_
 ·exact (aZ [(6, .pointer (some ⟨g_0_0, 0, none⟩)), (7, .pointer (some ⟨g_1_5, 0, none⟩)), (16, .slice A ps.length c), (17, .int .i64 ((ps.length : Nat))), (18, .int .i64 (((0 : Nat) : Int)))] rfl).elim fun x' hx => ⟨0, none, 0, (some ⟨g_1_3, 0, none⟩), 1, x', hx, kO, H26⟩
 ·rintro r27 _ W28 ⟨i1, AL, cL, AE, cE, x29, rfl, hi1, H30⟩; clear H26
  refine wp_seq ?_
  refine aN [0] rfl ?_
  refine aA ?_
  refine aB rfl (gB rfl rfl) rfl rfl ?_
  refine aI ?_
  refine aK ?_
  refine wp_seq ?_
  refine dB rfl (fun hc31 => ?_) (fun hc31 => ?_)
  ·have hlt1 : i1 < ps.length := by omega
   obtain ⟨ade32, cse32, hAe32, hKe32, hce32⟩ := fT hC i1 hlt1
   obtain rfl : cse32 = [.int .i64 ps[i1]] := hKe32
   refine wp_skip ?_
   refine aK ?_
   refine wp_seq ?_
   refine wp_block ?_
   refine wp_seq ?_
   refine aN [0, 1, 2] rfl ?_
   refine aA ?_
   refine aB rfl (bQ (k := i1) Try.runUnderlying82 Try.sizeOf3 rfl rfl hAe32 hlt1) rfl rfl ?_
   refine aA ?_
   refine aB rfl (iQ (v := .int .i64 (ps[i1])) Try.isAgg3 rfl (Cat.cell0 (Cat.upd hce32 H30.1) rfl)) rfl rfl ?_
   refine aA ?_
   refine aB rfl (aR rfl) rfl rfl ?_
   refine aI ?_
   refine aK ?_
   refine wp_seq ?_
   refine aN [0, 1, 2, 3] rfl ?_
   refine aA ?_
   refine aB rfl (aF rfl) rfl rfl ?_
   refine aA ?_
   refine bC rfl Try.call90 (vs := #[.int .i64 (ps[i1])]) rfl rfl rfl (newLink_i (ps[i1]) _) ?_
   rintro e38 W37 ⟨cs33, rfl, hM34, hu35⟩; refine ⟨_, rfl, ?_⟩
   obtain ⟨B_5_1_2, c_5_1_2, B_5_1_4, c_5_1_4, B_5_1_6, c_5_1_6, rfl, hst36⟩ := jB hM34
   have H39 := H30.news hu35 hst36; clear H30
   refine aA ?_
   refine bP rfl Try.zeroValue138 rfl rfl H39 ?_
   intro g_5_2 W40 hu41 Ha42; clear H39; clear hu41
   refine aA ?_
   refine bG rfl Try.sizeOf138 rfl rfl rfl rfl kS Ha42 ?_
   intro W44 hu45 Ha46; clear Ha42; clear hu45
   refine aI ?_
   refine aK ?_
   refine wp_seq ?_
   refine aN [0] rfl ?_
   refine aA ?_
   obtain ⟨F48, hs49, _, hfr50⟩ := St.frame (l0 := [hB g_5_2 138 #[.int .i64 ((zL (ps[i1])).bD), .bool ((zL (ps[i1])).Up), .slice B_5_1_2 ((zL (ps[i1])).aV.length) c_5_1_2, .int .i64 ((zL (ps[i1])).Next), .slice B_5_1_4 ((zL (ps[i1])).aT.length) c_5_1_4, .int .i64 ((zL (ps[i1])).bO), .slice B_5_1_6 ((zL (ps[i1])).bA.length) c_5_1_6], hR bE 188 (.slice B_5_1_2 ((zL (ps[i1])).aV.length) c_5_1_2) ((zL (ps[i1])).aV)]) (l := [hR aY 197 (.slice B_5_1_4 ((zL (ps[i1])).aT.length) c_5_1_4) ((zL (ps[i1])).aT), hR aY 197 (.slice B_5_1_6 ((zL (ps[i1])).bA.length) c_5_1_6) ((zL (ps[i1])).bA), hR aW 138 (.slice AL ((fG ps i1).length) cL) (fG ps i1), hB g_1_5 69 #[.int .i64 (id), .slice AE ((fH sc ps i1).length) cE, .slice none 0 0, .slice AL ((fG ps i1).length) cL, .slice none 0 0], hR aL 77 (.slice AE ((fH sc ps i1).length) cE) (fH sc ps i1), hB g_0_0 69 #[.int .i64 (0), .slice none 0 0, .slice none 0 0, .slice none 0 0, .slice none 0 0]]) Ha46
   refine bC rfl Try.call91 (vs := #[.pointer (some ⟨g_5_2, 0, none⟩), .int .i64 (0)]) rfl rfl rfl (put_i ((zL (ps[i1])).aV) 0 ((zL (ps[i1])).Next) _ _ _ _ _ _ _ _ _ _ hs49 (Nat.le_of_ble_eq_true rfl)) ?_
   rintro e53 W52 ⟨A_6_0, c_6_0, rfl, Hn51⟩; refine ⟨_, rfl, ?_⟩
   have H54 := hfr50 _ _ Hn51; clear Ha46
   refine aI ?_
   refine aK ?_
   refine wp_seq ?_
   refine aN [0, 1, 2, 3, 4, 5, 6] rfl ?_
   refine aA ?_
   refine aB rfl (aU gW rfl) rfl rfl ?_
   refine aA ?_
   refine aB rfl (bB (k := 3) (v := .slice AL ((fG ps i1).length) cL) Try.isAgg66 rfl (H54.blk 5 rfl) rfl) rfl rfl ?_
   refine aA ?_
   refine aB rfl (bN Try.isAgg138 Try.sizeOf138 rfl (H54.blk 0 rfl) rfl) rfl rfl ?_
   refine aA ?_
   refine dD rfl Try.runUnderlying66 Try.sizeOf138 kD Try.zeroValue138 rfl rfl rfl rfl H54 ?_
   intro g_7_3 W55 hu56 Ha57; clear H54; clear hu56
   refine aA ?_
   have H61 : St w No [hR bE 188 (.slice A_6_0 ((pxL 0 ((zL (ps[i1])).aV) ((zL (ps[i1])).Next)).length) c_6_0) (pxL 0 ((zL (ps[i1])).aV) ((zL (ps[i1])).Next)), hR aY 197 (.slice B_5_1_4 ((zL (ps[i1])).aT.length) c_5_1_4) ((zL (ps[i1])).aT), hR aY 197 (.slice B_5_1_6 ((zL (ps[i1])).bA.length) c_5_1_6) ((zL (ps[i1])).bA), hB g_7_3 138 #[.int .i64 ((zL (ps[i1])).bD), .bool ((zL (ps[i1])).Up), .slice A_6_0 ((pxL 0 ((zL (ps[i1])).aV) ((zL (ps[i1])).Next)).length) c_6_0, .int .i64 (pxX 0 ((zL (ps[i1])).aV) ((zL (ps[i1])).Next)), .slice B_5_1_4 ((zL (ps[i1])).aT.length) c_5_1_4, .int .i64 ((zL (ps[i1])).bO), .slice B_5_1_6 ((zL (ps[i1])).bA.length) c_5_1_6], hB g_5_2 138 #[.int .i64 ((zL (ps[i1])).bD), .bool ((zL (ps[i1])).Up), .slice A_6_0 ((pxL 0 ((zL (ps[i1])).aV) ((zL (ps[i1])).Next)).length) c_6_0, .int .i64 (pxX 0 ((zL (ps[i1])).aV) ((zL (ps[i1])).Next)), .slice B_5_1_4 ((zL (ps[i1])).aT.length) c_5_1_4, .int .i64 ((zL (ps[i1])).bO), .slice B_5_1_6 ((zL (ps[i1])).bA.length) c_5_1_6], hR aW 138 (.slice AL ((fG ps i1).length) cL) (fG ps i1), hB g_1_5 69 #[.int .i64 (id), .slice AE ((fH sc ps i1).length) cE, .slice none 0 0, .slice AL ((fG ps i1).length) cL, .slice none 0 0], hR aL 77 (.slice AE ((fH sc ps i1).length) cE) (fH sc ps i1), hB g_0_0 69 #[.int .i64 (0), .slice none 0 0, .slice none 0 0, .slice none 0 0, .slice none 0 0]] W55 := Ha57.pick [2, 3, 4, 0, 1, 5, 6, 7, 8] kD rfl; clear Ha57
   have H62 : St w No [hM aW (pxV 0 (zL ps[i1])) [.int .i64 ((zL (ps[i1])).bD), .bool ((zL (ps[i1])).Up), .slice A_6_0 ((pxL 0 ((zL (ps[i1])).aV) ((zL (ps[i1])).Next)).length) c_6_0, .int .i64 (pxX 0 ((zL (ps[i1])).aV) ((zL (ps[i1])).Next)), .slice B_5_1_4 ((zL (ps[i1])).aT.length) c_5_1_4, .int .i64 ((zL (ps[i1])).bO), .slice B_5_1_6 ((zL (ps[i1])).bA.length) c_5_1_6], hB g_7_3 138 #[.int .i64 ((zL (ps[i1])).bD), .bool ((zL (ps[i1])).Up), .slice A_6_0 ((pxL 0 ((zL (ps[i1])).aV) ((zL (ps[i1])).Next)).length) c_6_0, .int .i64 (pxX 0 ((zL (ps[i1])).aV) ((zL (ps[i1])).Next)), .slice B_5_1_4 ((zL (ps[i1])).aT.length) c_5_1_4, .int .i64 ((zL (ps[i1])).bO), .slice B_5_1_6 ((zL (ps[i1])).bA.length) c_5_1_6], hB g_5_2 138 #[.int .i64 ((zL (ps[i1])).bD), .bool ((zL (ps[i1])).Up), .slice A_6_0 ((pxL 0 ((zL (ps[i1])).aV) ((zL (ps[i1])).Next)).length) c_6_0, .int .i64 (pxX 0 ((zL (ps[i1])).aV) ((zL (ps[i1])).Next)), .slice B_5_1_4 ((zL (ps[i1])).aT.length) c_5_1_4, .int .i64 ((zL (ps[i1])).bO), .slice B_5_1_6 ((zL (ps[i1])).bA.length) c_5_1_6], hR aW 138 (.slice AL ((fG ps i1).length) cL) (fG ps i1), hB g_1_5 69 #[.int .i64 (id), .slice AE ((fH sc ps i1).length) cE, .slice none 0 0, .slice AL ((fG ps i1).length) cL, .slice none 0 0], hR aL 77 (.slice AE ((fH sc ps i1).length) cE) (fH sc ps i1), hB g_0_0 69 #[.int .i64 (0), .slice none 0 0, .slice none 0 0, .slice none 0 0, .slice none 0 0]] W55 := H61.swap (l0 := [hR bE 188 (.slice A_6_0 ((pxL 0 ((zL (ps[i1])).aV) ((zL (ps[i1])).Next)).length) c_6_0) (pxL 0 ((zL (ps[i1])).aV) ((zL (ps[i1])).Next)), hR aY 197 (.slice B_5_1_4 ((zL (ps[i1])).aT.length) c_5_1_4) ((zL (ps[i1])).aT), hR aY 197 (.slice B_5_1_6 ((zL (ps[i1])).bA.length) c_5_1_6) ((zL (ps[i1])).bA)]) (l' := [hM aW (pxV 0 (zL ps[i1])) [.int .i64 ((zL (ps[i1])).bD), .bool ((zL (ps[i1])).Up), .slice A_6_0 ((pxL 0 ((zL (ps[i1])).aV) ((zL (ps[i1])).Next)).length) c_6_0, .int .i64 (pxX 0 ((zL (ps[i1])).aV) ((zL (ps[i1])).Next)), .slice B_5_1_4 ((zL (ps[i1])).aT.length) c_5_1_4, .int .i64 ((zL (ps[i1])).bO), .slice B_5_1_6 ((zL (ps[i1])).bA.length) c_5_1_6]]) (fun _ h => Star.one (iE (x := (pxV 0 (zL ps[i1]))) h)); clear H61
   have H63 : St w No [hR aW 138 (.slice AL ((fG ps i1).length) cL) (fG ps i1), hB g_7_3 138 #[.int .i64 ((zL (ps[i1])).bD), .bool ((zL (ps[i1])).Up), .slice A_6_0 ((pxL 0 ((zL (ps[i1])).aV) ((zL (ps[i1])).Next)).length) c_6_0, .int .i64 (pxX 0 ((zL (ps[i1])).aV) ((zL (ps[i1])).Next)), .slice B_5_1_4 ((zL (ps[i1])).aT.length) c_5_1_4, .int .i64 ((zL (ps[i1])).bO), .slice B_5_1_6 ((zL (ps[i1])).bA.length) c_5_1_6], hM aW (pxV 0 (zL ps[i1])) [.int .i64 ((zL (ps[i1])).bD), .bool ((zL (ps[i1])).Up), .slice A_6_0 ((pxL 0 ((zL (ps[i1])).aV) ((zL (ps[i1])).Next)).length) c_6_0, .int .i64 (pxX 0 ((zL (ps[i1])).aV) ((zL (ps[i1])).Next)), .slice B_5_1_4 ((zL (ps[i1])).aT.length) c_5_1_4, .int .i64 ((zL (ps[i1])).bO), .slice B_5_1_6 ((zL (ps[i1])).bA.length) c_5_1_6], hB g_5_2 138 #[.int .i64 ((zL (ps[i1])).bD), .bool ((zL (ps[i1])).Up), .slice A_6_0 ((pxL 0 ((zL (ps[i1])).aV) ((zL (ps[i1])).Next)).length) c_6_0, .int .i64 (pxX 0 ((zL (ps[i1])).aV) ((zL (ps[i1])).Next)), .slice B_5_1_4 ((zL (ps[i1])).aT.length) c_5_1_4, .int .i64 ((zL (ps[i1])).bO), .slice B_5_1_6 ((zL (ps[i1])).bA.length) c_5_1_6], hB g_1_5 69 #[.int .i64 (id), .slice AE ((fH sc ps i1).length) cE, .slice none 0 0, .slice AL ((fG ps i1).length) cL, .slice none 0 0], hR aL 77 (.slice AE ((fH sc ps i1).length) cE) (fH sc ps i1), hB g_0_0 69 #[.int .i64 (0), .slice none 0 0, .slice none 0 0, .slice none 0 0, .slice none 0 0]] W55 := H62.pick [3, 1, 0, 2, 4, 5, 6] kD rfl; clear H62
   refine gG (xs := (fG ps i1)) (p := (pxV 0 (zL ps[i1]))) (n' := (fG ps (i1 + 1)).length) (ys := (fG ps (i1 + 1))) rfl Try.underlying66 kV rfl kD kD rfl rfl (by rw [nvLs_len ps i1 kO]; omega) (by rw [nvLs_len ps i1 kO, nvLs_len ps (i1 + 1) kO]) (nvLs_succ ps i1 hlt1) rfl rfl H63 ?_
   intro B_7_4 c_7_4 W59 Ha60; clear H63
   refine aA ?_
   refine aB rfl (aU gW rfl) rfl rfl ?_
   refine aA ?_
   have H68 : St w No [hB g_1_5 69 #[.int .i64 (id), .slice AE ((fH sc ps i1).length) cE, .slice none 0 0, .slice AL ((fG ps i1).length) cL, .slice none 0 0], hR aW 138 (.slice B_7_4 ((fG ps (i1 + 1)).length) c_7_4) (fG ps (i1 + 1)), hB g_5_2 138 #[.int .i64 ((zL (ps[i1])).bD), .bool ((zL (ps[i1])).Up), .slice A_6_0 ((pxL 0 ((zL (ps[i1])).aV) ((zL (ps[i1])).Next)).length) c_6_0, .int .i64 (pxX 0 ((zL (ps[i1])).aV) ((zL (ps[i1])).Next)), .slice B_5_1_4 ((zL (ps[i1])).aT.length) c_5_1_4, .int .i64 ((zL (ps[i1])).bO), .slice B_5_1_6 ((zL (ps[i1])).bA.length) c_5_1_6], hR aL 77 (.slice AE ((fH sc ps i1).length) cE) (fH sc ps i1), hB g_0_0 69 #[.int .i64 (0), .slice none 0 0, .slice none 0 0, .slice none 0 0, .slice none 0 0]] W59 := Ha60.pick [2, 0, 1, 3, 4] kD rfl; clear Ha60
   refine bR rfl Try.sizeOf66 rfl rfl rfl (Nat.le_of_ble_eq_true rfl) (by simp [Value.cells, Value.oneCell']) H68 ?_
   intro W65 hu66 Ha67; clear H68; clear hu66
   refine aI ?_
   refine aK ?_
   refine dG (fun W' => Blk W' g_1_5 69 #[.int .i64 (id), .slice AE ((fH sc ps i1).length) cE, .slice none 0 0, .slice B_7_4 ((fG ps (i1 + 1)).length) c_7_4, .slice none 0 0]) 7 kR ?_
   have H70 := Ha67.drew; clear Ha67
   have hS71 : Blk W65.drew g_1_5 69 #[.int .i64 (id), .slice AE ((fH sc ps i1).length) cE, .slice none 0 0, .slice B_7_4 ((fG ps (i1 + 1)).length) c_7_4, .slice none 0 0] := H70.blk 0 rfl
   refine aO (i := 0) rfl kR kR kR kR kR (fun _ _ _ h => h) rfl rfl hS71 (fun W' hs' => aU eD rfl) ?_
   refine aO (i := 1) rfl kR kR kR kR kR (fun _ _ _ h => h) rfl rfl hS71 (fun W' hs' => bB (k := 1) (v := .slice AE ((fH sc ps i1).length) cE) Try.isAgg64 rfl hs' rfl) ?_
   refine aO (i := 2) rfl kR kR kR kR kR (fun _ _ _ h => h) rfl rfl hS71 (fun W' hs' => aF rfl) ?_
   refine bM (i := 3) kR ?_
   refine bC rfl Try.call92 (vs := #[.int .i64 (ps[i1]), .int .i64 (1)]) rfl rfl rfl (newProxy_i (ps[i1]) 1 _) ?_
   rintro e75 W74 ⟨cs_8_3, rfl, hM72, hu73⟩; refine ⟨_, rfl, ?_⟩
   have hl76 := cO (aL.gN hM72)
   have ho77 := fF (aL.gN hM72)
   have H78 := H70.new (q := hM aL (prE (ps[i1]) 1) cs_8_3) hu73 hM72; clear H70
   have hS79 := H78.blk 1 rfl; refine ⟨fun _ => hS79, ?_⟩
   refine bM (i := 4) kR ?_
   refine dD rfl Try.runUnderlying64 Try.sizeOf77 kD Try.zeroValue77 rfl (cO (H78.kn 0 rfl)) rfl rfl H78 ?_
   intro g_8_4 W80 hu81 Ha82; clear H78; clear hu81
   have hS84 := Ha82.blk 2 rfl; refine ⟨fun _ => hS84, ?_⟩
   refine bM (i := 5) kR ?_
   have H87 : St w No [hR aL 77 (.slice AE ((fH sc ps i1).length) cE) (fH sc ps i1), hB g_8_4 77 (List.toArray cs_8_3), hM aL (prE (ps[i1]) 1) cs_8_3, hB g_1_5 69 #[.int .i64 (id), .slice AE ((fH sc ps i1).length) cE, .slice none 0 0, .slice B_7_4 ((fG ps (i1 + 1)).length) c_7_4, .slice none 0 0], hR aW 138 (.slice B_7_4 ((fG ps (i1 + 1)).length) c_7_4) (fG ps (i1 + 1)), hB g_5_2 138 #[.int .i64 ((zL (ps[i1])).bD), .bool ((zL (ps[i1])).Up), .slice A_6_0 ((pxL 0 ((zL (ps[i1])).aV) ((zL (ps[i1])).Next)).length) c_6_0, .int .i64 (pxX 0 ((zL (ps[i1])).aV) ((zL (ps[i1])).Next)), .slice B_5_1_4 ((zL (ps[i1])).aT.length) c_5_1_4, .int .i64 ((zL (ps[i1])).bO), .slice B_5_1_6 ((zL (ps[i1])).bA.length) c_5_1_6], hB g_0_0 69 #[.int .i64 (0), .slice none 0 0, .slice none 0 0, .slice none 0 0, .slice none 0 0]] W80 := Ha82.pick [5, 0, 1, 2, 3, 4, 6] kD rfl; clear Ha82
   refine gG (xs := (fH sc ps i1)) (p := (prE ps[i1] 1)) (n' := (fH sc ps (i1 + 1)).length) (ys := (fH sc ps (i1 + 1))) rfl Try.underlying64 gY rfl kD kD rfl rfl (by rw [lD sc ps i1 kO]; omega) (by rw [lD sc ps i1 kO, lD sc ps (i1 + 1) kO]) (nvEs_succ sc ps i1 hlt1) rfl rfl H87 ?_
   intro B_8_5 c_8_5 W85 Ha86; clear H87
   have hS89 := Ha86.blk 1 rfl; refine ⟨fun _ => hS89, ?_⟩
   refine aO (i := 6) rfl kR kR kR kR kR (fun _ _ _ h => h) rfl rfl hS89 (fun W' hs' => aU eD rfl) ?_
   refine bM (i := 7) kR ?_
   have H93 : St w No [hB g_1_5 69 #[.int .i64 (id), .slice AE ((fH sc ps i1).length) cE, .slice none 0 0, .slice B_7_4 ((fG ps (i1 + 1)).length) c_7_4, .slice none 0 0], hR aL 77 (.slice B_8_5 ((fH sc ps (i1 + 1)).length) c_8_5) (fH sc ps (i1 + 1)), hR aW 138 (.slice B_7_4 ((fG ps (i1 + 1)).length) c_7_4) (fG ps (i1 + 1)), hB g_5_2 138 #[.int .i64 ((zL (ps[i1])).bD), .bool ((zL (ps[i1])).Up), .slice A_6_0 ((pxL 0 ((zL (ps[i1])).aV) ((zL (ps[i1])).Next)).length) c_6_0, .int .i64 (pxX 0 ((zL (ps[i1])).aV) ((zL (ps[i1])).Next)), .slice B_5_1_4 ((zL (ps[i1])).aT.length) c_5_1_4, .int .i64 ((zL (ps[i1])).bO), .slice B_5_1_6 ((zL (ps[i1])).bA.length) c_5_1_6], hB g_0_0 69 #[.int .i64 (0), .slice none 0 0, .slice none 0 0, .slice none 0 0, .slice none 0 0]] W85 := Ha86.pick [1, 0, 2, 3, 4] kD rfl; clear Ha86
   refine bR rfl Try.sizeOf64 rfl rfl rfl (Nat.le_of_ble_eq_true rfl) (by simp [Value.cells, Value.oneCell']) H93 ?_
   intro W90 hu91 Ha92; clear H93; clear hu91
   refine ⟨fun h => absS kR h, ?_⟩
   refine cB kR ?_ _
   refine eP ?_
   refine aK ?_
   refine aN [0, 1] rfl ?_
   refine aA ?_
   refine aB rfl (gT (k := i1) rfl rfl kO) rfl rfl ?_
   refine aA ?_
   refine aB rfl (aF rfl) rfl rfl ?_
   refine aI ?_
   refine aK ?_
   exact (aZ [(6, .pointer (some ⟨g_0_0, 0, none⟩)), (7, .pointer (some ⟨g_1_5, 0, none⟩)), (16, .slice A ps.length c), (17, .int .i64 ((ps.length : Nat))), (18, .int .i64 (((i1 + 1 : Nat) : Int)))] rfl).elim fun x' hx => ⟨r27 - 1, kO, (i1 + 1), B_7_4, c_7_4, B_8_5, c_8_5, x', hx, kO, Ha92.pick [2, 0, 1, 4] kD rfl⟩
  ·obtain rfl : i1 = ps.length := by omega
   refine wp_exit ?_
   refine dX ?_
   refine dX ?_
   refine iH ?_
   refine aK ?_
   refine wp_seq ?_
   refine aN [0, 1] rfl ?_
   refine aA ?_
   refine aB rfl (bN Try.isAgg69 Try.sizeOf69 rfl (H30.blk 1 rfl) rfl) rfl rfl ?_
   refine aA ?_
   have H98 : St w No [hB g_0_0 69 #[.int .i64 (0), .slice none 0 0, .slice none 0 0, .slice none 0 0, .slice none 0 0], hR aW 138 (.slice AL ((fG ps ps.length).length) cL) (fG ps ps.length), hB g_1_5 69 #[.int .i64 (id), .slice AE ((fH sc ps ps.length).length) cE, .slice none 0 0, .slice AL ((fG ps ps.length).length) cL, .slice none 0 0], hR aL 77 (.slice AE ((fH sc ps ps.length).length) cE) (fH sc ps ps.length)] W28 := H30.pick [3, 0, 1, 2] kD rfl; clear H30
   refine bG rfl Try.sizeOf69 rfl rfl rfl rfl kS H98 ?_
   intro W95 hu96 Ha97; clear H98; clear hu96
   refine aI ?_
   refine aK ?_
   refine wp_ret ?_
   have H100 : St w No [hR aH 181 (.slice none 0 0) ([]), hB g_0_0 69 #[.int .i64 (id), .slice AE ((fH sc ps ps.length).length) cE, .slice none 0 0, .slice AL ((fG ps ps.length).length) cL, .slice none 0 0], hR aW 138 (.slice AL ((fG ps ps.length).length) cL) (fG ps ps.length), hB g_1_5 69 #[.int .i64 (id), .slice AE ((fH sc ps ps.length).length) cE, .slice none 0 0, .slice AL ((fG ps ps.length).length) cL, .slice none 0 0], hR aL 77 (.slice AE ((fH sc ps ps.length).length) cE) (fH sc ps ps.length)] W95 := Ha97.add0 (q := hR aH 181 (.slice none 0 0) []) gI; clear Ha97
   have H101 : St w No [hR aS 150 (.slice none 0 0) ([]), hR aH 181 (.slice none 0 0) ([]), hB g_0_0 69 #[.int .i64 (id), .slice AE ((fH sc ps ps.length).length) cE, .slice none 0 0, .slice AL ((fG ps ps.length).length) cL, .slice none 0 0], hR aW 138 (.slice AL ((fG ps ps.length).length) cL) (fG ps ps.length), hB g_1_5 69 #[.int .i64 (id), .slice AE ((fH sc ps ps.length).length) cE, .slice none 0 0, .slice AL ((fG ps ps.length).length) cL, .slice none 0 0], hR aL 77 (.slice AE ((fH sc ps ps.length).length) cE) (fH sc ps ps.length)] W95 := H100.add0 (q := hR aS 150 (.slice none 0 0) []) gI; clear H100
   refine dI (.inl rfl) Try.results37 Try.isAgg69 Try.sizeOf69 rfl (H101.blk 2 rfl) rfl ?_
   exact ⟨_, rfl, gM (x := (nvV id ps sc)) (H101.pick [5, 1, 3, 0] kD rfl).star, H101.1⟩
end Go.Proofs.YtdfipdpeilegpaaFam
namespace Go.Proofs.YtdfipdpeilegpaaSep
open Go.ChangeShapes Go.WideShapes Go.RowKit
def bF (g t : Nat) (A : Option Addr) (n cb : Nat) : HP where
 p := fun W F => F g ∧ ∃ (i : Nat) (h : Int), i ≤ n ∧ Blk W g t #[.slice A n cb, .int .i64 (i : Int), .int .i64 h]
 same := by
  rintro W W' F k ⟨h1, i, h, h2, h3⟩
  exact ⟨h1, i, h, h2, (k g h1).trans h3⟩
 lt := by
  rintro W F ⟨h1, i, h, h2, h3⟩
  exact ⟨⟨h1, Blk.lt h3⟩, i, h, h2, h3⟩
 mono := by
  rintro W F F' k ⟨h1, q⟩
  exact ⟨k g h1, q⟩
section
variable {W w : World} {F0 : Nat → Prop} {l : List HP} {g t n cb : Nat} {A : Option Addr}
theorem St.openCur (H : St w F0 (bF g t A n cb :: l) W) : ∃ (i : Nat) (h : Int), i ≤ n ∧ St w F0 (hB g t #[.slice A n cb, .int .i64 (i : Int), .int .i64 h] :: l) W := by
 obtain ⟨F1, hq, k⟩ := St.unM (q := bF g t A n cb) H
 obtain ⟨h1, i, h, h2, h3⟩ := hq
 exact ⟨i, h, h2, k [hB g t #[.slice A n cb, .int .i64 (i : Int), .int .i64 h]] (Star.one (q := hB g t #[.slice A n cb, .int .i64 (i : Int), .int .i64 h]) ⟨h1, h3⟩)⟩
theorem St.closeCur {i : Nat} {h : Int} (H : St w F0 (hB g t #[.slice A n cb, .int .i64 (i : Int), .int .i64 h] :: l) W) (hi : i ≤ n) : St w F0 (bF g t A n cb :: l) W :=
 St.swap (l0 := [hB g t #[.slice A n cb, .int .i64 (i : Int), .int .i64 h]]) (l' := [bF g t A n cb]) H (fun F q => by
  obtain ⟨F1, F2, ⟨a1, a2⟩, _, i1, _, _⟩ := q.uncons
  exact Star.one (q := bF g t A n cb) ⟨i1 g a1, i, h, hi, a2⟩)
def Kn.u8 : Kn Int := Kn.scalar (Value.int .u8) (fun _ => rfl)
def CV (A : Option Addr) (bs : List Int) (F0 : Nat → Prop) (w : World) : Prop := ∀ W', Upd F0 w W' → C Kn.u8 W' A bs
theorem CV.step {bs : List Int} {F1 : Nat → Prop} (h : CV A bs F0 w) (hu : Upd F0 w W) (hF : ∀ b, F1 b → (F0 b ∨ w.heap.size ≤ b) ∧ b < W.heap.size) : CV A bs F1 W := fun W' hu' =>
 h W' (Upd.trans hu hu' (fun _ _ q => q) (fun b hb q => (hF b q).1.resolve_right kO))
theorem CV.of {bs : List Int} (h : C Kn.u8 w A bs) : CV A bs No w := fun _ hu => cZ hu h
end
def andV (p q : Int) : Int := IntKind.i64.wrap ((BitVec.ofInt 64 p &&& BitVec.ofInt 64 q).toNat : Nat)
def xorV (p q : Int) : Int := IntKind.i64.wrap ((BitVec.ofInt 64 p ^^^ BitVec.ofInt 64 q).toNat : Nat)
def shrV (p q : Int) : Int := p.fdiv (2 ^ (min q.toNat 64))
theorem and255 (p : Int) : 0 ≤ andV p 255 ∧ andV p 255 ≤ 255 := by
 have h : (BitVec.ofInt 64 p &&& BitVec.ofInt 64 255).toNat ≤ 255 := by
  rw [BitVec.toNat_and]
  exact Nat.le_trans Nat.and_le_right kD
 unfold andV
 generalize (BitVec.ofInt 64 p &&& BitVec.ofInt 64 255).toNat = z at h
 have e : IntKind.i64.wrap (z : Int) = z := by
  simp [IntKind.wrap, IntKind.signed, IntKind.bits]
  omega
 rw [e]
 omega
section
variable {P : Program} {n ty : Nat} {x : Nat → Value} {live : List (Nat × Value)} {W : World} {pos : String} {aft : Array Edge} {y z : Operand} {dst : Option Nat} {xt yt : Nat} {p q : Int}
theorem rn_mulW (hx : evl n live y = some (.int .i64 p)) (hz : evl n live z = some (.int .i64 q)) : Rn P ⟨dst, .binOp .mul xt y z yt, ty, pos, aft, none⟩ (bH n x live) W (.int .i64 (IntKind.i64.wrap (p * q))) := rn_arith hx hz (by simp [binOp, Op.intArith])
theorem rn_andV (hx : evl n live y = some (.int .i64 p)) (hz : evl n live z = some (.int .i64 q)) : Rn P ⟨dst, .binOp .and xt y z yt, ty, pos, aft, none⟩ (bH n x live) W (.int .i64 (andV p q)) := rn_arith hx hz (by simp only [binOp, Op.intBits, andV]; rfl)
theorem rn_xorV (hx : evl n live y = some (.int .i64 p)) (hz : evl n live z = some (.int .i64 q)) : Rn P ⟨dst, .binOp .xor xt y z yt, ty, pos, aft, none⟩ (bH n x live) W (.int .i64 (xorV p q)) := rn_arith hx hz (by simp only [binOp, Op.intBits, xorV]; rfl)
theorem rn_shrV {k2 : IntKind} (hx : evl n live y = some (.int .i64 p)) (hz : evl n live z = some (.int k2 q)) (hq : 0 ≤ q) : Rn P ⟨dst, .binOp .shr xt y z yt, ty, pos, aft, none⟩ (bH n x live) W (.int .i64 (shrV p q)) := by
 unfold Rn
 simp [execOp, dM hx, dM hz, eqGuard_at_int, binOp, Op.shift, shrV, IntKind.bits, show ¬ q < 0 by omega]
theorem rn_rem (hx : evl n live y = some (.int .i64 p)) (hz : evl n live z = some (.int .i64 q)) (hq : ¬ q = 0) : Rn P ⟨dst, .binOp .rem xt y z yt, ty, pos, aft, none⟩ (bH n x live) W (.int .i64 (p.tmod q)) := rn_arith hx hz (by simp [binOp, Op.intDiv, hq])
theorem rn_conv8 {s d : Nat} {b : Int} (hs : (P.underlying s).isSome = true) (hd : P.underlying d = some (.int .i64)) (hx : evl n live y = some (.int .u8 b)) : Rn P ⟨dst, .convert s d y, ty, pos, aft, none⟩ (bH n x live) W (.int .i64 (IntKind.i64.wrap b)) := by
 unfold Rn
 have hk : P.intKind d = .i64 := by simp [Program.intKind, hd]
 have hr := run_convert_int (P := P) W s d .u8 b hs (by rw [hk]; exact hd)
 rw [hk] at hr
 simp [execOp, dM hx, hr, Result.andThen]
theorem jU {ops : Array Oper} {Q : Exit → Act → World → Prop} {K : Act → World → Prop} {i d m t e len : Nat} {w : World} {F0 : Nat → Prop} {l : List HP} {ps : Array (Nat × Operand)} {vs : List (Nat × Value)} {cells : Array Value} {z0 : Value} (ho : ops[i]? = some ⟨dst, .buildSlice t len ps, ty, pos, aft, none⟩) (hu : ∀ w, (underlying t).run P w = .ok (.slice e) w) (hS : ∀ w, (sizeOf e).run P w = .ok m w) (hz : ∀ w, (zeroValue e).run P w = .ok z0 w)
 (hv : ps.toList.map (fun p => (p.1, evl n live p.2)) = vs.map (fun p => (p.1, some p.2))) (h1 : len * m ≤ 2 ^ 24) (h2 : ¬ len * m = 0) (hf : Instr.fill (fun i => some (i * m, m)) ((Array.range (len * m)).map (fun k => z0.cells[k % z0.cells.size]!)) vs = some cells) (hd : dst = some d) (hdn : decide (d < n) = true) (H : St w F0 l W) (h : ∀ g W', Upd No W W' → St w F0 (hB g e cells :: l) W' → K (bH n x ((d, .slice (some ⟨g, 0, none⟩) len len) :: live)) W') : wpOp P ops Q i K (bH n x live) W := by
 subst hd
 refine op_ok ho rfl ?_
 have hps : (ps.map (fun p => (p.1, (bH n x live).eval p.2))).toList = vs := by
  rw [Array.toList_map]
  generalize ps.toList = pl at hv
  clear hf
  induction pl generalizing vs with
  | nil =>
   cases vs with
   | nil => rfl
   | cons a b => simp at hv
  | cons a pl ih =>
   cases vs with
   | nil => simp at hv
   | cons b vs =>
    simp only [List.map_cons, List.cons.injEq, Prod.mk.injEq] at hv
    rw [List.map_cons, ih hv.2, dM hv.1.2, hv.1.1]
 have h0 : ¬ (len * m > 2 ^ 24) := by omega
 have hrun : (execOp (bH n x live).eval ⟨some d, .buildSlice t len ps, ty, pos, aft, none⟩).run P W = .ok (.value (.slice (some ⟨W.heap.size, 0, none⟩) len len)) (W.alloc (.cells cells e)) := by
  simp only [execOp, Instr.buildSlice, Sem.run_bind, hu, hS, Result.andThen_ok, h0, if_false, h2, hz, Sem.run_pure, hps, hf]
  simp [newRow]
 unfold Oper.wp
 rw [hrun]
 simp only [Oper.upon]
 rw [gQ (of_decide_eq_true hdn)]
 exact h _ _ ((Upd.refl _ _).alloc _) (H.alloc e cells)
theorem R_scal {α : Type} {enc : α → Value} {h1 : ∀ x, (enc x).oneCell' = true} {g e : Nat} {cs : Array Value} {xs : List α} {F : Nat → Prop} (h : (hB g e cs).p W F) (hc : cs.toList = xs.map enc) (hn : xs.length ≤ 1048576) : R (Kn.scalar enc h1) e W F (.slice (some ⟨g, 0, none⟩) xs.length xs.length) xs := by
 have hs : cs.size = xs.length := by rw [← Array.length_toList, hc, List.length_map]
 refine .inr ⟨g, xs.length, cs, fun _ _ => False, rfl, h.2, h.1, Nat.le_refl _, by omega, by rw [hs]; show xs.length = xs.length * 1; omega, fun _ _ q => q.elim, fun _ _ _ q => q.elim, fun i x hx => ?_⟩
 show piece 1 cs.toList i = [enc x]
 unfold piece
 rw [hc, Nat.mul_one]
 have hx' := List.getElem?_eq_some_iff.1 hx
 obtain ⟨hi, rfl⟩ := hx'
 rw [List.drop_eq_getElem_cons (by rw [List.length_map]; exact hi)]
 simp
theorem St.boxSc {α : Type} {enc : α → Value} {h1 : ∀ x, (enc x).oneCell' = true} {w : World} {F0 : Nat → Prop} {l : List HP} {g e m : Nat} {cs : Array Value} {xs : List α} (H : St w F0 (hB g e cs :: l) W) (hc : cs.toList = xs.map enc) (hn : xs.length ≤ 1048576) (hm : m = xs.length) : St w F0 (hR (Kn.scalar enc h1) e (.slice (some ⟨g, 0, none⟩) m m) xs :: l) W := by
 subst hm
 exact St.swap (l0 := [hB g e cs]) (l' := [hR (Kn.scalar enc h1) e (.slice (some ⟨g, 0, none⟩) xs.length xs.length) xs]) H (fun F q => by
  obtain ⟨F1, F2, a1, _, i1, _, _⟩ := q.uncons
  exact Star.one (gF i1 (R_scal a1 hc hn)))
theorem tmod_bd (p q : Int) (h0 : 0 ≤ p) (hq : 0 < q) : 0 ≤ p.tmod q ∧ p.tmod q < q := by
 rw [Int.tmod_eq_emod_of_nonneg h0]
 exact ⟨Int.emod_nonneg _ kO, Int.emod_lt_of_pos _ hq⟩
end
section
variable {P : Program} {ops : Array Oper} {Q : Exit → Act → World → Prop} {K : Act → World → Prop} {n i d ty : Nat} {x : Nat → Value} {live : List (Nat × Value)} {W w : World} {pos : String} {aft : Array Edge} {v : Value} {y z : Operand}
theorem rn_eqlA {dst : Option Nat} {t t2 : Nat} {xs ys : Array Value} {b : Bool} (hg : P.eqGuardType P.depth t = false) (hx : evl n live y = some (.agg xs)) (hz : evl n live z = some (.agg ys)) (h : (Op.equalIn 10000 t (.agg xs) (.agg ys)).run P W = .ok b W) : Rn P ⟨dst, .binOp .eql t y z t2, ty, pos, aft, none⟩ (bH n x live) W (.bool b) := by
 unfold Rn
 simp [execOp, dM hx, dM hz, run_eqGuard_agg (P := P) W .eql t _ _ xs ys hg, run_eql_struct, h, Result.andThen]
theorem jL {dst : Option Nat} {t t2 : Nat} {xs ys : Array Value} {b : Bool} (hg : P.eqGuardType P.depth t = false) (hx : evl n live y = some (.agg xs)) (hz : evl n live z = some (.agg ys)) (h : (Op.equalIn 10000 t (.agg xs) (.agg ys)).run P W = .ok b W) : Rn P ⟨dst, .binOp .neq t y z t2, ty, pos, aft, none⟩ (bH n x live) W (.bool (!b)) := by
 unfold Rn
 simp [execOp, dM hx, dM hz, run_eqGuard_agg (P := P) W .neq t _ _ xs ys hg, run_neq_struct, h, Result.andThen]
theorem rn_eqlB {dst : Option Nat} {xt yt : Nat} {a b : Bool} (hu : P.underlying xt = some .bool) (hx : evl n live y = some (.bool a)) (hz : evl n live z = some (.bool b)) : Rn P ⟨dst, .binOp .eql xt y z yt, ty, pos, aft, none⟩ (bH n x live) W (.bool (a == b)) := by
 unfold Rn
 simp [execOp, dM hx, dM hz, eqGuard_at_bool, run_eql_bool (P := P) W xt a b hu, Result.andThen]
theorem kN {dst : Option Nat} {f : FuncId} {ys : Array Operand} {tys : Array Nat} {vs : Array Value} {R : Ending → World → Prop} (ho : ops[i]? = some ⟨dst, .call { callee := .value y, args := ys, argTypes := tys }, ty, pos, aft, none⟩) (hy : evl n live y = some (.func (.func f) #[] #[])) (hf : ∀ us w, (callFunc f us).run P w = .ok (.enter f us) w) (hv : ys.toList.map (evl n live) = vs.toList.map some) (hd : dst = some d) (hdn : decide (d < n) = true) (hc : Calls P f vs W R) (h : ∀ e W', R e W' → ∃ v, e = .returned v ∧ K (bH n x ((d, v) :: live)) W') : wpOp P ops Q i K (bH n x live) W := by
 subst hd
 refine op_ok ho rfl ?_
 have e : ys.map (bH n x live).eval = vs := evls_ok hv
 have hrun : (execOp (bH n x live).eval ⟨some d, .call { callee := .value y, args := ys, argTypes := tys }, ty, pos, aft, none⟩).run P W = .ok (.enter f vs) W := by
  simp [execOp, resolve, dM hy, Deferred.ofValue, invoke, e, hf]
 unfold Oper.wp
 rw [hrun]
 simp only [Oper.upon]
 refine hc.mono fun e' W' hR => ?_
 obtain ⟨u, rfl, hk⟩ := h e' W' hR
 show K ((bH n x live).put (some d) u) W'
 rw [gQ (of_decide_eq_true hdn)]
 exact hk
end
end Go.Proofs.YtdfipdpeilegpaaSep
namespace Go.Proofs.YtdfipdpeilegpaaFam
open Go.ChangeShapes Go.WideShapes Go.RowKit Go.Proofs.YtdfipdpeilegpaaSep Go.Proofs.YtdfipdpeilegpaaT Go.Proofs.YtdfipdpeilegpaaK
set_option linter.unusedVariables false
set_option linter.unusedSimpArgs false
attribute [local irreducible] wpOps wpOp
set_option maxHeartbeats 4000000
set_option maxRecDepth 100000
theorem wrap_small {p : Int} (h1 : -9223372036854775808 ≤ p) (h2 : p ≤ 9223372036854775807) : IntKind.i64.wrap p = p := by
 simp [IntKind.wrap, IntKind.signed, IntKind.bits]
 omega
theorem str_le {s : ByteArray} {l : List ByteArray} {k : Nat} (h : s ∈ l) (hl : l.all (fun z => decide (z.size ≤ k)) = true) : s.size ≤ k := of_decide_eq_true (List.all_eq_true.1 hl s h)
theorem fa_157_0 : dO Try.prog 157 0 0 := fun a W => by simp [Instr.fieldAt, Try.runUnderlying157, Instr.sureAddr, fieldPlace, Try.sizeOf22]
theorem fa_157_1 : dO Try.prog 157 1 1 := fun a W => by simp [Instr.fieldAt, Try.runUnderlying157, Instr.sureAddr, fieldPlace, Try.sizeOf3]
theorem fa_157_2 : dO Try.prog 157 2 2 := fun a W => by simp [Instr.fieldAt, Try.runUnderlying157, Instr.sureAddr, fieldPlace, Try.sizeOf3]
theorem byte_s  (bs : List Int) (gc cb : Nat) (A : Option Addr) (F0 : Nat → Prop) (w : World) (hV : CV A bs F0 w) (hn : bs.length ≤ 1048576) (h : Star [bF gc 157 A bs.length cb] w F0) : Calls Try.prog 102 #[.pointer (some ⟨gc, 0, none⟩)] w (fun e' w' => ∃ r : Int, e' = .returned (.int .i64 r) ∧ (0 ≤ r ∧ r ≤ 255) ∧ St w F0 [bF gc 157 A bs.length cb] w') := by
 refine enter 58 [(0, .pointer (some ⟨gc, 0, none⟩))] Try.func102 rfl kR ?_
 intro xj
 obtain ⟨ci, ch, hci, H0⟩ := St.openCur (St.iA h)
 have H1 : St w F0 [hB gc 157 #[.slice A bs.length cb, .int .i64 (((ci : Nat) : Int)), .int .i64 (ch)]] w := H0
 refine wp_seq ?_
 refine aN [0] rfl ?_
 refine aA ?_
 refine aB rfl (aR rfl) rfl rfl ?_
 refine aI ?_
 refine aK ?_
 refine wp_seq ?_
 refine aN [0, 1, 2, 3, 4, 5, 6, 7, 8, 9] rfl ?_
 refine aA ?_
 refine aB rfl (aF rfl) rfl rfl ?_
 refine aA ?_
 refine aB rfl (aF rfl) rfl rfl ?_
 refine aA ?_
 refine aB rfl (dA rfl) rfl rfl ?_
 refine aA ?_
 refine aB rfl (aU fa_157_2 rfl) rfl rfl ?_
 refine aA ?_
 refine aB rfl (bB (k := 2) (v := .int .i64 (ch)) Try.isAgg3 rfl (H1.blk 0 rfl) rfl) rfl rfl ?_
 refine aA ?_
 refine aB rfl (rn_mulW rfl rfl) rfl rfl ?_
 refine aA ?_
 refine aB rfl (jI rfl rfl) rfl rfl ?_
 refine aA ?_
 refine aB rfl (dA rfl) rfl rfl ?_
 refine aA ?_
 refine aB rfl (aU fa_157_2 rfl) rfl rfl ?_
 refine aA ?_
 refine bR rfl Try.sizeOf3 rfl rfl rfl (Nat.le_of_ble_eq_true rfl) (by simp [Value.cells, Value.oneCell']) H1 ?_
 intro W2 hu3 Ha4; clear H1; clear hu3
 refine aI ?_
 refine aK ?_
 refine wp_seq ?_
 refine dG (fun W' => Blk W' gc 157 #[.slice A bs.length cb, .int .i64 (((ci : Nat) : Int)), .int .i64 (IntKind.i64.wrap ((IntKind.i64.wrap (ch * 6364136223846793005)) + 1442695040888963407))]) 13 kR ?_
 have H6 := Ha4.drew; clear Ha4
 have hS7 : Blk W2.drew gc 157 #[.slice A bs.length cb, .int .i64 (((ci : Nat) : Int)), .int .i64 (IntKind.i64.wrap ((IntKind.i64.wrap (ch * 6364136223846793005)) + 1442695040888963407))] := H6.blk 0 rfl
 refine aO (i := 0) rfl kR kR kR kR kR (fun _ _ _ h => h) rfl rfl hS7 (fun W' hs' => aF rfl) ?_
 refine aO (i := 1) rfl kR kR kR kR kR (fun _ _ _ h => h) rfl rfl hS7 (fun W' hs' => dA rfl) ?_
 refine aO (i := 2) rfl kR kR kR kR kR (fun _ _ _ h => h) rfl rfl hS7 (fun W' hs' => aU fa_157_2 rfl) ?_
 refine aO (i := 3) rfl kR kR kR kR kR (fun _ _ _ h => h) rfl rfl hS7 (fun W' hs' => bB (k := 2) (v := .int .i64 (IntKind.i64.wrap ((IntKind.i64.wrap (ch * 6364136223846793005)) + 1442695040888963407))) Try.isAgg3 rfl hs' rfl) ?_
 refine aO (i := 4) rfl kR kR kR kR kR (fun _ _ _ h => h) rfl rfl hS7 (fun W' hs' => rn_shrV rfl rfl kD) ?_
 refine aO (i := 5) rfl kR kR kR kR kR (fun _ _ _ h => h) rfl rfl hS7 (fun W' hs' => aF rfl) ?_
 refine aO (i := 6) rfl kR kR kR kR kR (fun _ _ _ h => h) rfl rfl hS7 (fun W' hs' => dA rfl) ?_
 refine aO (i := 7) rfl kR kR kR kR kR (fun _ _ _ h => h) rfl rfl hS7 (fun W' hs' => aU fa_157_2 rfl) ?_
 refine aO (i := 8) rfl kR kR kR kR kR (fun _ _ _ h => h) rfl rfl hS7 (fun W' hs' => bB (k := 2) (v := .int .i64 (IntKind.i64.wrap ((IntKind.i64.wrap (ch * 6364136223846793005)) + 1442695040888963407))) Try.isAgg3 rfl hs' rfl) ?_
 refine aO (i := 9) rfl kR kR kR kR kR (fun _ _ _ h => h) rfl rfl hS7 (fun W' hs' => rn_shrV rfl rfl kD) ?_
 refine aO (i := 10) rfl kR kR kR kR kR (fun _ _ _ h => h) rfl rfl hS7 (fun W' hs' => rn_xorV rfl rfl) ?_
 refine aO (i := 11) rfl kR kR kR kR kR (fun _ _ _ h => h) rfl rfl hS7 (fun W' hs' => rn_andV rfl rfl) ?_
 refine aO (i := 12) rfl kR kR kR kR kR (fun _ _ _ h => h) rfl rfl hS7 (fun W' hs' => aR rfl) ?_
 refine cB kR ?_ _
 refine aK ?_
 refine wp_seq ?_
 refine wp_seq ?_
 refine dG (fun W' => Blk W' gc 157 #[.slice A bs.length cb, .int .i64 (((ci : Nat) : Int)), .int .i64 (IntKind.i64.wrap ((IntKind.i64.wrap (ch * 6364136223846793005)) + 1442695040888963407))]) 10 kR ?_
 have H8 := H6.drew; clear H6
 have hS9 : Blk W2.drew.drew gc 157 #[.slice A bs.length cb, .int .i64 (((ci : Nat) : Int)), .int .i64 (IntKind.i64.wrap ((IntKind.i64.wrap (ch * 6364136223846793005)) + 1442695040888963407))] := H8.blk 0 rfl
 refine aO (i := 0) rfl kR kR kR kR kR (fun _ _ _ h => h) rfl rfl hS9 (fun W' hs' => aF rfl) ?_
 refine aO (i := 1) rfl kR kR kR kR kR (fun _ _ _ h => h) rfl rfl hS9 (fun W' hs' => dA rfl) ?_
 refine aO (i := 2) rfl kR kR kR kR kR (fun _ _ _ h => h) rfl rfl hS9 (fun W' hs' => aU fa_157_1 rfl) ?_
 refine aO (i := 3) rfl kR kR kR kR kR (fun _ _ _ h => h) rfl rfl hS9 (fun W' hs' => bB (k := 1) (v := .int .i64 (((ci : Nat) : Int))) Try.isAgg3 rfl hs' rfl) ?_
 refine aO (i := 4) rfl kR kR kR kR kR (fun _ _ _ h => h) rfl rfl hS9 (fun W' hs' => aF rfl) ?_
 refine aO (i := 5) rfl kR kR kR kR kR (fun _ _ _ h => h) rfl rfl hS9 (fun W' hs' => dA rfl) ?_
 refine aO (i := 6) rfl kR kR kR kR kR (fun _ _ _ h => h) rfl rfl hS9 (fun W' hs' => aU fa_157_0 rfl) ?_
 refine aO (i := 7) rfl kR kR kR kR kR (fun _ _ _ h => h) rfl rfl hS9 (fun W' hs' => bB (k := 0) (v := .slice A bs.length cb) Try.isAgg22 rfl hs' rfl) ?_
 refine aO (i := 8) rfl kR kR kR kR kR (fun _ _ _ h => h) rfl rfl hS9 (fun W' hs' => dP Try.runUnderlying22 rfl) ?_
 refine aO (i := 9) rfl kR kR kR kR kR (fun _ _ _ h => h) rfl rfl hS9 (fun W' hs' => gB rfl rfl) ?_
 refine cB kR ?_ _
 refine aK ?_
 refine dB rfl (fun hc10 => ?_) (fun hc10 => ?_)
 ·refine wp_seq ?_
  have hlt : ci < bs.length := by omega
  obtain ⟨ade, cse, hAe, hKe, hce⟩ := fT (hV _ H8.1) ci hlt
  obtain rfl : cse = [.int .u8 bs[ci]] := hKe
  refine dG (fun W' => Blk W' gc 157 #[.slice A bs.length cb, .int .i64 (((ci : Nat) : Int)), .int .i64 (IntKind.i64.wrap ((IntKind.i64.wrap (ch * 6364136223846793005)) + 1442695040888963407))] ∧ Cat W' (Addr.add ade (ci * 1)) [.int .u8 bs[ci]]) 15 kR ?_
  have H11 := H8.drew; clear H8
  have hS12 : Blk W2.drew.drew.drew gc 157 #[.slice A bs.length cb, .int .i64 (((ci : Nat) : Int)), .int .i64 (IntKind.i64.wrap ((IntKind.i64.wrap (ch * 6364136223846793005)) + 1442695040888963407))] ∧ Cat W2.drew.drew.drew (Addr.add ade (ci * 1)) [.int .u8 bs[ci]] := ⟨H11.blk 0 rfl, hce⟩
  refine aO (i := 0) rfl kR kR kR kR kR (fun _ _ _ h => h) rfl rfl hS12 (fun W' hs' => aF rfl) ?_
  refine aO (i := 1) rfl kR kR kR kR kR (fun _ _ _ h => h) rfl rfl hS12 (fun W' hs' => aF rfl) ?_
  refine aO (i := 2) rfl kR kR kR kR kR (fun _ _ _ h => h) rfl rfl hS12 (fun W' hs' => dA rfl) ?_
  refine aO (i := 3) rfl kR kR kR kR kR (fun _ _ _ h => h) rfl rfl hS12 (fun W' hs' => aU fa_157_0 rfl) ?_
  refine aO (i := 4) rfl kR kR kR kR kR (fun _ _ _ h => h) rfl rfl hS12 (fun W' hs' => bB (k := 0) (v := .slice A bs.length cb) Try.isAgg22 rfl hs'.1 rfl) ?_
  refine aO (i := 5) rfl kR kR kR kR kR (fun _ _ _ h => h) rfl rfl hS12 (fun W' hs' => aF rfl) ?_
  refine aO (i := 6) rfl kR kR kR kR kR (fun _ _ _ h => h) rfl rfl hS12 (fun W' hs' => dA rfl) ?_
  refine aO (i := 7) rfl kR kR kR kR kR (fun _ _ _ h => h) rfl rfl hS12 (fun W' hs' => aU fa_157_1 rfl) ?_
  refine aO (i := 8) rfl kR kR kR kR kR (fun _ _ _ h => h) rfl rfl hS12 (fun W' hs' => bB (k := 1) (v := .int .i64 (((ci : Nat) : Int))) Try.isAgg3 rfl hs'.1 rfl) ?_
  refine aO (i := 9) rfl kR kR kR kR kR (fun _ _ _ h => h) rfl rfl hS12 (fun W' hs' => bQ (k := ci) Try.runUnderlying22 Try.sizeOf5 rfl rfl hAe hlt) ?_
  refine aO (i := 10) rfl kR kR kR kR kR (fun _ _ _ h => h) rfl rfl hS12 (fun W' hs' => iQ (v := .int .u8 bs[ci]) Try.isAgg5 rfl (Cat.cell0 hs'.2 rfl)) ?_
  refine aO (i := 11) rfl kR kR kR kR kR (fun _ _ _ h => h) rfl rfl hS12 (fun W' hs' => rn_conv8 (by rw [Try.underlying5]; rfl) Try.underlying3 rfl) ?_
  refine aO (i := 12) rfl kR kR kR kR kR (fun _ _ _ h => h) rfl rfl hS12 (fun W' hs' => jI rfl rfl) ?_
  refine aO (i := 13) rfl kR kR kR kR kR (fun _ _ _ h => h) rfl rfl hS12 (fun W' hs' => rn_andV rfl rfl) ?_
  refine aO (i := 14) rfl kR kR kR kR kR (fun _ _ _ h => h) rfl rfl hS12 (fun W' hs' => aR rfl) ?_
  refine cB kR ?_ _
  refine aK ?_
  refine aN [0, 1, 2, 3, 4, 5, 6, 7, 8] rfl ?_
  refine aA ?_
  refine aB rfl (aF rfl) rfl rfl ?_
  refine aA ?_
  refine aB rfl (aF rfl) rfl rfl ?_
  refine aA ?_
  refine aB rfl (dA rfl) rfl rfl ?_
  refine aA ?_
  refine aB rfl (aU fa_157_1 rfl) rfl rfl ?_
  refine aA ?_
  refine aB rfl (bB (k := 1) (v := .int .i64 (((ci : Nat) : Int))) Try.isAgg3 rfl (H11.blk 0 rfl) rfl) rfl rfl ?_
  refine aA ?_
  refine aB rfl (gT (k := ci) rfl rfl kO) rfl rfl ?_
  refine aA ?_
  refine aB rfl (dA rfl) rfl rfl ?_
  refine aA ?_
  refine aB rfl (aU fa_157_1 rfl) rfl rfl ?_
  refine aA ?_
  refine bR rfl Try.sizeOf3 rfl rfl rfl (Nat.le_of_ble_eq_true rfl) (by simp [Value.cells, Value.oneCell']) H11 ?_
  intro W13 hu14 Ha15; clear H11; clear hu14
  refine aI ?_
  refine aK ?_
  refine wp_seq ?_
  refine aN [0, 1] rfl ?_
  refine aA ?_
  refine aB rfl (aF rfl) rfl rfl ?_
  refine aA ?_
  refine aB rfl (aR rfl) rfl rfl ?_
  refine aI ?_
  refine aK ?_
  refine wp_ret ?_
  refine bI (.inl rfl) Try.results102 rfl ?_
  exact ⟨_, rfl, and255 _, St.closeCur (Ha15.pick [0] kD rfl) kO⟩
 ·refine wp_skip ?_
  refine aK ?_
  refine wp_seq ?_
  refine aN [0, 1] rfl ?_
  refine aA ?_
  refine aB rfl (aF rfl) rfl rfl ?_
  refine aA ?_
  refine aB rfl (aR rfl) rfl rfl ?_
  refine aI ?_
  refine aK ?_
  refine wp_ret ?_
  refine bI (.inl rfl) Try.results102 rfl ?_
  exact ⟨_, rfl, and255 _, St.closeCur (H8.pick [0] kD rfl) kO⟩
theorem dN (n : Int) (bs : List Int) (gc cb : Nat) (A : Option Addr) (F0 : Nat → Prop) (w : World) (hV : CV A bs F0 w) (hn : bs.length ≤ 1048576) (h : Star [bF gc 157 A bs.length cb] w F0) : Calls Try.prog 44 #[.pointer (some ⟨gc, 0, none⟩), .int .i64 n] w (fun e' w' => ∃ r : Int, e' = .returned (.int .i64 r) ∧ (0 ≤ r ∧ (0 < n → r < n)) ∧ St w F0 [bF gc 157 A bs.length cb] w') := by
 refine enter 31 [(0, .pointer (some ⟨gc, 0, none⟩)), (1, .int .i64 (n))] Try.func44 rfl kR ?_
 intro xj
 have H1 : St w F0 [bF gc 157 A bs.length cb] w := St.iA h
 refine wp_seq ?_
 refine aN [0] rfl ?_
 refine aA ?_
 refine aB rfl (aR rfl) rfl rfl ?_
 refine aI ?_
 refine aK ?_
 refine wp_seq ?_
 refine wp_seq ?_
 refine aN [0, 1] rfl ?_
 refine aA ?_
 refine aB rfl (aF rfl) rfl rfl ?_
 refine aA ?_
 refine aB rfl (rn_leq rfl rfl) rfl rfl ?_
 refine aI ?_
 refine aK ?_
 refine dB rfl (fun hc2 => ?_) (fun hc2 => ?_)
 ·refine wp_seq ?_
  refine aN [0] rfl ?_
  refine aA ?_
  refine aB rfl (aR rfl) rfl rfl ?_
  refine aI ?_
  refine aK ?_
  refine wp_ret ?_
  refine bY ?_
  refine bI (.inl rfl) Try.results44 rfl ?_
  exact ⟨_, rfl, ⟨by omega, by omega⟩, H1.pick [0] kD rfl⟩
 ·refine wp_skip ?_
  refine aK ?_
  refine wp_seq ?_
  refine wp_seq ?_
  refine aN [0, 1] rfl ?_
  refine aA ?_
  refine aB rfl (aF rfl) rfl rfl ?_
  refine aA ?_
  refine aB rfl (rn_leq rfl rfl) rfl rfl ?_
  refine aI ?_
  refine aK ?_
  refine dB rfl (fun hc3 => ?_) (fun hc3 => ?_)
  ·refine wp_seq ?_
   refine aN [0, 1, 2, 3, 4] rfl ?_
   refine aA ?_
   refine aB rfl (aF rfl) rfl rfl ?_
   refine aA ?_
   obtain ⟨F6, hs7, hF8, hfr9⟩ := St.frame (l0 := [bF gc 157 A bs.length cb]) (l := []) H1
   refine bC rfl Try.call102 (vs := #[.pointer (some ⟨gc, 0, none⟩)]) rfl rfl rfl (byte_s _ _ _ _ _ _ (CV.step hV H1.1 hF8) hn hs7) ?_
   rintro e12 W11 ⟨q4, rfl, hq5, Hn10⟩; refine ⟨_, rfl, ?_⟩
   have H13 := hfr9 _ _ Hn10; clear H1
   refine aA ?_
   refine aB rfl (aF rfl) rfl rfl ?_
   refine aA ?_
   refine aB rfl (rn_rem rfl rfl kO) rfl rfl ?_
   refine aA ?_
   refine aB rfl (aR rfl) rfl rfl ?_
   refine aI ?_
   refine aK ?_
   refine wp_ret ?_
   refine bY ?_
   refine bI (.inl rfl) Try.results44 rfl ?_
   have htm := tmod_bd q4 n kO kO
   exact ⟨_, rfl, ⟨htm.1, fun _ => htm.2⟩, H13.pick [0] kD rfl⟩
  ·refine wp_skip ?_
   refine aK ?_
   refine wp_seq ?_
   refine aN [0, 1, 2] rfl ?_
   refine aA ?_
   refine aB rfl (aF rfl) rfl rfl ?_
   refine aA ?_
   obtain ⟨F16, hs17, hF18, hfr19⟩ := St.frame (l0 := [bF gc 157 A bs.length cb]) (l := []) H1
   refine bC rfl Try.call102 (vs := #[.pointer (some ⟨gc, 0, none⟩)]) rfl rfl rfl (byte_s _ _ _ _ _ _ (CV.step hV H1.1 hF18) hn hs17) ?_
   rintro e22 W21 ⟨q14, rfl, hq15, Hn20⟩; refine ⟨_, rfl, ?_⟩
   have H23 := hfr19 _ _ Hn20; clear H1
   refine aA ?_
   refine aB rfl (aR rfl) rfl rfl ?_
   refine aI ?_
   refine aK ?_
   refine wp_seq ?_
   refine aN [0, 1, 2] rfl ?_
   refine aA ?_
   refine aB rfl (aF rfl) rfl rfl ?_
   refine aA ?_
   obtain ⟨F26, hs27, hF28, hfr29⟩ := St.frame (l0 := [bF gc 157 A bs.length cb]) (l := []) H23
   refine bC rfl Try.call102 (vs := #[.pointer (some ⟨gc, 0, none⟩)]) rfl rfl rfl (byte_s _ _ _ _ _ _ (CV.step hV H23.1 hF28) hn hs27) ?_
   rintro e32 W31 ⟨q24, rfl, hq25, Hn30⟩; refine ⟨_, rfl, ?_⟩
   have H33 := hfr29 _ _ Hn30; clear H23
   refine aA ?_
   refine aB rfl (aR rfl) rfl rfl ?_
   refine aI ?_
   refine aK ?_
   refine wp_seq ?_
   refine aN [0, 1, 2] rfl ?_
   refine aA ?_
   refine aB rfl (aF rfl) rfl rfl ?_
   refine aA ?_
   obtain ⟨F36, hs37, hF38, hfr39⟩ := St.frame (l0 := [bF gc 157 A bs.length cb]) (l := []) H33
   refine bC rfl Try.call102 (vs := #[.pointer (some ⟨gc, 0, none⟩)]) rfl rfl rfl (byte_s _ _ _ _ _ _ (CV.step hV H33.1 hF38) hn hs37) ?_
   rintro e42 W41 ⟨q34, rfl, hq35, Hn40⟩; refine ⟨_, rfl, ?_⟩
   have H43 := hfr39 _ _ Hn40; clear H33
   refine aA ?_
   refine aB rfl (aR rfl) rfl rfl ?_
   refine aI ?_
   refine aK ?_
   refine wp_seq ?_
   refine aN [0, 1, 2, 3, 4, 5, 6, 7, 8, 9] rfl ?_
   refine aA ?_
   refine aB rfl (aF rfl) rfl rfl ?_
   refine aA ?_
   refine aB rfl (rn_int (wrap_small kO kO) (rn_mulW rfl rfl)) rfl rfl ?_
   refine aA ?_
   refine aB rfl (aF rfl) rfl rfl ?_
   refine aA ?_
   refine aB rfl (rn_int (wrap_small kO kO) (rn_mulW rfl rfl)) rfl rfl ?_
   refine aA ?_
   refine aB rfl (gV rfl rfl kO) rfl rfl ?_
   refine aA ?_
   refine aB rfl (aF rfl) rfl rfl ?_
   refine aA ?_
   refine aB rfl (gV rfl rfl kO) rfl rfl ?_
   refine aA ?_
   refine aB rfl (aF rfl) rfl rfl ?_
   refine aA ?_
   refine aB rfl (rn_rem rfl rfl kO) rfl rfl ?_
   refine aA ?_
   refine aB rfl (aR rfl) rfl rfl ?_
   refine aI ?_
   refine aK ?_
   refine wp_ret ?_
   refine bI (.inl rfl) Try.results44 rfl ?_
   have htm := tmod_bd (((q14 * 65536) + (q24 * 256)) + q34) n kO kO
   exact ⟨_, rfl, ⟨htm.1, fun _ => htm.2⟩, H43.pick [0] kD rfl⟩
theorem jR (n : Int) (bs : List Int) (gc cb : Nat) (A : Option Addr) (F0 : Nat → Prop) (w : World) (hV : CV A bs F0 w) (hn : bs.length ≤ 1048576) (h : Star [bF gc 157 A bs.length cb] w F0) : Calls Try.prog 43 #[.pointer (some ⟨gc, 0, none⟩), .int .i64 n] w (fun e' w' => ∃ b : Bool, e' = .returned (.bool b) ∧ St w F0 [bF gc 157 A bs.length cb] w') := by
 refine enter 9 [(0, .pointer (some ⟨gc, 0, none⟩)), (1, .int .i64 (n))] Try.func43 rfl kR ?_
 intro xj
 have H1 : St w F0 [bF gc 157 A bs.length cb] w := St.iA h
 refine wp_seq ?_
 refine aN [0] rfl ?_
 refine aA ?_
 refine aB rfl (aR rfl) rfl rfl ?_
 refine aI ?_
 refine aK ?_
 refine wp_seq ?_
 refine aN [0, 1, 2, 3, 4] rfl ?_
 refine aA ?_
 refine aB rfl (aF rfl) rfl rfl ?_
 refine aA ?_
 refine aB rfl (aF rfl) rfl rfl ?_
 refine aA ?_
 obtain ⟨F4, hs5, hF6, hfr7⟩ := St.frame (l0 := [bF gc 157 A bs.length cb]) (l := []) H1
 refine bC rfl Try.call44 (vs := #[.pointer (some ⟨gc, 0, none⟩), .int .i64 (n)]) rfl rfl rfl (dN n _ _ _ _ _ _ (CV.step hV H1.1 hF6) hn hs5) ?_
 rintro e10 W9 ⟨q2, rfl, hq3, Hn8⟩; refine ⟨_, rfl, ?_⟩
 have H11 := hfr7 _ _ Hn8; clear H1
 refine aA ?_
 refine aB rfl (bS rfl rfl) rfl rfl ?_
 refine aA ?_
 refine aB rfl (aR rfl) rfl rfl ?_
 refine aI ?_
 refine aK ?_
 refine wp_ret ?_
 refine bI (.inl rfl) Try.results43 rfl ?_
 exact ⟨_, rfl, H11.pick [0] kD rfl⟩
theorem str_s (l : List ByteArray) (c : Nat) (B : Option Addr) (hl : 0 < l.length) (bs : List Int) (gc cb : Nat) (A : Option Addr) (F0 : Nat → Prop) (w : World) (hV : CV A bs F0 w) (hn : bs.length ≤ 1048576) (h : Star [bF gc 157 A bs.length cb, hR Kn.string 9 (.slice B l.length c) l] w F0) : Calls Try.prog 110 #[.pointer (some ⟨gc, 0, none⟩), .slice B l.length c] w (fun e' w' => ∃ s : ByteArray, e' = .returned (.string s) ∧ s ∈ l ∧ St w F0 [bF gc 157 A bs.length cb, hR Kn.string 9 (.slice B l.length c) l] w') := by
 refine enter 12 [(0, .pointer (some ⟨gc, 0, none⟩)), (1, .slice B l.length c)] Try.func110 rfl kR ?_
 intro xj
 have H1 : St w F0 [bF gc 157 A bs.length cb, hR Kn.string 9 (.slice B l.length c) l] w := St.iA h
 refine wp_seq ?_
 refine aN [0] rfl ?_
 refine aA ?_
 refine aB rfl (aR rfl) rfl rfl ?_
 refine aI ?_
 refine aK ?_
 refine wp_seq ?_
 refine aN [0, 1, 2, 3, 4, 5, 6, 7] rfl ?_
 refine aA ?_
 refine aB rfl (aF rfl) rfl rfl ?_
 refine aA ?_
 refine aB rfl (aF rfl) rfl rfl ?_
 refine aA ?_
 refine aB rfl (aF rfl) rfl rfl ?_
 refine aA ?_
 refine aB rfl (dP Try.runUnderlying166 rfl) rfl rfl ?_
 refine aA ?_
 obtain ⟨F4, hs5, hF6, hfr7⟩ := St.frame (l0 := [bF gc 157 A bs.length cb]) (l := [hR Kn.string 9 (.slice B l.length c) l]) H1
 refine bC rfl Try.call44 (vs := #[.pointer (some ⟨gc, 0, none⟩), .int .i64 ((l.length : Nat))]) rfl rfl rfl (dN (l.length : Nat) _ _ _ _ _ _ (CV.step hV H1.1 hF6) hn hs5) ?_
 rintro e10 W9 ⟨q2, rfl, hq3, Hn8⟩; refine ⟨_, rfl, ?_⟩
 have H11 := hfr7 _ _ Hn8; clear H1
 obtain ⟨kq, rfl⟩ : ∃ kq : Nat, q2 = kq := ⟨q2.toNat, by omega⟩
 have hkq : kq < l.length := by omega
 obtain ⟨ade, cse, hAe, hKe, hce⟩ := fT (H11.fU 1 rfl) kq hkq
 obtain rfl : cse = [.string (l[kq])] := hKe
 refine aA ?_
 refine aB rfl (bQ (k := kq) Try.runUnderlying166 Try.sizeOf9 rfl rfl hAe hkq) rfl rfl ?_
 refine aA ?_
 refine aB rfl (iQ (v := .string (l[kq])) Try.isAgg9 rfl (Cat.cell0 hce rfl)) rfl rfl ?_
 refine aA ?_
 refine aB rfl (aR rfl) rfl rfl ?_
 refine aI ?_
 refine aK ?_
 refine wp_ret ?_
 refine bI (.inl rfl) Try.results110 rfl ?_
 exact ⟨_, rfl, List.getElem_mem hkq, H11.pick [0, 1] kD rfl⟩
theorem int_s (l : List Int) (c : Nat) (B : Option Addr) (hl : 0 < l.length) (bs : List Int) (gc cb : Nat) (A : Option Addr) (F0 : Nat → Prop) (w : World) (hV : CV A bs F0 w) (hn : bs.length ≤ 1048576) (h : Star [bF gc 157 A bs.length cb, hR Kn.int 3 (.slice B l.length c) l] w F0) : Calls Try.prog 113 #[.pointer (some ⟨gc, 0, none⟩), .slice B l.length c] w (fun e' w' => ∃ s : Int, e' = .returned (.int .i64 s) ∧ s ∈ l ∧ St w F0 [bF gc 157 A bs.length cb, hR Kn.int 3 (.slice B l.length c) l] w') := by
 refine enter 12 [(0, .pointer (some ⟨gc, 0, none⟩)), (1, .slice B l.length c)] Try.func113 rfl kR ?_
 intro xj
 have H1 : St w F0 [bF gc 157 A bs.length cb, hR Kn.int 3 (.slice B l.length c) l] w := St.iA h
 refine wp_seq ?_
 refine aN [0] rfl ?_
 refine aA ?_
 refine aB rfl (aR rfl) rfl rfl ?_
 refine aI ?_
 refine aK ?_
 refine wp_seq ?_
 refine aN [0, 1, 2, 3, 4, 5, 6, 7] rfl ?_
 refine aA ?_
 refine aB rfl (aF rfl) rfl rfl ?_
 refine aA ?_
 refine aB rfl (aF rfl) rfl rfl ?_
 refine aA ?_
 refine aB rfl (aF rfl) rfl rfl ?_
 refine aA ?_
 refine aB rfl (dP Try.runUnderlying82 rfl) rfl rfl ?_
 refine aA ?_
 obtain ⟨F4, hs5, hF6, hfr7⟩ := St.frame (l0 := [bF gc 157 A bs.length cb]) (l := [hR Kn.int 3 (.slice B l.length c) l]) H1
 refine bC rfl Try.call44 (vs := #[.pointer (some ⟨gc, 0, none⟩), .int .i64 ((l.length : Nat))]) rfl rfl rfl (dN (l.length : Nat) _ _ _ _ _ _ (CV.step hV H1.1 hF6) hn hs5) ?_
 rintro e10 W9 ⟨q2, rfl, hq3, Hn8⟩; refine ⟨_, rfl, ?_⟩
 have H11 := hfr7 _ _ Hn8; clear H1
 obtain ⟨kq, rfl⟩ : ∃ kq : Nat, q2 = kq := ⟨q2.toNat, by omega⟩
 have hkq : kq < l.length := by omega
 obtain ⟨ade, cse, hAe, hKe, hce⟩ := fT (H11.fU 1 rfl) kq hkq
 obtain rfl : cse = [.int .i64 (l[kq])] := hKe
 refine aA ?_
 refine aB rfl (bQ (k := kq) Try.runUnderlying82 Try.sizeOf3 rfl rfl hAe hkq) rfl rfl ?_
 refine aA ?_
 refine aB rfl (iQ (v := .int .i64 (l[kq])) Try.isAgg3 rfl (Cat.cell0 hce rfl)) rfl rfl ?_
 refine aA ?_
 refine aB rfl (aR rfl) rfl rfl ?_
 refine aI ?_
 refine aK ?_
 refine wp_ret ?_
 refine bI (.inl rfl) Try.results113 rfl ?_
 exact ⟨_, rfl, List.getElem_mem hkq, H11.pick [0, 1] kD rfl⟩
theorem name_s  (bs : List Int) (gc cb : Nat) (A : Option Addr) (F0 : Nat → Prop) (w : World) (hV : CV A bs F0 w) (hn : bs.length ≤ 1048576) (h : Star [bF gc 157 A bs.length cb] w F0) : Calls Try.prog 63 #[.pointer (some ⟨gc, 0, none⟩)] w (fun e' w' => ∃ s : ByteArray, e' = .returned (.string s) ∧ s.size ≤ 6 ∧ St w F0 [bF gc 157 A bs.length cb] w') := by
 refine enter 6 [(0, .pointer (some ⟨gc, 0, none⟩))] Try.func63 rfl kR ?_
 intro xj
 have H1 : St w F0 [bF gc 157 A bs.length cb] w := St.iA h
 refine wp_seq ?_
 refine aN [0] rfl ?_
 refine aA ?_
 refine aB rfl (aR rfl) rfl rfl ?_
 refine aI ?_
 refine aK ?_
 refine wp_seq ?_
 refine aN [0, 1, 2, 3] rfl ?_
 refine aA ?_
 refine aB rfl (aF rfl) rfl rfl ?_
 refine aA ?_
 refine jU (vs := [(0, .string (⟨#[103, 101, 116]⟩)), (1, .string (⟨#[115, 101, 116]⟩)), (2, .string (⟨#[97, 100, 100]⟩)), (3, .string (⟨#[109, 97, 107, 101]⟩)), (4, .string (⟨#[103, 111]⟩))]) (cells := #[.string (⟨#[103, 101, 116]⟩), .string (⟨#[115, 101, 116]⟩), .string (⟨#[97, 100, 100]⟩), .string (⟨#[109, 97, 107, 101]⟩), .string (⟨#[103, 111]⟩)]) rfl Try.runUnderlying166 Try.sizeOf9 Try.zeroValue9 rfl kD kD kR rfl rfl H1 ?_
 intro g_1_1 W2 hu3 Ha4; clear H1
 have Hb5 := St.boxSc (xs := ([⟨#[103, 101, 116]⟩, ⟨#[115, 101, 116]⟩, ⟨#[97, 100, 100]⟩, ⟨#[109, 97, 107, 101]⟩, ⟨#[103, 111]⟩] : List ByteArray)) (h1 := fun _ => rfl) Ha4 rfl kD rfl; clear hu3
 refine aA ?_
 have H8 : St w F0 [bF gc 157 A bs.length cb, hR Kn.string 9 (.slice (some ⟨g_1_1, 0, none⟩) 5 5) ([⟨#[103, 101, 116]⟩, ⟨#[115, 101, 116]⟩, ⟨#[97, 100, 100]⟩, ⟨#[109, 97, 107, 101]⟩, ⟨#[103, 111]⟩] : List ByteArray)] W2 := Hb5.pick [1, 0] kD rfl; clear Hb5
 obtain ⟨F9, hs10, hF11, hfr12⟩ := St.frame (l0 := [bF gc 157 A bs.length cb, hR Kn.string 9 (.slice (some ⟨g_1_1, 0, none⟩) 5 5) ([⟨#[103, 101, 116]⟩, ⟨#[115, 101, 116]⟩, ⟨#[97, 100, 100]⟩, ⟨#[109, 97, 107, 101]⟩, ⟨#[103, 111]⟩] : List ByteArray)]) (l := []) H8
 refine bC rfl Try.call110 (vs := #[.pointer (some ⟨gc, 0, none⟩), .slice (some ⟨g_1_1, 0, none⟩) 5 5]) rfl rfl rfl (str_s ([⟨#[103, 101, 116]⟩, ⟨#[115, 101, 116]⟩, ⟨#[97, 100, 100]⟩, ⟨#[109, 97, 107, 101]⟩, ⟨#[103, 111]⟩] : List ByteArray) _ _ kD _ _ _ _ _ _ (CV.step hV H8.1 hF11) hn hs10) ?_
 rintro e15 W14 ⟨s6, rfl, hs7, Hn13⟩; refine ⟨_, rfl, ?_⟩
 have H16 := hfr12 _ _ Hn13; clear H8
 refine aA ?_
 refine aB rfl (aR rfl) rfl rfl ?_
 refine aI ?_
 refine aK ?_
 refine wp_ret ?_
 refine bI (.inl rfl) Try.results63 rfl ?_
 exact ⟨_, rfl, str_le hs7 kD, H16.pick [0] kD rfl⟩
theorem new_s (bs : List Int) (cb : Nat) (A : Option Addr) (w : World) (hC : C Kn.u8 w A bs) (hn : bs.length ≤ 1048576) : Calls Try.prog 41 #[.slice A bs.length cb] w (fun e' w' => ∃ gc : Nat, e' = .returned (.pointer (some ⟨gc, 0, none⟩)) ∧ St w No [bF gc 157 A bs.length cb] w') := by
 refine enter 32 [(0, .slice A bs.length cb)] Try.func41 rfl kR ?_
 intro xj
 have H1 : St w No [] w := St.enter
 refine wp_seq ?_
 refine aN [0] rfl ?_
 refine aA ?_
 refine aB rfl (aR rfl) rfl rfl ?_
 refine aI ?_
 refine aK ?_
 refine wp_seq ?_
 refine aN [0, 1, 2, 3] rfl ?_
 refine aA ?_
 refine aB rfl (aF rfl) rfl rfl ?_
 refine aA ?_
 refine aB rfl (dP Try.runUnderlying22 rfl) rfl rfl ?_
 refine aA ?_
 refine aB rfl (jI rfl rfl) rfl rfl ?_
 refine aA ?_
 refine aB rfl (aR rfl) rfl rfl ?_
 refine aI ?_
 refine aK ?_
 refine wp_seq ?_
 refine wp_seq ?_
 refine aN [0] rfl ?_
 refine aA ?_
 refine aB rfl (aR rfl) rfl rfl ?_
 refine aI ?_
 refine aK ?_
 refine wp_block ?_
 refine wp_loop_ghost (fun r a' W' => ∃ (i1 : Nat) (h1 : Int) (x' : Nat → Value), a' = bH 32 x' [(0, .slice A bs.length cb), (3, .int .i64 (h1)), (4, .int .i64 (((i1 : Nat) : Int)))] ∧ (i1 + r = bs.length) ∧ St w No [] W') bs.length ?_ ?_
 ·exact (aZ [(0, .slice A bs.length cb), (3, .int .i64 (IntKind.i64.wrap (193017 + (bs.length : Nat)))), (4, .int .i64 (((0 : Nat) : Int)))] rfl).elim fun x' hx => ⟨0, (IntKind.i64.wrap (193017 + (bs.length : Nat))), x', hx, kO, H1⟩
 ·rintro r2 _ W3 ⟨i1, h1, x4, rfl, hi1, H5⟩; clear H1
  refine wp_seq ?_
  refine wp_seq ?_
  refine aN [0, 1, 2, 3, 4, 5, 6, 7] rfl ?_
  refine aA ?_
  refine aB rfl (aF rfl) rfl rfl ?_
  refine aA ?_
  refine aB rfl (aF rfl) rfl rfl ?_
  refine aA ?_
  refine aB rfl (dP Try.runUnderlying22 rfl) rfl rfl ?_
  by_cases hg6 : (((i1 : Nat) : Int) : Int) < (bs.length : Nat)
  ·refine aA ?_
   refine aB rfl (bX hg6 (gB rfl rfl)) rfl rfl ?_
   refine aA ?_
   refine aB rfl (aF rfl) rfl rfl ?_
   refine aA ?_
   refine bL rfl rfl rfl rfl (fun _ ho7 => ?_)
   refine aB ho7 (aF rfl) rfl rfl ?_
   by_cases hg8 : (((i1 : Nat) : Int) : Int) < 4000
   ·refine aA ?_
    refine bL rfl rfl rfl rfl (fun _ ho9 => ?_)
    refine aB ho9 (bX hg8 (gB rfl rfl)) rfl rfl ?_
    refine aA ?_
    refine aB rfl (aX (v := .bool (true)) (b := true) rfl rfl rfl rfl) rfl rfl ?_
    refine aI ?_
    refine aK ?_
    refine fK rfl ?_
    refine wp_skip ?_
    refine aK ?_
    refine wp_seq ?_
    refine wp_block ?_
    have hlt : i1 < bs.length := by omega
    obtain ⟨ade, cse, hAe, hKe, hce⟩ := fT (cZ H5.1 hC) i1 hlt
    obtain rfl : cse = [.int .u8 bs[i1]] := hKe
    refine aN [0, 1, 2, 3, 4, 5, 6, 7, 8, 9, 10] rfl ?_
    refine aA ?_
    refine aB rfl (aF rfl) rfl rfl ?_
    refine aA ?_
    refine aB rfl (rn_mulW rfl rfl) rfl rfl ?_
    refine aA ?_
    refine aB rfl (aF rfl) rfl rfl ?_
    refine aA ?_
    refine aB rfl (aF rfl) rfl rfl ?_
    refine aA ?_
    refine aB rfl (bQ (k := i1) Try.runUnderlying22 Try.sizeOf5 rfl rfl hAe hlt) rfl rfl ?_
    refine aA ?_
    refine aB rfl (iQ (v := .int .u8 bs[i1]) Try.isAgg5 rfl (Cat.cell0 hce rfl)) rfl rfl ?_
    refine aA ?_
    refine aB rfl (rn_conv8 (by rw [Try.underlying5]; rfl) Try.underlying3 rfl) rfl rfl ?_
    refine aA ?_
    refine aB rfl (jI rfl rfl) rfl rfl ?_
    refine aA ?_
    refine aB rfl (jI rfl rfl) rfl rfl ?_
    refine aA ?_
    refine aB rfl (rn_andV rfl rfl) rfl rfl ?_
    refine aA ?_
    refine aB rfl (aR rfl) rfl rfl ?_
    refine aI ?_
    refine eP ?_
    refine aK ?_
    refine aN [0, 1, 2] rfl ?_
    refine aA ?_
    refine aB rfl (aF rfl) rfl rfl ?_
    refine aA ?_
    refine aB rfl (gT (k := i1) rfl rfl kO) rfl rfl ?_
    refine aA ?_
    refine aB rfl (aR rfl) rfl rfl ?_
    refine aI ?_
    refine aK ?_
    exact (aZ [(0, .slice A bs.length cb), (3, .int .i64 (andV (IntKind.i64.wrap ((IntKind.i64.wrap ((IntKind.i64.wrap (h1 * 137)) + (IntKind.i64.wrap (bs[i1])))) + 11)) 1073741823)), (4, .int .i64 (((i1 + 1 : Nat) : Int)))] rfl).elim fun x' hx => ⟨r2 - 1, kO, i1 + 1, (andV (IntKind.i64.wrap ((IntKind.i64.wrap ((IntKind.i64.wrap (h1 * 137)) + (IntKind.i64.wrap (bs[i1])))) + 11)) 1073741823), x', hx, kO, H5⟩
   ·refine aA ?_
    refine bL rfl rfl rfl rfl (fun _ ho10 => ?_)
    refine aB ho10 (bZ hg8 (gB rfl rfl)) rfl rfl ?_
    refine aA ?_
    refine aB rfl (aX (v := .bool (false)) (b := true) rfl rfl rfl rfl) rfl rfl ?_
    refine aI ?_
    refine aK ?_
    refine fA rfl ?_
    refine wp_exit ?_
    refine dX ?_
    refine dX ?_
    refine iH ?_
    refine aK ?_
    refine wp_seq ?_
    refine aN [0, 1, 2, 3, 4] rfl ?_
    refine aA ?_
    refine aB rfl (aF rfl) rfl rfl ?_
    refine aA ?_
    refine aB rfl (aF rfl) rfl rfl ?_
    refine aA ?_
    refine aB rfl (dS (vs := [(0, .slice A bs.length cb), (2, .int .i64 (h1))]) (cells := #[.slice A bs.length cb, .int .i64 (0), .int .i64 (h1)]) rfl kR) rfl rfl ?_
    refine aA ?_
    refine fJ rfl rfl rfl rfl H5 ?_
    intro g_6_3 W11 hu12 Ha13; clear H5; clear hu12
    refine aA ?_
    refine aB rfl (aR rfl) rfl rfl ?_
    refine aI ?_
    refine aK ?_
    refine wp_ret ?_
    refine bI (.inl rfl) Try.results41 rfl ?_
    exact ⟨_, rfl, St.closeCur (i := 0) (Ha13.pick [0] kD rfl) (Nat.zero_le _)⟩
  ·refine aA ?_
   refine aB rfl (bZ hg6 (gB rfl rfl)) rfl rfl ?_
   refine aA ?_
   refine aB rfl (aF rfl) rfl rfl ?_
   refine aA ?_
   refine aD rfl rfl rfl rfl rfl rfl rfl ?_
   refine aA ?_
   refine aD rfl rfl rfl rfl rfl rfl rfl ?_
   refine aA ?_
   refine aB rfl (aX (v := .bool (false)) (b := false) rfl rfl rfl rfl) rfl rfl ?_
   refine aI ?_
   refine aK ?_
   refine fA rfl ?_
   refine wp_exit ?_
   refine dX ?_
   refine dX ?_
   refine iH ?_
   refine aK ?_
   refine wp_seq ?_
   refine aN [0, 1, 2, 3, 4] rfl ?_
   refine aA ?_
   refine aB rfl (aF rfl) rfl rfl ?_
   refine aA ?_
   refine aB rfl (aF rfl) rfl rfl ?_
   refine aA ?_
   refine aB rfl (dS (vs := [(0, .slice A bs.length cb), (2, .int .i64 (h1))]) (cells := #[.slice A bs.length cb, .int .i64 (0), .int .i64 (h1)]) rfl kR) rfl rfl ?_
   refine aA ?_
   refine fJ rfl rfl rfl rfl H5 ?_
   intro g_6_3 W15 hu16 Ha17; clear H5; clear hu16
   refine aA ?_
   refine aB rfl (aR rfl) rfl rfl ?_
   refine aI ?_
   refine aK ?_
   refine wp_ret ?_
   refine bI (.inl rfl) Try.results41 rfl ?_
   exact ⟨_, rfl, St.closeCur (i := 0) (Ha17.pick [0] kD rfl) (Nat.zero_le _)⟩
theorem szA {α : Type} (s : α → Nat) (L : List α) (m : α) : bV s (L ++ [m]) = bV s L + s m + 1 := by
 unfold bV
 rw [sumS_append, List.length_append]
 show L.length + 1 + (sumS s L + (s m + 0)) = _
 omega
theorem sz0 {α : Type} (s : α → Nat) (h : ∀ x, s x = 0) : ∀ L : List α, sumS s L = 0
 | [] => rfl
 | x :: r => by
  unfold sumS
  rw [sz0 s h r, h]
theorem eT (s : GSent) (h : bT s ≤ 20) : bV bT [s] ≤ 30 := by
 show 1 + (bT s + 0) ≤ 30
 omega
theorem entsz (E : GEntity) (h1 : E.aM.length ≤ 8) (h2 : bV bT E.Queue ≤ 30) (h3 : E.aG.length ≤ 2) : bU E ≤ 60 := by
 unfold bU bV at *
 rw [sz0 kG (fun _ => rfl), sz0 szn_Asker (fun _ => rfl)]
 omega
theorem ssz (a b : Int) (s : ByteArray) (L : List GValue) (t : GTag) (hs : s.size ≤ 6) (hL : L.length ≤ 8) : bT ⟨a, s, L, b, t⟩ ≤ 20 := by
 unfold bT bV
 rw [sz0 kG (fun _ => rfl)]
 show s.size + (L.length + 0) ≤ 20
 omega
def prm : GEntity := ⟨2, 0, [], 1, ⟨0, 0⟩, [], [], 0, 0, 0, 0⟩
theorem mod_w (p : Int) (w : World) : Calls Try.prog 154 #[.int .i64 p, .int .i64 1000000] w (fun e w' => ∃ r : Int, e = .returned (.int .i64 r) ∧ Upd No w w') := by
 refine enter 15 [(0, .int .i64 (p)), (1, .int .i64 (1000000))] Try.func154 rfl kR ?_
 intro xj
 have H1 : St w No [] w := St.enter
 refine wp_seq ?_
 refine aN [0] rfl ?_
 refine aA ?_
 refine aB rfl (aR rfl) rfl rfl ?_
 refine aI ?_
 refine aK ?_
 refine wp_seq ?_
 refine wp_seq ?_
 refine aN [0, 1, 2] rfl ?_
 refine aA ?_
 refine aB rfl (aF rfl) rfl rfl ?_
 refine aA ?_
 refine bC rfl Try.call61 (vs := #[.int .i64 (1000000), .int .i64 (1), .int .i64 (1000000000000)]) rfl rfl rfl (iF (l1In_s 1000000 1 1000000000000 _) (decide_eq_true kO)) ?_
 rintro e4 W3 ⟨rfl, hu2⟩; refine ⟨_, rfl, ?_⟩
 have H5 := H1.no hu2; clear H1
 refine aA ?_
 refine aB rfl (jW rfl) rfl rfl ?_
 refine aI ?_
 refine aK ?_
 refine fA rfl ?_
 refine wp_skip ?_
 refine aK ?_
 refine wp_seq ?_
 refine aN [0, 1, 2, 3, 4, 5, 6, 7] rfl ?_
 refine aA ?_
 refine aB rfl (aF rfl) rfl rfl ?_
 refine aA ?_
 refine aB rfl (aF rfl) rfl rfl ?_
 refine aA ?_
 refine aB rfl (rn_rem rfl rfl kO) rfl rfl ?_
 refine aA ?_
 refine aB rfl (aF rfl) rfl rfl ?_
 refine aA ?_
 refine aB rfl (jI rfl rfl) rfl rfl ?_
 refine aA ?_
 refine aB rfl (aF rfl) rfl rfl ?_
 refine aA ?_
 refine aB rfl (rn_rem rfl rfl kO) rfl rfl ?_
 refine aA ?_
 refine aB rfl (aR rfl) rfl rfl ?_
 refine aI ?_
 refine aK ?_
 refine wp_ret ?_
 refine bI (.inl rfl) Try.results154 rfl ?_
 exact ⟨_, rfl, H5.1⟩
theorem jS (p : Int) (w : World) : Calls Try.prog 122 #[.int .i64 p] w (fun e w' => ∃ k v : Int, e = .returned (.agg #[.int .i64 k, .int .i64 v]) ∧ Upd No w w') := by
 refine enter 6 [(0, .int .i64 (p))] Try.func122 rfl kR ?_
 intro xj
 have H1 : St w No [] w := St.enter
 refine wp_seq ?_
 refine aN [0] rfl ?_
 refine aA ?_
 refine bP rfl Try.zeroValue70 rfl rfl H1 ?_
 intro g_0_0 W2 hu3 Ha4; clear H1; clear hu3
 refine aI ?_
 refine aK ?_
 refine wp_seq ?_
 refine aN [0, 1, 2, 3] rfl ?_
 refine aA ?_
 refine aB rfl (aF rfl) rfl rfl ?_
 refine aA ?_
 refine bC rfl Try.call154 (vs := #[.int .i64 (p), .int .i64 (1000000)]) rfl rfl rfl (mod_w p _) ?_
 rintro e9 W8 ⟨m6, rfl, hu7⟩; refine ⟨_, rfl, ?_⟩
 have H10 := Ha4.no hu7; clear Ha4
 refine aA ?_
 refine aB rfl (dS (vs := [(0, .int .i64 (0)), (1, .int .i64 (m6))]) (cells := #[.int .i64 (0), .int .i64 (m6)]) rfl kR) rfl rfl ?_
 refine aA ?_
 refine bG rfl Try.sizeOf70 rfl rfl rfl rfl kS H10 ?_
 intro W11 hu12 Ha13; clear H10; clear hu12
 refine aI ?_
 refine aK ?_
 refine wp_ret ?_
 refine dI (.inl rfl) Try.results122 Try.isAgg70 Try.sizeOf70 rfl (Ha13.blk 0 rfl) rfl ?_
 exact ⟨_, _, rfl, Ha13.1⟩
theorem refValue_w (p : Int) (w : World) : Calls Try.prog 79 #[.int .i64 p] w (fun e w' => ∃ k v : Int, e = .returned (.agg #[.int .i64 k, .int .i64 v]) ∧ Upd No w w') := by
 refine enter 5 [(0, .int .i64 (p))] Try.func79 rfl kR ?_
 intro xj
 have H1 : St w No [] w := St.enter
 refine wp_seq ?_
 refine aN [0] rfl ?_
 refine aA ?_
 refine bP rfl Try.zeroValue70 rfl rfl H1 ?_
 intro g_0_0 W2 hu3 Ha4; clear H1; clear hu3
 refine aI ?_
 refine aK ?_
 refine wp_seq ?_
 refine aN [0, 1, 2] rfl ?_
 refine aA ?_
 refine aB rfl (aF rfl) rfl rfl ?_
 refine aA ?_
 refine aB rfl (dS (vs := [(0, .int .i64 (1)), (1, .int .i64 (p))]) (cells := #[.int .i64 (1), .int .i64 (p)]) rfl kR) rfl rfl ?_
 refine aA ?_
 refine bG rfl Try.sizeOf70 rfl rfl rfl rfl kS Ha4 ?_
 intro W6 hu7 Ha8; clear Ha4; clear hu7
 refine aI ?_
 refine aK ?_
 refine wp_ret ?_
 refine dI (.inl rfl) Try.results79 Try.isAgg70 Try.sizeOf70 rfl (Ha8.blk 0 rfl) rfl ?_
 exact ⟨_, _, rfl, Ha8.1⟩
theorem brokenValue_w (w : World) : Calls Try.prog 84 #[] w (fun e w' => ∃ k v : Int, e = .returned (.agg #[.int .i64 k, .int .i64 v]) ∧ Upd No w w') := by
 refine enter 2 [] Try.func84 rfl kR ?_
 intro xj
 have H1 : St w No [] w := St.enter
 refine wp_seq ?_
 refine aN [0] rfl ?_
 refine aA ?_
 refine bP rfl Try.zeroValue70 rfl rfl H1 ?_
 intro g_0_0 W2 hu3 Ha4; clear H1; clear hu3
 refine aI ?_
 refine aK ?_
 refine wp_seq ?_
 refine aN [0, 1] rfl ?_
 refine aA ?_
 refine aB rfl (dS (vs := [(0, .int .i64 (2))]) (cells := #[.int .i64 (2), .int .i64 (0)]) rfl kR) rfl rfl ?_
 refine aA ?_
 refine bG rfl Try.sizeOf70 rfl rfl rfl rfl kS Ha4 ?_
 intro W6 hu7 Ha8; clear Ha4; clear hu7
 refine aI ?_
 refine aK ?_
 refine wp_ret ?_
 refine dI (.inl rfl) Try.results84 Try.isAgg70 Try.sizeOf70 rfl (Ha8.blk 0 rfl) rfl ?_
 exact ⟨_, _, rfl, Ha8.1⟩
theorem jC (w : World) : Calls Try.prog 78 #[] w (iP aL prm w) := by
 refine enter 2 [] Try.func78 rfl kR ?_
 intro xj
 have H1 : St w No [] w := St.enter
 refine wp_seq ?_
 refine aN [0] rfl ?_
 refine aA ?_
 refine bP rfl Try.zeroValue77 rfl rfl H1 ?_
 intro g_0_0 W2 hu3 Ha4; clear H1; clear hu3
 refine aI ?_
 refine aK ?_
 refine wp_seq ?_
 refine aN [0, 1] rfl ?_
 refine aA ?_
 refine aB rfl (dS (vs := [(0, .int .i64 (2)), (3, .int .i64 (1))]) (cells := #[.int .i64 (2), .int .i64 (0), .slice none 0 0, .int .i64 (1), .int .i64 (0), .int .i64 (0), .slice none 0 0, .slice none 0 0, .int .i64 (0), .int .i64 (0), .int .i64 (0), .int .i64 (0)]) rfl kR) rfl rfl ?_
 refine aA ?_
 refine bG rfl Try.sizeOf77 rfl rfl rfl rfl kS Ha4 ?_
 intro W6 hu7 Ha8; clear Ha4; clear hu7
 refine aI ?_
 refine aK ?_
 refine wp_ret ?_
 refine dI (.inl rfl) Try.results78 Try.isAgg77 Try.sizeOf77 rfl (Ha8.blk 0 rfl) rfl ?_
 have H10 : St w No [hR aP 70 (.slice none 0 0) ([]), hB g_0_0 77 #[.int .i64 (2), .int .i64 (0), .slice none 0 0, .int .i64 (1), .int .i64 (0), .int .i64 (0), .slice none 0 0, .slice none 0 0, .int .i64 (0), .int .i64 (0), .int .i64 (0), .int .i64 (0)]] W6 := Ha8.add0 (q := hR aP 70 (.slice none 0 0) []) gI; clear Ha8
 have H11 : St w No [hR aH 181 (.slice none 0 0) ([]), hR aP 70 (.slice none 0 0) ([]), hB g_0_0 77 #[.int .i64 (2), .int .i64 (0), .slice none 0 0, .int .i64 (1), .int .i64 (0), .int .i64 (0), .slice none 0 0, .slice none 0 0, .int .i64 (0), .int .i64 (0), .int .i64 (0), .int .i64 (0)]] W6 := H10.add0 (q := hR aH 181 (.slice none 0 0) []) gI; clear H10
 have H12 : St w No [hR aQ 155 (.slice none 0 0) ([]), hR aH 181 (.slice none 0 0) ([]), hR aP 70 (.slice none 0 0) ([]), hB g_0_0 77 #[.int .i64 (2), .int .i64 (0), .slice none 0 0, .int .i64 (1), .int .i64 (0), .int .i64 (0), .slice none 0 0, .slice none 0 0, .int .i64 (0), .int .i64 (0), .int .i64 (0), .int .i64 (0)]] W6 := H11.add0 (q := hR aQ 155 (.slice none 0 0) []) gI; clear H11
 have H13 : St w No [hR aP 70 (.slice none 0 0) ([]), hR aH 181 (.slice none 0 0) ([]), hR aQ 155 (.slice none 0 0) ([]), hB g_0_0 77 #[.int .i64 (2), .int .i64 (0), .slice none 0 0, .int .i64 (1), .int .i64 (0), .int .i64 (0), .slice none 0 0, .slice none 0 0, .int .i64 (0), .int .i64 (0), .int .i64 (0), .int .i64 (0)]] W6 := H12.pick [2, 1, 0, 3] kD rfl; clear H12
 have H14 : St w No [hM aL prm [.int .i64 (2), .int .i64 (0), .slice none 0 0, .int .i64 (1), .int .i64 (0), .int .i64 (0), .slice none 0 0, .slice none 0 0, .int .i64 (0), .int .i64 (0), .int .i64 (0), .int .i64 (0)], hB g_0_0 77 #[.int .i64 (2), .int .i64 (0), .slice none 0 0, .int .i64 (1), .int .i64 (0), .int .i64 (0), .slice none 0 0, .slice none 0 0, .int .i64 (0), .int .i64 (0), .int .i64 (0), .int .i64 (0)]] W6 := H13.swap (l0 := [hR aP 70 (.slice none 0 0) ([]), hR aH 181 (.slice none 0 0) ([]), hR aQ 155 (.slice none 0 0) ([])]) (l' := [hM aL prm [.int .i64 (2), .int .i64 (0), .slice none 0 0, .int .i64 (1), .int .i64 (0), .int .i64 (0), .slice none 0 0, .slice none 0 0, .int .i64 (0), .int .i64 (0), .int .i64 (0), .int .i64 (0)]]) (fun _ h => Star.one (gD (x := prm) h)); clear H13
 have hq := (H14.pick [0] kD rfl : St w No [hM aL prm [.int .i64 (2), .int .i64 (0), .slice none 0 0, .int .i64 (1), .int .i64 (0), .int .i64 (0), .slice none 0 0, .slice none 0 0, .int .i64 (0), .int .i64 (0), .int .i64 (0), .int .i64 (0)]] W6).fin1
 exact ⟨_, rfl, hq.1, hq.2⟩
theorem putQ_w (x : GLink) (n : Int) (cs : List Value) (w : World) (h : aW.K w x cs) (hs : dH x ≤ 1048576) : Calls Try.prog 123 #[.agg cs.toArray, .int .i64 n] w (fun e w' => ∃ y cs' r, e = .returned (.tuple #[.agg (List.toArray cs'), .int .i64 r]) ∧ dH y ≤ dH x + 1 ∧ Star [hM aW y cs'] w' (New w) ∧ Upd No w w') := by
 have hs4 : dH x ≤ 4194304 := by omega
 have hq : x.aT.length ≤ 1048576 := by unfold dH bV at hs; omega
 obtain ⟨Ax2, cx2, Ax4, cx4, Ax6, cx6, rfl, hlx2, hCx2, hlx4, hCx4, hlx6, hCx6⟩ := jA h
 refine enter 25 [(0, .agg #[.int .i64 (x.bD), .bool (x.Up), .slice Ax2 x.aV.length cx2, .int .i64 (x.Next), .slice Ax4 x.aT.length cx4, .int .i64 (x.bO), .slice Ax6 x.bA.length cx6]), (1, .int .i64 (n))] Try.func123 rfl kR ?_
 intro xj
 have H1 : St w No [] w := St.enter
 refine wp_seq ?_
 refine aN [0, 1, 2] rfl ?_
 refine aA ?_
 refine fJ rfl rfl rfl rfl H1 ?_
 intro g_0_0 W2 hu3 Ha4; clear H1; clear hu3
 refine aA ?_
 refine bP rfl Try.zeroValue138 rfl rfl Ha4 ?_
 intro g_0_1 W6 hu7 Ha8; clear Ha4; clear hu7
 refine aA ?_
 refine aB rfl (aR rfl) rfl rfl ?_
 refine aI ?_
 refine aK ?_
 refine wp_seq ?_
 refine aN [0, 1, 2, 3] rfl ?_
 refine aA ?_
 refine aB rfl (bN Try.isAgg138 Try.sizeOf138 rfl (Ha8.blk 1 rfl) rfl) rfl rfl ?_
 refine aA ?_
 refine bC rfl Try.call155 (vs := #[.agg #[.int .i64 (x.bD), .bool (x.Up), .slice Ax2 x.aV.length cx2, .int .i64 (x.Next), .slice Ax4 x.aT.length cx4, .int .i64 (x.bO), .slice Ax6 x.bA.length cx6]]) rfl rfl rfl (l10Copy_s x _ _ (kM _ x hlx2 (cZ Ha8.1 hCx2) hlx4 (cZ Ha8.1 hCx4) hlx6 (cZ Ha8.1 hCx6)) hs4) ?_
 rintro e15 W14 ⟨cs10, rfl, hM11, hu12⟩; refine ⟨_, rfl, ?_⟩
 obtain ⟨B_1_1_2, c_1_1_2, B_1_1_4, c_1_1_4, B_1_1_6, c_1_1_6, rfl, hst13⟩ := jB hM11
 have H16 := Ha8.news hu12 hst13; clear Ha8
 refine aA ?_
 refine bP rfl Try.zeroValue138 rfl rfl H16 ?_
 intro g_1_2 W17 hu18 Ha19; clear H16; clear hu18
 refine aA ?_
 refine bG rfl Try.sizeOf138 rfl rfl rfl rfl kS Ha19 ?_
 intro W21 hu22 Ha23; clear Ha19; clear hu22
 refine aI ?_
 refine aK ?_
 refine wp_seq ?_
 refine aN [0, 1, 2, 3, 4] rfl ?_
 refine aA ?_
 refine aB rfl (aU fa_138_5 rfl) rfl rfl ?_
 refine aA ?_
 refine aB rfl (bB (k := 5) (v := .int .i64 (x.bO)) Try.isAgg3 rfl (Ha23.blk 5 rfl) rfl) rfl rfl ?_
 refine aA ?_
 refine aB rfl (jI rfl rfl) rfl rfl ?_
 refine aA ?_
 refine aB rfl (aU fa_138_5 rfl) rfl rfl ?_
 refine aA ?_
 refine bR rfl Try.sizeOf3 rfl rfl rfl (Nat.le_of_ble_eq_true rfl) (by simp [Value.cells, Value.oneCell']) Ha23 ?_
 intro W25 hu26 Ha27; clear Ha23; clear hu26
 refine aI ?_
 refine aK ?_
 refine wp_seq ?_
 refine aN [0, 1, 2, 3, 4, 5, 6, 7, 8, 9] rfl ?_
 refine aA ?_
 refine aB rfl (aU fa_138_4 rfl) rfl rfl ?_
 refine aA ?_
 refine aB rfl (bB (k := 4) (v := .slice B_1_1_4 x.aT.length c_1_1_4) Try.isAgg136 rfl (Ha27.blk 0 rfl) rfl) rfl rfl ?_
 refine aA ?_
 refine aB rfl (aU fa_138_5 rfl) rfl rfl ?_
 refine aA ?_
 refine aB rfl (bB (k := 5) (v := .int .i64 (IntKind.i64.wrap (x.bO + 1))) Try.isAgg3 rfl (Ha27.blk 0 rfl) rfl) rfl rfl ?_
 refine aA ?_
 refine aB rfl (aF rfl) rfl rfl ?_
 refine aA ?_
 refine aB rfl (dS (vs := [(0, .int .i64 (IntKind.i64.wrap (x.bO + 1))), (1, .int .i64 (n))]) (cells := #[.int .i64 (IntKind.i64.wrap (x.bO + 1)), .int .i64 (n)]) rfl kR) rfl rfl ?_
 refine aA ?_
 refine dD rfl Try.runUnderlying136 Try.sizeOf197 kD Try.zeroValue197 rfl rfl rfl rfl Ha27 ?_
 intro g_3_6 W29 hu30 Ha31; clear Ha27; clear hu30
 refine aA ?_
 have H35 : St w No [hR aY 197 (.slice B_1_1_4 x.aT.length c_1_1_4) x.aT, hB g_3_6 197 #[.int .i64 (IntKind.i64.wrap (x.bO + 1)), .int .i64 (n)], hB g_1_2 138 #[.int .i64 (x.bD), .bool (x.Up), .slice B_1_1_2 x.aV.length c_1_1_2, .int .i64 (x.Next), .slice B_1_1_4 x.aT.length c_1_1_4, .int .i64 (IntKind.i64.wrap (x.bO + 1)), .slice B_1_1_6 x.bA.length c_1_1_6], hR bE 188 (.slice B_1_1_2 x.aV.length c_1_1_2) x.aV, hR aY 197 (.slice B_1_1_6 x.bA.length c_1_1_6) x.bA, hB g_0_1 138 #[.int .i64 (0), .bool (false), .slice none 0 0, .int .i64 (0), .slice none 0 0, .int .i64 (0), .slice none 0 0], hB g_0_0 138 #[.int .i64 (x.bD), .bool (x.Up), .slice Ax2 x.aV.length cx2, .int .i64 (x.Next), .slice Ax4 x.aT.length cx4, .int .i64 (x.bO), .slice Ax6 x.bA.length cx6]] W29 := Ha31.pick [3, 0, 1, 2, 4, 5, 6] kD rfl; clear Ha31
 refine iY (xs := x.aT) (p := (⟨IntKind.i64.wrap (x.bO + 1), n⟩ : GQuestion)) (n' := (x.aT ++ [(⟨IntKind.i64.wrap (x.bO + 1), n⟩ : GQuestion)]).length) (ys := (x.aT ++ [(⟨IntKind.i64.wrap (x.bO + 1), n⟩ : GQuestion)])) rfl Try.underlying136 iZ rfl kD kD rfl rfl (ki_Question_mk _ No (⟨IntKind.i64.wrap (x.bO + 1), n⟩ : GQuestion)) (by show (x.aT.length + 1) * _ ≤ _; omega) (by rw [List.length_append]; rfl) rfl rfl rfl H35 ?_
 intro B_3_7 c_3_7 W33 Ha34; clear H35
 refine aA ?_
 refine aB rfl (aU fa_138_4 rfl) rfl rfl ?_
 refine aA ?_
 have H40 : St w No [hB g_1_2 138 #[.int .i64 (x.bD), .bool (x.Up), .slice B_1_1_2 x.aV.length c_1_1_2, .int .i64 (x.Next), .slice B_1_1_4 x.aT.length c_1_1_4, .int .i64 (IntKind.i64.wrap (x.bO + 1)), .slice B_1_1_6 x.bA.length c_1_1_6], hR aY 197 (.slice B_3_7 ((x.aT ++ [(⟨IntKind.i64.wrap (x.bO + 1), n⟩ : GQuestion)]).length) c_3_7) (x.aT ++ [(⟨IntKind.i64.wrap (x.bO + 1), n⟩ : GQuestion)]), hR bE 188 (.slice B_1_1_2 x.aV.length c_1_1_2) x.aV, hR aY 197 (.slice B_1_1_6 x.bA.length c_1_1_6) x.bA, hB g_0_1 138 #[.int .i64 (0), .bool (false), .slice none 0 0, .int .i64 (0), .slice none 0 0, .int .i64 (0), .slice none 0 0], hB g_0_0 138 #[.int .i64 (x.bD), .bool (x.Up), .slice Ax2 x.aV.length cx2, .int .i64 (x.Next), .slice Ax4 x.aT.length cx4, .int .i64 (x.bO), .slice Ax6 x.bA.length cx6]] W33 := Ha34.pick [1, 0, 2, 3, 4, 5] kD rfl; clear Ha34
 refine bR rfl Try.sizeOf136 rfl rfl rfl (Nat.le_of_ble_eq_true rfl) (by simp [Value.cells, Value.oneCell']) H40 ?_
 intro W37 hu38 Ha39; clear H40; clear hu38
 refine aI ?_
 refine aK ?_
 refine wp_seq ?_
 refine dG (fun W' => Blk W' g_1_2 138 #[.int .i64 (x.bD), .bool (x.Up), .slice B_1_1_2 x.aV.length c_1_1_2, .int .i64 (x.Next), .slice B_3_7 ((x.aT ++ [(⟨IntKind.i64.wrap (x.bO + 1), n⟩ : GQuestion)]).length) c_3_7, .int .i64 (IntKind.i64.wrap (x.bO + 1)), .slice B_1_1_6 x.bA.length c_1_1_6]) 5 kR ?_
 have H42 := Ha39.drew; clear Ha39
 have hS43 : Blk W37.drew g_1_2 138 #[.int .i64 (x.bD), .bool (x.Up), .slice B_1_1_2 x.aV.length c_1_1_2, .int .i64 (x.Next), .slice B_3_7 ((x.aT ++ [(⟨IntKind.i64.wrap (x.bO + 1), n⟩ : GQuestion)]).length) c_3_7, .int .i64 (IntKind.i64.wrap (x.bO + 1)), .slice B_1_1_6 x.bA.length c_1_1_6] := H42.blk 0 rfl
 refine aO (i := 0) rfl kR kR kR kR kR (fun _ _ _ h => h) rfl rfl hS43 (fun W' hs' => bN Try.isAgg138 Try.sizeOf138 rfl hs' rfl) ?_
 refine aO (i := 1) rfl kR kR kR kR kR (fun _ _ _ h => h) rfl rfl hS43 (fun W' hs' => aU fa_138_5 rfl) ?_
 refine aO (i := 2) rfl kR kR kR kR kR (fun _ _ _ h => h) rfl rfl hS43 (fun W' hs' => bB (k := 5) (v := .int .i64 (IntKind.i64.wrap (x.bO + 1))) Try.isAgg3 rfl hs' rfl) ?_
 refine bM (i := 3) kR ?_
 have H47 : St w No [hB g_0_1 138 #[.int .i64 (0), .bool (false), .slice none 0 0, .int .i64 (0), .slice none 0 0, .int .i64 (0), .slice none 0 0], hB g_1_2 138 #[.int .i64 (x.bD), .bool (x.Up), .slice B_1_1_2 x.aV.length c_1_1_2, .int .i64 (x.Next), .slice B_3_7 ((x.aT ++ [(⟨IntKind.i64.wrap (x.bO + 1), n⟩ : GQuestion)]).length) c_3_7, .int .i64 (IntKind.i64.wrap (x.bO + 1)), .slice B_1_1_6 x.bA.length c_1_1_6], hR aY 197 (.slice B_3_7 ((x.aT ++ [(⟨IntKind.i64.wrap (x.bO + 1), n⟩ : GQuestion)]).length) c_3_7) (x.aT ++ [(⟨IntKind.i64.wrap (x.bO + 1), n⟩ : GQuestion)]), hR bE 188 (.slice B_1_1_2 x.aV.length c_1_1_2) x.aV, hR aY 197 (.slice B_1_1_6 x.bA.length c_1_1_6) x.bA, hB g_0_0 138 #[.int .i64 (x.bD), .bool (x.Up), .slice Ax2 x.aV.length cx2, .int .i64 (x.Next), .slice Ax4 x.aT.length cx4, .int .i64 (x.bO), .slice Ax6 x.bA.length cx6]] W37.drew := H42.pick [4, 0, 1, 2, 3, 5] kD rfl; clear H42
 refine bG rfl Try.sizeOf138 rfl rfl rfl rfl kS H47 ?_
 intro W44 hu45 Ha46; clear H47; clear hu45
 have hS49 := Ha46.blk 1 rfl; refine ⟨fun _ => hS49, ?_⟩
 refine aO (i := 4) rfl kR kR kR kR kR (fun _ _ _ h => h) rfl rfl hS49 (fun W' hs' => aR rfl) ?_
 refine cB kR ?_ _
 refine aK ?_
 refine wp_ret ?_
 refine iM (.inl rfl) Try.results123 Try.isAgg138 Try.sizeOf138 rfl rfl (Ha46.blk 0 rfl) rfl ?_
 have H50 : St w No [hR bE 188 (.slice B_1_1_2 x.aV.length c_1_1_2) x.aV, hR aY 197 (.slice B_3_7 ((x.aT ++ [(⟨IntKind.i64.wrap (x.bO + 1), n⟩ : GQuestion)]).length) c_3_7) (x.aT ++ [(⟨IntKind.i64.wrap (x.bO + 1), n⟩ : GQuestion)]), hR aY 197 (.slice B_1_1_6 x.bA.length c_1_1_6) x.bA, hB g_0_1 138 #[.int .i64 (x.bD), .bool (x.Up), .slice B_1_1_2 x.aV.length c_1_1_2, .int .i64 (x.Next), .slice B_3_7 ((x.aT ++ [(⟨IntKind.i64.wrap (x.bO + 1), n⟩ : GQuestion)]).length) c_3_7, .int .i64 (IntKind.i64.wrap (x.bO + 1)), .slice B_1_1_6 x.bA.length c_1_1_6], hB g_1_2 138 #[.int .i64 (x.bD), .bool (x.Up), .slice B_1_1_2 x.aV.length c_1_1_2, .int .i64 (x.Next), .slice B_3_7 ((x.aT ++ [(⟨IntKind.i64.wrap (x.bO + 1), n⟩ : GQuestion)]).length) c_3_7, .int .i64 (IntKind.i64.wrap (x.bO + 1)), .slice B_1_1_6 x.bA.length c_1_1_6], hB g_0_0 138 #[.int .i64 (x.bD), .bool (x.Up), .slice Ax2 x.aV.length cx2, .int .i64 (x.Next), .slice Ax4 x.aT.length cx4, .int .i64 (x.bO), .slice Ax6 x.bA.length cx6]] W44 := Ha46.pick [3, 2, 4, 0, 1, 5] kD rfl; clear Ha46
 have H51 : St w No [hM aW (⟨x.bD, x.Up, x.aV, x.Next, (x.aT ++ [(⟨IntKind.i64.wrap (x.bO + 1), n⟩ : GQuestion)]), IntKind.i64.wrap (x.bO + 1), x.bA⟩ : GLink) [.int .i64 (x.bD), .bool (x.Up), .slice B_1_1_2 x.aV.length c_1_1_2, .int .i64 (x.Next), .slice B_3_7 ((x.aT ++ [(⟨IntKind.i64.wrap (x.bO + 1), n⟩ : GQuestion)]).length) c_3_7, .int .i64 (IntKind.i64.wrap (x.bO + 1)), .slice B_1_1_6 x.bA.length c_1_1_6], hB g_0_1 138 #[.int .i64 (x.bD), .bool (x.Up), .slice B_1_1_2 x.aV.length c_1_1_2, .int .i64 (x.Next), .slice B_3_7 ((x.aT ++ [(⟨IntKind.i64.wrap (x.bO + 1), n⟩ : GQuestion)]).length) c_3_7, .int .i64 (IntKind.i64.wrap (x.bO + 1)), .slice B_1_1_6 x.bA.length c_1_1_6], hB g_1_2 138 #[.int .i64 (x.bD), .bool (x.Up), .slice B_1_1_2 x.aV.length c_1_1_2, .int .i64 (x.Next), .slice B_3_7 ((x.aT ++ [(⟨IntKind.i64.wrap (x.bO + 1), n⟩ : GQuestion)]).length) c_3_7, .int .i64 (IntKind.i64.wrap (x.bO + 1)), .slice B_1_1_6 x.bA.length c_1_1_6], hB g_0_0 138 #[.int .i64 (x.bD), .bool (x.Up), .slice Ax2 x.aV.length cx2, .int .i64 (x.Next), .slice Ax4 x.aT.length cx4, .int .i64 (x.bO), .slice Ax6 x.bA.length cx6]] W44 := H50.swap (l0 := [hR bE 188 (.slice B_1_1_2 x.aV.length c_1_1_2) x.aV, hR aY 197 (.slice B_3_7 ((x.aT ++ [(⟨IntKind.i64.wrap (x.bO + 1), n⟩ : GQuestion)]).length) c_3_7) (x.aT ++ [(⟨IntKind.i64.wrap (x.bO + 1), n⟩ : GQuestion)]), hR aY 197 (.slice B_1_1_6 x.bA.length c_1_1_6) x.bA]) (l' := [hM aW (⟨x.bD, x.Up, x.aV, x.Next, (x.aT ++ [(⟨IntKind.i64.wrap (x.bO + 1), n⟩ : GQuestion)]), IntKind.i64.wrap (x.bO + 1), x.bA⟩ : GLink) [.int .i64 (x.bD), .bool (x.Up), .slice B_1_1_2 x.aV.length c_1_1_2, .int .i64 (x.Next), .slice B_3_7 ((x.aT ++ [(⟨IntKind.i64.wrap (x.bO + 1), n⟩ : GQuestion)]).length) c_3_7, .int .i64 (IntKind.i64.wrap (x.bO + 1)), .slice B_1_1_6 x.bA.length c_1_1_6]]) (fun _ h => Star.one (iE (x := (⟨x.bD, x.Up, x.aV, x.Next, (x.aT ++ [(⟨IntKind.i64.wrap (x.bO + 1), n⟩ : GQuestion)]), IntKind.i64.wrap (x.bO + 1), x.bA⟩ : GLink)) h)); clear H50
 refine ⟨(⟨x.bD, x.Up, x.aV, x.Next, (x.aT ++ [(⟨IntKind.i64.wrap (x.bO + 1), n⟩ : GQuestion)]), IntKind.i64.wrap (x.bO + 1), x.bA⟩ : GLink), _, _, rfl, ?_, (H51.pick [0] kD rfl).star, H51.1⟩
 show bV jP x.aV + bV fO (x.aT ++ [_]) + bV fO x.bA ≤ bV jP x.aV + bV fO x.aT + bV fO x.bA + 1
 rw [szA]
 show bV jP x.aV + (bV fO x.aT + 0 + 1) + bV fO x.bA ≤ _
 omega
end Go.Proofs.YtdfipdpeilegpaaFam
namespace Go.Proofs.YtdfipdpeilegpaaSep
open Go.ChangeShapes Go.WideShapes Go.RowKit
section
variable {P : Program} {ops : Array Oper} {Q : Exit → Act → World → Prop} {md : Region.Mode} {S : World → Prop} {t : Nat}
theorem anyS_firstX {i : Nat} {oi : Oper} {v : Value} (hi : ops[i]? = some oi) (hsel : ∀ (j : Nat) (o : Oper) cs b, ops[j]? = some o → o.op ≠ .select cs b) (hit : i ≠ t)
 (hQ : ∀ c a w, Q (.panic c) (a.put oi.dst v) w → Q (.panic c) a w) :
 ∀ (fuel : Nat) (listed : Array Bool) (a : Act) (w : World),
  (∀ j oj, ops[j]? = some oj → j ≠ i → listed.getD j true = false → (∀ e ∈ oj.after, Region.binds md e = true → e.on ≠ i) → oi.apart ops oj = true) →
  i ∈ Region.ready md ops listed → YieldsIf P ops (fun _ => True) oi v a → (listed.getD t false = false → S w) →
  wpAnyS P md ops Q S t fuel (listed.setIfInBounds i true) (a.put oi.dst v) w → wpAnyS P md ops Q S t (fuel + 1) listed a w := by
 intro fuel
 induction fuel with
 | zero =>
  intro listed a w _ hr hy hS H
  refine ⟨fun h => (by rw [h] at hr; cases hr), fun j hj => ?_⟩
  by_cases hji : j = i
  ·subst hji; exact hy.wpOp hi trivial ⟨fun h => hS (by rw [getD_set_ne false hit] at h; exact h), H⟩
  ·have := ready_mono hj hji
   rw [H.1] at this
   cases this
 | succ fuel ih =>
  intro listed a w hfree hr hy hS H
  refine ⟨fun h => (by rw [h] at hr; cases hr), fun j hj => ?_⟩
  by_cases hji : j = i
  ·subst hji; exact hy.wpOp hi trivial ⟨fun h => hS (by rw [getD_set_ne false hit] at h; exact h), H⟩
  ·have h1 := H.2 j (ready_mono hj hji)
   obtain ⟨hjun, oj, hoj, hall⟩ := mem_ready.1 hj
   have hnot : ∀ e ∈ oj.after, Region.binds md e = true → e.on ≠ i := fun e he hb heq => by
    have h1 := hall e he hb
    have h0 := (mem_ready.1 hr).1
    rw [heq] at h1
    rcases Nat.lt_or_ge i listed.size with h' | h'
    ·simp [h'] at h0 h1; rw [h0] at h1; cases h1
    ·simp [Array.getElem?_eq_none h'] at h1
   have h2 := wpOp_putIf hoj (hfree j oj hoj hji hjun hnot) (fun cs b => hsel i oi cs b hi) (fun cs b => hsel j oj cs b hoj) hQ hy h1
   have hfree' : ∀ k ok, ops[k]? = some ok → k ≠ i → (listed.setIfInBounds j true).getD k true = false →
    (∀ e ∈ ok.after, Region.binds md e = true → e.on ≠ i) → oi.apart ops ok = true := fun k ok hk hki hun hno => by
    refine hfree k ok hk hki ?_ hno
    by_cases hjk : j = k
    ·subst hjk; exact hjun
    ·rw [getD_set_ne true hjk] at hun; exact hun
   have tr : (listed.setIfInBounds j true).getD t false = false → ((listed.setIfInBounds i true).setIfInBounds j true).getD t false = false := fun h => by
    rw [Array.setIfInBounds_comm _ _ (Ne.symm hji), getD_set_ne false hit]
    exact h
   refine wpOp_mono (fun a' w' h3 => ⟨fun h => h3.2.1 (tr h), ih (listed.setIfInBounds j true) a' w' hfree' (ready_mono hr (Ne.symm hji)) h3.1 (fun h => h3.2.1 (tr h)) ?_⟩) h2
   rw [Array.setIfInBounds_comm _ _ hji]
   exact h3.2.2
theorem anyS_takeX {i d n : Nat} {x : Nat → Value} {live : List (Nat × Value)} {dst : Option Nat} {op : Op} {ty : Nat} {pos : String} {aft : Array Edge} {v : Value} {fuel : Nat} {listed : Array Bool} {w : World} (hi : ops[i]? = some ⟨dst, op, ty, pos, aft, none⟩)
 (hs : Region.noSelect ops = true) (hf : Region.free md ops listed i = true) (hr : (Region.ready md ops listed).contains i = true) (hit : (i != t) = true)
 (hQ : ∀ c a w, Q (.panic c) (a.put dst v) w → Q (.panic c) a w) (hd : dst = some d) (hdn : decide (d < n) = true) (hS : listed.getD t false = false → S w) (hy : ∀ W, Rn P ⟨dst, op, ty, pos, aft, none⟩ (bH n x live) W v)
 (h : wpAnyS P md ops Q S t fuel (listed.setIfInBounds i true) (bH n x ((d, v) :: live)) w) : wpAnyS P md ops Q S t (fuel + 1) listed (bH n x live) w := by
 subst hd
 exact anyS_firstX hi (Region.noSelect_spec hs) (by simpa using hit) hQ fuel listed _ w (Region.free_spec hi hf) (by simpa using hr) (.inl ⟨rfl, fun W _ => hy W⟩) hS (by rw [gQ (of_decide_eq_true hdn)]; exact h)
end
end Go.Proofs.YtdfipdpeilegpaaSep
namespace Go.Proofs.YtdfipdpeilegpaaFam
open Go.ChangeShapes Go.WideShapes Go.RowKit Go.Proofs.YtdfipdpeilegpaaSep Go.Proofs.YtdfipdpeilegpaaT Go.Proofs.YtdfipdpeilegpaaK
set_option linter.unusedVariables false
set_option linter.unusedSimpArgs false
attribute [local irreducible] wpOps wpOp
set_option maxHeartbeats 4000000
set_option maxRecDepth 100000
theorem value_s  (bs : List Int) (gc cb : Nat) (A : Option Addr) (F0 : Nat → Prop) (w : World) (hV : CV A bs F0 w) (hn : bs.length ≤ 1048576) (h : Star [bF gc 157 A bs.length cb] w F0) : Calls Try.prog 81 #[.pointer (some ⟨gc, 0, none⟩)] w (fun e' w' => ∃ k v : Int, e' = .returned (.agg #[.int .i64 k, .int .i64 v]) ∧ St w F0 [bF gc 157 A bs.length cb] w') := by
 refine enter 26 [(0, .pointer (some ⟨gc, 0, none⟩))] Try.func81 rfl kR ?_
 intro xj
 have H1 : St w F0 [bF gc 157 A bs.length cb] w := St.iA h
 refine wp_seq ?_
 refine aN [0] rfl ?_
 refine aA ?_
 refine bP rfl Try.zeroValue70 rfl rfl H1 ?_
 intro g_0_0 W2 hu3 Ha4; clear H1; clear hu3
 refine aI ?_
 refine aK ?_
 refine wp_seq ?_
 refine wp_seq ?_
 refine aN [0, 1] rfl ?_
 refine aA ?_
 refine aB rfl (aF rfl) rfl rfl ?_
 refine aA ?_
 have H8 : St w F0 [bF gc 157 A bs.length cb, hB g_0_0 70 #[.int .i64 (0), .int .i64 (0)]] W2 := Ha4.pick [1, 0] kD rfl; clear Ha4
 obtain ⟨F9, hs10, hF11, hfr12⟩ := St.frame (l0 := [bF gc 157 A bs.length cb]) (l := [hB g_0_0 70 #[.int .i64 (0), .int .i64 (0)]]) H8
 refine bC rfl Try.call44 (vs := #[.pointer (some ⟨gc, 0, none⟩), .int .i64 (8)]) rfl rfl rfl (dN 8 _ _ _ _ _ _ (CV.step hV H8.1 hF11) hn hs10) ?_
 rintro e15 W14 ⟨q6, rfl, hq7, Hn13⟩; refine ⟨_, rfl, ?_⟩
 have H16 := hfr12 _ _ Hn13; clear H8
 refine aI ?_
 refine aK ?_
 refine wp_block ?_
 refine wp_seq ?_
 refine aN [0, 1] rfl ?_
 refine aA ?_
 refine aB rfl (bS rfl rfl) rfl rfl ?_
 refine aA ?_
 refine aB rfl (aR rfl) rfl rfl ?_
 refine aI ?_
 refine aK ?_
 refine dB rfl (fun hc17 => ?_) (fun hc17 => ?_)
 ·refine wp_seq ?_
  refine aN [0, 1, 2, 3, 4] rfl ?_
  refine aA ?_
  refine aB rfl (aF rfl) rfl rfl ?_
  refine aA ?_
  refine jU (vs := [(0, .int .i64 (0)), (1, .int .i64 (1)), (2, .int .i64 (2)), (3, .int .i64 (5)), (4, .int .i64 (-1))]) (cells := #[.int .i64 (0), .int .i64 (1), .int .i64 (2), .int .i64 (5), .int .i64 (-1)]) rfl Try.runUnderlying82 Try.sizeOf3 Try.zeroValue3 rfl kD kD kR rfl rfl H16 ?_
  intro g_3_1 W18 hu19 Ha20; clear H16
  have Hb21 := St.boxSc (xs := ([0, 1, 2, 5, -1] : List Int)) (h1 := fun _ => rfl) Ha20 rfl kD rfl; clear hu19
  refine aA ?_
  have H24 : St w F0 [bF gc 157 A bs.length cb, hR Kn.int 3 (.slice (some ⟨g_3_1, 0, none⟩) 5 5) ([0, 1, 2, 5, -1] : List Int), hB g_0_0 70 #[.int .i64 (0), .int .i64 (0)]] W18 := Hb21.pick [1, 0, 2] kD rfl; clear Hb21
  obtain ⟨F25, hs26, hF27, hfr28⟩ := St.frame (l0 := [bF gc 157 A bs.length cb, hR Kn.int 3 (.slice (some ⟨g_3_1, 0, none⟩) 5 5) ([0, 1, 2, 5, -1] : List Int)]) (l := [hB g_0_0 70 #[.int .i64 (0), .int .i64 (0)]]) H24
  refine bC rfl Try.call113 (vs := #[.pointer (some ⟨gc, 0, none⟩), .slice (some ⟨g_3_1, 0, none⟩) 5 5]) rfl rfl rfl (int_s ([0, 1, 2, 5, -1] : List Int) _ _ kD _ _ _ _ _ _ (CV.step hV H24.1 hF27) hn hs26) ?_
  rintro e31 W30 ⟨s22, rfl, hs23, Hn29⟩; refine ⟨_, rfl, ?_⟩
  have H32 := hfr28 _ _ Hn29; clear H24
  refine aA ?_
  refine bC rfl Try.call79 (vs := #[.int .i64 (s22)]) rfl rfl rfl (refValue_w s22 _) ?_
  rintro e37 W36 ⟨k33, v34, rfl, hu35⟩; refine ⟨_, rfl, ?_⟩
  have H38 := H32.no hu35; clear H32
  refine aA ?_
  have H42 : St w F0 [hB g_0_0 70 #[.int .i64 (0), .int .i64 (0)], bF gc 157 A bs.length cb, hR Kn.int 3 (.slice (some ⟨g_3_1, 0, none⟩) 5 5) ([0, 1, 2, 5, -1] : List Int)] W36 := H38.pick [2, 0, 1] kD rfl; clear H38
  refine bG rfl Try.sizeOf70 rfl rfl rfl rfl kS H42 ?_
  intro W39 hu40 Ha41; clear H42; clear hu40
  refine aI ?_
  refine aK ?_
  refine wp_ret ?_
  refine gJ ?_
  refine bY ?_
  refine dI (.inl rfl) Try.results81 Try.isAgg70 Try.sizeOf70 rfl (Ha41.blk 0 rfl) rfl ?_
  exact ⟨_, _, rfl, Ha41.pick [1] kD rfl⟩
 ·refine wp_seq ?_
  refine aN [0, 1] rfl ?_
  refine aA ?_
  refine aB rfl (bS rfl rfl) rfl rfl ?_
  refine aA ?_
  refine aB rfl (aR rfl) rfl rfl ?_
  refine aI ?_
  refine aK ?_
  refine dB rfl (fun hc44 => ?_) (fun hc44 => ?_)
  ·refine wp_seq ?_
   refine aN [0, 1] rfl ?_
   refine aA ?_
   refine bC rfl Try.call84 (vs := #[]) rfl rfl rfl (brokenValue_w _) ?_
   rintro e49 W48 ⟨k45, v46, rfl, hu47⟩; refine ⟨_, rfl, ?_⟩
   have H50 := H16.no hu47; clear H16
   refine aA ?_
   have H54 : St w F0 [hB g_0_0 70 #[.int .i64 (0), .int .i64 (0)], bF gc 157 A bs.length cb] W48 := H50.pick [1, 0] kD rfl; clear H50
   refine bG rfl Try.sizeOf70 rfl rfl rfl rfl kS H54 ?_
   intro W51 hu52 Ha53; clear H54; clear hu52
   refine aI ?_
   refine aK ?_
   refine wp_ret ?_
   refine gJ ?_
   refine bY ?_
   refine dI (.inl rfl) Try.results81 Try.isAgg70 Try.sizeOf70 rfl (Ha53.blk 0 rfl) rfl ?_
   exact ⟨_, _, rfl, Ha53.pick [1] kD rfl⟩
  ·refine wp_seq ?_
   refine aN [0, 1] rfl ?_
   refine aA ?_
   refine aB rfl (bS rfl rfl) rfl rfl ?_
   refine aA ?_
   refine aB rfl (aR rfl) rfl rfl ?_
   refine aI ?_
   refine aK ?_
   refine dB rfl (fun hc56 => ?_) (fun hc56 => ?_)
   ·refine wp_seq ?_
    refine aN [0, 1, 2, 3, 4, 5, 6, 7] rfl ?_
    refine aA ?_
    refine aB rfl (aF rfl) rfl rfl ?_
    refine aA ?_
    refine jU (vs := [(0, .int .i64 (0)), (1, .int .i64 (1)), (2, .int .i64 (2)), (3, .int .i64 (3)), (4, .int .i64 (-1))]) (cells := #[.int .i64 (0), .int .i64 (1), .int .i64 (2), .int .i64 (3), .int .i64 (-1)]) rfl Try.runUnderlying82 Try.sizeOf3 Try.zeroValue3 rfl kD kD kR rfl rfl H16 ?_
    intro g_7_1 W57 hu58 Ha59; clear H16
    have Hb60 := St.boxSc (xs := ([0, 1, 2, 3, -1] : List Int)) (h1 := fun _ => rfl) Ha59 rfl kD rfl; clear hu58
    refine aA ?_
    have H63 : St w F0 [bF gc 157 A bs.length cb, hR Kn.int 3 (.slice (some ⟨g_7_1, 0, none⟩) 5 5) ([0, 1, 2, 3, -1] : List Int), hB g_0_0 70 #[.int .i64 (0), .int .i64 (0)]] W57 := Hb60.pick [1, 0, 2] kD rfl; clear Hb60
    obtain ⟨F64, hs65, hF66, hfr67⟩ := St.frame (l0 := [bF gc 157 A bs.length cb, hR Kn.int 3 (.slice (some ⟨g_7_1, 0, none⟩) 5 5) ([0, 1, 2, 3, -1] : List Int)]) (l := [hB g_0_0 70 #[.int .i64 (0), .int .i64 (0)]]) H63
    refine bC rfl Try.call113 (vs := #[.pointer (some ⟨gc, 0, none⟩), .slice (some ⟨g_7_1, 0, none⟩) 5 5]) rfl rfl rfl (int_s ([0, 1, 2, 3, -1] : List Int) _ _ kD _ _ _ _ _ _ (CV.step hV H63.1 hF66) hn hs65) ?_
    rintro e70 W69 ⟨s61, rfl, hs62, Hn68⟩; refine ⟨_, rfl, ?_⟩
    have H71 := hfr67 _ _ Hn68; clear H63
    refine aA ?_
    refine aB rfl (aF rfl) rfl rfl ?_
    refine aA ?_
    refine jU (vs := [(0, .int .i64 (0)), (1, .int .i64 (-1)), (2, .int .i64 (999999)), (3, .int .i64 (1000000))]) (cells := #[.int .i64 (0), .int .i64 (-1), .int .i64 (999999), .int .i64 (1000000)]) rfl Try.runUnderlying82 Try.sizeOf3 Try.zeroValue3 rfl kD kD kR rfl rfl H71 ?_
    intro g_7_4 W72 hu73 Ha74; clear H71
    have Hb75 := St.boxSc (xs := ([0, -1, 999999, 1000000] : List Int)) (h1 := fun _ => rfl) Ha74 rfl kD rfl; clear hu73
    refine aA ?_
    have H78 : St w F0 [bF gc 157 A bs.length cb, hR Kn.int 3 (.slice (some ⟨g_7_4, 0, none⟩) 4 4) ([0, -1, 999999, 1000000] : List Int), hR Kn.int 3 (.slice (some ⟨g_7_1, 0, none⟩) 5 5) ([0, 1, 2, 3, -1] : List Int), hB g_0_0 70 #[.int .i64 (0), .int .i64 (0)]] W72 := Hb75.pick [1, 0, 2, 3] kD rfl; clear Hb75
    obtain ⟨F79, hs80, hF81, hfr82⟩ := St.frame (l0 := [bF gc 157 A bs.length cb, hR Kn.int 3 (.slice (some ⟨g_7_4, 0, none⟩) 4 4) ([0, -1, 999999, 1000000] : List Int)]) (l := [hR Kn.int 3 (.slice (some ⟨g_7_1, 0, none⟩) 5 5) ([0, 1, 2, 3, -1] : List Int), hB g_0_0 70 #[.int .i64 (0), .int .i64 (0)]]) H78
    refine bC rfl Try.call113 (vs := #[.pointer (some ⟨gc, 0, none⟩), .slice (some ⟨g_7_4, 0, none⟩) 4 4]) rfl rfl rfl (int_s ([0, -1, 999999, 1000000] : List Int) _ _ kD _ _ _ _ _ _ (CV.step hV H78.1 hF81) hn hs80) ?_
    rintro e85 W84 ⟨s76, rfl, hs77, Hn83⟩; refine ⟨_, rfl, ?_⟩
    have H86 := hfr82 _ _ Hn83; clear H78
    refine aA ?_
    refine aB rfl (dS (vs := [(0, .int .i64 (s61)), (1, .int .i64 (s76))]) (cells := #[.int .i64 (s61), .int .i64 (s76)]) rfl kR) rfl rfl ?_
    refine aA ?_
    have H90 : St w F0 [hB g_0_0 70 #[.int .i64 (0), .int .i64 (0)], bF gc 157 A bs.length cb, hR Kn.int 3 (.slice (some ⟨g_7_4, 0, none⟩) 4 4) ([0, -1, 999999, 1000000] : List Int), hR Kn.int 3 (.slice (some ⟨g_7_1, 0, none⟩) 5 5) ([0, 1, 2, 3, -1] : List Int)] W84 := H86.pick [3, 0, 1, 2] kD rfl; clear H86
    refine bG rfl Try.sizeOf70 rfl rfl rfl rfl kS H90 ?_
    intro W87 hu88 Ha89; clear H90; clear hu88
    refine aI ?_
    refine aK ?_
    refine wp_ret ?_
    refine gJ ?_
    refine bY ?_
    refine dI (.inl rfl) Try.results81 Try.isAgg70 Try.sizeOf70 rfl (Ha89.blk 0 rfl) rfl ?_
    exact ⟨_, _, rfl, Ha89.pick [1] kD rfl⟩
   ·refine wp_skip ?_
    refine eP ?_
    refine aK ?_
    refine wp_seq ?_
    refine aN [0, 1, 2, 3] rfl ?_
    refine aA ?_
    refine aB rfl (aF rfl) rfl rfl ?_
    refine aA ?_
    obtain ⟨F94, hs95, hF96, hfr97⟩ := St.frame (l0 := [bF gc 157 A bs.length cb]) (l := [hB g_0_0 70 #[.int .i64 (0), .int .i64 (0)]]) H16
    refine bC rfl Try.call44 (vs := #[.pointer (some ⟨gc, 0, none⟩), .int .i64 (50)]) rfl rfl rfl (dN 50 _ _ _ _ _ _ (CV.step hV H16.1 hF96) hn hs95) ?_
    rintro e100 W99 ⟨q92, rfl, hq93, Hn98⟩; refine ⟨_, rfl, ?_⟩
    have H101 := hfr97 _ _ Hn98; clear H16
    refine aA ?_
    refine bC rfl Try.call122 (vs := #[.int .i64 (q92)]) rfl rfl rfl (jS q92 _) ?_
    rintro e106 W105 ⟨k102, v103, rfl, hu104⟩; refine ⟨_, rfl, ?_⟩
    have H107 := H101.no hu104; clear H101
    refine aA ?_
    have H111 : St w F0 [hB g_0_0 70 #[.int .i64 (0), .int .i64 (0)], bF gc 157 A bs.length cb] W105 := H107.pick [1, 0] kD rfl; clear H107
    refine bG rfl Try.sizeOf70 rfl rfl rfl rfl kS H111 ?_
    intro W108 hu109 Ha110; clear H111; clear hu109
    refine aI ?_
    refine aK ?_
    refine wp_ret ?_
    refine dI (.inl rfl) Try.results81 Try.isAgg70 Try.sizeOf70 rfl (Ha110.blk 0 rfl) rfl ?_
    exact ⟨_, _, rfl, Ha110.pick [1] kD rfl⟩
theorem list_s  (bs : List Int) (gc cb : Nat) (A : Option Addr) (F0 : Nat → Prop) (w : World) (hV : CV A bs F0 w) (hn : bs.length ≤ 1048576) (h : Star [bF gc 157 A bs.length cb] w F0) : Calls Try.prog 129 #[.pointer (some ⟨gc, 0, none⟩)] w (fun e' w' => ∃ B L c, e' = .returned (.slice B L.length c) ∧ L.length ≤ 8 ∧ St w F0 [hR aP 70 (.slice B L.length c) L, bF gc 157 A bs.length cb] w') := by
 refine enter 18 [(0, .pointer (some ⟨gc, 0, none⟩))] Try.func129 rfl kR ?_
 intro xj
 have H1 : St w F0 [bF gc 157 A bs.length cb] w := St.iA h
 refine wp_seq ?_
 refine aN [0] rfl ?_
 refine aA ?_
 refine aB rfl (aR rfl) rfl rfl ?_
 refine aI ?_
 refine aK ?_
 refine wp_seq ?_
 refine aN [0, 1] rfl ?_
 refine aA ?_
 refine op_slice0 (dk := aP) rfl Try.runUnderlying74 Try.sizeOf70 rfl rfl H1 ?_
 intro A_1_0 W2 hu3 Ha4; clear H1; clear hu3
 refine aA ?_
 refine aB rfl (aR rfl) rfl rfl ?_
 refine aI ?_
 refine aK ?_
 refine wp_seq ?_
 refine wp_seq ?_
 refine aN [0, 1, 2] rfl ?_
 refine aA ?_
 refine aB rfl (aF rfl) rfl rfl ?_
 refine aA ?_
 have H9 : St w F0 [bF gc 157 A bs.length cb, hR aP 70 (.slice A_1_0 0 0) ([])] W2 := Ha4.pick [1, 0] kD rfl; clear Ha4
 obtain ⟨F10, hs11, hF12, hfr13⟩ := St.frame (l0 := [bF gc 157 A bs.length cb]) (l := [hR aP 70 (.slice A_1_0 0 0) ([])]) H9
 refine bC rfl Try.call44 (vs := #[.pointer (some ⟨gc, 0, none⟩), .int .i64 (4)]) rfl rfl rfl (dN 4 _ _ _ _ _ _ (CV.step hV H9.1 hF12) hn hs11) ?_
 rintro e16 W15 ⟨q6, rfl, hq7, Hn14⟩; refine ⟨_, rfl, ?_⟩
 have H17 := hfr13 _ _ Hn14; clear H9
 obtain ⟨n8, rfl⟩ : ∃ z : Nat, q6 = z := ⟨q6.toNat, by omega⟩
 refine aA ?_
 refine aB rfl (aR rfl) rfl rfl ?_
 refine aI ?_
 refine aK ?_
 refine wp_block ?_
 refine wp_loop_ghost (fun r a' W' => ∃ (d : Nat) (L : List GValue) (AL : Option Addr) (cL : Nat) (x' : Nat → Value), a' = bH 18 x' [(0, .pointer (some ⟨gc, 0, none⟩)), (3, .slice AL L.length cL), (4, .int .i64 (((d : Nat) : Int)))] ∧ (d = r) ∧ (L.length + d ≤ 8) ∧ St w F0 [bF gc 157 A bs.length cb, hR aP 70 (.slice AL L.length cL) L] W') n8 ?_ ?_
 ·exact (aZ [(0, .pointer (some ⟨gc, 0, none⟩)), (3, .slice A_1_0 0 0), (4, .int .i64 (((n8 : Nat) : Int)))] rfl).elim fun x' hx => ⟨n8, [], A_1_0, 0, x', hx, rfl, (show 0 + _ ≤ _ by omega), H17⟩
 ·rintro r18 _ W19 ⟨d, L, AL, cL, x20, rfl, hd, hL, H21⟩; clear H17
  refine wp_seq ?_
  refine wp_seq ?_
  refine aN [0, 1] rfl ?_
  refine aA ?_
  refine aB rfl (aF rfl) rfl rfl ?_
  refine aA ?_
  refine aB rfl (rn_gtr rfl rfl) rfl rfl ?_
  refine aI ?_
  refine aK ?_
  refine dB rfl (fun hc22 => ?_) (fun hc22 => ?_)
  ·refine wp_skip ?_
   refine aK ?_
   refine wp_seq ?_
   refine wp_block ?_
   refine aN [0, 1, 2, 3, 4, 5] rfl ?_
   refine aA ?_
   refine aB rfl (aF rfl) rfl rfl ?_
   refine aA ?_
   refine aB rfl (aF rfl) rfl rfl ?_
   refine aA ?_
   obtain ⟨F25, hs26, hF27, hfr28⟩ := St.frame (l0 := [bF gc 157 A bs.length cb]) (l := [hR aP 70 (.slice AL L.length cL) L]) H21
   refine bC rfl Try.call81 (vs := #[.pointer (some ⟨gc, 0, none⟩)]) rfl rfl rfl (value_s _ _ _ _ _ _ (CV.step hV H21.1 hF27) hn hs26) ?_
   rintro e31 W30 ⟨k23, v24, rfl, Hn29⟩; refine ⟨_, rfl, ?_⟩
   have H32 := hfr28 _ _ Hn29; clear H21
   refine aA ?_
   refine dD rfl Try.runUnderlying74 Try.sizeOf70 kD Try.zeroValue70 rfl rfl rfl rfl H32 ?_
   intro g_5_3 W33 hu34 Ha35; clear H32; clear hu34
   refine aA ?_
   have H39 : St w F0 [hR aP 70 (.slice AL L.length cL) L, hB g_5_3 70 #[.int .i64 (k23), .int .i64 (v24)], bF gc 157 A bs.length cb] W33 := Ha35.pick [2, 0, 1] kD rfl; clear Ha35
   refine iY (xs := L) (p := (⟨k23, v24⟩ : GValue)) (n' := (L ++ [(⟨k23, v24⟩ : GValue)]).length) (ys := (L ++ [(⟨k23, v24⟩ : GValue)])) rfl Try.underlying74 iN rfl kD kD rfl rfl (lF _ No (⟨k23, v24⟩ : GValue)) kO (by rw [List.length_append]; rfl) rfl rfl rfl H39 ?_
   intro B_5_4 c_5_4 W37 Ha38; clear H39
   refine aA ?_
   refine aB rfl (aR rfl) rfl rfl ?_
   refine aI ?_
   refine eP ?_
   refine aK ?_
   refine aN [0, 1, 2] rfl ?_
   refine aA ?_
   refine aB rfl (aF rfl) rfl rfl ?_
   refine aA ?_
   refine aB rfl (rn_int (q := ((d - 1 : Nat) : Int)) kO (kF rfl rfl kO)) rfl rfl ?_
   refine aA ?_
   refine aB rfl (aR rfl) rfl rfl ?_
   refine aI ?_
   refine aK ?_
   exact (aZ [(0, .pointer (some ⟨gc, 0, none⟩)), (3, .slice B_5_4 ((L ++ [(⟨k23, v24⟩ : GValue)]).length) c_5_4), (4, .int .i64 (((d - 1 : Nat) : Int)))] rfl).elim fun x' hx => ⟨r18 - 1, kO, d - 1, (L ++ [(⟨k23, v24⟩ : GValue)]), B_5_4, c_5_4, x', hx, kO, (by rw [List.length_append]; show L.length + 1 + _ ≤ _; omega), Ha38.pick [1, 0] kD rfl⟩
  ·refine wp_exit ?_
   refine dX ?_
   refine dX ?_
   refine iH ?_
   refine aK ?_
   refine wp_seq ?_
   refine aN [0, 1] rfl ?_
   refine aA ?_
   refine aB rfl (aF rfl) rfl rfl ?_
   refine aA ?_
   refine aB rfl (aR rfl) rfl rfl ?_
   refine aI ?_
   refine aK ?_
   refine wp_ret ?_
   refine bI (.inl rfl) Try.results129 rfl ?_
   exact ⟨_, _, _, rfl, by omega, H21.pick [1, 0] kD rfl⟩
theorem sent_s  (bs : List Int) (gc cb : Nat) (A : Option Addr) (F0 : Nat → Prop) (w : World) (hV : CV A bs F0 w) (hn : bs.length ≤ 1048576) (h : Star [bF gc 157 A bs.length cb] w F0) : Calls Try.prog 130 #[.pointer (some ⟨gc, 0, none⟩)] w (fun e' w' => ∃ m cs, e' = .returned (.agg (List.toArray cs)) ∧ bT m ≤ 20 ∧ St w F0 [hM aH m cs, bF gc 157 A bs.length cb] w') := by
 refine enter 36 [(0, .pointer (some ⟨gc, 0, none⟩))] Try.func130 rfl kR ?_
 intro xj
 have H1 : St w F0 [bF gc 157 A bs.length cb] w := St.iA h
 refine wp_seq ?_
 refine aN [0] rfl ?_
 refine aA ?_
 refine bP rfl Try.zeroValue181 rfl rfl H1 ?_
 intro g_0_0 W2 hu3 Ha4; clear H1; clear hu3
 refine aI ?_
 refine aK ?_
 refine wp_seq ?_
 refine aN [0, 1, 2, 3, 4, 5, 6, 7, 8, 9, 10, 11, 12, 13, 14, 15, 16, 17] rfl ?_
 refine aA ?_
 refine aB rfl (aF rfl) rfl rfl ?_
 refine aA ?_
 have H8 : St w F0 [bF gc 157 A bs.length cb, hB g_0_0 181 #[.int .i64 (0), .string (⟨#[]⟩), .slice none 0 0, .int .i64 (0), .int .i64 (0), .int .i64 (0), .int .i64 (0)]] W2 := Ha4.pick [1, 0] kD rfl; clear Ha4
 obtain ⟨F9, hs10, hF11, hfr12⟩ := St.frame (l0 := [bF gc 157 A bs.length cb]) (l := [hB g_0_0 181 #[.int .i64 (0), .string (⟨#[]⟩), .slice none 0 0, .int .i64 (0), .int .i64 (0), .int .i64 (0), .int .i64 (0)]]) H8
 refine bC rfl Try.call44 (vs := #[.pointer (some ⟨gc, 0, none⟩), .int .i64 (4)]) rfl rfl rfl (dN 4 _ _ _ _ _ _ (CV.step hV H8.1 hF11) hn hs10) ?_
 rintro e15 W14 ⟨q6, rfl, hq7, Hn13⟩; refine ⟨_, rfl, ?_⟩
 have H16 := hfr12 _ _ Hn13; clear H8
 refine aA ?_
 refine aB rfl (aF rfl) rfl rfl ?_
 refine aA ?_
 obtain ⟨F19, hs20, hF21, hfr22⟩ := St.frame (l0 := [bF gc 157 A bs.length cb]) (l := [hB g_0_0 181 #[.int .i64 (0), .string (⟨#[]⟩), .slice none 0 0, .int .i64 (0), .int .i64 (0), .int .i64 (0), .int .i64 (0)]]) H16
 refine bC rfl Try.call63 (vs := #[.pointer (some ⟨gc, 0, none⟩)]) rfl rfl rfl (name_s _ _ _ _ _ _ (CV.step hV H16.1 hF21) hn hs20) ?_
 rintro e25 W24 ⟨s17, rfl, hs18, Hn23⟩; refine ⟨_, rfl, ?_⟩
 have H26 := hfr22 _ _ Hn23; clear H16
 refine aA ?_
 refine aB rfl (aF rfl) rfl rfl ?_
 refine aA ?_
 obtain ⟨F29, hs30, hF31, hfr32⟩ := St.frame (l0 := [bF gc 157 A bs.length cb]) (l := [hB g_0_0 181 #[.int .i64 (0), .string (⟨#[]⟩), .slice none 0 0, .int .i64 (0), .int .i64 (0), .int .i64 (0), .int .i64 (0)]]) H26
 refine bC rfl Try.call44 (vs := #[.pointer (some ⟨gc, 0, none⟩), .int .i64 (4)]) rfl rfl rfl (dN 4 _ _ _ _ _ _ (CV.step hV H26.1 hF31) hn hs30) ?_
 rintro e35 W34 ⟨q27, rfl, hq28, Hn33⟩; refine ⟨_, rfl, ?_⟩
 have H36 := hfr32 _ _ Hn33; clear H26
 refine aA ?_
 refine aB rfl (aF rfl) rfl rfl ?_
 refine aA ?_
 obtain ⟨F39, hs40, hF41, hfr42⟩ := St.frame (l0 := [bF gc 157 A bs.length cb]) (l := [hB g_0_0 181 #[.int .i64 (0), .string (⟨#[]⟩), .slice none 0 0, .int .i64 (0), .int .i64 (0), .int .i64 (0), .int .i64 (0)]]) H36
 refine bC rfl Try.call44 (vs := #[.pointer (some ⟨gc, 0, none⟩), .int .i64 (3)]) rfl rfl rfl (dN 3 _ _ _ _ _ _ (CV.step hV H36.1 hF41) hn hs40) ?_
 rintro e45 W44 ⟨q37, rfl, hq38, Hn43⟩; refine ⟨_, rfl, ?_⟩
 have H46 := hfr42 _ _ Hn43; clear H36
 refine aA ?_
 refine aB rfl (gV rfl rfl kO) rfl rfl ?_
 refine aA ?_
 refine aB rfl (aF rfl) rfl rfl ?_
 refine aA ?_
 obtain ⟨F49, hs50, hF51, hfr52⟩ := St.frame (l0 := [bF gc 157 A bs.length cb]) (l := [hB g_0_0 181 #[.int .i64 (0), .string (⟨#[]⟩), .slice none 0 0, .int .i64 (0), .int .i64 (0), .int .i64 (0), .int .i64 (0)]]) H46
 refine bC rfl Try.call44 (vs := #[.pointer (some ⟨gc, 0, none⟩), .int .i64 (4)]) rfl rfl rfl (dN 4 _ _ _ _ _ _ (CV.step hV H46.1 hF51) hn hs50) ?_
 rintro e55 W54 ⟨q47, rfl, hq48, Hn53⟩; refine ⟨_, rfl, ?_⟩
 have H56 := hfr52 _ _ Hn53; clear H46
 refine aA ?_
 refine aB rfl (aF rfl) rfl rfl ?_
 refine aA ?_
 obtain ⟨F59, hs60, hF61, hfr62⟩ := St.frame (l0 := [bF gc 157 A bs.length cb]) (l := [hB g_0_0 181 #[.int .i64 (0), .string (⟨#[]⟩), .slice none 0 0, .int .i64 (0), .int .i64 (0), .int .i64 (0), .int .i64 (0)]]) H56
 refine bC rfl Try.call44 (vs := #[.pointer (some ⟨gc, 0, none⟩), .int .i64 (9)]) rfl rfl rfl (dN 9 _ _ _ _ _ _ (CV.step hV H56.1 hF61) hn hs60) ?_
 rintro e65 W64 ⟨q57, rfl, hq58, Hn63⟩; refine ⟨_, rfl, ?_⟩
 have H66 := hfr62 _ _ Hn63; clear H56
 refine aA ?_
 refine aB rfl (gV rfl rfl kO) rfl rfl ?_
 refine aA ?_
 refine aB rfl (dS (vs := [(0, .int .i64 ((1 + q37))), (1, .int .i64 (q47)), (2, .int .i64 ((1 + q57)))]) (cells := #[.int .i64 ((1 + q37)), .int .i64 (q47), .int .i64 ((1 + q57))]) rfl kR) rfl rfl ?_
 refine aA ?_
 refine aB rfl (dS (vs := [(0, .int .i64 (q6)), (1, .string (s17)), (3, .int .i64 (q27)), (4, .agg #[.int .i64 ((1 + q37)), .int .i64 (q47), .int .i64 ((1 + q57))])]) (cells := #[.int .i64 (q6), .string (s17), .slice none 0 0, .int .i64 (q27), .int .i64 ((1 + q37)), .int .i64 (q47), .int .i64 ((1 + q57))]) rfl kR) rfl rfl ?_
 refine aA ?_
 refine bP rfl Try.zeroValue181 rfl rfl H66 ?_
 intro g_1_16 W67 hu68 Ha69; clear H66; clear hu68
 refine aA ?_
 refine bG rfl Try.sizeOf181 rfl rfl rfl rfl kS Ha69 ?_
 intro W71 hu72 Ha73; clear Ha69; clear hu72
 refine aI ?_
 refine aK ?_
 refine wp_seq ?_
 refine wp_seq ?_
 refine aN [0, 1, 2] rfl ?_
 refine aA ?_
 refine aB rfl (aF rfl) rfl rfl ?_
 refine aA ?_
 have H78 : St w F0 [bF gc 157 A bs.length cb, hB g_1_16 181 #[.int .i64 (q6), .string (s17), .slice none 0 0, .int .i64 (q27), .int .i64 ((1 + q37)), .int .i64 (q47), .int .i64 ((1 + q57))], hB g_0_0 181 #[.int .i64 (0), .string (⟨#[]⟩), .slice none 0 0, .int .i64 (0), .int .i64 (0), .int .i64 (0), .int .i64 (0)]] W71 := Ha73.pick [1, 0, 2] kD rfl; clear Ha73
 obtain ⟨F79, hs80, hF81, hfr82⟩ := St.frame (l0 := [bF gc 157 A bs.length cb]) (l := [hB g_1_16 181 #[.int .i64 (q6), .string (s17), .slice none 0 0, .int .i64 (q27), .int .i64 ((1 + q37)), .int .i64 (q47), .int .i64 ((1 + q57))], hB g_0_0 181 #[.int .i64 (0), .string (⟨#[]⟩), .slice none 0 0, .int .i64 (0), .int .i64 (0), .int .i64 (0), .int .i64 (0)]]) H78
 refine bC rfl Try.call44 (vs := #[.pointer (some ⟨gc, 0, none⟩), .int .i64 (3)]) rfl rfl rfl (dN 3 _ _ _ _ _ _ (CV.step hV H78.1 hF81) hn hs80) ?_
 rintro e85 W84 ⟨q75, rfl, hq76, Hn83⟩; refine ⟨_, rfl, ?_⟩
 have H86 := hfr82 _ _ Hn83; clear H78
 obtain ⟨n77, rfl⟩ : ∃ z : Nat, q75 = z := ⟨q75.toNat, by omega⟩
 refine aA ?_
 refine aB rfl (aR rfl) rfl rfl ?_
 refine aI ?_
 refine aK ?_
 refine wp_block ?_
 have H87 : St w F0 [hR aP 70 (.slice none 0 0) ([]), bF gc 157 A bs.length cb, hB g_1_16 181 #[.int .i64 (q6), .string (s17), .slice none 0 0, .int .i64 (q27), .int .i64 ((1 + q37)), .int .i64 (q47), .int .i64 ((1 + q57))], hB g_0_0 181 #[.int .i64 (0), .string (⟨#[]⟩), .slice none 0 0, .int .i64 (0), .int .i64 (0), .int .i64 (0), .int .i64 (0)]] W84 := H86.add0 (q := hR aP 70 (.slice none 0 0) []) gI; clear H86
 refine wp_loop_ghost (fun r a' W' => ∃ (d : Nat) (L : List GValue) (AL : Option Addr) (cL : Nat) (x' : Nat → Value), a' = bH 36 x' [(0, .pointer (some ⟨gc, 0, none⟩)), (2, .pointer (some ⟨g_0_0, 0, none⟩)), (3, .pointer (some ⟨g_1_16, 0, none⟩)), (4, .int .i64 (((d : Nat) : Int)))] ∧ (d = r) ∧ (L.length + d ≤ 8) ∧ St w F0 [hR aP 70 (.slice AL L.length cL) L, bF gc 157 A bs.length cb, hB g_1_16 181 #[.int .i64 (q6), .string (s17), .slice AL L.length cL, .int .i64 (q27), .int .i64 ((1 + q37)), .int .i64 (q47), .int .i64 ((1 + q57))], hB g_0_0 181 #[.int .i64 (0), .string (⟨#[]⟩), .slice none 0 0, .int .i64 (0), .int .i64 (0), .int .i64 (0), .int .i64 (0)]] W') n77 ?_ ?_
 ·exact (aZ [(0, .pointer (some ⟨gc, 0, none⟩)), (2, .pointer (some ⟨g_0_0, 0, none⟩)), (3, .pointer (some ⟨g_1_16, 0, none⟩)), (4, .int .i64 (((n77 : Nat) : Int)))] rfl).elim fun x' hx => ⟨n77, [], none, 0, x', hx, rfl, (show 0 + _ ≤ _ by omega), H87⟩
 ·rintro r88 _ W89 ⟨d, L, AL, cL, x90, rfl, hd, hL, H91⟩; clear H87
  refine wp_seq ?_
  refine wp_seq ?_
  refine aN [0, 1] rfl ?_
  refine aA ?_
  refine aB rfl (aF rfl) rfl rfl ?_
  refine aA ?_
  refine aB rfl (rn_gtr rfl rfl) rfl rfl ?_
  refine aI ?_
  refine aK ?_
  refine dB rfl (fun hc92 => ?_) (fun hc92 => ?_)
  ·refine wp_skip ?_
   refine aK ?_
   refine wp_seq ?_
   refine wp_block ?_
   refine dG (fun W' => Blk W' g_1_16 181 #[.int .i64 (q6), .string (s17), .slice AL L.length cL, .int .i64 (q27), .int .i64 ((1 + q37)), .int .i64 (q47), .int .i64 ((1 + q57))]) 8 kR ?_
   have H93 := H91.drew; clear H91
   have hS94 : Blk W89.drew g_1_16 181 #[.int .i64 (q6), .string (s17), .slice AL L.length cL, .int .i64 (q27), .int .i64 ((1 + q37)), .int .i64 (q47), .int .i64 ((1 + q57))] := H93.blk 2 rfl
   refine aO (i := 0) rfl kR kR kR kR kR (fun _ _ _ h => h) rfl rfl hS94 (fun W' hs' => aU fa_181_2 rfl) ?_
   refine aO (i := 1) rfl kR kR kR kR kR (fun _ _ _ h => h) rfl rfl hS94 (fun W' hs' => bB (k := 2) (v := .slice AL L.length cL) Try.isAgg74 rfl hs' rfl) ?_
   refine aO (i := 2) rfl kR kR kR kR kR (fun _ _ _ h => h) rfl rfl hS94 (fun W' hs' => aF rfl) ?_
   refine bM (i := 3) kR ?_
   have H97 : St w F0 [bF gc 157 A bs.length cb, hR aP 70 (.slice AL L.length cL) L, hB g_1_16 181 #[.int .i64 (q6), .string (s17), .slice AL L.length cL, .int .i64 (q27), .int .i64 ((1 + q37)), .int .i64 (q47), .int .i64 ((1 + q57))], hB g_0_0 181 #[.int .i64 (0), .string (⟨#[]⟩), .slice none 0 0, .int .i64 (0), .int .i64 (0), .int .i64 (0), .int .i64 (0)]] W89.drew := H93.pick [1, 0, 2, 3] kD rfl; clear H93
   obtain ⟨F98, hs99, hF100, hfr101⟩ := St.frame (l0 := [bF gc 157 A bs.length cb]) (l := [hR aP 70 (.slice AL L.length cL) L, hB g_1_16 181 #[.int .i64 (q6), .string (s17), .slice AL L.length cL, .int .i64 (q27), .int .i64 ((1 + q37)), .int .i64 (q47), .int .i64 ((1 + q57))], hB g_0_0 181 #[.int .i64 (0), .string (⟨#[]⟩), .slice none 0 0, .int .i64 (0), .int .i64 (0), .int .i64 (0), .int .i64 (0)]]) H97
   refine bC rfl Try.call44 (vs := #[.pointer (some ⟨gc, 0, none⟩), .int .i64 (9)]) rfl rfl rfl (dN 9 _ _ _ _ _ _ (CV.step hV H97.1 hF100) hn hs99) ?_
   rintro e104 W103 ⟨q95, rfl, hq96, Hn102⟩; refine ⟨_, rfl, ?_⟩
   have H105 := hfr101 _ _ Hn102; clear H97
   have hS106 := H105.blk 2 rfl; refine ⟨fun _ => hS106, ?_⟩
   refine bM (i := 4) kR ?_
   refine bC rfl Try.call122 (vs := #[.int .i64 (q95)]) rfl rfl rfl (jS q95 _) ?_
   rintro e111 W110 ⟨k107, v108, rfl, hu109⟩; refine ⟨_, rfl, ?_⟩
   have H112 := H105.no hu109; clear H105
   have hS113 := H112.blk 2 rfl; refine ⟨fun _ => hS113, ?_⟩
   refine bM (i := 5) kR ?_
   refine dD rfl Try.runUnderlying74 Try.sizeOf70 kD Try.zeroValue70 rfl rfl rfl rfl H112 ?_
   intro g_5_5 W114 hu115 Ha116; clear H112; clear hu115
   have hS118 := Ha116.blk 3 rfl; refine ⟨fun _ => hS118, ?_⟩
   refine bM (i := 6) kR ?_
   have H121 : St w F0 [hR aP 70 (.slice AL L.length cL) L, hB g_5_5 70 #[.int .i64 (k107), .int .i64 (v108)], bF gc 157 A bs.length cb, hB g_1_16 181 #[.int .i64 (q6), .string (s17), .slice AL L.length cL, .int .i64 (q27), .int .i64 ((1 + q37)), .int .i64 (q47), .int .i64 ((1 + q57))], hB g_0_0 181 #[.int .i64 (0), .string (⟨#[]⟩), .slice none 0 0, .int .i64 (0), .int .i64 (0), .int .i64 (0), .int .i64 (0)]] W114 := Ha116.pick [2, 0, 1, 3, 4] kD rfl; clear Ha116
   refine iY (xs := L) (p := (⟨k107, v108⟩ : GValue)) (n' := (L ++ [(⟨k107, v108⟩ : GValue)]).length) (ys := (L ++ [(⟨k107, v108⟩ : GValue)])) rfl Try.underlying74 iN rfl kD kD rfl rfl (lF _ No (⟨k107, v108⟩ : GValue)) kO (by rw [List.length_append]; rfl) rfl rfl rfl H121 ?_
   intro B_5_6 c_5_6 W119 Ha120; clear H121
   have hS123 := Ha120.blk 2 rfl; refine ⟨fun _ => hS123, ?_⟩
   refine aO (i := 7) rfl kR kR kR kR kR (fun _ _ _ h => h) rfl rfl hS123 (fun W' hs' => aU fa_181_2 rfl) ?_
   refine bM (i := 8) kR ?_
   have H127 : St w F0 [hB g_1_16 181 #[.int .i64 (q6), .string (s17), .slice AL L.length cL, .int .i64 (q27), .int .i64 ((1 + q37)), .int .i64 (q47), .int .i64 ((1 + q57))], hR aP 70 (.slice B_5_6 ((L ++ [(⟨k107, v108⟩ : GValue)]).length) c_5_6) (L ++ [(⟨k107, v108⟩ : GValue)]), bF gc 157 A bs.length cb, hB g_0_0 181 #[.int .i64 (0), .string (⟨#[]⟩), .slice none 0 0, .int .i64 (0), .int .i64 (0), .int .i64 (0), .int .i64 (0)]] W119 := Ha120.pick [2, 0, 1, 3] kD rfl; clear Ha120
   refine bR rfl Try.sizeOf74 rfl rfl rfl (Nat.le_of_ble_eq_true rfl) (by simp [Value.cells, Value.oneCell']) H127 ?_
   intro W124 hu125 Ha126; clear H127; clear hu125
   refine ⟨fun h => absS kR h, ?_⟩
   refine cB kR ?_ _
   refine eP ?_
   refine aK ?_
   refine aN [0, 1, 2] rfl ?_
   refine aA ?_
   refine aB rfl (aF rfl) rfl rfl ?_
   refine aA ?_
   refine aB rfl (rn_int (q := ((d - 1 : Nat) : Int)) kO (kF rfl rfl kO)) rfl rfl ?_
   refine aA ?_
   refine aB rfl (aR rfl) rfl rfl ?_
   refine aI ?_
   refine aK ?_
   exact (aZ [(0, .pointer (some ⟨gc, 0, none⟩)), (2, .pointer (some ⟨g_0_0, 0, none⟩)), (3, .pointer (some ⟨g_1_16, 0, none⟩)), (4, .int .i64 (((d - 1 : Nat) : Int)))] rfl).elim fun x' hx => ⟨r88 - 1, kO, d - 1, (L ++ [(⟨k107, v108⟩ : GValue)]), B_5_6, c_5_6, x', hx, kO, (by rw [List.length_append]; show L.length + 1 + _ ≤ _; omega), Ha126.pick [1, 2, 0, 3] kD rfl⟩
  ·refine wp_exit ?_
   refine dX ?_
   refine dX ?_
   refine iH ?_
   refine aK ?_
   refine wp_seq ?_
   refine aN [0, 1] rfl ?_
   refine aA ?_
   refine aB rfl (bN Try.isAgg181 Try.sizeOf181 rfl (H91.blk 2 rfl) rfl) rfl rfl ?_
   refine aA ?_
   have H132 : St w F0 [hB g_0_0 181 #[.int .i64 (0), .string (⟨#[]⟩), .slice none 0 0, .int .i64 (0), .int .i64 (0), .int .i64 (0), .int .i64 (0)], hR aP 70 (.slice AL L.length cL) L, bF gc 157 A bs.length cb, hB g_1_16 181 #[.int .i64 (q6), .string (s17), .slice AL L.length cL, .int .i64 (q27), .int .i64 ((1 + q37)), .int .i64 (q47), .int .i64 ((1 + q57))]] W89 := H91.pick [3, 0, 1, 2] kD rfl; clear H91
   refine bG rfl Try.sizeOf181 rfl rfl rfl rfl kS H132 ?_
   intro W129 hu130 Ha131; clear H132; clear hu130
   refine aI ?_
   refine aK ?_
   refine wp_ret ?_
   refine dI (.inl rfl) Try.results130 Try.isAgg181 Try.sizeOf181 rfl (Ha131.blk 0 rfl) rfl ?_
   have H134 : St w F0 [hR aP 70 (.slice AL L.length cL) L, hB g_0_0 181 #[.int .i64 (q6), .string (s17), .slice AL L.length cL, .int .i64 (q27), .int .i64 ((1 + q37)), .int .i64 (q47), .int .i64 ((1 + q57))], bF gc 157 A bs.length cb, hB g_1_16 181 #[.int .i64 (q6), .string (s17), .slice AL L.length cL, .int .i64 (q27), .int .i64 ((1 + q37)), .int .i64 (q47), .int .i64 ((1 + q57))]] W129 := Ha131.pick [1, 0, 2, 3] kD rfl; clear Ha131
   have H135 : St w F0 [hM aH (⟨q6, s17, L, q27, (⟨(1 + q37), q47, (1 + q57)⟩ : GTag)⟩ : GSent) [.int .i64 (q6), .string (s17), .slice AL L.length cL, .int .i64 (q27), .int .i64 ((1 + q37)), .int .i64 (q47), .int .i64 ((1 + q57))], hB g_0_0 181 #[.int .i64 (q6), .string (s17), .slice AL L.length cL, .int .i64 (q27), .int .i64 ((1 + q37)), .int .i64 (q47), .int .i64 ((1 + q57))], bF gc 157 A bs.length cb, hB g_1_16 181 #[.int .i64 (q6), .string (s17), .slice AL L.length cL, .int .i64 (q27), .int .i64 ((1 + q37)), .int .i64 (q47), .int .i64 ((1 + q57))]] W129 := H134.swap (l0 := [hR aP 70 (.slice AL L.length cL) L]) (l' := [hM aH (⟨q6, s17, L, q27, (⟨(1 + q37), q47, (1 + q57)⟩ : GTag)⟩ : GSent) [.int .i64 (q6), .string (s17), .slice AL L.length cL, .int .i64 (q27), .int .i64 ((1 + q37)), .int .i64 (q47), .int .i64 ((1 + q57))]]) (fun _ h => Star.one (ki_Sent_close (x := (⟨q6, s17, L, q27, (⟨(1 + q37), q47, (1 + q57)⟩ : GTag)⟩ : GSent)) h)); clear H134
   exact ⟨(⟨q6, s17, L, q27, (⟨(1 + q37), q47, (1 + q57)⟩ : GTag)⟩ : GSent), _, rfl, ssz _ _ _ _ _ hs18 kO, H135.pick [0, 2] kD rfl⟩
end Go.Proofs.YtdfipdpeilegpaaFam
