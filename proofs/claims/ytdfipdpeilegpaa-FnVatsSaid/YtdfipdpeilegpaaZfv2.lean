/- What the row needs, packed. No conditions beyond those that each law names. -/
import Derived.Test.YtdfipdpeilegpaaZfv1
import Derived.Test.YtdfipdpeilegpaaProg
import Derived.WalkKit
import Derived.KernelRfl
import Derived.RowKit3
import Derived.Deep.LoopGhost
import Derived.Deep.QuietTactic
import Derived.BigQuiet
import Derived.StillTailTactics
import Derived.Deep.RegionHeld3
namespace Go.Proofs.YtdfipdpeilegpaaFam
open Go.ChangeShapes Go.WideShapes Go.RowKit Go.Proofs.YtdfipdpeilegpaaSep Go.Proofs.YtdfipdpeilegpaaT Go.Proofs.YtdfipdpeilegpaaK
set_option linter.unusedVariables false
set_option linter.unusedSimpArgs false
attribute [local irreducible] wpOps wpOp
set_option maxHeartbeats 4000000
set_option maxRecDepth 100000
theorem l12Copy_s (x : GVat) (cs : List Value) (w : World) (h : bK.K w x cs) (hs : eX x ≤ 4194304) : Calls Try.prog 125 #[.agg cs.toArray] w (iP bK x w) := by
 obtain ⟨Ax1, cx1, Ax2, cx2, Ax3, cx3, Ax4, cx4, rfl, hlx1, hCx1, hlx2, hCx2, hlx3, hCx3, hlx4, hCx4⟩ := lC h
 have s_Entities : bV bU x.aC ≤ 4194304 := by unfold eX at hs; omega
 have n_Entities : x.aC.length ≤ 4194304 := by unfold bV at s_Entities; omega
 have s_Loop : bV bT x.Loop ≤ 4194304 := by unfold eX at hs; omega
 have n_Loop : x.Loop.length ≤ 4194304 := by unfold bV at s_Loop; omega
 have s_Links : bV dH x.aJ ≤ 4194304 := by unfold eX at hs; omega
 have n_Links : x.aJ.length ≤ 4194304 := by unfold bV at s_Links; omega
 have s_Out : bV eO x.Out ≤ 4194304 := by unfold eX at hs; omega
 have n_Out : x.Out.length ≤ 4194304 := by unfold bV at s_Out; omega
 refine enter 76 [(0, .agg #[.int .i64 (x.Id), .slice Ax1 x.aC.length cx1, .slice Ax2 x.Loop.length cx2, .slice Ax3 x.aJ.length cx3, .slice Ax4 x.Out.length cx4])] Try.func125 rfl kR ?_
 intro xj
 have H1 : St w No [] w := St.enter
 refine wp_seq ?_
 refine aN [0, 1] rfl ?_
 refine aA ?_
 refine fJ rfl rfl rfl rfl H1 ?_
 intro g_0_0 W2 hu3 Ha4; clear H1; clear hu3
 refine aA ?_
 refine bP rfl Try.zeroValue69 rfl rfl Ha4 ?_
 intro g_0_1 W6 hu7 Ha8; clear Ha4; clear hu7
 refine aI ?_
 refine aK ?_
 refine wp_seq ?_
 refine eU (fun a' W' => ∃ (B_1_4 : Option Addr) (c_1_4 : Nat) (g_1_6 : Nat) (x' : Nat → Value), a' = bH 76 x' [(1, .pointer (some ⟨g_0_0, 0, none⟩)), (2, .pointer (some ⟨g_0_1, 0, none⟩)), (3, .pointer (some ⟨g_1_6, 0, none⟩))] ∧ St w No [hB g_1_6 69 #[.int .i64 (x.Id), .slice none 0 0, .slice B_1_4 x.Loop.length c_1_4, .slice none 0 0, .slice none 0 0], hR aH 181 (.slice B_1_4 x.Loop.length c_1_4) x.Loop, hB g_0_1 69 #[.int .i64 (0), .slice none 0 0, .slice none 0 0, .slice none 0 0, .slice none 0 0], hB g_0_0 69 #[.int .i64 (x.Id), .slice Ax1 x.aC.length cx1, .slice Ax2 x.Loop.length cx2, .slice Ax3 x.aJ.length cx3, .slice Ax4 x.Out.length cx4]] W') ?_ ?_
 ·refine dG (fun W' => Blk W' g_0_0 69 #[.int .i64 (x.Id), .slice Ax1 x.aC.length cx1, .slice Ax2 x.Loop.length cx2, .slice Ax3 x.aJ.length cx3, .slice Ax4 x.Out.length cx4]) 8 kR ?_
  have H10 := Ha8.drew; clear Ha8
  have hS11 : Blk W6.drew g_0_0 69 #[.int .i64 (x.Id), .slice Ax1 x.aC.length cx1, .slice Ax2 x.Loop.length cx2, .slice Ax3 x.aJ.length cx3, .slice Ax4 x.Out.length cx4] := H10.blk 1 rfl
  refine aO (i := 0) rfl kR kR kR kR kR (fun _ _ _ h => h) rfl rfl hS11 (fun W' hs' => aU fa_69_0 rfl) ?_
  refine aO (i := 1) rfl kR kR kR kR kR (fun _ _ _ h => h) rfl rfl hS11 (fun W' hs' => bB (k := 0) (v := .int .i64 (x.Id)) Try.isAgg3 rfl hs' rfl) ?_
  refine aO (i := 2) rfl kR kR kR kR kR (fun _ _ _ h => h) rfl rfl hS11 (fun W' hs' => aU fa_69_2 rfl) ?_
  refine aO (i := 3) rfl kR kR kR kR kR (fun _ _ _ h => h) rfl rfl hS11 (fun W' hs' => bB (k := 2) (v := .slice Ax2 x.Loop.length cx2) Try.isAgg65 rfl hs' rfl) ?_
  refine anyS_two (i := 4) (i2 := 6) kR ?_ ?_
  ·refine bC rfl Try.call156 (vs := #[.slice Ax2 x.Loop.length cx2]) rfl rfl rfl (lM x.Loop _ _ _ (cZ H10.1 hCx2) s_Loop) ?_
   rintro e16 W15 ⟨v12, rfl, hR13, hu14⟩; refine ⟨_, rfl, ?_⟩
   obtain ⟨B_1_4, c_1_4, rfl⟩ := eZ hR13
   have H17 := H10.new (q := hR aH 181 (.slice B_1_4 x.Loop.length c_1_4) x.Loop) hu14 hR13; clear H10
   have hS18 := H17.blk 2 rfl; refine ⟨fun _ => hS18, ?_⟩
   refine aO (i := 5) rfl kR kR kR kR kR (fun _ _ _ h => h) rfl rfl hS18 (fun W' hs' => dS (vs := [(0, .int .i64 (x.Id)), (2, .slice B_1_4 x.Loop.length c_1_4)]) (cells := #[.int .i64 (x.Id), .slice none 0 0, .slice B_1_4 x.Loop.length c_1_4, .slice none 0 0, .slice none 0 0]) rfl kR) ?_
   refine bM (i := 6) kR ?_
   refine bP rfl Try.zeroValue69 rfl rfl H17 ?_
   intro g_1_6 W19 hu20 Ha21; clear H17; clear hu20
   have hS23 := Ha21.blk 3 rfl; refine ⟨fun _ => hS23, ?_⟩
   refine bM (i := 7) kR ?_
   refine bG rfl Try.sizeOf69 rfl rfl rfl rfl kS Ha21 ?_
   intro W24 hu25 Ha26; clear Ha21; clear hu25
   have hS28 := Ha26.blk 3 rfl; refine ⟨fun _ => hS28, ?_⟩
   refine cB kR ?_ _
   exact (aZ [(1, .pointer (some ⟨g_0_0, 0, none⟩)), (2, .pointer (some ⟨g_0_1, 0, none⟩)), (3, .pointer (some ⟨g_1_6, 0, none⟩))] rfl).elim fun x' hx => ⟨B_1_4, c_1_4, g_1_6, x', hx, Ha26⟩
  refine bP rfl Try.zeroValue69 rfl rfl H10 ?_
  intro g_1_6 W29 hu30 Ha31; clear H10; clear hu30
  have hS33 := Ha31.blk 2 rfl; refine ⟨fun _ => hS33, ?_⟩
  refine bM (i := 4) kR ?_
  refine bC rfl Try.call156 (vs := #[.slice Ax2 x.Loop.length cx2]) rfl rfl rfl (lM x.Loop _ _ _ (cZ Ha31.1 hCx2) s_Loop) ?_
  rintro e38 W37 ⟨v34, rfl, hR35, hu36⟩; refine ⟨_, rfl, ?_⟩
  obtain ⟨B_1_4, c_1_4, rfl⟩ := eZ hR35
  have H39 := Ha31.new (q := hR aH 181 (.slice B_1_4 x.Loop.length c_1_4) x.Loop) hu36 hR35; clear Ha31
  have hS40 := H39.blk 3 rfl; refine ⟨fun _ => hS40, ?_⟩
  refine aO (i := 5) rfl kR kR kR kR kR (fun _ _ _ h => h) rfl rfl hS40 (fun W' hs' => dS (vs := [(0, .int .i64 (x.Id)), (2, .slice B_1_4 x.Loop.length c_1_4)]) (cells := #[.int .i64 (x.Id), .slice none 0 0, .slice B_1_4 x.Loop.length c_1_4, .slice none 0 0, .slice none 0 0]) rfl kR) ?_
  refine bM (i := 7) kR ?_
  have H44 : St w No [hB g_1_6 69 #[.int .i64 (0), .slice none 0 0, .slice none 0 0, .slice none 0 0, .slice none 0 0], hR aH 181 (.slice B_1_4 x.Loop.length c_1_4) x.Loop, hB g_0_1 69 #[.int .i64 (0), .slice none 0 0, .slice none 0 0, .slice none 0 0, .slice none 0 0], hB g_0_0 69 #[.int .i64 (x.Id), .slice Ax1 x.aC.length cx1, .slice Ax2 x.Loop.length cx2, .slice Ax3 x.aJ.length cx3, .slice Ax4 x.Out.length cx4]] W37 := H39.pick [1, 0, 2, 3] kD rfl; clear H39
  refine bG rfl Try.sizeOf69 rfl rfl rfl rfl kS H44 ?_
  intro W41 hu42 Ha43; clear H44; clear hu42
  have hS46 := Ha43.blk 3 rfl; refine ⟨fun _ => hS46, ?_⟩
  refine cB kR ?_ _
  exact (aZ [(1, .pointer (some ⟨g_0_0, 0, none⟩)), (2, .pointer (some ⟨g_0_1, 0, none⟩)), (3, .pointer (some ⟨g_1_6, 0, none⟩))] rfl).elim fun x' hx => ⟨B_1_4, c_1_4, g_1_6, x', hx, Ha43⟩
 ·rintro _ W48 ⟨B_1_4, c_1_4, g_1_6, x49, rfl, H47⟩
  refine aK ?_
  refine wp_seq ?_
  refine wp_seq ?_
  refine aN [0] rfl ?_
  refine aA ?_
  refine aB rfl (aR rfl) rfl rfl ?_
  refine aI ?_
  refine aK ?_
  refine wp_block ?_
  have H50 : St w No [hR aL 77 (.slice none 0 0) ([]), hB g_1_6 69 #[.int .i64 (x.Id), .slice none 0 0, .slice B_1_4 x.Loop.length c_1_4, .slice none 0 0, .slice none 0 0], hR aH 181 (.slice B_1_4 x.Loop.length c_1_4) x.Loop, hB g_0_1 69 #[.int .i64 (0), .slice none 0 0, .slice none 0 0, .slice none 0 0, .slice none 0 0], hB g_0_0 69 #[.int .i64 (x.Id), .slice Ax1 x.aC.length cx1, .slice Ax2 x.Loop.length cx2, .slice Ax3 x.aJ.length cx3, .slice Ax4 x.Out.length cx4]] W48 := H47.add0 (q := hR aL 77 (.slice none 0 0) []) gI; clear H47
  refine wp_loop_ghost (fun r a' W' => ∃ (i1 : Nat) (A_1 : Option Addr) (c_1 : Nat) (x' : Nat → Value), a' = bH 76 x' [(1, .pointer (some ⟨g_0_0, 0, none⟩)), (2, .pointer (some ⟨g_0_1, 0, none⟩)), (3, .pointer (some ⟨g_1_6, 0, none⟩)), (4, .int .i64 (((i1 : Nat) : Int)))] ∧ (i1 + r = x.aC.length) ∧ St w No [hR aL 77 (.slice A_1 i1 c_1) (x.aC.take i1), hB g_1_6 69 #[.int .i64 (x.Id), .slice A_1 i1 c_1, .slice B_1_4 x.Loop.length c_1_4, .slice none 0 0, .slice none 0 0], hR aH 181 (.slice B_1_4 x.Loop.length c_1_4) x.Loop, hB g_0_1 69 #[.int .i64 (0), .slice none 0 0, .slice none 0 0, .slice none 0 0, .slice none 0 0], hB g_0_0 69 #[.int .i64 (x.Id), .slice Ax1 x.aC.length cx1, .slice Ax2 x.Loop.length cx2, .slice Ax3 x.aJ.length cx3, .slice Ax4 x.Out.length cx4]] W') x.aC.length ?_ ?_
  ·exact (aZ [(1, .pointer (some ⟨g_0_0, 0, none⟩)), (2, .pointer (some ⟨g_0_1, 0, none⟩)), (3, .pointer (some ⟨g_1_6, 0, none⟩)), (4, .int .i64 (((0 : Nat) : Int)))] rfl).elim fun x' hx => ⟨0, none, 0, x', hx, kO, H50⟩
  ·rintro r51 _ W52 ⟨i1, A_1, c_1, x53, rfl, hi1, H54⟩; clear H50
   refine wp_seq ?_
   refine wp_seq ?_
   refine aN [0, 1, 2, 3, 4] rfl ?_
   refine aA ?_
   refine aB rfl (aF rfl) rfl rfl ?_
   refine aA ?_
   refine aB rfl (aU eD rfl) rfl rfl ?_
   refine aA ?_
   refine aB rfl (bB (k := 1) (v := .slice Ax1 x.aC.length cx1) Try.isAgg64 rfl (H54.blk 4 rfl) rfl) rfl rfl ?_
   refine aA ?_
   refine aB rfl (dP Try.runUnderlying64 rfl) rfl rfl ?_
   refine aA ?_
   refine aB rfl (gB rfl rfl) rfl rfl ?_
   refine aI ?_
   refine aK ?_
   refine dB rfl (fun hc55 => ?_) (fun hc55 => ?_)
   ·have hlt1 : i1 < x.aC.length := by omega
    obtain ⟨ade56, cse56, hAe56, hKe56, hce56⟩ := fT hCx1 i1 hlt1
    have hle56 := cO hKe56
    have hoe56 := fF hKe56
    have hsi1 : bU x.aC[i1] ≤ 4194304 := by have h1 := kQ bU x.aC i1 hlt1; have h2 := s_Entities; unfold bV at h2; omega
    refine wp_skip ?_
    refine aK ?_
    refine wp_seq ?_
    refine wp_block ?_
    refine dG (fun W' => Blk W' g_1_6 69 #[.int .i64 (x.Id), .slice A_1 i1 c_1, .slice B_1_4 x.Loop.length c_1_4, .slice none 0 0, .slice none 0 0] ∧ Blk W' g_0_0 69 #[.int .i64 (x.Id), .slice Ax1 x.aC.length cx1, .slice Ax2 x.Loop.length cx2, .slice Ax3 x.aJ.length cx3, .slice Ax4 x.Out.length cx4] ∧ Cat W' (Addr.add ade56 (i1 * 12)) cse56) 11 kR ?_
    have H57 := H54.drew; clear H54
    have hS58 : Blk W52.drew g_1_6 69 #[.int .i64 (x.Id), .slice A_1 i1 c_1, .slice B_1_4 x.Loop.length c_1_4, .slice none 0 0, .slice none 0 0] ∧ Blk W52.drew g_0_0 69 #[.int .i64 (x.Id), .slice Ax1 x.aC.length cx1, .slice Ax2 x.Loop.length cx2, .slice Ax3 x.aJ.length cx3, .slice Ax4 x.Out.length cx4] ∧ Cat W52.drew (Addr.add ade56 (i1 * 12)) cse56 := ⟨H57.blk 1 rfl, H57.blk 4 rfl, (Cat.upd hce56 H57.1)⟩
    refine aO (i := 0) rfl kR kR kR kR kR (fun _ _ _ h => h) rfl rfl hS58 (fun W' hs' => aU eD rfl) ?_
    refine aO (i := 1) rfl kR kR kR kR kR (fun _ _ _ h => h) rfl rfl hS58 (fun W' hs' => bB (k := 1) (v := .slice A_1 i1 c_1) Try.isAgg64 rfl hs'.1 rfl) ?_
    refine aO (i := 2) rfl kR kR kR kR kR (fun _ _ _ h => h) rfl rfl hS58 (fun W' hs' => aU eD rfl) ?_
    refine aO (i := 3) rfl kR kR kR kR kR (fun _ _ _ h => h) rfl rfl hS58 (fun W' hs' => bB (k := 1) (v := .slice Ax1 x.aC.length cx1) Try.isAgg64 rfl hs'.2.1 rfl) ?_
    refine aO (i := 4) rfl kR kR kR kR kR (fun _ _ _ h => h) rfl rfl hS58 (fun W' hs' => aF rfl) ?_
    refine aO (i := 5) rfl kR kR kR kR kR (fun _ _ _ h => h) rfl rfl hS58 (fun W' hs' => bQ (k := i1) Try.runUnderlying64 Try.sizeOf77 rfl rfl hAe56 hlt1) ?_
    refine aO (i := 6) rfl kR kR kR kR kR (fun _ _ _ h => h) rfl rfl hS58 (fun W' hs' => dR Try.isAgg77 Try.sizeOf77 rfl hs'.2.2 hle56) ?_
    refine bM (i := 7) kR ?_
    refine bC rfl Try.call126 (vs := #[.agg (List.toArray cse56)]) rfl rfl rfl (l9Copy_s x.aC[i1] _ _ (jD H57.1 hKe56) hsi1) ?_
    rintro e62 W61 ⟨cs_5_7, rfl, hM59, hu60⟩; refine ⟨_, rfl, ?_⟩
    have H65 := H57.new (q := hM aL (x.aC[i1]) cs_5_7) hu60 hM59; clear H57
    have hS66 := And.intro (H65.blk 2 rfl) (And.intro (H65.blk 5 rfl) ((Cat.upd hce56 H65.1))); refine ⟨fun _ => hS66, ?_⟩
    refine bM (i := 8) kR ?_
    refine dD rfl Try.runUnderlying64 Try.sizeOf77 kD Try.zeroValue77 rfl (cO (H65.kn 0 rfl)) rfl rfl H65 ?_
    intro g_5_8 W67 hu68 Ha69; clear H65; clear hu68
    have hS71 := And.intro (Ha69.blk 3 rfl) (And.intro (Ha69.blk 6 rfl) ((Cat.upd hce56 Ha69.1))); refine ⟨fun _ => hS71, ?_⟩
    refine bM (i := 9) kR ?_
    have H74 : St w No [hR aL 77 (.slice A_1 i1 c_1) (x.aC.take i1), hB g_5_8 77 (List.toArray cs_5_7), hM aL (x.aC[i1]) cs_5_7, hB g_1_6 69 #[.int .i64 (x.Id), .slice A_1 i1 c_1, .slice B_1_4 x.Loop.length c_1_4, .slice none 0 0, .slice none 0 0], hR aH 181 (.slice B_1_4 x.Loop.length c_1_4) x.Loop, hB g_0_1 69 #[.int .i64 (0), .slice none 0 0, .slice none 0 0, .slice none 0 0, .slice none 0 0], hB g_0_0 69 #[.int .i64 (x.Id), .slice Ax1 x.aC.length cx1, .slice Ax2 x.Loop.length cx2, .slice Ax3 x.aJ.length cx3, .slice Ax4 x.Out.length cx4]] W67 := Ha69.pick [2, 0, 1, 3, 4, 5, 6] kD rfl; clear Ha69
    refine gG (xs := (x.aC.take i1)) (p := x.aC[i1]) (n' := (i1 + 1)) (ys := (x.aC.take (i1 + 1))) rfl Try.underlying64 gY rfl kD kD rfl rfl (by rw [List.length_take, Nat.min_eq_left kO]; omega) (by rw [List.length_take, Nat.min_eq_left kO]) (List.take_succ_eq_append_getElem hlt1).symm rfl rfl H74 ?_
    intro B_5_9 c_5_9 W72 Ha73; clear H74
    have hS76 := And.intro (Ha73.blk 1 rfl) (And.intro (Ha73.blk 4 rfl) ((Cat.upd hce56 Ha73.1))); refine ⟨fun _ => hS76, ?_⟩
    refine aO (i := 10) rfl kR kR kR kR kR (fun _ _ _ h => h) rfl rfl hS76 (fun W' hs' => aU eD rfl) ?_
    refine bM (i := 11) kR ?_
    have H80 : St w No [hB g_1_6 69 #[.int .i64 (x.Id), .slice A_1 i1 c_1, .slice B_1_4 x.Loop.length c_1_4, .slice none 0 0, .slice none 0 0], hR aL 77 (.slice B_5_9 (i1 + 1) c_5_9) (x.aC.take (i1 + 1)), hR aH 181 (.slice B_1_4 x.Loop.length c_1_4) x.Loop, hB g_0_1 69 #[.int .i64 (0), .slice none 0 0, .slice none 0 0, .slice none 0 0, .slice none 0 0], hB g_0_0 69 #[.int .i64 (x.Id), .slice Ax1 x.aC.length cx1, .slice Ax2 x.Loop.length cx2, .slice Ax3 x.aJ.length cx3, .slice Ax4 x.Out.length cx4]] W72 := Ha73.pick [1, 0, 2, 3, 4] kD rfl; clear Ha73
    refine bR rfl Try.sizeOf64 rfl rfl rfl (Nat.le_of_ble_eq_true rfl) (by simp [Value.cells, Value.oneCell']) H80 ?_
    intro W77 hu78 Ha79; clear H80; clear hu78
    refine ⟨fun h => absS kR h, ?_⟩
    refine cB kR ?_ _
    refine eP ?_
    refine aK ?_
    refine aN [0, 1, 2] rfl ?_
    refine aA ?_
    refine aB rfl (aF rfl) rfl rfl ?_
    refine aA ?_
    refine aB rfl (gT (k := i1) rfl rfl kO) rfl rfl ?_
    refine aA ?_
    refine aB rfl (aR rfl) rfl rfl ?_
    refine aI ?_
    refine aK ?_
    exact (aZ [(1, .pointer (some ⟨g_0_0, 0, none⟩)), (2, .pointer (some ⟨g_0_1, 0, none⟩)), (3, .pointer (some ⟨g_1_6, 0, none⟩)), (4, .int .i64 (((i1 + 1 : Nat) : Int)))] rfl).elim fun x' hx => ⟨r51 - 1, kO, i1 + 1, B_5_9, c_5_9, x', hx, kO, Ha79.pick [1, 0, 2, 3, 4] kD rfl⟩
   ·obtain rfl : i1 = x.aC.length := by omega
    rw [List.take_length] at H54
    have H82 : St w No [hR aL 77 (.slice A_1 x.aC.length c_1) x.aC, hB g_1_6 69 #[.int .i64 (x.Id), .slice A_1 x.aC.length c_1, .slice B_1_4 x.Loop.length c_1_4, .slice none 0 0, .slice none 0 0], hR aH 181 (.slice B_1_4 x.Loop.length c_1_4) x.Loop, hB g_0_1 69 #[.int .i64 (0), .slice none 0 0, .slice none 0 0, .slice none 0 0, .slice none 0 0], hB g_0_0 69 #[.int .i64 (x.Id), .slice Ax1 x.aC.length cx1, .slice Ax2 x.Loop.length cx2, .slice Ax3 x.aJ.length cx3, .slice Ax4 x.Out.length cx4]] W52 := H54; clear H54
    refine wp_exit ?_
    refine dX ?_
    refine dX ?_
    refine iH ?_
    refine aK ?_
    refine wp_seq ?_
    refine wp_seq ?_
    refine aN [0] rfl ?_
    refine aA ?_
    refine aB rfl (aR rfl) rfl rfl ?_
    refine aI ?_
    refine aK ?_
    refine wp_block ?_
    have H83 : St w No [hR aW 138 (.slice none 0 0) ([]), hR aL 77 (.slice A_1 x.aC.length c_1) x.aC, hB g_1_6 69 #[.int .i64 (x.Id), .slice A_1 x.aC.length c_1, .slice B_1_4 x.Loop.length c_1_4, .slice none 0 0, .slice none 0 0], hR aH 181 (.slice B_1_4 x.Loop.length c_1_4) x.Loop, hB g_0_1 69 #[.int .i64 (0), .slice none 0 0, .slice none 0 0, .slice none 0 0, .slice none 0 0], hB g_0_0 69 #[.int .i64 (x.Id), .slice Ax1 x.aC.length cx1, .slice Ax2 x.Loop.length cx2, .slice Ax3 x.aJ.length cx3, .slice Ax4 x.Out.length cx4]] W52 := H82.add0 (q := hR aW 138 (.slice none 0 0) []) gI; clear H82
    refine wp_loop_ghost (fun r a' W' => ∃ (i2 : Nat) (A_2 : Option Addr) (c_2 : Nat) (x' : Nat → Value), a' = bH 76 x' [(1, .pointer (some ⟨g_0_0, 0, none⟩)), (2, .pointer (some ⟨g_0_1, 0, none⟩)), (3, .pointer (some ⟨g_1_6, 0, none⟩)), (5, .int .i64 (((i2 : Nat) : Int)))] ∧ (i2 + r = x.aJ.length) ∧ St w No [hR aW 138 (.slice A_2 i2 c_2) (x.aJ.take i2), hR aL 77 (.slice A_1 x.aC.length c_1) x.aC, hB g_1_6 69 #[.int .i64 (x.Id), .slice A_1 x.aC.length c_1, .slice B_1_4 x.Loop.length c_1_4, .slice A_2 i2 c_2, .slice none 0 0], hR aH 181 (.slice B_1_4 x.Loop.length c_1_4) x.Loop, hB g_0_1 69 #[.int .i64 (0), .slice none 0 0, .slice none 0 0, .slice none 0 0, .slice none 0 0], hB g_0_0 69 #[.int .i64 (x.Id), .slice Ax1 x.aC.length cx1, .slice Ax2 x.Loop.length cx2, .slice Ax3 x.aJ.length cx3, .slice Ax4 x.Out.length cx4]] W') x.aJ.length ?_ ?_
    ·exact (aZ [(1, .pointer (some ⟨g_0_0, 0, none⟩)), (2, .pointer (some ⟨g_0_1, 0, none⟩)), (3, .pointer (some ⟨g_1_6, 0, none⟩)), (5, .int .i64 (((0 : Nat) : Int)))] rfl).elim fun x' hx => ⟨0, none, 0, x', hx, kO, H83⟩
    ·rintro r84 _ W85 ⟨i2, A_2, c_2, x86, rfl, hi2, H87⟩; clear H83
     refine wp_seq ?_
     refine wp_seq ?_
     refine aN [0, 1, 2, 3, 4] rfl ?_
     refine aA ?_
     refine aB rfl (aF rfl) rfl rfl ?_
     refine aA ?_
     refine aB rfl (aU gW rfl) rfl rfl ?_
     refine aA ?_
     refine aB rfl (bB (k := 3) (v := .slice Ax3 x.aJ.length cx3) Try.isAgg66 rfl (H87.blk 5 rfl) rfl) rfl rfl ?_
     refine aA ?_
     refine aB rfl (dP Try.runUnderlying66 rfl) rfl rfl ?_
     refine aA ?_
     refine aB rfl (gB rfl rfl) rfl rfl ?_
     refine aI ?_
     refine aK ?_
     refine dB rfl (fun hc88 => ?_) (fun hc88 => ?_)
     ·have hlt2 : i2 < x.aJ.length := by omega
      obtain ⟨ade89, cse89, hAe89, hKe89, hce89⟩ := fT hCx3 i2 hlt2
      have hle89 := gP hKe89
      have hoe89 := iW hKe89
      have hsi2 : dH x.aJ[i2] ≤ 4194304 := by have h1 := kQ dH x.aJ i2 hlt2; have h2 := s_Links; unfold bV at h2; omega
      refine wp_skip ?_
      refine aK ?_
      refine wp_seq ?_
      refine wp_block ?_
      refine dG (fun W' => Blk W' g_1_6 69 #[.int .i64 (x.Id), .slice A_1 x.aC.length c_1, .slice B_1_4 x.Loop.length c_1_4, .slice A_2 i2 c_2, .slice none 0 0] ∧ Blk W' g_0_0 69 #[.int .i64 (x.Id), .slice Ax1 x.aC.length cx1, .slice Ax2 x.Loop.length cx2, .slice Ax3 x.aJ.length cx3, .slice Ax4 x.Out.length cx4] ∧ Cat W' (Addr.add ade89 (i2 * 7)) cse89) 11 kR ?_
      have H90 := H87.drew; clear H87
      have hS91 : Blk W85.drew g_1_6 69 #[.int .i64 (x.Id), .slice A_1 x.aC.length c_1, .slice B_1_4 x.Loop.length c_1_4, .slice A_2 i2 c_2, .slice none 0 0] ∧ Blk W85.drew g_0_0 69 #[.int .i64 (x.Id), .slice Ax1 x.aC.length cx1, .slice Ax2 x.Loop.length cx2, .slice Ax3 x.aJ.length cx3, .slice Ax4 x.Out.length cx4] ∧ Cat W85.drew (Addr.add ade89 (i2 * 7)) cse89 := ⟨H90.blk 2 rfl, H90.blk 5 rfl, (Cat.upd hce89 H90.1)⟩
      refine aO (i := 0) rfl kR kR kR kR kR (fun _ _ _ h => h) rfl rfl hS91 (fun W' hs' => aU gW rfl) ?_
      refine aO (i := 1) rfl kR kR kR kR kR (fun _ _ _ h => h) rfl rfl hS91 (fun W' hs' => bB (k := 3) (v := .slice A_2 i2 c_2) Try.isAgg66 rfl hs'.1 rfl) ?_
      refine aO (i := 2) rfl kR kR kR kR kR (fun _ _ _ h => h) rfl rfl hS91 (fun W' hs' => aU gW rfl) ?_
      refine aO (i := 3) rfl kR kR kR kR kR (fun _ _ _ h => h) rfl rfl hS91 (fun W' hs' => bB (k := 3) (v := .slice Ax3 x.aJ.length cx3) Try.isAgg66 rfl hs'.2.1 rfl) ?_
      refine aO (i := 4) rfl kR kR kR kR kR (fun _ _ _ h => h) rfl rfl hS91 (fun W' hs' => aF rfl) ?_
      refine aO (i := 5) rfl kR kR kR kR kR (fun _ _ _ h => h) rfl rfl hS91 (fun W' hs' => bQ (k := i2) Try.runUnderlying66 Try.sizeOf138 rfl rfl hAe89 hlt2) ?_
      refine aO (i := 6) rfl kR kR kR kR kR (fun _ _ _ h => h) rfl rfl hS91 (fun W' hs' => dR Try.isAgg138 Try.sizeOf138 rfl hs'.2.2 hle89) ?_
      refine bM (i := 7) kR ?_
      refine bC rfl Try.call155 (vs := #[.agg (List.toArray cse89)]) rfl rfl rfl (l10Copy_s x.aJ[i2] _ _ (jD H90.1 hKe89) hsi2) ?_
      rintro e95 W94 ⟨cs_9_7, rfl, hM92, hu93⟩; refine ⟨_, rfl, ?_⟩
      have H98 := H90.new (q := hM aW (x.aJ[i2]) cs_9_7) hu93 hM92; clear H90
      have hS99 := And.intro (H98.blk 3 rfl) (And.intro (H98.blk 6 rfl) ((Cat.upd hce89 H98.1))); refine ⟨fun _ => hS99, ?_⟩
      refine bM (i := 8) kR ?_
      refine dD rfl Try.runUnderlying66 Try.sizeOf138 kD Try.zeroValue138 rfl (gP (H98.kn 0 rfl)) rfl rfl H98 ?_
      intro g_9_8 W100 hu101 Ha102; clear H98; clear hu101
      have hS104 := And.intro (Ha102.blk 4 rfl) (And.intro (Ha102.blk 7 rfl) ((Cat.upd hce89 Ha102.1))); refine ⟨fun _ => hS104, ?_⟩
      refine bM (i := 9) kR ?_
      have H107 : St w No [hR aW 138 (.slice A_2 i2 c_2) (x.aJ.take i2), hB g_9_8 138 (List.toArray cs_9_7), hM aW (x.aJ[i2]) cs_9_7, hR aL 77 (.slice A_1 x.aC.length c_1) x.aC, hB g_1_6 69 #[.int .i64 (x.Id), .slice A_1 x.aC.length c_1, .slice B_1_4 x.Loop.length c_1_4, .slice A_2 i2 c_2, .slice none 0 0], hR aH 181 (.slice B_1_4 x.Loop.length c_1_4) x.Loop, hB g_0_1 69 #[.int .i64 (0), .slice none 0 0, .slice none 0 0, .slice none 0 0, .slice none 0 0], hB g_0_0 69 #[.int .i64 (x.Id), .slice Ax1 x.aC.length cx1, .slice Ax2 x.Loop.length cx2, .slice Ax3 x.aJ.length cx3, .slice Ax4 x.Out.length cx4]] W100 := Ha102.pick [2, 0, 1, 3, 4, 5, 6, 7] kD rfl; clear Ha102
      refine gG (xs := (x.aJ.take i2)) (p := x.aJ[i2]) (n' := (i2 + 1)) (ys := (x.aJ.take (i2 + 1))) rfl Try.underlying66 kV rfl kD kD rfl rfl (by rw [List.length_take, Nat.min_eq_left kO]; omega) (by rw [List.length_take, Nat.min_eq_left kO]) (List.take_succ_eq_append_getElem hlt2).symm rfl rfl H107 ?_
      intro B_9_9 c_9_9 W105 Ha106; clear H107
      have hS109 := And.intro (Ha106.blk 2 rfl) (And.intro (Ha106.blk 5 rfl) ((Cat.upd hce89 Ha106.1))); refine ⟨fun _ => hS109, ?_⟩
      refine aO (i := 10) rfl kR kR kR kR kR (fun _ _ _ h => h) rfl rfl hS109 (fun W' hs' => aU gW rfl) ?_
      refine bM (i := 11) kR ?_
      have H113 : St w No [hB g_1_6 69 #[.int .i64 (x.Id), .slice A_1 x.aC.length c_1, .slice B_1_4 x.Loop.length c_1_4, .slice A_2 i2 c_2, .slice none 0 0], hR aW 138 (.slice B_9_9 (i2 + 1) c_9_9) (x.aJ.take (i2 + 1)), hR aL 77 (.slice A_1 x.aC.length c_1) x.aC, hR aH 181 (.slice B_1_4 x.Loop.length c_1_4) x.Loop, hB g_0_1 69 #[.int .i64 (0), .slice none 0 0, .slice none 0 0, .slice none 0 0, .slice none 0 0], hB g_0_0 69 #[.int .i64 (x.Id), .slice Ax1 x.aC.length cx1, .slice Ax2 x.Loop.length cx2, .slice Ax3 x.aJ.length cx3, .slice Ax4 x.Out.length cx4]] W105 := Ha106.pick [2, 0, 1, 3, 4, 5] kD rfl; clear Ha106
      refine bR rfl Try.sizeOf66 rfl rfl rfl (Nat.le_of_ble_eq_true rfl) (by simp [Value.cells, Value.oneCell']) H113 ?_
      intro W110 hu111 Ha112; clear H113; clear hu111
      refine ⟨fun h => absS kR h, ?_⟩
      refine cB kR ?_ _
      refine eP ?_
      refine aK ?_
      refine aN [0, 1, 2] rfl ?_
      refine aA ?_
      refine aB rfl (aF rfl) rfl rfl ?_
      refine aA ?_
      refine aB rfl (gT (k := i2) rfl rfl kO) rfl rfl ?_
      refine aA ?_
      refine aB rfl (aR rfl) rfl rfl ?_
      refine aI ?_
      refine aK ?_
      exact (aZ [(1, .pointer (some ⟨g_0_0, 0, none⟩)), (2, .pointer (some ⟨g_0_1, 0, none⟩)), (3, .pointer (some ⟨g_1_6, 0, none⟩)), (5, .int .i64 (((i2 + 1 : Nat) : Int)))] rfl).elim fun x' hx => ⟨r84 - 1, kO, i2 + 1, B_9_9, c_9_9, x', hx, kO, Ha112.pick [1, 2, 0, 3, 4, 5] kD rfl⟩
     ·obtain rfl : i2 = x.aJ.length := by omega
      rw [List.take_length] at H87
      have H115 : St w No [hR aW 138 (.slice A_2 x.aJ.length c_2) x.aJ, hR aL 77 (.slice A_1 x.aC.length c_1) x.aC, hB g_1_6 69 #[.int .i64 (x.Id), .slice A_1 x.aC.length c_1, .slice B_1_4 x.Loop.length c_1_4, .slice A_2 x.aJ.length c_2, .slice none 0 0], hR aH 181 (.slice B_1_4 x.Loop.length c_1_4) x.Loop, hB g_0_1 69 #[.int .i64 (0), .slice none 0 0, .slice none 0 0, .slice none 0 0, .slice none 0 0], hB g_0_0 69 #[.int .i64 (x.Id), .slice Ax1 x.aC.length cx1, .slice Ax2 x.Loop.length cx2, .slice Ax3 x.aJ.length cx3, .slice Ax4 x.Out.length cx4]] W85 := H87; clear H87
      refine wp_exit ?_
      refine dX ?_
      refine dX ?_
      refine iH ?_
      refine aK ?_
      refine wp_seq ?_
      refine wp_seq ?_
      refine aN [0] rfl ?_
      refine aA ?_
      refine aB rfl (aR rfl) rfl rfl ?_
      refine aI ?_
      refine aK ?_
      refine wp_block ?_
      have H116 : St w No [hR aS 150 (.slice none 0 0) ([]), hR aW 138 (.slice A_2 x.aJ.length c_2) x.aJ, hR aL 77 (.slice A_1 x.aC.length c_1) x.aC, hB g_1_6 69 #[.int .i64 (x.Id), .slice A_1 x.aC.length c_1, .slice B_1_4 x.Loop.length c_1_4, .slice A_2 x.aJ.length c_2, .slice none 0 0], hR aH 181 (.slice B_1_4 x.Loop.length c_1_4) x.Loop, hB g_0_1 69 #[.int .i64 (0), .slice none 0 0, .slice none 0 0, .slice none 0 0, .slice none 0 0], hB g_0_0 69 #[.int .i64 (x.Id), .slice Ax1 x.aC.length cx1, .slice Ax2 x.Loop.length cx2, .slice Ax3 x.aJ.length cx3, .slice Ax4 x.Out.length cx4]] W85 := H115.add0 (q := hR aS 150 (.slice none 0 0) []) gI; clear H115
      refine wp_loop_ghost (fun r a' W' => ∃ (i3 : Nat) (A_3 : Option Addr) (c_3 : Nat) (x' : Nat → Value), a' = bH 76 x' [(1, .pointer (some ⟨g_0_0, 0, none⟩)), (2, .pointer (some ⟨g_0_1, 0, none⟩)), (3, .pointer (some ⟨g_1_6, 0, none⟩)), (6, .int .i64 (((i3 : Nat) : Int)))] ∧ (i3 + r = x.Out.length) ∧ St w No [hR aS 150 (.slice A_3 i3 c_3) (x.Out.take i3), hR aW 138 (.slice A_2 x.aJ.length c_2) x.aJ, hR aL 77 (.slice A_1 x.aC.length c_1) x.aC, hB g_1_6 69 #[.int .i64 (x.Id), .slice A_1 x.aC.length c_1, .slice B_1_4 x.Loop.length c_1_4, .slice A_2 x.aJ.length c_2, .slice A_3 i3 c_3], hR aH 181 (.slice B_1_4 x.Loop.length c_1_4) x.Loop, hB g_0_1 69 #[.int .i64 (0), .slice none 0 0, .slice none 0 0, .slice none 0 0, .slice none 0 0], hB g_0_0 69 #[.int .i64 (x.Id), .slice Ax1 x.aC.length cx1, .slice Ax2 x.Loop.length cx2, .slice Ax3 x.aJ.length cx3, .slice Ax4 x.Out.length cx4]] W') x.Out.length ?_ ?_
      ·exact (aZ [(1, .pointer (some ⟨g_0_0, 0, none⟩)), (2, .pointer (some ⟨g_0_1, 0, none⟩)), (3, .pointer (some ⟨g_1_6, 0, none⟩)), (6, .int .i64 (((0 : Nat) : Int)))] rfl).elim fun x' hx => ⟨0, none, 0, x', hx, kO, H116⟩
      ·rintro r117 _ W118 ⟨i3, A_3, c_3, x119, rfl, hi3, H120⟩; clear H116
       refine wp_seq ?_
       refine wp_seq ?_
       refine aN [0, 1, 2, 3, 4] rfl ?_
       refine aA ?_
       refine aB rfl (aF rfl) rfl rfl ?_
       refine aA ?_
       refine aB rfl (aU kH rfl) rfl rfl ?_
       refine aA ?_
       refine aB rfl (bB (k := 4) (v := .slice Ax4 x.Out.length cx4) Try.isAgg67 rfl (H120.blk 6 rfl) rfl) rfl rfl ?_
       refine aA ?_
       refine aB rfl (dP Try.runUnderlying67 rfl) rfl rfl ?_
       refine aA ?_
       refine aB rfl (gB rfl rfl) rfl rfl ?_
       refine aI ?_
       refine aK ?_
       refine dB rfl (fun hc121 => ?_) (fun hc121 => ?_)
       ·have hlt3 : i3 < x.Out.length := by omega
        obtain ⟨ade122, cse122, hAe122, hKe122, hce122⟩ := fT hCx4 i3 hlt3
        have hle122 := jJ hKe122
        have hoe122 := jK hKe122
        have hsi3 : eO x.Out[i3] ≤ 4194304 := by have h1 := kQ eO x.Out i3 hlt3; have h2 := s_Out; unfold bV at h2; omega
        obtain ⟨Aade122_6, cade122_6, rfl, hlade122_6, hCade122_6⟩ := kJ hKe122
        have hsw : iU x.Out[i3].Message ≤ 4194304 := by have h1 := hsi3; unfold eO at h1; omega
        refine wp_skip ?_
        refine aK ?_
        refine wp_seq ?_
        refine wp_block ?_
        refine dG (fun W' => Blk W' g_1_6 69 #[.int .i64 (x.Id), .slice A_1 x.aC.length c_1, .slice B_1_4 x.Loop.length c_1_4, .slice A_2 x.aJ.length c_2, .slice A_3 i3 c_3] ∧ Blk W' g_0_0 69 #[.int .i64 (x.Id), .slice Ax1 x.aC.length cx1, .slice Ax2 x.Loop.length cx2, .slice Ax3 x.aJ.length cx3, .slice Ax4 x.Out.length cx4] ∧ Cat W' (Addr.add ade122 (i3 * 13)) [.int .i64 (x.Out[i3].To), .int .i64 (x.Out[i3].Message.Kind), .int .i64 (x.Out[i3].Message.Pos), .int .i64 (x.Out[i3].Message.dZ), .int .i64 (x.Out[i3].Message.Question), .string (x.Out[i3].Message.Name), .slice Aade122_6 (x.Out[i3].Message.dJ.length) cade122_6, .int .i64 (x.Out[i3].Message.Value.Kind), .int .i64 (x.Out[i3].Message.Value.N), .int .i64 (x.Out[i3].Message.Count), .int .i64 (x.Out[i3].Message.Tag.Vat), .int .i64 (x.Out[i3].Message.Tag.Entity), .int .i64 (x.Out[i3].Message.Tag.Seq)]) 19 kR ?_
        have H123 := H120.drew; clear H120
        have hS124 : Blk W118.drew g_1_6 69 #[.int .i64 (x.Id), .slice A_1 x.aC.length c_1, .slice B_1_4 x.Loop.length c_1_4, .slice A_2 x.aJ.length c_2, .slice A_3 i3 c_3] ∧ Blk W118.drew g_0_0 69 #[.int .i64 (x.Id), .slice Ax1 x.aC.length cx1, .slice Ax2 x.Loop.length cx2, .slice Ax3 x.aJ.length cx3, .slice Ax4 x.Out.length cx4] ∧ Cat W118.drew (Addr.add ade122 (i3 * 13)) [.int .i64 (x.Out[i3].To), .int .i64 (x.Out[i3].Message.Kind), .int .i64 (x.Out[i3].Message.Pos), .int .i64 (x.Out[i3].Message.dZ), .int .i64 (x.Out[i3].Message.Question), .string (x.Out[i3].Message.Name), .slice Aade122_6 (x.Out[i3].Message.dJ.length) cade122_6, .int .i64 (x.Out[i3].Message.Value.Kind), .int .i64 (x.Out[i3].Message.Value.N), .int .i64 (x.Out[i3].Message.Count), .int .i64 (x.Out[i3].Message.Tag.Vat), .int .i64 (x.Out[i3].Message.Tag.Entity), .int .i64 (x.Out[i3].Message.Tag.Seq)] := ⟨H123.blk 3 rfl, H123.blk 6 rfl, (Cat.upd hce122 H123.1)⟩
        refine aO (i := 0) rfl kR kR kR kR kR (fun _ _ _ h => h) rfl rfl hS124 (fun W' hs' => aU kH rfl) ?_
        refine aO (i := 1) rfl kR kR kR kR kR (fun _ _ _ h => h) rfl rfl hS124 (fun W' hs' => bB (k := 4) (v := .slice A_3 i3 c_3) Try.isAgg67 rfl hs'.1 rfl) ?_
        refine aO (i := 2) rfl kR kR kR kR kR (fun _ _ _ h => h) rfl rfl hS124 (fun W' hs' => aU kH rfl) ?_
        refine aO (i := 3) rfl kR kR kR kR kR (fun _ _ _ h => h) rfl rfl hS124 (fun W' hs' => bB (k := 4) (v := .slice Ax4 x.Out.length cx4) Try.isAgg67 rfl hs'.2.1 rfl) ?_
        refine aO (i := 4) rfl kR kR kR kR kR (fun _ _ _ h => h) rfl rfl hS124 (fun W' hs' => aF rfl) ?_
        refine aO (i := 5) rfl kR kR kR kR kR (fun _ _ _ h => h) rfl rfl hS124 (fun W' hs' => bQ (k := i3) Try.runUnderlying67 Try.sizeOf150 rfl rfl hAe122 hlt3) ?_
        refine aO (i := 6) rfl kR kR kR kR kR (fun _ _ _ h => h) rfl rfl hS124 (fun W' hs' => aU fa_150_0 rfl) ?_
        refine aO (i := 7) rfl kR kR kR kR kR (fun _ _ _ h => h) rfl rfl hS124 (fun W' hs' => iT (v := .int .i64 (x.Out[i3].To)) Try.isAgg3 rfl hs'.2.2 rfl) ?_
        refine aO (i := 8) rfl kR kR kR kR kR (fun _ _ _ h => h) rfl rfl hS124 (fun W' hs' => aU kH rfl) ?_
        refine aO (i := 9) rfl kR kR kR kR kR (fun _ _ _ h => h) rfl rfl hS124 (fun W' hs' => bB (k := 4) (v := .slice Ax4 x.Out.length cx4) Try.isAgg67 rfl hs'.2.1 rfl) ?_
        refine aO (i := 10) rfl kR kR kR kR kR (fun _ _ _ h => h) rfl rfl hS124 (fun W' hs' => aF rfl) ?_
        refine aO (i := 11) rfl kR kR kR kR kR (fun _ _ _ h => h) rfl rfl hS124 (fun W' hs' => bQ (k := i3) Try.runUnderlying67 Try.sizeOf150 rfl rfl hAe122 hlt3) ?_
        refine aO (i := 12) rfl kR kR kR kR kR (fun _ _ _ h => h) rfl rfl hS124 (fun W' hs' => aU fa_150_1 rfl) ?_
        refine aO (i := 13) rfl kR kR kR kR kR (fun _ _ _ h => h) rfl rfl hS124 (fun W' hs' => rn_loadES (sub := [.int .i64 (x.Out[i3].Message.Kind), .int .i64 (x.Out[i3].Message.Pos), .int .i64 (x.Out[i3].Message.dZ), .int .i64 (x.Out[i3].Message.Question), .string (x.Out[i3].Message.Name), .slice Aade122_6 (x.Out[i3].Message.dJ.length) cade122_6, .int .i64 (x.Out[i3].Message.Value.Kind), .int .i64 (x.Out[i3].Message.Value.N), .int .i64 (x.Out[i3].Message.Count), .int .i64 (x.Out[i3].Message.Tag.Vat), .int .i64 (x.Out[i3].Message.Tag.Entity), .int .i64 (x.Out[i3].Message.Tag.Seq)]) Try.isAgg31 Try.sizeOf31 rfl hs'.2.2 rfl rfl) ?_
        refine bM (i := 14) kR ?_
        refine bC rfl Try.call51 (vs := #[.agg #[.int .i64 (x.Out[i3].Message.Kind), .int .i64 (x.Out[i3].Message.Pos), .int .i64 (x.Out[i3].Message.dZ), .int .i64 (x.Out[i3].Message.Question), .string (x.Out[i3].Message.Name), .slice Aade122_6 (x.Out[i3].Message.dJ.length) cade122_6, .int .i64 (x.Out[i3].Message.Value.Kind), .int .i64 (x.Out[i3].Message.Value.N), .int .i64 (x.Out[i3].Message.Count), .int .i64 (x.Out[i3].Message.Tag.Vat), .int .i64 (x.Out[i3].Message.Tag.Entity), .int .i64 (x.Out[i3].Message.Tag.Seq)]]) rfl rfl rfl (l11Copy_s x.Out[i3].Message _ _ (iI _ (x.Out[i3].Message) hlade122_6 (cZ H123.1 hCade122_6)) hsw) ?_
        rintro e130 W129 ⟨cs125, rfl, hM126, hu127⟩; refine ⟨_, rfl, ?_⟩
        obtain ⟨B_13_14_5, c_13_14_5, rfl, hst128⟩ := ki_Message_open hM126
        have H131 := H123.news hu127 hst128; clear H123
        have hS132 := And.intro (H131.blk 4 rfl) (And.intro (H131.blk 7 rfl) ((Cat.upd hce122 H131.1))); refine ⟨fun _ => hS132, ?_⟩
        refine aO (i := 15) rfl kR kR kR kR kR (fun _ _ _ h => h) rfl rfl hS132 (fun W' hs' => dS (vs := [(0, .int .i64 (x.Out[i3].To)), (1, .agg #[.int .i64 (x.Out[i3].Message.Kind), .int .i64 (x.Out[i3].Message.Pos), .int .i64 (x.Out[i3].Message.dZ), .int .i64 (x.Out[i3].Message.Question), .string (x.Out[i3].Message.Name), .slice B_13_14_5 (x.Out[i3].Message.dJ.length) c_13_14_5, .int .i64 (x.Out[i3].Message.Value.Kind), .int .i64 (x.Out[i3].Message.Value.N), .int .i64 (x.Out[i3].Message.Count), .int .i64 (x.Out[i3].Message.Tag.Vat), .int .i64 (x.Out[i3].Message.Tag.Entity), .int .i64 (x.Out[i3].Message.Tag.Seq)])]) (cells := #[.int .i64 (x.Out[i3].To), .int .i64 (x.Out[i3].Message.Kind), .int .i64 (x.Out[i3].Message.Pos), .int .i64 (x.Out[i3].Message.dZ), .int .i64 (x.Out[i3].Message.Question), .string (x.Out[i3].Message.Name), .slice B_13_14_5 (x.Out[i3].Message.dJ.length) c_13_14_5, .int .i64 (x.Out[i3].Message.Value.Kind), .int .i64 (x.Out[i3].Message.Value.N), .int .i64 (x.Out[i3].Message.Count), .int .i64 (x.Out[i3].Message.Tag.Vat), .int .i64 (x.Out[i3].Message.Tag.Entity), .int .i64 (x.Out[i3].Message.Tag.Seq)]) rfl kR) ?_
        refine bM (i := 16) kR ?_
        refine dD rfl Try.runUnderlying67 Try.sizeOf150 kD Try.zeroValue150 rfl rfl rfl rfl H131 ?_
        intro g_13_16 W133 hu134 Ha135; clear H131; clear hu134
        have hS137 := And.intro (Ha135.blk 5 rfl) (And.intro (Ha135.blk 8 rfl) ((Cat.upd hce122 Ha135.1))); refine ⟨fun _ => hS137, ?_⟩
        refine bM (i := 17) kR ?_
        have H140 : St w No [hR fB 27 (.slice B_13_14_5 (x.Out[i3].Message.dJ.length) c_13_14_5) (x.Out[i3].Message.dJ), hB g_13_16 150 #[.int .i64 (x.Out[i3].To), .int .i64 (x.Out[i3].Message.Kind), .int .i64 (x.Out[i3].Message.Pos), .int .i64 (x.Out[i3].Message.dZ), .int .i64 (x.Out[i3].Message.Question), .string (x.Out[i3].Message.Name), .slice B_13_14_5 (x.Out[i3].Message.dJ.length) c_13_14_5, .int .i64 (x.Out[i3].Message.Value.Kind), .int .i64 (x.Out[i3].Message.Value.N), .int .i64 (x.Out[i3].Message.Count), .int .i64 (x.Out[i3].Message.Tag.Vat), .int .i64 (x.Out[i3].Message.Tag.Entity), .int .i64 (x.Out[i3].Message.Tag.Seq)], hR aS 150 (.slice A_3 i3 c_3) (x.Out.take i3), hR aW 138 (.slice A_2 x.aJ.length c_2) x.aJ, hR aL 77 (.slice A_1 x.aC.length c_1) x.aC, hB g_1_6 69 #[.int .i64 (x.Id), .slice A_1 x.aC.length c_1, .slice B_1_4 x.Loop.length c_1_4, .slice A_2 x.aJ.length c_2, .slice A_3 i3 c_3], hR aH 181 (.slice B_1_4 x.Loop.length c_1_4) x.Loop, hB g_0_1 69 #[.int .i64 (0), .slice none 0 0, .slice none 0 0, .slice none 0 0, .slice none 0 0], hB g_0_0 69 #[.int .i64 (x.Id), .slice Ax1 x.aC.length cx1, .slice Ax2 x.Loop.length cx2, .slice Ax3 x.aJ.length cx3, .slice Ax4 x.Out.length cx4]] W133 := Ha135.pick [1, 0, 2, 3, 4, 5, 6, 7, 8] kD rfl; clear Ha135
        have H141 : St w No [hM aS (x.Out[i3]) [.int .i64 (x.Out[i3].To), .int .i64 (x.Out[i3].Message.Kind), .int .i64 (x.Out[i3].Message.Pos), .int .i64 (x.Out[i3].Message.dZ), .int .i64 (x.Out[i3].Message.Question), .string (x.Out[i3].Message.Name), .slice B_13_14_5 (x.Out[i3].Message.dJ.length) c_13_14_5, .int .i64 (x.Out[i3].Message.Value.Kind), .int .i64 (x.Out[i3].Message.Value.N), .int .i64 (x.Out[i3].Message.Count), .int .i64 (x.Out[i3].Message.Tag.Vat), .int .i64 (x.Out[i3].Message.Tag.Entity), .int .i64 (x.Out[i3].Message.Tag.Seq)], hB g_13_16 150 #[.int .i64 (x.Out[i3].To), .int .i64 (x.Out[i3].Message.Kind), .int .i64 (x.Out[i3].Message.Pos), .int .i64 (x.Out[i3].Message.dZ), .int .i64 (x.Out[i3].Message.Question), .string (x.Out[i3].Message.Name), .slice B_13_14_5 (x.Out[i3].Message.dJ.length) c_13_14_5, .int .i64 (x.Out[i3].Message.Value.Kind), .int .i64 (x.Out[i3].Message.Value.N), .int .i64 (x.Out[i3].Message.Count), .int .i64 (x.Out[i3].Message.Tag.Vat), .int .i64 (x.Out[i3].Message.Tag.Entity), .int .i64 (x.Out[i3].Message.Tag.Seq)], hR aS 150 (.slice A_3 i3 c_3) (x.Out.take i3), hR aW 138 (.slice A_2 x.aJ.length c_2) x.aJ, hR aL 77 (.slice A_1 x.aC.length c_1) x.aC, hB g_1_6 69 #[.int .i64 (x.Id), .slice A_1 x.aC.length c_1, .slice B_1_4 x.Loop.length c_1_4, .slice A_2 x.aJ.length c_2, .slice A_3 i3 c_3], hR aH 181 (.slice B_1_4 x.Loop.length c_1_4) x.Loop, hB g_0_1 69 #[.int .i64 (0), .slice none 0 0, .slice none 0 0, .slice none 0 0, .slice none 0 0], hB g_0_0 69 #[.int .i64 (x.Id), .slice Ax1 x.aC.length cx1, .slice Ax2 x.Loop.length cx2, .slice Ax3 x.aJ.length cx3, .slice Ax4 x.Out.length cx4]] W133 := H140.swap (l0 := [hR fB 27 (.slice B_13_14_5 (x.Out[i3].Message.dJ.length) c_13_14_5) (x.Out[i3].Message.dJ)]) (l' := [hM aS (x.Out[i3]) [.int .i64 (x.Out[i3].To), .int .i64 (x.Out[i3].Message.Kind), .int .i64 (x.Out[i3].Message.Pos), .int .i64 (x.Out[i3].Message.dZ), .int .i64 (x.Out[i3].Message.Question), .string (x.Out[i3].Message.Name), .slice B_13_14_5 (x.Out[i3].Message.dJ.length) c_13_14_5, .int .i64 (x.Out[i3].Message.Value.Kind), .int .i64 (x.Out[i3].Message.Value.N), .int .i64 (x.Out[i3].Message.Count), .int .i64 (x.Out[i3].Message.Tag.Vat), .int .i64 (x.Out[i3].Message.Tag.Entity), .int .i64 (x.Out[i3].Message.Tag.Seq)]]) (fun _ h => Star.one (lG (x := x.Out[i3]) h)); clear H140
        have H142 : St w No [hR aS 150 (.slice A_3 i3 c_3) (x.Out.take i3), hB g_13_16 150 #[.int .i64 (x.Out[i3].To), .int .i64 (x.Out[i3].Message.Kind), .int .i64 (x.Out[i3].Message.Pos), .int .i64 (x.Out[i3].Message.dZ), .int .i64 (x.Out[i3].Message.Question), .string (x.Out[i3].Message.Name), .slice B_13_14_5 (x.Out[i3].Message.dJ.length) c_13_14_5, .int .i64 (x.Out[i3].Message.Value.Kind), .int .i64 (x.Out[i3].Message.Value.N), .int .i64 (x.Out[i3].Message.Count), .int .i64 (x.Out[i3].Message.Tag.Vat), .int .i64 (x.Out[i3].Message.Tag.Entity), .int .i64 (x.Out[i3].Message.Tag.Seq)], hM aS (x.Out[i3]) [.int .i64 (x.Out[i3].To), .int .i64 (x.Out[i3].Message.Kind), .int .i64 (x.Out[i3].Message.Pos), .int .i64 (x.Out[i3].Message.dZ), .int .i64 (x.Out[i3].Message.Question), .string (x.Out[i3].Message.Name), .slice B_13_14_5 (x.Out[i3].Message.dJ.length) c_13_14_5, .int .i64 (x.Out[i3].Message.Value.Kind), .int .i64 (x.Out[i3].Message.Value.N), .int .i64 (x.Out[i3].Message.Count), .int .i64 (x.Out[i3].Message.Tag.Vat), .int .i64 (x.Out[i3].Message.Tag.Entity), .int .i64 (x.Out[i3].Message.Tag.Seq)], hR aW 138 (.slice A_2 x.aJ.length c_2) x.aJ, hR aL 77 (.slice A_1 x.aC.length c_1) x.aC, hB g_1_6 69 #[.int .i64 (x.Id), .slice A_1 x.aC.length c_1, .slice B_1_4 x.Loop.length c_1_4, .slice A_2 x.aJ.length c_2, .slice A_3 i3 c_3], hR aH 181 (.slice B_1_4 x.Loop.length c_1_4) x.Loop, hB g_0_1 69 #[.int .i64 (0), .slice none 0 0, .slice none 0 0, .slice none 0 0, .slice none 0 0], hB g_0_0 69 #[.int .i64 (x.Id), .slice Ax1 x.aC.length cx1, .slice Ax2 x.Loop.length cx2, .slice Ax3 x.aJ.length cx3, .slice Ax4 x.Out.length cx4]] W133 := H141.pick [2, 1, 0, 3, 4, 5, 6, 7, 8] kD rfl; clear H141
        refine gG (xs := (x.Out.take i3)) (p := x.Out[i3]) (n' := (i3 + 1)) (ys := (x.Out.take (i3 + 1))) rfl Try.underlying67 ki_Outgoing_info rfl kD kD rfl rfl (by rw [List.length_take, Nat.min_eq_left kO]; omega) (by rw [List.length_take, Nat.min_eq_left kO]) (List.take_succ_eq_append_getElem hlt3).symm rfl rfl H142 ?_
        intro B_13_17 c_13_17 W138 Ha139; clear H142
        have hS144 := And.intro (Ha139.blk 3 rfl) (And.intro (Ha139.blk 6 rfl) ((Cat.upd hce122 Ha139.1))); refine ⟨fun _ => hS144, ?_⟩
        refine aO (i := 18) rfl kR kR kR kR kR (fun _ _ _ h => h) rfl rfl hS144 (fun W' hs' => aU kH rfl) ?_
        refine bM (i := 19) kR ?_
        have H148 : St w No [hB g_1_6 69 #[.int .i64 (x.Id), .slice A_1 x.aC.length c_1, .slice B_1_4 x.Loop.length c_1_4, .slice A_2 x.aJ.length c_2, .slice A_3 i3 c_3], hR aS 150 (.slice B_13_17 (i3 + 1) c_13_17) (x.Out.take (i3 + 1)), hR aW 138 (.slice A_2 x.aJ.length c_2) x.aJ, hR aL 77 (.slice A_1 x.aC.length c_1) x.aC, hR aH 181 (.slice B_1_4 x.Loop.length c_1_4) x.Loop, hB g_0_1 69 #[.int .i64 (0), .slice none 0 0, .slice none 0 0, .slice none 0 0, .slice none 0 0], hB g_0_0 69 #[.int .i64 (x.Id), .slice Ax1 x.aC.length cx1, .slice Ax2 x.Loop.length cx2, .slice Ax3 x.aJ.length cx3, .slice Ax4 x.Out.length cx4]] W138 := Ha139.pick [3, 0, 1, 2, 4, 5, 6] kD rfl; clear Ha139
        refine bR rfl Try.sizeOf67 rfl rfl rfl (Nat.le_of_ble_eq_true rfl) (by simp [Value.cells, Value.oneCell']) H148 ?_
        intro W145 hu146 Ha147; clear H148; clear hu146
        refine ⟨fun h => absS kR h, ?_⟩
        refine cB kR ?_ _
        refine eP ?_
        refine aK ?_
        refine aN [0, 1, 2] rfl ?_
        refine aA ?_
        refine aB rfl (aF rfl) rfl rfl ?_
        refine aA ?_
        refine aB rfl (gT (k := i3) rfl rfl kO) rfl rfl ?_
        refine aA ?_
        refine aB rfl (aR rfl) rfl rfl ?_
        refine aI ?_
        refine aK ?_
        exact (aZ [(1, .pointer (some ⟨g_0_0, 0, none⟩)), (2, .pointer (some ⟨g_0_1, 0, none⟩)), (3, .pointer (some ⟨g_1_6, 0, none⟩)), (6, .int .i64 (((i3 + 1 : Nat) : Int)))] rfl).elim fun x' hx => ⟨r117 - 1, kO, i3 + 1, B_13_17, c_13_17, x', hx, kO, Ha147.pick [1, 2, 3, 0, 4, 5, 6] kD rfl⟩
       ·obtain rfl : i3 = x.Out.length := by omega
        rw [List.take_length] at H120
        have H150 : St w No [hR aS 150 (.slice A_3 x.Out.length c_3) x.Out, hR aW 138 (.slice A_2 x.aJ.length c_2) x.aJ, hR aL 77 (.slice A_1 x.aC.length c_1) x.aC, hB g_1_6 69 #[.int .i64 (x.Id), .slice A_1 x.aC.length c_1, .slice B_1_4 x.Loop.length c_1_4, .slice A_2 x.aJ.length c_2, .slice A_3 x.Out.length c_3], hR aH 181 (.slice B_1_4 x.Loop.length c_1_4) x.Loop, hB g_0_1 69 #[.int .i64 (0), .slice none 0 0, .slice none 0 0, .slice none 0 0, .slice none 0 0], hB g_0_0 69 #[.int .i64 (x.Id), .slice Ax1 x.aC.length cx1, .slice Ax2 x.Loop.length cx2, .slice Ax3 x.aJ.length cx3, .slice Ax4 x.Out.length cx4]] W118 := H120; clear H120
        refine wp_exit ?_
        refine dX ?_
        refine dX ?_
        refine iH ?_
        refine aK ?_
        refine wp_seq ?_
        refine aN [0, 1] rfl ?_
        refine aA ?_
        refine aB rfl (bN Try.isAgg69 Try.sizeOf69 rfl (H150.blk 3 rfl) rfl) rfl rfl ?_
        refine aA ?_
        have H154 : St w No [hB g_0_1 69 #[.int .i64 (0), .slice none 0 0, .slice none 0 0, .slice none 0 0, .slice none 0 0], hR aS 150 (.slice A_3 x.Out.length c_3) x.Out, hR aW 138 (.slice A_2 x.aJ.length c_2) x.aJ, hR aL 77 (.slice A_1 x.aC.length c_1) x.aC, hB g_1_6 69 #[.int .i64 (x.Id), .slice A_1 x.aC.length c_1, .slice B_1_4 x.Loop.length c_1_4, .slice A_2 x.aJ.length c_2, .slice A_3 x.Out.length c_3], hR aH 181 (.slice B_1_4 x.Loop.length c_1_4) x.Loop, hB g_0_0 69 #[.int .i64 (x.Id), .slice Ax1 x.aC.length cx1, .slice Ax2 x.Loop.length cx2, .slice Ax3 x.aJ.length cx3, .slice Ax4 x.Out.length cx4]] W118 := H150.pick [5, 0, 1, 2, 3, 4, 6] kD rfl; clear H150
        refine bG rfl Try.sizeOf69 rfl rfl rfl rfl kS H154 ?_
        intro W151 hu152 Ha153; clear H154; clear hu152
        refine aI ?_
        refine aK ?_
        refine wp_ret ?_
        refine dI (.inl rfl) Try.results125 Try.isAgg69 Try.sizeOf69 rfl (Ha153.blk 0 rfl) rfl ?_
        exact ⟨_, rfl, gM (Ha153.pick [3, 5, 2, 1] kD rfl).star, Ha153.1⟩
theorem copied_Vat (x : GVat) (cs : List Value) (w : World) (h : bK.K w x cs) (hs : eX x ≤ 4194304) : Calls Try.prog 86 #[.agg cs.toArray] w (iP bK x w) := by
 obtain ⟨Ax1, cx1, Ax2, cx2, Ax3, cx3, Ax4, cx4, rfl, hlx1, hCx1, hlx2, hCx2, hlx3, hCx3, hlx4, hCx4⟩ := lC h
 have s_Entities : bV bU x.aC ≤ 4194304 := by unfold eX at hs; omega
 have n_Entities : x.aC.length ≤ 4194304 := by unfold bV at s_Entities; omega
 have s_Loop : bV bT x.Loop ≤ 4194304 := by unfold eX at hs; omega
 have n_Loop : x.Loop.length ≤ 4194304 := by unfold bV at s_Loop; omega
 have s_Links : bV dH x.aJ ≤ 4194304 := by unfold eX at hs; omega
 have n_Links : x.aJ.length ≤ 4194304 := by unfold bV at s_Links; omega
 have s_Out : bV eO x.Out ≤ 4194304 := by unfold eX at hs; omega
 have n_Out : x.Out.length ≤ 4194304 := by unfold bV at s_Out; omega
 refine enter 66 [(0, .agg #[.int .i64 (x.Id), .slice Ax1 x.aC.length cx1, .slice Ax2 x.Loop.length cx2, .slice Ax3 x.aJ.length cx3, .slice Ax4 x.Out.length cx4])] Try.func86 rfl kR ?_
 intro xj
 have H1 : St w No [] w := St.enter
 refine wp_seq ?_
 refine aN [0, 1] rfl ?_
 refine aA ?_
 refine fJ rfl rfl rfl rfl H1 ?_
 intro g_0_0 W2 hu3 Ha4; clear H1; clear hu3
 refine aA ?_
 refine bP rfl Try.zeroValue69 rfl rfl Ha4 ?_
 intro g_0_1 W6 hu7 Ha8; clear Ha4; clear hu7
 refine aI ?_
 refine aK ?_
 refine wp_seq ?_
 refine eU (fun a' W' => ∃ (B_1_4 : Option Addr) (c_1_4 : Nat) (g_1_6 : Nat) (x' : Nat → Value), a' = bH 66 x' [(1, .pointer (some ⟨g_0_0, 0, none⟩)), (2, .pointer (some ⟨g_0_1, 0, none⟩)), (3, .pointer (some ⟨g_1_6, 0, none⟩))] ∧ St w No [hB g_1_6 69 #[.int .i64 (x.Id), .slice none 0 0, .slice B_1_4 x.Loop.length c_1_4, .slice none 0 0, .slice none 0 0], hR aH 181 (.slice B_1_4 x.Loop.length c_1_4) x.Loop, hB g_0_1 69 #[.int .i64 (0), .slice none 0 0, .slice none 0 0, .slice none 0 0, .slice none 0 0], hB g_0_0 69 #[.int .i64 (x.Id), .slice Ax1 x.aC.length cx1, .slice Ax2 x.Loop.length cx2, .slice Ax3 x.aJ.length cx3, .slice Ax4 x.Out.length cx4]] W') ?_ ?_
 ·refine dG (fun W' => Blk W' g_0_0 69 #[.int .i64 (x.Id), .slice Ax1 x.aC.length cx1, .slice Ax2 x.Loop.length cx2, .slice Ax3 x.aJ.length cx3, .slice Ax4 x.Out.length cx4]) 8 kR ?_
  have H10 := Ha8.drew; clear Ha8
  have hS11 : Blk W6.drew g_0_0 69 #[.int .i64 (x.Id), .slice Ax1 x.aC.length cx1, .slice Ax2 x.Loop.length cx2, .slice Ax3 x.aJ.length cx3, .slice Ax4 x.Out.length cx4] := H10.blk 1 rfl
  refine aO (i := 0) rfl kR kR kR kR kR (fun _ _ _ h => h) rfl rfl hS11 (fun W' hs' => aU fa_69_0 rfl) ?_
  refine aO (i := 1) rfl kR kR kR kR kR (fun _ _ _ h => h) rfl rfl hS11 (fun W' hs' => bB (k := 0) (v := .int .i64 (x.Id)) Try.isAgg3 rfl hs' rfl) ?_
  refine aO (i := 2) rfl kR kR kR kR kR (fun _ _ _ h => h) rfl rfl hS11 (fun W' hs' => aU fa_69_2 rfl) ?_
  refine aO (i := 3) rfl kR kR kR kR kR (fun _ _ _ h => h) rfl rfl hS11 (fun W' hs' => bB (k := 2) (v := .slice Ax2 x.Loop.length cx2) Try.isAgg65 rfl hs' rfl) ?_
  refine anyS_two (i := 4) (i2 := 6) kR ?_ ?_
  ·refine bC rfl Try.call131 (vs := #[.slice Ax2 x.Loop.length cx2]) rfl rfl rfl (lN x.Loop _ _ _ (cZ H10.1 hCx2) s_Loop) ?_
   rintro e16 W15 ⟨v12, rfl, hR13, hu14⟩; refine ⟨_, rfl, ?_⟩
   obtain ⟨B_1_4, c_1_4, rfl⟩ := eZ hR13
   have H17 := H10.new (q := hR aH 181 (.slice B_1_4 x.Loop.length c_1_4) x.Loop) hu14 hR13; clear H10
   have hS18 := H17.blk 2 rfl; refine ⟨fun _ => hS18, ?_⟩
   refine aO (i := 5) rfl kR kR kR kR kR (fun _ _ _ h => h) rfl rfl hS18 (fun W' hs' => dS (vs := [(0, .int .i64 (x.Id)), (2, .slice B_1_4 x.Loop.length c_1_4)]) (cells := #[.int .i64 (x.Id), .slice none 0 0, .slice B_1_4 x.Loop.length c_1_4, .slice none 0 0, .slice none 0 0]) rfl kR) ?_
   refine bM (i := 6) kR ?_
   refine bP rfl Try.zeroValue69 rfl rfl H17 ?_
   intro g_1_6 W19 hu20 Ha21; clear H17; clear hu20
   have hS23 := Ha21.blk 3 rfl; refine ⟨fun _ => hS23, ?_⟩
   refine bM (i := 7) kR ?_
   refine bG rfl Try.sizeOf69 rfl rfl rfl rfl kS Ha21 ?_
   intro W24 hu25 Ha26; clear Ha21; clear hu25
   have hS28 := Ha26.blk 3 rfl; refine ⟨fun _ => hS28, ?_⟩
   refine cB kR ?_ _
   exact (aZ [(1, .pointer (some ⟨g_0_0, 0, none⟩)), (2, .pointer (some ⟨g_0_1, 0, none⟩)), (3, .pointer (some ⟨g_1_6, 0, none⟩))] rfl).elim fun x' hx => ⟨B_1_4, c_1_4, g_1_6, x', hx, Ha26⟩
  refine bP rfl Try.zeroValue69 rfl rfl H10 ?_
  intro g_1_6 W29 hu30 Ha31; clear H10; clear hu30
  have hS33 := Ha31.blk 2 rfl; refine ⟨fun _ => hS33, ?_⟩
  refine bM (i := 4) kR ?_
  refine bC rfl Try.call131 (vs := #[.slice Ax2 x.Loop.length cx2]) rfl rfl rfl (lN x.Loop _ _ _ (cZ Ha31.1 hCx2) s_Loop) ?_
  rintro e38 W37 ⟨v34, rfl, hR35, hu36⟩; refine ⟨_, rfl, ?_⟩
  obtain ⟨B_1_4, c_1_4, rfl⟩ := eZ hR35
  have H39 := Ha31.new (q := hR aH 181 (.slice B_1_4 x.Loop.length c_1_4) x.Loop) hu36 hR35; clear Ha31
  have hS40 := H39.blk 3 rfl; refine ⟨fun _ => hS40, ?_⟩
  refine aO (i := 5) rfl kR kR kR kR kR (fun _ _ _ h => h) rfl rfl hS40 (fun W' hs' => dS (vs := [(0, .int .i64 (x.Id)), (2, .slice B_1_4 x.Loop.length c_1_4)]) (cells := #[.int .i64 (x.Id), .slice none 0 0, .slice B_1_4 x.Loop.length c_1_4, .slice none 0 0, .slice none 0 0]) rfl kR) ?_
  refine bM (i := 7) kR ?_
  have H44 : St w No [hB g_1_6 69 #[.int .i64 (0), .slice none 0 0, .slice none 0 0, .slice none 0 0, .slice none 0 0], hR aH 181 (.slice B_1_4 x.Loop.length c_1_4) x.Loop, hB g_0_1 69 #[.int .i64 (0), .slice none 0 0, .slice none 0 0, .slice none 0 0, .slice none 0 0], hB g_0_0 69 #[.int .i64 (x.Id), .slice Ax1 x.aC.length cx1, .slice Ax2 x.Loop.length cx2, .slice Ax3 x.aJ.length cx3, .slice Ax4 x.Out.length cx4]] W37 := H39.pick [1, 0, 2, 3] kD rfl; clear H39
  refine bG rfl Try.sizeOf69 rfl rfl rfl rfl kS H44 ?_
  intro W41 hu42 Ha43; clear H44; clear hu42
  have hS46 := Ha43.blk 3 rfl; refine ⟨fun _ => hS46, ?_⟩
  refine cB kR ?_ _
  exact (aZ [(1, .pointer (some ⟨g_0_0, 0, none⟩)), (2, .pointer (some ⟨g_0_1, 0, none⟩)), (3, .pointer (some ⟨g_1_6, 0, none⟩))] rfl).elim fun x' hx => ⟨B_1_4, c_1_4, g_1_6, x', hx, Ha43⟩
 ·rintro _ W48 ⟨B_1_4, c_1_4, g_1_6, x49, rfl, H47⟩
  refine aK ?_
  refine wp_seq ?_
  refine wp_seq ?_
  refine aN [0, 1, 2, 3] rfl ?_
  refine aA ?_
  refine aB rfl (aU eD rfl) rfl rfl ?_
  refine aA ?_
  refine aB rfl (bB (k := 1) (v := .slice Ax1 x.aC.length cx1) Try.isAgg64 rfl (H47.blk 3 rfl) rfl) rfl rfl ?_
  refine aA ?_
  refine aB rfl (dP Try.runUnderlying64 rfl) rfl rfl ?_
  refine aA ?_
  refine aB rfl (aF rfl) rfl rfl ?_
  refine aI ?_
  refine aK ?_
  refine wp_block ?_
  have H50 : St w No [hR aL 77 (.slice none 0 0) ([]), hB g_1_6 69 #[.int .i64 (x.Id), .slice none 0 0, .slice B_1_4 x.Loop.length c_1_4, .slice none 0 0, .slice none 0 0], hR aH 181 (.slice B_1_4 x.Loop.length c_1_4) x.Loop, hB g_0_1 69 #[.int .i64 (0), .slice none 0 0, .slice none 0 0, .slice none 0 0, .slice none 0 0], hB g_0_0 69 #[.int .i64 (x.Id), .slice Ax1 x.aC.length cx1, .slice Ax2 x.Loop.length cx2, .slice Ax3 x.aJ.length cx3, .slice Ax4 x.Out.length cx4]] W48 := H47.add0 (q := hR aL 77 (.slice none 0 0) []) gI; clear H47
  refine wp_loop_ghost (fun r a' W' => ∃ (i1 : Nat) (A_1 : Option Addr) (c_1 : Nat) (x' : Nat → Value), a' = bH 66 x' [(1, .pointer (some ⟨g_0_0, 0, none⟩)), (2, .pointer (some ⟨g_0_1, 0, none⟩)), (3, .pointer (some ⟨g_1_6, 0, none⟩)), (17, .slice Ax1 x.aC.length cx1), (18, .int .i64 ((x.aC.length : Nat))), (19, .int .i64 (((i1 : Nat) : Int)))] ∧ (i1 + r = x.aC.length) ∧ St w No [hR aL 77 (.slice A_1 i1 c_1) (x.aC.take i1), hB g_1_6 69 #[.int .i64 (x.Id), .slice A_1 i1 c_1, .slice B_1_4 x.Loop.length c_1_4, .slice none 0 0, .slice none 0 0], hR aH 181 (.slice B_1_4 x.Loop.length c_1_4) x.Loop, hB g_0_1 69 #[.int .i64 (0), .slice none 0 0, .slice none 0 0, .slice none 0 0, .slice none 0 0], hB g_0_0 69 #[.int .i64 (x.Id), .slice Ax1 x.aC.length cx1, .slice Ax2 x.Loop.length cx2, .slice Ax3 x.aJ.length cx3, .slice Ax4 x.Out.length cx4]] W') x.aC.length ?_ ?_
  ·exact (aZ [(1, .pointer (some ⟨g_0_0, 0, none⟩)), (2, .pointer (some ⟨g_0_1, 0, none⟩)), (3, .pointer (some ⟨g_1_6, 0, none⟩)), (17, .slice Ax1 x.aC.length cx1), (18, .int .i64 ((x.aC.length : Nat))), (19, .int .i64 (((0 : Nat) : Int)))] rfl).elim fun x' hx => ⟨0, none, 0, x', hx, kO, H50⟩
  ·rintro r51 _ W52 ⟨i1, A_1, c_1, x53, rfl, hi1, H54⟩; clear H50
   refine wp_seq ?_
   refine aN [0] rfl ?_
   refine aA ?_
   refine aB rfl (gB rfl rfl) rfl rfl ?_
   refine aI ?_
   refine aK ?_
   refine wp_seq ?_
   refine dB rfl (fun hc55 => ?_) (fun hc55 => ?_)
   ·have hlt1 : i1 < x.aC.length := by omega
    obtain ⟨ade56, cse56, hAe56, hKe56, hce56⟩ := fT hCx1 i1 hlt1
    have hle56 := cO hKe56
    have hoe56 := fF hKe56
    have hsi1 : bU x.aC[i1] ≤ 4194304 := by have h1 := kQ bU x.aC i1 hlt1; have h2 := s_Entities; unfold bV at h2; omega
    refine wp_skip ?_
    refine aK ?_
    refine wp_seq ?_
    refine wp_block ?_
    refine wp_seq ?_
    refine aN [0, 1, 2, 3] rfl ?_
    refine aA ?_
    refine aB rfl (bQ (k := i1) Try.runUnderlying64 Try.sizeOf77 rfl rfl hAe56 hlt1) rfl rfl ?_
    refine aA ?_
    refine aB rfl (dR Try.isAgg77 Try.sizeOf77 rfl (Cat.upd hce56 H54.1) hle56) rfl rfl ?_
    refine aA ?_
    refine bP rfl Try.zeroValue77 rfl rfl H54 ?_
    intro g_4_2 W57 hu58 Ha59; clear H54; clear hu58
    refine aA ?_
    refine bG rfl Try.sizeOf77 rfl rfl hle56 rfl hoe56 Ha59 ?_
    intro W61 hu62 Ha63; clear Ha59; clear hu62
    refine aI ?_
    refine aK ?_
    refine dG (fun W' => Blk W' g_1_6 69 #[.int .i64 (x.Id), .slice A_1 i1 c_1, .slice B_1_4 x.Loop.length c_1_4, .slice none 0 0, .slice none 0 0] ∧ Blk W' g_4_2 77 (List.toArray cse56)) 7 kR ?_
    have H65 := Ha63.drew; clear Ha63
    have hS66 : Blk W61.drew g_1_6 69 #[.int .i64 (x.Id), .slice A_1 i1 c_1, .slice B_1_4 x.Loop.length c_1_4, .slice none 0 0, .slice none 0 0] ∧ Blk W61.drew g_4_2 77 (List.toArray cse56) := ⟨H65.blk 2 rfl, H65.blk 0 rfl⟩
    refine aO (i := 0) rfl kR kR kR kR kR (fun _ _ _ h => h) rfl rfl hS66 (fun W' hs' => aU eD rfl) ?_
    refine aO (i := 1) rfl kR kR kR kR kR (fun _ _ _ h => h) rfl rfl hS66 (fun W' hs' => bB (k := 1) (v := .slice A_1 i1 c_1) Try.isAgg64 rfl hs'.1 rfl) ?_
    refine aO (i := 2) rfl kR kR kR kR kR (fun _ _ _ h => h) rfl rfl hS66 (fun W' hs' => bN Try.isAgg77 Try.sizeOf77 rfl hs'.2 hle56) ?_
    refine bM (i := 3) kR ?_
    refine bC rfl Try.call88 (vs := #[.agg (List.toArray cse56)]) rfl rfl rfl (copied_Entity x.aC[i1] _ _ (jD H65.1 hKe56) hsi1) ?_
    rintro e70 W69 ⟨cs_5_3, rfl, hM67, hu68⟩; refine ⟨_, rfl, ?_⟩
    have H73 := H65.new (q := hM aL (x.aC[i1]) cs_5_3) hu68 hM67; clear H65
    have hS74 := And.intro (H73.blk 3 rfl) (H73.blk 1 rfl); refine ⟨fun _ => hS74, ?_⟩
    refine bM (i := 4) kR ?_
    refine dD rfl Try.runUnderlying64 Try.sizeOf77 kD Try.zeroValue77 rfl (cO (H73.kn 0 rfl)) rfl rfl H73 ?_
    intro g_5_4 W75 hu76 Ha77; clear H73; clear hu76
    have hS79 := And.intro (Ha77.blk 4 rfl) (Ha77.blk 2 rfl); refine ⟨fun _ => hS79, ?_⟩
    refine bM (i := 5) kR ?_
    have H82 : St w No [hR aL 77 (.slice A_1 i1 c_1) (x.aC.take i1), hB g_5_4 77 (List.toArray cs_5_3), hM aL (x.aC[i1]) cs_5_3, hB g_4_2 77 (List.toArray cse56), hB g_1_6 69 #[.int .i64 (x.Id), .slice A_1 i1 c_1, .slice B_1_4 x.Loop.length c_1_4, .slice none 0 0, .slice none 0 0], hR aH 181 (.slice B_1_4 x.Loop.length c_1_4) x.Loop, hB g_0_1 69 #[.int .i64 (0), .slice none 0 0, .slice none 0 0, .slice none 0 0, .slice none 0 0], hB g_0_0 69 #[.int .i64 (x.Id), .slice Ax1 x.aC.length cx1, .slice Ax2 x.Loop.length cx2, .slice Ax3 x.aJ.length cx3, .slice Ax4 x.Out.length cx4]] W75 := Ha77.pick [3, 0, 1, 2, 4, 5, 6, 7] kD rfl; clear Ha77
    refine gG (xs := (x.aC.take i1)) (p := x.aC[i1]) (n' := (i1 + 1)) (ys := (x.aC.take (i1 + 1))) rfl Try.underlying64 gY rfl kD kD rfl rfl (by rw [List.length_take, Nat.min_eq_left kO]; omega) (by rw [List.length_take, Nat.min_eq_left kO]) (List.take_succ_eq_append_getElem hlt1).symm rfl rfl H82 ?_
    intro B_5_5 c_5_5 W80 Ha81; clear H82
    have hS84 := And.intro (Ha81.blk 2 rfl) (Ha81.blk 1 rfl); refine ⟨fun _ => hS84, ?_⟩
    refine aO (i := 6) rfl kR kR kR kR kR (fun _ _ _ h => h) rfl rfl hS84 (fun W' hs' => aU eD rfl) ?_
    refine bM (i := 7) kR ?_
    have H88 : St w No [hB g_1_6 69 #[.int .i64 (x.Id), .slice A_1 i1 c_1, .slice B_1_4 x.Loop.length c_1_4, .slice none 0 0, .slice none 0 0], hR aL 77 (.slice B_5_5 (i1 + 1) c_5_5) (x.aC.take (i1 + 1)), hB g_4_2 77 (List.toArray cse56), hR aH 181 (.slice B_1_4 x.Loop.length c_1_4) x.Loop, hB g_0_1 69 #[.int .i64 (0), .slice none 0 0, .slice none 0 0, .slice none 0 0, .slice none 0 0], hB g_0_0 69 #[.int .i64 (x.Id), .slice Ax1 x.aC.length cx1, .slice Ax2 x.Loop.length cx2, .slice Ax3 x.aJ.length cx3, .slice Ax4 x.Out.length cx4]] W80 := Ha81.pick [2, 0, 1, 3, 4, 5] kD rfl; clear Ha81
    refine bR rfl Try.sizeOf64 rfl rfl rfl (Nat.le_of_ble_eq_true rfl) (by simp [Value.cells, Value.oneCell']) H88 ?_
    intro W85 hu86 Ha87; clear H88; clear hu86
    refine ⟨fun h => absS kR h, ?_⟩
    refine cB kR ?_ _
    refine eP ?_
    refine aK ?_
    refine aN [0, 1] rfl ?_
    refine aA ?_
    refine aB rfl (gT (k := i1) rfl rfl kO) rfl rfl ?_
    refine aA ?_
    refine aB rfl (aF rfl) rfl rfl ?_
    refine aI ?_
    refine aK ?_
    exact (aZ [(1, .pointer (some ⟨g_0_0, 0, none⟩)), (2, .pointer (some ⟨g_0_1, 0, none⟩)), (3, .pointer (some ⟨g_1_6, 0, none⟩)), (17, .slice Ax1 x.aC.length cx1), (18, .int .i64 ((x.aC.length : Nat))), (19, .int .i64 (((i1 + 1 : Nat) : Int)))] rfl).elim fun x' hx => ⟨r51 - 1, kO, i1 + 1, B_5_5, c_5_5, x', hx, kO, Ha87.pick [1, 0, 3, 4, 5] kD rfl⟩
   ·obtain rfl : i1 = x.aC.length := by omega
    rw [List.take_length] at H54
    have H90 : St w No [hR aL 77 (.slice A_1 x.aC.length c_1) x.aC, hB g_1_6 69 #[.int .i64 (x.Id), .slice A_1 x.aC.length c_1, .slice B_1_4 x.Loop.length c_1_4, .slice none 0 0, .slice none 0 0], hR aH 181 (.slice B_1_4 x.Loop.length c_1_4) x.Loop, hB g_0_1 69 #[.int .i64 (0), .slice none 0 0, .slice none 0 0, .slice none 0 0, .slice none 0 0], hB g_0_0 69 #[.int .i64 (x.Id), .slice Ax1 x.aC.length cx1, .slice Ax2 x.Loop.length cx2, .slice Ax3 x.aJ.length cx3, .slice Ax4 x.Out.length cx4]] W52 := H54; clear H54
    refine wp_exit ?_
    refine dX ?_
    refine dX ?_
    refine iH ?_
    refine aK ?_
    refine wp_seq ?_
    refine wp_seq ?_
    refine aN [0, 1, 2, 3] rfl ?_
    refine aA ?_
    refine aB rfl (aU gW rfl) rfl rfl ?_
    refine aA ?_
    refine aB rfl (bB (k := 3) (v := .slice Ax3 x.aJ.length cx3) Try.isAgg66 rfl (H90.blk 4 rfl) rfl) rfl rfl ?_
    refine aA ?_
    refine aB rfl (dP Try.runUnderlying66 rfl) rfl rfl ?_
    refine aA ?_
    refine aB rfl (aF rfl) rfl rfl ?_
    refine aI ?_
    refine aK ?_
    refine wp_block ?_
    have H91 : St w No [hR aW 138 (.slice none 0 0) ([]), hR aL 77 (.slice A_1 x.aC.length c_1) x.aC, hB g_1_6 69 #[.int .i64 (x.Id), .slice A_1 x.aC.length c_1, .slice B_1_4 x.Loop.length c_1_4, .slice none 0 0, .slice none 0 0], hR aH 181 (.slice B_1_4 x.Loop.length c_1_4) x.Loop, hB g_0_1 69 #[.int .i64 (0), .slice none 0 0, .slice none 0 0, .slice none 0 0, .slice none 0 0], hB g_0_0 69 #[.int .i64 (x.Id), .slice Ax1 x.aC.length cx1, .slice Ax2 x.Loop.length cx2, .slice Ax3 x.aJ.length cx3, .slice Ax4 x.Out.length cx4]] W52 := H90.add0 (q := hR aW 138 (.slice none 0 0) []) gI; clear H90
    refine wp_loop_ghost (fun r a' W' => ∃ (i2 : Nat) (A_2 : Option Addr) (c_2 : Nat) (x' : Nat → Value), a' = bH 66 x' [(1, .pointer (some ⟨g_0_0, 0, none⟩)), (2, .pointer (some ⟨g_0_1, 0, none⟩)), (3, .pointer (some ⟨g_1_6, 0, none⟩)), (32, .slice Ax3 x.aJ.length cx3), (33, .int .i64 ((x.aJ.length : Nat))), (34, .int .i64 (((i2 : Nat) : Int)))] ∧ (i2 + r = x.aJ.length) ∧ St w No [hR aW 138 (.slice A_2 i2 c_2) (x.aJ.take i2), hR aL 77 (.slice A_1 x.aC.length c_1) x.aC, hB g_1_6 69 #[.int .i64 (x.Id), .slice A_1 x.aC.length c_1, .slice B_1_4 x.Loop.length c_1_4, .slice A_2 i2 c_2, .slice none 0 0], hR aH 181 (.slice B_1_4 x.Loop.length c_1_4) x.Loop, hB g_0_1 69 #[.int .i64 (0), .slice none 0 0, .slice none 0 0, .slice none 0 0, .slice none 0 0], hB g_0_0 69 #[.int .i64 (x.Id), .slice Ax1 x.aC.length cx1, .slice Ax2 x.Loop.length cx2, .slice Ax3 x.aJ.length cx3, .slice Ax4 x.Out.length cx4]] W') x.aJ.length ?_ ?_
    ·exact (aZ [(1, .pointer (some ⟨g_0_0, 0, none⟩)), (2, .pointer (some ⟨g_0_1, 0, none⟩)), (3, .pointer (some ⟨g_1_6, 0, none⟩)), (32, .slice Ax3 x.aJ.length cx3), (33, .int .i64 ((x.aJ.length : Nat))), (34, .int .i64 (((0 : Nat) : Int)))] rfl).elim fun x' hx => ⟨0, none, 0, x', hx, kO, H91⟩
    ·rintro r92 _ W93 ⟨i2, A_2, c_2, x94, rfl, hi2, H95⟩; clear H91
     refine wp_seq ?_
     refine aN [0] rfl ?_
     refine aA ?_
     refine aB rfl (gB rfl rfl) rfl rfl ?_
     refine aI ?_
     refine aK ?_
     refine wp_seq ?_
     refine dB rfl (fun hc96 => ?_) (fun hc96 => ?_)
     ·have hlt2 : i2 < x.aJ.length := by omega
      obtain ⟨ade97, cse97, hAe97, hKe97, hce97⟩ := fT hCx3 i2 hlt2
      have hle97 := gP hKe97
      have hoe97 := iW hKe97
      have hsi2 : dH x.aJ[i2] ≤ 4194304 := by have h1 := kQ dH x.aJ i2 hlt2; have h2 := s_Links; unfold bV at h2; omega
      refine wp_skip ?_
      refine aK ?_
      refine wp_seq ?_
      refine wp_block ?_
      refine wp_seq ?_
      refine aN [0, 1, 2, 3] rfl ?_
      refine aA ?_
      refine aB rfl (bQ (k := i2) Try.runUnderlying66 Try.sizeOf138 rfl rfl hAe97 hlt2) rfl rfl ?_
      refine aA ?_
      refine aB rfl (dR Try.isAgg138 Try.sizeOf138 rfl (Cat.upd hce97 H95.1) hle97) rfl rfl ?_
      refine aA ?_
      refine bP rfl Try.zeroValue138 rfl rfl H95 ?_
      intro g_9_2 W98 hu99 Ha100; clear H95; clear hu99
      refine aA ?_
      refine bG rfl Try.sizeOf138 rfl rfl hle97 rfl hoe97 Ha100 ?_
      intro W102 hu103 Ha104; clear Ha100; clear hu103
      refine aI ?_
      refine aK ?_
      refine dG (fun W' => Blk W' g_1_6 69 #[.int .i64 (x.Id), .slice A_1 x.aC.length c_1, .slice B_1_4 x.Loop.length c_1_4, .slice A_2 i2 c_2, .slice none 0 0] ∧ Blk W' g_9_2 138 (List.toArray cse97)) 7 kR ?_
      have H106 := Ha104.drew; clear Ha104
      have hS107 : Blk W102.drew g_1_6 69 #[.int .i64 (x.Id), .slice A_1 x.aC.length c_1, .slice B_1_4 x.Loop.length c_1_4, .slice A_2 i2 c_2, .slice none 0 0] ∧ Blk W102.drew g_9_2 138 (List.toArray cse97) := ⟨H106.blk 3 rfl, H106.blk 0 rfl⟩
      refine aO (i := 0) rfl kR kR kR kR kR (fun _ _ _ h => h) rfl rfl hS107 (fun W' hs' => aU gW rfl) ?_
      refine aO (i := 1) rfl kR kR kR kR kR (fun _ _ _ h => h) rfl rfl hS107 (fun W' hs' => bB (k := 3) (v := .slice A_2 i2 c_2) Try.isAgg66 rfl hs'.1 rfl) ?_
      refine aO (i := 2) rfl kR kR kR kR kR (fun _ _ _ h => h) rfl rfl hS107 (fun W' hs' => bN Try.isAgg138 Try.sizeOf138 rfl hs'.2 hle97) ?_
      refine bM (i := 3) kR ?_
      refine bC rfl Try.call132 (vs := #[.agg (List.toArray cse97)]) rfl rfl rfl (copied_Link x.aJ[i2] _ _ (jD H106.1 hKe97) hsi2) ?_
      rintro e111 W110 ⟨cs_10_3, rfl, hM108, hu109⟩; refine ⟨_, rfl, ?_⟩
      have H114 := H106.new (q := hM aW (x.aJ[i2]) cs_10_3) hu109 hM108; clear H106
      have hS115 := And.intro (H114.blk 4 rfl) (H114.blk 1 rfl); refine ⟨fun _ => hS115, ?_⟩
      refine bM (i := 4) kR ?_
      refine dD rfl Try.runUnderlying66 Try.sizeOf138 kD Try.zeroValue138 rfl (gP (H114.kn 0 rfl)) rfl rfl H114 ?_
      intro g_10_4 W116 hu117 Ha118; clear H114; clear hu117
      have hS120 := And.intro (Ha118.blk 5 rfl) (Ha118.blk 2 rfl); refine ⟨fun _ => hS120, ?_⟩
      refine bM (i := 5) kR ?_
      have H123 : St w No [hR aW 138 (.slice A_2 i2 c_2) (x.aJ.take i2), hB g_10_4 138 (List.toArray cs_10_3), hM aW (x.aJ[i2]) cs_10_3, hB g_9_2 138 (List.toArray cse97), hR aL 77 (.slice A_1 x.aC.length c_1) x.aC, hB g_1_6 69 #[.int .i64 (x.Id), .slice A_1 x.aC.length c_1, .slice B_1_4 x.Loop.length c_1_4, .slice A_2 i2 c_2, .slice none 0 0], hR aH 181 (.slice B_1_4 x.Loop.length c_1_4) x.Loop, hB g_0_1 69 #[.int .i64 (0), .slice none 0 0, .slice none 0 0, .slice none 0 0, .slice none 0 0], hB g_0_0 69 #[.int .i64 (x.Id), .slice Ax1 x.aC.length cx1, .slice Ax2 x.Loop.length cx2, .slice Ax3 x.aJ.length cx3, .slice Ax4 x.Out.length cx4]] W116 := Ha118.pick [3, 0, 1, 2, 4, 5, 6, 7, 8] kD rfl; clear Ha118
      refine gG (xs := (x.aJ.take i2)) (p := x.aJ[i2]) (n' := (i2 + 1)) (ys := (x.aJ.take (i2 + 1))) rfl Try.underlying66 kV rfl kD kD rfl rfl (by rw [List.length_take, Nat.min_eq_left kO]; omega) (by rw [List.length_take, Nat.min_eq_left kO]) (List.take_succ_eq_append_getElem hlt2).symm rfl rfl H123 ?_
      intro B_10_5 c_10_5 W121 Ha122; clear H123
      have hS125 := And.intro (Ha122.blk 3 rfl) (Ha122.blk 1 rfl); refine ⟨fun _ => hS125, ?_⟩
      refine aO (i := 6) rfl kR kR kR kR kR (fun _ _ _ h => h) rfl rfl hS125 (fun W' hs' => aU gW rfl) ?_
      refine bM (i := 7) kR ?_
      have H129 : St w No [hB g_1_6 69 #[.int .i64 (x.Id), .slice A_1 x.aC.length c_1, .slice B_1_4 x.Loop.length c_1_4, .slice A_2 i2 c_2, .slice none 0 0], hR aW 138 (.slice B_10_5 (i2 + 1) c_10_5) (x.aJ.take (i2 + 1)), hB g_9_2 138 (List.toArray cse97), hR aL 77 (.slice A_1 x.aC.length c_1) x.aC, hR aH 181 (.slice B_1_4 x.Loop.length c_1_4) x.Loop, hB g_0_1 69 #[.int .i64 (0), .slice none 0 0, .slice none 0 0, .slice none 0 0, .slice none 0 0], hB g_0_0 69 #[.int .i64 (x.Id), .slice Ax1 x.aC.length cx1, .slice Ax2 x.Loop.length cx2, .slice Ax3 x.aJ.length cx3, .slice Ax4 x.Out.length cx4]] W121 := Ha122.pick [3, 0, 1, 2, 4, 5, 6] kD rfl; clear Ha122
      refine bR rfl Try.sizeOf66 rfl rfl rfl (Nat.le_of_ble_eq_true rfl) (by simp [Value.cells, Value.oneCell']) H129 ?_
      intro W126 hu127 Ha128; clear H129; clear hu127
      refine ⟨fun h => absS kR h, ?_⟩
      refine cB kR ?_ _
      refine eP ?_
      refine aK ?_
      refine aN [0, 1] rfl ?_
      refine aA ?_
      refine aB rfl (gT (k := i2) rfl rfl kO) rfl rfl ?_
      refine aA ?_
      refine aB rfl (aF rfl) rfl rfl ?_
      refine aI ?_
      refine aK ?_
      exact (aZ [(1, .pointer (some ⟨g_0_0, 0, none⟩)), (2, .pointer (some ⟨g_0_1, 0, none⟩)), (3, .pointer (some ⟨g_1_6, 0, none⟩)), (32, .slice Ax3 x.aJ.length cx3), (33, .int .i64 ((x.aJ.length : Nat))), (34, .int .i64 (((i2 + 1 : Nat) : Int)))] rfl).elim fun x' hx => ⟨r92 - 1, kO, i2 + 1, B_10_5, c_10_5, x', hx, kO, Ha128.pick [1, 3, 0, 4, 5, 6] kD rfl⟩
     ·obtain rfl : i2 = x.aJ.length := by omega
      rw [List.take_length] at H95
      have H131 : St w No [hR aW 138 (.slice A_2 x.aJ.length c_2) x.aJ, hR aL 77 (.slice A_1 x.aC.length c_1) x.aC, hB g_1_6 69 #[.int .i64 (x.Id), .slice A_1 x.aC.length c_1, .slice B_1_4 x.Loop.length c_1_4, .slice A_2 x.aJ.length c_2, .slice none 0 0], hR aH 181 (.slice B_1_4 x.Loop.length c_1_4) x.Loop, hB g_0_1 69 #[.int .i64 (0), .slice none 0 0, .slice none 0 0, .slice none 0 0, .slice none 0 0], hB g_0_0 69 #[.int .i64 (x.Id), .slice Ax1 x.aC.length cx1, .slice Ax2 x.Loop.length cx2, .slice Ax3 x.aJ.length cx3, .slice Ax4 x.Out.length cx4]] W93 := H95; clear H95
      refine wp_exit ?_
      refine dX ?_
      refine dX ?_
      refine iH ?_
      refine aK ?_
      refine wp_seq ?_
      refine wp_seq ?_
      refine aN [0, 1, 2, 3] rfl ?_
      refine aA ?_
      refine aB rfl (aU kH rfl) rfl rfl ?_
      refine aA ?_
      refine aB rfl (bB (k := 4) (v := .slice Ax4 x.Out.length cx4) Try.isAgg67 rfl (H131.blk 5 rfl) rfl) rfl rfl ?_
      refine aA ?_
      refine aB rfl (dP Try.runUnderlying67 rfl) rfl rfl ?_
      refine aA ?_
      refine aB rfl (aF rfl) rfl rfl ?_
      refine aI ?_
      refine aK ?_
      refine wp_block ?_
      have H132 : St w No [hR aS 150 (.slice none 0 0) ([]), hR aW 138 (.slice A_2 x.aJ.length c_2) x.aJ, hR aL 77 (.slice A_1 x.aC.length c_1) x.aC, hB g_1_6 69 #[.int .i64 (x.Id), .slice A_1 x.aC.length c_1, .slice B_1_4 x.Loop.length c_1_4, .slice A_2 x.aJ.length c_2, .slice none 0 0], hR aH 181 (.slice B_1_4 x.Loop.length c_1_4) x.Loop, hB g_0_1 69 #[.int .i64 (0), .slice none 0 0, .slice none 0 0, .slice none 0 0, .slice none 0 0], hB g_0_0 69 #[.int .i64 (x.Id), .slice Ax1 x.aC.length cx1, .slice Ax2 x.Loop.length cx2, .slice Ax3 x.aJ.length cx3, .slice Ax4 x.Out.length cx4]] W93 := H131.add0 (q := hR aS 150 (.slice none 0 0) []) gI; clear H131
      refine wp_loop_ghost (fun r a' W' => ∃ (i3 : Nat) (A_3 : Option Addr) (c_3 : Nat) (x' : Nat → Value), a' = bH 66 x' [(2, .pointer (some ⟨g_0_1, 0, none⟩)), (3, .pointer (some ⟨g_1_6, 0, none⟩)), (47, .slice Ax4 x.Out.length cx4), (48, .int .i64 ((x.Out.length : Nat))), (49, .int .i64 (((i3 : Nat) : Int)))] ∧ (i3 + r = x.Out.length) ∧ St w No [hR aS 150 (.slice A_3 i3 c_3) (x.Out.take i3), hR aW 138 (.slice A_2 x.aJ.length c_2) x.aJ, hR aL 77 (.slice A_1 x.aC.length c_1) x.aC, hB g_1_6 69 #[.int .i64 (x.Id), .slice A_1 x.aC.length c_1, .slice B_1_4 x.Loop.length c_1_4, .slice A_2 x.aJ.length c_2, .slice A_3 i3 c_3], hR aH 181 (.slice B_1_4 x.Loop.length c_1_4) x.Loop, hB g_0_1 69 #[.int .i64 (0), .slice none 0 0, .slice none 0 0, .slice none 0 0, .slice none 0 0], hB g_0_0 69 #[.int .i64 (x.Id), .slice Ax1 x.aC.length cx1, .slice Ax2 x.Loop.length cx2, .slice Ax3 x.aJ.length cx3, .slice Ax4 x.Out.length cx4]] W') x.Out.length ?_ ?_
      ·exact (aZ [(2, .pointer (some ⟨g_0_1, 0, none⟩)), (3, .pointer (some ⟨g_1_6, 0, none⟩)), (47, .slice Ax4 x.Out.length cx4), (48, .int .i64 ((x.Out.length : Nat))), (49, .int .i64 (((0 : Nat) : Int)))] rfl).elim fun x' hx => ⟨0, none, 0, x', hx, kO, H132⟩
      ·rintro r133 _ W134 ⟨i3, A_3, c_3, x135, rfl, hi3, H136⟩; clear H132
       refine wp_seq ?_
       refine aN [0] rfl ?_
       refine aA ?_
       refine aB rfl (gB rfl rfl) rfl rfl ?_
       refine aI ?_
       refine aK ?_
       refine wp_seq ?_
       refine dB rfl (fun hc137 => ?_) (fun hc137 => ?_)
       ·have hlt3 : i3 < x.Out.length := by omega
        obtain ⟨ade138, cse138, hAe138, hKe138, hce138⟩ := fT hCx4 i3 hlt3
        have hle138 := jJ hKe138
        have hoe138 := jK hKe138
        have hsi3 : eO x.Out[i3] ≤ 4194304 := by have h1 := kQ eO x.Out i3 hlt3; have h2 := s_Out; unfold bV at h2; omega
        obtain ⟨Aade138_6, cade138_6, rfl, hlade138_6, hCade138_6⟩ := kJ hKe138
        have hsw : iU x.Out[i3].Message ≤ 4194304 := by have h1 := hsi3; unfold eO at h1; omega
        refine wp_skip ?_
        refine aK ?_
        refine wp_seq ?_
        refine wp_block ?_
        refine wp_seq ?_
        refine aN [0, 1, 2, 3] rfl ?_
        refine aA ?_
        refine aB rfl (bQ (k := i3) Try.runUnderlying67 Try.sizeOf150 rfl rfl hAe138 hlt3) rfl rfl ?_
        refine aA ?_
        refine aB rfl (dR Try.isAgg150 Try.sizeOf150 rfl (Cat.upd hce138 H136.1) rfl) rfl rfl ?_
        refine aA ?_
        refine bP rfl Try.zeroValue150 rfl rfl H136 ?_
        intro g_14_2 W139 hu140 Ha141; clear H136; clear hu140
        refine aA ?_
        refine bG rfl Try.sizeOf150 rfl rfl rfl rfl kS Ha141 ?_
        intro W143 hu144 Ha145; clear Ha141; clear hu144
        refine aI ?_
        refine aK ?_
        refine dG (fun W' => Blk W' g_1_6 69 #[.int .i64 (x.Id), .slice A_1 x.aC.length c_1, .slice B_1_4 x.Loop.length c_1_4, .slice A_2 x.aJ.length c_2, .slice A_3 i3 c_3] ∧ Blk W' g_14_2 150 #[.int .i64 (x.Out[i3].To), .int .i64 (x.Out[i3].Message.Kind), .int .i64 (x.Out[i3].Message.Pos), .int .i64 (x.Out[i3].Message.dZ), .int .i64 (x.Out[i3].Message.Question), .string (x.Out[i3].Message.Name), .slice Aade138_6 (x.Out[i3].Message.dJ.length) cade138_6, .int .i64 (x.Out[i3].Message.Value.Kind), .int .i64 (x.Out[i3].Message.Value.N), .int .i64 (x.Out[i3].Message.Count), .int .i64 (x.Out[i3].Message.Tag.Vat), .int .i64 (x.Out[i3].Message.Tag.Entity), .int .i64 (x.Out[i3].Message.Tag.Seq)]) 11 kR ?_
        have H147 := Ha145.drew; clear Ha145
        have hS148 : Blk W143.drew g_1_6 69 #[.int .i64 (x.Id), .slice A_1 x.aC.length c_1, .slice B_1_4 x.Loop.length c_1_4, .slice A_2 x.aJ.length c_2, .slice A_3 i3 c_3] ∧ Blk W143.drew g_14_2 150 #[.int .i64 (x.Out[i3].To), .int .i64 (x.Out[i3].Message.Kind), .int .i64 (x.Out[i3].Message.Pos), .int .i64 (x.Out[i3].Message.dZ), .int .i64 (x.Out[i3].Message.Question), .string (x.Out[i3].Message.Name), .slice Aade138_6 (x.Out[i3].Message.dJ.length) cade138_6, .int .i64 (x.Out[i3].Message.Value.Kind), .int .i64 (x.Out[i3].Message.Value.N), .int .i64 (x.Out[i3].Message.Count), .int .i64 (x.Out[i3].Message.Tag.Vat), .int .i64 (x.Out[i3].Message.Tag.Entity), .int .i64 (x.Out[i3].Message.Tag.Seq)] := ⟨H147.blk 4 rfl, H147.blk 0 rfl⟩
        refine aO (i := 0) rfl kR kR kR kR kR (fun _ _ _ h => h) rfl rfl hS148 (fun W' hs' => aU kH rfl) ?_
        refine aO (i := 1) rfl kR kR kR kR kR (fun _ _ _ h => h) rfl rfl hS148 (fun W' hs' => bB (k := 4) (v := .slice A_3 i3 c_3) Try.isAgg67 rfl hs'.1 rfl) ?_
        refine aO (i := 2) rfl kR kR kR kR kR (fun _ _ _ h => h) rfl rfl hS148 (fun W' hs' => aU fa_150_0 rfl) ?_
        refine aO (i := 3) rfl kR kR kR kR kR (fun _ _ _ h => h) rfl rfl hS148 (fun W' hs' => bB (k := 0) (v := .int .i64 (x.Out[i3].To)) Try.isAgg3 rfl hs'.2 rfl) ?_
        refine aO (i := 4) rfl kR kR kR kR kR (fun _ _ _ h => h) rfl rfl hS148 (fun W' hs' => aU fa_150_1 rfl) ?_
        refine aO (i := 5) rfl kR kR kR kR kR (fun _ _ _ h => h) rfl rfl hS148 (fun W' hs' => iL (sub := #[.int .i64 (x.Out[i3].Message.Kind), .int .i64 (x.Out[i3].Message.Pos), .int .i64 (x.Out[i3].Message.dZ), .int .i64 (x.Out[i3].Message.Question), .string (x.Out[i3].Message.Name), .slice Aade138_6 (x.Out[i3].Message.dJ.length) cade138_6, .int .i64 (x.Out[i3].Message.Value.Kind), .int .i64 (x.Out[i3].Message.Value.N), .int .i64 (x.Out[i3].Message.Count), .int .i64 (x.Out[i3].Message.Tag.Vat), .int .i64 (x.Out[i3].Message.Tag.Entity), .int .i64 (x.Out[i3].Message.Tag.Seq)]) Try.isAgg31 Try.sizeOf31 rfl hs'.2 rfl rfl) ?_
        refine bM (i := 6) kR ?_
        refine bC rfl Try.call48 (vs := #[.agg #[.int .i64 (x.Out[i3].Message.Kind), .int .i64 (x.Out[i3].Message.Pos), .int .i64 (x.Out[i3].Message.dZ), .int .i64 (x.Out[i3].Message.Question), .string (x.Out[i3].Message.Name), .slice Aade138_6 (x.Out[i3].Message.dJ.length) cade138_6, .int .i64 (x.Out[i3].Message.Value.Kind), .int .i64 (x.Out[i3].Message.Value.N), .int .i64 (x.Out[i3].Message.Count), .int .i64 (x.Out[i3].Message.Tag.Vat), .int .i64 (x.Out[i3].Message.Tag.Entity), .int .i64 (x.Out[i3].Message.Tag.Seq)]]) rfl rfl rfl (copied_Message x.Out[i3].Message _ _ (iI _ (x.Out[i3].Message) hlade138_6 (cZ H147.1 hCade138_6)) hsw) ?_
        rintro e154 W153 ⟨cs149, rfl, hM150, hu151⟩; refine ⟨_, rfl, ?_⟩
        obtain ⟨B_15_6_5, c_15_6_5, rfl, hst152⟩ := ki_Message_open hM150
        have H155 := H147.news hu151 hst152; clear H147
        have hS156 := And.intro (H155.blk 5 rfl) (H155.blk 1 rfl); refine ⟨fun _ => hS156, ?_⟩
        refine aO (i := 7) rfl kR kR kR kR kR (fun _ _ _ h => h) rfl rfl hS156 (fun W' hs' => dS (vs := [(0, .int .i64 (x.Out[i3].To)), (1, .agg #[.int .i64 (x.Out[i3].Message.Kind), .int .i64 (x.Out[i3].Message.Pos), .int .i64 (x.Out[i3].Message.dZ), .int .i64 (x.Out[i3].Message.Question), .string (x.Out[i3].Message.Name), .slice B_15_6_5 (x.Out[i3].Message.dJ.length) c_15_6_5, .int .i64 (x.Out[i3].Message.Value.Kind), .int .i64 (x.Out[i3].Message.Value.N), .int .i64 (x.Out[i3].Message.Count), .int .i64 (x.Out[i3].Message.Tag.Vat), .int .i64 (x.Out[i3].Message.Tag.Entity), .int .i64 (x.Out[i3].Message.Tag.Seq)])]) (cells := #[.int .i64 (x.Out[i3].To), .int .i64 (x.Out[i3].Message.Kind), .int .i64 (x.Out[i3].Message.Pos), .int .i64 (x.Out[i3].Message.dZ), .int .i64 (x.Out[i3].Message.Question), .string (x.Out[i3].Message.Name), .slice B_15_6_5 (x.Out[i3].Message.dJ.length) c_15_6_5, .int .i64 (x.Out[i3].Message.Value.Kind), .int .i64 (x.Out[i3].Message.Value.N), .int .i64 (x.Out[i3].Message.Count), .int .i64 (x.Out[i3].Message.Tag.Vat), .int .i64 (x.Out[i3].Message.Tag.Entity), .int .i64 (x.Out[i3].Message.Tag.Seq)]) rfl kR) ?_
        refine bM (i := 8) kR ?_
        refine dD rfl Try.runUnderlying67 Try.sizeOf150 kD Try.zeroValue150 rfl rfl rfl rfl H155 ?_
        intro g_15_8 W157 hu158 Ha159; clear H155; clear hu158
        have hS161 := And.intro (Ha159.blk 6 rfl) (Ha159.blk 2 rfl); refine ⟨fun _ => hS161, ?_⟩
        refine bM (i := 9) kR ?_
        have H164 : St w No [hR fB 27 (.slice B_15_6_5 (x.Out[i3].Message.dJ.length) c_15_6_5) (x.Out[i3].Message.dJ), hB g_15_8 150 #[.int .i64 (x.Out[i3].To), .int .i64 (x.Out[i3].Message.Kind), .int .i64 (x.Out[i3].Message.Pos), .int .i64 (x.Out[i3].Message.dZ), .int .i64 (x.Out[i3].Message.Question), .string (x.Out[i3].Message.Name), .slice B_15_6_5 (x.Out[i3].Message.dJ.length) c_15_6_5, .int .i64 (x.Out[i3].Message.Value.Kind), .int .i64 (x.Out[i3].Message.Value.N), .int .i64 (x.Out[i3].Message.Count), .int .i64 (x.Out[i3].Message.Tag.Vat), .int .i64 (x.Out[i3].Message.Tag.Entity), .int .i64 (x.Out[i3].Message.Tag.Seq)], hB g_14_2 150 #[.int .i64 (x.Out[i3].To), .int .i64 (x.Out[i3].Message.Kind), .int .i64 (x.Out[i3].Message.Pos), .int .i64 (x.Out[i3].Message.dZ), .int .i64 (x.Out[i3].Message.Question), .string (x.Out[i3].Message.Name), .slice Aade138_6 (x.Out[i3].Message.dJ.length) cade138_6, .int .i64 (x.Out[i3].Message.Value.Kind), .int .i64 (x.Out[i3].Message.Value.N), .int .i64 (x.Out[i3].Message.Count), .int .i64 (x.Out[i3].Message.Tag.Vat), .int .i64 (x.Out[i3].Message.Tag.Entity), .int .i64 (x.Out[i3].Message.Tag.Seq)], hR aS 150 (.slice A_3 i3 c_3) (x.Out.take i3), hR aW 138 (.slice A_2 x.aJ.length c_2) x.aJ, hR aL 77 (.slice A_1 x.aC.length c_1) x.aC, hB g_1_6 69 #[.int .i64 (x.Id), .slice A_1 x.aC.length c_1, .slice B_1_4 x.Loop.length c_1_4, .slice A_2 x.aJ.length c_2, .slice A_3 i3 c_3], hR aH 181 (.slice B_1_4 x.Loop.length c_1_4) x.Loop, hB g_0_1 69 #[.int .i64 (0), .slice none 0 0, .slice none 0 0, .slice none 0 0, .slice none 0 0], hB g_0_0 69 #[.int .i64 (x.Id), .slice Ax1 x.aC.length cx1, .slice Ax2 x.Loop.length cx2, .slice Ax3 x.aJ.length cx3, .slice Ax4 x.Out.length cx4]] W157 := Ha159.pick [1, 0, 2, 3, 4, 5, 6, 7, 8, 9] kD rfl; clear Ha159
        have H165 : St w No [hM aS (x.Out[i3]) [.int .i64 (x.Out[i3].To), .int .i64 (x.Out[i3].Message.Kind), .int .i64 (x.Out[i3].Message.Pos), .int .i64 (x.Out[i3].Message.dZ), .int .i64 (x.Out[i3].Message.Question), .string (x.Out[i3].Message.Name), .slice B_15_6_5 (x.Out[i3].Message.dJ.length) c_15_6_5, .int .i64 (x.Out[i3].Message.Value.Kind), .int .i64 (x.Out[i3].Message.Value.N), .int .i64 (x.Out[i3].Message.Count), .int .i64 (x.Out[i3].Message.Tag.Vat), .int .i64 (x.Out[i3].Message.Tag.Entity), .int .i64 (x.Out[i3].Message.Tag.Seq)], hB g_15_8 150 #[.int .i64 (x.Out[i3].To), .int .i64 (x.Out[i3].Message.Kind), .int .i64 (x.Out[i3].Message.Pos), .int .i64 (x.Out[i3].Message.dZ), .int .i64 (x.Out[i3].Message.Question), .string (x.Out[i3].Message.Name), .slice B_15_6_5 (x.Out[i3].Message.dJ.length) c_15_6_5, .int .i64 (x.Out[i3].Message.Value.Kind), .int .i64 (x.Out[i3].Message.Value.N), .int .i64 (x.Out[i3].Message.Count), .int .i64 (x.Out[i3].Message.Tag.Vat), .int .i64 (x.Out[i3].Message.Tag.Entity), .int .i64 (x.Out[i3].Message.Tag.Seq)], hB g_14_2 150 #[.int .i64 (x.Out[i3].To), .int .i64 (x.Out[i3].Message.Kind), .int .i64 (x.Out[i3].Message.Pos), .int .i64 (x.Out[i3].Message.dZ), .int .i64 (x.Out[i3].Message.Question), .string (x.Out[i3].Message.Name), .slice Aade138_6 (x.Out[i3].Message.dJ.length) cade138_6, .int .i64 (x.Out[i3].Message.Value.Kind), .int .i64 (x.Out[i3].Message.Value.N), .int .i64 (x.Out[i3].Message.Count), .int .i64 (x.Out[i3].Message.Tag.Vat), .int .i64 (x.Out[i3].Message.Tag.Entity), .int .i64 (x.Out[i3].Message.Tag.Seq)], hR aS 150 (.slice A_3 i3 c_3) (x.Out.take i3), hR aW 138 (.slice A_2 x.aJ.length c_2) x.aJ, hR aL 77 (.slice A_1 x.aC.length c_1) x.aC, hB g_1_6 69 #[.int .i64 (x.Id), .slice A_1 x.aC.length c_1, .slice B_1_4 x.Loop.length c_1_4, .slice A_2 x.aJ.length c_2, .slice A_3 i3 c_3], hR aH 181 (.slice B_1_4 x.Loop.length c_1_4) x.Loop, hB g_0_1 69 #[.int .i64 (0), .slice none 0 0, .slice none 0 0, .slice none 0 0, .slice none 0 0], hB g_0_0 69 #[.int .i64 (x.Id), .slice Ax1 x.aC.length cx1, .slice Ax2 x.Loop.length cx2, .slice Ax3 x.aJ.length cx3, .slice Ax4 x.Out.length cx4]] W157 := H164.swap (l0 := [hR fB 27 (.slice B_15_6_5 (x.Out[i3].Message.dJ.length) c_15_6_5) (x.Out[i3].Message.dJ)]) (l' := [hM aS (x.Out[i3]) [.int .i64 (x.Out[i3].To), .int .i64 (x.Out[i3].Message.Kind), .int .i64 (x.Out[i3].Message.Pos), .int .i64 (x.Out[i3].Message.dZ), .int .i64 (x.Out[i3].Message.Question), .string (x.Out[i3].Message.Name), .slice B_15_6_5 (x.Out[i3].Message.dJ.length) c_15_6_5, .int .i64 (x.Out[i3].Message.Value.Kind), .int .i64 (x.Out[i3].Message.Value.N), .int .i64 (x.Out[i3].Message.Count), .int .i64 (x.Out[i3].Message.Tag.Vat), .int .i64 (x.Out[i3].Message.Tag.Entity), .int .i64 (x.Out[i3].Message.Tag.Seq)]]) (fun _ h => Star.one (lG (x := x.Out[i3]) h)); clear H164
        have H166 : St w No [hR aS 150 (.slice A_3 i3 c_3) (x.Out.take i3), hB g_15_8 150 #[.int .i64 (x.Out[i3].To), .int .i64 (x.Out[i3].Message.Kind), .int .i64 (x.Out[i3].Message.Pos), .int .i64 (x.Out[i3].Message.dZ), .int .i64 (x.Out[i3].Message.Question), .string (x.Out[i3].Message.Name), .slice B_15_6_5 (x.Out[i3].Message.dJ.length) c_15_6_5, .int .i64 (x.Out[i3].Message.Value.Kind), .int .i64 (x.Out[i3].Message.Value.N), .int .i64 (x.Out[i3].Message.Count), .int .i64 (x.Out[i3].Message.Tag.Vat), .int .i64 (x.Out[i3].Message.Tag.Entity), .int .i64 (x.Out[i3].Message.Tag.Seq)], hM aS (x.Out[i3]) [.int .i64 (x.Out[i3].To), .int .i64 (x.Out[i3].Message.Kind), .int .i64 (x.Out[i3].Message.Pos), .int .i64 (x.Out[i3].Message.dZ), .int .i64 (x.Out[i3].Message.Question), .string (x.Out[i3].Message.Name), .slice B_15_6_5 (x.Out[i3].Message.dJ.length) c_15_6_5, .int .i64 (x.Out[i3].Message.Value.Kind), .int .i64 (x.Out[i3].Message.Value.N), .int .i64 (x.Out[i3].Message.Count), .int .i64 (x.Out[i3].Message.Tag.Vat), .int .i64 (x.Out[i3].Message.Tag.Entity), .int .i64 (x.Out[i3].Message.Tag.Seq)], hB g_14_2 150 #[.int .i64 (x.Out[i3].To), .int .i64 (x.Out[i3].Message.Kind), .int .i64 (x.Out[i3].Message.Pos), .int .i64 (x.Out[i3].Message.dZ), .int .i64 (x.Out[i3].Message.Question), .string (x.Out[i3].Message.Name), .slice Aade138_6 (x.Out[i3].Message.dJ.length) cade138_6, .int .i64 (x.Out[i3].Message.Value.Kind), .int .i64 (x.Out[i3].Message.Value.N), .int .i64 (x.Out[i3].Message.Count), .int .i64 (x.Out[i3].Message.Tag.Vat), .int .i64 (x.Out[i3].Message.Tag.Entity), .int .i64 (x.Out[i3].Message.Tag.Seq)], hR aW 138 (.slice A_2 x.aJ.length c_2) x.aJ, hR aL 77 (.slice A_1 x.aC.length c_1) x.aC, hB g_1_6 69 #[.int .i64 (x.Id), .slice A_1 x.aC.length c_1, .slice B_1_4 x.Loop.length c_1_4, .slice A_2 x.aJ.length c_2, .slice A_3 i3 c_3], hR aH 181 (.slice B_1_4 x.Loop.length c_1_4) x.Loop, hB g_0_1 69 #[.int .i64 (0), .slice none 0 0, .slice none 0 0, .slice none 0 0, .slice none 0 0], hB g_0_0 69 #[.int .i64 (x.Id), .slice Ax1 x.aC.length cx1, .slice Ax2 x.Loop.length cx2, .slice Ax3 x.aJ.length cx3, .slice Ax4 x.Out.length cx4]] W157 := H165.pick [3, 1, 0, 2, 4, 5, 6, 7, 8, 9] kD rfl; clear H165
        refine gG (xs := (x.Out.take i3)) (p := x.Out[i3]) (n' := (i3 + 1)) (ys := (x.Out.take (i3 + 1))) rfl Try.underlying67 ki_Outgoing_info rfl kD kD rfl rfl (by rw [List.length_take, Nat.min_eq_left kO]; omega) (by rw [List.length_take, Nat.min_eq_left kO]) (List.take_succ_eq_append_getElem hlt3).symm rfl rfl H166 ?_
        intro B_15_9 c_15_9 W162 Ha163; clear H166
        have hS168 := And.intro (Ha163.blk 4 rfl) (Ha163.blk 1 rfl); refine ⟨fun _ => hS168, ?_⟩
        refine aO (i := 10) rfl kR kR kR kR kR (fun _ _ _ h => h) rfl rfl hS168 (fun W' hs' => aU kH rfl) ?_
        refine bM (i := 11) kR ?_
        have H172 : St w No [hB g_1_6 69 #[.int .i64 (x.Id), .slice A_1 x.aC.length c_1, .slice B_1_4 x.Loop.length c_1_4, .slice A_2 x.aJ.length c_2, .slice A_3 i3 c_3], hR aS 150 (.slice B_15_9 (i3 + 1) c_15_9) (x.Out.take (i3 + 1)), hB g_14_2 150 #[.int .i64 (x.Out[i3].To), .int .i64 (x.Out[i3].Message.Kind), .int .i64 (x.Out[i3].Message.Pos), .int .i64 (x.Out[i3].Message.dZ), .int .i64 (x.Out[i3].Message.Question), .string (x.Out[i3].Message.Name), .slice Aade138_6 (x.Out[i3].Message.dJ.length) cade138_6, .int .i64 (x.Out[i3].Message.Value.Kind), .int .i64 (x.Out[i3].Message.Value.N), .int .i64 (x.Out[i3].Message.Count), .int .i64 (x.Out[i3].Message.Tag.Vat), .int .i64 (x.Out[i3].Message.Tag.Entity), .int .i64 (x.Out[i3].Message.Tag.Seq)], hR aW 138 (.slice A_2 x.aJ.length c_2) x.aJ, hR aL 77 (.slice A_1 x.aC.length c_1) x.aC, hR aH 181 (.slice B_1_4 x.Loop.length c_1_4) x.Loop, hB g_0_1 69 #[.int .i64 (0), .slice none 0 0, .slice none 0 0, .slice none 0 0, .slice none 0 0], hB g_0_0 69 #[.int .i64 (x.Id), .slice Ax1 x.aC.length cx1, .slice Ax2 x.Loop.length cx2, .slice Ax3 x.aJ.length cx3, .slice Ax4 x.Out.length cx4]] W162 := Ha163.pick [4, 0, 1, 2, 3, 5, 6, 7] kD rfl; clear Ha163
        refine bR rfl Try.sizeOf67 rfl rfl rfl (Nat.le_of_ble_eq_true rfl) (by simp [Value.cells, Value.oneCell']) H172 ?_
        intro W169 hu170 Ha171; clear H172; clear hu170
        refine ⟨fun h => absS kR h, ?_⟩
        refine cB kR ?_ _
        refine eP ?_
        refine aK ?_
        refine aN [0, 1] rfl ?_
        refine aA ?_
        refine aB rfl (gT (k := i3) rfl rfl kO) rfl rfl ?_
        refine aA ?_
        refine aB rfl (aF rfl) rfl rfl ?_
        refine aI ?_
        refine aK ?_
        exact (aZ [(2, .pointer (some ⟨g_0_1, 0, none⟩)), (3, .pointer (some ⟨g_1_6, 0, none⟩)), (47, .slice Ax4 x.Out.length cx4), (48, .int .i64 ((x.Out.length : Nat))), (49, .int .i64 (((i3 + 1 : Nat) : Int)))] rfl).elim fun x' hx => ⟨r133 - 1, kO, i3 + 1, B_15_9, c_15_9, x', hx, kO, Ha171.pick [1, 3, 4, 0, 5, 6, 7] kD rfl⟩
       ·obtain rfl : i3 = x.Out.length := by omega
        rw [List.take_length] at H136
        have H174 : St w No [hR aS 150 (.slice A_3 x.Out.length c_3) x.Out, hR aW 138 (.slice A_2 x.aJ.length c_2) x.aJ, hR aL 77 (.slice A_1 x.aC.length c_1) x.aC, hB g_1_6 69 #[.int .i64 (x.Id), .slice A_1 x.aC.length c_1, .slice B_1_4 x.Loop.length c_1_4, .slice A_2 x.aJ.length c_2, .slice A_3 x.Out.length c_3], hR aH 181 (.slice B_1_4 x.Loop.length c_1_4) x.Loop, hB g_0_1 69 #[.int .i64 (0), .slice none 0 0, .slice none 0 0, .slice none 0 0, .slice none 0 0], hB g_0_0 69 #[.int .i64 (x.Id), .slice Ax1 x.aC.length cx1, .slice Ax2 x.Loop.length cx2, .slice Ax3 x.aJ.length cx3, .slice Ax4 x.Out.length cx4]] W134 := H136; clear H136
        refine wp_exit ?_
        refine dX ?_
        refine dX ?_
        refine iH ?_
        refine aK ?_
        refine wp_seq ?_
        refine aN [0, 1] rfl ?_
        refine aA ?_
        refine aB rfl (bN Try.isAgg69 Try.sizeOf69 rfl (H174.blk 3 rfl) rfl) rfl rfl ?_
        refine aA ?_
        have H178 : St w No [hB g_0_1 69 #[.int .i64 (0), .slice none 0 0, .slice none 0 0, .slice none 0 0, .slice none 0 0], hR aS 150 (.slice A_3 x.Out.length c_3) x.Out, hR aW 138 (.slice A_2 x.aJ.length c_2) x.aJ, hR aL 77 (.slice A_1 x.aC.length c_1) x.aC, hB g_1_6 69 #[.int .i64 (x.Id), .slice A_1 x.aC.length c_1, .slice B_1_4 x.Loop.length c_1_4, .slice A_2 x.aJ.length c_2, .slice A_3 x.Out.length c_3], hR aH 181 (.slice B_1_4 x.Loop.length c_1_4) x.Loop, hB g_0_0 69 #[.int .i64 (x.Id), .slice Ax1 x.aC.length cx1, .slice Ax2 x.Loop.length cx2, .slice Ax3 x.aJ.length cx3, .slice Ax4 x.Out.length cx4]] W134 := H174.pick [5, 0, 1, 2, 3, 4, 6] kD rfl; clear H174
        refine bG rfl Try.sizeOf69 rfl rfl rfl rfl kS H178 ?_
        intro W175 hu176 Ha177; clear H178; clear hu176
        refine aI ?_
        refine aK ?_
        refine wp_ret ?_
        refine dI (.inl rfl) Try.results86 Try.isAgg69 Try.sizeOf69 rfl (Ha177.blk 0 rfl) rfl ?_
        exact ⟨_, rfl, gM (Ha177.pick [3, 5, 2, 1] kD rfl).star, Ha177.1⟩
def RetAI {α : Type} (d : Kn α) (x : α) (n : Int) (w : World) (e : Ending) (w' : World) : Prop := ∃ cs, e = .returned (.tuple #[.agg cs.toArray, .int .i64 n]) ∧ d.M w' (New w) x cs ∧ Upd No w w'
def addL (e : GEntity) (l : List GEntity) : List GEntity := if l.length < 200 then l ++ [e] else l
def addN (l : List GEntity) : Int := if l.length < 200 then l.length else -1
def dK (e : GEntity) (x : GVat) : GVat := ⟨x.Id, addL e x.aC, x.Loop, x.aJ, x.Out⟩
theorem addL_yes (e : GEntity) (l : List GEntity) (h : l.length < 200) : addL e l = l ++ [e] := if_pos h
theorem addL_no (e : GEntity) (l : List GEntity) (h : ¬ l.length < 200) : addL e l = l := if_neg h
theorem addN_yes (l : List GEntity) (h : l.length < 200) : addN l = l.length := if_pos h
theorem addN_no (l : List GEntity) (h : ¬ l.length < 200) : addN l = -1 := if_neg h
theorem iX (x : GVat) (e : GEntity) (cs ce : List Value) (w : World) (h : bK.K w x cs) (hs : eX x ≤ 4194304) (h2 : aL.K w e ce) (hs2 : bU e ≤ 4194304) : Calls Try.prog 80 #[.agg cs.toArray, .agg ce.toArray] w (RetAI bK (dK e x) (addN x.aC) w) := by
 obtain ⟨Ax1, cx1, Ax2, cx2, Ax3, cx3, Ax4, cx4, rfl, hlx1, hCx1, hlx2, hCx2, hlx3, hCx3, hlx4, hCx4⟩ := lC h
 have s_Entities : bV bU x.aC ≤ 4194304 := by unfold eX at hs; omega
 have n_Entities : x.aC.length ≤ 4194304 := by unfold bV at s_Entities; omega
 have s_Loop : bV bT x.Loop ≤ 4194304 := by unfold eX at hs; omega
 have n_Loop : x.Loop.length ≤ 4194304 := by unfold bV at s_Loop; omega
 have s_Links : bV dH x.aJ ≤ 4194304 := by unfold eX at hs; omega
 have n_Links : x.aJ.length ≤ 4194304 := by unfold bV at s_Links; omega
 have s_Out : bV eO x.Out ≤ 4194304 := by unfold eX at hs; omega
 have n_Out : x.Out.length ≤ 4194304 := by unfold bV at s_Out; omega
 have hl_e : ce.length = 12 := cO h2
 have ho_e : ∀ u ∈ (List.toArray ce).toList, u.oneCell' = true := fF h2
 refine enter 25 [(0, .agg #[.int .i64 (x.Id), .slice Ax1 x.aC.length cx1, .slice Ax2 x.Loop.length cx2, .slice Ax3 x.aJ.length cx3, .slice Ax4 x.Out.length cx4]), (1, .agg (List.toArray ce))] Try.func80 rfl kR ?_
 intro xj
 have H1 : St w No [] w := St.enter
 refine wp_seq ?_
 refine aN [0, 1, 2, 3] rfl ?_
 refine aA ?_
 refine fJ rfl rfl rfl rfl H1 ?_
 intro g_0_0 W2 hu3 Ha4; clear H1; clear hu3
 refine aA ?_
 refine fJ rfl rfl rfl rfl Ha4 ?_
 intro g_0_1 W6 hu7 Ha8; clear Ha4; clear hu7
 refine aA ?_
 refine bP rfl Try.zeroValue69 rfl rfl Ha8 ?_
 intro g_0_2 W10 hu11 Ha12; clear Ha8; clear hu11
 refine aA ?_
 refine aB rfl (aR rfl) rfl rfl ?_
 refine aI ?_
 refine aK ?_
 refine wp_seq ?_
 refine aN [0, 1, 2, 3] rfl ?_
 refine aA ?_
 refine aB rfl (bN Try.isAgg69 Try.sizeOf69 rfl (Ha12.blk 2 rfl) rfl) rfl rfl ?_
 refine aA ?_
 refine bC rfl Try.call125 (vs := #[.agg #[.int .i64 (x.Id), .slice Ax1 x.aC.length cx1, .slice Ax2 x.Loop.length cx2, .slice Ax3 x.aJ.length cx3, .slice Ax4 x.Out.length cx4]]) rfl rfl rfl (l12Copy_s x _ _ (gZ _ x hlx1 (cZ Ha12.1 hCx1) hlx2 (cZ Ha12.1 hCx2) hlx3 (cZ Ha12.1 hCx3) hlx4 (cZ Ha12.1 hCx4)) hs) ?_
 rintro e19 W18 ⟨cs14, rfl, hM15, hu16⟩; refine ⟨_, rfl, ?_⟩
 obtain ⟨B_1_1_1, c_1_1_1, B_1_1_2, c_1_1_2, B_1_1_3, c_1_1_3, B_1_1_4, c_1_1_4, rfl, hst17⟩ := fZ hM15
 have H20 := Ha12.news hu16 hst17; clear Ha12
 refine aA ?_
 refine bP rfl Try.zeroValue69 rfl rfl H20 ?_
 intro g_1_2 W21 hu22 Ha23; clear H20; clear hu22
 refine aA ?_
 refine bG rfl Try.sizeOf69 rfl rfl rfl rfl kS Ha23 ?_
 intro W25 hu26 Ha27; clear Ha23; clear hu26
 refine aI ?_
 refine aK ?_
 refine wp_seq ?_
 refine wp_seq ?_
 refine aN [0, 1, 2, 3] rfl ?_
 refine aA ?_
 refine aB rfl (aU eD rfl) rfl rfl ?_
 refine aA ?_
 refine aB rfl (bB (k := 1) (v := .slice Ax1 x.aC.length cx1) Try.isAgg64 rfl (Ha27.blk 7 rfl) rfl) rfl rfl ?_
 refine aA ?_
 refine aB rfl (dP Try.runUnderlying64 rfl) rfl rfl ?_
 refine aA ?_
 refine aB rfl (rn_geq rfl rfl) rfl rfl ?_
 refine aI ?_
 refine aK ?_
 refine dB rfl (fun hc29 => ?_) (fun hc29 => ?_)
 ·refine wp_seq ?_
  refine aN [0, 1, 2] rfl ?_
  refine aA ?_
  refine aB rfl (bN Try.isAgg69 Try.sizeOf69 rfl (Ha27.blk 0 rfl) rfl) rfl rfl ?_
  refine aA ?_
  have H33 : St w No [hB g_0_2 69 #[.int .i64 (0), .slice none 0 0, .slice none 0 0, .slice none 0 0, .slice none 0 0], hB g_1_2 69 #[.int .i64 (x.Id), .slice B_1_1_1 x.aC.length c_1_1_1, .slice B_1_1_2 x.Loop.length c_1_1_2, .slice B_1_1_3 x.aJ.length c_1_1_3, .slice B_1_1_4 x.Out.length c_1_1_4], hR aL 77 (.slice B_1_1_1 x.aC.length c_1_1_1) x.aC, hR aH 181 (.slice B_1_1_2 x.Loop.length c_1_1_2) x.Loop, hR aW 138 (.slice B_1_1_3 x.aJ.length c_1_1_3) x.aJ, hR aS 150 (.slice B_1_1_4 x.Out.length c_1_1_4) x.Out, hB g_0_1 77 (List.toArray ce), hB g_0_0 69 #[.int .i64 (x.Id), .slice Ax1 x.aC.length cx1, .slice Ax2 x.Loop.length cx2, .slice Ax3 x.aJ.length cx3, .slice Ax4 x.Out.length cx4]] W25 := Ha27.pick [5, 0, 1, 2, 3, 4, 6, 7] kD rfl; clear Ha27
  refine bG rfl Try.sizeOf69 rfl rfl rfl rfl kS H33 ?_
  intro W30 hu31 Ha32; clear H33; clear hu31
  refine aA ?_
  refine aB rfl (aR rfl) rfl rfl ?_
  refine aI ?_
  refine aK ?_
  refine wp_ret ?_
  refine bY ?_
  have hlt : ¬ x.aC.length < 200 := by omega
  have e1 := addL_no e x.aC hlt
  have e2 := addN_no x.aC hlt
  refine iM (.inl rfl) Try.results80 Try.isAgg69 Try.sizeOf69 rfl rfl (Ha32.blk 0 rfl) rfl ?_
  refine ⟨[.int .i64 (x.Id), .slice B_1_1_1 x.aC.length c_1_1_1, .slice B_1_1_2 x.Loop.length c_1_1_2, .slice B_1_1_3 x.aJ.length c_1_1_3, .slice B_1_1_4 x.Out.length c_1_1_4], by rw [e2], ?_, Ha32.1⟩
  unfold dK
  rw [e1]
  exact gM (Ha32.pick [2, 3, 4, 5] kD rfl).star
 ·refine wp_skip ?_
  refine aK ?_
  refine wp_seq ?_
  refine dG (fun W' => Blk W' g_1_2 69 #[.int .i64 (x.Id), .slice B_1_1_1 x.aC.length c_1_1_1, .slice B_1_1_2 x.Loop.length c_1_1_2, .slice B_1_1_3 x.aJ.length c_1_1_3, .slice B_1_1_4 x.Out.length c_1_1_4] ∧ Blk W' g_0_1 77 (List.toArray ce)) 7 kR ?_
  have H35 := Ha27.drew; clear Ha27
  have hS36 : Blk W25.drew g_1_2 69 #[.int .i64 (x.Id), .slice B_1_1_1 x.aC.length c_1_1_1, .slice B_1_1_2 x.Loop.length c_1_1_2, .slice B_1_1_3 x.aJ.length c_1_1_3, .slice B_1_1_4 x.Out.length c_1_1_4] ∧ Blk W25.drew g_0_1 77 (List.toArray ce) := ⟨H35.blk 0 rfl, H35.blk 6 rfl⟩
  refine aO (i := 0) rfl kR kR kR kR kR (fun _ _ _ h => h) rfl rfl hS36 (fun W' hs' => aU eD rfl) ?_
  refine aO (i := 1) rfl kR kR kR kR kR (fun _ _ _ h => h) rfl rfl hS36 (fun W' hs' => bB (k := 1) (v := .slice B_1_1_1 x.aC.length c_1_1_1) Try.isAgg64 rfl hs'.1 rfl) ?_
  refine aO (i := 2) rfl kR kR kR kR kR (fun _ _ _ h => h) rfl rfl hS36 (fun W' hs' => bN Try.isAgg77 Try.sizeOf77 rfl hs'.2 hl_e) ?_
  refine bM (i := 3) kR ?_
  refine bC rfl Try.call126 (vs := #[.agg (List.toArray ce)]) rfl rfl rfl (l9Copy_s e _ _ (jD H35.1 h2) hs2) ?_
  rintro e40 W39 ⟨cs_4_3, rfl, hM37, hu38⟩; refine ⟨_, rfl, ?_⟩
  have H43 := H35.new (q := hM aL e cs_4_3) hu38 hM37; clear H35
  have hS44 := And.intro (H43.blk 1 rfl) (H43.blk 7 rfl); refine ⟨fun _ => hS44, ?_⟩
  refine bM (i := 4) kR ?_
  refine dD rfl Try.runUnderlying64 Try.sizeOf77 kD Try.zeroValue77 rfl (cO (H43.kn 0 rfl)) rfl rfl H43 ?_
  intro g_4_4 W45 hu46 Ha47; clear H43; clear hu46
  have hS49 := And.intro (Ha47.blk 2 rfl) (Ha47.blk 8 rfl); refine ⟨fun _ => hS49, ?_⟩
  refine bM (i := 5) kR ?_
  have H52 : St w No [hR aL 77 (.slice B_1_1_1 x.aC.length c_1_1_1) x.aC, hB g_4_4 77 (List.toArray cs_4_3), hM aL e cs_4_3, hB g_1_2 69 #[.int .i64 (x.Id), .slice B_1_1_1 x.aC.length c_1_1_1, .slice B_1_1_2 x.Loop.length c_1_1_2, .slice B_1_1_3 x.aJ.length c_1_1_3, .slice B_1_1_4 x.Out.length c_1_1_4], hR aH 181 (.slice B_1_1_2 x.Loop.length c_1_1_2) x.Loop, hR aW 138 (.slice B_1_1_3 x.aJ.length c_1_1_3) x.aJ, hR aS 150 (.slice B_1_1_4 x.Out.length c_1_1_4) x.Out, hB g_0_2 69 #[.int .i64 (0), .slice none 0 0, .slice none 0 0, .slice none 0 0, .slice none 0 0], hB g_0_1 77 (List.toArray ce), hB g_0_0 69 #[.int .i64 (x.Id), .slice Ax1 x.aC.length cx1, .slice Ax2 x.Loop.length cx2, .slice Ax3 x.aJ.length cx3, .slice Ax4 x.Out.length cx4]] W45 := Ha47.pick [3, 0, 1, 2, 4, 5, 6, 7, 8, 9] kD rfl; clear Ha47
  refine gG (xs := x.aC) (p := e) (n' := (x.aC.length + 1)) (ys := (x.aC ++ [e])) rfl Try.underlying64 gY rfl kD kD rfl rfl kO rfl rfl rfl rfl H52 ?_
  intro B_4_5 c_4_5 W50 Ha51; clear H52
  have hS54 := And.intro (Ha51.blk 1 rfl) (Ha51.blk 6 rfl); refine ⟨fun _ => hS54, ?_⟩
  refine aO (i := 6) rfl kR kR kR kR kR (fun _ _ _ h => h) rfl rfl hS54 (fun W' hs' => aU eD rfl) ?_
  refine bM (i := 7) kR ?_
  have H58 : St w No [hB g_1_2 69 #[.int .i64 (x.Id), .slice B_1_1_1 x.aC.length c_1_1_1, .slice B_1_1_2 x.Loop.length c_1_1_2, .slice B_1_1_3 x.aJ.length c_1_1_3, .slice B_1_1_4 x.Out.length c_1_1_4], hR aL 77 (.slice B_4_5 (x.aC.length + 1) c_4_5) (x.aC ++ [e]), hR aH 181 (.slice B_1_1_2 x.Loop.length c_1_1_2) x.Loop, hR aW 138 (.slice B_1_1_3 x.aJ.length c_1_1_3) x.aJ, hR aS 150 (.slice B_1_1_4 x.Out.length c_1_1_4) x.Out, hB g_0_2 69 #[.int .i64 (0), .slice none 0 0, .slice none 0 0, .slice none 0 0, .slice none 0 0], hB g_0_1 77 (List.toArray ce), hB g_0_0 69 #[.int .i64 (x.Id), .slice Ax1 x.aC.length cx1, .slice Ax2 x.Loop.length cx2, .slice Ax3 x.aJ.length cx3, .slice Ax4 x.Out.length cx4]] W50 := Ha51.pick [1, 0, 2, 3, 4, 5, 6, 7] kD rfl; clear Ha51
  refine bR rfl Try.sizeOf64 rfl rfl rfl (Nat.le_of_ble_eq_true rfl) (by simp [Value.cells, Value.oneCell']) H58 ?_
  intro W55 hu56 Ha57; clear H58; clear hu56
  refine ⟨fun h => absS kR h, ?_⟩
  refine cB kR ?_ _
  refine aK ?_
  refine wp_seq ?_
  refine dG (fun W' => Blk W' g_1_2 69 #[.int .i64 (x.Id), .slice B_4_5 (x.aC.length + 1) c_4_5, .slice B_1_1_2 x.Loop.length c_1_1_2, .slice B_1_1_3 x.aJ.length c_1_1_3, .slice B_1_1_4 x.Out.length c_1_1_4] ∧ Blk W' g_0_0 69 #[.int .i64 (x.Id), .slice Ax1 x.aC.length cx1, .slice Ax2 x.Loop.length cx2, .slice Ax3 x.aJ.length cx3, .slice Ax4 x.Out.length cx4]) 6 kR ?_
  have H60 := Ha57.drew; clear Ha57
  have hS61 : Blk W55.drew g_1_2 69 #[.int .i64 (x.Id), .slice B_4_5 (x.aC.length + 1) c_4_5, .slice B_1_1_2 x.Loop.length c_1_1_2, .slice B_1_1_3 x.aJ.length c_1_1_3, .slice B_1_1_4 x.Out.length c_1_1_4] ∧ Blk W55.drew g_0_0 69 #[.int .i64 (x.Id), .slice Ax1 x.aC.length cx1, .slice Ax2 x.Loop.length cx2, .slice Ax3 x.aJ.length cx3, .slice Ax4 x.Out.length cx4] := ⟨H60.blk 0 rfl, H60.blk 7 rfl⟩
  refine aO (i := 0) rfl kR kR kR kR kR (fun _ _ _ h => h) rfl rfl hS61 (fun W' hs' => bN Try.isAgg69 Try.sizeOf69 rfl hs'.1 rfl) ?_
  refine aO (i := 1) rfl kR kR kR kR kR (fun _ _ _ h => h) rfl rfl hS61 (fun W' hs' => aU eD rfl) ?_
  refine aO (i := 2) rfl kR kR kR kR kR (fun _ _ _ h => h) rfl rfl hS61 (fun W' hs' => bB (k := 1) (v := .slice Ax1 x.aC.length cx1) Try.isAgg64 rfl hs'.2 rfl) ?_
  refine aO (i := 3) rfl kR kR kR kR kR (fun _ _ _ h => h) rfl rfl hS61 (fun W' hs' => dP Try.runUnderlying64 rfl) ?_
  refine bM (i := 4) kR ?_
  have H65 : St w No [hB g_0_2 69 #[.int .i64 (0), .slice none 0 0, .slice none 0 0, .slice none 0 0, .slice none 0 0], hB g_1_2 69 #[.int .i64 (x.Id), .slice B_4_5 (x.aC.length + 1) c_4_5, .slice B_1_1_2 x.Loop.length c_1_1_2, .slice B_1_1_3 x.aJ.length c_1_1_3, .slice B_1_1_4 x.Out.length c_1_1_4], hR aL 77 (.slice B_4_5 (x.aC.length + 1) c_4_5) (x.aC ++ [e]), hR aH 181 (.slice B_1_1_2 x.Loop.length c_1_1_2) x.Loop, hR aW 138 (.slice B_1_1_3 x.aJ.length c_1_1_3) x.aJ, hR aS 150 (.slice B_1_1_4 x.Out.length c_1_1_4) x.Out, hB g_0_1 77 (List.toArray ce), hB g_0_0 69 #[.int .i64 (x.Id), .slice Ax1 x.aC.length cx1, .slice Ax2 x.Loop.length cx2, .slice Ax3 x.aJ.length cx3, .slice Ax4 x.Out.length cx4]] W55.drew := H60.pick [5, 0, 1, 2, 3, 4, 6, 7] kD rfl; clear H60
  refine bG rfl Try.sizeOf69 rfl rfl rfl rfl kS H65 ?_
  intro W62 hu63 Ha64; clear H65; clear hu63
  have hS67 := And.intro (Ha64.blk 1 rfl) (Ha64.blk 7 rfl); refine ⟨fun _ => hS67, ?_⟩
  refine aO (i := 5) rfl kR kR kR kR kR (fun _ _ _ h => h) rfl rfl hS67 (fun W' hs' => aR rfl) ?_
  refine cB kR ?_ _
  refine aK ?_
  refine wp_ret ?_
  have hlt : x.aC.length < 200 := by omega
  have e1 := addL_yes e x.aC hlt
  have e2 := addN_yes x.aC hlt
  refine iM (.inl rfl) Try.results80 Try.isAgg69 Try.sizeOf69 rfl rfl (Ha64.blk 0 rfl) rfl ?_
  refine ⟨[.int .i64 (x.Id), .slice B_4_5 (x.aC.length + 1) c_4_5, .slice B_1_1_2 x.Loop.length c_1_1_2, .slice B_1_1_3 x.aJ.length c_1_1_3, .slice B_1_1_4 x.Out.length c_1_1_4], by rw [e2], ?_, Ha64.1⟩
  unfold dK
  rw [e1]
  exact gM (Ha64.pick [2, 3, 4, 5] kD rfl).star
theorem add_i (l : List GEntity) (e : GEntity) (g c0 : Nat) (A0 : Option Addr) (ce : List Value) (u0 u2 u3 u4 : Value) (F0 : Nat → Prop) (w : World) (h : Star [hB g 69 #[u0, .slice A0 l.length c0, u2, u3, u4], hR aL 77 (.slice A0 l.length c0) l, hM aL e ce] w F0) (hn : l.length ≤ 4194304) : Calls Try.prog 87 #[.pointer (some ⟨g, 0, none⟩), .agg ce.toArray] w (fun e' w' => ∃ A c, e' = .returned (.int .i64 (addN l)) ∧ St w F0 [hB g 69 #[u0, .slice A (addL e l).length c, u2, u3, u4], hR aL 77 (.slice A (addL e l).length c) (addL e l)] w') := by
 have H0 : St w F0 _ w := St.iA h
 have hke := H0.kn 2 rfl
 have hl_e : ce.length = 12 := cO hke
 have ho_e : ∀ u ∈ (List.toArray ce).toList, u.oneCell' = true := fF hke
 refine enter 27 [(0, .pointer (some ⟨g, 0, none⟩)), (1, .agg (List.toArray ce))] Try.func87 rfl kR ?_
 intro xj
 have H1 : St w F0 [hB g 69 #[u0, .slice A0 l.length c0, u2, u3, u4], hR aL 77 (.slice A0 l.length c0) l, hM aL e ce] w := H0
 refine wp_seq ?_
 refine aN [0, 1] rfl ?_
 refine aA ?_
 refine fJ rfl rfl rfl rfl H1 ?_
 intro g_0_0 W2 hu3 Ha4; clear H1; clear hu3
 refine aA ?_
 refine aB rfl (aR rfl) rfl rfl ?_
 refine aI ?_
 refine aK ?_
 refine wp_seq ?_
 refine wp_seq ?_
 refine aN [0, 1, 2, 3, 4, 5] rfl ?_
 refine aA ?_
 refine aB rfl (aF rfl) rfl rfl ?_
 refine aA ?_
 refine aB rfl (dA rfl) rfl rfl ?_
 refine aA ?_
 refine aB rfl (aU eD rfl) rfl rfl ?_
 refine aA ?_
 refine aB rfl (bB (k := 1) (v := .slice A0 l.length c0) Try.isAgg64 rfl (Ha4.blk 1 rfl) rfl) rfl rfl ?_
 refine aA ?_
 refine aB rfl (dP Try.runUnderlying64 rfl) rfl rfl ?_
 refine aA ?_
 refine aB rfl (rn_geq rfl rfl) rfl rfl ?_
 refine aI ?_
 refine aK ?_
 refine dB rfl (fun hc6 => ?_) (fun hc6 => ?_)
 ·refine wp_seq ?_
  refine aN [0] rfl ?_
  refine aA ?_
  refine aB rfl (aR rfl) rfl rfl ?_
  refine aI ?_
  refine aK ?_
  refine wp_ret ?_
  refine bY ?_
  have hlt : ¬ l.length < 200 := by omega
  have e1 := addL_no e l hlt
  have e2 := addN_no l hlt
  refine bI (.inl rfl) Try.results87 rfl ?_
  rw [e1, e2]
  exact ⟨A0, c0, rfl, Ha4.pick [1, 2] kD rfl⟩
 ·refine wp_skip ?_
  refine aK ?_
  refine wp_seq ?_
  refine dG (fun W' => Blk W' g 69 #[u0, .slice A0 l.length c0, u2, u3, u4] ∧ Blk W' g_0_0 77 (List.toArray ce)) 10 kR ?_
  have H7 := Ha4.drew; clear Ha4
  have hS8 : Blk W2.drew g 69 #[u0, .slice A0 l.length c0, u2, u3, u4] ∧ Blk W2.drew g_0_0 77 (List.toArray ce) := ⟨H7.blk 1 rfl, H7.blk 0 rfl⟩
  refine aO (i := 0) rfl kR kR kR kR kR (fun _ _ _ h => h) rfl rfl hS8 (fun W' hs' => aF rfl) ?_
  refine aO (i := 1) rfl kR kR kR kR kR (fun _ _ _ h => h) rfl rfl hS8 (fun W' hs' => aF rfl) ?_
  refine aO (i := 2) rfl kR kR kR kR kR (fun _ _ _ h => h) rfl rfl hS8 (fun W' hs' => dA rfl) ?_
  refine aO (i := 3) rfl kR kR kR kR kR (fun _ _ _ h => h) rfl rfl hS8 (fun W' hs' => aU eD rfl) ?_
  refine aO (i := 4) rfl kR kR kR kR kR (fun _ _ _ h => h) rfl rfl hS8 (fun W' hs' => bB (k := 1) (v := .slice A0 l.length c0) Try.isAgg64 rfl hs'.1 rfl) ?_
  refine aO (i := 5) rfl kR kR kR kR kR (fun _ _ _ h => h) rfl rfl hS8 (fun W' hs' => bN Try.isAgg77 Try.sizeOf77 rfl hs'.2 (cO (H7.kn 3 rfl))) ?_
  refine bM (i := 6) kR ?_
  refine dD rfl Try.runUnderlying64 Try.sizeOf77 kD Try.zeroValue77 rfl (cO (H7.kn 3 rfl)) rfl rfl H7 ?_
  intro g_3_6 W9 hu10 Ha11; clear H7; clear hu10
  have hS13 := And.intro (Ha11.blk 2 rfl) (Ha11.blk 1 rfl); refine ⟨fun _ => hS13, ?_⟩
  refine bM (i := 7) kR ?_
  have H16 : St w F0 [hR aL 77 (.slice A0 l.length c0) l, hB g_3_6 77 (List.toArray ce), hM aL e ce, hB g_0_0 77 (List.toArray ce), hB g 69 #[u0, .slice A0 l.length c0, u2, u3, u4]] W9 := Ha11.pick [3, 0, 4, 1, 2] kD rfl; clear Ha11
  refine gG (xs := l) (p := e) (n' := (l.length + 1)) (ys := (l ++ [e])) rfl Try.underlying64 gY rfl kD kD rfl rfl kO rfl rfl rfl rfl H16 ?_
  intro B_3_7 c_3_7 W14 Ha15; clear H16
  have hS18 := And.intro (Ha15.blk 2 rfl) (Ha15.blk 1 rfl); refine ⟨fun _ => hS18, ?_⟩
  refine bM (i := 8) kR ?_
  refine aB rfl (dA rfl) rfl rfl ?_
  have hS19 := And.intro (Ha15.blk 2 rfl) (Ha15.blk 1 rfl); refine ⟨fun _ => hS19, ?_⟩
  refine aO (i := 9) rfl kR kR kR kR kR (fun _ _ _ h => h) rfl rfl hS19 (fun W' hs' => aU eD rfl) ?_
  refine bM (i := 10) kR ?_
  have H23 : St w F0 [hB g 69 #[u0, .slice A0 l.length c0, u2, u3, u4], hR aL 77 (.slice B_3_7 (l.length + 1) c_3_7) (l ++ [e]), hB g_0_0 77 (List.toArray ce)] W14 := Ha15.pick [2, 0, 1] kD rfl; clear Ha15
  refine bR rfl Try.sizeOf64 rfl rfl rfl (Nat.le_of_ble_eq_true rfl) (by simp [Value.cells, Value.oneCell']) H23 ?_
  intro W20 hu21 Ha22; clear H23; clear hu21
  refine ⟨fun h => absS kR h, ?_⟩
  refine cB kR ?_ _
  refine aK ?_
  refine wp_seq ?_
  refine aN [0, 1, 2, 3, 4, 5, 6] rfl ?_
  refine aA ?_
  refine aB rfl (aF rfl) rfl rfl ?_
  refine aA ?_
  refine aB rfl (dA rfl) rfl rfl ?_
  refine aA ?_
  refine aB rfl (aU eD rfl) rfl rfl ?_
  refine aA ?_
  refine aB rfl (bB (k := 1) (v := .slice B_3_7 (l.length + 1) c_3_7) Try.isAgg64 rfl (Ha22.blk 0 rfl) rfl) rfl rfl ?_
  refine aA ?_
  refine aB rfl (dP Try.runUnderlying64 rfl) rfl rfl ?_
  refine aA ?_
  refine aB rfl (kF rfl rfl kO) rfl rfl ?_
  refine aA ?_
  refine aB rfl (aR rfl) rfl rfl ?_
  refine aI ?_
  refine aK ?_
  refine wp_ret ?_
  have hlt : l.length < 200 := by omega
  have e1 := addL_yes e l hlt
  have e2 := addN_yes l hlt
  refine bI (.inl rfl) Try.results87 rfl ?_
  rw [e1, e2]
  rw [List.length_append]
  exact ⟨B_3_7, c_3_7, congrArg (fun z => Ending.returned (Value.int IntKind.i64 z)) kO, Ha22.pick [0, 1] kD rfl⟩
theorem addEntity_i (x : GVat) (e : GEntity) (cs ce : List Value) (w : World) (h : bK.K w x cs) (hs : eX x ≤ 4194304) (h2 : aL.K w e ce) (hs2 : bU e ≤ 4194304) : Calls Try.prog 35 #[.agg cs.toArray, .agg ce.toArray] w (RetAI bK (dK e x) (addN x.aC) w) := by
 obtain ⟨Ax1, cx1, Ax2, cx2, Ax3, cx3, Ax4, cx4, rfl, hlx1, hCx1, hlx2, hCx2, hlx3, hCx3, hlx4, hCx4⟩ := lC h
 have s_Entities : bV bU x.aC ≤ 4194304 := by unfold eX at hs; omega
 have n_Entities : x.aC.length ≤ 4194304 := by unfold bV at s_Entities; omega
 have s_Loop : bV bT x.Loop ≤ 4194304 := by unfold eX at hs; omega
 have n_Loop : x.Loop.length ≤ 4194304 := by unfold bV at s_Loop; omega
 have s_Links : bV dH x.aJ ≤ 4194304 := by unfold eX at hs; omega
 have n_Links : x.aJ.length ≤ 4194304 := by unfold bV at s_Links; omega
 have s_Out : bV eO x.Out ≤ 4194304 := by unfold eX at hs; omega
 have n_Out : x.Out.length ≤ 4194304 := by unfold bV at s_Out; omega
 have hl_e : ce.length = 12 := cO h2
 have ho_e : ∀ u ∈ (List.toArray ce).toList, u.oneCell' = true := fF h2
 refine enter 15 [(0, .agg #[.int .i64 (x.Id), .slice Ax1 x.aC.length cx1, .slice Ax2 x.Loop.length cx2, .slice Ax3 x.aJ.length cx3, .slice Ax4 x.Out.length cx4]), (1, .agg (List.toArray ce))] Try.func35 rfl kR ?_
 intro xj
 have H1 : St w No [] w := St.enter
 refine wp_seq ?_
 refine aN [0, 1, 2, 3] rfl ?_
 refine aA ?_
 refine fJ rfl rfl rfl rfl H1 ?_
 intro g_0_0 W2 hu3 Ha4; clear H1; clear hu3
 refine aA ?_
 refine fJ rfl rfl rfl rfl Ha4 ?_
 intro g_0_1 W6 hu7 Ha8; clear Ha4; clear hu7
 refine aA ?_
 refine bP rfl Try.zeroValue69 rfl rfl Ha8 ?_
 intro g_0_2 W10 hu11 Ha12; clear Ha8; clear hu11
 refine aA ?_
 refine aB rfl (aR rfl) rfl rfl ?_
 refine aI ?_
 refine aK ?_
 refine wp_seq ?_
 refine aN [0, 1, 2, 3] rfl ?_
 refine aA ?_
 refine aB rfl (bN Try.isAgg69 Try.sizeOf69 rfl (Ha12.blk 2 rfl) rfl) rfl rfl ?_
 refine aA ?_
 refine bC rfl Try.call86 (vs := #[.agg #[.int .i64 (x.Id), .slice Ax1 x.aC.length cx1, .slice Ax2 x.Loop.length cx2, .slice Ax3 x.aJ.length cx3, .slice Ax4 x.Out.length cx4]]) rfl rfl rfl (copied_Vat x _ _ (gZ _ x hlx1 (cZ Ha12.1 hCx1) hlx2 (cZ Ha12.1 hCx2) hlx3 (cZ Ha12.1 hCx3) hlx4 (cZ Ha12.1 hCx4)) hs) ?_
 rintro e19 W18 ⟨cs14, rfl, hM15, hu16⟩; refine ⟨_, rfl, ?_⟩
 obtain ⟨B_1_1_1, c_1_1_1, B_1_1_2, c_1_1_2, B_1_1_3, c_1_1_3, B_1_1_4, c_1_1_4, rfl, hst17⟩ := fZ hM15
 have H20 := Ha12.news hu16 hst17; clear Ha12
 refine aA ?_
 refine bP rfl Try.zeroValue69 rfl rfl H20 ?_
 intro g_1_2 W21 hu22 Ha23; clear H20; clear hu22
 refine aA ?_
 refine bG rfl Try.sizeOf69 rfl rfl rfl rfl kS Ha23 ?_
 intro W25 hu26 Ha27; clear Ha23; clear hu26
 refine aI ?_
 refine aK ?_
 refine wp_seq ?_
 refine aN [0, 1, 2, 3] rfl ?_
 refine aA ?_
 refine aB rfl (bN Try.isAgg77 Try.sizeOf77 rfl (Ha27.blk 6 rfl) hl_e) rfl rfl ?_
 refine aA ?_
 refine bC rfl Try.call88 (vs := #[.agg (List.toArray ce)]) rfl rfl rfl (copied_Entity e _ _ (jD Ha27.1 h2) hs2) ?_
 rintro e32 W31 ⟨cs_2_1, rfl, hM29, hu30⟩; refine ⟨_, rfl, ?_⟩
 have H35 := Ha27.new (q := hM aL e cs_2_1) hu30 hM29; clear Ha27
 refine aA ?_
 have H36 : St w No [hB g_1_2 69 #[.int .i64 (x.Id), .slice B_1_1_1 x.aC.length c_1_1_1, .slice B_1_1_2 x.Loop.length c_1_1_2, .slice B_1_1_3 x.aJ.length c_1_1_3, .slice B_1_1_4 x.Out.length c_1_1_4], hR aL 77 (.slice B_1_1_1 x.aC.length c_1_1_1) x.aC, hM aL e cs_2_1, hR aH 181 (.slice B_1_1_2 x.Loop.length c_1_1_2) x.Loop, hR aW 138 (.slice B_1_1_3 x.aJ.length c_1_1_3) x.aJ, hR aS 150 (.slice B_1_1_4 x.Out.length c_1_1_4) x.Out, hB g_0_2 69 #[.int .i64 (0), .slice none 0 0, .slice none 0 0, .slice none 0 0, .slice none 0 0], hB g_0_1 77 (List.toArray ce), hB g_0_0 69 #[.int .i64 (x.Id), .slice Ax1 x.aC.length cx1, .slice Ax2 x.Loop.length cx2, .slice Ax3 x.aJ.length cx3, .slice Ax4 x.Out.length cx4]] W31 := H35.pick [1, 2, 0, 3, 4, 5, 6, 7, 8] kD rfl; clear H35
 obtain ⟨F37, hs38, _, hfr39⟩ := St.frame (l0 := [hB g_1_2 69 #[.int .i64 (x.Id), .slice B_1_1_1 x.aC.length c_1_1_1, .slice B_1_1_2 x.Loop.length c_1_1_2, .slice B_1_1_3 x.aJ.length c_1_1_3, .slice B_1_1_4 x.Out.length c_1_1_4], hR aL 77 (.slice B_1_1_1 x.aC.length c_1_1_1) x.aC, hM aL e cs_2_1]) (l := [hR aH 181 (.slice B_1_1_2 x.Loop.length c_1_1_2) x.Loop, hR aW 138 (.slice B_1_1_3 x.aJ.length c_1_1_3) x.aJ, hR aS 150 (.slice B_1_1_4 x.Out.length c_1_1_4) x.Out, hB g_0_2 69 #[.int .i64 (0), .slice none 0 0, .slice none 0 0, .slice none 0 0, .slice none 0 0], hB g_0_1 77 (List.toArray ce), hB g_0_0 69 #[.int .i64 (x.Id), .slice Ax1 x.aC.length cx1, .slice Ax2 x.Loop.length cx2, .slice Ax3 x.aJ.length cx3, .slice Ax4 x.Out.length cx4]]) H36
 refine bC rfl Try.call87 (vs := #[.pointer (some ⟨g_1_2, 0, none⟩), .agg (List.toArray cs_2_1)]) rfl rfl rfl (add_i x.aC e _ _ _ _ _ _ _ _ _ _ hs38 n_Entities) ?_
 rintro e42 W41 ⟨A_2_2, c_2_2, rfl, Hn40⟩; refine ⟨_, rfl, ?_⟩
 have H43 := hfr39 _ _ Hn40; clear H36
 refine aA ?_
 refine aB rfl (aR rfl) rfl rfl ?_
 refine aI ?_
 refine aK ?_
 refine wp_seq ?_
 refine aN [0, 1, 2, 3] rfl ?_
 refine aA ?_
 refine aB rfl (bN Try.isAgg69 Try.sizeOf69 rfl (H43.blk 0 rfl) rfl) rfl rfl ?_
 refine aA ?_
 refine aB rfl (aF rfl) rfl rfl ?_
 refine aA ?_
 have H47 : St w No [hB g_0_2 69 #[.int .i64 (0), .slice none 0 0, .slice none 0 0, .slice none 0 0, .slice none 0 0], hB g_1_2 69 #[.int .i64 (x.Id), .slice A_2_2 ((addL e x.aC).length) c_2_2, .slice B_1_1_2 x.Loop.length c_1_1_2, .slice B_1_1_3 x.aJ.length c_1_1_3, .slice B_1_1_4 x.Out.length c_1_1_4], hR aL 77 (.slice A_2_2 ((addL e x.aC).length) c_2_2) (addL e x.aC), hR aH 181 (.slice B_1_1_2 x.Loop.length c_1_1_2) x.Loop, hR aW 138 (.slice B_1_1_3 x.aJ.length c_1_1_3) x.aJ, hR aS 150 (.slice B_1_1_4 x.Out.length c_1_1_4) x.Out, hB g_0_1 77 (List.toArray ce), hB g_0_0 69 #[.int .i64 (x.Id), .slice Ax1 x.aC.length cx1, .slice Ax2 x.Loop.length cx2, .slice Ax3 x.aJ.length cx3, .slice Ax4 x.Out.length cx4]] W41 := H43.pick [5, 0, 1, 2, 3, 4, 6, 7] kD rfl; clear H43
 refine bG rfl Try.sizeOf69 rfl rfl rfl rfl kS H47 ?_
 intro W44 hu45 Ha46; clear H47; clear hu45
 refine aA ?_
 refine aB rfl (aR rfl) rfl rfl ?_
 refine aI ?_
 refine aK ?_
 refine wp_ret ?_
 refine iM (.inl rfl) Try.results35 Try.isAgg69 Try.sizeOf69 rfl rfl (Ha46.blk 0 rfl) rfl ?_
 refine ⟨[.int .i64 (x.Id), .slice A_2_2 ((addL e x.aC).length) c_2_2, .slice B_1_1_2 x.Loop.length c_1_1_2, .slice B_1_1_3 x.aJ.length c_1_1_3, .slice B_1_1_4 x.Out.length c_1_1_4], rfl, ?_, Ha46.1⟩
 exact gM (Ha46.pick [2, 3, 4, 5] kD rfl).star
def exP (n : Int) : GExport → Bool := fun x => decide (x.Entity = n)
def exUp (e : GExport) : GExport := ⟨e.Pos, e.Entity, IntKind.i64.wrap (e.Count + 1)⟩
def pxL (n : Int) (l : List GExport) (nx : Int) : List GExport := if 0 ≤ fidx (exP n) 0 l then l.set (fidx (exP n) 0 l).toNat (exUp (l.getD (fidx (exP n) 0 l).toNat ⟨0, 0, 0⟩)) else l ++ [⟨IntKind.i64.wrap (nx + 1), n, 1⟩]
def pxX (n : Int) (l : List GExport) (nx : Int) : Int := if 0 ≤ fidx (exP n) 0 l then nx else IntKind.i64.wrap (nx + 1)
def pxN (n : Int) (l : List GExport) (nx : Int) : Int := if 0 ≤ fidx (exP n) 0 l then (l.getD (fidx (exP n) 0 l).toNat ⟨0, 0, 0⟩).Pos else IntKind.i64.wrap (nx + 1)
def pxV (n : Int) (x : GLink) : GLink := ⟨x.bD, x.Up, pxL n x.aV x.Next, pxX n x.aV x.Next, x.aT, x.bO, x.bA⟩
theorem px_yes (n : Int) (l : List GExport) (nx : Int) (k : Nat) (hk : k < l.length) (hf : fidx (exP n) 0 l = (k : Int)) : pxL n l nx = l.set k (exUp l[k]) ∧ pxX n l nx = nx ∧ pxN n l nx = l[k].Pos := by
 have h0 : (0 : Int) ≤ (k : Int) := by omega
 have hd : l.getD k ⟨0, 0, 0⟩ = l[k] := by simp [List.getD, hk]
 unfold pxL pxX pxN
 simp only [hf, if_pos h0, Int.toNat_natCast, hd, and_self]
theorem px_no (n : Int) (l : List GExport) (nx : Int) (hf : fidx (exP n) 0 l = -1) : pxL n l nx = l ++ [⟨IntKind.i64.wrap (nx + 1), n, 1⟩] ∧ pxX n l nx = IntKind.i64.wrap (nx + 1) ∧ pxN n l nx = IntKind.i64.wrap (nx + 1) := by
 have h0 : ¬ (0 : Int) ≤ -1 := by omega
 unfold pxL pxX pxN
 simp only [hf, if_neg h0, and_self]
theorem fidx_case {α : Type} (p : α → Bool) (l : List α) : fidx p 0 l = -1 ∨ ∃ k : Nat, k < l.length ∧ fidx p 0 l = (k : Int) := by
 rcases fidx_range p l 0 with h | h
 ·exact .inl h
 ·exact .inr ⟨(fidx p 0 l).toNat, by omega, by omega⟩
theorem link_closeN {W : World} {F : Nat → Prop} {x : GLink} {n : Nat} {B2 : Option Addr} {c2 : Nat} {B4 : Option Addr} {c4 : Nat} {B6 : Option Addr} {c6 : Nat} (hn : n = x.aV.length) (h : Star [hR bE 188 (.slice B2 n c2) x.aV, hR aY 197 (.slice B4 x.aT.length c4) x.aT, hR aY 197 (.slice B6 x.bA.length c6) x.bA] W F) : aW.M W F x [.int .i64 (x.bD), .bool (x.Up), .slice B2 n c2, .int .i64 (x.Next), .slice B4 x.aT.length c4, .int .i64 (x.bO), .slice B6 x.bA.length c6] := by
 subst hn
 exact iE h
theorem exF_clo (x : GExport) (cs : List Value) (p : Int) (g : Nat) (w : World) (h : bE.K w x cs) (hc : w.cell? ⟨g, 0, none⟩ = some (.int .i64 p)) : Calls Try.prog 161 #[.agg cs.toArray, .pointer (some ⟨g, 0, none⟩)] w (fD (exP p x) w) := by
 obtain rfl := iV h
 refine enter 8 [(0, .agg #[.int .i64 (x.Pos), .int .i64 (x.Entity), .int .i64 (x.Count)]), (1, .pointer (some ⟨g, 0, none⟩))] Try.func161 rfl kR ?_
 intro xj
 have H1 : St w No [] w := St.enter
 refine wp_seq ?_
 refine aN [0, 1] rfl ?_
 refine aA ?_
 refine fJ rfl rfl rfl rfl H1 ?_
 intro g_0_0 W2 hu3 Ha4; clear H1; clear hu3
 refine aA ?_
 refine aB rfl (aR rfl) rfl rfl ?_
 refine aI ?_
 refine aK ?_
 refine wp_seq ?_
 refine aN [0, 1, 2, 3, 4] rfl ?_
 refine aA ?_
 refine aB rfl (aU fa_188_1 rfl) rfl rfl ?_
 refine aA ?_
 refine aB rfl (bB (k := 1) (v := .int .i64 (x.Entity)) Try.isAgg3 rfl (Ha4.blk 0 rfl) rfl) rfl rfl ?_
 refine aA ?_
 refine aB rfl (iQ (v := .int .i64 (p)) Try.isAgg3 rfl (Ha4.1.read hc)) rfl rfl ?_
 refine aA ?_
 refine aB rfl (bS rfl rfl) rfl rfl ?_
 refine aA ?_
 refine aB rfl (aR rfl) rfl rfl ?_
 refine aI ?_
 refine aK ?_
 refine wp_ret ?_
 refine bI (.inl rfl) Try.results161 rfl ?_
 exact ⟨rfl, Ha4.1⟩
theorem of_i (l : List GExport) (n : Int) (g c0 : Nat) (A0 : Option Addr) (v0 v1 v3 v4 v5 v6 : Value) (F0 : Nat → Prop) (w : World) (h : Star [hB g 138 #[v0, v1, .slice A0 l.length c0, v3, v4, v5, v6], hR bE 188 (.slice A0 l.length c0) l] w F0) (q : Int) (hq : fidx (exP n) 0 l = q) : Calls Try.prog 135 #[.pointer (some ⟨g, 0, none⟩), .int .i64 n] w (fun e' w' => e' = .returned (.int .i64 q) ∧ St w F0 [hB g 138 #[v0, v1, .slice A0 l.length c0, v3, v4, v5, v6], hR bE 188 (.slice A0 l.length c0) l] w') := by
 refine enter 11 [(0, .pointer (some ⟨g, 0, none⟩)), (1, .int .i64 (n))] Try.func135 rfl kR ?_
 intro xj
 have H1 : St w F0 [hB g 138 #[v0, v1, .slice A0 l.length c0, v3, v4, v5, v6], hR bE 188 (.slice A0 l.length c0) l] w := St.iA h
 refine wp_seq ?_
 refine aN [0, 1] rfl ?_
 refine aA ?_
 refine fJ rfl rfl rfl rfl H1 ?_
 intro g_0_0 W2 hu3 Ha4; clear H1; clear hu3
 refine aA ?_
 refine aB rfl (aR rfl) rfl rfl ?_
 refine aI ?_
 refine aK ?_
 refine wp_seq ?_
 refine aN [0, 1, 2, 3, 4, 5, 6] rfl ?_
 refine aA ?_
 refine aB rfl (aF rfl) rfl rfl ?_
 refine aA ?_
 refine aB rfl (dA rfl) rfl rfl ?_
 refine aA ?_
 refine aB rfl (aU iB rfl) rfl rfl ?_
 refine aA ?_
 refine aB rfl (bB (k := 2) (v := .slice A0 l.length c0) Try.isAgg135 rfl (Ha4.blk 1 rfl) rfl) rfl rfl ?_
 refine aA ?_
 refine aB rfl (rn_makeFunc (us := #[]) (vs := #[.pointer (some ⟨g_0_0, 0, none⟩)]) rfl rfl) rfl rfl ?_
 refine aA ?_
 refine bC rfl Try.call160 (vs := #[.slice A0 l.length c0, .func (.func 161) #[] #[.pointer (some ⟨g_0_0, 0, none⟩)]]) rfl rfl rfl (exF_idx (.pointer (some ⟨g_0_0, 0, none⟩)) (exP n) l _ _ _ (Ha4.fU 2 rfl) (fun x cs w' hu hK => exF_clo x cs n _ w' hK (hu.read ((Ha4.blk 0 rfl).at 0 rfl)))) ?_
 rintro e8 W7 ⟨rfl, hu6⟩; refine ⟨_, rfl, ?_⟩
 have H9 := Ha4.no hu6; clear Ha4
 refine aA ?_
 refine aB rfl (aR rfl) rfl rfl ?_
 refine aI ?_
 refine aK ?_
 refine wp_ret ?_
 refine bI (.inl rfl) Try.results135 rfl ?_
 exact ⟨congrArg (fun z => Ending.returned (Value.int IntKind.i64 z)) hq, H9.pick [1, 2] kD rfl⟩
theorem put_old (l : List GExport) (n nx : Int) (g c0 : Nat) (A0 : Option Addr) (v0 v1 v4 v5 v6 : Value) (F0 : Nat → Prop) (w : World) (h : Star [hB g 138 #[v0, v1, .slice A0 (l).length c0, .int .i64 (nx), v4, v5, v6], hR bE 188 (.slice A0 (l).length c0) (l)] w F0) (hn : l.length ≤ 4194304) (k : Nat) (hk : k < l.length) (hf : fidx (exP n) 0 l = (k : Int)) : Calls Try.prog 91 #[.pointer (some ⟨g, 0, none⟩), .int .i64 n] w (fun e' w' => ∃ A c, e' = .returned (.int .i64 (pxN n l nx)) ∧ St w F0 [hB g 138 #[v0, v1, .slice A (pxL n l nx).length c, .int .i64 (pxX n l nx), v4, v5, v6], hR bE 188 (.slice A (pxL n l nx).length c) (pxL n l nx)] w') := by
 refine enter 56 [(0, .pointer (some ⟨g, 0, none⟩)), (1, .int .i64 (n))] Try.func91 rfl kR ?_
 intro xj
 have H1 : St w F0 [hB g 138 #[v0, v1, .slice A0 l.length c0, .int .i64 (nx), v4, v5, v6], hR bE 188 (.slice A0 l.length c0) l] w := St.iA h
 refine wp_seq ?_
 refine aN [0] rfl ?_
 refine aA ?_
 refine aB rfl (aR rfl) rfl rfl ?_
 refine aI ?_
 refine aK ?_
 refine wp_seq ?_
 refine wp_seq ?_
 refine aN [0, 1, 2, 3] rfl ?_
 refine aA ?_
 refine aB rfl (aF rfl) rfl rfl ?_
 refine aA ?_
 refine aB rfl (aF rfl) rfl rfl ?_
 refine aA ?_
 obtain ⟨F2, hs3, _, hfr4⟩ := St.frame (l0 := [hB g 138 #[v0, v1, .slice A0 l.length c0, .int .i64 (nx), v4, v5, v6], hR bE 188 (.slice A0 l.length c0) l]) (l := []) H1
 refine bC rfl Try.call135 (vs := #[.pointer (some ⟨g, 0, none⟩), .int .i64 (n)]) rfl rfl rfl (of_i l n _ _ _ _ _ _ _ _ _ _ _ hs3 ((k : Nat) : Int) hf) ?_
 rintro e7 W6 ⟨rfl, Hn5⟩; refine ⟨_, rfl, ?_⟩
 have H8 := hfr4 _ _ Hn5; clear H1
 refine aA ?_
 refine aB rfl (aR rfl) rfl rfl ?_
 refine aI ?_
 refine aK ?_
 refine wp_seq ?_
 refine aN [0, 1] rfl ?_
 refine aA ?_
 refine aB rfl (aF rfl) rfl rfl ?_
 refine aA ?_
 refine aB rfl (bX (p := (0 : Int) ≤ ((k : Nat) : Int)) kO (rn_geq (p := ((k : Nat) : Int)) (q := 0) rfl rfl)) rfl rfl ?_
 refine aI ?_
 refine aK ?_
 refine fK rfl ?_
 refine wp_seq ?_
 have H9 : St w F0 [hR bE 188 (.slice A0 l.length c0) l, hB g 138 #[v0, v1, .slice A0 l.length c0, .int .i64 (nx), v4, v5, v6]] W6 := H8.pick [1, 0] kD rfl; clear H8
 obtain ⟨gf10, rfl⟩ := H9.openS (q := k) hk
 obtain ⟨ce11, hn12, H13⟩ := H9.openG (q := k) hk; clear H9
 have H14 : St w F0 [hE bE 188 gf10 c0 k ce11 l, hM bE (l[k]) ce11, hB g 138 #[v0, v1, .slice (some ⟨gf10, 0, none⟩) l.length c0, .int .i64 (nx), v4, v5, v6]] W6 := H13; clear H13
 obtain rfl := iV (H14.kn 1 rfl)
 have H15 : St w F0 [hE bE 188 gf10 c0 k [.int .i64 ((l[k]).Pos), .int .i64 ((l[k]).Entity), .int .i64 ((l[k]).Count)] l, hB g 138 #[v0, v1, .slice (some ⟨gf10, 0, none⟩) l.length c0, .int .i64 (nx), v4, v5, v6]] W6 := H14.pick [0, 2] kD rfl; clear H14
 refine aN [0, 1, 2, 3, 4, 5, 6, 7, 8, 9, 10, 11] rfl ?_
 refine aA ?_
 refine aB rfl (aF rfl) rfl rfl ?_
 refine aA ?_
 refine aB rfl (dA rfl) rfl rfl ?_
 refine aA ?_
 refine aB rfl (aU iB rfl) rfl rfl ?_
 refine aA ?_
 refine aB rfl (bB (k := 2) (v := .slice (some ⟨gf10, 0, none⟩) l.length c0) Try.isAgg135 rfl (H15.blk 1 rfl) rfl) rfl rfl ?_
 refine aA ?_
 refine aB rfl (aF rfl) rfl rfl ?_
 refine aA ?_
 refine aB rfl (bQ (k := k) Try.runUnderlying135 Try.sizeOf188 rfl rfl rfl (Nat.lt_of_lt_of_eq hk hn12.symm)) rfl rfl ?_
 refine aA ?_
 refine aB rfl (aU fa_188_2 rfl) rfl rfl ?_
 refine aA ?_
 refine aB rfl (iT (v := .int .i64 ((l[k]).Count)) Try.isAgg3 rfl (H15.catE 0 rfl) rfl) rfl rfl ?_
 refine aA ?_
 refine aB rfl (jI rfl rfl) rfl rfl ?_
 refine aA ?_
 refine aB rfl (bQ (k := k) Try.runUnderlying135 Try.sizeOf188 rfl rfl rfl (Nat.lt_of_lt_of_eq hk hn12.symm)) rfl rfl ?_
 refine aA ?_
 refine aB rfl (aU fa_188_2 rfl) rfl rfl ?_
 refine aA ?_
 refine op_storeE (dk := bE) (k := 2) (ce' := [.int .i64 ((l[k]).Pos), .int .i64 ((l[k]).Entity), .int .i64 (IntKind.i64.wrap (((l[k]).Count) + 1))]) rfl Try.sizeOf3 rfl rfl rfl rfl (Nat.le_of_ble_eq_true rfl) (by simp [Value.cells, Value.oneCell']) rfl H15 ?_
 intro W16 hu17 Ha18; clear H15; clear hu17
 refine aI ?_
 refine aK ?_
 refine wp_seq ?_
 refine aN [0, 1, 2, 3, 4, 5, 6, 7, 8] rfl ?_
 refine aA ?_
 refine aB rfl (aF rfl) rfl rfl ?_
 refine aA ?_
 refine aB rfl (dA rfl) rfl rfl ?_
 refine aA ?_
 refine aB rfl (aU iB rfl) rfl rfl ?_
 refine aA ?_
 refine aB rfl (bB (k := 2) (v := .slice (some ⟨gf10, 0, none⟩) l.length c0) Try.isAgg135 rfl (Ha18.blk 1 rfl) rfl) rfl rfl ?_
 refine aA ?_
 refine aB rfl (aF rfl) rfl rfl ?_
 refine aA ?_
 refine aB rfl (bQ (k := k) Try.runUnderlying135 Try.sizeOf188 rfl rfl rfl (Nat.lt_of_lt_of_eq hk hn12.symm)) rfl rfl ?_
 refine aA ?_
 refine aB rfl (aU fa_188_0 rfl) rfl rfl ?_
 refine aA ?_
 refine aB rfl (iT (v := .int .i64 ((l[k]).Pos)) Try.isAgg3 rfl (Ha18.catE 0 rfl) rfl) rfl rfl ?_
 refine aA ?_
 refine aB rfl (aR rfl) rfl rfl ?_
 refine aI ?_
 have H20 : St w F0 [hM bE (exUp l[k]) [.int .i64 ((l[k]).Pos), .int .i64 ((l[k]).Entity), .int .i64 (IntKind.i64.wrap (((l[k]).Count) + 1))], hE bE 188 gf10 c0 k [.int .i64 ((l[k]).Pos), .int .i64 ((l[k]).Entity), .int .i64 (IntKind.i64.wrap (((l[k]).Count) + 1))] l, hB g 138 #[v0, v1, .slice (some ⟨gf10, 0, none⟩) l.length c0, .int .i64 (nx), v4, v5, v6]] W16 := Ha18.add0 (q := hM bE (exUp l[k]) [.int .i64 ((l[k]).Pos), .int .i64 ((l[k]).Entity), .int .i64 (IntKind.i64.wrap (((l[k]).Count) + 1))]) (kU _ No (exUp l[k])); clear Ha18
 have H21 : St w F0 [hE bE 188 gf10 c0 k [.int .i64 ((l[k]).Pos), .int .i64 ((l[k]).Entity), .int .i64 (IntKind.i64.wrap (((l[k]).Count) + 1))] l, hM bE (exUp l[k]) [.int .i64 ((l[k]).Pos), .int .i64 ((l[k]).Entity), .int .i64 (IntKind.i64.wrap (((l[k]).Count) + 1))], hB g 138 #[v0, v1, .slice (some ⟨gf10, 0, none⟩) l.length c0, .int .i64 (nx), v4, v5, v6]] W16 := H20.pick [1, 0, 2] kD rfl; clear H20
 have H22 : St w F0 [hR bE 188 (.slice (some ⟨gf10, 0, none⟩) l.length c0) (l.set k (exUp l[k])), hB g 138 #[v0, v1, .slice (some ⟨gf10, 0, none⟩) l.length c0, .int .i64 (nx), v4, v5, v6]] W16 := H21.closeG rfl (by rw [List.length_set]); clear H21
 refine aK ?_
 refine wp_ret ?_
 refine bY ?_
 obtain ⟨e1, e2, e3⟩ := px_yes n l nx k hk hf
 refine bI (.inl rfl) Try.results91 rfl ?_
 rw [e1, e2, e3]
 rw [List.length_set]
 exact ⟨(some ⟨gf10, 0, none⟩), c0, rfl, H22.pick [1, 0] kD rfl⟩
theorem put_new (l : List GExport) (n nx : Int) (g c0 : Nat) (A0 : Option Addr) (v0 v1 v4 v5 v6 : Value) (F0 : Nat → Prop) (w : World) (h : Star [hB g 138 #[v0, v1, .slice A0 (l).length c0, .int .i64 (nx), v4, v5, v6], hR bE 188 (.slice A0 (l).length c0) (l)] w F0) (hn : l.length ≤ 4194304) (hf : fidx (exP n) 0 l = -1) : Calls Try.prog 91 #[.pointer (some ⟨g, 0, none⟩), .int .i64 n] w (fun e' w' => ∃ A c, e' = .returned (.int .i64 (pxN n l nx)) ∧ St w F0 [hB g 138 #[v0, v1, .slice A (pxL n l nx).length c, .int .i64 (pxX n l nx), v4, v5, v6], hR bE 188 (.slice A (pxL n l nx).length c) (pxL n l nx)] w') := by
 refine enter 56 [(0, .pointer (some ⟨g, 0, none⟩)), (1, .int .i64 (n))] Try.func91 rfl kR ?_
 intro xj
 have H1 : St w F0 [hB g 138 #[v0, v1, .slice A0 l.length c0, .int .i64 (nx), v4, v5, v6], hR bE 188 (.slice A0 l.length c0) l] w := St.iA h
 refine wp_seq ?_
 refine aN [0] rfl ?_
 refine aA ?_
 refine aB rfl (aR rfl) rfl rfl ?_
 refine aI ?_
 refine aK ?_
 refine wp_seq ?_
 refine wp_seq ?_
 refine aN [0, 1, 2, 3] rfl ?_
 refine aA ?_
 refine aB rfl (aF rfl) rfl rfl ?_
 refine aA ?_
 refine aB rfl (aF rfl) rfl rfl ?_
 refine aA ?_
 obtain ⟨F2, hs3, _, hfr4⟩ := St.frame (l0 := [hB g 138 #[v0, v1, .slice A0 l.length c0, .int .i64 (nx), v4, v5, v6], hR bE 188 (.slice A0 l.length c0) l]) (l := []) H1
 refine bC rfl Try.call135 (vs := #[.pointer (some ⟨g, 0, none⟩), .int .i64 (n)]) rfl rfl rfl (of_i l n _ _ _ _ _ _ _ _ _ _ _ hs3 (-1) hf) ?_
 rintro e7 W6 ⟨rfl, Hn5⟩; refine ⟨_, rfl, ?_⟩
 have H8 := hfr4 _ _ Hn5; clear H1
 refine aA ?_
 refine aB rfl (aR rfl) rfl rfl ?_
 refine aI ?_
 refine aK ?_
 refine wp_seq ?_
 refine aN [0, 1] rfl ?_
 refine aA ?_
 refine aB rfl (aF rfl) rfl rfl ?_
 refine aA ?_
 refine aB rfl (bZ (p := (0 : Int) ≤ (-1)) kO (rn_geq (p := (-1)) (q := 0) rfl rfl)) rfl rfl ?_
 refine aI ?_
 refine aK ?_
 refine fA rfl ?_
 refine wp_skip ?_
 refine aK ?_
 refine wp_seq ?_
 refine aN [0, 1, 2, 3, 4, 5, 6, 7] rfl ?_
 refine aA ?_
 refine aB rfl (aF rfl) rfl rfl ?_
 refine aA ?_
 refine aB rfl (dA rfl) rfl rfl ?_
 refine aA ?_
 refine aB rfl (aU jF rfl) rfl rfl ?_
 refine aA ?_
 refine aB rfl (bB (k := 3) (v := .int .i64 (nx)) Try.isAgg3 rfl (H8.blk 0 rfl) rfl) rfl rfl ?_
 refine aA ?_
 refine aB rfl (jI rfl rfl) rfl rfl ?_
 refine aA ?_
 refine aB rfl (dA rfl) rfl rfl ?_
 refine aA ?_
 refine aB rfl (aU jF rfl) rfl rfl ?_
 refine aA ?_
 refine bR rfl Try.sizeOf3 rfl rfl rfl (Nat.le_of_ble_eq_true rfl) (by simp [Value.cells, Value.oneCell']) H8 ?_
 intro W9 hu10 Ha11; clear H8; clear hu10
 refine aI ?_
 refine aK ?_
 refine wp_seq ?_
 refine dG (fun W' => Blk W' g 138 #[v0, v1, .slice A0 l.length c0, .int .i64 (IntKind.i64.wrap (nx + 1)), v4, v5, v6]) 15 kR ?_
 have H13 := Ha11.drew; clear Ha11
 have hS14 : Blk W9.drew g 138 #[v0, v1, .slice A0 l.length c0, .int .i64 (IntKind.i64.wrap (nx + 1)), v4, v5, v6] := H13.blk 0 rfl
 refine aO (i := 0) rfl kR kR kR kR kR (fun _ _ _ h => h) rfl rfl hS14 (fun W' hs' => aF rfl) ?_
 refine aO (i := 1) rfl kR kR kR kR kR (fun _ _ _ h => h) rfl rfl hS14 (fun W' hs' => aF rfl) ?_
 refine aO (i := 2) rfl kR kR kR kR kR (fun _ _ _ h => h) rfl rfl hS14 (fun W' hs' => dA rfl) ?_
 refine aO (i := 3) rfl kR kR kR kR kR (fun _ _ _ h => h) rfl rfl hS14 (fun W' hs' => aU iB rfl) ?_
 refine aO (i := 4) rfl kR kR kR kR kR (fun _ _ _ h => h) rfl rfl hS14 (fun W' hs' => bB (k := 2) (v := .slice A0 l.length c0) Try.isAgg135 rfl hs' rfl) ?_
 refine aO (i := 5) rfl kR kR kR kR kR (fun _ _ _ h => h) rfl rfl hS14 (fun W' hs' => aF rfl) ?_
 refine aO (i := 6) rfl kR kR kR kR kR (fun _ _ _ h => h) rfl rfl hS14 (fun W' hs' => dA rfl) ?_
 refine aO (i := 7) rfl kR kR kR kR kR (fun _ _ _ h => h) rfl rfl hS14 (fun W' hs' => aU jF rfl) ?_
 refine aO (i := 8) rfl kR kR kR kR kR (fun _ _ _ h => h) rfl rfl hS14 (fun W' hs' => bB (k := 3) (v := .int .i64 (IntKind.i64.wrap (nx + 1))) Try.isAgg3 rfl hs' rfl) ?_
 refine aO (i := 9) rfl kR kR kR kR kR (fun _ _ _ h => h) rfl rfl hS14 (fun W' hs' => aF rfl) ?_
 refine aO (i := 10) rfl kR kR kR kR kR (fun _ _ _ h => h) rfl rfl hS14 (fun W' hs' => dS (vs := [(0, .int .i64 (IntKind.i64.wrap (nx + 1))), (1, .int .i64 (n)), (2, .int .i64 (1))]) (cells := #[.int .i64 (IntKind.i64.wrap (nx + 1)), .int .i64 (n), .int .i64 (1)]) rfl kR) ?_
 refine bM (i := 11) kR ?_
 refine dD rfl Try.runUnderlying135 Try.sizeOf188 kD Try.zeroValue188 rfl rfl rfl rfl H13 ?_
 intro g_6_11 W15 hu16 Ha17; clear H13; clear hu16
 have hS19 := Ha17.blk 1 rfl; refine ⟨fun _ => hS19, ?_⟩
 refine bM (i := 12) kR ?_
 have H22 : St w F0 [hR bE 188 (.slice A0 l.length c0) l, hB g_6_11 188 #[.int .i64 (IntKind.i64.wrap (nx + 1)), .int .i64 (n), .int .i64 (1)], hB g 138 #[v0, v1, .slice A0 l.length c0, .int .i64 (IntKind.i64.wrap (nx + 1)), v4, v5, v6]] W15 := Ha17.pick [2, 0, 1] kD rfl; clear Ha17
 refine iY (xs := l) (p := (⟨IntKind.i64.wrap (nx + 1), n, 1⟩ : GExport)) (n' := (l.length + 1)) (ys := (l ++ [(⟨IntKind.i64.wrap (nx + 1), n, 1⟩ : GExport)])) rfl Try.underlying135 j3 rfl kD kD rfl rfl (kU _ No (⟨IntKind.i64.wrap (nx + 1), n, 1⟩ : GExport)) kO rfl rfl rfl rfl H22 ?_
 intro B_6_12 c_6_12 W20 Ha21; clear H22
 have hS24 := Ha21.blk 1 rfl; refine ⟨fun _ => hS24, ?_⟩
 refine bM (i := 13) kR ?_
 refine aB rfl (dA rfl) rfl rfl ?_
 have hS25 := Ha21.blk 1 rfl; refine ⟨fun _ => hS25, ?_⟩
 refine aO (i := 14) rfl kR kR kR kR kR (fun _ _ _ h => h) rfl rfl hS25 (fun W' hs' => aU iB rfl) ?_
 refine bM (i := 15) kR ?_
 have H29 : St w F0 [hB g 138 #[v0, v1, .slice A0 l.length c0, .int .i64 (IntKind.i64.wrap (nx + 1)), v4, v5, v6], hR bE 188 (.slice B_6_12 (l.length + 1) c_6_12) (l ++ [(⟨IntKind.i64.wrap (nx + 1), n, 1⟩ : GExport)])] W20 := Ha21.pick [1, 0] kD rfl; clear Ha21
 refine bR rfl Try.sizeOf135 rfl rfl rfl (Nat.le_of_ble_eq_true rfl) (by simp [Value.cells, Value.oneCell']) H29 ?_
 intro W26 hu27 Ha28; clear H29; clear hu27
 refine ⟨fun h => absS kR h, ?_⟩
 refine cB kR ?_ _
 refine aK ?_
 refine wp_seq ?_
 refine aN [0, 1, 2, 3, 4] rfl ?_
 refine aA ?_
 refine aB rfl (aF rfl) rfl rfl ?_
 refine aA ?_
 refine aB rfl (dA rfl) rfl rfl ?_
 refine aA ?_
 refine aB rfl (aU jF rfl) rfl rfl ?_
 refine aA ?_
 refine aB rfl (bB (k := 3) (v := .int .i64 (IntKind.i64.wrap (nx + 1))) Try.isAgg3 rfl (Ha28.blk 0 rfl) rfl) rfl rfl ?_
 refine aA ?_
 refine aB rfl (aR rfl) rfl rfl ?_
 refine aI ?_
 refine aK ?_
 refine wp_ret ?_
 obtain ⟨e1, e2, e3⟩ := px_no n l nx hf
 refine bI (.inl rfl) Try.results91 rfl ?_
 rw [e1, e2, e3]
 rw [List.length_append]
 exact ⟨B_6_12, c_6_12, rfl, Ha28.pick [0, 1] kD rfl⟩
theorem put_i (l : List GExport) (n nx : Int) (g c0 : Nat) (A0 : Option Addr) (v0 v1 v4 v5 v6 : Value) (F0 : Nat → Prop) (w : World) (h : Star [hB g 138 #[v0, v1, .slice A0 (l).length c0, .int .i64 (nx), v4, v5, v6], hR bE 188 (.slice A0 (l).length c0) (l)] w F0) (hn : l.length ≤ 4194304) : Calls Try.prog 91 #[.pointer (some ⟨g, 0, none⟩), .int .i64 n] w (fun e' w' => ∃ A c, e' = .returned (.int .i64 (pxN n l nx)) ∧ St w F0 [hB g 138 #[v0, v1, .slice A (pxL n l nx).length c, .int .i64 (pxX n l nx), v4, v5, v6], hR bE 188 (.slice A (pxL n l nx).length c) (pxL n l nx)] w') := by
 rcases fidx_case (exP n) l with hf | ⟨k, hk, hf⟩
 ·exact put_new l n nx g c0 A0 v0 v1 v4 v5 v6 F0 w h hn hf
 ·exact put_old l n nx g c0 A0 v0 v1 v4 v5 v6 F0 w h hn k hk hf
theorem putExport_s (x : GLink) (n : Int) (cs : List Value) (w : World) (h : aW.K w x cs) (hs : dH x ≤ 4194304) : Calls Try.prog 152 #[.agg cs.toArray, .int .i64 n] w (RetAI aW (pxV n x) (pxN n x.aV x.Next) w) := by
 obtain ⟨Ax2, cx2, Ax4, cx4, Ax6, cx6, rfl, hlx2, hCx2, hlx4, hCx4, hlx6, hCx6⟩ := jA h
 have s_Exports : bV jP x.aV ≤ 4194304 := by unfold dH at hs; omega
 have n_Exports : x.aV.length ≤ 4194304 := by unfold bV at s_Exports; omega
 have s_Questions : bV fO x.aT ≤ 4194304 := by unfold dH at hs; omega
 have n_Questions : x.aT.length ≤ 4194304 := by unfold bV at s_Questions; omega
 have s_Answers : bV fO x.bA ≤ 4194304 := by unfold dH at hs; omega
 have n_Answers : x.bA.length ≤ 4194304 := by unfold bV at s_Answers; omega
 refine enter 60 [(0, .agg #[.int .i64 (x.bD), .bool (x.Up), .slice Ax2 x.aV.length cx2, .int .i64 (x.Next), .slice Ax4 x.aT.length cx4, .int .i64 (x.bO), .slice Ax6 x.bA.length cx6]), (1, .int .i64 (n))] Try.func152 rfl kR ?_
 intro xj
 have H1 : St w No [] w := St.enter
 refine wp_seq ?_
 refine aN [0, 1, 2] rfl ?_
 refine aA ?_
 refine fJ rfl rfl rfl rfl H1 ?_
 intro g_0_0 W2 hu3 Ha4; clear H1; clear hu3
 refine aA ?_
 refine bP rfl Try.zeroValue138 rfl rfl Ha4 ?_
 intro g_0_1 W6 hu7 Ha8; clear Ha4; clear hu7
 refine aA ?_
 refine aB rfl (aR rfl) rfl rfl ?_
 refine aI ?_
 refine aK ?_
 refine wp_seq ?_
 refine aN [0, 1, 2, 3] rfl ?_
 refine aA ?_
 refine aB rfl (bN Try.isAgg138 Try.sizeOf138 rfl (Ha8.blk 1 rfl) rfl) rfl rfl ?_
 refine aA ?_
 refine bC rfl Try.call155 (vs := #[.agg #[.int .i64 (x.bD), .bool (x.Up), .slice Ax2 x.aV.length cx2, .int .i64 (x.Next), .slice Ax4 x.aT.length cx4, .int .i64 (x.bO), .slice Ax6 x.bA.length cx6]]) rfl rfl rfl (l10Copy_s x _ _ (kM _ x hlx2 (cZ Ha8.1 hCx2) hlx4 (cZ Ha8.1 hCx4) hlx6 (cZ Ha8.1 hCx6)) hs) ?_
 rintro e15 W14 ⟨cs10, rfl, hM11, hu12⟩; refine ⟨_, rfl, ?_⟩
 obtain ⟨B_1_1_2, c_1_1_2, B_1_1_4, c_1_1_4, B_1_1_6, c_1_1_6, rfl, hst13⟩ := jB hM11
 have H16 := Ha8.news hu12 hst13; clear Ha8
 refine aA ?_
 refine bP rfl Try.zeroValue138 rfl rfl H16 ?_
 intro g_1_2 W17 hu18 Ha19; clear H16; clear hu18
 refine aA ?_
 refine bG rfl Try.sizeOf138 rfl rfl rfl rfl kS Ha19 ?_
 intro W21 hu22 Ha23; clear Ha19; clear hu22
 refine aI ?_
 refine aK ?_
 refine wp_seq ?_
 refine wp_seq ?_
 refine aN [0] rfl ?_
 refine aA ?_
 refine aB rfl (aR rfl) rfl rfl ?_
 refine aI ?_
 refine aK ?_
 refine wp_block ?_
 refine wp_loop_ghost (fun r a' W' => ∃ (i1 : Nat) (x' : Nat → Value), a' = bH 60 x' [(1, .int .i64 (n)), (2, .pointer (some ⟨g_0_0, 0, none⟩)), (4, .pointer (some ⟨g_0_1, 0, none⟩)), (6, .pointer (some ⟨g_1_2, 0, none⟩)), (7, .int .i64 (((i1 : Nat) : Int)))] ∧ (i1 + r = x.aV.length) ∧ (fidx (exP n) 0 x.aV = fidx (exP n) ((i1 : Nat) : Int) (x.aV.drop i1)) ∧ St w No [hB g_1_2 138 #[.int .i64 (x.bD), .bool (x.Up), .slice B_1_1_2 x.aV.length c_1_1_2, .int .i64 (x.Next), .slice B_1_1_4 x.aT.length c_1_1_4, .int .i64 (x.bO), .slice B_1_1_6 x.bA.length c_1_1_6], hR bE 188 (.slice B_1_1_2 x.aV.length c_1_1_2) x.aV, hR aY 197 (.slice B_1_1_4 x.aT.length c_1_1_4) x.aT, hR aY 197 (.slice B_1_1_6 x.bA.length c_1_1_6) x.bA, hB g_0_1 138 #[.int .i64 (0), .bool (false), .slice none 0 0, .int .i64 (0), .slice none 0 0, .int .i64 (0), .slice none 0 0], hB g_0_0 138 #[.int .i64 (x.bD), .bool (x.Up), .slice Ax2 x.aV.length cx2, .int .i64 (x.Next), .slice Ax4 x.aT.length cx4, .int .i64 (x.bO), .slice Ax6 x.bA.length cx6]] W') x.aV.length ?_ ?_
 ·exact (aZ [(1, .int .i64 (n)), (2, .pointer (some ⟨g_0_0, 0, none⟩)), (4, .pointer (some ⟨g_0_1, 0, none⟩)), (6, .pointer (some ⟨g_1_2, 0, none⟩)), (7, .int .i64 (((0 : Nat) : Int)))] rfl).elim fun x' hx => ⟨0, x', hx, kO, (by rw [List.drop_zero]; rfl), Ha23⟩
 ·rintro r25 _ W26 ⟨i1, x27, rfl, hi1, hf1, H28⟩; clear Ha23
  refine wp_seq ?_
  refine wp_seq ?_
  refine aN [0, 1, 2, 3, 4] rfl ?_
  refine aA ?_
  refine aB rfl (aF rfl) rfl rfl ?_
  refine aA ?_
  refine aB rfl (aU iB rfl) rfl rfl ?_
  refine aA ?_
  refine aB rfl (bB (k := 2) (v := .slice Ax2 x.aV.length cx2) Try.isAgg135 rfl (H28.blk 5 rfl) rfl) rfl rfl ?_
  refine aA ?_
  refine aB rfl (dP Try.runUnderlying135 rfl) rfl rfl ?_
  refine aA ?_
  refine aB rfl (gB rfl rfl) rfl rfl ?_
  refine aI ?_
  refine aK ?_
  refine dB rfl (fun hc29 => ?_) (fun hc29 => ?_)
  ·have hlt1 : i1 < x.aV.length := by omega
   obtain ⟨ade30, cse30, hAe30, hKe30, hce30⟩ := fT hCx2 i1 hlt1
   have hle30 := lI hKe30
   have hoe30 := lJ hKe30
   obtain rfl := iV hKe30
   refine wp_skip ?_
   refine aK ?_
   refine wp_seq ?_
   refine wp_block ?_
   refine wp_seq ?_
   refine aN [0, 1, 2, 3, 4, 5, 6, 7] rfl ?_
   refine aA ?_
   refine aB rfl (aU iB rfl) rfl rfl ?_
   refine aA ?_
   refine aB rfl (bB (k := 2) (v := .slice Ax2 x.aV.length cx2) Try.isAgg135 rfl (H28.blk 5 rfl) rfl) rfl rfl ?_
   refine aA ?_
   refine aB rfl (aF rfl) rfl rfl ?_
   refine aA ?_
   refine aB rfl (bQ (k := i1) Try.runUnderlying135 Try.sizeOf188 rfl rfl hAe30 hlt1) rfl rfl ?_
   refine aA ?_
   refine aB rfl (aU fa_188_1 rfl) rfl rfl ?_
   refine aA ?_
   refine aB rfl (iT (v := .int .i64 (x.aV[i1].Entity)) Try.isAgg3 rfl (Cat.upd hce30 H28.1) rfl) rfl rfl ?_
   refine aA ?_
   refine aB rfl (aF rfl) rfl rfl ?_
   refine aA ?_
   refine aB rfl (bS rfl rfl) rfl rfl ?_
   refine aI ?_
   refine aK ?_
   refine dB rfl (fun hc31 => ?_) (fun hc31 => ?_)
   ·refine wp_seq ?_
    have H32 : St w No [hR bE 188 (.slice B_1_1_2 x.aV.length c_1_1_2) x.aV, hB g_1_2 138 #[.int .i64 (x.bD), .bool (x.Up), .slice B_1_1_2 x.aV.length c_1_1_2, .int .i64 (x.Next), .slice B_1_1_4 x.aT.length c_1_1_4, .int .i64 (x.bO), .slice B_1_1_6 x.bA.length c_1_1_6], hR aY 197 (.slice B_1_1_4 x.aT.length c_1_1_4) x.aT, hR aY 197 (.slice B_1_1_6 x.bA.length c_1_1_6) x.bA, hB g_0_1 138 #[.int .i64 (0), .bool (false), .slice none 0 0, .int .i64 (0), .slice none 0 0, .int .i64 (0), .slice none 0 0], hB g_0_0 138 #[.int .i64 (x.bD), .bool (x.Up), .slice Ax2 x.aV.length cx2, .int .i64 (x.Next), .slice Ax4 x.aT.length cx4, .int .i64 (x.bO), .slice Ax6 x.bA.length cx6]] W26 := H28.pick [1, 0, 2, 3, 4, 5] kD rfl; clear H28
    obtain ⟨gf33, rfl⟩ := H32.openS (q := i1) hlt1
    obtain ⟨ce34, hn35, H36⟩ := H32.openG (q := i1) hlt1; clear H32
    have H37 : St w No [hE bE 188 gf33 c_1_1_2 i1 ce34 x.aV, hM bE (x.aV[i1]) ce34, hB g_1_2 138 #[.int .i64 (x.bD), .bool (x.Up), .slice (some ⟨gf33, 0, none⟩) x.aV.length c_1_1_2, .int .i64 (x.Next), .slice B_1_1_4 x.aT.length c_1_1_4, .int .i64 (x.bO), .slice B_1_1_6 x.bA.length c_1_1_6], hR aY 197 (.slice B_1_1_4 x.aT.length c_1_1_4) x.aT, hR aY 197 (.slice B_1_1_6 x.bA.length c_1_1_6) x.bA, hB g_0_1 138 #[.int .i64 (0), .bool (false), .slice none 0 0, .int .i64 (0), .slice none 0 0, .int .i64 (0), .slice none 0 0], hB g_0_0 138 #[.int .i64 (x.bD), .bool (x.Up), .slice Ax2 x.aV.length cx2, .int .i64 (x.Next), .slice Ax4 x.aT.length cx4, .int .i64 (x.bO), .slice Ax6 x.bA.length cx6]] W26 := H36; clear H36
    obtain rfl := iV (H37.kn 1 rfl)
    have H38 : St w No [hE bE 188 gf33 c_1_1_2 i1 [.int .i64 ((x.aV[i1]).Pos), .int .i64 ((x.aV[i1]).Entity), .int .i64 ((x.aV[i1]).Count)] x.aV, hB g_1_2 138 #[.int .i64 (x.bD), .bool (x.Up), .slice (some ⟨gf33, 0, none⟩) x.aV.length c_1_1_2, .int .i64 (x.Next), .slice B_1_1_4 x.aT.length c_1_1_4, .int .i64 (x.bO), .slice B_1_1_6 x.bA.length c_1_1_6], hR aY 197 (.slice B_1_1_4 x.aT.length c_1_1_4) x.aT, hR aY 197 (.slice B_1_1_6 x.bA.length c_1_1_6) x.bA, hB g_0_1 138 #[.int .i64 (0), .bool (false), .slice none 0 0, .int .i64 (0), .slice none 0 0, .int .i64 (0), .slice none 0 0], hB g_0_0 138 #[.int .i64 (x.bD), .bool (x.Up), .slice Ax2 x.aV.length cx2, .int .i64 (x.Next), .slice Ax4 x.aT.length cx4, .int .i64 (x.bO), .slice Ax6 x.bA.length cx6]] W26 := H37.pick [0, 2, 3, 4, 5, 6] kD rfl; clear H37
    refine dG (fun W' => Blk W' g_1_2 138 #[.int .i64 (x.bD), .bool (x.Up), .slice (some ⟨gf33, 0, none⟩) x.aV.length c_1_1_2, .int .i64 (x.Next), .slice B_1_1_4 x.aT.length c_1_1_4, .int .i64 (x.bO), .slice B_1_1_6 x.bA.length c_1_1_6] ∧ Blk W' g_0_0 138 #[.int .i64 (x.bD), .bool (x.Up), .slice Ax2 x.aV.length cx2, .int .i64 (x.Next), .slice Ax4 x.aT.length cx4, .int .i64 (x.bO), .slice Ax6 x.bA.length cx6] ∧ Cat W' (Addr.add ade30 (i1 * 3)) [.int .i64 (x.aV[i1].Pos), .int .i64 (x.aV[i1].Entity), .int .i64 (x.aV[i1].Count)]) 13 kR ?_
    have H39 := H38.drew; clear H38
    have hS40 : Blk W26.drew g_1_2 138 #[.int .i64 (x.bD), .bool (x.Up), .slice (some ⟨gf33, 0, none⟩) x.aV.length c_1_1_2, .int .i64 (x.Next), .slice B_1_1_4 x.aT.length c_1_1_4, .int .i64 (x.bO), .slice B_1_1_6 x.bA.length c_1_1_6] ∧ Blk W26.drew g_0_0 138 #[.int .i64 (x.bD), .bool (x.Up), .slice Ax2 x.aV.length cx2, .int .i64 (x.Next), .slice Ax4 x.aT.length cx4, .int .i64 (x.bO), .slice Ax6 x.bA.length cx6] ∧ Cat W26.drew (Addr.add ade30 (i1 * 3)) [.int .i64 (x.aV[i1].Pos), .int .i64 (x.aV[i1].Entity), .int .i64 (x.aV[i1].Count)] := ⟨H39.blk 1 rfl, H39.blk 5 rfl, (Cat.upd hce30 H39.1)⟩
    refine aO (i := 0) rfl kR kR kR kR kR (fun _ _ _ h => h) rfl rfl hS40 (fun W' hs' => aU iB rfl) ?_
    refine aO (i := 1) rfl kR kR kR kR kR (fun _ _ _ h => h) rfl rfl hS40 (fun W' hs' => bB (k := 2) (v := .slice (some ⟨gf33, 0, none⟩) x.aV.length c_1_1_2) Try.isAgg135 rfl hs'.1 rfl) ?_
    refine aO (i := 2) rfl kR kR kR kR kR (fun _ _ _ h => h) rfl rfl hS40 (fun W' hs' => aF rfl) ?_
    refine aO (i := 3) rfl kR kR kR kR kR (fun _ _ _ h => h) rfl rfl hS40 (fun W' hs' => aU iB rfl) ?_
    refine aO (i := 4) rfl kR kR kR kR kR (fun _ _ _ h => h) rfl rfl hS40 (fun W' hs' => bB (k := 2) (v := .slice Ax2 x.aV.length cx2) Try.isAgg135 rfl hs'.2.1 rfl) ?_
    refine aO (i := 5) rfl kR kR kR kR kR (fun _ _ _ h => h) rfl rfl hS40 (fun W' hs' => aF rfl) ?_
    refine aO (i := 6) rfl kR kR kR kR kR (fun _ _ _ h => h) rfl rfl hS40 (fun W' hs' => bQ (k := i1) Try.runUnderlying135 Try.sizeOf188 rfl rfl hAe30 hlt1) ?_
    refine aO (i := 7) rfl kR kR kR kR kR (fun _ _ _ h => h) rfl rfl hS40 (fun W' hs' => aU fa_188_2 rfl) ?_
    refine aO (i := 8) rfl kR kR kR kR kR (fun _ _ _ h => h) rfl rfl hS40 (fun W' hs' => iT (v := .int .i64 (x.aV[i1].Count)) Try.isAgg3 rfl hs'.2.2 rfl) ?_
    refine aO (i := 9) rfl kR kR kR kR kR (fun _ _ _ h => h) rfl rfl hS40 (fun W' hs' => jI rfl rfl) ?_
    refine aO (i := 10) rfl kR kR kR kR kR (fun _ _ _ h => h) rfl rfl hS40 (fun W' hs' => bQ (k := i1) Try.runUnderlying135 Try.sizeOf188 rfl rfl rfl (Nat.lt_of_lt_of_eq hlt1 hn35.symm)) ?_
    refine aO (i := 11) rfl kR kR kR kR kR (fun _ _ _ h => h) rfl rfl hS40 (fun W' hs' => aU fa_188_2 rfl) ?_
    refine bM (i := 12) kR ?_
    refine op_storeE (dk := bE) (k := 2) (ce' := [.int .i64 ((x.aV[i1]).Pos), .int .i64 ((x.aV[i1]).Entity), .int .i64 (IntKind.i64.wrap ((x.aV[i1].Count) + 1))]) rfl Try.sizeOf3 rfl rfl rfl rfl (Nat.le_of_ble_eq_true rfl) (by simp [Value.cells, Value.oneCell']) rfl H39 ?_
    intro W41 hu42 Ha43; clear H39; clear hu42
    have hS45 := And.intro (Ha43.blk 1 rfl) (And.intro (Ha43.blk 5 rfl) ((Cat.upd hce30 Ha43.1))); refine ⟨fun _ => hS45, ?_⟩
    refine cB kR ?_ _
    have H46 : St w No [hM bE (exUp x.aV[i1]) [.int .i64 ((x.aV[i1]).Pos), .int .i64 ((x.aV[i1]).Entity), .int .i64 (IntKind.i64.wrap ((x.aV[i1].Count) + 1))], hE bE 188 gf33 c_1_1_2 i1 [.int .i64 ((x.aV[i1]).Pos), .int .i64 ((x.aV[i1]).Entity), .int .i64 (IntKind.i64.wrap ((x.aV[i1].Count) + 1))] x.aV, hB g_1_2 138 #[.int .i64 (x.bD), .bool (x.Up), .slice (some ⟨gf33, 0, none⟩) x.aV.length c_1_1_2, .int .i64 (x.Next), .slice B_1_1_4 x.aT.length c_1_1_4, .int .i64 (x.bO), .slice B_1_1_6 x.bA.length c_1_1_6], hR aY 197 (.slice B_1_1_4 x.aT.length c_1_1_4) x.aT, hR aY 197 (.slice B_1_1_6 x.bA.length c_1_1_6) x.bA, hB g_0_1 138 #[.int .i64 (0), .bool (false), .slice none 0 0, .int .i64 (0), .slice none 0 0, .int .i64 (0), .slice none 0 0], hB g_0_0 138 #[.int .i64 (x.bD), .bool (x.Up), .slice Ax2 x.aV.length cx2, .int .i64 (x.Next), .slice Ax4 x.aT.length cx4, .int .i64 (x.bO), .slice Ax6 x.bA.length cx6]] W41 := Ha43.add0 (q := hM bE (exUp x.aV[i1]) [.int .i64 ((x.aV[i1]).Pos), .int .i64 ((x.aV[i1]).Entity), .int .i64 (IntKind.i64.wrap ((x.aV[i1].Count) + 1))]) (kU _ No (exUp x.aV[i1])); clear Ha43
    have H47 : St w No [hE bE 188 gf33 c_1_1_2 i1 [.int .i64 ((x.aV[i1]).Pos), .int .i64 ((x.aV[i1]).Entity), .int .i64 (IntKind.i64.wrap ((x.aV[i1].Count) + 1))] x.aV, hM bE (exUp x.aV[i1]) [.int .i64 ((x.aV[i1]).Pos), .int .i64 ((x.aV[i1]).Entity), .int .i64 (IntKind.i64.wrap ((x.aV[i1].Count) + 1))], hB g_1_2 138 #[.int .i64 (x.bD), .bool (x.Up), .slice (some ⟨gf33, 0, none⟩) x.aV.length c_1_1_2, .int .i64 (x.Next), .slice B_1_1_4 x.aT.length c_1_1_4, .int .i64 (x.bO), .slice B_1_1_6 x.bA.length c_1_1_6], hR aY 197 (.slice B_1_1_4 x.aT.length c_1_1_4) x.aT, hR aY 197 (.slice B_1_1_6 x.bA.length c_1_1_6) x.bA, hB g_0_1 138 #[.int .i64 (0), .bool (false), .slice none 0 0, .int .i64 (0), .slice none 0 0, .int .i64 (0), .slice none 0 0], hB g_0_0 138 #[.int .i64 (x.bD), .bool (x.Up), .slice Ax2 x.aV.length cx2, .int .i64 (x.Next), .slice Ax4 x.aT.length cx4, .int .i64 (x.bO), .slice Ax6 x.bA.length cx6]] W41 := H46.pick [1, 0, 2, 3, 4, 5, 6] kD rfl; clear H46
    have H48 : St w No [hR bE 188 (.slice (some ⟨gf33, 0, none⟩) x.aV.length c_1_1_2) (x.aV.set i1 (exUp x.aV[i1])), hB g_1_2 138 #[.int .i64 (x.bD), .bool (x.Up), .slice (some ⟨gf33, 0, none⟩) x.aV.length c_1_1_2, .int .i64 (x.Next), .slice B_1_1_4 x.aT.length c_1_1_4, .int .i64 (x.bO), .slice B_1_1_6 x.bA.length c_1_1_6], hR aY 197 (.slice B_1_1_4 x.aT.length c_1_1_4) x.aT, hR aY 197 (.slice B_1_1_6 x.bA.length c_1_1_6) x.bA, hB g_0_1 138 #[.int .i64 (0), .bool (false), .slice none 0 0, .int .i64 (0), .slice none 0 0, .int .i64 (0), .slice none 0 0], hB g_0_0 138 #[.int .i64 (x.bD), .bool (x.Up), .slice Ax2 x.aV.length cx2, .int .i64 (x.Next), .slice Ax4 x.aT.length cx4, .int .i64 (x.bO), .slice Ax6 x.bA.length cx6]] W41 := H47.closeG rfl (by rw [List.length_set]); clear H47
    refine aK ?_
    refine wp_seq ?_
    refine dG (fun W' => Blk W' g_1_2 138 #[.int .i64 (x.bD), .bool (x.Up), .slice (some ⟨gf33, 0, none⟩) x.aV.length c_1_1_2, .int .i64 (x.Next), .slice B_1_1_4 x.aT.length c_1_1_4, .int .i64 (x.bO), .slice B_1_1_6 x.bA.length c_1_1_6] ∧ Blk W' g_0_0 138 #[.int .i64 (x.bD), .bool (x.Up), .slice Ax2 x.aV.length cx2, .int .i64 (x.Next), .slice Ax4 x.aT.length cx4, .int .i64 (x.bO), .slice Ax6 x.bA.length cx6] ∧ Cat W' (Addr.add ade30 (i1 * 3)) [.int .i64 (x.aV[i1].Pos), .int .i64 (x.aV[i1].Entity), .int .i64 (x.aV[i1].Count)]) 9 kR ?_
    have H49 := H48.drew; clear H48
    have hS50 : Blk W41.drew g_1_2 138 #[.int .i64 (x.bD), .bool (x.Up), .slice (some ⟨gf33, 0, none⟩) x.aV.length c_1_1_2, .int .i64 (x.Next), .slice B_1_1_4 x.aT.length c_1_1_4, .int .i64 (x.bO), .slice B_1_1_6 x.bA.length c_1_1_6] ∧ Blk W41.drew g_0_0 138 #[.int .i64 (x.bD), .bool (x.Up), .slice Ax2 x.aV.length cx2, .int .i64 (x.Next), .slice Ax4 x.aT.length cx4, .int .i64 (x.bO), .slice Ax6 x.bA.length cx6] ∧ Cat W41.drew (Addr.add ade30 (i1 * 3)) [.int .i64 (x.aV[i1].Pos), .int .i64 (x.aV[i1].Entity), .int .i64 (x.aV[i1].Count)] := ⟨H49.blk 1 rfl, H49.blk 5 rfl, (Cat.upd hce30 H49.1)⟩
    refine aO (i := 0) rfl kR kR kR kR kR (fun _ _ _ h => h) rfl rfl hS50 (fun W' hs' => bN Try.isAgg138 Try.sizeOf138 rfl hs'.1 rfl) ?_
    refine aO (i := 1) rfl kR kR kR kR kR (fun _ _ _ h => h) rfl rfl hS50 (fun W' hs' => aU iB rfl) ?_
    refine aO (i := 2) rfl kR kR kR kR kR (fun _ _ _ h => h) rfl rfl hS50 (fun W' hs' => bB (k := 2) (v := .slice Ax2 x.aV.length cx2) Try.isAgg135 rfl hs'.2.1 rfl) ?_
    refine aO (i := 3) rfl kR kR kR kR kR (fun _ _ _ h => h) rfl rfl hS50 (fun W' hs' => aF rfl) ?_
    refine aO (i := 4) rfl kR kR kR kR kR (fun _ _ _ h => h) rfl rfl hS50 (fun W' hs' => bQ (k := i1) Try.runUnderlying135 Try.sizeOf188 rfl rfl hAe30 hlt1) ?_
    refine aO (i := 5) rfl kR kR kR kR kR (fun _ _ _ h => h) rfl rfl hS50 (fun W' hs' => aU fa_188_0 rfl) ?_
    refine aO (i := 6) rfl kR kR kR kR kR (fun _ _ _ h => h) rfl rfl hS50 (fun W' hs' => iT (v := .int .i64 (x.aV[i1].Pos)) Try.isAgg3 rfl hs'.2.2 rfl) ?_
    refine bM (i := 7) kR ?_
    have H54 : St w No [hB g_0_1 138 #[.int .i64 (0), .bool (false), .slice none 0 0, .int .i64 (0), .slice none 0 0, .int .i64 (0), .slice none 0 0], hR bE 188 (.slice (some ⟨gf33, 0, none⟩) x.aV.length c_1_1_2) (x.aV.set i1 (exUp x.aV[i1])), hB g_1_2 138 #[.int .i64 (x.bD), .bool (x.Up), .slice (some ⟨gf33, 0, none⟩) x.aV.length c_1_1_2, .int .i64 (x.Next), .slice B_1_1_4 x.aT.length c_1_1_4, .int .i64 (x.bO), .slice B_1_1_6 x.bA.length c_1_1_6], hR aY 197 (.slice B_1_1_4 x.aT.length c_1_1_4) x.aT, hR aY 197 (.slice B_1_1_6 x.bA.length c_1_1_6) x.bA, hB g_0_0 138 #[.int .i64 (x.bD), .bool (x.Up), .slice Ax2 x.aV.length cx2, .int .i64 (x.Next), .slice Ax4 x.aT.length cx4, .int .i64 (x.bO), .slice Ax6 x.bA.length cx6]] W41.drew := H49.pick [4, 0, 1, 2, 3, 5] kD rfl; clear H49
    refine bG rfl Try.sizeOf138 rfl rfl rfl rfl kS H54 ?_
    intro W51 hu52 Ha53; clear H54; clear hu52
    have hS56 := And.intro (Ha53.blk 2 rfl) (And.intro (Ha53.blk 5 rfl) ((Cat.upd hce30 Ha53.1))); refine ⟨fun _ => hS56, ?_⟩
    refine aO (i := 8) rfl kR kR kR kR kR (fun _ _ _ h => h) rfl rfl hS56 (fun W' hs' => aR rfl) ?_
    refine cB kR ?_ _
    refine aK ?_
    refine wp_ret ?_
    refine gJ ?_
    refine bY ?_
    refine bY ?_
    refine gJ ?_
    refine bY ?_
    obtain ⟨e1, e2, e3⟩ := px_yes n x.aV x.Next i1 hlt1 (hf1.trans (fidx_yes (exP n) x.aV i1 hlt1 (decide_eq_true hc31)))
    refine iM (.inl rfl) Try.results152 Try.isAgg138 Try.sizeOf138 rfl rfl (Ha53.blk 0 rfl) rfl ?_
    refine ⟨[.int .i64 (x.bD), .bool (x.Up), .slice (some ⟨gf33, 0, none⟩) x.aV.length c_1_1_2, .int .i64 (x.Next), .slice B_1_1_4 x.aT.length c_1_1_4, .int .i64 (x.bO), .slice B_1_1_6 x.bA.length c_1_1_6], by rw [e3], ?_, Ha53.1⟩
    unfold pxV
    rw [e1, e2]
    exact link_closeN ((List.length_set ..).symm) (Ha53.pick [1, 3, 4] kD rfl).star
   ·refine wp_skip ?_
    refine eP ?_
    refine aK ?_
    refine aN [0, 1, 2] rfl ?_
    refine aA ?_
    refine aB rfl (aF rfl) rfl rfl ?_
    refine aA ?_
    refine aB rfl (gT (k := i1) rfl rfl kO) rfl rfl ?_
    refine aA ?_
    refine aB rfl (aR rfl) rfl rfl ?_
    refine aI ?_
    refine aK ?_
    exact (aZ [(1, .int .i64 (n)), (2, .pointer (some ⟨g_0_0, 0, none⟩)), (4, .pointer (some ⟨g_0_1, 0, none⟩)), (6, .pointer (some ⟨g_1_2, 0, none⟩)), (7, .int .i64 (((i1 + 1 : Nat) : Int)))] rfl).elim fun x' hx => ⟨r25 - 1, kO, i1 + 1, x', hx, kO, (hf1.trans (fidx_no (exP n) x.aV i1 hlt1 (decide_eq_false (by assumption)))), H28⟩
  ·have hge1 : x.aV.length ≤ i1 := by omega
   refine wp_exit ?_
   refine dX ?_
   refine dX ?_
   refine iH ?_
   refine aK ?_
   refine wp_seq ?_
   refine aN [0, 1, 2, 3, 4] rfl ?_
   refine aA ?_
   refine aB rfl (aU jF rfl) rfl rfl ?_
   refine aA ?_
   refine aB rfl (bB (k := 3) (v := .int .i64 (x.Next)) Try.isAgg3 rfl (H28.blk 5 rfl) rfl) rfl rfl ?_
   refine aA ?_
   refine aB rfl (jI rfl rfl) rfl rfl ?_
   refine aA ?_
   refine aB rfl (aU jF rfl) rfl rfl ?_
   refine aA ?_
   refine bR rfl Try.sizeOf3 rfl rfl rfl (Nat.le_of_ble_eq_true rfl) (by simp [Value.cells, Value.oneCell']) H28 ?_
   intro W57 hu58 Ha59; clear H28; clear hu58
   refine aI ?_
   refine aK ?_
   refine wp_seq ?_
   refine aN [0, 1, 2, 3, 4, 5, 6, 7, 8, 9] rfl ?_
   refine aA ?_
   refine aB rfl (aU iB rfl) rfl rfl ?_
   refine aA ?_
   refine aB rfl (bB (k := 2) (v := .slice B_1_1_2 x.aV.length c_1_1_2) Try.isAgg135 rfl (Ha59.blk 0 rfl) rfl) rfl rfl ?_
   refine aA ?_
   refine aB rfl (aU jF rfl) rfl rfl ?_
   refine aA ?_
   refine aB rfl (bB (k := 3) (v := .int .i64 (IntKind.i64.wrap (x.Next + 1))) Try.isAgg3 rfl (Ha59.blk 0 rfl) rfl) rfl rfl ?_
   refine aA ?_
   refine aB rfl (aF rfl) rfl rfl ?_
   refine aA ?_
   refine aB rfl (dS (vs := [(0, .int .i64 (IntKind.i64.wrap (x.Next + 1))), (1, .int .i64 (n)), (2, .int .i64 (1))]) (cells := #[.int .i64 (IntKind.i64.wrap (x.Next + 1)), .int .i64 (n), .int .i64 (1)]) rfl kR) rfl rfl ?_
   refine aA ?_
   refine dD rfl Try.runUnderlying135 Try.sizeOf188 kD Try.zeroValue188 rfl rfl rfl rfl Ha59 ?_
   intro g_9_6 W61 hu62 Ha63; clear Ha59; clear hu62
   refine aA ?_
   have H67 : St w No [hR bE 188 (.slice B_1_1_2 x.aV.length c_1_1_2) x.aV, hB g_9_6 188 #[.int .i64 (IntKind.i64.wrap (x.Next + 1)), .int .i64 (n), .int .i64 (1)], hB g_1_2 138 #[.int .i64 (x.bD), .bool (x.Up), .slice B_1_1_2 x.aV.length c_1_1_2, .int .i64 (IntKind.i64.wrap (x.Next + 1)), .slice B_1_1_4 x.aT.length c_1_1_4, .int .i64 (x.bO), .slice B_1_1_6 x.bA.length c_1_1_6], hR aY 197 (.slice B_1_1_4 x.aT.length c_1_1_4) x.aT, hR aY 197 (.slice B_1_1_6 x.bA.length c_1_1_6) x.bA, hB g_0_1 138 #[.int .i64 (0), .bool (false), .slice none 0 0, .int .i64 (0), .slice none 0 0, .int .i64 (0), .slice none 0 0], hB g_0_0 138 #[.int .i64 (x.bD), .bool (x.Up), .slice Ax2 x.aV.length cx2, .int .i64 (x.Next), .slice Ax4 x.aT.length cx4, .int .i64 (x.bO), .slice Ax6 x.bA.length cx6]] W61 := Ha63.pick [2, 0, 1, 3, 4, 5, 6] kD rfl; clear Ha63
   refine iY (xs := x.aV) (p := (⟨IntKind.i64.wrap (x.Next + 1), n, 1⟩ : GExport)) (n' := (x.aV.length + 1)) (ys := (x.aV ++ [(⟨IntKind.i64.wrap (x.Next + 1), n, 1⟩ : GExport)])) rfl Try.underlying135 j3 rfl kD kD rfl rfl (kU _ No (⟨IntKind.i64.wrap (x.Next + 1), n, 1⟩ : GExport)) kO rfl rfl rfl rfl H67 ?_
   intro B_9_7 c_9_7 W65 Ha66; clear H67
   refine aA ?_
   refine aB rfl (aU iB rfl) rfl rfl ?_
   refine aA ?_
   have H72 : St w No [hB g_1_2 138 #[.int .i64 (x.bD), .bool (x.Up), .slice B_1_1_2 x.aV.length c_1_1_2, .int .i64 (IntKind.i64.wrap (x.Next + 1)), .slice B_1_1_4 x.aT.length c_1_1_4, .int .i64 (x.bO), .slice B_1_1_6 x.bA.length c_1_1_6], hR bE 188 (.slice B_9_7 (x.aV.length + 1) c_9_7) (x.aV ++ [(⟨IntKind.i64.wrap (x.Next + 1), n, 1⟩ : GExport)]), hR aY 197 (.slice B_1_1_4 x.aT.length c_1_1_4) x.aT, hR aY 197 (.slice B_1_1_6 x.bA.length c_1_1_6) x.bA, hB g_0_1 138 #[.int .i64 (0), .bool (false), .slice none 0 0, .int .i64 (0), .slice none 0 0, .int .i64 (0), .slice none 0 0], hB g_0_0 138 #[.int .i64 (x.bD), .bool (x.Up), .slice Ax2 x.aV.length cx2, .int .i64 (x.Next), .slice Ax4 x.aT.length cx4, .int .i64 (x.bO), .slice Ax6 x.bA.length cx6]] W65 := Ha66.pick [1, 0, 2, 3, 4, 5] kD rfl; clear Ha66
   refine bR rfl Try.sizeOf135 rfl rfl rfl (Nat.le_of_ble_eq_true rfl) (by simp [Value.cells, Value.oneCell']) H72 ?_
   intro W69 hu70 Ha71; clear H72; clear hu70
   refine aI ?_
   refine aK ?_
   refine wp_seq ?_
   refine dG (fun W' => Blk W' g_1_2 138 #[.int .i64 (x.bD), .bool (x.Up), .slice B_9_7 (x.aV.length + 1) c_9_7, .int .i64 (IntKind.i64.wrap (x.Next + 1)), .slice B_1_1_4 x.aT.length c_1_1_4, .int .i64 (x.bO), .slice B_1_1_6 x.bA.length c_1_1_6]) 5 kR ?_
   have H74 := Ha71.drew; clear Ha71
   have hS75 : Blk W69.drew g_1_2 138 #[.int .i64 (x.bD), .bool (x.Up), .slice B_9_7 (x.aV.length + 1) c_9_7, .int .i64 (IntKind.i64.wrap (x.Next + 1)), .slice B_1_1_4 x.aT.length c_1_1_4, .int .i64 (x.bO), .slice B_1_1_6 x.bA.length c_1_1_6] := H74.blk 0 rfl
   refine aO (i := 0) rfl kR kR kR kR kR (fun _ _ _ h => h) rfl rfl hS75 (fun W' hs' => bN Try.isAgg138 Try.sizeOf138 rfl hs' rfl) ?_
   refine aO (i := 1) rfl kR kR kR kR kR (fun _ _ _ h => h) rfl rfl hS75 (fun W' hs' => aU jF rfl) ?_
   refine aO (i := 2) rfl kR kR kR kR kR (fun _ _ _ h => h) rfl rfl hS75 (fun W' hs' => bB (k := 3) (v := .int .i64 (IntKind.i64.wrap (x.Next + 1))) Try.isAgg3 rfl hs' rfl) ?_
   refine bM (i := 3) kR ?_
   have H79 : St w No [hB g_0_1 138 #[.int .i64 (0), .bool (false), .slice none 0 0, .int .i64 (0), .slice none 0 0, .int .i64 (0), .slice none 0 0], hB g_1_2 138 #[.int .i64 (x.bD), .bool (x.Up), .slice B_9_7 (x.aV.length + 1) c_9_7, .int .i64 (IntKind.i64.wrap (x.Next + 1)), .slice B_1_1_4 x.aT.length c_1_1_4, .int .i64 (x.bO), .slice B_1_1_6 x.bA.length c_1_1_6], hR bE 188 (.slice B_9_7 (x.aV.length + 1) c_9_7) (x.aV ++ [(⟨IntKind.i64.wrap (x.Next + 1), n, 1⟩ : GExport)]), hR aY 197 (.slice B_1_1_4 x.aT.length c_1_1_4) x.aT, hR aY 197 (.slice B_1_1_6 x.bA.length c_1_1_6) x.bA, hB g_0_0 138 #[.int .i64 (x.bD), .bool (x.Up), .slice Ax2 x.aV.length cx2, .int .i64 (x.Next), .slice Ax4 x.aT.length cx4, .int .i64 (x.bO), .slice Ax6 x.bA.length cx6]] W69.drew := H74.pick [4, 0, 1, 2, 3, 5] kD rfl; clear H74
   refine bG rfl Try.sizeOf138 rfl rfl rfl rfl kS H79 ?_
   intro W76 hu77 Ha78; clear H79; clear hu77
   have hS81 := Ha78.blk 1 rfl; refine ⟨fun _ => hS81, ?_⟩
   refine aO (i := 4) rfl kR kR kR kR kR (fun _ _ _ h => h) rfl rfl hS81 (fun W' hs' => aR rfl) ?_
   refine cB kR ?_ _
   refine aK ?_
   refine wp_ret ?_
   obtain ⟨e1, e2, e3⟩ := px_no n x.aV x.Next (hf1.trans (fidx_end (exP n) x.aV _ hge1 _))
   refine iM (.inl rfl) Try.results152 Try.isAgg138 Try.sizeOf138 rfl rfl (Ha78.blk 0 rfl) rfl ?_
   refine ⟨[.int .i64 (x.bD), .bool (x.Up), .slice B_9_7 (x.aV.length + 1) c_9_7, .int .i64 (IntKind.i64.wrap (x.Next + 1)), .slice B_1_1_4 x.aT.length c_1_1_4, .int .i64 (x.bO), .slice B_1_1_6 x.bA.length c_1_1_6], by rw [e3], ?_, Ha78.1⟩
   unfold pxV
   rw [e1, e2]
   exact link_closeN ((by simp)) (Ha78.pick [2, 3, 4] kD rfl).star
theorem C_nil {α : Type} {d : Kn α} {w : World} {A : Option Addr} : C d w A ([] : List α) := ⟨Nat.zero_le _, fun h => absurd h (Nat.lt_irrefl 0)⟩
def zL (p : Int) : GLink := ⟨p, true, [], 0, [], 0, []⟩
def prE (p q : Int) : GEntity := ⟨3, 0, [], 0, ⟨0, 0⟩, [], [], p, q, 1, 0⟩
theorem newLink_s (p : Int) (w : World) : Calls Try.prog 153 #[.int .i64 p] w (iP aW (zL p) w) := by
 refine enter 5 [(0, .int .i64 (p))] Try.func153 rfl kR ?_
 intro xj
 have H1 : St w No [] w := St.enter
 refine wp_seq ?_
 refine aN [0] rfl ?_
 refine aA ?_
 refine bP rfl Try.zeroValue138 rfl rfl H1 ?_
 intro g_0_0 W2 hu3 Ha4; clear H1; clear hu3
 refine aI ?_
 refine aK ?_
 refine wp_seq ?_
 refine aN [0, 1, 2] rfl ?_
 refine aA ?_
 refine aB rfl (aF rfl) rfl rfl ?_
 refine aA ?_
 refine aB rfl (dS (vs := [(0, .int .i64 (p)), (1, .bool (true))]) (cells := #[.int .i64 (p), .bool (true), .slice none 0 0, .int .i64 (0), .slice none 0 0, .int .i64 (0), .slice none 0 0]) rfl kR) rfl rfl ?_
 refine aA ?_
 refine bG rfl Try.sizeOf138 rfl rfl rfl rfl kS Ha4 ?_
 intro W6 hu7 Ha8; clear Ha4; clear hu7
 refine aI ?_
 refine aK ?_
 refine wp_ret ?_
 refine dI (.inl rfl) Try.results153 Try.isAgg138 Try.sizeOf138 rfl (Ha8.blk 0 rfl) rfl ?_
 have H10 : St w No [hR bE 188 (.slice none 0 0) ([]), hB g_0_0 138 #[.int .i64 (p), .bool (true), .slice none 0 0, .int .i64 (0), .slice none 0 0, .int .i64 (0), .slice none 0 0]] W6 := Ha8.add0 (q := hR bE 188 (.slice none 0 0) []) gI; clear Ha8
 have H11 : St w No [hR aY 197 (.slice none 0 0) ([]), hR bE 188 (.slice none 0 0) ([]), hB g_0_0 138 #[.int .i64 (p), .bool (true), .slice none 0 0, .int .i64 (0), .slice none 0 0, .int .i64 (0), .slice none 0 0]] W6 := H10.add0 (q := hR aY 197 (.slice none 0 0) []) gI; clear H10
 have H12 : St w No [hR aY 197 (.slice none 0 0) ([]), hR aY 197 (.slice none 0 0) ([]), hR bE 188 (.slice none 0 0) ([]), hB g_0_0 138 #[.int .i64 (p), .bool (true), .slice none 0 0, .int .i64 (0), .slice none 0 0, .int .i64 (0), .slice none 0 0]] W6 := H11.add0 (q := hR aY 197 (.slice none 0 0) []) gI; clear H11
 have H13 : St w No [hR bE 188 (.slice none 0 0) ([]), hR aY 197 (.slice none 0 0) ([]), hR aY 197 (.slice none 0 0) ([]), hB g_0_0 138 #[.int .i64 (p), .bool (true), .slice none 0 0, .int .i64 (0), .slice none 0 0, .int .i64 (0), .slice none 0 0]] W6 := H12.pick [2, 1, 0, 3] kD rfl; clear H12
 have H14 : St w No [hM aW (zL p) [.int .i64 (p), .bool (true), .slice none 0 0, .int .i64 (0), .slice none 0 0, .int .i64 (0), .slice none 0 0], hB g_0_0 138 #[.int .i64 (p), .bool (true), .slice none 0 0, .int .i64 (0), .slice none 0 0, .int .i64 (0), .slice none 0 0]] W6 := H13.swap (l0 := [hR bE 188 (.slice none 0 0) ([]), hR aY 197 (.slice none 0 0) ([]), hR aY 197 (.slice none 0 0) ([])]) (l' := [hM aW (zL p) [.int .i64 (p), .bool (true), .slice none 0 0, .int .i64 (0), .slice none 0 0, .int .i64 (0), .slice none 0 0]]) (fun _ h => Star.one (iE (x := (zL p)) h)); clear H13
 have hq := (H14.pick [0] kD rfl : St w No [hM aW (zL p) [.int .i64 (p), .bool (true), .slice none 0 0, .int .i64 (0), .slice none 0 0, .int .i64 (0), .slice none 0 0]] W6).fin1
 exact ⟨_, rfl, hq.1, hq.2⟩
theorem newProxy_s (p q : Int) (w : World) : Calls Try.prog 124 #[.int .i64 p, .int .i64 q] w (iP aL (prE p q) w) := by
 refine enter 8 [(0, .int .i64 (p)), (1, .int .i64 (q))] Try.func124 rfl kR ?_
 intro xj
 have H1 : St w No [] w := St.enter
 refine wp_seq ?_
 refine aN [0] rfl ?_
 refine aA ?_
 refine bP rfl Try.zeroValue77 rfl rfl H1 ?_
 intro g_0_0 W2 hu3 Ha4; clear H1; clear hu3
 refine aI ?_
 refine aK ?_
 refine wp_seq ?_
 refine aN [0, 1, 2, 3] rfl ?_
 refine aA ?_
 refine aB rfl (aF rfl) rfl rfl ?_
 refine aA ?_
 refine aB rfl (aF rfl) rfl rfl ?_
 refine aA ?_
 refine aB rfl (dS (vs := [(0, .int .i64 (3)), (7, .int .i64 (p)), (8, .int .i64 (q)), (9, .int .i64 (1))]) (cells := #[.int .i64 (3), .int .i64 (0), .slice none 0 0, .int .i64 (0), .int .i64 (0), .int .i64 (0), .slice none 0 0, .slice none 0 0, .int .i64 (p), .int .i64 (q), .int .i64 (1), .int .i64 (0)]) rfl kR) rfl rfl ?_
 refine aA ?_
 refine bG rfl Try.sizeOf77 rfl rfl rfl rfl kS Ha4 ?_
 intro W6 hu7 Ha8; clear Ha4; clear hu7
 refine aI ?_
 refine aK ?_
 refine wp_ret ?_
 refine dI (.inl rfl) Try.results124 Try.isAgg77 Try.sizeOf77 rfl (Ha8.blk 0 rfl) rfl ?_
 have H10 : St w No [hR aP 70 (.slice none 0 0) ([]), hB g_0_0 77 #[.int .i64 (3), .int .i64 (0), .slice none 0 0, .int .i64 (0), .int .i64 (0), .int .i64 (0), .slice none 0 0, .slice none 0 0, .int .i64 (p), .int .i64 (q), .int .i64 (1), .int .i64 (0)]] W6 := Ha8.add0 (q := hR aP 70 (.slice none 0 0) []) gI; clear Ha8
 have H11 : St w No [hR aH 181 (.slice none 0 0) ([]), hR aP 70 (.slice none 0 0) ([]), hB g_0_0 77 #[.int .i64 (3), .int .i64 (0), .slice none 0 0, .int .i64 (0), .int .i64 (0), .int .i64 (0), .slice none 0 0, .slice none 0 0, .int .i64 (p), .int .i64 (q), .int .i64 (1), .int .i64 (0)]] W6 := H10.add0 (q := hR aH 181 (.slice none 0 0) []) gI; clear H10
 have H12 : St w No [hR aQ 155 (.slice none 0 0) ([]), hR aH 181 (.slice none 0 0) ([]), hR aP 70 (.slice none 0 0) ([]), hB g_0_0 77 #[.int .i64 (3), .int .i64 (0), .slice none 0 0, .int .i64 (0), .int .i64 (0), .int .i64 (0), .slice none 0 0, .slice none 0 0, .int .i64 (p), .int .i64 (q), .int .i64 (1), .int .i64 (0)]] W6 := H11.add0 (q := hR aQ 155 (.slice none 0 0) []) gI; clear H11
 have H13 : St w No [hR aP 70 (.slice none 0 0) ([]), hR aH 181 (.slice none 0 0) ([]), hR aQ 155 (.slice none 0 0) ([]), hB g_0_0 77 #[.int .i64 (3), .int .i64 (0), .slice none 0 0, .int .i64 (0), .int .i64 (0), .int .i64 (0), .slice none 0 0, .slice none 0 0, .int .i64 (p), .int .i64 (q), .int .i64 (1), .int .i64 (0)]] W6 := H12.pick [2, 1, 0, 3] kD rfl; clear H12
 have H14 : St w No [hM aL (prE p q) [.int .i64 (3), .int .i64 (0), .slice none 0 0, .int .i64 (0), .int .i64 (0), .int .i64 (0), .slice none 0 0, .slice none 0 0, .int .i64 (p), .int .i64 (q), .int .i64 (1), .int .i64 (0)], hB g_0_0 77 #[.int .i64 (3), .int .i64 (0), .slice none 0 0, .int .i64 (0), .int .i64 (0), .int .i64 (0), .slice none 0 0, .slice none 0 0, .int .i64 (p), .int .i64 (q), .int .i64 (1), .int .i64 (0)]] W6 := H13.swap (l0 := [hR aP 70 (.slice none 0 0) ([]), hR aH 181 (.slice none 0 0) ([]), hR aQ 155 (.slice none 0 0) ([])]) (l' := [hM aL (prE p q) [.int .i64 (3), .int .i64 (0), .slice none 0 0, .int .i64 (0), .int .i64 (0), .int .i64 (0), .slice none 0 0, .slice none 0 0, .int .i64 (p), .int .i64 (q), .int .i64 (1), .int .i64 (0)]]) (fun _ h => Star.one (gD (x := (prE p q)) h)); clear H13
 have hq := (H14.pick [0] kD rfl : St w No [hM aL (prE p q) [.int .i64 (3), .int .i64 (0), .slice none 0 0, .int .i64 (0), .int .i64 (0), .int .i64 (0), .slice none 0 0, .slice none 0 0, .int .i64 (p), .int .i64 (q), .int .i64 (1), .int .i64 (0)]] W6).fin1
 exact ⟨_, rfl, hq.1, hq.2⟩
theorem newLink_i (p : Int) (w : World) : Calls Try.prog 90 #[.int .i64 p] w (iP aW (zL p) w) := by
 refine enter 5 [(0, .int .i64 (p))] Try.func90 rfl kR ?_
 intro xj
 have H1 : St w No [] w := St.enter
 refine wp_seq ?_
 refine aN [0] rfl ?_
 refine aA ?_
 refine bP rfl Try.zeroValue138 rfl rfl H1 ?_
 intro g_0_0 W2 hu3 Ha4; clear H1; clear hu3
 refine aI ?_
 refine aK ?_
 refine wp_seq ?_
 refine aN [0, 1, 2] rfl ?_
 refine aA ?_
 refine aB rfl (aF rfl) rfl rfl ?_
 refine aA ?_
 refine aB rfl (dS (vs := [(0, .int .i64 (p)), (1, .bool (true))]) (cells := #[.int .i64 (p), .bool (true), .slice none 0 0, .int .i64 (0), .slice none 0 0, .int .i64 (0), .slice none 0 0]) rfl kR) rfl rfl ?_
 refine aA ?_
 refine bG rfl Try.sizeOf138 rfl rfl rfl rfl kS Ha4 ?_
 intro W6 hu7 Ha8; clear Ha4; clear hu7
 refine aI ?_
 refine aK ?_
 refine wp_ret ?_
 refine dI (.inl rfl) Try.results90 Try.isAgg138 Try.sizeOf138 rfl (Ha8.blk 0 rfl) rfl ?_
 have H10 : St w No [hR bE 188 (.slice none 0 0) ([]), hB g_0_0 138 #[.int .i64 (p), .bool (true), .slice none 0 0, .int .i64 (0), .slice none 0 0, .int .i64 (0), .slice none 0 0]] W6 := Ha8.add0 (q := hR bE 188 (.slice none 0 0) []) gI; clear Ha8
 have H11 : St w No [hR aY 197 (.slice none 0 0) ([]), hR bE 188 (.slice none 0 0) ([]), hB g_0_0 138 #[.int .i64 (p), .bool (true), .slice none 0 0, .int .i64 (0), .slice none 0 0, .int .i64 (0), .slice none 0 0]] W6 := H10.add0 (q := hR aY 197 (.slice none 0 0) []) gI; clear H10
 have H12 : St w No [hR aY 197 (.slice none 0 0) ([]), hR aY 197 (.slice none 0 0) ([]), hR bE 188 (.slice none 0 0) ([]), hB g_0_0 138 #[.int .i64 (p), .bool (true), .slice none 0 0, .int .i64 (0), .slice none 0 0, .int .i64 (0), .slice none 0 0]] W6 := H11.add0 (q := hR aY 197 (.slice none 0 0) []) gI; clear H11
 have H13 : St w No [hR bE 188 (.slice none 0 0) ([]), hR aY 197 (.slice none 0 0) ([]), hR aY 197 (.slice none 0 0) ([]), hB g_0_0 138 #[.int .i64 (p), .bool (true), .slice none 0 0, .int .i64 (0), .slice none 0 0, .int .i64 (0), .slice none 0 0]] W6 := H12.pick [2, 1, 0, 3] kD rfl; clear H12
 have H14 : St w No [hM aW (zL p) [.int .i64 (p), .bool (true), .slice none 0 0, .int .i64 (0), .slice none 0 0, .int .i64 (0), .slice none 0 0], hB g_0_0 138 #[.int .i64 (p), .bool (true), .slice none 0 0, .int .i64 (0), .slice none 0 0, .int .i64 (0), .slice none 0 0]] W6 := H13.swap (l0 := [hR bE 188 (.slice none 0 0) ([]), hR aY 197 (.slice none 0 0) ([]), hR aY 197 (.slice none 0 0) ([])]) (l' := [hM aW (zL p) [.int .i64 (p), .bool (true), .slice none 0 0, .int .i64 (0), .slice none 0 0, .int .i64 (0), .slice none 0 0]]) (fun _ h => Star.one (iE (x := (zL p)) h)); clear H13
 have hq := (H14.pick [0] kD rfl : St w No [hM aW (zL p) [.int .i64 (p), .bool (true), .slice none 0 0, .int .i64 (0), .slice none 0 0, .int .i64 (0), .slice none 0 0]] W6).fin1
 exact ⟨_, rfl, hq.1, hq.2⟩
theorem newProxy_i (p q : Int) (w : World) : Calls Try.prog 92 #[.int .i64 p, .int .i64 q] w (iP aL (prE p q) w) := by
 refine enter 8 [(0, .int .i64 (p)), (1, .int .i64 (q))] Try.func92 rfl kR ?_
 intro xj
 have H1 : St w No [] w := St.enter
 refine wp_seq ?_
 refine aN [0] rfl ?_
 refine aA ?_
 refine bP rfl Try.zeroValue77 rfl rfl H1 ?_
 intro g_0_0 W2 hu3 Ha4; clear H1; clear hu3
 refine aI ?_
 refine aK ?_
 refine wp_seq ?_
 refine aN [0, 1, 2, 3] rfl ?_
 refine aA ?_
 refine aB rfl (aF rfl) rfl rfl ?_
 refine aA ?_
 refine aB rfl (aF rfl) rfl rfl ?_
 refine aA ?_
 refine aB rfl (dS (vs := [(0, .int .i64 (3)), (7, .int .i64 (p)), (8, .int .i64 (q)), (9, .int .i64 (1))]) (cells := #[.int .i64 (3), .int .i64 (0), .slice none 0 0, .int .i64 (0), .int .i64 (0), .int .i64 (0), .slice none 0 0, .slice none 0 0, .int .i64 (p), .int .i64 (q), .int .i64 (1), .int .i64 (0)]) rfl kR) rfl rfl ?_
 refine aA ?_
 refine bG rfl Try.sizeOf77 rfl rfl rfl rfl kS Ha4 ?_
 intro W6 hu7 Ha8; clear Ha4; clear hu7
 refine aI ?_
 refine aK ?_
 refine wp_ret ?_
 refine dI (.inl rfl) Try.results92 Try.isAgg77 Try.sizeOf77 rfl (Ha8.blk 0 rfl) rfl ?_
 have H10 : St w No [hR aP 70 (.slice none 0 0) ([]), hB g_0_0 77 #[.int .i64 (3), .int .i64 (0), .slice none 0 0, .int .i64 (0), .int .i64 (0), .int .i64 (0), .slice none 0 0, .slice none 0 0, .int .i64 (p), .int .i64 (q), .int .i64 (1), .int .i64 (0)]] W6 := Ha8.add0 (q := hR aP 70 (.slice none 0 0) []) gI; clear Ha8
 have H11 : St w No [hR aH 181 (.slice none 0 0) ([]), hR aP 70 (.slice none 0 0) ([]), hB g_0_0 77 #[.int .i64 (3), .int .i64 (0), .slice none 0 0, .int .i64 (0), .int .i64 (0), .int .i64 (0), .slice none 0 0, .slice none 0 0, .int .i64 (p), .int .i64 (q), .int .i64 (1), .int .i64 (0)]] W6 := H10.add0 (q := hR aH 181 (.slice none 0 0) []) gI; clear H10
 have H12 : St w No [hR aQ 155 (.slice none 0 0) ([]), hR aH 181 (.slice none 0 0) ([]), hR aP 70 (.slice none 0 0) ([]), hB g_0_0 77 #[.int .i64 (3), .int .i64 (0), .slice none 0 0, .int .i64 (0), .int .i64 (0), .int .i64 (0), .slice none 0 0, .slice none 0 0, .int .i64 (p), .int .i64 (q), .int .i64 (1), .int .i64 (0)]] W6 := H11.add0 (q := hR aQ 155 (.slice none 0 0) []) gI; clear H11
 have H13 : St w No [hR aP 70 (.slice none 0 0) ([]), hR aH 181 (.slice none 0 0) ([]), hR aQ 155 (.slice none 0 0) ([]), hB g_0_0 77 #[.int .i64 (3), .int .i64 (0), .slice none 0 0, .int .i64 (0), .int .i64 (0), .int .i64 (0), .slice none 0 0, .slice none 0 0, .int .i64 (p), .int .i64 (q), .int .i64 (1), .int .i64 (0)]] W6 := H12.pick [2, 1, 0, 3] kD rfl; clear H12
 have H14 : St w No [hM aL (prE p q) [.int .i64 (3), .int .i64 (0), .slice none 0 0, .int .i64 (0), .int .i64 (0), .int .i64 (0), .slice none 0 0, .slice none 0 0, .int .i64 (p), .int .i64 (q), .int .i64 (1), .int .i64 (0)], hB g_0_0 77 #[.int .i64 (3), .int .i64 (0), .slice none 0 0, .int .i64 (0), .int .i64 (0), .int .i64 (0), .slice none 0 0, .slice none 0 0, .int .i64 (p), .int .i64 (q), .int .i64 (1), .int .i64 (0)]] W6 := H13.swap (l0 := [hR aP 70 (.slice none 0 0) ([]), hR aH 181 (.slice none 0 0) ([]), hR aQ 155 (.slice none 0 0) ([])]) (l' := [hM aL (prE p q) [.int .i64 (3), .int .i64 (0), .slice none 0 0, .int .i64 (0), .int .i64 (0), .int .i64 (0), .slice none 0 0, .slice none 0 0, .int .i64 (p), .int .i64 (q), .int .i64 (1), .int .i64 (0)]]) (fun _ h => Star.one (gD (x := (prE p q)) h)); clear H13
 have hq := (H14.pick [0] kD rfl : St w No [hM aL (prE p q) [.int .i64 (3), .int .i64 (0), .slice none 0 0, .int .i64 (0), .int .i64 (0), .int .i64 (0), .slice none 0 0, .slice none 0 0, .int .i64 (p), .int .i64 (q), .int .i64 (1), .int .i64 (0)]] W6).fin1
 exact ⟨_, rfl, hq.1, hq.2⟩
end Go.Proofs.YtdfipdpeilegpaaFam
namespace Go.Proofs.YtdfipdpeilegpaaFam
open Go.RowKit Go.Proofs.YtdfipdpeilegpaaSep Go.Proofs.YtdfipdpeilegpaaT Go.Proofs.YtdfipdpeilegpaaK
set_option linter.unusedVariables false
set_option linter.unusedSimpArgs false
set_option maxHeartbeats 1000000
set_option maxRecDepth 100000
theorem lkU_idx (q0 : Value) (p : GLink → Bool) (l : List GLink) (A : Option Addr) (c : Nat) (w : World) (h : C aW w A l) (hf : ∀ (x : GLink) (cs : List Value) (w' : World), Upd No w w' → aW.K w' x cs → Calls Try.prog 137 #[.agg cs.toArray, q0] w' (fD (p x) w')) : Calls Try.prog 162 #[.slice A l.length c, .func (.func 137) #[] #[q0]] w (RetInt (fidx p 0 l) w) := by
 have hn := h.1
 have H := Sd.mk h
 have HF := Sd.mk hf
 clear h hf
 go_enter Try.func162, Try.ntmps162
 go_wp2_with fail
 go_loopg [8] l.length (fun r v wr => ∃ i : Nat, i + r = l.length ∧ v = .int .i64 i ∧ Sd (fidx p 0 l = fidx p i (l.drop i)) ∧ Sd (Upd No w wr))
 case atStart => exact ⟨0, by omega, rfl, ⟨rfl⟩, ⟨Upd.refl _ _⟩⟩
 case round =>
  obtain ⟨i, hi, rfl, HE, HU⟩ := hrel
  by_cases hlt : i < l.length
  ·obtain ⟨ad, A2, c2, A4, c4, A6, c6, rfl, a0, a1, a2, a3, a4, a5, a6, hl2, hC2, hl4, hC4, hl6, hC6⟩ := ki_Link_at (cZ HU.out H.out) i hlt
   have HC2 := Sd.mk hC2
   clear hC2
   have HC4 := Sd.mk hC4
   clear hC4
   have HC6 := Sd.mk hC6
   clear hC6
   go_wp2_with fail
   with_reducible refine (HF.out l[i] _ _ HU.out (kM _ _ hl2 HC2.out hl4 HC4.out hl6 HC6.out)).mono ?_
   rintro e w1 ⟨rfl, hu⟩
   have HU1 := Sd.mk (HU.out.then hu)
   clear hu HU
   have hy := Sd.mk (fidx_yes p l i hlt)
   have hno := Sd.mk (fidx_no p l i hlt)
   cases hb : p l[i]
   ·have HBB := Sd.mk hb
    clear hb
    go_wp2_with fail
    go_roundg (gk - 1)
    case measure => omega
    case rel => exact ⟨i + 1, by omega, by go_num, ⟨HE.out.trans (hno.out HBB.out)⟩, HU1⟩
   ·have HBB := Sd.mk hb
    clear hb
    go_wp2_with fail
    go_ret
    exact ⟨ret_int (by rw [HE.out, hy.out HBB.out]), HU1.out⟩
  ·go_wp2_with fail
   go_ret
   exact ⟨ret_int (by rw [HE.out, fidx_end p l i kO]), HU.out⟩
theorem lkU_has (q0 : Value) (p : GLink → Bool) (l : List GLink) (A : Option Addr) (c : Nat) (w : World) (h : C aW w A l) (hf : ∀ (x : GLink) (cs : List Value) (w' : World), Upd No w w' → aW.K w' x cs → Calls Try.prog 137 #[.agg cs.toArray, q0] w' (fD (p x) w')) : Calls Try.prog 136 #[.slice A l.length c, .func (.func 137) #[] #[q0]] w (fD (l.any p) w) := by
 have H := Sd.mk h
 have HF := Sd.mk hf
 clear h hf
 go_enter Try.func136, Try.ntmps136
 go_wp2_with fail
 with_reducible refine (lkU_idx q0 p l _ _ _ ?hc ?hf).mono ?_
 case hc => exact H.out
 case hf => exact HF.out
 rintro e w1 ⟨rfl, hu⟩
 have HX := Sd.mk (fidx_any p l 0 (Int.le_refl 0))
 have HU := Sd.mk hu
 clear hu
 go_wp2_with fail
 go_ret
 exact ⟨ret_bool HX.out, HU.out⟩
theorem lkP_idx (q0 : Value) (p : GLink → Bool) (l : List GLink) (A : Option Addr) (c : Nat) (w : World) (h : C aW w A l) (hf : ∀ (x : GLink) (cs : List Value) (w' : World), Upd No w w' → aW.K w' x cs → Calls Try.prog 163 #[.agg cs.toArray, q0] w' (fD (p x) w')) : Calls Try.prog 162 #[.slice A l.length c, .func (.func 163) #[] #[q0]] w (RetInt (fidx p 0 l) w) := by
 have hn := h.1
 have H := Sd.mk h
 have HF := Sd.mk hf
 clear h hf
 go_enter Try.func162, Try.ntmps162
 go_wp2_with fail
 go_loopg [8] l.length (fun r v wr => ∃ i : Nat, i + r = l.length ∧ v = .int .i64 i ∧ Sd (fidx p 0 l = fidx p i (l.drop i)) ∧ Sd (Upd No w wr))
 case atStart => exact ⟨0, by omega, rfl, ⟨rfl⟩, ⟨Upd.refl _ _⟩⟩
 case round =>
  obtain ⟨i, hi, rfl, HE, HU⟩ := hrel
  by_cases hlt : i < l.length
  ·obtain ⟨ad, A2, c2, A4, c4, A6, c6, rfl, a0, a1, a2, a3, a4, a5, a6, hl2, hC2, hl4, hC4, hl6, hC6⟩ := ki_Link_at (cZ HU.out H.out) i hlt
   have HC2 := Sd.mk hC2
   clear hC2
   have HC4 := Sd.mk hC4
   clear hC4
   have HC6 := Sd.mk hC6
   clear hC6
   go_wp2_with fail
   with_reducible refine (HF.out l[i] _ _ HU.out (kM _ _ hl2 HC2.out hl4 HC4.out hl6 HC6.out)).mono ?_
   rintro e w1 ⟨rfl, hu⟩
   have HU1 := Sd.mk (HU.out.then hu)
   clear hu HU
   have hy := Sd.mk (fidx_yes p l i hlt)
   have hno := Sd.mk (fidx_no p l i hlt)
   cases hb : p l[i]
   ·have HBB := Sd.mk hb
    clear hb
    go_wp2_with fail
    go_roundg (gk - 1)
    case measure => omega
    case rel => exact ⟨i + 1, by omega, by go_num, ⟨HE.out.trans (hno.out HBB.out)⟩, HU1⟩
   ·have HBB := Sd.mk hb
    clear hb
    go_wp2_with fail
    go_ret
    exact ⟨ret_int (by rw [HE.out, hy.out HBB.out]), HU1.out⟩
  ·go_wp2_with fail
   go_ret
   exact ⟨ret_int (by rw [HE.out, fidx_end p l i kO]), HU.out⟩
end Go.Proofs.YtdfipdpeilegpaaFam
namespace Go.Proofs.YtdfipdpeilegpaaSep
open Go.ChangeShapes Go.WideShapes Go.RowKit
section
variable {P : Program} {n ty : Nat} {x : Nat → Value} {live : List (Nat × Value)} {W : World} {pos : String} {aft : Array Edge} {y z : Operand} {dst : Option Nat} {xt yt e : Nat}
theorem rn_neqNilT {a : Addr} (hu : ∀ w, (underlying xt).run P w = .ok (.pointer e) w) (hx : evl n live y = some (.pointer (some a))) (hz : evl n live z = some (.pointer none)) : Rn P ⟨dst, .binOp .neq xt y z yt, ty, pos, aft, none⟩ (bH n x live) W (.bool true) := by
 unfold Rn
 have e1 : Op.equal xt (.pointer (some a)) (.pointer none) = Op.equalIn (9999 + 1) xt (.pointer (some a)) (.pointer none) := rfl
 have e2 : (Op.equal xt (.pointer (some a)) (.pointer none)).run P W = .ok false W := by
  rw [e1, Op.equalIn]
  simp [hu]
 simp [execOp, dM hx, dM hz, eqGuard_at_pointer, binOp, e2]
end
end Go.Proofs.YtdfipdpeilegpaaSep
namespace Go.Proofs.YtdfipdpeilegpaaFam
open Go.ChangeShapes Go.WideShapes Go.RowKit Go.Proofs.YtdfipdpeilegpaaSep Go.Proofs.YtdfipdpeilegpaaT Go.Proofs.YtdfipdpeilegpaaK
set_option linter.unusedVariables false
set_option linter.unusedSimpArgs false
attribute [local irreducible] wpOps wpOp
set_option maxHeartbeats 4000000
set_option maxRecDepth 100000
def peP (p : Int) : GLink → Bool := fun x => decide (x.bD = p)
def upP (p : Int) : GLink → Bool := fun x => decide (x.bD = p) && x.Up
theorem up_pe (p : Int) (l : List GLink) (h : l.any (upP p) = true) : ∃ k : Nat, k < l.length ∧ fidx (peP p) 0 l = k := by
 have h1 := fidx_any (peP p) l 0 (Int.le_refl 0)
 have h2 : l.any (peP p) = true := by
  obtain ⟨x, hx, hp⟩ := List.any_eq_true.1 h
  refine List.any_eq_true.2 ⟨x, hx, ?_⟩
  simp only [upP, Bool.and_eq_true] at hp
  exact hp.1
 rw [h2] at h1
 have h3 : 0 ≤ fidx (peP p) 0 l := of_decide_eq_true h1
 rcases fidx_range (peP p) l 0 with h4 | h4
 ·omega
 ·exact ⟨(fidx (peP p) 0 l).toNat, by omega, by omega⟩
theorem lkU_clo (x : GLink) (cs : List Value) (p : Int) (g : Nat) (w : World) (h : aW.K w x cs) (hc : w.cell? ⟨g, 0, none⟩ = some (.int .i64 p)) : Calls Try.prog 137 #[.agg cs.toArray, .pointer (some ⟨g, 0, none⟩)] w (fD (upP p x) w) := by
 obtain ⟨Ax2, cx2, Ax4, cx4, Ax6, cx6, rfl, hlx2, hCx2, hlx4, hCx4, hlx6, hCx6⟩ := jA h
 refine enter 12 [(0, .agg #[.int .i64 (x.bD), .bool (x.Up), .slice Ax2 x.aV.length cx2, .int .i64 (x.Next), .slice Ax4 x.aT.length cx4, .int .i64 (x.bO), .slice Ax6 x.bA.length cx6]), (1, .pointer (some ⟨g, 0, none⟩))] Try.func137 rfl kR ?_
 intro xj
 have H1 : St w No [] w := St.enter
 refine wp_seq ?_
 refine aN [0, 1] rfl ?_
 refine aA ?_
 refine fJ rfl rfl rfl rfl H1 ?_
 intro g_0_0 W2 hu3 Ha4; clear H1; clear hu3
 refine aA ?_
 refine aB rfl (aR rfl) rfl rfl ?_
 refine aI ?_
 refine aK ?_
 refine wp_seq ?_
 refine aN [0, 1, 2, 3, 4, 5, 6, 7, 8] rfl ?_
 refine aA ?_
 refine aB rfl (aU fa_138_0 rfl) rfl rfl ?_
 refine aA ?_
 refine aB rfl (bB (k := 0) (v := .int .i64 (x.bD)) Try.isAgg3 rfl (Ha4.blk 0 rfl) rfl) rfl rfl ?_
 refine aA ?_
 refine aB rfl (iQ (v := .int .i64 (p)) Try.isAgg3 rfl (Ha4.1.read hc)) rfl rfl ?_
 by_cases hg6 : (x.bD : Int) = p
 ·refine aA ?_
  refine aB rfl (bX hg6 (bS rfl rfl)) rfl rfl ?_
  refine aA ?_
  refine aB rfl (aF rfl) rfl rfl ?_
  refine aA ?_
  refine bL rfl rfl rfl rfl (fun _ ho7 => ?_)
  refine aB ho7 (aU fa_138_1 rfl) rfl rfl ?_
  by_cases hg8 : x.Up = true
  ·refine aA ?_
   refine bL rfl rfl rfl rfl (fun _ ho9 => ?_)
   refine aB ho9 (fI (b := x.Up) hg8 (bB (k := 1) (v := .bool (x.Up)) Try.isAgg4 rfl (Ha4.blk 0 rfl) rfl)) rfl rfl ?_
   refine aA ?_
   refine aB rfl (aX (v := .bool (true)) (b := true) rfl rfl rfl rfl) rfl rfl ?_
   refine aA ?_
   refine aB rfl (aR rfl) rfl rfl ?_
   refine aI ?_
   refine aK ?_
   refine wp_ret ?_
   refine bI (.inl rfl) Try.results137 rfl ?_
   exact ⟨congrArg (fun z => Ending.returned (Value.bool z)) (by simp [upP, *]), Ha4.1⟩
  ·refine aA ?_
   refine bL rfl rfl rfl rfl (fun _ ho10 => ?_)
   refine aB ho10 (fI (b := x.Up) (eq_false_of_ne_true hg8) (bB (k := 1) (v := .bool (x.Up)) Try.isAgg4 rfl (Ha4.blk 0 rfl) rfl)) rfl rfl ?_
   refine aA ?_
   refine aB rfl (aX (v := .bool (false)) (b := true) rfl rfl rfl rfl) rfl rfl ?_
   refine aA ?_
   refine aB rfl (aR rfl) rfl rfl ?_
   refine aI ?_
   refine aK ?_
   refine wp_ret ?_
   refine bI (.inl rfl) Try.results137 rfl ?_
   exact ⟨congrArg (fun z => Ending.returned (Value.bool z)) (by simp [upP, *]), Ha4.1⟩
 ·refine aA ?_
  refine aB rfl (bZ hg6 (bS rfl rfl)) rfl rfl ?_
  refine aA ?_
  refine aB rfl (aF rfl) rfl rfl ?_
  refine aA ?_
  refine aD rfl rfl rfl rfl rfl rfl rfl ?_
  refine aA ?_
  refine aD rfl rfl rfl rfl rfl rfl rfl ?_
  refine aA ?_
  refine aB rfl (aX (v := .bool (false)) (b := false) rfl rfl rfl rfl) rfl rfl ?_
  refine aA ?_
  refine aB rfl (aR rfl) rfl rfl ?_
  refine aI ?_
  refine aK ?_
  refine wp_ret ?_
  refine bI (.inl rfl) Try.results137 rfl ?_
  exact ⟨congrArg (fun z => Ending.returned (Value.bool z)) (by simp [upP, *]), Ha4.1⟩
theorem lkP_clo (x : GLink) (cs : List Value) (p : Int) (g : Nat) (w : World) (h : aW.K w x cs) (hc : w.cell? ⟨g, 0, none⟩ = some (.int .i64 p)) : Calls Try.prog 163 #[.agg cs.toArray, .pointer (some ⟨g, 0, none⟩)] w (fD (peP p x) w) := by
 obtain ⟨Ax2, cx2, Ax4, cx4, Ax6, cx6, rfl, hlx2, hCx2, hlx4, hCx4, hlx6, hCx6⟩ := jA h
 refine enter 8 [(0, .agg #[.int .i64 (x.bD), .bool (x.Up), .slice Ax2 x.aV.length cx2, .int .i64 (x.Next), .slice Ax4 x.aT.length cx4, .int .i64 (x.bO), .slice Ax6 x.bA.length cx6]), (1, .pointer (some ⟨g, 0, none⟩))] Try.func163 rfl kR ?_
 intro xj
 have H1 : St w No [] w := St.enter
 refine wp_seq ?_
 refine aN [0, 1] rfl ?_
 refine aA ?_
 refine fJ rfl rfl rfl rfl H1 ?_
 intro g_0_0 W2 hu3 Ha4; clear H1; clear hu3
 refine aA ?_
 refine aB rfl (aR rfl) rfl rfl ?_
 refine aI ?_
 refine aK ?_
 refine wp_seq ?_
 refine aN [0, 1, 2, 3, 4] rfl ?_
 refine aA ?_
 refine aB rfl (aU fa_138_0 rfl) rfl rfl ?_
 refine aA ?_
 refine aB rfl (bB (k := 0) (v := .int .i64 (x.bD)) Try.isAgg3 rfl (Ha4.blk 0 rfl) rfl) rfl rfl ?_
 refine aA ?_
 refine aB rfl (iQ (v := .int .i64 (p)) Try.isAgg3 rfl (Ha4.1.read hc)) rfl rfl ?_
 refine aA ?_
 refine aB rfl (bS rfl rfl) rfl rfl ?_
 refine aA ?_
 refine aB rfl (aR rfl) rfl rfl ?_
 refine aI ?_
 refine aK ?_
 refine wp_ret ?_
 refine bI (.inl rfl) Try.results163 rfl ?_
 exact ⟨congrArg (fun z => Ending.returned (Value.bool z)) (by simp [peP, *]), Ha4.1⟩
theorem linkTo_i (l : List GLink) (p : Int) (u0 u1 u2 u4 : Value) (A : Option Addr) (c : Nat) (w : World) (h : C aW w A l) : Calls Try.prog 138 #[.agg #[u0, u1, u2, .slice A l.length c, u4], .int .i64 p] w (RetInt (fidx (peP p) 0 l) w) := by
 refine enter 9 [(0, .agg #[u0, u1, u2, .slice A l.length c, u4]), (1, .int .i64 (p))] Try.func138 rfl kR ?_
 intro xj
 have H1 : St w No [] w := St.enter
 refine wp_seq ?_
 refine aN [0, 1, 2] rfl ?_
 refine aA ?_
 refine fJ rfl rfl rfl rfl H1 ?_
 intro g_0_0 W2 hu3 Ha4; clear H1; clear hu3
 refine aA ?_
 refine fJ rfl rfl rfl rfl Ha4 ?_
 intro g_0_1 W6 hu7 Ha8; clear Ha4; clear hu7
 refine aA ?_
 refine aB rfl (aR rfl) rfl rfl ?_
 refine aI ?_
 refine aK ?_
 refine wp_seq ?_
 refine aN [0, 1, 2, 3, 4] rfl ?_
 refine aA ?_
 refine aB rfl (aU gW rfl) rfl rfl ?_
 refine aA ?_
 refine aB rfl (bB (k := 3) (v := .slice A l.length c) Try.isAgg66 rfl (Ha8.blk 1 rfl) rfl) rfl rfl ?_
 refine aA ?_
 refine aB rfl (rn_makeFunc (us := #[]) (vs := #[.pointer (some ⟨g_0_1, 0, none⟩)]) rfl rfl) rfl rfl ?_
 refine aA ?_
 refine bC rfl Try.call162 (vs := #[.slice A l.length c, .func (.func 163) #[] #[.pointer (some ⟨g_0_1, 0, none⟩)]]) rfl rfl rfl (lkP_idx (.pointer (some ⟨g_0_1, 0, none⟩)) (peP p) l _ _ _ (cZ Ha8.1 h) (fun x cs w' hu hK => lkP_clo x cs p _ w' hK (hu.read ((Ha8.blk 0 rfl).at 0 rfl)))) ?_
 rintro e12 W11 ⟨rfl, hu10⟩; refine ⟨_, rfl, ?_⟩
 have H13 := Ha8.no hu10; clear Ha8
 refine aA ?_
 refine aB rfl (aR rfl) rfl rfl ?_
 refine aI ?_
 refine aK ?_
 refine wp_ret ?_
 refine bI (.inl rfl) Try.results138 rfl ?_
 exact ⟨rfl, H13.1⟩
theorem link_yes (l : List GLink) (p : Int) (g c0 : Nat) (A0 : Option Addr) (u0 u1 u2 u4 : Value) (F0 : Nat → Prop) (w : World) (h : Star [hB g 69 #[u0, u1, u2, .slice A0 l.length c0, u4], hR aW 138 (.slice A0 l.length c0) l] w F0) (hup : l.any (upP p) = true) (k : Nat) (hk : k < l.length) (hf : fidx (peP p) 0 l = k) : Calls Try.prog 93 #[.pointer (some ⟨g, 0, none⟩), .int .i64 p] w (fun e' w' => ∃ a, A0 = some a ∧ e' = .returned (.pointer (some (Addr.add a (k * 7)))) ∧ St w F0 [hB g 69 #[u0, u1, u2, .slice A0 l.length c0, u4], hR aW 138 (.slice A0 l.length c0) l] w') := by
 refine enter 29 [(0, .pointer (some ⟨g, 0, none⟩)), (1, .int .i64 (p))] Try.func93 rfl kR ?_
 intro xj
 have H1 : St w F0 [hB g 69 #[u0, u1, u2, .slice A0 l.length c0, u4], hR aW 138 (.slice A0 l.length c0) l] w := St.iA h
 refine wp_seq ?_
 refine aN [0, 1] rfl ?_
 refine aA ?_
 refine fJ rfl rfl rfl rfl H1 ?_
 intro g_0_0 W2 hu3 Ha4; clear H1; clear hu3
 refine aA ?_
 refine aB rfl (aR rfl) rfl rfl ?_
 refine aI ?_
 refine aK ?_
 refine wp_seq ?_
 refine aN [0, 1, 2, 3, 4, 5, 6] rfl ?_
 refine aA ?_
 refine aB rfl (aF rfl) rfl rfl ?_
 refine aA ?_
 refine aB rfl (dA rfl) rfl rfl ?_
 refine aA ?_
 refine aB rfl (aU gW rfl) rfl rfl ?_
 refine aA ?_
 refine aB rfl (bB (k := 3) (v := .slice A0 l.length c0) Try.isAgg66 rfl (Ha4.blk 1 rfl) rfl) rfl rfl ?_
 refine aA ?_
 refine aB rfl (rn_makeFunc (us := #[]) (vs := #[.pointer (some ⟨g_0_0, 0, none⟩)]) rfl rfl) rfl rfl ?_
 refine aA ?_
 refine bC rfl Try.call136 (vs := #[.slice A0 l.length c0, .func (.func 137) #[] #[.pointer (some ⟨g_0_0, 0, none⟩)]]) rfl rfl rfl (iF (lkU_has (.pointer (some ⟨g_0_0, 0, none⟩)) (upP p) l _ _ _ (Ha4.fU 2 rfl) (fun x cs w' hu hK => lkU_clo x cs p _ w' hK (hu.read ((Ha4.blk 0 rfl).at 0 rfl)))) hup) ?_
 rintro e8 W7 ⟨rfl, hu6⟩; refine ⟨_, rfl, ?_⟩
 have H9 := Ha4.no hu6; clear Ha4
 refine aA ?_
 refine aB rfl (aR rfl) rfl rfl ?_
 refine aI ?_
 refine aK ?_
 refine wp_seq ?_
 refine wp_seq ?_
 refine dG (fun W' => Blk W' g 69 #[u0, u1, u2, .slice A0 l.length c0, u4] ∧ Blk W' g_0_0 3 #[.int .i64 (p)]) 6 kR ?_
 have H10 := H9.drew; clear H9
 have hS11 : Blk W7.drew g 69 #[u0, u1, u2, .slice A0 l.length c0, u4] ∧ Blk W7.drew g_0_0 3 #[.int .i64 (p)] := ⟨H10.blk 1 rfl, H10.blk 0 rfl⟩
 refine aO (i := 0) rfl kR kR kR kR kR (fun _ _ _ h => h) rfl rfl hS11 (fun W' hs' => aF rfl) ?_
 refine aO (i := 1) rfl kR kR kR kR kR (fun _ _ _ h => h) rfl rfl hS11 (fun W' hs' => dA rfl) ?_
 refine aO (i := 2) rfl kR kR kR kR kR (fun _ _ _ h => h) rfl rfl hS11 (fun W' hs' => bN Try.isAgg69 Try.sizeOf69 rfl hs'.1 rfl) ?_
 refine aO (i := 3) rfl kR kR kR kR kR (fun _ _ _ h => h) rfl rfl hS11 (fun W' hs' => bB (k := 0) (v := .int .i64 (p)) Try.isAgg3 rfl hs'.2 rfl) ?_
 refine bM (i := 4) kR ?_
 refine bC rfl Try.call138 (vs := #[.agg #[u0, u1, u2, .slice A0 l.length c0, u4], .int .i64 (p)]) rfl rfl rfl (hf ▸ (linkTo_i l p _ _ _ _ _ _ _ (H10.fU 2 rfl))) ?_
 rintro e14 W13 ⟨rfl, hu12⟩; refine ⟨_, rfl, ?_⟩
 have H15 := H10.no hu12; clear H10
 have hS16 := And.intro (H15.blk 1 rfl) (H15.blk 0 rfl); refine ⟨fun _ => hS16, ?_⟩
 refine aO (i := 5) rfl kR kR kR kR kR (fun _ _ _ h => h) rfl rfl hS16 (fun W' hs' => aR rfl) ?_
 refine cB kR ?_ _
 refine aK ?_
 refine wp_seq ?_
 refine aN [0, 1, 2, 3, 4] rfl ?_
 refine aA ?_
 refine aB rfl (aF rfl) rfl rfl ?_
 refine aA ?_
 refine aB rfl (bX (p := (0 : Int) ≤ ((k : Nat) : Int)) kO (rn_geq (p := ((k : Nat) : Int)) (q := 0) rfl rfl)) rfl rfl ?_
 refine aA ?_
 refine aB rfl (aF rfl) rfl rfl ?_
 refine aA ?_
 refine bL rfl rfl rfl rfl (fun _ ho17 => ?_)
 refine aB ho17 (aF rfl) rfl rfl ?_
 refine aA ?_
 refine aB rfl (aX (v := .bool (true)) (b := true) rfl rfl rfl rfl) rfl rfl ?_
 refine aI ?_
 refine aK ?_
 refine fK rfl ?_
 refine wp_seq ?_
 obtain ⟨ad, cse, hA, hKe, hce⟩ := fT (H15.fU 2 rfl) k hk
 refine aN [0, 1, 2, 3, 4, 5, 6] rfl ?_
 refine aA ?_
 refine aB rfl (aF rfl) rfl rfl ?_
 refine aA ?_
 refine aB rfl (dA rfl) rfl rfl ?_
 refine aA ?_
 refine aB rfl (aU gW rfl) rfl rfl ?_
 refine aA ?_
 refine aB rfl (bB (k := 3) (v := .slice A0 l.length c0) Try.isAgg66 rfl (H15.blk 1 rfl) rfl) rfl rfl ?_
 refine aA ?_
 refine aB rfl (aF rfl) rfl rfl ?_
 refine aA ?_
 refine aB rfl (bQ (k := k) Try.runUnderlying66 Try.sizeOf138 rfl rfl hA hk) rfl rfl ?_
 refine aA ?_
 refine aB rfl (aR rfl) rfl rfl ?_
 refine aI ?_
 refine aK ?_
 refine wp_ret ?_
 refine bY ?_
 refine bI (.inl rfl) Try.results93 rfl ?_
 exact ⟨_, hA, rfl, H15.pick [1, 2] kD rfl⟩
theorem l1In_s (x lo hi : Int) (w : World) : Calls Try.prog 61 #[.int .i64 x, .int .i64 lo, .int .i64 hi] w (fD (decide (lo ≤ x ∧ x ≤ hi)) w) := by
 by_cases h1 : lo ≤ x
 ·by_cases h2 : x ≤ hi
  ·refine enter 15 [(0, .int .i64 (x)), (1, .int .i64 (lo)), (2, .int .i64 (hi))] Try.func61 rfl kR ?_
   intro xj
   have H1 : St w No [] w := St.enter
   refine wp_seq ?_
   refine aN [0] rfl ?_
   refine aA ?_
   refine aB rfl (aR rfl) rfl rfl ?_
   refine aI ?_
   refine aK ?_
   refine wp_seq ?_
   refine aN [0, 1, 2, 3, 4, 5, 6, 7, 8] rfl ?_
   refine aA ?_
   refine aB rfl (aF rfl) rfl rfl ?_
   refine aA ?_
   refine aB rfl (aF rfl) rfl rfl ?_
   refine aA ?_
   refine aB rfl (bX (p := (lo : Int) ≤ x) h1 (rn_geq (p := x) (q := lo) rfl rfl)) rfl rfl ?_
   refine aA ?_
   refine aB rfl (aF rfl) rfl rfl ?_
   refine aA ?_
   refine bL rfl rfl rfl rfl (fun _ ho2 => ?_)
   refine aB ho2 (aF rfl) rfl rfl ?_
   refine aA ?_
   refine bL rfl rfl rfl rfl (fun _ ho3 => ?_)
   refine aB ho3 (aF rfl) rfl rfl ?_
   refine aA ?_
   refine bL rfl rfl rfl rfl (fun _ ho4 => ?_)
   refine aB ho4 (bX (p := (x : Int) ≤ hi) h2 (rn_leq (p := x) (q := hi) rfl rfl)) rfl rfl ?_
   refine aA ?_
   refine aB rfl (aX (v := .bool (true)) (b := true) rfl rfl rfl rfl) rfl rfl ?_
   refine aA ?_
   refine aB rfl (aR rfl) rfl rfl ?_
   refine aI ?_
   refine aK ?_
   refine wp_ret ?_
   refine bI (.inl rfl) Try.results61 rfl ?_
   exact ⟨by rw [decide_eq_true (⟨h1, h2⟩ : lo ≤ x ∧ x ≤ hi)], H1.1⟩
  ·refine enter 15 [(0, .int .i64 (x)), (1, .int .i64 (lo)), (2, .int .i64 (hi))] Try.func61 rfl kR ?_
   intro xj
   have H1 : St w No [] w := St.enter
   refine wp_seq ?_
   refine aN [0] rfl ?_
   refine aA ?_
   refine aB rfl (aR rfl) rfl rfl ?_
   refine aI ?_
   refine aK ?_
   refine wp_seq ?_
   refine aN [0, 1, 2, 3, 4, 5, 6, 7, 8] rfl ?_
   refine aA ?_
   refine aB rfl (aF rfl) rfl rfl ?_
   refine aA ?_
   refine aB rfl (aF rfl) rfl rfl ?_
   refine aA ?_
   refine aB rfl (bX (p := (lo : Int) ≤ x) h1 (rn_geq (p := x) (q := lo) rfl rfl)) rfl rfl ?_
   refine aA ?_
   refine aB rfl (aF rfl) rfl rfl ?_
   refine aA ?_
   refine bL rfl rfl rfl rfl (fun _ ho2 => ?_)
   refine aB ho2 (aF rfl) rfl rfl ?_
   refine aA ?_
   refine bL rfl rfl rfl rfl (fun _ ho3 => ?_)
   refine aB ho3 (aF rfl) rfl rfl ?_
   refine aA ?_
   refine bL rfl rfl rfl rfl (fun _ ho4 => ?_)
   refine aB ho4 (bZ (p := (x : Int) ≤ hi) h2 (rn_leq (p := x) (q := hi) rfl rfl)) rfl rfl ?_
   refine aA ?_
   refine aB rfl (aX (v := .bool (false)) (b := true) rfl rfl rfl rfl) rfl rfl ?_
   refine aA ?_
   refine aB rfl (aR rfl) rfl rfl ?_
   refine aI ?_
   refine aK ?_
   refine wp_ret ?_
   refine bI (.inl rfl) Try.results61 rfl ?_
   exact ⟨by rw [decide_eq_false (fun q : lo ≤ x ∧ x ≤ hi => h2 q.2)], H1.1⟩
 ·refine enter 15 [(0, .int .i64 (x)), (1, .int .i64 (lo)), (2, .int .i64 (hi))] Try.func61 rfl kR ?_
  intro xj
  have H1 : St w No [] w := St.enter
  refine wp_seq ?_
  refine aN [0] rfl ?_
  refine aA ?_
  refine aB rfl (aR rfl) rfl rfl ?_
  refine aI ?_
  refine aK ?_
  refine wp_seq ?_
  refine aN [0, 1, 2, 3, 4, 5, 6, 7, 8] rfl ?_
  refine aA ?_
  refine aB rfl (aF rfl) rfl rfl ?_
  refine aA ?_
  refine aB rfl (aF rfl) rfl rfl ?_
  refine aA ?_
  refine aB rfl (bZ (p := (lo : Int) ≤ x) h1 (rn_geq (p := x) (q := lo) rfl rfl)) rfl rfl ?_
  refine aA ?_
  refine aB rfl (aF rfl) rfl rfl ?_
  refine aA ?_
  refine aD rfl rfl rfl rfl rfl rfl rfl ?_
  refine aA ?_
  refine aD rfl rfl rfl rfl rfl rfl rfl ?_
  refine aA ?_
  refine aD rfl rfl rfl rfl rfl rfl rfl ?_
  refine aA ?_
  refine aB rfl (aX (v := .bool (false)) (b := false) rfl rfl rfl rfl) rfl rfl ?_
  refine aA ?_
  refine aB rfl (aR rfl) rfl rfl ?_
  refine aI ?_
  refine aK ?_
  refine wp_ret ?_
  refine bI (.inl rfl) Try.results61 rfl ?_
  exact ⟨by rw [decide_eq_false (fun q : lo ≤ x ∧ x ≤ hi => h1 q.1)], H1.1⟩
theorem in_i (x lo hi : Int) (w : World) : Calls Try.prog 60 #[.int .i64 x, .int .i64 lo, .int .i64 hi] w (fD (decide (lo ≤ x ∧ x ≤ hi)) w) := by
 by_cases h1 : lo ≤ x
 ·by_cases h2 : x ≤ hi
  ·refine enter 15 [(0, .int .i64 (x)), (1, .int .i64 (lo)), (2, .int .i64 (hi))] Try.func60 rfl kR ?_
   intro xj
   have H1 : St w No [] w := St.enter
   refine wp_seq ?_
   refine aN [0] rfl ?_
   refine aA ?_
   refine aB rfl (aR rfl) rfl rfl ?_
   refine aI ?_
   refine aK ?_
   refine wp_seq ?_
   refine aN [0, 1, 2, 3, 4, 5, 6, 7, 8] rfl ?_
   refine aA ?_
   refine aB rfl (aF rfl) rfl rfl ?_
   refine aA ?_
   refine aB rfl (aF rfl) rfl rfl ?_
   refine aA ?_
   refine aB rfl (bX (p := (lo : Int) ≤ x) h1 (rn_leq (p := lo) (q := x) rfl rfl)) rfl rfl ?_
   refine aA ?_
   refine aB rfl (aF rfl) rfl rfl ?_
   refine aA ?_
   refine bL rfl rfl rfl rfl (fun _ ho2 => ?_)
   refine aB ho2 (aF rfl) rfl rfl ?_
   refine aA ?_
   refine bL rfl rfl rfl rfl (fun _ ho3 => ?_)
   refine aB ho3 (aF rfl) rfl rfl ?_
   refine aA ?_
   refine bL rfl rfl rfl rfl (fun _ ho4 => ?_)
   refine aB ho4 (bX (p := (x : Int) ≤ hi) h2 (rn_leq (p := x) (q := hi) rfl rfl)) rfl rfl ?_
   refine aA ?_
   refine aB rfl (aX (v := .bool (true)) (b := true) rfl rfl rfl rfl) rfl rfl ?_
   refine aA ?_
   refine aB rfl (aR rfl) rfl rfl ?_
   refine aI ?_
   refine aK ?_
   refine wp_ret ?_
   refine bI (.inl rfl) Try.results60 rfl ?_
   exact ⟨by rw [decide_eq_true (⟨h1, h2⟩ : lo ≤ x ∧ x ≤ hi)], H1.1⟩
  ·refine enter 15 [(0, .int .i64 (x)), (1, .int .i64 (lo)), (2, .int .i64 (hi))] Try.func60 rfl kR ?_
   intro xj
   have H1 : St w No [] w := St.enter
   refine wp_seq ?_
   refine aN [0] rfl ?_
   refine aA ?_
   refine aB rfl (aR rfl) rfl rfl ?_
   refine aI ?_
   refine aK ?_
   refine wp_seq ?_
   refine aN [0, 1, 2, 3, 4, 5, 6, 7, 8] rfl ?_
   refine aA ?_
   refine aB rfl (aF rfl) rfl rfl ?_
   refine aA ?_
   refine aB rfl (aF rfl) rfl rfl ?_
   refine aA ?_
   refine aB rfl (bX (p := (lo : Int) ≤ x) h1 (rn_leq (p := lo) (q := x) rfl rfl)) rfl rfl ?_
   refine aA ?_
   refine aB rfl (aF rfl) rfl rfl ?_
   refine aA ?_
   refine bL rfl rfl rfl rfl (fun _ ho2 => ?_)
   refine aB ho2 (aF rfl) rfl rfl ?_
   refine aA ?_
   refine bL rfl rfl rfl rfl (fun _ ho3 => ?_)
   refine aB ho3 (aF rfl) rfl rfl ?_
   refine aA ?_
   refine bL rfl rfl rfl rfl (fun _ ho4 => ?_)
   refine aB ho4 (bZ (p := (x : Int) ≤ hi) h2 (rn_leq (p := x) (q := hi) rfl rfl)) rfl rfl ?_
   refine aA ?_
   refine aB rfl (aX (v := .bool (false)) (b := true) rfl rfl rfl rfl) rfl rfl ?_
   refine aA ?_
   refine aB rfl (aR rfl) rfl rfl ?_
   refine aI ?_
   refine aK ?_
   refine wp_ret ?_
   refine bI (.inl rfl) Try.results60 rfl ?_
   exact ⟨by rw [decide_eq_false (fun q : lo ≤ x ∧ x ≤ hi => h2 q.2)], H1.1⟩
 ·refine enter 15 [(0, .int .i64 (x)), (1, .int .i64 (lo)), (2, .int .i64 (hi))] Try.func60 rfl kR ?_
  intro xj
  have H1 : St w No [] w := St.enter
  refine wp_seq ?_
  refine aN [0] rfl ?_
  refine aA ?_
  refine aB rfl (aR rfl) rfl rfl ?_
  refine aI ?_
  refine aK ?_
  refine wp_seq ?_
  refine aN [0, 1, 2, 3, 4, 5, 6, 7, 8] rfl ?_
  refine aA ?_
  refine aB rfl (aF rfl) rfl rfl ?_
  refine aA ?_
  refine aB rfl (aF rfl) rfl rfl ?_
  refine aA ?_
  refine aB rfl (bZ (p := (lo : Int) ≤ x) h1 (rn_leq (p := lo) (q := x) rfl rfl)) rfl rfl ?_
  refine aA ?_
  refine aB rfl (aF rfl) rfl rfl ?_
  refine aA ?_
  refine aD rfl rfl rfl rfl rfl rfl rfl ?_
  refine aA ?_
  refine aD rfl rfl rfl rfl rfl rfl rfl ?_
  refine aA ?_
  refine aD rfl rfl rfl rfl rfl rfl rfl ?_
  refine aA ?_
  refine aB rfl (aX (v := .bool (false)) (b := false) rfl rfl rfl rfl) rfl rfl ?_
  refine aA ?_
  refine aB rfl (aR rfl) rfl rfl ?_
  refine aI ?_
  refine aK ?_
  refine wp_ret ?_
  refine bI (.inl rfl) Try.results60 rfl ?_
  exact ⟨by rw [decide_eq_false (fun q : lo ≤ x ∧ x ≤ hi => h1 q.1)], H1.1⟩
theorem in_i_t (x lo hi : Int) (w : World) (h : lo ≤ x ∧ x ≤ hi) : Calls Try.prog 60 #[.int .i64 x, .int .i64 lo, .int .i64 hi] w (fD true w) := by
 have := in_i x lo hi w
 rwa [decide_eq_true h] at this
theorem in_i_f (x lo hi : Int) (w : World) (h : ¬ (lo ≤ x ∧ x ≤ hi)) : Calls Try.prog 60 #[.int .i64 x, .int .i64 lo, .int .i64 hi] w (fD false w) := by
 have := in_i x lo hi w
 rwa [decide_eq_false h] at this
end Go.Proofs.YtdfipdpeilegpaaFam
namespace Go.Proofs.YtdfipdpeilegpaaSep
open Go.ChangeShapes Go.WideShapes Go.RowKit
section
variable {P : Program} {ops : Array Oper} {Q : Exit → Act → World → Prop} {md : Region.Mode} {S : World → Prop} {t : Nat}
theorem bW {i d n : Nat} {x : Nat → Value} {live : List (Nat × Value)} {dst : Option Nat} {op : Op} {ty : Nat} {pos : String} {aft : Array Edge} {v : Value} {fuel : Nat} {listed : Array Bool} {w : World} {j dj : Nat} {want : Bool} {oj : Oper} (hi : ops[i]? = some ⟨dst, op, ty, pos, aft, some (j, want)⟩)
 (hj : ops[j]? = some oj) (hdj : oj.dst = some dj) (hv : evl n live (.tmp dj) = some (.bool want))
 (hs : Region.noSelect ops = true) (hf : Region.free md ops listed i = true) (hr : (Region.ready md ops listed).contains i = true) (hw : waits md ops t i = true) (ht : listed.getD t false = false)
 (hQ : ∀ c a w, Q (.panic c) (a.put dst v) w → Q (.panic c) a w) (hd : dst = some d) (hdn : decide (d < n) = true) (hS : S w) (hy : ∀ W, S W → Rn P ⟨dst, op, ty, pos, aft, none⟩ (bH n x live) W v)
 (h : wpAnyS P md ops Q S t fuel (listed.setIfInBounds i true) (bH n x ((d, v) :: live)) w) : wpAnyS P md ops Q S t (fuel + 1) listed (bH n x live) w := by
 subst hd
 exact anyS_first hi (Region.noSelect_spec hs) hw hQ fuel listed _ w (Region.free_spec hi hf) (by simpa using hr) (.inl ⟨by rw [wanted_G rfl hj hdj hv]; simp, fun W hSW => hy W hSW⟩) hS ht (by rw [gQ (of_decide_eq_true hdn)]; exact h)
theorem jQ {i d n : Nat} {x : Nat → Value} {live : List (Nat × Value)} {dst : Option Nat} {op : Op} {ty : Nat} {pos : String} {aft : Array Edge} {fuel : Nat} {listed : Array Bool} {w : World} {j dj : Nat} {want b : Bool} {oj : Oper} (hi : ops[i]? = some ⟨dst, op, ty, pos, aft, some (j, want)⟩)
 (hj : ops[j]? = some oj) (hdj : oj.dst = some dj) (hv : evl n live (.tmp dj) = some (.bool b)) (hb : (b == want) = false)
 (hs : Region.noSelect ops = true) (hf : Region.free md ops listed i = true) (hr : (Region.ready md ops listed).contains i = true) (hw : waits md ops t i = true) (ht : listed.getD t false = false)
 (hQ : ∀ c a w, Q (.panic c) (a.put dst undef) w → Q (.panic c) a w) (hd : dst = some d) (hdn : decide (d < n) = true) (hS : S w)
 (h : wpAnyS P md ops Q S t fuel (listed.setIfInBounds i true) (bH n x ((d, undef) :: live)) w) : wpAnyS P md ops Q S t (fuel + 1) listed (bH n x live) w := by
 subst hd
 exact anyS_first hi (Region.noSelect_spec hs) hw hQ fuel listed _ w (Region.free_spec hi hf) (by simpa using hr) (.inr ⟨by rw [wanted_G rfl hj hdj hv, hb], rfl⟩) hS ht (by rw [gQ (of_decide_eq_true hdn)]; exact h)
end
section
variable {P : Program} {n ty : Nat} {x : Nat → Value} {live : List (Nat × Value)} {W : World} {pos : String} {aft : Array Edge} {y z : Operand} {dst : Option Nat} {xt yt e : Nat}
theorem rn_eqlNilF {a : Addr} (hu : ∀ w, (underlying xt).run P w = .ok (.pointer e) w) (hx : evl n live y = some (.pointer (some a))) (hz : evl n live z = some (.pointer none)) : Rn P ⟨dst, .binOp .eql xt y z yt, ty, pos, aft, none⟩ (bH n x live) W (.bool false) := by
 unfold Rn
 have e1 : Op.equal xt (.pointer (some a)) (.pointer none) = Op.equalIn (9999 + 1) xt (.pointer (some a)) (.pointer none) := rfl
 have e2 : (Op.equal xt (.pointer (some a)) (.pointer none)).run P W = .ok false W := by
  rw [e1, Op.equalIn]
  simp [hu]
 simp [execOp, dM hx, dM hz, eqGuard_at_pointer, binOp, e2]
theorem rn_eqlNilT (hu : ∀ w, (underlying xt).run P w = .ok (.pointer e) w) (hx : evl n live y = some (.pointer none)) (hz : evl n live z = some (.pointer none)) : Rn P ⟨dst, .binOp .eql xt y z yt, ty, pos, aft, none⟩ (bH n x live) W (.bool true) := by
 unfold Rn
 have e1 : Op.equal xt (.pointer none) (.pointer none) = Op.equalIn (9999 + 1) xt (.pointer none) (.pointer none) := rfl
 have e2 : (Op.equal xt (.pointer none) (.pointer none)).run P W = .ok true W := by
  rw [e1, Op.equalIn]
  simp [hu]
 simp [execOp, dM hx, dM hz, eqGuard_at_pointer, binOp, e2]
theorem C_elemA {α : Type} {d : Kn α} {w : World} {ad : Addr} {xs : List α} (h : C d w (some ad) xs) (i : Nat) (hi : i < xs.length) : ∃ cs, d.K w xs[i] cs ∧ Cat w (ad.add (i * d.sz)) cs := by
 obtain ⟨ad', cs, hA, hK, hc⟩ := fT h i hi
 cases hA
 exact ⟨cs, hK, hc⟩
end
end Go.Proofs.YtdfipdpeilegpaaSep
namespace Go.Proofs.YtdfipdpeilegpaaFam
open Go.ChangeShapes Go.WideShapes Go.RowKit Go.Proofs.YtdfipdpeilegpaaSep Go.Proofs.YtdfipdpeilegpaaT Go.Proofs.YtdfipdpeilegpaaK
set_option linter.unusedVariables false
set_option linter.unusedSimpArgs false
attribute [local irreducible] wpOps wpOp
set_option maxHeartbeats 4000000
set_option maxRecDepth 100000
def gX (l : List GEntity) : Nat → Int → Int → GValue
 | 0, _, _ => ⟨2, 0⟩
 | n + 1, k, m => if k = 1 ∧ 0 ≤ m ∧ m < (l.length : Int) then (if (l.getD m.toNat zEntity).Kind = 2 ∧ (l.getD m.toNat zEntity).State = 2 then gX l n (l.getD m.toNat zEntity).Value.Kind (l.getD m.toNat zEntity).Value.N else ⟨k, m⟩) else ⟨k, m⟩
theorem look_out (l : List GEntity) (n : Nat) (k m : Int) (h : ¬ (k = 1 ∧ 0 ≤ m ∧ m < (l.length : Int))) : gX l (n + 1) k m = ⟨k, m⟩ := by
 rw [gX, if_neg h]
theorem look_stop (l : List GEntity) (n : Nat) (q : Nat) (hq : q < l.length) (h : ¬ (l[q].Kind = 2 ∧ l[q].State = 2)) : gX l (n + 1) 1 (q : Int) = ⟨1, (q : Int)⟩ := by
 have hd : l.getD q zEntity = l[q] := by simp [List.getD, hq]
 rw [gX, if_pos ⟨rfl, by omega, by omega⟩, Int.toNat_natCast, hd, if_neg h]
theorem look_next (l : List GEntity) (n : Nat) (q : Nat) (hq : q < l.length) (h : l[q].Kind = 2 ∧ l[q].State = 2) : gX l (n + 1) 1 (q : Int) = gX l n l[q].Value.Kind l[q].Value.N := by
 have hd : l.getD q zEntity = l[q] := by simp [List.getD, hq]
 rw [gX, if_pos ⟨rfl, by omega, by omega⟩, Int.toNat_natCast, hd, if_pos h]
theorem brokenValue_s (w : World) : Calls Try.prog 84 #[] w (fun e w' => e = .returned (.agg #[.int .i64 2, .int .i64 0]) ∧ Upd No w w') := by
 refine enter 2 [] Try.func84 rfl kR ?_
 intro xj
 have H1 : St w No [] w := St.enter
 refine wp_seq ?_
 refine aN [0] rfl ?_
 refine aA ?_
 refine bP rfl Try.zeroValue70 rfl rfl H1 ?_
 intro g_0_0 W2 hu3 Ha4; clear H1; clear hu3
 refine aI ?_
 refine aK ?_
 refine wp_seq ?_
 refine aN [0, 1] rfl ?_
 refine aA ?_
 refine aB rfl (dS (vs := [(0, .int .i64 (2))]) (cells := #[.int .i64 (2), .int .i64 (0)]) rfl kR) rfl rfl ?_
 refine aA ?_
 refine bG rfl Try.sizeOf70 rfl rfl rfl rfl kS Ha4 ?_
 intro W6 hu7 Ha8; clear Ha4; clear hu7
 refine aI ?_
 refine aK ?_
 refine wp_ret ?_
 refine dI (.inl rfl) Try.results84 Try.isAgg70 Try.sizeOf70 rfl (Ha8.blk 0 rfl) rfl ?_
 exact ⟨rfl, Ha8.1⟩
theorem brokenValue_i (w : World) : Calls Try.prog 128 #[] w (fun e w' => e = .returned (.agg #[.int .i64 2, .int .i64 0]) ∧ Upd No w w') := by
 refine enter 2 [] Try.func128 rfl kR ?_
 intro xj
 have H1 : St w No [] w := St.enter
 refine wp_seq ?_
 refine aN [0] rfl ?_
 refine aA ?_
 refine bP rfl Try.zeroValue70 rfl rfl H1 ?_
 intro g_0_0 W2 hu3 Ha4; clear H1; clear hu3
 refine aI ?_
 refine aK ?_
 refine wp_seq ?_
 refine aN [0, 1] rfl ?_
 refine aA ?_
 refine aB rfl (dS (vs := [(0, .int .i64 (2))]) (cells := #[.int .i64 (2), .int .i64 (0)]) rfl kR) rfl rfl ?_
 refine aA ?_
 refine bG rfl Try.sizeOf70 rfl rfl rfl rfl kS Ha4 ?_
 intro W6 hu7 Ha8; clear Ha4; clear hu7
 refine aI ?_
 refine aK ?_
 refine wp_ret ?_
 refine dI (.inl rfl) Try.results128 Try.isAgg70 Try.sizeOf70 rfl (Ha8.blk 0 rfl) rfl ?_
 exact ⟨rfl, Ha8.1⟩
theorem look_s (x : GVat) (k0 n0 : Int) (cs : List Value) (hl : x.aC.length ≤ 4194304) (w : World) (h : bK.K w x cs) : Calls Try.prog 33 #[.agg cs.toArray, .agg #[.int .i64 k0, .int .i64 n0]] w (fun e w' => e = .returned (.agg #[.int .i64 (gX x.aC (x.aC.length + 1) k0 n0).Kind, .int .i64 (gX x.aC (x.aC.length + 1) k0 n0).N]) ∧ Upd No w w') := by
 obtain ⟨Ax1, cx1, Ax2, cx2, Ax3, cx3, Ax4, cx4, rfl, hlx1, hCx1, hlx2, hCx2, hlx3, hCx3, hlx4, hCx4⟩ := lC h
 refine enter 46 [(0, .agg #[.int .i64 (x.Id), .slice Ax1 x.aC.length cx1, .slice Ax2 x.Loop.length cx2, .slice Ax3 x.aJ.length cx3, .slice Ax4 x.Out.length cx4]), (1, .agg #[.int .i64 (k0), .int .i64 (n0)])] Try.func33 rfl kR ?_
 intro xj
 have H1 : St w No [] w := St.enter
 refine wp_seq ?_
 refine aN [0, 1, 2] rfl ?_
 refine aA ?_
 refine fJ rfl rfl rfl rfl H1 ?_
 intro g_0_0 W2 hu3 Ha4; clear H1; clear hu3
 refine aA ?_
 refine fJ rfl rfl rfl rfl Ha4 ?_
 intro g_0_1 W6 hu7 Ha8; clear Ha4; clear hu7
 refine aA ?_
 refine bP rfl Try.zeroValue70 rfl rfl Ha8 ?_
 intro g_0_2 W10 hu11 Ha12; clear Ha8; clear hu11
 refine aI ?_
 refine aK ?_
 refine wp_seq ?_
 refine wp_seq ?_
 refine aN [0] rfl ?_
 refine aA ?_
 refine aB rfl (aR rfl) rfl rfl ?_
 refine aI ?_
 refine aK ?_
 refine wp_block ?_
 refine wp_loop_ghost (fun r a' W' => ∃ (i1 : Nat) (vk : Int) (vn : Int) (x' : Nat → Value), a' = bH 46 x' [(2, .pointer (some ⟨g_0_0, 0, none⟩)), (3, .pointer (some ⟨g_0_1, 0, none⟩)), (4, .pointer (some ⟨g_0_2, 0, none⟩)), (5, .int .i64 (((i1 : Nat) : Int)))] ∧ (i1 + r = x.aC.length + 1) ∧ (gX x.aC (x.aC.length + 1) k0 n0 = gX x.aC (x.aC.length + 1 - i1) vk vn) ∧ St w No [hB g_0_2 70 #[.int .i64 (0), .int .i64 (0)], hB g_0_1 70 #[.int .i64 (vk), .int .i64 (vn)], hB g_0_0 69 #[.int .i64 (x.Id), .slice Ax1 x.aC.length cx1, .slice Ax2 x.Loop.length cx2, .slice Ax3 x.aJ.length cx3, .slice Ax4 x.Out.length cx4]] W') (x.aC.length + 1) ?_ ?_
 ·exact (aZ [(2, .pointer (some ⟨g_0_0, 0, none⟩)), (3, .pointer (some ⟨g_0_1, 0, none⟩)), (4, .pointer (some ⟨g_0_2, 0, none⟩)), (5, .int .i64 (((0 : Nat) : Int)))] rfl).elim fun x' hx => ⟨0, k0, n0, x', hx, kO, rfl, Ha12⟩
 ·rintro r14 _ W15 ⟨i1, vk, vn, x16, rfl, hi1, hf1, H17⟩; clear Ha12
  refine wp_seq ?_
  refine wp_seq ?_
  refine aN [0, 1, 2, 3, 4] rfl ?_
  refine aA ?_
  refine aB rfl (aF rfl) rfl rfl ?_
  refine aA ?_
  refine aB rfl (aU eD rfl) rfl rfl ?_
  refine aA ?_
  refine aB rfl (bB (k := 1) (v := .slice Ax1 x.aC.length cx1) Try.isAgg64 rfl (H17.blk 2 rfl) rfl) rfl rfl ?_
  refine aA ?_
  refine aB rfl (dP Try.runUnderlying64 rfl) rfl rfl ?_
  refine aA ?_
  refine aB rfl (rn_leq rfl rfl) rfl rfl ?_
  refine aI ?_
  refine aK ?_
  refine dB rfl (fun hc18 => ?_) (fun hc18 => ?_)
  ·have hlt1 : i1 ≤ x.aC.length := by omega
   obtain ⟨fu, hfu⟩ : ∃ fu, x.aC.length + 1 - i1 = fu + 1 := ⟨x.aC.length - i1, by omega⟩
   rw [hfu] at hf1
   refine wp_skip ?_
   refine aK ?_
   refine wp_seq ?_
   refine wp_block ?_
   refine wp_seq ?_
   refine wp_seq ?_
   refine aN [0, 1, 2, 3, 4, 5, 6, 7, 8, 9, 10, 11, 12] rfl ?_
   refine aA ?_
   refine aB rfl (aU fa_70_0 rfl) rfl rfl ?_
   refine aA ?_
   refine aB rfl (bB (k := 0) (v := .int .i64 (vk)) Try.isAgg3 rfl (H17.blk 1 rfl) rfl) rfl rfl ?_
   by_cases hg19 : ¬ (vk : Int) = 1
   ·refine aA ?_
    refine aB rfl (bX hg19 (gH rfl rfl)) rfl rfl ?_
    refine aA ?_
    refine aB rfl (aF rfl) rfl rfl ?_
    refine aA ?_
    refine aD rfl rfl rfl rfl rfl rfl rfl ?_
    refine aA ?_
    refine aD rfl rfl rfl rfl rfl rfl rfl ?_
    refine aA ?_
    refine aD rfl rfl rfl rfl rfl rfl rfl ?_
    refine aA ?_
    refine aD rfl rfl rfl rfl rfl rfl rfl ?_
    refine aA ?_
    refine aD rfl rfl rfl rfl rfl rfl rfl ?_
    refine aA ?_
    refine aD rfl rfl rfl rfl rfl rfl rfl ?_
    refine aA ?_
    refine aD rfl rfl rfl rfl rfl rfl rfl ?_
    refine aA ?_
    refine aD rfl rfl rfl rfl rfl rfl rfl ?_
    refine aA ?_
    refine aB rfl (aX (v := .bool (true)) (b := true) rfl rfl rfl rfl) rfl rfl ?_
    refine aI ?_
    refine aK ?_
    refine fK rfl ?_
    refine wp_seq ?_
    refine aN [0, 1] rfl ?_
    refine aA ?_
    refine aB rfl (bN Try.isAgg70 Try.sizeOf70 rfl (H17.blk 1 rfl) rfl) rfl rfl ?_
    refine aA ?_
    refine bG rfl Try.sizeOf70 rfl rfl rfl rfl kS H17 ?_
    intro W20 hu21 Ha22; clear H17; clear hu21
    refine aI ?_
    refine aK ?_
    refine wp_ret ?_
    refine bY ?_
    refine gJ ?_
    refine bY ?_
    refine bY ?_
    refine gJ ?_
    refine bY ?_
    have hr : gX x.aC (x.aC.length + 1) k0 n0 = ⟨vk, vn⟩ := hf1.trans (look_out x.aC fu vk vn kO)
    refine dI (.inl rfl) Try.results33 Try.isAgg70 Try.sizeOf70 rfl (Ha22.blk 0 rfl) rfl ?_
    rw [hr]
    exact ⟨rfl, Ha22.1⟩
   ·refine aA ?_
    refine aB rfl (bZ hg19 (gH rfl rfl)) rfl rfl ?_
    refine aA ?_
    refine aB rfl (aF rfl) rfl rfl ?_
    refine aA ?_
    refine bL rfl rfl rfl rfl (fun _ ho24 => ?_)
    refine aB ho24 (aU fa_70_1 rfl) rfl rfl ?_
    refine aA ?_
    refine bL rfl rfl rfl rfl (fun _ ho25 => ?_)
    refine aB ho25 (bB (k := 1) (v := .int .i64 (vn)) Try.isAgg3 rfl (H17.blk 1 rfl) rfl) rfl rfl ?_
    refine aA ?_
    refine bL rfl rfl rfl rfl (fun _ ho26 => ?_)
    refine aB ho26 (aU eD rfl) rfl rfl ?_
    refine aA ?_
    refine bL rfl rfl rfl rfl (fun _ ho27 => ?_)
    refine aB ho27 (bB (k := 1) (v := .slice Ax1 x.aC.length cx1) Try.isAgg64 rfl (H17.blk 2 rfl) rfl) rfl rfl ?_
    refine aA ?_
    refine bL rfl rfl rfl rfl (fun _ ho28 => ?_)
    refine aB ho28 (dP Try.runUnderlying64 rfl) rfl rfl ?_
    refine aA ?_
    refine bL rfl rfl rfl rfl (fun _ ho29 => ?_)
    refine aB ho29 (kF rfl rfl kO) rfl rfl ?_
    by_cases hg30 : (decide (0 ≤ vn ∧ vn ≤ ((x.aC.length : Nat) - 1))) = true
    ·refine aA ?_
     refine bL rfl rfl rfl rfl (fun _ ho31 => ?_)
     refine bC ho31 Try.call61 (vs := #[.int .i64 (vn), .int .i64 (0), .int .i64 (((x.aC.length : Nat) - 1))]) rfl rfl rfl (iF (l1In_s vn 0 ((x.aC.length : Nat) - 1) _) hg30) ?_
     rintro e34 W33 ⟨rfl, hu32⟩; refine ⟨_, rfl, ?_⟩
     have H35 := H17.no hu32; clear H17
     refine aA ?_
     refine bL rfl rfl rfl rfl (fun _ ho36 => ?_)
     refine aB ho36 (jW rfl) rfl rfl ?_
     refine aA ?_
     refine aB rfl (aX (v := .bool (false)) (b := false) rfl rfl rfl rfl) rfl rfl ?_
     refine aI ?_
     refine aK ?_
     refine fA rfl ?_
     refine wp_skip ?_
     refine aK ?_
     refine wp_seq ?_
     have hin := of_decide_eq_true hg30
     obtain ⟨kq, rfl⟩ : ∃ kq : Nat, vn = kq := ⟨vn.toNat, by omega⟩
     have hkq : kq < x.aC.length := by omega
     obtain rfl : vk = 1 := by omega
     obtain ⟨ade37, cse37, hAe37, hKe37, hce37⟩ := fT hCx1 kq hkq
     have hle37 := cO hKe37
     have hoe37 := fF hKe37
     obtain ⟨Aade37_2, cade37_2, Aade37_6, cade37_6, Aade37_7, cade37_7, rfl, hlade37_2, hCade37_2, hlade37_6, hCade37_6, hlade37_7, hCade37_7⟩ := jT hKe37
     refine aN [0, 1, 2, 3, 4, 5, 6, 7] rfl ?_
     refine aA ?_
     refine aB rfl (aU eD rfl) rfl rfl ?_
     refine aA ?_
     refine aB rfl (bB (k := 1) (v := .slice Ax1 x.aC.length cx1) Try.isAgg64 rfl (H35.blk 2 rfl) rfl) rfl rfl ?_
     refine aA ?_
     refine aB rfl (aU fa_70_1 rfl) rfl rfl ?_
     refine aA ?_
     refine aB rfl (bB (k := 1) (v := .int .i64 (((kq : Nat) : Int))) Try.isAgg3 rfl (H35.blk 1 rfl) rfl) rfl rfl ?_
     refine aA ?_
     refine aB rfl (bQ (k := kq) Try.runUnderlying64 Try.sizeOf77 rfl rfl hAe37 hkq) rfl rfl ?_
     refine aA ?_
     refine aB rfl (dR Try.isAgg77 Try.sizeOf77 rfl (Cat.upd hce37 H35.1) rfl) rfl rfl ?_
     refine aA ?_
     refine bP rfl Try.zeroValue77 rfl rfl H35 ?_
     intro g_6_6 W38 hu39 Ha40; clear H35; clear hu39
     refine aA ?_
     refine bG rfl Try.sizeOf77 rfl rfl rfl rfl kS Ha40 ?_
     intro W42 hu43 Ha44; clear Ha40; clear hu43
     refine aI ?_
     refine aK ?_
     refine wp_seq ?_
     refine wp_seq ?_
     refine aN [0, 1, 2, 3, 4, 5, 6, 7] rfl ?_
     refine aA ?_
     refine aB rfl (aU fa_77_0 rfl) rfl rfl ?_
     refine aA ?_
     refine aB rfl (bB (k := 0) (v := .int .i64 (x.aC[kq].Kind)) Try.isAgg3 rfl (Ha44.blk 0 rfl) rfl) rfl rfl ?_
     by_cases hg46 : ¬ ((x.aC[kq].Kind) : Int) = 2
     ·refine aA ?_
      refine aB rfl (bX hg46 (gH rfl rfl)) rfl rfl ?_
      refine aA ?_
      refine aB rfl (aF rfl) rfl rfl ?_
      refine aA ?_
      refine aD rfl rfl rfl rfl rfl rfl rfl ?_
      refine aA ?_
      refine aD rfl rfl rfl rfl rfl rfl rfl ?_
      refine aA ?_
      refine aD rfl rfl rfl rfl rfl rfl rfl ?_
      refine aA ?_
      refine aB rfl (aX (v := .bool (true)) (b := true) rfl rfl rfl rfl) rfl rfl ?_
      refine aI ?_
      refine aK ?_
      refine fK rfl ?_
      refine wp_seq ?_
      refine aN [0, 1] rfl ?_
      refine aA ?_
      refine aB rfl (bN Try.isAgg70 Try.sizeOf70 rfl (Ha44.blk 2 rfl) rfl) rfl rfl ?_
      refine aA ?_
      have H50 : St w No [hB g_0_2 70 #[.int .i64 (0), .int .i64 (0)], hB g_6_6 77 #[.int .i64 (x.aC[kq].Kind), .int .i64 (x.aC[kq].Script), .slice Aade37_2 (x.aC[kq].aM.length) cade37_2, .int .i64 (x.aC[kq].State), .int .i64 (x.aC[kq].Value.Kind), .int .i64 (x.aC[kq].Value.N), .slice Aade37_6 (x.aC[kq].Queue.length) cade37_6, .slice Aade37_7 (x.aC[kq].aG.length) cade37_7, .int .i64 (x.aC[kq].bD), .int .i64 (x.aC[kq].Pos), .int .i64 (x.aC[kq].Count), .int .i64 (x.aC[kq].bJ)], hB g_0_1 70 #[.int .i64 (1), .int .i64 (((kq : Nat) : Int))], hB g_0_0 69 #[.int .i64 (x.Id), .slice Ax1 x.aC.length cx1, .slice Ax2 x.Loop.length cx2, .slice Ax3 x.aJ.length cx3, .slice Ax4 x.Out.length cx4]] W42 := Ha44.pick [1, 0, 2, 3] kD rfl; clear Ha44
      refine bG rfl Try.sizeOf70 rfl rfl rfl rfl kS H50 ?_
      intro W47 hu48 Ha49; clear H50; clear hu48
      refine aI ?_
      refine aK ?_
      refine wp_ret ?_
      refine bY ?_
      refine gJ ?_
      refine bY ?_
      refine bY ?_
      refine gJ ?_
      refine bY ?_
      have hr : gX x.aC (x.aC.length + 1) k0 n0 = ⟨1, ((kq : Nat) : Int)⟩ := hf1.trans (look_stop x.aC fu kq hkq kO)
      refine dI (.inl rfl) Try.results33 Try.isAgg70 Try.sizeOf70 rfl (Ha49.blk 0 rfl) rfl ?_
      rw [hr]
      exact ⟨rfl, Ha49.1⟩
     ·refine aA ?_
      refine aB rfl (bZ hg46 (gH rfl rfl)) rfl rfl ?_
      refine aA ?_
      refine aB rfl (aF rfl) rfl rfl ?_
      refine aA ?_
      refine bL rfl rfl rfl rfl (fun _ ho52 => ?_)
      refine aB ho52 (aU fV rfl) rfl rfl ?_
      refine aA ?_
      refine bL rfl rfl rfl rfl (fun _ ho53 => ?_)
      refine aB ho53 (bB (k := 3) (v := .int .i64 (x.aC[kq].State)) Try.isAgg3 rfl (Ha44.blk 0 rfl) rfl) rfl rfl ?_
      by_cases hg54 : ¬ ((x.aC[kq].State) : Int) = 2
      ·refine aA ?_
       refine bL rfl rfl rfl rfl (fun _ ho55 => ?_)
       refine aB ho55 (bX hg54 (gH rfl rfl)) rfl rfl ?_
       refine aA ?_
       refine aB rfl (aX (v := .bool (true)) (b := false) rfl rfl rfl rfl) rfl rfl ?_
       refine aI ?_
       refine aK ?_
       refine fK rfl ?_
       refine wp_seq ?_
       refine aN [0, 1] rfl ?_
       refine aA ?_
       refine aB rfl (bN Try.isAgg70 Try.sizeOf70 rfl (Ha44.blk 2 rfl) rfl) rfl rfl ?_
       refine aA ?_
       have H59 : St w No [hB g_0_2 70 #[.int .i64 (0), .int .i64 (0)], hB g_6_6 77 #[.int .i64 (x.aC[kq].Kind), .int .i64 (x.aC[kq].Script), .slice Aade37_2 (x.aC[kq].aM.length) cade37_2, .int .i64 (x.aC[kq].State), .int .i64 (x.aC[kq].Value.Kind), .int .i64 (x.aC[kq].Value.N), .slice Aade37_6 (x.aC[kq].Queue.length) cade37_6, .slice Aade37_7 (x.aC[kq].aG.length) cade37_7, .int .i64 (x.aC[kq].bD), .int .i64 (x.aC[kq].Pos), .int .i64 (x.aC[kq].Count), .int .i64 (x.aC[kq].bJ)], hB g_0_1 70 #[.int .i64 (1), .int .i64 (((kq : Nat) : Int))], hB g_0_0 69 #[.int .i64 (x.Id), .slice Ax1 x.aC.length cx1, .slice Ax2 x.Loop.length cx2, .slice Ax3 x.aJ.length cx3, .slice Ax4 x.Out.length cx4]] W42 := Ha44.pick [1, 0, 2, 3] kD rfl; clear Ha44
       refine bG rfl Try.sizeOf70 rfl rfl rfl rfl kS H59 ?_
       intro W56 hu57 Ha58; clear H59; clear hu57
       refine aI ?_
       refine aK ?_
       refine wp_ret ?_
       refine bY ?_
       refine gJ ?_
       refine bY ?_
       refine bY ?_
       refine gJ ?_
       refine bY ?_
       have hr : gX x.aC (x.aC.length + 1) k0 n0 = ⟨1, ((kq : Nat) : Int)⟩ := hf1.trans (look_stop x.aC fu kq hkq kO)
       refine dI (.inl rfl) Try.results33 Try.isAgg70 Try.sizeOf70 rfl (Ha58.blk 0 rfl) rfl ?_
       rw [hr]
       exact ⟨rfl, Ha58.1⟩
      ·refine aA ?_
       refine bL rfl rfl rfl rfl (fun _ ho61 => ?_)
       refine aB ho61 (bZ hg54 (gH rfl rfl)) rfl rfl ?_
       refine aA ?_
       refine aB rfl (aX (v := .bool (false)) (b := false) rfl rfl rfl rfl) rfl rfl ?_
       refine aI ?_
       refine aK ?_
       refine fA rfl ?_
       refine wp_skip ?_
       refine aK ?_
       have hk2 : x.aC[kq].Kind = 2 := by omega
       have hs2 : x.aC[kq].State = 2 := by omega
       refine aN [0, 1, 2] rfl ?_
       refine aA ?_
       refine aB rfl (aU kI rfl) rfl rfl ?_
       refine aA ?_
       refine aB rfl (iL (sub := #[.int .i64 (x.aC[kq].Value.Kind), .int .i64 (x.aC[kq].Value.N)]) Try.isAgg70 Try.sizeOf70 rfl (Ha44.blk 0 rfl) rfl rfl) rfl rfl ?_
       refine aA ?_
       have H65 : St w No [hB g_0_1 70 #[.int .i64 (1), .int .i64 (((kq : Nat) : Int))], hB g_6_6 77 #[.int .i64 (x.aC[kq].Kind), .int .i64 (x.aC[kq].Script), .slice Aade37_2 (x.aC[kq].aM.length) cade37_2, .int .i64 (x.aC[kq].State), .int .i64 (x.aC[kq].Value.Kind), .int .i64 (x.aC[kq].Value.N), .slice Aade37_6 (x.aC[kq].Queue.length) cade37_6, .slice Aade37_7 (x.aC[kq].aG.length) cade37_7, .int .i64 (x.aC[kq].bD), .int .i64 (x.aC[kq].Pos), .int .i64 (x.aC[kq].Count), .int .i64 (x.aC[kq].bJ)], hB g_0_2 70 #[.int .i64 (0), .int .i64 (0)], hB g_0_0 69 #[.int .i64 (x.Id), .slice Ax1 x.aC.length cx1, .slice Ax2 x.Loop.length cx2, .slice Ax3 x.aJ.length cx3, .slice Ax4 x.Out.length cx4]] W42 := Ha44.pick [2, 0, 1, 3] kD rfl; clear Ha44
       refine bG rfl Try.sizeOf70 rfl rfl rfl rfl kS H65 ?_
       intro W62 hu63 Ha64; clear H65; clear hu63
       refine aI ?_
       refine eP ?_
       refine aK ?_
       refine aN [0, 1, 2] rfl ?_
       refine aA ?_
       refine aB rfl (aF rfl) rfl rfl ?_
       refine aA ?_
       refine aB rfl (gT (k := i1) rfl rfl kO) rfl rfl ?_
       refine aA ?_
       refine aB rfl (aR rfl) rfl rfl ?_
       refine aI ?_
       refine aK ?_
       exact (aZ [(2, .pointer (some ⟨g_0_0, 0, none⟩)), (3, .pointer (some ⟨g_0_1, 0, none⟩)), (4, .pointer (some ⟨g_0_2, 0, none⟩)), (5, .int .i64 (((i1 + 1 : Nat) : Int)))] rfl).elim fun x' hx => ⟨r14 - 1, kO, i1 + 1, (x.aC[kq].Value.Kind), (x.aC[kq].Value.N), x', hx, kO, (by rw [hf1, look_next x.aC fu kq hkq ⟨hk2, hs2⟩, show x.aC.length + 1 - (i1 + 1) = fu by omega]), Ha64.pick [2, 0, 3] kD rfl⟩
    ·refine aA ?_
     refine bL rfl rfl rfl rfl (fun _ ho67 => ?_)
     refine bC ho67 Try.call61 (vs := #[.int .i64 (vn), .int .i64 (0), .int .i64 (((x.aC.length : Nat) - 1))]) rfl rfl rfl (iF (l1In_s vn 0 ((x.aC.length : Nat) - 1) _) (eq_false_of_ne_true hg30)) ?_
     rintro e70 W69 ⟨rfl, hu68⟩; refine ⟨_, rfl, ?_⟩
     have H71 := H17.no hu68; clear H17
     refine aA ?_
     refine bL rfl rfl rfl rfl (fun _ ho72 => ?_)
     refine aB ho72 (jW rfl) rfl rfl ?_
     refine aA ?_
     refine aB rfl (aX (v := .bool (true)) (b := false) rfl rfl rfl rfl) rfl rfl ?_
     refine aI ?_
     refine aK ?_
     refine fK rfl ?_
     refine wp_seq ?_
     refine aN [0, 1] rfl ?_
     refine aA ?_
     refine aB rfl (bN Try.isAgg70 Try.sizeOf70 rfl (H71.blk 1 rfl) rfl) rfl rfl ?_
     refine aA ?_
     refine bG rfl Try.sizeOf70 rfl rfl rfl rfl kS H71 ?_
     intro W73 hu74 Ha75; clear H71; clear hu74
     refine aI ?_
     refine aK ?_
     refine wp_ret ?_
     refine bY ?_
     refine gJ ?_
     refine bY ?_
     refine bY ?_
     refine gJ ?_
     refine bY ?_
     have hr : gX x.aC (x.aC.length + 1) k0 n0 = ⟨vk, vn⟩ := hf1.trans (look_out x.aC fu vk vn (by intro hq; exact hg30 (decide_eq_true kO)))
     refine dI (.inl rfl) Try.results33 Try.isAgg70 Try.sizeOf70 rfl (Ha75.blk 0 rfl) rfl ?_
     rw [hr]
     exact ⟨rfl, Ha75.1⟩
  ·have hge1 : x.aC.length + 1 ≤ i1 := by omega
   have hz : x.aC.length + 1 - i1 = 0 := by omega
   rw [hz] at hf1
   refine wp_exit ?_
   refine dX ?_
   refine dX ?_
   refine iH ?_
   refine aK ?_
   refine wp_seq ?_
   refine aN [0, 1] rfl ?_
   refine aA ?_
   refine bC rfl Try.call84 (vs := #[]) rfl rfl rfl (brokenValue_s _) ?_
   rintro e79 W78 ⟨rfl, hu77⟩; refine ⟨_, rfl, ?_⟩
   have H80 := H17.no hu77; clear H17
   refine aA ?_
   refine bG rfl Try.sizeOf70 rfl rfl rfl rfl kS H80 ?_
   intro W81 hu82 Ha83; clear H80; clear hu82
   refine aI ?_
   refine aK ?_
   refine wp_ret ?_
   have hr : gX x.aC (x.aC.length + 1) k0 n0 = ⟨2, 0⟩ := hf1
   refine dI (.inl rfl) Try.results33 Try.isAgg70 Try.sizeOf70 rfl (Ha83.blk 0 rfl) rfl ?_
   rw [hr]
   exact ⟨rfl, Ha83.1⟩
theorem entity_yes (le : List GEntity) (g cE : Nat) (AE : Option Addr) (u0 u2 u3 u4 : Value) (F0 : Nat → Prop) (w : World) (h : Star [hB g 69 #[u0, .slice AE le.length cE, u2, u3, u4], hR aL 77 (.slice AE le.length cE) le] w F0) (hne : le.length ≤ 4194304) (kq : Nat) (hkq : kq < le.length) : Calls Try.prog 127 #[.pointer (some ⟨g, 0, none⟩), .int .i64 (kq : Nat)] w (fun e' w' => ∃ a, AE = some a ∧ e' = .returned (.pointer (some (Addr.add a (kq * 12)))) ∧ St w F0 [hB g 69 #[u0, .slice AE le.length cE, u2, u3, u4], hR aL 77 (.slice AE le.length cE) le] w') := by
 refine enter 20 [(0, .pointer (some ⟨g, 0, none⟩)), (1, .int .i64 (((kq : Nat) : Int)))] Try.func127 rfl kR ?_
 intro xj
 have H1 : St w F0 [hB g 69 #[u0, .slice AE le.length cE, u2, u3, u4], hR aL 77 (.slice AE le.length cE) le] w := St.iA h
 refine wp_seq ?_
 refine aN [0] rfl ?_
 refine aA ?_
 refine aB rfl (aR rfl) rfl rfl ?_
 refine aI ?_
 refine aK ?_
 refine wp_seq ?_
 refine wp_seq ?_
 refine aN [0, 1, 2, 3, 4, 5, 6, 7, 8] rfl ?_
 refine aA ?_
 refine aB rfl (aF rfl) rfl rfl ?_
 refine aA ?_
 refine aB rfl (aF rfl) rfl rfl ?_
 refine aA ?_
 refine aB rfl (dA rfl) rfl rfl ?_
 refine aA ?_
 refine aB rfl (aU eD rfl) rfl rfl ?_
 refine aA ?_
 refine aB rfl (bB (k := 1) (v := .slice AE le.length cE) Try.isAgg64 rfl (H1.blk 0 rfl) rfl) rfl rfl ?_
 refine aA ?_
 refine aB rfl (dP Try.runUnderlying64 rfl) rfl rfl ?_
 refine aA ?_
 refine aB rfl (kF rfl rfl kO) rfl rfl ?_
 refine aA ?_
 refine bC rfl Try.call60 (vs := #[.int .i64 (((kq : Nat) : Int)), .int .i64 (0), .int .i64 (((le.length : Nat) - 1))]) rfl rfl rfl (in_i_t ((kq : Nat) : Int) 0 ((le.length : Nat) - 1) _ kO) ?_
 rintro e4 W3 ⟨rfl, hu2⟩; refine ⟨_, rfl, ?_⟩
 have H5 := H1.no hu2; clear H1
 refine aA ?_
 refine aB rfl (jW rfl) rfl rfl ?_
 refine aI ?_
 refine aK ?_
 refine fA rfl ?_
 refine wp_skip ?_
 refine aK ?_
 refine wp_seq ?_
 obtain ⟨ad, cse, hA, hKe, hce⟩ := fT (H5.fU 1 rfl) kq hkq
 refine aN [0, 1, 2, 3, 4, 5, 6] rfl ?_
 refine aA ?_
 refine aB rfl (aF rfl) rfl rfl ?_
 refine aA ?_
 refine aB rfl (dA rfl) rfl rfl ?_
 refine aA ?_
 refine aB rfl (aU eD rfl) rfl rfl ?_
 refine aA ?_
 refine aB rfl (bB (k := 1) (v := .slice AE le.length cE) Try.isAgg64 rfl (H5.blk 0 rfl) rfl) rfl rfl ?_
 refine aA ?_
 refine aB rfl (aF rfl) rfl rfl ?_
 refine aA ?_
 refine aB rfl (bQ (k := kq) Try.runUnderlying64 Try.sizeOf77 rfl rfl hA hkq) rfl rfl ?_
 refine aA ?_
 refine aB rfl (aR rfl) rfl rfl ?_
 refine aI ?_
 refine aK ?_
 refine wp_ret ?_
 refine bI (.inl rfl) Try.results127 rfl ?_
 exact ⟨_, hA, rfl, H5.pick [0, 1] kD rfl⟩
theorem entity_no (le : List GEntity) (g cE : Nat) (AE : Option Addr) (u0 u2 u3 u4 : Value) (F0 : Nat → Prop) (w : World) (h : Star [hB g 69 #[u0, .slice AE le.length cE, u2, u3, u4], hR aL 77 (.slice AE le.length cE) le] w F0) (hne : le.length ≤ 4194304) (m : Int) (hm : ¬ (0 ≤ m ∧ m < (le.length : Int))) : Calls Try.prog 127 #[.pointer (some ⟨g, 0, none⟩), .int .i64 m] w (fun e' w' => e' = .returned (.pointer none) ∧ St w F0 [hB g 69 #[u0, .slice AE le.length cE, u2, u3, u4], hR aL 77 (.slice AE le.length cE) le] w') := by
 refine enter 20 [(0, .pointer (some ⟨g, 0, none⟩)), (1, .int .i64 (m))] Try.func127 rfl kR ?_
 intro xj
 have H1 : St w F0 [hB g 69 #[u0, .slice AE le.length cE, u2, u3, u4], hR aL 77 (.slice AE le.length cE) le] w := St.iA h
 refine wp_seq ?_
 refine aN [0] rfl ?_
 refine aA ?_
 refine aB rfl (aR rfl) rfl rfl ?_
 refine aI ?_
 refine aK ?_
 refine wp_seq ?_
 refine wp_seq ?_
 refine aN [0, 1, 2, 3, 4, 5, 6, 7, 8] rfl ?_
 refine aA ?_
 refine aB rfl (aF rfl) rfl rfl ?_
 refine aA ?_
 refine aB rfl (aF rfl) rfl rfl ?_
 refine aA ?_
 refine aB rfl (dA rfl) rfl rfl ?_
 refine aA ?_
 refine aB rfl (aU eD rfl) rfl rfl ?_
 refine aA ?_
 refine aB rfl (bB (k := 1) (v := .slice AE le.length cE) Try.isAgg64 rfl (H1.blk 0 rfl) rfl) rfl rfl ?_
 refine aA ?_
 refine aB rfl (dP Try.runUnderlying64 rfl) rfl rfl ?_
 refine aA ?_
 refine aB rfl (kF rfl rfl kO) rfl rfl ?_
 refine aA ?_
 refine bC rfl Try.call60 (vs := #[.int .i64 (m), .int .i64 (0), .int .i64 (((le.length : Nat) - 1))]) rfl rfl rfl (in_i_f m 0 ((le.length : Nat) - 1) _ kO) ?_
 rintro e4 W3 ⟨rfl, hu2⟩; refine ⟨_, rfl, ?_⟩
 have H5 := H1.no hu2; clear H1
 refine aA ?_
 refine aB rfl (jW rfl) rfl rfl ?_
 refine aI ?_
 refine aK ?_
 refine fK rfl ?_
 refine wp_seq ?_
 refine aN [0] rfl ?_
 refine aA ?_
 refine aB rfl (aR rfl) rfl rfl ?_
 refine aI ?_
 refine aK ?_
 refine wp_ret ?_
 refine bY ?_
 refine bI (.inl rfl) Try.results127 rfl ?_
 exact ⟨rfl, H5.pick [0, 1] kD rfl⟩
theorem look_i (le : List GEntity) (k0 n0 : Int) (g cE : Nat) (AE : Option Addr) (u0 u2 u3 u4 : Value) (F0 : Nat → Prop) (w : World) (h : Star [hB g 69 #[u0, .slice AE le.length cE, u2, u3, u4], hR aL 77 (.slice AE le.length cE) le] w F0) (hne : le.length ≤ 4194304) : Calls Try.prog 83 #[.pointer (some ⟨g, 0, none⟩), .agg #[.int .i64 k0, .int .i64 n0]] w (fun e' w' => e' = .returned (.agg #[.int .i64 (gX le (le.length + 1) k0 n0).Kind, .int .i64 (gX le (le.length + 1) k0 n0).N]) ∧ St w F0 [hB g 69 #[u0, .slice AE le.length cE, u2, u3, u4], hR aL 77 (.slice AE le.length cE) le] w') := by
 refine enter 45 [(0, .pointer (some ⟨g, 0, none⟩)), (1, .agg #[.int .i64 (k0), .int .i64 (n0)])] Try.func83 rfl kR ?_
 intro xj
 have H1 : St w F0 [hB g 69 #[u0, .slice AE le.length cE, u2, u3, u4], hR aL 77 (.slice AE le.length cE) le] w := St.iA h
 refine wp_seq ?_
 refine aN [0, 1] rfl ?_
 refine aA ?_
 refine fJ rfl rfl rfl rfl H1 ?_
 intro g_0_0 W2 hu3 Ha4; clear H1; clear hu3
 refine aA ?_
 refine bP rfl Try.zeroValue70 rfl rfl Ha4 ?_
 intro g_0_1 W6 hu7 Ha8; clear Ha4; clear hu7
 refine aI ?_
 refine aK ?_
 refine wp_seq ?_
 refine wp_seq ?_
 refine aN [0, 1, 2, 3, 4, 5, 6] rfl ?_
 refine aA ?_
 refine aB rfl (aF rfl) rfl rfl ?_
 refine aA ?_
 refine aB rfl (dA rfl) rfl rfl ?_
 refine aA ?_
 refine aB rfl (aU eD rfl) rfl rfl ?_
 refine aA ?_
 refine aB rfl (bB (k := 1) (v := .slice AE le.length cE) Try.isAgg64 rfl (Ha8.blk 2 rfl) rfl) rfl rfl ?_
 refine aA ?_
 refine aB rfl (dP Try.runUnderlying64 rfl) rfl rfl ?_
 refine aA ?_
 refine aB rfl (gT (k := le.length) rfl rfl kO) rfl rfl ?_
 refine aA ?_
 refine aB rfl (aF rfl) rfl rfl ?_
 refine aI ?_
 refine aK ?_
 refine wp_block ?_
 refine wp_loop_ghost (fun r a' W' => ∃ (i1 : Nat) (vk : Int) (vn : Int) (x' : Nat → Value), a' = bH 45 x' [(0, .pointer (some ⟨g, 0, none⟩)), (3, .pointer (some ⟨g_0_0, 0, none⟩)), (4, .pointer (some ⟨g_0_1, 0, none⟩)), (11, .int .i64 (((le.length + 1 : Nat) : Int))), (12, .int .i64 (((i1 : Nat) : Int)))] ∧ (i1 + r = le.length + 1) ∧ (gX le (le.length + 1) k0 n0 = gX le (le.length + 1 - i1) vk vn) ∧ St w F0 [hB g_0_1 70 #[.int .i64 (0), .int .i64 (0)], hB g_0_0 70 #[.int .i64 (vk), .int .i64 (vn)], hB g 69 #[u0, .slice AE le.length cE, u2, u3, u4], hR aL 77 (.slice AE le.length cE) le] W') (le.length + 1) ?_ ?_
 ·exact (aZ [(0, .pointer (some ⟨g, 0, none⟩)), (3, .pointer (some ⟨g_0_0, 0, none⟩)), (4, .pointer (some ⟨g_0_1, 0, none⟩)), (11, .int .i64 (((le.length + 1 : Nat) : Int))), (12, .int .i64 (((0 : Nat) : Int)))] rfl).elim fun x' hx => ⟨0, k0, n0, x', hx, kO, rfl, Ha8⟩
 ·rintro r10 _ W11 ⟨i1, vk, vn, x12, rfl, hi1, hf1, H13⟩; clear Ha8
  refine wp_seq ?_
  refine aN [0] rfl ?_
  refine aA ?_
  refine aB rfl (gB rfl rfl) rfl rfl ?_
  refine aI ?_
  refine aK ?_
  refine wp_seq ?_
  refine dB rfl (fun hc14 => ?_) (fun hc14 => ?_)
  ·have hlt1 : i1 ≤ le.length := by omega
   obtain ⟨fu, hfu⟩ : ∃ fu, le.length + 1 - i1 = fu + 1 := ⟨le.length - i1, by omega⟩
   rw [hfu] at hf1
   refine wp_skip ?_
   refine aK ?_
   refine wp_seq ?_
   refine wp_block ?_
   refine wp_seq ?_
   refine wp_seq ?_
   refine aN [0, 1, 2] rfl ?_
   refine aA ?_
   refine aB rfl (aU fa_70_0 rfl) rfl rfl ?_
   refine aA ?_
   refine aB rfl (bB (k := 0) (v := .int .i64 (vk)) Try.isAgg3 rfl (H13.blk 1 rfl) rfl) rfl rfl ?_
   refine aA ?_
   refine aB rfl (gH rfl rfl) rfl rfl ?_
   refine aI ?_
   refine aK ?_
   refine dB rfl (fun hc15 => ?_) (fun hc15 => ?_)
   ·refine wp_seq ?_
    refine aN [0, 1] rfl ?_
    refine aA ?_
    refine aB rfl (bN Try.isAgg70 Try.sizeOf70 rfl (H13.blk 1 rfl) rfl) rfl rfl ?_
    refine aA ?_
    refine bG rfl Try.sizeOf70 rfl rfl rfl rfl kS H13 ?_
    intro W16 hu17 Ha18; clear H13; clear hu17
    refine aI ?_
    refine aK ?_
    refine wp_ret ?_
    refine bY ?_
    refine gJ ?_
    refine bY ?_
    refine bY ?_
    refine gJ ?_
    refine bY ?_
    have hr : gX le (le.length + 1) k0 n0 = ⟨vk, vn⟩ := hf1.trans (look_out le fu vk vn kO)
    refine dI (.inl rfl) Try.results83 Try.isAgg70 Try.sizeOf70 rfl (Ha18.blk 0 rfl) rfl ?_
    rw [hr]
    exact ⟨rfl, Ha18.pick [2, 3] kD rfl⟩
   ·refine wp_skip ?_
    refine aK ?_
    refine wp_seq ?_
    obtain rfl : vk = 1 := by omega
    refine aN [0, 1, 2, 3, 4] rfl ?_
    refine aA ?_
    refine aB rfl (aF rfl) rfl rfl ?_
    refine aA ?_
    refine aB rfl (aU fa_70_1 rfl) rfl rfl ?_
    refine aA ?_
    refine aB rfl (bB (k := 1) (v := .int .i64 (vn)) Try.isAgg3 rfl (H13.blk 1 rfl) rfl) rfl rfl ?_
    by_cases hg20 : 0 ≤ vn ∧ vn < (le.length : Int)
    ·refine aA ?_
     obtain ⟨kq, rfl⟩ : ∃ kq : Nat, vn = kq := ⟨vn.toNat, by omega⟩
     have hkq : kq < le.length := by omega
     have H21 : St w F0 [hB g 69 #[u0, .slice AE le.length cE, u2, u3, u4], hR aL 77 (.slice AE le.length cE) le, hB g_0_1 70 #[.int .i64 (0), .int .i64 (0)], hB g_0_0 70 #[.int .i64 (1), .int .i64 (((kq : Nat) : Int))]] W11 := H13.pick [2, 3, 0, 1] kD rfl; clear H13
     obtain ⟨F22, hs23, _, hfr24⟩ := St.frame (l0 := [hB g 69 #[u0, .slice AE le.length cE, u2, u3, u4], hR aL 77 (.slice AE le.length cE) le]) (l := [hB g_0_1 70 #[.int .i64 (0), .int .i64 (0)], hB g_0_0 70 #[.int .i64 (1), .int .i64 (((kq : Nat) : Int))]]) H21
     refine bC rfl Try.call127 (vs := #[.pointer (some ⟨g, 0, none⟩), .int .i64 (((kq : Nat) : Int))]) rfl rfl rfl (entity_yes le _ _ _ _ _ _ _ _ _ hs23 hne kq hkq) ?_
     rintro e27 W26 ⟨al, rfl, rfl, Hn25⟩; refine ⟨_, rfl, ?_⟩
     have H28 := hfr24 _ _ Hn25; clear H21
     obtain ⟨cse, hKe, hce⟩ := C_elemA (H28.fU 1 rfl) kq hkq
     obtain ⟨Aal_2, cal_2, Aal_6, cal_6, Aal_7, cal_7, rfl, hlal_2, hCal_2, hlal_6, hCal_6, hlal_7, hCal_7⟩ := jT hKe
     refine aA ?_
     refine aB rfl (aR rfl) rfl rfl ?_
     refine aI ?_
     refine aK ?_
     refine wp_seq ?_
     refine wp_seq ?_
     refine aN [0, 1, 2, 3, 4, 5, 6, 7, 8, 9, 10, 11, 12, 13, 14, 15] rfl ?_
     refine aA ?_
     refine aB rfl (aF rfl) rfl rfl ?_
     refine aA ?_
     refine aB rfl (rn_eqlNilF Try.runUnderlying177 rfl rfl) rfl rfl ?_
     refine aA ?_
     refine aB rfl (aF rfl) rfl rfl ?_
     refine aA ?_
     refine bL rfl rfl rfl rfl (fun _ ho29 => ?_)
     refine aB ho29 (aF rfl) rfl rfl ?_
     refine aA ?_
     refine bL rfl rfl rfl rfl (fun _ ho30 => ?_)
     refine aB ho30 (dA rfl) rfl rfl ?_
     refine aA ?_
     refine bL rfl rfl rfl rfl (fun _ ho31 => ?_)
     refine aB ho31 (aU fa_77_0 rfl) rfl rfl ?_
     refine aA ?_
     refine bL rfl rfl rfl rfl (fun _ ho32 => ?_)
     refine aB ho32 (iT (v := .int .i64 (le[kq].Kind)) Try.isAgg3 rfl hce rfl) rfl rfl ?_
     by_cases hg33 : ¬ ((le[kq].Kind) : Int) = 2
     ·refine aA ?_
      refine bL rfl rfl rfl rfl (fun _ ho34 => ?_)
      refine aB ho34 (bX hg33 (gH rfl rfl)) rfl rfl ?_
      refine aA ?_
      refine aB rfl (aX (v := .bool (true)) (b := false) rfl rfl rfl rfl) rfl rfl ?_
      refine aA ?_
      refine aB rfl (aF rfl) rfl rfl ?_
      refine aA ?_
      refine aD rfl rfl rfl rfl rfl rfl rfl ?_
      refine aA ?_
      refine aD rfl rfl rfl rfl rfl rfl rfl ?_
      refine aA ?_
      refine aD rfl rfl rfl rfl rfl rfl rfl ?_
      refine aA ?_
      refine aD rfl rfl rfl rfl rfl rfl rfl ?_
      refine aA ?_
      refine aD rfl rfl rfl rfl rfl rfl rfl ?_
      refine aA ?_
      refine aB rfl (aX (v := .bool (true)) (b := true) rfl rfl rfl rfl) rfl rfl ?_
      refine aI ?_
      refine aK ?_
      refine fK rfl ?_
      refine wp_seq ?_
      refine aN [0, 1] rfl ?_
      refine aA ?_
      refine aB rfl (bN Try.isAgg70 Try.sizeOf70 rfl (H28.blk 3 rfl) rfl) rfl rfl ?_
      refine aA ?_
      have H38 : St w F0 [hB g_0_1 70 #[.int .i64 (0), .int .i64 (0)], hB g 69 #[u0, .slice (some al) le.length cE, u2, u3, u4], hR aL 77 (.slice (some al) le.length cE) le, hB g_0_0 70 #[.int .i64 (1), .int .i64 (((kq : Nat) : Int))]] W26 := H28.pick [2, 0, 1, 3] kD rfl; clear H28
      refine bG rfl Try.sizeOf70 rfl rfl rfl rfl kS H38 ?_
      intro W35 hu36 Ha37; clear H38; clear hu36
      refine aI ?_
      refine aK ?_
      refine wp_ret ?_
      refine bY ?_
      refine gJ ?_
      refine bY ?_
      refine bY ?_
      refine gJ ?_
      refine bY ?_
      have hr : gX le (le.length + 1) k0 n0 = ⟨1, ((kq : Nat) : Int)⟩ := hf1.trans (look_stop le fu kq hkq kO)
      refine dI (.inl rfl) Try.results83 Try.isAgg70 Try.sizeOf70 rfl (Ha37.blk 0 rfl) rfl ?_
      rw [hr]
      exact ⟨rfl, Ha37.pick [1, 2] kD rfl⟩
     ·refine aA ?_
      refine bL rfl rfl rfl rfl (fun _ ho40 => ?_)
      refine aB ho40 (bZ hg33 (gH rfl rfl)) rfl rfl ?_
      refine aA ?_
      refine aB rfl (aX (v := .bool (false)) (b := false) rfl rfl rfl rfl) rfl rfl ?_
      refine aA ?_
      refine aB rfl (aF rfl) rfl rfl ?_
      refine aA ?_
      refine bL rfl rfl rfl rfl (fun _ ho41 => ?_)
      refine aB ho41 (aF rfl) rfl rfl ?_
      refine aA ?_
      refine bL rfl rfl rfl rfl (fun _ ho42 => ?_)
      refine aB ho42 (dA rfl) rfl rfl ?_
      refine aA ?_
      refine bL rfl rfl rfl rfl (fun _ ho43 => ?_)
      refine aB ho43 (aU fV rfl) rfl rfl ?_
      refine aA ?_
      refine bL rfl rfl rfl rfl (fun _ ho44 => ?_)
      refine aB ho44 (iT (v := .int .i64 (le[kq].State)) Try.isAgg3 rfl hce rfl) rfl rfl ?_
      by_cases hg45 : ¬ ((le[kq].State) : Int) = 2
      ·refine aA ?_
       refine bL rfl rfl rfl rfl (fun _ ho46 => ?_)
       refine aB ho46 (bX hg45 (gH rfl rfl)) rfl rfl ?_
       refine aA ?_
       refine aB rfl (aX (v := .bool (true)) (b := false) rfl rfl rfl rfl) rfl rfl ?_
       refine aI ?_
       refine aK ?_
       refine fK rfl ?_
       refine wp_seq ?_
       refine aN [0, 1] rfl ?_
       refine aA ?_
       refine aB rfl (bN Try.isAgg70 Try.sizeOf70 rfl (H28.blk 3 rfl) rfl) rfl rfl ?_
       refine aA ?_
       have H50 : St w F0 [hB g_0_1 70 #[.int .i64 (0), .int .i64 (0)], hB g 69 #[u0, .slice (some al) le.length cE, u2, u3, u4], hR aL 77 (.slice (some al) le.length cE) le, hB g_0_0 70 #[.int .i64 (1), .int .i64 (((kq : Nat) : Int))]] W26 := H28.pick [2, 0, 1, 3] kD rfl; clear H28
       refine bG rfl Try.sizeOf70 rfl rfl rfl rfl kS H50 ?_
       intro W47 hu48 Ha49; clear H50; clear hu48
       refine aI ?_
       refine aK ?_
       refine wp_ret ?_
       refine bY ?_
       refine gJ ?_
       refine bY ?_
       refine bY ?_
       refine gJ ?_
       refine bY ?_
       have hr : gX le (le.length + 1) k0 n0 = ⟨1, ((kq : Nat) : Int)⟩ := hf1.trans (look_stop le fu kq hkq kO)
       refine dI (.inl rfl) Try.results83 Try.isAgg70 Try.sizeOf70 rfl (Ha49.blk 0 rfl) rfl ?_
       rw [hr]
       exact ⟨rfl, Ha49.pick [1, 2] kD rfl⟩
      ·refine aA ?_
       refine bL rfl rfl rfl rfl (fun _ ho52 => ?_)
       refine aB ho52 (bZ hg45 (gH rfl rfl)) rfl rfl ?_
       refine aA ?_
       refine aB rfl (aX (v := .bool (false)) (b := false) rfl rfl rfl rfl) rfl rfl ?_
       refine aI ?_
       refine aK ?_
       refine fA rfl ?_
       refine wp_skip ?_
       refine aK ?_
       have hk2 : le[kq].Kind = 2 := by omega
       have hs2 : le[kq].State = 2 := by omega
       refine aN [0, 1, 2, 3, 4] rfl ?_
       refine aA ?_
       refine aB rfl (aF rfl) rfl rfl ?_
       refine aA ?_
       refine aB rfl (dA rfl) rfl rfl ?_
       refine aA ?_
       refine aB rfl (aU kI rfl) rfl rfl ?_
       refine aA ?_
       refine aB rfl (rn_loadES (sub := [.int .i64 (le[kq].Value.Kind), .int .i64 (le[kq].Value.N)]) Try.isAgg70 Try.sizeOf70 rfl hce rfl rfl) rfl rfl ?_
       refine aA ?_
       have H56 : St w F0 [hB g_0_0 70 #[.int .i64 (1), .int .i64 (((kq : Nat) : Int))], hB g 69 #[u0, .slice (some al) le.length cE, u2, u3, u4], hR aL 77 (.slice (some al) le.length cE) le, hB g_0_1 70 #[.int .i64 (0), .int .i64 (0)]] W26 := H28.pick [3, 0, 1, 2] kD rfl; clear H28
       refine bG rfl Try.sizeOf70 rfl rfl rfl rfl kS H56 ?_
       intro W53 hu54 Ha55; clear H56; clear hu54
       refine aI ?_
       refine eP ?_
       refine aK ?_
       refine aN [0, 1] rfl ?_
       refine aA ?_
       refine aB rfl (gT (k := i1) rfl rfl kO) rfl rfl ?_
       refine aA ?_
       refine aB rfl (aF rfl) rfl rfl ?_
       refine aI ?_
       refine aK ?_
       exact (aZ [(0, .pointer (some ⟨g, 0, none⟩)), (3, .pointer (some ⟨g_0_0, 0, none⟩)), (4, .pointer (some ⟨g_0_1, 0, none⟩)), (11, .int .i64 (((le.length + 1 : Nat) : Int))), (12, .int .i64 (((i1 + 1 : Nat) : Int)))] rfl).elim fun x' hx => ⟨r10 - 1, kO, i1 + 1, (le[kq].Value.Kind), (le[kq].Value.N), x', hx, kO, (by rw [hf1, look_next le fu kq hkq ⟨hk2, hs2⟩, show le.length + 1 - (i1 + 1) = fu by omega]), Ha55.pick [3, 0, 1, 2] kD rfl⟩
    ·refine aA ?_
     have H58 : St w F0 [hB g 69 #[u0, .slice AE le.length cE, u2, u3, u4], hR aL 77 (.slice AE le.length cE) le, hB g_0_1 70 #[.int .i64 (0), .int .i64 (0)], hB g_0_0 70 #[.int .i64 (1), .int .i64 (vn)]] W11 := H13.pick [2, 3, 0, 1] kD rfl; clear H13
     obtain ⟨F59, hs60, _, hfr61⟩ := St.frame (l0 := [hB g 69 #[u0, .slice AE le.length cE, u2, u3, u4], hR aL 77 (.slice AE le.length cE) le]) (l := [hB g_0_1 70 #[.int .i64 (0), .int .i64 (0)], hB g_0_0 70 #[.int .i64 (1), .int .i64 (vn)]]) H58
     refine bC rfl Try.call127 (vs := #[.pointer (some ⟨g, 0, none⟩), .int .i64 (vn)]) rfl rfl rfl (entity_no le _ _ _ _ _ _ _ _ _ hs60 hne vn hg20) ?_
     rintro e64 W63 ⟨rfl, Hn62⟩; refine ⟨_, rfl, ?_⟩
     have H65 := hfr61 _ _ Hn62; clear H58
     refine aA ?_
     refine aB rfl (aR rfl) rfl rfl ?_
     refine aI ?_
     refine aK ?_
     refine wp_seq ?_
     refine wp_seq ?_
     refine aN [0, 1, 2, 3, 4, 5, 6, 7, 8, 9, 10, 11, 12, 13, 14, 15] rfl ?_
     refine aA ?_
     refine aB rfl (aF rfl) rfl rfl ?_
     refine aA ?_
     refine aB rfl (rn_eqlNilT Try.runUnderlying177 rfl rfl) rfl rfl ?_
     refine aA ?_
     refine aB rfl (aF rfl) rfl rfl ?_
     refine aA ?_
     refine aD rfl rfl rfl rfl rfl rfl rfl ?_
     refine aA ?_
     refine aD rfl rfl rfl rfl rfl rfl rfl ?_
     refine aA ?_
     refine aD rfl rfl rfl rfl rfl rfl rfl ?_
     refine aA ?_
     refine aD rfl rfl rfl rfl rfl rfl rfl ?_
     refine aA ?_
     refine aD rfl rfl rfl rfl rfl rfl rfl ?_
     refine aA ?_
     refine aB rfl (aX (v := .bool (true)) (b := true) rfl rfl rfl rfl) rfl rfl ?_
     refine aA ?_
     refine aB rfl (aF rfl) rfl rfl ?_
     refine aA ?_
     refine aD rfl rfl rfl rfl rfl rfl rfl ?_
     refine aA ?_
     refine aD rfl rfl rfl rfl rfl rfl rfl ?_
     refine aA ?_
     refine aD rfl rfl rfl rfl rfl rfl rfl ?_
     refine aA ?_
     refine aD rfl rfl rfl rfl rfl rfl rfl ?_
     refine aA ?_
     refine aD rfl rfl rfl rfl rfl rfl rfl ?_
     refine aA ?_
     refine aB rfl (aX (v := .bool (true)) (b := true) rfl rfl rfl rfl) rfl rfl ?_
     refine aI ?_
     refine aK ?_
     refine fK rfl ?_
     refine wp_seq ?_
     refine aN [0, 1] rfl ?_
     refine aA ?_
     refine aB rfl (bN Try.isAgg70 Try.sizeOf70 rfl (H65.blk 3 rfl) rfl) rfl rfl ?_
     refine aA ?_
     have H69 : St w F0 [hB g_0_1 70 #[.int .i64 (0), .int .i64 (0)], hB g 69 #[u0, .slice AE le.length cE, u2, u3, u4], hR aL 77 (.slice AE le.length cE) le, hB g_0_0 70 #[.int .i64 (1), .int .i64 (vn)]] W63 := H65.pick [2, 0, 1, 3] kD rfl; clear H65
     refine bG rfl Try.sizeOf70 rfl rfl rfl rfl kS H69 ?_
     intro W66 hu67 Ha68; clear H69; clear hu67
     refine aI ?_
     refine aK ?_
     refine wp_ret ?_
     refine bY ?_
     refine gJ ?_
     refine bY ?_
     refine bY ?_
     refine gJ ?_
     refine bY ?_
     have hr : gX le (le.length + 1) k0 n0 = ⟨1, vn⟩ := hf1.trans (look_out le fu 1 vn kO)
     refine dI (.inl rfl) Try.results83 Try.isAgg70 Try.sizeOf70 rfl (Ha68.blk 0 rfl) rfl ?_
     rw [hr]
     exact ⟨rfl, Ha68.pick [1, 2] kD rfl⟩
  ·have hge1 : le.length + 1 ≤ i1 := by omega
   have hz : le.length + 1 - i1 = 0 := by omega
   rw [hz] at hf1
   refine wp_exit ?_
   refine dX ?_
   refine dX ?_
   refine iH ?_
   refine aK ?_
   refine wp_seq ?_
   refine aN [0, 1] rfl ?_
   refine aA ?_
   refine bC rfl Try.call128 (vs := #[]) rfl rfl rfl (brokenValue_i _) ?_
   rintro e73 W72 ⟨rfl, hu71⟩; refine ⟨_, rfl, ?_⟩
   have H74 := H13.no hu71; clear H13
   refine aA ?_
   refine bG rfl Try.sizeOf70 rfl rfl rfl rfl kS H74 ?_
   intro W75 hu76 Ha77; clear H74; clear hu76
   refine aI ?_
   refine aK ?_
   refine wp_ret ?_
   have hr : gX le (le.length + 1) k0 n0 = ⟨2, 0⟩ := hf1
   refine dI (.inl rfl) Try.results83 Try.isAgg70 Try.sizeOf70 rfl (Ha77.blk 0 rfl) rfl ?_
   rw [hr]
   exact ⟨rfl, Ha77.pick [2, 3] kD rfl⟩
end Go.Proofs.YtdfipdpeilegpaaFam
