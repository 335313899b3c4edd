/- What the row needs, packed. No conditions beyond those that each law names. -/
import Derived.Test.YtdfipdpeilegpaaZfv5
import Derived.Test.YtdfipdpeilegpaaProg
import Derived.Test.YtdfipdpeilegpaaZfv1
import Derived.Deep.Slices
import Derived.ChangeArms
import Derived.WideShapes
import Derived.KernelRfl
import Derived.Test.YtdfipdpeilegpaaZfv3
namespace Go.Proofs.YtdfipdpeilegpaaFam
open Go.ChangeShapes Go.WideShapes Go.RowKit Go.Proofs.YtdfipdpeilegpaaSep Go.Proofs.YtdfipdpeilegpaaT Go.Proofs.YtdfipdpeilegpaaK
set_option linter.unusedVariables false
set_option linter.unusedSimpArgs false
attribute [local irreducible] wpOps wpOp
set_option maxHeartbeats 4000000
set_option maxRecDepth 100000
theorem eqF_Entity (l k : List GEntity) (A A' : Option Addr) (c c' : Nat) (w : World) (h : C aL w A l) (h' : C aL w A' k) : Calls Try.prog 94 #[.slice A l.length c, .slice A' k.length c', .func (.func 40) #[] #[]] w (fD (dQ cK l k) w) := by
 have nx := h.1
 refine enter 32 [(0, .slice A l.length c), (1, .slice A' k.length c'), (2, .func (.func 40) #[] #[])] Try.func94 rfl kR ?_
 intro xj
 have H1 : St w No [] w := St.enter
 refine wp_seq ?_
 refine aN [0] rfl ?_
 refine aA ?_
 refine aB rfl (aR rfl) rfl rfl ?_
 refine aI ?_
 refine aK ?_
 refine wp_seq ?_
 refine wp_seq ?_
 refine aN [0, 1, 2, 3, 4] rfl ?_
 refine aA ?_
 refine aB rfl (aF rfl) rfl rfl ?_
 refine aA ?_
 refine aB rfl (dP Try.runUnderlying64 rfl) rfl rfl ?_
 refine aA ?_
 refine aB rfl (aF rfl) rfl rfl ?_
 refine aA ?_
 refine aB rfl (dP Try.runUnderlying64 rfl) rfl rfl ?_
 by_cases hg2 : ¬ ((l.length : Nat) : Int) = (k.length : Nat)
 ·refine aA ?_
  refine aB rfl (bX hg2 (gH rfl rfl)) rfl rfl ?_
  refine aI ?_
  refine aK ?_
  refine fK rfl ?_
  refine wp_seq ?_
  refine aN [0] rfl ?_
  refine aA ?_
  refine aB rfl (aR rfl) rfl rfl ?_
  refine aI ?_
  refine aK ?_
  refine wp_ret ?_
  refine bY ?_
  have hz3 : ∀ f, dQ f l k = false := fun f => jH f l k kO
  have hr4 : dQ cK l k = false := by simp [hz3]
  refine bI (.inl rfl) Try.results94 rfl ?_
  rw [hr4]
  exact ⟨rfl, H1.1⟩
 ·refine aA ?_
  refine aB rfl (bZ hg2 (gH rfl rfl)) rfl rfl ?_
  refine aI ?_
  refine aK ?_
  refine fA rfl ?_
  refine wp_skip ?_
  refine aK ?_
  refine wp_seq ?_
  refine wp_seq ?_
  refine aN [0, 1, 2] rfl ?_
  refine aA ?_
  refine aB rfl (aF rfl) rfl rfl ?_
  refine aA ?_
  refine aB rfl (dP Try.runUnderlying64 rfl) rfl rfl ?_
  refine aA ?_
  refine aB rfl (aF rfl) rfl rfl ?_
  refine aI ?_
  refine aK ?_
  refine wp_block ?_
  refine wp_loop_ghost (fun r a' W' => ∃ (i1 : Nat) (x' : Nat → Value), a' = bH 32 x' [(1, .slice A' k.length c'), (2, .func (.func 40) #[] #[]), (15, .slice A l.length c), (16, .int .i64 ((l.length : Nat))), (17, .int .i64 (((i1 : Nat) : Int)))] ∧ (i1 + r = l.length) ∧ (dQ cK l k = dQ cK (l.drop i1) (k.drop i1)) ∧ St w No [] W') l.length ?_ ?_
  ·exact (aZ [(1, .slice A' k.length c'), (2, .func (.func 40) #[] #[]), (15, .slice A l.length c), (16, .int .i64 ((l.length : Nat))), (17, .int .i64 (((0 : Nat) : Int)))] rfl).elim fun x' hx => ⟨0, x', hx, kO, rfl, H1⟩
  ·rintro r5 _ W6 ⟨i1, x7, rfl, hi1, hf1, H8⟩; clear H1
   refine wp_seq ?_
   refine aN [0] rfl ?_
   refine aA ?_
   refine aB rfl (gB rfl rfl) rfl rfl ?_
   refine aI ?_
   refine aK ?_
   refine wp_seq ?_
   refine dB rfl (fun hc9 => ?_) (fun hc9 => ?_)
   ·have hlt1 : i1 < l.length := by omega
    have hlu1 : i1 < k.length := by omega
    obtain ⟨ade10, cse10, hAe10, hKe10, hce10⟩ := fT h i1 hlt1
    have hle10 := cO hKe10
    have hoe10 := fF hKe10
    obtain ⟨ade11, cse11, hAe11, hKe11, hce11⟩ := fT h' i1 hlu1
    have hle11 := cO hKe11
    have hoe11 := fF hKe11
    refine wp_skip ?_
    refine aK ?_
    refine wp_seq ?_
    refine wp_block ?_
    refine wp_seq ?_
    refine aN [0, 1, 2, 3, 4, 5] rfl ?_
    refine aA ?_
    refine aB rfl (aF rfl) rfl rfl ?_
    refine aA ?_
    refine aB rfl (bQ (k := i1) Try.runUnderlying64 Try.sizeOf77 rfl rfl hAe10 hlt1) rfl rfl ?_
    refine aA ?_
    refine aB rfl (dR Try.isAgg77 Try.sizeOf77 rfl (Cat.upd hce10 H8.1) hle10) rfl rfl ?_
    refine aA ?_
    refine bP rfl Try.zeroValue77 rfl rfl H8 ?_
    intro g_5_3 W12 hu13 Ha14; clear H8; clear hu13
    refine aA ?_
    refine aB rfl (aR rfl) rfl rfl ?_
    refine aA ?_
    refine bG rfl Try.sizeOf77 rfl rfl hle10 rfl hoe10 Ha14 ?_
    intro W16 hu17 Ha18; clear Ha14; clear hu17
    refine aI ?_
    refine aK ?_
    refine wp_seq ?_
    refine aN [0, 1, 2, 3, 4, 5] rfl ?_
    refine aA ?_
    refine aB rfl (aF rfl) rfl rfl ?_
    refine aA ?_
    refine aB rfl (aF rfl) rfl rfl ?_
    refine aA ?_
    refine aB rfl (bQ (k := i1) Try.runUnderlying64 Try.sizeOf77 rfl rfl hAe11 hlu1) rfl rfl ?_
    refine aA ?_
    refine aB rfl (dR Try.isAgg77 Try.sizeOf77 rfl (Cat.upd hce11 Ha18.1) hle11) rfl rfl ?_
    refine aA ?_
    refine bP rfl Try.zeroValue77 rfl rfl Ha18 ?_
    intro g_6_4 W20 hu21 Ha22; clear Ha18; clear hu21
    refine aA ?_
    refine bG rfl Try.sizeOf77 rfl rfl hle11 rfl hoe11 Ha22 ?_
    intro W24 hu25 Ha26; clear Ha22; clear hu25
    refine aI ?_
    refine aK ?_
    refine wp_seq ?_
    refine aN [0, 1, 2, 3, 4] rfl ?_
    refine aA ?_
    refine aB rfl (aF rfl) rfl rfl ?_
    refine aA ?_
    refine aB rfl (bN Try.isAgg77 Try.sizeOf77 rfl (Ha26.blk 1 rfl) hle10) rfl rfl ?_
    refine aA ?_
    refine aB rfl (bN Try.isAgg77 Try.sizeOf77 rfl (Ha26.blk 0 rfl) hle11) rfl rfl ?_
    by_cases hg28 : cK (l[i1]) (k[i1]) = true
    ·refine aA ?_
     refine kN rfl rfl Try.call40 (vs := #[.agg (List.toArray cse10), .agg (List.toArray cse11)]) rfl rfl rfl (iF (kP (l[i1]) (k[i1]) _ _ _ (jD Ha26.1 hKe10) (jD Ha26.1 hKe11)) hg28) ?_
     rintro e31 W30 ⟨rfl, hu29⟩; refine ⟨_, rfl, ?_⟩
     have H32 := Ha26.no hu29; clear Ha26
     refine aA ?_
     refine aB rfl (jW rfl) rfl rfl ?_
     refine aI ?_
     refine aK ?_
     refine fA rfl ?_
     refine wp_skip ?_
     refine eP ?_
     refine aK ?_
     refine aN [0, 1] rfl ?_
     refine aA ?_
     refine aB rfl (gT (k := i1) rfl rfl kO) rfl rfl ?_
     refine aA ?_
     refine aB rfl (aF rfl) rfl rfl ?_
     refine aI ?_
     refine aK ?_
     exact (aZ [(1, .slice A' k.length c'), (2, .func (.func 40) #[] #[]), (15, .slice A l.length c), (16, .int .i64 ((l.length : Nat))), (17, .int .i64 (((i1 + 1 : Nat) : Int)))] rfl).elim fun x' hx => ⟨r5 - 1, kO, i1 + 1, x', hx, kO, (hf1.trans (j5 cK l k i1 hlt1 hlu1 hg28)), H32.pick [] kD rfl⟩
    ·refine aA ?_
     refine kN rfl rfl Try.call40 (vs := #[.agg (List.toArray cse10), .agg (List.toArray cse11)]) rfl rfl rfl (iF (kP (l[i1]) (k[i1]) _ _ _ (jD Ha26.1 hKe10) (jD Ha26.1 hKe11)) (eq_false_of_ne_true hg28)) ?_
     rintro e35 W34 ⟨rfl, hu33⟩; refine ⟨_, rfl, ?_⟩
     have H36 := Ha26.no hu33; clear Ha26
     refine aA ?_
     refine aB rfl (jW rfl) rfl rfl ?_
     refine aI ?_
     refine aK ?_
     refine fK rfl ?_
     refine wp_seq ?_
     refine aN [0] rfl ?_
     refine aA ?_
     refine aB rfl (aR rfl) rfl rfl ?_
     refine aI ?_
     refine aK ?_
     refine wp_ret ?_
     refine gJ ?_
     refine bY ?_
     refine bY ?_
     refine gJ ?_
     refine bY ?_
     have hz37 : dQ cK l k = false := hf1.trans (kW cK l k i1 hlt1 hlu1 (eq_false_of_ne_true hg28))
     have hr38 : dQ cK l k = false := by simp [hg28, hz37]
     refine bI (.inl rfl) Try.results94 rfl ?_
     rw [hr38]
     exact ⟨rfl, H36.1⟩
   ·have hd1 : dQ cK l k = true := hf1.trans (j6 cK l k i1 kO kO)
    refine wp_exit ?_
    refine dX ?_
    refine dX ?_
    refine iH ?_
    refine aK ?_
    refine wp_seq ?_
    refine aN [0] rfl ?_
    refine aA ?_
    refine aB rfl (aR rfl) rfl rfl ?_
    refine aI ?_
    refine aK ?_
    refine wp_ret ?_
    have hr39 : dQ cK l k = true := by simp [hd1]
    refine bI (.inl rfl) Try.results94 rfl ?_
    rw [hr39]
    exact ⟨rfl, H8.1⟩
theorem equalLinks_i (x y : GLink) (cx cy : List Value) (w : World) (h : aW.K w x cx) (h' : aW.K w y cy) : Calls Try.prog 97 #[.agg cx.toArray, .agg cy.toArray] w (fD (eG x y) w) := by
 obtain ⟨Ax2, cx2, Ax4, cx4, Ax6, cx6, rfl, hlx2, hCx2, hlx4, hCx4, hlx6, hCx6⟩ := jA h
 obtain ⟨Ay2, cy2, Ay4, cy4, Ay6, cy6, rfl, hly2, hCy2, hly4, hCy4, hly6, hCy6⟩ := jA h'
 have nx2 := hCx2.1
 have nx4 := hCx4.1
 have nx6 := hCx6.1
 refine enter 52 [(0, .agg #[.int .i64 (x.bD), .bool (x.Up), .slice Ax2 x.aV.length cx2, .int .i64 (x.Next), .slice Ax4 x.aT.length cx4, .int .i64 (x.bO), .slice Ax6 x.bA.length cx6]), (1, .agg #[.int .i64 (y.bD), .bool (y.Up), .slice Ay2 y.aV.length cy2, .int .i64 (y.Next), .slice Ay4 y.aT.length cy4, .int .i64 (y.bO), .slice Ay6 y.bA.length cy6])] Try.func97 rfl kR ?_
 intro xj
 have H1 : St w No [] w := St.enter
 refine wp_seq ?_
 refine aN [0, 1, 2] rfl ?_
 refine aA ?_
 refine fJ rfl rfl rfl rfl H1 ?_
 intro g_0_0 W2 hu3 Ha4; clear H1; clear hu3
 refine aA ?_
 refine fJ rfl rfl rfl rfl Ha4 ?_
 intro g_0_1 W6 hu7 Ha8; clear Ha4; clear hu7
 refine aA ?_
 refine aB rfl (aR rfl) rfl rfl ?_
 refine aI ?_
 refine aK ?_
 refine wp_seq ?_
 refine aN [0, 1, 2, 3, 4, 5, 6, 7, 8, 9, 10, 11, 12, 13, 14, 15, 16, 17, 18, 19, 20, 21, 22, 23, 24, 25, 26, 27, 28, 29, 30, 31, 32, 33, 34, 35, 36, 37, 38, 39, 40, 41, 42, 43, 44, 45, 46, 47] rfl ?_
 refine aA ?_
 refine aB rfl (aU fa_138_0 rfl) rfl rfl ?_
 refine aA ?_
 refine aB rfl (bB (k := 0) (v := .int .i64 (x.bD)) Try.isAgg3 rfl (Ha8.blk 1 rfl) rfl) rfl rfl ?_
 refine aA ?_
 refine aB rfl (aU fa_138_0 rfl) rfl rfl ?_
 refine aA ?_
 refine aB rfl (bB (k := 0) (v := .int .i64 (y.bD)) Try.isAgg3 rfl (Ha8.blk 0 rfl) rfl) rfl rfl ?_
 by_cases hg10 : (x.bD : Int) = y.bD
 ·refine aA ?_
  refine aB rfl (bX hg10 (bS rfl rfl)) rfl rfl ?_
  refine aA ?_
  refine aB rfl (aF rfl) rfl rfl ?_
  refine aA ?_
  refine bL rfl rfl rfl rfl (fun _ ho11 => ?_)
  refine aB ho11 (aU fa_138_1 rfl) rfl rfl ?_
  refine aA ?_
  refine bL rfl rfl rfl rfl (fun _ ho12 => ?_)
  refine aB ho12 (bB (k := 1) (v := .bool (x.Up)) Try.isAgg4 rfl (Ha8.blk 1 rfl) rfl) rfl rfl ?_
  refine aA ?_
  refine bL rfl rfl rfl rfl (fun _ ho13 => ?_)
  refine aB ho13 (aU fa_138_1 rfl) rfl rfl ?_
  refine aA ?_
  refine bL rfl rfl rfl rfl (fun _ ho14 => ?_)
  refine aB ho14 (bB (k := 1) (v := .bool (y.Up)) Try.isAgg4 rfl (Ha8.blk 0 rfl) rfl) rfl rfl ?_
  by_cases hg15 : (x.Up == y.Up) = true
  ·refine aA ?_
   refine bL rfl rfl rfl rfl (fun _ ho16 => ?_)
   refine aB ho16 (fI (b := x.Up == y.Up) hg15 (rn_eqlB Try.underlying4 rfl rfl)) rfl rfl ?_
   refine aA ?_
   refine aB rfl (aX (v := .bool (true)) (b := true) rfl rfl rfl rfl) rfl rfl ?_
   refine aA ?_
   refine aB rfl (aF rfl) rfl rfl ?_
   refine aA ?_
   refine bL rfl rfl rfl rfl (fun _ ho17 => ?_)
   refine aB ho17 (aU iB rfl) rfl rfl ?_
   refine aA ?_
   refine bL rfl rfl rfl rfl (fun _ ho18 => ?_)
   refine aB ho18 (bB (k := 2) (v := .slice Ax2 x.aV.length cx2) Try.isAgg135 rfl (Ha8.blk 1 rfl) rfl) rfl rfl ?_
   refine aA ?_
   refine bL rfl rfl rfl rfl (fun _ ho19 => ?_)
   refine aB ho19 (aU iB rfl) rfl rfl ?_
   refine aA ?_
   refine bL rfl rfl rfl rfl (fun _ ho20 => ?_)
   refine aB ho20 (bB (k := 2) (v := .slice Ay2 y.aV.length cy2) Try.isAgg135 rfl (Ha8.blk 0 rfl) rfl) rfl rfl ?_
   by_cases hg21 : (dQ fC x.aV y.aV) = true
   ·refine aA ?_
    refine bL rfl rfl rfl rfl (fun _ ho22 => ?_)
    refine bC ho22 Try.call141 (vs := #[.slice Ax2 x.aV.length cx2, .slice Ay2 y.aV.length cy2]) rfl rfl rfl (iF (eqI_Export x.aV y.aV _ _ _ _ _ (cZ Ha8.1 hCx2) (cZ Ha8.1 hCy2)) hg21) ?_
    rintro e25 W24 ⟨rfl, hu23⟩; refine ⟨_, rfl, ?_⟩
    have H26 := Ha8.no hu23; clear Ha8
    refine aA ?_
    refine aB rfl (aX (v := .bool (true)) (b := true) rfl rfl rfl rfl) rfl rfl ?_
    refine aA ?_
    refine aB rfl (aF rfl) rfl rfl ?_
    refine aA ?_
    refine bL rfl rfl rfl rfl (fun _ ho27 => ?_)
    refine aB ho27 (aU jF rfl) rfl rfl ?_
    refine aA ?_
    refine bL rfl rfl rfl rfl (fun _ ho28 => ?_)
    refine aB ho28 (bB (k := 3) (v := .int .i64 (x.Next)) Try.isAgg3 rfl (H26.blk 1 rfl) rfl) rfl rfl ?_
    refine aA ?_
    refine bL rfl rfl rfl rfl (fun _ ho29 => ?_)
    refine aB ho29 (aU jF rfl) rfl rfl ?_
    refine aA ?_
    refine bL rfl rfl rfl rfl (fun _ ho30 => ?_)
    refine aB ho30 (bB (k := 3) (v := .int .i64 (y.Next)) Try.isAgg3 rfl (H26.blk 0 rfl) rfl) rfl rfl ?_
    by_cases hg31 : (x.Next : Int) = y.Next
    ·refine aA ?_
     refine bL rfl rfl rfl rfl (fun _ ho32 => ?_)
     refine aB ho32 (bX hg31 (bS rfl rfl)) rfl rfl ?_
     refine aA ?_
     refine aB rfl (aX (v := .bool (true)) (b := true) rfl rfl rfl rfl) rfl rfl ?_
     refine aA ?_
     refine aB rfl (aF rfl) rfl rfl ?_
     refine aA ?_
     refine bL rfl rfl rfl rfl (fun _ ho33 => ?_)
     refine aB ho33 (aU fa_138_4 rfl) rfl rfl ?_
     refine aA ?_
     refine bL rfl rfl rfl rfl (fun _ ho34 => ?_)
     refine aB ho34 (bB (k := 4) (v := .slice Ax4 x.aT.length cx4) Try.isAgg136 rfl (H26.blk 1 rfl) rfl) rfl rfl ?_
     refine aA ?_
     refine bL rfl rfl rfl rfl (fun _ ho35 => ?_)
     refine aB ho35 (aU fa_138_4 rfl) rfl rfl ?_
     refine aA ?_
     refine bL rfl rfl rfl rfl (fun _ ho36 => ?_)
     refine aB ho36 (bB (k := 4) (v := .slice Ay4 y.aT.length cy4) Try.isAgg136 rfl (H26.blk 0 rfl) rfl) rfl rfl ?_
     by_cases hg37 : (dQ dW x.aT y.aT) = true
     ·refine aA ?_
      refine bL rfl rfl rfl rfl (fun _ ho38 => ?_)
      refine bC ho38 Try.call142 (vs := #[.slice Ax4 x.aT.length cx4, .slice Ay4 y.aT.length cy4]) rfl rfl rfl (iF (kX x.aT y.aT _ _ _ _ _ (cZ H26.1 hCx4) (cZ H26.1 hCy4)) hg37) ?_
      rintro e41 W40 ⟨rfl, hu39⟩; refine ⟨_, rfl, ?_⟩
      have H42 := H26.no hu39; clear H26
      refine aA ?_
      refine aB rfl (aX (v := .bool (true)) (b := true) rfl rfl rfl rfl) rfl rfl ?_
      refine aA ?_
      refine aB rfl (aF rfl) rfl rfl ?_
      refine aA ?_
      refine bL rfl rfl rfl rfl (fun _ ho43 => ?_)
      refine aB ho43 (aU fa_138_5 rfl) rfl rfl ?_
      refine aA ?_
      refine bL rfl rfl rfl rfl (fun _ ho44 => ?_)
      refine aB ho44 (bB (k := 5) (v := .int .i64 (x.bO)) Try.isAgg3 rfl (H42.blk 1 rfl) rfl) rfl rfl ?_
      refine aA ?_
      refine bL rfl rfl rfl rfl (fun _ ho45 => ?_)
      refine aB ho45 (aU fa_138_5 rfl) rfl rfl ?_
      refine aA ?_
      refine bL rfl rfl rfl rfl (fun _ ho46 => ?_)
      refine aB ho46 (bB (k := 5) (v := .int .i64 (y.bO)) Try.isAgg3 rfl (H42.blk 0 rfl) rfl) rfl rfl ?_
      by_cases hg47 : (x.bO : Int) = y.bO
      ·refine aA ?_
       refine bL rfl rfl rfl rfl (fun _ ho48 => ?_)
       refine aB ho48 (bX hg47 (bS rfl rfl)) rfl rfl ?_
       refine aA ?_
       refine aB rfl (aX (v := .bool (true)) (b := true) rfl rfl rfl rfl) rfl rfl ?_
       refine aA ?_
       refine aB rfl (aF rfl) rfl rfl ?_
       refine aA ?_
       refine bL rfl rfl rfl rfl (fun _ ho49 => ?_)
       refine aB ho49 (aU fa_138_6 rfl) rfl rfl ?_
       refine aA ?_
       refine bL rfl rfl rfl rfl (fun _ ho50 => ?_)
       refine aB ho50 (bB (k := 6) (v := .slice Ax6 x.bA.length cx6) Try.isAgg136 rfl (H42.blk 1 rfl) rfl) rfl rfl ?_
       refine aA ?_
       refine bL rfl rfl rfl rfl (fun _ ho51 => ?_)
       refine aB ho51 (aU fa_138_6 rfl) rfl rfl ?_
       refine aA ?_
       refine bL rfl rfl rfl rfl (fun _ ho52 => ?_)
       refine aB ho52 (bB (k := 6) (v := .slice Ay6 y.bA.length cy6) Try.isAgg136 rfl (H42.blk 0 rfl) rfl) rfl rfl ?_
       by_cases hg53 : (dQ dW x.bA y.bA) = true
       ·refine aA ?_
        refine bL rfl rfl rfl rfl (fun _ ho54 => ?_)
        refine bC ho54 Try.call142 (vs := #[.slice Ax6 x.bA.length cx6, .slice Ay6 y.bA.length cy6]) rfl rfl rfl (iF (kX x.bA y.bA _ _ _ _ _ (cZ H42.1 hCx6) (cZ H42.1 hCy6)) hg53) ?_
        rintro e57 W56 ⟨rfl, hu55⟩; refine ⟨_, rfl, ?_⟩
        have H58 := H42.no hu55; clear H42
        refine aA ?_
        refine aB rfl (aX (v := .bool (true)) (b := true) rfl rfl rfl rfl) rfl rfl ?_
        refine aA ?_
        refine aB rfl (aR rfl) rfl rfl ?_
        refine aI ?_
        refine aK ?_
        refine wp_ret ?_
        have hr59 : eG x y = true := by simp [eG, hg10, hg15, hg21, hg31, hg37, hg47, hg53]
        refine bI (.inl rfl) Try.results97 rfl ?_
        rw [hr59]
        exact ⟨rfl, H58.1⟩
       ·refine aA ?_
        refine bL rfl rfl rfl rfl (fun _ ho60 => ?_)
        refine bC ho60 Try.call142 (vs := #[.slice Ax6 x.bA.length cx6, .slice Ay6 y.bA.length cy6]) rfl rfl rfl (iF (kX x.bA y.bA _ _ _ _ _ (cZ H42.1 hCx6) (cZ H42.1 hCy6)) (eq_false_of_ne_true hg53)) ?_
        rintro e63 W62 ⟨rfl, hu61⟩; refine ⟨_, rfl, ?_⟩
        have H64 := H42.no hu61; clear H42
        refine aA ?_
        refine aB rfl (aX (v := .bool (false)) (b := true) rfl rfl rfl rfl) rfl rfl ?_
        refine aA ?_
        refine aB rfl (aR rfl) rfl rfl ?_
        refine aI ?_
        refine aK ?_
        refine wp_ret ?_
        have hr65 : eG x y = false := by simp [eG, hg10, hg15, hg21, hg31, hg37, hg47, hg53]
        refine bI (.inl rfl) Try.results97 rfl ?_
        rw [hr65]
        exact ⟨rfl, H64.1⟩
      ·refine aA ?_
       refine bL rfl rfl rfl rfl (fun _ ho66 => ?_)
       refine aB ho66 (bZ hg47 (bS rfl rfl)) rfl rfl ?_
       refine aA ?_
       refine aB rfl (aX (v := .bool (false)) (b := true) rfl rfl rfl rfl) rfl rfl ?_
       refine aA ?_
       refine aB rfl (aF rfl) rfl rfl ?_
       refine aA ?_
       refine aD rfl rfl rfl rfl rfl rfl rfl ?_
       refine aA ?_
       refine aD rfl rfl rfl rfl rfl rfl rfl ?_
       refine aA ?_
       refine aD rfl rfl rfl rfl rfl rfl rfl ?_
       refine aA ?_
       refine aD rfl rfl rfl rfl rfl rfl rfl ?_
       refine aA ?_
       refine aD rfl rfl rfl rfl rfl rfl rfl ?_
       refine aA ?_
       refine aB rfl (aX (v := .bool (false)) (b := false) rfl rfl rfl rfl) rfl rfl ?_
       refine aA ?_
       refine aB rfl (aR rfl) rfl rfl ?_
       refine aI ?_
       refine aK ?_
       refine wp_ret ?_
       have hr67 : eG x y = false := by simp [eG, hg10, hg15, hg21, hg31, hg37, hg47]
       refine bI (.inl rfl) Try.results97 rfl ?_
       rw [hr67]
       exact ⟨rfl, H42.1⟩
     ·refine aA ?_
      refine bL rfl rfl rfl rfl (fun _ ho68 => ?_)
      refine bC ho68 Try.call142 (vs := #[.slice Ax4 x.aT.length cx4, .slice Ay4 y.aT.length cy4]) rfl rfl rfl (iF (kX x.aT y.aT _ _ _ _ _ (cZ H26.1 hCx4) (cZ H26.1 hCy4)) (eq_false_of_ne_true hg37)) ?_
      rintro e71 W70 ⟨rfl, hu69⟩; refine ⟨_, rfl, ?_⟩
      have H72 := H26.no hu69; clear H26
      refine aA ?_
      refine aB rfl (aX (v := .bool (false)) (b := true) rfl rfl rfl rfl) rfl rfl ?_
      refine aA ?_
      refine aB rfl (aF rfl) rfl rfl ?_
      refine aA ?_
      refine aD rfl rfl rfl rfl rfl rfl rfl ?_
      refine aA ?_
      refine aD rfl rfl rfl rfl rfl rfl rfl ?_
      refine aA ?_
      refine aD rfl rfl rfl rfl rfl rfl rfl ?_
      refine aA ?_
      refine aD rfl rfl rfl rfl rfl rfl rfl ?_
      refine aA ?_
      refine aD rfl rfl rfl rfl rfl rfl rfl ?_
      refine aA ?_
      refine aB rfl (aX (v := .bool (false)) (b := false) rfl rfl rfl rfl) rfl rfl ?_
      refine aA ?_
      refine aB rfl (aF rfl) rfl rfl ?_
      refine aA ?_
      refine aD rfl rfl rfl rfl rfl rfl rfl ?_
      refine aA ?_
      refine aD rfl rfl rfl rfl rfl rfl rfl ?_
      refine aA ?_
      refine aD rfl rfl rfl rfl rfl rfl rfl ?_
      refine aA ?_
      refine aD rfl rfl rfl rfl rfl rfl rfl ?_
      refine aA ?_
      refine aD rfl rfl rfl rfl rfl rfl rfl ?_
      refine aA ?_
      refine aB rfl (aX (v := .bool (false)) (b := false) rfl rfl rfl rfl) rfl rfl ?_
      refine aA ?_
      refine aB rfl (aR rfl) rfl rfl ?_
      refine aI ?_
      refine aK ?_
      refine wp_ret ?_
      have hr73 : eG x y = false := by simp [eG, hg10, hg15, hg21, hg31, hg37]
      refine bI (.inl rfl) Try.results97 rfl ?_
      rw [hr73]
      exact ⟨rfl, H72.1⟩
    ·refine aA ?_
     refine bL rfl rfl rfl rfl (fun _ ho74 => ?_)
     refine aB ho74 (bZ hg31 (bS rfl rfl)) rfl rfl ?_
     refine aA ?_
     refine aB rfl (aX (v := .bool (false)) (b := true) rfl rfl rfl rfl) rfl rfl ?_
     refine aA ?_
     refine aB rfl (aF rfl) rfl rfl ?_
     refine aA ?_
     refine aD rfl rfl rfl rfl rfl rfl rfl ?_
     refine aA ?_
     refine aD rfl rfl rfl rfl rfl rfl rfl ?_
     refine aA ?_
     refine aD rfl rfl rfl rfl rfl rfl rfl ?_
     refine aA ?_
     refine aD rfl rfl rfl rfl rfl rfl rfl ?_
     refine aA ?_
     refine aD rfl rfl rfl rfl rfl rfl rfl ?_
     refine aA ?_
     refine aB rfl (aX (v := .bool (false)) (b := false) rfl rfl rfl rfl) rfl rfl ?_
     refine aA ?_
     refine aB rfl (aF rfl) rfl rfl ?_
     refine aA ?_
     refine aD rfl rfl rfl rfl rfl rfl rfl ?_
     refine aA ?_
     refine aD rfl rfl rfl rfl rfl rfl rfl ?_
     refine aA ?_
     refine aD rfl rfl rfl rfl rfl rfl rfl ?_
     refine aA ?_
     refine aD rfl rfl rfl rfl rfl rfl rfl ?_
     refine aA ?_
     refine aD rfl rfl rfl rfl rfl rfl rfl ?_
     refine aA ?_
     refine aB rfl (aX (v := .bool (false)) (b := false) rfl rfl rfl rfl) rfl rfl ?_
     refine aA ?_
     refine aB rfl (aF rfl) rfl rfl ?_
     refine aA ?_
     refine aD rfl rfl rfl rfl rfl rfl rfl ?_
     refine aA ?_
     refine aD rfl rfl rfl rfl rfl rfl rfl ?_
     refine aA ?_
     refine aD rfl rfl rfl rfl rfl rfl rfl ?_
     refine aA ?_
     refine aD rfl rfl rfl rfl rfl rfl rfl ?_
     refine aA ?_
     refine aD rfl rfl rfl rfl rfl rfl rfl ?_
     refine aA ?_
     refine aB rfl (aX (v := .bool (false)) (b := false) rfl rfl rfl rfl) rfl rfl ?_
     refine aA ?_
     refine aB rfl (aR rfl) rfl rfl ?_
     refine aI ?_
     refine aK ?_
     refine wp_ret ?_
     have hr75 : eG x y = false := by simp [eG, hg10, hg15, hg21, hg31]
     refine bI (.inl rfl) Try.results97 rfl ?_
     rw [hr75]
     exact ⟨rfl, H26.1⟩
   ·refine aA ?_
    refine bL rfl rfl rfl rfl (fun _ ho76 => ?_)
    refine bC ho76 Try.call141 (vs := #[.slice Ax2 x.aV.length cx2, .slice Ay2 y.aV.length cy2]) rfl rfl rfl (iF (eqI_Export x.aV y.aV _ _ _ _ _ (cZ Ha8.1 hCx2) (cZ Ha8.1 hCy2)) (eq_false_of_ne_true hg21)) ?_
    rintro e79 W78 ⟨rfl, hu77⟩; refine ⟨_, rfl, ?_⟩
    have H80 := Ha8.no hu77; clear Ha8
    refine aA ?_
    refine aB rfl (aX (v := .bool (false)) (b := true) rfl rfl rfl rfl) rfl rfl ?_
    refine aA ?_
    refine aB rfl (aF rfl) rfl rfl ?_
    refine aA ?_
    refine aD rfl rfl rfl rfl rfl rfl rfl ?_
    refine aA ?_
    refine aD rfl rfl rfl rfl rfl rfl rfl ?_
    refine aA ?_
    refine aD rfl rfl rfl rfl rfl rfl rfl ?_
    refine aA ?_
    refine aD rfl rfl rfl rfl rfl rfl rfl ?_
    refine aA ?_
    refine aD rfl rfl rfl rfl rfl rfl rfl ?_
    refine aA ?_
    refine aB rfl (aX (v := .bool (false)) (b := false) rfl rfl rfl rfl) rfl rfl ?_
    refine aA ?_
    refine aB rfl (aF rfl) rfl rfl ?_
    refine aA ?_
    refine aD rfl rfl rfl rfl rfl rfl rfl ?_
    refine aA ?_
    refine aD rfl rfl rfl rfl rfl rfl rfl ?_
    refine aA ?_
    refine aD rfl rfl rfl rfl rfl rfl rfl ?_
    refine aA ?_
    refine aD rfl rfl rfl rfl rfl rfl rfl ?_
    refine aA ?_
    refine aD rfl rfl rfl rfl rfl rfl rfl ?_
    refine aA ?_
    refine aB rfl (aX (v := .bool (false)) (b := false) rfl rfl rfl rfl) rfl rfl ?_
    refine aA ?_
    refine aB rfl (aF rfl) rfl rfl ?_
    refine aA ?_
    refine aD rfl rfl rfl rfl rfl rfl rfl ?_
    refine aA ?_
    refine aD rfl rfl rfl rfl rfl rfl rfl ?_
    refine aA ?_
    refine aD rfl rfl rfl rfl rfl rfl rfl ?_
    refine aA ?_
    refine aD rfl rfl rfl rfl rfl rfl rfl ?_
    refine aA ?_
    refine aD rfl rfl rfl rfl rfl rfl rfl ?_
    refine aA ?_
    refine aB rfl (aX (v := .bool (false)) (b := false) rfl rfl rfl rfl) rfl rfl ?_
    refine aA ?_
    refine aB rfl (aF rfl) rfl rfl ?_
    refine aA ?_
    refine aD rfl rfl rfl rfl rfl rfl rfl ?_
    refine aA ?_
    refine aD rfl rfl rfl rfl rfl rfl rfl ?_
    refine aA ?_
    refine aD rfl rfl rfl rfl rfl rfl rfl ?_
    refine aA ?_
    refine aD rfl rfl rfl rfl rfl rfl rfl ?_
    refine aA ?_
    refine aD rfl rfl rfl rfl rfl rfl rfl ?_
    refine aA ?_
    refine aB rfl (aX (v := .bool (false)) (b := false) rfl rfl rfl rfl) rfl rfl ?_
    refine aA ?_
    refine aB rfl (aR rfl) rfl rfl ?_
    refine aI ?_
    refine aK ?_
    refine wp_ret ?_
    have hr81 : eG x y = false := by simp [eG, hg10, hg15, hg21]
    refine bI (.inl rfl) Try.results97 rfl ?_
    rw [hr81]
    exact ⟨rfl, H80.1⟩
  ·refine aA ?_
   refine bL rfl rfl rfl rfl (fun _ ho82 => ?_)
   refine aB ho82 (fI (b := x.Up == y.Up) (eq_false_of_ne_true hg15) (rn_eqlB Try.underlying4 rfl rfl)) rfl rfl ?_
   refine aA ?_
   refine aB rfl (aX (v := .bool (false)) (b := true) rfl rfl rfl rfl) rfl rfl ?_
   refine aA ?_
   refine aB rfl (aF rfl) rfl rfl ?_
   refine aA ?_
   refine aD rfl rfl rfl rfl rfl rfl rfl ?_
   refine aA ?_
   refine aD rfl rfl rfl rfl rfl rfl rfl ?_
   refine aA ?_
   refine aD rfl rfl rfl rfl rfl rfl rfl ?_
   refine aA ?_
   refine aD rfl rfl rfl rfl rfl rfl rfl ?_
   refine aA ?_
   refine aD rfl rfl rfl rfl rfl rfl rfl ?_
   refine aA ?_
   refine aB rfl (aX (v := .bool (false)) (b := false) rfl rfl rfl rfl) rfl rfl ?_
   refine aA ?_
   refine aB rfl (aF rfl) rfl rfl ?_
   refine aA ?_
   refine aD rfl rfl rfl rfl rfl rfl rfl ?_
   refine aA ?_
   refine aD rfl rfl rfl rfl rfl rfl rfl ?_
   refine aA ?_
   refine aD rfl rfl rfl rfl rfl rfl rfl ?_
   refine aA ?_
   refine aD rfl rfl rfl rfl rfl rfl rfl ?_
   refine aA ?_
   refine aD rfl rfl rfl rfl rfl rfl rfl ?_
   refine aA ?_
   refine aB rfl (aX (v := .bool (false)) (b := false) rfl rfl rfl rfl) rfl rfl ?_
   refine aA ?_
   refine aB rfl (aF rfl) rfl rfl ?_
   refine aA ?_
   refine aD rfl rfl rfl rfl rfl rfl rfl ?_
   refine aA ?_
   refine aD rfl rfl rfl rfl rfl rfl rfl ?_
   refine aA ?_
   refine aD rfl rfl rfl rfl rfl rfl rfl ?_
   refine aA ?_
   refine aD rfl rfl rfl rfl rfl rfl rfl ?_
   refine aA ?_
   refine aD rfl rfl rfl rfl rfl rfl rfl ?_
   refine aA ?_
   refine aB rfl (aX (v := .bool (false)) (b := false) rfl rfl rfl rfl) rfl rfl ?_
   refine aA ?_
   refine aB rfl (aF rfl) rfl rfl ?_
   refine aA ?_
   refine aD rfl rfl rfl rfl rfl rfl rfl ?_
   refine aA ?_
   refine aD rfl rfl rfl rfl rfl rfl rfl ?_
   refine aA ?_
   refine aD rfl rfl rfl rfl rfl rfl rfl ?_
   refine aA ?_
   refine aD rfl rfl rfl rfl rfl rfl rfl ?_
   refine aA ?_
   refine aD rfl rfl rfl rfl rfl rfl rfl ?_
   refine aA ?_
   refine aB rfl (aX (v := .bool (false)) (b := false) rfl rfl rfl rfl) rfl rfl ?_
   refine aA ?_
   refine aB rfl (aF rfl) rfl rfl ?_
   refine aA ?_
   refine aD rfl rfl rfl rfl rfl rfl rfl ?_
   refine aA ?_
   refine aD rfl rfl rfl rfl rfl rfl rfl ?_
   refine aA ?_
   refine aD rfl rfl rfl rfl rfl rfl rfl ?_
   refine aA ?_
   refine aD rfl rfl rfl rfl rfl rfl rfl ?_
   refine aA ?_
   refine aD rfl rfl rfl rfl rfl rfl rfl ?_
   refine aA ?_
   refine aB rfl (aX (v := .bool (false)) (b := false) rfl rfl rfl rfl) rfl rfl ?_
   refine aA ?_
   refine aB rfl (aR rfl) rfl rfl ?_
   refine aI ?_
   refine aK ?_
   refine wp_ret ?_
   have hr83 : eG x y = false := by simp [eG, hg10, hg15]
   refine bI (.inl rfl) Try.results97 rfl ?_
   rw [hr83]
   exact ⟨rfl, Ha8.1⟩
 ·refine aA ?_
  refine aB rfl (bZ hg10 (bS rfl rfl)) rfl rfl ?_
  refine aA ?_
  refine aB rfl (aF rfl) rfl rfl ?_
  refine aA ?_
  refine aD rfl rfl rfl rfl rfl rfl rfl ?_
  refine aA ?_
  refine aD rfl rfl rfl rfl rfl rfl rfl ?_
  refine aA ?_
  refine aD rfl rfl rfl rfl rfl rfl rfl ?_
  refine aA ?_
  refine aD rfl rfl rfl rfl rfl rfl rfl ?_
  refine aA ?_
  refine aD rfl rfl rfl rfl rfl rfl rfl ?_
  refine aA ?_
  refine aB rfl (aX (v := .bool (false)) (b := false) rfl rfl rfl rfl) rfl rfl ?_
  refine aA ?_
  refine aB rfl (aF rfl) rfl rfl ?_
  refine aA ?_
  refine aD rfl rfl rfl rfl rfl rfl rfl ?_
  refine aA ?_
  refine aD rfl rfl rfl rfl rfl rfl rfl ?_
  refine aA ?_
  refine aD rfl rfl rfl rfl rfl rfl rfl ?_
  refine aA ?_
  refine aD rfl rfl rfl rfl rfl rfl rfl ?_
  refine aA ?_
  refine aD rfl rfl rfl rfl rfl rfl rfl ?_
  refine aA ?_
  refine aB rfl (aX (v := .bool (false)) (b := false) rfl rfl rfl rfl) rfl rfl ?_
  refine aA ?_
  refine aB rfl (aF rfl) rfl rfl ?_
  refine aA ?_
  refine aD rfl rfl rfl rfl rfl rfl rfl ?_
  refine aA ?_
  refine aD rfl rfl rfl rfl rfl rfl rfl ?_
  refine aA ?_
  refine aD rfl rfl rfl rfl rfl rfl rfl ?_
  refine aA ?_
  refine aD rfl rfl rfl rfl rfl rfl rfl ?_
  refine aA ?_
  refine aD rfl rfl rfl rfl rfl rfl rfl ?_
  refine aA ?_
  refine aB rfl (aX (v := .bool (false)) (b := false) rfl rfl rfl rfl) rfl rfl ?_
  refine aA ?_
  refine aB rfl (aF rfl) rfl rfl ?_
  refine aA ?_
  refine aD rfl rfl rfl rfl rfl rfl rfl ?_
  refine aA ?_
  refine aD rfl rfl rfl rfl rfl rfl rfl ?_
  refine aA ?_
  refine aD rfl rfl rfl rfl rfl rfl rfl ?_
  refine aA ?_
  refine aD rfl rfl rfl rfl rfl rfl rfl ?_
  refine aA ?_
  refine aD rfl rfl rfl rfl rfl rfl rfl ?_
  refine aA ?_
  refine aB rfl (aX (v := .bool (false)) (b := false) rfl rfl rfl rfl) rfl rfl ?_
  refine aA ?_
  refine aB rfl (aF rfl) rfl rfl ?_
  refine aA ?_
  refine aD rfl rfl rfl rfl rfl rfl rfl ?_
  refine aA ?_
  refine aD rfl rfl rfl rfl rfl rfl rfl ?_
  refine aA ?_
  refine aD rfl rfl rfl rfl rfl rfl rfl ?_
  refine aA ?_
  refine aD rfl rfl rfl rfl rfl rfl rfl ?_
  refine aA ?_
  refine aD rfl rfl rfl rfl rfl rfl rfl ?_
  refine aA ?_
  refine aB rfl (aX (v := .bool (false)) (b := false) rfl rfl rfl rfl) rfl rfl ?_
  refine aA ?_
  refine aB rfl (aF rfl) rfl rfl ?_
  refine aA ?_
  refine aD rfl rfl rfl rfl rfl rfl rfl ?_
  refine aA ?_
  refine aD rfl rfl rfl rfl rfl rfl rfl ?_
  refine aA ?_
  refine aD rfl rfl rfl rfl rfl rfl rfl ?_
  refine aA ?_
  refine aD rfl rfl rfl rfl rfl rfl rfl ?_
  refine aA ?_
  refine aD rfl rfl rfl rfl rfl rfl rfl ?_
  refine aA ?_
  refine aB rfl (aX (v := .bool (false)) (b := false) rfl rfl rfl rfl) rfl rfl ?_
  refine aA ?_
  refine aB rfl (aR rfl) rfl rfl ?_
  refine aI ?_
  refine aK ?_
  refine wp_ret ?_
  have hr84 : eG x y = false := by simp [eG, hg10]
  refine bI (.inl rfl) Try.results97 rfl ?_
  rw [hr84]
  exact ⟨rfl, Ha8.1⟩
theorem eqF_Link (l k : List GLink) (A A' : Option Addr) (c c' : Nat) (w : World) (h : C aW w A l) (h' : C aW w A' k) : Calls Try.prog 96 #[.slice A l.length c, .slice A' k.length c', .func (.func 97) #[] #[]] w (fD (dQ eG l k) w) := by
 have nx := h.1
 refine enter 32 [(0, .slice A l.length c), (1, .slice A' k.length c'), (2, .func (.func 97) #[] #[])] Try.func96 rfl kR ?_
 intro xj
 have H1 : St w No [] w := St.enter
 refine wp_seq ?_
 refine aN [0] rfl ?_
 refine aA ?_
 refine aB rfl (aR rfl) rfl rfl ?_
 refine aI ?_
 refine aK ?_
 refine wp_seq ?_
 refine wp_seq ?_
 refine aN [0, 1, 2, 3, 4] rfl ?_
 refine aA ?_
 refine aB rfl (aF rfl) rfl rfl ?_
 refine aA ?_
 refine aB rfl (dP Try.runUnderlying66 rfl) rfl rfl ?_
 refine aA ?_
 refine aB rfl (aF rfl) rfl rfl ?_
 refine aA ?_
 refine aB rfl (dP Try.runUnderlying66 rfl) rfl rfl ?_
 by_cases hg2 : ¬ ((l.length : Nat) : Int) = (k.length : Nat)
 ·refine aA ?_
  refine aB rfl (bX hg2 (gH rfl rfl)) rfl rfl ?_
  refine aI ?_
  refine aK ?_
  refine fK rfl ?_
  refine wp_seq ?_
  refine aN [0] rfl ?_
  refine aA ?_
  refine aB rfl (aR rfl) rfl rfl ?_
  refine aI ?_
  refine aK ?_
  refine wp_ret ?_
  refine bY ?_
  have hz3 : ∀ f, dQ f l k = false := fun f => jH f l k kO
  have hr4 : dQ eG l k = false := by simp [hz3]
  refine bI (.inl rfl) Try.results96 rfl ?_
  rw [hr4]
  exact ⟨rfl, H1.1⟩
 ·refine aA ?_
  refine aB rfl (bZ hg2 (gH rfl rfl)) rfl rfl ?_
  refine aI ?_
  refine aK ?_
  refine fA rfl ?_
  refine wp_skip ?_
  refine aK ?_
  refine wp_seq ?_
  refine wp_seq ?_
  refine aN [0, 1, 2] rfl ?_
  refine aA ?_
  refine aB rfl (aF rfl) rfl rfl ?_
  refine aA ?_
  refine aB rfl (dP Try.runUnderlying66 rfl) rfl rfl ?_
  refine aA ?_
  refine aB rfl (aF rfl) rfl rfl ?_
  refine aI ?_
  refine aK ?_
  refine wp_block ?_
  refine wp_loop_ghost (fun r a' W' => ∃ (i1 : Nat) (x' : Nat → Value), a' = bH 32 x' [(1, .slice A' k.length c'), (2, .func (.func 97) #[] #[]), (15, .slice A l.length c), (16, .int .i64 ((l.length : Nat))), (17, .int .i64 (((i1 : Nat) : Int)))] ∧ (i1 + r = l.length) ∧ (dQ eG l k = dQ eG (l.drop i1) (k.drop i1)) ∧ St w No [] W') l.length ?_ ?_
  ·exact (aZ [(1, .slice A' k.length c'), (2, .func (.func 97) #[] #[]), (15, .slice A l.length c), (16, .int .i64 ((l.length : Nat))), (17, .int .i64 (((0 : Nat) : Int)))] rfl).elim fun x' hx => ⟨0, x', hx, kO, rfl, H1⟩
  ·rintro r5 _ W6 ⟨i1, x7, rfl, hi1, hf1, H8⟩; clear H1
   refine wp_seq ?_
   refine aN [0] rfl ?_
   refine aA ?_
   refine aB rfl (gB rfl rfl) rfl rfl ?_
   refine aI ?_
   refine aK ?_
   refine wp_seq ?_
   refine dB rfl (fun hc9 => ?_) (fun hc9 => ?_)
   ·have hlt1 : i1 < l.length := by omega
    have hlu1 : i1 < k.length := by omega
    obtain ⟨ade10, cse10, hAe10, hKe10, hce10⟩ := fT h i1 hlt1
    have hle10 := gP hKe10
    have hoe10 := iW hKe10
    obtain ⟨ade11, cse11, hAe11, hKe11, hce11⟩ := fT h' i1 hlu1
    have hle11 := gP hKe11
    have hoe11 := iW hKe11
    refine wp_skip ?_
    refine aK ?_
    refine wp_seq ?_
    refine wp_block ?_
    refine wp_seq ?_
    refine aN [0, 1, 2, 3, 4, 5] rfl ?_
    refine aA ?_
    refine aB rfl (aF rfl) rfl rfl ?_
    refine aA ?_
    refine aB rfl (bQ (k := i1) Try.runUnderlying66 Try.sizeOf138 rfl rfl hAe10 hlt1) rfl rfl ?_
    refine aA ?_
    refine aB rfl (dR Try.isAgg138 Try.sizeOf138 rfl (Cat.upd hce10 H8.1) hle10) rfl rfl ?_
    refine aA ?_
    refine bP rfl Try.zeroValue138 rfl rfl H8 ?_
    intro g_5_3 W12 hu13 Ha14; clear H8; clear hu13
    refine aA ?_
    refine aB rfl (aR rfl) rfl rfl ?_
    refine aA ?_
    refine bG rfl Try.sizeOf138 rfl rfl hle10 rfl hoe10 Ha14 ?_
    intro W16 hu17 Ha18; clear Ha14; clear hu17
    refine aI ?_
    refine aK ?_
    refine wp_seq ?_
    refine aN [0, 1, 2, 3, 4, 5] rfl ?_
    refine aA ?_
    refine aB rfl (aF rfl) rfl rfl ?_
    refine aA ?_
    refine aB rfl (aF rfl) rfl rfl ?_
    refine aA ?_
    refine aB rfl (bQ (k := i1) Try.runUnderlying66 Try.sizeOf138 rfl rfl hAe11 hlu1) rfl rfl ?_
    refine aA ?_
    refine aB rfl (dR Try.isAgg138 Try.sizeOf138 rfl (Cat.upd hce11 Ha18.1) hle11) rfl rfl ?_
    refine aA ?_
    refine bP rfl Try.zeroValue138 rfl rfl Ha18 ?_
    intro g_6_4 W20 hu21 Ha22; clear Ha18; clear hu21
    refine aA ?_
    refine bG rfl Try.sizeOf138 rfl rfl hle11 rfl hoe11 Ha22 ?_
    intro W24 hu25 Ha26; clear Ha22; clear hu25
    refine aI ?_
    refine aK ?_
    refine wp_seq ?_
    refine aN [0, 1, 2, 3, 4] rfl ?_
    refine aA ?_
    refine aB rfl (aF rfl) rfl rfl ?_
    refine aA ?_
    refine aB rfl (bN Try.isAgg138 Try.sizeOf138 rfl (Ha26.blk 1 rfl) hle10) rfl rfl ?_
    refine aA ?_
    refine aB rfl (bN Try.isAgg138 Try.sizeOf138 rfl (Ha26.blk 0 rfl) hle11) rfl rfl ?_
    by_cases hg28 : eG (l[i1]) (k[i1]) = true
    ·refine aA ?_
     refine kN rfl rfl Try.call97 (vs := #[.agg (List.toArray cse10), .agg (List.toArray cse11)]) rfl rfl rfl (iF (equalLinks_i (l[i1]) (k[i1]) _ _ _ (jD Ha26.1 hKe10) (jD Ha26.1 hKe11)) hg28) ?_
     rintro e31 W30 ⟨rfl, hu29⟩; refine ⟨_, rfl, ?_⟩
     have H32 := Ha26.no hu29; clear Ha26
     refine aA ?_
     refine aB rfl (jW rfl) rfl rfl ?_
     refine aI ?_
     refine aK ?_
     refine fA rfl ?_
     refine wp_skip ?_
     refine eP ?_
     refine aK ?_
     refine aN [0, 1] rfl ?_
     refine aA ?_
     refine aB rfl (gT (k := i1) rfl rfl kO) rfl rfl ?_
     refine aA ?_
     refine aB rfl (aF rfl) rfl rfl ?_
     refine aI ?_
     refine aK ?_
     exact (aZ [(1, .slice A' k.length c'), (2, .func (.func 97) #[] #[]), (15, .slice A l.length c), (16, .int .i64 ((l.length : Nat))), (17, .int .i64 (((i1 + 1 : Nat) : Int)))] rfl).elim fun x' hx => ⟨r5 - 1, kO, i1 + 1, x', hx, kO, (hf1.trans (j5 eG l k i1 hlt1 hlu1 hg28)), H32.pick [] kD rfl⟩
    ·refine aA ?_
     refine kN rfl rfl Try.call97 (vs := #[.agg (List.toArray cse10), .agg (List.toArray cse11)]) rfl rfl rfl (iF (equalLinks_i (l[i1]) (k[i1]) _ _ _ (jD Ha26.1 hKe10) (jD Ha26.1 hKe11)) (eq_false_of_ne_true hg28)) ?_
     rintro e35 W34 ⟨rfl, hu33⟩; refine ⟨_, rfl, ?_⟩
     have H36 := Ha26.no hu33; clear Ha26
     refine aA ?_
     refine aB rfl (jW rfl) rfl rfl ?_
     refine aI ?_
     refine aK ?_
     refine fK rfl ?_
     refine wp_seq ?_
     refine aN [0] rfl ?_
     refine aA ?_
     refine aB rfl (aR rfl) rfl rfl ?_
     refine aI ?_
     refine aK ?_
     refine wp_ret ?_
     refine gJ ?_
     refine bY ?_
     refine bY ?_
     refine gJ ?_
     refine bY ?_
     have hz37 : dQ eG l k = false := hf1.trans (kW eG l k i1 hlt1 hlu1 (eq_false_of_ne_true hg28))
     have hr38 : dQ eG l k = false := by simp [hg28, hz37]
     refine bI (.inl rfl) Try.results96 rfl ?_
     rw [hr38]
     exact ⟨rfl, H36.1⟩
   ·have hd1 : dQ eG l k = true := hf1.trans (j6 eG l k i1 kO kO)
    refine wp_exit ?_
    refine dX ?_
    refine dX ?_
    refine iH ?_
    refine aK ?_
    refine wp_seq ?_
    refine aN [0] rfl ?_
    refine aA ?_
    refine aB rfl (aR rfl) rfl rfl ?_
    refine aI ?_
    refine aK ?_
    refine wp_ret ?_
    have hr39 : dQ eG l k = true := by simp [hd1]
    refine bI (.inl rfl) Try.results96 rfl ?_
    rw [hr39]
    exact ⟨rfl, H8.1⟩
theorem equalMessage_i (x y : GMessage) (cx cy : List Value) (w : World) (h : gU.K w x cx) (h' : gU.K w y cy) : Calls Try.prog 55 #[.agg cx.toArray, .agg cy.toArray] w (fD (dV x y) w) := by
 obtain ⟨Ax5, cx5, rfl, hlx5, hCx5⟩ := j4 h
 obtain ⟨Ay5, cy5, rfl, hly5, hCy5⟩ := j4 h'
 have nx5 := hCx5.1
 refine enter 66 [(0, .agg #[.int .i64 (x.Kind), .int .i64 (x.Pos), .int .i64 (x.dZ), .int .i64 (x.Question), .string (x.Name), .slice Ax5 x.dJ.length cx5, .int .i64 (x.Value.Kind), .int .i64 (x.Value.N), .int .i64 (x.Count), .int .i64 (x.Tag.Vat), .int .i64 (x.Tag.Entity), .int .i64 (x.Tag.Seq)]), (1, .agg #[.int .i64 (y.Kind), .int .i64 (y.Pos), .int .i64 (y.dZ), .int .i64 (y.Question), .string (y.Name), .slice Ay5 y.dJ.length cy5, .int .i64 (y.Value.Kind), .int .i64 (y.Value.N), .int .i64 (y.Count), .int .i64 (y.Tag.Vat), .int .i64 (y.Tag.Entity), .int .i64 (y.Tag.Seq)])] Try.func55 rfl kR ?_
 intro xj
 have H1 : St w No [] w := St.enter
 refine wp_seq ?_
 refine aN [0, 1, 2] rfl ?_
 refine aA ?_
 refine fJ rfl rfl rfl rfl H1 ?_
 intro g_0_0 W2 hu3 Ha4; clear H1; clear hu3
 refine aA ?_
 refine fJ rfl rfl rfl rfl Ha4 ?_
 intro g_0_1 W6 hu7 Ha8; clear Ha4; clear hu7
 refine aA ?_
 refine aB rfl (aR rfl) rfl rfl ?_
 refine aI ?_
 refine aK ?_
 refine wp_seq ?_
 refine aN [0, 1, 2, 3, 4, 5, 6, 7, 8, 9, 10, 11, 12, 13, 14, 15, 16, 17, 18, 19, 20, 21, 22, 23, 24, 25, 26, 27, 28, 29, 30, 31, 32, 33, 34, 35, 36, 37, 38, 39, 40, 41, 42, 43, 44, 45, 46, 47, 48, 49, 50, 51, 52, 53, 54, 55, 56, 57, 58, 59, 60, 61] rfl ?_
 refine aA ?_
 refine aB rfl (aU fa_31_0 rfl) rfl rfl ?_
 refine aA ?_
 refine aB rfl (bB (k := 0) (v := .int .i64 (x.Kind)) Try.isAgg3 rfl (Ha8.blk 1 rfl) rfl) rfl rfl ?_
 refine aA ?_
 refine aB rfl (aU fa_31_0 rfl) rfl rfl ?_
 refine aA ?_
 refine aB rfl (bB (k := 0) (v := .int .i64 (y.Kind)) Try.isAgg3 rfl (Ha8.blk 0 rfl) rfl) rfl rfl ?_
 by_cases hg10 : (x.Kind : Int) = y.Kind
 ·refine aA ?_
  refine aB rfl (bX hg10 (bS rfl rfl)) rfl rfl ?_
  refine aA ?_
  refine aB rfl (aF rfl) rfl rfl ?_
  refine aA ?_
  refine bL rfl rfl rfl rfl (fun _ ho11 => ?_)
  refine aB ho11 (aU fa_31_1 rfl) rfl rfl ?_
  refine aA ?_
  refine bL rfl rfl rfl rfl (fun _ ho12 => ?_)
  refine aB ho12 (bB (k := 1) (v := .int .i64 (x.Pos)) Try.isAgg3 rfl (Ha8.blk 1 rfl) rfl) rfl rfl ?_
  refine aA ?_
  refine bL rfl rfl rfl rfl (fun _ ho13 => ?_)
  refine aB ho13 (aU fa_31_1 rfl) rfl rfl ?_
  refine aA ?_
  refine bL rfl rfl rfl rfl (fun _ ho14 => ?_)
  refine aB ho14 (bB (k := 1) (v := .int .i64 (y.Pos)) Try.isAgg3 rfl (Ha8.blk 0 rfl) rfl) rfl rfl ?_
  by_cases hg15 : (x.Pos : Int) = y.Pos
  ·refine aA ?_
   refine bL rfl rfl rfl rfl (fun _ ho16 => ?_)
   refine aB ho16 (bX hg15 (bS rfl rfl)) rfl rfl ?_
   refine aA ?_
   refine aB rfl (aX (v := .bool (true)) (b := true) rfl rfl rfl rfl) rfl rfl ?_
   refine aA ?_
   refine aB rfl (aF rfl) rfl rfl ?_
   refine aA ?_
   refine bL rfl rfl rfl rfl (fun _ ho17 => ?_)
   refine aB ho17 (aU fa_31_2 rfl) rfl rfl ?_
   refine aA ?_
   refine bL rfl rfl rfl rfl (fun _ ho18 => ?_)
   refine aB ho18 (bB (k := 2) (v := .int .i64 (x.dZ)) Try.isAgg3 rfl (Ha8.blk 1 rfl) rfl) rfl rfl ?_
   refine aA ?_
   refine bL rfl rfl rfl rfl (fun _ ho19 => ?_)
   refine aB ho19 (aU fa_31_2 rfl) rfl rfl ?_
   refine aA ?_
   refine bL rfl rfl rfl rfl (fun _ ho20 => ?_)
   refine aB ho20 (bB (k := 2) (v := .int .i64 (y.dZ)) Try.isAgg3 rfl (Ha8.blk 0 rfl) rfl) rfl rfl ?_
   by_cases hg21 : (x.dZ : Int) = y.dZ
   ·refine aA ?_
    refine bL rfl rfl rfl rfl (fun _ ho22 => ?_)
    refine aB ho22 (bX hg21 (bS rfl rfl)) rfl rfl ?_
    refine aA ?_
    refine aB rfl (aX (v := .bool (true)) (b := true) rfl rfl rfl rfl) rfl rfl ?_
    refine aA ?_
    refine aB rfl (aF rfl) rfl rfl ?_
    refine aA ?_
    refine bL rfl rfl rfl rfl (fun _ ho23 => ?_)
    refine aB ho23 (aU fa_31_3 rfl) rfl rfl ?_
    refine aA ?_
    refine bL rfl rfl rfl rfl (fun _ ho24 => ?_)
    refine aB ho24 (bB (k := 3) (v := .int .i64 (x.Question)) Try.isAgg3 rfl (Ha8.blk 1 rfl) rfl) rfl rfl ?_
    refine aA ?_
    refine bL rfl rfl rfl rfl (fun _ ho25 => ?_)
    refine aB ho25 (aU fa_31_3 rfl) rfl rfl ?_
    refine aA ?_
    refine bL rfl rfl rfl rfl (fun _ ho26 => ?_)
    refine aB ho26 (bB (k := 3) (v := .int .i64 (y.Question)) Try.isAgg3 rfl (Ha8.blk 0 rfl) rfl) rfl rfl ?_
    by_cases hg27 : (x.Question : Int) = y.Question
    ·refine aA ?_
     refine bL rfl rfl rfl rfl (fun _ ho28 => ?_)
     refine aB ho28 (bX hg27 (bS rfl rfl)) rfl rfl ?_
     refine aA ?_
     refine aB rfl (aX (v := .bool (true)) (b := true) rfl rfl rfl rfl) rfl rfl ?_
     refine aA ?_
     refine aB rfl (aF rfl) rfl rfl ?_
     refine aA ?_
     refine bL rfl rfl rfl rfl (fun _ ho29 => ?_)
     refine aB ho29 (aU fa_31_4 rfl) rfl rfl ?_
     refine aA ?_
     refine bL rfl rfl rfl rfl (fun _ ho30 => ?_)
     refine aB ho30 (bB (k := 4) (v := .string (x.Name)) Try.isAgg9 rfl (Ha8.blk 1 rfl) rfl) rfl rfl ?_
     refine aA ?_
     refine bL rfl rfl rfl rfl (fun _ ho31 => ?_)
     refine aB ho31 (aU fa_31_4 rfl) rfl rfl ?_
     refine aA ?_
     refine bL rfl rfl rfl rfl (fun _ ho32 => ?_)
     refine aB ho32 (bB (k := 4) (v := .string (y.Name)) Try.isAgg9 rfl (Ha8.blk 0 rfl) rfl) rfl rfl ?_
     by_cases hg33 : (x.Name.toList == y.Name.toList) = true
     ·refine aA ?_
      refine bL rfl rfl rfl rfl (fun _ ho34 => ?_)
      refine aB ho34 (fI (b := x.Name.toList == y.Name.toList) hg33 (rn_streql rfl rfl)) rfl rfl ?_
      refine aA ?_
      refine aB rfl (aX (v := .bool (true)) (b := true) rfl rfl rfl rfl) rfl rfl ?_
      refine aA ?_
      refine aB rfl (aF rfl) rfl rfl ?_
      refine aA ?_
      refine bL rfl rfl rfl rfl (fun _ ho35 => ?_)
      refine aB ho35 (aU fa_31_5 rfl) rfl rfl ?_
      refine aA ?_
      refine bL rfl rfl rfl rfl (fun _ ho36 => ?_)
      refine aB ho36 (bB (k := 5) (v := .slice Ax5 x.dJ.length cx5) Try.isAgg25 rfl (Ha8.blk 1 rfl) rfl) rfl rfl ?_
      refine aA ?_
      refine bL rfl rfl rfl rfl (fun _ ho37 => ?_)
      refine aB ho37 (aU fa_31_5 rfl) rfl rfl ?_
      refine aA ?_
      refine bL rfl rfl rfl rfl (fun _ ho38 => ?_)
      refine aB ho38 (bB (k := 5) (v := .slice Ay5 y.dJ.length cy5) Try.isAgg25 rfl (Ha8.blk 0 rfl) rfl) rfl rfl ?_
      by_cases hg39 : (dQ fP x.dJ y.dJ) = true
      ·refine aA ?_
       refine bL rfl rfl rfl rfl (fun _ ho40 => ?_)
       refine bC ho40 Try.call106 (vs := #[.slice Ax5 x.dJ.length cx5, .slice Ay5 y.dJ.length cy5]) rfl rfl rfl (iF (eqI_Wire x.dJ y.dJ _ _ _ _ _ (cZ Ha8.1 hCx5) (cZ Ha8.1 hCy5)) hg39) ?_
       rintro e43 W42 ⟨rfl, hu41⟩; refine ⟨_, rfl, ?_⟩
       have H44 := Ha8.no hu41; clear Ha8
       refine aA ?_
       refine aB rfl (aX (v := .bool (true)) (b := true) rfl rfl rfl rfl) rfl rfl ?_
       refine aA ?_
       refine aB rfl (aF rfl) rfl rfl ?_
       refine aA ?_
       refine bL rfl rfl rfl rfl (fun _ ho45 => ?_)
       refine aB ho45 (aU fa_31_6 rfl) rfl rfl ?_
       refine aA ?_
       refine bL rfl rfl rfl rfl (fun _ ho46 => ?_)
       refine aB ho46 (iL (sub := #[.int .i64 (x.Value.Kind), .int .i64 (x.Value.N)]) Try.isAgg27 Try.sizeOf27 rfl (H44.blk 1 rfl) rfl rfl) rfl rfl ?_
       refine aA ?_
       refine bL rfl rfl rfl rfl (fun _ ho47 => ?_)
       refine aB ho47 (aU fa_31_6 rfl) rfl rfl ?_
       refine aA ?_
       refine bL rfl rfl rfl rfl (fun _ ho48 => ?_)
       refine aB ho48 (iL (sub := #[.int .i64 (y.Value.Kind), .int .i64 (y.Value.N)]) Try.isAgg27 Try.sizeOf27 rfl (H44.blk 0 rfl) rfl rfl) rfl rfl ?_
       by_cases hg49 : (fP x.Value y.Value) = true
       ·refine aA ?_
        refine bL rfl rfl rfl rfl (fun _ ho50 => ?_)
        refine aB ho50 (fI (b := fP x.Value y.Value) hg49 (rn_eqlA Try.eqGuardType27 rfl rfl (eqr_Wire x.Value y.Value _ 9998))) rfl rfl ?_
        refine aA ?_
        refine aB rfl (aX (v := .bool (true)) (b := true) rfl rfl rfl rfl) rfl rfl ?_
        refine aA ?_
        refine aB rfl (aF rfl) rfl rfl ?_
        refine aA ?_
        refine bL rfl rfl rfl rfl (fun _ ho51 => ?_)
        refine aB ho51 (aU fa_31_7 rfl) rfl rfl ?_
        refine aA ?_
        refine bL rfl rfl rfl rfl (fun _ ho52 => ?_)
        refine aB ho52 (bB (k := 8) (v := .int .i64 (x.Count)) Try.isAgg3 rfl (H44.blk 1 rfl) rfl) rfl rfl ?_
        refine aA ?_
        refine bL rfl rfl rfl rfl (fun _ ho53 => ?_)
        refine aB ho53 (aU fa_31_7 rfl) rfl rfl ?_
        refine aA ?_
        refine bL rfl rfl rfl rfl (fun _ ho54 => ?_)
        refine aB ho54 (bB (k := 8) (v := .int .i64 (y.Count)) Try.isAgg3 rfl (H44.blk 0 rfl) rfl) rfl rfl ?_
        by_cases hg55 : (x.Count : Int) = y.Count
        ·refine aA ?_
         refine bL rfl rfl rfl rfl (fun _ ho56 => ?_)
         refine aB ho56 (bX hg55 (bS rfl rfl)) rfl rfl ?_
         refine aA ?_
         refine aB rfl (aX (v := .bool (true)) (b := true) rfl rfl rfl rfl) rfl rfl ?_
         refine aA ?_
         refine aB rfl (aF rfl) rfl rfl ?_
         refine aA ?_
         refine bL rfl rfl rfl rfl (fun _ ho57 => ?_)
         refine aB ho57 (aU fa_31_8 rfl) rfl rfl ?_
         refine aA ?_
         refine bL rfl rfl rfl rfl (fun _ ho58 => ?_)
         refine aB ho58 (iL (sub := #[.int .i64 (x.Tag.Vat), .int .i64 (x.Tag.Entity), .int .i64 (x.Tag.Seq)]) Try.isAgg29 Try.sizeOf29 rfl (H44.blk 1 rfl) rfl rfl) rfl rfl ?_
         refine aA ?_
         refine bL rfl rfl rfl rfl (fun _ ho59 => ?_)
         refine aB ho59 (aU fa_31_8 rfl) rfl rfl ?_
         refine aA ?_
         refine bL rfl rfl rfl rfl (fun _ ho60 => ?_)
         refine aB ho60 (iL (sub := #[.int .i64 (y.Tag.Vat), .int .i64 (y.Tag.Entity), .int .i64 (y.Tag.Seq)]) Try.isAgg29 Try.sizeOf29 rfl (H44.blk 0 rfl) rfl rfl) rfl rfl ?_
         by_cases hg61 : (jM x.Tag y.Tag) = true
         ·refine aA ?_
          refine bL rfl rfl rfl rfl (fun _ ho62 => ?_)
          refine aB ho62 (fI (b := jM x.Tag y.Tag) hg61 (rn_eqlA Try.eqGuardType29 rfl rfl (eqr_Tag x.Tag y.Tag _ 9998))) rfl rfl ?_
          refine aA ?_
          refine aB rfl (aX (v := .bool (true)) (b := true) rfl rfl rfl rfl) rfl rfl ?_
          refine aA ?_
          refine aB rfl (aR rfl) rfl rfl ?_
          refine aI ?_
          refine aK ?_
          refine wp_ret ?_
          have hr63 : dV x y = true := by simp [dV, hg10, hg15, hg21, hg27, hg33, hg39, hg49, hg55, hg61]
          refine bI (.inl rfl) Try.results55 rfl ?_
          rw [hr63]
          exact ⟨rfl, H44.1⟩
         ·refine aA ?_
          refine bL rfl rfl rfl rfl (fun _ ho64 => ?_)
          refine aB ho64 (fI (b := jM x.Tag y.Tag) (eq_false_of_ne_true hg61) (rn_eqlA Try.eqGuardType29 rfl rfl (eqr_Tag x.Tag y.Tag _ 9998))) rfl rfl ?_
          refine aA ?_
          refine aB rfl (aX (v := .bool (false)) (b := true) rfl rfl rfl rfl) rfl rfl ?_
          refine aA ?_
          refine aB rfl (aR rfl) rfl rfl ?_
          refine aI ?_
          refine aK ?_
          refine wp_ret ?_
          have hr65 : dV x y = false := by simp [dV, hg10, hg15, hg21, hg27, hg33, hg39, hg49, hg55, hg61]
          refine bI (.inl rfl) Try.results55 rfl ?_
          rw [hr65]
          exact ⟨rfl, H44.1⟩
        ·refine aA ?_
         refine bL rfl rfl rfl rfl (fun _ ho66 => ?_)
         refine aB ho66 (bZ hg55 (bS rfl rfl)) rfl rfl ?_
         refine aA ?_
         refine aB rfl (aX (v := .bool (false)) (b := true) rfl rfl rfl rfl) rfl rfl ?_
         refine aA ?_
         refine aB rfl (aF rfl) rfl rfl ?_
         refine aA ?_
         refine aD rfl rfl rfl rfl rfl rfl rfl ?_
         refine aA ?_
         refine aD rfl rfl rfl rfl rfl rfl rfl ?_
         refine aA ?_
         refine aD rfl rfl rfl rfl rfl rfl rfl ?_
         refine aA ?_
         refine aD rfl rfl rfl rfl rfl rfl rfl ?_
         refine aA ?_
         refine aD rfl rfl rfl rfl rfl rfl rfl ?_
         refine aA ?_
         refine aB rfl (aX (v := .bool (false)) (b := false) rfl rfl rfl rfl) rfl rfl ?_
         refine aA ?_
         refine aB rfl (aR rfl) rfl rfl ?_
         refine aI ?_
         refine aK ?_
         refine wp_ret ?_
         have hr67 : dV x y = false := by simp [dV, hg10, hg15, hg21, hg27, hg33, hg39, hg49, hg55]
         refine bI (.inl rfl) Try.results55 rfl ?_
         rw [hr67]
         exact ⟨rfl, H44.1⟩
       ·refine aA ?_
        refine bL rfl rfl rfl rfl (fun _ ho68 => ?_)
        refine aB ho68 (fI (b := fP x.Value y.Value) (eq_false_of_ne_true hg49) (rn_eqlA Try.eqGuardType27 rfl rfl (eqr_Wire x.Value y.Value _ 9998))) rfl rfl ?_
        refine aA ?_
        refine aB rfl (aX (v := .bool (false)) (b := true) rfl rfl rfl rfl) rfl rfl ?_
        refine aA ?_
        refine aB rfl (aF rfl) rfl rfl ?_
        refine aA ?_
        refine aD rfl rfl rfl rfl rfl rfl rfl ?_
        refine aA ?_
        refine aD rfl rfl rfl rfl rfl rfl rfl ?_
        refine aA ?_
        refine aD rfl rfl rfl rfl rfl rfl rfl ?_
        refine aA ?_
        refine aD rfl rfl rfl rfl rfl rfl rfl ?_
        refine aA ?_
        refine aD rfl rfl rfl rfl rfl rfl rfl ?_
        refine aA ?_
        refine aB rfl (aX (v := .bool (false)) (b := false) rfl rfl rfl rfl) rfl rfl ?_
        refine aA ?_
        refine aB rfl (aF rfl) rfl rfl ?_
        refine aA ?_
        refine aD rfl rfl rfl rfl rfl rfl rfl ?_
        refine aA ?_
        refine aD rfl rfl rfl rfl rfl rfl rfl ?_
        refine aA ?_
        refine aD rfl rfl rfl rfl rfl rfl rfl ?_
        refine aA ?_
        refine aD rfl rfl rfl rfl rfl rfl rfl ?_
        refine aA ?_
        refine aD rfl rfl rfl rfl rfl rfl rfl ?_
        refine aA ?_
        refine aB rfl (aX (v := .bool (false)) (b := false) rfl rfl rfl rfl) rfl rfl ?_
        refine aA ?_
        refine aB rfl (aR rfl) rfl rfl ?_
        refine aI ?_
        refine aK ?_
        refine wp_ret ?_
        have hr69 : dV x y = false := by simp [dV, hg10, hg15, hg21, hg27, hg33, hg39, hg49]
        refine bI (.inl rfl) Try.results55 rfl ?_
        rw [hr69]
        exact ⟨rfl, H44.1⟩
      ·refine aA ?_
       refine bL rfl rfl rfl rfl (fun _ ho70 => ?_)
       refine bC ho70 Try.call106 (vs := #[.slice Ax5 x.dJ.length cx5, .slice Ay5 y.dJ.length cy5]) rfl rfl rfl (iF (eqI_Wire x.dJ y.dJ _ _ _ _ _ (cZ Ha8.1 hCx5) (cZ Ha8.1 hCy5)) (eq_false_of_ne_true hg39)) ?_
       rintro e73 W72 ⟨rfl, hu71⟩; refine ⟨_, rfl, ?_⟩
       have H74 := Ha8.no hu71; clear Ha8
       refine aA ?_
       refine aB rfl (aX (v := .bool (false)) (b := true) rfl rfl rfl rfl) rfl rfl ?_
       refine aA ?_
       refine aB rfl (aF rfl) rfl rfl ?_
       refine aA ?_
       refine aD rfl rfl rfl rfl rfl rfl rfl ?_
       refine aA ?_
       refine aD rfl rfl rfl rfl rfl rfl rfl ?_
       refine aA ?_
       refine aD rfl rfl rfl rfl rfl rfl rfl ?_
       refine aA ?_
       refine aD rfl rfl rfl rfl rfl rfl rfl ?_
       refine aA ?_
       refine aD rfl rfl rfl rfl rfl rfl rfl ?_
       refine aA ?_
       refine aB rfl (aX (v := .bool (false)) (b := false) rfl rfl rfl rfl) rfl rfl ?_
       refine aA ?_
       refine aB rfl (aF rfl) rfl rfl ?_
       refine aA ?_
       refine aD rfl rfl rfl rfl rfl rfl rfl ?_
       refine aA ?_
       refine aD rfl rfl rfl rfl rfl rfl rfl ?_
       refine aA ?_
       refine aD rfl rfl rfl rfl rfl rfl rfl ?_
       refine aA ?_
       refine aD rfl rfl rfl rfl rfl rfl rfl ?_
       refine aA ?_
       refine aD rfl rfl rfl rfl rfl rfl rfl ?_
       refine aA ?_
       refine aB rfl (aX (v := .bool (false)) (b := false) rfl rfl rfl rfl) rfl rfl ?_
       refine aA ?_
       refine aB rfl (aF rfl) rfl rfl ?_
       refine aA ?_
       refine aD rfl rfl rfl rfl rfl rfl rfl ?_
       refine aA ?_
       refine aD rfl rfl rfl rfl rfl rfl rfl ?_
       refine aA ?_
       refine aD rfl rfl rfl rfl rfl rfl rfl ?_
       refine aA ?_
       refine aD rfl rfl rfl rfl rfl rfl rfl ?_
       refine aA ?_
       refine aD rfl rfl rfl rfl rfl rfl rfl ?_
       refine aA ?_
       refine aB rfl (aX (v := .bool (false)) (b := false) rfl rfl rfl rfl) rfl rfl ?_
       refine aA ?_
       refine aB rfl (aR rfl) rfl rfl ?_
       refine aI ?_
       refine aK ?_
       refine wp_ret ?_
       have hr75 : dV x y = false := by simp [dV, hg10, hg15, hg21, hg27, hg33, hg39]
       refine bI (.inl rfl) Try.results55 rfl ?_
       rw [hr75]
       exact ⟨rfl, H74.1⟩
     ·refine aA ?_
      refine bL rfl rfl rfl rfl (fun _ ho76 => ?_)
      refine aB ho76 (fI (b := x.Name.toList == y.Name.toList) (eq_false_of_ne_true hg33) (rn_streql rfl rfl)) rfl rfl ?_
      refine aA ?_
      refine aB rfl (aX (v := .bool (false)) (b := true) rfl rfl rfl rfl) rfl rfl ?_
      refine aA ?_
      refine aB rfl (aF rfl) rfl rfl ?_
      refine aA ?_
      refine aD rfl rfl rfl rfl rfl rfl rfl ?_
      refine aA ?_
      refine aD rfl rfl rfl rfl rfl rfl rfl ?_
      refine aA ?_
      refine aD rfl rfl rfl rfl rfl rfl rfl ?_
      refine aA ?_
      refine aD rfl rfl rfl rfl rfl rfl rfl ?_
      refine aA ?_
      refine aD rfl rfl rfl rfl rfl rfl rfl ?_
      refine aA ?_
      refine aB rfl (aX (v := .bool (false)) (b := false) rfl rfl rfl rfl) rfl rfl ?_
      refine aA ?_
      refine aB rfl (aF rfl) rfl rfl ?_
      refine aA ?_
      refine aD rfl rfl rfl rfl rfl rfl rfl ?_
      refine aA ?_
      refine aD rfl rfl rfl rfl rfl rfl rfl ?_
      refine aA ?_
      refine aD rfl rfl rfl rfl rfl rfl rfl ?_
      refine aA ?_
      refine aD rfl rfl rfl rfl rfl rfl rfl ?_
      refine aA ?_
      refine aD rfl rfl rfl rfl rfl rfl rfl ?_
      refine aA ?_
      refine aB rfl (aX (v := .bool (false)) (b := false) rfl rfl rfl rfl) rfl rfl ?_
      refine aA ?_
      refine aB rfl (aF rfl) rfl rfl ?_
      refine aA ?_
      refine aD rfl rfl rfl rfl rfl rfl rfl ?_
      refine aA ?_
      refine aD rfl rfl rfl rfl rfl rfl rfl ?_
      refine aA ?_
      refine aD rfl rfl rfl rfl rfl rfl rfl ?_
      refine aA ?_
      refine aD rfl rfl rfl rfl rfl rfl rfl ?_
      refine aA ?_
      refine aD rfl rfl rfl rfl rfl rfl rfl ?_
      refine aA ?_
      refine aB rfl (aX (v := .bool (false)) (b := false) rfl rfl rfl rfl) rfl rfl ?_
      refine aA ?_
      refine aB rfl (aF rfl) rfl rfl ?_
      refine aA ?_
      refine aD rfl rfl rfl rfl rfl rfl rfl ?_
      refine aA ?_
      refine aD rfl rfl rfl rfl rfl rfl rfl ?_
      refine aA ?_
      refine aD rfl rfl rfl rfl rfl rfl rfl ?_
      refine aA ?_
      refine aD rfl rfl rfl rfl rfl rfl rfl ?_
      refine aA ?_
      refine aD rfl rfl rfl rfl rfl rfl rfl ?_
      refine aA ?_
      refine aB rfl (aX (v := .bool (false)) (b := false) rfl rfl rfl rfl) rfl rfl ?_
      refine aA ?_
      refine aB rfl (aR rfl) rfl rfl ?_
      refine aI ?_
      refine aK ?_
      refine wp_ret ?_
      have hr77 : dV x y = false := by simp [dV, hg10, hg15, hg21, hg27, hg33]
      refine bI (.inl rfl) Try.results55 rfl ?_
      rw [hr77]
      exact ⟨rfl, Ha8.1⟩
    ·refine aA ?_
     refine bL rfl rfl rfl rfl (fun _ ho78 => ?_)
     refine aB ho78 (bZ hg27 (bS rfl rfl)) rfl rfl ?_
     refine aA ?_
     refine aB rfl (aX (v := .bool (false)) (b := true) rfl rfl rfl rfl) rfl rfl ?_
     refine aA ?_
     refine aB rfl (aF rfl) rfl rfl ?_
     refine aA ?_
     refine aD rfl rfl rfl rfl rfl rfl rfl ?_
     refine aA ?_
     refine aD rfl rfl rfl rfl rfl rfl rfl ?_
     refine aA ?_
     refine aD rfl rfl rfl rfl rfl rfl rfl ?_
     refine aA ?_
     refine aD rfl rfl rfl rfl rfl rfl rfl ?_
     refine aA ?_
     refine aD rfl rfl rfl rfl rfl rfl rfl ?_
     refine aA ?_
     refine aB rfl (aX (v := .bool (false)) (b := false) rfl rfl rfl rfl) rfl rfl ?_
     refine aA ?_
     refine aB rfl (aF rfl) rfl rfl ?_
     refine aA ?_
     refine aD rfl rfl rfl rfl rfl rfl rfl ?_
     refine aA ?_
     refine aD rfl rfl rfl rfl rfl rfl rfl ?_
     refine aA ?_
     refine aD rfl rfl rfl rfl rfl rfl rfl ?_
     refine aA ?_
     refine aD rfl rfl rfl rfl rfl rfl rfl ?_
     refine aA ?_
     refine aD rfl rfl rfl rfl rfl rfl rfl ?_
     refine aA ?_
     refine aB rfl (aX (v := .bool (false)) (b := false) rfl rfl rfl rfl) rfl rfl ?_
     refine aA ?_
     refine aB rfl (aF rfl) rfl rfl ?_
     refine aA ?_
     refine aD rfl rfl rfl rfl rfl rfl rfl ?_
     refine aA ?_
     refine aD rfl rfl rfl rfl rfl rfl rfl ?_
     refine aA ?_
     refine aD rfl rfl rfl rfl rfl rfl rfl ?_
     refine aA ?_
     refine aD rfl rfl rfl rfl rfl rfl rfl ?_
     refine aA ?_
     refine aD rfl rfl rfl rfl rfl rfl rfl ?_
     refine aA ?_
     refine aB rfl (aX (v := .bool (false)) (b := false) rfl rfl rfl rfl) rfl rfl ?_
     refine aA ?_
     refine aB rfl (aF rfl) rfl rfl ?_
     refine aA ?_
     refine aD rfl rfl rfl rfl rfl rfl rfl ?_
     refine aA ?_
     refine aD rfl rfl rfl rfl rfl rfl rfl ?_
     refine aA ?_
     refine aD rfl rfl rfl rfl rfl rfl rfl ?_
     refine aA ?_
     refine aD rfl rfl rfl rfl rfl rfl rfl ?_
     refine aA ?_
     refine aD rfl rfl rfl rfl rfl rfl rfl ?_
     refine aA ?_
     refine aB rfl (aX (v := .bool (false)) (b := false) rfl rfl rfl rfl) rfl rfl ?_
     refine aA ?_
     refine aB rfl (aF rfl) rfl rfl ?_
     refine aA ?_
     refine aD rfl rfl rfl rfl rfl rfl rfl ?_
     refine aA ?_
     refine aD rfl rfl rfl rfl rfl rfl rfl ?_
     refine aA ?_
     refine aD rfl rfl rfl rfl rfl rfl rfl ?_
     refine aA ?_
     refine aD rfl rfl rfl rfl rfl rfl rfl ?_
     refine aA ?_
     refine aD rfl rfl rfl rfl rfl rfl rfl ?_
     refine aA ?_
     refine aB rfl (aX (v := .bool (false)) (b := false) rfl rfl rfl rfl) rfl rfl ?_
     refine aA ?_
     refine aB rfl (aR rfl) rfl rfl ?_
     refine aI ?_
     refine aK ?_
     refine wp_ret ?_
     have hr79 : dV x y = false := by simp [dV, hg10, hg15, hg21, hg27]
     refine bI (.inl rfl) Try.results55 rfl ?_
     rw [hr79]
     exact ⟨rfl, Ha8.1⟩
   ·refine aA ?_
    refine bL rfl rfl rfl rfl (fun _ ho80 => ?_)
    refine aB ho80 (bZ hg21 (bS rfl rfl)) rfl rfl ?_
    refine aA ?_
    refine aB rfl (aX (v := .bool (false)) (b := true) rfl rfl rfl rfl) rfl rfl ?_
    refine aA ?_
    refine aB rfl (aF rfl) rfl rfl ?_
    refine aA ?_
    refine aD rfl rfl rfl rfl rfl rfl rfl ?_
    refine aA ?_
    refine aD rfl rfl rfl rfl rfl rfl rfl ?_
    refine aA ?_
    refine aD rfl rfl rfl rfl rfl rfl rfl ?_
    refine aA ?_
    refine aD rfl rfl rfl rfl rfl rfl rfl ?_
    refine aA ?_
    refine aD rfl rfl rfl rfl rfl rfl rfl ?_
    refine aA ?_
    refine aB rfl (aX (v := .bool (false)) (b := false) rfl rfl rfl rfl) rfl rfl ?_
    refine aA ?_
    refine aB rfl (aF rfl) rfl rfl ?_
    refine aA ?_
    refine aD rfl rfl rfl rfl rfl rfl rfl ?_
    refine aA ?_
    refine aD rfl rfl rfl rfl rfl rfl rfl ?_
    refine aA ?_
    refine aD rfl rfl rfl rfl rfl rfl rfl ?_
    refine aA ?_
    refine aD rfl rfl rfl rfl rfl rfl rfl ?_
    refine aA ?_
    refine aD rfl rfl rfl rfl rfl rfl rfl ?_
    refine aA ?_
    refine aB rfl (aX (v := .bool (false)) (b := false) rfl rfl rfl rfl) rfl rfl ?_
    refine aA ?_
    refine aB rfl (aF rfl) rfl rfl ?_
    refine aA ?_
    refine aD rfl rfl rfl rfl rfl rfl rfl ?_
    refine aA ?_
    refine aD rfl rfl rfl rfl rfl rfl rfl ?_
    refine aA ?_
    refine aD rfl rfl rfl rfl rfl rfl rfl ?_
    refine aA ?_
    refine aD rfl rfl rfl rfl rfl rfl rfl ?_
    refine aA ?_
    refine aD rfl rfl rfl rfl rfl rfl rfl ?_
    refine aA ?_
    refine aB rfl (aX (v := .bool (false)) (b := false) rfl rfl rfl rfl) rfl rfl ?_
    refine aA ?_
    refine aB rfl (aF rfl) rfl rfl ?_
    refine aA ?_
    refine aD rfl rfl rfl rfl rfl rfl rfl ?_
    refine aA ?_
    refine aD rfl rfl rfl rfl rfl rfl rfl ?_
    refine aA ?_
    refine aD rfl rfl rfl rfl rfl rfl rfl ?_
    refine aA ?_
    refine aD rfl rfl rfl rfl rfl rfl rfl ?_
    refine aA ?_
    refine aD rfl rfl rfl rfl rfl rfl rfl ?_
    refine aA ?_
    refine aB rfl (aX (v := .bool (false)) (b := false) rfl rfl rfl rfl) rfl rfl ?_
    refine aA ?_
    refine aB rfl (aF rfl) rfl rfl ?_
    refine aA ?_
    refine aD rfl rfl rfl rfl rfl rfl rfl ?_
    refine aA ?_
    refine aD rfl rfl rfl rfl rfl rfl rfl ?_
    refine aA ?_
    refine aD rfl rfl rfl rfl rfl rfl rfl ?_
    refine aA ?_
    refine aD rfl rfl rfl rfl rfl rfl rfl ?_
    refine aA ?_
    refine aD rfl rfl rfl rfl rfl rfl rfl ?_
    refine aA ?_
    refine aB rfl (aX (v := .bool (false)) (b := false) rfl rfl rfl rfl) rfl rfl ?_
    refine aA ?_
    refine aB rfl (aF rfl) rfl rfl ?_
    refine aA ?_
    refine aD rfl rfl rfl rfl rfl rfl rfl ?_
    refine aA ?_
    refine aD rfl rfl rfl rfl rfl rfl rfl ?_
    refine aA ?_
    refine aD rfl rfl rfl rfl rfl rfl rfl ?_
    refine aA ?_
    refine aD rfl rfl rfl rfl rfl rfl rfl ?_
    refine aA ?_
    refine aD rfl rfl rfl rfl rfl rfl rfl ?_
    refine aA ?_
    refine aB rfl (aX (v := .bool (false)) (b := false) rfl rfl rfl rfl) rfl rfl ?_
    refine aA ?_
    refine aB rfl (aR rfl) rfl rfl ?_
    refine aI ?_
    refine aK ?_
    refine wp_ret ?_
    have hr81 : dV x y = false := by simp [dV, hg10, hg15, hg21]
    refine bI (.inl rfl) Try.results55 rfl ?_
    rw [hr81]
    exact ⟨rfl, Ha8.1⟩
  ·refine aA ?_
   refine bL rfl rfl rfl rfl (fun _ ho82 => ?_)
   refine aB ho82 (bZ hg15 (bS rfl rfl)) rfl rfl ?_
   refine aA ?_
   refine aB rfl (aX (v := .bool (false)) (b := true) rfl rfl rfl rfl) rfl rfl ?_
   refine aA ?_
   refine aB rfl (aF rfl) rfl rfl ?_
   refine aA ?_
   refine aD rfl rfl rfl rfl rfl rfl rfl ?_
   refine aA ?_
   refine aD rfl rfl rfl rfl rfl rfl rfl ?_
   refine aA ?_
   refine aD rfl rfl rfl rfl rfl rfl rfl ?_
   refine aA ?_
   refine aD rfl rfl rfl rfl rfl rfl rfl ?_
   refine aA ?_
   refine aD rfl rfl rfl rfl rfl rfl rfl ?_
   refine aA ?_
   refine aB rfl (aX (v := .bool (false)) (b := false) rfl rfl rfl rfl) rfl rfl ?_
   refine aA ?_
   refine aB rfl (aF rfl) rfl rfl ?_
   refine aA ?_
   refine aD rfl rfl rfl rfl rfl rfl rfl ?_
   refine aA ?_
   refine aD rfl rfl rfl rfl rfl rfl rfl ?_
   refine aA ?_
   refine aD rfl rfl rfl rfl rfl rfl rfl ?_
   refine aA ?_
   refine aD rfl rfl rfl rfl rfl rfl rfl ?_
   refine aA ?_
   refine aD rfl rfl rfl rfl rfl rfl rfl ?_
   refine aA ?_
   refine aB rfl (aX (v := .bool (false)) (b := false) rfl rfl rfl rfl) rfl rfl ?_
   refine aA ?_
   refine aB rfl (aF rfl) rfl rfl ?_
   refine aA ?_
   refine aD rfl rfl rfl rfl rfl rfl rfl ?_
   refine aA ?_
   refine aD rfl rfl rfl rfl rfl rfl rfl ?_
   refine aA ?_
   refine aD rfl rfl rfl rfl rfl rfl rfl ?_
   refine aA ?_
   refine aD rfl rfl rfl rfl rfl rfl rfl ?_
   refine aA ?_
   refine aD rfl rfl rfl rfl rfl rfl rfl ?_
   refine aA ?_
   refine aB rfl (aX (v := .bool (false)) (b := false) rfl rfl rfl rfl) rfl rfl ?_
   refine aA ?_
   refine aB rfl (aF rfl) rfl rfl ?_
   refine aA ?_
   refine aD rfl rfl rfl rfl rfl rfl rfl ?_
   refine aA ?_
   refine aD rfl rfl rfl rfl rfl rfl rfl ?_
   refine aA ?_
   refine aD rfl rfl rfl rfl rfl rfl rfl ?_
   refine aA ?_
   refine aD rfl rfl rfl rfl rfl rfl rfl ?_
   refine aA ?_
   refine aD rfl rfl rfl rfl rfl rfl rfl ?_
   refine aA ?_
   refine aB rfl (aX (v := .bool (false)) (b := false) rfl rfl rfl rfl) rfl rfl ?_
   refine aA ?_
   refine aB rfl (aF rfl) rfl rfl ?_
   refine aA ?_
   refine aD rfl rfl rfl rfl rfl rfl rfl ?_
   refine aA ?_
   refine aD rfl rfl rfl rfl rfl rfl rfl ?_
   refine aA ?_
   refine aD rfl rfl rfl rfl rfl rfl rfl ?_
   refine aA ?_
   refine aD rfl rfl rfl rfl rfl rfl rfl ?_
   refine aA ?_
   refine aD rfl rfl rfl rfl rfl rfl rfl ?_
   refine aA ?_
   refine aB rfl (aX (v := .bool (false)) (b := false) rfl rfl rfl rfl) rfl rfl ?_
   refine aA ?_
   refine aB rfl (aF rfl) rfl rfl ?_
   refine aA ?_
   refine aD rfl rfl rfl rfl rfl rfl rfl ?_
   refine aA ?_
   refine aD rfl rfl rfl rfl rfl rfl rfl ?_
   refine aA ?_
   refine aD rfl rfl rfl rfl rfl rfl rfl ?_
   refine aA ?_
   refine aD rfl rfl rfl rfl rfl rfl rfl ?_
   refine aA ?_
   refine aD rfl rfl rfl rfl rfl rfl rfl ?_
   refine aA ?_
   refine aB rfl (aX (v := .bool (false)) (b := false) rfl rfl rfl rfl) rfl rfl ?_
   refine aA ?_
   refine aB rfl (aF rfl) rfl rfl ?_
   refine aA ?_
   refine aD rfl rfl rfl rfl rfl rfl rfl ?_
   refine aA ?_
   refine aD rfl rfl rfl rfl rfl rfl rfl ?_
   refine aA ?_
   refine aD rfl rfl rfl rfl rfl rfl rfl ?_
   refine aA ?_
   refine aD rfl rfl rfl rfl rfl rfl rfl ?_
   refine aA ?_
   refine aD rfl rfl rfl rfl rfl rfl rfl ?_
   refine aA ?_
   refine aB rfl (aX (v := .bool (false)) (b := false) rfl rfl rfl rfl) rfl rfl ?_
   refine aA ?_
   refine aB rfl (aR rfl) rfl rfl ?_
   refine aI ?_
   refine aK ?_
   refine wp_ret ?_
   have hr83 : dV x y = false := by simp [dV, hg10, hg15]
   refine bI (.inl rfl) Try.results55 rfl ?_
   rw [hr83]
   exact ⟨rfl, Ha8.1⟩
 ·refine aA ?_
  refine aB rfl (bZ hg10 (bS rfl rfl)) rfl rfl ?_
  refine aA ?_
  refine aB rfl (aF rfl) rfl rfl ?_
  refine aA ?_
  refine aD rfl rfl rfl rfl rfl rfl rfl ?_
  refine aA ?_
  refine aD rfl rfl rfl rfl rfl rfl rfl ?_
  refine aA ?_
  refine aD rfl rfl rfl rfl rfl rfl rfl ?_
  refine aA ?_
  refine aD rfl rfl rfl rfl rfl rfl rfl ?_
  refine aA ?_
  refine aD rfl rfl rfl rfl rfl rfl rfl ?_
  refine aA ?_
  refine aB rfl (aX (v := .bool (false)) (b := false) rfl rfl rfl rfl) rfl rfl ?_
  refine aA ?_
  refine aB rfl (aF rfl) rfl rfl ?_
  refine aA ?_
  refine aD rfl rfl rfl rfl rfl rfl rfl ?_
  refine aA ?_
  refine aD rfl rfl rfl rfl rfl rfl rfl ?_
  refine aA ?_
  refine aD rfl rfl rfl rfl rfl rfl rfl ?_
  refine aA ?_
  refine aD rfl rfl rfl rfl rfl rfl rfl ?_
  refine aA ?_
  refine aD rfl rfl rfl rfl rfl rfl rfl ?_
  refine aA ?_
  refine aB rfl (aX (v := .bool (false)) (b := false) rfl rfl rfl rfl) rfl rfl ?_
  refine aA ?_
  refine aB rfl (aF rfl) rfl rfl ?_
  refine aA ?_
  refine aD rfl rfl rfl rfl rfl rfl rfl ?_
  refine aA ?_
  refine aD rfl rfl rfl rfl rfl rfl rfl ?_
  refine aA ?_
  refine aD rfl rfl rfl rfl rfl rfl rfl ?_
  refine aA ?_
  refine aD rfl rfl rfl rfl rfl rfl rfl ?_
  refine aA ?_
  refine aD rfl rfl rfl rfl rfl rfl rfl ?_
  refine aA ?_
  refine aB rfl (aX (v := .bool (false)) (b := false) rfl rfl rfl rfl) rfl rfl ?_
  refine aA ?_
  refine aB rfl (aF rfl) rfl rfl ?_
  refine aA ?_
  refine aD rfl rfl rfl rfl rfl rfl rfl ?_
  refine aA ?_
  refine aD rfl rfl rfl rfl rfl rfl rfl ?_
  refine aA ?_
  refine aD rfl rfl rfl rfl rfl rfl rfl ?_
  refine aA ?_
  refine aD rfl rfl rfl rfl rfl rfl rfl ?_
  refine aA ?_
  refine aD rfl rfl rfl rfl rfl rfl rfl ?_
  refine aA ?_
  refine aB rfl (aX (v := .bool (false)) (b := false) rfl rfl rfl rfl) rfl rfl ?_
  refine aA ?_
  refine aB rfl (aF rfl) rfl rfl ?_
  refine aA ?_
  refine aD rfl rfl rfl rfl rfl rfl rfl ?_
  refine aA ?_
  refine aD rfl rfl rfl rfl rfl rfl rfl ?_
  refine aA ?_
  refine aD rfl rfl rfl rfl rfl rfl rfl ?_
  refine aA ?_
  refine aD rfl rfl rfl rfl rfl rfl rfl ?_
  refine aA ?_
  refine aD rfl rfl rfl rfl rfl rfl rfl ?_
  refine aA ?_
  refine aB rfl (aX (v := .bool (false)) (b := false) rfl rfl rfl rfl) rfl rfl ?_
  refine aA ?_
  refine aB rfl (aF rfl) rfl rfl ?_
  refine aA ?_
  refine aD rfl rfl rfl rfl rfl rfl rfl ?_
  refine aA ?_
  refine aD rfl rfl rfl rfl rfl rfl rfl ?_
  refine aA ?_
  refine aD rfl rfl rfl rfl rfl rfl rfl ?_
  refine aA ?_
  refine aD rfl rfl rfl rfl rfl rfl rfl ?_
  refine aA ?_
  refine aD rfl rfl rfl rfl rfl rfl rfl ?_
  refine aA ?_
  refine aB rfl (aX (v := .bool (false)) (b := false) rfl rfl rfl rfl) rfl rfl ?_
  refine aA ?_
  refine aB rfl (aF rfl) rfl rfl ?_
  refine aA ?_
  refine aD rfl rfl rfl rfl rfl rfl rfl ?_
  refine aA ?_
  refine aD rfl rfl rfl rfl rfl rfl rfl ?_
  refine aA ?_
  refine aD rfl rfl rfl rfl rfl rfl rfl ?_
  refine aA ?_
  refine aD rfl rfl rfl rfl rfl rfl rfl ?_
  refine aA ?_
  refine aD rfl rfl rfl rfl rfl rfl rfl ?_
  refine aA ?_
  refine aB rfl (aX (v := .bool (false)) (b := false) rfl rfl rfl rfl) rfl rfl ?_
  refine aA ?_
  refine aB rfl (aF rfl) rfl rfl ?_
  refine aA ?_
  refine aD rfl rfl rfl rfl rfl rfl rfl ?_
  refine aA ?_
  refine aD rfl rfl rfl rfl rfl rfl rfl ?_
  refine aA ?_
  refine aD rfl rfl rfl rfl rfl rfl rfl ?_
  refine aA ?_
  refine aD rfl rfl rfl rfl rfl rfl rfl ?_
  refine aA ?_
  refine aD rfl rfl rfl rfl rfl rfl rfl ?_
  refine aA ?_
  refine aB rfl (aX (v := .bool (false)) (b := false) rfl rfl rfl rfl) rfl rfl ?_
  refine aA ?_
  refine aB rfl (aR rfl) rfl rfl ?_
  refine aI ?_
  refine aK ?_
  refine wp_ret ?_
  have hr84 : dV x y = false := by simp [dV, hg10]
  refine bI (.inl rfl) Try.results55 rfl ?_
  rw [hr84]
  exact ⟨rfl, Ha8.1⟩
theorem eqc_Outgoing (x y : GOutgoing) (cx cy : List Value) (w : World) (h : aS.K w x cx) (h' : aS.K w y cy) : Calls Try.prog 99 #[.agg cx.toArray, .agg cy.toArray] w (fD (dU x y) w) := by
 obtain ⟨Ax6, cx6, rfl, hlx6, hCx6⟩ := kJ h
 obtain ⟨Ay6, cy6, rfl, hly6, hCy6⟩ := kJ h'
 have nx6 := hCx6.1
 refine enter 17 [(0, .agg #[.int .i64 (x.To), .int .i64 (x.Message.Kind), .int .i64 (x.Message.Pos), .int .i64 (x.Message.dZ), .int .i64 (x.Message.Question), .string (x.Message.Name), .slice Ax6 x.Message.dJ.length cx6, .int .i64 (x.Message.Value.Kind), .int .i64 (x.Message.Value.N), .int .i64 (x.Message.Count), .int .i64 (x.Message.Tag.Vat), .int .i64 (x.Message.Tag.Entity), .int .i64 (x.Message.Tag.Seq)]), (1, .agg #[.int .i64 (y.To), .int .i64 (y.Message.Kind), .int .i64 (y.Message.Pos), .int .i64 (y.Message.dZ), .int .i64 (y.Message.Question), .string (y.Message.Name), .slice Ay6 y.Message.dJ.length cy6, .int .i64 (y.Message.Value.Kind), .int .i64 (y.Message.Value.N), .int .i64 (y.Message.Count), .int .i64 (y.Message.Tag.Vat), .int .i64 (y.Message.Tag.Entity), .int .i64 (y.Message.Tag.Seq)])] Try.func99 rfl kR ?_
 intro xj
 have H1 : St w No [] w := St.enter
 refine wp_seq ?_
 refine aN [0, 1, 2] rfl ?_
 refine aA ?_
 refine fJ rfl rfl rfl rfl H1 ?_
 intro g_0_0 W2 hu3 Ha4; clear H1; clear hu3
 refine aA ?_
 refine fJ rfl rfl rfl rfl Ha4 ?_
 intro g_0_1 W6 hu7 Ha8; clear Ha4; clear hu7
 refine aA ?_
 refine aB rfl (aR rfl) rfl rfl ?_
 refine aI ?_
 refine aK ?_
 refine wp_seq ?_
 refine aN [0, 1, 2, 3, 4, 5, 6, 7, 8, 9, 10, 11, 12] rfl ?_
 refine aA ?_
 refine aB rfl (aU fa_150_0 rfl) rfl rfl ?_
 refine aA ?_
 refine aB rfl (bB (k := 0) (v := .int .i64 (x.To)) Try.isAgg3 rfl (Ha8.blk 1 rfl) rfl) rfl rfl ?_
 refine aA ?_
 refine aB rfl (aU fa_150_0 rfl) rfl rfl ?_
 refine aA ?_
 refine aB rfl (bB (k := 0) (v := .int .i64 (y.To)) Try.isAgg3 rfl (Ha8.blk 0 rfl) rfl) rfl rfl ?_
 by_cases hg10 : (x.To : Int) = y.To
 ·refine aA ?_
  refine aB rfl (bX hg10 (bS rfl rfl)) rfl rfl ?_
  refine aA ?_
  refine aB rfl (aF rfl) rfl rfl ?_
  refine aA ?_
  refine bL rfl rfl rfl rfl (fun _ ho11 => ?_)
  refine aB ho11 (aU fa_150_1 rfl) rfl rfl ?_
  refine aA ?_
  refine bL rfl rfl rfl rfl (fun _ ho12 => ?_)
  refine aB ho12 (iL (sub := #[.int .i64 (x.Message.Kind), .int .i64 (x.Message.Pos), .int .i64 (x.Message.dZ), .int .i64 (x.Message.Question), .string (x.Message.Name), .slice Ax6 x.Message.dJ.length cx6, .int .i64 (x.Message.Value.Kind), .int .i64 (x.Message.Value.N), .int .i64 (x.Message.Count), .int .i64 (x.Message.Tag.Vat), .int .i64 (x.Message.Tag.Entity), .int .i64 (x.Message.Tag.Seq)]) Try.isAgg31 Try.sizeOf31 rfl (Ha8.blk 1 rfl) rfl rfl) rfl rfl ?_
  refine aA ?_
  refine bL rfl rfl rfl rfl (fun _ ho13 => ?_)
  refine aB ho13 (aU fa_150_1 rfl) rfl rfl ?_
  refine aA ?_
  refine bL rfl rfl rfl rfl (fun _ ho14 => ?_)
  refine aB ho14 (iL (sub := #[.int .i64 (y.Message.Kind), .int .i64 (y.Message.Pos), .int .i64 (y.Message.dZ), .int .i64 (y.Message.Question), .string (y.Message.Name), .slice Ay6 y.Message.dJ.length cy6, .int .i64 (y.Message.Value.Kind), .int .i64 (y.Message.Value.N), .int .i64 (y.Message.Count), .int .i64 (y.Message.Tag.Vat), .int .i64 (y.Message.Tag.Entity), .int .i64 (y.Message.Tag.Seq)]) Try.isAgg31 Try.sizeOf31 rfl (Ha8.blk 0 rfl) rfl rfl) rfl rfl ?_
  by_cases hg15 : (dV x.Message y.Message) = true
  ·refine aA ?_
   refine bL rfl rfl rfl rfl (fun _ ho16 => ?_)
   refine bC ho16 Try.call55 (vs := #[.agg #[.int .i64 (x.Message.Kind), .int .i64 (x.Message.Pos), .int .i64 (x.Message.dZ), .int .i64 (x.Message.Question), .string (x.Message.Name), .slice Ax6 x.Message.dJ.length cx6, .int .i64 (x.Message.Value.Kind), .int .i64 (x.Message.Value.N), .int .i64 (x.Message.Count), .int .i64 (x.Message.Tag.Vat), .int .i64 (x.Message.Tag.Entity), .int .i64 (x.Message.Tag.Seq)], .agg #[.int .i64 (y.Message.Kind), .int .i64 (y.Message.Pos), .int .i64 (y.Message.dZ), .int .i64 (y.Message.Question), .string (y.Message.Name), .slice Ay6 y.Message.dJ.length cy6, .int .i64 (y.Message.Value.Kind), .int .i64 (y.Message.Value.N), .int .i64 (y.Message.Count), .int .i64 (y.Message.Tag.Vat), .int .i64 (y.Message.Tag.Entity), .int .i64 (y.Message.Tag.Seq)]]) rfl rfl rfl (iF (equalMessage_i x.Message y.Message _ _ _ (iI _ x.Message hlx6 (cZ Ha8.1 hCx6)) (iI _ y.Message hly6 (cZ Ha8.1 hCy6))) hg15) ?_
   rintro e19 W18 ⟨rfl, hu17⟩; refine ⟨_, rfl, ?_⟩
   have H20 := Ha8.no hu17; clear Ha8
   refine aA ?_
   refine aB rfl (aX (v := .bool (true)) (b := true) rfl rfl rfl rfl) rfl rfl ?_
   refine aA ?_
   refine aB rfl (aR rfl) rfl rfl ?_
   refine aI ?_
   refine aK ?_
   refine wp_ret ?_
   have hr21 : dU x y = true := by simp [dU, hg10, hg15]
   refine bI (.inl rfl) Try.results99 rfl ?_
   rw [hr21]
   exact ⟨rfl, H20.1⟩
  ·refine aA ?_
   refine bL rfl rfl rfl rfl (fun _ ho22 => ?_)
   refine bC ho22 Try.call55 (vs := #[.agg #[.int .i64 (x.Message.Kind), .int .i64 (x.Message.Pos), .int .i64 (x.Message.dZ), .int .i64 (x.Message.Question), .string (x.Message.Name), .slice Ax6 x.Message.dJ.length cx6, .int .i64 (x.Message.Value.Kind), .int .i64 (x.Message.Value.N), .int .i64 (x.Message.Count), .int .i64 (x.Message.Tag.Vat), .int .i64 (x.Message.Tag.Entity), .int .i64 (x.Message.Tag.Seq)], .agg #[.int .i64 (y.Message.Kind), .int .i64 (y.Message.Pos), .int .i64 (y.Message.dZ), .int .i64 (y.Message.Question), .string (y.Message.Name), .slice Ay6 y.Message.dJ.length cy6, .int .i64 (y.Message.Value.Kind), .int .i64 (y.Message.Value.N), .int .i64 (y.Message.Count), .int .i64 (y.Message.Tag.Vat), .int .i64 (y.Message.Tag.Entity), .int .i64 (y.Message.Tag.Seq)]]) rfl rfl rfl (iF (equalMessage_i x.Message y.Message _ _ _ (iI _ x.Message hlx6 (cZ Ha8.1 hCx6)) (iI _ y.Message hly6 (cZ Ha8.1 hCy6))) (eq_false_of_ne_true hg15)) ?_
   rintro e25 W24 ⟨rfl, hu23⟩; refine ⟨_, rfl, ?_⟩
   have H26 := Ha8.no hu23; clear Ha8
   refine aA ?_
   refine aB rfl (aX (v := .bool (false)) (b := true) rfl rfl rfl rfl) rfl rfl ?_
   refine aA ?_
   refine aB rfl (aR rfl) rfl rfl ?_
   refine aI ?_
   refine aK ?_
   refine wp_ret ?_
   have hr27 : dU x y = false := by simp [dU, hg10, hg15]
   refine bI (.inl rfl) Try.results99 rfl ?_
   rw [hr27]
   exact ⟨rfl, H26.1⟩
 ·refine aA ?_
  refine aB rfl (bZ hg10 (bS rfl rfl)) rfl rfl ?_
  refine aA ?_
  refine aB rfl (aF rfl) rfl rfl ?_
  refine aA ?_
  refine aD rfl rfl rfl rfl rfl rfl rfl ?_
  refine aA ?_
  refine aD rfl rfl rfl rfl rfl rfl rfl ?_
  refine aA ?_
  refine aD rfl rfl rfl rfl rfl rfl rfl ?_
  refine aA ?_
  refine aD rfl rfl rfl rfl rfl rfl rfl ?_
  refine aA ?_
  refine aD rfl rfl rfl rfl rfl rfl rfl ?_
  refine aA ?_
  refine aB rfl (aX (v := .bool (false)) (b := false) rfl rfl rfl rfl) rfl rfl ?_
  refine aA ?_
  refine aB rfl (aR rfl) rfl rfl ?_
  refine aI ?_
  refine aK ?_
  refine wp_ret ?_
  have hr28 : dU x y = false := by simp [dU, hg10]
  refine bI (.inl rfl) Try.results99 rfl ?_
  rw [hr28]
  exact ⟨rfl, Ha8.1⟩
theorem eqF_Outgoing (l k : List GOutgoing) (A A' : Option Addr) (c c' : Nat) (w : World) (h : C aS w A l) (h' : C aS w A' k) : Calls Try.prog 98 #[.slice A l.length c, .slice A' k.length c', .func (.func 99) #[] #[]] w (fD (dQ dU l k) w) := by
 have nx := h.1
 refine enter 32 [(0, .slice A l.length c), (1, .slice A' k.length c'), (2, .func (.func 99) #[] #[])] Try.func98 rfl kR ?_
 intro xj
 have H1 : St w No [] w := St.enter
 refine wp_seq ?_
 refine aN [0] rfl ?_
 refine aA ?_
 refine aB rfl (aR rfl) rfl rfl ?_
 refine aI ?_
 refine aK ?_
 refine wp_seq ?_
 refine wp_seq ?_
 refine aN [0, 1, 2, 3, 4] rfl ?_
 refine aA ?_
 refine aB rfl (aF rfl) rfl rfl ?_
 refine aA ?_
 refine aB rfl (dP Try.runUnderlying67 rfl) rfl rfl ?_
 refine aA ?_
 refine aB rfl (aF rfl) rfl rfl ?_
 refine aA ?_
 refine aB rfl (dP Try.runUnderlying67 rfl) rfl rfl ?_
 by_cases hg2 : ¬ ((l.length : Nat) : Int) = (k.length : Nat)
 ·refine aA ?_
  refine aB rfl (bX hg2 (gH rfl rfl)) rfl rfl ?_
  refine aI ?_
  refine aK ?_
  refine fK rfl ?_
  refine wp_seq ?_
  refine aN [0] rfl ?_
  refine aA ?_
  refine aB rfl (aR rfl) rfl rfl ?_
  refine aI ?_
  refine aK ?_
  refine wp_ret ?_
  refine bY ?_
  have hz3 : ∀ f, dQ f l k = false := fun f => jH f l k kO
  have hr4 : dQ dU l k = false := by simp [hz3]
  refine bI (.inl rfl) Try.results98 rfl ?_
  rw [hr4]
  exact ⟨rfl, H1.1⟩
 ·refine aA ?_
  refine aB rfl (bZ hg2 (gH rfl rfl)) rfl rfl ?_
  refine aI ?_
  refine aK ?_
  refine fA rfl ?_
  refine wp_skip ?_
  refine aK ?_
  refine wp_seq ?_
  refine wp_seq ?_
  refine aN [0, 1, 2] rfl ?_
  refine aA ?_
  refine aB rfl (aF rfl) rfl rfl ?_
  refine aA ?_
  refine aB rfl (dP Try.runUnderlying67 rfl) rfl rfl ?_
  refine aA ?_
  refine aB rfl (aF rfl) rfl rfl ?_
  refine aI ?_
  refine aK ?_
  refine wp_block ?_
  refine wp_loop_ghost (fun r a' W' => ∃ (i1 : Nat) (x' : Nat → Value), a' = bH 32 x' [(1, .slice A' k.length c'), (2, .func (.func 99) #[] #[]), (15, .slice A l.length c), (16, .int .i64 ((l.length : Nat))), (17, .int .i64 (((i1 : Nat) : Int)))] ∧ (i1 + r = l.length) ∧ (dQ dU l k = dQ dU (l.drop i1) (k.drop i1)) ∧ St w No [] W') l.length ?_ ?_
  ·exact (aZ [(1, .slice A' k.length c'), (2, .func (.func 99) #[] #[]), (15, .slice A l.length c), (16, .int .i64 ((l.length : Nat))), (17, .int .i64 (((0 : Nat) : Int)))] rfl).elim fun x' hx => ⟨0, x', hx, kO, rfl, H1⟩
  ·rintro r5 _ W6 ⟨i1, x7, rfl, hi1, hf1, H8⟩; clear H1
   refine wp_seq ?_
   refine aN [0] rfl ?_
   refine aA ?_
   refine aB rfl (gB rfl rfl) rfl rfl ?_
   refine aI ?_
   refine aK ?_
   refine wp_seq ?_
   refine dB rfl (fun hc9 => ?_) (fun hc9 => ?_)
   ·have hlt1 : i1 < l.length := by omega
    have hlu1 : i1 < k.length := by omega
    obtain ⟨ade10, cse10, hAe10, hKe10, hce10⟩ := fT h i1 hlt1
    have hle10 := jJ hKe10
    have hoe10 := jK hKe10
    obtain ⟨ade11, cse11, hAe11, hKe11, hce11⟩ := fT h' i1 hlu1
    have hle11 := jJ hKe11
    have hoe11 := jK hKe11
    refine wp_skip ?_
    refine aK ?_
    refine wp_seq ?_
    refine wp_block ?_
    refine wp_seq ?_
    refine aN [0, 1, 2, 3, 4, 5] rfl ?_
    refine aA ?_
    refine aB rfl (aF rfl) rfl rfl ?_
    refine aA ?_
    refine aB rfl (bQ (k := i1) Try.runUnderlying67 Try.sizeOf150 rfl rfl hAe10 hlt1) rfl rfl ?_
    refine aA ?_
    refine aB rfl (dR Try.isAgg150 Try.sizeOf150 rfl (Cat.upd hce10 H8.1) hle10) rfl rfl ?_
    refine aA ?_
    refine bP rfl Try.zeroValue150 rfl rfl H8 ?_
    intro g_5_3 W12 hu13 Ha14; clear H8; clear hu13
    refine aA ?_
    refine aB rfl (aR rfl) rfl rfl ?_
    refine aA ?_
    refine bG rfl Try.sizeOf150 rfl rfl hle10 rfl hoe10 Ha14 ?_
    intro W16 hu17 Ha18; clear Ha14; clear hu17
    refine aI ?_
    refine aK ?_
    refine wp_seq ?_
    refine aN [0, 1, 2, 3, 4, 5] rfl ?_
    refine aA ?_
    refine aB rfl (aF rfl) rfl rfl ?_
    refine aA ?_
    refine aB rfl (aF rfl) rfl rfl ?_
    refine aA ?_
    refine aB rfl (bQ (k := i1) Try.runUnderlying67 Try.sizeOf150 rfl rfl hAe11 hlu1) rfl rfl ?_
    refine aA ?_
    refine aB rfl (dR Try.isAgg150 Try.sizeOf150 rfl (Cat.upd hce11 Ha18.1) hle11) rfl rfl ?_
    refine aA ?_
    refine bP rfl Try.zeroValue150 rfl rfl Ha18 ?_
    intro g_6_4 W20 hu21 Ha22; clear Ha18; clear hu21
    refine aA ?_
    refine bG rfl Try.sizeOf150 rfl rfl hle11 rfl hoe11 Ha22 ?_
    intro W24 hu25 Ha26; clear Ha22; clear hu25
    refine aI ?_
    refine aK ?_
    refine wp_seq ?_
    refine aN [0, 1, 2, 3, 4] rfl ?_
    refine aA ?_
    refine aB rfl (aF rfl) rfl rfl ?_
    refine aA ?_
    refine aB rfl (bN Try.isAgg150 Try.sizeOf150 rfl (Ha26.blk 1 rfl) hle10) rfl rfl ?_
    refine aA ?_
    refine aB rfl (bN Try.isAgg150 Try.sizeOf150 rfl (Ha26.blk 0 rfl) hle11) rfl rfl ?_
    by_cases hg28 : dU (l[i1]) (k[i1]) = true
    ·refine aA ?_
     refine kN rfl rfl Try.call99 (vs := #[.agg (List.toArray cse10), .agg (List.toArray cse11)]) rfl rfl rfl (iF (eqc_Outgoing (l[i1]) (k[i1]) _ _ _ (jD Ha26.1 hKe10) (jD Ha26.1 hKe11)) hg28) ?_
     rintro e31 W30 ⟨rfl, hu29⟩; refine ⟨_, rfl, ?_⟩
     have H32 := Ha26.no hu29; clear Ha26
     refine aA ?_
     refine aB rfl (jW rfl) rfl rfl ?_
     refine aI ?_
     refine aK ?_
     refine fA rfl ?_
     refine wp_skip ?_
     refine eP ?_
     refine aK ?_
     refine aN [0, 1] rfl ?_
     refine aA ?_
     refine aB rfl (gT (k := i1) rfl rfl kO) rfl rfl ?_
     refine aA ?_
     refine aB rfl (aF rfl) rfl rfl ?_
     refine aI ?_
     refine aK ?_
     exact (aZ [(1, .slice A' k.length c'), (2, .func (.func 99) #[] #[]), (15, .slice A l.length c), (16, .int .i64 ((l.length : Nat))), (17, .int .i64 (((i1 + 1 : Nat) : Int)))] rfl).elim fun x' hx => ⟨r5 - 1, kO, i1 + 1, x', hx, kO, (hf1.trans (j5 dU l k i1 hlt1 hlu1 hg28)), H32.pick [] kD rfl⟩
    ·refine aA ?_
     refine kN rfl rfl Try.call99 (vs := #[.agg (List.toArray cse10), .agg (List.toArray cse11)]) rfl rfl rfl (iF (eqc_Outgoing (l[i1]) (k[i1]) _ _ _ (jD Ha26.1 hKe10) (jD Ha26.1 hKe11)) (eq_false_of_ne_true hg28)) ?_
     rintro e35 W34 ⟨rfl, hu33⟩; refine ⟨_, rfl, ?_⟩
     have H36 := Ha26.no hu33; clear Ha26
     refine aA ?_
     refine aB rfl (jW rfl) rfl rfl ?_
     refine aI ?_
     refine aK ?_
     refine fK rfl ?_
     refine wp_seq ?_
     refine aN [0] rfl ?_
     refine aA ?_
     refine aB rfl (aR rfl) rfl rfl ?_
     refine aI ?_
     refine aK ?_
     refine wp_ret ?_
     refine gJ ?_
     refine bY ?_
     refine bY ?_
     refine gJ ?_
     refine bY ?_
     have hz37 : dQ dU l k = false := hf1.trans (kW dU l k i1 hlt1 hlu1 (eq_false_of_ne_true hg28))
     have hr38 : dQ dU l k = false := by simp [hg28, hz37]
     refine bI (.inl rfl) Try.results98 rfl ?_
     rw [hr38]
     exact ⟨rfl, H36.1⟩
   ·have hd1 : dQ dU l k = true := hf1.trans (j6 dU l k i1 kO kO)
    refine wp_exit ?_
    refine dX ?_
    refine dX ?_
    refine iH ?_
    refine aK ?_
    refine wp_seq ?_
    refine aN [0] rfl ?_
    refine aA ?_
    refine aB rfl (aR rfl) rfl rfl ?_
    refine aI ?_
    refine aK ?_
    refine wp_ret ?_
    have hr39 : dQ dU l k = true := by simp [hd1]
    refine bI (.inl rfl) Try.results98 rfl ?_
    rw [hr39]
    exact ⟨rfl, H8.1⟩
theorem equalVats_i (x y : GVat) (cx cy : List Value) (w : World) (h : bK.K w x cx) (h' : bK.K w y cy) : Calls Try.prog 39 #[.agg cx.toArray, .agg cy.toArray] w (fD (iJ x y) w) := by
 obtain ⟨Ax1, cx1, Ax2, cx2, Ax3, cx3, Ax4, cx4, rfl, hlx1, hCx1, hlx2, hCx2, hlx3, hCx3, hlx4, hCx4⟩ := lC h
 obtain ⟨Ay1, cy1, Ay2, cy2, Ay3, cy3, Ay4, cy4, rfl, hly1, hCy1, hly2, hCy2, hly3, hCy3, hly4, hCy4⟩ := lC h'
 have nx1 := hCx1.1
 have nx2 := hCx2.1
 have nx3 := hCx3.1
 have nx4 := hCx4.1
 refine enter 38 [(0, .agg #[.int .i64 (x.Id), .slice Ax1 x.aC.length cx1, .slice Ax2 x.Loop.length cx2, .slice Ax3 x.aJ.length cx3, .slice Ax4 x.Out.length cx4]), (1, .agg #[.int .i64 (y.Id), .slice Ay1 y.aC.length cy1, .slice Ay2 y.Loop.length cy2, .slice Ay3 y.aJ.length cy3, .slice Ay4 y.Out.length cy4])] Try.func39 rfl kR ?_
 intro xj
 have H1 : St w No [] w := St.enter
 refine wp_seq ?_
 refine aN [0, 1, 2] rfl ?_
 refine aA ?_
 refine fJ rfl rfl rfl rfl H1 ?_
 intro g_0_0 W2 hu3 Ha4; clear H1; clear hu3
 refine aA ?_
 refine fJ rfl rfl rfl rfl Ha4 ?_
 intro g_0_1 W6 hu7 Ha8; clear Ha4; clear hu7
 refine aA ?_
 refine aB rfl (aR rfl) rfl rfl ?_
 refine aI ?_
 refine aK ?_
 refine wp_seq ?_
 refine aN [0, 1, 2, 3, 4, 5, 6, 7, 8, 9, 10, 11, 12, 13, 14, 15, 16, 17, 18, 19, 20, 21, 22, 23, 24, 25, 26, 27, 28, 29, 30, 31, 32, 33] rfl ?_
 refine aA ?_
 refine aB rfl (aU fa_69_0 rfl) rfl rfl ?_
 refine aA ?_
 refine aB rfl (bB (k := 0) (v := .int .i64 (x.Id)) Try.isAgg3 rfl (Ha8.blk 1 rfl) rfl) rfl rfl ?_
 refine aA ?_
 refine aB rfl (aU fa_69_0 rfl) rfl rfl ?_
 refine aA ?_
 refine aB rfl (bB (k := 0) (v := .int .i64 (y.Id)) Try.isAgg3 rfl (Ha8.blk 0 rfl) rfl) rfl rfl ?_
 by_cases hg10 : (x.Id : Int) = y.Id
 ·refine aA ?_
  refine aB rfl (bX hg10 (bS rfl rfl)) rfl rfl ?_
  refine aA ?_
  refine aB rfl (aF rfl) rfl rfl ?_
  refine aA ?_
  refine bL rfl rfl rfl rfl (fun _ ho11 => ?_)
  refine aB ho11 (aU eD rfl) rfl rfl ?_
  refine aA ?_
  refine bL rfl rfl rfl rfl (fun _ ho12 => ?_)
  refine aB ho12 (bB (k := 1) (v := .slice Ax1 x.aC.length cx1) Try.isAgg64 rfl (Ha8.blk 1 rfl) rfl) rfl rfl ?_
  refine aA ?_
  refine bL rfl rfl rfl rfl (fun _ ho13 => ?_)
  refine aB ho13 (aU eD rfl) rfl rfl ?_
  refine aA ?_
  refine bL rfl rfl rfl rfl (fun _ ho14 => ?_)
  refine aB ho14 (bB (k := 1) (v := .slice Ay1 y.aC.length cy1) Try.isAgg64 rfl (Ha8.blk 0 rfl) rfl) rfl rfl ?_
  by_cases hg15 : (dQ cK x.aC y.aC) = true
  ·refine aA ?_
   refine bL rfl rfl rfl rfl (fun _ ho16 => ?_)
   refine bC ho16 Try.call94 (vs := #[.slice Ax1 x.aC.length cx1, .slice Ay1 y.aC.length cy1, .func (.func 40) #[] #[]]) rfl rfl rfl (iF (eqF_Entity x.aC y.aC _ _ _ _ _ (cZ Ha8.1 hCx1) (cZ Ha8.1 hCy1)) hg15) ?_
   rintro e19 W18 ⟨rfl, hu17⟩; refine ⟨_, rfl, ?_⟩
   have H20 := Ha8.no hu17; clear Ha8
   refine aA ?_
   refine aB rfl (aX (v := .bool (true)) (b := true) rfl rfl rfl rfl) rfl rfl ?_
   refine aA ?_
   refine aB rfl (aF rfl) rfl rfl ?_
   refine aA ?_
   refine bL rfl rfl rfl rfl (fun _ ho21 => ?_)
   refine aB ho21 (aU fa_69_2 rfl) rfl rfl ?_
   refine aA ?_
   refine bL rfl rfl rfl rfl (fun _ ho22 => ?_)
   refine aB ho22 (bB (k := 2) (v := .slice Ax2 x.Loop.length cx2) Try.isAgg65 rfl (H20.blk 1 rfl) rfl) rfl rfl ?_
   refine aA ?_
   refine bL rfl rfl rfl rfl (fun _ ho23 => ?_)
   refine aB ho23 (aU fa_69_2 rfl) rfl rfl ?_
   refine aA ?_
   refine bL rfl rfl rfl rfl (fun _ ho24 => ?_)
   refine aB ho24 (bB (k := 2) (v := .slice Ay2 y.Loop.length cy2) Try.isAgg65 rfl (H20.blk 0 rfl) rfl) rfl rfl ?_
   by_cases hg25 : (dQ eB x.Loop y.Loop) = true
   ·refine aA ?_
    refine bL rfl rfl rfl rfl (fun _ ho26 => ?_)
    refine bC ho26 Try.call95 (vs := #[.slice Ax2 x.Loop.length cx2, .slice Ay2 y.Loop.length cy2]) rfl rfl rfl (iF (kY x.Loop y.Loop _ _ _ _ _ (cZ H20.1 hCx2) (cZ H20.1 hCy2)) hg25) ?_
    rintro e29 W28 ⟨rfl, hu27⟩; refine ⟨_, rfl, ?_⟩
    have H30 := H20.no hu27; clear H20
    refine aA ?_
    refine aB rfl (aX (v := .bool (true)) (b := true) rfl rfl rfl rfl) rfl rfl ?_
    refine aA ?_
    refine aB rfl (aF rfl) rfl rfl ?_
    refine aA ?_
    refine bL rfl rfl rfl rfl (fun _ ho31 => ?_)
    refine aB ho31 (aU gW rfl) rfl rfl ?_
    refine aA ?_
    refine bL rfl rfl rfl rfl (fun _ ho32 => ?_)
    refine aB ho32 (bB (k := 3) (v := .slice Ax3 x.aJ.length cx3) Try.isAgg66 rfl (H30.blk 1 rfl) rfl) rfl rfl ?_
    refine aA ?_
    refine bL rfl rfl rfl rfl (fun _ ho33 => ?_)
    refine aB ho33 (aU gW rfl) rfl rfl ?_
    refine aA ?_
    refine bL rfl rfl rfl rfl (fun _ ho34 => ?_)
    refine aB ho34 (bB (k := 3) (v := .slice Ay3 y.aJ.length cy3) Try.isAgg66 rfl (H30.blk 0 rfl) rfl) rfl rfl ?_
    by_cases hg35 : (dQ eG x.aJ y.aJ) = true
    ·refine aA ?_
     refine bL rfl rfl rfl rfl (fun _ ho36 => ?_)
     refine bC ho36 Try.call96 (vs := #[.slice Ax3 x.aJ.length cx3, .slice Ay3 y.aJ.length cy3, .func (.func 97) #[] #[]]) rfl rfl rfl (iF (eqF_Link x.aJ y.aJ _ _ _ _ _ (cZ H30.1 hCx3) (cZ H30.1 hCy3)) hg35) ?_
     rintro e39 W38 ⟨rfl, hu37⟩; refine ⟨_, rfl, ?_⟩
     have H40 := H30.no hu37; clear H30
     refine aA ?_
     refine aB rfl (aX (v := .bool (true)) (b := true) rfl rfl rfl rfl) rfl rfl ?_
     refine aA ?_
     refine aB rfl (aF rfl) rfl rfl ?_
     refine aA ?_
     refine bL rfl rfl rfl rfl (fun _ ho41 => ?_)
     refine aB ho41 (aU kH rfl) rfl rfl ?_
     refine aA ?_
     refine bL rfl rfl rfl rfl (fun _ ho42 => ?_)
     refine aB ho42 (bB (k := 4) (v := .slice Ax4 x.Out.length cx4) Try.isAgg67 rfl (H40.blk 1 rfl) rfl) rfl rfl ?_
     refine aA ?_
     refine bL rfl rfl rfl rfl (fun _ ho43 => ?_)
     refine aB ho43 (aU kH rfl) rfl rfl ?_
     refine aA ?_
     refine bL rfl rfl rfl rfl (fun _ ho44 => ?_)
     refine aB ho44 (bB (k := 4) (v := .slice Ay4 y.Out.length cy4) Try.isAgg67 rfl (H40.blk 0 rfl) rfl) rfl rfl ?_
     by_cases hg45 : (dQ dU x.Out y.Out) = true
     ·refine aA ?_
      refine bL rfl rfl rfl rfl (fun _ ho46 => ?_)
      refine bC ho46 Try.call98 (vs := #[.slice Ax4 x.Out.length cx4, .slice Ay4 y.Out.length cy4, .func (.func 99) #[] #[]]) rfl rfl rfl (iF (eqF_Outgoing x.Out y.Out _ _ _ _ _ (cZ H40.1 hCx4) (cZ H40.1 hCy4)) hg45) ?_
      rintro e49 W48 ⟨rfl, hu47⟩; refine ⟨_, rfl, ?_⟩
      have H50 := H40.no hu47; clear H40
      refine aA ?_
      refine aB rfl (aX (v := .bool (true)) (b := true) rfl rfl rfl rfl) rfl rfl ?_
      refine aA ?_
      refine aB rfl (aR rfl) rfl rfl ?_
      refine aI ?_
      refine aK ?_
      refine wp_ret ?_
      have hr51 : iJ x y = true := by simp [iJ, hg10, hg15, hg25, hg35, hg45]
      refine bI (.inl rfl) Try.results39 rfl ?_
      rw [hr51]
      exact ⟨rfl, H50.1⟩
     ·refine aA ?_
      refine bL rfl rfl rfl rfl (fun _ ho52 => ?_)
      refine bC ho52 Try.call98 (vs := #[.slice Ax4 x.Out.length cx4, .slice Ay4 y.Out.length cy4, .func (.func 99) #[] #[]]) rfl rfl rfl (iF (eqF_Outgoing x.Out y.Out _ _ _ _ _ (cZ H40.1 hCx4) (cZ H40.1 hCy4)) (eq_false_of_ne_true hg45)) ?_
      rintro e55 W54 ⟨rfl, hu53⟩; refine ⟨_, rfl, ?_⟩
      have H56 := H40.no hu53; clear H40
      refine aA ?_
      refine aB rfl (aX (v := .bool (false)) (b := true) rfl rfl rfl rfl) rfl rfl ?_
      refine aA ?_
      refine aB rfl (aR rfl) rfl rfl ?_
      refine aI ?_
      refine aK ?_
      refine wp_ret ?_
      have hr57 : iJ x y = false := by simp [iJ, hg10, hg15, hg25, hg35, hg45]
      refine bI (.inl rfl) Try.results39 rfl ?_
      rw [hr57]
      exact ⟨rfl, H56.1⟩
    ·refine aA ?_
     refine bL rfl rfl rfl rfl (fun _ ho58 => ?_)
     refine bC ho58 Try.call96 (vs := #[.slice Ax3 x.aJ.length cx3, .slice Ay3 y.aJ.length cy3, .func (.func 97) #[] #[]]) rfl rfl rfl (iF (eqF_Link x.aJ y.aJ _ _ _ _ _ (cZ H30.1 hCx3) (cZ H30.1 hCy3)) (eq_false_of_ne_true hg35)) ?_
     rintro e61 W60 ⟨rfl, hu59⟩; refine ⟨_, rfl, ?_⟩
     have H62 := H30.no hu59; clear H30
     refine aA ?_
     refine aB rfl (aX (v := .bool (false)) (b := true) rfl rfl rfl rfl) rfl rfl ?_
     refine aA ?_
     refine aB rfl (aF rfl) rfl rfl ?_
     refine aA ?_
     refine aD rfl rfl rfl rfl rfl rfl rfl ?_
     refine aA ?_
     refine aD rfl rfl rfl rfl rfl rfl rfl ?_
     refine aA ?_
     refine aD rfl rfl rfl rfl rfl rfl rfl ?_
     refine aA ?_
     refine aD rfl rfl rfl rfl rfl rfl rfl ?_
     refine aA ?_
     refine aD rfl rfl rfl rfl rfl rfl rfl ?_
     refine aA ?_
     refine aB rfl (aX (v := .bool (false)) (b := false) rfl rfl rfl rfl) rfl rfl ?_
     refine aA ?_
     refine aB rfl (aR rfl) rfl rfl ?_
     refine aI ?_
     refine aK ?_
     refine wp_ret ?_
     have hr63 : iJ x y = false := by simp [iJ, hg10, hg15, hg25, hg35]
     refine bI (.inl rfl) Try.results39 rfl ?_
     rw [hr63]
     exact ⟨rfl, H62.1⟩
   ·refine aA ?_
    refine bL rfl rfl rfl rfl (fun _ ho64 => ?_)
    refine bC ho64 Try.call95 (vs := #[.slice Ax2 x.Loop.length cx2, .slice Ay2 y.Loop.length cy2]) rfl rfl rfl (iF (kY x.Loop y.Loop _ _ _ _ _ (cZ H20.1 hCx2) (cZ H20.1 hCy2)) (eq_false_of_ne_true hg25)) ?_
    rintro e67 W66 ⟨rfl, hu65⟩; refine ⟨_, rfl, ?_⟩
    have H68 := H20.no hu65; clear H20
    refine aA ?_
    refine aB rfl (aX (v := .bool (false)) (b := true) rfl rfl rfl rfl) rfl rfl ?_
    refine aA ?_
    refine aB rfl (aF rfl) rfl rfl ?_
    refine aA ?_
    refine aD rfl rfl rfl rfl rfl rfl rfl ?_
    refine aA ?_
    refine aD rfl rfl rfl rfl rfl rfl rfl ?_
    refine aA ?_
    refine aD rfl rfl rfl rfl rfl rfl rfl ?_
    refine aA ?_
    refine aD rfl rfl rfl rfl rfl rfl rfl ?_
    refine aA ?_
    refine aD rfl rfl rfl rfl rfl rfl rfl ?_
    refine aA ?_
    refine aB rfl (aX (v := .bool (false)) (b := false) rfl rfl rfl rfl) rfl rfl ?_
    refine aA ?_
    refine aB rfl (aF rfl) rfl rfl ?_
    refine aA ?_
    refine aD rfl rfl rfl rfl rfl rfl rfl ?_
    refine aA ?_
    refine aD rfl rfl rfl rfl rfl rfl rfl ?_
    refine aA ?_
    refine aD rfl rfl rfl rfl rfl rfl rfl ?_
    refine aA ?_
    refine aD rfl rfl rfl rfl rfl rfl rfl ?_
    refine aA ?_
    refine aD rfl rfl rfl rfl rfl rfl rfl ?_
    refine aA ?_
    refine aB rfl (aX (v := .bool (false)) (b := false) rfl rfl rfl rfl) rfl rfl ?_
    refine aA ?_
    refine aB rfl (aR rfl) rfl rfl ?_
    refine aI ?_
    refine aK ?_
    refine wp_ret ?_
    have hr69 : iJ x y = false := by simp [iJ, hg10, hg15, hg25]
    refine bI (.inl rfl) Try.results39 rfl ?_
    rw [hr69]
    exact ⟨rfl, H68.1⟩
  ·refine aA ?_
   refine bL rfl rfl rfl rfl (fun _ ho70 => ?_)
   refine bC ho70 Try.call94 (vs := #[.slice Ax1 x.aC.length cx1, .slice Ay1 y.aC.length cy1, .func (.func 40) #[] #[]]) rfl rfl rfl (iF (eqF_Entity x.aC y.aC _ _ _ _ _ (cZ Ha8.1 hCx1) (cZ Ha8.1 hCy1)) (eq_false_of_ne_true hg15)) ?_
   rintro e73 W72 ⟨rfl, hu71⟩; refine ⟨_, rfl, ?_⟩
   have H74 := Ha8.no hu71; clear Ha8
   refine aA ?_
   refine aB rfl (aX (v := .bool (false)) (b := true) rfl rfl rfl rfl) rfl rfl ?_
   refine aA ?_
   refine aB rfl (aF rfl) rfl rfl ?_
   refine aA ?_
   refine aD rfl rfl rfl rfl rfl rfl rfl ?_
   refine aA ?_
   refine aD rfl rfl rfl rfl rfl rfl rfl ?_
   refine aA ?_
   refine aD rfl rfl rfl rfl rfl rfl rfl ?_
   refine aA ?_
   refine aD rfl rfl rfl rfl rfl rfl rfl ?_
   refine aA ?_
   refine aD rfl rfl rfl rfl rfl rfl rfl ?_
   refine aA ?_
   refine aB rfl (aX (v := .bool (false)) (b := false) rfl rfl rfl rfl) rfl rfl ?_
   refine aA ?_
   refine aB rfl (aF rfl) rfl rfl ?_
   refine aA ?_
   refine aD rfl rfl rfl rfl rfl rfl rfl ?_
   refine aA ?_
   refine aD rfl rfl rfl rfl rfl rfl rfl ?_
   refine aA ?_
   refine aD rfl rfl rfl rfl rfl rfl rfl ?_
   refine aA ?_
   refine aD rfl rfl rfl rfl rfl rfl rfl ?_
   refine aA ?_
   refine aD rfl rfl rfl rfl rfl rfl rfl ?_
   refine aA ?_
   refine aB rfl (aX (v := .bool (false)) (b := false) rfl rfl rfl rfl) rfl rfl ?_
   refine aA ?_
   refine aB rfl (aF rfl) rfl rfl ?_
   refine aA ?_
   refine aD rfl rfl rfl rfl rfl rfl rfl ?_
   refine aA ?_
   refine aD rfl rfl rfl rfl rfl rfl rfl ?_
   refine aA ?_
   refine aD rfl rfl rfl rfl rfl rfl rfl ?_
   refine aA ?_
   refine aD rfl rfl rfl rfl rfl rfl rfl ?_
   refine aA ?_
   refine aD rfl rfl rfl rfl rfl rfl rfl ?_
   refine aA ?_
   refine aB rfl (aX (v := .bool (false)) (b := false) rfl rfl rfl rfl) rfl rfl ?_
   refine aA ?_
   refine aB rfl (aR rfl) rfl rfl ?_
   refine aI ?_
   refine aK ?_
   refine wp_ret ?_
   have hr75 : iJ x y = false := by simp [iJ, hg10, hg15]
   refine bI (.inl rfl) Try.results39 rfl ?_
   rw [hr75]
   exact ⟨rfl, H74.1⟩
 ·refine aA ?_
  refine aB rfl (bZ hg10 (bS rfl rfl)) rfl rfl ?_
  refine aA ?_
  refine aB rfl (aF rfl) rfl rfl ?_
  refine aA ?_
  refine aD rfl rfl rfl rfl rfl rfl rfl ?_
  refine aA ?_
  refine aD rfl rfl rfl rfl rfl rfl rfl ?_
  refine aA ?_
  refine aD rfl rfl rfl rfl rfl rfl rfl ?_
  refine aA ?_
  refine aD rfl rfl rfl rfl rfl rfl rfl ?_
  refine aA ?_
  refine aD rfl rfl rfl rfl rfl rfl rfl ?_
  refine aA ?_
  refine aB rfl (aX (v := .bool (false)) (b := false) rfl rfl rfl rfl) rfl rfl ?_
  refine aA ?_
  refine aB rfl (aF rfl) rfl rfl ?_
  refine aA ?_
  refine aD rfl rfl rfl rfl rfl rfl rfl ?_
  refine aA ?_
  refine aD rfl rfl rfl rfl rfl rfl rfl ?_
  refine aA ?_
  refine aD rfl rfl rfl rfl rfl rfl rfl ?_
  refine aA ?_
  refine aD rfl rfl rfl rfl rfl rfl rfl ?_
  refine aA ?_
  refine aD rfl rfl rfl rfl rfl rfl rfl ?_
  refine aA ?_
  refine aB rfl (aX (v := .bool (false)) (b := false) rfl rfl rfl rfl) rfl rfl ?_
  refine aA ?_
  refine aB rfl (aF rfl) rfl rfl ?_
  refine aA ?_
  refine aD rfl rfl rfl rfl rfl rfl rfl ?_
  refine aA ?_
  refine aD rfl rfl rfl rfl rfl rfl rfl ?_
  refine aA ?_
  refine aD rfl rfl rfl rfl rfl rfl rfl ?_
  refine aA ?_
  refine aD rfl rfl rfl rfl rfl rfl rfl ?_
  refine aA ?_
  refine aD rfl rfl rfl rfl rfl rfl rfl ?_
  refine aA ?_
  refine aB rfl (aX (v := .bool (false)) (b := false) rfl rfl rfl rfl) rfl rfl ?_
  refine aA ?_
  refine aB rfl (aF rfl) rfl rfl ?_
  refine aA ?_
  refine aD rfl rfl rfl rfl rfl rfl rfl ?_
  refine aA ?_
  refine aD rfl rfl rfl rfl rfl rfl rfl ?_
  refine aA ?_
  refine aD rfl rfl rfl rfl rfl rfl rfl ?_
  refine aA ?_
  refine aD rfl rfl rfl rfl rfl rfl rfl ?_
  refine aA ?_
  refine aD rfl rfl rfl rfl rfl rfl rfl ?_
  refine aA ?_
  refine aB rfl (aX (v := .bool (false)) (b := false) rfl rfl rfl rfl) rfl rfl ?_
  refine aA ?_
  refine aB rfl (aR rfl) rfl rfl ?_
  refine aI ?_
  refine aK ?_
  refine wp_ret ?_
  have hr76 : iJ x y = false := by simp [iJ, hg10]
  refine bI (.inl rfl) Try.results39 rfl ?_
  rw [hr76]
  exact ⟨rfl, Ha8.1⟩
theorem look_term : ∀ (n : Nat) {l : List GEntity} {k m ak an : Int}, gX l n k m = ⟨ak, an⟩ → ∀ (q : Nat) (hq : q < l.length), an = q → ak = 1 → l[q].Kind = 2 → ¬ l[q].State = 2
 | 0, l, k, m, ak, an, h, q, hq, _, h1, _ => by
  have e : (2 : Int) = ak := congrArg GValue.Kind h
  omega
 | n + 1, l, k, m, ak, an, h, q, hq, hn, h1, hk => by
  rw [gX] at h
  split at h
  ·rename_i hc
   split at h
   ·exact look_term n h q hq hn h1 hk
   ·rename_i hd
    have e1 : k = ak := congrArg GValue.Kind h
    have e2 : m = an := congrArg GValue.N h
    have e3 : m.toNat = q := by omega
    rw [e3] at hd
    have hd2 : l.getD q zEntity = l[q] := by simp [List.getD, hq]
    rw [hd2] at hd
    exact fun h2 => hd ⟨hk, h2⟩
  ·rename_i hc
   have e1 : k = ak := congrArg GValue.Kind h
   have e2 : m = an := congrArg GValue.N h
   exact absurd ⟨by omega, by omega, by omega⟩ hc
theorem look_idem {l : List GEntity} {n : Nat} {k m ak an : Int} (h : gX l n k m = ⟨ak, an⟩) : gX l (l.length + 1) ak an = ⟨ak, an⟩ := by
 by_cases hc : ak = 1 ∧ 0 ≤ an ∧ an < (l.length : Int)
 ·obtain ⟨rfl, h2, h3⟩ := hc
  obtain ⟨q, rfl⟩ : ∃ q : Nat, an = q := ⟨an.toNat, by omega⟩
  have hq : q < l.length := by omega
  exact look_stop l l.length q hq fun ⟨h4, h5⟩ => look_term n h q hq rfl rfl h4 h5
 ·exact look_out l l.length ak an hc
theorem nv_up (a : Int) (L : List Int) (s : Int) (i : Nat) (hi : i < L.length) : (nvV a L s).aJ.any (upP L[i]) = true := by
 refine List.any_eq_true.2 ⟨pxV 0 (zL L[i]), ?_, ?_⟩
 ·show pxV 0 (zL L[i]) ∈ (L.take L.length).map (fun p => pxV 0 (zL p))
  rw [List.take_length]
  exact List.mem_map.2 ⟨L[i], List.getElem_mem hi, rfl⟩
 ·simp [upP, pxV, zL]
theorem nv_len (a : Int) (L : List Int) (s : Int) : (nvV a L s).aC.length = L.length + 1 := lD s L L.length (Nat.le_refl _)
theorem nv_ent (a : Int) (L : List Int) (s : Int) (i : Nat) (hi : i < L.length) (h : i + 1 < (nvV a L s).aC.length) : (nvV a L s).aC[i + 1] = prE L[i] 1 := by
 have h3 : (nvV a L s).aC[i + 1]? = some (prE L[i] 1) := by
  show (objE s [] :: (L.take L.length).map (fun p => prE p 1))[i + 1]? = _
  rw [List.getElem?_cons_succ, List.getElem?_map, List.take_length, List.getElem?_eq_getElem hi]
  rfl
 exact Option.some.inj ((List.getElem?_eq_getElem h).symm.trans h3)
theorem add_at (e : GEntity) (Y : GVat) (h : Y.aC.length < 200) (hk : Y.aC.length < (dK e Y).aC.length) : (dK e Y).aC[Y.aC.length] = e := by
 have h2 : (dK e Y).aC = Y.aC ++ [e] := addL_yes e Y.aC h
 have h3 : (dK e Y).aC[Y.aC.length]? = some e := by rw [h2]; simp
 exact Option.some.inj ((List.getElem?_eq_getElem hk).symm.trans h3)
theorem add_lt (e : GEntity) (Y : GVat) (h : Y.aC.length < 200) : Y.aC.length < (dK e Y).aC.length := by
 have h2 : (dK e Y).aC = Y.aC ++ [e] := addL_yes e Y.aC h
 rw [h2]
 simp
theorem kK (x : GValue) : eH x x = true := by simp [eH]
theorem eqb_Wire_rfl (x : GWire) : fP x x = true := by simp [fP]
theorem eqb_Tag_rfl (x : GTag) : jM x x = true := by simp [jM]
theorem eqb_Asker_rfl (x : GAsker) : fQ x x = true := by simp [fQ]
theorem eqb_Export_rfl (x : GExport) : fC x x = true := by simp [fC]
theorem eqb_Question_rfl (x : GQuestion) : dW x x = true := by simp [dW]
theorem eqb_Sent_rfl (x : GSent) : eB x x = true := by simp [eB, kK, eqb_Tag_rfl, eqlS_rfl]
theorem eqb_Entity_rfl (x : GEntity) : cK x x = true := by simp [cK, kK, eqb_Sent_rfl, eqb_Asker_rfl, eqlS_rfl]
theorem eqb_Link_rfl (x : GLink) : eG x x = true := by simp [eG, eqb_Export_rfl, eqb_Question_rfl, eqlS_rfl]
theorem eqb_Message_rfl (x : GMessage) : dV x x = true := by simp [dV, eqb_Wire_rfl, eqb_Tag_rfl, eqlS_rfl]
theorem eqb_Outgoing_rfl (x : GOutgoing) : dU x x = true := by simp [dU, eqb_Message_rfl]
theorem eqb_Vat_rfl (x : GVat) : iJ x x = true := by simp [iJ, eqb_Entity_rfl, eqb_Sent_rfl, eqb_Link_rfl, eqb_Outgoing_rfl, eqlS_rfl]
theorem look_O (le : List GEntity) (k0 n0 : Int) (cE : Nat) (AE : Option Addr) (u0 u2 u3 u4 : Value) (F0 : Nat → Prop) (w : World) (h : Star [hR aL 77 (.slice AE le.length cE) le] w F0) (hne : le.length ≤ 4194304) (a : GValue) (ha : gX le (le.length + 1) k0 n0 = a) : Calls Try.prog 32 #[.agg #[u0, .slice AE le.length cE, u2, u3, u4], .agg #[.int .i64 k0, .int .i64 n0]] w (fun e' w' => e' = .returned (.agg #[.int .i64 a.Kind, .int .i64 a.N]) ∧ St w F0 [hR aL 77 (.slice AE le.length cE) le] w') := by
 refine enter 7 [(0, .agg #[u0, .slice AE le.length cE, u2, u3, u4]), (1, .agg #[.int .i64 (k0), .int .i64 (n0)])] Try.func32 rfl kR ?_
 intro xj
 have H1 : St w F0 [hR aL 77 (.slice AE le.length cE) le] w := St.iA h
 refine wp_seq ?_
 refine aN [0, 1, 2] rfl ?_
 refine aA ?_
 refine fJ rfl rfl rfl rfl H1 ?_
 intro g_0_0 W2 hu3 Ha4; clear H1; clear hu3
 refine aA ?_
 refine fJ rfl rfl rfl rfl Ha4 ?_
 intro g_0_1 W6 hu7 Ha8; clear Ha4; clear hu7
 refine aA ?_
 refine bP rfl Try.zeroValue70 rfl rfl Ha8 ?_
 intro g_0_2 W10 hu11 Ha12; clear Ha8; clear hu11
 refine aI ?_
 refine aK ?_
 refine wp_seq ?_
 refine aN [0, 1, 2] rfl ?_
 refine aA ?_
 refine aB rfl (bN Try.isAgg70 Try.sizeOf70 rfl (Ha12.blk 1 rfl) rfl) rfl rfl ?_
 refine aA ?_
 have H14 : St w F0 [hB g_0_0 69 #[u0, .slice AE le.length cE, u2, u3, u4], hR aL 77 (.slice AE le.length cE) le, hB g_0_2 70 #[.int .i64 (0), .int .i64 (0)], hB g_0_1 70 #[.int .i64 (k0), .int .i64 (n0)]] W10 := Ha12.pick [2, 3, 0, 1] kD rfl; clear Ha12
 obtain ⟨F15, hs16, _, hfr17⟩ := St.frame (l0 := [hB g_0_0 69 #[u0, .slice AE le.length cE, u2, u3, u4], hR aL 77 (.slice AE le.length cE) le]) (l := [hB g_0_2 70 #[.int .i64 (0), .int .i64 (0)], hB g_0_1 70 #[.int .i64 (k0), .int .i64 (n0)]]) H14
 refine bC rfl Try.call83 (vs := #[.pointer (some ⟨g_0_0, 0, none⟩), .agg #[.int .i64 (k0), .int .i64 (n0)]]) rfl rfl rfl (look_i le k0 n0 _ _ _ _ _ _ _ _ _ hs16 hne) ?_
 rintro e20 W19 ⟨rfl, Hn18⟩; refine ⟨_, rfl, ?_⟩
 have H21 := hfr17 _ _ Hn18; clear H14
 refine aA ?_
 have H25 : St w F0 [hB g_0_2 70 #[.int .i64 (0), .int .i64 (0)], hB g_0_0 69 #[u0, .slice AE le.length cE, u2, u3, u4], hR aL 77 (.slice AE le.length cE) le, hB g_0_1 70 #[.int .i64 (k0), .int .i64 (n0)]] W19 := H21.pick [2, 0, 1, 3] kD rfl; clear H21
 refine bG rfl Try.sizeOf70 rfl rfl rfl rfl kS H25 ?_
 intro W22 hu23 Ha24; clear H25; clear hu23
 refine aI ?_
 refine aK ?_
 refine wp_ret ?_
 refine dI (.inl rfl) Try.results32 Try.isAgg70 Try.sizeOf70 rfl (Ha24.blk 0 rfl) rfl ?_
 rw [ha]
 exact ⟨rfl, Ha24.pick [2] kD rfl⟩
theorem isUp_O (lk : List GLink) (p : Int) (cL : Nat) (AL : Option Addr) (u0 u1 u2 u4 : Value) (F0 : Nat → Prop) (w : World) (h : Star [hR aW 138 (.slice AL lk.length cL) lk] w F0) (hup : lk.any (upP p) = true) : Calls Try.prog 38 #[.agg #[u0, u1, u2, .slice AL lk.length cL, u4], .int .i64 p] w (fun e' w' => e' = .returned (.bool true) ∧ St w F0 [hR aW 138 (.slice AL lk.length cL) lk] w') := by
 obtain ⟨k, hk, hf⟩ := up_pe p lk hup
 refine enter 8 [(0, .agg #[u0, u1, u2, .slice AL lk.length cL, u4]), (1, .int .i64 (p))] Try.func38 rfl kR ?_
 intro xj
 have H1 : St w F0 [hR aW 138 (.slice AL lk.length cL) lk] w := St.iA h
 refine wp_seq ?_
 refine aN [0, 1] rfl ?_
 refine aA ?_
 refine fJ rfl rfl rfl rfl H1 ?_
 intro g_0_0 W2 hu3 Ha4; clear H1; clear hu3
 refine aA ?_
 refine aB rfl (aR rfl) rfl rfl ?_
 refine aI ?_
 refine aK ?_
 refine wp_seq ?_
 refine aN [0, 1, 2, 3] rfl ?_
 refine aA ?_
 refine aB rfl (aF rfl) rfl rfl ?_
 refine aA ?_
 obtain ⟨F6, hs7, _, hfr8⟩ := St.frame (l0 := [hB g_0_0 69 #[u0, u1, u2, .slice AL lk.length cL, u4], hR aW 138 (.slice AL lk.length cL) lk]) (l := []) Ha4
 refine bC rfl Try.call93 (vs := #[.pointer (some ⟨g_0_0, 0, none⟩), .int .i64 (p)]) rfl rfl rfl (link_yes lk p _ _ _ _ _ _ _ _ _ hs7 hup k hk hf) ?_
 rintro e11 W10 ⟨al, hal, rfl, Hn9⟩; refine ⟨_, rfl, ?_⟩
 have H12 := hfr8 _ _ Hn9; clear Ha4
 refine aA ?_
 refine aB rfl (rn_neqNilT Try.runUnderlying142 rfl rfl) rfl rfl ?_
 refine aA ?_
 refine aB rfl (aR rfl) rfl rfl ?_
 refine aI ?_
 refine aK ?_
 refine wp_ret ?_
 refine bI (.inl rfl) Try.results38 rfl ?_
 exact ⟨rfl, H12.pick [1] kD rfl⟩
theorem big_s (A : Option Addr) (n c : Nat) (w : World) : Calls Try.prog 6 #[.slice A n c] w (fD (decide ((1048576 : Int) < (n : Nat))) w) := by
 refine enter 6 [(0, .slice A n c)] Try.func6 rfl kR ?_
 intro xj
 have H1 : St w No [] w := St.enter
 refine wp_seq ?_
 refine aN [0] rfl ?_
 refine aA ?_
 refine aB rfl (aR rfl) rfl rfl ?_
 refine aI ?_
 refine aK ?_
 refine wp_seq ?_
 refine aN [0, 1, 2, 3] rfl ?_
 refine aA ?_
 refine aB rfl (aF rfl) rfl rfl ?_
 refine aA ?_
 refine aB rfl (dP Try.runUnderlying22 rfl) rfl rfl ?_
 refine aA ?_
 refine aB rfl (rn_gtr rfl rfl) rfl rfl ?_
 refine aA ?_
 refine aB rfl (aR rfl) rfl rfl ?_
 refine aI ?_
 refine aK ?_
 refine wp_ret ?_
 refine bI (.inl rfl) Try.results6 rfl ?_
 exact ⟨rfl, H1.1⟩
theorem law_FnVats (w : World) (bs : List Int) (A : Option Addr) (cb : Nat) (hC : C Kn.u8 w A bs) (hlc : bs.length ≤ cb) (hG : bs.length ≤ 9223372036854775807 ∧ ∀ y ∈ bs, (Lit.int .u8 y).wf = true) : Calls Try.prog 5 #[.slice A bs.length cb] w (fD true w) := by
 refine enter 146 [(0, .slice A bs.length cb)] Try.func5 rfl kR ?_
 intro xj
 have H1 : St w No [] w := St.enter
 refine wp_seq ?_
 refine aN [0] rfl ?_
 refine aA ?_
 refine aB rfl (aR rfl) rfl rfl ?_
 refine aI ?_
 refine aK ?_
 refine wp_seq ?_
 refine wp_seq ?_
 refine aN [0, 1] rfl ?_
 refine aA ?_
 refine aB rfl (aF rfl) rfl rfl ?_
 refine aA ?_
 refine bC rfl Try.call6 (vs := #[.slice A bs.length cb]) rfl rfl rfl (big_s _ _ _ _) ?_
 rintro e4 W3 ⟨rfl, hu2⟩; refine ⟨_, rfl, ?_⟩
 have H5 := H1.no hu2; clear H1
 refine aI ?_
 refine aK ?_
 refine dB rfl (fun hc6 => ?_) (fun hc6 => ?_)
 ·refine wp_seq ?_
  refine aN [0] rfl ?_
  refine aA ?_
  refine aB rfl (aR rfl) rfl rfl ?_
  refine aI ?_
  refine aK ?_
  refine wp_ret ?_
  refine bY ?_
  refine bI (.inl rfl) Try.results5 rfl ?_
  exact ⟨rfl, H5.1⟩
 ·have hn : bs.length ≤ 1048576 := by omega
  refine wp_skip ?_
  refine aK ?_
  refine wp_seq ?_
  refine aN [0, 1, 2, 3, 4, 5, 6, 7, 8] rfl ?_
  refine aA ?_
  refine aB rfl (aF rfl) rfl rfl ?_
  refine aA ?_
  refine bC rfl Try.call31 (vs := #[.slice A bs.length cb]) rfl rfl rfl (drawLook_s bs cb A _ (cZ H5.1 hC) hn) ?_
  rintro e10 W9 ⟨X, csX, k0, n0, rfl, hX, hst7, hu8⟩; refine ⟨_, rfl, ?_⟩
  have H11 := H5.news hu8 hst7; clear H5
  refine aA ?_
  refine aB rfl (aF rfl) rfl rfl ?_
  refine aA ?_
  refine aB rfl (dY (v := .agg (List.toArray csX)) rfl rfl) rfl rfl ?_
  refine aA ?_
  refine aB rfl (dY (v := .agg #[.int .i64 (k0), .int .i64 (n0)]) rfl rfl) rfl rfl ?_
  refine aA ?_
  refine bP rfl Try.zeroValue69 rfl rfl H11 ?_
  intro g_3_5 W12 hu13 Ha14; clear H11; clear hu13
  refine aA ?_
  refine bP rfl Try.zeroValue70 rfl rfl Ha14 ?_
  intro g_3_6 W16 hu17 Ha18; clear Ha14; clear hu17
  refine aA ?_
  have H23 : St w No [hB g_3_5 69 #[.int .i64 (0), .slice none 0 0, .slice none 0 0, .slice none 0 0, .slice none 0 0], hB g_3_6 70 #[.int .i64 (0), .int .i64 (0)], hM bK X csX] W16 := Ha18.pick [1, 0, 2] kD rfl; clear Ha18
  refine bG rfl Try.sizeOf69 rfl rfl (dF (H23.kn 2 rfl)) rfl (fM (H23.kn 2 rfl)) H23 ?_
  intro W20 hu21 Ha22; clear H23; clear hu21
  refine aA ?_
  have H28 : St w No [hB g_3_6 70 #[.int .i64 (0), .int .i64 (0)], hB g_3_5 69 (List.toArray csX), hM bK X csX] W20 := Ha22.pick [1, 0, 2] kD rfl; clear Ha22
  refine bG rfl Try.sizeOf70 rfl rfl rfl rfl kS H28 ?_
  intro W25 hu26 Ha27; clear H28; clear hu26
  refine aI ?_
  refine aK ?_
  refine wp_seq ?_
  have H30 : St w No [hM bK X csX, hB g_3_6 70 #[.int .i64 (k0), .int .i64 (n0)], hB g_3_5 69 (List.toArray csX)] W25 := Ha27.pick [2, 0, 1] kD rfl; clear Ha27
  obtain ⟨F31, hM32, hb33⟩ := H30.unM
  obtain ⟨B35, c36, B37, c38, B39, c40, B41, c42, rfl, hst34⟩ := fZ hM32
  have H43 : St w No [hR aL 77 (.slice B35 X.aC.length c36) X.aC, hR aH 181 (.slice B37 X.Loop.length c38) X.Loop, hR aW 138 (.slice B39 X.aJ.length c40) X.aJ, hR aS 150 (.slice B41 X.Out.length c42) X.Out, hB g_3_6 70 #[.int .i64 (k0), .int .i64 (n0)], hB g_3_5 69 #[.int .i64 (X.Id), .slice B35 X.aC.length c36, .slice B37 X.Loop.length c38, .slice B39 X.aJ.length c40, .slice B41 X.Out.length c42]] W25 := hb33 _ hst34; clear H30
  have hEl : X.aC.length ≤ 4194304 := by have h := ent_le X; unfold bV at h; omega
  obtain ⟨ak, an, ha⟩ : ∃ ak an, gX X.aC (X.aC.length + 1) k0 n0 = ⟨ak, an⟩ := ⟨_, _, rfl⟩
  have ha2 := look_idem ha
  refine aN [0, 1, 2, 3, 4] rfl ?_
  refine aA ?_
  refine aB rfl (bN Try.isAgg69 Try.sizeOf69 rfl (H43.blk 5 rfl) rfl) rfl rfl ?_
  refine aA ?_
  refine aB rfl (bN Try.isAgg70 Try.sizeOf70 rfl (H43.blk 4 rfl) rfl) rfl rfl ?_
  refine aA ?_
  obtain ⟨F44, hs45, _, hfr46⟩ := St.frame (l0 := [hR aL 77 (.slice B35 X.aC.length c36) X.aC]) (l := [hR aH 181 (.slice B37 X.Loop.length c38) X.Loop, hR aW 138 (.slice B39 X.aJ.length c40) X.aJ, hR aS 150 (.slice B41 X.Out.length c42) X.Out, hB g_3_6 70 #[.int .i64 (k0), .int .i64 (n0)], hB g_3_5 69 #[.int .i64 (X.Id), .slice B35 X.aC.length c36, .slice B37 X.Loop.length c38, .slice B39 X.aJ.length c40, .slice B41 X.Out.length c42]]) H43
  refine bC rfl Try.call32 (vs := #[.agg #[.int .i64 (X.Id), .slice B35 X.aC.length c36, .slice B37 X.Loop.length c38, .slice B39 X.aJ.length c40, .slice B41 X.Out.length c42], .agg #[.int .i64 (k0), .int .i64 (n0)]]) rfl rfl rfl (look_O X.aC k0 n0 _ _ _ _ _ _ _ _ hs45 hEl ⟨ak, an⟩ ha) ?_
  rintro e49 W48 ⟨rfl, Hn47⟩; refine ⟨_, rfl, ?_⟩
  have H50 := hfr46 _ _ Hn47; clear H43
  refine aA ?_
  refine bP rfl Try.zeroValue70 rfl rfl H50 ?_
  intro g_4_3 W51 hu52 Ha53; clear H50; clear hu52
  refine aA ?_
  refine bG rfl Try.sizeOf70 rfl rfl rfl rfl kS Ha53 ?_
  intro W55 hu56 Ha57; clear Ha53; clear hu56
  refine aI ?_
  refine aK ?_
  refine wp_seq ?_
  refine wp_seq ?_
  refine dG (fun W' => Blk W' g_4_3 70 #[.int .i64 (ak), .int .i64 (an)] ∧ Blk W' g_3_5 69 #[.int .i64 (X.Id), .slice B35 X.aC.length c36, .slice B37 X.Loop.length c38, .slice B39 X.aJ.length c40, .slice B41 X.Out.length c42] ∧ Blk W' g_3_6 70 #[.int .i64 (k0), .int .i64 (n0)]) 12 kR ?_
  have H59 := Ha57.drew; clear Ha57
  have hS60 : Blk W55.drew g_4_3 70 #[.int .i64 (ak), .int .i64 (an)] ∧ Blk W55.drew g_3_5 69 #[.int .i64 (X.Id), .slice B35 X.aC.length c36, .slice B37 X.Loop.length c38, .slice B39 X.aJ.length c40, .slice B41 X.Out.length c42] ∧ Blk W55.drew g_3_6 70 #[.int .i64 (k0), .int .i64 (n0)] := ⟨H59.blk 0 rfl, H59.blk 6 rfl, H59.blk 5 rfl⟩
  refine aO (i := 0) rfl kR kR kR kR kR (fun _ _ _ h => h) rfl rfl hS60 (fun W' hs' => bN Try.isAgg70 Try.sizeOf70 rfl hs'.1 rfl) ?_
  refine aO (i := 1) rfl kR kR kR kR kR (fun _ _ _ h => h) rfl rfl hS60 (fun W' hs' => bN Try.isAgg69 Try.sizeOf69 rfl hs'.2.1 rfl) ?_
  refine aO (i := 2) rfl kR kR kR kR kR (fun _ _ _ h => h) rfl rfl hS60 (fun W' hs' => bN Try.isAgg70 Try.sizeOf70 rfl hs'.2.2 rfl) ?_
  refine bM (i := 3) kR ?_
  refine bC rfl Try.call33 (vs := #[.agg #[.int .i64 (X.Id), .slice B35 X.aC.length c36, .slice B37 X.Loop.length c38, .slice B39 X.aJ.length c40, .slice B41 X.Out.length c42], .agg #[.int .i64 (k0), .int .i64 (n0)]]) rfl rfl rfl ((show _ from ha ▸ look_s X k0 n0 _ hEl _ (gZ _ X (H59.fE 1 rfl).1 (H59.fU 1 rfl) (H59.fE 2 rfl).1 (H59.fU 2 rfl) (H59.fE 3 rfl).1 (H59.fU 3 rfl) (H59.fE 4 rfl).1 (H59.fU 4 rfl)))) ?_
  rintro e63 W62 ⟨rfl, hu61⟩; refine ⟨_, rfl, ?_⟩
  have H64 := H59.no hu61; clear H59
  have hS65 := And.intro (H64.blk 0 rfl) (And.intro (H64.blk 6 rfl) (H64.blk 5 rfl)); refine ⟨fun _ => hS65, ?_⟩
  refine aO (i := 4) rfl kR kR kR kR kR (fun _ _ _ h => h) rfl rfl hS65 (fun W' hs' => fI (b := !(eH (⟨ak, an⟩ : GValue) (⟨ak, an⟩ : GValue))) (by rw [(kK _)]) (jL Try.eqGuardType70 rfl rfl (kZ (⟨ak, an⟩ : GValue) (⟨ak, an⟩ : GValue) _ 9998))) ?_
  refine aO (i := 5) rfl kR kR kR kR kR (fun _ _ _ h => h) rfl rfl hS65 (fun W' hs' => aF rfl) ?_
  refine bW (i := 6) rfl rfl rfl rfl kR kR kR kR kR (fun _ _ _ h => h) rfl rfl hS65 (fun W' hs' => bN Try.isAgg69 Try.sizeOf69 rfl hs'.2.1 rfl) ?_
  refine bW (i := 7) rfl rfl rfl rfl kR kR kR kR kR (fun _ _ _ h => h) rfl rfl hS65 (fun W' hs' => bN Try.isAgg70 Try.sizeOf70 rfl hs'.1 rfl) ?_
  refine bW (i := 9) rfl rfl rfl rfl kR kR kR kR kR (fun _ _ _ h => h) rfl rfl hS65 (fun W' hs' => bN Try.isAgg70 Try.sizeOf70 rfl hs'.1 rfl) ?_
  refine bM (i := 8) kR ?_
  refine bL rfl rfl rfl rfl (fun _ ho66 => ?_)
  have H67 : St w No [hR aL 77 (.slice B35 X.aC.length c36) X.aC, hB g_4_3 70 #[.int .i64 (ak), .int .i64 (an)], hR aH 181 (.slice B37 X.Loop.length c38) X.Loop, hR aW 138 (.slice B39 X.aJ.length c40) X.aJ, hR aS 150 (.slice B41 X.Out.length c42) X.Out, hB g_3_6 70 #[.int .i64 (k0), .int .i64 (n0)], hB g_3_5 69 #[.int .i64 (X.Id), .slice B35 X.aC.length c36, .slice B37 X.Loop.length c38, .slice B39 X.aJ.length c40, .slice B41 X.Out.length c42]] W62 := H64.pick [1, 0, 2, 3, 4, 5, 6] kD rfl; clear H64
  obtain ⟨F68, hs69, _, hfr70⟩ := St.frame (l0 := [hR aL 77 (.slice B35 X.aC.length c36) X.aC]) (l := [hB g_4_3 70 #[.int .i64 (ak), .int .i64 (an)], hR aH 181 (.slice B37 X.Loop.length c38) X.Loop, hR aW 138 (.slice B39 X.aJ.length c40) X.aJ, hR aS 150 (.slice B41 X.Out.length c42) X.Out, hB g_3_6 70 #[.int .i64 (k0), .int .i64 (n0)], hB g_3_5 69 #[.int .i64 (X.Id), .slice B35 X.aC.length c36, .slice B37 X.Loop.length c38, .slice B39 X.aJ.length c40, .slice B41 X.Out.length c42]]) H67
  refine bC ho66 Try.call32 (vs := #[.agg #[.int .i64 (X.Id), .slice B35 X.aC.length c36, .slice B37 X.Loop.length c38, .slice B39 X.aJ.length c40, .slice B41 X.Out.length c42], .agg #[.int .i64 (ak), .int .i64 (an)]]) rfl rfl rfl (look_O X.aC ak an _ _ _ _ _ _ _ _ hs69 hEl ⟨ak, an⟩ ha2) ?_
  rintro e73 W72 ⟨rfl, Hn71⟩; refine ⟨_, rfl, ?_⟩
  have H74 := hfr70 _ _ Hn71; clear H67
  have hS75 := And.intro (H74.blk 1 rfl) (And.intro (H74.blk 6 rfl) (H74.blk 5 rfl)); refine ⟨fun _ => hS75, ?_⟩
  refine bW (i := 10) rfl rfl rfl rfl kR kR kR kR kR (fun _ _ _ h => h) rfl rfl hS75 (fun W' hs' => fI (b := !(eH (⟨ak, an⟩ : GValue) (⟨ak, an⟩ : GValue))) (by rw [(kK _)]) (jL Try.eqGuardType70 rfl rfl (kZ (⟨ak, an⟩ : GValue) (⟨ak, an⟩ : GValue) _ 9998))) ?_
  refine aO (i := 11) rfl kR kR kR kR kR (fun _ _ _ h => h) rfl rfl hS75 (fun W' hs' => aX (v := .bool (false)) (b := false) rfl rfl rfl rfl) ?_
  refine cB kR ?_ _
  refine aK ?_
  refine fA rfl ?_
  refine wp_skip ?_
  refine aK ?_
  refine wp_seq ?_
  refine wp_seq ?_
  refine eU (fun a' W' => ∃ (x' : Nat → Value), a' = bH 146 x' [(0, .slice A bs.length cb), (3, .pointer (some ⟨g_3_5, 0, none⟩)), (72, .bool (false))] ∧ St w No [hR aL 77 (.slice B35 X.aC.length c36) X.aC, hB g_4_3 70 #[.int .i64 (ak), .int .i64 (an)], hR aH 181 (.slice B37 X.Loop.length c38) X.Loop, hR aW 138 (.slice B39 X.aJ.length c40) X.aJ, hR aS 150 (.slice B41 X.Out.length c42) X.Out, hB g_3_6 70 #[.int .i64 (k0), .int .i64 (n0)], hB g_3_5 69 #[.int .i64 (X.Id), .slice B35 X.aC.length c36, .slice B37 X.Loop.length c38, .slice B39 X.aJ.length c40, .slice B41 X.Out.length c42]] W') ?_ ?_
  ·refine aN [0, 1, 2, 3, 4, 5, 6, 7, 8, 9, 10, 11, 12, 13, 14, 15, 16, 17, 18, 19, 20, 21, 22, 23, 24, 25, 26, 27, 28, 29, 30, 31, 32, 33, 34, 35] rfl ?_
   refine aA ?_
   refine aB rfl (aU fa_70_0 rfl) rfl rfl ?_
   refine aA ?_
   refine aB rfl (bB (k := 0) (v := .int .i64 (ak)) Try.isAgg3 rfl (H74.blk 1 rfl) rfl) rfl rfl ?_
   by_cases hg76 : (ak : Int) = 1
   ·refine aA ?_
    refine aB rfl (bX hg76 (bS rfl rfl)) rfl rfl ?_
    refine aA ?_
    refine aB rfl (aF rfl) rfl rfl ?_
    refine aA ?_
    refine bL rfl rfl rfl rfl (fun _ ho77 => ?_)
    refine aB ho77 (aU fa_70_1 rfl) rfl rfl ?_
    refine aA ?_
    refine bL rfl rfl rfl rfl (fun _ ho78 => ?_)
    refine aB ho78 (bB (k := 1) (v := .int .i64 (an)) Try.isAgg3 rfl (H74.blk 1 rfl) rfl) rfl rfl ?_
    by_cases hg79 : (0 : Int) ≤ an
    ·refine aA ?_
     refine bL rfl rfl rfl rfl (fun _ ho80 => ?_)
     refine aB ho80 (bX hg79 (rn_geq rfl rfl)) rfl rfl ?_
     refine aA ?_
     refine aB rfl (aX (v := .bool (true)) (b := true) rfl rfl rfl rfl) rfl rfl ?_
     refine aA ?_
     refine aB rfl (aF rfl) rfl rfl ?_
     refine aA ?_
     refine bL rfl rfl rfl rfl (fun _ ho81 => ?_)
     refine aB ho81 (aU fa_70_1 rfl) rfl rfl ?_
     refine aA ?_
     refine bL rfl rfl rfl rfl (fun _ ho82 => ?_)
     refine aB ho82 (bB (k := 1) (v := .int .i64 (an)) Try.isAgg3 rfl (H74.blk 1 rfl) rfl) rfl rfl ?_
     refine aA ?_
     refine bL rfl rfl rfl rfl (fun _ ho83 => ?_)
     refine aB ho83 (aU eD rfl) rfl rfl ?_
     refine aA ?_
     refine bL rfl rfl rfl rfl (fun _ ho84 => ?_)
     refine aB ho84 (bB (k := 1) (v := .slice B35 X.aC.length c36) Try.isAgg64 rfl (H74.blk 6 rfl) rfl) rfl rfl ?_
     refine aA ?_
     refine bL rfl rfl rfl rfl (fun _ ho85 => ?_)
     refine aB ho85 (dP Try.runUnderlying64 rfl) rfl rfl ?_
     by_cases hg86 : (an : Int) < (X.aC.length : Nat)
     ·obtain ⟨kq, rfl⟩ : ∃ kq : Nat, an = kq := ⟨an.toNat, by omega⟩
      have hltk : kq < X.aC.length := by omega
      obtain ⟨gf87, rfl⟩ := H74.openS (q := kq) hltk
      obtain ⟨ce88, hn89, H90⟩ := H74.openG (q := kq) hltk; clear H74
      have H91 : St w No [hE aL 77 gf87 c36 kq ce88 X.aC, hM aL (X.aC[kq]) ce88, hB g_4_3 70 #[.int .i64 (ak), .int .i64 (((kq : Nat) : Int))], hR aH 181 (.slice B37 X.Loop.length c38) X.Loop, hR aW 138 (.slice B39 X.aJ.length c40) X.aJ, hR aS 150 (.slice B41 X.Out.length c42) X.Out, hB g_3_6 70 #[.int .i64 (k0), .int .i64 (n0)], hB g_3_5 69 #[.int .i64 (X.Id), .slice (some ⟨gf87, 0, none⟩) X.aC.length c36, .slice B37 X.Loop.length c38, .slice B39 X.aJ.length c40, .slice B41 X.Out.length c42]] W72 := H90; clear H90
      have H102 : St w No [hM aL (X.aC[kq]) ce88, hE aL 77 gf87 c36 kq ce88 X.aC, hB g_4_3 70 #[.int .i64 (ak), .int .i64 (((kq : Nat) : Int))], hR aH 181 (.slice B37 X.Loop.length c38) X.Loop, hR aW 138 (.slice B39 X.aJ.length c40) X.aJ, hR aS 150 (.slice B41 X.Out.length c42) X.Out, hB g_3_6 70 #[.int .i64 (k0), .int .i64 (n0)], hB g_3_5 69 #[.int .i64 (X.Id), .slice (some ⟨gf87, 0, none⟩) X.aC.length c36, .slice B37 X.Loop.length c38, .slice B39 X.aJ.length c40, .slice B41 X.Out.length c42]] W72 := H91.pick [1, 0, 2, 3, 4, 5, 6, 7] kD rfl; clear H91
      obtain ⟨F92, hM93, hb94⟩ := H102.unM
      obtain ⟨B96, c97, B98, c99, B100, c101, rfl, hst95⟩ := gK hM93
      have H103 : St w No [hR aP 70 (.slice B96 ((X.aC[kq]).aM.length) c97) ((X.aC[kq]).aM), hR aH 181 (.slice B98 ((X.aC[kq]).Queue.length) c99) ((X.aC[kq]).Queue), hR aQ 155 (.slice B100 ((X.aC[kq]).aG.length) c101) ((X.aC[kq]).aG), hE aL 77 gf87 c36 kq [.int .i64 ((X.aC[kq]).Kind), .int .i64 ((X.aC[kq]).Script), .slice B96 ((X.aC[kq]).aM.length) c97, .int .i64 ((X.aC[kq]).State), .int .i64 ((X.aC[kq]).Value.Kind), .int .i64 ((X.aC[kq]).Value.N), .slice B98 ((X.aC[kq]).Queue.length) c99, .slice B100 ((X.aC[kq]).aG.length) c101, .int .i64 ((X.aC[kq]).bD), .int .i64 ((X.aC[kq]).Pos), .int .i64 ((X.aC[kq]).Count), .int .i64 ((X.aC[kq]).bJ)] X.aC, hB g_4_3 70 #[.int .i64 (ak), .int .i64 (((kq : Nat) : Int))], hR aH 181 (.slice B37 X.Loop.length c38) X.Loop, hR aW 138 (.slice B39 X.aJ.length c40) X.aJ, hR aS 150 (.slice B41 X.Out.length c42) X.Out, hB g_3_6 70 #[.int .i64 (k0), .int .i64 (n0)], hB g_3_5 69 #[.int .i64 (X.Id), .slice (some ⟨gf87, 0, none⟩) X.aC.length c36, .slice B37 X.Loop.length c38, .slice B39 X.aJ.length c40, .slice B41 X.Out.length c42]] W72 := hb94 _ hst95; clear H102
      refine aA ?_
      refine bL rfl rfl rfl rfl (fun _ ho104 => ?_)
      refine aB ho104 (bX hg86 (gB rfl rfl)) rfl rfl ?_
      refine aA ?_
      refine aB rfl (aX (v := .bool (true)) (b := true) rfl rfl rfl rfl) rfl rfl ?_
      refine aA ?_
      refine aB rfl (aF rfl) rfl rfl ?_
      refine aA ?_
      refine bL rfl rfl rfl rfl (fun _ ho105 => ?_)
      refine aB ho105 (aU eD rfl) rfl rfl ?_
      refine aA ?_
      refine bL rfl rfl rfl rfl (fun _ ho106 => ?_)
      refine aB ho106 (bB (k := 1) (v := .slice (some ⟨gf87, 0, none⟩) X.aC.length c36) Try.isAgg64 rfl (H103.blk 9 rfl) rfl) rfl rfl ?_
      refine aA ?_
      refine bL rfl rfl rfl rfl (fun _ ho107 => ?_)
      refine aB ho107 (aU fa_70_1 rfl) rfl rfl ?_
      refine aA ?_
      refine bL rfl rfl rfl rfl (fun _ ho108 => ?_)
      refine aB ho108 (bB (k := 1) (v := .int .i64 (((kq : Nat) : Int))) Try.isAgg3 rfl (H103.blk 4 rfl) rfl) rfl rfl ?_
      refine aA ?_
      refine bL rfl rfl rfl rfl (fun _ ho109 => ?_)
      refine aB ho109 (bQ (k := kq) Try.runUnderlying64 Try.sizeOf77 rfl rfl rfl (Nat.lt_of_lt_of_eq hltk hn89.symm)) rfl rfl ?_
      refine aA ?_
      refine bL rfl rfl rfl rfl (fun _ ho110 => ?_)
      refine aB ho110 (aU fa_77_0 rfl) rfl rfl ?_
      refine aA ?_
      refine bL rfl rfl rfl rfl (fun _ ho111 => ?_)
      refine aB ho111 (iT (v := .int .i64 ((X.aC[kq]).Kind)) Try.isAgg3 rfl (H103.catE 3 rfl) rfl) rfl rfl ?_
      by_cases hg112 : (((X.aC[kq]).Kind) : Int) = 2
      ·refine aA ?_
       refine bL rfl rfl rfl rfl (fun _ ho113 => ?_)
       refine aB ho113 (bX hg112 (bS rfl rfl)) rfl rfl ?_
       refine aA ?_
       refine aB rfl (aX (v := .bool (true)) (b := true) rfl rfl rfl rfl) rfl rfl ?_
       refine aA ?_
       refine aB rfl (aF rfl) rfl rfl ?_
       refine aA ?_
       refine bL rfl rfl rfl rfl (fun _ ho114 => ?_)
       refine aB ho114 (aU eD rfl) rfl rfl ?_
       refine aA ?_
       refine bL rfl rfl rfl rfl (fun _ ho115 => ?_)
       refine aB ho115 (bB (k := 1) (v := .slice (some ⟨gf87, 0, none⟩) X.aC.length c36) Try.isAgg64 rfl (H103.blk 9 rfl) rfl) rfl rfl ?_
       refine aA ?_
       refine bL rfl rfl rfl rfl (fun _ ho116 => ?_)
       refine aB ho116 (aU fa_70_1 rfl) rfl rfl ?_
       refine aA ?_
       refine bL rfl rfl rfl rfl (fun _ ho117 => ?_)
       refine aB ho117 (bB (k := 1) (v := .int .i64 (((kq : Nat) : Int))) Try.isAgg3 rfl (H103.blk 4 rfl) rfl) rfl rfl ?_
       refine aA ?_
       refine bL rfl rfl rfl rfl (fun _ ho118 => ?_)
       refine aB ho118 (bQ (k := kq) Try.runUnderlying64 Try.sizeOf77 rfl rfl rfl (Nat.lt_of_lt_of_eq hltk hn89.symm)) rfl rfl ?_
       refine aA ?_
       refine bL rfl rfl rfl rfl (fun _ ho119 => ?_)
       refine aB ho119 (aU fV rfl) rfl rfl ?_
       refine aA ?_
       refine bL rfl rfl rfl rfl (fun _ ho120 => ?_)
       refine aB ho120 (iT (v := .int .i64 ((X.aC[kq]).State)) Try.isAgg3 rfl (H103.catE 3 rfl) rfl) rfl rfl ?_
       refine aA ?_
       refine bL rfl rfl rfl rfl (fun _ ho121 => ?_)
       refine aB ho121 (bZ (p := (((X.aC[kq]).State) : Int) = 2) (look_term _ ha kq hltk rfl (by assumption) (by assumption)) (bS (p := ((X.aC[kq]).State)) (q := 2) rfl rfl)) rfl rfl ?_
       refine aA ?_
       refine aB rfl (aX (v := .bool (false)) (b := true) rfl rfl rfl rfl) rfl rfl ?_
       refine aI ?_
       have H122 : St w No [hM aL (X.aC[kq]) [.int .i64 ((X.aC[kq]).Kind), .int .i64 ((X.aC[kq]).Script), .slice B96 ((X.aC[kq]).aM.length) c97, .int .i64 ((X.aC[kq]).State), .int .i64 ((X.aC[kq]).Value.Kind), .int .i64 ((X.aC[kq]).Value.N), .slice B98 ((X.aC[kq]).Queue.length) c99, .slice B100 ((X.aC[kq]).aG.length) c101, .int .i64 ((X.aC[kq]).bD), .int .i64 ((X.aC[kq]).Pos), .int .i64 ((X.aC[kq]).Count), .int .i64 ((X.aC[kq]).bJ)], hE aL 77 gf87 c36 kq [.int .i64 ((X.aC[kq]).Kind), .int .i64 ((X.aC[kq]).Script), .slice B96 ((X.aC[kq]).aM.length) c97, .int .i64 ((X.aC[kq]).State), .int .i64 ((X.aC[kq]).Value.Kind), .int .i64 ((X.aC[kq]).Value.N), .slice B98 ((X.aC[kq]).Queue.length) c99, .slice B100 ((X.aC[kq]).aG.length) c101, .int .i64 ((X.aC[kq]).bD), .int .i64 ((X.aC[kq]).Pos), .int .i64 ((X.aC[kq]).Count), .int .i64 ((X.aC[kq]).bJ)] X.aC, hB g_4_3 70 #[.int .i64 (ak), .int .i64 (((kq : Nat) : Int))], hR aH 181 (.slice B37 X.Loop.length c38) X.Loop, hR aW 138 (.slice B39 X.aJ.length c40) X.aJ, hR aS 150 (.slice B41 X.Out.length c42) X.Out, hB g_3_6 70 #[.int .i64 (k0), .int .i64 (n0)], hB g_3_5 69 #[.int .i64 (X.Id), .slice (some ⟨gf87, 0, none⟩) X.aC.length c36, .slice B37 X.Loop.length c38, .slice B39 X.aJ.length c40, .slice B41 X.Out.length c42]] W72 := H103.swap (l0 := [hR aP 70 (.slice B96 ((X.aC[kq]).aM.length) c97) ((X.aC[kq]).aM), hR aH 181 (.slice B98 ((X.aC[kq]).Queue.length) c99) ((X.aC[kq]).Queue), hR aQ 155 (.slice B100 ((X.aC[kq]).aG.length) c101) ((X.aC[kq]).aG)]) (l' := [hM aL (X.aC[kq]) [.int .i64 ((X.aC[kq]).Kind), .int .i64 ((X.aC[kq]).Script), .slice B96 ((X.aC[kq]).aM.length) c97, .int .i64 ((X.aC[kq]).State), .int .i64 ((X.aC[kq]).Value.Kind), .int .i64 ((X.aC[kq]).Value.N), .slice B98 ((X.aC[kq]).Queue.length) c99, .slice B100 ((X.aC[kq]).aG.length) c101, .int .i64 ((X.aC[kq]).bD), .int .i64 ((X.aC[kq]).Pos), .int .i64 ((X.aC[kq]).Count), .int .i64 ((X.aC[kq]).bJ)]]) (fun _ h => Star.one (gD (x := X.aC[kq]) h)); clear H103
       have H123 : St w No [hE aL 77 gf87 c36 kq [.int .i64 ((X.aC[kq]).Kind), .int .i64 ((X.aC[kq]).Script), .slice B96 ((X.aC[kq]).aM.length) c97, .int .i64 ((X.aC[kq]).State), .int .i64 ((X.aC[kq]).Value.Kind), .int .i64 ((X.aC[kq]).Value.N), .slice B98 ((X.aC[kq]).Queue.length) c99, .slice B100 ((X.aC[kq]).aG.length) c101, .int .i64 ((X.aC[kq]).bD), .int .i64 ((X.aC[kq]).Pos), .int .i64 ((X.aC[kq]).Count), .int .i64 ((X.aC[kq]).bJ)] X.aC, hM aL (X.aC[kq]) [.int .i64 ((X.aC[kq]).Kind), .int .i64 ((X.aC[kq]).Script), .slice B96 ((X.aC[kq]).aM.length) c97, .int .i64 ((X.aC[kq]).State), .int .i64 ((X.aC[kq]).Value.Kind), .int .i64 ((X.aC[kq]).Value.N), .slice B98 ((X.aC[kq]).Queue.length) c99, .slice B100 ((X.aC[kq]).aG.length) c101, .int .i64 ((X.aC[kq]).bD), .int .i64 ((X.aC[kq]).Pos), .int .i64 ((X.aC[kq]).Count), .int .i64 ((X.aC[kq]).bJ)], hB g_4_3 70 #[.int .i64 (ak), .int .i64 (((kq : Nat) : Int))], hR aH 181 (.slice B37 X.Loop.length c38) X.Loop, hR aW 138 (.slice B39 X.aJ.length c40) X.aJ, hR aS 150 (.slice B41 X.Out.length c42) X.Out, hB g_3_6 70 #[.int .i64 (k0), .int .i64 (n0)], hB g_3_5 69 #[.int .i64 (X.Id), .slice (some ⟨gf87, 0, none⟩) X.aC.length c36, .slice B37 X.Loop.length c38, .slice B39 X.aJ.length c40, .slice B41 X.Out.length c42]] W72 := H122.pick [1, 0, 2, 3, 4, 5, 6, 7] kD rfl; clear H122
       have H124 : St w No [hR aL 77 (.slice (some ⟨gf87, 0, none⟩) X.aC.length c36) X.aC, hB g_4_3 70 #[.int .i64 (ak), .int .i64 (((kq : Nat) : Int))], hR aH 181 (.slice B37 X.Loop.length c38) X.Loop, hR aW 138 (.slice B39 X.aJ.length c40) X.aJ, hR aS 150 (.slice B41 X.Out.length c42) X.Out, hB g_3_6 70 #[.int .i64 (k0), .int .i64 (n0)], hB g_3_5 69 #[.int .i64 (X.Id), .slice (some ⟨gf87, 0, none⟩) X.aC.length c36, .slice B37 X.Loop.length c38, .slice B39 X.aJ.length c40, .slice B41 X.Out.length c42]] W72 := H123.closeG (List.set_getElem_self ..) rfl; clear H123
       exact (aZ [(0, .slice A bs.length cb), (3, .pointer (some ⟨g_3_5, 0, none⟩)), (72, .bool (false))] rfl).elim fun x' hx => ⟨x', hx, H124⟩
      ·refine aA ?_
       refine bL rfl rfl rfl rfl (fun _ ho125 => ?_)
       refine aB ho125 (bZ hg112 (bS rfl rfl)) rfl rfl ?_
       refine aA ?_
       refine aB rfl (aX (v := .bool (false)) (b := true) rfl rfl rfl rfl) rfl rfl ?_
       refine aA ?_
       refine aB rfl (aF rfl) rfl rfl ?_
       refine aA ?_
       refine aD rfl rfl rfl rfl rfl rfl rfl ?_
       refine aA ?_
       refine aD rfl rfl rfl rfl rfl rfl rfl ?_
       refine aA ?_
       refine aD rfl rfl rfl rfl rfl rfl rfl ?_
       refine aA ?_
       refine aD rfl rfl rfl rfl rfl rfl rfl ?_
       refine aA ?_
       refine aD rfl rfl rfl rfl rfl rfl rfl ?_
       refine aA ?_
       refine aD rfl rfl rfl rfl rfl rfl rfl ?_
       refine aA ?_
       refine aD rfl rfl rfl rfl rfl rfl rfl ?_
       refine aA ?_
       refine aD rfl rfl rfl rfl rfl rfl rfl ?_
       refine aA ?_
       refine aB rfl (aX (v := .bool (false)) (b := false) rfl rfl rfl rfl) rfl rfl ?_
       refine aI ?_
       have H126 : St w No [hM aL (X.aC[kq]) [.int .i64 ((X.aC[kq]).Kind), .int .i64 ((X.aC[kq]).Script), .slice B96 ((X.aC[kq]).aM.length) c97, .int .i64 ((X.aC[kq]).State), .int .i64 ((X.aC[kq]).Value.Kind), .int .i64 ((X.aC[kq]).Value.N), .slice B98 ((X.aC[kq]).Queue.length) c99, .slice B100 ((X.aC[kq]).aG.length) c101, .int .i64 ((X.aC[kq]).bD), .int .i64 ((X.aC[kq]).Pos), .int .i64 ((X.aC[kq]).Count), .int .i64 ((X.aC[kq]).bJ)], hE aL 77 gf87 c36 kq [.int .i64 ((X.aC[kq]).Kind), .int .i64 ((X.aC[kq]).Script), .slice B96 ((X.aC[kq]).aM.length) c97, .int .i64 ((X.aC[kq]).State), .int .i64 ((X.aC[kq]).Value.Kind), .int .i64 ((X.aC[kq]).Value.N), .slice B98 ((X.aC[kq]).Queue.length) c99, .slice B100 ((X.aC[kq]).aG.length) c101, .int .i64 ((X.aC[kq]).bD), .int .i64 ((X.aC[kq]).Pos), .int .i64 ((X.aC[kq]).Count), .int .i64 ((X.aC[kq]).bJ)] X.aC, hB g_4_3 70 #[.int .i64 (ak), .int .i64 (((kq : Nat) : Int))], hR aH 181 (.slice B37 X.Loop.length c38) X.Loop, hR aW 138 (.slice B39 X.aJ.length c40) X.aJ, hR aS 150 (.slice B41 X.Out.length c42) X.Out, hB g_3_6 70 #[.int .i64 (k0), .int .i64 (n0)], hB g_3_5 69 #[.int .i64 (X.Id), .slice (some ⟨gf87, 0, none⟩) X.aC.length c36, .slice B37 X.Loop.length c38, .slice B39 X.aJ.length c40, .slice B41 X.Out.length c42]] W72 := H103.swap (l0 := [hR aP 70 (.slice B96 ((X.aC[kq]).aM.length) c97) ((X.aC[kq]).aM), hR aH 181 (.slice B98 ((X.aC[kq]).Queue.length) c99) ((X.aC[kq]).Queue), hR aQ 155 (.slice B100 ((X.aC[kq]).aG.length) c101) ((X.aC[kq]).aG)]) (l' := [hM aL (X.aC[kq]) [.int .i64 ((X.aC[kq]).Kind), .int .i64 ((X.aC[kq]).Script), .slice B96 ((X.aC[kq]).aM.length) c97, .int .i64 ((X.aC[kq]).State), .int .i64 ((X.aC[kq]).Value.Kind), .int .i64 ((X.aC[kq]).Value.N), .slice B98 ((X.aC[kq]).Queue.length) c99, .slice B100 ((X.aC[kq]).aG.length) c101, .int .i64 ((X.aC[kq]).bD), .int .i64 ((X.aC[kq]).Pos), .int .i64 ((X.aC[kq]).Count), .int .i64 ((X.aC[kq]).bJ)]]) (fun _ h => Star.one (gD (x := X.aC[kq]) h)); clear H103
       have H127 : St w No [hE aL 77 gf87 c36 kq [.int .i64 ((X.aC[kq]).Kind), .int .i64 ((X.aC[kq]).Script), .slice B96 ((X.aC[kq]).aM.length) c97, .int .i64 ((X.aC[kq]).State), .int .i64 ((X.aC[kq]).Value.Kind), .int .i64 ((X.aC[kq]).Value.N), .slice B98 ((X.aC[kq]).Queue.length) c99, .slice B100 ((X.aC[kq]).aG.length) c101, .int .i64 ((X.aC[kq]).bD), .int .i64 ((X.aC[kq]).Pos), .int .i64 ((X.aC[kq]).Count), .int .i64 ((X.aC[kq]).bJ)] X.aC, hM aL (X.aC[kq]) [.int .i64 ((X.aC[kq]).Kind), .int .i64 ((X.aC[kq]).Script), .slice B96 ((X.aC[kq]).aM.length) c97, .int .i64 ((X.aC[kq]).State), .int .i64 ((X.aC[kq]).Value.Kind), .int .i64 ((X.aC[kq]).Value.N), .slice B98 ((X.aC[kq]).Queue.length) c99, .slice B100 ((X.aC[kq]).aG.length) c101, .int .i64 ((X.aC[kq]).bD), .int .i64 ((X.aC[kq]).Pos), .int .i64 ((X.aC[kq]).Count), .int .i64 ((X.aC[kq]).bJ)], hB g_4_3 70 #[.int .i64 (ak), .int .i64 (((kq : Nat) : Int))], hR aH 181 (.slice B37 X.Loop.length c38) X.Loop, hR aW 138 (.slice B39 X.aJ.length c40) X.aJ, hR aS 150 (.slice B41 X.Out.length c42) X.Out, hB g_3_6 70 #[.int .i64 (k0), .int .i64 (n0)], hB g_3_5 69 #[.int .i64 (X.Id), .slice (some ⟨gf87, 0, none⟩) X.aC.length c36, .slice B37 X.Loop.length c38, .slice B39 X.aJ.length c40, .slice B41 X.Out.length c42]] W72 := H126.pick [1, 0, 2, 3, 4, 5, 6, 7] kD rfl; clear H126
       have H128 : St w No [hR aL 77 (.slice (some ⟨gf87, 0, none⟩) X.aC.length c36) X.aC, hB g_4_3 70 #[.int .i64 (ak), .int .i64 (((kq : Nat) : Int))], hR aH 181 (.slice B37 X.Loop.length c38) X.Loop, hR aW 138 (.slice B39 X.aJ.length c40) X.aJ, hR aS 150 (.slice B41 X.Out.length c42) X.Out, hB g_3_6 70 #[.int .i64 (k0), .int .i64 (n0)], hB g_3_5 69 #[.int .i64 (X.Id), .slice (some ⟨gf87, 0, none⟩) X.aC.length c36, .slice B37 X.Loop.length c38, .slice B39 X.aJ.length c40, .slice B41 X.Out.length c42]] W72 := H127.closeG (List.set_getElem_self ..) rfl; clear H127
       exact (aZ [(0, .slice A bs.length cb), (3, .pointer (some ⟨g_3_5, 0, none⟩)), (72, .bool (false))] rfl).elim fun x' hx => ⟨x', hx, H128⟩
     ·refine aA ?_
      refine bL rfl rfl rfl rfl (fun _ ho129 => ?_)
      refine aB ho129 (bZ hg86 (gB rfl rfl)) rfl rfl ?_
      refine aA ?_
      refine aB rfl (aX (v := .bool (false)) (b := true) rfl rfl rfl rfl) rfl rfl ?_
      refine aA ?_
      refine aB rfl (aF rfl) rfl rfl ?_
      refine aA ?_
      refine aD rfl rfl rfl rfl rfl rfl rfl ?_
      refine aA ?_
      refine aD rfl rfl rfl rfl rfl rfl rfl ?_
      refine aA ?_
      refine aD rfl rfl rfl rfl rfl rfl rfl ?_
      refine aA ?_
      refine aD rfl rfl rfl rfl rfl rfl rfl ?_
      refine aA ?_
      refine aD rfl rfl rfl rfl rfl rfl rfl ?_
      refine aA ?_
      refine aD rfl rfl rfl rfl rfl rfl rfl ?_
      refine aA ?_
      refine aD rfl rfl rfl rfl rfl rfl rfl ?_
      refine aA ?_
      refine aD rfl rfl rfl rfl rfl rfl rfl ?_
      refine aA ?_
      refine aB rfl (aX (v := .bool (false)) (b := false) rfl rfl rfl rfl) rfl rfl ?_
      refine aA ?_
      refine aB rfl (aF rfl) rfl rfl ?_
      refine aA ?_
      refine aD rfl rfl rfl rfl rfl rfl rfl ?_
      refine aA ?_
      refine aD rfl rfl rfl rfl rfl rfl rfl ?_
      refine aA ?_
      refine aD rfl rfl rfl rfl rfl rfl rfl ?_
      refine aA ?_
      refine aD rfl rfl rfl rfl rfl rfl rfl ?_
      refine aA ?_
      refine aD rfl rfl rfl rfl rfl rfl rfl ?_
      refine aA ?_
      refine aD rfl rfl rfl rfl rfl rfl rfl ?_
      refine aA ?_
      refine aD rfl rfl rfl rfl rfl rfl rfl ?_
      refine aA ?_
      refine aD rfl rfl rfl rfl rfl rfl rfl ?_
      refine aA ?_
      refine aB rfl (aX (v := .bool (false)) (b := false) rfl rfl rfl rfl) rfl rfl ?_
      refine aI ?_
      exact (aZ [(0, .slice A bs.length cb), (3, .pointer (some ⟨g_3_5, 0, none⟩)), (72, .bool (false))] rfl).elim fun x' hx => ⟨x', hx, H74⟩
    ·refine aA ?_
     refine bL rfl rfl rfl rfl (fun _ ho130 => ?_)
     refine aB ho130 (bZ hg79 (rn_geq rfl rfl)) rfl rfl ?_
     refine aA ?_
     refine aB rfl (aX (v := .bool (false)) (b := true) rfl rfl rfl rfl) rfl rfl ?_
     refine aA ?_
     refine aB rfl (aF rfl) rfl rfl ?_
     refine aA ?_
     refine aD rfl rfl rfl rfl rfl rfl rfl ?_
     refine aA ?_
     refine aD rfl rfl rfl rfl rfl rfl rfl ?_
     refine aA ?_
     refine aD rfl rfl rfl rfl rfl rfl rfl ?_
     refine aA ?_
     refine aD rfl rfl rfl rfl rfl rfl rfl ?_
     refine aA ?_
     refine aD rfl rfl rfl rfl rfl rfl rfl ?_
     refine aA ?_
     refine aD rfl rfl rfl rfl rfl rfl rfl ?_
     refine aA ?_
     refine aB rfl (aX (v := .bool (false)) (b := false) rfl rfl rfl rfl) rfl rfl ?_
     refine aA ?_
     refine aB rfl (aF rfl) rfl rfl ?_
     refine aA ?_
     refine aD rfl rfl rfl rfl rfl rfl rfl ?_
     refine aA ?_
     refine aD rfl rfl rfl rfl rfl rfl rfl ?_
     refine aA ?_
     refine aD rfl rfl rfl rfl rfl rfl rfl ?_
     refine aA ?_
     refine aD rfl rfl rfl rfl rfl rfl rfl ?_
     refine aA ?_
     refine aD rfl rfl rfl rfl rfl rfl rfl ?_
     refine aA ?_
     refine aD rfl rfl rfl rfl rfl rfl rfl ?_
     refine aA ?_
     refine aD rfl rfl rfl rfl rfl rfl rfl ?_
     refine aA ?_
     refine aD rfl rfl rfl rfl rfl rfl rfl ?_
     refine aA ?_
     refine aB rfl (aX (v := .bool (false)) (b := false) rfl rfl rfl rfl) rfl rfl ?_
     refine aA ?_
     refine aB rfl (aF rfl) rfl rfl ?_
     refine aA ?_
     refine aD rfl rfl rfl rfl rfl rfl rfl ?_
     refine aA ?_
     refine aD rfl rfl rfl rfl rfl rfl rfl ?_
     refine aA ?_
     refine aD rfl rfl rfl rfl rfl rfl rfl ?_
     refine aA ?_
     refine aD rfl rfl rfl rfl rfl rfl rfl ?_
     refine aA ?_
     refine aD rfl rfl rfl rfl rfl rfl rfl ?_
     refine aA ?_
     refine aD rfl rfl rfl rfl rfl rfl rfl ?_
     refine aA ?_
     refine aD rfl rfl rfl rfl rfl rfl rfl ?_
     refine aA ?_
     refine aD rfl rfl rfl rfl rfl rfl rfl ?_
     refine aA ?_
     refine aB rfl (aX (v := .bool (false)) (b := false) rfl rfl rfl rfl) rfl rfl ?_
     refine aI ?_
     exact (aZ [(0, .slice A bs.length cb), (3, .pointer (some ⟨g_3_5, 0, none⟩)), (72, .bool (false))] rfl).elim fun x' hx => ⟨x', hx, H74⟩
   ·refine aA ?_
    refine aB rfl (bZ hg76 (bS rfl rfl)) rfl rfl ?_
    refine aA ?_
    refine aB rfl (aF rfl) rfl rfl ?_
    refine aA ?_
    refine aD rfl rfl rfl rfl rfl rfl rfl ?_
    refine aA ?_
    refine aD rfl rfl rfl rfl rfl rfl rfl ?_
    refine aA ?_
    refine aD rfl rfl rfl rfl rfl rfl rfl ?_
    refine aA ?_
    refine aB rfl (aX (v := .bool (false)) (b := false) rfl rfl rfl rfl) rfl rfl ?_
    refine aA ?_
    refine aB rfl (aF rfl) rfl rfl ?_
    refine aA ?_
    refine aD rfl rfl rfl rfl rfl rfl rfl ?_
    refine aA ?_
    refine aD rfl rfl rfl rfl rfl rfl rfl ?_
    refine aA ?_
    refine aD rfl rfl rfl rfl rfl rfl rfl ?_
    refine aA ?_
    refine aD rfl rfl rfl rfl rfl rfl rfl ?_
    refine aA ?_
    refine aD rfl rfl rfl rfl rfl rfl rfl ?_
    refine aA ?_
    refine aD rfl rfl rfl rfl rfl rfl rfl ?_
    refine aA ?_
    refine aB rfl (aX (v := .bool (false)) (b := false) rfl rfl rfl rfl) rfl rfl ?_
    refine aA ?_
    refine aB rfl (aF rfl) rfl rfl ?_
    refine aA ?_
    refine aD rfl rfl rfl rfl rfl rfl rfl ?_
    refine aA ?_
    refine aD rfl rfl rfl rfl rfl rfl rfl ?_
    refine aA ?_
    refine aD rfl rfl rfl rfl rfl rfl rfl ?_
    refine aA ?_
    refine aD rfl rfl rfl rfl rfl rfl rfl ?_
    refine aA ?_
    refine aD rfl rfl rfl rfl rfl rfl rfl ?_
    refine aA ?_
    refine aD rfl rfl rfl rfl rfl rfl rfl ?_
    refine aA ?_
    refine aD rfl rfl rfl rfl rfl rfl rfl ?_
    refine aA ?_
    refine aD rfl rfl rfl rfl rfl rfl rfl ?_
    refine aA ?_
    refine aB rfl (aX (v := .bool (false)) (b := false) rfl rfl rfl rfl) rfl rfl ?_
    refine aA ?_
    refine aB rfl (aF rfl) rfl rfl ?_
    refine aA ?_
    refine aD rfl rfl rfl rfl rfl rfl rfl ?_
    refine aA ?_
    refine aD rfl rfl rfl rfl rfl rfl rfl ?_
    refine aA ?_
    refine aD rfl rfl rfl rfl rfl rfl rfl ?_
    refine aA ?_
    refine aD rfl rfl rfl rfl rfl rfl rfl ?_
    refine aA ?_
    refine aD rfl rfl rfl rfl rfl rfl rfl ?_
    refine aA ?_
    refine aD rfl rfl rfl rfl rfl rfl rfl ?_
    refine aA ?_
    refine aD rfl rfl rfl rfl rfl rfl rfl ?_
    refine aA ?_
    refine aD rfl rfl rfl rfl rfl rfl rfl ?_
    refine aA ?_
    refine aB rfl (aX (v := .bool (false)) (b := false) rfl rfl rfl rfl) rfl rfl ?_
    refine aI ?_
    exact (aZ [(0, .slice A bs.length cb), (3, .pointer (some ⟨g_3_5, 0, none⟩)), (72, .bool (false))] rfl).elim fun x' hx => ⟨x', hx, H74⟩
  ·rintro _ W132 ⟨x133, rfl, H131⟩
   refine aK ?_
   refine fA rfl ?_
   refine wp_skip ?_
   refine aK ?_
   refine wp_seq ?_
   refine aN [0, 1, 2, 3, 4, 5, 6, 7, 8] rfl ?_
   refine aA ?_
   refine aB rfl (aF rfl) rfl rfl ?_
   refine aA ?_
   refine bC rfl Try.call34 (vs := #[.slice A bs.length cb]) rfl rfl rfl (drawAdd_s bs cb A _ (cZ H131.1 hC) hn) ?_
   rintro e137 W136 ⟨Y, csY, e, ce, rfl, ⟨hY, hent⟩, hst134, hu135⟩; refine ⟨_, rfl, ?_⟩
   have H138 := H131.news hu135 hst134; clear H131
   refine aA ?_
   refine aB rfl (aF rfl) rfl rfl ?_
   refine aA ?_
   refine aB rfl (dY (v := .agg (List.toArray csY)) rfl rfl) rfl rfl ?_
   refine aA ?_
   refine aB rfl (dY (v := .agg (List.toArray ce)) rfl rfl) rfl rfl ?_
   refine aA ?_
   refine bP rfl Try.zeroValue69 rfl rfl H138 ?_
   intro g_9_5 W139 hu140 Ha141; clear H138; clear hu140
   refine aA ?_
   refine bP rfl Try.zeroValue77 rfl rfl Ha141 ?_
   intro g_9_6 W143 hu144 Ha145; clear Ha141; clear hu144
   refine aA ?_
   have H150 : St w No [hB g_9_5 69 #[.int .i64 (0), .slice none 0 0, .slice none 0 0, .slice none 0 0, .slice none 0 0], hB g_9_6 77 #[.int .i64 (0), .int .i64 (0), .slice none 0 0, .int .i64 (0), .int .i64 (0), .int .i64 (0), .slice none 0 0, .slice none 0 0, .int .i64 (0), .int .i64 (0), .int .i64 (0), .int .i64 (0)], hM bK Y csY, hM aL e ce, hR aL 77 (.slice B35 X.aC.length c36) X.aC, hB g_4_3 70 #[.int .i64 (ak), .int .i64 (an)], hR aH 181 (.slice B37 X.Loop.length c38) X.Loop, hR aW 138 (.slice B39 X.aJ.length c40) X.aJ, hR aS 150 (.slice B41 X.Out.length c42) X.Out, hB g_3_6 70 #[.int .i64 (k0), .int .i64 (n0)], hB g_3_5 69 #[.int .i64 (X.Id), .slice B35 X.aC.length c36, .slice B37 X.Loop.length c38, .slice B39 X.aJ.length c40, .slice B41 X.Out.length c42]] W143 := Ha145.pick [1, 0, 2, 3, 4, 5, 6, 7, 8, 9, 10] kD rfl; clear Ha145
   refine bG rfl Try.sizeOf69 rfl rfl (dF (H150.kn 2 rfl)) rfl (fM (H150.kn 2 rfl)) H150 ?_
   intro W147 hu148 Ha149; clear H150; clear hu148
   refine aA ?_
   have H155 : St w No [hB g_9_6 77 #[.int .i64 (0), .int .i64 (0), .slice none 0 0, .int .i64 (0), .int .i64 (0), .int .i64 (0), .slice none 0 0, .slice none 0 0, .int .i64 (0), .int .i64 (0), .int .i64 (0), .int .i64 (0)], hB g_9_5 69 (List.toArray csY), hM bK Y csY, hM aL e ce, hR aL 77 (.slice B35 X.aC.length c36) X.aC, hB g_4_3 70 #[.int .i64 (ak), .int .i64 (an)], hR aH 181 (.slice B37 X.Loop.length c38) X.Loop, hR aW 138 (.slice B39 X.aJ.length c40) X.aJ, hR aS 150 (.slice B41 X.Out.length c42) X.Out, hB g_3_6 70 #[.int .i64 (k0), .int .i64 (n0)], hB g_3_5 69 #[.int .i64 (X.Id), .slice B35 X.aC.length c36, .slice B37 X.Loop.length c38, .slice B39 X.aJ.length c40, .slice B41 X.Out.length c42]] W147 := Ha149.pick [1, 0, 2, 3, 4, 5, 6, 7, 8, 9, 10] kD rfl; clear Ha149
   refine bG rfl Try.sizeOf77 rfl rfl (cO (H155.kn 3 rfl)) rfl (fF (H155.kn 3 rfl)) H155 ?_
   intro W152 hu153 Ha154; clear H155; clear hu153
   refine aI ?_
   refine aK ?_
   refine wp_seq ?_
   refine aN [0, 1, 2, 3, 4, 5, 6, 7, 8] rfl ?_
   refine aA ?_
   refine aB rfl (bN Try.isAgg69 Try.sizeOf69 rfl (Ha154.blk 1 rfl) (dF (Ha154.kn 2 rfl))) rfl rfl ?_
   refine aA ?_
   refine aB rfl (bN Try.isAgg77 Try.sizeOf77 rfl (Ha154.blk 0 rfl) (cO (Ha154.kn 3 rfl))) rfl rfl ?_
   refine aA ?_
   have hes157 : bU e ≤ 60 := by first | exact hent | exact Nat.le_of_ble_eq_true rfl
   have hb158 := addE_sz e Y
   refine bC rfl Try.call35 (vs := #[.agg (List.toArray csY), .agg (List.toArray ce)]) rfl rfl rfl (addEntity_i Y e _ _ _ (Ha154.kn 2 rfl) kO (Ha154.kn 3 rfl) kO) ?_
   rintro e162 W161 ⟨cs_10_2, rfl, hM159, hu160⟩; refine ⟨_, rfl, ?_⟩
   have H163 := Ha154.new (q := hM bK (dK e Y) cs_10_2) hu160 hM159; clear Ha154
   refine aA ?_
   refine aB rfl (aF rfl) rfl rfl ?_
   refine aA ?_
   refine aB rfl (dY (v := .agg (List.toArray cs_10_2)) rfl rfl) rfl rfl ?_
   refine aA ?_
   refine aB rfl (dY (v := .int .i64 ((addN Y.aC))) rfl rfl) rfl rfl ?_
   refine aA ?_
   refine bP rfl Try.zeroValue69 rfl rfl H163 ?_
   intro g_10_6 W164 hu165 Ha166; clear H163; clear hu165
   refine aA ?_
   refine bG rfl Try.sizeOf69 rfl rfl (dF (Ha166.kn 1 rfl)) rfl (fM (Ha166.kn 1 rfl)) Ha166 ?_
   intro W168 hu169 Ha170; clear Ha166; clear hu169
   refine aA ?_
   refine aB rfl (aR rfl) rfl rfl ?_
   refine aI ?_
   refine aK ?_
   refine wp_seq ?_
   refine aN [0, 1, 2, 3, 4, 5, 6, 7, 8] rfl ?_
   refine aA ?_
   refine aB rfl (aF rfl) rfl rfl ?_
   refine aA ?_
   refine bC rfl Try.call36 (vs := #[.slice A bs.length cb]) rfl rfl rfl (drawNew_s bs cb A _ (cZ Ha170.1 hC) hn) ?_
   rintro e175 W174 ⟨na, BL, L, cL, ns, rfl, hLl, hst172, hu173⟩; refine ⟨_, rfl, ?_⟩
   have H176 := Ha170.news hu173 hst172; clear Ha170
   refine aA ?_
   refine aB rfl (aF rfl) rfl rfl ?_
   refine aA ?_
   refine aB rfl (dY (v := .int .i64 (na)) rfl rfl) rfl rfl ?_
   refine aA ?_
   refine aB rfl (dY (v := .slice BL L.length cL) rfl rfl) rfl rfl ?_
   refine aA ?_
   refine aB rfl (dY (v := .int .i64 (ns)) rfl rfl) rfl rfl ?_
   refine aA ?_
   refine aB rfl (aR rfl) rfl rfl ?_
   refine aA ?_
   refine aB rfl (aR rfl) rfl rfl ?_
   refine aA ?_
   refine aB rfl (aR rfl) rfl rfl ?_
   refine aI ?_
   refine aK ?_
   refine wp_seq ?_
   refine aN [0, 1, 2, 3, 4, 5] rfl ?_
   refine aA ?_
   refine aB rfl (aF rfl) rfl rfl ?_
   refine aA ?_
   refine aB rfl (aF rfl) rfl rfl ?_
   refine aA ?_
   refine aB rfl (aF rfl) rfl rfl ?_
   refine aA ?_
   refine bC rfl Try.call37 (vs := #[.int .i64 (na), .slice BL L.length cL, .int .i64 (ns)]) rfl rfl rfl (newVat_i na L ns _ _ _ (H176.fU 0 rfl) (by first | decide | omega)) ?_
   rintro e180 W179 ⟨cs_12_3, rfl, hM177, hu178⟩; refine ⟨_, rfl, ?_⟩
   have H181 := H176.new (q := hM bK (nvV na L ns) cs_12_3) hu178 hM177; clear H176
   refine aA ?_
   refine bP rfl Try.zeroValue69 rfl rfl H181 ?_
   intro g_12_4 W182 hu183 Ha184; clear H181; clear hu183
   refine aA ?_
   refine bG rfl Try.sizeOf69 rfl rfl (dF (Ha184.kn 1 rfl)) rfl (fM (Ha184.kn 1 rfl)) Ha184 ?_
   intro W186 hu187 Ha188; clear Ha184; clear hu187
   refine aI ?_
   refine aK ?_
   refine wp_seq ?_
   refine wp_seq ?_
   refine aN [0] rfl ?_
   refine aA ?_
   refine aB rfl (aR rfl) rfl rfl ?_
   refine aI ?_
   refine aK ?_
   refine wp_block ?_
   have H190 : St w No [hM bK (nvV na L ns) cs_12_3, hB g_12_4 69 (List.toArray cs_12_3), hR Kn.int 3 (.slice BL L.length cL) L, hB g_10_6 69 (List.toArray cs_10_2), hM bK (dK e Y) cs_10_2, hB g_9_6 77 (List.toArray ce), hB g_9_5 69 (List.toArray csY), hM bK Y csY, hM aL e ce, hR aL 77 (.slice B35 X.aC.length c36) X.aC, hB g_4_3 70 #[.int .i64 (ak), .int .i64 (an)], hR aH 181 (.slice B37 X.Loop.length c38) X.Loop, hR aW 138 (.slice B39 X.aJ.length c40) X.aJ, hR aS 150 (.slice B41 X.Out.length c42) X.Out, hB g_3_6 70 #[.int .i64 (k0), .int .i64 (n0)], hB g_3_5 69 #[.int .i64 (X.Id), .slice B35 X.aC.length c36, .slice B37 X.Loop.length c38, .slice B39 X.aJ.length c40, .slice B41 X.Out.length c42]] W186 := Ha188.pick [1, 0, 2, 3, 4, 5, 6, 7, 8, 9, 10, 11, 12, 13, 14, 15] kD rfl; clear Ha188
   obtain ⟨F191, hM192, hb193⟩ := H190.unM
   obtain ⟨B195, c196, B197, c198, B199, c200, B201, c202, rfl, hst194⟩ := fZ hM192
   have H203 : St w No [hR aL 77 (.slice B195 ((nvV na L ns).aC.length) c196) ((nvV na L ns).aC), hR aH 181 (.slice B197 ((nvV na L ns).Loop.length) c198) ((nvV na L ns).Loop), hR aW 138 (.slice B199 ((nvV na L ns).aJ.length) c200) ((nvV na L ns).aJ), hR aS 150 (.slice B201 ((nvV na L ns).Out.length) c202) ((nvV na L ns).Out), hB g_12_4 69 #[.int .i64 ((nvV na L ns).Id), .slice B195 ((nvV na L ns).aC.length) c196, .slice B197 ((nvV na L ns).Loop.length) c198, .slice B199 ((nvV na L ns).aJ.length) c200, .slice B201 ((nvV na L ns).Out.length) c202], hR Kn.int 3 (.slice BL L.length cL) L, hB g_10_6 69 (List.toArray cs_10_2), hM bK (dK e Y) cs_10_2, hB g_9_6 77 (List.toArray ce), hB g_9_5 69 (List.toArray csY), hM bK Y csY, hM aL e ce, hR aL 77 (.slice B35 X.aC.length c36) X.aC, hB g_4_3 70 #[.int .i64 (ak), .int .i64 (an)], hR aH 181 (.slice B37 X.Loop.length c38) X.Loop, hR aW 138 (.slice B39 X.aJ.length c40) X.aJ, hR aS 150 (.slice B41 X.Out.length c42) X.Out, hB g_3_6 70 #[.int .i64 (k0), .int .i64 (n0)], hB g_3_5 69 #[.int .i64 (X.Id), .slice B35 X.aC.length c36, .slice B37 X.Loop.length c38, .slice B39 X.aJ.length c40, .slice B41 X.Out.length c42]] W186 := hb193 _ hst194; clear H190
   refine wp_loop_ghost (fun r a' W' => ∃ (i : Nat) (AL2 : Option Addr) (AE2 : Option Addr) (x' : Nat → Value), a' = bH 146 x' [(3, .pointer (some ⟨g_3_5, 0, none⟩)), (6, .pointer (some ⟨g_9_5, 0, none⟩)), (7, .pointer (some ⟨g_9_6, 0, none⟩)), (8, .pointer (some ⟨g_10_6, 0, none⟩)), (9, .int .i64 ((addN Y.aC))), (11, .slice AL2 L.length cL), (13, .pointer (some ⟨g_12_4, 0, none⟩)), (14, .int .i64 (((i : Nat) : Int)))] ∧ (i + r = L.length) ∧ St w No [hR aL 77 (.slice AE2 ((nvV na L ns).aC.length) c196) ((nvV na L ns).aC), hR aH 181 (.slice B197 ((nvV na L ns).Loop.length) c198) ((nvV na L ns).Loop), hR aW 138 (.slice B199 ((nvV na L ns).aJ.length) c200) ((nvV na L ns).aJ), hR aS 150 (.slice B201 ((nvV na L ns).Out.length) c202) ((nvV na L ns).Out), hB g_12_4 69 #[.int .i64 ((nvV na L ns).Id), .slice AE2 ((nvV na L ns).aC.length) c196, .slice B197 ((nvV na L ns).Loop.length) c198, .slice B199 ((nvV na L ns).aJ.length) c200, .slice B201 ((nvV na L ns).Out.length) c202], hR Kn.int 3 (.slice AL2 L.length cL) L, hB g_10_6 69 (List.toArray cs_10_2), hM bK (dK e Y) cs_10_2, hB g_9_6 77 (List.toArray ce), hB g_9_5 69 (List.toArray csY), hM bK Y csY, hM aL e ce, hR aL 77 (.slice B35 X.aC.length c36) X.aC, hR aH 181 (.slice B37 X.Loop.length c38) X.Loop, hR aW 138 (.slice B39 X.aJ.length c40) X.aJ, hR aS 150 (.slice B41 X.Out.length c42) X.Out, hB g_3_5 69 #[.int .i64 (X.Id), .slice B35 X.aC.length c36, .slice B37 X.Loop.length c38, .slice B39 X.aJ.length c40, .slice B41 X.Out.length c42]] W') L.length ?_ ?_
   ·exact (aZ [(3, .pointer (some ⟨g_3_5, 0, none⟩)), (6, .pointer (some ⟨g_9_5, 0, none⟩)), (7, .pointer (some ⟨g_9_6, 0, none⟩)), (8, .pointer (some ⟨g_10_6, 0, none⟩)), (9, .int .i64 ((addN Y.aC))), (11, .slice BL L.length cL), (13, .pointer (some ⟨g_12_4, 0, none⟩)), (14, .int .i64 (((0 : Nat) : Int)))] rfl).elim fun x' hx => ⟨0, BL, B195, x', hx, kO, H203.pick [0, 1, 2, 3, 4, 5, 6, 7, 8, 9, 10, 11, 12, 14, 15, 16, 18] kD rfl⟩
   ·rintro r204 _ W205 ⟨i, AL2, AE2, x206, rfl, hi, H207⟩; clear H203
    refine wp_seq ?_
    refine wp_seq ?_
    refine aN [0, 1, 2, 3] rfl ?_
    refine aA ?_
    refine aB rfl (aF rfl) rfl rfl ?_
    refine aA ?_
    refine aB rfl (aF rfl) rfl rfl ?_
    refine aA ?_
    refine aB rfl (dP Try.runUnderlying82 rfl) rfl rfl ?_
    refine aA ?_
    refine aB rfl (gB rfl rfl) rfl rfl ?_
    refine aI ?_
    refine aK ?_
    refine dB rfl (fun hc208 => ?_) (fun hc208 => ?_)
    ·have hlt : i < L.length := by omega
     have hlt2 : i + 1 < (nvV na L ns).aC.length := by rw [nv_len]; omega
     have hxe := nv_ent na L ns i hlt hlt2
     have H209 : St w No [hR Kn.int 3 (.slice AL2 L.length cL) L, hR aL 77 (.slice AE2 ((nvV na L ns).aC.length) c196) ((nvV na L ns).aC), hR aH 181 (.slice B197 ((nvV na L ns).Loop.length) c198) ((nvV na L ns).Loop), hR aW 138 (.slice B199 ((nvV na L ns).aJ.length) c200) ((nvV na L ns).aJ), hR aS 150 (.slice B201 ((nvV na L ns).Out.length) c202) ((nvV na L ns).Out), hB g_12_4 69 #[.int .i64 ((nvV na L ns).Id), .slice AE2 ((nvV na L ns).aC.length) c196, .slice B197 ((nvV na L ns).Loop.length) c198, .slice B199 ((nvV na L ns).aJ.length) c200, .slice B201 ((nvV na L ns).Out.length) c202], hB g_10_6 69 (List.toArray cs_10_2), hM bK (dK e Y) cs_10_2, hB g_9_6 77 (List.toArray ce), hB g_9_5 69 (List.toArray csY), hM bK Y csY, hM aL e ce, hR aL 77 (.slice B35 X.aC.length c36) X.aC, hR aH 181 (.slice B37 X.Loop.length c38) X.Loop, hR aW 138 (.slice B39 X.aJ.length c40) X.aJ, hR aS 150 (.slice B41 X.Out.length c42) X.Out, hB g_3_5 69 #[.int .i64 (X.Id), .slice B35 X.aC.length c36, .slice B37 X.Loop.length c38, .slice B39 X.aJ.length c40, .slice B41 X.Out.length c42]] W205 := H207.pick [5, 0, 1, 2, 3, 4, 6, 7, 8, 9, 10, 11, 12, 13, 14, 15, 16] kD rfl; clear H207
     obtain ⟨gf210, rfl⟩ := H209.openS (q := i) hlt
     obtain ⟨ce211, hn212, H213⟩ := H209.openG (q := i) hlt; clear H209
     have H214 : St w No [hE Kn.int 3 gf210 cL i ce211 L, hM Kn.int (L[i]) ce211, hR aL 77 (.slice AE2 ((nvV na L ns).aC.length) c196) ((nvV na L ns).aC), hR aH 181 (.slice B197 ((nvV na L ns).Loop.length) c198) ((nvV na L ns).Loop), hR aW 138 (.slice B199 ((nvV na L ns).aJ.length) c200) ((nvV na L ns).aJ), hR aS 150 (.slice B201 ((nvV na L ns).Out.length) c202) ((nvV na L ns).Out), hB g_12_4 69 #[.int .i64 ((nvV na L ns).Id), .slice AE2 ((nvV na L ns).aC.length) c196, .slice B197 ((nvV na L ns).Loop.length) c198, .slice B199 ((nvV na L ns).aJ.length) c200, .slice B201 ((nvV na L ns).Out.length) c202], hB g_10_6 69 (List.toArray cs_10_2), hM bK (dK e Y) cs_10_2, hB g_9_6 77 (List.toArray ce), hB g_9_5 69 (List.toArray csY), hM bK Y csY, hM aL e ce, hR aL 77 (.slice B35 X.aC.length c36) X.aC, hR aH 181 (.slice B37 X.Loop.length c38) X.Loop, hR aW 138 (.slice B39 X.aJ.length c40) X.aJ, hR aS 150 (.slice B41 X.Out.length c42) X.Out, hB g_3_5 69 #[.int .i64 (X.Id), .slice B35 X.aC.length c36, .slice B37 X.Loop.length c38, .slice B39 X.aJ.length c40, .slice B41 X.Out.length c42]] W205 := H213; clear H213
     obtain rfl : ce211 = [.int .i64 (L[i])] := H214.kn 1 rfl
     have H215 : St w No [hE Kn.int 3 gf210 cL i [.int .i64 (L[i])] L, hR aL 77 (.slice AE2 ((nvV na L ns).aC.length) c196) ((nvV na L ns).aC), hR aH 181 (.slice B197 ((nvV na L ns).Loop.length) c198) ((nvV na L ns).Loop), hR aW 138 (.slice B199 ((nvV na L ns).aJ.length) c200) ((nvV na L ns).aJ), hR aS 150 (.slice B201 ((nvV na L ns).Out.length) c202) ((nvV na L ns).Out), hB g_12_4 69 #[.int .i64 ((nvV na L ns).Id), .slice AE2 ((nvV na L ns).aC.length) c196, .slice B197 ((nvV na L ns).Loop.length) c198, .slice B199 ((nvV na L ns).aJ.length) c200, .slice B201 ((nvV na L ns).Out.length) c202], hB g_10_6 69 (List.toArray cs_10_2), hM bK (dK e Y) cs_10_2, hB g_9_6 77 (List.toArray ce), hB g_9_5 69 (List.toArray csY), hM bK Y csY, hM aL e ce, hR aL 77 (.slice B35 X.aC.length c36) X.aC, hR aH 181 (.slice B37 X.Loop.length c38) X.Loop, hR aW 138 (.slice B39 X.aJ.length c40) X.aJ, hR aS 150 (.slice B41 X.Out.length c42) X.Out, hB g_3_5 69 #[.int .i64 (X.Id), .slice B35 X.aC.length c36, .slice B37 X.Loop.length c38, .slice B39 X.aJ.length c40, .slice B41 X.Out.length c42]] W205 := H214.pick [0, 2, 3, 4, 5, 6, 7, 8, 9, 10, 11, 12, 13, 14, 15, 16, 17] kD rfl; clear H214
     have H216 : St w No [hR aL 77 (.slice AE2 ((nvV na L ns).aC.length) c196) ((nvV na L ns).aC), hE Kn.int 3 gf210 cL i [.int .i64 (L[i])] L, hR aH 181 (.slice B197 ((nvV na L ns).Loop.length) c198) ((nvV na L ns).Loop), hR aW 138 (.slice B199 ((nvV na L ns).aJ.length) c200) ((nvV na L ns).aJ), hR aS 150 (.slice B201 ((nvV na L ns).Out.length) c202) ((nvV na L ns).Out), hB g_12_4 69 #[.int .i64 ((nvV na L ns).Id), .slice AE2 ((nvV na L ns).aC.length) c196, .slice B197 ((nvV na L ns).Loop.length) c198, .slice B199 ((nvV na L ns).aJ.length) c200, .slice B201 ((nvV na L ns).Out.length) c202], hB g_10_6 69 (List.toArray cs_10_2), hM bK (dK e Y) cs_10_2, hB g_9_6 77 (List.toArray ce), hB g_9_5 69 (List.toArray csY), hM bK Y csY, hM aL e ce, hR aL 77 (.slice B35 X.aC.length c36) X.aC, hR aH 181 (.slice B37 X.Loop.length c38) X.Loop, hR aW 138 (.slice B39 X.aJ.length c40) X.aJ, hR aS 150 (.slice B41 X.Out.length c42) X.Out, hB g_3_5 69 #[.int .i64 (X.Id), .slice B35 X.aC.length c36, .slice B37 X.Loop.length c38, .slice B39 X.aJ.length c40, .slice B41 X.Out.length c42]] W205 := H215.pick [1, 0, 2, 3, 4, 5, 6, 7, 8, 9, 10, 11, 12, 13, 14, 15, 16] kD rfl; clear H215
     obtain ⟨gf217, rfl⟩ := H216.openS (q := (i + 1)) hlt2
     obtain ⟨ce218, hn219, H220⟩ := H216.openG (q := (i + 1)) hlt2; clear H216
     rw [hxe] at H220
     have H221 : St w No [hE aL 77 gf217 c196 (i + 1) ce218 ((nvV na L ns).aC), hM aL (prE L[i] 1) ce218, hE Kn.int 3 gf210 cL i [.int .i64 (L[i])] L, hR aH 181 (.slice B197 ((nvV na L ns).Loop.length) c198) ((nvV na L ns).Loop), hR aW 138 (.slice B199 ((nvV na L ns).aJ.length) c200) ((nvV na L ns).aJ), hR aS 150 (.slice B201 ((nvV na L ns).Out.length) c202) ((nvV na L ns).Out), hB g_12_4 69 #[.int .i64 ((nvV na L ns).Id), .slice (some ⟨gf217, 0, none⟩) ((nvV na L ns).aC.length) c196, .slice B197 ((nvV na L ns).Loop.length) c198, .slice B199 ((nvV na L ns).aJ.length) c200, .slice B201 ((nvV na L ns).Out.length) c202], hB g_10_6 69 (List.toArray cs_10_2), hM bK (dK e Y) cs_10_2, hB g_9_6 77 (List.toArray ce), hB g_9_5 69 (List.toArray csY), hM bK Y csY, hM aL e ce, hR aL 77 (.slice B35 X.aC.length c36) X.aC, hR aH 181 (.slice B37 X.Loop.length c38) X.Loop, hR aW 138 (.slice B39 X.aJ.length c40) X.aJ, hR aS 150 (.slice B41 X.Out.length c42) X.Out, hB g_3_5 69 #[.int .i64 (X.Id), .slice B35 X.aC.length c36, .slice B37 X.Loop.length c38, .slice B39 X.aJ.length c40, .slice B41 X.Out.length c42]] W205 := H220; clear H220
     have H232 : St w No [hM aL (prE L[i] 1) ce218, hE aL 77 gf217 c196 (i + 1) ce218 ((nvV na L ns).aC), hE Kn.int 3 gf210 cL i [.int .i64 (L[i])] L, hR aH 181 (.slice B197 ((nvV na L ns).Loop.length) c198) ((nvV na L ns).Loop), hR aW 138 (.slice B199 ((nvV na L ns).aJ.length) c200) ((nvV na L ns).aJ), hR aS 150 (.slice B201 ((nvV na L ns).Out.length) c202) ((nvV na L ns).Out), hB g_12_4 69 #[.int .i64 ((nvV na L ns).Id), .slice (some ⟨gf217, 0, none⟩) ((nvV na L ns).aC.length) c196, .slice B197 ((nvV na L ns).Loop.length) c198, .slice B199 ((nvV na L ns).aJ.length) c200, .slice B201 ((nvV na L ns).Out.length) c202], hB g_10_6 69 (List.toArray cs_10_2), hM bK (dK e Y) cs_10_2, hB g_9_6 77 (List.toArray ce), hB g_9_5 69 (List.toArray csY), hM bK Y csY, hM aL e ce, hR aL 77 (.slice B35 X.aC.length c36) X.aC, hR aH 181 (.slice B37 X.Loop.length c38) X.Loop, hR aW 138 (.slice B39 X.aJ.length c40) X.aJ, hR aS 150 (.slice B41 X.Out.length c42) X.Out, hB g_3_5 69 #[.int .i64 (X.Id), .slice B35 X.aC.length c36, .slice B37 X.Loop.length c38, .slice B39 X.aJ.length c40, .slice B41 X.Out.length c42]] W205 := H221.pick [1, 0, 2, 3, 4, 5, 6, 7, 8, 9, 10, 11, 12, 13, 14, 15, 16, 17] kD rfl; clear H221
     obtain ⟨F222, hM223, hb224⟩ := H232.unM
     obtain ⟨B226, c227, B228, c229, B230, c231, rfl, hst225⟩ := gK hM223
     have H233 : St w No [hR aP 70 (.slice B226 ((prE L[i] 1).aM.length) c227) ((prE L[i] 1).aM), hR aH 181 (.slice B228 ((prE L[i] 1).Queue.length) c229) ((prE L[i] 1).Queue), hR aQ 155 (.slice B230 ((prE L[i] 1).aG.length) c231) ((prE L[i] 1).aG), hE aL 77 gf217 c196 (i + 1) [.int .i64 ((prE L[i] 1).Kind), .int .i64 ((prE L[i] 1).Script), .slice B226 ((prE L[i] 1).aM.length) c227, .int .i64 ((prE L[i] 1).State), .int .i64 ((prE L[i] 1).Value.Kind), .int .i64 ((prE L[i] 1).Value.N), .slice B228 ((prE L[i] 1).Queue.length) c229, .slice B230 ((prE L[i] 1).aG.length) c231, .int .i64 ((prE L[i] 1).bD), .int .i64 ((prE L[i] 1).Pos), .int .i64 ((prE L[i] 1).Count), .int .i64 ((prE L[i] 1).bJ)] ((nvV na L ns).aC), hE Kn.int 3 gf210 cL i [.int .i64 (L[i])] L, hR aH 181 (.slice B197 ((nvV na L ns).Loop.length) c198) ((nvV na L ns).Loop), hR aW 138 (.slice B199 ((nvV na L ns).aJ.length) c200) ((nvV na L ns).aJ), hR aS 150 (.slice B201 ((nvV na L ns).Out.length) c202) ((nvV na L ns).Out), hB g_12_4 69 #[.int .i64 ((nvV na L ns).Id), .slice (some ⟨gf217, 0, none⟩) ((nvV na L ns).aC.length) c196, .slice B197 ((nvV na L ns).Loop.length) c198, .slice B199 ((nvV na L ns).aJ.length) c200, .slice B201 ((nvV na L ns).Out.length) c202], hB g_10_6 69 (List.toArray cs_10_2), hM bK (dK e Y) cs_10_2, hB g_9_6 77 (List.toArray ce), hB g_9_5 69 (List.toArray csY), hM bK Y csY, hM aL e ce, hR aL 77 (.slice B35 X.aC.length c36) X.aC, hR aH 181 (.slice B37 X.Loop.length c38) X.Loop, hR aW 138 (.slice B39 X.aJ.length c40) X.aJ, hR aS 150 (.slice B41 X.Out.length c42) X.Out, hB g_3_5 69 #[.int .i64 (X.Id), .slice B35 X.aC.length c36, .slice B37 X.Loop.length c38, .slice B39 X.aJ.length c40, .slice B41 X.Out.length c42]] W205 := hb224 _ hst225; clear H232
     refine wp_skip ?_
     refine aK ?_
     refine wp_seq ?_
     refine wp_block ?_
     refine wp_seq ?_
     refine dG (fun W' => Blk W' g_12_4 69 #[.int .i64 ((nvV na L ns).Id), .slice (some ⟨gf217, 0, none⟩) ((nvV na L ns).aC.length) c196, .slice B197 ((nvV na L ns).Loop.length) c198, .slice B199 ((nvV na L ns).aJ.length) c200, .slice B201 ((nvV na L ns).Out.length) c202] ∧ Cat W' (Addr.add ⟨gf210, 0, none⟩ (i * 1)) [.int .i64 (L[i])] ∧ Cat W' (Addr.add ⟨gf217, 0, none⟩ ((i + 1) * 12)) [.int .i64 ((prE L[i] 1).Kind), .int .i64 ((prE L[i] 1).Script), .slice B226 ((prE L[i] 1).aM.length) c227, .int .i64 ((prE L[i] 1).State), .int .i64 ((prE L[i] 1).Value.Kind), .int .i64 ((prE L[i] 1).Value.N), .slice B228 ((prE L[i] 1).Queue.length) c229, .slice B230 ((prE L[i] 1).aG.length) c231, .int .i64 ((prE L[i] 1).bD), .int .i64 ((prE L[i] 1).Pos), .int .i64 ((prE L[i] 1).Count), .int .i64 ((prE L[i] 1).bJ)]) 21 kR ?_
     have H234 := H233.drew; clear H233
     have hS235 : Blk W205.drew g_12_4 69 #[.int .i64 ((nvV na L ns).Id), .slice (some ⟨gf217, 0, none⟩) ((nvV na L ns).aC.length) c196, .slice B197 ((nvV na L ns).Loop.length) c198, .slice B199 ((nvV na L ns).aJ.length) c200, .slice B201 ((nvV na L ns).Out.length) c202] ∧ Cat W205.drew (Addr.add ⟨gf210, 0, none⟩ (i * 1)) [.int .i64 (L[i])] ∧ Cat W205.drew (Addr.add ⟨gf217, 0, none⟩ ((i + 1) * 12)) [.int .i64 ((prE L[i] 1).Kind), .int .i64 ((prE L[i] 1).Script), .slice B226 ((prE L[i] 1).aM.length) c227, .int .i64 ((prE L[i] 1).State), .int .i64 ((prE L[i] 1).Value.Kind), .int .i64 ((prE L[i] 1).Value.N), .slice B228 ((prE L[i] 1).Queue.length) c229, .slice B230 ((prE L[i] 1).aG.length) c231, .int .i64 ((prE L[i] 1).bD), .int .i64 ((prE L[i] 1).Pos), .int .i64 ((prE L[i] 1).Count), .int .i64 ((prE L[i] 1).bJ)] := ⟨H234.blk 8 rfl, (H234.catE 4 rfl), (H234.catE 3 rfl)⟩
     refine aO (i := 0) rfl kR kR kR kR kR (fun _ _ _ h => h) rfl rfl hS235 (fun W' hs' => bN Try.isAgg69 Try.sizeOf69 rfl hs'.1 rfl) ?_
     refine aO (i := 1) rfl kR kR kR kR kR (fun _ _ _ h => h) rfl rfl hS235 (fun W' hs' => aF rfl) ?_
     refine aO (i := 2) rfl kR kR kR kR kR (fun _ _ _ h => h) rfl rfl hS235 (fun W' hs' => aF rfl) ?_
     refine aO (i := 3) rfl kR kR kR kR kR (fun _ _ _ h => h) rfl rfl hS235 (fun W' hs' => bQ (k := i) Try.runUnderlying82 Try.sizeOf3 rfl rfl rfl (Nat.lt_of_lt_of_eq hlt hn212.symm)) ?_
     refine aO (i := 4) rfl kR kR kR kR kR (fun _ _ _ h => h) rfl rfl hS235 (fun W' hs' => iQ (v := .int .i64 (L[i])) Try.isAgg3 rfl (Cat.cell0 hs'.2.1 rfl)) ?_
     refine bM (i := 5) kR ?_
     have H236 : St w No [hR aW 138 (.slice B199 ((nvV na L ns).aJ.length) c200) ((nvV na L ns).aJ), hR aP 70 (.slice B226 ((prE L[i] 1).aM.length) c227) ((prE L[i] 1).aM), hR aH 181 (.slice B228 ((prE L[i] 1).Queue.length) c229) ((prE L[i] 1).Queue), hR aQ 155 (.slice B230 ((prE L[i] 1).aG.length) c231) ((prE L[i] 1).aG), hE aL 77 gf217 c196 (i + 1) [.int .i64 ((prE L[i] 1).Kind), .int .i64 ((prE L[i] 1).Script), .slice B226 ((prE L[i] 1).aM.length) c227, .int .i64 ((prE L[i] 1).State), .int .i64 ((prE L[i] 1).Value.Kind), .int .i64 ((prE L[i] 1).Value.N), .slice B228 ((prE L[i] 1).Queue.length) c229, .slice B230 ((prE L[i] 1).aG.length) c231, .int .i64 ((prE L[i] 1).bD), .int .i64 ((prE L[i] 1).Pos), .int .i64 ((prE L[i] 1).Count), .int .i64 ((prE L[i] 1).bJ)] ((nvV na L ns).aC), hE Kn.int 3 gf210 cL i [.int .i64 (L[i])] L, hR aH 181 (.slice B197 ((nvV na L ns).Loop.length) c198) ((nvV na L ns).Loop), hR aS 150 (.slice B201 ((nvV na L ns).Out.length) c202) ((nvV na L ns).Out), hB g_12_4 69 #[.int .i64 ((nvV na L ns).Id), .slice (some ⟨gf217, 0, none⟩) ((nvV na L ns).aC.length) c196, .slice B197 ((nvV na L ns).Loop.length) c198, .slice B199 ((nvV na L ns).aJ.length) c200, .slice B201 ((nvV na L ns).Out.length) c202], hB g_10_6 69 (List.toArray cs_10_2), hM bK (dK e Y) cs_10_2, hB g_9_6 77 (List.toArray ce), hB g_9_5 69 (List.toArray csY), hM bK Y csY, hM aL e ce, hR aL 77 (.slice B35 X.aC.length c36) X.aC, hR aH 181 (.slice B37 X.Loop.length c38) X.Loop, hR aW 138 (.slice B39 X.aJ.length c40) X.aJ, hR aS 150 (.slice B41 X.Out.length c42) X.Out, hB g_3_5 69 #[.int .i64 (X.Id), .slice B35 X.aC.length c36, .slice B37 X.Loop.length c38, .slice B39 X.aJ.length c40, .slice B41 X.Out.length c42]] W205.drew := H234.pick [6, 0, 1, 2, 3, 4, 5, 7, 8, 9, 10, 11, 12, 13, 14, 15, 16, 17, 18, 19] kD rfl; clear H234
     obtain ⟨F237, hs238, _, hfr239⟩ := St.frame (l0 := [hR aW 138 (.slice B199 ((nvV na L ns).aJ.length) c200) ((nvV na L ns).aJ)]) (l := [hR aP 70 (.slice B226 ((prE L[i] 1).aM.length) c227) ((prE L[i] 1).aM), hR aH 181 (.slice B228 ((prE L[i] 1).Queue.length) c229) ((prE L[i] 1).Queue), hR aQ 155 (.slice B230 ((prE L[i] 1).aG.length) c231) ((prE L[i] 1).aG), hE aL 77 gf217 c196 (i + 1) [.int .i64 ((prE L[i] 1).Kind), .int .i64 ((prE L[i] 1).Script), .slice B226 ((prE L[i] 1).aM.length) c227, .int .i64 ((prE L[i] 1).State), .int .i64 ((prE L[i] 1).Value.Kind), .int .i64 ((prE L[i] 1).Value.N), .slice B228 ((prE L[i] 1).Queue.length) c229, .slice B230 ((prE L[i] 1).aG.length) c231, .int .i64 ((prE L[i] 1).bD), .int .i64 ((prE L[i] 1).Pos), .int .i64 ((prE L[i] 1).Count), .int .i64 ((prE L[i] 1).bJ)] ((nvV na L ns).aC), hE Kn.int 3 gf210 cL i [.int .i64 (L[i])] L, hR aH 181 (.slice B197 ((nvV na L ns).Loop.length) c198) ((nvV na L ns).Loop), hR aS 150 (.slice B201 ((nvV na L ns).Out.length) c202) ((nvV na L ns).Out), hB g_12_4 69 #[.int .i64 ((nvV na L ns).Id), .slice (some ⟨gf217, 0, none⟩) ((nvV na L ns).aC.length) c196, .slice B197 ((nvV na L ns).Loop.length) c198, .slice B199 ((nvV na L ns).aJ.length) c200, .slice B201 ((nvV na L ns).Out.length) c202], hB g_10_6 69 (List.toArray cs_10_2), hM bK (dK e Y) cs_10_2, hB g_9_6 77 (List.toArray ce), hB g_9_5 69 (List.toArray csY), hM bK Y csY, hM aL e ce, hR aL 77 (.slice B35 X.aC.length c36) X.aC, hR aH 181 (.slice B37 X.Loop.length c38) X.Loop, hR aW 138 (.slice B39 X.aJ.length c40) X.aJ, hR aS 150 (.slice B41 X.Out.length c42) X.Out, hB g_3_5 69 #[.int .i64 (X.Id), .slice B35 X.aC.length c36, .slice B37 X.Loop.length c38, .slice B39 X.aJ.length c40, .slice B41 X.Out.length c42]]) H236
     refine bC rfl Try.call38 (vs := #[.agg #[.int .i64 ((nvV na L ns).Id), .slice (some ⟨gf217, 0, none⟩) ((nvV na L ns).aC.length) c196, .slice B197 ((nvV na L ns).Loop.length) c198, .slice B199 ((nvV na L ns).aJ.length) c200, .slice B201 ((nvV na L ns).Out.length) c202], .int .i64 (L[i])]) rfl rfl rfl (isUp_O ((nvV na L ns).aJ) (L[i]) _ _ _ _ _ _ _ _ hs238 (nv_up na L ns i hlt)) ?_
     rintro e242 W241 ⟨rfl, Hn240⟩; refine ⟨_, rfl, ?_⟩
     have H243 := hfr239 _ _ Hn240; clear H236
     have hS244 := And.intro (H243.blk 8 rfl) (And.intro (H243.catE 5 rfl) ((H243.catE 4 rfl))); refine ⟨fun _ => hS244, ?_⟩
     refine aO (i := 6) rfl kR kR kR kR kR (fun _ _ _ h => h) rfl rfl hS244 (fun W' hs' => jW rfl) ?_
     refine aO (i := 7) rfl kR kR kR kR kR (fun _ _ _ h => h) rfl rfl hS244 (fun W' hs' => aF rfl) ?_
     refine bW (i := 8) rfl rfl rfl rfl kR kR kR kR kR (fun _ _ _ h => h) rfl rfl hS244 (fun W' hs' => aU eD rfl) ?_
     refine bW (i := 9) rfl rfl rfl rfl kR kR kR kR kR (fun _ _ _ h => h) rfl rfl hS244 (fun W' hs' => bB (k := 1) (v := .slice (some ⟨gf217, 0, none⟩) ((nvV na L ns).aC.length) c196) Try.isAgg64 rfl hs'.1 rfl) ?_
     refine bW (i := 10) rfl rfl rfl rfl kR kR kR kR kR (fun _ _ _ h => h) rfl rfl hS244 (fun W' hs' => aF rfl) ?_
     refine bW (i := 11) rfl rfl rfl rfl kR kR kR kR kR (fun _ _ _ h => h) rfl rfl hS244 (fun W' hs' => gT (k := i) rfl rfl kO) ?_
     refine bW (i := 12) rfl rfl rfl rfl kR kR kR kR kR (fun _ _ _ h => h) rfl rfl hS244 (fun W' hs' => bQ (k := (i + 1)) Try.runUnderlying64 Try.sizeOf77 rfl rfl rfl (Nat.lt_of_lt_of_eq hlt2 hn219.symm)) ?_
     refine bW (i := 13) rfl rfl rfl rfl kR kR kR kR kR (fun _ _ _ h => h) rfl rfl hS244 (fun W' hs' => aU jZ rfl) ?_
     refine bW (i := 14) rfl rfl rfl rfl kR kR kR kR kR (fun _ _ _ h => h) rfl rfl hS244 (fun W' hs' => iT (v := .int .i64 ((prE L[i] 1).bD)) Try.isAgg3 rfl hs'.2.2 rfl) ?_
     refine bW (i := 15) rfl rfl rfl rfl kR kR kR kR kR (fun _ _ _ h => h) rfl rfl hS244 (fun W' hs' => aF rfl) ?_
     refine bW (i := 16) rfl rfl rfl rfl kR kR kR kR kR (fun _ _ _ h => h) rfl rfl hS244 (fun W' hs' => aF rfl) ?_
     refine bW (i := 17) rfl rfl rfl rfl kR kR kR kR kR (fun _ _ _ h => h) rfl rfl hS244 (fun W' hs' => bQ (k := i) Try.runUnderlying82 Try.sizeOf3 rfl rfl rfl (Nat.lt_of_lt_of_eq hlt hn212.symm)) ?_
     refine bW (i := 18) rfl rfl rfl rfl kR kR kR kR kR (fun _ _ _ h => h) rfl rfl hS244 (fun W' hs' => iQ (v := .int .i64 (L[i])) Try.isAgg3 rfl (Cat.cell0 hs'.2.1 rfl)) ?_
     refine bW (i := 19) rfl rfl rfl rfl kR kR kR kR kR (fun _ _ _ h => h) rfl rfl hS244 (fun W' hs' => bZ (p := ¬ (((prE L[i] 1).bD) : Int) = (L[i])) (not_not_intro rfl) (gH (p := ((prE L[i] 1).bD)) (q := (L[i])) rfl rfl)) ?_
     refine aO (i := 20) rfl kR kR kR kR kR (fun _ _ _ h => h) rfl rfl hS244 (fun W' hs' => aX (v := .bool (false)) (b := false) rfl rfl rfl rfl) ?_
     refine cB kR ?_ _
     refine aK ?_
     refine fA rfl ?_
     refine wp_skip ?_
     refine eP ?_
     refine aK ?_
     refine aN [0, 1, 2] rfl ?_
     refine aA ?_
     refine aB rfl (aF rfl) rfl rfl ?_
     refine aA ?_
     refine aB rfl (gT (k := i) rfl rfl kO) rfl rfl ?_
     refine aA ?_
     refine aB rfl (aR rfl) rfl rfl ?_
     refine aI ?_
     refine aK ?_
     have H245 : St w No [hM Kn.int (L[i]) [.int .i64 (L[i])], hR aW 138 (.slice B199 ((nvV na L ns).aJ.length) c200) ((nvV na L ns).aJ), hR aP 70 (.slice B226 ((prE L[i] 1).aM.length) c227) ((prE L[i] 1).aM), hR aH 181 (.slice B228 ((prE L[i] 1).Queue.length) c229) ((prE L[i] 1).Queue), hR aQ 155 (.slice B230 ((prE L[i] 1).aG.length) c231) ((prE L[i] 1).aG), hE aL 77 gf217 c196 (i + 1) [.int .i64 ((prE L[i] 1).Kind), .int .i64 ((prE L[i] 1).Script), .slice B226 ((prE L[i] 1).aM.length) c227, .int .i64 ((prE L[i] 1).State), .int .i64 ((prE L[i] 1).Value.Kind), .int .i64 ((prE L[i] 1).Value.N), .slice B228 ((prE L[i] 1).Queue.length) c229, .slice B230 ((prE L[i] 1).aG.length) c231, .int .i64 ((prE L[i] 1).bD), .int .i64 ((prE L[i] 1).Pos), .int .i64 ((prE L[i] 1).Count), .int .i64 ((prE L[i] 1).bJ)] ((nvV na L ns).aC), hE Kn.int 3 gf210 cL i [.int .i64 (L[i])] L, hR aH 181 (.slice B197 ((nvV na L ns).Loop.length) c198) ((nvV na L ns).Loop), hR aS 150 (.slice B201 ((nvV na L ns).Out.length) c202) ((nvV na L ns).Out), hB g_12_4 69 #[.int .i64 ((nvV na L ns).Id), .slice (some ⟨gf217, 0, none⟩) ((nvV na L ns).aC.length) c196, .slice B197 ((nvV na L ns).Loop.length) c198, .slice B199 ((nvV na L ns).aJ.length) c200, .slice B201 ((nvV na L ns).Out.length) c202], hB g_10_6 69 (List.toArray cs_10_2), hM bK (dK e Y) cs_10_2, hB g_9_6 77 (List.toArray ce), hB g_9_5 69 (List.toArray csY), hM bK Y csY, hM aL e ce, hR aL 77 (.slice B35 X.aC.length c36) X.aC, hR aH 181 (.slice B37 X.Loop.length c38) X.Loop, hR aW 138 (.slice B39 X.aJ.length c40) X.aJ, hR aS 150 (.slice B41 X.Out.length c42) X.Out, hB g_3_5 69 #[.int .i64 (X.Id), .slice B35 X.aC.length c36, .slice B37 X.Loop.length c38, .slice B39 X.aJ.length c40, .slice B41 X.Out.length c42]] W241 := H243.add0 (q := hM Kn.int (L[i]) [.int .i64 (L[i])]) rfl; clear H243
     have H246 : St w No [hE Kn.int 3 gf210 cL i [.int .i64 (L[i])] L, hM Kn.int (L[i]) [.int .i64 (L[i])], hR aW 138 (.slice B199 ((nvV na L ns).aJ.length) c200) ((nvV na L ns).aJ), hR aP 70 (.slice B226 ((prE L[i] 1).aM.length) c227) ((prE L[i] 1).aM), hR aH 181 (.slice B228 ((prE L[i] 1).Queue.length) c229) ((prE L[i] 1).Queue), hR aQ 155 (.slice B230 ((prE L[i] 1).aG.length) c231) ((prE L[i] 1).aG), hE aL 77 gf217 c196 (i + 1) [.int .i64 ((prE L[i] 1).Kind), .int .i64 ((prE L[i] 1).Script), .slice B226 ((prE L[i] 1).aM.length) c227, .int .i64 ((prE L[i] 1).State), .int .i64 ((prE L[i] 1).Value.Kind), .int .i64 ((prE L[i] 1).Value.N), .slice B228 ((prE L[i] 1).Queue.length) c229, .slice B230 ((prE L[i] 1).aG.length) c231, .int .i64 ((prE L[i] 1).bD), .int .i64 ((prE L[i] 1).Pos), .int .i64 ((prE L[i] 1).Count), .int .i64 ((prE L[i] 1).bJ)] ((nvV na L ns).aC), hR aH 181 (.slice B197 ((nvV na L ns).Loop.length) c198) ((nvV na L ns).Loop), hR aS 150 (.slice B201 ((nvV na L ns).Out.length) c202) ((nvV na L ns).Out), hB g_12_4 69 #[.int .i64 ((nvV na L ns).Id), .slice (some ⟨gf217, 0, none⟩) ((nvV na L ns).aC.length) c196, .slice B197 ((nvV na L ns).Loop.length) c198, .slice B199 ((nvV na L ns).aJ.length) c200, .slice B201 ((nvV na L ns).Out.length) c202], hB g_10_6 69 (List.toArray cs_10_2), hM bK (dK e Y) cs_10_2, hB g_9_6 77 (List.toArray ce), hB g_9_5 69 (List.toArray csY), hM bK Y csY, hM aL e ce, hR aL 77 (.slice B35 X.aC.length c36) X.aC, hR aH 181 (.slice B37 X.Loop.length c38) X.Loop, hR aW 138 (.slice B39 X.aJ.length c40) X.aJ, hR aS 150 (.slice B41 X.Out.length c42) X.Out, hB g_3_5 69 #[.int .i64 (X.Id), .slice B35 X.aC.length c36, .slice B37 X.Loop.length c38, .slice B39 X.aJ.length c40, .slice B41 X.Out.length c42]] W241 := H245.pick [6, 0, 1, 2, 3, 4, 5, 7, 8, 9, 10, 11, 12, 13, 14, 15, 16, 17, 18, 19, 20] kD rfl; clear H245
     have H247 : St w No [hR Kn.int 3 (.slice (some ⟨gf210, 0, none⟩) L.length cL) L, hR aW 138 (.slice B199 ((nvV na L ns).aJ.length) c200) ((nvV na L ns).aJ), hR aP 70 (.slice B226 ((prE L[i] 1).aM.length) c227) ((prE L[i] 1).aM), hR aH 181 (.slice B228 ((prE L[i] 1).Queue.length) c229) ((prE L[i] 1).Queue), hR aQ 155 (.slice B230 ((prE L[i] 1).aG.length) c231) ((prE L[i] 1).aG), hE aL 77 gf217 c196 (i + 1) [.int .i64 ((prE L[i] 1).Kind), .int .i64 ((prE L[i] 1).Script), .slice B226 ((prE L[i] 1).aM.length) c227, .int .i64 ((prE L[i] 1).State), .int .i64 ((prE L[i] 1).Value.Kind), .int .i64 ((prE L[i] 1).Value.N), .slice B228 ((prE L[i] 1).Queue.length) c229, .slice B230 ((prE L[i] 1).aG.length) c231, .int .i64 ((prE L[i] 1).bD), .int .i64 ((prE L[i] 1).Pos), .int .i64 ((prE L[i] 1).Count), .int .i64 ((prE L[i] 1).bJ)] ((nvV na L ns).aC), hR aH 181 (.slice B197 ((nvV na L ns).Loop.length) c198) ((nvV na L ns).Loop), hR aS 150 (.slice B201 ((nvV na L ns).Out.length) c202) ((nvV na L ns).Out), hB g_12_4 69 #[.int .i64 ((nvV na L ns).Id), .slice (some ⟨gf217, 0, none⟩) ((nvV na L ns).aC.length) c196, .slice B197 ((nvV na L ns).Loop.length) c198, .slice B199 ((nvV na L ns).aJ.length) c200, .slice B201 ((nvV na L ns).Out.length) c202], hB g_10_6 69 (List.toArray cs_10_2), hM bK (dK e Y) cs_10_2, hB g_9_6 77 (List.toArray ce), hB g_9_5 69 (List.toArray csY), hM bK Y csY, hM aL e ce, hR aL 77 (.slice B35 X.aC.length c36) X.aC, hR aH 181 (.slice B37 X.Loop.length c38) X.Loop, hR aW 138 (.slice B39 X.aJ.length c40) X.aJ, hR aS 150 (.slice B41 X.Out.length c42) X.Out, hB g_3_5 69 #[.int .i64 (X.Id), .slice B35 X.aC.length c36, .slice B37 X.Loop.length c38, .slice B39 X.aJ.length c40, .slice B41 X.Out.length c42]] W241 := H246.closeG (List.set_getElem_self ..) rfl; clear H246
     have H248 : St w No [hR aP 70 (.slice B226 ((prE L[i] 1).aM.length) c227) ((prE L[i] 1).aM), hR aH 181 (.slice B228 ((prE L[i] 1).Queue.length) c229) ((prE L[i] 1).Queue), hR aQ 155 (.slice B230 ((prE L[i] 1).aG.length) c231) ((prE L[i] 1).aG), hR Kn.int 3 (.slice (some ⟨gf210, 0, none⟩) L.length cL) L, hR aW 138 (.slice B199 ((nvV na L ns).aJ.length) c200) ((nvV na L ns).aJ), hE aL 77 gf217 c196 (i + 1) [.int .i64 ((prE L[i] 1).Kind), .int .i64 ((prE L[i] 1).Script), .slice B226 ((prE L[i] 1).aM.length) c227, .int .i64 ((prE L[i] 1).State), .int .i64 ((prE L[i] 1).Value.Kind), .int .i64 ((prE L[i] 1).Value.N), .slice B228 ((prE L[i] 1).Queue.length) c229, .slice B230 ((prE L[i] 1).aG.length) c231, .int .i64 ((prE L[i] 1).bD), .int .i64 ((prE L[i] 1).Pos), .int .i64 ((prE L[i] 1).Count), .int .i64 ((prE L[i] 1).bJ)] ((nvV na L ns).aC), hR aH 181 (.slice B197 ((nvV na L ns).Loop.length) c198) ((nvV na L ns).Loop), hR aS 150 (.slice B201 ((nvV na L ns).Out.length) c202) ((nvV na L ns).Out), hB g_12_4 69 #[.int .i64 ((nvV na L ns).Id), .slice (some ⟨gf217, 0, none⟩) ((nvV na L ns).aC.length) c196, .slice B197 ((nvV na L ns).Loop.length) c198, .slice B199 ((nvV na L ns).aJ.length) c200, .slice B201 ((nvV na L ns).Out.length) c202], hB g_10_6 69 (List.toArray cs_10_2), hM bK (dK e Y) cs_10_2, hB g_9_6 77 (List.toArray ce), hB g_9_5 69 (List.toArray csY), hM bK Y csY, hM aL e ce, hR aL 77 (.slice B35 X.aC.length c36) X.aC, hR aH 181 (.slice B37 X.Loop.length c38) X.Loop, hR aW 138 (.slice B39 X.aJ.length c40) X.aJ, hR aS 150 (.slice B41 X.Out.length c42) X.Out, hB g_3_5 69 #[.int .i64 (X.Id), .slice B35 X.aC.length c36, .slice B37 X.Loop.length c38, .slice B39 X.aJ.length c40, .slice B41 X.Out.length c42]] W241 := H247.pick [2, 3, 4, 0, 1, 5, 6, 7, 8, 9, 10, 11, 12, 13, 14, 15, 16, 17, 18, 19] kD rfl; clear H247
     have H249 : St w No [hM aL (prE L[i] 1) [.int .i64 ((prE L[i] 1).Kind), .int .i64 ((prE L[i] 1).Script), .slice B226 ((prE L[i] 1).aM.length) c227, .int .i64 ((prE L[i] 1).State), .int .i64 ((prE L[i] 1).Value.Kind), .int .i64 ((prE L[i] 1).Value.N), .slice B228 ((prE L[i] 1).Queue.length) c229, .slice B230 ((prE L[i] 1).aG.length) c231, .int .i64 ((prE L[i] 1).bD), .int .i64 ((prE L[i] 1).Pos), .int .i64 ((prE L[i] 1).Count), .int .i64 ((prE L[i] 1).bJ)], hR Kn.int 3 (.slice (some ⟨gf210, 0, none⟩) L.length cL) L, hR aW 138 (.slice B199 ((nvV na L ns).aJ.length) c200) ((nvV na L ns).aJ), hE aL 77 gf217 c196 (i + 1) [.int .i64 ((prE L[i] 1).Kind), .int .i64 ((prE L[i] 1).Script), .slice B226 ((prE L[i] 1).aM.length) c227, .int .i64 ((prE L[i] 1).State), .int .i64 ((prE L[i] 1).Value.Kind), .int .i64 ((prE L[i] 1).Value.N), .slice B228 ((prE L[i] 1).Queue.length) c229, .slice B230 ((prE L[i] 1).aG.length) c231, .int .i64 ((prE L[i] 1).bD), .int .i64 ((prE L[i] 1).Pos), .int .i64 ((prE L[i] 1).Count), .int .i64 ((prE L[i] 1).bJ)] ((nvV na L ns).aC), hR aH 181 (.slice B197 ((nvV na L ns).Loop.length) c198) ((nvV na L ns).Loop), hR aS 150 (.slice B201 ((nvV na L ns).Out.length) c202) ((nvV na L ns).Out), hB g_12_4 69 #[.int .i64 ((nvV na L ns).Id), .slice (some ⟨gf217, 0, none⟩) ((nvV na L ns).aC.length) c196, .slice B197 ((nvV na L ns).Loop.length) c198, .slice B199 ((nvV na L ns).aJ.length) c200, .slice B201 ((nvV na L ns).Out.length) c202], hB g_10_6 69 (List.toArray cs_10_2), hM bK (dK e Y) cs_10_2, hB g_9_6 77 (List.toArray ce), hB g_9_5 69 (List.toArray csY), hM bK Y csY, hM aL e ce, hR aL 77 (.slice B35 X.aC.length c36) X.aC, hR aH 181 (.slice B37 X.Loop.length c38) X.Loop, hR aW 138 (.slice B39 X.aJ.length c40) X.aJ, hR aS 150 (.slice B41 X.Out.length c42) X.Out, hB g_3_5 69 #[.int .i64 (X.Id), .slice B35 X.aC.length c36, .slice B37 X.Loop.length c38, .slice B39 X.aJ.length c40, .slice B41 X.Out.length c42]] W241 := H248.swap (l0 := [hR aP 70 (.slice B226 ((prE L[i] 1).aM.length) c227) ((prE L[i] 1).aM), hR aH 181 (.slice B228 ((prE L[i] 1).Queue.length) c229) ((prE L[i] 1).Queue), hR aQ 155 (.slice B230 ((prE L[i] 1).aG.length) c231) ((prE L[i] 1).aG)]) (l' := [hM aL (prE L[i] 1) [.int .i64 ((prE L[i] 1).Kind), .int .i64 ((prE L[i] 1).Script), .slice B226 ((prE L[i] 1).aM.length) c227, .int .i64 ((prE L[i] 1).State), .int .i64 ((prE L[i] 1).Value.Kind), .int .i64 ((prE L[i] 1).Value.N), .slice B228 ((prE L[i] 1).Queue.length) c229, .slice B230 ((prE L[i] 1).aG.length) c231, .int .i64 ((prE L[i] 1).bD), .int .i64 ((prE L[i] 1).Pos), .int .i64 ((prE L[i] 1).Count), .int .i64 ((prE L[i] 1).bJ)]]) (fun _ h => Star.one (gD (x := (prE L[i] 1)) h)); clear H248
     have H250 : St w No [hE aL 77 gf217 c196 (i + 1) [.int .i64 ((prE L[i] 1).Kind), .int .i64 ((prE L[i] 1).Script), .slice B226 ((prE L[i] 1).aM.length) c227, .int .i64 ((prE L[i] 1).State), .int .i64 ((prE L[i] 1).Value.Kind), .int .i64 ((prE L[i] 1).Value.N), .slice B228 ((prE L[i] 1).Queue.length) c229, .slice B230 ((prE L[i] 1).aG.length) c231, .int .i64 ((prE L[i] 1).bD), .int .i64 ((prE L[i] 1).Pos), .int .i64 ((prE L[i] 1).Count), .int .i64 ((prE L[i] 1).bJ)] ((nvV na L ns).aC), hM aL (prE L[i] 1) [.int .i64 ((prE L[i] 1).Kind), .int .i64 ((prE L[i] 1).Script), .slice B226 ((prE L[i] 1).aM.length) c227, .int .i64 ((prE L[i] 1).State), .int .i64 ((prE L[i] 1).Value.Kind), .int .i64 ((prE L[i] 1).Value.N), .slice B228 ((prE L[i] 1).Queue.length) c229, .slice B230 ((prE L[i] 1).aG.length) c231, .int .i64 ((prE L[i] 1).bD), .int .i64 ((prE L[i] 1).Pos), .int .i64 ((prE L[i] 1).Count), .int .i64 ((prE L[i] 1).bJ)], hR Kn.int 3 (.slice (some ⟨gf210, 0, none⟩) L.length cL) L, hR aW 138 (.slice B199 ((nvV na L ns).aJ.length) c200) ((nvV na L ns).aJ), hR aH 181 (.slice B197 ((nvV na L ns).Loop.length) c198) ((nvV na L ns).Loop), hR aS 150 (.slice B201 ((nvV na L ns).Out.length) c202) ((nvV na L ns).Out), hB g_12_4 69 #[.int .i64 ((nvV na L ns).Id), .slice (some ⟨gf217, 0, none⟩) ((nvV na L ns).aC.length) c196, .slice B197 ((nvV na L ns).Loop.length) c198, .slice B199 ((nvV na L ns).aJ.length) c200, .slice B201 ((nvV na L ns).Out.length) c202], hB g_10_6 69 (List.toArray cs_10_2), hM bK (dK e Y) cs_10_2, hB g_9_6 77 (List.toArray ce), hB g_9_5 69 (List.toArray csY), hM bK Y csY, hM aL e ce, hR aL 77 (.slice B35 X.aC.length c36) X.aC, hR aH 181 (.slice B37 X.Loop.length c38) X.Loop, hR aW 138 (.slice B39 X.aJ.length c40) X.aJ, hR aS 150 (.slice B41 X.Out.length c42) X.Out, hB g_3_5 69 #[.int .i64 (X.Id), .slice B35 X.aC.length c36, .slice B37 X.Loop.length c38, .slice B39 X.aJ.length c40, .slice B41 X.Out.length c42]] W241 := H249.pick [3, 0, 1, 2, 4, 5, 6, 7, 8, 9, 10, 11, 12, 13, 14, 15, 16, 17] kD rfl; clear H249
     have H251 : St w No [hR aL 77 (.slice (some ⟨gf217, 0, none⟩) ((nvV na L ns).aC.length) c196) ((nvV na L ns).aC), hR Kn.int 3 (.slice (some ⟨gf210, 0, none⟩) L.length cL) L, hR aW 138 (.slice B199 ((nvV na L ns).aJ.length) c200) ((nvV na L ns).aJ), hR aH 181 (.slice B197 ((nvV na L ns).Loop.length) c198) ((nvV na L ns).Loop), hR aS 150 (.slice B201 ((nvV na L ns).Out.length) c202) ((nvV na L ns).Out), hB g_12_4 69 #[.int .i64 ((nvV na L ns).Id), .slice (some ⟨gf217, 0, none⟩) ((nvV na L ns).aC.length) c196, .slice B197 ((nvV na L ns).Loop.length) c198, .slice B199 ((nvV na L ns).aJ.length) c200, .slice B201 ((nvV na L ns).Out.length) c202], hB g_10_6 69 (List.toArray cs_10_2), hM bK (dK e Y) cs_10_2, hB g_9_6 77 (List.toArray ce), hB g_9_5 69 (List.toArray csY), hM bK Y csY, hM aL e ce, hR aL 77 (.slice B35 X.aC.length c36) X.aC, hR aH 181 (.slice B37 X.Loop.length c38) X.Loop, hR aW 138 (.slice B39 X.aJ.length c40) X.aJ, hR aS 150 (.slice B41 X.Out.length c42) X.Out, hB g_3_5 69 #[.int .i64 (X.Id), .slice B35 X.aC.length c36, .slice B37 X.Loop.length c38, .slice B39 X.aJ.length c40, .slice B41 X.Out.length c42]] W241 := H250.closeG (by rw [← hxe]; exact List.set_getElem_self ..) rfl; clear H250
     exact (aZ [(3, .pointer (some ⟨g_3_5, 0, none⟩)), (6, .pointer (some ⟨g_9_5, 0, none⟩)), (7, .pointer (some ⟨g_9_6, 0, none⟩)), (8, .pointer (some ⟨g_10_6, 0, none⟩)), (9, .int .i64 ((addN Y.aC))), (11, .slice (some ⟨gf210, 0, none⟩) L.length cL), (13, .pointer (some ⟨g_12_4, 0, none⟩)), (14, .int .i64 (((i + 1 : Nat) : Int)))] rfl).elim fun x' hx => ⟨r204 - 1, kO, i + 1, (some ⟨gf210, 0, none⟩), (some ⟨gf217, 0, none⟩), x', hx, kO, H251.pick [0, 3, 2, 4, 5, 1, 6, 7, 8, 9, 10, 11, 12, 13, 14, 15, 16] kD rfl⟩
    ·refine wp_exit ?_
     refine dX ?_
     refine dX ?_
     refine iH ?_
     refine aK ?_
     refine wp_seq ?_
     by_cases hYl : Y.aC.length < 200
     ·have H252 : St w No [hM bK Y csY, hR aL 77 (.slice AE2 ((nvV na L ns).aC.length) c196) ((nvV na L ns).aC), hR aH 181 (.slice B197 ((nvV na L ns).Loop.length) c198) ((nvV na L ns).Loop), hR aW 138 (.slice B199 ((nvV na L ns).aJ.length) c200) ((nvV na L ns).aJ), hR aS 150 (.slice B201 ((nvV na L ns).Out.length) c202) ((nvV na L ns).Out), hB g_12_4 69 #[.int .i64 ((nvV na L ns).Id), .slice AE2 ((nvV na L ns).aC.length) c196, .slice B197 ((nvV na L ns).Loop.length) c198, .slice B199 ((nvV na L ns).aJ.length) c200, .slice B201 ((nvV na L ns).Out.length) c202], hR Kn.int 3 (.slice AL2 L.length cL) L, hB g_10_6 69 (List.toArray cs_10_2), hM bK (dK e Y) cs_10_2, hB g_9_6 77 (List.toArray ce), hB g_9_5 69 (List.toArray csY), hM aL e ce, hR aL 77 (.slice B35 X.aC.length c36) X.aC, hR aH 181 (.slice B37 X.Loop.length c38) X.Loop, hR aW 138 (.slice B39 X.aJ.length c40) X.aJ, hR aS 150 (.slice B41 X.Out.length c42) X.Out, hB g_3_5 69 #[.int .i64 (X.Id), .slice B35 X.aC.length c36, .slice B37 X.Loop.length c38, .slice B39 X.aJ.length c40, .slice B41 X.Out.length c42]] W205 := H207.pick [10, 0, 1, 2, 3, 4, 5, 6, 7, 8, 9, 11, 12, 13, 14, 15, 16] kD rfl; clear H207
      obtain ⟨F253, hM254, hb255⟩ := H252.unM
      obtain ⟨B257, c258, B259, c260, B261, c262, B263, c264, rfl, hst256⟩ := fZ hM254
      have H265 : St w No [hR aL 77 (.slice B257 Y.aC.length c258) Y.aC, hR aH 181 (.slice B259 Y.Loop.length c260) Y.Loop, hR aW 138 (.slice B261 Y.aJ.length c262) Y.aJ, hR aS 150 (.slice B263 Y.Out.length c264) Y.Out, hR aL 77 (.slice AE2 ((nvV na L ns).aC.length) c196) ((nvV na L ns).aC), hR aH 181 (.slice B197 ((nvV na L ns).Loop.length) c198) ((nvV na L ns).Loop), hR aW 138 (.slice B199 ((nvV na L ns).aJ.length) c200) ((nvV na L ns).aJ), hR aS 150 (.slice B201 ((nvV na L ns).Out.length) c202) ((nvV na L ns).Out), hB g_12_4 69 #[.int .i64 ((nvV na L ns).Id), .slice AE2 ((nvV na L ns).aC.length) c196, .slice B197 ((nvV na L ns).Loop.length) c198, .slice B199 ((nvV na L ns).aJ.length) c200, .slice B201 ((nvV na L ns).Out.length) c202], hR Kn.int 3 (.slice AL2 L.length cL) L, hB g_10_6 69 (List.toArray cs_10_2), hM bK (dK e Y) cs_10_2, hB g_9_6 77 (List.toArray ce), hB g_9_5 69 #[.int .i64 (Y.Id), .slice B257 Y.aC.length c258, .slice B259 Y.Loop.length c260, .slice B261 Y.aJ.length c262, .slice B263 Y.Out.length c264], hM aL e ce, hR aL 77 (.slice B35 X.aC.length c36) X.aC, hR aH 181 (.slice B37 X.Loop.length c38) X.Loop, hR aW 138 (.slice B39 X.aJ.length c40) X.aJ, hR aS 150 (.slice B41 X.Out.length c42) X.Out, hB g_3_5 69 #[.int .i64 (X.Id), .slice B35 X.aC.length c36, .slice B37 X.Loop.length c38, .slice B39 X.aJ.length c40, .slice B41 X.Out.length c42]] W205 := hb255 _ hst256; clear H252
      have H266 : St w No [hM bK (dK e Y) cs_10_2, hR aL 77 (.slice B257 Y.aC.length c258) Y.aC, hR aH 181 (.slice B259 Y.Loop.length c260) Y.Loop, hR aW 138 (.slice B261 Y.aJ.length c262) Y.aJ, hR aS 150 (.slice B263 Y.Out.length c264) Y.Out, hR aL 77 (.slice AE2 ((nvV na L ns).aC.length) c196) ((nvV na L ns).aC), hR aH 181 (.slice B197 ((nvV na L ns).Loop.length) c198) ((nvV na L ns).Loop), hR aW 138 (.slice B199 ((nvV na L ns).aJ.length) c200) ((nvV na L ns).aJ), hR aS 150 (.slice B201 ((nvV na L ns).Out.length) c202) ((nvV na L ns).Out), hB g_12_4 69 #[.int .i64 ((nvV na L ns).Id), .slice AE2 ((nvV na L ns).aC.length) c196, .slice B197 ((nvV na L ns).Loop.length) c198, .slice B199 ((nvV na L ns).aJ.length) c200, .slice B201 ((nvV na L ns).Out.length) c202], hR Kn.int 3 (.slice AL2 L.length cL) L, hB g_10_6 69 (List.toArray cs_10_2), hB g_9_6 77 (List.toArray ce), hB g_9_5 69 #[.int .i64 (Y.Id), .slice B257 Y.aC.length c258, .slice B259 Y.Loop.length c260, .slice B261 Y.aJ.length c262, .slice B263 Y.Out.length c264], hM aL e ce, hR aL 77 (.slice B35 X.aC.length c36) X.aC, hR aH 181 (.slice B37 X.Loop.length c38) X.Loop, hR aW 138 (.slice B39 X.aJ.length c40) X.aJ, hR aS 150 (.slice B41 X.Out.length c42) X.Out, hB g_3_5 69 #[.int .i64 (X.Id), .slice B35 X.aC.length c36, .slice B37 X.Loop.length c38, .slice B39 X.aJ.length c40, .slice B41 X.Out.length c42]] W205 := H265.pick [11, 0, 1, 2, 3, 4, 5, 6, 7, 8, 9, 10, 12, 13, 14, 15, 16, 17, 18, 19] kD rfl; clear H265
      obtain ⟨F267, hM268, hb269⟩ := H266.unM
      obtain ⟨B271, c272, B273, c274, B275, c276, B277, c278, rfl, hst270⟩ := fZ hM268
      have H279 : St w No [hR aL 77 (.slice B271 ((dK e Y).aC.length) c272) ((dK e Y).aC), hR aH 181 (.slice B273 ((dK e Y).Loop.length) c274) ((dK e Y).Loop), hR aW 138 (.slice B275 ((dK e Y).aJ.length) c276) ((dK e Y).aJ), hR aS 150 (.slice B277 ((dK e Y).Out.length) c278) ((dK e Y).Out), hR aL 77 (.slice B257 Y.aC.length c258) Y.aC, hR aH 181 (.slice B259 Y.Loop.length c260) Y.Loop, hR aW 138 (.slice B261 Y.aJ.length c262) Y.aJ, hR aS 150 (.slice B263 Y.Out.length c264) Y.Out, hR aL 77 (.slice AE2 ((nvV na L ns).aC.length) c196) ((nvV na L ns).aC), hR aH 181 (.slice B197 ((nvV na L ns).Loop.length) c198) ((nvV na L ns).Loop), hR aW 138 (.slice B199 ((nvV na L ns).aJ.length) c200) ((nvV na L ns).aJ), hR aS 150 (.slice B201 ((nvV na L ns).Out.length) c202) ((nvV na L ns).Out), hB g_12_4 69 #[.int .i64 ((nvV na L ns).Id), .slice AE2 ((nvV na L ns).aC.length) c196, .slice B197 ((nvV na L ns).Loop.length) c198, .slice B199 ((nvV na L ns).aJ.length) c200, .slice B201 ((nvV na L ns).Out.length) c202], hR Kn.int 3 (.slice AL2 L.length cL) L, hB g_10_6 69 #[.int .i64 ((dK e Y).Id), .slice B271 ((dK e Y).aC.length) c272, .slice B273 ((dK e Y).Loop.length) c274, .slice B275 ((dK e Y).aJ.length) c276, .slice B277 ((dK e Y).Out.length) c278], hB g_9_6 77 (List.toArray ce), hB g_9_5 69 #[.int .i64 (Y.Id), .slice B257 Y.aC.length c258, .slice B259 Y.Loop.length c260, .slice B261 Y.aJ.length c262, .slice B263 Y.Out.length c264], hM aL e ce, hR aL 77 (.slice B35 X.aC.length c36) X.aC, hR aH 181 (.slice B37 X.Loop.length c38) X.Loop, hR aW 138 (.slice B39 X.aJ.length c40) X.aJ, hR aS 150 (.slice B41 X.Out.length c42) X.Out, hB g_3_5 69 #[.int .i64 (X.Id), .slice B35 X.aC.length c36, .slice B37 X.Loop.length c38, .slice B39 X.aJ.length c40, .slice B41 X.Out.length c42]] W205 := hb269 _ hst270; clear H266
      have hN : addN Y.aC = ((Y.aC.length : Nat) : Int) := addN_yes _ hYl
      rw [hN]
      have hk8 := add_lt e Y hYl
      have hx8 := add_at e Y hYl hk8
      obtain ⟨gf280, rfl⟩ := H279.openS (q := Y.aC.length) hk8
      obtain ⟨ce281, hn282, H283⟩ := H279.openG (q := Y.aC.length) hk8; clear H279
      rw [hx8] at H283
      have H284 : St w No [hE aL 77 gf280 c272 Y.aC.length ce281 ((dK e Y).aC), hM aL e ce281, hR aH 181 (.slice B273 ((dK e Y).Loop.length) c274) ((dK e Y).Loop), hR aW 138 (.slice B275 ((dK e Y).aJ.length) c276) ((dK e Y).aJ), hR aS 150 (.slice B277 ((dK e Y).Out.length) c278) ((dK e Y).Out), hR aL 77 (.slice B257 Y.aC.length c258) Y.aC, hR aH 181 (.slice B259 Y.Loop.length c260) Y.Loop, hR aW 138 (.slice B261 Y.aJ.length c262) Y.aJ, hR aS 150 (.slice B263 Y.Out.length c264) Y.Out, hR aL 77 (.slice AE2 ((nvV na L ns).aC.length) c196) ((nvV na L ns).aC), hR aH 181 (.slice B197 ((nvV na L ns).Loop.length) c198) ((nvV na L ns).Loop), hR aW 138 (.slice B199 ((nvV na L ns).aJ.length) c200) ((nvV na L ns).aJ), hR aS 150 (.slice B201 ((nvV na L ns).Out.length) c202) ((nvV na L ns).Out), hB g_12_4 69 #[.int .i64 ((nvV na L ns).Id), .slice AE2 ((nvV na L ns).aC.length) c196, .slice B197 ((nvV na L ns).Loop.length) c198, .slice B199 ((nvV na L ns).aJ.length) c200, .slice B201 ((nvV na L ns).Out.length) c202], hR Kn.int 3 (.slice AL2 L.length cL) L, hB g_10_6 69 #[.int .i64 ((dK e Y).Id), .slice (some ⟨gf280, 0, none⟩) ((dK e Y).aC.length) c272, .slice B273 ((dK e Y).Loop.length) c274, .slice B275 ((dK e Y).aJ.length) c276, .slice B277 ((dK e Y).Out.length) c278], hB g_9_6 77 (List.toArray ce), hB g_9_5 69 #[.int .i64 (Y.Id), .slice B257 Y.aC.length c258, .slice B259 Y.Loop.length c260, .slice B261 Y.aJ.length c262, .slice B263 Y.Out.length c264], hM aL e ce, hR aL 77 (.slice B35 X.aC.length c36) X.aC, hR aH 181 (.slice B37 X.Loop.length c38) X.Loop, hR aW 138 (.slice B39 X.aJ.length c40) X.aJ, hR aS 150 (.slice B41 X.Out.length c42) X.Out, hB g_3_5 69 #[.int .i64 (X.Id), .slice B35 X.aC.length c36, .slice B37 X.Loop.length c38, .slice B39 X.aJ.length c40, .slice B41 X.Out.length c42]] W205 := H283; clear H283
      have H295 : St w No [hM aL e ce281, hE aL 77 gf280 c272 Y.aC.length ce281 ((dK e Y).aC), hR aH 181 (.slice B273 ((dK e Y).Loop.length) c274) ((dK e Y).Loop), hR aW 138 (.slice B275 ((dK e Y).aJ.length) c276) ((dK e Y).aJ), hR aS 150 (.slice B277 ((dK e Y).Out.length) c278) ((dK e Y).Out), hR aL 77 (.slice B257 Y.aC.length c258) Y.aC, hR aH 181 (.slice B259 Y.Loop.length c260) Y.Loop, hR aW 138 (.slice B261 Y.aJ.length c262) Y.aJ, hR aS 150 (.slice B263 Y.Out.length c264) Y.Out, hR aL 77 (.slice AE2 ((nvV na L ns).aC.length) c196) ((nvV na L ns).aC), hR aH 181 (.slice B197 ((nvV na L ns).Loop.length) c198) ((nvV na L ns).Loop), hR aW 138 (.slice B199 ((nvV na L ns).aJ.length) c200) ((nvV na L ns).aJ), hR aS 150 (.slice B201 ((nvV na L ns).Out.length) c202) ((nvV na L ns).Out), hB g_12_4 69 #[.int .i64 ((nvV na L ns).Id), .slice AE2 ((nvV na L ns).aC.length) c196, .slice B197 ((nvV na L ns).Loop.length) c198, .slice B199 ((nvV na L ns).aJ.length) c200, .slice B201 ((nvV na L ns).Out.length) c202], hR Kn.int 3 (.slice AL2 L.length cL) L, hB g_10_6 69 #[.int .i64 ((dK e Y).Id), .slice (some ⟨gf280, 0, none⟩) ((dK e Y).aC.length) c272, .slice B273 ((dK e Y).Loop.length) c274, .slice B275 ((dK e Y).aJ.length) c276, .slice B277 ((dK e Y).Out.length) c278], hB g_9_6 77 (List.toArray ce), hB g_9_5 69 #[.int .i64 (Y.Id), .slice B257 Y.aC.length c258, .slice B259 Y.Loop.length c260, .slice B261 Y.aJ.length c262, .slice B263 Y.Out.length c264], hM aL e ce, hR aL 77 (.slice B35 X.aC.length c36) X.aC, hR aH 181 (.slice B37 X.Loop.length c38) X.Loop, hR aW 138 (.slice B39 X.aJ.length c40) X.aJ, hR aS 150 (.slice B41 X.Out.length c42) X.Out, hB g_3_5 69 #[.int .i64 (X.Id), .slice B35 X.aC.length c36, .slice B37 X.Loop.length c38, .slice B39 X.aJ.length c40, .slice B41 X.Out.length c42]] W205 := H284.pick [1, 0, 2, 3, 4, 5, 6, 7, 8, 9, 10, 11, 12, 13, 14, 15, 16, 17, 18, 19, 20, 21, 22, 23] kD rfl; clear H284
      obtain ⟨F285, hM286, hb287⟩ := H295.unM
      obtain ⟨B289, c290, B291, c292, B293, c294, rfl, hst288⟩ := gK hM286
      have H296 : St w No [hR aP 70 (.slice B289 e.aM.length c290) e.aM, hR aH 181 (.slice B291 e.Queue.length c292) e.Queue, hR aQ 155 (.slice B293 e.aG.length c294) e.aG, hE aL 77 gf280 c272 Y.aC.length [.int .i64 (e.Kind), .int .i64 (e.Script), .slice B289 e.aM.length c290, .int .i64 (e.State), .int .i64 (e.Value.Kind), .int .i64 (e.Value.N), .slice B291 e.Queue.length c292, .slice B293 e.aG.length c294, .int .i64 (e.bD), .int .i64 (e.Pos), .int .i64 (e.Count), .int .i64 (e.bJ)] ((dK e Y).aC), hR aH 181 (.slice B273 ((dK e Y).Loop.length) c274) ((dK e Y).Loop), hR aW 138 (.slice B275 ((dK e Y).aJ.length) c276) ((dK e Y).aJ), hR aS 150 (.slice B277 ((dK e Y).Out.length) c278) ((dK e Y).Out), hR aL 77 (.slice B257 Y.aC.length c258) Y.aC, hR aH 181 (.slice B259 Y.Loop.length c260) Y.Loop, hR aW 138 (.slice B261 Y.aJ.length c262) Y.aJ, hR aS 150 (.slice B263 Y.Out.length c264) Y.Out, hR aL 77 (.slice AE2 ((nvV na L ns).aC.length) c196) ((nvV na L ns).aC), hR aH 181 (.slice B197 ((nvV na L ns).Loop.length) c198) ((nvV na L ns).Loop), hR aW 138 (.slice B199 ((nvV na L ns).aJ.length) c200) ((nvV na L ns).aJ), hR aS 150 (.slice B201 ((nvV na L ns).Out.length) c202) ((nvV na L ns).Out), hB g_12_4 69 #[.int .i64 ((nvV na L ns).Id), .slice AE2 ((nvV na L ns).aC.length) c196, .slice B197 ((nvV na L ns).Loop.length) c198, .slice B199 ((nvV na L ns).aJ.length) c200, .slice B201 ((nvV na L ns).Out.length) c202], hR Kn.int 3 (.slice AL2 L.length cL) L, hB g_10_6 69 #[.int .i64 ((dK e Y).Id), .slice (some ⟨gf280, 0, none⟩) ((dK e Y).aC.length) c272, .slice B273 ((dK e Y).Loop.length) c274, .slice B275 ((dK e Y).aJ.length) c276, .slice B277 ((dK e Y).Out.length) c278], hB g_9_6 77 (List.toArray ce), hB g_9_5 69 #[.int .i64 (Y.Id), .slice B257 Y.aC.length c258, .slice B259 Y.Loop.length c260, .slice B261 Y.aJ.length c262, .slice B263 Y.Out.length c264], hM aL e ce, hR aL 77 (.slice B35 X.aC.length c36) X.aC, hR aH 181 (.slice B37 X.Loop.length c38) X.Loop, hR aW 138 (.slice B39 X.aJ.length c40) X.aJ, hR aS 150 (.slice B41 X.Out.length c42) X.Out, hB g_3_5 69 #[.int .i64 (X.Id), .slice B35 X.aC.length c36, .slice B37 X.Loop.length c38, .slice B39 X.aJ.length c40, .slice B41 X.Out.length c42]] W205 := hb287 _ hst288; clear H295
      refine dG (fun W' => Blk W' g_3_5 69 #[.int .i64 (X.Id), .slice B35 X.aC.length c36, .slice B37 X.Loop.length c38, .slice B39 X.aJ.length c40, .slice B41 X.Out.length c42] ∧ Blk W' g_9_5 69 #[.int .i64 (Y.Id), .slice B257 Y.aC.length c258, .slice B259 Y.Loop.length c260, .slice B261 Y.aJ.length c262, .slice B263 Y.Out.length c264] ∧ Blk W' g_10_6 69 #[.int .i64 ((dK e Y).Id), .slice (some ⟨gf280, 0, none⟩) ((dK e Y).aC.length) c272, .slice B273 ((dK e Y).Loop.length) c274, .slice B275 ((dK e Y).aJ.length) c276, .slice B277 ((dK e Y).Out.length) c278] ∧ Cat W' (Addr.add ⟨gf280, 0, none⟩ (Y.aC.length * 12)) [.int .i64 (e.Kind), .int .i64 (e.Script), .slice B289 e.aM.length c290, .int .i64 (e.State), .int .i64 (e.Value.Kind), .int .i64 (e.Value.N), .slice B291 e.Queue.length c292, .slice B293 e.aG.length c294, .int .i64 (e.bD), .int .i64 (e.Pos), .int .i64 (e.Count), .int .i64 (e.bJ)] ∧ Blk W' g_9_6 77 (List.toArray ce)) 26 kR ?_
      have H297 := H296.drew; clear H296
      have hS298 : Blk W205.drew g_3_5 69 #[.int .i64 (X.Id), .slice B35 X.aC.length c36, .slice B37 X.Loop.length c38, .slice B39 X.aJ.length c40, .slice B41 X.Out.length c42] ∧ Blk W205.drew g_9_5 69 #[.int .i64 (Y.Id), .slice B257 Y.aC.length c258, .slice B259 Y.Loop.length c260, .slice B261 Y.aJ.length c262, .slice B263 Y.Out.length c264] ∧ Blk W205.drew g_10_6 69 #[.int .i64 ((dK e Y).Id), .slice (some ⟨gf280, 0, none⟩) ((dK e Y).aC.length) c272, .slice B273 ((dK e Y).Loop.length) c274, .slice B275 ((dK e Y).aJ.length) c276, .slice B277 ((dK e Y).Out.length) c278] ∧ Cat W205.drew (Addr.add ⟨gf280, 0, none⟩ (Y.aC.length * 12)) [.int .i64 (e.Kind), .int .i64 (e.Script), .slice B289 e.aM.length c290, .int .i64 (e.State), .int .i64 (e.Value.Kind), .int .i64 (e.Value.N), .slice B291 e.Queue.length c292, .slice B293 e.aG.length c294, .int .i64 (e.bD), .int .i64 (e.Pos), .int .i64 (e.Count), .int .i64 (e.bJ)] ∧ Blk W205.drew g_9_6 77 (List.toArray ce) := ⟨H297.blk 25 rfl, H297.blk 19 rfl, H297.blk 17 rfl, (H297.catE 3 rfl), H297.blk 18 rfl⟩
      refine aO (i := 0) rfl kR kR kR kR kR (fun _ _ _ h => h) rfl rfl hS298 (fun W' hs' => bN Try.isAgg69 Try.sizeOf69 rfl hs'.1 rfl) ?_
      refine aO (i := 1) rfl kR kR kR kR kR (fun _ _ _ h => h) rfl rfl hS298 (fun W' hs' => bN Try.isAgg69 Try.sizeOf69 rfl hs'.1 rfl) ?_
      refine bM (i := 2) kR ?_
      refine bC rfl Try.call39 (vs := #[.agg #[.int .i64 (X.Id), .slice B35 X.aC.length c36, .slice B37 X.Loop.length c38, .slice B39 X.aJ.length c40, .slice B41 X.Out.length c42], .agg #[.int .i64 (X.Id), .slice B35 X.aC.length c36, .slice B37 X.Loop.length c38, .slice B39 X.aJ.length c40, .slice B41 X.Out.length c42]]) rfl rfl rfl (iF (equalVats_i X X _ _ _ (gZ _ X (H297.fE 21 rfl).1 (H297.fU 21 rfl) (H297.fE 22 rfl).1 (H297.fU 22 rfl) (H297.fE 23 rfl).1 (H297.fU 23 rfl) (H297.fE 24 rfl).1 (H297.fU 24 rfl)) (gZ _ X (H297.fE 21 rfl).1 (H297.fU 21 rfl) (H297.fE 22 rfl).1 (H297.fU 22 rfl) (H297.fE 23 rfl).1 (H297.fU 23 rfl) (H297.fE 24 rfl).1 (H297.fU 24 rfl))) (eqb_Vat_rfl _)) ?_
      rintro e301 W300 ⟨rfl, hu299⟩; refine ⟨_, rfl, ?_⟩
      have H302 := H297.no hu299; clear H297
      have hS303 := And.intro (H302.blk 25 rfl) (And.intro (H302.blk 19 rfl) (And.intro (H302.blk 17 rfl) (And.intro (H302.catE 3 rfl) (H302.blk 18 rfl)))); refine ⟨fun _ => hS303, ?_⟩
      refine aO (i := 3) rfl kR kR kR kR kR (fun _ _ _ h => h) rfl rfl hS303 (fun W' hs' => aF rfl) ?_
      refine bW (i := 4) rfl rfl rfl rfl kR kR kR kR kR (fun _ _ _ h => h) rfl rfl hS303 (fun W' hs' => aF rfl) ?_
      refine bW (i := 5) rfl rfl rfl rfl kR kR kR kR kR (fun _ _ _ h => h) rfl rfl hS303 (fun W' hs' => bZ (p := (((Y.aC.length : Nat) : Int) : Int) < 0) kO (gB (p := ((Y.aC.length : Nat) : Int)) (q := 0) rfl rfl)) ?_
      refine bW (i := 6) rfl rfl rfl rfl kR kR kR kR kR (fun _ _ _ h => h) rfl rfl hS303 (fun W' hs' => aU eD rfl) ?_
      refine bW (i := 7) rfl rfl rfl rfl kR kR kR kR kR (fun _ _ _ h => h) rfl rfl hS303 (fun W' hs' => bB (k := 1) (v := .slice B257 Y.aC.length c258) Try.isAgg64 rfl hs'.2.1 rfl) ?_
      refine bW (i := 8) rfl rfl rfl rfl kR kR kR kR kR (fun _ _ _ h => h) rfl rfl hS303 (fun W' hs' => dP Try.runUnderlying64 rfl) ?_
      refine bW (i := 9) rfl rfl rfl rfl kR kR kR kR kR (fun _ _ _ h => h) rfl rfl hS303 (fun W' hs' => bZ (p := (200 : Int) ≤ (Y.aC.length : Nat)) kO (rn_geq (p := (Y.aC.length : Nat)) (q := 200) rfl rfl)) ?_
      refine bW (i := 10) rfl rfl rfl rfl kR kR kR kR kR (fun _ _ _ h => h) rfl rfl hS303 (fun W' hs' => fI (b := false == false) rfl (rn_eqlB Try.underlying4 rfl rfl)) ?_
      refine aO (i := 11) rfl kR kR kR kR kR (fun _ _ _ h => h) rfl rfl hS303 (fun W' hs' => aX (v := .bool (true)) (b := true) rfl rfl rfl rfl) ?_
      refine aO (i := 12) rfl kR kR kR kR kR (fun _ _ _ h => h) rfl rfl hS303 (fun W' hs' => aF rfl) ?_
      refine bW (i := 13) rfl rfl rfl rfl kR kR kR kR kR (fun _ _ _ h => h) rfl rfl hS303 (fun W' hs' => aF rfl) ?_
      refine bW (i := 14) rfl rfl rfl rfl kR kR kR kR kR (fun _ _ _ h => h) rfl rfl hS303 (fun W' hs' => bZ (p := (((Y.aC.length : Nat) : Int) : Int) < 0) kO (gB (p := ((Y.aC.length : Nat) : Int)) (q := 0) rfl rfl)) ?_
      refine bW (i := 15) rfl rfl rfl rfl kR kR kR kR kR (fun _ _ _ h => h) rfl rfl hS303 (fun W' hs' => aF rfl) ?_
      refine bW (i := 16) rfl rfl rfl rfl kR kR kR kR kR (fun _ _ _ h => h) rfl rfl hS303 (fun W' hs' => aU eD rfl) ?_
      refine bW (i := 17) rfl rfl rfl rfl kR kR kR kR kR (fun _ _ _ h => h) rfl rfl hS303 (fun W' hs' => bB (k := 1) (v := .slice (some ⟨gf280, 0, none⟩) ((dK e Y).aC.length) c272) Try.isAgg64 rfl hs'.2.2.1 rfl) ?_
      refine bW (i := 18) rfl rfl rfl rfl kR kR kR kR kR (fun _ _ _ h => h) rfl rfl hS303 (fun W' hs' => aF rfl) ?_
      refine bW (i := 19) rfl rfl rfl rfl kR kR kR kR kR (fun _ _ _ h => h) rfl rfl hS303 (fun W' hs' => bQ (k := Y.aC.length) Try.runUnderlying64 Try.sizeOf77 rfl rfl rfl (Nat.lt_of_lt_of_eq hk8 hn282.symm)) ?_
      refine bW (i := 20) rfl rfl rfl rfl kR kR kR kR kR (fun _ _ _ h => h) rfl rfl hS303 (fun W' hs' => dR Try.isAgg77 Try.sizeOf77 rfl hs'.2.2.2.1 rfl) ?_
      refine bW (i := 21) rfl rfl rfl rfl kR kR kR kR kR (fun _ _ _ h => h) rfl rfl hS303 (fun W' hs' => bN Try.isAgg77 Try.sizeOf77 rfl hs'.2.2.2.2 (cO (H302.kn 20 rfl))) ?_
      refine bM (i := 22) kR ?_
      refine bL rfl rfl rfl rfl (fun _ ho304 => ?_)
      refine bC ho304 Try.call40 (vs := #[.agg #[.int .i64 (e.Kind), .int .i64 (e.Script), .slice B289 e.aM.length c290, .int .i64 (e.State), .int .i64 (e.Value.Kind), .int .i64 (e.Value.N), .slice B291 e.Queue.length c292, .slice B293 e.aG.length c294, .int .i64 (e.bD), .int .i64 (e.Pos), .int .i64 (e.Count), .int .i64 (e.bJ)], .agg (List.toArray ce)]) rfl rfl rfl (iF (kP e e _ _ _ (jG _ e (H302.fE 0 rfl).1 (H302.fU 0 rfl) (H302.fE 1 rfl).1 (H302.fU 1 rfl) (H302.fE 2 rfl).1 (H302.fU 2 rfl)) (H302.kn 20 rfl)) (eqb_Entity_rfl _)) ?_
      rintro e307 W306 ⟨rfl, hu305⟩; refine ⟨_, rfl, ?_⟩
      have H308 := H302.no hu305; clear H302
      have hS309 := And.intro (H308.blk 25 rfl) (And.intro (H308.blk 19 rfl) (And.intro (H308.blk 17 rfl) (And.intro (H308.catE 3 rfl) (H308.blk 18 rfl)))); refine ⟨fun _ => hS309, ?_⟩
      refine bW (i := 23) rfl rfl rfl rfl kR kR kR kR kR (fun _ _ _ h => h) rfl rfl hS309 (fun W' hs' => aX (v := .bool (true)) (b := false) rfl rfl rfl rfl) ?_
      refine aO (i := 24) rfl kR kR kR kR kR (fun _ _ _ h => h) rfl rfl hS309 (fun W' hs' => aX (v := .bool (true)) (b := true) rfl rfl rfl rfl) ?_
      refine aO (i := 25) rfl kR kR kR kR kR (fun _ _ _ h => h) rfl rfl hS309 (fun W' hs' => aR rfl) ?_
      refine cB kR ?_ _
      refine aK ?_
      refine wp_ret ?_
      refine bI (.inl rfl) Try.results5 rfl ?_
      exact ⟨rfl, H308.1⟩
     ·have H310 : St w No [hM bK Y csY, hR aL 77 (.slice AE2 ((nvV na L ns).aC.length) c196) ((nvV na L ns).aC), hR aH 181 (.slice B197 ((nvV na L ns).Loop.length) c198) ((nvV na L ns).Loop), hR aW 138 (.slice B199 ((nvV na L ns).aJ.length) c200) ((nvV na L ns).aJ), hR aS 150 (.slice B201 ((nvV na L ns).Out.length) c202) ((nvV na L ns).Out), hB g_12_4 69 #[.int .i64 ((nvV na L ns).Id), .slice AE2 ((nvV na L ns).aC.length) c196, .slice B197 ((nvV na L ns).Loop.length) c198, .slice B199 ((nvV na L ns).aJ.length) c200, .slice B201 ((nvV na L ns).Out.length) c202], hR Kn.int 3 (.slice AL2 L.length cL) L, hB g_10_6 69 (List.toArray cs_10_2), hM bK (dK e Y) cs_10_2, hB g_9_6 77 (List.toArray ce), hB g_9_5 69 (List.toArray csY), hM aL e ce, hR aL 77 (.slice B35 X.aC.length c36) X.aC, hR aH 181 (.slice B37 X.Loop.length c38) X.Loop, hR aW 138 (.slice B39 X.aJ.length c40) X.aJ, hR aS 150 (.slice B41 X.Out.length c42) X.Out, hB g_3_5 69 #[.int .i64 (X.Id), .slice B35 X.aC.length c36, .slice B37 X.Loop.length c38, .slice B39 X.aJ.length c40, .slice B41 X.Out.length c42]] W205 := H207.pick [10, 0, 1, 2, 3, 4, 5, 6, 7, 8, 9, 11, 12, 13, 14, 15, 16] kD rfl; clear H207
      obtain ⟨F311, hM312, hb313⟩ := H310.unM
      obtain ⟨B315, c316, B317, c318, B319, c320, B321, c322, rfl, hst314⟩ := fZ hM312
      have H323 : St w No [hR aL 77 (.slice B315 Y.aC.length c316) Y.aC, hR aH 181 (.slice B317 Y.Loop.length c318) Y.Loop, hR aW 138 (.slice B319 Y.aJ.length c320) Y.aJ, hR aS 150 (.slice B321 Y.Out.length c322) Y.Out, hR aL 77 (.slice AE2 ((nvV na L ns).aC.length) c196) ((nvV na L ns).aC), hR aH 181 (.slice B197 ((nvV na L ns).Loop.length) c198) ((nvV na L ns).Loop), hR aW 138 (.slice B199 ((nvV na L ns).aJ.length) c200) ((nvV na L ns).aJ), hR aS 150 (.slice B201 ((nvV na L ns).Out.length) c202) ((nvV na L ns).Out), hB g_12_4 69 #[.int .i64 ((nvV na L ns).Id), .slice AE2 ((nvV na L ns).aC.length) c196, .slice B197 ((nvV na L ns).Loop.length) c198, .slice B199 ((nvV na L ns).aJ.length) c200, .slice B201 ((nvV na L ns).Out.length) c202], hR Kn.int 3 (.slice AL2 L.length cL) L, hB g_10_6 69 (List.toArray cs_10_2), hM bK (dK e Y) cs_10_2, hB g_9_6 77 (List.toArray ce), hB g_9_5 69 #[.int .i64 (Y.Id), .slice B315 Y.aC.length c316, .slice B317 Y.Loop.length c318, .slice B319 Y.aJ.length c320, .slice B321 Y.Out.length c322], hM aL e ce, hR aL 77 (.slice B35 X.aC.length c36) X.aC, hR aH 181 (.slice B37 X.Loop.length c38) X.Loop, hR aW 138 (.slice B39 X.aJ.length c40) X.aJ, hR aS 150 (.slice B41 X.Out.length c42) X.Out, hB g_3_5 69 #[.int .i64 (X.Id), .slice B35 X.aC.length c36, .slice B37 X.Loop.length c38, .slice B39 X.aJ.length c40, .slice B41 X.Out.length c42]] W205 := hb313 _ hst314; clear H310
      have H324 : St w No [hM bK (dK e Y) cs_10_2, hR aL 77 (.slice B315 Y.aC.length c316) Y.aC, hR aH 181 (.slice B317 Y.Loop.length c318) Y.Loop, hR aW 138 (.slice B319 Y.aJ.length c320) Y.aJ, hR aS 150 (.slice B321 Y.Out.length c322) Y.Out, hR aL 77 (.slice AE2 ((nvV na L ns).aC.length) c196) ((nvV na L ns).aC), hR aH 181 (.slice B197 ((nvV na L ns).Loop.length) c198) ((nvV na L ns).Loop), hR aW 138 (.slice B199 ((nvV na L ns).aJ.length) c200) ((nvV na L ns).aJ), hR aS 150 (.slice B201 ((nvV na L ns).Out.length) c202) ((nvV na L ns).Out), hB g_12_4 69 #[.int .i64 ((nvV na L ns).Id), .slice AE2 ((nvV na L ns).aC.length) c196, .slice B197 ((nvV na L ns).Loop.length) c198, .slice B199 ((nvV na L ns).aJ.length) c200, .slice B201 ((nvV na L ns).Out.length) c202], hR Kn.int 3 (.slice AL2 L.length cL) L, hB g_10_6 69 (List.toArray cs_10_2), hB g_9_6 77 (List.toArray ce), hB g_9_5 69 #[.int .i64 (Y.Id), .slice B315 Y.aC.length c316, .slice B317 Y.Loop.length c318, .slice B319 Y.aJ.length c320, .slice B321 Y.Out.length c322], hM aL e ce, hR aL 77 (.slice B35 X.aC.length c36) X.aC, hR aH 181 (.slice B37 X.Loop.length c38) X.Loop, hR aW 138 (.slice B39 X.aJ.length c40) X.aJ, hR aS 150 (.slice B41 X.Out.length c42) X.Out, hB g_3_5 69 #[.int .i64 (X.Id), .slice B35 X.aC.length c36, .slice B37 X.Loop.length c38, .slice B39 X.aJ.length c40, .slice B41 X.Out.length c42]] W205 := H323.pick [11, 0, 1, 2, 3, 4, 5, 6, 7, 8, 9, 10, 12, 13, 14, 15, 16, 17, 18, 19] kD rfl; clear H323
      obtain ⟨F325, hM326, hb327⟩ := H324.unM
      obtain ⟨B329, c330, B331, c332, B333, c334, B335, c336, rfl, hst328⟩ := fZ hM326
      have H337 : St w No [hR aL 77 (.slice B329 ((dK e Y).aC.length) c330) ((dK e Y).aC), hR aH 181 (.slice B331 ((dK e Y).Loop.length) c332) ((dK e Y).Loop), hR aW 138 (.slice B333 ((dK e Y).aJ.length) c334) ((dK e Y).aJ), hR aS 150 (.slice B335 ((dK e Y).Out.length) c336) ((dK e Y).Out), hR aL 77 (.slice B315 Y.aC.length c316) Y.aC, hR aH 181 (.slice B317 Y.Loop.length c318) Y.Loop, hR aW 138 (.slice B319 Y.aJ.length c320) Y.aJ, hR aS 150 (.slice B321 Y.Out.length c322) Y.Out, hR aL 77 (.slice AE2 ((nvV na L ns).aC.length) c196) ((nvV na L ns).aC), hR aH 181 (.slice B197 ((nvV na L ns).Loop.length) c198) ((nvV na L ns).Loop), hR aW 138 (.slice B199 ((nvV na L ns).aJ.length) c200) ((nvV na L ns).aJ), hR aS 150 (.slice B201 ((nvV na L ns).Out.length) c202) ((nvV na L ns).Out), hB g_12_4 69 #[.int .i64 ((nvV na L ns).Id), .slice AE2 ((nvV na L ns).aC.length) c196, .slice B197 ((nvV na L ns).Loop.length) c198, .slice B199 ((nvV na L ns).aJ.length) c200, .slice B201 ((nvV na L ns).Out.length) c202], hR Kn.int 3 (.slice AL2 L.length cL) L, hB g_10_6 69 #[.int .i64 ((dK e Y).Id), .slice B329 ((dK e Y).aC.length) c330, .slice B331 ((dK e Y).Loop.length) c332, .slice B333 ((dK e Y).aJ.length) c334, .slice B335 ((dK e Y).Out.length) c336], hB g_9_6 77 (List.toArray ce), hB g_9_5 69 #[.int .i64 (Y.Id), .slice B315 Y.aC.length c316, .slice B317 Y.Loop.length c318, .slice B319 Y.aJ.length c320, .slice B321 Y.Out.length c322], hM aL e ce, hR aL 77 (.slice B35 X.aC.length c36) X.aC, hR aH 181 (.slice B37 X.Loop.length c38) X.Loop, hR aW 138 (.slice B39 X.aJ.length c40) X.aJ, hR aS 150 (.slice B41 X.Out.length c42) X.Out, hB g_3_5 69 #[.int .i64 (X.Id), .slice B35 X.aC.length c36, .slice B37 X.Loop.length c38, .slice B39 X.aJ.length c40, .slice B41 X.Out.length c42]] W205 := hb327 _ hst328; clear H324
      have hN : addN Y.aC = (-1 : Int) := addN_no _ hYl
      rw [hN]
      refine dG (fun W' => Blk W' g_3_5 69 #[.int .i64 (X.Id), .slice B35 X.aC.length c36, .slice B37 X.Loop.length c38, .slice B39 X.aJ.length c40, .slice B41 X.Out.length c42] ∧ Blk W' g_9_5 69 #[.int .i64 (Y.Id), .slice B315 Y.aC.length c316, .slice B317 Y.Loop.length c318, .slice B319 Y.aJ.length c320, .slice B321 Y.Out.length c322]) 26 kR ?_
      have H338 := H337.drew; clear H337
      have hS339 : Blk W205.drew g_3_5 69 #[.int .i64 (X.Id), .slice B35 X.aC.length c36, .slice B37 X.Loop.length c38, .slice B39 X.aJ.length c40, .slice B41 X.Out.length c42] ∧ Blk W205.drew g_9_5 69 #[.int .i64 (Y.Id), .slice B315 Y.aC.length c316, .slice B317 Y.Loop.length c318, .slice B319 Y.aJ.length c320, .slice B321 Y.Out.length c322] := ⟨H338.blk 22 rfl, H338.blk 16 rfl⟩
      refine aO (i := 0) rfl kR kR kR kR kR (fun _ _ _ h => h) rfl rfl hS339 (fun W' hs' => bN Try.isAgg69 Try.sizeOf69 rfl hs'.1 rfl) ?_
      refine aO (i := 1) rfl kR kR kR kR kR (fun _ _ _ h => h) rfl rfl hS339 (fun W' hs' => bN Try.isAgg69 Try.sizeOf69 rfl hs'.1 rfl) ?_
      refine bM (i := 2) kR ?_
      refine bC rfl Try.call39 (vs := #[.agg #[.int .i64 (X.Id), .slice B35 X.aC.length c36, .slice B37 X.Loop.length c38, .slice B39 X.aJ.length c40, .slice B41 X.Out.length c42], .agg #[.int .i64 (X.Id), .slice B35 X.aC.length c36, .slice B37 X.Loop.length c38, .slice B39 X.aJ.length c40, .slice B41 X.Out.length c42]]) rfl rfl rfl (iF (equalVats_i X X _ _ _ (gZ _ X (H338.fE 18 rfl).1 (H338.fU 18 rfl) (H338.fE 19 rfl).1 (H338.fU 19 rfl) (H338.fE 20 rfl).1 (H338.fU 20 rfl) (H338.fE 21 rfl).1 (H338.fU 21 rfl)) (gZ _ X (H338.fE 18 rfl).1 (H338.fU 18 rfl) (H338.fE 19 rfl).1 (H338.fU 19 rfl) (H338.fE 20 rfl).1 (H338.fU 20 rfl) (H338.fE 21 rfl).1 (H338.fU 21 rfl))) (eqb_Vat_rfl _)) ?_
      rintro e342 W341 ⟨rfl, hu340⟩; refine ⟨_, rfl, ?_⟩
      have H343 := H338.no hu340; clear H338
      have hS344 := And.intro (H343.blk 22 rfl) (H343.blk 16 rfl); refine ⟨fun _ => hS344, ?_⟩
      refine aO (i := 3) rfl kR kR kR kR kR (fun _ _ _ h => h) rfl rfl hS344 (fun W' hs' => aF rfl) ?_
      refine bW (i := 4) rfl rfl rfl rfl kR kR kR kR kR (fun _ _ _ h => h) rfl rfl hS344 (fun W' hs' => aF rfl) ?_
      refine bW (i := 5) rfl rfl rfl rfl kR kR kR kR kR (fun _ _ _ h => h) rfl rfl hS344 (fun W' hs' => bX (p := ((-1) : Int) < 0) kD (gB (p := (-1)) (q := 0) rfl rfl)) ?_
      refine bW (i := 6) rfl rfl rfl rfl kR kR kR kR kR (fun _ _ _ h => h) rfl rfl hS344 (fun W' hs' => aU eD rfl) ?_
      refine bW (i := 7) rfl rfl rfl rfl kR kR kR kR kR (fun _ _ _ h => h) rfl rfl hS344 (fun W' hs' => bB (k := 1) (v := .slice B315 Y.aC.length c316) Try.isAgg64 rfl hs'.2 rfl) ?_
      refine bW (i := 8) rfl rfl rfl rfl kR kR kR kR kR (fun _ _ _ h => h) rfl rfl hS344 (fun W' hs' => dP Try.runUnderlying64 rfl) ?_
      refine bW (i := 9) rfl rfl rfl rfl kR kR kR kR kR (fun _ _ _ h => h) rfl rfl hS344 (fun W' hs' => bX (p := (200 : Int) ≤ (Y.aC.length : Nat)) kO (rn_geq (p := (Y.aC.length : Nat)) (q := 200) rfl rfl)) ?_
      refine bW (i := 10) rfl rfl rfl rfl kR kR kR kR kR (fun _ _ _ h => h) rfl rfl hS344 (fun W' hs' => fI (b := true == true) rfl (rn_eqlB Try.underlying4 rfl rfl)) ?_
      refine aO (i := 11) rfl kR kR kR kR kR (fun _ _ _ h => h) rfl rfl hS344 (fun W' hs' => aX (v := .bool (true)) (b := true) rfl rfl rfl rfl) ?_
      refine aO (i := 12) rfl kR kR kR kR kR (fun _ _ _ h => h) rfl rfl hS344 (fun W' hs' => aF rfl) ?_
      refine bW (i := 13) rfl rfl rfl rfl kR kR kR kR kR (fun _ _ _ h => h) rfl rfl hS344 (fun W' hs' => aF rfl) ?_
      refine bW (i := 14) rfl rfl rfl rfl kR kR kR kR kR (fun _ _ _ h => h) rfl rfl hS344 (fun W' hs' => bX (p := ((-1) : Int) < 0) kD (gB (p := (-1)) (q := 0) rfl rfl)) ?_
      refine bW (i := 15) rfl rfl rfl rfl kR kR kR kR kR (fun _ _ _ h => h) rfl rfl hS344 (fun W' hs' => aF rfl) ?_
      refine jQ (i := 16) rfl rfl rfl rfl rfl kR kR kR kR kR (fun _ _ _ h => h) rfl rfl hS344 ?_
      refine jQ (i := 17) rfl rfl rfl rfl rfl kR kR kR kR kR (fun _ _ _ h => h) rfl rfl hS344 ?_
      refine jQ (i := 18) rfl rfl rfl rfl rfl kR kR kR kR kR (fun _ _ _ h => h) rfl rfl hS344 ?_
      refine jQ (i := 19) rfl rfl rfl rfl rfl kR kR kR kR kR (fun _ _ _ h => h) rfl rfl hS344 ?_
      refine jQ (i := 20) rfl rfl rfl rfl rfl kR kR kR kR kR (fun _ _ _ h => h) rfl rfl hS344 ?_
      refine jQ (i := 21) rfl rfl rfl rfl rfl kR kR kR kR kR (fun _ _ _ h => h) rfl rfl hS344 ?_
      refine jQ (i := 22) rfl rfl rfl rfl rfl kR kR kR kR kR (fun _ _ _ h => h) rfl rfl hS344 ?_
      refine bW (i := 23) rfl rfl rfl rfl kR kR kR kR kR (fun _ _ _ h => h) rfl rfl hS344 (fun W' hs' => aX (v := .bool (true)) (b := true) rfl rfl rfl rfl) ?_
      refine aO (i := 24) rfl kR kR kR kR kR (fun _ _ _ h => h) rfl rfl hS344 (fun W' hs' => aX (v := .bool (true)) (b := true) rfl rfl rfl rfl) ?_
      refine aO (i := 25) rfl kR kR kR kR kR (fun _ _ _ h => h) rfl rfl hS344 (fun W' hs' => aR rfl) ?_
      refine cB kR ?_ _
      refine aK ?_
      refine wp_ret ?_
      refine bI (.inl rfl) Try.results5 rfl ?_
      exact ⟨rfl, H343.1⟩
end Go.Proofs.YtdfipdpeilegpaaFam
namespace Go.Proofs.YtdfipdpeilegpaaOpen
open Go.ChangeShapes Go.WideShapes Go.Proofs.YtdfipdpeilegpaaSep
structure Opens {α : Type} (P : Program) (t : TypeId) (d : Kn α) (G : α → Prop) : Prop where
 out : ∀ {H : Type} (enc : TypeId × Value → H) (w : World) (base : Nat) (spare : Nat → Bool) (held : Bool) (fuel : Nat) (cs : List Value) (x : DataW H × List MemPlace),
  DataW.trod enc P w base spare held fuel t cs = some x → ∃ v, d.K w v cs ∧ G v
structure OpensFs {α : Type} (P : Program) (fs : List Field) (off : Nat) (d : Kn α) (G : α → Prop) : Prop where
 out : ∀ {H : Type} (enc : TypeId × Value → H) (w : World) (base : Nat) (spare : Nat → Bool) (held : Bool) (fuel : Nat) (cs : List Value), cs.length = off + d.sz →
  (∀ f ∈ fs, ∃ x, DataW.trod enc P w base spare held fuel f.type ((cs.drop f.offset).take (P.cellsOf f.type)) = some x) → ∃ v, d.K w v (cs.drop off) ∧ G v
section
variable {P : Program} {t e : TypeId}
theorem opens_slice {α : Type} {d : Kn α} {G : α → Prop} (z : α) (ht : P.underlying t = some (.slice e)) (hc : P.cellsOf e = d.sz) (he : Opens P e d G) :
 Opens P t (Kn.slice e d) (fun l => l.length ≤ 9223372036854775807 ∧ ∀ x ∈ l, G x) := by
 refine ⟨?_⟩
 intro H enc w base spare held fuel cs x h
 rcases Go.Deep.open_slice ht h with ⟨rfl, _⟩ | ⟨a, len, cap, m, n, D, Pl, rfl, _, hl, hm, hmm, _, hx⟩
 ·exact ⟨[], ⟨none, 0, rfl, Nat.le_refl _, by simp, fun h => absurd h (Nat.lt_irrefl 0)⟩, by simp, by simp⟩
 have hle : len ≤ m := by rw [hmm]; split <;> omega
 have hm' : cap ≤ 9223372036854775807 := by simpa [maxLen] using hm
 haveI : Inhabited α := ⟨z⟩
 obtain ⟨V, hV⟩ := Go.Deep.choose_lt (α := α) (n := len) (p := fun i v => ∃ cs', w.cells? base (a.add (i * P.cellsOf e)) (P.cellsOf e) = some cs' ∧ d.K w v cs' ∧ G v) (fun i hi => by
  obtain ⟨cs', h1, h2⟩ := hx i kO
  obtain ⟨v, hk, hg⟩ := he.out enc w base spare held n cs' _ h2
  exact ⟨v, cs', h1, hk, hg⟩)
 have hlen : ((List.range len).map V).length = len := by simp
 refine ⟨(List.range len).map V, ⟨some a, cap, by rw [hlen], by rw [hlen]; exact hl, by rw [hlen]; omega, fun _ => ⟨a, rfl, fun j p hj => ?_⟩⟩, by rw [hlen]; omega, ?_⟩
 ·obtain ⟨hj1, hj2⟩ := List.getElem?_eq_some_iff.1 hj
  have hj3 : j < len := by rw [hlen] at hj1; exact hj1
  have hp : V j = p := by simpa using hj2
  subst hp
  obtain ⟨cs', h1, hk, _⟩ := hV j hj3
  rw [hc] at h1
  obtain ⟨_, h2, h3⟩ := World.cells?_some h1
  refine ⟨cs', hk, fun i u hu => ?_⟩
  have hi : i < d.sz := by rw [← h2]; exact (List.getElem?_eq_some_iff.1 hu).1
  have := h3 i hi
  rw [hu, Go.Deep.add_add] at this
  exact this
 ·intro x hx
  obtain ⟨j, hj, rfl⟩ := List.mem_map.1 hx
  obtain ⟨_, _, _, hg⟩ := hV j (List.mem_range.1 hj)
  exact hg
theorem arg_slice {H : Type} {enc : TypeId × Value → H} {w : World} {base : Nat} {spare : Nat → Bool} {held : Bool} {α : Type} {d : Kn α} {G : List α → Prop} {a : Option Addr} {len cap : Nat} {dd : DataW H} {ps : List MemPlace}
 (h : Opens P t (Kn.slice e d) G) (hd : DataW.Trod enc P w base spare held t (.slice a len cap) dd ps) :
 ∃ l : List α, len = l.length ∧ l.length ≤ cap ∧ C d w a l ∧ G l := by
 obtain ⟨fuel, hf⟩ := hd
 obtain ⟨l, ⟨A, c, he, hl, hC⟩, hg⟩ := h.out enc w base spare held fuel _ _ hf
 simp [Value.cells] at he
 obtain ⟨rfl, rfl, rfl⟩ := he
 exact ⟨l, rfl, hl, hC, hg⟩
end
theorem opens_u8 {P : Program} {t : TypeId} (ht : P.underlying t = some (.int .u8)) : Opens P t Kn.u8 (fun n => (Lit.int .u8 n).wf = true) := by
 refine ⟨?_⟩
 intro H enc w base spare held fuel cs x h
 obtain ⟨n, rfl, _, hw⟩ := DataW.trod_int ht h
 exact ⟨n, rfl, hw⟩
end Go.Proofs.YtdfipdpeilegpaaOpen
