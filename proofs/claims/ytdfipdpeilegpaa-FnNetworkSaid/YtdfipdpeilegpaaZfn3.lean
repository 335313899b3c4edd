/- What the row needs, packed. No conditions beyond those that each law names. -/
import Derived.Test.YtdfipdpeilegpaaZfn2
import Derived.Test.YtdfipdpeilegpaaProg
import Derived.Test.YtdfipdpeilegpaaZfn1
import Derived.Deep.Slices
import Derived.ChangeArms
import Derived.WideShapes
import Derived.KernelRfl
namespace Go.Proofs.YtdfipdpeilegpaaFam
open Go.ChangeShapes Go.WideShapes Go.RowKit Go.Proofs.YtdfipdpeilegpaaSep Go.Proofs.YtdfipdpeilegpaaT Go.Proofs.YtdfipdpeilegpaaK
set_option linter.unusedVariables false
set_option linter.unusedSimpArgs false
attribute [local irreducible] wpOps wpOp
set_option maxHeartbeats 4000000
set_option maxRecDepth 100000
theorem eqI_Wire (l k : List GWire) (A A' : Option Addr) (c c' : Nat) (w : World) (h : C aR w A l) (h' : C aR w A' k) : Calls Try.prog 106 #[.slice A l.length c, .slice A' k.length c'] w (dU (dB bO l k) w) := by
 have nx := h.1
 refine enter 26 [(0, .slice A l.length c), (1, .slice A' k.length c')] Try.func106 rfl kR ?_
 intro xj
 have H1 : St w No [] w := St.enter
 refine wp_seq ?_
 refine aK [0] rfl ?_
 refine aA ?_
 refine aB rfl (aG rfl) rfl rfl ?_
 refine aH ?_
 refine aI ?_
 refine wp_seq ?_
 refine wp_seq ?_
 refine aK [0, 1, 2, 3, 4] rfl ?_
 refine aA ?_
 refine aB rfl (aD rfl) rfl rfl ?_
 refine aA ?_
 refine aB rfl (bT Try.runUnderlying25 rfl) rfl rfl ?_
 refine aA ?_
 refine aB rfl (aD rfl) rfl rfl ?_
 refine aA ?_
 refine aB rfl (bT Try.runUnderlying25 rfl) rfl rfl ?_
 by_cases hg2 : ¬ ((l.length : Nat) : Int) = (k.length : Nat)
 ·refine aA ?_
  refine aB rfl (bG hg2 (rn_neq rfl rfl)) rfl rfl ?_
  refine aH ?_
  refine aI ?_
  refine dO rfl ?_
  refine wp_seq ?_
  refine aK [0] rfl ?_
  refine aA ?_
  refine aB rfl (aG rfl) rfl rfl ?_
  refine aH ?_
  refine aI ?_
  refine wp_ret ?_
  refine bV ?_
  have hz3 : ∀ f, dB f l k = false := fun f => eqlS_len f l k kO
  have hr4 : dB bO l k = false := by simp [hz3]
  refine aV (.inl rfl) Try.results106 rfl ?_
  rw [hr4]
  exact ⟨rfl, H1.1⟩
 ·refine aA ?_
  refine aB rfl (bH hg2 (rn_neq rfl rfl)) rfl rfl ?_
  refine aH ?_
  refine aI ?_
  refine dA rfl ?_
  refine wp_skip ?_
  refine aI ?_
  refine wp_seq ?_
  refine wp_seq ?_
  refine aK [0, 1, 2] rfl ?_
  refine aA ?_
  refine aB rfl (aD rfl) rfl rfl ?_
  refine aA ?_
  refine aB rfl (bT Try.runUnderlying25 rfl) rfl rfl ?_
  refine aA ?_
  refine aB rfl (aD rfl) rfl rfl ?_
  refine aH ?_
  refine aI ?_
  refine wp_block ?_
  refine wp_loop_ghost (fun r a' W' => ∃ (i1 : Nat) (x' : Nat → Value), a' = aO 26 x' [(0, .slice A l.length c), (1, .slice A' k.length c'), (12, .int .i64 ((l.length : Nat))), (13, .int .i64 (((i1 : Nat) : Int)))] ∧ (i1 + r = l.length) ∧ (dB bO l k = dB bO (l.drop i1) (k.drop i1)) ∧ St w No [] W') l.length ?_ ?_
  ·exact (aW [(0, .slice A l.length c), (1, .slice A' k.length c'), (12, .int .i64 ((l.length : Nat))), (13, .int .i64 (((0 : Nat) : Int)))] rfl).elim fun x' hx => ⟨0, x', hx, kO, rfl, H1⟩
  ·rintro r5 _ W6 ⟨i1, x7, rfl, hi1, hf1, H8⟩; clear H1
   refine wp_seq ?_
   refine aK [0] rfl ?_
   refine aA ?_
   refine aB rfl (dD rfl rfl) rfl rfl ?_
   refine aH ?_
   refine aI ?_
   refine wp_seq ?_
   refine bL rfl (fun hc9 => ?_) (fun hc9 => ?_)
   ·have hlt1 : i1 < l.length := by omega
    have hlu1 : i1 < k.length := by omega
    obtain ⟨ade10, cse10, hAe10, hKe10, hce10⟩ := eZ h i1 hlt1
    have hle10 := ki_Wire_len hKe10
    have hoe10 := ki_Wire_one hKe10
    obtain ⟨ade11, cse11, hAe11, hKe11, hce11⟩ := eZ h' i1 hlu1
    have hle11 := ki_Wire_len hKe11
    have hoe11 := ki_Wire_one hKe11
    obtain rfl := ki_Wire_K hKe10
    obtain rfl := ki_Wire_K hKe11
    refine wp_skip ?_
    refine aI ?_
    refine wp_seq ?_
    refine wp_block ?_
    refine wp_seq ?_
    refine aK [0, 1] rfl ?_
    refine aA ?_
    refine aB rfl (aD rfl) rfl rfl ?_
    refine aA ?_
    refine aB rfl (aG rfl) rfl rfl ?_
    refine aH ?_
    refine aI ?_
    refine wp_seq ?_
    by_cases hg12 : (bO (l[i1]) (k[i1])) = true
    ·refine eF (fun W' => Cat W' (Addr.add ade10 (i1 * 2)) [.int .i64 (l[i1].Kind), .int .i64 (l[i1].N)] ∧ Cat W' (Addr.add ade11 (i1 * 2)) [.int .i64 (k[i1].Kind), .int .i64 (k[i1].N)]) 9 kR ?_
     have H13 := H8.drew; clear H8
     have hS14 : Cat W6.drew (Addr.add ade10 (i1 * 2)) [.int .i64 (l[i1].Kind), .int .i64 (l[i1].N)] ∧ Cat W6.drew (Addr.add ade11 (i1 * 2)) [.int .i64 (k[i1].Kind), .int .i64 (k[i1].N)] := ⟨(Cat.upd hce10 H13.1), (Cat.upd hce11 H13.1)⟩
     refine aM (i := 0) rfl kR kR kR kR kR (fun _ _ _ h => h) rfl rfl hS14 (fun W' hs' => aD rfl) ?_
     refine aM (i := 1) rfl kR kR kR kR kR (fun _ _ _ h => h) rfl rfl hS14 (fun W' hs' => aD rfl) ?_
     refine aM (i := 2) rfl kR kR kR kR kR (fun _ _ _ h => h) rfl rfl hS14 (fun W' hs' => bB (k := i1) Try.runUnderlying25 Try.sizeOf27 rfl rfl hAe10 hlt1) ?_
     refine aM (i := 3) rfl kR kR kR kR kR (fun _ _ _ h => h) rfl rfl hS14 (fun W' hs' => dJ Try.isAgg27 Try.sizeOf27 rfl hs'.1 rfl) ?_
     refine aM (i := 4) rfl kR kR kR kR kR (fun _ _ _ h => h) rfl rfl hS14 (fun W' hs' => aD rfl) ?_
     refine aM (i := 5) rfl kR kR kR kR kR (fun _ _ _ h => h) rfl rfl hS14 (fun W' hs' => aD rfl) ?_
     refine aM (i := 6) rfl kR kR kR kR kR (fun _ _ _ h => h) rfl rfl hS14 (fun W' hs' => bB (k := i1) Try.runUnderlying25 Try.sizeOf27 rfl rfl hAe11 hlu1) ?_
     refine aM (i := 7) rfl kR kR kR kR kR (fun _ _ _ h => h) rfl rfl hS14 (fun W' hs' => dJ Try.isAgg27 Try.sizeOf27 rfl hs'.2 rfl) ?_
     refine aM (i := 8) rfl kR kR kR kR kR (fun _ _ _ h => h) rfl rfl hS14 (fun W' hs' => fG (b := !(bO (l[i1]) (k[i1]))) (by rw [hg12]) (rn_neqA Try.eqGuardType27 rfl rfl (eqr_Wire (l[i1]) (k[i1]) _ 9998))) ?_
     refine dY kR ?_ _
     refine aI ?_
     refine dA rfl ?_
     refine wp_skip ?_
     refine dW ?_
     refine aI ?_
     refine aK [0, 1] rfl ?_
     refine aA ?_
     refine aB rfl (dP (k := i1) rfl rfl kO) rfl rfl ?_
     refine aA ?_
     refine aB rfl (aD rfl) rfl rfl ?_
     refine aH ?_
     refine aI ?_
     exact (aW [(0, .slice A l.length c), (1, .slice A' k.length c'), (12, .int .i64 ((l.length : Nat))), (13, .int .i64 (((i1 + 1 : Nat) : Int)))] rfl).elim fun x' hx => ⟨r5 - 1, kO, i1 + 1, x', hx, kO, (hf1.trans (eqlS_yes bO l k i1 hlt1 hlu1 hg12)), H13⟩
    ·refine eF (fun W' => Cat W' (Addr.add ade10 (i1 * 2)) [.int .i64 (l[i1].Kind), .int .i64 (l[i1].N)] ∧ Cat W' (Addr.add ade11 (i1 * 2)) [.int .i64 (k[i1].Kind), .int .i64 (k[i1].N)]) 9 kR ?_
     have H15 := H8.drew; clear H8
     have hS16 : Cat W6.drew (Addr.add ade10 (i1 * 2)) [.int .i64 (l[i1].Kind), .int .i64 (l[i1].N)] ∧ Cat W6.drew (Addr.add ade11 (i1 * 2)) [.int .i64 (k[i1].Kind), .int .i64 (k[i1].N)] := ⟨(Cat.upd hce10 H15.1), (Cat.upd hce11 H15.1)⟩
     refine aM (i := 0) rfl kR kR kR kR kR (fun _ _ _ h => h) rfl rfl hS16 (fun W' hs' => aD rfl) ?_
     refine aM (i := 1) rfl kR kR kR kR kR (fun _ _ _ h => h) rfl rfl hS16 (fun W' hs' => aD rfl) ?_
     refine aM (i := 2) rfl kR kR kR kR kR (fun _ _ _ h => h) rfl rfl hS16 (fun W' hs' => bB (k := i1) Try.runUnderlying25 Try.sizeOf27 rfl rfl hAe10 hlt1) ?_
     refine aM (i := 3) rfl kR kR kR kR kR (fun _ _ _ h => h) rfl rfl hS16 (fun W' hs' => dJ Try.isAgg27 Try.sizeOf27 rfl hs'.1 rfl) ?_
     refine aM (i := 4) rfl kR kR kR kR kR (fun _ _ _ h => h) rfl rfl hS16 (fun W' hs' => aD rfl) ?_
     refine aM (i := 5) rfl kR kR kR kR kR (fun _ _ _ h => h) rfl rfl hS16 (fun W' hs' => aD rfl) ?_
     refine aM (i := 6) rfl kR kR kR kR kR (fun _ _ _ h => h) rfl rfl hS16 (fun W' hs' => bB (k := i1) Try.runUnderlying25 Try.sizeOf27 rfl rfl hAe11 hlu1) ?_
     refine aM (i := 7) rfl kR kR kR kR kR (fun _ _ _ h => h) rfl rfl hS16 (fun W' hs' => dJ Try.isAgg27 Try.sizeOf27 rfl hs'.2 rfl) ?_
     refine aM (i := 8) rfl kR kR kR kR kR (fun _ _ _ h => h) rfl rfl hS16 (fun W' hs' => fG (b := !(bO (l[i1]) (k[i1]))) (by rw [(eq_false_of_ne_true hg12)]) (rn_neqA Try.eqGuardType27 rfl rfl (eqr_Wire (l[i1]) (k[i1]) _ 9998))) ?_
     refine dY kR ?_ _
     refine aI ?_
     refine dO rfl ?_
     refine wp_seq ?_
     refine aK [0] rfl ?_
     refine aA ?_
     refine aB rfl (aG rfl) rfl rfl ?_
     refine aH ?_
     refine aI ?_
     refine wp_ret ?_
     refine inB_r ?_
     refine bV ?_
     refine bV ?_
     refine inB_r ?_
     refine bV ?_
     have hz17 : dB bO l k = false := hf1.trans (eqlS_no bO l k i1 hlt1 hlu1 (eq_false_of_ne_true hg12))
     have hr18 : dB bO l k = false := by simp [hg12, hz17]
     refine aV (.inl rfl) Try.results106 rfl ?_
     rw [hr18]
     exact ⟨rfl, H15.1⟩
   ·have hd1 : dB bO l k = true := hf1.trans (eqlS_end bO l k i1 kO kO)
    refine wp_exit ?_
    refine bR ?_
    refine bR ?_
    refine inB_x ?_
    refine aI ?_
    refine wp_seq ?_
    refine aK [0] rfl ?_
    refine aA ?_
    refine aB rfl (aG rfl) rfl rfl ?_
    refine aH ?_
    refine aI ?_
    refine wp_ret ?_
    have hr19 : dB bO l k = true := by simp [hd1]
    refine aV (.inl rfl) Try.results106 rfl ?_
    rw [hr19]
    exact ⟨rfl, H8.1⟩
theorem eY (x y : GMessage) (cx cy : List Value) (w : World) (h : aF.K w x cx) (h' : aF.K w y cy) : Calls Try.prog 55 #[.agg cx.toArray, .agg cy.toArray] w (dU (aT x y) w) := by
 obtain ⟨Ax5, cx5, rfl, hlx5, hCx5⟩ := dV h
 obtain ⟨Ay5, cy5, rfl, hly5, hCy5⟩ := dV h'
 have nx5 := hCx5.1
 refine enter 66 [(0, .agg #[.int .i64 (x.Kind), .int .i64 (x.Pos), .int .i64 (x.bI), .int .i64 (x.Question), .string (x.Name), .slice Ax5 x.bF.length cx5, .int .i64 (x.Value.Kind), .int .i64 (x.Value.N), .int .i64 (x.Count), .int .i64 (x.Tag.Vat), .int .i64 (x.Tag.Entity), .int .i64 (x.Tag.Seq)]), (1, .agg #[.int .i64 (y.Kind), .int .i64 (y.Pos), .int .i64 (y.bI), .int .i64 (y.Question), .string (y.Name), .slice Ay5 y.bF.length cy5, .int .i64 (y.Value.Kind), .int .i64 (y.Value.N), .int .i64 (y.Count), .int .i64 (y.Tag.Vat), .int .i64 (y.Tag.Entity), .int .i64 (y.Tag.Seq)])] Try.func55 rfl kR ?_
 intro xj
 have H1 : St w No [] w := St.enter
 refine wp_seq ?_
 refine aK [0, 1, 2] rfl ?_
 refine aA ?_
 refine eP rfl rfl rfl rfl H1 ?_
 intro g_0_0 W2 hu3 Ha4; clear H1; clear hu3
 refine aA ?_
 refine eP rfl rfl rfl rfl Ha4 ?_
 intro g_0_1 W6 hu7 Ha8; clear Ha4; clear hu7
 refine aA ?_
 refine aB rfl (aG rfl) rfl rfl ?_
 refine aH ?_
 refine aI ?_
 refine wp_seq ?_
 refine aK [0, 1, 2, 3, 4, 5, 6, 7, 8, 9, 10, 11, 12, 13, 14, 15, 16, 17, 18, 19, 20, 21, 22, 23, 24, 25, 26, 27, 28, 29, 30, 31, 32, 33, 34, 35, 36, 37, 38, 39, 40, 41, 42, 43, 44, 45, 46, 47, 48, 49, 50, 51, 52, 53, 54, 55, 56, 57, 58, 59, 60, 61] rfl ?_
 refine aA ?_
 refine aB rfl (aS fa_31_0 rfl) rfl rfl ?_
 refine aA ?_
 refine aB rfl (bC (k := 0) (v := .int .i64 (x.Kind)) Try.isAgg3 rfl (Ha8.blk 1 rfl) rfl) rfl rfl ?_
 refine aA ?_
 refine aB rfl (aS fa_31_0 rfl) rfl rfl ?_
 refine aA ?_
 refine aB rfl (bC (k := 0) (v := .int .i64 (y.Kind)) Try.isAgg3 rfl (Ha8.blk 0 rfl) rfl) rfl rfl ?_
 by_cases hg10 : (x.Kind : Int) = y.Kind
 ·refine aA ?_
  refine aB rfl (bG hg10 (bM rfl rfl)) rfl rfl ?_
  refine aA ?_
  refine aB rfl (aD rfl) rfl rfl ?_
  refine aA ?_
  refine aU rfl rfl rfl rfl (fun _ ho11 => ?_)
  refine aB ho11 (aS fa_31_1 rfl) rfl rfl ?_
  refine aA ?_
  refine aU rfl rfl rfl rfl (fun _ ho12 => ?_)
  refine aB ho12 (bC (k := 1) (v := .int .i64 (x.Pos)) Try.isAgg3 rfl (Ha8.blk 1 rfl) rfl) rfl rfl ?_
  refine aA ?_
  refine aU rfl rfl rfl rfl (fun _ ho13 => ?_)
  refine aB ho13 (aS fa_31_1 rfl) rfl rfl ?_
  refine aA ?_
  refine aU rfl rfl rfl rfl (fun _ ho14 => ?_)
  refine aB ho14 (bC (k := 1) (v := .int .i64 (y.Pos)) Try.isAgg3 rfl (Ha8.blk 0 rfl) rfl) rfl rfl ?_
  by_cases hg15 : (x.Pos : Int) = y.Pos
  ·refine aA ?_
   refine aU rfl rfl rfl rfl (fun _ ho16 => ?_)
   refine aB ho16 (bG hg15 (bM rfl rfl)) rfl rfl ?_
   refine aA ?_
   refine aB rfl (aP (v := .bool (true)) (b := true) rfl rfl rfl rfl) rfl rfl ?_
   refine aA ?_
   refine aB rfl (aD rfl) rfl rfl ?_
   refine aA ?_
   refine aU rfl rfl rfl rfl (fun _ ho17 => ?_)
   refine aB ho17 (aS fa_31_2 rfl) rfl rfl ?_
   refine aA ?_
   refine aU rfl rfl rfl rfl (fun _ ho18 => ?_)
   refine aB ho18 (bC (k := 2) (v := .int .i64 (x.bI)) Try.isAgg3 rfl (Ha8.blk 1 rfl) rfl) rfl rfl ?_
   refine aA ?_
   refine aU rfl rfl rfl rfl (fun _ ho19 => ?_)
   refine aB ho19 (aS fa_31_2 rfl) rfl rfl ?_
   refine aA ?_
   refine aU rfl rfl rfl rfl (fun _ ho20 => ?_)
   refine aB ho20 (bC (k := 2) (v := .int .i64 (y.bI)) Try.isAgg3 rfl (Ha8.blk 0 rfl) rfl) rfl rfl ?_
   by_cases hg21 : (x.bI : Int) = y.bI
   ·refine aA ?_
    refine aU rfl rfl rfl rfl (fun _ ho22 => ?_)
    refine aB ho22 (bG hg21 (bM rfl rfl)) rfl rfl ?_
    refine aA ?_
    refine aB rfl (aP (v := .bool (true)) (b := true) rfl rfl rfl rfl) rfl rfl ?_
    refine aA ?_
    refine aB rfl (aD rfl) rfl rfl ?_
    refine aA ?_
    refine aU rfl rfl rfl rfl (fun _ ho23 => ?_)
    refine aB ho23 (aS fa_31_3 rfl) rfl rfl ?_
    refine aA ?_
    refine aU rfl rfl rfl rfl (fun _ ho24 => ?_)
    refine aB ho24 (bC (k := 3) (v := .int .i64 (x.Question)) Try.isAgg3 rfl (Ha8.blk 1 rfl) rfl) rfl rfl ?_
    refine aA ?_
    refine aU rfl rfl rfl rfl (fun _ ho25 => ?_)
    refine aB ho25 (aS fa_31_3 rfl) rfl rfl ?_
    refine aA ?_
    refine aU rfl rfl rfl rfl (fun _ ho26 => ?_)
    refine aB ho26 (bC (k := 3) (v := .int .i64 (y.Question)) Try.isAgg3 rfl (Ha8.blk 0 rfl) rfl) rfl rfl ?_
    by_cases hg27 : (x.Question : Int) = y.Question
    ·refine aA ?_
     refine aU rfl rfl rfl rfl (fun _ ho28 => ?_)
     refine aB ho28 (bG hg27 (bM rfl rfl)) rfl rfl ?_
     refine aA ?_
     refine aB rfl (aP (v := .bool (true)) (b := true) rfl rfl rfl rfl) rfl rfl ?_
     refine aA ?_
     refine aB rfl (aD rfl) rfl rfl ?_
     refine aA ?_
     refine aU rfl rfl rfl rfl (fun _ ho29 => ?_)
     refine aB ho29 (aS fa_31_4 rfl) rfl rfl ?_
     refine aA ?_
     refine aU rfl rfl rfl rfl (fun _ ho30 => ?_)
     refine aB ho30 (bC (k := 4) (v := .string (x.Name)) Try.isAgg9 rfl (Ha8.blk 1 rfl) rfl) rfl rfl ?_
     refine aA ?_
     refine aU rfl rfl rfl rfl (fun _ ho31 => ?_)
     refine aB ho31 (aS fa_31_4 rfl) rfl rfl ?_
     refine aA ?_
     refine aU rfl rfl rfl rfl (fun _ ho32 => ?_)
     refine aB ho32 (bC (k := 4) (v := .string (y.Name)) Try.isAgg9 rfl (Ha8.blk 0 rfl) rfl) rfl rfl ?_
     by_cases hg33 : (x.Name.toList == y.Name.toList) = true
     ·refine aA ?_
      refine aU rfl rfl rfl rfl (fun _ ho34 => ?_)
      refine aB ho34 (fG (b := x.Name.toList == y.Name.toList) hg33 (rn_streql rfl rfl)) rfl rfl ?_
      refine aA ?_
      refine aB rfl (aP (v := .bool (true)) (b := true) rfl rfl rfl rfl) rfl rfl ?_
      refine aA ?_
      refine aB rfl (aD rfl) rfl rfl ?_
      refine aA ?_
      refine aU rfl rfl rfl rfl (fun _ ho35 => ?_)
      refine aB ho35 (aS fa_31_5 rfl) rfl rfl ?_
      refine aA ?_
      refine aU rfl rfl rfl rfl (fun _ ho36 => ?_)
      refine aB ho36 (bC (k := 5) (v := .slice Ax5 x.bF.length cx5) Try.isAgg25 rfl (Ha8.blk 1 rfl) rfl) rfl rfl ?_
      refine aA ?_
      refine aU rfl rfl rfl rfl (fun _ ho37 => ?_)
      refine aB ho37 (aS fa_31_5 rfl) rfl rfl ?_
      refine aA ?_
      refine aU rfl rfl rfl rfl (fun _ ho38 => ?_)
      refine aB ho38 (bC (k := 5) (v := .slice Ay5 y.bF.length cy5) Try.isAgg25 rfl (Ha8.blk 0 rfl) rfl) rfl rfl ?_
      by_cases hg39 : (dB bO x.bF y.bF) = true
      ·refine aA ?_
       refine aU rfl rfl rfl rfl (fun _ ho40 => ?_)
       refine aN ho40 Try.call106 (vs := #[.slice Ax5 x.bF.length cx5, .slice Ay5 y.bF.length cy5]) rfl rfl rfl (retb (eqI_Wire x.bF y.bF _ _ _ _ _ (bQ Ha8.1 hCx5) (bQ Ha8.1 hCy5)) hg39) ?_
       rintro e43 W42 ⟨rfl, hu41⟩; refine ⟨_, rfl, ?_⟩
       have H44 := Ha8.no hu41; clear Ha8
       refine aA ?_
       refine aB rfl (aP (v := .bool (true)) (b := true) rfl rfl rfl rfl) rfl rfl ?_
       refine aA ?_
       refine aB rfl (aD rfl) rfl rfl ?_
       refine aA ?_
       refine aU rfl rfl rfl rfl (fun _ ho45 => ?_)
       refine aB ho45 (aS fa_31_6 rfl) rfl rfl ?_
       refine aA ?_
       refine aU rfl rfl rfl rfl (fun _ ho46 => ?_)
       refine aB ho46 (rn_loadS (sub := #[.int .i64 (x.Value.Kind), .int .i64 (x.Value.N)]) Try.isAgg27 Try.sizeOf27 rfl (H44.blk 1 rfl) rfl rfl) rfl rfl ?_
       refine aA ?_
       refine aU rfl rfl rfl rfl (fun _ ho47 => ?_)
       refine aB ho47 (aS fa_31_6 rfl) rfl rfl ?_
       refine aA ?_
       refine aU rfl rfl rfl rfl (fun _ ho48 => ?_)
       refine aB ho48 (rn_loadS (sub := #[.int .i64 (y.Value.Kind), .int .i64 (y.Value.N)]) Try.isAgg27 Try.sizeOf27 rfl (H44.blk 0 rfl) rfl rfl) rfl rfl ?_
       by_cases hg49 : (bO x.Value y.Value) = true
       ·refine aA ?_
        refine aU rfl rfl rfl rfl (fun _ ho50 => ?_)
        refine aB ho50 (fG (b := bO x.Value y.Value) hg49 (rn_eqlA Try.eqGuardType27 rfl rfl (eqr_Wire x.Value y.Value _ 9998))) rfl rfl ?_
        refine aA ?_
        refine aB rfl (aP (v := .bool (true)) (b := true) rfl rfl rfl rfl) rfl rfl ?_
        refine aA ?_
        refine aB rfl (aD rfl) rfl rfl ?_
        refine aA ?_
        refine aU rfl rfl rfl rfl (fun _ ho51 => ?_)
        refine aB ho51 (aS fa_31_7 rfl) rfl rfl ?_
        refine aA ?_
        refine aU rfl rfl rfl rfl (fun _ ho52 => ?_)
        refine aB ho52 (bC (k := 8) (v := .int .i64 (x.Count)) Try.isAgg3 rfl (H44.blk 1 rfl) rfl) rfl rfl ?_
        refine aA ?_
        refine aU rfl rfl rfl rfl (fun _ ho53 => ?_)
        refine aB ho53 (aS fa_31_7 rfl) rfl rfl ?_
        refine aA ?_
        refine aU rfl rfl rfl rfl (fun _ ho54 => ?_)
        refine aB ho54 (bC (k := 8) (v := .int .i64 (y.Count)) Try.isAgg3 rfl (H44.blk 0 rfl) rfl) rfl rfl ?_
        by_cases hg55 : (x.Count : Int) = y.Count
        ·refine aA ?_
         refine aU rfl rfl rfl rfl (fun _ ho56 => ?_)
         refine aB ho56 (bG hg55 (bM rfl rfl)) rfl rfl ?_
         refine aA ?_
         refine aB rfl (aP (v := .bool (true)) (b := true) rfl rfl rfl rfl) rfl rfl ?_
         refine aA ?_
         refine aB rfl (aD rfl) rfl rfl ?_
         refine aA ?_
         refine aU rfl rfl rfl rfl (fun _ ho57 => ?_)
         refine aB ho57 (aS fa_31_8 rfl) rfl rfl ?_
         refine aA ?_
         refine aU rfl rfl rfl rfl (fun _ ho58 => ?_)
         refine aB ho58 (rn_loadS (sub := #[.int .i64 (x.Tag.Vat), .int .i64 (x.Tag.Entity), .int .i64 (x.Tag.Seq)]) Try.isAgg29 Try.sizeOf29 rfl (H44.blk 1 rfl) rfl rfl) rfl rfl ?_
         refine aA ?_
         refine aU rfl rfl rfl rfl (fun _ ho59 => ?_)
         refine aB ho59 (aS fa_31_8 rfl) rfl rfl ?_
         refine aA ?_
         refine aU rfl rfl rfl rfl (fun _ ho60 => ?_)
         refine aB ho60 (rn_loadS (sub := #[.int .i64 (y.Tag.Vat), .int .i64 (y.Tag.Entity), .int .i64 (y.Tag.Seq)]) Try.isAgg29 Try.sizeOf29 rfl (H44.blk 0 rfl) rfl rfl) rfl rfl ?_
         by_cases hg61 : (eqb_Tag x.Tag y.Tag) = true
         ·refine aA ?_
          refine aU rfl rfl rfl rfl (fun _ ho62 => ?_)
          refine aB ho62 (fG (b := eqb_Tag x.Tag y.Tag) hg61 (rn_eqlA Try.eqGuardType29 rfl rfl (eqr_Tag x.Tag y.Tag _ 9998))) rfl rfl ?_
          refine aA ?_
          refine aB rfl (aP (v := .bool (true)) (b := true) rfl rfl rfl rfl) rfl rfl ?_
          refine aA ?_
          refine aB rfl (aG rfl) rfl rfl ?_
          refine aH ?_
          refine aI ?_
          refine wp_ret ?_
          have hr63 : aT x y = true := by simp [aT, hg10, hg15, hg21, hg27, hg33, hg39, hg49, hg55, hg61]
          refine aV (.inl rfl) Try.results55 rfl ?_
          rw [hr63]
          exact ⟨rfl, H44.1⟩
         ·refine aA ?_
          refine aU rfl rfl rfl rfl (fun _ ho64 => ?_)
          refine aB ho64 (fG (b := eqb_Tag x.Tag y.Tag) (eq_false_of_ne_true hg61) (rn_eqlA Try.eqGuardType29 rfl rfl (eqr_Tag x.Tag y.Tag _ 9998))) rfl rfl ?_
          refine aA ?_
          refine aB rfl (aP (v := .bool (false)) (b := true) rfl rfl rfl rfl) rfl rfl ?_
          refine aA ?_
          refine aB rfl (aG rfl) rfl rfl ?_
          refine aH ?_
          refine aI ?_
          refine wp_ret ?_
          have hr65 : aT x y = false := by simp [aT, hg10, hg15, hg21, hg27, hg33, hg39, hg49, hg55, hg61]
          refine aV (.inl rfl) Try.results55 rfl ?_
          rw [hr65]
          exact ⟨rfl, H44.1⟩
        ·refine aA ?_
         refine aU rfl rfl rfl rfl (fun _ ho66 => ?_)
         refine aB ho66 (bH hg55 (bM rfl rfl)) rfl rfl ?_
         refine aA ?_
         refine aB rfl (aP (v := .bool (false)) (b := true) rfl rfl rfl rfl) rfl rfl ?_
         refine aA ?_
         refine aB rfl (aD rfl) rfl rfl ?_
         refine aA ?_
         refine aJ rfl rfl rfl rfl rfl rfl rfl ?_
         refine aA ?_
         refine aJ rfl rfl rfl rfl rfl rfl rfl ?_
         refine aA ?_
         refine aJ rfl rfl rfl rfl rfl rfl rfl ?_
         refine aA ?_
         refine aJ rfl rfl rfl rfl rfl rfl rfl ?_
         refine aA ?_
         refine aJ rfl rfl rfl rfl rfl rfl rfl ?_
         refine aA ?_
         refine aB rfl (aP (v := .bool (false)) (b := false) rfl rfl rfl rfl) rfl rfl ?_
         refine aA ?_
         refine aB rfl (aG rfl) rfl rfl ?_
         refine aH ?_
         refine aI ?_
         refine wp_ret ?_
         have hr67 : aT x y = false := by simp [aT, hg10, hg15, hg21, hg27, hg33, hg39, hg49, hg55]
         refine aV (.inl rfl) Try.results55 rfl ?_
         rw [hr67]
         exact ⟨rfl, H44.1⟩
       ·refine aA ?_
        refine aU rfl rfl rfl rfl (fun _ ho68 => ?_)
        refine aB ho68 (fG (b := bO x.Value y.Value) (eq_false_of_ne_true hg49) (rn_eqlA Try.eqGuardType27 rfl rfl (eqr_Wire x.Value y.Value _ 9998))) rfl rfl ?_
        refine aA ?_
        refine aB rfl (aP (v := .bool (false)) (b := true) rfl rfl rfl rfl) rfl rfl ?_
        refine aA ?_
        refine aB rfl (aD rfl) rfl rfl ?_
        refine aA ?_
        refine aJ rfl rfl rfl rfl rfl rfl rfl ?_
        refine aA ?_
        refine aJ rfl rfl rfl rfl rfl rfl rfl ?_
        refine aA ?_
        refine aJ rfl rfl rfl rfl rfl rfl rfl ?_
        refine aA ?_
        refine aJ rfl rfl rfl rfl rfl rfl rfl ?_
        refine aA ?_
        refine aJ rfl rfl rfl rfl rfl rfl rfl ?_
        refine aA ?_
        refine aB rfl (aP (v := .bool (false)) (b := false) rfl rfl rfl rfl) rfl rfl ?_
        refine aA ?_
        refine aB rfl (aD rfl) rfl rfl ?_
        refine aA ?_
        refine aJ rfl rfl rfl rfl rfl rfl rfl ?_
        refine aA ?_
        refine aJ rfl rfl rfl rfl rfl rfl rfl ?_
        refine aA ?_
        refine aJ rfl rfl rfl rfl rfl rfl rfl ?_
        refine aA ?_
        refine aJ rfl rfl rfl rfl rfl rfl rfl ?_
        refine aA ?_
        refine aJ rfl rfl rfl rfl rfl rfl rfl ?_
        refine aA ?_
        refine aB rfl (aP (v := .bool (false)) (b := false) rfl rfl rfl rfl) rfl rfl ?_
        refine aA ?_
        refine aB rfl (aG rfl) rfl rfl ?_
        refine aH ?_
        refine aI ?_
        refine wp_ret ?_
        have hr69 : aT x y = false := by simp [aT, hg10, hg15, hg21, hg27, hg33, hg39, hg49]
        refine aV (.inl rfl) Try.results55 rfl ?_
        rw [hr69]
        exact ⟨rfl, H44.1⟩
      ·refine aA ?_
       refine aU rfl rfl rfl rfl (fun _ ho70 => ?_)
       refine aN ho70 Try.call106 (vs := #[.slice Ax5 x.bF.length cx5, .slice Ay5 y.bF.length cy5]) rfl rfl rfl (retb (eqI_Wire x.bF y.bF _ _ _ _ _ (bQ Ha8.1 hCx5) (bQ Ha8.1 hCy5)) (eq_false_of_ne_true hg39)) ?_
       rintro e73 W72 ⟨rfl, hu71⟩; refine ⟨_, rfl, ?_⟩
       have H74 := Ha8.no hu71; clear Ha8
       refine aA ?_
       refine aB rfl (aP (v := .bool (false)) (b := true) rfl rfl rfl rfl) rfl rfl ?_
       refine aA ?_
       refine aB rfl (aD rfl) rfl rfl ?_
       refine aA ?_
       refine aJ rfl rfl rfl rfl rfl rfl rfl ?_
       refine aA ?_
       refine aJ rfl rfl rfl rfl rfl rfl rfl ?_
       refine aA ?_
       refine aJ rfl rfl rfl rfl rfl rfl rfl ?_
       refine aA ?_
       refine aJ rfl rfl rfl rfl rfl rfl rfl ?_
       refine aA ?_
       refine aJ rfl rfl rfl rfl rfl rfl rfl ?_
       refine aA ?_
       refine aB rfl (aP (v := .bool (false)) (b := false) rfl rfl rfl rfl) rfl rfl ?_
       refine aA ?_
       refine aB rfl (aD rfl) rfl rfl ?_
       refine aA ?_
       refine aJ rfl rfl rfl rfl rfl rfl rfl ?_
       refine aA ?_
       refine aJ rfl rfl rfl rfl rfl rfl rfl ?_
       refine aA ?_
       refine aJ rfl rfl rfl rfl rfl rfl rfl ?_
       refine aA ?_
       refine aJ rfl rfl rfl rfl rfl rfl rfl ?_
       refine aA ?_
       refine aJ rfl rfl rfl rfl rfl rfl rfl ?_
       refine aA ?_
       refine aB rfl (aP (v := .bool (false)) (b := false) rfl rfl rfl rfl) rfl rfl ?_
       refine aA ?_
       refine aB rfl (aD rfl) rfl rfl ?_
       refine aA ?_
       refine aJ rfl rfl rfl rfl rfl rfl rfl ?_
       refine aA ?_
       refine aJ rfl rfl rfl rfl rfl rfl rfl ?_
       refine aA ?_
       refine aJ rfl rfl rfl rfl rfl rfl rfl ?_
       refine aA ?_
       refine aJ rfl rfl rfl rfl rfl rfl rfl ?_
       refine aA ?_
       refine aJ rfl rfl rfl rfl rfl rfl rfl ?_
       refine aA ?_
       refine aB rfl (aP (v := .bool (false)) (b := false) rfl rfl rfl rfl) rfl rfl ?_
       refine aA ?_
       refine aB rfl (aG rfl) rfl rfl ?_
       refine aH ?_
       refine aI ?_
       refine wp_ret ?_
       have hr75 : aT x y = false := by simp [aT, hg10, hg15, hg21, hg27, hg33, hg39]
       refine aV (.inl rfl) Try.results55 rfl ?_
       rw [hr75]
       exact ⟨rfl, H74.1⟩
     ·refine aA ?_
      refine aU rfl rfl rfl rfl (fun _ ho76 => ?_)
      refine aB ho76 (fG (b := x.Name.toList == y.Name.toList) (eq_false_of_ne_true hg33) (rn_streql rfl rfl)) rfl rfl ?_
      refine aA ?_
      refine aB rfl (aP (v := .bool (false)) (b := true) rfl rfl rfl rfl) rfl rfl ?_
      refine aA ?_
      refine aB rfl (aD rfl) rfl rfl ?_
      refine aA ?_
      refine aJ rfl rfl rfl rfl rfl rfl rfl ?_
      refine aA ?_
      refine aJ rfl rfl rfl rfl rfl rfl rfl ?_
      refine aA ?_
      refine aJ rfl rfl rfl rfl rfl rfl rfl ?_
      refine aA ?_
      refine aJ rfl rfl rfl rfl rfl rfl rfl ?_
      refine aA ?_
      refine aJ rfl rfl rfl rfl rfl rfl rfl ?_
      refine aA ?_
      refine aB rfl (aP (v := .bool (false)) (b := false) rfl rfl rfl rfl) rfl rfl ?_
      refine aA ?_
      refine aB rfl (aD rfl) rfl rfl ?_
      refine aA ?_
      refine aJ rfl rfl rfl rfl rfl rfl rfl ?_
      refine aA ?_
      refine aJ rfl rfl rfl rfl rfl rfl rfl ?_
      refine aA ?_
      refine aJ rfl rfl rfl rfl rfl rfl rfl ?_
      refine aA ?_
      refine aJ rfl rfl rfl rfl rfl rfl rfl ?_
      refine aA ?_
      refine aJ rfl rfl rfl rfl rfl rfl rfl ?_
      refine aA ?_
      refine aB rfl (aP (v := .bool (false)) (b := false) rfl rfl rfl rfl) rfl rfl ?_
      refine aA ?_
      refine aB rfl (aD rfl) rfl rfl ?_
      refine aA ?_
      refine aJ rfl rfl rfl rfl rfl rfl rfl ?_
      refine aA ?_
      refine aJ rfl rfl rfl rfl rfl rfl rfl ?_
      refine aA ?_
      refine aJ rfl rfl rfl rfl rfl rfl rfl ?_
      refine aA ?_
      refine aJ rfl rfl rfl rfl rfl rfl rfl ?_
      refine aA ?_
      refine aJ rfl rfl rfl rfl rfl rfl rfl ?_
      refine aA ?_
      refine aB rfl (aP (v := .bool (false)) (b := false) rfl rfl rfl rfl) rfl rfl ?_
      refine aA ?_
      refine aB rfl (aD rfl) rfl rfl ?_
      refine aA ?_
      refine aJ rfl rfl rfl rfl rfl rfl rfl ?_
      refine aA ?_
      refine aJ rfl rfl rfl rfl rfl rfl rfl ?_
      refine aA ?_
      refine aJ rfl rfl rfl rfl rfl rfl rfl ?_
      refine aA ?_
      refine aJ rfl rfl rfl rfl rfl rfl rfl ?_
      refine aA ?_
      refine aJ rfl rfl rfl rfl rfl rfl rfl ?_
      refine aA ?_
      refine aB rfl (aP (v := .bool (false)) (b := false) rfl rfl rfl rfl) rfl rfl ?_
      refine aA ?_
      refine aB rfl (aG rfl) rfl rfl ?_
      refine aH ?_
      refine aI ?_
      refine wp_ret ?_
      have hr77 : aT x y = false := by simp [aT, hg10, hg15, hg21, hg27, hg33]
      refine aV (.inl rfl) Try.results55 rfl ?_
      rw [hr77]
      exact ⟨rfl, Ha8.1⟩
    ·refine aA ?_
     refine aU rfl rfl rfl rfl (fun _ ho78 => ?_)
     refine aB ho78 (bH hg27 (bM rfl rfl)) rfl rfl ?_
     refine aA ?_
     refine aB rfl (aP (v := .bool (false)) (b := true) rfl rfl rfl rfl) rfl rfl ?_
     refine aA ?_
     refine aB rfl (aD rfl) rfl rfl ?_
     refine aA ?_
     refine aJ rfl rfl rfl rfl rfl rfl rfl ?_
     refine aA ?_
     refine aJ rfl rfl rfl rfl rfl rfl rfl ?_
     refine aA ?_
     refine aJ rfl rfl rfl rfl rfl rfl rfl ?_
     refine aA ?_
     refine aJ rfl rfl rfl rfl rfl rfl rfl ?_
     refine aA ?_
     refine aJ rfl rfl rfl rfl rfl rfl rfl ?_
     refine aA ?_
     refine aB rfl (aP (v := .bool (false)) (b := false) rfl rfl rfl rfl) rfl rfl ?_
     refine aA ?_
     refine aB rfl (aD rfl) rfl rfl ?_
     refine aA ?_
     refine aJ rfl rfl rfl rfl rfl rfl rfl ?_
     refine aA ?_
     refine aJ rfl rfl rfl rfl rfl rfl rfl ?_
     refine aA ?_
     refine aJ rfl rfl rfl rfl rfl rfl rfl ?_
     refine aA ?_
     refine aJ rfl rfl rfl rfl rfl rfl rfl ?_
     refine aA ?_
     refine aJ rfl rfl rfl rfl rfl rfl rfl ?_
     refine aA ?_
     refine aB rfl (aP (v := .bool (false)) (b := false) rfl rfl rfl rfl) rfl rfl ?_
     refine aA ?_
     refine aB rfl (aD rfl) rfl rfl ?_
     refine aA ?_
     refine aJ rfl rfl rfl rfl rfl rfl rfl ?_
     refine aA ?_
     refine aJ rfl rfl rfl rfl rfl rfl rfl ?_
     refine aA ?_
     refine aJ rfl rfl rfl rfl rfl rfl rfl ?_
     refine aA ?_
     refine aJ rfl rfl rfl rfl rfl rfl rfl ?_
     refine aA ?_
     refine aJ rfl rfl rfl rfl rfl rfl rfl ?_
     refine aA ?_
     refine aB rfl (aP (v := .bool (false)) (b := false) rfl rfl rfl rfl) rfl rfl ?_
     refine aA ?_
     refine aB rfl (aD rfl) rfl rfl ?_
     refine aA ?_
     refine aJ rfl rfl rfl rfl rfl rfl rfl ?_
     refine aA ?_
     refine aJ rfl rfl rfl rfl rfl rfl rfl ?_
     refine aA ?_
     refine aJ rfl rfl rfl rfl rfl rfl rfl ?_
     refine aA ?_
     refine aJ rfl rfl rfl rfl rfl rfl rfl ?_
     refine aA ?_
     refine aJ rfl rfl rfl rfl rfl rfl rfl ?_
     refine aA ?_
     refine aB rfl (aP (v := .bool (false)) (b := false) rfl rfl rfl rfl) rfl rfl ?_
     refine aA ?_
     refine aB rfl (aD rfl) rfl rfl ?_
     refine aA ?_
     refine aJ rfl rfl rfl rfl rfl rfl rfl ?_
     refine aA ?_
     refine aJ rfl rfl rfl rfl rfl rfl rfl ?_
     refine aA ?_
     refine aJ rfl rfl rfl rfl rfl rfl rfl ?_
     refine aA ?_
     refine aJ rfl rfl rfl rfl rfl rfl rfl ?_
     refine aA ?_
     refine aJ rfl rfl rfl rfl rfl rfl rfl ?_
     refine aA ?_
     refine aB rfl (aP (v := .bool (false)) (b := false) rfl rfl rfl rfl) rfl rfl ?_
     refine aA ?_
     refine aB rfl (aG rfl) rfl rfl ?_
     refine aH ?_
     refine aI ?_
     refine wp_ret ?_
     have hr79 : aT x y = false := by simp [aT, hg10, hg15, hg21, hg27]
     refine aV (.inl rfl) Try.results55 rfl ?_
     rw [hr79]
     exact ⟨rfl, Ha8.1⟩
   ·refine aA ?_
    refine aU rfl rfl rfl rfl (fun _ ho80 => ?_)
    refine aB ho80 (bH hg21 (bM rfl rfl)) rfl rfl ?_
    refine aA ?_
    refine aB rfl (aP (v := .bool (false)) (b := true) rfl rfl rfl rfl) rfl rfl ?_
    refine aA ?_
    refine aB rfl (aD rfl) rfl rfl ?_
    refine aA ?_
    refine aJ rfl rfl rfl rfl rfl rfl rfl ?_
    refine aA ?_
    refine aJ rfl rfl rfl rfl rfl rfl rfl ?_
    refine aA ?_
    refine aJ rfl rfl rfl rfl rfl rfl rfl ?_
    refine aA ?_
    refine aJ rfl rfl rfl rfl rfl rfl rfl ?_
    refine aA ?_
    refine aJ rfl rfl rfl rfl rfl rfl rfl ?_
    refine aA ?_
    refine aB rfl (aP (v := .bool (false)) (b := false) rfl rfl rfl rfl) rfl rfl ?_
    refine aA ?_
    refine aB rfl (aD rfl) rfl rfl ?_
    refine aA ?_
    refine aJ rfl rfl rfl rfl rfl rfl rfl ?_
    refine aA ?_
    refine aJ rfl rfl rfl rfl rfl rfl rfl ?_
    refine aA ?_
    refine aJ rfl rfl rfl rfl rfl rfl rfl ?_
    refine aA ?_
    refine aJ rfl rfl rfl rfl rfl rfl rfl ?_
    refine aA ?_
    refine aJ rfl rfl rfl rfl rfl rfl rfl ?_
    refine aA ?_
    refine aB rfl (aP (v := .bool (false)) (b := false) rfl rfl rfl rfl) rfl rfl ?_
    refine aA ?_
    refine aB rfl (aD rfl) rfl rfl ?_
    refine aA ?_
    refine aJ rfl rfl rfl rfl rfl rfl rfl ?_
    refine aA ?_
    refine aJ rfl rfl rfl rfl rfl rfl rfl ?_
    refine aA ?_
    refine aJ rfl rfl rfl rfl rfl rfl rfl ?_
    refine aA ?_
    refine aJ rfl rfl rfl rfl rfl rfl rfl ?_
    refine aA ?_
    refine aJ rfl rfl rfl rfl rfl rfl rfl ?_
    refine aA ?_
    refine aB rfl (aP (v := .bool (false)) (b := false) rfl rfl rfl rfl) rfl rfl ?_
    refine aA ?_
    refine aB rfl (aD rfl) rfl rfl ?_
    refine aA ?_
    refine aJ rfl rfl rfl rfl rfl rfl rfl ?_
    refine aA ?_
    refine aJ rfl rfl rfl rfl rfl rfl rfl ?_
    refine aA ?_
    refine aJ rfl rfl rfl rfl rfl rfl rfl ?_
    refine aA ?_
    refine aJ rfl rfl rfl rfl rfl rfl rfl ?_
    refine aA ?_
    refine aJ rfl rfl rfl rfl rfl rfl rfl ?_
    refine aA ?_
    refine aB rfl (aP (v := .bool (false)) (b := false) rfl rfl rfl rfl) rfl rfl ?_
    refine aA ?_
    refine aB rfl (aD rfl) rfl rfl ?_
    refine aA ?_
    refine aJ rfl rfl rfl rfl rfl rfl rfl ?_
    refine aA ?_
    refine aJ rfl rfl rfl rfl rfl rfl rfl ?_
    refine aA ?_
    refine aJ rfl rfl rfl rfl rfl rfl rfl ?_
    refine aA ?_
    refine aJ rfl rfl rfl rfl rfl rfl rfl ?_
    refine aA ?_
    refine aJ rfl rfl rfl rfl rfl rfl rfl ?_
    refine aA ?_
    refine aB rfl (aP (v := .bool (false)) (b := false) rfl rfl rfl rfl) rfl rfl ?_
    refine aA ?_
    refine aB rfl (aD rfl) rfl rfl ?_
    refine aA ?_
    refine aJ rfl rfl rfl rfl rfl rfl rfl ?_
    refine aA ?_
    refine aJ rfl rfl rfl rfl rfl rfl rfl ?_
    refine aA ?_
    refine aJ rfl rfl rfl rfl rfl rfl rfl ?_
    refine aA ?_
    refine aJ rfl rfl rfl rfl rfl rfl rfl ?_
    refine aA ?_
    refine aJ rfl rfl rfl rfl rfl rfl rfl ?_
    refine aA ?_
    refine aB rfl (aP (v := .bool (false)) (b := false) rfl rfl rfl rfl) rfl rfl ?_
    refine aA ?_
    refine aB rfl (aG rfl) rfl rfl ?_
    refine aH ?_
    refine aI ?_
    refine wp_ret ?_
    have hr81 : aT x y = false := by simp [aT, hg10, hg15, hg21]
    refine aV (.inl rfl) Try.results55 rfl ?_
    rw [hr81]
    exact ⟨rfl, Ha8.1⟩
  ·refine aA ?_
   refine aU rfl rfl rfl rfl (fun _ ho82 => ?_)
   refine aB ho82 (bH hg15 (bM rfl rfl)) rfl rfl ?_
   refine aA ?_
   refine aB rfl (aP (v := .bool (false)) (b := true) rfl rfl rfl rfl) rfl rfl ?_
   refine aA ?_
   refine aB rfl (aD rfl) rfl rfl ?_
   refine aA ?_
   refine aJ rfl rfl rfl rfl rfl rfl rfl ?_
   refine aA ?_
   refine aJ rfl rfl rfl rfl rfl rfl rfl ?_
   refine aA ?_
   refine aJ rfl rfl rfl rfl rfl rfl rfl ?_
   refine aA ?_
   refine aJ rfl rfl rfl rfl rfl rfl rfl ?_
   refine aA ?_
   refine aJ rfl rfl rfl rfl rfl rfl rfl ?_
   refine aA ?_
   refine aB rfl (aP (v := .bool (false)) (b := false) rfl rfl rfl rfl) rfl rfl ?_
   refine aA ?_
   refine aB rfl (aD rfl) rfl rfl ?_
   refine aA ?_
   refine aJ rfl rfl rfl rfl rfl rfl rfl ?_
   refine aA ?_
   refine aJ rfl rfl rfl rfl rfl rfl rfl ?_
   refine aA ?_
   refine aJ rfl rfl rfl rfl rfl rfl rfl ?_
   refine aA ?_
   refine aJ rfl rfl rfl rfl rfl rfl rfl ?_
   refine aA ?_
   refine aJ rfl rfl rfl rfl rfl rfl rfl ?_
   refine aA ?_
   refine aB rfl (aP (v := .bool (false)) (b := false) rfl rfl rfl rfl) rfl rfl ?_
   refine aA ?_
   refine aB rfl (aD rfl) rfl rfl ?_
   refine aA ?_
   refine aJ rfl rfl rfl rfl rfl rfl rfl ?_
   refine aA ?_
   refine aJ rfl rfl rfl rfl rfl rfl rfl ?_
   refine aA ?_
   refine aJ rfl rfl rfl rfl rfl rfl rfl ?_
   refine aA ?_
   refine aJ rfl rfl rfl rfl rfl rfl rfl ?_
   refine aA ?_
   refine aJ rfl rfl rfl rfl rfl rfl rfl ?_
   refine aA ?_
   refine aB rfl (aP (v := .bool (false)) (b := false) rfl rfl rfl rfl) rfl rfl ?_
   refine aA ?_
   refine aB rfl (aD rfl) rfl rfl ?_
   refine aA ?_
   refine aJ rfl rfl rfl rfl rfl rfl rfl ?_
   refine aA ?_
   refine aJ rfl rfl rfl rfl rfl rfl rfl ?_
   refine aA ?_
   refine aJ rfl rfl rfl rfl rfl rfl rfl ?_
   refine aA ?_
   refine aJ rfl rfl rfl rfl rfl rfl rfl ?_
   refine aA ?_
   refine aJ rfl rfl rfl rfl rfl rfl rfl ?_
   refine aA ?_
   refine aB rfl (aP (v := .bool (false)) (b := false) rfl rfl rfl rfl) rfl rfl ?_
   refine aA ?_
   refine aB rfl (aD rfl) rfl rfl ?_
   refine aA ?_
   refine aJ rfl rfl rfl rfl rfl rfl rfl ?_
   refine aA ?_
   refine aJ rfl rfl rfl rfl rfl rfl rfl ?_
   refine aA ?_
   refine aJ rfl rfl rfl rfl rfl rfl rfl ?_
   refine aA ?_
   refine aJ rfl rfl rfl rfl rfl rfl rfl ?_
   refine aA ?_
   refine aJ rfl rfl rfl rfl rfl rfl rfl ?_
   refine aA ?_
   refine aB rfl (aP (v := .bool (false)) (b := false) rfl rfl rfl rfl) rfl rfl ?_
   refine aA ?_
   refine aB rfl (aD rfl) rfl rfl ?_
   refine aA ?_
   refine aJ rfl rfl rfl rfl rfl rfl rfl ?_
   refine aA ?_
   refine aJ rfl rfl rfl rfl rfl rfl rfl ?_
   refine aA ?_
   refine aJ rfl rfl rfl rfl rfl rfl rfl ?_
   refine aA ?_
   refine aJ rfl rfl rfl rfl rfl rfl rfl ?_
   refine aA ?_
   refine aJ rfl rfl rfl rfl rfl rfl rfl ?_
   refine aA ?_
   refine aB rfl (aP (v := .bool (false)) (b := false) rfl rfl rfl rfl) rfl rfl ?_
   refine aA ?_
   refine aB rfl (aD rfl) rfl rfl ?_
   refine aA ?_
   refine aJ rfl rfl rfl rfl rfl rfl rfl ?_
   refine aA ?_
   refine aJ rfl rfl rfl rfl rfl rfl rfl ?_
   refine aA ?_
   refine aJ rfl rfl rfl rfl rfl rfl rfl ?_
   refine aA ?_
   refine aJ rfl rfl rfl rfl rfl rfl rfl ?_
   refine aA ?_
   refine aJ rfl rfl rfl rfl rfl rfl rfl ?_
   refine aA ?_
   refine aB rfl (aP (v := .bool (false)) (b := false) rfl rfl rfl rfl) rfl rfl ?_
   refine aA ?_
   refine aB rfl (aG rfl) rfl rfl ?_
   refine aH ?_
   refine aI ?_
   refine wp_ret ?_
   have hr83 : aT x y = false := by simp [aT, hg10, hg15]
   refine aV (.inl rfl) Try.results55 rfl ?_
   rw [hr83]
   exact ⟨rfl, Ha8.1⟩
 ·refine aA ?_
  refine aB rfl (bH hg10 (bM rfl rfl)) rfl rfl ?_
  refine aA ?_
  refine aB rfl (aD rfl) rfl rfl ?_
  refine aA ?_
  refine aJ rfl rfl rfl rfl rfl rfl rfl ?_
  refine aA ?_
  refine aJ rfl rfl rfl rfl rfl rfl rfl ?_
  refine aA ?_
  refine aJ rfl rfl rfl rfl rfl rfl rfl ?_
  refine aA ?_
  refine aJ rfl rfl rfl rfl rfl rfl rfl ?_
  refine aA ?_
  refine aJ rfl rfl rfl rfl rfl rfl rfl ?_
  refine aA ?_
  refine aB rfl (aP (v := .bool (false)) (b := false) rfl rfl rfl rfl) rfl rfl ?_
  refine aA ?_
  refine aB rfl (aD rfl) rfl rfl ?_
  refine aA ?_
  refine aJ rfl rfl rfl rfl rfl rfl rfl ?_
  refine aA ?_
  refine aJ rfl rfl rfl rfl rfl rfl rfl ?_
  refine aA ?_
  refine aJ rfl rfl rfl rfl rfl rfl rfl ?_
  refine aA ?_
  refine aJ rfl rfl rfl rfl rfl rfl rfl ?_
  refine aA ?_
  refine aJ rfl rfl rfl rfl rfl rfl rfl ?_
  refine aA ?_
  refine aB rfl (aP (v := .bool (false)) (b := false) rfl rfl rfl rfl) rfl rfl ?_
  refine aA ?_
  refine aB rfl (aD rfl) rfl rfl ?_
  refine aA ?_
  refine aJ rfl rfl rfl rfl rfl rfl rfl ?_
  refine aA ?_
  refine aJ rfl rfl rfl rfl rfl rfl rfl ?_
  refine aA ?_
  refine aJ rfl rfl rfl rfl rfl rfl rfl ?_
  refine aA ?_
  refine aJ rfl rfl rfl rfl rfl rfl rfl ?_
  refine aA ?_
  refine aJ rfl rfl rfl rfl rfl rfl rfl ?_
  refine aA ?_
  refine aB rfl (aP (v := .bool (false)) (b := false) rfl rfl rfl rfl) rfl rfl ?_
  refine aA ?_
  refine aB rfl (aD rfl) rfl rfl ?_
  refine aA ?_
  refine aJ rfl rfl rfl rfl rfl rfl rfl ?_
  refine aA ?_
  refine aJ rfl rfl rfl rfl rfl rfl rfl ?_
  refine aA ?_
  refine aJ rfl rfl rfl rfl rfl rfl rfl ?_
  refine aA ?_
  refine aJ rfl rfl rfl rfl rfl rfl rfl ?_
  refine aA ?_
  refine aJ rfl rfl rfl rfl rfl rfl rfl ?_
  refine aA ?_
  refine aB rfl (aP (v := .bool (false)) (b := false) rfl rfl rfl rfl) rfl rfl ?_
  refine aA ?_
  refine aB rfl (aD rfl) rfl rfl ?_
  refine aA ?_
  refine aJ rfl rfl rfl rfl rfl rfl rfl ?_
  refine aA ?_
  refine aJ rfl rfl rfl rfl rfl rfl rfl ?_
  refine aA ?_
  refine aJ rfl rfl rfl rfl rfl rfl rfl ?_
  refine aA ?_
  refine aJ rfl rfl rfl rfl rfl rfl rfl ?_
  refine aA ?_
  refine aJ rfl rfl rfl rfl rfl rfl rfl ?_
  refine aA ?_
  refine aB rfl (aP (v := .bool (false)) (b := false) rfl rfl rfl rfl) rfl rfl ?_
  refine aA ?_
  refine aB rfl (aD rfl) rfl rfl ?_
  refine aA ?_
  refine aJ rfl rfl rfl rfl rfl rfl rfl ?_
  refine aA ?_
  refine aJ rfl rfl rfl rfl rfl rfl rfl ?_
  refine aA ?_
  refine aJ rfl rfl rfl rfl rfl rfl rfl ?_
  refine aA ?_
  refine aJ rfl rfl rfl rfl rfl rfl rfl ?_
  refine aA ?_
  refine aJ rfl rfl rfl rfl rfl rfl rfl ?_
  refine aA ?_
  refine aB rfl (aP (v := .bool (false)) (b := false) rfl rfl rfl rfl) rfl rfl ?_
  refine aA ?_
  refine aB rfl (aD rfl) rfl rfl ?_
  refine aA ?_
  refine aJ rfl rfl rfl rfl rfl rfl rfl ?_
  refine aA ?_
  refine aJ rfl rfl rfl rfl rfl rfl rfl ?_
  refine aA ?_
  refine aJ rfl rfl rfl rfl rfl rfl rfl ?_
  refine aA ?_
  refine aJ rfl rfl rfl rfl rfl rfl rfl ?_
  refine aA ?_
  refine aJ rfl rfl rfl rfl rfl rfl rfl ?_
  refine aA ?_
  refine aB rfl (aP (v := .bool (false)) (b := false) rfl rfl rfl rfl) rfl rfl ?_
  refine aA ?_
  refine aB rfl (aD rfl) rfl rfl ?_
  refine aA ?_
  refine aJ rfl rfl rfl rfl rfl rfl rfl ?_
  refine aA ?_
  refine aJ rfl rfl rfl rfl rfl rfl rfl ?_
  refine aA ?_
  refine aJ rfl rfl rfl rfl rfl rfl rfl ?_
  refine aA ?_
  refine aJ rfl rfl rfl rfl rfl rfl rfl ?_
  refine aA ?_
  refine aJ rfl rfl rfl rfl rfl rfl rfl ?_
  refine aA ?_
  refine aB rfl (aP (v := .bool (false)) (b := false) rfl rfl rfl rfl) rfl rfl ?_
  refine aA ?_
  refine aB rfl (aG rfl) rfl rfl ?_
  refine aH ?_
  refine aI ?_
  refine wp_ret ?_
  have hr84 : aT x y = false := by simp [aT, hg10]
  refine aV (.inl rfl) Try.results55 rfl ?_
  rw [hr84]
  exact ⟨rfl, Ha8.1⟩
theorem eqF_Message (l k : List GMessage) (A A' : Option Addr) (c c' : Nat) (w : World) (h : C aF w A l) (h' : C aF w A' k) : Calls Try.prog 54 #[.slice A l.length c, .slice A' k.length c', .func (.func 55) #[] #[]] w (dU (dB aT l k) w) := by
 have nx := h.1
 refine enter 32 [(0, .slice A l.length c), (1, .slice A' k.length c'), (2, .func (.func 55) #[] #[])] Try.func54 rfl kR ?_
 intro xj
 have H1 : St w No [] w := St.enter
 refine wp_seq ?_
 refine aK [0] rfl ?_
 refine aA ?_
 refine aB rfl (aG rfl) rfl rfl ?_
 refine aH ?_
 refine aI ?_
 refine wp_seq ?_
 refine wp_seq ?_
 refine aK [0, 1, 2, 3, 4] rfl ?_
 refine aA ?_
 refine aB rfl (aD rfl) rfl rfl ?_
 refine aA ?_
 refine aB rfl (bT Try.runUnderlying37 rfl) rfl rfl ?_
 refine aA ?_
 refine aB rfl (aD rfl) rfl rfl ?_
 refine aA ?_
 refine aB rfl (bT Try.runUnderlying37 rfl) rfl rfl ?_
 by_cases hg2 : ¬ ((l.length : Nat) : Int) = (k.length : Nat)
 ·refine aA ?_
  refine aB rfl (bG hg2 (rn_neq rfl rfl)) rfl rfl ?_
  refine aH ?_
  refine aI ?_
  refine dO rfl ?_
  refine wp_seq ?_
  refine aK [0] rfl ?_
  refine aA ?_
  refine aB rfl (aG rfl) rfl rfl ?_
  refine aH ?_
  refine aI ?_
  refine wp_ret ?_
  refine bV ?_
  have hz3 : ∀ f, dB f l k = false := fun f => eqlS_len f l k kO
  have hr4 : dB aT l k = false := by simp [hz3]
  refine aV (.inl rfl) Try.results54 rfl ?_
  rw [hr4]
  exact ⟨rfl, H1.1⟩
 ·refine aA ?_
  refine aB rfl (bH hg2 (rn_neq rfl rfl)) rfl rfl ?_
  refine aH ?_
  refine aI ?_
  refine dA rfl ?_
  refine wp_skip ?_
  refine aI ?_
  refine wp_seq ?_
  refine wp_seq ?_
  refine aK [0, 1, 2] rfl ?_
  refine aA ?_
  refine aB rfl (aD rfl) rfl rfl ?_
  refine aA ?_
  refine aB rfl (bT Try.runUnderlying37 rfl) rfl rfl ?_
  refine aA ?_
  refine aB rfl (aD rfl) rfl rfl ?_
  refine aH ?_
  refine aI ?_
  refine wp_block ?_
  refine wp_loop_ghost (fun r a' W' => ∃ (i1 : Nat) (x' : Nat → Value), a' = aO 32 x' [(1, .slice A' k.length c'), (2, .func (.func 55) #[] #[]), (15, .slice A l.length c), (16, .int .i64 ((l.length : Nat))), (17, .int .i64 (((i1 : Nat) : Int)))] ∧ (i1 + r = l.length) ∧ (dB aT l k = dB aT (l.drop i1) (k.drop i1)) ∧ St w No [] W') l.length ?_ ?_
  ·exact (aW [(1, .slice A' k.length c'), (2, .func (.func 55) #[] #[]), (15, .slice A l.length c), (16, .int .i64 ((l.length : Nat))), (17, .int .i64 (((0 : Nat) : Int)))] rfl).elim fun x' hx => ⟨0, x', hx, kO, rfl, H1⟩
  ·rintro r5 _ W6 ⟨i1, x7, rfl, hi1, hf1, H8⟩; clear H1
   refine wp_seq ?_
   refine aK [0] rfl ?_
   refine aA ?_
   refine aB rfl (dD rfl rfl) rfl rfl ?_
   refine aH ?_
   refine aI ?_
   refine wp_seq ?_
   refine bL rfl (fun hc9 => ?_) (fun hc9 => ?_)
   ·have hlt1 : i1 < l.length := by omega
    have hlu1 : i1 < k.length := by omega
    obtain ⟨ade10, cse10, hAe10, hKe10, hce10⟩ := eZ h i1 hlt1
    have hle10 := aX hKe10
    have hoe10 := bS hKe10
    obtain ⟨ade11, cse11, hAe11, hKe11, hce11⟩ := eZ h' i1 hlu1
    have hle11 := aX hKe11
    have hoe11 := bS hKe11
    refine wp_skip ?_
    refine aI ?_
    refine wp_seq ?_
    refine wp_block ?_
    refine wp_seq ?_
    refine aK [0, 1, 2, 3, 4, 5] rfl ?_
    refine aA ?_
    refine aB rfl (aD rfl) rfl rfl ?_
    refine aA ?_
    refine aB rfl (bB (k := i1) Try.runUnderlying37 Try.sizeOf31 rfl rfl hAe10 hlt1) rfl rfl ?_
    refine aA ?_
    refine aB rfl (dJ Try.isAgg31 Try.sizeOf31 rfl (Cat.upd hce10 H8.1) hle10) rfl rfl ?_
    refine aA ?_
    refine bW rfl Try.zeroValue31 rfl rfl H8 ?_
    intro g_5_3 W12 hu13 Ha14; clear H8; clear hu13
    refine aA ?_
    refine aB rfl (aG rfl) rfl rfl ?_
    refine aA ?_
    refine bE rfl Try.sizeOf31 rfl rfl hle10 rfl hoe10 Ha14 ?_
    intro W16 hu17 Ha18; clear Ha14; clear hu17
    refine aH ?_
    refine aI ?_
    refine wp_seq ?_
    refine aK [0, 1, 2, 3, 4, 5] rfl ?_
    refine aA ?_
    refine aB rfl (aD rfl) rfl rfl ?_
    refine aA ?_
    refine aB rfl (aD rfl) rfl rfl ?_
    refine aA ?_
    refine aB rfl (bB (k := i1) Try.runUnderlying37 Try.sizeOf31 rfl rfl hAe11 hlu1) rfl rfl ?_
    refine aA ?_
    refine aB rfl (dJ Try.isAgg31 Try.sizeOf31 rfl (Cat.upd hce11 Ha18.1) hle11) rfl rfl ?_
    refine aA ?_
    refine bW rfl Try.zeroValue31 rfl rfl Ha18 ?_
    intro g_6_4 W20 hu21 Ha22; clear Ha18; clear hu21
    refine aA ?_
    refine bE rfl Try.sizeOf31 rfl rfl hle11 rfl hoe11 Ha22 ?_
    intro W24 hu25 Ha26; clear Ha22; clear hu25
    refine aH ?_
    refine aI ?_
    refine wp_seq ?_
    refine aK [0, 1, 2, 3, 4] rfl ?_
    refine aA ?_
    refine aB rfl (aD rfl) rfl rfl ?_
    refine aA ?_
    refine aB rfl (cB Try.isAgg31 Try.sizeOf31 rfl (Ha26.blk 1 rfl) hle10) rfl rfl ?_
    refine aA ?_
    refine aB rfl (cB Try.isAgg31 Try.sizeOf31 rfl (Ha26.blk 0 rfl) hle11) rfl rfl ?_
    by_cases hg28 : aT (l[i1]) (k[i1]) = true
    ·refine aA ?_
     refine op_callF rfl rfl Try.call55 (vs := #[.agg (List.toArray cse10), .agg (List.toArray cse11)]) rfl rfl rfl (retb (eY (l[i1]) (k[i1]) _ _ _ (K_upd Ha26.1 hKe10) (K_upd Ha26.1 hKe11)) hg28) ?_
     rintro e31 W30 ⟨rfl, hu29⟩; refine ⟨_, rfl, ?_⟩
     have H32 := Ha26.no hu29; clear Ha26
     refine aA ?_
     refine aB rfl (rn_not rfl) rfl rfl ?_
     refine aH ?_
     refine aI ?_
     refine dA rfl ?_
     refine wp_skip ?_
     refine dW ?_
     refine aI ?_
     refine aK [0, 1] rfl ?_
     refine aA ?_
     refine aB rfl (dP (k := i1) rfl rfl kO) rfl rfl ?_
     refine aA ?_
     refine aB rfl (aD rfl) rfl rfl ?_
     refine aH ?_
     refine aI ?_
     exact (aW [(1, .slice A' k.length c'), (2, .func (.func 55) #[] #[]), (15, .slice A l.length c), (16, .int .i64 ((l.length : Nat))), (17, .int .i64 (((i1 + 1 : Nat) : Int)))] rfl).elim fun x' hx => ⟨r5 - 1, kO, i1 + 1, x', hx, kO, (hf1.trans (eqlS_yes aT l k i1 hlt1 hlu1 hg28)), H32.pick [] kD rfl⟩
    ·refine aA ?_
     refine op_callF rfl rfl Try.call55 (vs := #[.agg (List.toArray cse10), .agg (List.toArray cse11)]) rfl rfl rfl (retb (eY (l[i1]) (k[i1]) _ _ _ (K_upd Ha26.1 hKe10) (K_upd Ha26.1 hKe11)) (eq_false_of_ne_true hg28)) ?_
     rintro e35 W34 ⟨rfl, hu33⟩; refine ⟨_, rfl, ?_⟩
     have H36 := Ha26.no hu33; clear Ha26
     refine aA ?_
     refine aB rfl (rn_not rfl) rfl rfl ?_
     refine aH ?_
     refine aI ?_
     refine dO rfl ?_
     refine wp_seq ?_
     refine aK [0] rfl ?_
     refine aA ?_
     refine aB rfl (aG rfl) rfl rfl ?_
     refine aH ?_
     refine aI ?_
     refine wp_ret ?_
     refine inB_r ?_
     refine bV ?_
     refine bV ?_
     refine inB_r ?_
     refine bV ?_
     have hz37 : dB aT l k = false := hf1.trans (eqlS_no aT l k i1 hlt1 hlu1 (eq_false_of_ne_true hg28))
     have hr38 : dB aT l k = false := by simp [hg28, hz37]
     refine aV (.inl rfl) Try.results54 rfl ?_
     rw [hr38]
     exact ⟨rfl, H36.1⟩
   ·have hd1 : dB aT l k = true := hf1.trans (eqlS_end aT l k i1 kO kO)
    refine wp_exit ?_
    refine bR ?_
    refine bR ?_
    refine inB_x ?_
    refine aI ?_
    refine wp_seq ?_
    refine aK [0] rfl ?_
    refine aA ?_
    refine aB rfl (aG rfl) rfl rfl ?_
    refine aH ?_
    refine aI ?_
    refine wp_ret ?_
    have hr39 : dB aT l k = true := by simp [hd1]
    refine aV (.inl rfl) Try.results54 rfl ?_
    rw [hr39]
    exact ⟨rfl, H8.1⟩
theorem equalMessages_i (x y : GMessage) (cx cy : List Value) (w : World) (h : aF.K w x cx) (h' : aF.K w y cy) : Calls Try.prog 13 #[.agg cx.toArray, .agg cy.toArray] w (dU (aT x y) w) := by
 obtain ⟨Ax5, cx5, rfl, hlx5, hCx5⟩ := dV h
 obtain ⟨Ay5, cy5, rfl, hly5, hCy5⟩ := dV h'
 have nx5 := hCx5.1
 refine enter 8 [(0, .agg #[.int .i64 (x.Kind), .int .i64 (x.Pos), .int .i64 (x.bI), .int .i64 (x.Question), .string (x.Name), .slice Ax5 x.bF.length cx5, .int .i64 (x.Value.Kind), .int .i64 (x.Value.N), .int .i64 (x.Count), .int .i64 (x.Tag.Vat), .int .i64 (x.Tag.Entity), .int .i64 (x.Tag.Seq)]), (1, .agg #[.int .i64 (y.Kind), .int .i64 (y.Pos), .int .i64 (y.bI), .int .i64 (y.Question), .string (y.Name), .slice Ay5 y.bF.length cy5, .int .i64 (y.Value.Kind), .int .i64 (y.Value.N), .int .i64 (y.Count), .int .i64 (y.Tag.Vat), .int .i64 (y.Tag.Entity), .int .i64 (y.Tag.Seq)])] Try.func13 rfl kR ?_
 intro xj
 have H1 : St w No [] w := St.enter
 refine wp_seq ?_
 refine aK [0, 1, 2] rfl ?_
 refine aA ?_
 refine eP rfl rfl rfl rfl H1 ?_
 intro g_0_0 W2 hu3 Ha4; clear H1; clear hu3
 refine aA ?_
 refine eP rfl rfl rfl rfl Ha4 ?_
 intro g_0_1 W6 hu7 Ha8; clear Ha4; clear hu7
 refine aA ?_
 refine aB rfl (aG rfl) rfl rfl ?_
 refine aH ?_
 refine aI ?_
 refine wp_seq ?_
 refine aK [0, 1, 2, 3] rfl ?_
 refine aA ?_
 refine aB rfl (cB Try.isAgg31 Try.sizeOf31 rfl (Ha8.blk 1 rfl) rfl) rfl rfl ?_
 refine aA ?_
 refine aB rfl (cB Try.isAgg31 Try.sizeOf31 rfl (Ha8.blk 0 rfl) rfl) rfl rfl ?_
 by_cases hg10 : (aT x y) = true
 ·refine aA ?_
  refine aN rfl Try.call55 (vs := #[.agg #[.int .i64 (x.Kind), .int .i64 (x.Pos), .int .i64 (x.bI), .int .i64 (x.Question), .string (x.Name), .slice Ax5 x.bF.length cx5, .int .i64 (x.Value.Kind), .int .i64 (x.Value.N), .int .i64 (x.Count), .int .i64 (x.Tag.Vat), .int .i64 (x.Tag.Entity), .int .i64 (x.Tag.Seq)], .agg #[.int .i64 (y.Kind), .int .i64 (y.Pos), .int .i64 (y.bI), .int .i64 (y.Question), .string (y.Name), .slice Ay5 y.bF.length cy5, .int .i64 (y.Value.Kind), .int .i64 (y.Value.N), .int .i64 (y.Count), .int .i64 (y.Tag.Vat), .int .i64 (y.Tag.Entity), .int .i64 (y.Tag.Seq)]]) rfl rfl rfl (retb (eY x y _ _ _ (dS _ x hlx5 (bQ Ha8.1 hCx5)) (dS _ y hly5 (bQ Ha8.1 hCy5))) hg10) ?_
  rintro e13 W12 ⟨rfl, hu11⟩; refine ⟨_, rfl, ?_⟩
  have H14 := Ha8.no hu11; clear Ha8
  refine aA ?_
  refine aB rfl (aG rfl) rfl rfl ?_
  refine aH ?_
  refine aI ?_
  refine wp_ret ?_
  have hr15 : aT x y = true := by first | simp [hg10] | simp [aT, hg10]
  refine aV (.inl rfl) Try.results13 rfl ?_
  rw [hr15]
  exact ⟨rfl, H14.1⟩
 ·refine aA ?_
  refine aN rfl Try.call55 (vs := #[.agg #[.int .i64 (x.Kind), .int .i64 (x.Pos), .int .i64 (x.bI), .int .i64 (x.Question), .string (x.Name), .slice Ax5 x.bF.length cx5, .int .i64 (x.Value.Kind), .int .i64 (x.Value.N), .int .i64 (x.Count), .int .i64 (x.Tag.Vat), .int .i64 (x.Tag.Entity), .int .i64 (x.Tag.Seq)], .agg #[.int .i64 (y.Kind), .int .i64 (y.Pos), .int .i64 (y.bI), .int .i64 (y.Question), .string (y.Name), .slice Ay5 y.bF.length cy5, .int .i64 (y.Value.Kind), .int .i64 (y.Value.N), .int .i64 (y.Count), .int .i64 (y.Tag.Vat), .int .i64 (y.Tag.Entity), .int .i64 (y.Tag.Seq)]]) rfl rfl rfl (retb (eY x y _ _ _ (dS _ x hlx5 (bQ Ha8.1 hCx5)) (dS _ y hly5 (bQ Ha8.1 hCy5))) (eq_false_of_ne_true hg10)) ?_
  rintro e18 W17 ⟨rfl, hu16⟩; refine ⟨_, rfl, ?_⟩
  have H19 := Ha8.no hu16; clear Ha8
  refine aA ?_
  refine aB rfl (aG rfl) rfl rfl ?_
  refine aH ?_
  refine aI ?_
  refine wp_ret ?_
  have hr20 : aT x y = false := by first | simp [hg10] | simp [aT, hg10]
  refine aV (.inl rfl) Try.results13 rfl ?_
  rw [hr20]
  exact ⟨rfl, H19.1⟩
theorem eqc_Channel (x y : GChannel) (cx cy : List Value) (w : World) (h : aC.K w x cx) (h' : aC.K w y cy) : Calls Try.prog 53 #[.agg cx.toArray, .agg cy.toArray] w (dU (bA x y) w) := by
 obtain ⟨Ax2, cx2, rfl, hlx2, hCx2⟩ := dK h
 obtain ⟨Ay2, cy2, rfl, hly2, hCy2⟩ := dK h'
 have nx2 := hCx2.1
 refine enter 24 [(0, .agg #[.int .i64 (x.From), .int .i64 (x.To), .slice Ax2 x.List.length cx2]), (1, .agg #[.int .i64 (y.From), .int .i64 (y.To), .slice Ay2 y.List.length cy2])] Try.func53 rfl kR ?_
 intro xj
 have H1 : St w No [] w := St.enter
 refine wp_seq ?_
 refine aK [0, 1, 2] rfl ?_
 refine aA ?_
 refine eP rfl rfl rfl rfl H1 ?_
 intro g_0_0 W2 hu3 Ha4; clear H1; clear hu3
 refine aA ?_
 refine eP rfl rfl rfl rfl Ha4 ?_
 intro g_0_1 W6 hu7 Ha8; clear Ha4; clear hu7
 refine aA ?_
 refine aB rfl (aG rfl) rfl rfl ?_
 refine aH ?_
 refine aI ?_
 refine wp_seq ?_
 refine aK [0, 1, 2, 3, 4, 5, 6, 7, 8, 9, 10, 11, 12, 13, 14, 15, 16, 17, 18, 19] rfl ?_
 refine aA ?_
 refine aB rfl (aS fa_94_0 rfl) rfl rfl ?_
 refine aA ?_
 refine aB rfl (bC (k := 0) (v := .int .i64 (x.From)) Try.isAgg3 rfl (Ha8.blk 1 rfl) rfl) rfl rfl ?_
 refine aA ?_
 refine aB rfl (aS fa_94_0 rfl) rfl rfl ?_
 refine aA ?_
 refine aB rfl (bC (k := 0) (v := .int .i64 (y.From)) Try.isAgg3 rfl (Ha8.blk 0 rfl) rfl) rfl rfl ?_
 by_cases hg10 : (x.From : Int) = y.From
 ·refine aA ?_
  refine aB rfl (bG hg10 (bM rfl rfl)) rfl rfl ?_
  refine aA ?_
  refine aB rfl (aD rfl) rfl rfl ?_
  refine aA ?_
  refine aU rfl rfl rfl rfl (fun _ ho11 => ?_)
  refine aB ho11 (aS fa_94_1 rfl) rfl rfl ?_
  refine aA ?_
  refine aU rfl rfl rfl rfl (fun _ ho12 => ?_)
  refine aB ho12 (bC (k := 1) (v := .int .i64 (x.To)) Try.isAgg3 rfl (Ha8.blk 1 rfl) rfl) rfl rfl ?_
  refine aA ?_
  refine aU rfl rfl rfl rfl (fun _ ho13 => ?_)
  refine aB ho13 (aS fa_94_1 rfl) rfl rfl ?_
  refine aA ?_
  refine aU rfl rfl rfl rfl (fun _ ho14 => ?_)
  refine aB ho14 (bC (k := 1) (v := .int .i64 (y.To)) Try.isAgg3 rfl (Ha8.blk 0 rfl) rfl) rfl rfl ?_
  by_cases hg15 : (x.To : Int) = y.To
  ·refine aA ?_
   refine aU rfl rfl rfl rfl (fun _ ho16 => ?_)
   refine aB ho16 (bG hg15 (bM rfl rfl)) rfl rfl ?_
   refine aA ?_
   refine aB rfl (aP (v := .bool (true)) (b := true) rfl rfl rfl rfl) rfl rfl ?_
   refine aA ?_
   refine aB rfl (aD rfl) rfl rfl ?_
   refine aA ?_
   refine aU rfl rfl rfl rfl (fun _ ho17 => ?_)
   refine aB ho17 (aS bY rfl) rfl rfl ?_
   refine aA ?_
   refine aU rfl rfl rfl rfl (fun _ ho18 => ?_)
   refine aB ho18 (bC (k := 2) (v := .slice Ax2 x.List.length cx2) Try.isAgg37 rfl (Ha8.blk 1 rfl) rfl) rfl rfl ?_
   refine aA ?_
   refine aU rfl rfl rfl rfl (fun _ ho19 => ?_)
   refine aB ho19 (aS bY rfl) rfl rfl ?_
   refine aA ?_
   refine aU rfl rfl rfl rfl (fun _ ho20 => ?_)
   refine aB ho20 (bC (k := 2) (v := .slice Ay2 y.List.length cy2) Try.isAgg37 rfl (Ha8.blk 0 rfl) rfl) rfl rfl ?_
   by_cases hg21 : (dB aT x.List y.List) = true
   ·refine aA ?_
    refine aU rfl rfl rfl rfl (fun _ ho22 => ?_)
    refine aN ho22 Try.call54 (vs := #[.slice Ax2 x.List.length cx2, .slice Ay2 y.List.length cy2, .func (.func 55) #[] #[]]) rfl rfl rfl (retb (eqF_Message x.List y.List _ _ _ _ _ (bQ Ha8.1 hCx2) (bQ Ha8.1 hCy2)) hg21) ?_
    rintro e25 W24 ⟨rfl, hu23⟩; refine ⟨_, rfl, ?_⟩
    have H26 := Ha8.no hu23; clear Ha8
    refine aA ?_
    refine aB rfl (aP (v := .bool (true)) (b := true) rfl rfl rfl rfl) rfl rfl ?_
    refine aA ?_
    refine aB rfl (aG rfl) rfl rfl ?_
    refine aH ?_
    refine aI ?_
    refine wp_ret ?_
    have hr27 : bA x y = true := by simp [bA, hg10, hg15, hg21]
    refine aV (.inl rfl) Try.results53 rfl ?_
    rw [hr27]
    exact ⟨rfl, H26.1⟩
   ·refine aA ?_
    refine aU rfl rfl rfl rfl (fun _ ho28 => ?_)
    refine aN ho28 Try.call54 (vs := #[.slice Ax2 x.List.length cx2, .slice Ay2 y.List.length cy2, .func (.func 55) #[] #[]]) rfl rfl rfl (retb (eqF_Message x.List y.List _ _ _ _ _ (bQ Ha8.1 hCx2) (bQ Ha8.1 hCy2)) (eq_false_of_ne_true hg21)) ?_
    rintro e31 W30 ⟨rfl, hu29⟩; refine ⟨_, rfl, ?_⟩
    have H32 := Ha8.no hu29; clear Ha8
    refine aA ?_
    refine aB rfl (aP (v := .bool (false)) (b := true) rfl rfl rfl rfl) rfl rfl ?_
    refine aA ?_
    refine aB rfl (aG rfl) rfl rfl ?_
    refine aH ?_
    refine aI ?_
    refine wp_ret ?_
    have hr33 : bA x y = false := by simp [bA, hg10, hg15, hg21]
    refine aV (.inl rfl) Try.results53 rfl ?_
    rw [hr33]
    exact ⟨rfl, H32.1⟩
  ·refine aA ?_
   refine aU rfl rfl rfl rfl (fun _ ho34 => ?_)
   refine aB ho34 (bH hg15 (bM rfl rfl)) rfl rfl ?_
   refine aA ?_
   refine aB rfl (aP (v := .bool (false)) (b := true) rfl rfl rfl rfl) rfl rfl ?_
   refine aA ?_
   refine aB rfl (aD rfl) rfl rfl ?_
   refine aA ?_
   refine aJ rfl rfl rfl rfl rfl rfl rfl ?_
   refine aA ?_
   refine aJ rfl rfl rfl rfl rfl rfl rfl ?_
   refine aA ?_
   refine aJ rfl rfl rfl rfl rfl rfl rfl ?_
   refine aA ?_
   refine aJ rfl rfl rfl rfl rfl rfl rfl ?_
   refine aA ?_
   refine aJ rfl rfl rfl rfl rfl rfl rfl ?_
   refine aA ?_
   refine aB rfl (aP (v := .bool (false)) (b := false) rfl rfl rfl rfl) rfl rfl ?_
   refine aA ?_
   refine aB rfl (aG rfl) rfl rfl ?_
   refine aH ?_
   refine aI ?_
   refine wp_ret ?_
   have hr35 : bA x y = false := by simp [bA, hg10, hg15]
   refine aV (.inl rfl) Try.results53 rfl ?_
   rw [hr35]
   exact ⟨rfl, Ha8.1⟩
 ·refine aA ?_
  refine aB rfl (bH hg10 (bM rfl rfl)) rfl rfl ?_
  refine aA ?_
  refine aB rfl (aD rfl) rfl rfl ?_
  refine aA ?_
  refine aJ rfl rfl rfl rfl rfl rfl rfl ?_
  refine aA ?_
  refine aJ rfl rfl rfl rfl rfl rfl rfl ?_
  refine aA ?_
  refine aJ rfl rfl rfl rfl rfl rfl rfl ?_
  refine aA ?_
  refine aJ rfl rfl rfl rfl rfl rfl rfl ?_
  refine aA ?_
  refine aJ rfl rfl rfl rfl rfl rfl rfl ?_
  refine aA ?_
  refine aB rfl (aP (v := .bool (false)) (b := false) rfl rfl rfl rfl) rfl rfl ?_
  refine aA ?_
  refine aB rfl (aD rfl) rfl rfl ?_
  refine aA ?_
  refine aJ rfl rfl rfl rfl rfl rfl rfl ?_
  refine aA ?_
  refine aJ rfl rfl rfl rfl rfl rfl rfl ?_
  refine aA ?_
  refine aJ rfl rfl rfl rfl rfl rfl rfl ?_
  refine aA ?_
  refine aJ rfl rfl rfl rfl rfl rfl rfl ?_
  refine aA ?_
  refine aJ rfl rfl rfl rfl rfl rfl rfl ?_
  refine aA ?_
  refine aB rfl (aP (v := .bool (false)) (b := false) rfl rfl rfl rfl) rfl rfl ?_
  refine aA ?_
  refine aB rfl (aG rfl) rfl rfl ?_
  refine aH ?_
  refine aI ?_
  refine wp_ret ?_
  have hr36 : bA x y = false := by simp [bA, hg10]
  refine aV (.inl rfl) Try.results53 rfl ?_
  rw [hr36]
  exact ⟨rfl, Ha8.1⟩
theorem eqF_Channel (l k : List GChannel) (A A' : Option Addr) (c c' : Nat) (w : World) (h : C aC w A l) (h' : C aC w A' k) : Calls Try.prog 52 #[.slice A l.length c, .slice A' k.length c', .func (.func 53) #[] #[]] w (dU (dB bA l k) w) := by
 have nx := h.1
 refine enter 32 [(0, .slice A l.length c), (1, .slice A' k.length c'), (2, .func (.func 53) #[] #[])] Try.func52 rfl kR ?_
 intro xj
 have H1 : St w No [] w := St.enter
 refine wp_seq ?_
 refine aK [0] rfl ?_
 refine aA ?_
 refine aB rfl (aG rfl) rfl rfl ?_
 refine aH ?_
 refine aI ?_
 refine wp_seq ?_
 refine wp_seq ?_
 refine aK [0, 1, 2, 3, 4] rfl ?_
 refine aA ?_
 refine aB rfl (aD rfl) rfl rfl ?_
 refine aA ?_
 refine aB rfl (bT Try.runUnderlying24 rfl) rfl rfl ?_
 refine aA ?_
 refine aB rfl (aD rfl) rfl rfl ?_
 refine aA ?_
 refine aB rfl (bT Try.runUnderlying24 rfl) rfl rfl ?_
 by_cases hg2 : ¬ ((l.length : Nat) : Int) = (k.length : Nat)
 ·refine aA ?_
  refine aB rfl (bG hg2 (rn_neq rfl rfl)) rfl rfl ?_
  refine aH ?_
  refine aI ?_
  refine dO rfl ?_
  refine wp_seq ?_
  refine aK [0] rfl ?_
  refine aA ?_
  refine aB rfl (aG rfl) rfl rfl ?_
  refine aH ?_
  refine aI ?_
  refine wp_ret ?_
  refine bV ?_
  have hz3 : ∀ f, dB f l k = false := fun f => eqlS_len f l k kO
  have hr4 : dB bA l k = false := by simp [hz3]
  refine aV (.inl rfl) Try.results52 rfl ?_
  rw [hr4]
  exact ⟨rfl, H1.1⟩
 ·refine aA ?_
  refine aB rfl (bH hg2 (rn_neq rfl rfl)) rfl rfl ?_
  refine aH ?_
  refine aI ?_
  refine dA rfl ?_
  refine wp_skip ?_
  refine aI ?_
  refine wp_seq ?_
  refine wp_seq ?_
  refine aK [0, 1, 2] rfl ?_
  refine aA ?_
  refine aB rfl (aD rfl) rfl rfl ?_
  refine aA ?_
  refine aB rfl (bT Try.runUnderlying24 rfl) rfl rfl ?_
  refine aA ?_
  refine aB rfl (aD rfl) rfl rfl ?_
  refine aH ?_
  refine aI ?_
  refine wp_block ?_
  refine wp_loop_ghost (fun r a' W' => ∃ (i1 : Nat) (x' : Nat → Value), a' = aO 32 x' [(1, .slice A' k.length c'), (2, .func (.func 53) #[] #[]), (15, .slice A l.length c), (16, .int .i64 ((l.length : Nat))), (17, .int .i64 (((i1 : Nat) : Int)))] ∧ (i1 + r = l.length) ∧ (dB bA l k = dB bA (l.drop i1) (k.drop i1)) ∧ St w No [] W') l.length ?_ ?_
  ·exact (aW [(1, .slice A' k.length c'), (2, .func (.func 53) #[] #[]), (15, .slice A l.length c), (16, .int .i64 ((l.length : Nat))), (17, .int .i64 (((0 : Nat) : Int)))] rfl).elim fun x' hx => ⟨0, x', hx, kO, rfl, H1⟩
  ·rintro r5 _ W6 ⟨i1, x7, rfl, hi1, hf1, H8⟩; clear H1
   refine wp_seq ?_
   refine aK [0] rfl ?_
   refine aA ?_
   refine aB rfl (dD rfl rfl) rfl rfl ?_
   refine aH ?_
   refine aI ?_
   refine wp_seq ?_
   refine bL rfl (fun hc9 => ?_) (fun hc9 => ?_)
   ·have hlt1 : i1 < l.length := by omega
    have hlu1 : i1 < k.length := by omega
    obtain ⟨ade10, cse10, hAe10, hKe10, hce10⟩ := eZ h i1 hlt1
    have hle10 := dQ hKe10
    have hoe10 := dR hKe10
    obtain ⟨ade11, cse11, hAe11, hKe11, hce11⟩ := eZ h' i1 hlu1
    have hle11 := dQ hKe11
    have hoe11 := dR hKe11
    refine wp_skip ?_
    refine aI ?_
    refine wp_seq ?_
    refine wp_block ?_
    refine wp_seq ?_
    refine aK [0, 1, 2, 3, 4, 5] rfl ?_
    refine aA ?_
    refine aB rfl (aD rfl) rfl rfl ?_
    refine aA ?_
    refine aB rfl (bB (k := i1) Try.runUnderlying24 Try.sizeOf94 rfl rfl hAe10 hlt1) rfl rfl ?_
    refine aA ?_
    refine aB rfl (dJ Try.isAgg94 Try.sizeOf94 rfl (Cat.upd hce10 H8.1) hle10) rfl rfl ?_
    refine aA ?_
    refine bW rfl Try.zeroValue94 rfl rfl H8 ?_
    intro g_5_3 W12 hu13 Ha14; clear H8; clear hu13
    refine aA ?_
    refine aB rfl (aG rfl) rfl rfl ?_
    refine aA ?_
    refine bE rfl Try.sizeOf94 rfl rfl hle10 rfl hoe10 Ha14 ?_
    intro W16 hu17 Ha18; clear Ha14; clear hu17
    refine aH ?_
    refine aI ?_
    refine wp_seq ?_
    refine aK [0, 1, 2, 3, 4, 5] rfl ?_
    refine aA ?_
    refine aB rfl (aD rfl) rfl rfl ?_
    refine aA ?_
    refine aB rfl (aD rfl) rfl rfl ?_
    refine aA ?_
    refine aB rfl (bB (k := i1) Try.runUnderlying24 Try.sizeOf94 rfl rfl hAe11 hlu1) rfl rfl ?_
    refine aA ?_
    refine aB rfl (dJ Try.isAgg94 Try.sizeOf94 rfl (Cat.upd hce11 Ha18.1) hle11) rfl rfl ?_
    refine aA ?_
    refine bW rfl Try.zeroValue94 rfl rfl Ha18 ?_
    intro g_6_4 W20 hu21 Ha22; clear Ha18; clear hu21
    refine aA ?_
    refine bE rfl Try.sizeOf94 rfl rfl hle11 rfl hoe11 Ha22 ?_
    intro W24 hu25 Ha26; clear Ha22; clear hu25
    refine aH ?_
    refine aI ?_
    refine wp_seq ?_
    refine aK [0, 1, 2, 3, 4] rfl ?_
    refine aA ?_
    refine aB rfl (aD rfl) rfl rfl ?_
    refine aA ?_
    refine aB rfl (cB Try.isAgg94 Try.sizeOf94 rfl (Ha26.blk 1 rfl) hle10) rfl rfl ?_
    refine aA ?_
    refine aB rfl (cB Try.isAgg94 Try.sizeOf94 rfl (Ha26.blk 0 rfl) hle11) rfl rfl ?_
    by_cases hg28 : bA (l[i1]) (k[i1]) = true
    ·refine aA ?_
     refine op_callF rfl rfl Try.call53 (vs := #[.agg (List.toArray cse10), .agg (List.toArray cse11)]) rfl rfl rfl (retb (eqc_Channel (l[i1]) (k[i1]) _ _ _ (K_upd Ha26.1 hKe10) (K_upd Ha26.1 hKe11)) hg28) ?_
     rintro e31 W30 ⟨rfl, hu29⟩; refine ⟨_, rfl, ?_⟩
     have H32 := Ha26.no hu29; clear Ha26
     refine aA ?_
     refine aB rfl (rn_not rfl) rfl rfl ?_
     refine aH ?_
     refine aI ?_
     refine dA rfl ?_
     refine wp_skip ?_
     refine dW ?_
     refine aI ?_
     refine aK [0, 1] rfl ?_
     refine aA ?_
     refine aB rfl (dP (k := i1) rfl rfl kO) rfl rfl ?_
     refine aA ?_
     refine aB rfl (aD rfl) rfl rfl ?_
     refine aH ?_
     refine aI ?_
     exact (aW [(1, .slice A' k.length c'), (2, .func (.func 53) #[] #[]), (15, .slice A l.length c), (16, .int .i64 ((l.length : Nat))), (17, .int .i64 (((i1 + 1 : Nat) : Int)))] rfl).elim fun x' hx => ⟨r5 - 1, kO, i1 + 1, x', hx, kO, (hf1.trans (eqlS_yes bA l k i1 hlt1 hlu1 hg28)), H32.pick [] kD rfl⟩
    ·refine aA ?_
     refine op_callF rfl rfl Try.call53 (vs := #[.agg (List.toArray cse10), .agg (List.toArray cse11)]) rfl rfl rfl (retb (eqc_Channel (l[i1]) (k[i1]) _ _ _ (K_upd Ha26.1 hKe10) (K_upd Ha26.1 hKe11)) (eq_false_of_ne_true hg28)) ?_
     rintro e35 W34 ⟨rfl, hu33⟩; refine ⟨_, rfl, ?_⟩
     have H36 := Ha26.no hu33; clear Ha26
     refine aA ?_
     refine aB rfl (rn_not rfl) rfl rfl ?_
     refine aH ?_
     refine aI ?_
     refine dO rfl ?_
     refine wp_seq ?_
     refine aK [0] rfl ?_
     refine aA ?_
     refine aB rfl (aG rfl) rfl rfl ?_
     refine aH ?_
     refine aI ?_
     refine wp_ret ?_
     refine inB_r ?_
     refine bV ?_
     refine bV ?_
     refine inB_r ?_
     refine bV ?_
     have hz37 : dB bA l k = false := hf1.trans (eqlS_no bA l k i1 hlt1 hlu1 (eq_false_of_ne_true hg28))
     have hr38 : dB bA l k = false := by simp [hg28, hz37]
     refine aV (.inl rfl) Try.results52 rfl ?_
     rw [hr38]
     exact ⟨rfl, H36.1⟩
   ·have hd1 : dB bA l k = true := hf1.trans (eqlS_end bA l k i1 kO kO)
    refine wp_exit ?_
    refine bR ?_
    refine bR ?_
    refine inB_x ?_
    refine aI ?_
    refine wp_seq ?_
    refine aK [0] rfl ?_
    refine aA ?_
    refine aB rfl (aG rfl) rfl rfl ?_
    refine aH ?_
    refine aI ?_
    refine wp_ret ?_
    have hr39 : dB bA l k = true := by simp [hd1]
    refine aV (.inl rfl) Try.results52 rfl ?_
    rw [hr39]
    exact ⟨rfl, H8.1⟩
theorem fI (l k : List GChannel) (A A' : Option Addr) (c c' : Nat) (w : World) (h : C aC w A l) (h' : C aC w A' k) : Calls Try.prog 10 #[.slice A l.length c, .slice A' k.length c'] w (dU (dB bA l k) w) := by
 have nx := h.1
 refine enter 8 [(0, .slice A l.length c), (1, .slice A' k.length c')] Try.func10 rfl kR ?_
 intro xj
 have H1 : St w No [] w := St.enter
 refine wp_seq ?_
 refine aK [0] rfl ?_
 refine aA ?_
 refine aB rfl (aG rfl) rfl rfl ?_
 refine aH ?_
 refine aI ?_
 refine wp_seq ?_
 refine aK [0, 1, 2, 3] rfl ?_
 refine aA ?_
 refine aB rfl (aD rfl) rfl rfl ?_
 refine aA ?_
 refine aB rfl (aD rfl) rfl rfl ?_
 by_cases hg2 : (dB bA l k) = true
 ·refine aA ?_
  refine aN rfl Try.call52 (vs := #[.slice A l.length c, .slice A' k.length c', .func (.func 53) #[] #[]]) rfl rfl rfl (retb (eqF_Channel l k _ _ _ _ _ (bQ H1.1 h) (bQ H1.1 h')) hg2) ?_
  rintro e5 W4 ⟨rfl, hu3⟩; refine ⟨_, rfl, ?_⟩
  have H6 := H1.no hu3; clear H1
  refine aA ?_
  refine aB rfl (aG rfl) rfl rfl ?_
  refine aH ?_
  refine aI ?_
  refine wp_ret ?_
  have hr7 : dB bA l k = true := by first | simp [hg2] | simp [hg2]
  refine aV (.inl rfl) Try.results10 rfl ?_
  rw [hr7]
  exact ⟨rfl, H6.1⟩
 ·refine aA ?_
  refine aN rfl Try.call52 (vs := #[.slice A l.length c, .slice A' k.length c', .func (.func 53) #[] #[]]) rfl rfl rfl (retb (eqF_Channel l k _ _ _ _ _ (bQ H1.1 h) (bQ H1.1 h')) (eq_false_of_ne_true hg2)) ?_
  rintro e10 W9 ⟨rfl, hu8⟩; refine ⟨_, rfl, ?_⟩
  have H11 := H1.no hu8; clear H1
  refine aA ?_
  refine aB rfl (aG rfl) rfl rfl ?_
  refine aH ?_
  refine aI ?_
  refine wp_ret ?_
  have hr12 : dB bA l k = false := by first | simp [hg2] | simp [hg2]
  refine aV (.inl rfl) Try.results10 rfl ?_
  rw [hr12]
  exact ⟨rfl, H11.1⟩
theorem eqb_Wire_rfl (x : GWire) : bO x x = true := by simp [bO]
theorem eqb_Tag_rfl (x : GTag) : eqb_Tag x x = true := by simp [eqb_Tag]
theorem eqb_Message_rfl (x : GMessage) : aT x x = true := by simp [aT, eqb_Wire_rfl, eqb_Tag_rfl, eqlS_rfl]
theorem eqb_Channel_rfl (x : GChannel) : bA x x = true := by simp [bA, eqb_Message_rfl, eqlS_rfl]
theorem chs_rfl (l : List GChannel) : dB bA l l = true := eqlS_rfl _ eqb_Channel_rfl l
theorem fidx_set {α : Type} (p : α → Bool) (y : α) : ∀ (l : List α) (k : Nat) (h : k < l.length) (j : Int), p y = p l[k] → fidx p j (l.set k y) = fidx p j l
 | [], _, h, _, _ => (Nat.not_lt_zero _ h).elim
 | x :: r, 0, _, j, e => by
  have e2 : p y = p x := e
  show fidx p j (y :: r) = fidx p j (x :: r)
  unfold fidx
  rw [e2]
 | x :: r, k + 1, h, j, e => by
  show (if p x then j else fidx p (j + 1) (r.set k y)) = (if p x then j else fidx p (j + 1) r)
  rw [fidx_set p y r k (Nat.lt_of_succ_lt_succ h) (j + 1) e]
theorem ptB_true (a b : Int) (m : GMessage) (X : List GChannel) (h : ptB a b m X = true) : ∃ (k : Nat) (f t : Int) (ml : List GMessage) (hk : k < X.length), fidx (chP a b) 0 X = k ∧ X[k] = ⟨f, t, ml⟩ ∧ ml.length < 200 ∧ ptL a b m X = X.set k ⟨f, t, (ml ++ [m]).drop 0⟩ := by
 rcases eB (chP a b) X with hf | ⟨k, hk, hf⟩
 ·rw [(pt_no a b m X hf).2] at h
  cases h
 ·by_cases h2 : 200 ≤ X[k].List.length
  ·rw [(pt_full a b m X k hk hf _ _ _ rfl h2).2] at h
   cases h
  ·exact ⟨k, X[k].From, X[k].To, X[k].List, hk, hf, rfl, Nat.lt_of_not_le h2, (pt_yes a b m X k hk hf X[k].From X[k].To X[k].List rfl (Nat.lt_of_not_le h2)).1⟩
theorem ch_at (a b : Int) (X : List GChannel) (k : Nat) (hk : k < X.length) (hf : fidx (chP a b) 0 X = k) (f t : Int) (ml L : List GMessage) (hx : X[k] = ⟨f, t, ml⟩) : fidx (chP a b) 0 (X.set k ⟨f, t, L⟩) = k := by
 rw [fidx_set (chP a b) _ X k hk 0 (by rw [hx]; rfl), hf]
theorem mt_set (a b : Int) (X : List GChannel) (k : Nat) (hk : k < X.length) (hf : fidx (chP a b) 0 X = k) (f t : Int) (ml L : List GMessage) (hx : X[k] = ⟨f, t, ml⟩) : mtO a b (X.set k ⟨f, t, L⟩) = L := by
 rw [mt_yes a b _ k (by rw [List.length_set]; exact hk) (ch_at a b X k hk hf f t ml L hx), List.getElem_set_self]
theorem mt_x (a b : Int) (X : List GChannel) (k : Nat) (hk : k < X.length) (hf : fidx (chP a b) 0 X = k) (f t : Int) (ml : List GMessage) (hx : X[k] = ⟨f, t, ml⟩) : mtO a b X = ml := by
 rw [mt_yes a b X k hk hf, hx]
theorem tk_set (a b : Int) (X : List GChannel) (k : Nat) (hk : k < X.length) (hf : fidx (chP a b) 0 X = k) (f t : Int) (ml : List GMessage) (hx : X[k] = ⟨f, t, ml⟩) (q : List GMessage) (i : Nat) (hi : i < q.length) :
 tkL a b (X.set k ⟨f, t, q.drop i⟩) = X.set k ⟨f, t, q.drop (i + 1)⟩ ∧ tkM a b (X.set k ⟨f, t, q.drop i⟩) = q[i] ∧ tkB a b (X.set k ⟨f, t, q.drop i⟩) = true := by
 have h := tk_yes a b (X.set k ⟨f, t, q.drop i⟩) k (by rw [List.length_set]; exact hk) (ch_at a b X k hk hf f t ml _ hx) f t q[i] (q.drop (i + 1)) (by rw [List.getElem_set_self, List.drop_eq_getElem_cons hi])
 rw [List.set_set] at h
 exact h
theorem cf_set (y : GChannel) : ∀ (X : List GChannel) (k : Nat) (hk : k < X.length), cfN (X.set k y) + X[k].List.length = cfN X + y.List.length
 | [], _, h => (Nat.not_lt_zero _ h).elim
 | x :: r, 0, _ => by
  show y.List.length + cfN r + x.List.length = x.List.length + cfN r + y.List.length
  omega
 | x :: r, k + 1, h => by
  have q := cf_set y r k (Nat.lt_of_succ_lt_succ h)
  show x.List.length + cfN (r.set k y) + (r[k]'(Nat.lt_of_succ_lt_succ h)).List.length = x.List.length + cfN r + y.List.length
  omega
theorem cf_le : ∀ X : List GChannel, cfN X ≤ dI aL X
 | [] => Nat.le_refl _
 | x :: r => by
  have h := cf_le r
  show x.List.length + cfN r ≤ aL x + dI aL r
  have h2 : aL x = x.List.length + dI aQ x.List := rfl
  omega
theorem clr_sz (a b : Int) (x : GChannel) : aL (clr a b x) ≤ aL x := by
 unfold clr
 split
 ·show 0 ≤ _
  exact Nat.zero_le _
 ·exact Nat.le_refl _
theorem clA_bd (a b : Int) : ∀ X : List GChannel, bJ aL (clA a b X) ≤ bJ aL X
 | [] => Nat.le_refl _
 | x :: r => by
  have h := clA_bd a b r
  have h2 := clr_sz a b x
  unfold clA bJ at h ⊢
  rw [List.map_cons, List.length_cons, List.length_cons]
  show _ + (aL (clr a b x) + dI aL (r.map (clr a b))) ≤ _ + (aL x + dI aL r)
  omega
theorem fidx_satA {α : Type} (p : α → Bool) : ∀ (l : List α) (j : Int) (k : Nat) (h : k < l.length), 0 ≤ j → fidx p j l = j + k → p l[k] = true
 | [], _, _, h, _, _ => (Nat.not_lt_zero _ h).elim
 | x :: r, j, 0, _, h0, e => by
  show p x = true
  by_cases hp : p x = true
  ·exact hp
  ·unfold fidx at e
   rw [if_neg hp] at e
   rcases fidx_range p r (j + 1) with h | h <;> omega
 | x :: r, j, k + 1, h, h0, e => by
  show p (r[k]'(Nat.lt_of_succ_lt_succ h)) = true
  unfold fidx at e
  by_cases hp : p x = true
  ·rw [if_pos hp] at e
   omega
  ·rw [if_neg hp] at e
   exact fidx_satA p r (j + 1) k (Nat.lt_of_succ_lt_succ h) kO kO
theorem fidx_sat {α : Type} (p : α → Bool) (l : List α) (k : Nat) (h : k < l.length) (e : fidx p 0 l = (k : Int)) : p l[k] = true := fidx_satA p l 0 k h (Int.le_refl 0) kO
theorem mt_nil (a b : Int) (l : List GChannel) (h : ∀ x ∈ l, chP a b x = true → x.List = []) : mtO a b l = [] := by
 rcases eB (chP a b) l with hf | ⟨k, hk, hf⟩
 ·exact mt_no a b l hf
 ·rw [mt_yes a b l k hk hf]
  refine h _ (List.getElem_mem hk) ?_
  have h1 := fidx_sat (chP a b) l k hk hf
  exact h1
theorem clr_nil (a b : Int) (x : GChannel) (h : chP a b (clr a b x) = true ∨ chP b a (clr a b x) = true) : (clr a b x).List = [] := by
 unfold clr at h ⊢
 split
 ·rfl
 ·rename_i hn
  rw [if_neg hn] at h
  simp only [chP, Bool.and_eq_true, decide_eq_true_eq, beq_iff_eq] at h
  exact (hn h).elim
theorem mt_clr (a b : Int) (X : List GChannel) : mtO a b (clA a b X) = [] ∧ mtO b a (clA a b X) = [] := by
 refine ⟨mt_nil a b _ fun x hx hp => ?_, mt_nil b a _ fun x hx hp => ?_⟩
 ·obtain ⟨y, _, rfl⟩ := List.mem_map.1 hx
  exact clr_nil a b y (.inl hp)
 ·obtain ⟨y, _, rfl⟩ := List.mem_map.1 hx
  exact clr_nil a b y (.inr hp)
theorem set_bd2 (X : List GChannel) (f t : Int) (ml L : List GMessage) (m : GMessage) (k : Nat) (hk : k < X.length) (hx : X[k] = ⟨f, t, ml⟩) (h : bJ aL X ≤ 20000) (hm : aQ m ≤ 20) (hL : bJ aQ L ≤ bJ aQ (ml ++ [m])) : bJ aL (X.set k ⟨f, t, L⟩) ≤ 50000 := by
 have h1 := sumS_setB aL ⟨f, t, L⟩ X k
 have h2 := fJ aL X k hk
 rw [hx, show aL (⟨f, t, ml⟩ : GChannel) = bJ aQ ml from rfl] at h2
 rw [show aL (⟨f, t, L⟩ : GChannel) = bJ aQ L from rfl] at h1
 rw [szn_app] at hL
 unfold bJ at h h1 h2 hL ⊢
 rw [List.length_set]
 omega
theorem drop_szn (q : List GMessage) (i : Nat) : bJ aQ (q.drop i) ≤ bJ aQ q := by
 have h : dI aQ (q.take i) + dI aQ (q.drop i) = dI aQ q := by rw [← fO, List.take_append_drop]
 unfold bJ
 rw [List.length_drop]
 omega
theorem eD (l : List GChannel) (a b : Int) (L : List GMessage) (hq : mtO a b l = L) (A : Option Addr) (c : Nat) (w : World) (hC : C aC w A l) (hs : bJ aL l ≤ 4194304) : Calls Try.prog 11 #[.slice A l.length c, .int .i64 a, .int .i64 b] w (eH aF 31 L w) := hq ▸ messagesTo_i l a b A c w hC hs
theorem takeMessage_q (l l' : List GChannel) (a b : Int) (m' : GMessage) (hq : tkL a b l = l' ∧ tkM a b l = m' ∧ tkB a b l = true) (A : Option Addr) (c : Nat) (w : World) (hC : C aC w A l) (hs : bJ aL l ≤ 1048576) : Calls Try.prog 12 #[.slice A l.length c, .int .i64 a, .int .i64 b] w (RetTk aC 94 l' aF m' true w) := by
 obtain ⟨rfl, rfl, h⟩ := hq
 rw [← h]
 exact takeMessage_I l a b A c w hC hs
theorem countFlight_q (l : List GChannel) (A : Option Addr) (c : Nat) (w : World) (hC : C aC w A l) (hb : bJ aL l ≤ 1048576) : Calls Try.prog 14 #[.slice A l.length c] w (RetInt ((cfN l : Nat) : Int) w) :=
 countFlight_i l A c w hC (by unfold bJ at hb; omega) (by have := cf_le l; unfold bJ at hb; omega)
theorem last_eq (ml : List GMessage) (m : GMessage) (i : Nat) (h : i < (ml ++ [m]).length) (e : i = ml.length) : (ml ++ [m])[i] = m := by
 subst e
 simp
theorem big_s (A : Option Addr) (n c : Nat) (w : World) : Calls Try.prog 6 #[.slice A n c] w (dU (decide ((1048576 : Int) < (n : Nat))) w) := by
 refine enter 6 [(0, .slice A n c)] Try.func6 rfl kR ?_
 intro xj
 have H1 : St w No [] w := St.enter
 refine wp_seq ?_
 refine aK [0] rfl ?_
 refine aA ?_
 refine aB rfl (aG rfl) rfl rfl ?_
 refine aH ?_
 refine aI ?_
 refine wp_seq ?_
 refine aK [0, 1, 2, 3] rfl ?_
 refine aA ?_
 refine aB rfl (aD rfl) rfl rfl ?_
 refine aA ?_
 refine aB rfl (bT Try.runUnderlying22 rfl) rfl rfl ?_
 refine aA ?_
 refine aB rfl (rn_gtr rfl rfl) rfl rfl ?_
 refine aA ?_
 refine aB rfl (aG rfl) rfl rfl ?_
 refine aH ?_
 refine aI ?_
 refine wp_ret ?_
 refine aV (.inl rfl) Try.results6 rfl ?_
 exact ⟨rfl, H1.1⟩
theorem law_FnNetwork (w : World) (bs : List Int) (A : Option Addr) (cb : Nat) (hC : C Kn.u8 w A bs) (hlc : bs.length ≤ cb) (hG : bs.length ≤ 9223372036854775807 ∧ ∀ y ∈ bs, (Lit.int .u8 y).wf = true) : Calls Try.prog 3 #[.slice A bs.length cb] w (dU true w) := by
 refine enter 125 [(0, .slice A bs.length cb)] Try.func3 rfl kR ?_
 intro xj
 have H1 : St w No [] w := St.enter
 refine wp_seq ?_
 refine aK [0] rfl ?_
 refine aA ?_
 refine aB rfl (aG rfl) rfl rfl ?_
 refine aH ?_
 refine aI ?_
 refine wp_seq ?_
 refine wp_seq ?_
 refine aK [0, 1] rfl ?_
 refine aA ?_
 refine aB rfl (aD rfl) rfl rfl ?_
 refine aA ?_
 refine aN rfl Try.call6 (vs := #[.slice A bs.length cb]) rfl rfl rfl (big_s _ _ _ _) ?_
 rintro e4 W3 ⟨rfl, hu2⟩; refine ⟨_, rfl, ?_⟩
 have H5 := H1.no hu2; clear H1
 refine aH ?_
 refine aI ?_
 refine bL rfl (fun hc6 => ?_) (fun hc6 => ?_)
 ·refine wp_seq ?_
  refine aK [0] rfl ?_
  refine aA ?_
  refine aB rfl (aG rfl) rfl rfl ?_
  refine aH ?_
  refine aI ?_
  refine wp_ret ?_
  refine bV ?_
  refine aV (.inl rfl) Try.results3 rfl ?_
  exact ⟨rfl, H5.1⟩
 ·have hn : bs.length ≤ 1048576 := by omega
  refine wp_skip ?_
  refine aI ?_
  refine wp_seq ?_
  refine aK [0, 1, 2, 3, 4, 5, 6, 7, 8, 9, 10, 11] rfl ?_
  refine aA ?_
  refine aB rfl (aD rfl) rfl rfl ?_
  refine aA ?_
  refine aN rfl Try.call7 (vs := #[.slice A bs.length cb]) rfl rfl rfl (drawPut_s bs cb A _ (bQ H5.1 hC) hn) ?_
  rintro e10 W9 ⟨B0, c0, X, a, b, m, cs0, rfl, ⟨hX, hm⟩, hst7, hu8⟩; refine ⟨_, rfl, ?_⟩
  have H11 := H5.news hu8 hst7; clear H5
  refine aA ?_
  refine aB rfl (aD rfl) rfl rfl ?_
  refine aA ?_
  refine aB rfl (bU (v := .slice B0 X.length c0) rfl rfl) rfl rfl ?_
  refine aA ?_
  refine aB rfl (bU (v := .int .i64 (a)) rfl rfl) rfl rfl ?_
  refine aA ?_
  refine aB rfl (bU (v := .int .i64 (b)) rfl rfl) rfl rfl ?_
  refine aA ?_
  refine aB rfl (bU (v := .agg (List.toArray cs0)) rfl rfl) rfl rfl ?_
  refine aA ?_
  refine bW rfl Try.zeroValue31 rfl rfl H11 ?_
  intro g_3_7 W12 hu13 Ha14; clear H11; clear hu13
  refine aA ?_
  refine aB rfl (aG rfl) rfl rfl ?_
  refine aA ?_
  refine aB rfl (aG rfl) rfl rfl ?_
  refine aA ?_
  refine aB rfl (aG rfl) rfl rfl ?_
  refine aA ?_
  refine bE rfl Try.sizeOf31 rfl rfl (aX (Ha14.kn 2 rfl)) rfl (bS (Ha14.kn 2 rfl)) Ha14 ?_
  intro W16 hu17 Ha18; clear Ha14; clear hu17
  refine aH ?_
  refine aI ?_
  refine wp_seq ?_
  refine aK [0, 1, 2, 3, 4, 5, 6, 7, 8, 9] rfl ?_
  refine aA ?_
  refine aB rfl (aD rfl) rfl rfl ?_
  refine aA ?_
  refine aB rfl (aD rfl) rfl rfl ?_
  refine aA ?_
  refine aB rfl (aD rfl) rfl rfl ?_
  refine aA ?_
  refine aB rfl (cB Try.isAgg31 Try.sizeOf31 rfl (Ha18.blk 0 rfl) (aX (Ha18.kn 2 rfl))) rfl rfl ?_
  refine aA ?_
  refine aN rfl Try.call8 (vs := #[.slice B0 X.length c0, .int .i64 (a), .int .i64 (b), .agg (List.toArray cs0)]) rfl rfl rfl (putMessage_I X a b m _ _ _ _ (Ha18.rowC 1 rfl) kO (Ha18.kn 2 rfl) kO) ?_
  rintro e23 W22 ⟨B_4_4, c_4_4, rfl, hst20, hu21⟩; refine ⟨_, rfl, ?_⟩
  have H24 := Ha18.news hu21 hst20; clear Ha18
  refine aA ?_
  refine aB rfl (aD rfl) rfl rfl ?_
  refine aA ?_
  refine aB rfl (bU (v := .slice B_4_4 ((ptL a b m X).length) c_4_4) rfl rfl) rfl rfl ?_
  refine aA ?_
  refine aB rfl (bU (v := .bool ((ptB a b m X))) rfl rfl) rfl rfl ?_
  refine aA ?_
  refine aB rfl (aG rfl) rfl rfl ?_
  refine aA ?_
  refine aB rfl (aG rfl) rfl rfl ?_
  refine aH ?_
  refine aI ?_
  refine wp_seq ?_
  refine aK [0, 1, 2, 3, 4, 5, 6, 7, 8, 9] rfl ?_
  refine aA ?_
  refine aB rfl (aD rfl) rfl rfl ?_
  refine aA ?_
  refine aB rfl (aD rfl) rfl rfl ?_
  refine aA ?_
  refine aB rfl (aD rfl) rfl rfl ?_
  refine aA ?_
  refine aB rfl (cB Try.isAgg31 Try.sizeOf31 rfl (H24.blk 1 rfl) (aX (H24.kn 3 rfl))) rfl rfl ?_
  refine aA ?_
  refine aN rfl Try.call9 (vs := #[.slice B0 X.length c0, .int .i64 (a), .int .i64 (b), .agg (List.toArray cs0)]) rfl rfl rfl (putMessage_S X a b m _ _ _ _ (H24.rowC 2 rfl) kO (H24.kn 3 rfl) kO) ?_
  rintro e28 W27 ⟨B_5_4, c_5_4, rfl, hst25, hu26⟩; refine ⟨_, rfl, ?_⟩
  have H29 := H24.news hu26 hst25; clear H24
  refine aA ?_
  refine aB rfl (aD rfl) rfl rfl ?_
  refine aA ?_
  refine aB rfl (bU (v := .slice B_5_4 ((ptL a b m X).length) c_5_4) rfl rfl) rfl rfl ?_
  refine aA ?_
  refine aB rfl (bU (v := .bool ((ptB a b m X))) rfl rfl) rfl rfl ?_
  refine aA ?_
  refine aB rfl (aG rfl) rfl rfl ?_
  refine aA ?_
  refine aB rfl (aG rfl) rfl rfl ?_
  refine aH ?_
  refine aI ?_
  refine wp_seq ?_
  refine wp_seq ?_
  refine aK [0, 1, 2, 3, 4, 5, 6, 7, 8] rfl ?_
  refine aA ?_
  refine aB rfl (aD rfl) rfl rfl ?_
  refine aA ?_
  refine aB rfl (aD rfl) rfl rfl ?_
  refine aA ?_
  refine aB rfl (rn_neqB Try.runUnderlying4 rfl rfl) rfl rfl ?_
  refine aA ?_
  refine aB rfl (aD rfl) rfl rfl ?_
  refine aA ?_
  refine aU rfl rfl rfl rfl (fun _ ho30 => ?_)
  refine aB ho30 (aD rfl) rfl rfl ?_
  refine aA ?_
  refine aU rfl rfl rfl rfl (fun _ ho31 => ?_)
  refine aB ho31 (aD rfl) rfl rfl ?_
  refine aA ?_
  refine aU rfl rfl rfl rfl (fun _ ho32 => ?_)
  refine aN ho32 Try.call10 (vs := #[.slice B_4_4 ((ptL a b m X).length) c_4_4, .slice B_5_4 ((ptL a b m X).length) c_5_4]) rfl rfl rfl (retb (fI (ptL a b m X) (ptL a b m X) _ _ _ _ _ (H29.rowC 1 rfl) (H29.rowC 0 rfl)) (chs_rfl _)) ?_
  rintro e35 W34 ⟨rfl, hu33⟩; refine ⟨_, rfl, ?_⟩
  have H36 := H29.no hu33; clear H29
  refine aA ?_
  refine aU rfl rfl rfl rfl (fun _ ho37 => ?_)
  refine aB ho37 (rn_not rfl) rfl rfl ?_
  refine aA ?_
  refine aB rfl (aP (v := .bool (false)) (b := false) rfl rfl rfl rfl) rfl rfl ?_
  refine aH ?_
  refine aI ?_
  refine dA rfl ?_
  refine wp_skip ?_
  refine aI ?_
  refine wp_seq ?_
  refine wp_seq ?_
  refine aK [0] rfl ?_
  refine aA ?_
  refine aB rfl (aD rfl) rfl rfl ?_
  refine aH ?_
  refine aI ?_
  refine cond_b (b := (ptB a b m X)) rfl (fun hc38 => ?_) (fun hc38 => ?_)
  ·have H39 : St w No [hR aC 94 (.slice B_4_4 ((ptL a b m X).length) c_4_4) (ptL a b m X), hB g_3_7 31 (List.toArray cs0), hR aC 94 (.slice B0 X.length c0) X, hM aF m cs0] W34 := H36.pick [1, 2, 3, 4] kD rfl; clear H36
   obtain ⟨k, f, t, ml, hk, hf, hx, h2, hpt⟩ := ptB_true _ _ _ _ hc38
   have e40 : (X.set k ⟨f, t, (ml ++ [m]).drop 0⟩) = (ptL a b m X) := hpt.symm
   rw [← e40] at H39 ⊢
   refine wp_seq ?_
   refine aK [0, 1, 2, 3, 4, 5] rfl ?_
   refine aA ?_
   refine aB rfl (aD rfl) rfl rfl ?_
   refine aA ?_
   refine aB rfl (aD rfl) rfl rfl ?_
   refine aA ?_
   refine aB rfl (aD rfl) rfl rfl ?_
   refine aA ?_
   refine aN rfl Try.call11 (vs := #[.slice B0 X.length c0, .int .i64 (a), .int .i64 (b)]) rfl rfl rfl (eD X a b ml (mt_x a b X k hk hf f t ml hx) _ _ _ (H39.rowC 2 rfl) (Nat.le_trans hX kD)) ?_
   rintro e45 W44 ⟨v41, rfl, hR42, hu43⟩; refine ⟨_, rfl, ?_⟩
   obtain ⟨B_9_3, c_9_3, rfl⟩ := bK hR42
   have H46 := H39.new (q := hR aF 31 (.slice B_9_3 ml.length c_9_3) ml) hu43 hR42; clear H39
   refine aA ?_
   refine aB rfl (bT Try.runUnderlying37 rfl) rfl rfl ?_
   refine aA ?_
   refine aB rfl (aG rfl) rfl rfl ?_
   refine aH ?_
   refine aI ?_
   refine wp_seq ?_
   refine aK [0, 1, 2] rfl ?_
   refine aA ?_
   refine aB rfl (cK (vs := []) (cells := #[.int .i64 (0), .int .i64 (0), .int .i64 (0), .int .i64 (0), .string (⟨#[]⟩), .slice none 0 0, .int .i64 (0), .int .i64 (0), .int .i64 (0), .int .i64 (0), .int .i64 (0), .int .i64 (0)]) rfl kR) rfl rfl ?_
   refine aA ?_
   refine bW rfl Try.zeroValue31 rfl rfl H46 ?_
   intro g_10_1 W47 hu48 Ha49; clear H46; clear hu48
   refine aA ?_
   refine bE rfl Try.sizeOf31 rfl rfl rfl rfl kS Ha49 ?_
   intro W51 hu52 Ha53; clear Ha49; clear hu52
   refine aH ?_
   refine aI ?_
   refine wp_seq ?_
   refine wp_seq ?_
   refine aK [0] rfl ?_
   refine aA ?_
   refine aB rfl (aG rfl) rfl rfl ?_
   refine aH ?_
   refine aI ?_
   refine wp_block ?_
   have H55 : St w No [hR aR 27 (.slice none 0 0) ([]), hB g_10_1 31 #[.int .i64 (0), .int .i64 (0), .int .i64 (0), .int .i64 (0), .string (⟨#[]⟩), .slice none 0 0, .int .i64 (0), .int .i64 (0), .int .i64 (0), .int .i64 (0), .int .i64 (0), .int .i64 (0)], hR aF 31 (.slice B_9_3 ml.length c_9_3) ml, hR aC 94 (.slice B_4_4 ((X.set k ⟨f, t, (ml ++ [m]).drop 0⟩).length) c_4_4) (X.set k ⟨f, t, (ml ++ [m]).drop 0⟩), hB g_3_7 31 (List.toArray cs0), hR aC 94 (.slice B0 X.length c0) X, hM aF m cs0] W51 := Ha53.add0 (q := hR aR 27 (.slice none 0 0) []) R_nil; clear Ha53
   have H56 : St w No [hM aF cO [.int .i64 (0), .int .i64 (0), .int .i64 (0), .int .i64 (0), .string (⟨#[]⟩), .slice none 0 0, .int .i64 (0), .int .i64 (0), .int .i64 (0), .int .i64 (0), .int .i64 (0), .int .i64 (0)], hB g_10_1 31 #[.int .i64 (0), .int .i64 (0), .int .i64 (0), .int .i64 (0), .string (⟨#[]⟩), .slice none 0 0, .int .i64 (0), .int .i64 (0), .int .i64 (0), .int .i64 (0), .int .i64 (0), .int .i64 (0)], hR aF 31 (.slice B_9_3 ml.length c_9_3) ml, hR aC 94 (.slice B_4_4 ((X.set k ⟨f, t, (ml ++ [m]).drop 0⟩).length) c_4_4) (X.set k ⟨f, t, (ml ++ [m]).drop 0⟩), hB g_3_7 31 (List.toArray cs0), hR aC 94 (.slice B0 X.length c0) X, hM aF m cs0] W51 := H55.swap (l0 := [hR aR 27 (.slice none 0 0) ([])]) (l' := [hM aF cO [.int .i64 (0), .int .i64 (0), .int .i64 (0), .int .i64 (0), .string (⟨#[]⟩), .slice none 0 0, .int .i64 (0), .int .i64 (0), .int .i64 (0), .int .i64 (0), .int .i64 (0), .int .i64 (0)]]) (fun _ h => Star.one (bN (x := cO) h)); clear H55
   refine wp_loop_ghost (fun r a' W' => ∃ (i : Nat) (mm : GMessage) (csm : List Value) (AY : Option Addr) (cY : Nat) (x' : Nat → Value), a' = aO 125 x' [(0, .slice A bs.length cb), (3, .slice B0 X.length c0), (4, .int .i64 (a)), (5, .int .i64 (b)), (6, .pointer (some ⟨g_3_7, 0, none⟩)), (7, .slice AY ((X.set k ⟨f, t, (ml ++ [m]).drop i⟩).length) cY), (11, .int .i64 ((ml.length : Nat))), (12, .pointer (some ⟨g_10_1, 0, none⟩)), (13, .int .i64 (((i : Nat) : Int)))] ∧ (i + r = ml.length + 1) ∧ (i = ml.length + 1 → mm = m) ∧ St w No [hR aC 94 (.slice AY ((X.set k ⟨f, t, (ml ++ [m]).drop i⟩).length) cY) (X.set k ⟨f, t, (ml ++ [m]).drop i⟩), hM aF mm csm, hB g_10_1 31 (List.toArray csm), hB g_3_7 31 (List.toArray cs0), hR aC 94 (.slice B0 X.length c0) X, hM aF m cs0] W') (ml.length + 1) ?_ ?_
   ·exact (aW [(0, .slice A bs.length cb), (3, .slice B0 X.length c0), (4, .int .i64 (a)), (5, .int .i64 (b)), (6, .pointer (some ⟨g_3_7, 0, none⟩)), (7, .slice B_4_4 ((X.set k ⟨f, t, (ml ++ [m]).drop 0⟩).length) c_4_4), (11, .int .i64 ((ml.length : Nat))), (12, .pointer (some ⟨g_10_1, 0, none⟩)), (13, .int .i64 (((0 : Nat) : Int)))] rfl).elim fun x' hx => ⟨0, cO, [.int .i64 (0), .int .i64 (0), .int .i64 (0), .int .i64 (0), .string (⟨#[]⟩), .slice none 0 0, .int .i64 (0), .int .i64 (0), .int .i64 (0), .int .i64 (0), .int .i64 (0), .int .i64 (0)], B_4_4, c_4_4, x', hx, kO, (fun h => absurd h kO), H56.pick [3, 0, 1, 4, 5, 6] kD rfl⟩
   ·rintro r57 _ W58 ⟨i, mm, csm, AY, cY, x59, rfl, hi, hlast, H60⟩; clear H56
    refine wp_seq ?_
    refine wp_seq ?_
    refine aK [0, 1, 2] rfl ?_
    refine aA ?_
    refine aB rfl (aD rfl) rfl rfl ?_
    refine aA ?_
    refine aB rfl (aD rfl) rfl rfl ?_
    refine aA ?_
    refine aB rfl (eX rfl rfl) rfl rfl ?_
    refine aH ?_
    refine aI ?_
    refine bL rfl (fun hc61 => ?_) (fun hc61 => ?_)
    ·have hlt : i < (ml ++ [m]).length := by rw [List.length_append]; show i < ml.length + 1; omega
     refine wp_skip ?_
     refine aI ?_
     refine wp_seq ?_
     refine wp_block ?_
     refine wp_seq ?_
     refine aK [0, 1, 2, 3, 4, 5, 6, 7, 8, 9, 10, 11] rfl ?_
     refine aA ?_
     refine aB rfl (aD rfl) rfl rfl ?_
     refine aA ?_
     refine aB rfl (aD rfl) rfl rfl ?_
     refine aA ?_
     refine aB rfl (aD rfl) rfl rfl ?_
     refine aA ?_
     refine aN rfl Try.call12 (vs := #[.slice AY ((X.set k ⟨f, t, (ml ++ [m]).drop i⟩).length) cY, .int .i64 (a), .int .i64 (b)]) rfl rfl rfl (takeMessage_q (X.set k ⟨f, t, (ml ++ [m]).drop i⟩) (X.set k ⟨f, t, (ml ++ [m]).drop (i + 1)⟩) a b ((ml ++ [m])[i]'hlt) (tk_set a b X k hk hf f t ml hx (ml ++ [m]) i hlt) _ _ _ (H60.rowC 0 rfl) (Nat.le_trans (set_bd2 X f t ml _ m k hk hx hX hm (drop_szn (ml ++ [m]) i)) kD)) ?_
     rintro e65 W64 ⟨B_14_3, c_14_3, cs_14_3, rfl, hst62, hu63⟩; refine ⟨_, rfl, ?_⟩
     have H66 := H60.news hu63 hst62; clear H60
     refine aA ?_
     refine aB rfl (aD rfl) rfl rfl ?_
     refine aA ?_
     refine aB rfl (bU (v := .slice B_14_3 ((X.set k ⟨f, t, (ml ++ [m]).drop (i + 1)⟩).length) c_14_3) rfl rfl) rfl rfl ?_
     refine aA ?_
     refine aB rfl (bU (v := .agg (List.toArray cs_14_3)) rfl rfl) rfl rfl ?_
     refine aA ?_
     refine aB rfl (bU (v := .bool (true)) rfl rfl) rfl rfl ?_
     refine aA ?_
     refine bW rfl Try.zeroValue31 rfl rfl H66 ?_
     intro g_14_8 W67 hu68 Ha69; clear H66; clear hu68
     refine aA ?_
     refine aB rfl (aG rfl) rfl rfl ?_
     refine aA ?_
     refine bE rfl Try.sizeOf31 rfl rfl (aX (Ha69.kn 2 rfl)) rfl (bS (Ha69.kn 2 rfl)) Ha69 ?_
     intro W71 hu72 Ha73; clear Ha69; clear hu72
     refine aA ?_
     refine aB rfl (aG rfl) rfl rfl ?_
     refine aH ?_
     refine aI ?_
     refine wp_seq ?_
     refine wp_seq ?_
     refine aK [0, 1] rfl ?_
     refine aA ?_
     refine aB rfl (aD rfl) rfl rfl ?_
     refine aA ?_
     refine aB rfl (rn_not rfl) rfl rfl ?_
     refine aH ?_
     refine aI ?_
     refine dA rfl ?_
     refine wp_skip ?_
     refine aI ?_
     refine wp_seq ?_
     refine aK [0, 1] rfl ?_
     refine aA ?_
     refine aB rfl (aD rfl) rfl rfl ?_
     refine aA ?_
     refine aB rfl (aG rfl) rfl rfl ?_
     refine aH ?_
     refine aI ?_
     refine aK [0, 1] rfl ?_
     refine aA ?_
     refine aB rfl (cB Try.isAgg31 Try.sizeOf31 rfl (Ha73.blk 0 rfl) (aX (Ha73.kn 2 rfl))) rfl rfl ?_
     refine aA ?_
     have H78 : St w No [hB g_10_1 31 (List.toArray csm), hB g_14_8 31 (List.toArray cs_14_3), hR aC 94 (.slice B_14_3 ((X.set k ⟨f, t, (ml ++ [m]).drop (i + 1)⟩).length) c_14_3) (X.set k ⟨f, t, (ml ++ [m]).drop (i + 1)⟩), hM aF ((ml ++ [m])[i]'hlt) cs_14_3, hR aC 94 (.slice AY ((X.set k ⟨f, t, (ml ++ [m]).drop i⟩).length) cY) (X.set k ⟨f, t, (ml ++ [m]).drop i⟩), hM aF mm csm, hB g_3_7 31 (List.toArray cs0), hR aC 94 (.slice B0 X.length c0) X, hM aF m cs0] W71 := Ha73.pick [5, 0, 1, 2, 3, 4, 6, 7, 8] kD rfl; clear Ha73
     refine bE rfl Try.sizeOf31 rfl rfl (aX (H78.kn 3 rfl)) (aX (H78.kn 5 rfl)) (bS (H78.kn 3 rfl)) H78 ?_
     intro W75 hu76 Ha77; clear H78; clear hu76
     refine aH ?_
     refine dW ?_
     refine aI ?_
     refine aK [0, 1, 2] rfl ?_
     refine aA ?_
     refine aB rfl (aD rfl) rfl rfl ?_
     refine aA ?_
     refine aB rfl (dP (k := i) rfl rfl kO) rfl rfl ?_
     refine aA ?_
     refine aB rfl (aG rfl) rfl rfl ?_
     refine aH ?_
     refine aI ?_
     exact (aW [(0, .slice A bs.length cb), (3, .slice B0 X.length c0), (4, .int .i64 (a)), (5, .int .i64 (b)), (6, .pointer (some ⟨g_3_7, 0, none⟩)), (7, .slice B_14_3 ((X.set k ⟨f, t, (ml ++ [m]).drop (i + 1)⟩).length) c_14_3), (11, .int .i64 ((ml.length : Nat))), (12, .pointer (some ⟨g_10_1, 0, none⟩)), (13, .int .i64 (((i + 1 : Nat) : Int)))] rfl).elim fun x' hx => ⟨r57 - 1, kO, i + 1, ((ml ++ [m])[i]'hlt), cs_14_3, B_14_3, c_14_3, x', hx, kO, (fun h => last_eq ml m i hlt kO), Ha77.pick [2, 3, 0, 6, 7, 8] kD rfl⟩
    ·have hie : i = ml.length + 1 := by omega
     have hmm := hlast hie
     rw [hmm] at H60
     have hL : (ml ++ [m]).drop i = [] := List.drop_eq_nil_of_le (by rw [List.length_append]; show ml.length + 1 ≤ i; omega)
     have hcf : cfN (X.set k ⟨f, t, (ml ++ [m]).drop i⟩) + ml.length = cfN X := by have h := cf_set (⟨f, t, (ml ++ [m]).drop i⟩ : GChannel) X k hk; rw [hx] at h; have e1 : (⟨f, t, (ml ++ [m]).drop i⟩ : GChannel).List.length = 0 := congrArg List.length hL; have e2 : (⟨f, t, ml⟩ : GChannel).List.length = ml.length := rfl; omega
     have hcX : cfN X ≤ 20000 := by have h := cf_le X; unfold bJ at hX; omega
     refine wp_exit ?_
     refine bR ?_
     refine bR ?_
     refine inB_x ?_
     refine aI ?_
     refine wp_seq ?_
     refine aK [0, 1, 2, 3, 4, 5, 6, 7, 8, 9, 10, 11, 12, 13, 14, 15, 16, 17, 18, 19, 20] rfl ?_
     refine aA ?_
     refine aB rfl (cB Try.isAgg31 Try.sizeOf31 rfl (H60.blk 2 rfl) (aX (H60.kn 1 rfl))) rfl rfl ?_
     refine aA ?_
     refine aB rfl (cB Try.isAgg31 Try.sizeOf31 rfl (H60.blk 3 rfl) (aX (H60.kn 5 rfl))) rfl rfl ?_
     refine aA ?_
     refine aN rfl Try.call13 (vs := #[.agg (List.toArray csm), .agg (List.toArray cs0)]) rfl rfl rfl (retb (equalMessages_i m m _ _ _ (H60.kn 1 rfl) (H60.kn 5 rfl)) (eqb_Message_rfl _)) ?_
     rintro e82 W81 ⟨rfl, hu80⟩; refine ⟨_, rfl, ?_⟩
     have H83 := H60.no hu80; clear H60
     refine aA ?_
     refine aB rfl (rn_not rfl) rfl rfl ?_
     refine aA ?_
     refine aB rfl (aD rfl) rfl rfl ?_
     refine aA ?_
     refine aU rfl rfl rfl rfl (fun _ ho84 => ?_)
     refine aB ho84 (aD rfl) rfl rfl ?_
     refine aA ?_
     refine aU rfl rfl rfl rfl (fun _ ho85 => ?_)
     refine aB ho85 (aD rfl) rfl rfl ?_
     refine aA ?_
     refine aU rfl rfl rfl rfl (fun _ ho86 => ?_)
     refine aB ho86 (aD rfl) rfl rfl ?_
     refine aA ?_
     refine aU rfl rfl rfl rfl (fun _ ho87 => ?_)
     refine aN ho87 Try.call11 (vs := #[.slice AY ((X.set k ⟨f, t, (ml ++ [m]).drop i⟩).length) cY, .int .i64 (a), .int .i64 (b)]) rfl rfl rfl (eD (X.set k ⟨f, t, (ml ++ [m]).drop i⟩) a b [] ((mt_set a b X k hk hf f t ml _ hx).trans hL) _ _ _ (H83.rowC 0 rfl) (Nat.le_trans (set_bd2 X f t ml _ m k hk hx hX hm (drop_szn (ml ++ [m]) i)) kD)) ?_
     rintro e92 W91 ⟨v88, rfl, hR89, hu90⟩; refine ⟨_, rfl, ?_⟩
     obtain ⟨B_19_8, c_19_8, rfl⟩ := bK hR89
     have H93 := H83.new (q := hR aF 31 (.slice B_19_8 0 c_19_8) ([] : List GMessage)) hu90 hR89; clear H83
     refine aA ?_
     refine aU rfl rfl rfl rfl (fun _ ho94 => ?_)
     refine aB ho94 (bT Try.runUnderlying37 rfl) rfl rfl ?_
     refine aA ?_
     refine aU rfl rfl rfl rfl (fun _ ho95 => ?_)
     refine aB ho95 (bH (p := ¬ (0 : Int) = 0) (not_not_intro rfl) (rn_neq (p := 0) (q := 0) rfl rfl)) rfl rfl ?_
     refine aA ?_
     refine aB rfl (aP (v := .bool (false)) (b := false) rfl rfl rfl rfl) rfl rfl ?_
     refine aA ?_
     refine aB rfl (aD rfl) rfl rfl ?_
     refine aA ?_
     refine aU rfl rfl rfl rfl (fun _ ho96 => ?_)
     refine aB ho96 (aD rfl) rfl rfl ?_
     refine aA ?_
     refine aU rfl rfl rfl rfl (fun _ ho97 => ?_)
     refine aN ho97 Try.call14 (vs := #[.slice AY ((X.set k ⟨f, t, (ml ++ [m]).drop i⟩).length) cY]) rfl rfl rfl (countFlight_q (X.set k ⟨f, t, (ml ++ [m]).drop i⟩) _ _ _ (H93.rowC 1 rfl) (Nat.le_trans (set_bd2 X f t ml _ m k hk hx hX hm (drop_szn (ml ++ [m]) i)) kD)) ?_
     rintro e100 W99 ⟨rfl, hu98⟩; refine ⟨_, rfl, ?_⟩
     have H101 := H93.no hu98; clear H93
     refine aA ?_
     refine aU rfl rfl rfl rfl (fun _ ho102 => ?_)
     refine aB ho102 (aD rfl) rfl rfl ?_
     refine aA ?_
     refine aU rfl rfl rfl rfl (fun _ ho103 => ?_)
     refine aN ho103 Try.call14 (vs := #[.slice B0 X.length c0]) rfl rfl rfl (countFlight_q X _ _ _ (H101.rowC 5 rfl) (Nat.le_trans hX kD)) ?_
     rintro e106 W105 ⟨rfl, hu104⟩; refine ⟨_, rfl, ?_⟩
     have H107 := H101.no hu104; clear H101
     refine aA ?_
     refine aU rfl rfl rfl rfl (fun _ ho108 => ?_)
     refine aB ho108 (aD rfl) rfl rfl ?_
     refine aA ?_
     refine aU rfl rfl rfl rfl (fun _ ho109 => ?_)
     refine aB ho109 (rn_sub rfl rfl kO) rfl rfl ?_
     refine aA ?_
     refine aU rfl rfl rfl rfl (fun _ ho110 => ?_)
     refine aB ho110 (bH (p := ¬ (((cfN (X.set k ⟨f, t, (ml ++ [m]).drop i⟩) : Nat) : Int) : Int) = (((cfN X : Nat) : Int) - (ml.length : Nat))) (not_not_intro kO) (rn_neq (p := ((cfN (X.set k ⟨f, t, (ml ++ [m]).drop i⟩) : Nat) : Int)) (q := (((cfN X : Nat) : Int) - (ml.length : Nat))) rfl rfl)) rfl rfl ?_
     refine aA ?_
     refine aB rfl (aP (v := .bool (false)) (b := false) rfl rfl rfl rfl) rfl rfl ?_
     refine aH ?_
     refine aI ?_
     refine dA rfl ?_
     refine wp_skip ?_
     refine aI ?_
     refine wp_seq ?_
     refine aK [0, 1, 2, 3, 4] rfl ?_
     refine aA ?_
     refine aB rfl (aD rfl) rfl rfl ?_
     refine aA ?_
     refine aB rfl (aD rfl) rfl rfl ?_
     refine aA ?_
     refine aB rfl (aD rfl) rfl rfl ?_
     refine aA ?_
     refine aN rfl Try.call15 (vs := #[.slice B0 X.length c0, .int .i64 (a), .int .i64 (b)]) rfl rfl rfl (clearChannel_i X a b _ _ _ (H107.rowC 5 rfl) (Nat.le_trans hX kD)) ?_
     rintro e115 W114 ⟨v111, rfl, hR112, hu113⟩; refine ⟨_, rfl, ?_⟩
     obtain ⟨B_21_3, c_21_3, rfl⟩ := bK hR112
     have H116 := H107.new (q := hR aC 94 (.slice B_21_3 ((clA a b X).length) c_21_3) (clA a b X)) hu113 hR112; clear H107
     refine aA ?_
     refine aB rfl (aG rfl) rfl rfl ?_
     refine aH ?_
     refine aI ?_
     refine wp_seq ?_
     refine aK [0, 1, 2] rfl ?_
     refine aA ?_
     refine aB rfl (aD rfl) rfl rfl ?_
     refine aA ?_
     refine aN rfl Try.call16 (vs := #[.slice A bs.length cb]) rfl rfl rfl (drawAll_s bs cb A _ (bQ H116.1 hC) hn) ?_
     rintro e119 W118 ⟨v, rfl, hu117⟩; refine ⟨_, rfl, ?_⟩
     have H120 := H116.no hu117; clear H116
     refine aA ?_
     refine aB rfl (aG rfl) rfl rfl ?_
     refine aH ?_
     refine aI ?_
     refine wp_seq ?_
     refine aK [0, 1, 2, 3, 4, 5, 6, 7, 8, 9, 10, 11, 12, 13, 14, 15, 16, 17, 18, 19, 20, 21] rfl ?_
     refine aA ?_
     refine aB rfl (aD rfl) rfl rfl ?_
     refine aA ?_
     refine aB rfl (aD rfl) rfl rfl ?_
     refine aA ?_
     refine aB rfl (aD rfl) rfl rfl ?_
     refine aA ?_
     refine aN rfl Try.call11 (vs := #[.slice B_21_3 ((clA a b X).length) c_21_3, .int .i64 (a), .int .i64 (b)]) rfl rfl rfl (eD (clA a b X) a b [] (mt_clr a b X).1 _ _ _ (H120.rowC 0 rfl) (Nat.le_trans (clA_bd a b X) (Nat.le_trans hX kD))) ?_
     rintro e125 W124 ⟨v121, rfl, hR122, hu123⟩; refine ⟨_, rfl, ?_⟩
     obtain ⟨B_23_3, c_23_3, rfl⟩ := bK hR122
     have H126 := H120.new (q := hR aF 31 (.slice B_23_3 0 c_23_3) ([] : List GMessage)) hu123 hR122; clear H120
     refine aA ?_
     refine aB rfl (bT Try.runUnderlying37 rfl) rfl rfl ?_
     refine aA ?_
     refine aB rfl (bG (p := (0 : Int) = 0) rfl (bM (p := 0) (q := 0) rfl rfl)) rfl rfl ?_
     refine aA ?_
     refine aB rfl (aD rfl) rfl rfl ?_
     refine aA ?_
     refine aU rfl rfl rfl rfl (fun _ ho127 => ?_)
     refine aB ho127 (aD rfl) rfl rfl ?_
     refine aA ?_
     refine aU rfl rfl rfl rfl (fun _ ho128 => ?_)
     refine aB ho128 (aD rfl) rfl rfl ?_
     refine aA ?_
     refine aU rfl rfl rfl rfl (fun _ ho129 => ?_)
     refine aB ho129 (aD rfl) rfl rfl ?_
     refine aA ?_
     refine aU rfl rfl rfl rfl (fun _ ho130 => ?_)
     refine aN ho130 Try.call11 (vs := #[.slice B_21_3 ((clA a b X).length) c_21_3, .int .i64 (b), .int .i64 (a)]) rfl rfl rfl (eD (clA a b X) b a [] (mt_clr a b X).2 _ _ _ (H126.rowC 1 rfl) (Nat.le_trans (clA_bd a b X) (Nat.le_trans hX kD))) ?_
     rintro e135 W134 ⟨v131, rfl, hR132, hu133⟩; refine ⟨_, rfl, ?_⟩
     obtain ⟨B_23_10, c_23_10, rfl⟩ := bK hR132
     have H136 := H126.new (q := hR aF 31 (.slice B_23_10 0 c_23_10) ([] : List GMessage)) hu133 hR132; clear H126
     refine aA ?_
     refine aU rfl rfl rfl rfl (fun _ ho137 => ?_)
     refine aB ho137 (bT Try.runUnderlying37 rfl) rfl rfl ?_
     refine aA ?_
     refine aU rfl rfl rfl rfl (fun _ ho138 => ?_)
     refine aB ho138 (bG (p := (0 : Int) = 0) rfl (bM (p := 0) (q := 0) rfl rfl)) rfl rfl ?_
     refine aA ?_
     refine aB rfl (aP (v := .bool (true)) (b := true) rfl rfl rfl rfl) rfl rfl ?_
     refine aA ?_
     refine aB rfl (aD rfl) rfl rfl ?_
     refine aA ?_
     refine aU rfl rfl rfl rfl (fun _ ho139 => ?_)
     refine aB ho139 (aD rfl) rfl rfl ?_
     refine aA ?_
     refine aU rfl rfl rfl rfl (fun _ ho140 => ?_)
     refine aN ho140 Try.call17 (vs := #[.int .i64 (v)]) rfl rfl rfl (allCh_iA v _) ?_
     rintro e145 W144 ⟨v141, rfl, hR142, hu143⟩; refine ⟨_, rfl, ?_⟩
     obtain ⟨B_23_16, c_23_16, rfl⟩ := bK hR142
     have H146 := H136.new (q := hR aC 94 (.slice B_23_16 ((alO v).length) c_23_16) (alO v)) hu143 hR142; clear H136
     refine aA ?_
     refine aU rfl rfl rfl rfl (fun _ ho147 => ?_)
     refine aB ho147 (aD rfl) rfl rfl ?_
     refine aA ?_
     refine aU rfl rfl rfl rfl (fun _ ho148 => ?_)
     refine aN ho148 Try.call18 (vs := #[.int .i64 (v)]) rfl rfl rfl (allCh_sA v _) ?_
     rintro e153 W152 ⟨v149, rfl, hR150, hu151⟩; refine ⟨_, rfl, ?_⟩
     obtain ⟨B_23_18, c_23_18, rfl⟩ := bK hR150
     have H154 := H146.new (q := hR aC 94 (.slice B_23_18 ((alO v).length) c_23_18) (alO v)) hu151 hR150; clear H146
     refine aA ?_
     refine aU rfl rfl rfl rfl (fun _ ho155 => ?_)
     refine aN ho155 Try.call10 (vs := #[.slice B_23_16 ((alO v).length) c_23_16, .slice B_23_18 ((alO v).length) c_23_18]) rfl rfl rfl (retb (fI (alO v) (alO v) _ _ _ _ _ (H154.rowC 1 rfl) (H154.rowC 0 rfl)) (chs_rfl _)) ?_
     rintro e158 W157 ⟨rfl, hu156⟩; refine ⟨_, rfl, ?_⟩
     have H159 := H154.no hu156; clear H154
     refine aA ?_
     refine aB rfl (aP (v := .bool (true)) (b := true) rfl rfl rfl rfl) rfl rfl ?_
     refine aA ?_
     refine aB rfl (aG rfl) rfl rfl ?_
     refine aH ?_
     refine aI ?_
     refine wp_ret ?_
     refine aV (.inl rfl) Try.results3 rfl ?_
     exact ⟨rfl, H159.1⟩
  ·refine wp_skip ?_
   refine aI ?_
   refine wp_seq ?_
   refine aK [0, 1, 2, 3, 4] rfl ?_
   refine aA ?_
   refine aB rfl (aD rfl) rfl rfl ?_
   refine aA ?_
   refine aB rfl (aD rfl) rfl rfl ?_
   refine aA ?_
   refine aB rfl (aD rfl) rfl rfl ?_
   refine aA ?_
   refine aN rfl Try.call15 (vs := #[.slice B0 X.length c0, .int .i64 (a), .int .i64 (b)]) rfl rfl rfl (clearChannel_i X a b _ _ _ (H36.rowC 3 rfl) (Nat.le_trans hX kD)) ?_
   rintro e164 W163 ⟨v160, rfl, hR161, hu162⟩; refine ⟨_, rfl, ?_⟩
   obtain ⟨B_21_3, c_21_3, rfl⟩ := bK hR161
   have H165 := H36.new (q := hR aC 94 (.slice B_21_3 ((clA a b X).length) c_21_3) (clA a b X)) hu162 hR161; clear H36
   refine aA ?_
   refine aB rfl (aG rfl) rfl rfl ?_
   refine aH ?_
   refine aI ?_
   refine wp_seq ?_
   refine aK [0, 1, 2] rfl ?_
   refine aA ?_
   refine aB rfl (aD rfl) rfl rfl ?_
   refine aA ?_
   refine aN rfl Try.call16 (vs := #[.slice A bs.length cb]) rfl rfl rfl (drawAll_s bs cb A _ (bQ H165.1 hC) hn) ?_
   rintro e168 W167 ⟨v, rfl, hu166⟩; refine ⟨_, rfl, ?_⟩
   have H169 := H165.no hu166; clear H165
   refine aA ?_
   refine aB rfl (aG rfl) rfl rfl ?_
   refine aH ?_
   refine aI ?_
   refine wp_seq ?_
   refine aK [0, 1, 2, 3, 4, 5, 6, 7, 8, 9, 10, 11, 12, 13, 14, 15, 16, 17, 18, 19, 20, 21] rfl ?_
   refine aA ?_
   refine aB rfl (aD rfl) rfl rfl ?_
   refine aA ?_
   refine aB rfl (aD rfl) rfl rfl ?_
   refine aA ?_
   refine aB rfl (aD rfl) rfl rfl ?_
   refine aA ?_
   refine aN rfl Try.call11 (vs := #[.slice B_21_3 ((clA a b X).length) c_21_3, .int .i64 (a), .int .i64 (b)]) rfl rfl rfl (eD (clA a b X) a b [] (mt_clr a b X).1 _ _ _ (H169.rowC 0 rfl) (Nat.le_trans (clA_bd a b X) (Nat.le_trans hX kD))) ?_
   rintro e174 W173 ⟨v170, rfl, hR171, hu172⟩; refine ⟨_, rfl, ?_⟩
   obtain ⟨B_23_3, c_23_3, rfl⟩ := bK hR171
   have H175 := H169.new (q := hR aF 31 (.slice B_23_3 0 c_23_3) ([] : List GMessage)) hu172 hR171; clear H169
   refine aA ?_
   refine aB rfl (bT Try.runUnderlying37 rfl) rfl rfl ?_
   refine aA ?_
   refine aB rfl (bG (p := (0 : Int) = 0) rfl (bM (p := 0) (q := 0) rfl rfl)) rfl rfl ?_
   refine aA ?_
   refine aB rfl (aD rfl) rfl rfl ?_
   refine aA ?_
   refine aU rfl rfl rfl rfl (fun _ ho176 => ?_)
   refine aB ho176 (aD rfl) rfl rfl ?_
   refine aA ?_
   refine aU rfl rfl rfl rfl (fun _ ho177 => ?_)
   refine aB ho177 (aD rfl) rfl rfl ?_
   refine aA ?_
   refine aU rfl rfl rfl rfl (fun _ ho178 => ?_)
   refine aB ho178 (aD rfl) rfl rfl ?_
   refine aA ?_
   refine aU rfl rfl rfl rfl (fun _ ho179 => ?_)
   refine aN ho179 Try.call11 (vs := #[.slice B_21_3 ((clA a b X).length) c_21_3, .int .i64 (b), .int .i64 (a)]) rfl rfl rfl (eD (clA a b X) b a [] (mt_clr a b X).2 _ _ _ (H175.rowC 1 rfl) (Nat.le_trans (clA_bd a b X) (Nat.le_trans hX kD))) ?_
   rintro e184 W183 ⟨v180, rfl, hR181, hu182⟩; refine ⟨_, rfl, ?_⟩
   obtain ⟨B_23_10, c_23_10, rfl⟩ := bK hR181
   have H185 := H175.new (q := hR aF 31 (.slice B_23_10 0 c_23_10) ([] : List GMessage)) hu182 hR181; clear H175
   refine aA ?_
   refine aU rfl rfl rfl rfl (fun _ ho186 => ?_)
   refine aB ho186 (bT Try.runUnderlying37 rfl) rfl rfl ?_
   refine aA ?_
   refine aU rfl rfl rfl rfl (fun _ ho187 => ?_)
   refine aB ho187 (bG (p := (0 : Int) = 0) rfl (bM (p := 0) (q := 0) rfl rfl)) rfl rfl ?_
   refine aA ?_
   refine aB rfl (aP (v := .bool (true)) (b := true) rfl rfl rfl rfl) rfl rfl ?_
   refine aA ?_
   refine aB rfl (aD rfl) rfl rfl ?_
   refine aA ?_
   refine aU rfl rfl rfl rfl (fun _ ho188 => ?_)
   refine aB ho188 (aD rfl) rfl rfl ?_
   refine aA ?_
   refine aU rfl rfl rfl rfl (fun _ ho189 => ?_)
   refine aN ho189 Try.call17 (vs := #[.int .i64 (v)]) rfl rfl rfl (allCh_iA v _) ?_
   rintro e194 W193 ⟨v190, rfl, hR191, hu192⟩; refine ⟨_, rfl, ?_⟩
   obtain ⟨B_23_16, c_23_16, rfl⟩ := bK hR191
   have H195 := H185.new (q := hR aC 94 (.slice B_23_16 ((alO v).length) c_23_16) (alO v)) hu192 hR191; clear H185
   refine aA ?_
   refine aU rfl rfl rfl rfl (fun _ ho196 => ?_)
   refine aB ho196 (aD rfl) rfl rfl ?_
   refine aA ?_
   refine aU rfl rfl rfl rfl (fun _ ho197 => ?_)
   refine aN ho197 Try.call18 (vs := #[.int .i64 (v)]) rfl rfl rfl (allCh_sA v _) ?_
   rintro e202 W201 ⟨v198, rfl, hR199, hu200⟩; refine ⟨_, rfl, ?_⟩
   obtain ⟨B_23_18, c_23_18, rfl⟩ := bK hR199
   have H203 := H195.new (q := hR aC 94 (.slice B_23_18 ((alO v).length) c_23_18) (alO v)) hu200 hR199; clear H195
   refine aA ?_
   refine aU rfl rfl rfl rfl (fun _ ho204 => ?_)
   refine aN ho204 Try.call10 (vs := #[.slice B_23_16 ((alO v).length) c_23_16, .slice B_23_18 ((alO v).length) c_23_18]) rfl rfl rfl (retb (fI (alO v) (alO v) _ _ _ _ _ (H203.rowC 1 rfl) (H203.rowC 0 rfl)) (chs_rfl _)) ?_
   rintro e207 W206 ⟨rfl, hu205⟩; refine ⟨_, rfl, ?_⟩
   have H208 := H203.no hu205; clear H203
   refine aA ?_
   refine aB rfl (aP (v := .bool (true)) (b := true) rfl rfl rfl rfl) rfl rfl ?_
   refine aA ?_
   refine aB rfl (aG rfl) rfl rfl ?_
   refine aH ?_
   refine aI ?_
   refine wp_ret ?_
   refine aV (.inl rfl) Try.results3 rfl ?_
   exact ⟨rfl, H208.1⟩
end Go.Proofs.YtdfipdpeilegpaaFam
namespace Go.Proofs.YtdfipdpeilegpaaOpen
open Go.ChangeShapes Go.WideShapes Go.Proofs.YtdfipdpeilegpaaSep
structure Opens {α : Type} (P : Program) (t : TypeId) (d : Kn α) (G : α → Prop) : Prop where
 out : ∀ {H : Type} (enc : TypeId × Value → H) (w : World) (base : Nat) (spare : Nat → Bool) (held : Bool) (fuel : Nat) (cs : List Value) (x : DataW H × List MemPlace),
  DataW.trod enc P w base spare held fuel t cs = some x → ∃ v, d.K w v cs ∧ G v
structure OpensFs {α : Type} (P : Program) (fs : List Field) (off : Nat) (d : Kn α) (G : α → Prop) : Prop where
 out : ∀ {H : Type} (enc : TypeId × Value → H) (w : World) (base : Nat) (spare : Nat → Bool) (held : Bool) (fuel : Nat) (cs : List Value), cs.length = off + d.sz →
  (∀ f ∈ fs, ∃ x, DataW.trod enc P w base spare held fuel f.type ((cs.drop f.offset).take (P.cellsOf f.type)) = some x) → ∃ v, d.K w v (cs.drop off) ∧ G v
section
variable {P : Program} {t e : TypeId}
theorem opens_slice {α : Type} {d : Kn α} {G : α → Prop} (z : α) (ht : P.underlying t = some (.slice e)) (hc : P.cellsOf e = d.sz) (he : Opens P e d G) :
 Opens P t (Kn.slice e d) (fun l => l.length ≤ 9223372036854775807 ∧ ∀ x ∈ l, G x) := by
 refine ⟨?_⟩
 intro H enc w base spare held fuel cs x h
 rcases Go.Deep.open_slice ht h with ⟨rfl, _⟩ | ⟨a, len, cap, m, n, D, Pl, rfl, _, hl, hm, hmm, _, hx⟩
 ·exact ⟨[], ⟨none, 0, rfl, Nat.le_refl _, by simp, fun h => absurd h (Nat.lt_irrefl 0)⟩, by simp, by simp⟩
 have hle : len ≤ m := by rw [hmm]; split <;> omega
 have hm' : cap ≤ 9223372036854775807 := by simpa [maxLen] using hm
 haveI : Inhabited α := ⟨z⟩
 obtain ⟨V, hV⟩ := Go.Deep.choose_lt (α := α) (n := len) (p := fun i v => ∃ cs', w.cells? base (a.add (i * P.cellsOf e)) (P.cellsOf e) = some cs' ∧ d.K w v cs' ∧ G v) (fun i hi => by
  obtain ⟨cs', h1, h2⟩ := hx i kO
  obtain ⟨v, hk, hg⟩ := he.out enc w base spare held n cs' _ h2
  exact ⟨v, cs', h1, hk, hg⟩)
 have hlen : ((List.range len).map V).length = len := by simp
 refine ⟨(List.range len).map V, ⟨some a, cap, by rw [hlen], by rw [hlen]; exact hl, by rw [hlen]; omega, fun _ => ⟨a, rfl, fun j p hj => ?_⟩⟩, by rw [hlen]; omega, ?_⟩
 ·obtain ⟨hj1, hj2⟩ := List.getElem?_eq_some_iff.1 hj
  have hj3 : j < len := by rw [hlen] at hj1; exact hj1
  have hp : V j = p := by simpa using hj2
  subst hp
  obtain ⟨cs', h1, hk, _⟩ := hV j hj3
  rw [hc] at h1
  obtain ⟨_, h2, h3⟩ := World.cells?_some h1
  refine ⟨cs', hk, fun i u hu => ?_⟩
  have hi : i < d.sz := by rw [← h2]; exact (List.getElem?_eq_some_iff.1 hu).1
  have := h3 i hi
  rw [hu, Go.Deep.add_add] at this
  exact this
 ·intro x hx
  obtain ⟨j, hj, rfl⟩ := List.mem_map.1 hx
  obtain ⟨_, _, _, hg⟩ := hV j (List.mem_range.1 hj)
  exact hg
theorem arg_slice {H : Type} {enc : TypeId × Value → H} {w : World} {base : Nat} {spare : Nat → Bool} {held : Bool} {α : Type} {d : Kn α} {G : List α → Prop} {a : Option Addr} {len cap : Nat} {dd : DataW H} {ps : List MemPlace}
 (h : Opens P t (Kn.slice e d) G) (hd : DataW.Trod enc P w base spare held t (.slice a len cap) dd ps) :
 ∃ l : List α, len = l.length ∧ l.length ≤ cap ∧ C d w a l ∧ G l := by
 obtain ⟨fuel, hf⟩ := hd
 obtain ⟨l, ⟨A, c, he, hl, hC⟩, hg⟩ := h.out enc w base spare held fuel _ _ hf
 simp [Value.cells] at he
 obtain ⟨rfl, rfl, rfl⟩ := he
 exact ⟨l, rfl, hl, hC, hg⟩
end
theorem opens_u8 {P : Program} {t : TypeId} (ht : P.underlying t = some (.int .u8)) : Opens P t Kn.u8 (fun n => (Lit.int .u8 n).wf = true) := by
 refine ⟨?_⟩
 intro H enc w base spare held fuel cs x h
 obtain ⟨n, rfl, _, hw⟩ := DataW.trod_int ht h
 exact ⟨n, rfl, hw⟩
end Go.Proofs.YtdfipdpeilegpaaOpen
