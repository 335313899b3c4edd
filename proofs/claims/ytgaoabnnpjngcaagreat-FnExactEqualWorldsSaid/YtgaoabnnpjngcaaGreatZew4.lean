/- What the row needs, packed. No conditions beyond those that each law names. -/
import Derived.Test.YtgaoabnnpjngcaaGreatZew3
import Derived.Test.YtgaoabnnpjngcaaGreatProg
import Derived.Test.YtgaoabnnpjngcaaGreatZew1
import Derived.Test.YtgaoabnnpjngcaaGreatZew2
namespace Go.Proofs.YtgaoabnnpjngcaaGreatFam
open Go.ChangeShapes Go.WideShapes Go.RowKit Go.Proofs.YtgaoabnnpjngcaaGreatSep Go.Proofs.YtgaoabnnpjngcaaGreatT Go.Proofs.YtgaoabnnpjngcaaGreatK
set_option linter.unusedVariables false
set_option linter.unusedSimpArgs false
attribute [local irreducible] wpOps wpOp
set_option maxHeartbeats 4000000
set_option maxRecDepth 100000
theorem eqF_Vat (l k : List GVat) (A A' : Option Addr) (c c' : Nat) (w : World) (h : C iK w A l) (h' : C iK w A' k) : Calls Tryz.prog 45 #[.slice A l.length c, .slice A' k.length c', .func (.func 46) #[] #[]] w (bW (aV dK l k) w) := by
 have nx := h.1
 refine enter 32 [(0, .slice A l.length c), (1, .slice A' k.length c'), (2, .func (.func 46) #[] #[])] Tryz.func45 rfl kR ?_
 intro xj
 have H1 : St w No [] w := St.enter
 refine wp_seq ?_
 refine aM [0] rfl ?_
 refine aA ?_
 refine aB rfl (aJ rfl) rfl rfl ?_
 refine aH ?_
 refine aG ?_
 refine wp_seq ?_
 refine wp_seq ?_
 refine aM [0, 1, 2, 3, 4] rfl ?_
 refine aA ?_
 refine aB rfl (aF rfl) rfl rfl ?_
 refine aA ?_
 refine aB rfl (bQ Tryz.runUnderlying31 rfl) rfl rfl ?_
 refine aA ?_
 refine aB rfl (aF rfl) rfl rfl ?_
 refine aA ?_
 refine aB rfl (bQ Tryz.runUnderlying31 rfl) rfl rfl ?_
 by_cases hg2 : ¬ ((l.length : Nat) : Int) = (k.length : Nat)
 ·refine aA ?_
  refine aB rfl (bV hg2 (bN rfl rfl)) rfl rfl ?_
  refine aH ?_
  refine aG ?_
  refine bX rfl ?_
  refine wp_seq ?_
  refine aM [0] rfl ?_
  refine aA ?_
  refine aB rfl (aJ rfl) rfl rfl ?_
  refine aH ?_
  refine aG ?_
  refine wp_ret ?_
  refine aU ?_
  have hz3 : ∀ f, aV f l k = false := fun f => eY f l k kO
  have hr4 : aV dK l k = false := by simp [hz3]
  refine aQ (.inl rfl) Tryz.results45 rfl ?_
  rw [hr4]
  exact ⟨rfl, H1.1⟩
 ·refine aA ?_
  refine aB rfl (bO hg2 (bN rfl rfl)) rfl rfl ?_
  refine aH ?_
  refine aG ?_
  refine dU rfl ?_
  refine wp_skip ?_
  refine aG ?_
  refine wp_seq ?_
  refine wp_seq ?_
  refine aM [0, 1, 2] rfl ?_
  refine aA ?_
  refine aB rfl (aF rfl) rfl rfl ?_
  refine aA ?_
  refine aB rfl (bQ Tryz.runUnderlying31 rfl) rfl rfl ?_
  refine aA ?_
  refine aB rfl (aF rfl) rfl rfl ?_
  refine aH ?_
  refine aG ?_
  refine wp_block ?_
  refine wp_loop_ghost (fun r a' W' => ∃ (i1 : Nat) (x' : Nat → Value), a' = bT 32 x' [(1, .slice A' k.length c'), (2, .func (.func 46) #[] #[]), (15, .slice A l.length c), (16, .int .i64 ((l.length : Nat))), (17, .int .i64 (((i1 : Nat) : Int)))] ∧ (i1 + r = l.length) ∧ (aV dK l k = aV dK (l.drop i1) (k.drop i1)) ∧ St w No [] W') l.length ?_ ?_
  ·exact (bA [(1, .slice A' k.length c'), (2, .func (.func 46) #[] #[]), (15, .slice A l.length c), (16, .int .i64 ((l.length : Nat))), (17, .int .i64 (((0 : Nat) : Int)))] rfl).elim fun x' hx => ⟨0, x', hx, kO, rfl, H1⟩
  ·rintro r5 _ W6 ⟨i1, x7, rfl, hi1, hf1, H8⟩; clear H1
   refine wp_seq ?_
   refine aM [0] rfl ?_
   refine aA ?_
   refine aB rfl (gY rfl rfl) rfl rfl ?_
   refine aH ?_
   refine aG ?_
   refine wp_seq ?_
   refine eP rfl (fun hc9 => ?_) (fun hc9 => ?_)
   ·have hlt1 : i1 < l.length := by omega
    have hlu1 : i1 < k.length := by omega
    obtain ⟨ade10, cse10, hAe10, hKe10, hce10⟩ := dO h i1 hlt1
    have hle10 := ki_Vat_len hKe10
    have hoe10 := ki_Vat_one hKe10
    obtain ⟨ade11, cse11, hAe11, hKe11, hce11⟩ := dO h' i1 hlu1
    have hle11 := ki_Vat_len hKe11
    have hoe11 := ki_Vat_one hKe11
    refine wp_skip ?_
    refine aG ?_
    refine wp_seq ?_
    refine wp_block ?_
    refine wp_seq ?_
    refine aM [0, 1, 2, 3, 4, 5] rfl ?_
    refine aA ?_
    refine aB rfl (aF rfl) rfl rfl ?_
    refine aA ?_
    refine aB rfl (aP (k := i1) Tryz.runUnderlying31 Tryz.sizeOf80 rfl rfl hAe10 hlt1) rfl rfl ?_
    refine aA ?_
    refine aB rfl (aY Tryz.isAgg80 Tryz.sizeOf80 rfl (Cat.upd hce10 H8.1) hle10) rfl rfl ?_
    refine aA ?_
    refine gZ rfl Tryz.zeroValue80 rfl rfl H8 ?_
    intro g_5_3 W12 hu13 Ha14; clear H8; clear hu13
    refine aA ?_
    refine aB rfl (aJ rfl) rfl rfl ?_
    refine aA ?_
    refine gN rfl Tryz.sizeOf80 rfl rfl hle10 rfl hoe10 Ha14 ?_
    intro W16 hu17 Ha18; clear Ha14; clear hu17
    refine aH ?_
    refine aG ?_
    refine wp_seq ?_
    refine aM [0, 1, 2, 3, 4, 5] rfl ?_
    refine aA ?_
    refine aB rfl (aF rfl) rfl rfl ?_
    refine aA ?_
    refine aB rfl (aF rfl) rfl rfl ?_
    refine aA ?_
    refine aB rfl (aP (k := i1) Tryz.runUnderlying31 Tryz.sizeOf80 rfl rfl hAe11 hlu1) rfl rfl ?_
    refine aA ?_
    refine aB rfl (aY Tryz.isAgg80 Tryz.sizeOf80 rfl (Cat.upd hce11 Ha18.1) hle11) rfl rfl ?_
    refine aA ?_
    refine gZ rfl Tryz.zeroValue80 rfl rfl Ha18 ?_
    intro g_6_4 W20 hu21 Ha22; clear Ha18; clear hu21
    refine aA ?_
    refine gN rfl Tryz.sizeOf80 rfl rfl hle11 rfl hoe11 Ha22 ?_
    intro W24 hu25 Ha26; clear Ha22; clear hu25
    refine aH ?_
    refine aG ?_
    refine wp_seq ?_
    refine aM [0, 1, 2, 3, 4] rfl ?_
    refine aA ?_
    refine aB rfl (aF rfl) rfl rfl ?_
    refine aA ?_
    refine aB rfl (fH Tryz.isAgg80 Tryz.sizeOf80 rfl (Ha26.blk 1 rfl) hle10) rfl rfl ?_
    refine aA ?_
    refine aB rfl (fH Tryz.isAgg80 Tryz.sizeOf80 rfl (Ha26.blk 0 rfl) hle11) rfl rfl ?_
    by_cases hg28 : dK (l[i1]) (k[i1]) = true
    ·refine aA ?_
     refine iQ rfl rfl Tryz.call46 (vs := #[.agg (List.toArray cse10), .agg (List.toArray cse11)]) rfl rfl rfl (fK (equalVats_i (l[i1]) (k[i1]) _ _ _ (fE Ha26.1 hKe10) (fE Ha26.1 hKe11)) hg28) ?_
     rintro e31 W30 ⟨rfl, hu29⟩; refine ⟨_, rfl, ?_⟩
     have H32 := Ha26.no hu29; clear Ha26
     refine aA ?_
     refine aB rfl (gD rfl) rfl rfl ?_
     refine aH ?_
     refine aG ?_
     refine dU rfl ?_
     refine wp_skip ?_
     refine iY ?_
     refine aG ?_
     refine aM [0, 1] rfl ?_
     refine aA ?_
     refine aB rfl (iB (k := i1) rfl rfl kO) rfl rfl ?_
     refine aA ?_
     refine aB rfl (aF rfl) rfl rfl ?_
     refine aH ?_
     refine aG ?_
     exact (bA [(1, .slice A' k.length c'), (2, .func (.func 46) #[] #[]), (15, .slice A l.length c), (16, .int .i64 ((l.length : Nat))), (17, .int .i64 (((i1 + 1 : Nat) : Int)))] rfl).elim fun x' hx => ⟨r5 - 1, kO, i1 + 1, x', hx, kO, (hf1.trans (fC dK l k i1 hlt1 hlu1 hg28)), H32.pick [] kD rfl⟩
    ·refine aA ?_
     refine iQ rfl rfl Tryz.call46 (vs := #[.agg (List.toArray cse10), .agg (List.toArray cse11)]) rfl rfl rfl (fK (equalVats_i (l[i1]) (k[i1]) _ _ _ (fE Ha26.1 hKe10) (fE Ha26.1 hKe11)) (eq_false_of_ne_true hg28)) ?_
     rintro e35 W34 ⟨rfl, hu33⟩; refine ⟨_, rfl, ?_⟩
     have H36 := Ha26.no hu33; clear Ha26
     refine aA ?_
     refine aB rfl (gD rfl) rfl rfl ?_
     refine aH ?_
     refine aG ?_
     refine bX rfl ?_
     refine wp_seq ?_
     refine aM [0] rfl ?_
     refine aA ?_
     refine aB rfl (aJ rfl) rfl rfl ?_
     refine aH ?_
     refine aG ?_
     refine wp_ret ?_
     refine dS ?_
     refine aU ?_
     refine aU ?_
     refine dS ?_
     refine aU ?_
     have hz37 : aV dK l k = false := hf1.trans (eG dK l k i1 hlt1 hlu1 (eq_false_of_ne_true hg28))
     have hr38 : aV dK l k = false := by simp [hg28, hz37]
     refine aQ (.inl rfl) Tryz.results45 rfl ?_
     rw [hr38]
     exact ⟨rfl, H36.1⟩
   ·have hd1 : aV dK l k = true := hf1.trans (fD dK l k i1 kO kO)
    refine wp_exit ?_
    refine dP ?_
    refine dP ?_
    refine iZ ?_
    refine aG ?_
    refine wp_seq ?_
    refine aM [0] rfl ?_
    refine aA ?_
    refine aB rfl (aJ rfl) rfl rfl ?_
    refine aH ?_
    refine aG ?_
    refine wp_ret ?_
    have hr39 : aV dK l k = true := by simp [hd1]
    refine aQ (.inl rfl) Tryz.results45 rfl ?_
    rw [hr39]
    exact ⟨rfl, H8.1⟩
theorem eqc_Channel (x y : GChannel) (cx cy : List Value) (w : World) (h : dQ.K w x cx) (h' : dQ.K w y cy) : Calls Tryz.prog 85 #[.agg cx.toArray, .agg cy.toArray] w (bW (bG x y) w) := by
 obtain ⟨Ax2, cx2, rfl, hlx2, hCx2⟩ := kE h
 obtain ⟨Ay2, cy2, rfl, hly2, hCy2⟩ := kE h'
 have nx2 := hCx2.1
 refine enter 24 [(0, .agg #[.int .i64 (x.From), .int .i64 (x.To), .slice Ax2 x.List.length cx2]), (1, .agg #[.int .i64 (y.From), .int .i64 (y.To), .slice Ay2 y.List.length cy2])] Tryz.func85 rfl kR ?_
 intro xj
 have H1 : St w No [] w := St.enter
 refine wp_seq ?_
 refine aM [0, 1, 2] rfl ?_
 refine aA ?_
 refine gX rfl rfl rfl rfl H1 ?_
 intro g_0_0 W2 hu3 Ha4; clear H1; clear hu3
 refine aA ?_
 refine gX rfl rfl rfl rfl Ha4 ?_
 intro g_0_1 W6 hu7 Ha8; clear Ha4; clear hu7
 refine aA ?_
 refine aB rfl (aJ rfl) rfl rfl ?_
 refine aH ?_
 refine aG ?_
 refine wp_seq ?_
 refine aM [0, 1, 2, 3, 4, 5, 6, 7, 8, 9, 10, 11, 12, 13, 14, 15, 16, 17, 18, 19] rfl ?_
 refine aA ?_
 refine aB rfl (aL lH rfl) rfl rfl ?_
 refine aA ?_
 refine aB rfl (aN (k := 0) (v := .int .i64 (x.From)) Tryz.isAgg3 rfl (Ha8.blk 1 rfl) rfl) rfl rfl ?_
 refine aA ?_
 refine aB rfl (aL lH rfl) rfl rfl ?_
 refine aA ?_
 refine aB rfl (aN (k := 0) (v := .int .i64 (y.From)) Tryz.isAgg3 rfl (Ha8.blk 0 rfl) rfl) rfl rfl ?_
 by_cases hg10 : (x.From : Int) = y.From
 ·refine aA ?_
  refine aB rfl (bV hg10 (eH rfl rfl)) rfl rfl ?_
  refine aA ?_
  refine aB rfl (aF rfl) rfl rfl ?_
  refine aA ?_
  refine aR rfl rfl rfl rfl (fun _ ho11 => ?_)
  refine aB ho11 (aL nK rfl) rfl rfl ?_
  refine aA ?_
  refine aR rfl rfl rfl rfl (fun _ ho12 => ?_)
  refine aB ho12 (aN (k := 1) (v := .int .i64 (x.To)) Tryz.isAgg3 rfl (Ha8.blk 1 rfl) rfl) rfl rfl ?_
  refine aA ?_
  refine aR rfl rfl rfl rfl (fun _ ho13 => ?_)
  refine aB ho13 (aL nK rfl) rfl rfl ?_
  refine aA ?_
  refine aR rfl rfl rfl rfl (fun _ ho14 => ?_)
  refine aB ho14 (aN (k := 1) (v := .int .i64 (y.To)) Tryz.isAgg3 rfl (Ha8.blk 0 rfl) rfl) rfl rfl ?_
  by_cases hg15 : (x.To : Int) = y.To
  ·refine aA ?_
   refine aR rfl rfl rfl rfl (fun _ ho16 => ?_)
   refine aB ho16 (bV hg15 (eH rfl rfl)) rfl rfl ?_
   refine aA ?_
   refine aB rfl (aI (v := .bool (true)) (b := true) rfl rfl rfl rfl) rfl rfl ?_
   refine aA ?_
   refine aB rfl (aF rfl) rfl rfl ?_
   refine aA ?_
   refine aR rfl rfl rfl rfl (fun _ ho17 => ?_)
   refine aB ho17 (aL kM rfl) rfl rfl ?_
   refine aA ?_
   refine aR rfl rfl rfl rfl (fun _ ho18 => ?_)
   refine aB ho18 (aN (k := 2) (v := .slice Ax2 x.List.length cx2) Tryz.isAgg100 rfl (Ha8.blk 1 rfl) rfl) rfl rfl ?_
   refine aA ?_
   refine aR rfl rfl rfl rfl (fun _ ho19 => ?_)
   refine aB ho19 (aL kM rfl) rfl rfl ?_
   refine aA ?_
   refine aR rfl rfl rfl rfl (fun _ ho20 => ?_)
   refine aB ho20 (aN (k := 2) (v := .slice Ay2 y.List.length cy2) Tryz.isAgg100 rfl (Ha8.blk 0 rfl) rfl) rfl rfl ?_
   by_cases hg21 : (aV aX x.List y.List) = true
   ·refine aA ?_
    refine aR rfl rfl rfl rfl (fun _ ho22 => ?_)
    refine bP ho22 Tryz.call86 (vs := #[.slice Ax2 x.List.length cx2, .slice Ay2 y.List.length cy2, .func (.func 83) #[] #[]]) rfl rfl rfl (fK (eqF_Message x.List y.List _ _ _ _ _ (aS Ha8.1 hCx2) (aS Ha8.1 hCy2)) hg21) ?_
    rintro e25 W24 ⟨rfl, hu23⟩; refine ⟨_, rfl, ?_⟩
    have H26 := Ha8.no hu23; clear Ha8
    refine aA ?_
    refine aB rfl (aI (v := .bool (true)) (b := true) rfl rfl rfl rfl) rfl rfl ?_
    refine aA ?_
    refine aB rfl (aJ rfl) rfl rfl ?_
    refine aH ?_
    refine aG ?_
    refine wp_ret ?_
    have hr27 : bG x y = true := by simp [bG, hg10, hg15, hg21]
    refine aQ (.inl rfl) Tryz.results85 rfl ?_
    rw [hr27]
    exact ⟨rfl, H26.1⟩
   ·refine aA ?_
    refine aR rfl rfl rfl rfl (fun _ ho28 => ?_)
    refine bP ho28 Tryz.call86 (vs := #[.slice Ax2 x.List.length cx2, .slice Ay2 y.List.length cy2, .func (.func 83) #[] #[]]) rfl rfl rfl (fK (eqF_Message x.List y.List _ _ _ _ _ (aS Ha8.1 hCx2) (aS Ha8.1 hCy2)) (eq_false_of_ne_true hg21)) ?_
    rintro e31 W30 ⟨rfl, hu29⟩; refine ⟨_, rfl, ?_⟩
    have H32 := Ha8.no hu29; clear Ha8
    refine aA ?_
    refine aB rfl (aI (v := .bool (false)) (b := true) rfl rfl rfl rfl) rfl rfl ?_
    refine aA ?_
    refine aB rfl (aJ rfl) rfl rfl ?_
    refine aH ?_
    refine aG ?_
    refine wp_ret ?_
    have hr33 : bG x y = false := by simp [bG, hg10, hg15, hg21]
    refine aQ (.inl rfl) Tryz.results85 rfl ?_
    rw [hr33]
    exact ⟨rfl, H32.1⟩
  ·refine aA ?_
   refine aR rfl rfl rfl rfl (fun _ ho34 => ?_)
   refine aB ho34 (bO hg15 (eH rfl rfl)) rfl rfl ?_
   refine aA ?_
   refine aB rfl (aI (v := .bool (false)) (b := true) rfl rfl rfl rfl) rfl rfl ?_
   refine aA ?_
   refine aB rfl (aF rfl) rfl rfl ?_
   refine aA ?_
   refine aC rfl rfl rfl rfl rfl rfl rfl ?_
   refine aA ?_
   refine aC rfl rfl rfl rfl rfl rfl rfl ?_
   refine aA ?_
   refine aC rfl rfl rfl rfl rfl rfl rfl ?_
   refine aA ?_
   refine aC rfl rfl rfl rfl rfl rfl rfl ?_
   refine aA ?_
   refine aC rfl rfl rfl rfl rfl rfl rfl ?_
   refine aA ?_
   refine aB rfl (aI (v := .bool (false)) (b := false) rfl rfl rfl rfl) rfl rfl ?_
   refine aA ?_
   refine aB rfl (aJ rfl) rfl rfl ?_
   refine aH ?_
   refine aG ?_
   refine wp_ret ?_
   have hr35 : bG x y = false := by simp [bG, hg10, hg15]
   refine aQ (.inl rfl) Tryz.results85 rfl ?_
   rw [hr35]
   exact ⟨rfl, Ha8.1⟩
 ·refine aA ?_
  refine aB rfl (bO hg10 (eH rfl rfl)) rfl rfl ?_
  refine aA ?_
  refine aB rfl (aF rfl) rfl rfl ?_
  refine aA ?_
  refine aC rfl rfl rfl rfl rfl rfl rfl ?_
  refine aA ?_
  refine aC rfl rfl rfl rfl rfl rfl rfl ?_
  refine aA ?_
  refine aC rfl rfl rfl rfl rfl rfl rfl ?_
  refine aA ?_
  refine aC rfl rfl rfl rfl rfl rfl rfl ?_
  refine aA ?_
  refine aC rfl rfl rfl rfl rfl rfl rfl ?_
  refine aA ?_
  refine aB rfl (aI (v := .bool (false)) (b := false) rfl rfl rfl rfl) rfl rfl ?_
  refine aA ?_
  refine aB rfl (aF rfl) rfl rfl ?_
  refine aA ?_
  refine aC rfl rfl rfl rfl rfl rfl rfl ?_
  refine aA ?_
  refine aC rfl rfl rfl rfl rfl rfl rfl ?_
  refine aA ?_
  refine aC rfl rfl rfl rfl rfl rfl rfl ?_
  refine aA ?_
  refine aC rfl rfl rfl rfl rfl rfl rfl ?_
  refine aA ?_
  refine aC rfl rfl rfl rfl rfl rfl rfl ?_
  refine aA ?_
  refine aB rfl (aI (v := .bool (false)) (b := false) rfl rfl rfl rfl) rfl rfl ?_
  refine aA ?_
  refine aB rfl (aJ rfl) rfl rfl ?_
  refine aH ?_
  refine aG ?_
  refine wp_ret ?_
  have hr36 : bG x y = false := by simp [bG, hg10]
  refine aQ (.inl rfl) Tryz.results85 rfl ?_
  rw [hr36]
  exact ⟨rfl, Ha8.1⟩
theorem eqF_Channel (l k : List GChannel) (A A' : Option Addr) (c c' : Nat) (w : World) (h : C dQ w A l) (h' : C dQ w A' k) : Calls Tryz.prog 84 #[.slice A l.length c, .slice A' k.length c', .func (.func 85) #[] #[]] w (bW (aV bG l k) w) := by
 have nx := h.1
 refine enter 32 [(0, .slice A l.length c), (1, .slice A' k.length c'), (2, .func (.func 85) #[] #[])] Tryz.func84 rfl kR ?_
 intro xj
 have H1 : St w No [] w := St.enter
 refine wp_seq ?_
 refine aM [0] rfl ?_
 refine aA ?_
 refine aB rfl (aJ rfl) rfl rfl ?_
 refine aH ?_
 refine aG ?_
 refine wp_seq ?_
 refine wp_seq ?_
 refine aM [0, 1, 2, 3, 4] rfl ?_
 refine aA ?_
 refine aB rfl (aF rfl) rfl rfl ?_
 refine aA ?_
 refine aB rfl (bQ Tryz.runUnderlying32 rfl) rfl rfl ?_
 refine aA ?_
 refine aB rfl (aF rfl) rfl rfl ?_
 refine aA ?_
 refine aB rfl (bQ Tryz.runUnderlying32 rfl) rfl rfl ?_
 by_cases hg2 : ¬ ((l.length : Nat) : Int) = (k.length : Nat)
 ·refine aA ?_
  refine aB rfl (bV hg2 (bN rfl rfl)) rfl rfl ?_
  refine aH ?_
  refine aG ?_
  refine bX rfl ?_
  refine wp_seq ?_
  refine aM [0] rfl ?_
  refine aA ?_
  refine aB rfl (aJ rfl) rfl rfl ?_
  refine aH ?_
  refine aG ?_
  refine wp_ret ?_
  refine aU ?_
  have hz3 : ∀ f, aV f l k = false := fun f => eY f l k kO
  have hr4 : aV bG l k = false := by simp [hz3]
  refine aQ (.inl rfl) Tryz.results84 rfl ?_
  rw [hr4]
  exact ⟨rfl, H1.1⟩
 ·refine aA ?_
  refine aB rfl (bO hg2 (bN rfl rfl)) rfl rfl ?_
  refine aH ?_
  refine aG ?_
  refine dU rfl ?_
  refine wp_skip ?_
  refine aG ?_
  refine wp_seq ?_
  refine wp_seq ?_
  refine aM [0, 1, 2] rfl ?_
  refine aA ?_
  refine aB rfl (aF rfl) rfl rfl ?_
  refine aA ?_
  refine aB rfl (bQ Tryz.runUnderlying32 rfl) rfl rfl ?_
  refine aA ?_
  refine aB rfl (aF rfl) rfl rfl ?_
  refine aH ?_
  refine aG ?_
  refine wp_block ?_
  refine wp_loop_ghost (fun r a' W' => ∃ (i1 : Nat) (x' : Nat → Value), a' = bT 32 x' [(1, .slice A' k.length c'), (2, .func (.func 85) #[] #[]), (15, .slice A l.length c), (16, .int .i64 ((l.length : Nat))), (17, .int .i64 (((i1 : Nat) : Int)))] ∧ (i1 + r = l.length) ∧ (aV bG l k = aV bG (l.drop i1) (k.drop i1)) ∧ St w No [] W') l.length ?_ ?_
  ·exact (bA [(1, .slice A' k.length c'), (2, .func (.func 85) #[] #[]), (15, .slice A l.length c), (16, .int .i64 ((l.length : Nat))), (17, .int .i64 (((0 : Nat) : Int)))] rfl).elim fun x' hx => ⟨0, x', hx, kO, rfl, H1⟩
  ·rintro r5 _ W6 ⟨i1, x7, rfl, hi1, hf1, H8⟩; clear H1
   refine wp_seq ?_
   refine aM [0] rfl ?_
   refine aA ?_
   refine aB rfl (gY rfl rfl) rfl rfl ?_
   refine aH ?_
   refine aG ?_
   refine wp_seq ?_
   refine eP rfl (fun hc9 => ?_) (fun hc9 => ?_)
   ·have hlt1 : i1 < l.length := by omega
    have hlu1 : i1 < k.length := by omega
    obtain ⟨ade10, cse10, hAe10, hKe10, hce10⟩ := dO h i1 hlt1
    have hle10 := mJ hKe10
    have hoe10 := mK hKe10
    obtain ⟨ade11, cse11, hAe11, hKe11, hce11⟩ := dO h' i1 hlu1
    have hle11 := mJ hKe11
    have hoe11 := mK hKe11
    refine wp_skip ?_
    refine aG ?_
    refine wp_seq ?_
    refine wp_block ?_
    refine wp_seq ?_
    refine aM [0, 1, 2, 3, 4, 5] rfl ?_
    refine aA ?_
    refine aB rfl (aF rfl) rfl rfl ?_
    refine aA ?_
    refine aB rfl (aP (k := i1) Tryz.runUnderlying32 Tryz.sizeOf102 rfl rfl hAe10 hlt1) rfl rfl ?_
    refine aA ?_
    refine aB rfl (aY Tryz.isAgg102 Tryz.sizeOf102 rfl (Cat.upd hce10 H8.1) hle10) rfl rfl ?_
    refine aA ?_
    refine gZ rfl Tryz.zeroValue102 rfl rfl H8 ?_
    intro g_5_3 W12 hu13 Ha14; clear H8; clear hu13
    refine aA ?_
    refine aB rfl (aJ rfl) rfl rfl ?_
    refine aA ?_
    refine gN rfl Tryz.sizeOf102 rfl rfl hle10 rfl hoe10 Ha14 ?_
    intro W16 hu17 Ha18; clear Ha14; clear hu17
    refine aH ?_
    refine aG ?_
    refine wp_seq ?_
    refine aM [0, 1, 2, 3, 4, 5] rfl ?_
    refine aA ?_
    refine aB rfl (aF rfl) rfl rfl ?_
    refine aA ?_
    refine aB rfl (aF rfl) rfl rfl ?_
    refine aA ?_
    refine aB rfl (aP (k := i1) Tryz.runUnderlying32 Tryz.sizeOf102 rfl rfl hAe11 hlu1) rfl rfl ?_
    refine aA ?_
    refine aB rfl (aY Tryz.isAgg102 Tryz.sizeOf102 rfl (Cat.upd hce11 Ha18.1) hle11) rfl rfl ?_
    refine aA ?_
    refine gZ rfl Tryz.zeroValue102 rfl rfl Ha18 ?_
    intro g_6_4 W20 hu21 Ha22; clear Ha18; clear hu21
    refine aA ?_
    refine gN rfl Tryz.sizeOf102 rfl rfl hle11 rfl hoe11 Ha22 ?_
    intro W24 hu25 Ha26; clear Ha22; clear hu25
    refine aH ?_
    refine aG ?_
    refine wp_seq ?_
    refine aM [0, 1, 2, 3, 4] rfl ?_
    refine aA ?_
    refine aB rfl (aF rfl) rfl rfl ?_
    refine aA ?_
    refine aB rfl (fH Tryz.isAgg102 Tryz.sizeOf102 rfl (Ha26.blk 1 rfl) hle10) rfl rfl ?_
    refine aA ?_
    refine aB rfl (fH Tryz.isAgg102 Tryz.sizeOf102 rfl (Ha26.blk 0 rfl) hle11) rfl rfl ?_
    by_cases hg28 : bG (l[i1]) (k[i1]) = true
    ·refine aA ?_
     refine iQ rfl rfl Tryz.call85 (vs := #[.agg (List.toArray cse10), .agg (List.toArray cse11)]) rfl rfl rfl (fK (eqc_Channel (l[i1]) (k[i1]) _ _ _ (fE Ha26.1 hKe10) (fE Ha26.1 hKe11)) hg28) ?_
     rintro e31 W30 ⟨rfl, hu29⟩; refine ⟨_, rfl, ?_⟩
     have H32 := Ha26.no hu29; clear Ha26
     refine aA ?_
     refine aB rfl (gD rfl) rfl rfl ?_
     refine aH ?_
     refine aG ?_
     refine dU rfl ?_
     refine wp_skip ?_
     refine iY ?_
     refine aG ?_
     refine aM [0, 1] rfl ?_
     refine aA ?_
     refine aB rfl (iB (k := i1) rfl rfl kO) rfl rfl ?_
     refine aA ?_
     refine aB rfl (aF rfl) rfl rfl ?_
     refine aH ?_
     refine aG ?_
     exact (bA [(1, .slice A' k.length c'), (2, .func (.func 85) #[] #[]), (15, .slice A l.length c), (16, .int .i64 ((l.length : Nat))), (17, .int .i64 (((i1 + 1 : Nat) : Int)))] rfl).elim fun x' hx => ⟨r5 - 1, kO, i1 + 1, x', hx, kO, (hf1.trans (fC bG l k i1 hlt1 hlu1 hg28)), H32.pick [] kD rfl⟩
    ·refine aA ?_
     refine iQ rfl rfl Tryz.call85 (vs := #[.agg (List.toArray cse10), .agg (List.toArray cse11)]) rfl rfl rfl (fK (eqc_Channel (l[i1]) (k[i1]) _ _ _ (fE Ha26.1 hKe10) (fE Ha26.1 hKe11)) (eq_false_of_ne_true hg28)) ?_
     rintro e35 W34 ⟨rfl, hu33⟩; refine ⟨_, rfl, ?_⟩
     have H36 := Ha26.no hu33; clear Ha26
     refine aA ?_
     refine aB rfl (gD rfl) rfl rfl ?_
     refine aH ?_
     refine aG ?_
     refine bX rfl ?_
     refine wp_seq ?_
     refine aM [0] rfl ?_
     refine aA ?_
     refine aB rfl (aJ rfl) rfl rfl ?_
     refine aH ?_
     refine aG ?_
     refine wp_ret ?_
     refine dS ?_
     refine aU ?_
     refine aU ?_
     refine dS ?_
     refine aU ?_
     have hz37 : aV bG l k = false := hf1.trans (eG bG l k i1 hlt1 hlu1 (eq_false_of_ne_true hg28))
     have hr38 : aV bG l k = false := by simp [hg28, hz37]
     refine aQ (.inl rfl) Tryz.results84 rfl ?_
     rw [hr38]
     exact ⟨rfl, H36.1⟩
   ·have hd1 : aV bG l k = true := hf1.trans (fD bG l k i1 kO kO)
    refine wp_exit ?_
    refine dP ?_
    refine dP ?_
    refine iZ ?_
    refine aG ?_
    refine wp_seq ?_
    refine aM [0] rfl ?_
    refine aA ?_
    refine aB rfl (aJ rfl) rfl rfl ?_
    refine aH ?_
    refine aG ?_
    refine wp_ret ?_
    have hr39 : aV bG l k = true := by simp [hd1]
    refine aQ (.inl rfl) Tryz.results84 rfl ?_
    rw [hr39]
    exact ⟨rfl, H8.1⟩
theorem equalChannels_i (l k : List GChannel) (A A' : Option Addr) (c c' : Nat) (w : World) (h : C dQ w A l) (h' : C dQ w A' k) : Calls Tryz.prog 47 #[.slice A l.length c, .slice A' k.length c'] w (bW (aV bG l k) w) := by
 have nx := h.1
 refine enter 8 [(0, .slice A l.length c), (1, .slice A' k.length c')] Tryz.func47 rfl kR ?_
 intro xj
 have H1 : St w No [] w := St.enter
 refine wp_seq ?_
 refine aM [0] rfl ?_
 refine aA ?_
 refine aB rfl (aJ rfl) rfl rfl ?_
 refine aH ?_
 refine aG ?_
 refine wp_seq ?_
 refine aM [0, 1, 2, 3] rfl ?_
 refine aA ?_
 refine aB rfl (aF rfl) rfl rfl ?_
 refine aA ?_
 refine aB rfl (aF rfl) rfl rfl ?_
 by_cases hg2 : (aV bG l k) = true
 ·refine aA ?_
  refine bP rfl Tryz.call84 (vs := #[.slice A l.length c, .slice A' k.length c', .func (.func 85) #[] #[]]) rfl rfl rfl (fK (eqF_Channel l k _ _ _ _ _ (aS H1.1 h) (aS H1.1 h')) hg2) ?_
  rintro e5 W4 ⟨rfl, hu3⟩; refine ⟨_, rfl, ?_⟩
  have H6 := H1.no hu3; clear H1
  refine aA ?_
  refine aB rfl (aJ rfl) rfl rfl ?_
  refine aH ?_
  refine aG ?_
  refine wp_ret ?_
  have hr7 : aV bG l k = true := by simp [hg2]
  refine aQ (.inl rfl) Tryz.results47 rfl ?_
  rw [hr7]
  exact ⟨rfl, H6.1⟩
 ·refine aA ?_
  refine bP rfl Tryz.call84 (vs := #[.slice A l.length c, .slice A' k.length c', .func (.func 85) #[] #[]]) rfl rfl rfl (fK (eqF_Channel l k _ _ _ _ _ (aS H1.1 h) (aS H1.1 h')) (eq_false_of_ne_true hg2)) ?_
  rintro e10 W9 ⟨rfl, hu8⟩; refine ⟨_, rfl, ?_⟩
  have H11 := H1.no hu8; clear H1
  refine aA ?_
  refine aB rfl (aJ rfl) rfl rfl ?_
  refine aH ?_
  refine aG ?_
  refine wp_ret ?_
  have hr12 : aV bG l k = false := by simp [hg2]
  refine aQ (.inl rfl) Tryz.results47 rfl ?_
  rw [hr12]
  exact ⟨rfl, H11.1⟩
theorem equalWorlds_i (x y : GWorld) (cx cy : List Value) (w : World) (h : iL.K w x cx) (h' : iL.K w y cy) : Calls Tryz.prog 18 #[.agg cx.toArray, .agg cy.toArray] w (bW (dX x y) w) := by
 obtain ⟨Ax0, cx0, Ax1, cx1, Ax2, cx2, Ax3, cx3, rfl, hlx0, hCx0, hlx1, hCx1, hlx2, hCx2, hlx3, hCx3⟩ := mW h
 obtain ⟨Ay0, cy0, Ay1, cy1, Ay2, cy2, Ay3, cy3, rfl, hly0, hCy0, hly1, hCy1, hly2, hCy2, hly3, hCy3⟩ := mW h'
 have nx0 := hCx0.1
 have nx1 := hCx1.1
 have nx2 := hCx2.1
 have nx3 := hCx3.1
 refine enter 38 [(0, .agg #[.slice Ax0 x.bE.length cx0, .slice Ax1 x.eT.length cx1, .slice Ax2 x.bH.length cx2, .slice Ax3 x.bK.length cx3, .int .i64 (x.eO)]), (1, .agg #[.slice Ay0 y.bE.length cy0, .slice Ay1 y.eT.length cy1, .slice Ay2 y.bH.length cy2, .slice Ay3 y.bK.length cy3, .int .i64 (y.eO)])] Tryz.func18 rfl kR ?_
 intro xj
 have H1 : St w No [] w := St.enter
 refine wp_seq ?_
 refine aM [0, 1, 2] rfl ?_
 refine aA ?_
 refine gX rfl rfl rfl rfl H1 ?_
 intro g_0_0 W2 hu3 Ha4; clear H1; clear hu3
 refine aA ?_
 refine gX rfl rfl rfl rfl Ha4 ?_
 intro g_0_1 W6 hu7 Ha8; clear Ha4; clear hu7
 refine aA ?_
 refine aB rfl (aJ rfl) rfl rfl ?_
 refine aH ?_
 refine aG ?_
 refine wp_seq ?_
 refine aM [0, 1, 2, 3, 4, 5, 6, 7, 8, 9, 10, 11, 12, 13, 14, 15, 16, 17, 18, 19, 20, 21, 22, 23, 24, 25, 26, 27, 28, 29, 30, 31, 32, 33] rfl ?_
 refine aA ?_
 refine aB rfl (aL nR rfl) rfl rfl ?_
 refine aA ?_
 refine aB rfl (aN (k := 0) (v := .slice Ax0 x.bE.length cx0) Tryz.isAgg30 rfl (Ha8.blk 1 rfl) rfl) rfl rfl ?_
 refine aA ?_
 refine aB rfl (aL nR rfl) rfl rfl ?_
 refine aA ?_
 refine aB rfl (aN (k := 0) (v := .slice Ay0 y.bE.length cy0) Tryz.isAgg30 rfl (Ha8.blk 0 rfl) rfl) rfl rfl ?_
 by_cases hg10 : (aV cO x.bE y.bE) = true
 ·refine aA ?_
  refine bP rfl Tryz.call43 (vs := #[.slice Ax0 x.bE.length cx0, .slice Ay0 y.bE.length cy0, .func (.func 44) #[] #[]]) rfl rfl rfl (fK (eqF_Script x.bE y.bE _ _ _ _ _ (aS Ha8.1 hCx0) (aS Ha8.1 hCy0)) hg10) ?_
  rintro e13 W12 ⟨rfl, hu11⟩; refine ⟨_, rfl, ?_⟩
  have H14 := Ha8.no hu11; clear Ha8
  refine aA ?_
  refine aB rfl (aF rfl) rfl rfl ?_
  refine aA ?_
  refine aR rfl rfl rfl rfl (fun _ ho15 => ?_)
  refine aB ho15 (aL nS rfl) rfl rfl ?_
  refine aA ?_
  refine aR rfl rfl rfl rfl (fun _ ho16 => ?_)
  refine aB ho16 (aN (k := 1) (v := .slice Ax1 x.eT.length cx1) Tryz.isAgg31 rfl (H14.blk 1 rfl) rfl) rfl rfl ?_
  refine aA ?_
  refine aR rfl rfl rfl rfl (fun _ ho17 => ?_)
  refine aB ho17 (aL nS rfl) rfl rfl ?_
  refine aA ?_
  refine aR rfl rfl rfl rfl (fun _ ho18 => ?_)
  refine aB ho18 (aN (k := 1) (v := .slice Ay1 y.eT.length cy1) Tryz.isAgg31 rfl (H14.blk 0 rfl) rfl) rfl rfl ?_
  by_cases hg19 : (aV dK x.eT y.eT) = true
  ·refine aA ?_
   refine aR rfl rfl rfl rfl (fun _ ho20 => ?_)
   refine bP ho20 Tryz.call45 (vs := #[.slice Ax1 x.eT.length cx1, .slice Ay1 y.eT.length cy1, .func (.func 46) #[] #[]]) rfl rfl rfl (fK (eqF_Vat x.eT y.eT _ _ _ _ _ (aS H14.1 hCx1) (aS H14.1 hCy1)) hg19) ?_
   rintro e23 W22 ⟨rfl, hu21⟩; refine ⟨_, rfl, ?_⟩
   have H24 := H14.no hu21; clear H14
   refine aA ?_
   refine aB rfl (aI (v := .bool (true)) (b := true) rfl rfl rfl rfl) rfl rfl ?_
   refine aA ?_
   refine aB rfl (aF rfl) rfl rfl ?_
   refine aA ?_
   refine aR rfl rfl rfl rfl (fun _ ho25 => ?_)
   refine aB ho25 (aL fa_35_2 rfl) rfl rfl ?_
   refine aA ?_
   refine aR rfl rfl rfl rfl (fun _ ho26 => ?_)
   refine aB ho26 (aN (k := 2) (v := .slice Ax2 x.bH.length cx2) Tryz.isAgg32 rfl (H24.blk 1 rfl) rfl) rfl rfl ?_
   refine aA ?_
   refine aR rfl rfl rfl rfl (fun _ ho27 => ?_)
   refine aB ho27 (aL fa_35_2 rfl) rfl rfl ?_
   refine aA ?_
   refine aR rfl rfl rfl rfl (fun _ ho28 => ?_)
   refine aB ho28 (aN (k := 2) (v := .slice Ay2 y.bH.length cy2) Tryz.isAgg32 rfl (H24.blk 0 rfl) rfl) rfl rfl ?_
   by_cases hg29 : (aV bG x.bH y.bH) = true
   ·refine aA ?_
    refine aR rfl rfl rfl rfl (fun _ ho30 => ?_)
    refine bP ho30 Tryz.call47 (vs := #[.slice Ax2 x.bH.length cx2, .slice Ay2 y.bH.length cy2]) rfl rfl rfl (fK (equalChannels_i x.bH y.bH _ _ _ _ _ (aS H24.1 hCx2) (aS H24.1 hCy2)) hg29) ?_
    rintro e33 W32 ⟨rfl, hu31⟩; refine ⟨_, rfl, ?_⟩
    have H34 := H24.no hu31; clear H24
    refine aA ?_
    refine aB rfl (aI (v := .bool (true)) (b := true) rfl rfl rfl rfl) rfl rfl ?_
    refine aA ?_
    refine aB rfl (aF rfl) rfl rfl ?_
    refine aA ?_
    refine aR rfl rfl rfl rfl (fun _ ho35 => ?_)
    refine aB ho35 (aL nT rfl) rfl rfl ?_
    refine aA ?_
    refine aR rfl rfl rfl rfl (fun _ ho36 => ?_)
    refine aB ho36 (aN (k := 3) (v := .slice Ax3 x.bK.length cx3) Tryz.isAgg33 rfl (H34.blk 1 rfl) rfl) rfl rfl ?_
    refine aA ?_
    refine aR rfl rfl rfl rfl (fun _ ho37 => ?_)
    refine aB ho37 (aL nT rfl) rfl rfl ?_
    refine aA ?_
    refine aR rfl rfl rfl rfl (fun _ ho38 => ?_)
    refine aB ho38 (aN (k := 3) (v := .slice Ay3 y.bK.length cy3) Tryz.isAgg33 rfl (H34.blk 0 rfl) rfl) rfl rfl ?_
    by_cases hg39 : (aV fZ x.bK y.bK) = true
    ·refine aA ?_
     refine aR rfl rfl rfl rfl (fun _ ho40 => ?_)
     refine bP ho40 Tryz.call48 (vs := #[.slice Ax3 x.bK.length cx3, .slice Ay3 y.bK.length cy3]) rfl rfl rfl (fK (eqI_Note x.bK y.bK _ _ _ _ _ (aS H34.1 hCx3) (aS H34.1 hCy3)) hg39) ?_
     rintro e43 W42 ⟨rfl, hu41⟩; refine ⟨_, rfl, ?_⟩
     have H44 := H34.no hu41; clear H34
     refine aA ?_
     refine aB rfl (aI (v := .bool (true)) (b := true) rfl rfl rfl rfl) rfl rfl ?_
     refine aA ?_
     refine aB rfl (aF rfl) rfl rfl ?_
     refine aA ?_
     refine aR rfl rfl rfl rfl (fun _ ho45 => ?_)
     refine aB ho45 (aL fa_35_4 rfl) rfl rfl ?_
     refine aA ?_
     refine aR rfl rfl rfl rfl (fun _ ho46 => ?_)
     refine aB ho46 (aN (k := 4) (v := .int .i64 (x.eO)) Tryz.isAgg3 rfl (H44.blk 1 rfl) rfl) rfl rfl ?_
     refine aA ?_
     refine aR rfl rfl rfl rfl (fun _ ho47 => ?_)
     refine aB ho47 (aL fa_35_4 rfl) rfl rfl ?_
     refine aA ?_
     refine aR rfl rfl rfl rfl (fun _ ho48 => ?_)
     refine aB ho48 (aN (k := 4) (v := .int .i64 (y.eO)) Tryz.isAgg3 rfl (H44.blk 0 rfl) rfl) rfl rfl ?_
     by_cases hg49 : (x.eO : Int) = y.eO
     ·refine aA ?_
      refine aR rfl rfl rfl rfl (fun _ ho50 => ?_)
      refine aB ho50 (bV hg49 (eH rfl rfl)) rfl rfl ?_
      refine aA ?_
      refine aB rfl (aI (v := .bool (true)) (b := true) rfl rfl rfl rfl) rfl rfl ?_
      refine aA ?_
      refine aB rfl (aJ rfl) rfl rfl ?_
      refine aH ?_
      refine aG ?_
      refine wp_ret ?_
      have hr51 : dX x y = true := by simp [dX, hg10, hg19, hg29, hg39, hg49]
      refine aQ (.inl rfl) Tryz.results18 rfl ?_
      rw [hr51]
      exact ⟨rfl, H44.1⟩
     ·refine aA ?_
      refine aR rfl rfl rfl rfl (fun _ ho52 => ?_)
      refine aB ho52 (bO hg49 (eH rfl rfl)) rfl rfl ?_
      refine aA ?_
      refine aB rfl (aI (v := .bool (false)) (b := true) rfl rfl rfl rfl) rfl rfl ?_
      refine aA ?_
      refine aB rfl (aJ rfl) rfl rfl ?_
      refine aH ?_
      refine aG ?_
      refine wp_ret ?_
      have hr53 : dX x y = false := by simp [dX, hg10, hg19, hg29, hg39, hg49]
      refine aQ (.inl rfl) Tryz.results18 rfl ?_
      rw [hr53]
      exact ⟨rfl, H44.1⟩
    ·refine aA ?_
     refine aR rfl rfl rfl rfl (fun _ ho54 => ?_)
     refine bP ho54 Tryz.call48 (vs := #[.slice Ax3 x.bK.length cx3, .slice Ay3 y.bK.length cy3]) rfl rfl rfl (fK (eqI_Note x.bK y.bK _ _ _ _ _ (aS H34.1 hCx3) (aS H34.1 hCy3)) (eq_false_of_ne_true hg39)) ?_
     rintro e57 W56 ⟨rfl, hu55⟩; refine ⟨_, rfl, ?_⟩
     have H58 := H34.no hu55; clear H34
     refine aA ?_
     refine aB rfl (aI (v := .bool (false)) (b := true) rfl rfl rfl rfl) rfl rfl ?_
     refine aA ?_
     refine aB rfl (aF rfl) rfl rfl ?_
     refine aA ?_
     refine aC rfl rfl rfl rfl rfl rfl rfl ?_
     refine aA ?_
     refine aC rfl rfl rfl rfl rfl rfl rfl ?_
     refine aA ?_
     refine aC rfl rfl rfl rfl rfl rfl rfl ?_
     refine aA ?_
     refine aC rfl rfl rfl rfl rfl rfl rfl ?_
     refine aA ?_
     refine aC rfl rfl rfl rfl rfl rfl rfl ?_
     refine aA ?_
     refine aB rfl (aI (v := .bool (false)) (b := false) rfl rfl rfl rfl) rfl rfl ?_
     refine aA ?_
     refine aB rfl (aJ rfl) rfl rfl ?_
     refine aH ?_
     refine aG ?_
     refine wp_ret ?_
     have hr59 : dX x y = false := by simp [dX, hg10, hg19, hg29, hg39]
     refine aQ (.inl rfl) Tryz.results18 rfl ?_
     rw [hr59]
     exact ⟨rfl, H58.1⟩
   ·refine aA ?_
    refine aR rfl rfl rfl rfl (fun _ ho60 => ?_)
    refine bP ho60 Tryz.call47 (vs := #[.slice Ax2 x.bH.length cx2, .slice Ay2 y.bH.length cy2]) rfl rfl rfl (fK (equalChannels_i x.bH y.bH _ _ _ _ _ (aS H24.1 hCx2) (aS H24.1 hCy2)) (eq_false_of_ne_true hg29)) ?_
    rintro e63 W62 ⟨rfl, hu61⟩; refine ⟨_, rfl, ?_⟩
    have H64 := H24.no hu61; clear H24
    refine aA ?_
    refine aB rfl (aI (v := .bool (false)) (b := true) rfl rfl rfl rfl) rfl rfl ?_
    refine aA ?_
    refine aB rfl (aF rfl) rfl rfl ?_
    refine aA ?_
    refine aC rfl rfl rfl rfl rfl rfl rfl ?_
    refine aA ?_
    refine aC rfl rfl rfl rfl rfl rfl rfl ?_
    refine aA ?_
    refine aC rfl rfl rfl rfl rfl rfl rfl ?_
    refine aA ?_
    refine aC rfl rfl rfl rfl rfl rfl rfl ?_
    refine aA ?_
    refine aC rfl rfl rfl rfl rfl rfl rfl ?_
    refine aA ?_
    refine aB rfl (aI (v := .bool (false)) (b := false) rfl rfl rfl rfl) rfl rfl ?_
    refine aA ?_
    refine aB rfl (aF rfl) rfl rfl ?_
    refine aA ?_
    refine aC rfl rfl rfl rfl rfl rfl rfl ?_
    refine aA ?_
    refine aC rfl rfl rfl rfl rfl rfl rfl ?_
    refine aA ?_
    refine aC rfl rfl rfl rfl rfl rfl rfl ?_
    refine aA ?_
    refine aC rfl rfl rfl rfl rfl rfl rfl ?_
    refine aA ?_
    refine aC rfl rfl rfl rfl rfl rfl rfl ?_
    refine aA ?_
    refine aB rfl (aI (v := .bool (false)) (b := false) rfl rfl rfl rfl) rfl rfl ?_
    refine aA ?_
    refine aB rfl (aJ rfl) rfl rfl ?_
    refine aH ?_
    refine aG ?_
    refine wp_ret ?_
    have hr65 : dX x y = false := by simp [dX, hg10, hg19, hg29]
    refine aQ (.inl rfl) Tryz.results18 rfl ?_
    rw [hr65]
    exact ⟨rfl, H64.1⟩
  ·refine aA ?_
   refine aR rfl rfl rfl rfl (fun _ ho66 => ?_)
   refine bP ho66 Tryz.call45 (vs := #[.slice Ax1 x.eT.length cx1, .slice Ay1 y.eT.length cy1, .func (.func 46) #[] #[]]) rfl rfl rfl (fK (eqF_Vat x.eT y.eT _ _ _ _ _ (aS H14.1 hCx1) (aS H14.1 hCy1)) (eq_false_of_ne_true hg19)) ?_
   rintro e69 W68 ⟨rfl, hu67⟩; refine ⟨_, rfl, ?_⟩
   have H70 := H14.no hu67; clear H14
   refine aA ?_
   refine aB rfl (aI (v := .bool (false)) (b := true) rfl rfl rfl rfl) rfl rfl ?_
   refine aA ?_
   refine aB rfl (aF rfl) rfl rfl ?_
   refine aA ?_
   refine aC rfl rfl rfl rfl rfl rfl rfl ?_
   refine aA ?_
   refine aC rfl rfl rfl rfl rfl rfl rfl ?_
   refine aA ?_
   refine aC rfl rfl rfl rfl rfl rfl rfl ?_
   refine aA ?_
   refine aC rfl rfl rfl rfl rfl rfl rfl ?_
   refine aA ?_
   refine aC rfl rfl rfl rfl rfl rfl rfl ?_
   refine aA ?_
   refine aB rfl (aI (v := .bool (false)) (b := false) rfl rfl rfl rfl) rfl rfl ?_
   refine aA ?_
   refine aB rfl (aF rfl) rfl rfl ?_
   refine aA ?_
   refine aC rfl rfl rfl rfl rfl rfl rfl ?_
   refine aA ?_
   refine aC rfl rfl rfl rfl rfl rfl rfl ?_
   refine aA ?_
   refine aC rfl rfl rfl rfl rfl rfl rfl ?_
   refine aA ?_
   refine aC rfl rfl rfl rfl rfl rfl rfl ?_
   refine aA ?_
   refine aC rfl rfl rfl rfl rfl rfl rfl ?_
   refine aA ?_
   refine aB rfl (aI (v := .bool (false)) (b := false) rfl rfl rfl rfl) rfl rfl ?_
   refine aA ?_
   refine aB rfl (aF rfl) rfl rfl ?_
   refine aA ?_
   refine aC rfl rfl rfl rfl rfl rfl rfl ?_
   refine aA ?_
   refine aC rfl rfl rfl rfl rfl rfl rfl ?_
   refine aA ?_
   refine aC rfl rfl rfl rfl rfl rfl rfl ?_
   refine aA ?_
   refine aC rfl rfl rfl rfl rfl rfl rfl ?_
   refine aA ?_
   refine aC rfl rfl rfl rfl rfl rfl rfl ?_
   refine aA ?_
   refine aB rfl (aI (v := .bool (false)) (b := false) rfl rfl rfl rfl) rfl rfl ?_
   refine aA ?_
   refine aB rfl (aJ rfl) rfl rfl ?_
   refine aH ?_
   refine aG ?_
   refine wp_ret ?_
   have hr71 : dX x y = false := by simp [dX, hg10, hg19]
   refine aQ (.inl rfl) Tryz.results18 rfl ?_
   rw [hr71]
   exact ⟨rfl, H70.1⟩
 ·refine aA ?_
  refine bP rfl Tryz.call43 (vs := #[.slice Ax0 x.bE.length cx0, .slice Ay0 y.bE.length cy0, .func (.func 44) #[] #[]]) rfl rfl rfl (fK (eqF_Script x.bE y.bE _ _ _ _ _ (aS Ha8.1 hCx0) (aS Ha8.1 hCy0)) (eq_false_of_ne_true hg10)) ?_
  rintro e74 W73 ⟨rfl, hu72⟩; refine ⟨_, rfl, ?_⟩
  have H75 := Ha8.no hu72; clear Ha8
  refine aA ?_
  refine aB rfl (aF rfl) rfl rfl ?_
  refine aA ?_
  refine aC rfl rfl rfl rfl rfl rfl rfl ?_
  refine aA ?_
  refine aC rfl rfl rfl rfl rfl rfl rfl ?_
  refine aA ?_
  refine aC rfl rfl rfl rfl rfl rfl rfl ?_
  refine aA ?_
  refine aC rfl rfl rfl rfl rfl rfl rfl ?_
  refine aA ?_
  refine aC rfl rfl rfl rfl rfl rfl rfl ?_
  refine aA ?_
  refine aB rfl (aI (v := .bool (false)) (b := false) rfl rfl rfl rfl) rfl rfl ?_
  refine aA ?_
  refine aB rfl (aF rfl) rfl rfl ?_
  refine aA ?_
  refine aC rfl rfl rfl rfl rfl rfl rfl ?_
  refine aA ?_
  refine aC rfl rfl rfl rfl rfl rfl rfl ?_
  refine aA ?_
  refine aC rfl rfl rfl rfl rfl rfl rfl ?_
  refine aA ?_
  refine aC rfl rfl rfl rfl rfl rfl rfl ?_
  refine aA ?_
  refine aC rfl rfl rfl rfl rfl rfl rfl ?_
  refine aA ?_
  refine aB rfl (aI (v := .bool (false)) (b := false) rfl rfl rfl rfl) rfl rfl ?_
  refine aA ?_
  refine aB rfl (aF rfl) rfl rfl ?_
  refine aA ?_
  refine aC rfl rfl rfl rfl rfl rfl rfl ?_
  refine aA ?_
  refine aC rfl rfl rfl rfl rfl rfl rfl ?_
  refine aA ?_
  refine aC rfl rfl rfl rfl rfl rfl rfl ?_
  refine aA ?_
  refine aC rfl rfl rfl rfl rfl rfl rfl ?_
  refine aA ?_
  refine aC rfl rfl rfl rfl rfl rfl rfl ?_
  refine aA ?_
  refine aB rfl (aI (v := .bool (false)) (b := false) rfl rfl rfl rfl) rfl rfl ?_
  refine aA ?_
  refine aB rfl (aF rfl) rfl rfl ?_
  refine aA ?_
  refine aC rfl rfl rfl rfl rfl rfl rfl ?_
  refine aA ?_
  refine aC rfl rfl rfl rfl rfl rfl rfl ?_
  refine aA ?_
  refine aC rfl rfl rfl rfl rfl rfl rfl ?_
  refine aA ?_
  refine aC rfl rfl rfl rfl rfl rfl rfl ?_
  refine aA ?_
  refine aC rfl rfl rfl rfl rfl rfl rfl ?_
  refine aA ?_
  refine aB rfl (aI (v := .bool (false)) (b := false) rfl rfl rfl rfl) rfl rfl ?_
  refine aA ?_
  refine aB rfl (aJ rfl) rfl rfl ?_
  refine aH ?_
  refine aG ?_
  refine wp_ret ?_
  have hr76 : dX x y = false := by simp [dX, hg10]
  refine aQ (.inl rfl) Tryz.results18 rfl ?_
  rw [hr76]
  exact ⟨rfl, H75.1⟩
end Go.Proofs.YtgaoabnnpjngcaaGreatFam
namespace Go.Proofs.YtgaoabnnpjngcaaGreatSep
open Go.ChangeShapes Go.WideShapes Go.RowKit
section
variable {P : Program} {ops : Array Oper} {Q : Exit → Act → World → Prop} {md : Region.Mode} {S : World → Prop} {t : Nat}
theorem aK {i d n : Nat} {x : Nat → Value} {live : List (Nat × Value)} {dst : Option Nat} {op : Op} {ty : Nat} {pos : String} {aft : Array Edge} {v : Value} {fuel : Nat} {listed : Array Bool} {w : World} {j dj : Nat} {want : Bool} {oj : Oper} (hi : ops[i]? = some ⟨dst, op, ty, pos, aft, some (j, want)⟩)
 (hj : ops[j]? = some oj) (hdj : oj.dst = some dj) (hv : evl n live (.tmp dj) = some (.bool want))
 (hs : Region.noSelect ops = true) (hf : Region.free md ops listed i = true) (hr : (Region.ready md ops listed).contains i = true) (hw : waits md ops t i = true) (ht : listed.getD t false = false)
 (hQ : ∀ c a w, Q (.panic c) (a.put dst v) w → Q (.panic c) a w) (hd : dst = some d) (hdn : decide (d < n) = true) (hS : S w) (hy : ∀ W, S W → Rn P ⟨dst, op, ty, pos, aft, none⟩ (bT n x live) W v)
 (h : wpAnyS P md ops Q S t fuel (listed.setIfInBounds i true) (bT n x ((d, v) :: live)) w) : wpAnyS P md ops Q S t (fuel + 1) listed (bT n x live) w := by
 subst hd
 exact anyS_first hi (Region.noSelect_spec hs) hw hQ fuel listed _ w (Region.free_spec hi hf) (by simpa using hr) (.inl ⟨by rw [wanted_G rfl hj hdj hv]; simp, fun W hSW => hy W hSW⟩) hS ht (by rw [kW (of_decide_eq_true hdn)]; exact h)
theorem aO {i d n : Nat} {x : Nat → Value} {live : List (Nat × Value)} {dst : Option Nat} {op : Op} {ty : Nat} {pos : String} {aft : Array Edge} {fuel : Nat} {listed : Array Bool} {w : World} {j dj : Nat} {want b : Bool} {oj : Oper} (hi : ops[i]? = some ⟨dst, op, ty, pos, aft, some (j, want)⟩)
 (hj : ops[j]? = some oj) (hdj : oj.dst = some dj) (hv : evl n live (.tmp dj) = some (.bool b)) (hb : (b == want) = false)
 (hs : Region.noSelect ops = true) (hf : Region.free md ops listed i = true) (hr : (Region.ready md ops listed).contains i = true) (hw : waits md ops t i = true) (ht : listed.getD t false = false)
 (hQ : ∀ c a w, Q (.panic c) (a.put dst undef) w → Q (.panic c) a w) (hd : dst = some d) (hdn : decide (d < n) = true) (hS : S w)
 (h : wpAnyS P md ops Q S t fuel (listed.setIfInBounds i true) (bT n x ((d, undef) :: live)) w) : wpAnyS P md ops Q S t (fuel + 1) listed (bT n x live) w := by
 subst hd
 exact anyS_first hi (Region.noSelect_spec hs) hw hQ fuel listed _ w (Region.free_spec hi hf) (by simpa using hr) (.inr ⟨by rw [wanted_G rfl hj hdj hv, hb], rfl⟩) hS ht (by rw [kW (of_decide_eq_true hdn)]; exact h)
end
section
variable {P : Program} {n ty : Nat} {x : Nat → Value} {live : List (Nat × Value)} {W : World} {pos : String} {aft : Array Edge} {y z : Operand} {dst : Option Nat} {xt yt e : Nat}
end
end Go.Proofs.YtgaoabnnpjngcaaGreatSep
namespace Go.Proofs.YtgaoabnnpjngcaaGreatFam
open Go.ChangeShapes Go.WideShapes Go.RowKit Go.Proofs.YtgaoabnnpjngcaaGreatSep Go.Proofs.YtgaoabnnpjngcaaGreatT Go.Proofs.YtgaoabnnpjngcaaGreatK
set_option linter.unusedVariables false
set_option linter.unusedSimpArgs false
attribute [local irreducible] wpOps wpOp
set_option maxHeartbeats 4000000
set_option maxRecDepth 100000
theorem kJ (l k : List GValue) (A A' : Option Addr) (c c' : Nat) (w : World) (h : C dY w A l) (h' : C dY w A' k) : Calls Tryz.prog 113 #[.slice A l.length c, .slice A' k.length c'] w (bW (aV dI l k) w) := by
 have nx := h.1
 refine enter 26 [(0, .slice A l.length c), (1, .slice A' k.length c')] Tryz.func113 rfl kR ?_
 intro xj
 have H1 : St w No [] w := St.enter
 refine wp_seq ?_
 refine aM [0] rfl ?_
 refine aA ?_
 refine aB rfl (aJ rfl) rfl rfl ?_
 refine aH ?_
 refine aG ?_
 refine wp_seq ?_
 refine wp_seq ?_
 refine aM [0, 1, 2, 3, 4] rfl ?_
 refine aA ?_
 refine aB rfl (aF rfl) rfl rfl ?_
 refine aA ?_
 refine aB rfl (bQ Tryz.runUnderlying127 rfl) rfl rfl ?_
 refine aA ?_
 refine aB rfl (aF rfl) rfl rfl ?_
 refine aA ?_
 refine aB rfl (bQ Tryz.runUnderlying127 rfl) rfl rfl ?_
 by_cases hg2 : ¬ ((l.length : Nat) : Int) = (k.length : Nat)
 ·refine aA ?_
  refine aB rfl (bV hg2 (bN rfl rfl)) rfl rfl ?_
  refine aH ?_
  refine aG ?_
  refine bX rfl ?_
  refine wp_seq ?_
  refine aM [0] rfl ?_
  refine aA ?_
  refine aB rfl (aJ rfl) rfl rfl ?_
  refine aH ?_
  refine aG ?_
  refine wp_ret ?_
  refine aU ?_
  have hz3 : ∀ f, aV f l k = false := fun f => eY f l k kO
  have hr4 : aV dI l k = false := by simp [hz3]
  refine aQ (.inl rfl) Tryz.results113 rfl ?_
  rw [hr4]
  exact ⟨rfl, H1.1⟩
 ·refine aA ?_
  refine aB rfl (bO hg2 (bN rfl rfl)) rfl rfl ?_
  refine aH ?_
  refine aG ?_
  refine dU rfl ?_
  refine wp_skip ?_
  refine aG ?_
  refine wp_seq ?_
  refine wp_seq ?_
  refine aM [0] rfl ?_
  refine aA ?_
  refine aB rfl (aJ rfl) rfl rfl ?_
  refine aH ?_
  refine aG ?_
  refine wp_block ?_
  refine wp_loop_ghost (fun r a' W' => ∃ (i1 : Nat) (x' : Nat → Value), a' = bT 26 x' [(0, .slice A l.length c), (1, .slice A' k.length c'), (5, .int .i64 (((i1 : Nat) : Int)))] ∧ (i1 + r = l.length) ∧ (aV dI l k = aV dI (l.drop i1) (k.drop i1)) ∧ St w No [] W') l.length ?_ ?_
  ·exact (bA [(0, .slice A l.length c), (1, .slice A' k.length c'), (5, .int .i64 (((0 : Nat) : Int)))] rfl).elim fun x' hx => ⟨0, x', hx, kO, rfl, H1⟩
  ·rintro r5 _ W6 ⟨i1, x7, rfl, hi1, hf1, H8⟩; clear H1
   refine wp_seq ?_
   refine wp_seq ?_
   refine aM [0, 1, 2, 3] rfl ?_
   refine aA ?_
   refine aB rfl (aF rfl) rfl rfl ?_
   refine aA ?_
   refine aB rfl (aF rfl) rfl rfl ?_
   refine aA ?_
   refine aB rfl (bQ Tryz.runUnderlying127 rfl) rfl rfl ?_
   refine aA ?_
   refine aB rfl (gY rfl rfl) rfl rfl ?_
   refine aH ?_
   refine aG ?_
   refine eP rfl (fun hc9 => ?_) (fun hc9 => ?_)
   ·have hlt1 : i1 < l.length := by omega
    have hlu1 : i1 < k.length := by omega
    obtain ⟨ade10, cse10, hAe10, hKe10, hce10⟩ := dO h i1 hlt1
    have hle10 := oC hKe10
    have hoe10 := oD hKe10
    obtain ⟨ade11, cse11, hAe11, hKe11, hce11⟩ := dO h' i1 hlu1
    have hle11 := oC hKe11
    have hoe11 := oD hKe11
    obtain rfl := j6 hKe10
    obtain rfl := j6 hKe11
    refine wp_skip ?_
    refine aG ?_
    refine wp_seq ?_
    refine wp_block ?_
    refine wp_seq ?_
    by_cases hg12 : (dI (l[i1]) (k[i1])) = true
    ·refine dD (fun W' => Cat W' (Addr.add ade10 (i1 * 2)) [.int .i64 (l[i1].Kind), .int .i64 (l[i1].N)] ∧ Cat W' (Addr.add ade11 (i1 * 2)) [.int .i64 (k[i1].Kind), .int .i64 (k[i1].N)]) 9 kR ?_
     have H13 := H8.drew; clear H8
     have hS14 : Cat W6.drew (Addr.add ade10 (i1 * 2)) [.int .i64 (l[i1].Kind), .int .i64 (l[i1].N)] ∧ Cat W6.drew (Addr.add ade11 (i1 * 2)) [.int .i64 (k[i1].Kind), .int .i64 (k[i1].N)] := ⟨(Cat.upd hce10 H13.1), (Cat.upd hce11 H13.1)⟩
     refine aD (i := 0) rfl kR kR kR kR kR (fun _ _ _ h => h) rfl rfl hS14 (fun W' hs' => aF rfl) ?_
     refine aD (i := 1) rfl kR kR kR kR kR (fun _ _ _ h => h) rfl rfl hS14 (fun W' hs' => aF rfl) ?_
     refine aD (i := 2) rfl kR kR kR kR kR (fun _ _ _ h => h) rfl rfl hS14 (fun W' hs' => aP (k := i1) Tryz.runUnderlying127 Tryz.sizeOf129 rfl rfl hAe10 hlt1) ?_
     refine aD (i := 3) rfl kR kR kR kR kR (fun _ _ _ h => h) rfl rfl hS14 (fun W' hs' => aY Tryz.isAgg129 Tryz.sizeOf129 rfl hs'.1 rfl) ?_
     refine aD (i := 4) rfl kR kR kR kR kR (fun _ _ _ h => h) rfl rfl hS14 (fun W' hs' => aF rfl) ?_
     refine aD (i := 5) rfl kR kR kR kR kR (fun _ _ _ h => h) rfl rfl hS14 (fun W' hs' => aF rfl) ?_
     refine aD (i := 6) rfl kR kR kR kR kR (fun _ _ _ h => h) rfl rfl hS14 (fun W' hs' => aP (k := i1) Tryz.runUnderlying127 Tryz.sizeOf129 rfl rfl hAe11 hlu1) ?_
     refine aD (i := 7) rfl kR kR kR kR kR (fun _ _ _ h => h) rfl rfl hS14 (fun W' hs' => aY Tryz.isAgg129 Tryz.sizeOf129 rfl hs'.2 rfl) ?_
     refine aD (i := 8) rfl kR kR kR kR kR (fun _ _ _ h => h) rfl rfl hS14 (fun W' hs' => cZ (b := !(dI (l[i1]) (k[i1]))) (by rw [hg12]) (fJ Tryz.eqGuardType129 rfl rfl (l8 (l[i1]) (k[i1]) _ 9998))) ?_
     refine bU kR ?_ _
     refine aG ?_
     refine dU rfl ?_
     refine wp_skip ?_
     refine iY ?_
     refine aG ?_
     refine aM [0, 1, 2] rfl ?_
     refine aA ?_
     refine aB rfl (aF rfl) rfl rfl ?_
     refine aA ?_
     refine aB rfl (iB (k := i1) rfl rfl kO) rfl rfl ?_
     refine aA ?_
     refine aB rfl (aJ rfl) rfl rfl ?_
     refine aH ?_
     refine aG ?_
     exact (bA [(0, .slice A l.length c), (1, .slice A' k.length c'), (5, .int .i64 (((i1 + 1 : Nat) : Int)))] rfl).elim fun x' hx => ⟨r5 - 1, kO, i1 + 1, x', hx, kO, (hf1.trans (fC dI l k i1 hlt1 hlu1 hg12)), H13⟩
    ·refine dD (fun W' => Cat W' (Addr.add ade10 (i1 * 2)) [.int .i64 (l[i1].Kind), .int .i64 (l[i1].N)] ∧ Cat W' (Addr.add ade11 (i1 * 2)) [.int .i64 (k[i1].Kind), .int .i64 (k[i1].N)]) 9 kR ?_
     have H15 := H8.drew; clear H8
     have hS16 : Cat W6.drew (Addr.add ade10 (i1 * 2)) [.int .i64 (l[i1].Kind), .int .i64 (l[i1].N)] ∧ Cat W6.drew (Addr.add ade11 (i1 * 2)) [.int .i64 (k[i1].Kind), .int .i64 (k[i1].N)] := ⟨(Cat.upd hce10 H15.1), (Cat.upd hce11 H15.1)⟩
     refine aD (i := 0) rfl kR kR kR kR kR (fun _ _ _ h => h) rfl rfl hS16 (fun W' hs' => aF rfl) ?_
     refine aD (i := 1) rfl kR kR kR kR kR (fun _ _ _ h => h) rfl rfl hS16 (fun W' hs' => aF rfl) ?_
     refine aD (i := 2) rfl kR kR kR kR kR (fun _ _ _ h => h) rfl rfl hS16 (fun W' hs' => aP (k := i1) Tryz.runUnderlying127 Tryz.sizeOf129 rfl rfl hAe10 hlt1) ?_
     refine aD (i := 3) rfl kR kR kR kR kR (fun _ _ _ h => h) rfl rfl hS16 (fun W' hs' => aY Tryz.isAgg129 Tryz.sizeOf129 rfl hs'.1 rfl) ?_
     refine aD (i := 4) rfl kR kR kR kR kR (fun _ _ _ h => h) rfl rfl hS16 (fun W' hs' => aF rfl) ?_
     refine aD (i := 5) rfl kR kR kR kR kR (fun _ _ _ h => h) rfl rfl hS16 (fun W' hs' => aF rfl) ?_
     refine aD (i := 6) rfl kR kR kR kR kR (fun _ _ _ h => h) rfl rfl hS16 (fun W' hs' => aP (k := i1) Tryz.runUnderlying127 Tryz.sizeOf129 rfl rfl hAe11 hlu1) ?_
     refine aD (i := 7) rfl kR kR kR kR kR (fun _ _ _ h => h) rfl rfl hS16 (fun W' hs' => aY Tryz.isAgg129 Tryz.sizeOf129 rfl hs'.2 rfl) ?_
     refine aD (i := 8) rfl kR kR kR kR kR (fun _ _ _ h => h) rfl rfl hS16 (fun W' hs' => cZ (b := !(dI (l[i1]) (k[i1]))) (by rw [(eq_false_of_ne_true hg12)]) (fJ Tryz.eqGuardType129 rfl rfl (l8 (l[i1]) (k[i1]) _ 9998))) ?_
     refine bU kR ?_ _
     refine aG ?_
     refine bX rfl ?_
     refine wp_seq ?_
     refine aM [0] rfl ?_
     refine aA ?_
     refine aB rfl (aJ rfl) rfl rfl ?_
     refine aH ?_
     refine aG ?_
     refine wp_ret ?_
     refine dS ?_
     refine aU ?_
     refine aU ?_
     refine dS ?_
     refine aU ?_
     have hz17 : aV dI l k = false := hf1.trans (eG dI l k i1 hlt1 hlu1 (eq_false_of_ne_true hg12))
     have hr18 : aV dI l k = false := by simp [hg12, hz17]
     refine aQ (.inl rfl) Tryz.results113 rfl ?_
     rw [hr18]
     exact ⟨rfl, H15.1⟩
   ·have hd1 : aV dI l k = true := hf1.trans (fD dI l k i1 kO kO)
    refine wp_exit ?_
    refine dP ?_
    refine dP ?_
    refine iZ ?_
    refine aG ?_
    refine wp_seq ?_
    refine aM [0] rfl ?_
    refine aA ?_
    refine aB rfl (aJ rfl) rfl rfl ?_
    refine aH ?_
    refine aG ?_
    refine wp_ret ?_
    have hr19 : aV dI l k = true := by simp [hd1]
    refine aQ (.inl rfl) Tryz.results113 rfl ?_
    rw [hr19]
    exact ⟨rfl, H8.1⟩
theorem l10Same_s (l k : List GQuestion) (A A' : Option Addr) (c c' : Nat) (w : World) (h : C dB w A l) (h' : C dB w A' k) : Calls Tryz.prog 114 #[.slice A l.length c, .slice A' k.length c'] w (bW (aV bY l k) w) := by
 have nx := h.1
 refine enter 26 [(0, .slice A l.length c), (1, .slice A' k.length c')] Tryz.func114 rfl kR ?_
 intro xj
 have H1 : St w No [] w := St.enter
 refine wp_seq ?_
 refine aM [0] rfl ?_
 refine aA ?_
 refine aB rfl (aJ rfl) rfl rfl ?_
 refine aH ?_
 refine aG ?_
 refine wp_seq ?_
 refine wp_seq ?_
 refine aM [0, 1, 2, 3, 4] rfl ?_
 refine aA ?_
 refine aB rfl (aF rfl) rfl rfl ?_
 refine aA ?_
 refine aB rfl (bQ Tryz.runUnderlying135 rfl) rfl rfl ?_
 refine aA ?_
 refine aB rfl (aF rfl) rfl rfl ?_
 refine aA ?_
 refine aB rfl (bQ Tryz.runUnderlying135 rfl) rfl rfl ?_
 by_cases hg2 : ¬ ((l.length : Nat) : Int) = (k.length : Nat)
 ·refine aA ?_
  refine aB rfl (bV hg2 (bN rfl rfl)) rfl rfl ?_
  refine aH ?_
  refine aG ?_
  refine bX rfl ?_
  refine wp_seq ?_
  refine aM [0] rfl ?_
  refine aA ?_
  refine aB rfl (aJ rfl) rfl rfl ?_
  refine aH ?_
  refine aG ?_
  refine wp_ret ?_
  refine aU ?_
  have hz3 : ∀ f, aV f l k = false := fun f => eY f l k kO
  have hr4 : aV bY l k = false := by simp [hz3]
  refine aQ (.inl rfl) Tryz.results114 rfl ?_
  rw [hr4]
  exact ⟨rfl, H1.1⟩
 ·refine aA ?_
  refine aB rfl (bO hg2 (bN rfl rfl)) rfl rfl ?_
  refine aH ?_
  refine aG ?_
  refine dU rfl ?_
  refine wp_skip ?_
  refine aG ?_
  refine wp_seq ?_
  refine wp_seq ?_
  refine aM [0] rfl ?_
  refine aA ?_
  refine aB rfl (aJ rfl) rfl rfl ?_
  refine aH ?_
  refine aG ?_
  refine wp_block ?_
  refine wp_loop_ghost (fun r a' W' => ∃ (i1 : Nat) (x' : Nat → Value), a' = bT 26 x' [(0, .slice A l.length c), (1, .slice A' k.length c'), (5, .int .i64 (((i1 : Nat) : Int)))] ∧ (i1 + r = l.length) ∧ (aV bY l k = aV bY (l.drop i1) (k.drop i1)) ∧ St w No [] W') l.length ?_ ?_
  ·exact (bA [(0, .slice A l.length c), (1, .slice A' k.length c'), (5, .int .i64 (((0 : Nat) : Int)))] rfl).elim fun x' hx => ⟨0, x', hx, kO, rfl, H1⟩
  ·rintro r5 _ W6 ⟨i1, x7, rfl, hi1, hf1, H8⟩; clear H1
   refine wp_seq ?_
   refine wp_seq ?_
   refine aM [0, 1, 2, 3] rfl ?_
   refine aA ?_
   refine aB rfl (aF rfl) rfl rfl ?_
   refine aA ?_
   refine aB rfl (aF rfl) rfl rfl ?_
   refine aA ?_
   refine aB rfl (bQ Tryz.runUnderlying135 rfl) rfl rfl ?_
   refine aA ?_
   refine aB rfl (gY rfl rfl) rfl rfl ?_
   refine aH ?_
   refine aG ?_
   refine eP rfl (fun hc9 => ?_) (fun hc9 => ?_)
   ·have hlt1 : i1 < l.length := by omega
    have hlu1 : i1 < k.length := by omega
    obtain ⟨ade10, cse10, hAe10, hKe10, hce10⟩ := dO h i1 hlt1
    have hle10 := lN hKe10
    have hoe10 := lQ hKe10
    obtain ⟨ade11, cse11, hAe11, hKe11, hce11⟩ := dO h' i1 hlu1
    have hle11 := lN hKe11
    have hoe11 := lQ hKe11
    obtain rfl := jA hKe10
    obtain rfl := jA hKe11
    refine wp_skip ?_
    refine aG ?_
    refine wp_seq ?_
    refine wp_block ?_
    refine wp_seq ?_
    by_cases hg12 : (bY (l[i1]) (k[i1])) = true
    ·refine dD (fun W' => Cat W' (Addr.add ade10 (i1 * 2)) [.int .i64 (l[i1].Id), .int .i64 (l[i1].Promise)] ∧ Cat W' (Addr.add ade11 (i1 * 2)) [.int .i64 (k[i1].Id), .int .i64 (k[i1].Promise)]) 9 kR ?_
     have H13 := H8.drew; clear H8
     have hS14 : Cat W6.drew (Addr.add ade10 (i1 * 2)) [.int .i64 (l[i1].Id), .int .i64 (l[i1].Promise)] ∧ Cat W6.drew (Addr.add ade11 (i1 * 2)) [.int .i64 (k[i1].Id), .int .i64 (k[i1].Promise)] := ⟨(Cat.upd hce10 H13.1), (Cat.upd hce11 H13.1)⟩
     refine aD (i := 0) rfl kR kR kR kR kR (fun _ _ _ h => h) rfl rfl hS14 (fun W' hs' => aF rfl) ?_
     refine aD (i := 1) rfl kR kR kR kR kR (fun _ _ _ h => h) rfl rfl hS14 (fun W' hs' => aF rfl) ?_
     refine aD (i := 2) rfl kR kR kR kR kR (fun _ _ _ h => h) rfl rfl hS14 (fun W' hs' => aP (k := i1) Tryz.runUnderlying135 Tryz.sizeOf193 rfl rfl hAe10 hlt1) ?_
     refine aD (i := 3) rfl kR kR kR kR kR (fun _ _ _ h => h) rfl rfl hS14 (fun W' hs' => aY Tryz.isAgg193 Tryz.sizeOf193 rfl hs'.1 rfl) ?_
     refine aD (i := 4) rfl kR kR kR kR kR (fun _ _ _ h => h) rfl rfl hS14 (fun W' hs' => aF rfl) ?_
     refine aD (i := 5) rfl kR kR kR kR kR (fun _ _ _ h => h) rfl rfl hS14 (fun W' hs' => aF rfl) ?_
     refine aD (i := 6) rfl kR kR kR kR kR (fun _ _ _ h => h) rfl rfl hS14 (fun W' hs' => aP (k := i1) Tryz.runUnderlying135 Tryz.sizeOf193 rfl rfl hAe11 hlu1) ?_
     refine aD (i := 7) rfl kR kR kR kR kR (fun _ _ _ h => h) rfl rfl hS14 (fun W' hs' => aY Tryz.isAgg193 Tryz.sizeOf193 rfl hs'.2 rfl) ?_
     refine aD (i := 8) rfl kR kR kR kR kR (fun _ _ _ h => h) rfl rfl hS14 (fun W' hs' => cZ (b := !(bY (l[i1]) (k[i1]))) (by rw [hg12]) (fJ Tryz.eqGuardType193 rfl rfl (oI (l[i1]) (k[i1]) _ 9998))) ?_
     refine bU kR ?_ _
     refine aG ?_
     refine dU rfl ?_
     refine wp_skip ?_
     refine iY ?_
     refine aG ?_
     refine aM [0, 1, 2] rfl ?_
     refine aA ?_
     refine aB rfl (aF rfl) rfl rfl ?_
     refine aA ?_
     refine aB rfl (iB (k := i1) rfl rfl kO) rfl rfl ?_
     refine aA ?_
     refine aB rfl (aJ rfl) rfl rfl ?_
     refine aH ?_
     refine aG ?_
     exact (bA [(0, .slice A l.length c), (1, .slice A' k.length c'), (5, .int .i64 (((i1 + 1 : Nat) : Int)))] rfl).elim fun x' hx => ⟨r5 - 1, kO, i1 + 1, x', hx, kO, (hf1.trans (fC bY l k i1 hlt1 hlu1 hg12)), H13⟩
    ·refine dD (fun W' => Cat W' (Addr.add ade10 (i1 * 2)) [.int .i64 (l[i1].Id), .int .i64 (l[i1].Promise)] ∧ Cat W' (Addr.add ade11 (i1 * 2)) [.int .i64 (k[i1].Id), .int .i64 (k[i1].Promise)]) 9 kR ?_
     have H15 := H8.drew; clear H8
     have hS16 : Cat W6.drew (Addr.add ade10 (i1 * 2)) [.int .i64 (l[i1].Id), .int .i64 (l[i1].Promise)] ∧ Cat W6.drew (Addr.add ade11 (i1 * 2)) [.int .i64 (k[i1].Id), .int .i64 (k[i1].Promise)] := ⟨(Cat.upd hce10 H15.1), (Cat.upd hce11 H15.1)⟩
     refine aD (i := 0) rfl kR kR kR kR kR (fun _ _ _ h => h) rfl rfl hS16 (fun W' hs' => aF rfl) ?_
     refine aD (i := 1) rfl kR kR kR kR kR (fun _ _ _ h => h) rfl rfl hS16 (fun W' hs' => aF rfl) ?_
     refine aD (i := 2) rfl kR kR kR kR kR (fun _ _ _ h => h) rfl rfl hS16 (fun W' hs' => aP (k := i1) Tryz.runUnderlying135 Tryz.sizeOf193 rfl rfl hAe10 hlt1) ?_
     refine aD (i := 3) rfl kR kR kR kR kR (fun _ _ _ h => h) rfl rfl hS16 (fun W' hs' => aY Tryz.isAgg193 Tryz.sizeOf193 rfl hs'.1 rfl) ?_
     refine aD (i := 4) rfl kR kR kR kR kR (fun _ _ _ h => h) rfl rfl hS16 (fun W' hs' => aF rfl) ?_
     refine aD (i := 5) rfl kR kR kR kR kR (fun _ _ _ h => h) rfl rfl hS16 (fun W' hs' => aF rfl) ?_
     refine aD (i := 6) rfl kR kR kR kR kR (fun _ _ _ h => h) rfl rfl hS16 (fun W' hs' => aP (k := i1) Tryz.runUnderlying135 Tryz.sizeOf193 rfl rfl hAe11 hlu1) ?_
     refine aD (i := 7) rfl kR kR kR kR kR (fun _ _ _ h => h) rfl rfl hS16 (fun W' hs' => aY Tryz.isAgg193 Tryz.sizeOf193 rfl hs'.2 rfl) ?_
     refine aD (i := 8) rfl kR kR kR kR kR (fun _ _ _ h => h) rfl rfl hS16 (fun W' hs' => cZ (b := !(bY (l[i1]) (k[i1]))) (by rw [(eq_false_of_ne_true hg12)]) (fJ Tryz.eqGuardType193 rfl rfl (oI (l[i1]) (k[i1]) _ 9998))) ?_
     refine bU kR ?_ _
     refine aG ?_
     refine bX rfl ?_
     refine wp_seq ?_
     refine aM [0] rfl ?_
     refine aA ?_
     refine aB rfl (aJ rfl) rfl rfl ?_
     refine aH ?_
     refine aG ?_
     refine wp_ret ?_
     refine dS ?_
     refine aU ?_
     refine aU ?_
     refine dS ?_
     refine aU ?_
     have hz17 : aV bY l k = false := hf1.trans (eG bY l k i1 hlt1 hlu1 (eq_false_of_ne_true hg12))
     have hr18 : aV bY l k = false := by simp [hg12, hz17]
     refine aQ (.inl rfl) Tryz.results114 rfl ?_
     rw [hr18]
     exact ⟨rfl, H15.1⟩
   ·have hd1 : aV bY l k = true := hf1.trans (fD bY l k i1 kO kO)
    refine wp_exit ?_
    refine dP ?_
    refine dP ?_
    refine iZ ?_
    refine aG ?_
    refine wp_seq ?_
    refine aM [0] rfl ?_
    refine aA ?_
    refine aB rfl (aJ rfl) rfl rfl ?_
    refine aH ?_
    refine aG ?_
    refine wp_ret ?_
    have hr19 : aV bY l k = true := by simp [hd1]
    refine aQ (.inl rfl) Tryz.results114 rfl ?_
    rw [hr19]
    exact ⟨rfl, H8.1⟩
theorem equalScripts_s (x y : GScript) (cx cy : List Value) (w : World) (h : eU.K w x cx) (h' : eU.K w y cy) : Calls Tryz.prog 40 #[.agg cx.toArray, .agg cy.toArray] w (bW (cO x y) w) := by
 obtain ⟨Ax1, cx1, rfl, hlx1, hCx1⟩ := kQ h
 obtain ⟨Ay1, cy1, rfl, hly1, hCy1⟩ := kQ h'
 have nx1 := hCx1.1
 refine enter 72 [(0, .agg #[.string (x.Name), .slice Ax1 x.Methods.length cx1]), (1, .agg #[.string (y.Name), .slice Ay1 y.Methods.length cy1])] Tryz.func40 rfl kR ?_
 intro xj
 have H1 : St w No [] w := St.enter
 refine wp_seq ?_
 refine aM [0, 1, 2] rfl ?_
 refine aA ?_
 refine gX rfl rfl rfl rfl H1 ?_
 intro g_0_0 W2 hu3 Ha4; clear H1; clear hu3
 refine aA ?_
 refine gX rfl rfl rfl rfl Ha4 ?_
 intro g_0_1 W6 hu7 Ha8; clear Ha4; clear hu7
 refine aA ?_
 refine aB rfl (aJ rfl) rfl rfl ?_
 refine aH ?_
 refine aG ?_
 refine wp_seq ?_
 refine wp_seq ?_
 refine aM [0, 1, 2, 3, 4, 5, 6, 7, 8, 9, 10, 11, 12, 13] rfl ?_
 refine aA ?_
 refine aB rfl (aL fa_73_0 rfl) rfl rfl ?_
 refine aA ?_
 refine aB rfl (aN (k := 0) (v := .string (x.Name)) Tryz.isAgg9 rfl (Ha8.blk 1 rfl) rfl) rfl rfl ?_
 refine aA ?_
 refine aB rfl (aL fa_73_0 rfl) rfl rfl ?_
 refine aA ?_
 refine aB rfl (aN (k := 0) (v := .string (y.Name)) Tryz.isAgg9 rfl (Ha8.blk 0 rfl) rfl) rfl rfl ?_
 by_cases hg10 : (x.Name.toList == y.Name.toList) = true
 ·refine aA ?_
  refine aB rfl (cZ (b := !(x.Name.toList == y.Name.toList)) (by rw [hg10]) (jV rfl rfl)) rfl rfl ?_
  refine aA ?_
  refine aB rfl (aF rfl) rfl rfl ?_
  refine aA ?_
  refine aR rfl rfl rfl rfl (fun _ ho11 => ?_)
  refine aB ho11 (aL fa_73_1 rfl) rfl rfl ?_
  refine aA ?_
  refine aR rfl rfl rfl rfl (fun _ ho12 => ?_)
  refine aB ho12 (aN (k := 1) (v := .slice Ax1 x.Methods.length cx1) Tryz.isAgg71 rfl (Ha8.blk 1 rfl) rfl) rfl rfl ?_
  refine aA ?_
  refine aR rfl rfl rfl rfl (fun _ ho13 => ?_)
  refine aB ho13 (bQ Tryz.runUnderlying71 rfl) rfl rfl ?_
  refine aA ?_
  refine aR rfl rfl rfl rfl (fun _ ho14 => ?_)
  refine aB ho14 (aL fa_73_1 rfl) rfl rfl ?_
  refine aA ?_
  refine aR rfl rfl rfl rfl (fun _ ho15 => ?_)
  refine aB ho15 (aN (k := 1) (v := .slice Ay1 y.Methods.length cy1) Tryz.isAgg71 rfl (Ha8.blk 0 rfl) rfl) rfl rfl ?_
  refine aA ?_
  refine aR rfl rfl rfl rfl (fun _ ho16 => ?_)
  refine aB ho16 (bQ Tryz.runUnderlying71 rfl) rfl rfl ?_
  by_cases hg17 : ¬ ((x.Methods.length : Nat) : Int) = (y.Methods.length : Nat)
  ·refine aA ?_
   refine aR rfl rfl rfl rfl (fun _ ho18 => ?_)
   refine aB ho18 (bV hg17 (bN rfl rfl)) rfl rfl ?_
   refine aA ?_
   refine aB rfl (aI (v := .bool (true)) (b := false) rfl rfl rfl rfl) rfl rfl ?_
   refine aH ?_
   refine aG ?_
   refine bX rfl ?_
   refine wp_seq ?_
   refine aM [0] rfl ?_
   refine aA ?_
   refine aB rfl (aJ rfl) rfl rfl ?_
   refine aH ?_
   refine aG ?_
   refine wp_ret ?_
   refine aU ?_
   have hz19 : ∀ f, aV f x.Methods y.Methods = false := fun f => eY f x.Methods y.Methods kO
   have hr20 : cO x y = false := by simp [cO, hg10, hz19]
   refine aQ (.inl rfl) Tryz.results40 rfl ?_
   rw [hr20]
   exact ⟨rfl, Ha8.1⟩
  ·refine aA ?_
   refine aR rfl rfl rfl rfl (fun _ ho21 => ?_)
   refine aB ho21 (bO hg17 (bN rfl rfl)) rfl rfl ?_
   refine aA ?_
   refine aB rfl (aI (v := .bool (false)) (b := false) rfl rfl rfl rfl) rfl rfl ?_
   refine aH ?_
   refine aG ?_
   refine dU rfl ?_
   refine wp_skip ?_
   refine aG ?_
   refine wp_seq ?_
   refine wp_seq ?_
   refine aM [0] rfl ?_
   refine aA ?_
   refine aB rfl (aJ rfl) rfl rfl ?_
   refine aH ?_
   refine aG ?_
   refine wp_block ?_
   refine wp_loop_ghost (fun r a' W' => ∃ (i1 : Nat) (x' : Nat → Value), a' = bT 72 x' [(2, .pointer (some ⟨g_0_0, 0, none⟩)), (3, .pointer (some ⟨g_0_1, 0, none⟩)), (5, .int .i64 (((i1 : Nat) : Int)))] ∧ (i1 + r = x.Methods.length) ∧ (aV dJ x.Methods y.Methods = aV dJ (x.Methods.drop i1) (y.Methods.drop i1)) ∧ St w No [hB g_0_1 73 #[.string (y.Name), .slice Ay1 y.Methods.length cy1], hB g_0_0 73 #[.string (x.Name), .slice Ax1 x.Methods.length cx1]] W') x.Methods.length ?_ ?_
   ·exact (bA [(2, .pointer (some ⟨g_0_0, 0, none⟩)), (3, .pointer (some ⟨g_0_1, 0, none⟩)), (5, .int .i64 (((0 : Nat) : Int)))] rfl).elim fun x' hx => ⟨0, x', hx, kO, rfl, Ha8⟩
   ·rintro r22 _ W23 ⟨i1, x24, rfl, hi1, hf1, H25⟩; clear Ha8
    refine wp_seq ?_
    refine wp_seq ?_
    refine aM [0, 1, 2, 3, 4] rfl ?_
    refine aA ?_
    refine aB rfl (aF rfl) rfl rfl ?_
    refine aA ?_
    refine aB rfl (aL fa_73_1 rfl) rfl rfl ?_
    refine aA ?_
    refine aB rfl (aN (k := 1) (v := .slice Ax1 x.Methods.length cx1) Tryz.isAgg71 rfl (H25.blk 1 rfl) rfl) rfl rfl ?_
    refine aA ?_
    refine aB rfl (bQ Tryz.runUnderlying71 rfl) rfl rfl ?_
    refine aA ?_
    refine aB rfl (gY rfl rfl) rfl rfl ?_
    refine aH ?_
    refine aG ?_
    refine eP rfl (fun hc26 => ?_) (fun hc26 => ?_)
    ·have hlt1 : i1 < x.Methods.length := by omega
     have hlu1 : i1 < y.Methods.length := by omega
     obtain ⟨ade27, cse27, hAe27, hKe27, hce27⟩ := dO hCx1 i1 hlt1
     have hle27 := nA hKe27
     have hoe27 := nC hKe27
     obtain ⟨ade28, cse28, hAe28, hKe28, hce28⟩ := dO hCy1 i1 hlu1
     have hle28 := nA hKe28
     have hoe28 := nC hKe28
     obtain ⟨Aade27_1, cade27_1, rfl, hlade27_1, hCade27_1⟩ := kP hKe27
     obtain ⟨Aade28_1, cade28_1, rfl, hlade28_1, hCade28_1⟩ := kP hKe28
     have nzade27 := hCade27_1.1
     refine wp_skip ?_
     refine aG ?_
     refine wp_seq ?_
     refine wp_block ?_
     refine wp_seq ?_
     refine aM [0, 1, 2, 3, 4, 5, 6] rfl ?_
     refine aA ?_
     refine aB rfl (aL fa_73_1 rfl) rfl rfl ?_
     refine aA ?_
     refine aB rfl (aN (k := 1) (v := .slice Ax1 x.Methods.length cx1) Tryz.isAgg71 rfl (H25.blk 1 rfl) rfl) rfl rfl ?_
     refine aA ?_
     refine aB rfl (aF rfl) rfl rfl ?_
     refine aA ?_
     refine aB rfl (aP (k := i1) Tryz.runUnderlying71 Tryz.sizeOf122 rfl rfl hAe27 hlt1) rfl rfl ?_
     refine aA ?_
     refine aB rfl (aY Tryz.isAgg122 Tryz.sizeOf122 rfl (Cat.upd hce27 H25.1) rfl) rfl rfl ?_
     refine aA ?_
     refine gZ rfl Tryz.zeroValue122 rfl rfl H25 ?_
     intro g_6_5 W29 hu30 Ha31; clear H25; clear hu30
     refine aA ?_
     refine gN rfl Tryz.sizeOf122 rfl rfl rfl rfl kS Ha31 ?_
     intro W33 hu34 Ha35; clear Ha31; clear hu34
     refine aH ?_
     refine aG ?_
     refine wp_seq ?_
     refine aM [0, 1, 2, 3, 4, 5, 6] rfl ?_
     refine aA ?_
     refine aB rfl (aL fa_73_1 rfl) rfl rfl ?_
     refine aA ?_
     refine aB rfl (aN (k := 1) (v := .slice Ay1 y.Methods.length cy1) Tryz.isAgg71 rfl (Ha35.blk 1 rfl) rfl) rfl rfl ?_
     refine aA ?_
     refine aB rfl (aF rfl) rfl rfl ?_
     refine aA ?_
     refine aB rfl (aP (k := i1) Tryz.runUnderlying71 Tryz.sizeOf122 rfl rfl hAe28 hlu1) rfl rfl ?_
     refine aA ?_
     refine aB rfl (aY Tryz.isAgg122 Tryz.sizeOf122 rfl (Cat.upd hce28 Ha35.1) rfl) rfl rfl ?_
     refine aA ?_
     refine gZ rfl Tryz.zeroValue122 rfl rfl Ha35 ?_
     intro g_7_5 W37 hu38 Ha39; clear Ha35; clear hu38
     refine aA ?_
     refine gN rfl Tryz.sizeOf122 rfl rfl rfl rfl kS Ha39 ?_
     intro W41 hu42 Ha43; clear Ha39; clear hu42
     refine aH ?_
     refine aG ?_
     refine wp_seq ?_
     refine wp_seq ?_
     refine aM [0, 1, 2, 3, 4, 5, 6, 7, 8, 9, 10, 11, 12, 13] rfl ?_
     refine aA ?_
     refine aB rfl (aL fa_122_0 rfl) rfl rfl ?_
     refine aA ?_
     refine aB rfl (aN (k := 0) (v := .string (x.Methods[i1].Name)) Tryz.isAgg9 rfl (Ha43.blk 1 rfl) rfl) rfl rfl ?_
     refine aA ?_
     refine aB rfl (aL fa_122_0 rfl) rfl rfl ?_
     refine aA ?_
     refine aB rfl (aN (k := 0) (v := .string (y.Methods[i1].Name)) Tryz.isAgg9 rfl (Ha43.blk 0 rfl) rfl) rfl rfl ?_
     by_cases hg45 : ((x.Methods[i1].Name).toList == (y.Methods[i1].Name).toList) = true
     ·refine aA ?_
      refine aB rfl (cZ (b := !((x.Methods[i1].Name).toList == (y.Methods[i1].Name).toList)) (by rw [hg45]) (jV rfl rfl)) rfl rfl ?_
      refine aA ?_
      refine aB rfl (aF rfl) rfl rfl ?_
      refine aA ?_
      refine aR rfl rfl rfl rfl (fun _ ho46 => ?_)
      refine aB ho46 (aL l9 rfl) rfl rfl ?_
      refine aA ?_
      refine aR rfl rfl rfl rfl (fun _ ho47 => ?_)
      refine aB ho47 (aN (k := 1) (v := .slice Aade27_1 (x.Methods[i1].Code.length) cade27_1) Tryz.isAgg120 rfl (Ha43.blk 1 rfl) rfl) rfl rfl ?_
      refine aA ?_
      refine aR rfl rfl rfl rfl (fun _ ho48 => ?_)
      refine aB ho48 (bQ Tryz.runUnderlying120 rfl) rfl rfl ?_
      refine aA ?_
      refine aR rfl rfl rfl rfl (fun _ ho49 => ?_)
      refine aB ho49 (aL l9 rfl) rfl rfl ?_
      refine aA ?_
      refine aR rfl rfl rfl rfl (fun _ ho50 => ?_)
      refine aB ho50 (aN (k := 1) (v := .slice Aade28_1 (y.Methods[i1].Code.length) cade28_1) Tryz.isAgg120 rfl (Ha43.blk 0 rfl) rfl) rfl rfl ?_
      refine aA ?_
      refine aR rfl rfl rfl rfl (fun _ ho51 => ?_)
      refine aB ho51 (bQ Tryz.runUnderlying120 rfl) rfl rfl ?_
      by_cases hg52 : ¬ ((x.Methods[i1].Code.length : Nat) : Int) = (y.Methods[i1].Code.length : Nat)
      ·refine aA ?_
       refine aR rfl rfl rfl rfl (fun _ ho53 => ?_)
       refine aB ho53 (bV hg52 (bN rfl rfl)) rfl rfl ?_
       refine aA ?_
       refine aB rfl (aI (v := .bool (true)) (b := false) rfl rfl rfl rfl) rfl rfl ?_
       refine aH ?_
       refine aG ?_
       refine bX rfl ?_
       refine wp_seq ?_
       refine aM [0] rfl ?_
       refine aA ?_
       refine aB rfl (aJ rfl) rfl rfl ?_
       refine aH ?_
       refine aG ?_
       refine wp_ret ?_
       refine aU ?_
       refine dS ?_
       refine aU ?_
       refine aU ?_
       refine dS ?_
       refine aU ?_
       have hz54 : ∀ f, aV f (x.Methods[i1].Code) (y.Methods[i1].Code) = false := fun f => eY f (x.Methods[i1].Code) (y.Methods[i1].Code) kO
       have hz55 : aV dJ x.Methods y.Methods = false := hf1.trans (eG dJ x.Methods y.Methods i1 hlt1 hlu1 (by simp [dJ, hg10, hg45, hz54]))
       have hr56 : cO x y = false := by simp [cO, hg10, hg45, hz54, hz55]
       refine aQ (.inl rfl) Tryz.results40 rfl ?_
       rw [hr56]
       exact ⟨rfl, Ha43.1⟩
      ·refine aA ?_
       refine aR rfl rfl rfl rfl (fun _ ho57 => ?_)
       refine aB ho57 (bO hg52 (bN rfl rfl)) rfl rfl ?_
       refine aA ?_
       refine aB rfl (aI (v := .bool (false)) (b := false) rfl rfl rfl rfl) rfl rfl ?_
       refine aH ?_
       refine aG ?_
       refine dU rfl ?_
       refine wp_skip ?_
       refine aG ?_
       refine wp_seq ?_
       refine aM [0] rfl ?_
       refine aA ?_
       refine aB rfl (aJ rfl) rfl rfl ?_
       refine aH ?_
       refine aG ?_
       refine wp_block ?_
       refine wp_loop_ghost (fun r a' W' => ∃ (i2 : Nat) (x' : Nat → Value), a' = bT 72 x' [(2, .pointer (some ⟨g_0_0, 0, none⟩)), (3, .pointer (some ⟨g_0_1, 0, none⟩)), (5, .int .i64 (((i1 : Nat) : Int))), (6, .pointer (some ⟨g_6_5, 0, none⟩)), (7, .pointer (some ⟨g_7_5, 0, none⟩)), (8, .int .i64 (((i2 : Nat) : Int))), (46, .pointer (some (Addr.add ⟨g_6_5, 0, none⟩ 1))), (47, .slice Aade27_1 (x.Methods[i1].Code.length) cade27_1), (48, .int .i64 ((x.Methods[i1].Code.length : Nat))), (49, .pointer (some (Addr.add ⟨g_7_5, 0, none⟩ 1))), (50, .slice Aade28_1 (y.Methods[i1].Code.length) cade28_1), (51, .int .i64 ((y.Methods[i1].Code.length : Nat))), (52, .bool (false))] ∧ (i2 + r = (x.Methods[i1].Code).length) ∧ (aV fA (x.Methods[i1].Code) (y.Methods[i1].Code) = aV fA ((x.Methods[i1].Code).drop i2) ((y.Methods[i1].Code).drop i2)) ∧ St w No [hB g_7_5 122 #[.string (y.Methods[i1].Name), .slice Aade28_1 (y.Methods[i1].Code.length) cade28_1], hB g_6_5 122 #[.string (x.Methods[i1].Name), .slice Aade27_1 (x.Methods[i1].Code.length) cade27_1], hB g_0_1 73 #[.string (y.Name), .slice Ay1 y.Methods.length cy1], hB g_0_0 73 #[.string (x.Name), .slice Ax1 x.Methods.length cx1]] W') ((x.Methods[i1].Code).length) ?_ ?_
       ·exact (bA [(2, .pointer (some ⟨g_0_0, 0, none⟩)), (3, .pointer (some ⟨g_0_1, 0, none⟩)), (5, .int .i64 (((i1 : Nat) : Int))), (6, .pointer (some ⟨g_6_5, 0, none⟩)), (7, .pointer (some ⟨g_7_5, 0, none⟩)), (8, .int .i64 (((0 : Nat) : Int))), (46, .pointer (some (Addr.add ⟨g_6_5, 0, none⟩ 1))), (47, .slice Aade27_1 (x.Methods[i1].Code.length) cade27_1), (48, .int .i64 ((x.Methods[i1].Code.length : Nat))), (49, .pointer (some (Addr.add ⟨g_7_5, 0, none⟩ 1))), (50, .slice Aade28_1 (y.Methods[i1].Code.length) cade28_1), (51, .int .i64 ((y.Methods[i1].Code.length : Nat))), (52, .bool (false))] rfl).elim fun x' hx => ⟨0, x', hx, kO, rfl, Ha43⟩
       ·rintro r58 _ W59 ⟨i2, x60, rfl, hi2, hf2, H61⟩; clear Ha43
        refine wp_seq ?_
        refine wp_seq ?_
        refine aM [0, 1, 2, 3, 4] rfl ?_
        refine aA ?_
        refine aB rfl (aF rfl) rfl rfl ?_
        refine aA ?_
        refine aB rfl (aL l9 rfl) rfl rfl ?_
        refine aA ?_
        refine aB rfl (aN (k := 1) (v := .slice Aade27_1 (x.Methods[i1].Code.length) cade27_1) Tryz.isAgg120 rfl (H61.blk 1 rfl) rfl) rfl rfl ?_
        refine aA ?_
        refine aB rfl (bQ Tryz.runUnderlying120 rfl) rfl rfl ?_
        refine aA ?_
        refine aB rfl (gY rfl rfl) rfl rfl ?_
        refine aH ?_
        refine aG ?_
        refine eP rfl (fun hc62 => ?_) (fun hc62 => ?_)
        ·have hlt2 : i2 < (x.Methods[i1].Code).length := by omega
         have hlu2 : i2 < (y.Methods[i1].Code).length := by omega
         obtain ⟨ade63, cse63, hAe63, hKe63, hce63⟩ := dO hCade27_1 i2 hlt2
         have hle63 := nY hKe63
         have hoe63 := nZ hKe63
         obtain ⟨ade64, cse64, hAe64, hKe64, hce64⟩ := dO hCade28_1 i2 hlu2
         have hle64 := nY hKe64
         have hoe64 := nZ hKe64
         obtain rfl := kN hKe63
         obtain rfl := kN hKe64
         refine wp_skip ?_
         refine aG ?_
         refine wp_seq ?_
         refine wp_block ?_
         refine wp_seq ?_
         by_cases hg65 : (fA ((x.Methods[i1].Code)[i2]) ((y.Methods[i1].Code)[i2])) = true
         ·refine dD (fun W' => Blk W' g_6_5 122 #[.string (x.Methods[i1].Name), .slice Aade27_1 (x.Methods[i1].Code.length) cade27_1] ∧ Cat W' (Addr.add ade63 (i2 * 6)) [.int .i64 ((x.Methods[i1].Code)[i2].Op), .int .i64 ((x.Methods[i1].Code)[i2].A), .int .i64 ((x.Methods[i1].Code)[i2].B), .int .i64 ((x.Methods[i1].Code)[i2].C), .int .i64 ((x.Methods[i1].Code)[i2].D), .string ((x.Methods[i1].Code)[i2].Name)] ∧ Blk W' g_7_5 122 #[.string (y.Methods[i1].Name), .slice Aade28_1 (y.Methods[i1].Code.length) cade28_1] ∧ Cat W' (Addr.add ade64 (i2 * 6)) [.int .i64 ((y.Methods[i1].Code)[i2].Op), .int .i64 ((y.Methods[i1].Code)[i2].A), .int .i64 ((y.Methods[i1].Code)[i2].B), .int .i64 ((y.Methods[i1].Code)[i2].C), .int .i64 ((y.Methods[i1].Code)[i2].D), .string ((y.Methods[i1].Code)[i2].Name)]) 11 kR ?_
          have H66 := H61.drew; clear H61
          have hS67 : Blk W59.drew g_6_5 122 #[.string (x.Methods[i1].Name), .slice Aade27_1 (x.Methods[i1].Code.length) cade27_1] ∧ Cat W59.drew (Addr.add ade63 (i2 * 6)) [.int .i64 ((x.Methods[i1].Code)[i2].Op), .int .i64 ((x.Methods[i1].Code)[i2].A), .int .i64 ((x.Methods[i1].Code)[i2].B), .int .i64 ((x.Methods[i1].Code)[i2].C), .int .i64 ((x.Methods[i1].Code)[i2].D), .string ((x.Methods[i1].Code)[i2].Name)] ∧ Blk W59.drew g_7_5 122 #[.string (y.Methods[i1].Name), .slice Aade28_1 (y.Methods[i1].Code.length) cade28_1] ∧ Cat W59.drew (Addr.add ade64 (i2 * 6)) [.int .i64 ((y.Methods[i1].Code)[i2].Op), .int .i64 ((y.Methods[i1].Code)[i2].A), .int .i64 ((y.Methods[i1].Code)[i2].B), .int .i64 ((y.Methods[i1].Code)[i2].C), .int .i64 ((y.Methods[i1].Code)[i2].D), .string ((y.Methods[i1].Code)[i2].Name)] := ⟨H66.blk 1 rfl, (Cat.upd hce63 H66.1), H66.blk 0 rfl, (Cat.upd hce64 H66.1)⟩
          refine aD (i := 0) rfl kR kR kR kR kR (fun _ _ _ h => h) rfl rfl hS67 (fun W' hs' => aL l9 rfl) ?_
          refine aD (i := 1) rfl kR kR kR kR kR (fun _ _ _ h => h) rfl rfl hS67 (fun W' hs' => aN (k := 1) (v := .slice Aade27_1 (x.Methods[i1].Code.length) cade27_1) Tryz.isAgg120 rfl hs'.1 rfl) ?_
          refine aD (i := 2) rfl kR kR kR kR kR (fun _ _ _ h => h) rfl rfl hS67 (fun W' hs' => aF rfl) ?_
          refine aD (i := 3) rfl kR kR kR kR kR (fun _ _ _ h => h) rfl rfl hS67 (fun W' hs' => aP (k := i2) Tryz.runUnderlying120 Tryz.sizeOf124 rfl rfl hAe63 hlt2) ?_
          refine aD (i := 4) rfl kR kR kR kR kR (fun _ _ _ h => h) rfl rfl hS67 (fun W' hs' => aY Tryz.isAgg124 Tryz.sizeOf124 rfl hs'.2.1 rfl) ?_
          refine aD (i := 5) rfl kR kR kR kR kR (fun _ _ _ h => h) rfl rfl hS67 (fun W' hs' => aL l9 rfl) ?_
          refine aD (i := 6) rfl kR kR kR kR kR (fun _ _ _ h => h) rfl rfl hS67 (fun W' hs' => aN (k := 1) (v := .slice Aade28_1 (y.Methods[i1].Code.length) cade28_1) Tryz.isAgg120 rfl hs'.2.2.1 rfl) ?_
          refine aD (i := 7) rfl kR kR kR kR kR (fun _ _ _ h => h) rfl rfl hS67 (fun W' hs' => aF rfl) ?_
          refine aD (i := 8) rfl kR kR kR kR kR (fun _ _ _ h => h) rfl rfl hS67 (fun W' hs' => aP (k := i2) Tryz.runUnderlying120 Tryz.sizeOf124 rfl rfl hAe64 hlu2) ?_
          refine aD (i := 9) rfl kR kR kR kR kR (fun _ _ _ h => h) rfl rfl hS67 (fun W' hs' => aY Tryz.isAgg124 Tryz.sizeOf124 rfl hs'.2.2.2 rfl) ?_
          refine aD (i := 10) rfl kR kR kR kR kR (fun _ _ _ h => h) rfl rfl hS67 (fun W' hs' => cZ (b := !(fA ((x.Methods[i1].Code)[i2]) ((y.Methods[i1].Code)[i2]))) (by rw [hg65]) (fJ Tryz.eqGuardType124 rfl rfl (eqr_Instr ((x.Methods[i1].Code)[i2]) ((y.Methods[i1].Code)[i2]) _ 9998))) ?_
          refine bU kR ?_ _
          refine aG ?_
          refine dU rfl ?_
          refine wp_skip ?_
          refine iY ?_
          refine aG ?_
          refine aM [0, 1, 2] rfl ?_
          refine aA ?_
          refine aB rfl (aF rfl) rfl rfl ?_
          refine aA ?_
          refine aB rfl (iB (k := i2) rfl rfl kO) rfl rfl ?_
          refine aA ?_
          refine aB rfl (aJ rfl) rfl rfl ?_
          refine aH ?_
          refine aG ?_
          exact (bA [(2, .pointer (some ⟨g_0_0, 0, none⟩)), (3, .pointer (some ⟨g_0_1, 0, none⟩)), (5, .int .i64 (((i1 : Nat) : Int))), (6, .pointer (some ⟨g_6_5, 0, none⟩)), (7, .pointer (some ⟨g_7_5, 0, none⟩)), (8, .int .i64 (((i2 + 1 : Nat) : Int))), (46, .pointer (some (Addr.add ⟨g_6_5, 0, none⟩ 1))), (47, .slice Aade27_1 (x.Methods[i1].Code.length) cade27_1), (48, .int .i64 ((x.Methods[i1].Code.length : Nat))), (49, .pointer (some (Addr.add ⟨g_7_5, 0, none⟩ 1))), (50, .slice Aade28_1 (y.Methods[i1].Code.length) cade28_1), (51, .int .i64 ((y.Methods[i1].Code.length : Nat))), (52, .bool (false))] rfl).elim fun x' hx => ⟨r58 - 1, kO, i2 + 1, x', hx, kO, (hf2.trans (fC fA (x.Methods[i1].Code) (y.Methods[i1].Code) i2 hlt2 hlu2 hg65)), H66⟩
         ·refine dD (fun W' => Blk W' g_6_5 122 #[.string (x.Methods[i1].Name), .slice Aade27_1 (x.Methods[i1].Code.length) cade27_1] ∧ Cat W' (Addr.add ade63 (i2 * 6)) [.int .i64 ((x.Methods[i1].Code)[i2].Op), .int .i64 ((x.Methods[i1].Code)[i2].A), .int .i64 ((x.Methods[i1].Code)[i2].B), .int .i64 ((x.Methods[i1].Code)[i2].C), .int .i64 ((x.Methods[i1].Code)[i2].D), .string ((x.Methods[i1].Code)[i2].Name)] ∧ Blk W' g_7_5 122 #[.string (y.Methods[i1].Name), .slice Aade28_1 (y.Methods[i1].Code.length) cade28_1] ∧ Cat W' (Addr.add ade64 (i2 * 6)) [.int .i64 ((y.Methods[i1].Code)[i2].Op), .int .i64 ((y.Methods[i1].Code)[i2].A), .int .i64 ((y.Methods[i1].Code)[i2].B), .int .i64 ((y.Methods[i1].Code)[i2].C), .int .i64 ((y.Methods[i1].Code)[i2].D), .string ((y.Methods[i1].Code)[i2].Name)]) 11 kR ?_
          have H68 := H61.drew; clear H61
          have hS69 : Blk W59.drew g_6_5 122 #[.string (x.Methods[i1].Name), .slice Aade27_1 (x.Methods[i1].Code.length) cade27_1] ∧ Cat W59.drew (Addr.add ade63 (i2 * 6)) [.int .i64 ((x.Methods[i1].Code)[i2].Op), .int .i64 ((x.Methods[i1].Code)[i2].A), .int .i64 ((x.Methods[i1].Code)[i2].B), .int .i64 ((x.Methods[i1].Code)[i2].C), .int .i64 ((x.Methods[i1].Code)[i2].D), .string ((x.Methods[i1].Code)[i2].Name)] ∧ Blk W59.drew g_7_5 122 #[.string (y.Methods[i1].Name), .slice Aade28_1 (y.Methods[i1].Code.length) cade28_1] ∧ Cat W59.drew (Addr.add ade64 (i2 * 6)) [.int .i64 ((y.Methods[i1].Code)[i2].Op), .int .i64 ((y.Methods[i1].Code)[i2].A), .int .i64 ((y.Methods[i1].Code)[i2].B), .int .i64 ((y.Methods[i1].Code)[i2].C), .int .i64 ((y.Methods[i1].Code)[i2].D), .string ((y.Methods[i1].Code)[i2].Name)] := ⟨H68.blk 1 rfl, (Cat.upd hce63 H68.1), H68.blk 0 rfl, (Cat.upd hce64 H68.1)⟩
          refine aD (i := 0) rfl kR kR kR kR kR (fun _ _ _ h => h) rfl rfl hS69 (fun W' hs' => aL l9 rfl) ?_
          refine aD (i := 1) rfl kR kR kR kR kR (fun _ _ _ h => h) rfl rfl hS69 (fun W' hs' => aN (k := 1) (v := .slice Aade27_1 (x.Methods[i1].Code.length) cade27_1) Tryz.isAgg120 rfl hs'.1 rfl) ?_
          refine aD (i := 2) rfl kR kR kR kR kR (fun _ _ _ h => h) rfl rfl hS69 (fun W' hs' => aF rfl) ?_
          refine aD (i := 3) rfl kR kR kR kR kR (fun _ _ _ h => h) rfl rfl hS69 (fun W' hs' => aP (k := i2) Tryz.runUnderlying120 Tryz.sizeOf124 rfl rfl hAe63 hlt2) ?_
          refine aD (i := 4) rfl kR kR kR kR kR (fun _ _ _ h => h) rfl rfl hS69 (fun W' hs' => aY Tryz.isAgg124 Tryz.sizeOf124 rfl hs'.2.1 rfl) ?_
          refine aD (i := 5) rfl kR kR kR kR kR (fun _ _ _ h => h) rfl rfl hS69 (fun W' hs' => aL l9 rfl) ?_
          refine aD (i := 6) rfl kR kR kR kR kR (fun _ _ _ h => h) rfl rfl hS69 (fun W' hs' => aN (k := 1) (v := .slice Aade28_1 (y.Methods[i1].Code.length) cade28_1) Tryz.isAgg120 rfl hs'.2.2.1 rfl) ?_
          refine aD (i := 7) rfl kR kR kR kR kR (fun _ _ _ h => h) rfl rfl hS69 (fun W' hs' => aF rfl) ?_
          refine aD (i := 8) rfl kR kR kR kR kR (fun _ _ _ h => h) rfl rfl hS69 (fun W' hs' => aP (k := i2) Tryz.runUnderlying120 Tryz.sizeOf124 rfl rfl hAe64 hlu2) ?_
          refine aD (i := 9) rfl kR kR kR kR kR (fun _ _ _ h => h) rfl rfl hS69 (fun W' hs' => aY Tryz.isAgg124 Tryz.sizeOf124 rfl hs'.2.2.2 rfl) ?_
          refine aD (i := 10) rfl kR kR kR kR kR (fun _ _ _ h => h) rfl rfl hS69 (fun W' hs' => cZ (b := !(fA ((x.Methods[i1].Code)[i2]) ((y.Methods[i1].Code)[i2]))) (by rw [(eq_false_of_ne_true hg65)]) (fJ Tryz.eqGuardType124 rfl rfl (eqr_Instr ((x.Methods[i1].Code)[i2]) ((y.Methods[i1].Code)[i2]) _ 9998))) ?_
          refine bU kR ?_ _
          refine aG ?_
          refine bX rfl ?_
          refine wp_seq ?_
          refine aM [0] rfl ?_
          refine aA ?_
          refine aB rfl (aJ rfl) rfl rfl ?_
          refine aH ?_
          refine aG ?_
          refine wp_ret ?_
          refine dS ?_
          refine aU ?_
          refine aU ?_
          refine dS ?_
          refine dS ?_
          refine aU ?_
          refine aU ?_
          refine dS ?_
          refine aU ?_
          have hz70 : aV fA (x.Methods[i1].Code) (y.Methods[i1].Code) = false := hf2.trans (eG fA (x.Methods[i1].Code) (y.Methods[i1].Code) i2 hlt2 hlu2 (eq_false_of_ne_true hg65))
          have hz71 : aV dJ x.Methods y.Methods = false := hf1.trans (eG dJ x.Methods y.Methods i1 hlt1 hlu1 (by simp [dJ, hg10, hg45, hg65, hz70]))
          have hr72 : cO x y = false := by simp [cO, hg10, hg45, hg65, hz70, hz71]
          refine aQ (.inl rfl) Tryz.results40 rfl ?_
          rw [hr72]
          exact ⟨rfl, H68.1⟩
        ·have hd2 : aV fA (x.Methods[i1].Code) (y.Methods[i1].Code) = true := hf2.trans (fD fA (x.Methods[i1].Code) (y.Methods[i1].Code) i2 kO kO)
         refine wp_exit ?_
         refine dP ?_
         refine dP ?_
         refine iZ ?_
         refine iY ?_
         refine aG ?_
         refine aM [0, 1, 2] rfl ?_
         refine aA ?_
         refine aB rfl (aF rfl) rfl rfl ?_
         refine aA ?_
         refine aB rfl (iB (k := i1) rfl rfl kO) rfl rfl ?_
         refine aA ?_
         refine aB rfl (aJ rfl) rfl rfl ?_
         refine aH ?_
         refine aG ?_
         exact (bA [(2, .pointer (some ⟨g_0_0, 0, none⟩)), (3, .pointer (some ⟨g_0_1, 0, none⟩)), (5, .int .i64 (((i1 + 1 : Nat) : Int)))] rfl).elim fun x' hx => ⟨r22 - 1, kO, i1 + 1, x', hx, kO, (hf1.trans (fC dJ x.Methods y.Methods i1 hlt1 hlu1 (by simp [dJ, hg45, hd2]))), H61.pick [2, 3] kD rfl⟩
     ·refine aA ?_
      refine aB rfl (cZ (b := !((x.Methods[i1].Name).toList == (y.Methods[i1].Name).toList)) (by rw [(eq_false_of_ne_true hg45)]) (jV rfl rfl)) rfl rfl ?_
      refine aA ?_
      refine aB rfl (aF rfl) rfl rfl ?_
      refine aA ?_
      refine aC rfl rfl rfl rfl rfl rfl rfl ?_
      refine aA ?_
      refine aC rfl rfl rfl rfl rfl rfl rfl ?_
      refine aA ?_
      refine aC rfl rfl rfl rfl rfl rfl rfl ?_
      refine aA ?_
      refine aC rfl rfl rfl rfl rfl rfl rfl ?_
      refine aA ?_
      refine aC rfl rfl rfl rfl rfl rfl rfl ?_
      refine aA ?_
      refine aC rfl rfl rfl rfl rfl rfl rfl ?_
      refine aA ?_
      refine aC rfl rfl rfl rfl rfl rfl rfl ?_
      refine aA ?_
      refine aB rfl (aI (v := .bool (true)) (b := true) rfl rfl rfl rfl) rfl rfl ?_
      refine aH ?_
      refine aG ?_
      refine bX rfl ?_
      refine wp_seq ?_
      refine aM [0] rfl ?_
      refine aA ?_
      refine aB rfl (aJ rfl) rfl rfl ?_
      refine aH ?_
      refine aG ?_
      refine wp_ret ?_
      refine aU ?_
      refine dS ?_
      refine aU ?_
      refine aU ?_
      refine dS ?_
      refine aU ?_
      have hz73 : aV dJ x.Methods y.Methods = false := hf1.trans (eG dJ x.Methods y.Methods i1 hlt1 hlu1 (by simp [dJ, hg10, hg45]))
      have hr74 : cO x y = false := by simp [cO, hg10, hg45, hz73]
      refine aQ (.inl rfl) Tryz.results40 rfl ?_
      rw [hr74]
      exact ⟨rfl, Ha43.1⟩
    ·have hd1 : aV dJ x.Methods y.Methods = true := hf1.trans (fD dJ x.Methods y.Methods i1 kO kO)
     refine wp_exit ?_
     refine dP ?_
     refine dP ?_
     refine iZ ?_
     refine aG ?_
     refine wp_seq ?_
     refine aM [0] rfl ?_
     refine aA ?_
     refine aB rfl (aJ rfl) rfl rfl ?_
     refine aH ?_
     refine aG ?_
     refine wp_ret ?_
     have hr75 : cO x y = true := by simp [cO, hg10, hd1]
     refine aQ (.inl rfl) Tryz.results40 rfl ?_
     rw [hr75]
     exact ⟨rfl, H25.1⟩
 ·refine aA ?_
  refine aB rfl (cZ (b := !(x.Name.toList == y.Name.toList)) (by rw [(eq_false_of_ne_true hg10)]) (jV rfl rfl)) rfl rfl ?_
  refine aA ?_
  refine aB rfl (aF rfl) rfl rfl ?_
  refine aA ?_
  refine aC rfl rfl rfl rfl rfl rfl rfl ?_
  refine aA ?_
  refine aC rfl rfl rfl rfl rfl rfl rfl ?_
  refine aA ?_
  refine aC rfl rfl rfl rfl rfl rfl rfl ?_
  refine aA ?_
  refine aC rfl rfl rfl rfl rfl rfl rfl ?_
  refine aA ?_
  refine aC rfl rfl rfl rfl rfl rfl rfl ?_
  refine aA ?_
  refine aC rfl rfl rfl rfl rfl rfl rfl ?_
  refine aA ?_
  refine aC rfl rfl rfl rfl rfl rfl rfl ?_
  refine aA ?_
  refine aB rfl (aI (v := .bool (true)) (b := true) rfl rfl rfl rfl) rfl rfl ?_
  refine aH ?_
  refine aG ?_
  refine bX rfl ?_
  refine wp_seq ?_
  refine aM [0] rfl ?_
  refine aA ?_
  refine aB rfl (aJ rfl) rfl rfl ?_
  refine aH ?_
  refine aG ?_
  refine wp_ret ?_
  refine aU ?_
  have hr76 : cO x y = false := by simp [cO, hg10]
  refine aQ (.inl rfl) Tryz.results40 rfl ?_
  rw [hr76]
  exact ⟨rfl, Ha8.1⟩
theorem oL (l k : List GSent) (A A' : Option Addr) (c c' : Nat) (w : World) (h : C eX w A l) (h' : C eX w A' k) : Calls Tryz.prog 69 #[.slice A l.length c, .slice A' k.length c'] w (bW (aV bS l k) w) := by
 have nx := h.1
 refine enter 81 [(0, .slice A l.length c), (1, .slice A' k.length c')] Tryz.func69 rfl kR ?_
 intro xj
 have H1 : St w No [] w := St.enter
 refine wp_seq ?_
 refine aM [0] rfl ?_
 refine aA ?_
 refine aB rfl (aJ rfl) rfl rfl ?_
 refine aH ?_
 refine aG ?_
 refine wp_seq ?_
 refine wp_seq ?_
 refine aM [0, 1, 2, 3, 4] rfl ?_
 refine aA ?_
 refine aB rfl (aF rfl) rfl rfl ?_
 refine aA ?_
 refine aB rfl (bQ Tryz.runUnderlying76 rfl) rfl rfl ?_
 refine aA ?_
 refine aB rfl (aF rfl) rfl rfl ?_
 refine aA ?_
 refine aB rfl (bQ Tryz.runUnderlying76 rfl) rfl rfl ?_
 by_cases hg2 : ¬ ((l.length : Nat) : Int) = (k.length : Nat)
 ·refine aA ?_
  refine aB rfl (bV hg2 (bN rfl rfl)) rfl rfl ?_
  refine aH ?_
  refine aG ?_
  refine bX rfl ?_
  refine wp_seq ?_
  refine aM [0] rfl ?_
  refine aA ?_
  refine aB rfl (aJ rfl) rfl rfl ?_
  refine aH ?_
  refine aG ?_
  refine wp_ret ?_
  refine aU ?_
  have hz3 : ∀ f, aV f l k = false := fun f => eY f l k kO
  have hr4 : aV bS l k = false := by simp [hz3]
  refine aQ (.inl rfl) Tryz.results69 rfl ?_
  rw [hr4]
  exact ⟨rfl, H1.1⟩
 ·refine aA ?_
  refine aB rfl (bO hg2 (bN rfl rfl)) rfl rfl ?_
  refine aH ?_
  refine aG ?_
  refine dU rfl ?_
  refine wp_skip ?_
  refine aG ?_
  refine wp_seq ?_
  refine wp_seq ?_
  refine aM [0] rfl ?_
  refine aA ?_
  refine aB rfl (aJ rfl) rfl rfl ?_
  refine aH ?_
  refine aG ?_
  refine wp_block ?_
  refine wp_loop_ghost (fun r a' W' => ∃ (i1 : Nat) (x' : Nat → Value), a' = bT 81 x' [(0, .slice A l.length c), (1, .slice A' k.length c'), (5, .int .i64 (((i1 : Nat) : Int)))] ∧ (i1 + r = l.length) ∧ (aV bS l k = aV bS (l.drop i1) (k.drop i1)) ∧ St w No [] W') l.length ?_ ?_
  ·exact (bA [(0, .slice A l.length c), (1, .slice A' k.length c'), (5, .int .i64 (((0 : Nat) : Int)))] rfl).elim fun x' hx => ⟨0, x', hx, kO, rfl, H1⟩
  ·rintro r5 _ W6 ⟨i1, x7, rfl, hi1, hf1, H8⟩; clear H1
   refine wp_seq ?_
   refine wp_seq ?_
   refine aM [0, 1, 2, 3] rfl ?_
   refine aA ?_
   refine aB rfl (aF rfl) rfl rfl ?_
   refine aA ?_
   refine aB rfl (aF rfl) rfl rfl ?_
   refine aA ?_
   refine aB rfl (bQ Tryz.runUnderlying76 rfl) rfl rfl ?_
   refine aA ?_
   refine aB rfl (gY rfl rfl) rfl rfl ?_
   refine aH ?_
   refine aG ?_
   refine eP rfl (fun hc9 => ?_) (fun hc9 => ?_)
   ·have hlt1 : i1 < l.length := by omega
    have hlu1 : i1 < k.length := by omega
    obtain ⟨ade10, cse10, hAe10, hKe10, hce10⟩ := dO h i1 hlt1
    have hle10 := oZ hKe10
    have hoe10 := o5 hKe10
    obtain ⟨ade11, cse11, hAe11, hKe11, hce11⟩ := dO h' i1 hlu1
    have hle11 := oZ hKe11
    have hoe11 := o5 hKe11
    obtain ⟨Aade10_2, cade10_2, rfl, hlade10_2, hCade10_2⟩ := mU hKe10
    obtain ⟨Aade11_2, cade11_2, rfl, hlade11_2, hCade11_2⟩ := mU hKe11
    refine wp_skip ?_
    refine aG ?_
    refine wp_seq ?_
    refine wp_block ?_
    refine wp_seq ?_
    by_cases hg12 : ¬ ((l[i1].Target) : Int) = (k[i1].Target)
    ·refine dD (fun W' => Cat W' (Addr.add ade10 (i1 * 7)) [.int .i64 (l[i1].Target), .string (l[i1].Name), .slice Aade10_2 (l[i1].bD.length) cade10_2, .int .i64 (l[i1].Result), .int .i64 (l[i1].Tag.Vat), .int .i64 (l[i1].Tag.Entity), .int .i64 (l[i1].Tag.Seq)] ∧ Cat W' (Addr.add ade11 (i1 * 7)) [.int .i64 (k[i1].Target), .string (k[i1].Name), .slice Aade11_2 (k[i1].bD.length) cade11_2, .int .i64 (k[i1].Result), .int .i64 (k[i1].Tag.Vat), .int .i64 (k[i1].Tag.Entity), .int .i64 (k[i1].Tag.Seq)]) 64 kR ?_
     have H13 := H8.drew; clear H8
     have hS14 : Cat W6.drew (Addr.add ade10 (i1 * 7)) [.int .i64 (l[i1].Target), .string (l[i1].Name), .slice Aade10_2 (l[i1].bD.length) cade10_2, .int .i64 (l[i1].Result), .int .i64 (l[i1].Tag.Vat), .int .i64 (l[i1].Tag.Entity), .int .i64 (l[i1].Tag.Seq)] ∧ Cat W6.drew (Addr.add ade11 (i1 * 7)) [.int .i64 (k[i1].Target), .string (k[i1].Name), .slice Aade11_2 (k[i1].bD.length) cade11_2, .int .i64 (k[i1].Result), .int .i64 (k[i1].Tag.Vat), .int .i64 (k[i1].Tag.Entity), .int .i64 (k[i1].Tag.Seq)] := ⟨(Cat.upd hce10 H13.1), (Cat.upd hce11 H13.1)⟩
     refine aD (i := 0) rfl kR kR kR kR kR (fun _ _ _ h => h) rfl rfl hS14 (fun W' hs' => aF rfl) ?_
     refine aD (i := 1) rfl kR kR kR kR kR (fun _ _ _ h => h) rfl rfl hS14 (fun W' hs' => aF rfl) ?_
     refine aD (i := 2) rfl kR kR kR kR kR (fun _ _ _ h => h) rfl rfl hS14 (fun W' hs' => aP (k := i1) Tryz.runUnderlying76 Tryz.sizeOf178 rfl rfl hAe10 hlt1) ?_
     refine aD (i := 3) rfl kR kR kR kR kR (fun _ _ _ h => h) rfl rfl hS14 (fun W' hs' => aL jK rfl) ?_
     refine aD (i := 4) rfl kR kR kR kR kR (fun _ _ _ h => h) rfl rfl hS14 (fun W' hs' => bR (v := .int .i64 (l[i1].Target)) Tryz.isAgg3 rfl hs'.1 rfl) ?_
     refine aD (i := 5) rfl kR kR kR kR kR (fun _ _ _ h => h) rfl rfl hS14 (fun W' hs' => aF rfl) ?_
     refine aD (i := 6) rfl kR kR kR kR kR (fun _ _ _ h => h) rfl rfl hS14 (fun W' hs' => aF rfl) ?_
     refine aD (i := 7) rfl kR kR kR kR kR (fun _ _ _ h => h) rfl rfl hS14 (fun W' hs' => aP (k := i1) Tryz.runUnderlying76 Tryz.sizeOf178 rfl rfl hAe11 hlu1) ?_
     refine aD (i := 8) rfl kR kR kR kR kR (fun _ _ _ h => h) rfl rfl hS14 (fun W' hs' => aL jK rfl) ?_
     refine aD (i := 9) rfl kR kR kR kR kR (fun _ _ _ h => h) rfl rfl hS14 (fun W' hs' => bR (v := .int .i64 (k[i1].Target)) Tryz.isAgg3 rfl hs'.2 rfl) ?_
     refine aD (i := 10) rfl kR kR kR kR kR (fun _ _ _ h => h) rfl rfl hS14 (fun W' hs' => bV hg12 (bN rfl rfl)) ?_
     refine aD (i := 11) rfl kR kR kR kR kR (fun _ _ _ h => h) rfl rfl hS14 (fun W' hs' => aF rfl) ?_
     refine aO (i := 12) rfl rfl rfl rfl rfl kR kR kR kR kR (fun _ _ _ h => h) rfl rfl hS14 ?_
     refine aO (i := 13) rfl rfl rfl rfl rfl kR kR kR kR kR (fun _ _ _ h => h) rfl rfl hS14 ?_
     refine aO (i := 14) rfl rfl rfl rfl rfl kR kR kR kR kR (fun _ _ _ h => h) rfl rfl hS14 ?_
     refine aO (i := 15) rfl rfl rfl rfl rfl kR kR kR kR kR (fun _ _ _ h => h) rfl rfl hS14 ?_
     refine aO (i := 16) rfl rfl rfl rfl rfl kR kR kR kR kR (fun _ _ _ h => h) rfl rfl hS14 ?_
     refine aO (i := 17) rfl rfl rfl rfl rfl kR kR kR kR kR (fun _ _ _ h => h) rfl rfl hS14 ?_
     refine aO (i := 18) rfl rfl rfl rfl rfl kR kR kR kR kR (fun _ _ _ h => h) rfl rfl hS14 ?_
     refine aO (i := 19) rfl rfl rfl rfl rfl kR kR kR kR kR (fun _ _ _ h => h) rfl rfl hS14 ?_
     refine aO (i := 20) rfl rfl rfl rfl rfl kR kR kR kR kR (fun _ _ _ h => h) rfl rfl hS14 ?_
     refine aO (i := 21) rfl rfl rfl rfl rfl kR kR kR kR kR (fun _ _ _ h => h) rfl rfl hS14 ?_
     refine aO (i := 22) rfl rfl rfl rfl rfl kR kR kR kR kR (fun _ _ _ h => h) rfl rfl hS14 ?_
     refine aD (i := 23) rfl kR kR kR kR kR (fun _ _ _ h => h) rfl rfl hS14 (fun W' hs' => aI (v := .bool (true)) (b := true) rfl rfl rfl rfl) ?_
     refine aD (i := 24) rfl kR kR kR kR kR (fun _ _ _ h => h) rfl rfl hS14 (fun W' hs' => aF rfl) ?_
     refine aO (i := 25) rfl rfl rfl rfl rfl kR kR kR kR kR (fun _ _ _ h => h) rfl rfl hS14 ?_
     refine aO (i := 26) rfl rfl rfl rfl rfl kR kR kR kR kR (fun _ _ _ h => h) rfl rfl hS14 ?_
     refine aO (i := 27) rfl rfl rfl rfl rfl kR kR kR kR kR (fun _ _ _ h => h) rfl rfl hS14 ?_
     refine aO (i := 28) rfl rfl rfl rfl rfl kR kR kR kR kR (fun _ _ _ h => h) rfl rfl hS14 ?_
     refine aO (i := 29) rfl rfl rfl rfl rfl kR kR kR kR kR (fun _ _ _ h => h) rfl rfl hS14 ?_
     refine aO (i := 30) rfl rfl rfl rfl rfl kR kR kR kR kR (fun _ _ _ h => h) rfl rfl hS14 ?_
     refine aO (i := 31) rfl rfl rfl rfl rfl kR kR kR kR kR (fun _ _ _ h => h) rfl rfl hS14 ?_
     refine aO (i := 32) rfl rfl rfl rfl rfl kR kR kR kR kR (fun _ _ _ h => h) rfl rfl hS14 ?_
     refine aO (i := 33) rfl rfl rfl rfl rfl kR kR kR kR kR (fun _ _ _ h => h) rfl rfl hS14 ?_
     refine aO (i := 34) rfl rfl rfl rfl rfl kR kR kR kR kR (fun _ _ _ h => h) rfl rfl hS14 ?_
     refine aO (i := 35) rfl rfl rfl rfl rfl kR kR kR kR kR (fun _ _ _ h => h) rfl rfl hS14 ?_
     refine aO (i := 36) rfl rfl rfl rfl rfl kR kR kR kR kR (fun _ _ _ h => h) rfl rfl hS14 ?_
     refine aD (i := 37) rfl kR kR kR kR kR (fun _ _ _ h => h) rfl rfl hS14 (fun W' hs' => aI (v := .bool (true)) (b := true) rfl rfl rfl rfl) ?_
     refine aD (i := 38) rfl kR kR kR kR kR (fun _ _ _ h => h) rfl rfl hS14 (fun W' hs' => aF rfl) ?_
     refine aO (i := 39) rfl rfl rfl rfl rfl kR kR kR kR kR (fun _ _ _ h => h) rfl rfl hS14 ?_
     refine aO (i := 40) rfl rfl rfl rfl rfl kR kR kR kR kR (fun _ _ _ h => h) rfl rfl hS14 ?_
     refine aO (i := 41) rfl rfl rfl rfl rfl kR kR kR kR kR (fun _ _ _ h => h) rfl rfl hS14 ?_
     refine aO (i := 42) rfl rfl rfl rfl rfl kR kR kR kR kR (fun _ _ _ h => h) rfl rfl hS14 ?_
     refine aO (i := 43) rfl rfl rfl rfl rfl kR kR kR kR kR (fun _ _ _ h => h) rfl rfl hS14 ?_
     refine aO (i := 44) rfl rfl rfl rfl rfl kR kR kR kR kR (fun _ _ _ h => h) rfl rfl hS14 ?_
     refine aO (i := 45) rfl rfl rfl rfl rfl kR kR kR kR kR (fun _ _ _ h => h) rfl rfl hS14 ?_
     refine aO (i := 46) rfl rfl rfl rfl rfl kR kR kR kR kR (fun _ _ _ h => h) rfl rfl hS14 ?_
     refine aO (i := 47) rfl rfl rfl rfl rfl kR kR kR kR kR (fun _ _ _ h => h) rfl rfl hS14 ?_
     refine aO (i := 48) rfl rfl rfl rfl rfl kR kR kR kR kR (fun _ _ _ h => h) rfl rfl hS14 ?_
     refine aO (i := 49) rfl rfl rfl rfl rfl kR kR kR kR kR (fun _ _ _ h => h) rfl rfl hS14 ?_
     refine aD (i := 50) rfl kR kR kR kR kR (fun _ _ _ h => h) rfl rfl hS14 (fun W' hs' => aI (v := .bool (true)) (b := true) rfl rfl rfl rfl) ?_
     refine aD (i := 51) rfl kR kR kR kR kR (fun _ _ _ h => h) rfl rfl hS14 (fun W' hs' => aF rfl) ?_
     refine aO (i := 52) rfl rfl rfl rfl rfl kR kR kR kR kR (fun _ _ _ h => h) rfl rfl hS14 ?_
     refine aO (i := 53) rfl rfl rfl rfl rfl kR kR kR kR kR (fun _ _ _ h => h) rfl rfl hS14 ?_
     refine aO (i := 54) rfl rfl rfl rfl rfl kR kR kR kR kR (fun _ _ _ h => h) rfl rfl hS14 ?_
     refine aO (i := 55) rfl rfl rfl rfl rfl kR kR kR kR kR (fun _ _ _ h => h) rfl rfl hS14 ?_
     refine aO (i := 56) rfl rfl rfl rfl rfl kR kR kR kR kR (fun _ _ _ h => h) rfl rfl hS14 ?_
     refine aO (i := 57) rfl rfl rfl rfl rfl kR kR kR kR kR (fun _ _ _ h => h) rfl rfl hS14 ?_
     refine aO (i := 58) rfl rfl rfl rfl rfl kR kR kR kR kR (fun _ _ _ h => h) rfl rfl hS14 ?_
     refine aO (i := 59) rfl rfl rfl rfl rfl kR kR kR kR kR (fun _ _ _ h => h) rfl rfl hS14 ?_
     refine aO (i := 60) rfl rfl rfl rfl rfl kR kR kR kR kR (fun _ _ _ h => h) rfl rfl hS14 ?_
     refine aO (i := 61) rfl rfl rfl rfl rfl kR kR kR kR kR (fun _ _ _ h => h) rfl rfl hS14 ?_
     refine aO (i := 62) rfl rfl rfl rfl rfl kR kR kR kR kR (fun _ _ _ h => h) rfl rfl hS14 ?_
     refine aD (i := 63) rfl kR kR kR kR kR (fun _ _ _ h => h) rfl rfl hS14 (fun W' hs' => aI (v := .bool (true)) (b := true) rfl rfl rfl rfl) ?_
     refine bU kR ?_ _
     refine aG ?_
     refine bX rfl ?_
     refine wp_seq ?_
     refine aM [0] rfl ?_
     refine aA ?_
     refine aB rfl (aJ rfl) rfl rfl ?_
     refine aH ?_
     refine aG ?_
     refine wp_ret ?_
     refine dS ?_
     refine aU ?_
     refine aU ?_
     refine dS ?_
     refine aU ?_
     have hz15 : aV bS l k = false := hf1.trans (eG bS l k i1 hlt1 hlu1 (by simp [bS, hg12]))
     have hr16 : aV bS l k = false := by simp [hg12, hz15]
     refine aQ (.inl rfl) Tryz.results69 rfl ?_
     rw [hr16]
     exact ⟨rfl, H13.1⟩
    ·by_cases hg17 : ((l[i1].Name).toList == (k[i1].Name).toList) = true
     ·by_cases hg18 : (aV dI (l[i1].bD) (k[i1].bD)) = true
      ·by_cases hg19 : ¬ ((l[i1].Result) : Int) = (k[i1].Result)
       ·refine dD (fun W' => Cat W' (Addr.add ade10 (i1 * 7)) [.int .i64 (l[i1].Target), .string (l[i1].Name), .slice Aade10_2 (l[i1].bD.length) cade10_2, .int .i64 (l[i1].Result), .int .i64 (l[i1].Tag.Vat), .int .i64 (l[i1].Tag.Entity), .int .i64 (l[i1].Tag.Seq)] ∧ Cat W' (Addr.add ade11 (i1 * 7)) [.int .i64 (k[i1].Target), .string (k[i1].Name), .slice Aade11_2 (k[i1].bD.length) cade11_2, .int .i64 (k[i1].Result), .int .i64 (k[i1].Tag.Vat), .int .i64 (k[i1].Tag.Entity), .int .i64 (k[i1].Tag.Seq)]) 64 kR ?_
        have H20 := H8.drew; clear H8
        have hS21 : Cat W6.drew (Addr.add ade10 (i1 * 7)) [.int .i64 (l[i1].Target), .string (l[i1].Name), .slice Aade10_2 (l[i1].bD.length) cade10_2, .int .i64 (l[i1].Result), .int .i64 (l[i1].Tag.Vat), .int .i64 (l[i1].Tag.Entity), .int .i64 (l[i1].Tag.Seq)] ∧ Cat W6.drew (Addr.add ade11 (i1 * 7)) [.int .i64 (k[i1].Target), .string (k[i1].Name), .slice Aade11_2 (k[i1].bD.length) cade11_2, .int .i64 (k[i1].Result), .int .i64 (k[i1].Tag.Vat), .int .i64 (k[i1].Tag.Entity), .int .i64 (k[i1].Tag.Seq)] := ⟨(Cat.upd hce10 H20.1), (Cat.upd hce11 H20.1)⟩
        refine aD (i := 0) rfl kR kR kR kR kR (fun _ _ _ h => h) rfl rfl hS21 (fun W' hs' => aF rfl) ?_
        refine aD (i := 1) rfl kR kR kR kR kR (fun _ _ _ h => h) rfl rfl hS21 (fun W' hs' => aF rfl) ?_
        refine aD (i := 2) rfl kR kR kR kR kR (fun _ _ _ h => h) rfl rfl hS21 (fun W' hs' => aP (k := i1) Tryz.runUnderlying76 Tryz.sizeOf178 rfl rfl hAe10 hlt1) ?_
        refine aD (i := 3) rfl kR kR kR kR kR (fun _ _ _ h => h) rfl rfl hS21 (fun W' hs' => aL jK rfl) ?_
        refine aD (i := 4) rfl kR kR kR kR kR (fun _ _ _ h => h) rfl rfl hS21 (fun W' hs' => bR (v := .int .i64 (l[i1].Target)) Tryz.isAgg3 rfl hs'.1 rfl) ?_
        refine aD (i := 5) rfl kR kR kR kR kR (fun _ _ _ h => h) rfl rfl hS21 (fun W' hs' => aF rfl) ?_
        refine aD (i := 6) rfl kR kR kR kR kR (fun _ _ _ h => h) rfl rfl hS21 (fun W' hs' => aF rfl) ?_
        refine aD (i := 7) rfl kR kR kR kR kR (fun _ _ _ h => h) rfl rfl hS21 (fun W' hs' => aP (k := i1) Tryz.runUnderlying76 Tryz.sizeOf178 rfl rfl hAe11 hlu1) ?_
        refine aD (i := 8) rfl kR kR kR kR kR (fun _ _ _ h => h) rfl rfl hS21 (fun W' hs' => aL jK rfl) ?_
        refine aD (i := 9) rfl kR kR kR kR kR (fun _ _ _ h => h) rfl rfl hS21 (fun W' hs' => bR (v := .int .i64 (k[i1].Target)) Tryz.isAgg3 rfl hs'.2 rfl) ?_
        refine aD (i := 10) rfl kR kR kR kR kR (fun _ _ _ h => h) rfl rfl hS21 (fun W' hs' => bO hg12 (bN rfl rfl)) ?_
        refine aD (i := 11) rfl kR kR kR kR kR (fun _ _ _ h => h) rfl rfl hS21 (fun W' hs' => aF rfl) ?_
        refine aK (i := 12) rfl rfl rfl rfl kR kR kR kR kR (fun _ _ _ h => h) rfl rfl hS21 (fun W' hs' => aF rfl) ?_
        refine aK (i := 13) rfl rfl rfl rfl kR kR kR kR kR (fun _ _ _ h => h) rfl rfl hS21 (fun W' hs' => aF rfl) ?_
        refine aK (i := 14) rfl rfl rfl rfl kR kR kR kR kR (fun _ _ _ h => h) rfl rfl hS21 (fun W' hs' => aP (k := i1) Tryz.runUnderlying76 Tryz.sizeOf178 rfl rfl hAe10 hlt1) ?_
        refine aK (i := 15) rfl rfl rfl rfl kR kR kR kR kR (fun _ _ _ h => h) rfl rfl hS21 (fun W' hs' => aL kG rfl) ?_
        refine aK (i := 16) rfl rfl rfl rfl kR kR kR kR kR (fun _ _ _ h => h) rfl rfl hS21 (fun W' hs' => bR (v := .string (l[i1].Name)) Tryz.isAgg9 rfl hs'.1 rfl) ?_
        refine aK (i := 17) rfl rfl rfl rfl kR kR kR kR kR (fun _ _ _ h => h) rfl rfl hS21 (fun W' hs' => aF rfl) ?_
        refine aK (i := 18) rfl rfl rfl rfl kR kR kR kR kR (fun _ _ _ h => h) rfl rfl hS21 (fun W' hs' => aF rfl) ?_
        refine aK (i := 19) rfl rfl rfl rfl kR kR kR kR kR (fun _ _ _ h => h) rfl rfl hS21 (fun W' hs' => aP (k := i1) Tryz.runUnderlying76 Tryz.sizeOf178 rfl rfl hAe11 hlu1) ?_
        refine aK (i := 20) rfl rfl rfl rfl kR kR kR kR kR (fun _ _ _ h => h) rfl rfl hS21 (fun W' hs' => aL kG rfl) ?_
        refine aK (i := 21) rfl rfl rfl rfl kR kR kR kR kR (fun _ _ _ h => h) rfl rfl hS21 (fun W' hs' => bR (v := .string (k[i1].Name)) Tryz.isAgg9 rfl hs'.2 rfl) ?_
        refine aK (i := 22) rfl rfl rfl rfl kR kR kR kR kR (fun _ _ _ h => h) rfl rfl hS21 (fun W' hs' => cZ (b := !((l[i1].Name).toList == (k[i1].Name).toList)) (by rw [hg17]) (jV rfl rfl)) ?_
        refine aD (i := 23) rfl kR kR kR kR kR (fun _ _ _ h => h) rfl rfl hS21 (fun W' hs' => aI (v := .bool (false)) (b := false) rfl rfl rfl rfl) ?_
        refine aD (i := 24) rfl kR kR kR kR kR (fun _ _ _ h => h) rfl rfl hS21 (fun W' hs' => aF rfl) ?_
        refine aK (i := 25) rfl rfl rfl rfl kR kR kR kR kR (fun _ _ _ h => h) rfl rfl hS21 (fun W' hs' => aF rfl) ?_
        refine aK (i := 26) rfl rfl rfl rfl kR kR kR kR kR (fun _ _ _ h => h) rfl rfl hS21 (fun W' hs' => aF rfl) ?_
        refine aK (i := 27) rfl rfl rfl rfl kR kR kR kR kR (fun _ _ _ h => h) rfl rfl hS21 (fun W' hs' => aP (k := i1) Tryz.runUnderlying76 Tryz.sizeOf178 rfl rfl hAe10 hlt1) ?_
        refine aK (i := 28) rfl rfl rfl rfl kR kR kR kR kR (fun _ _ _ h => h) rfl rfl hS21 (fun W' hs' => aL lI rfl) ?_
        refine aK (i := 29) rfl rfl rfl rfl kR kR kR kR kR (fun _ _ _ h => h) rfl rfl hS21 (fun W' hs' => bR (v := .slice Aade10_2 (l[i1].bD.length) cade10_2) Tryz.isAgg127 rfl hs'.1 rfl) ?_
        refine aK (i := 30) rfl rfl rfl rfl kR kR kR kR kR (fun _ _ _ h => h) rfl rfl hS21 (fun W' hs' => aF rfl) ?_
        refine aK (i := 31) rfl rfl rfl rfl kR kR kR kR kR (fun _ _ _ h => h) rfl rfl hS21 (fun W' hs' => aF rfl) ?_
        refine aK (i := 32) rfl rfl rfl rfl kR kR kR kR kR (fun _ _ _ h => h) rfl rfl hS21 (fun W' hs' => aP (k := i1) Tryz.runUnderlying76 Tryz.sizeOf178 rfl rfl hAe11 hlu1) ?_
        refine aK (i := 33) rfl rfl rfl rfl kR kR kR kR kR (fun _ _ _ h => h) rfl rfl hS21 (fun W' hs' => aL lI rfl) ?_
        refine aK (i := 34) rfl rfl rfl rfl kR kR kR kR kR (fun _ _ _ h => h) rfl rfl hS21 (fun W' hs' => bR (v := .slice Aade11_2 (k[i1].bD.length) cade11_2) Tryz.isAgg127 rfl hs'.2 rfl) ?_
        refine gW (i := 35) kR ?_
        refine aR rfl rfl rfl rfl (fun _ ho22 => ?_)
        refine bP ho22 Tryz.call113 (vs := #[.slice Aade10_2 (l[i1].bD.length) cade10_2, .slice Aade11_2 (k[i1].bD.length) cade11_2]) rfl rfl rfl (fK (kJ (l[i1].bD) (k[i1].bD) _ _ _ _ _ (aS H20.1 hCade10_2) (aS H20.1 hCade11_2)) hg18) ?_
        rintro e25 W24 ⟨rfl, hu23⟩; refine ⟨_, rfl, ?_⟩
        have H26 := H20.no hu23; clear H20
        have hS27 := And.intro (Cat.upd hce10 H26.1) ((Cat.upd hce11 H26.1)); refine ⟨fun _ => hS27, ?_⟩
        refine aK (i := 36) rfl rfl rfl rfl kR kR kR kR kR (fun _ _ _ h => h) rfl rfl hS27 (fun W' hs' => gD rfl) ?_
        refine aD (i := 37) rfl kR kR kR kR kR (fun _ _ _ h => h) rfl rfl hS27 (fun W' hs' => aI (v := .bool (false)) (b := false) rfl rfl rfl rfl) ?_
        refine aD (i := 38) rfl kR kR kR kR kR (fun _ _ _ h => h) rfl rfl hS27 (fun W' hs' => aF rfl) ?_
        refine aK (i := 39) rfl rfl rfl rfl kR kR kR kR kR (fun _ _ _ h => h) rfl rfl hS27 (fun W' hs' => aF rfl) ?_
        refine aK (i := 40) rfl rfl rfl rfl kR kR kR kR kR (fun _ _ _ h => h) rfl rfl hS27 (fun W' hs' => aF rfl) ?_
        refine aK (i := 41) rfl rfl rfl rfl kR kR kR kR kR (fun _ _ _ h => h) rfl rfl hS27 (fun W' hs' => aP (k := i1) Tryz.runUnderlying76 Tryz.sizeOf178 rfl rfl hAe10 hlt1) ?_
        refine aK (i := 42) rfl rfl rfl rfl kR kR kR kR kR (fun _ _ _ h => h) rfl rfl hS27 (fun W' hs' => aL nM rfl) ?_
        refine aK (i := 43) rfl rfl rfl rfl kR kR kR kR kR (fun _ _ _ h => h) rfl rfl hS27 (fun W' hs' => bR (v := .int .i64 (l[i1].Result)) Tryz.isAgg3 rfl hs'.1 rfl) ?_
        refine aK (i := 44) rfl rfl rfl rfl kR kR kR kR kR (fun _ _ _ h => h) rfl rfl hS27 (fun W' hs' => aF rfl) ?_
        refine aK (i := 45) rfl rfl rfl rfl kR kR kR kR kR (fun _ _ _ h => h) rfl rfl hS27 (fun W' hs' => aF rfl) ?_
        refine aK (i := 46) rfl rfl rfl rfl kR kR kR kR kR (fun _ _ _ h => h) rfl rfl hS27 (fun W' hs' => aP (k := i1) Tryz.runUnderlying76 Tryz.sizeOf178 rfl rfl hAe11 hlu1) ?_
        refine aK (i := 47) rfl rfl rfl rfl kR kR kR kR kR (fun _ _ _ h => h) rfl rfl hS27 (fun W' hs' => aL nM rfl) ?_
        refine aK (i := 48) rfl rfl rfl rfl kR kR kR kR kR (fun _ _ _ h => h) rfl rfl hS27 (fun W' hs' => bR (v := .int .i64 (k[i1].Result)) Tryz.isAgg3 rfl hs'.2 rfl) ?_
        refine aK (i := 49) rfl rfl rfl rfl kR kR kR kR kR (fun _ _ _ h => h) rfl rfl hS27 (fun W' hs' => bV hg19 (bN rfl rfl)) ?_
        refine aD (i := 50) rfl kR kR kR kR kR (fun _ _ _ h => h) rfl rfl hS27 (fun W' hs' => aI (v := .bool (true)) (b := false) rfl rfl rfl rfl) ?_
        refine aD (i := 51) rfl kR kR kR kR kR (fun _ _ _ h => h) rfl rfl hS27 (fun W' hs' => aF rfl) ?_
        refine aO (i := 52) rfl rfl rfl rfl rfl kR kR kR kR kR (fun _ _ _ h => h) rfl rfl hS27 ?_
        refine aO (i := 53) rfl rfl rfl rfl rfl kR kR kR kR kR (fun _ _ _ h => h) rfl rfl hS27 ?_
        refine aO (i := 54) rfl rfl rfl rfl rfl kR kR kR kR kR (fun _ _ _ h => h) rfl rfl hS27 ?_
        refine aO (i := 55) rfl rfl rfl rfl rfl kR kR kR kR kR (fun _ _ _ h => h) rfl rfl hS27 ?_
        refine aO (i := 56) rfl rfl rfl rfl rfl kR kR kR kR kR (fun _ _ _ h => h) rfl rfl hS27 ?_
        refine aO (i := 57) rfl rfl rfl rfl rfl kR kR kR kR kR (fun _ _ _ h => h) rfl rfl hS27 ?_
        refine aO (i := 58) rfl rfl rfl rfl rfl kR kR kR kR kR (fun _ _ _ h => h) rfl rfl hS27 ?_
        refine aO (i := 59) rfl rfl rfl rfl rfl kR kR kR kR kR (fun _ _ _ h => h) rfl rfl hS27 ?_
        refine aO (i := 60) rfl rfl rfl rfl rfl kR kR kR kR kR (fun _ _ _ h => h) rfl rfl hS27 ?_
        refine aO (i := 61) rfl rfl rfl rfl rfl kR kR kR kR kR (fun _ _ _ h => h) rfl rfl hS27 ?_
        refine aO (i := 62) rfl rfl rfl rfl rfl kR kR kR kR kR (fun _ _ _ h => h) rfl rfl hS27 ?_
        refine aD (i := 63) rfl kR kR kR kR kR (fun _ _ _ h => h) rfl rfl hS27 (fun W' hs' => aI (v := .bool (true)) (b := true) rfl rfl rfl rfl) ?_
        refine bU kR ?_ _
        refine aG ?_
        refine bX rfl ?_
        refine wp_seq ?_
        refine aM [0] rfl ?_
        refine aA ?_
        refine aB rfl (aJ rfl) rfl rfl ?_
        refine aH ?_
        refine aG ?_
        refine wp_ret ?_
        refine dS ?_
        refine aU ?_
        refine aU ?_
        refine dS ?_
        refine aU ?_
        have hz28 : aV bS l k = false := hf1.trans (eG bS l k i1 hlt1 hlu1 (by simp [bS, (Decidable.of_not_not hg12), hg17, hg18, hg19]))
        have hr29 : aV bS l k = false := by simp [(Decidable.of_not_not hg12), hg17, hg18, hg19, hz28]
        refine aQ (.inl rfl) Tryz.results69 rfl ?_
        rw [hr29]
        exact ⟨rfl, H26.1⟩
       ·by_cases hg30 : (jN (l[i1].Tag) (k[i1].Tag)) = true
        ·refine dD (fun W' => Cat W' (Addr.add ade10 (i1 * 7)) [.int .i64 (l[i1].Target), .string (l[i1].Name), .slice Aade10_2 (l[i1].bD.length) cade10_2, .int .i64 (l[i1].Result), .int .i64 (l[i1].Tag.Vat), .int .i64 (l[i1].Tag.Entity), .int .i64 (l[i1].Tag.Seq)] ∧ Cat W' (Addr.add ade11 (i1 * 7)) [.int .i64 (k[i1].Target), .string (k[i1].Name), .slice Aade11_2 (k[i1].bD.length) cade11_2, .int .i64 (k[i1].Result), .int .i64 (k[i1].Tag.Vat), .int .i64 (k[i1].Tag.Entity), .int .i64 (k[i1].Tag.Seq)]) 64 kR ?_
         have H31 := H8.drew; clear H8
         have hS32 : Cat W6.drew (Addr.add ade10 (i1 * 7)) [.int .i64 (l[i1].Target), .string (l[i1].Name), .slice Aade10_2 (l[i1].bD.length) cade10_2, .int .i64 (l[i1].Result), .int .i64 (l[i1].Tag.Vat), .int .i64 (l[i1].Tag.Entity), .int .i64 (l[i1].Tag.Seq)] ∧ Cat W6.drew (Addr.add ade11 (i1 * 7)) [.int .i64 (k[i1].Target), .string (k[i1].Name), .slice Aade11_2 (k[i1].bD.length) cade11_2, .int .i64 (k[i1].Result), .int .i64 (k[i1].Tag.Vat), .int .i64 (k[i1].Tag.Entity), .int .i64 (k[i1].Tag.Seq)] := ⟨(Cat.upd hce10 H31.1), (Cat.upd hce11 H31.1)⟩
         refine aD (i := 0) rfl kR kR kR kR kR (fun _ _ _ h => h) rfl rfl hS32 (fun W' hs' => aF rfl) ?_
         refine aD (i := 1) rfl kR kR kR kR kR (fun _ _ _ h => h) rfl rfl hS32 (fun W' hs' => aF rfl) ?_
         refine aD (i := 2) rfl kR kR kR kR kR (fun _ _ _ h => h) rfl rfl hS32 (fun W' hs' => aP (k := i1) Tryz.runUnderlying76 Tryz.sizeOf178 rfl rfl hAe10 hlt1) ?_
         refine aD (i := 3) rfl kR kR kR kR kR (fun _ _ _ h => h) rfl rfl hS32 (fun W' hs' => aL jK rfl) ?_
         refine aD (i := 4) rfl kR kR kR kR kR (fun _ _ _ h => h) rfl rfl hS32 (fun W' hs' => bR (v := .int .i64 (l[i1].Target)) Tryz.isAgg3 rfl hs'.1 rfl) ?_
         refine aD (i := 5) rfl kR kR kR kR kR (fun _ _ _ h => h) rfl rfl hS32 (fun W' hs' => aF rfl) ?_
         refine aD (i := 6) rfl kR kR kR kR kR (fun _ _ _ h => h) rfl rfl hS32 (fun W' hs' => aF rfl) ?_
         refine aD (i := 7) rfl kR kR kR kR kR (fun _ _ _ h => h) rfl rfl hS32 (fun W' hs' => aP (k := i1) Tryz.runUnderlying76 Tryz.sizeOf178 rfl rfl hAe11 hlu1) ?_
         refine aD (i := 8) rfl kR kR kR kR kR (fun _ _ _ h => h) rfl rfl hS32 (fun W' hs' => aL jK rfl) ?_
         refine aD (i := 9) rfl kR kR kR kR kR (fun _ _ _ h => h) rfl rfl hS32 (fun W' hs' => bR (v := .int .i64 (k[i1].Target)) Tryz.isAgg3 rfl hs'.2 rfl) ?_
         refine aD (i := 10) rfl kR kR kR kR kR (fun _ _ _ h => h) rfl rfl hS32 (fun W' hs' => bO hg12 (bN rfl rfl)) ?_
         refine aD (i := 11) rfl kR kR kR kR kR (fun _ _ _ h => h) rfl rfl hS32 (fun W' hs' => aF rfl) ?_
         refine aK (i := 12) rfl rfl rfl rfl kR kR kR kR kR (fun _ _ _ h => h) rfl rfl hS32 (fun W' hs' => aF rfl) ?_
         refine aK (i := 13) rfl rfl rfl rfl kR kR kR kR kR (fun _ _ _ h => h) rfl rfl hS32 (fun W' hs' => aF rfl) ?_
         refine aK (i := 14) rfl rfl rfl rfl kR kR kR kR kR (fun _ _ _ h => h) rfl rfl hS32 (fun W' hs' => aP (k := i1) Tryz.runUnderlying76 Tryz.sizeOf178 rfl rfl hAe10 hlt1) ?_
         refine aK (i := 15) rfl rfl rfl rfl kR kR kR kR kR (fun _ _ _ h => h) rfl rfl hS32 (fun W' hs' => aL kG rfl) ?_
         refine aK (i := 16) rfl rfl rfl rfl kR kR kR kR kR (fun _ _ _ h => h) rfl rfl hS32 (fun W' hs' => bR (v := .string (l[i1].Name)) Tryz.isAgg9 rfl hs'.1 rfl) ?_
         refine aK (i := 17) rfl rfl rfl rfl kR kR kR kR kR (fun _ _ _ h => h) rfl rfl hS32 (fun W' hs' => aF rfl) ?_
         refine aK (i := 18) rfl rfl rfl rfl kR kR kR kR kR (fun _ _ _ h => h) rfl rfl hS32 (fun W' hs' => aF rfl) ?_
         refine aK (i := 19) rfl rfl rfl rfl kR kR kR kR kR (fun _ _ _ h => h) rfl rfl hS32 (fun W' hs' => aP (k := i1) Tryz.runUnderlying76 Tryz.sizeOf178 rfl rfl hAe11 hlu1) ?_
         refine aK (i := 20) rfl rfl rfl rfl kR kR kR kR kR (fun _ _ _ h => h) rfl rfl hS32 (fun W' hs' => aL kG rfl) ?_
         refine aK (i := 21) rfl rfl rfl rfl kR kR kR kR kR (fun _ _ _ h => h) rfl rfl hS32 (fun W' hs' => bR (v := .string (k[i1].Name)) Tryz.isAgg9 rfl hs'.2 rfl) ?_
         refine aK (i := 22) rfl rfl rfl rfl kR kR kR kR kR (fun _ _ _ h => h) rfl rfl hS32 (fun W' hs' => cZ (b := !((l[i1].Name).toList == (k[i1].Name).toList)) (by rw [hg17]) (jV rfl rfl)) ?_
         refine aD (i := 23) rfl kR kR kR kR kR (fun _ _ _ h => h) rfl rfl hS32 (fun W' hs' => aI (v := .bool (false)) (b := false) rfl rfl rfl rfl) ?_
         refine aD (i := 24) rfl kR kR kR kR kR (fun _ _ _ h => h) rfl rfl hS32 (fun W' hs' => aF rfl) ?_
         refine aK (i := 25) rfl rfl rfl rfl kR kR kR kR kR (fun _ _ _ h => h) rfl rfl hS32 (fun W' hs' => aF rfl) ?_
         refine aK (i := 26) rfl rfl rfl rfl kR kR kR kR kR (fun _ _ _ h => h) rfl rfl hS32 (fun W' hs' => aF rfl) ?_
         refine aK (i := 27) rfl rfl rfl rfl kR kR kR kR kR (fun _ _ _ h => h) rfl rfl hS32 (fun W' hs' => aP (k := i1) Tryz.runUnderlying76 Tryz.sizeOf178 rfl rfl hAe10 hlt1) ?_
         refine aK (i := 28) rfl rfl rfl rfl kR kR kR kR kR (fun _ _ _ h => h) rfl rfl hS32 (fun W' hs' => aL lI rfl) ?_
         refine aK (i := 29) rfl rfl rfl rfl kR kR kR kR kR (fun _ _ _ h => h) rfl rfl hS32 (fun W' hs' => bR (v := .slice Aade10_2 (l[i1].bD.length) cade10_2) Tryz.isAgg127 rfl hs'.1 rfl) ?_
         refine aK (i := 30) rfl rfl rfl rfl kR kR kR kR kR (fun _ _ _ h => h) rfl rfl hS32 (fun W' hs' => aF rfl) ?_
         refine aK (i := 31) rfl rfl rfl rfl kR kR kR kR kR (fun _ _ _ h => h) rfl rfl hS32 (fun W' hs' => aF rfl) ?_
         refine aK (i := 32) rfl rfl rfl rfl kR kR kR kR kR (fun _ _ _ h => h) rfl rfl hS32 (fun W' hs' => aP (k := i1) Tryz.runUnderlying76 Tryz.sizeOf178 rfl rfl hAe11 hlu1) ?_
         refine aK (i := 33) rfl rfl rfl rfl kR kR kR kR kR (fun _ _ _ h => h) rfl rfl hS32 (fun W' hs' => aL lI rfl) ?_
         refine aK (i := 34) rfl rfl rfl rfl kR kR kR kR kR (fun _ _ _ h => h) rfl rfl hS32 (fun W' hs' => bR (v := .slice Aade11_2 (k[i1].bD.length) cade11_2) Tryz.isAgg127 rfl hs'.2 rfl) ?_
         refine gW (i := 35) kR ?_
         refine aR rfl rfl rfl rfl (fun _ ho33 => ?_)
         refine bP ho33 Tryz.call113 (vs := #[.slice Aade10_2 (l[i1].bD.length) cade10_2, .slice Aade11_2 (k[i1].bD.length) cade11_2]) rfl rfl rfl (fK (kJ (l[i1].bD) (k[i1].bD) _ _ _ _ _ (aS H31.1 hCade10_2) (aS H31.1 hCade11_2)) hg18) ?_
         rintro e36 W35 ⟨rfl, hu34⟩; refine ⟨_, rfl, ?_⟩
         have H37 := H31.no hu34; clear H31
         have hS38 := And.intro (Cat.upd hce10 H37.1) ((Cat.upd hce11 H37.1)); refine ⟨fun _ => hS38, ?_⟩
         refine aK (i := 36) rfl rfl rfl rfl kR kR kR kR kR (fun _ _ _ h => h) rfl rfl hS38 (fun W' hs' => gD rfl) ?_
         refine aD (i := 37) rfl kR kR kR kR kR (fun _ _ _ h => h) rfl rfl hS38 (fun W' hs' => aI (v := .bool (false)) (b := false) rfl rfl rfl rfl) ?_
         refine aD (i := 38) rfl kR kR kR kR kR (fun _ _ _ h => h) rfl rfl hS38 (fun W' hs' => aF rfl) ?_
         refine aK (i := 39) rfl rfl rfl rfl kR kR kR kR kR (fun _ _ _ h => h) rfl rfl hS38 (fun W' hs' => aF rfl) ?_
         refine aK (i := 40) rfl rfl rfl rfl kR kR kR kR kR (fun _ _ _ h => h) rfl rfl hS38 (fun W' hs' => aF rfl) ?_
         refine aK (i := 41) rfl rfl rfl rfl kR kR kR kR kR (fun _ _ _ h => h) rfl rfl hS38 (fun W' hs' => aP (k := i1) Tryz.runUnderlying76 Tryz.sizeOf178 rfl rfl hAe10 hlt1) ?_
         refine aK (i := 42) rfl rfl rfl rfl kR kR kR kR kR (fun _ _ _ h => h) rfl rfl hS38 (fun W' hs' => aL nM rfl) ?_
         refine aK (i := 43) rfl rfl rfl rfl kR kR kR kR kR (fun _ _ _ h => h) rfl rfl hS38 (fun W' hs' => bR (v := .int .i64 (l[i1].Result)) Tryz.isAgg3 rfl hs'.1 rfl) ?_
         refine aK (i := 44) rfl rfl rfl rfl kR kR kR kR kR (fun _ _ _ h => h) rfl rfl hS38 (fun W' hs' => aF rfl) ?_
         refine aK (i := 45) rfl rfl rfl rfl kR kR kR kR kR (fun _ _ _ h => h) rfl rfl hS38 (fun W' hs' => aF rfl) ?_
         refine aK (i := 46) rfl rfl rfl rfl kR kR kR kR kR (fun _ _ _ h => h) rfl rfl hS38 (fun W' hs' => aP (k := i1) Tryz.runUnderlying76 Tryz.sizeOf178 rfl rfl hAe11 hlu1) ?_
         refine aK (i := 47) rfl rfl rfl rfl kR kR kR kR kR (fun _ _ _ h => h) rfl rfl hS38 (fun W' hs' => aL nM rfl) ?_
         refine aK (i := 48) rfl rfl rfl rfl kR kR kR kR kR (fun _ _ _ h => h) rfl rfl hS38 (fun W' hs' => bR (v := .int .i64 (k[i1].Result)) Tryz.isAgg3 rfl hs'.2 rfl) ?_
         refine aK (i := 49) rfl rfl rfl rfl kR kR kR kR kR (fun _ _ _ h => h) rfl rfl hS38 (fun W' hs' => bO hg19 (bN rfl rfl)) ?_
         refine aD (i := 50) rfl kR kR kR kR kR (fun _ _ _ h => h) rfl rfl hS38 (fun W' hs' => aI (v := .bool (false)) (b := false) rfl rfl rfl rfl) ?_
         refine aD (i := 51) rfl kR kR kR kR kR (fun _ _ _ h => h) rfl rfl hS38 (fun W' hs' => aF rfl) ?_
         refine aK (i := 52) rfl rfl rfl rfl kR kR kR kR kR (fun _ _ _ h => h) rfl rfl hS38 (fun W' hs' => aF rfl) ?_
         refine aK (i := 53) rfl rfl rfl rfl kR kR kR kR kR (fun _ _ _ h => h) rfl rfl hS38 (fun W' hs' => aF rfl) ?_
         refine aK (i := 54) rfl rfl rfl rfl kR kR kR kR kR (fun _ _ _ h => h) rfl rfl hS38 (fun W' hs' => aP (k := i1) Tryz.runUnderlying76 Tryz.sizeOf178 rfl rfl hAe10 hlt1) ?_
         refine aK (i := 55) rfl rfl rfl rfl kR kR kR kR kR (fun _ _ _ h => h) rfl rfl hS38 (fun W' hs' => aL fa_178_4 rfl) ?_
         refine aK (i := 56) rfl rfl rfl rfl kR kR kR kR kR (fun _ _ _ h => h) rfl rfl hS38 (fun W' hs' => lX (sub := [.int .i64 (l[i1].Tag.Vat), .int .i64 (l[i1].Tag.Entity), .int .i64 (l[i1].Tag.Seq)]) Tryz.isAgg50 Tryz.sizeOf50 rfl hs'.1 rfl rfl) ?_
         refine aK (i := 57) rfl rfl rfl rfl kR kR kR kR kR (fun _ _ _ h => h) rfl rfl hS38 (fun W' hs' => aF rfl) ?_
         refine aK (i := 58) rfl rfl rfl rfl kR kR kR kR kR (fun _ _ _ h => h) rfl rfl hS38 (fun W' hs' => aF rfl) ?_
         refine aK (i := 59) rfl rfl rfl rfl kR kR kR kR kR (fun _ _ _ h => h) rfl rfl hS38 (fun W' hs' => aP (k := i1) Tryz.runUnderlying76 Tryz.sizeOf178 rfl rfl hAe11 hlu1) ?_
         refine aK (i := 60) rfl rfl rfl rfl kR kR kR kR kR (fun _ _ _ h => h) rfl rfl hS38 (fun W' hs' => aL fa_178_4 rfl) ?_
         refine aK (i := 61) rfl rfl rfl rfl kR kR kR kR kR (fun _ _ _ h => h) rfl rfl hS38 (fun W' hs' => lX (sub := [.int .i64 (k[i1].Tag.Vat), .int .i64 (k[i1].Tag.Entity), .int .i64 (k[i1].Tag.Seq)]) Tryz.isAgg50 Tryz.sizeOf50 rfl hs'.2 rfl rfl) ?_
         refine aK (i := 62) rfl rfl rfl rfl kR kR kR kR kR (fun _ _ _ h => h) rfl rfl hS38 (fun W' hs' => cZ (b := !(jN (l[i1].Tag) (k[i1].Tag))) (by rw [hg30]) (fJ Tryz.eqGuardType50 rfl rfl (oH (l[i1].Tag) (k[i1].Tag) _ 9998))) ?_
         refine aD (i := 63) rfl kR kR kR kR kR (fun _ _ _ h => h) rfl rfl hS38 (fun W' hs' => aI (v := .bool (false)) (b := false) rfl rfl rfl rfl) ?_
         refine bU kR ?_ _
         refine aG ?_
         refine dU rfl ?_
         refine wp_skip ?_
         refine iY ?_
         refine aG ?_
         refine aM [0, 1, 2] rfl ?_
         refine aA ?_
         refine aB rfl (aF rfl) rfl rfl ?_
         refine aA ?_
         refine aB rfl (iB (k := i1) rfl rfl kO) rfl rfl ?_
         refine aA ?_
         refine aB rfl (aJ rfl) rfl rfl ?_
         refine aH ?_
         refine aG ?_
         exact (bA [(0, .slice A l.length c), (1, .slice A' k.length c'), (5, .int .i64 (((i1 + 1 : Nat) : Int)))] rfl).elim fun x' hx => ⟨r5 - 1, kO, i1 + 1, x', hx, kO, (hf1.trans (fC bS l k i1 hlt1 hlu1 (by simp [bS, (Decidable.of_not_not hg12), hg17, hg18, (Decidable.of_not_not hg19), hg30]))), H37⟩
        ·refine dD (fun W' => Cat W' (Addr.add ade10 (i1 * 7)) [.int .i64 (l[i1].Target), .string (l[i1].Name), .slice Aade10_2 (l[i1].bD.length) cade10_2, .int .i64 (l[i1].Result), .int .i64 (l[i1].Tag.Vat), .int .i64 (l[i1].Tag.Entity), .int .i64 (l[i1].Tag.Seq)] ∧ Cat W' (Addr.add ade11 (i1 * 7)) [.int .i64 (k[i1].Target), .string (k[i1].Name), .slice Aade11_2 (k[i1].bD.length) cade11_2, .int .i64 (k[i1].Result), .int .i64 (k[i1].Tag.Vat), .int .i64 (k[i1].Tag.Entity), .int .i64 (k[i1].Tag.Seq)]) 64 kR ?_
         have H39 := H8.drew; clear H8
         have hS40 : Cat W6.drew (Addr.add ade10 (i1 * 7)) [.int .i64 (l[i1].Target), .string (l[i1].Name), .slice Aade10_2 (l[i1].bD.length) cade10_2, .int .i64 (l[i1].Result), .int .i64 (l[i1].Tag.Vat), .int .i64 (l[i1].Tag.Entity), .int .i64 (l[i1].Tag.Seq)] ∧ Cat W6.drew (Addr.add ade11 (i1 * 7)) [.int .i64 (k[i1].Target), .string (k[i1].Name), .slice Aade11_2 (k[i1].bD.length) cade11_2, .int .i64 (k[i1].Result), .int .i64 (k[i1].Tag.Vat), .int .i64 (k[i1].Tag.Entity), .int .i64 (k[i1].Tag.Seq)] := ⟨(Cat.upd hce10 H39.1), (Cat.upd hce11 H39.1)⟩
         refine aD (i := 0) rfl kR kR kR kR kR (fun _ _ _ h => h) rfl rfl hS40 (fun W' hs' => aF rfl) ?_
         refine aD (i := 1) rfl kR kR kR kR kR (fun _ _ _ h => h) rfl rfl hS40 (fun W' hs' => aF rfl) ?_
         refine aD (i := 2) rfl kR kR kR kR kR (fun _ _ _ h => h) rfl rfl hS40 (fun W' hs' => aP (k := i1) Tryz.runUnderlying76 Tryz.sizeOf178 rfl rfl hAe10 hlt1) ?_
         refine aD (i := 3) rfl kR kR kR kR kR (fun _ _ _ h => h) rfl rfl hS40 (fun W' hs' => aL jK rfl) ?_
         refine aD (i := 4) rfl kR kR kR kR kR (fun _ _ _ h => h) rfl rfl hS40 (fun W' hs' => bR (v := .int .i64 (l[i1].Target)) Tryz.isAgg3 rfl hs'.1 rfl) ?_
         refine aD (i := 5) rfl kR kR kR kR kR (fun _ _ _ h => h) rfl rfl hS40 (fun W' hs' => aF rfl) ?_
         refine aD (i := 6) rfl kR kR kR kR kR (fun _ _ _ h => h) rfl rfl hS40 (fun W' hs' => aF rfl) ?_
         refine aD (i := 7) rfl kR kR kR kR kR (fun _ _ _ h => h) rfl rfl hS40 (fun W' hs' => aP (k := i1) Tryz.runUnderlying76 Tryz.sizeOf178 rfl rfl hAe11 hlu1) ?_
         refine aD (i := 8) rfl kR kR kR kR kR (fun _ _ _ h => h) rfl rfl hS40 (fun W' hs' => aL jK rfl) ?_
         refine aD (i := 9) rfl kR kR kR kR kR (fun _ _ _ h => h) rfl rfl hS40 (fun W' hs' => bR (v := .int .i64 (k[i1].Target)) Tryz.isAgg3 rfl hs'.2 rfl) ?_
         refine aD (i := 10) rfl kR kR kR kR kR (fun _ _ _ h => h) rfl rfl hS40 (fun W' hs' => bO hg12 (bN rfl rfl)) ?_
         refine aD (i := 11) rfl kR kR kR kR kR (fun _ _ _ h => h) rfl rfl hS40 (fun W' hs' => aF rfl) ?_
         refine aK (i := 12) rfl rfl rfl rfl kR kR kR kR kR (fun _ _ _ h => h) rfl rfl hS40 (fun W' hs' => aF rfl) ?_
         refine aK (i := 13) rfl rfl rfl rfl kR kR kR kR kR (fun _ _ _ h => h) rfl rfl hS40 (fun W' hs' => aF rfl) ?_
         refine aK (i := 14) rfl rfl rfl rfl kR kR kR kR kR (fun _ _ _ h => h) rfl rfl hS40 (fun W' hs' => aP (k := i1) Tryz.runUnderlying76 Tryz.sizeOf178 rfl rfl hAe10 hlt1) ?_
         refine aK (i := 15) rfl rfl rfl rfl kR kR kR kR kR (fun _ _ _ h => h) rfl rfl hS40 (fun W' hs' => aL kG rfl) ?_
         refine aK (i := 16) rfl rfl rfl rfl kR kR kR kR kR (fun _ _ _ h => h) rfl rfl hS40 (fun W' hs' => bR (v := .string (l[i1].Name)) Tryz.isAgg9 rfl hs'.1 rfl) ?_
         refine aK (i := 17) rfl rfl rfl rfl kR kR kR kR kR (fun _ _ _ h => h) rfl rfl hS40 (fun W' hs' => aF rfl) ?_
         refine aK (i := 18) rfl rfl rfl rfl kR kR kR kR kR (fun _ _ _ h => h) rfl rfl hS40 (fun W' hs' => aF rfl) ?_
         refine aK (i := 19) rfl rfl rfl rfl kR kR kR kR kR (fun _ _ _ h => h) rfl rfl hS40 (fun W' hs' => aP (k := i1) Tryz.runUnderlying76 Tryz.sizeOf178 rfl rfl hAe11 hlu1) ?_
         refine aK (i := 20) rfl rfl rfl rfl kR kR kR kR kR (fun _ _ _ h => h) rfl rfl hS40 (fun W' hs' => aL kG rfl) ?_
         refine aK (i := 21) rfl rfl rfl rfl kR kR kR kR kR (fun _ _ _ h => h) rfl rfl hS40 (fun W' hs' => bR (v := .string (k[i1].Name)) Tryz.isAgg9 rfl hs'.2 rfl) ?_
         refine aK (i := 22) rfl rfl rfl rfl kR kR kR kR kR (fun _ _ _ h => h) rfl rfl hS40 (fun W' hs' => cZ (b := !((l[i1].Name).toList == (k[i1].Name).toList)) (by rw [hg17]) (jV rfl rfl)) ?_
         refine aD (i := 23) rfl kR kR kR kR kR (fun _ _ _ h => h) rfl rfl hS40 (fun W' hs' => aI (v := .bool (false)) (b := false) rfl rfl rfl rfl) ?_
         refine aD (i := 24) rfl kR kR kR kR kR (fun _ _ _ h => h) rfl rfl hS40 (fun W' hs' => aF rfl) ?_
         refine aK (i := 25) rfl rfl rfl rfl kR kR kR kR kR (fun _ _ _ h => h) rfl rfl hS40 (fun W' hs' => aF rfl) ?_
         refine aK (i := 26) rfl rfl rfl rfl kR kR kR kR kR (fun _ _ _ h => h) rfl rfl hS40 (fun W' hs' => aF rfl) ?_
         refine aK (i := 27) rfl rfl rfl rfl kR kR kR kR kR (fun _ _ _ h => h) rfl rfl hS40 (fun W' hs' => aP (k := i1) Tryz.runUnderlying76 Tryz.sizeOf178 rfl rfl hAe10 hlt1) ?_
         refine aK (i := 28) rfl rfl rfl rfl kR kR kR kR kR (fun _ _ _ h => h) rfl rfl hS40 (fun W' hs' => aL lI rfl) ?_
         refine aK (i := 29) rfl rfl rfl rfl kR kR kR kR kR (fun _ _ _ h => h) rfl rfl hS40 (fun W' hs' => bR (v := .slice Aade10_2 (l[i1].bD.length) cade10_2) Tryz.isAgg127 rfl hs'.1 rfl) ?_
         refine aK (i := 30) rfl rfl rfl rfl kR kR kR kR kR (fun _ _ _ h => h) rfl rfl hS40 (fun W' hs' => aF rfl) ?_
         refine aK (i := 31) rfl rfl rfl rfl kR kR kR kR kR (fun _ _ _ h => h) rfl rfl hS40 (fun W' hs' => aF rfl) ?_
         refine aK (i := 32) rfl rfl rfl rfl kR kR kR kR kR (fun _ _ _ h => h) rfl rfl hS40 (fun W' hs' => aP (k := i1) Tryz.runUnderlying76 Tryz.sizeOf178 rfl rfl hAe11 hlu1) ?_
         refine aK (i := 33) rfl rfl rfl rfl kR kR kR kR kR (fun _ _ _ h => h) rfl rfl hS40 (fun W' hs' => aL lI rfl) ?_
         refine aK (i := 34) rfl rfl rfl rfl kR kR kR kR kR (fun _ _ _ h => h) rfl rfl hS40 (fun W' hs' => bR (v := .slice Aade11_2 (k[i1].bD.length) cade11_2) Tryz.isAgg127 rfl hs'.2 rfl) ?_
         refine gW (i := 35) kR ?_
         refine aR rfl rfl rfl rfl (fun _ ho41 => ?_)
         refine bP ho41 Tryz.call113 (vs := #[.slice Aade10_2 (l[i1].bD.length) cade10_2, .slice Aade11_2 (k[i1].bD.length) cade11_2]) rfl rfl rfl (fK (kJ (l[i1].bD) (k[i1].bD) _ _ _ _ _ (aS H39.1 hCade10_2) (aS H39.1 hCade11_2)) hg18) ?_
         rintro e44 W43 ⟨rfl, hu42⟩; refine ⟨_, rfl, ?_⟩
         have H45 := H39.no hu42; clear H39
         have hS46 := And.intro (Cat.upd hce10 H45.1) ((Cat.upd hce11 H45.1)); refine ⟨fun _ => hS46, ?_⟩
         refine aK (i := 36) rfl rfl rfl rfl kR kR kR kR kR (fun _ _ _ h => h) rfl rfl hS46 (fun W' hs' => gD rfl) ?_
         refine aD (i := 37) rfl kR kR kR kR kR (fun _ _ _ h => h) rfl rfl hS46 (fun W' hs' => aI (v := .bool (false)) (b := false) rfl rfl rfl rfl) ?_
         refine aD (i := 38) rfl kR kR kR kR kR (fun _ _ _ h => h) rfl rfl hS46 (fun W' hs' => aF rfl) ?_
         refine aK (i := 39) rfl rfl rfl rfl kR kR kR kR kR (fun _ _ _ h => h) rfl rfl hS46 (fun W' hs' => aF rfl) ?_
         refine aK (i := 40) rfl rfl rfl rfl kR kR kR kR kR (fun _ _ _ h => h) rfl rfl hS46 (fun W' hs' => aF rfl) ?_
         refine aK (i := 41) rfl rfl rfl rfl kR kR kR kR kR (fun _ _ _ h => h) rfl rfl hS46 (fun W' hs' => aP (k := i1) Tryz.runUnderlying76 Tryz.sizeOf178 rfl rfl hAe10 hlt1) ?_
         refine aK (i := 42) rfl rfl rfl rfl kR kR kR kR kR (fun _ _ _ h => h) rfl rfl hS46 (fun W' hs' => aL nM rfl) ?_
         refine aK (i := 43) rfl rfl rfl rfl kR kR kR kR kR (fun _ _ _ h => h) rfl rfl hS46 (fun W' hs' => bR (v := .int .i64 (l[i1].Result)) Tryz.isAgg3 rfl hs'.1 rfl) ?_
         refine aK (i := 44) rfl rfl rfl rfl kR kR kR kR kR (fun _ _ _ h => h) rfl rfl hS46 (fun W' hs' => aF rfl) ?_
         refine aK (i := 45) rfl rfl rfl rfl kR kR kR kR kR (fun _ _ _ h => h) rfl rfl hS46 (fun W' hs' => aF rfl) ?_
         refine aK (i := 46) rfl rfl rfl rfl kR kR kR kR kR (fun _ _ _ h => h) rfl rfl hS46 (fun W' hs' => aP (k := i1) Tryz.runUnderlying76 Tryz.sizeOf178 rfl rfl hAe11 hlu1) ?_
         refine aK (i := 47) rfl rfl rfl rfl kR kR kR kR kR (fun _ _ _ h => h) rfl rfl hS46 (fun W' hs' => aL nM rfl) ?_
         refine aK (i := 48) rfl rfl rfl rfl kR kR kR kR kR (fun _ _ _ h => h) rfl rfl hS46 (fun W' hs' => bR (v := .int .i64 (k[i1].Result)) Tryz.isAgg3 rfl hs'.2 rfl) ?_
         refine aK (i := 49) rfl rfl rfl rfl kR kR kR kR kR (fun _ _ _ h => h) rfl rfl hS46 (fun W' hs' => bO hg19 (bN rfl rfl)) ?_
         refine aD (i := 50) rfl kR kR kR kR kR (fun _ _ _ h => h) rfl rfl hS46 (fun W' hs' => aI (v := .bool (false)) (b := false) rfl rfl rfl rfl) ?_
         refine aD (i := 51) rfl kR kR kR kR kR (fun _ _ _ h => h) rfl rfl hS46 (fun W' hs' => aF rfl) ?_
         refine aK (i := 52) rfl rfl rfl rfl kR kR kR kR kR (fun _ _ _ h => h) rfl rfl hS46 (fun W' hs' => aF rfl) ?_
         refine aK (i := 53) rfl rfl rfl rfl kR kR kR kR kR (fun _ _ _ h => h) rfl rfl hS46 (fun W' hs' => aF rfl) ?_
         refine aK (i := 54) rfl rfl rfl rfl kR kR kR kR kR (fun _ _ _ h => h) rfl rfl hS46 (fun W' hs' => aP (k := i1) Tryz.runUnderlying76 Tryz.sizeOf178 rfl rfl hAe10 hlt1) ?_
         refine aK (i := 55) rfl rfl rfl rfl kR kR kR kR kR (fun _ _ _ h => h) rfl rfl hS46 (fun W' hs' => aL fa_178_4 rfl) ?_
         refine aK (i := 56) rfl rfl rfl rfl kR kR kR kR kR (fun _ _ _ h => h) rfl rfl hS46 (fun W' hs' => lX (sub := [.int .i64 (l[i1].Tag.Vat), .int .i64 (l[i1].Tag.Entity), .int .i64 (l[i1].Tag.Seq)]) Tryz.isAgg50 Tryz.sizeOf50 rfl hs'.1 rfl rfl) ?_
         refine aK (i := 57) rfl rfl rfl rfl kR kR kR kR kR (fun _ _ _ h => h) rfl rfl hS46 (fun W' hs' => aF rfl) ?_
         refine aK (i := 58) rfl rfl rfl rfl kR kR kR kR kR (fun _ _ _ h => h) rfl rfl hS46 (fun W' hs' => aF rfl) ?_
         refine aK (i := 59) rfl rfl rfl rfl kR kR kR kR kR (fun _ _ _ h => h) rfl rfl hS46 (fun W' hs' => aP (k := i1) Tryz.runUnderlying76 Tryz.sizeOf178 rfl rfl hAe11 hlu1) ?_
         refine aK (i := 60) rfl rfl rfl rfl kR kR kR kR kR (fun _ _ _ h => h) rfl rfl hS46 (fun W' hs' => aL fa_178_4 rfl) ?_
         refine aK (i := 61) rfl rfl rfl rfl kR kR kR kR kR (fun _ _ _ h => h) rfl rfl hS46 (fun W' hs' => lX (sub := [.int .i64 (k[i1].Tag.Vat), .int .i64 (k[i1].Tag.Entity), .int .i64 (k[i1].Tag.Seq)]) Tryz.isAgg50 Tryz.sizeOf50 rfl hs'.2 rfl rfl) ?_
         refine aK (i := 62) rfl rfl rfl rfl kR kR kR kR kR (fun _ _ _ h => h) rfl rfl hS46 (fun W' hs' => cZ (b := !(jN (l[i1].Tag) (k[i1].Tag))) (by rw [(eq_false_of_ne_true hg30)]) (fJ Tryz.eqGuardType50 rfl rfl (oH (l[i1].Tag) (k[i1].Tag) _ 9998))) ?_
         refine aD (i := 63) rfl kR kR kR kR kR (fun _ _ _ h => h) rfl rfl hS46 (fun W' hs' => aI (v := .bool (true)) (b := false) rfl rfl rfl rfl) ?_
         refine bU kR ?_ _
         refine aG ?_
         refine bX rfl ?_
         refine wp_seq ?_
         refine aM [0] rfl ?_
         refine aA ?_
         refine aB rfl (aJ rfl) rfl rfl ?_
         refine aH ?_
         refine aG ?_
         refine wp_ret ?_
         refine dS ?_
         refine aU ?_
         refine aU ?_
         refine dS ?_
         refine aU ?_
         have hz47 : aV bS l k = false := hf1.trans (eG bS l k i1 hlt1 hlu1 (by simp [bS, (Decidable.of_not_not hg12), hg17, hg18, (Decidable.of_not_not hg19), hg30]))
         have hr48 : aV bS l k = false := by simp [(Decidable.of_not_not hg12), hg17, hg18, (Decidable.of_not_not hg19), hg30, hz47]
         refine aQ (.inl rfl) Tryz.results69 rfl ?_
         rw [hr48]
         exact ⟨rfl, H45.1⟩
      ·refine dD (fun W' => Cat W' (Addr.add ade10 (i1 * 7)) [.int .i64 (l[i1].Target), .string (l[i1].Name), .slice Aade10_2 (l[i1].bD.length) cade10_2, .int .i64 (l[i1].Result), .int .i64 (l[i1].Tag.Vat), .int .i64 (l[i1].Tag.Entity), .int .i64 (l[i1].Tag.Seq)] ∧ Cat W' (Addr.add ade11 (i1 * 7)) [.int .i64 (k[i1].Target), .string (k[i1].Name), .slice Aade11_2 (k[i1].bD.length) cade11_2, .int .i64 (k[i1].Result), .int .i64 (k[i1].Tag.Vat), .int .i64 (k[i1].Tag.Entity), .int .i64 (k[i1].Tag.Seq)]) 64 kR ?_
       have H49 := H8.drew; clear H8
       have hS50 : Cat W6.drew (Addr.add ade10 (i1 * 7)) [.int .i64 (l[i1].Target), .string (l[i1].Name), .slice Aade10_2 (l[i1].bD.length) cade10_2, .int .i64 (l[i1].Result), .int .i64 (l[i1].Tag.Vat), .int .i64 (l[i1].Tag.Entity), .int .i64 (l[i1].Tag.Seq)] ∧ Cat W6.drew (Addr.add ade11 (i1 * 7)) [.int .i64 (k[i1].Target), .string (k[i1].Name), .slice Aade11_2 (k[i1].bD.length) cade11_2, .int .i64 (k[i1].Result), .int .i64 (k[i1].Tag.Vat), .int .i64 (k[i1].Tag.Entity), .int .i64 (k[i1].Tag.Seq)] := ⟨(Cat.upd hce10 H49.1), (Cat.upd hce11 H49.1)⟩
       refine aD (i := 0) rfl kR kR kR kR kR (fun _ _ _ h => h) rfl rfl hS50 (fun W' hs' => aF rfl) ?_
       refine aD (i := 1) rfl kR kR kR kR kR (fun _ _ _ h => h) rfl rfl hS50 (fun W' hs' => aF rfl) ?_
       refine aD (i := 2) rfl kR kR kR kR kR (fun _ _ _ h => h) rfl rfl hS50 (fun W' hs' => aP (k := i1) Tryz.runUnderlying76 Tryz.sizeOf178 rfl rfl hAe10 hlt1) ?_
       refine aD (i := 3) rfl kR kR kR kR kR (fun _ _ _ h => h) rfl rfl hS50 (fun W' hs' => aL jK rfl) ?_
       refine aD (i := 4) rfl kR kR kR kR kR (fun _ _ _ h => h) rfl rfl hS50 (fun W' hs' => bR (v := .int .i64 (l[i1].Target)) Tryz.isAgg3 rfl hs'.1 rfl) ?_
       refine aD (i := 5) rfl kR kR kR kR kR (fun _ _ _ h => h) rfl rfl hS50 (fun W' hs' => aF rfl) ?_
       refine aD (i := 6) rfl kR kR kR kR kR (fun _ _ _ h => h) rfl rfl hS50 (fun W' hs' => aF rfl) ?_
       refine aD (i := 7) rfl kR kR kR kR kR (fun _ _ _ h => h) rfl rfl hS50 (fun W' hs' => aP (k := i1) Tryz.runUnderlying76 Tryz.sizeOf178 rfl rfl hAe11 hlu1) ?_
       refine aD (i := 8) rfl kR kR kR kR kR (fun _ _ _ h => h) rfl rfl hS50 (fun W' hs' => aL jK rfl) ?_
       refine aD (i := 9) rfl kR kR kR kR kR (fun _ _ _ h => h) rfl rfl hS50 (fun W' hs' => bR (v := .int .i64 (k[i1].Target)) Tryz.isAgg3 rfl hs'.2 rfl) ?_
       refine aD (i := 10) rfl kR kR kR kR kR (fun _ _ _ h => h) rfl rfl hS50 (fun W' hs' => bO hg12 (bN rfl rfl)) ?_
       refine aD (i := 11) rfl kR kR kR kR kR (fun _ _ _ h => h) rfl rfl hS50 (fun W' hs' => aF rfl) ?_
       refine aK (i := 12) rfl rfl rfl rfl kR kR kR kR kR (fun _ _ _ h => h) rfl rfl hS50 (fun W' hs' => aF rfl) ?_
       refine aK (i := 13) rfl rfl rfl rfl kR kR kR kR kR (fun _ _ _ h => h) rfl rfl hS50 (fun W' hs' => aF rfl) ?_
       refine aK (i := 14) rfl rfl rfl rfl kR kR kR kR kR (fun _ _ _ h => h) rfl rfl hS50 (fun W' hs' => aP (k := i1) Tryz.runUnderlying76 Tryz.sizeOf178 rfl rfl hAe10 hlt1) ?_
       refine aK (i := 15) rfl rfl rfl rfl kR kR kR kR kR (fun _ _ _ h => h) rfl rfl hS50 (fun W' hs' => aL kG rfl) ?_
       refine aK (i := 16) rfl rfl rfl rfl kR kR kR kR kR (fun _ _ _ h => h) rfl rfl hS50 (fun W' hs' => bR (v := .string (l[i1].Name)) Tryz.isAgg9 rfl hs'.1 rfl) ?_
       refine aK (i := 17) rfl rfl rfl rfl kR kR kR kR kR (fun _ _ _ h => h) rfl rfl hS50 (fun W' hs' => aF rfl) ?_
       refine aK (i := 18) rfl rfl rfl rfl kR kR kR kR kR (fun _ _ _ h => h) rfl rfl hS50 (fun W' hs' => aF rfl) ?_
       refine aK (i := 19) rfl rfl rfl rfl kR kR kR kR kR (fun _ _ _ h => h) rfl rfl hS50 (fun W' hs' => aP (k := i1) Tryz.runUnderlying76 Tryz.sizeOf178 rfl rfl hAe11 hlu1) ?_
       refine aK (i := 20) rfl rfl rfl rfl kR kR kR kR kR (fun _ _ _ h => h) rfl rfl hS50 (fun W' hs' => aL kG rfl) ?_
       refine aK (i := 21) rfl rfl rfl rfl kR kR kR kR kR (fun _ _ _ h => h) rfl rfl hS50 (fun W' hs' => bR (v := .string (k[i1].Name)) Tryz.isAgg9 rfl hs'.2 rfl) ?_
       refine aK (i := 22) rfl rfl rfl rfl kR kR kR kR kR (fun _ _ _ h => h) rfl rfl hS50 (fun W' hs' => cZ (b := !((l[i1].Name).toList == (k[i1].Name).toList)) (by rw [hg17]) (jV rfl rfl)) ?_
       refine aD (i := 23) rfl kR kR kR kR kR (fun _ _ _ h => h) rfl rfl hS50 (fun W' hs' => aI (v := .bool (false)) (b := false) rfl rfl rfl rfl) ?_
       refine aD (i := 24) rfl kR kR kR kR kR (fun _ _ _ h => h) rfl rfl hS50 (fun W' hs' => aF rfl) ?_
       refine aK (i := 25) rfl rfl rfl rfl kR kR kR kR kR (fun _ _ _ h => h) rfl rfl hS50 (fun W' hs' => aF rfl) ?_
       refine aK (i := 26) rfl rfl rfl rfl kR kR kR kR kR (fun _ _ _ h => h) rfl rfl hS50 (fun W' hs' => aF rfl) ?_
       refine aK (i := 27) rfl rfl rfl rfl kR kR kR kR kR (fun _ _ _ h => h) rfl rfl hS50 (fun W' hs' => aP (k := i1) Tryz.runUnderlying76 Tryz.sizeOf178 rfl rfl hAe10 hlt1) ?_
       refine aK (i := 28) rfl rfl rfl rfl kR kR kR kR kR (fun _ _ _ h => h) rfl rfl hS50 (fun W' hs' => aL lI rfl) ?_
       refine aK (i := 29) rfl rfl rfl rfl kR kR kR kR kR (fun _ _ _ h => h) rfl rfl hS50 (fun W' hs' => bR (v := .slice Aade10_2 (l[i1].bD.length) cade10_2) Tryz.isAgg127 rfl hs'.1 rfl) ?_
       refine aK (i := 30) rfl rfl rfl rfl kR kR kR kR kR (fun _ _ _ h => h) rfl rfl hS50 (fun W' hs' => aF rfl) ?_
       refine aK (i := 31) rfl rfl rfl rfl kR kR kR kR kR (fun _ _ _ h => h) rfl rfl hS50 (fun W' hs' => aF rfl) ?_
       refine aK (i := 32) rfl rfl rfl rfl kR kR kR kR kR (fun _ _ _ h => h) rfl rfl hS50 (fun W' hs' => aP (k := i1) Tryz.runUnderlying76 Tryz.sizeOf178 rfl rfl hAe11 hlu1) ?_
       refine aK (i := 33) rfl rfl rfl rfl kR kR kR kR kR (fun _ _ _ h => h) rfl rfl hS50 (fun W' hs' => aL lI rfl) ?_
       refine aK (i := 34) rfl rfl rfl rfl kR kR kR kR kR (fun _ _ _ h => h) rfl rfl hS50 (fun W' hs' => bR (v := .slice Aade11_2 (k[i1].bD.length) cade11_2) Tryz.isAgg127 rfl hs'.2 rfl) ?_
       refine gW (i := 35) kR ?_
       refine aR rfl rfl rfl rfl (fun _ ho51 => ?_)
       refine bP ho51 Tryz.call113 (vs := #[.slice Aade10_2 (l[i1].bD.length) cade10_2, .slice Aade11_2 (k[i1].bD.length) cade11_2]) rfl rfl rfl (fK (kJ (l[i1].bD) (k[i1].bD) _ _ _ _ _ (aS H49.1 hCade10_2) (aS H49.1 hCade11_2)) (eq_false_of_ne_true hg18)) ?_
       rintro e54 W53 ⟨rfl, hu52⟩; refine ⟨_, rfl, ?_⟩
       have H55 := H49.no hu52; clear H49
       have hS56 := And.intro (Cat.upd hce10 H55.1) ((Cat.upd hce11 H55.1)); refine ⟨fun _ => hS56, ?_⟩
       refine aK (i := 36) rfl rfl rfl rfl kR kR kR kR kR (fun _ _ _ h => h) rfl rfl hS56 (fun W' hs' => gD rfl) ?_
       refine aD (i := 37) rfl kR kR kR kR kR (fun _ _ _ h => h) rfl rfl hS56 (fun W' hs' => aI (v := .bool (true)) (b := false) rfl rfl rfl rfl) ?_
       refine aD (i := 38) rfl kR kR kR kR kR (fun _ _ _ h => h) rfl rfl hS56 (fun W' hs' => aF rfl) ?_
       refine aO (i := 39) rfl rfl rfl rfl rfl kR kR kR kR kR (fun _ _ _ h => h) rfl rfl hS56 ?_
       refine aO (i := 40) rfl rfl rfl rfl rfl kR kR kR kR kR (fun _ _ _ h => h) rfl rfl hS56 ?_
       refine aO (i := 41) rfl rfl rfl rfl rfl kR kR kR kR kR (fun _ _ _ h => h) rfl rfl hS56 ?_
       refine aO (i := 42) rfl rfl rfl rfl rfl kR kR kR kR kR (fun _ _ _ h => h) rfl rfl hS56 ?_
       refine aO (i := 43) rfl rfl rfl rfl rfl kR kR kR kR kR (fun _ _ _ h => h) rfl rfl hS56 ?_
       refine aO (i := 44) rfl rfl rfl rfl rfl kR kR kR kR kR (fun _ _ _ h => h) rfl rfl hS56 ?_
       refine aO (i := 45) rfl rfl rfl rfl rfl kR kR kR kR kR (fun _ _ _ h => h) rfl rfl hS56 ?_
       refine aO (i := 46) rfl rfl rfl rfl rfl kR kR kR kR kR (fun _ _ _ h => h) rfl rfl hS56 ?_
       refine aO (i := 47) rfl rfl rfl rfl rfl kR kR kR kR kR (fun _ _ _ h => h) rfl rfl hS56 ?_
       refine aO (i := 48) rfl rfl rfl rfl rfl kR kR kR kR kR (fun _ _ _ h => h) rfl rfl hS56 ?_
       refine aO (i := 49) rfl rfl rfl rfl rfl kR kR kR kR kR (fun _ _ _ h => h) rfl rfl hS56 ?_
       refine aD (i := 50) rfl kR kR kR kR kR (fun _ _ _ h => h) rfl rfl hS56 (fun W' hs' => aI (v := .bool (true)) (b := true) rfl rfl rfl rfl) ?_
       refine aD (i := 51) rfl kR kR kR kR kR (fun _ _ _ h => h) rfl rfl hS56 (fun W' hs' => aF rfl) ?_
       refine aO (i := 52) rfl rfl rfl rfl rfl kR kR kR kR kR (fun _ _ _ h => h) rfl rfl hS56 ?_
       refine aO (i := 53) rfl rfl rfl rfl rfl kR kR kR kR kR (fun _ _ _ h => h) rfl rfl hS56 ?_
       refine aO (i := 54) rfl rfl rfl rfl rfl kR kR kR kR kR (fun _ _ _ h => h) rfl rfl hS56 ?_
       refine aO (i := 55) rfl rfl rfl rfl rfl kR kR kR kR kR (fun _ _ _ h => h) rfl rfl hS56 ?_
       refine aO (i := 56) rfl rfl rfl rfl rfl kR kR kR kR kR (fun _ _ _ h => h) rfl rfl hS56 ?_
       refine aO (i := 57) rfl rfl rfl rfl rfl kR kR kR kR kR (fun _ _ _ h => h) rfl rfl hS56 ?_
       refine aO (i := 58) rfl rfl rfl rfl rfl kR kR kR kR kR (fun _ _ _ h => h) rfl rfl hS56 ?_
       refine aO (i := 59) rfl rfl rfl rfl rfl kR kR kR kR kR (fun _ _ _ h => h) rfl rfl hS56 ?_
       refine aO (i := 60) rfl rfl rfl rfl rfl kR kR kR kR kR (fun _ _ _ h => h) rfl rfl hS56 ?_
       refine aO (i := 61) rfl rfl rfl rfl rfl kR kR kR kR kR (fun _ _ _ h => h) rfl rfl hS56 ?_
       refine aO (i := 62) rfl rfl rfl rfl rfl kR kR kR kR kR (fun _ _ _ h => h) rfl rfl hS56 ?_
       refine aD (i := 63) rfl kR kR kR kR kR (fun _ _ _ h => h) rfl rfl hS56 (fun W' hs' => aI (v := .bool (true)) (b := true) rfl rfl rfl rfl) ?_
       refine bU kR ?_ _
       refine aG ?_
       refine bX rfl ?_
       refine wp_seq ?_
       refine aM [0] rfl ?_
       refine aA ?_
       refine aB rfl (aJ rfl) rfl rfl ?_
       refine aH ?_
       refine aG ?_
       refine wp_ret ?_
       refine dS ?_
       refine aU ?_
       refine aU ?_
       refine dS ?_
       refine aU ?_
       have hz57 : aV bS l k = false := hf1.trans (eG bS l k i1 hlt1 hlu1 (by simp [bS, (Decidable.of_not_not hg12), hg17, hg18]))
       have hr58 : aV bS l k = false := by simp [(Decidable.of_not_not hg12), hg17, hg18, hz57]
       refine aQ (.inl rfl) Tryz.results69 rfl ?_
       rw [hr58]
       exact ⟨rfl, H55.1⟩
     ·refine dD (fun W' => Cat W' (Addr.add ade10 (i1 * 7)) [.int .i64 (l[i1].Target), .string (l[i1].Name), .slice Aade10_2 (l[i1].bD.length) cade10_2, .int .i64 (l[i1].Result), .int .i64 (l[i1].Tag.Vat), .int .i64 (l[i1].Tag.Entity), .int .i64 (l[i1].Tag.Seq)] ∧ Cat W' (Addr.add ade11 (i1 * 7)) [.int .i64 (k[i1].Target), .string (k[i1].Name), .slice Aade11_2 (k[i1].bD.length) cade11_2, .int .i64 (k[i1].Result), .int .i64 (k[i1].Tag.Vat), .int .i64 (k[i1].Tag.Entity), .int .i64 (k[i1].Tag.Seq)]) 64 kR ?_
      have H59 := H8.drew; clear H8
      have hS60 : Cat W6.drew (Addr.add ade10 (i1 * 7)) [.int .i64 (l[i1].Target), .string (l[i1].Name), .slice Aade10_2 (l[i1].bD.length) cade10_2, .int .i64 (l[i1].Result), .int .i64 (l[i1].Tag.Vat), .int .i64 (l[i1].Tag.Entity), .int .i64 (l[i1].Tag.Seq)] ∧ Cat W6.drew (Addr.add ade11 (i1 * 7)) [.int .i64 (k[i1].Target), .string (k[i1].Name), .slice Aade11_2 (k[i1].bD.length) cade11_2, .int .i64 (k[i1].Result), .int .i64 (k[i1].Tag.Vat), .int .i64 (k[i1].Tag.Entity), .int .i64 (k[i1].Tag.Seq)] := ⟨(Cat.upd hce10 H59.1), (Cat.upd hce11 H59.1)⟩
      refine aD (i := 0) rfl kR kR kR kR kR (fun _ _ _ h => h) rfl rfl hS60 (fun W' hs' => aF rfl) ?_
      refine aD (i := 1) rfl kR kR kR kR kR (fun _ _ _ h => h) rfl rfl hS60 (fun W' hs' => aF rfl) ?_
      refine aD (i := 2) rfl kR kR kR kR kR (fun _ _ _ h => h) rfl rfl hS60 (fun W' hs' => aP (k := i1) Tryz.runUnderlying76 Tryz.sizeOf178 rfl rfl hAe10 hlt1) ?_
      refine aD (i := 3) rfl kR kR kR kR kR (fun _ _ _ h => h) rfl rfl hS60 (fun W' hs' => aL jK rfl) ?_
      refine aD (i := 4) rfl kR kR kR kR kR (fun _ _ _ h => h) rfl rfl hS60 (fun W' hs' => bR (v := .int .i64 (l[i1].Target)) Tryz.isAgg3 rfl hs'.1 rfl) ?_
      refine aD (i := 5) rfl kR kR kR kR kR (fun _ _ _ h => h) rfl rfl hS60 (fun W' hs' => aF rfl) ?_
      refine aD (i := 6) rfl kR kR kR kR kR (fun _ _ _ h => h) rfl rfl hS60 (fun W' hs' => aF rfl) ?_
      refine aD (i := 7) rfl kR kR kR kR kR (fun _ _ _ h => h) rfl rfl hS60 (fun W' hs' => aP (k := i1) Tryz.runUnderlying76 Tryz.sizeOf178 rfl rfl hAe11 hlu1) ?_
      refine aD (i := 8) rfl kR kR kR kR kR (fun _ _ _ h => h) rfl rfl hS60 (fun W' hs' => aL jK rfl) ?_
      refine aD (i := 9) rfl kR kR kR kR kR (fun _ _ _ h => h) rfl rfl hS60 (fun W' hs' => bR (v := .int .i64 (k[i1].Target)) Tryz.isAgg3 rfl hs'.2 rfl) ?_
      refine aD (i := 10) rfl kR kR kR kR kR (fun _ _ _ h => h) rfl rfl hS60 (fun W' hs' => bO hg12 (bN rfl rfl)) ?_
      refine aD (i := 11) rfl kR kR kR kR kR (fun _ _ _ h => h) rfl rfl hS60 (fun W' hs' => aF rfl) ?_
      refine aK (i := 12) rfl rfl rfl rfl kR kR kR kR kR (fun _ _ _ h => h) rfl rfl hS60 (fun W' hs' => aF rfl) ?_
      refine aK (i := 13) rfl rfl rfl rfl kR kR kR kR kR (fun _ _ _ h => h) rfl rfl hS60 (fun W' hs' => aF rfl) ?_
      refine aK (i := 14) rfl rfl rfl rfl kR kR kR kR kR (fun _ _ _ h => h) rfl rfl hS60 (fun W' hs' => aP (k := i1) Tryz.runUnderlying76 Tryz.sizeOf178 rfl rfl hAe10 hlt1) ?_
      refine aK (i := 15) rfl rfl rfl rfl kR kR kR kR kR (fun _ _ _ h => h) rfl rfl hS60 (fun W' hs' => aL kG rfl) ?_
      refine aK (i := 16) rfl rfl rfl rfl kR kR kR kR kR (fun _ _ _ h => h) rfl rfl hS60 (fun W' hs' => bR (v := .string (l[i1].Name)) Tryz.isAgg9 rfl hs'.1 rfl) ?_
      refine aK (i := 17) rfl rfl rfl rfl kR kR kR kR kR (fun _ _ _ h => h) rfl rfl hS60 (fun W' hs' => aF rfl) ?_
      refine aK (i := 18) rfl rfl rfl rfl kR kR kR kR kR (fun _ _ _ h => h) rfl rfl hS60 (fun W' hs' => aF rfl) ?_
      refine aK (i := 19) rfl rfl rfl rfl kR kR kR kR kR (fun _ _ _ h => h) rfl rfl hS60 (fun W' hs' => aP (k := i1) Tryz.runUnderlying76 Tryz.sizeOf178 rfl rfl hAe11 hlu1) ?_
      refine aK (i := 20) rfl rfl rfl rfl kR kR kR kR kR (fun _ _ _ h => h) rfl rfl hS60 (fun W' hs' => aL kG rfl) ?_
      refine aK (i := 21) rfl rfl rfl rfl kR kR kR kR kR (fun _ _ _ h => h) rfl rfl hS60 (fun W' hs' => bR (v := .string (k[i1].Name)) Tryz.isAgg9 rfl hs'.2 rfl) ?_
      refine aK (i := 22) rfl rfl rfl rfl kR kR kR kR kR (fun _ _ _ h => h) rfl rfl hS60 (fun W' hs' => cZ (b := !((l[i1].Name).toList == (k[i1].Name).toList)) (by rw [(eq_false_of_ne_true hg17)]) (jV rfl rfl)) ?_
      refine aD (i := 23) rfl kR kR kR kR kR (fun _ _ _ h => h) rfl rfl hS60 (fun W' hs' => aI (v := .bool (true)) (b := false) rfl rfl rfl rfl) ?_
      refine aD (i := 24) rfl kR kR kR kR kR (fun _ _ _ h => h) rfl rfl hS60 (fun W' hs' => aF rfl) ?_
      refine aO (i := 25) rfl rfl rfl rfl rfl kR kR kR kR kR (fun _ _ _ h => h) rfl rfl hS60 ?_
      refine aO (i := 26) rfl rfl rfl rfl rfl kR kR kR kR kR (fun _ _ _ h => h) rfl rfl hS60 ?_
      refine aO (i := 27) rfl rfl rfl rfl rfl kR kR kR kR kR (fun _ _ _ h => h) rfl rfl hS60 ?_
      refine aO (i := 28) rfl rfl rfl rfl rfl kR kR kR kR kR (fun _ _ _ h => h) rfl rfl hS60 ?_
      refine aO (i := 29) rfl rfl rfl rfl rfl kR kR kR kR kR (fun _ _ _ h => h) rfl rfl hS60 ?_
      refine aO (i := 30) rfl rfl rfl rfl rfl kR kR kR kR kR (fun _ _ _ h => h) rfl rfl hS60 ?_
      refine aO (i := 31) rfl rfl rfl rfl rfl kR kR kR kR kR (fun _ _ _ h => h) rfl rfl hS60 ?_
      refine aO (i := 32) rfl rfl rfl rfl rfl kR kR kR kR kR (fun _ _ _ h => h) rfl rfl hS60 ?_
      refine aO (i := 33) rfl rfl rfl rfl rfl kR kR kR kR kR (fun _ _ _ h => h) rfl rfl hS60 ?_
      refine aO (i := 34) rfl rfl rfl rfl rfl kR kR kR kR kR (fun _ _ _ h => h) rfl rfl hS60 ?_
      refine aO (i := 35) rfl rfl rfl rfl rfl kR kR kR kR kR (fun _ _ _ h => h) rfl rfl hS60 ?_
      refine aO (i := 36) rfl rfl rfl rfl rfl kR kR kR kR kR (fun _ _ _ h => h) rfl rfl hS60 ?_
      refine aD (i := 37) rfl kR kR kR kR kR (fun _ _ _ h => h) rfl rfl hS60 (fun W' hs' => aI (v := .bool (true)) (b := true) rfl rfl rfl rfl) ?_
      refine aD (i := 38) rfl kR kR kR kR kR (fun _ _ _ h => h) rfl rfl hS60 (fun W' hs' => aF rfl) ?_
      refine aO (i := 39) rfl rfl rfl rfl rfl kR kR kR kR kR (fun _ _ _ h => h) rfl rfl hS60 ?_
      refine aO (i := 40) rfl rfl rfl rfl rfl kR kR kR kR kR (fun _ _ _ h => h) rfl rfl hS60 ?_
      refine aO (i := 41) rfl rfl rfl rfl rfl kR kR kR kR kR (fun _ _ _ h => h) rfl rfl hS60 ?_
      refine aO (i := 42) rfl rfl rfl rfl rfl kR kR kR kR kR (fun _ _ _ h => h) rfl rfl hS60 ?_
      refine aO (i := 43) rfl rfl rfl rfl rfl kR kR kR kR kR (fun _ _ _ h => h) rfl rfl hS60 ?_
      refine aO (i := 44) rfl rfl rfl rfl rfl kR kR kR kR kR (fun _ _ _ h => h) rfl rfl hS60 ?_
      refine aO (i := 45) rfl rfl rfl rfl rfl kR kR kR kR kR (fun _ _ _ h => h) rfl rfl hS60 ?_
      refine aO (i := 46) rfl rfl rfl rfl rfl kR kR kR kR kR (fun _ _ _ h => h) rfl rfl hS60 ?_
      refine aO (i := 47) rfl rfl rfl rfl rfl kR kR kR kR kR (fun _ _ _ h => h) rfl rfl hS60 ?_
      refine aO (i := 48) rfl rfl rfl rfl rfl kR kR kR kR kR (fun _ _ _ h => h) rfl rfl hS60 ?_
      refine aO (i := 49) rfl rfl rfl rfl rfl kR kR kR kR kR (fun _ _ _ h => h) rfl rfl hS60 ?_
      refine aD (i := 50) rfl kR kR kR kR kR (fun _ _ _ h => h) rfl rfl hS60 (fun W' hs' => aI (v := .bool (true)) (b := true) rfl rfl rfl rfl) ?_
      refine aD (i := 51) rfl kR kR kR kR kR (fun _ _ _ h => h) rfl rfl hS60 (fun W' hs' => aF rfl) ?_
      refine aO (i := 52) rfl rfl rfl rfl rfl kR kR kR kR kR (fun _ _ _ h => h) rfl rfl hS60 ?_
      refine aO (i := 53) rfl rfl rfl rfl rfl kR kR kR kR kR (fun _ _ _ h => h) rfl rfl hS60 ?_
      refine aO (i := 54) rfl rfl rfl rfl rfl kR kR kR kR kR (fun _ _ _ h => h) rfl rfl hS60 ?_
      refine aO (i := 55) rfl rfl rfl rfl rfl kR kR kR kR kR (fun _ _ _ h => h) rfl rfl hS60 ?_
      refine aO (i := 56) rfl rfl rfl rfl rfl kR kR kR kR kR (fun _ _ _ h => h) rfl rfl hS60 ?_
      refine aO (i := 57) rfl rfl rfl rfl rfl kR kR kR kR kR (fun _ _ _ h => h) rfl rfl hS60 ?_
      refine aO (i := 58) rfl rfl rfl rfl rfl kR kR kR kR kR (fun _ _ _ h => h) rfl rfl hS60 ?_
      refine aO (i := 59) rfl rfl rfl rfl rfl kR kR kR kR kR (fun _ _ _ h => h) rfl rfl hS60 ?_
      refine aO (i := 60) rfl rfl rfl rfl rfl kR kR kR kR kR (fun _ _ _ h => h) rfl rfl hS60 ?_
      refine aO (i := 61) rfl rfl rfl rfl rfl kR kR kR kR kR (fun _ _ _ h => h) rfl rfl hS60 ?_
      refine aO (i := 62) rfl rfl rfl rfl rfl kR kR kR kR kR (fun _ _ _ h => h) rfl rfl hS60 ?_
      refine aD (i := 63) rfl kR kR kR kR kR (fun _ _ _ h => h) rfl rfl hS60 (fun W' hs' => aI (v := .bool (true)) (b := true) rfl rfl rfl rfl) ?_
      refine bU kR ?_ _
      refine aG ?_
      refine bX rfl ?_
      refine wp_seq ?_
      refine aM [0] rfl ?_
      refine aA ?_
      refine aB rfl (aJ rfl) rfl rfl ?_
      refine aH ?_
      refine aG ?_
      refine wp_ret ?_
      refine dS ?_
      refine aU ?_
      refine aU ?_
      refine dS ?_
      refine aU ?_
      have hz61 : aV bS l k = false := hf1.trans (eG bS l k i1 hlt1 hlu1 (by simp [bS, (Decidable.of_not_not hg12), hg17]))
      have hr62 : aV bS l k = false := by simp [(Decidable.of_not_not hg12), hg17, hz61]
      refine aQ (.inl rfl) Tryz.results69 rfl ?_
      rw [hr62]
      exact ⟨rfl, H59.1⟩
   ·have hd1 : aV bS l k = true := hf1.trans (fD bS l k i1 kO kO)
    refine wp_exit ?_
    refine dP ?_
    refine dP ?_
    refine iZ ?_
    refine aG ?_
    refine wp_seq ?_
    refine aM [0] rfl ?_
    refine aA ?_
    refine aB rfl (aJ rfl) rfl rfl ?_
    refine aH ?_
    refine aG ?_
    refine wp_ret ?_
    have hr63 : aV bS l k = true := by simp [hd1]
    refine aQ (.inl rfl) Tryz.results69 rfl ?_
    rw [hr63]
    exact ⟨rfl, H8.1⟩
theorem equalEntities_s (x y : GEntity) (cx cy : List Value) (w : World) (h : dW.K w x cx) (h' : dW.K w y cy) : Calls Tryz.prog 70 #[.agg cx.toArray, .agg cy.toArray] w (bW (aZ x y) w) := by
 obtain ⟨Ax2, cx2, Ax6, cx6, Ax7, cx7, rfl, hlx2, hCx2, hlx6, hCx6, hlx7, hCx7⟩ := kU h
 obtain ⟨Ay2, cy2, Ay6, cy6, Ay7, cy7, rfl, hly2, hCy2, hly6, hCy6, hly7, hCy7⟩ := kU h'
 have nx2 := hCx2.1
 have nx6 := hCx6.1
 have nx7 := hCx7.1
 refine enter 101 [(0, .agg #[.int .i64 (x.Kind), .int .i64 (x.Script), .slice Ax2 x.eB.length cx2, .int .i64 (x.State), .int .i64 (x.Value.Kind), .int .i64 (x.Value.N), .slice Ax6 x.Queue.length cx6, .slice Ax7 x.bJ.length cx7, .int .i64 (x.dZ), .int .i64 (x.Pos), .int .i64 (x.Count), .int .i64 (x.Sent)]), (1, .agg #[.int .i64 (y.Kind), .int .i64 (y.Script), .slice Ay2 y.eB.length cy2, .int .i64 (y.State), .int .i64 (y.Value.Kind), .int .i64 (y.Value.N), .slice Ay6 y.Queue.length cy6, .slice Ay7 y.bJ.length cy7, .int .i64 (y.dZ), .int .i64 (y.Pos), .int .i64 (y.Count), .int .i64 (y.Sent)])] Tryz.func70 rfl kR ?_
 intro xj
 have H1 : St w No [] w := St.enter
 refine wp_seq ?_
 refine aM [0, 1, 2] rfl ?_
 refine aA ?_
 refine gX rfl rfl rfl rfl H1 ?_
 intro g_0_0 W2 hu3 Ha4; clear H1; clear hu3
 refine aA ?_
 refine gX rfl rfl rfl rfl Ha4 ?_
 intro g_0_1 W6 hu7 Ha8; clear Ha4; clear hu7
 refine aA ?_
 refine aB rfl (aJ rfl) rfl rfl ?_
 refine aH ?_
 refine aG ?_
 refine wp_seq ?_
 refine wp_seq ?_
 refine aM [0, 1, 2, 3, 4, 5, 6, 7, 8, 9, 10, 11, 12, 13, 14, 15, 16, 17, 18, 19, 20, 21, 22, 23, 24, 25, 26, 27, 28, 29, 30, 31, 32, 33, 34, 35, 36, 37, 38, 39, 40, 41, 42, 43, 44, 45, 46, 47, 48, 49, 50] rfl ?_
 refine aA ?_
 refine aB rfl (aL fa_132_0 rfl) rfl rfl ?_
 refine aA ?_
 refine aB rfl (aN (k := 0) (v := .int .i64 (x.Kind)) Tryz.isAgg3 rfl (Ha8.blk 1 rfl) rfl) rfl rfl ?_
 refine aA ?_
 refine aB rfl (aL fa_132_0 rfl) rfl rfl ?_
 refine aA ?_
 refine aB rfl (aN (k := 0) (v := .int .i64 (y.Kind)) Tryz.isAgg3 rfl (Ha8.blk 0 rfl) rfl) rfl rfl ?_
 by_cases hg10 : ¬ (x.Kind : Int) = y.Kind
 ·refine aA ?_
  refine aB rfl (bV hg10 (bN rfl rfl)) rfl rfl ?_
  refine aA ?_
  refine aB rfl (aF rfl) rfl rfl ?_
  refine aA ?_
  refine aC rfl rfl rfl rfl rfl rfl rfl ?_
  refine aA ?_
  refine aC rfl rfl rfl rfl rfl rfl rfl ?_
  refine aA ?_
  refine aC rfl rfl rfl rfl rfl rfl rfl ?_
  refine aA ?_
  refine aC rfl rfl rfl rfl rfl rfl rfl ?_
  refine aA ?_
  refine aC rfl rfl rfl rfl rfl rfl rfl ?_
  refine aA ?_
  refine aB rfl (aI (v := .bool (true)) (b := true) rfl rfl rfl rfl) rfl rfl ?_
  refine aA ?_
  refine aB rfl (aF rfl) rfl rfl ?_
  refine aA ?_
  refine aC rfl rfl rfl rfl rfl rfl rfl ?_
  refine aA ?_
  refine aC rfl rfl rfl rfl rfl rfl rfl ?_
  refine aA ?_
  refine aC rfl rfl rfl rfl rfl rfl rfl ?_
  refine aA ?_
  refine aC rfl rfl rfl rfl rfl rfl rfl ?_
  refine aA ?_
  refine aC rfl rfl rfl rfl rfl rfl rfl ?_
  refine aA ?_
  refine aC rfl rfl rfl rfl rfl rfl rfl ?_
  refine aA ?_
  refine aB rfl (aI (v := .bool (true)) (b := true) rfl rfl rfl rfl) rfl rfl ?_
  refine aA ?_
  refine aB rfl (aF rfl) rfl rfl ?_
  refine aA ?_
  refine aC rfl rfl rfl rfl rfl rfl rfl ?_
  refine aA ?_
  refine aC rfl rfl rfl rfl rfl rfl rfl ?_
  refine aA ?_
  refine aC rfl rfl rfl rfl rfl rfl rfl ?_
  refine aA ?_
  refine aC rfl rfl rfl rfl rfl rfl rfl ?_
  refine aA ?_
  refine aC rfl rfl rfl rfl rfl rfl rfl ?_
  refine aA ?_
  refine aB rfl (aI (v := .bool (true)) (b := true) rfl rfl rfl rfl) rfl rfl ?_
  refine aA ?_
  refine aB rfl (aF rfl) rfl rfl ?_
  refine aA ?_
  refine aC rfl rfl rfl rfl rfl rfl rfl ?_
  refine aA ?_
  refine aC rfl rfl rfl rfl rfl rfl rfl ?_
  refine aA ?_
  refine aC rfl rfl rfl rfl rfl rfl rfl ?_
  refine aA ?_
  refine aC rfl rfl rfl rfl rfl rfl rfl ?_
  refine aA ?_
  refine aC rfl rfl rfl rfl rfl rfl rfl ?_
  refine aA ?_
  refine aB rfl (aI (v := .bool (true)) (b := true) rfl rfl rfl rfl) rfl rfl ?_
  refine aA ?_
  refine aB rfl (aF rfl) rfl rfl ?_
  refine aA ?_
  refine aC rfl rfl rfl rfl rfl rfl rfl ?_
  refine aA ?_
  refine aC rfl rfl rfl rfl rfl rfl rfl ?_
  refine aA ?_
  refine aC rfl rfl rfl rfl rfl rfl rfl ?_
  refine aA ?_
  refine aC rfl rfl rfl rfl rfl rfl rfl ?_
  refine aA ?_
  refine aC rfl rfl rfl rfl rfl rfl rfl ?_
  refine aA ?_
  refine aC rfl rfl rfl rfl rfl rfl rfl ?_
  refine aA ?_
  refine aB rfl (aI (v := .bool (true)) (b := true) rfl rfl rfl rfl) rfl rfl ?_
  refine aA ?_
  refine aB rfl (aF rfl) rfl rfl ?_
  refine aA ?_
  refine aC rfl rfl rfl rfl rfl rfl rfl ?_
  refine aA ?_
  refine aC rfl rfl rfl rfl rfl rfl rfl ?_
  refine aA ?_
  refine aC rfl rfl rfl rfl rfl rfl rfl ?_
  refine aA ?_
  refine aC rfl rfl rfl rfl rfl rfl rfl ?_
  refine aA ?_
  refine aC rfl rfl rfl rfl rfl rfl rfl ?_
  refine aA ?_
  refine aC rfl rfl rfl rfl rfl rfl rfl ?_
  refine aA ?_
  refine aC rfl rfl rfl rfl rfl rfl rfl ?_
  refine aA ?_
  refine aB rfl (aI (v := .bool (true)) (b := true) rfl rfl rfl rfl) rfl rfl ?_
  refine aH ?_
  refine aG ?_
  refine bX rfl ?_
  refine wp_seq ?_
  refine aM [0] rfl ?_
  refine aA ?_
  refine aB rfl (aJ rfl) rfl rfl ?_
  refine aH ?_
  refine aG ?_
  refine wp_ret ?_
  refine aU ?_
  have hr11 : aZ x y = false := by simp [aZ, hg10]
  refine aQ (.inl rfl) Tryz.results70 rfl ?_
  rw [hr11]
  exact ⟨rfl, Ha8.1⟩
 ·refine aA ?_
  refine aB rfl (bO hg10 (bN rfl rfl)) rfl rfl ?_
  refine aA ?_
  refine aB rfl (aF rfl) rfl rfl ?_
  refine aA ?_
  refine aR rfl rfl rfl rfl (fun _ ho12 => ?_)
  refine aB ho12 (aL fa_132_1 rfl) rfl rfl ?_
  refine aA ?_
  refine aR rfl rfl rfl rfl (fun _ ho13 => ?_)
  refine aB ho13 (aN (k := 1) (v := .int .i64 (x.Script)) Tryz.isAgg3 rfl (Ha8.blk 1 rfl) rfl) rfl rfl ?_
  refine aA ?_
  refine aR rfl rfl rfl rfl (fun _ ho14 => ?_)
  refine aB ho14 (aL fa_132_1 rfl) rfl rfl ?_
  refine aA ?_
  refine aR rfl rfl rfl rfl (fun _ ho15 => ?_)
  refine aB ho15 (aN (k := 1) (v := .int .i64 (y.Script)) Tryz.isAgg3 rfl (Ha8.blk 0 rfl) rfl) rfl rfl ?_
  by_cases hg16 : ¬ (x.Script : Int) = y.Script
  ·refine aA ?_
   refine aR rfl rfl rfl rfl (fun _ ho17 => ?_)
   refine aB ho17 (bV hg16 (bN rfl rfl)) rfl rfl ?_
   refine aA ?_
   refine aB rfl (aI (v := .bool (true)) (b := false) rfl rfl rfl rfl) rfl rfl ?_
   refine aA ?_
   refine aB rfl (aF rfl) rfl rfl ?_
   refine aA ?_
   refine aC rfl rfl rfl rfl rfl rfl rfl ?_
   refine aA ?_
   refine aC rfl rfl rfl rfl rfl rfl rfl ?_
   refine aA ?_
   refine aC rfl rfl rfl rfl rfl rfl rfl ?_
   refine aA ?_
   refine aC rfl rfl rfl rfl rfl rfl rfl ?_
   refine aA ?_
   refine aC rfl rfl rfl rfl rfl rfl rfl ?_
   refine aA ?_
   refine aC rfl rfl rfl rfl rfl rfl rfl ?_
   refine aA ?_
   refine aB rfl (aI (v := .bool (true)) (b := true) rfl rfl rfl rfl) rfl rfl ?_
   refine aA ?_
   refine aB rfl (aF rfl) rfl rfl ?_
   refine aA ?_
   refine aC rfl rfl rfl rfl rfl rfl rfl ?_
   refine aA ?_
   refine aC rfl rfl rfl rfl rfl rfl rfl ?_
   refine aA ?_
   refine aC rfl rfl rfl rfl rfl rfl rfl ?_
   refine aA ?_
   refine aC rfl rfl rfl rfl rfl rfl rfl ?_
   refine aA ?_
   refine aC rfl rfl rfl rfl rfl rfl rfl ?_
   refine aA ?_
   refine aB rfl (aI (v := .bool (true)) (b := true) rfl rfl rfl rfl) rfl rfl ?_
   refine aA ?_
   refine aB rfl (aF rfl) rfl rfl ?_
   refine aA ?_
   refine aC rfl rfl rfl rfl rfl rfl rfl ?_
   refine aA ?_
   refine aC rfl rfl rfl rfl rfl rfl rfl ?_
   refine aA ?_
   refine aC rfl rfl rfl rfl rfl rfl rfl ?_
   refine aA ?_
   refine aC rfl rfl rfl rfl rfl rfl rfl ?_
   refine aA ?_
   refine aC rfl rfl rfl rfl rfl rfl rfl ?_
   refine aA ?_
   refine aB rfl (aI (v := .bool (true)) (b := true) rfl rfl rfl rfl) rfl rfl ?_
   refine aA ?_
   refine aB rfl (aF rfl) rfl rfl ?_
   refine aA ?_
   refine aC rfl rfl rfl rfl rfl rfl rfl ?_
   refine aA ?_
   refine aC rfl rfl rfl rfl rfl rfl rfl ?_
   refine aA ?_
   refine aC rfl rfl rfl rfl rfl rfl rfl ?_
   refine aA ?_
   refine aC rfl rfl rfl rfl rfl rfl rfl ?_
   refine aA ?_
   refine aC rfl rfl rfl rfl rfl rfl rfl ?_
   refine aA ?_
   refine aC rfl rfl rfl rfl rfl rfl rfl ?_
   refine aA ?_
   refine aB rfl (aI (v := .bool (true)) (b := true) rfl rfl rfl rfl) rfl rfl ?_
   refine aA ?_
   refine aB rfl (aF rfl) rfl rfl ?_
   refine aA ?_
   refine aC rfl rfl rfl rfl rfl rfl rfl ?_
   refine aA ?_
   refine aC rfl rfl rfl rfl rfl rfl rfl ?_
   refine aA ?_
   refine aC rfl rfl rfl rfl rfl rfl rfl ?_
   refine aA ?_
   refine aC rfl rfl rfl rfl rfl rfl rfl ?_
   refine aA ?_
   refine aC rfl rfl rfl rfl rfl rfl rfl ?_
   refine aA ?_
   refine aC rfl rfl rfl rfl rfl rfl rfl ?_
   refine aA ?_
   refine aC rfl rfl rfl rfl rfl rfl rfl ?_
   refine aA ?_
   refine aB rfl (aI (v := .bool (true)) (b := true) rfl rfl rfl rfl) rfl rfl ?_
   refine aH ?_
   refine aG ?_
   refine bX rfl ?_
   refine wp_seq ?_
   refine aM [0] rfl ?_
   refine aA ?_
   refine aB rfl (aJ rfl) rfl rfl ?_
   refine aH ?_
   refine aG ?_
   refine wp_ret ?_
   refine aU ?_
   have hr18 : aZ x y = false := by simp [aZ, (Decidable.of_not_not hg10), hg16]
   refine aQ (.inl rfl) Tryz.results70 rfl ?_
   rw [hr18]
   exact ⟨rfl, Ha8.1⟩
  ·refine aA ?_
   refine aR rfl rfl rfl rfl (fun _ ho19 => ?_)
   refine aB ho19 (bO hg16 (bN rfl rfl)) rfl rfl ?_
   refine aA ?_
   refine aB rfl (aI (v := .bool (false)) (b := false) rfl rfl rfl rfl) rfl rfl ?_
   refine aA ?_
   refine aB rfl (aF rfl) rfl rfl ?_
   refine aA ?_
   refine aR rfl rfl rfl rfl (fun _ ho20 => ?_)
   refine aB ho20 (aL fa_132_2 rfl) rfl rfl ?_
   refine aA ?_
   refine aR rfl rfl rfl rfl (fun _ ho21 => ?_)
   refine aB ho21 (aN (k := 2) (v := .slice Ax2 x.eB.length cx2) Tryz.isAgg127 rfl (Ha8.blk 1 rfl) rfl) rfl rfl ?_
   refine aA ?_
   refine aR rfl rfl rfl rfl (fun _ ho22 => ?_)
   refine aB ho22 (aL fa_132_2 rfl) rfl rfl ?_
   refine aA ?_
   refine aR rfl rfl rfl rfl (fun _ ho23 => ?_)
   refine aB ho23 (aN (k := 2) (v := .slice Ay2 y.eB.length cy2) Tryz.isAgg127 rfl (Ha8.blk 0 rfl) rfl) rfl rfl ?_
   by_cases hg24 : (aV dI x.eB y.eB) = true
   ·refine aA ?_
    refine aR rfl rfl rfl rfl (fun _ ho25 => ?_)
    refine bP ho25 Tryz.call113 (vs := #[.slice Ax2 x.eB.length cx2, .slice Ay2 y.eB.length cy2]) rfl rfl rfl (fK (kJ x.eB y.eB _ _ _ _ _ (aS Ha8.1 hCx2) (aS Ha8.1 hCy2)) hg24) ?_
    rintro e28 W27 ⟨rfl, hu26⟩; refine ⟨_, rfl, ?_⟩
    have H29 := Ha8.no hu26; clear Ha8
    refine aA ?_
    refine aR rfl rfl rfl rfl (fun _ ho30 => ?_)
    refine aB ho30 (gD rfl) rfl rfl ?_
    refine aA ?_
    refine aB rfl (aI (v := .bool (false)) (b := false) rfl rfl rfl rfl) rfl rfl ?_
    refine aA ?_
    refine aB rfl (aF rfl) rfl rfl ?_
    refine aA ?_
    refine aR rfl rfl rfl rfl (fun _ ho31 => ?_)
    refine aB ho31 (aL fa_132_3 rfl) rfl rfl ?_
    refine aA ?_
    refine aR rfl rfl rfl rfl (fun _ ho32 => ?_)
    refine aB ho32 (aN (k := 3) (v := .int .i64 (x.State)) Tryz.isAgg3 rfl (H29.blk 1 rfl) rfl) rfl rfl ?_
    refine aA ?_
    refine aR rfl rfl rfl rfl (fun _ ho33 => ?_)
    refine aB ho33 (aL fa_132_3 rfl) rfl rfl ?_
    refine aA ?_
    refine aR rfl rfl rfl rfl (fun _ ho34 => ?_)
    refine aB ho34 (aN (k := 3) (v := .int .i64 (y.State)) Tryz.isAgg3 rfl (H29.blk 0 rfl) rfl) rfl rfl ?_
    by_cases hg35 : ¬ (x.State : Int) = y.State
    ·refine aA ?_
     refine aR rfl rfl rfl rfl (fun _ ho36 => ?_)
     refine aB ho36 (bV hg35 (bN rfl rfl)) rfl rfl ?_
     refine aA ?_
     refine aB rfl (aI (v := .bool (true)) (b := false) rfl rfl rfl rfl) rfl rfl ?_
     refine aA ?_
     refine aB rfl (aF rfl) rfl rfl ?_
     refine aA ?_
     refine aC rfl rfl rfl rfl rfl rfl rfl ?_
     refine aA ?_
     refine aC rfl rfl rfl rfl rfl rfl rfl ?_
     refine aA ?_
     refine aC rfl rfl rfl rfl rfl rfl rfl ?_
     refine aA ?_
     refine aC rfl rfl rfl rfl rfl rfl rfl ?_
     refine aA ?_
     refine aC rfl rfl rfl rfl rfl rfl rfl ?_
     refine aA ?_
     refine aB rfl (aI (v := .bool (true)) (b := true) rfl rfl rfl rfl) rfl rfl ?_
     refine aA ?_
     refine aB rfl (aF rfl) rfl rfl ?_
     refine aA ?_
     refine aC rfl rfl rfl rfl rfl rfl rfl ?_
     refine aA ?_
     refine aC rfl rfl rfl rfl rfl rfl rfl ?_
     refine aA ?_
     refine aC rfl rfl rfl rfl rfl rfl rfl ?_
     refine aA ?_
     refine aC rfl rfl rfl rfl rfl rfl rfl ?_
     refine aA ?_
     refine aC rfl rfl rfl rfl rfl rfl rfl ?_
     refine aA ?_
     refine aC rfl rfl rfl rfl rfl rfl rfl ?_
     refine aA ?_
     refine aB rfl (aI (v := .bool (true)) (b := true) rfl rfl rfl rfl) rfl rfl ?_
     refine aA ?_
     refine aB rfl (aF rfl) rfl rfl ?_
     refine aA ?_
     refine aC rfl rfl rfl rfl rfl rfl rfl ?_
     refine aA ?_
     refine aC rfl rfl rfl rfl rfl rfl rfl ?_
     refine aA ?_
     refine aC rfl rfl rfl rfl rfl rfl rfl ?_
     refine aA ?_
     refine aC rfl rfl rfl rfl rfl rfl rfl ?_
     refine aA ?_
     refine aC rfl rfl rfl rfl rfl rfl rfl ?_
     refine aA ?_
     refine aC rfl rfl rfl rfl rfl rfl rfl ?_
     refine aA ?_
     refine aC rfl rfl rfl rfl rfl rfl rfl ?_
     refine aA ?_
     refine aB rfl (aI (v := .bool (true)) (b := true) rfl rfl rfl rfl) rfl rfl ?_
     refine aH ?_
     refine aG ?_
     refine bX rfl ?_
     refine wp_seq ?_
     refine aM [0] rfl ?_
     refine aA ?_
     refine aB rfl (aJ rfl) rfl rfl ?_
     refine aH ?_
     refine aG ?_
     refine wp_ret ?_
     refine aU ?_
     have hr37 : aZ x y = false := by simp [aZ, (Decidable.of_not_not hg10), (Decidable.of_not_not hg16), hg24, hg35]
     refine aQ (.inl rfl) Tryz.results70 rfl ?_
     rw [hr37]
     exact ⟨rfl, H29.1⟩
    ·refine aA ?_
     refine aR rfl rfl rfl rfl (fun _ ho38 => ?_)
     refine aB ho38 (bO hg35 (bN rfl rfl)) rfl rfl ?_
     refine aA ?_
     refine aB rfl (aI (v := .bool (false)) (b := false) rfl rfl rfl rfl) rfl rfl ?_
     refine aA ?_
     refine aB rfl (aF rfl) rfl rfl ?_
     refine aA ?_
     refine aR rfl rfl rfl rfl (fun _ ho39 => ?_)
     refine aB ho39 (aL fa_132_4 rfl) rfl rfl ?_
     refine aA ?_
     refine aR rfl rfl rfl rfl (fun _ ho40 => ?_)
     refine aB ho40 (iX (sub := #[.int .i64 (x.Value.Kind), .int .i64 (x.Value.N)]) Tryz.isAgg129 Tryz.sizeOf129 rfl (H29.blk 1 rfl) rfl rfl) rfl rfl ?_
     refine aA ?_
     refine aR rfl rfl rfl rfl (fun _ ho41 => ?_)
     refine aB ho41 (aL fa_132_4 rfl) rfl rfl ?_
     refine aA ?_
     refine aR rfl rfl rfl rfl (fun _ ho42 => ?_)
     refine aB ho42 (iX (sub := #[.int .i64 (y.Value.Kind), .int .i64 (y.Value.N)]) Tryz.isAgg129 Tryz.sizeOf129 rfl (H29.blk 0 rfl) rfl rfl) rfl rfl ?_
     by_cases hg43 : (dI x.Value y.Value) = true
     ·refine aA ?_
      refine aR rfl rfl rfl rfl (fun _ ho44 => ?_)
      refine aB ho44 (cZ (b := !(dI x.Value y.Value)) (by rw [hg43]) (fJ Tryz.eqGuardType129 rfl rfl (l8 x.Value y.Value _ 9998))) rfl rfl ?_
      refine aA ?_
      refine aB rfl (aI (v := .bool (false)) (b := false) rfl rfl rfl rfl) rfl rfl ?_
      refine aA ?_
      refine aB rfl (aF rfl) rfl rfl ?_
      refine aA ?_
      refine aR rfl rfl rfl rfl (fun _ ho45 => ?_)
      refine aB ho45 (aL fa_132_5 rfl) rfl rfl ?_
      refine aA ?_
      refine aR rfl rfl rfl rfl (fun _ ho46 => ?_)
      refine aB ho46 (aN (k := 6) (v := .slice Ax6 x.Queue.length cx6) Tryz.isAgg76 rfl (H29.blk 1 rfl) rfl) rfl rfl ?_
      refine aA ?_
      refine aR rfl rfl rfl rfl (fun _ ho47 => ?_)
      refine aB ho47 (aL fa_132_5 rfl) rfl rfl ?_
      refine aA ?_
      refine aR rfl rfl rfl rfl (fun _ ho48 => ?_)
      refine aB ho48 (aN (k := 6) (v := .slice Ay6 y.Queue.length cy6) Tryz.isAgg76 rfl (H29.blk 0 rfl) rfl) rfl rfl ?_
      by_cases hg49 : (aV bS x.Queue y.Queue) = true
      ·refine aA ?_
       refine aR rfl rfl rfl rfl (fun _ ho50 => ?_)
       refine bP ho50 Tryz.call69 (vs := #[.slice Ax6 x.Queue.length cx6, .slice Ay6 y.Queue.length cy6]) rfl rfl rfl (fK (oL x.Queue y.Queue _ _ _ _ _ (aS H29.1 hCx6) (aS H29.1 hCy6)) hg49) ?_
       rintro e53 W52 ⟨rfl, hu51⟩; refine ⟨_, rfl, ?_⟩
       have H54 := H29.no hu51; clear H29
       refine aA ?_
       refine aR rfl rfl rfl rfl (fun _ ho55 => ?_)
       refine aB ho55 (gD rfl) rfl rfl ?_
       refine aA ?_
       refine aB rfl (aI (v := .bool (false)) (b := false) rfl rfl rfl rfl) rfl rfl ?_
       refine aA ?_
       refine aB rfl (aF rfl) rfl rfl ?_
       refine aA ?_
       refine aR rfl rfl rfl rfl (fun _ ho56 => ?_)
       refine aB ho56 (aL mD rfl) rfl rfl ?_
       refine aA ?_
       refine aR rfl rfl rfl rfl (fun _ ho57 => ?_)
       refine aB ho57 (aN (k := 7) (v := .slice Ax7 x.bJ.length cx7) Tryz.isAgg130 rfl (H54.blk 1 rfl) rfl) rfl rfl ?_
       refine aA ?_
       refine aR rfl rfl rfl rfl (fun _ ho58 => ?_)
       refine aB ho58 (bQ Tryz.runUnderlying130 rfl) rfl rfl ?_
       refine aA ?_
       refine aR rfl rfl rfl rfl (fun _ ho59 => ?_)
       refine aB ho59 (aL mD rfl) rfl rfl ?_
       refine aA ?_
       refine aR rfl rfl rfl rfl (fun _ ho60 => ?_)
       refine aB ho60 (aN (k := 7) (v := .slice Ay7 y.bJ.length cy7) Tryz.isAgg130 rfl (H54.blk 0 rfl) rfl) rfl rfl ?_
       refine aA ?_
       refine aR rfl rfl rfl rfl (fun _ ho61 => ?_)
       refine aB ho61 (bQ Tryz.runUnderlying130 rfl) rfl rfl ?_
       by_cases hg62 : ¬ ((x.bJ.length : Nat) : Int) = (y.bJ.length : Nat)
       ·refine aA ?_
        refine aR rfl rfl rfl rfl (fun _ ho63 => ?_)
        refine aB ho63 (bV hg62 (bN rfl rfl)) rfl rfl ?_
        refine aA ?_
        refine aB rfl (aI (v := .bool (true)) (b := false) rfl rfl rfl rfl) rfl rfl ?_
        refine aH ?_
        refine aG ?_
        refine bX rfl ?_
        refine wp_seq ?_
        refine aM [0] rfl ?_
        refine aA ?_
        refine aB rfl (aJ rfl) rfl rfl ?_
        refine aH ?_
        refine aG ?_
        refine wp_ret ?_
        refine aU ?_
        have hz64 : ∀ f, aV f x.bJ y.bJ = false := fun f => eY f x.bJ y.bJ kO
        have hr65 : aZ x y = false := by simp [aZ, (Decidable.of_not_not hg10), (Decidable.of_not_not hg16), hg24, (Decidable.of_not_not hg35), hg43, hg49, hz64]
        refine aQ (.inl rfl) Tryz.results70 rfl ?_
        rw [hr65]
        exact ⟨rfl, H54.1⟩
       ·refine aA ?_
        refine aR rfl rfl rfl rfl (fun _ ho66 => ?_)
        refine aB ho66 (bO hg62 (bN rfl rfl)) rfl rfl ?_
        refine aA ?_
        refine aB rfl (aI (v := .bool (false)) (b := false) rfl rfl rfl rfl) rfl rfl ?_
        refine aH ?_
        refine aG ?_
        refine dU rfl ?_
        refine wp_skip ?_
        refine aG ?_
        refine wp_seq ?_
        refine wp_seq ?_
        refine aM [0] rfl ?_
        refine aA ?_
        refine aB rfl (aJ rfl) rfl rfl ?_
        refine aH ?_
        refine aG ?_
        refine wp_block ?_
        refine wp_loop_ghost (fun r a' W' => ∃ (i1 : Nat) (x' : Nat → Value), a' = bT 101 x' [(2, .pointer (some ⟨g_0_0, 0, none⟩)), (3, .pointer (some ⟨g_0_1, 0, none⟩)), (5, .int .i64 (((i1 : Nat) : Int)))] ∧ (i1 + r = x.bJ.length) ∧ (aV fB x.bJ y.bJ = aV fB (x.bJ.drop i1) (y.bJ.drop i1)) ∧ St w No [hB g_0_1 132 #[.int .i64 (y.Kind), .int .i64 (y.Script), .slice Ay2 y.eB.length cy2, .int .i64 (y.State), .int .i64 (y.Value.Kind), .int .i64 (y.Value.N), .slice Ay6 y.Queue.length cy6, .slice Ay7 y.bJ.length cy7, .int .i64 (y.dZ), .int .i64 (y.Pos), .int .i64 (y.Count), .int .i64 (y.Sent)], hB g_0_0 132 #[.int .i64 (x.Kind), .int .i64 (x.Script), .slice Ax2 x.eB.length cx2, .int .i64 (x.State), .int .i64 (x.Value.Kind), .int .i64 (x.Value.N), .slice Ax6 x.Queue.length cx6, .slice Ax7 x.bJ.length cx7, .int .i64 (x.dZ), .int .i64 (x.Pos), .int .i64 (x.Count), .int .i64 (x.Sent)]] W') x.bJ.length ?_ ?_
        ·exact (bA [(2, .pointer (some ⟨g_0_0, 0, none⟩)), (3, .pointer (some ⟨g_0_1, 0, none⟩)), (5, .int .i64 (((0 : Nat) : Int)))] rfl).elim fun x' hx => ⟨0, x', hx, kO, rfl, H54⟩
        ·rintro r67 _ W68 ⟨i1, x69, rfl, hi1, hf1, H70⟩; clear H54
         refine wp_seq ?_
         refine wp_seq ?_
         refine aM [0, 1, 2, 3, 4] rfl ?_
         refine aA ?_
         refine aB rfl (aF rfl) rfl rfl ?_
         refine aA ?_
         refine aB rfl (aL mD rfl) rfl rfl ?_
         refine aA ?_
         refine aB rfl (aN (k := 7) (v := .slice Ax7 x.bJ.length cx7) Tryz.isAgg130 rfl (H70.blk 1 rfl) rfl) rfl rfl ?_
         refine aA ?_
         refine aB rfl (bQ Tryz.runUnderlying130 rfl) rfl rfl ?_
         refine aA ?_
         refine aB rfl (gY rfl rfl) rfl rfl ?_
         refine aH ?_
         refine aG ?_
         refine eP rfl (fun hc71 => ?_) (fun hc71 => ?_)
         ·have hlt1 : i1 < x.bJ.length := by omega
          have hlu1 : i1 < y.bJ.length := by omega
          obtain ⟨ade72, cse72, hAe72, hKe72, hce72⟩ := dO hCx7 i1 hlt1
          have hle72 := oF hKe72
          have hoe72 := oG hKe72
          obtain ⟨ade73, cse73, hAe73, hKe73, hce73⟩ := dO hCy7 i1 hlu1
          have hle73 := oF hKe73
          have hoe73 := oG hKe73
          obtain rfl := kT hKe72
          obtain rfl := kT hKe73
          refine wp_skip ?_
          refine aG ?_
          refine wp_seq ?_
          refine wp_block ?_
          refine wp_seq ?_
          by_cases hg74 : (fB (x.bJ[i1]) (y.bJ[i1])) = true
          ·refine dD (fun W' => Blk W' g_0_0 132 #[.int .i64 (x.Kind), .int .i64 (x.Script), .slice Ax2 x.eB.length cx2, .int .i64 (x.State), .int .i64 (x.Value.Kind), .int .i64 (x.Value.N), .slice Ax6 x.Queue.length cx6, .slice Ax7 x.bJ.length cx7, .int .i64 (x.dZ), .int .i64 (x.Pos), .int .i64 (x.Count), .int .i64 (x.Sent)] ∧ Cat W' (Addr.add ade72 (i1 * 2)) [.int .i64 (x.bJ[i1].dZ), .int .i64 (x.bJ[i1].Question)] ∧ Blk W' g_0_1 132 #[.int .i64 (y.Kind), .int .i64 (y.Script), .slice Ay2 y.eB.length cy2, .int .i64 (y.State), .int .i64 (y.Value.Kind), .int .i64 (y.Value.N), .slice Ay6 y.Queue.length cy6, .slice Ay7 y.bJ.length cy7, .int .i64 (y.dZ), .int .i64 (y.Pos), .int .i64 (y.Count), .int .i64 (y.Sent)] ∧ Cat W' (Addr.add ade73 (i1 * 2)) [.int .i64 (y.bJ[i1].dZ), .int .i64 (y.bJ[i1].Question)]) 11 kR ?_
           have H75 := H70.drew; clear H70
           have hS76 : Blk W68.drew g_0_0 132 #[.int .i64 (x.Kind), .int .i64 (x.Script), .slice Ax2 x.eB.length cx2, .int .i64 (x.State), .int .i64 (x.Value.Kind), .int .i64 (x.Value.N), .slice Ax6 x.Queue.length cx6, .slice Ax7 x.bJ.length cx7, .int .i64 (x.dZ), .int .i64 (x.Pos), .int .i64 (x.Count), .int .i64 (x.Sent)] ∧ Cat W68.drew (Addr.add ade72 (i1 * 2)) [.int .i64 (x.bJ[i1].dZ), .int .i64 (x.bJ[i1].Question)] ∧ Blk W68.drew g_0_1 132 #[.int .i64 (y.Kind), .int .i64 (y.Script), .slice Ay2 y.eB.length cy2, .int .i64 (y.State), .int .i64 (y.Value.Kind), .int .i64 (y.Value.N), .slice Ay6 y.Queue.length cy6, .slice Ay7 y.bJ.length cy7, .int .i64 (y.dZ), .int .i64 (y.Pos), .int .i64 (y.Count), .int .i64 (y.Sent)] ∧ Cat W68.drew (Addr.add ade73 (i1 * 2)) [.int .i64 (y.bJ[i1].dZ), .int .i64 (y.bJ[i1].Question)] := ⟨H75.blk 1 rfl, (Cat.upd hce72 H75.1), H75.blk 0 rfl, (Cat.upd hce73 H75.1)⟩
           refine aD (i := 0) rfl kR kR kR kR kR (fun _ _ _ h => h) rfl rfl hS76 (fun W' hs' => aL mD rfl) ?_
           refine aD (i := 1) rfl kR kR kR kR kR (fun _ _ _ h => h) rfl rfl hS76 (fun W' hs' => aN (k := 7) (v := .slice Ax7 x.bJ.length cx7) Tryz.isAgg130 rfl hs'.1 rfl) ?_
           refine aD (i := 2) rfl kR kR kR kR kR (fun _ _ _ h => h) rfl rfl hS76 (fun W' hs' => aF rfl) ?_
           refine aD (i := 3) rfl kR kR kR kR kR (fun _ _ _ h => h) rfl rfl hS76 (fun W' hs' => aP (k := i1) Tryz.runUnderlying130 Tryz.sizeOf184 rfl rfl hAe72 hlt1) ?_
           refine aD (i := 4) rfl kR kR kR kR kR (fun _ _ _ h => h) rfl rfl hS76 (fun W' hs' => aY Tryz.isAgg184 Tryz.sizeOf184 rfl hs'.2.1 rfl) ?_
           refine aD (i := 5) rfl kR kR kR kR kR (fun _ _ _ h => h) rfl rfl hS76 (fun W' hs' => aL mD rfl) ?_
           refine aD (i := 6) rfl kR kR kR kR kR (fun _ _ _ h => h) rfl rfl hS76 (fun W' hs' => aN (k := 7) (v := .slice Ay7 y.bJ.length cy7) Tryz.isAgg130 rfl hs'.2.2.1 rfl) ?_
           refine aD (i := 7) rfl kR kR kR kR kR (fun _ _ _ h => h) rfl rfl hS76 (fun W' hs' => aF rfl) ?_
           refine aD (i := 8) rfl kR kR kR kR kR (fun _ _ _ h => h) rfl rfl hS76 (fun W' hs' => aP (k := i1) Tryz.runUnderlying130 Tryz.sizeOf184 rfl rfl hAe73 hlu1) ?_
           refine aD (i := 9) rfl kR kR kR kR kR (fun _ _ _ h => h) rfl rfl hS76 (fun W' hs' => aY Tryz.isAgg184 Tryz.sizeOf184 rfl hs'.2.2.2 rfl) ?_
           refine aD (i := 10) rfl kR kR kR kR kR (fun _ _ _ h => h) rfl rfl hS76 (fun W' hs' => cZ (b := !(fB (x.bJ[i1]) (y.bJ[i1]))) (by rw [hg74]) (fJ Tryz.eqGuardType184 rfl rfl (eqr_Asker (x.bJ[i1]) (y.bJ[i1]) _ 9998))) ?_
           refine bU kR ?_ _
           refine aG ?_
           refine dU rfl ?_
           refine wp_skip ?_
           refine iY ?_
           refine aG ?_
           refine aM [0, 1, 2] rfl ?_
           refine aA ?_
           refine aB rfl (aF rfl) rfl rfl ?_
           refine aA ?_
           refine aB rfl (iB (k := i1) rfl rfl kO) rfl rfl ?_
           refine aA ?_
           refine aB rfl (aJ rfl) rfl rfl ?_
           refine aH ?_
           refine aG ?_
           exact (bA [(2, .pointer (some ⟨g_0_0, 0, none⟩)), (3, .pointer (some ⟨g_0_1, 0, none⟩)), (5, .int .i64 (((i1 + 1 : Nat) : Int)))] rfl).elim fun x' hx => ⟨r67 - 1, kO, i1 + 1, x', hx, kO, (hf1.trans (fC fB x.bJ y.bJ i1 hlt1 hlu1 hg74)), H75⟩
          ·refine dD (fun W' => Blk W' g_0_0 132 #[.int .i64 (x.Kind), .int .i64 (x.Script), .slice Ax2 x.eB.length cx2, .int .i64 (x.State), .int .i64 (x.Value.Kind), .int .i64 (x.Value.N), .slice Ax6 x.Queue.length cx6, .slice Ax7 x.bJ.length cx7, .int .i64 (x.dZ), .int .i64 (x.Pos), .int .i64 (x.Count), .int .i64 (x.Sent)] ∧ Cat W' (Addr.add ade72 (i1 * 2)) [.int .i64 (x.bJ[i1].dZ), .int .i64 (x.bJ[i1].Question)] ∧ Blk W' g_0_1 132 #[.int .i64 (y.Kind), .int .i64 (y.Script), .slice Ay2 y.eB.length cy2, .int .i64 (y.State), .int .i64 (y.Value.Kind), .int .i64 (y.Value.N), .slice Ay6 y.Queue.length cy6, .slice Ay7 y.bJ.length cy7, .int .i64 (y.dZ), .int .i64 (y.Pos), .int .i64 (y.Count), .int .i64 (y.Sent)] ∧ Cat W' (Addr.add ade73 (i1 * 2)) [.int .i64 (y.bJ[i1].dZ), .int .i64 (y.bJ[i1].Question)]) 11 kR ?_
           have H77 := H70.drew; clear H70
           have hS78 : Blk W68.drew g_0_0 132 #[.int .i64 (x.Kind), .int .i64 (x.Script), .slice Ax2 x.eB.length cx2, .int .i64 (x.State), .int .i64 (x.Value.Kind), .int .i64 (x.Value.N), .slice Ax6 x.Queue.length cx6, .slice Ax7 x.bJ.length cx7, .int .i64 (x.dZ), .int .i64 (x.Pos), .int .i64 (x.Count), .int .i64 (x.Sent)] ∧ Cat W68.drew (Addr.add ade72 (i1 * 2)) [.int .i64 (x.bJ[i1].dZ), .int .i64 (x.bJ[i1].Question)] ∧ Blk W68.drew g_0_1 132 #[.int .i64 (y.Kind), .int .i64 (y.Script), .slice Ay2 y.eB.length cy2, .int .i64 (y.State), .int .i64 (y.Value.Kind), .int .i64 (y.Value.N), .slice Ay6 y.Queue.length cy6, .slice Ay7 y.bJ.length cy7, .int .i64 (y.dZ), .int .i64 (y.Pos), .int .i64 (y.Count), .int .i64 (y.Sent)] ∧ Cat W68.drew (Addr.add ade73 (i1 * 2)) [.int .i64 (y.bJ[i1].dZ), .int .i64 (y.bJ[i1].Question)] := ⟨H77.blk 1 rfl, (Cat.upd hce72 H77.1), H77.blk 0 rfl, (Cat.upd hce73 H77.1)⟩
           refine aD (i := 0) rfl kR kR kR kR kR (fun _ _ _ h => h) rfl rfl hS78 (fun W' hs' => aL mD rfl) ?_
           refine aD (i := 1) rfl kR kR kR kR kR (fun _ _ _ h => h) rfl rfl hS78 (fun W' hs' => aN (k := 7) (v := .slice Ax7 x.bJ.length cx7) Tryz.isAgg130 rfl hs'.1 rfl) ?_
           refine aD (i := 2) rfl kR kR kR kR kR (fun _ _ _ h => h) rfl rfl hS78 (fun W' hs' => aF rfl) ?_
           refine aD (i := 3) rfl kR kR kR kR kR (fun _ _ _ h => h) rfl rfl hS78 (fun W' hs' => aP (k := i1) Tryz.runUnderlying130 Tryz.sizeOf184 rfl rfl hAe72 hlt1) ?_
           refine aD (i := 4) rfl kR kR kR kR kR (fun _ _ _ h => h) rfl rfl hS78 (fun W' hs' => aY Tryz.isAgg184 Tryz.sizeOf184 rfl hs'.2.1 rfl) ?_
           refine aD (i := 5) rfl kR kR kR kR kR (fun _ _ _ h => h) rfl rfl hS78 (fun W' hs' => aL mD rfl) ?_
           refine aD (i := 6) rfl kR kR kR kR kR (fun _ _ _ h => h) rfl rfl hS78 (fun W' hs' => aN (k := 7) (v := .slice Ay7 y.bJ.length cy7) Tryz.isAgg130 rfl hs'.2.2.1 rfl) ?_
           refine aD (i := 7) rfl kR kR kR kR kR (fun _ _ _ h => h) rfl rfl hS78 (fun W' hs' => aF rfl) ?_
           refine aD (i := 8) rfl kR kR kR kR kR (fun _ _ _ h => h) rfl rfl hS78 (fun W' hs' => aP (k := i1) Tryz.runUnderlying130 Tryz.sizeOf184 rfl rfl hAe73 hlu1) ?_
           refine aD (i := 9) rfl kR kR kR kR kR (fun _ _ _ h => h) rfl rfl hS78 (fun W' hs' => aY Tryz.isAgg184 Tryz.sizeOf184 rfl hs'.2.2.2 rfl) ?_
           refine aD (i := 10) rfl kR kR kR kR kR (fun _ _ _ h => h) rfl rfl hS78 (fun W' hs' => cZ (b := !(fB (x.bJ[i1]) (y.bJ[i1]))) (by rw [(eq_false_of_ne_true hg74)]) (fJ Tryz.eqGuardType184 rfl rfl (eqr_Asker (x.bJ[i1]) (y.bJ[i1]) _ 9998))) ?_
           refine bU kR ?_ _
           refine aG ?_
           refine bX rfl ?_
           refine wp_seq ?_
           refine aM [0] rfl ?_
           refine aA ?_
           refine aB rfl (aJ rfl) rfl rfl ?_
           refine aH ?_
           refine aG ?_
           refine wp_ret ?_
           refine dS ?_
           refine aU ?_
           refine aU ?_
           refine dS ?_
           refine aU ?_
           have hz79 : aV fB x.bJ y.bJ = false := hf1.trans (eG fB x.bJ y.bJ i1 hlt1 hlu1 (eq_false_of_ne_true hg74))
           have hr80 : aZ x y = false := by simp [aZ, (Decidable.of_not_not hg10), (Decidable.of_not_not hg16), hg24, (Decidable.of_not_not hg35), hg43, hg49, hg74, hz79]
           refine aQ (.inl rfl) Tryz.results70 rfl ?_
           rw [hr80]
           exact ⟨rfl, H77.1⟩
         ·have hd1 : aV fB x.bJ y.bJ = true := hf1.trans (fD fB x.bJ y.bJ i1 kO kO)
          refine wp_exit ?_
          refine dP ?_
          refine dP ?_
          refine iZ ?_
          refine aG ?_
          refine wp_seq ?_
          refine aM [0, 1, 2, 3, 4, 5, 6, 7, 8, 9, 10, 11, 12, 13, 14, 15, 16, 17, 18, 19, 20, 21, 22, 23, 24, 25, 26] rfl ?_
          refine aA ?_
          refine aB rfl (aL fa_132_7 rfl) rfl rfl ?_
          refine aA ?_
          refine aB rfl (aN (k := 8) (v := .int .i64 (x.dZ)) Tryz.isAgg3 rfl (H70.blk 1 rfl) rfl) rfl rfl ?_
          refine aA ?_
          refine aB rfl (aL fa_132_7 rfl) rfl rfl ?_
          refine aA ?_
          refine aB rfl (aN (k := 8) (v := .int .i64 (y.dZ)) Tryz.isAgg3 rfl (H70.blk 0 rfl) rfl) rfl rfl ?_
          by_cases hg81 : (x.dZ : Int) = y.dZ
          ·refine aA ?_
           refine aB rfl (bV hg81 (eH rfl rfl)) rfl rfl ?_
           refine aA ?_
           refine aB rfl (aF rfl) rfl rfl ?_
           refine aA ?_
           refine aR rfl rfl rfl rfl (fun _ ho82 => ?_)
           refine aB ho82 (aL fa_132_8 rfl) rfl rfl ?_
           refine aA ?_
           refine aR rfl rfl rfl rfl (fun _ ho83 => ?_)
           refine aB ho83 (aN (k := 9) (v := .int .i64 (x.Pos)) Tryz.isAgg3 rfl (H70.blk 1 rfl) rfl) rfl rfl ?_
           refine aA ?_
           refine aR rfl rfl rfl rfl (fun _ ho84 => ?_)
           refine aB ho84 (aL fa_132_8 rfl) rfl rfl ?_
           refine aA ?_
           refine aR rfl rfl rfl rfl (fun _ ho85 => ?_)
           refine aB ho85 (aN (k := 9) (v := .int .i64 (y.Pos)) Tryz.isAgg3 rfl (H70.blk 0 rfl) rfl) rfl rfl ?_
           by_cases hg86 : (x.Pos : Int) = y.Pos
           ·refine aA ?_
            refine aR rfl rfl rfl rfl (fun _ ho87 => ?_)
            refine aB ho87 (bV hg86 (eH rfl rfl)) rfl rfl ?_
            refine aA ?_
            refine aB rfl (aI (v := .bool (true)) (b := true) rfl rfl rfl rfl) rfl rfl ?_
            refine aA ?_
            refine aB rfl (aF rfl) rfl rfl ?_
            refine aA ?_
            refine aR rfl rfl rfl rfl (fun _ ho88 => ?_)
            refine aB ho88 (aL fa_132_9 rfl) rfl rfl ?_
            refine aA ?_
            refine aR rfl rfl rfl rfl (fun _ ho89 => ?_)
            refine aB ho89 (aN (k := 10) (v := .int .i64 (x.Count)) Tryz.isAgg3 rfl (H70.blk 1 rfl) rfl) rfl rfl ?_
            refine aA ?_
            refine aR rfl rfl rfl rfl (fun _ ho90 => ?_)
            refine aB ho90 (aL fa_132_9 rfl) rfl rfl ?_
            refine aA ?_
            refine aR rfl rfl rfl rfl (fun _ ho91 => ?_)
            refine aB ho91 (aN (k := 10) (v := .int .i64 (y.Count)) Tryz.isAgg3 rfl (H70.blk 0 rfl) rfl) rfl rfl ?_
            by_cases hg92 : (x.Count : Int) = y.Count
            ·refine aA ?_
             refine aR rfl rfl rfl rfl (fun _ ho93 => ?_)
             refine aB ho93 (bV hg92 (eH rfl rfl)) rfl rfl ?_
             refine aA ?_
             refine aB rfl (aI (v := .bool (true)) (b := true) rfl rfl rfl rfl) rfl rfl ?_
             refine aA ?_
             refine aB rfl (aF rfl) rfl rfl ?_
             refine aA ?_
             refine aR rfl rfl rfl rfl (fun _ ho94 => ?_)
             refine aB ho94 (aL fa_132_10 rfl) rfl rfl ?_
             refine aA ?_
             refine aR rfl rfl rfl rfl (fun _ ho95 => ?_)
             refine aB ho95 (aN (k := 11) (v := .int .i64 (x.Sent)) Tryz.isAgg3 rfl (H70.blk 1 rfl) rfl) rfl rfl ?_
             refine aA ?_
             refine aR rfl rfl rfl rfl (fun _ ho96 => ?_)
             refine aB ho96 (aL fa_132_10 rfl) rfl rfl ?_
             refine aA ?_
             refine aR rfl rfl rfl rfl (fun _ ho97 => ?_)
             refine aB ho97 (aN (k := 11) (v := .int .i64 (y.Sent)) Tryz.isAgg3 rfl (H70.blk 0 rfl) rfl) rfl rfl ?_
             by_cases hg98 : (x.Sent : Int) = y.Sent
             ·refine aA ?_
              refine aR rfl rfl rfl rfl (fun _ ho99 => ?_)
              refine aB ho99 (bV hg98 (eH rfl rfl)) rfl rfl ?_
              refine aA ?_
              refine aB rfl (aI (v := .bool (true)) (b := true) rfl rfl rfl rfl) rfl rfl ?_
              refine aA ?_
              refine aB rfl (aJ rfl) rfl rfl ?_
              refine aH ?_
              refine aG ?_
              refine wp_ret ?_
              have hr100 : aZ x y = true := by simp [aZ, (Decidable.of_not_not hg10), (Decidable.of_not_not hg16), hg24, (Decidable.of_not_not hg35), hg43, hg49, hg81, hg86, hg92, hg98, hd1]
              refine aQ (.inl rfl) Tryz.results70 rfl ?_
              rw [hr100]
              exact ⟨rfl, H70.1⟩
             ·refine aA ?_
              refine aR rfl rfl rfl rfl (fun _ ho101 => ?_)
              refine aB ho101 (bO hg98 (eH rfl rfl)) rfl rfl ?_
              refine aA ?_
              refine aB rfl (aI (v := .bool (false)) (b := true) rfl rfl rfl rfl) rfl rfl ?_
              refine aA ?_
              refine aB rfl (aJ rfl) rfl rfl ?_
              refine aH ?_
              refine aG ?_
              refine wp_ret ?_
              have hr102 : aZ x y = false := by simp [aZ, (Decidable.of_not_not hg10), (Decidable.of_not_not hg16), hg24, (Decidable.of_not_not hg35), hg43, hg49, hg81, hg86, hg92, hg98, hd1]
              refine aQ (.inl rfl) Tryz.results70 rfl ?_
              rw [hr102]
              exact ⟨rfl, H70.1⟩
            ·refine aA ?_
             refine aR rfl rfl rfl rfl (fun _ ho103 => ?_)
             refine aB ho103 (bO hg92 (eH rfl rfl)) rfl rfl ?_
             refine aA ?_
             refine aB rfl (aI (v := .bool (false)) (b := true) rfl rfl rfl rfl) rfl rfl ?_
             refine aA ?_
             refine aB rfl (aF rfl) rfl rfl ?_
             refine aA ?_
             refine aC rfl rfl rfl rfl rfl rfl rfl ?_
             refine aA ?_
             refine aC rfl rfl rfl rfl rfl rfl rfl ?_
             refine aA ?_
             refine aC rfl rfl rfl rfl rfl rfl rfl ?_
             refine aA ?_
             refine aC rfl rfl rfl rfl rfl rfl rfl ?_
             refine aA ?_
             refine aC rfl rfl rfl rfl rfl rfl rfl ?_
             refine aA ?_
             refine aB rfl (aI (v := .bool (false)) (b := false) rfl rfl rfl rfl) rfl rfl ?_
             refine aA ?_
             refine aB rfl (aJ rfl) rfl rfl ?_
             refine aH ?_
             refine aG ?_
             refine wp_ret ?_
             have hr104 : aZ x y = false := by simp [aZ, (Decidable.of_not_not hg10), (Decidable.of_not_not hg16), hg24, (Decidable.of_not_not hg35), hg43, hg49, hg81, hg86, hg92, hd1]
             refine aQ (.inl rfl) Tryz.results70 rfl ?_
             rw [hr104]
             exact ⟨rfl, H70.1⟩
           ·refine aA ?_
            refine aR rfl rfl rfl rfl (fun _ ho105 => ?_)
            refine aB ho105 (bO hg86 (eH rfl rfl)) rfl rfl ?_
            refine aA ?_
            refine aB rfl (aI (v := .bool (false)) (b := true) rfl rfl rfl rfl) rfl rfl ?_
            refine aA ?_
            refine aB rfl (aF rfl) rfl rfl ?_
            refine aA ?_
            refine aC rfl rfl rfl rfl rfl rfl rfl ?_
            refine aA ?_
            refine aC rfl rfl rfl rfl rfl rfl rfl ?_
            refine aA ?_
            refine aC rfl rfl rfl rfl rfl rfl rfl ?_
            refine aA ?_
            refine aC rfl rfl rfl rfl rfl rfl rfl ?_
            refine aA ?_
            refine aC rfl rfl rfl rfl rfl rfl rfl ?_
            refine aA ?_
            refine aB rfl (aI (v := .bool (false)) (b := false) rfl rfl rfl rfl) rfl rfl ?_
            refine aA ?_
            refine aB rfl (aF rfl) rfl rfl ?_
            refine aA ?_
            refine aC rfl rfl rfl rfl rfl rfl rfl ?_
            refine aA ?_
            refine aC rfl rfl rfl rfl rfl rfl rfl ?_
            refine aA ?_
            refine aC rfl rfl rfl rfl rfl rfl rfl ?_
            refine aA ?_
            refine aC rfl rfl rfl rfl rfl rfl rfl ?_
            refine aA ?_
            refine aC rfl rfl rfl rfl rfl rfl rfl ?_
            refine aA ?_
            refine aB rfl (aI (v := .bool (false)) (b := false) rfl rfl rfl rfl) rfl rfl ?_
            refine aA ?_
            refine aB rfl (aJ rfl) rfl rfl ?_
            refine aH ?_
            refine aG ?_
            refine wp_ret ?_
            have hr106 : aZ x y = false := by simp [aZ, (Decidable.of_not_not hg10), (Decidable.of_not_not hg16), hg24, (Decidable.of_not_not hg35), hg43, hg49, hg81, hg86, hd1]
            refine aQ (.inl rfl) Tryz.results70 rfl ?_
            rw [hr106]
            exact ⟨rfl, H70.1⟩
          ·refine aA ?_
           refine aB rfl (bO hg81 (eH rfl rfl)) rfl rfl ?_
           refine aA ?_
           refine aB rfl (aF rfl) rfl rfl ?_
           refine aA ?_
           refine aC rfl rfl rfl rfl rfl rfl rfl ?_
           refine aA ?_
           refine aC rfl rfl rfl rfl rfl rfl rfl ?_
           refine aA ?_
           refine aC rfl rfl rfl rfl rfl rfl rfl ?_
           refine aA ?_
           refine aC rfl rfl rfl rfl rfl rfl rfl ?_
           refine aA ?_
           refine aC rfl rfl rfl rfl rfl rfl rfl ?_
           refine aA ?_
           refine aB rfl (aI (v := .bool (false)) (b := false) rfl rfl rfl rfl) rfl rfl ?_
           refine aA ?_
           refine aB rfl (aF rfl) rfl rfl ?_
           refine aA ?_
           refine aC rfl rfl rfl rfl rfl rfl rfl ?_
           refine aA ?_
           refine aC rfl rfl rfl rfl rfl rfl rfl ?_
           refine aA ?_
           refine aC rfl rfl rfl rfl rfl rfl rfl ?_
           refine aA ?_
           refine aC rfl rfl rfl rfl rfl rfl rfl ?_
           refine aA ?_
           refine aC rfl rfl rfl rfl rfl rfl rfl ?_
           refine aA ?_
           refine aB rfl (aI (v := .bool (false)) (b := false) rfl rfl rfl rfl) rfl rfl ?_
           refine aA ?_
           refine aB rfl (aF rfl) rfl rfl ?_
           refine aA ?_
           refine aC rfl rfl rfl rfl rfl rfl rfl ?_
           refine aA ?_
           refine aC rfl rfl rfl rfl rfl rfl rfl ?_
           refine aA ?_
           refine aC rfl rfl rfl rfl rfl rfl rfl ?_
           refine aA ?_
           refine aC rfl rfl rfl rfl rfl rfl rfl ?_
           refine aA ?_
           refine aC rfl rfl rfl rfl rfl rfl rfl ?_
           refine aA ?_
           refine aB rfl (aI (v := .bool (false)) (b := false) rfl rfl rfl rfl) rfl rfl ?_
           refine aA ?_
           refine aB rfl (aJ rfl) rfl rfl ?_
           refine aH ?_
           refine aG ?_
           refine wp_ret ?_
           have hr107 : aZ x y = false := by simp [aZ, (Decidable.of_not_not hg10), (Decidable.of_not_not hg16), hg24, (Decidable.of_not_not hg35), hg43, hg49, hg81, hd1]
           refine aQ (.inl rfl) Tryz.results70 rfl ?_
           rw [hr107]
           exact ⟨rfl, H70.1⟩
      ·refine aA ?_
       refine aR rfl rfl rfl rfl (fun _ ho108 => ?_)
       refine bP ho108 Tryz.call69 (vs := #[.slice Ax6 x.Queue.length cx6, .slice Ay6 y.Queue.length cy6]) rfl rfl rfl (fK (oL x.Queue y.Queue _ _ _ _ _ (aS H29.1 hCx6) (aS H29.1 hCy6)) (eq_false_of_ne_true hg49)) ?_
       rintro e111 W110 ⟨rfl, hu109⟩; refine ⟨_, rfl, ?_⟩
       have H112 := H29.no hu109; clear H29
       refine aA ?_
       refine aR rfl rfl rfl rfl (fun _ ho113 => ?_)
       refine aB ho113 (gD rfl) rfl rfl ?_
       refine aA ?_
       refine aB rfl (aI (v := .bool (true)) (b := false) rfl rfl rfl rfl) rfl rfl ?_
       refine aA ?_
       refine aB rfl (aF rfl) rfl rfl ?_
       refine aA ?_
       refine aC rfl rfl rfl rfl rfl rfl rfl ?_
       refine aA ?_
       refine aC rfl rfl rfl rfl rfl rfl rfl ?_
       refine aA ?_
       refine aC rfl rfl rfl rfl rfl rfl rfl ?_
       refine aA ?_
       refine aC rfl rfl rfl rfl rfl rfl rfl ?_
       refine aA ?_
       refine aC rfl rfl rfl rfl rfl rfl rfl ?_
       refine aA ?_
       refine aC rfl rfl rfl rfl rfl rfl rfl ?_
       refine aA ?_
       refine aC rfl rfl rfl rfl rfl rfl rfl ?_
       refine aA ?_
       refine aB rfl (aI (v := .bool (true)) (b := true) rfl rfl rfl rfl) rfl rfl ?_
       refine aH ?_
       refine aG ?_
       refine bX rfl ?_
       refine wp_seq ?_
       refine aM [0] rfl ?_
       refine aA ?_
       refine aB rfl (aJ rfl) rfl rfl ?_
       refine aH ?_
       refine aG ?_
       refine wp_ret ?_
       refine aU ?_
       have hr114 : aZ x y = false := by simp [aZ, (Decidable.of_not_not hg10), (Decidable.of_not_not hg16), hg24, (Decidable.of_not_not hg35), hg43, hg49]
       refine aQ (.inl rfl) Tryz.results70 rfl ?_
       rw [hr114]
       exact ⟨rfl, H112.1⟩
     ·refine aA ?_
      refine aR rfl rfl rfl rfl (fun _ ho115 => ?_)
      refine aB ho115 (cZ (b := !(dI x.Value y.Value)) (by rw [(eq_false_of_ne_true hg43)]) (fJ Tryz.eqGuardType129 rfl rfl (l8 x.Value y.Value _ 9998))) rfl rfl ?_
      refine aA ?_
      refine aB rfl (aI (v := .bool (true)) (b := false) rfl rfl rfl rfl) rfl rfl ?_
      refine aA ?_
      refine aB rfl (aF rfl) rfl rfl ?_
      refine aA ?_
      refine aC rfl rfl rfl rfl rfl rfl rfl ?_
      refine aA ?_
      refine aC rfl rfl rfl rfl rfl rfl rfl ?_
      refine aA ?_
      refine aC rfl rfl rfl rfl rfl rfl rfl ?_
      refine aA ?_
      refine aC rfl rfl rfl rfl rfl rfl rfl ?_
      refine aA ?_
      refine aC rfl rfl rfl rfl rfl rfl rfl ?_
      refine aA ?_
      refine aC rfl rfl rfl rfl rfl rfl rfl ?_
      refine aA ?_
      refine aB rfl (aI (v := .bool (true)) (b := true) rfl rfl rfl rfl) rfl rfl ?_
      refine aA ?_
      refine aB rfl (aF rfl) rfl rfl ?_
      refine aA ?_
      refine aC rfl rfl rfl rfl rfl rfl rfl ?_
      refine aA ?_
      refine aC rfl rfl rfl rfl rfl rfl rfl ?_
      refine aA ?_
      refine aC rfl rfl rfl rfl rfl rfl rfl ?_
      refine aA ?_
      refine aC rfl rfl rfl rfl rfl rfl rfl ?_
      refine aA ?_
      refine aC rfl rfl rfl rfl rfl rfl rfl ?_
      refine aA ?_
      refine aC rfl rfl rfl rfl rfl rfl rfl ?_
      refine aA ?_
      refine aC rfl rfl rfl rfl rfl rfl rfl ?_
      refine aA ?_
      refine aB rfl (aI (v := .bool (true)) (b := true) rfl rfl rfl rfl) rfl rfl ?_
      refine aH ?_
      refine aG ?_
      refine bX rfl ?_
      refine wp_seq ?_
      refine aM [0] rfl ?_
      refine aA ?_
      refine aB rfl (aJ rfl) rfl rfl ?_
      refine aH ?_
      refine aG ?_
      refine wp_ret ?_
      refine aU ?_
      have hr116 : aZ x y = false := by simp [aZ, (Decidable.of_not_not hg10), (Decidable.of_not_not hg16), hg24, (Decidable.of_not_not hg35), hg43]
      refine aQ (.inl rfl) Tryz.results70 rfl ?_
      rw [hr116]
      exact ⟨rfl, H29.1⟩
   ·refine aA ?_
    refine aR rfl rfl rfl rfl (fun _ ho117 => ?_)
    refine bP ho117 Tryz.call113 (vs := #[.slice Ax2 x.eB.length cx2, .slice Ay2 y.eB.length cy2]) rfl rfl rfl (fK (kJ x.eB y.eB _ _ _ _ _ (aS Ha8.1 hCx2) (aS Ha8.1 hCy2)) (eq_false_of_ne_true hg24)) ?_
    rintro e120 W119 ⟨rfl, hu118⟩; refine ⟨_, rfl, ?_⟩
    have H121 := Ha8.no hu118; clear Ha8
    refine aA ?_
    refine aR rfl rfl rfl rfl (fun _ ho122 => ?_)
    refine aB ho122 (gD rfl) rfl rfl ?_
    refine aA ?_
    refine aB rfl (aI (v := .bool (true)) (b := false) rfl rfl rfl rfl) rfl rfl ?_
    refine aA ?_
    refine aB rfl (aF rfl) rfl rfl ?_
    refine aA ?_
    refine aC rfl rfl rfl rfl rfl rfl rfl ?_
    refine aA ?_
    refine aC rfl rfl rfl rfl rfl rfl rfl ?_
    refine aA ?_
    refine aC rfl rfl rfl rfl rfl rfl rfl ?_
    refine aA ?_
    refine aC rfl rfl rfl rfl rfl rfl rfl ?_
    refine aA ?_
    refine aC rfl rfl rfl rfl rfl rfl rfl ?_
    refine aA ?_
    refine aB rfl (aI (v := .bool (true)) (b := true) rfl rfl rfl rfl) rfl rfl ?_
    refine aA ?_
    refine aB rfl (aF rfl) rfl rfl ?_
    refine aA ?_
    refine aC rfl rfl rfl rfl rfl rfl rfl ?_
    refine aA ?_
    refine aC rfl rfl rfl rfl rfl rfl rfl ?_
    refine aA ?_
    refine aC rfl rfl rfl rfl rfl rfl rfl ?_
    refine aA ?_
    refine aC rfl rfl rfl rfl rfl rfl rfl ?_
    refine aA ?_
    refine aC rfl rfl rfl rfl rfl rfl rfl ?_
    refine aA ?_
    refine aB rfl (aI (v := .bool (true)) (b := true) rfl rfl rfl rfl) rfl rfl ?_
    refine aA ?_
    refine aB rfl (aF rfl) rfl rfl ?_
    refine aA ?_
    refine aC rfl rfl rfl rfl rfl rfl rfl ?_
    refine aA ?_
    refine aC rfl rfl rfl rfl rfl rfl rfl ?_
    refine aA ?_
    refine aC rfl rfl rfl rfl rfl rfl rfl ?_
    refine aA ?_
    refine aC rfl rfl rfl rfl rfl rfl rfl ?_
    refine aA ?_
    refine aC rfl rfl rfl rfl rfl rfl rfl ?_
    refine aA ?_
    refine aC rfl rfl rfl rfl rfl rfl rfl ?_
    refine aA ?_
    refine aB rfl (aI (v := .bool (true)) (b := true) rfl rfl rfl rfl) rfl rfl ?_
    refine aA ?_
    refine aB rfl (aF rfl) rfl rfl ?_
    refine aA ?_
    refine aC rfl rfl rfl rfl rfl rfl rfl ?_
    refine aA ?_
    refine aC rfl rfl rfl rfl rfl rfl rfl ?_
    refine aA ?_
    refine aC rfl rfl rfl rfl rfl rfl rfl ?_
    refine aA ?_
    refine aC rfl rfl rfl rfl rfl rfl rfl ?_
    refine aA ?_
    refine aC rfl rfl rfl rfl rfl rfl rfl ?_
    refine aA ?_
    refine aC rfl rfl rfl rfl rfl rfl rfl ?_
    refine aA ?_
    refine aC rfl rfl rfl rfl rfl rfl rfl ?_
    refine aA ?_
    refine aB rfl (aI (v := .bool (true)) (b := true) rfl rfl rfl rfl) rfl rfl ?_
    refine aH ?_
    refine aG ?_
    refine bX rfl ?_
    refine wp_seq ?_
    refine aM [0] rfl ?_
    refine aA ?_
    refine aB rfl (aJ rfl) rfl rfl ?_
    refine aH ?_
    refine aG ?_
    refine wp_ret ?_
    refine aU ?_
    have hr123 : aZ x y = false := by simp [aZ, (Decidable.of_not_not hg10), (Decidable.of_not_not hg16), hg24]
    refine aQ (.inl rfl) Tryz.results70 rfl ?_
    rw [hr123]
    exact ⟨rfl, H121.1⟩
end Go.Proofs.YtgaoabnnpjngcaaGreatFam
