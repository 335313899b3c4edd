/- What the row needs, packed. No conditions beyond those that each law names. -/
import Derived.Test.YtgaoabnnpjngcaaGreatZew4
import Derived.Test.YtgaoabnnpjngcaaGreatProg
import Derived.Test.YtgaoabnnpjngcaaGreatZew1
import Derived.Test.YtgaoabnnpjngcaaGreatZew2
import Derived.Deep.Slices
import Derived.ChangeArms
import Derived.WideShapes
namespace Go.Proofs.YtgaoabnnpjngcaaGreatFam
open Go.ChangeShapes Go.WideShapes Go.RowKit Go.Proofs.YtgaoabnnpjngcaaGreatSep Go.Proofs.YtgaoabnnpjngcaaGreatT Go.Proofs.YtgaoabnnpjngcaaGreatK
set_option linter.unusedVariables false
set_option linter.unusedSimpArgs false
attribute [local irreducible] wpOps wpOp
set_option maxHeartbeats 4000000
set_option maxRecDepth 100000
theorem equalLinks_s (x y : GLink) (cx cy : List Value) (w : World) (h : gK.K w x cx) (h' : gK.K w y cy) : Calls Tryz.prog 71 #[.agg cx.toArray, .agg cy.toArray] w (bW (cK x y) w) := by
 obtain ⟨Ax2, cx2, Ax4, cx4, Ax6, cx6, rfl, hlx2, hCx2, hlx4, hCx4, hlx6, hCx6⟩ := mV h
 obtain ⟨Ay2, cy2, Ay4, cy4, Ay6, cy6, rfl, hly2, hCy2, hly4, hCy4, hly6, hCy6⟩ := mV h'
 have nx2 := hCx2.1
 have nx4 := hCx4.1
 have nx6 := hCx6.1
 refine enter 71 [(0, .agg #[.int .i64 (x.dZ), .bool (x.Up), .slice Ax2 x.aW.length cx2, .int .i64 (x.Next), .slice Ax4 x.bF.length cx4, .int .i64 (x.iO), .slice Ax6 x.cB.length cx6]), (1, .agg #[.int .i64 (y.dZ), .bool (y.Up), .slice Ay2 y.aW.length cy2, .int .i64 (y.Next), .slice Ay4 y.bF.length cy4, .int .i64 (y.iO), .slice Ay6 y.cB.length cy6])] Tryz.func71 rfl kR ?_
 intro xj
 have H1 : St w No [] w := St.enter
 refine wp_seq ?_
 refine aM [0, 1, 2] rfl ?_
 refine aA ?_
 refine gX rfl rfl rfl rfl H1 ?_
 intro g_0_0 W2 hu3 Ha4; clear H1; clear hu3
 refine aA ?_
 refine gX rfl rfl rfl rfl Ha4 ?_
 intro g_0_1 W6 hu7 Ha8; clear Ha4; clear hu7
 refine aA ?_
 refine aB rfl (aJ rfl) rfl rfl ?_
 refine aH ?_
 refine aG ?_
 refine wp_seq ?_
 refine wp_seq ?_
 refine aM [0, 1, 2, 3, 4, 5, 6, 7, 8, 9, 10, 11, 12, 13, 14, 15, 16, 17, 18, 19, 20, 21, 22, 23, 24, 25, 26, 27, 28, 29, 30, 31, 32, 33, 34] rfl ?_
 refine aA ?_
 refine aB rfl (aL fa_137_0 rfl) rfl rfl ?_
 refine aA ?_
 refine aB rfl (aN (k := 0) (v := .int .i64 (x.dZ)) Tryz.isAgg3 rfl (Ha8.blk 1 rfl) rfl) rfl rfl ?_
 refine aA ?_
 refine aB rfl (aL fa_137_0 rfl) rfl rfl ?_
 refine aA ?_
 refine aB rfl (aN (k := 0) (v := .int .i64 (y.dZ)) Tryz.isAgg3 rfl (Ha8.blk 0 rfl) rfl) rfl rfl ?_
 by_cases hg10 : ¬ (x.dZ : Int) = y.dZ
 ·refine aA ?_
  refine aB rfl (bV hg10 (bN rfl rfl)) rfl rfl ?_
  refine aA ?_
  refine aB rfl (aF rfl) rfl rfl ?_
  refine aA ?_
  refine aC rfl rfl rfl rfl rfl rfl rfl ?_
  refine aA ?_
  refine aC rfl rfl rfl rfl rfl rfl rfl ?_
  refine aA ?_
  refine aC rfl rfl rfl rfl rfl rfl rfl ?_
  refine aA ?_
  refine aC rfl rfl rfl rfl rfl rfl rfl ?_
  refine aA ?_
  refine aC rfl rfl rfl rfl rfl rfl rfl ?_
  refine aA ?_
  refine aB rfl (aI (v := .bool (true)) (b := true) rfl rfl rfl rfl) rfl rfl ?_
  refine aA ?_
  refine aB rfl (aF rfl) rfl rfl ?_
  refine aA ?_
  refine aC rfl rfl rfl rfl rfl rfl rfl ?_
  refine aA ?_
  refine aC rfl rfl rfl rfl rfl rfl rfl ?_
  refine aA ?_
  refine aC rfl rfl rfl rfl rfl rfl rfl ?_
  refine aA ?_
  refine aC rfl rfl rfl rfl rfl rfl rfl ?_
  refine aA ?_
  refine aC rfl rfl rfl rfl rfl rfl rfl ?_
  refine aA ?_
  refine aB rfl (aI (v := .bool (true)) (b := true) rfl rfl rfl rfl) rfl rfl ?_
  refine aA ?_
  refine aB rfl (aF rfl) rfl rfl ?_
  refine aA ?_
  refine aC rfl rfl rfl rfl rfl rfl rfl ?_
  refine aA ?_
  refine aC rfl rfl rfl rfl rfl rfl rfl ?_
  refine aA ?_
  refine aC rfl rfl rfl rfl rfl rfl rfl ?_
  refine aA ?_
  refine aC rfl rfl rfl rfl rfl rfl rfl ?_
  refine aA ?_
  refine aC rfl rfl rfl rfl rfl rfl rfl ?_
  refine aA ?_
  refine aB rfl (aI (v := .bool (true)) (b := true) rfl rfl rfl rfl) rfl rfl ?_
  refine aA ?_
  refine aB rfl (aF rfl) rfl rfl ?_
  refine aA ?_
  refine aC rfl rfl rfl rfl rfl rfl rfl ?_
  refine aA ?_
  refine aC rfl rfl rfl rfl rfl rfl rfl ?_
  refine aA ?_
  refine aC rfl rfl rfl rfl rfl rfl rfl ?_
  refine aA ?_
  refine aC rfl rfl rfl rfl rfl rfl rfl ?_
  refine aA ?_
  refine aC rfl rfl rfl rfl rfl rfl rfl ?_
  refine aA ?_
  refine aC rfl rfl rfl rfl rfl rfl rfl ?_
  refine aA ?_
  refine aC rfl rfl rfl rfl rfl rfl rfl ?_
  refine aA ?_
  refine aB rfl (aI (v := .bool (true)) (b := true) rfl rfl rfl rfl) rfl rfl ?_
  refine aH ?_
  refine aG ?_
  refine bX rfl ?_
  refine wp_seq ?_
  refine aM [0] rfl ?_
  refine aA ?_
  refine aB rfl (aJ rfl) rfl rfl ?_
  refine aH ?_
  refine aG ?_
  refine wp_ret ?_
  refine aU ?_
  have hr11 : cK x y = false := by simp [cK, hg10]
  refine aQ (.inl rfl) Tryz.results71 rfl ?_
  rw [hr11]
  exact ⟨rfl, Ha8.1⟩
 ·refine aA ?_
  refine aB rfl (bO hg10 (bN rfl rfl)) rfl rfl ?_
  refine aA ?_
  refine aB rfl (aF rfl) rfl rfl ?_
  refine aA ?_
  refine aR rfl rfl rfl rfl (fun _ ho12 => ?_)
  refine aB ho12 (aL fa_137_1 rfl) rfl rfl ?_
  refine aA ?_
  refine aR rfl rfl rfl rfl (fun _ ho13 => ?_)
  refine aB ho13 (aN (k := 1) (v := .bool (x.Up)) Tryz.isAgg4 rfl (Ha8.blk 1 rfl) rfl) rfl rfl ?_
  refine aA ?_
  refine aR rfl rfl rfl rfl (fun _ ho14 => ?_)
  refine aB ho14 (aL fa_137_1 rfl) rfl rfl ?_
  refine aA ?_
  refine aR rfl rfl rfl rfl (fun _ ho15 => ?_)
  refine aB ho15 (aN (k := 1) (v := .bool (y.Up)) Tryz.isAgg4 rfl (Ha8.blk 0 rfl) rfl) rfl rfl ?_
  by_cases hg16 : (x.Up == y.Up) = true
  ·refine aA ?_
   refine aR rfl rfl rfl rfl (fun _ ho17 => ?_)
   refine aB ho17 (cZ (b := !(x.Up == y.Up)) (by rw [hg16]) (rn_neqBB Tryz.underlying4 rfl rfl)) rfl rfl ?_
   refine aA ?_
   refine aB rfl (aI (v := .bool (false)) (b := false) rfl rfl rfl rfl) rfl rfl ?_
   refine aA ?_
   refine aB rfl (aF rfl) rfl rfl ?_
   refine aA ?_
   refine aR rfl rfl rfl rfl (fun _ ho18 => ?_)
   refine aB ho18 (aL fa_137_3 rfl) rfl rfl ?_
   refine aA ?_
   refine aR rfl rfl rfl rfl (fun _ ho19 => ?_)
   refine aB ho19 (aN (k := 3) (v := .int .i64 (x.Next)) Tryz.isAgg3 rfl (Ha8.blk 1 rfl) rfl) rfl rfl ?_
   refine aA ?_
   refine aR rfl rfl rfl rfl (fun _ ho20 => ?_)
   refine aB ho20 (aL fa_137_3 rfl) rfl rfl ?_
   refine aA ?_
   refine aR rfl rfl rfl rfl (fun _ ho21 => ?_)
   refine aB ho21 (aN (k := 3) (v := .int .i64 (y.Next)) Tryz.isAgg3 rfl (Ha8.blk 0 rfl) rfl) rfl rfl ?_
   by_cases hg22 : ¬ (x.Next : Int) = y.Next
   ·refine aA ?_
    refine aR rfl rfl rfl rfl (fun _ ho23 => ?_)
    refine aB ho23 (bV hg22 (bN rfl rfl)) rfl rfl ?_
    refine aA ?_
    refine aB rfl (aI (v := .bool (true)) (b := false) rfl rfl rfl rfl) rfl rfl ?_
    refine aA ?_
    refine aB rfl (aF rfl) rfl rfl ?_
    refine aA ?_
    refine aC rfl rfl rfl rfl rfl rfl rfl ?_
    refine aA ?_
    refine aC rfl rfl rfl rfl rfl rfl rfl ?_
    refine aA ?_
    refine aC rfl rfl rfl rfl rfl rfl rfl ?_
    refine aA ?_
    refine aC rfl rfl rfl rfl rfl rfl rfl ?_
    refine aA ?_
    refine aC rfl rfl rfl rfl rfl rfl rfl ?_
    refine aA ?_
    refine aB rfl (aI (v := .bool (true)) (b := true) rfl rfl rfl rfl) rfl rfl ?_
    refine aA ?_
    refine aB rfl (aF rfl) rfl rfl ?_
    refine aA ?_
    refine aC rfl rfl rfl rfl rfl rfl rfl ?_
    refine aA ?_
    refine aC rfl rfl rfl rfl rfl rfl rfl ?_
    refine aA ?_
    refine aC rfl rfl rfl rfl rfl rfl rfl ?_
    refine aA ?_
    refine aC rfl rfl rfl rfl rfl rfl rfl ?_
    refine aA ?_
    refine aC rfl rfl rfl rfl rfl rfl rfl ?_
    refine aA ?_
    refine aC rfl rfl rfl rfl rfl rfl rfl ?_
    refine aA ?_
    refine aC rfl rfl rfl rfl rfl rfl rfl ?_
    refine aA ?_
    refine aB rfl (aI (v := .bool (true)) (b := true) rfl rfl rfl rfl) rfl rfl ?_
    refine aH ?_
    refine aG ?_
    refine bX rfl ?_
    refine wp_seq ?_
    refine aM [0] rfl ?_
    refine aA ?_
    refine aB rfl (aJ rfl) rfl rfl ?_
    refine aH ?_
    refine aG ?_
    refine wp_ret ?_
    refine aU ?_
    have hr24 : cK x y = false := by simp [cK, (Decidable.of_not_not hg10), hg16, hg22]
    refine aQ (.inl rfl) Tryz.results71 rfl ?_
    rw [hr24]
    exact ⟨rfl, Ha8.1⟩
   ·refine aA ?_
    refine aR rfl rfl rfl rfl (fun _ ho25 => ?_)
    refine aB ho25 (bO hg22 (bN rfl rfl)) rfl rfl ?_
    refine aA ?_
    refine aB rfl (aI (v := .bool (false)) (b := false) rfl rfl rfl rfl) rfl rfl ?_
    refine aA ?_
    refine aB rfl (aF rfl) rfl rfl ?_
    refine aA ?_
    refine aR rfl rfl rfl rfl (fun _ ho26 => ?_)
    refine aB ho26 (aL fa_137_5 rfl) rfl rfl ?_
    refine aA ?_
    refine aR rfl rfl rfl rfl (fun _ ho27 => ?_)
    refine aB ho27 (aN (k := 5) (v := .int .i64 (x.iO)) Tryz.isAgg3 rfl (Ha8.blk 1 rfl) rfl) rfl rfl ?_
    refine aA ?_
    refine aR rfl rfl rfl rfl (fun _ ho28 => ?_)
    refine aB ho28 (aL fa_137_5 rfl) rfl rfl ?_
    refine aA ?_
    refine aR rfl rfl rfl rfl (fun _ ho29 => ?_)
    refine aB ho29 (aN (k := 5) (v := .int .i64 (y.iO)) Tryz.isAgg3 rfl (Ha8.blk 0 rfl) rfl) rfl rfl ?_
    by_cases hg30 : ¬ (x.iO : Int) = y.iO
    ·refine aA ?_
     refine aR rfl rfl rfl rfl (fun _ ho31 => ?_)
     refine aB ho31 (bV hg30 (bN rfl rfl)) rfl rfl ?_
     refine aA ?_
     refine aB rfl (aI (v := .bool (true)) (b := false) rfl rfl rfl rfl) rfl rfl ?_
     refine aA ?_
     refine aB rfl (aF rfl) rfl rfl ?_
     refine aA ?_
     refine aC rfl rfl rfl rfl rfl rfl rfl ?_
     refine aA ?_
     refine aC rfl rfl rfl rfl rfl rfl rfl ?_
     refine aA ?_
     refine aC rfl rfl rfl rfl rfl rfl rfl ?_
     refine aA ?_
     refine aC rfl rfl rfl rfl rfl rfl rfl ?_
     refine aA ?_
     refine aC rfl rfl rfl rfl rfl rfl rfl ?_
     refine aA ?_
     refine aC rfl rfl rfl rfl rfl rfl rfl ?_
     refine aA ?_
     refine aC rfl rfl rfl rfl rfl rfl rfl ?_
     refine aA ?_
     refine aB rfl (aI (v := .bool (true)) (b := true) rfl rfl rfl rfl) rfl rfl ?_
     refine aH ?_
     refine aG ?_
     refine bX rfl ?_
     refine wp_seq ?_
     refine aM [0] rfl ?_
     refine aA ?_
     refine aB rfl (aJ rfl) rfl rfl ?_
     refine aH ?_
     refine aG ?_
     refine wp_ret ?_
     refine aU ?_
     have hr32 : cK x y = false := by simp [cK, (Decidable.of_not_not hg10), hg16, (Decidable.of_not_not hg22), hg30]
     refine aQ (.inl rfl) Tryz.results71 rfl ?_
     rw [hr32]
     exact ⟨rfl, Ha8.1⟩
    ·refine aA ?_
     refine aR rfl rfl rfl rfl (fun _ ho33 => ?_)
     refine aB ho33 (bO hg30 (bN rfl rfl)) rfl rfl ?_
     refine aA ?_
     refine aB rfl (aI (v := .bool (false)) (b := false) rfl rfl rfl rfl) rfl rfl ?_
     refine aA ?_
     refine aB rfl (aF rfl) rfl rfl ?_
     refine aA ?_
     refine aR rfl rfl rfl rfl (fun _ ho34 => ?_)
     refine aB ho34 (aL mE rfl) rfl rfl ?_
     refine aA ?_
     refine aR rfl rfl rfl rfl (fun _ ho35 => ?_)
     refine aB ho35 (aN (k := 2) (v := .slice Ax2 x.aW.length cx2) Tryz.isAgg134 rfl (Ha8.blk 1 rfl) rfl) rfl rfl ?_
     refine aA ?_
     refine aR rfl rfl rfl rfl (fun _ ho36 => ?_)
     refine aB ho36 (bQ Tryz.runUnderlying134 rfl) rfl rfl ?_
     refine aA ?_
     refine aR rfl rfl rfl rfl (fun _ ho37 => ?_)
     refine aB ho37 (aL mE rfl) rfl rfl ?_
     refine aA ?_
     refine aR rfl rfl rfl rfl (fun _ ho38 => ?_)
     refine aB ho38 (aN (k := 2) (v := .slice Ay2 y.aW.length cy2) Tryz.isAgg134 rfl (Ha8.blk 0 rfl) rfl) rfl rfl ?_
     refine aA ?_
     refine aR rfl rfl rfl rfl (fun _ ho39 => ?_)
     refine aB ho39 (bQ Tryz.runUnderlying134 rfl) rfl rfl ?_
     by_cases hg40 : ¬ ((x.aW.length : Nat) : Int) = (y.aW.length : Nat)
     ·refine aA ?_
      refine aR rfl rfl rfl rfl (fun _ ho41 => ?_)
      refine aB ho41 (bV hg40 (bN rfl rfl)) rfl rfl ?_
      refine aA ?_
      refine aB rfl (aI (v := .bool (true)) (b := false) rfl rfl rfl rfl) rfl rfl ?_
      refine aH ?_
      refine aG ?_
      refine bX rfl ?_
      refine wp_seq ?_
      refine aM [0] rfl ?_
      refine aA ?_
      refine aB rfl (aJ rfl) rfl rfl ?_
      refine aH ?_
      refine aG ?_
      refine wp_ret ?_
      refine aU ?_
      have hz42 : ∀ f, aV f x.aW y.aW = false := fun f => eY f x.aW y.aW kO
      have hr43 : cK x y = false := by simp [cK, (Decidable.of_not_not hg10), hg16, (Decidable.of_not_not hg22), (Decidable.of_not_not hg30), hz42]
      refine aQ (.inl rfl) Tryz.results71 rfl ?_
      rw [hr43]
      exact ⟨rfl, Ha8.1⟩
     ·refine aA ?_
      refine aR rfl rfl rfl rfl (fun _ ho44 => ?_)
      refine aB ho44 (bO hg40 (bN rfl rfl)) rfl rfl ?_
      refine aA ?_
      refine aB rfl (aI (v := .bool (false)) (b := false) rfl rfl rfl rfl) rfl rfl ?_
      refine aH ?_
      refine aG ?_
      refine dU rfl ?_
      refine wp_skip ?_
      refine aG ?_
      refine wp_seq ?_
      refine wp_seq ?_
      refine aM [0] rfl ?_
      refine aA ?_
      refine aB rfl (aJ rfl) rfl rfl ?_
      refine aH ?_
      refine aG ?_
      refine wp_block ?_
      refine wp_loop_ghost (fun r a' W' => ∃ (i1 : Nat) (x' : Nat → Value), a' = bT 71 x' [(2, .pointer (some ⟨g_0_0, 0, none⟩)), (3, .pointer (some ⟨g_0_1, 0, none⟩)), (5, .int .i64 (((i1 : Nat) : Int)))] ∧ (i1 + r = x.aW.length) ∧ (aV dV x.aW y.aW = aV dV (x.aW.drop i1) (y.aW.drop i1)) ∧ St w No [hB g_0_1 137 #[.int .i64 (y.dZ), .bool (y.Up), .slice Ay2 y.aW.length cy2, .int .i64 (y.Next), .slice Ay4 y.bF.length cy4, .int .i64 (y.iO), .slice Ay6 y.cB.length cy6], hB g_0_0 137 #[.int .i64 (x.dZ), .bool (x.Up), .slice Ax2 x.aW.length cx2, .int .i64 (x.Next), .slice Ax4 x.bF.length cx4, .int .i64 (x.iO), .slice Ax6 x.cB.length cx6]] W') x.aW.length ?_ ?_
      ·exact (bA [(2, .pointer (some ⟨g_0_0, 0, none⟩)), (3, .pointer (some ⟨g_0_1, 0, none⟩)), (5, .int .i64 (((0 : Nat) : Int)))] rfl).elim fun x' hx => ⟨0, x', hx, kO, rfl, Ha8⟩
      ·rintro r45 _ W46 ⟨i1, x47, rfl, hi1, hf1, H48⟩; clear Ha8
       refine wp_seq ?_
       refine wp_seq ?_
       refine aM [0, 1, 2, 3, 4] rfl ?_
       refine aA ?_
       refine aB rfl (aF rfl) rfl rfl ?_
       refine aA ?_
       refine aB rfl (aL mE rfl) rfl rfl ?_
       refine aA ?_
       refine aB rfl (aN (k := 2) (v := .slice Ax2 x.aW.length cx2) Tryz.isAgg134 rfl (H48.blk 1 rfl) rfl) rfl rfl ?_
       refine aA ?_
       refine aB rfl (bQ Tryz.runUnderlying134 rfl) rfl rfl ?_
       refine aA ?_
       refine aB rfl (gY rfl rfl) rfl rfl ?_
       refine aH ?_
       refine aG ?_
       refine eP rfl (fun hc49 => ?_) (fun hc49 => ?_)
       ·have hlt1 : i1 < x.aW.length := by omega
        have hlu1 : i1 < y.aW.length := by omega
        obtain ⟨ade50, cse50, hAe50, hKe50, hce50⟩ := dO hCx2 i1 hlt1
        have hle50 := nI hKe50
        have hoe50 := nJ hKe50
        obtain ⟨ade51, cse51, hAe51, hKe51, hce51⟩ := dO hCy2 i1 hlu1
        have hle51 := nI hKe51
        have hoe51 := nJ hKe51
        obtain rfl := jY hKe50
        obtain rfl := jY hKe51
        refine wp_skip ?_
        refine aG ?_
        refine wp_seq ?_
        refine wp_block ?_
        refine wp_seq ?_
        by_cases hg52 : (dV (x.aW[i1]) (y.aW[i1])) = true
        ·refine dD (fun W' => Blk W' g_0_0 137 #[.int .i64 (x.dZ), .bool (x.Up), .slice Ax2 x.aW.length cx2, .int .i64 (x.Next), .slice Ax4 x.bF.length cx4, .int .i64 (x.iO), .slice Ax6 x.cB.length cx6] ∧ Cat W' (Addr.add ade50 (i1 * 3)) [.int .i64 (x.aW[i1].Pos), .int .i64 (x.aW[i1].Entity), .int .i64 (x.aW[i1].Count)] ∧ Blk W' g_0_1 137 #[.int .i64 (y.dZ), .bool (y.Up), .slice Ay2 y.aW.length cy2, .int .i64 (y.Next), .slice Ay4 y.bF.length cy4, .int .i64 (y.iO), .slice Ay6 y.cB.length cy6] ∧ Cat W' (Addr.add ade51 (i1 * 3)) [.int .i64 (y.aW[i1].Pos), .int .i64 (y.aW[i1].Entity), .int .i64 (y.aW[i1].Count)]) 11 kR ?_
         have H53 := H48.drew; clear H48
         have hS54 : Blk W46.drew g_0_0 137 #[.int .i64 (x.dZ), .bool (x.Up), .slice Ax2 x.aW.length cx2, .int .i64 (x.Next), .slice Ax4 x.bF.length cx4, .int .i64 (x.iO), .slice Ax6 x.cB.length cx6] ∧ Cat W46.drew (Addr.add ade50 (i1 * 3)) [.int .i64 (x.aW[i1].Pos), .int .i64 (x.aW[i1].Entity), .int .i64 (x.aW[i1].Count)] ∧ Blk W46.drew g_0_1 137 #[.int .i64 (y.dZ), .bool (y.Up), .slice Ay2 y.aW.length cy2, .int .i64 (y.Next), .slice Ay4 y.bF.length cy4, .int .i64 (y.iO), .slice Ay6 y.cB.length cy6] ∧ Cat W46.drew (Addr.add ade51 (i1 * 3)) [.int .i64 (y.aW[i1].Pos), .int .i64 (y.aW[i1].Entity), .int .i64 (y.aW[i1].Count)] := ⟨H53.blk 1 rfl, (Cat.upd hce50 H53.1), H53.blk 0 rfl, (Cat.upd hce51 H53.1)⟩
         refine aD (i := 0) rfl kR kR kR kR kR (fun _ _ _ h => h) rfl rfl hS54 (fun W' hs' => aL mE rfl) ?_
         refine aD (i := 1) rfl kR kR kR kR kR (fun _ _ _ h => h) rfl rfl hS54 (fun W' hs' => aN (k := 2) (v := .slice Ax2 x.aW.length cx2) Tryz.isAgg134 rfl hs'.1 rfl) ?_
         refine aD (i := 2) rfl kR kR kR kR kR (fun _ _ _ h => h) rfl rfl hS54 (fun W' hs' => aF rfl) ?_
         refine aD (i := 3) rfl kR kR kR kR kR (fun _ _ _ h => h) rfl rfl hS54 (fun W' hs' => aP (k := i1) Tryz.runUnderlying134 Tryz.sizeOf186 rfl rfl hAe50 hlt1) ?_
         refine aD (i := 4) rfl kR kR kR kR kR (fun _ _ _ h => h) rfl rfl hS54 (fun W' hs' => aY Tryz.isAgg186 Tryz.sizeOf186 rfl hs'.2.1 rfl) ?_
         refine aD (i := 5) rfl kR kR kR kR kR (fun _ _ _ h => h) rfl rfl hS54 (fun W' hs' => aL mE rfl) ?_
         refine aD (i := 6) rfl kR kR kR kR kR (fun _ _ _ h => h) rfl rfl hS54 (fun W' hs' => aN (k := 2) (v := .slice Ay2 y.aW.length cy2) Tryz.isAgg134 rfl hs'.2.2.1 rfl) ?_
         refine aD (i := 7) rfl kR kR kR kR kR (fun _ _ _ h => h) rfl rfl hS54 (fun W' hs' => aF rfl) ?_
         refine aD (i := 8) rfl kR kR kR kR kR (fun _ _ _ h => h) rfl rfl hS54 (fun W' hs' => aP (k := i1) Tryz.runUnderlying134 Tryz.sizeOf186 rfl rfl hAe51 hlu1) ?_
         refine aD (i := 9) rfl kR kR kR kR kR (fun _ _ _ h => h) rfl rfl hS54 (fun W' hs' => aY Tryz.isAgg186 Tryz.sizeOf186 rfl hs'.2.2.2 rfl) ?_
         refine aD (i := 10) rfl kR kR kR kR kR (fun _ _ _ h => h) rfl rfl hS54 (fun W' hs' => cZ (b := !(dV (x.aW[i1]) (y.aW[i1]))) (by rw [hg52]) (fJ Tryz.eqGuardType186 rfl rfl (eqr_Export (x.aW[i1]) (y.aW[i1]) _ 9998))) ?_
         refine bU kR ?_ _
         refine aG ?_
         refine dU rfl ?_
         refine wp_skip ?_
         refine iY ?_
         refine aG ?_
         refine aM [0, 1, 2] rfl ?_
         refine aA ?_
         refine aB rfl (aF rfl) rfl rfl ?_
         refine aA ?_
         refine aB rfl (iB (k := i1) rfl rfl kO) rfl rfl ?_
         refine aA ?_
         refine aB rfl (aJ rfl) rfl rfl ?_
         refine aH ?_
         refine aG ?_
         exact (bA [(2, .pointer (some ⟨g_0_0, 0, none⟩)), (3, .pointer (some ⟨g_0_1, 0, none⟩)), (5, .int .i64 (((i1 + 1 : Nat) : Int)))] rfl).elim fun x' hx => ⟨r45 - 1, kO, i1 + 1, x', hx, kO, (hf1.trans (fC dV x.aW y.aW i1 hlt1 hlu1 hg52)), H53⟩
        ·refine dD (fun W' => Blk W' g_0_0 137 #[.int .i64 (x.dZ), .bool (x.Up), .slice Ax2 x.aW.length cx2, .int .i64 (x.Next), .slice Ax4 x.bF.length cx4, .int .i64 (x.iO), .slice Ax6 x.cB.length cx6] ∧ Cat W' (Addr.add ade50 (i1 * 3)) [.int .i64 (x.aW[i1].Pos), .int .i64 (x.aW[i1].Entity), .int .i64 (x.aW[i1].Count)] ∧ Blk W' g_0_1 137 #[.int .i64 (y.dZ), .bool (y.Up), .slice Ay2 y.aW.length cy2, .int .i64 (y.Next), .slice Ay4 y.bF.length cy4, .int .i64 (y.iO), .slice Ay6 y.cB.length cy6] ∧ Cat W' (Addr.add ade51 (i1 * 3)) [.int .i64 (y.aW[i1].Pos), .int .i64 (y.aW[i1].Entity), .int .i64 (y.aW[i1].Count)]) 11 kR ?_
         have H55 := H48.drew; clear H48
         have hS56 : Blk W46.drew g_0_0 137 #[.int .i64 (x.dZ), .bool (x.Up), .slice Ax2 x.aW.length cx2, .int .i64 (x.Next), .slice Ax4 x.bF.length cx4, .int .i64 (x.iO), .slice Ax6 x.cB.length cx6] ∧ Cat W46.drew (Addr.add ade50 (i1 * 3)) [.int .i64 (x.aW[i1].Pos), .int .i64 (x.aW[i1].Entity), .int .i64 (x.aW[i1].Count)] ∧ Blk W46.drew g_0_1 137 #[.int .i64 (y.dZ), .bool (y.Up), .slice Ay2 y.aW.length cy2, .int .i64 (y.Next), .slice Ay4 y.bF.length cy4, .int .i64 (y.iO), .slice Ay6 y.cB.length cy6] ∧ Cat W46.drew (Addr.add ade51 (i1 * 3)) [.int .i64 (y.aW[i1].Pos), .int .i64 (y.aW[i1].Entity), .int .i64 (y.aW[i1].Count)] := ⟨H55.blk 1 rfl, (Cat.upd hce50 H55.1), H55.blk 0 rfl, (Cat.upd hce51 H55.1)⟩
         refine aD (i := 0) rfl kR kR kR kR kR (fun _ _ _ h => h) rfl rfl hS56 (fun W' hs' => aL mE rfl) ?_
         refine aD (i := 1) rfl kR kR kR kR kR (fun _ _ _ h => h) rfl rfl hS56 (fun W' hs' => aN (k := 2) (v := .slice Ax2 x.aW.length cx2) Tryz.isAgg134 rfl hs'.1 rfl) ?_
         refine aD (i := 2) rfl kR kR kR kR kR (fun _ _ _ h => h) rfl rfl hS56 (fun W' hs' => aF rfl) ?_
         refine aD (i := 3) rfl kR kR kR kR kR (fun _ _ _ h => h) rfl rfl hS56 (fun W' hs' => aP (k := i1) Tryz.runUnderlying134 Tryz.sizeOf186 rfl rfl hAe50 hlt1) ?_
         refine aD (i := 4) rfl kR kR kR kR kR (fun _ _ _ h => h) rfl rfl hS56 (fun W' hs' => aY Tryz.isAgg186 Tryz.sizeOf186 rfl hs'.2.1 rfl) ?_
         refine aD (i := 5) rfl kR kR kR kR kR (fun _ _ _ h => h) rfl rfl hS56 (fun W' hs' => aL mE rfl) ?_
         refine aD (i := 6) rfl kR kR kR kR kR (fun _ _ _ h => h) rfl rfl hS56 (fun W' hs' => aN (k := 2) (v := .slice Ay2 y.aW.length cy2) Tryz.isAgg134 rfl hs'.2.2.1 rfl) ?_
         refine aD (i := 7) rfl kR kR kR kR kR (fun _ _ _ h => h) rfl rfl hS56 (fun W' hs' => aF rfl) ?_
         refine aD (i := 8) rfl kR kR kR kR kR (fun _ _ _ h => h) rfl rfl hS56 (fun W' hs' => aP (k := i1) Tryz.runUnderlying134 Tryz.sizeOf186 rfl rfl hAe51 hlu1) ?_
         refine aD (i := 9) rfl kR kR kR kR kR (fun _ _ _ h => h) rfl rfl hS56 (fun W' hs' => aY Tryz.isAgg186 Tryz.sizeOf186 rfl hs'.2.2.2 rfl) ?_
         refine aD (i := 10) rfl kR kR kR kR kR (fun _ _ _ h => h) rfl rfl hS56 (fun W' hs' => cZ (b := !(dV (x.aW[i1]) (y.aW[i1]))) (by rw [(eq_false_of_ne_true hg52)]) (fJ Tryz.eqGuardType186 rfl rfl (eqr_Export (x.aW[i1]) (y.aW[i1]) _ 9998))) ?_
         refine bU kR ?_ _
         refine aG ?_
         refine bX rfl ?_
         refine wp_seq ?_
         refine aM [0] rfl ?_
         refine aA ?_
         refine aB rfl (aJ rfl) rfl rfl ?_
         refine aH ?_
         refine aG ?_
         refine wp_ret ?_
         refine dS ?_
         refine aU ?_
         refine aU ?_
         refine dS ?_
         refine aU ?_
         have hz57 : aV dV x.aW y.aW = false := hf1.trans (eG dV x.aW y.aW i1 hlt1 hlu1 (eq_false_of_ne_true hg52))
         have hr58 : cK x y = false := by simp [cK, (Decidable.of_not_not hg10), hg16, (Decidable.of_not_not hg22), (Decidable.of_not_not hg30), hg52, hz57]
         refine aQ (.inl rfl) Tryz.results71 rfl ?_
         rw [hr58]
         exact ⟨rfl, H55.1⟩
       ·have hd1 : aV dV x.aW y.aW = true := hf1.trans (fD dV x.aW y.aW i1 kO kO)
        refine wp_exit ?_
        refine dP ?_
        refine dP ?_
        refine iZ ?_
        refine aG ?_
        refine wp_seq ?_
        refine aM [0, 1, 2, 3, 4, 5, 6, 7, 8, 9, 10, 11, 12] rfl ?_
        refine aA ?_
        refine aB rfl (aL fa_137_4 rfl) rfl rfl ?_
        refine aA ?_
        refine aB rfl (aN (k := 4) (v := .slice Ax4 x.bF.length cx4) Tryz.isAgg135 rfl (H48.blk 1 rfl) rfl) rfl rfl ?_
        refine aA ?_
        refine aB rfl (aL fa_137_4 rfl) rfl rfl ?_
        refine aA ?_
        refine aB rfl (aN (k := 4) (v := .slice Ay4 y.bF.length cy4) Tryz.isAgg135 rfl (H48.blk 0 rfl) rfl) rfl rfl ?_
        by_cases hg59 : (aV bY x.bF y.bF) = true
        ·refine aA ?_
         refine bP rfl Tryz.call114 (vs := #[.slice Ax4 x.bF.length cx4, .slice Ay4 y.bF.length cy4]) rfl rfl rfl (fK (l10Same_s x.bF y.bF _ _ _ _ _ (aS H48.1 hCx4) (aS H48.1 hCy4)) hg59) ?_
         rintro e62 W61 ⟨rfl, hu60⟩; refine ⟨_, rfl, ?_⟩
         have H63 := H48.no hu60; clear H48
         refine aA ?_
         refine aB rfl (aF rfl) rfl rfl ?_
         refine aA ?_
         refine aR rfl rfl rfl rfl (fun _ ho64 => ?_)
         refine aB ho64 (aL fa_137_6 rfl) rfl rfl ?_
         refine aA ?_
         refine aR rfl rfl rfl rfl (fun _ ho65 => ?_)
         refine aB ho65 (aN (k := 6) (v := .slice Ax6 x.cB.length cx6) Tryz.isAgg135 rfl (H63.blk 1 rfl) rfl) rfl rfl ?_
         refine aA ?_
         refine aR rfl rfl rfl rfl (fun _ ho66 => ?_)
         refine aB ho66 (aL fa_137_6 rfl) rfl rfl ?_
         refine aA ?_
         refine aR rfl rfl rfl rfl (fun _ ho67 => ?_)
         refine aB ho67 (aN (k := 6) (v := .slice Ay6 y.cB.length cy6) Tryz.isAgg135 rfl (H63.blk 0 rfl) rfl) rfl rfl ?_
         by_cases hg68 : (aV bY x.cB y.cB) = true
         ·refine aA ?_
          refine aR rfl rfl rfl rfl (fun _ ho69 => ?_)
          refine bP ho69 Tryz.call114 (vs := #[.slice Ax6 x.cB.length cx6, .slice Ay6 y.cB.length cy6]) rfl rfl rfl (fK (l10Same_s x.cB y.cB _ _ _ _ _ (aS H63.1 hCx6) (aS H63.1 hCy6)) hg68) ?_
          rintro e72 W71 ⟨rfl, hu70⟩; refine ⟨_, rfl, ?_⟩
          have H73 := H63.no hu70; clear H63
          refine aA ?_
          refine aB rfl (aI (v := .bool (true)) (b := true) rfl rfl rfl rfl) rfl rfl ?_
          refine aA ?_
          refine aB rfl (aJ rfl) rfl rfl ?_
          refine aH ?_
          refine aG ?_
          refine wp_ret ?_
          have hr74 : cK x y = true := by simp [cK, (Decidable.of_not_not hg10), hg16, (Decidable.of_not_not hg22), (Decidable.of_not_not hg30), hg59, hg68, hd1]
          refine aQ (.inl rfl) Tryz.results71 rfl ?_
          rw [hr74]
          exact ⟨rfl, H73.1⟩
         ·refine aA ?_
          refine aR rfl rfl rfl rfl (fun _ ho75 => ?_)
          refine bP ho75 Tryz.call114 (vs := #[.slice Ax6 x.cB.length cx6, .slice Ay6 y.cB.length cy6]) rfl rfl rfl (fK (l10Same_s x.cB y.cB _ _ _ _ _ (aS H63.1 hCx6) (aS H63.1 hCy6)) (eq_false_of_ne_true hg68)) ?_
          rintro e78 W77 ⟨rfl, hu76⟩; refine ⟨_, rfl, ?_⟩
          have H79 := H63.no hu76; clear H63
          refine aA ?_
          refine aB rfl (aI (v := .bool (false)) (b := true) rfl rfl rfl rfl) rfl rfl ?_
          refine aA ?_
          refine aB rfl (aJ rfl) rfl rfl ?_
          refine aH ?_
          refine aG ?_
          refine wp_ret ?_
          have hr80 : cK x y = false := by simp [cK, (Decidable.of_not_not hg10), hg16, (Decidable.of_not_not hg22), (Decidable.of_not_not hg30), hg59, hg68, hd1]
          refine aQ (.inl rfl) Tryz.results71 rfl ?_
          rw [hr80]
          exact ⟨rfl, H79.1⟩
        ·refine aA ?_
         refine bP rfl Tryz.call114 (vs := #[.slice Ax4 x.bF.length cx4, .slice Ay4 y.bF.length cy4]) rfl rfl rfl (fK (l10Same_s x.bF y.bF _ _ _ _ _ (aS H48.1 hCx4) (aS H48.1 hCy4)) (eq_false_of_ne_true hg59)) ?_
         rintro e83 W82 ⟨rfl, hu81⟩; refine ⟨_, rfl, ?_⟩
         have H84 := H48.no hu81; clear H48
         refine aA ?_
         refine aB rfl (aF rfl) rfl rfl ?_
         refine aA ?_
         refine aC rfl rfl rfl rfl rfl rfl rfl ?_
         refine aA ?_
         refine aC rfl rfl rfl rfl rfl rfl rfl ?_
         refine aA ?_
         refine aC rfl rfl rfl rfl rfl rfl rfl ?_
         refine aA ?_
         refine aC rfl rfl rfl rfl rfl rfl rfl ?_
         refine aA ?_
         refine aC rfl rfl rfl rfl rfl rfl rfl ?_
         refine aA ?_
         refine aB rfl (aI (v := .bool (false)) (b := false) rfl rfl rfl rfl) rfl rfl ?_
         refine aA ?_
         refine aB rfl (aJ rfl) rfl rfl ?_
         refine aH ?_
         refine aG ?_
         refine wp_ret ?_
         have hr85 : cK x y = false := by simp [cK, (Decidable.of_not_not hg10), hg16, (Decidable.of_not_not hg22), (Decidable.of_not_not hg30), hg59, hd1]
         refine aQ (.inl rfl) Tryz.results71 rfl ?_
         rw [hr85]
         exact ⟨rfl, H84.1⟩
  ·refine aA ?_
   refine aR rfl rfl rfl rfl (fun _ ho86 => ?_)
   refine aB ho86 (cZ (b := !(x.Up == y.Up)) (by rw [(eq_false_of_ne_true hg16)]) (rn_neqBB Tryz.underlying4 rfl rfl)) rfl rfl ?_
   refine aA ?_
   refine aB rfl (aI (v := .bool (true)) (b := false) rfl rfl rfl rfl) rfl rfl ?_
   refine aA ?_
   refine aB rfl (aF rfl) rfl rfl ?_
   refine aA ?_
   refine aC rfl rfl rfl rfl rfl rfl rfl ?_
   refine aA ?_
   refine aC rfl rfl rfl rfl rfl rfl rfl ?_
   refine aA ?_
   refine aC rfl rfl rfl rfl rfl rfl rfl ?_
   refine aA ?_
   refine aC rfl rfl rfl rfl rfl rfl rfl ?_
   refine aA ?_
   refine aC rfl rfl rfl rfl rfl rfl rfl ?_
   refine aA ?_
   refine aB rfl (aI (v := .bool (true)) (b := true) rfl rfl rfl rfl) rfl rfl ?_
   refine aA ?_
   refine aB rfl (aF rfl) rfl rfl ?_
   refine aA ?_
   refine aC rfl rfl rfl rfl rfl rfl rfl ?_
   refine aA ?_
   refine aC rfl rfl rfl rfl rfl rfl rfl ?_
   refine aA ?_
   refine aC rfl rfl rfl rfl rfl rfl rfl ?_
   refine aA ?_
   refine aC rfl rfl rfl rfl rfl rfl rfl ?_
   refine aA ?_
   refine aC rfl rfl rfl rfl rfl rfl rfl ?_
   refine aA ?_
   refine aB rfl (aI (v := .bool (true)) (b := true) rfl rfl rfl rfl) rfl rfl ?_
   refine aA ?_
   refine aB rfl (aF rfl) rfl rfl ?_
   refine aA ?_
   refine aC rfl rfl rfl rfl rfl rfl rfl ?_
   refine aA ?_
   refine aC rfl rfl rfl rfl rfl rfl rfl ?_
   refine aA ?_
   refine aC rfl rfl rfl rfl rfl rfl rfl ?_
   refine aA ?_
   refine aC rfl rfl rfl rfl rfl rfl rfl ?_
   refine aA ?_
   refine aC rfl rfl rfl rfl rfl rfl rfl ?_
   refine aA ?_
   refine aC rfl rfl rfl rfl rfl rfl rfl ?_
   refine aA ?_
   refine aC rfl rfl rfl rfl rfl rfl rfl ?_
   refine aA ?_
   refine aB rfl (aI (v := .bool (true)) (b := true) rfl rfl rfl rfl) rfl rfl ?_
   refine aH ?_
   refine aG ?_
   refine bX rfl ?_
   refine wp_seq ?_
   refine aM [0] rfl ?_
   refine aA ?_
   refine aB rfl (aJ rfl) rfl rfl ?_
   refine aH ?_
   refine aG ?_
   refine wp_ret ?_
   refine aU ?_
   have hr87 : cK x y = false := by simp [cK, (Decidable.of_not_not hg10), hg16]
   refine aQ (.inl rfl) Tryz.results71 rfl ?_
   rw [hr87]
   exact ⟨rfl, Ha8.1⟩
theorem lU (x y : GMessage) (cx cy : List Value) (w : World) (h : dM.K w x cx) (h' : dM.K w y cy) : Calls Tryz.prog 72 #[.agg cx.toArray, .agg cy.toArray] w (bW (aX x y) w) := by
 obtain ⟨Ax5, cx5, rfl, hlx5, hCx5⟩ := jM h
 obtain ⟨Ay5, cy5, rfl, hly5, hCy5⟩ := jM h'
 have nx5 := hCx5.1
 refine enter 87 [(0, .agg #[.int .i64 (x.Kind), .int .i64 (x.Pos), .int .i64 (x.dH), .int .i64 (x.Question), .string (x.Name), .slice Ax5 x.bD.length cx5, .int .i64 (x.Value.Kind), .int .i64 (x.Value.N), .int .i64 (x.Count), .int .i64 (x.Tag.Vat), .int .i64 (x.Tag.Entity), .int .i64 (x.Tag.Seq)]), (1, .agg #[.int .i64 (y.Kind), .int .i64 (y.Pos), .int .i64 (y.dH), .int .i64 (y.Question), .string (y.Name), .slice Ay5 y.bD.length cy5, .int .i64 (y.Value.Kind), .int .i64 (y.Value.N), .int .i64 (y.Count), .int .i64 (y.Tag.Vat), .int .i64 (y.Tag.Entity), .int .i64 (y.Tag.Seq)])] Tryz.func72 rfl kR ?_
 intro xj
 have H1 : St w No [] w := St.enter
 refine wp_seq ?_
 refine aM [0, 1, 2] rfl ?_
 refine aA ?_
 refine gX rfl rfl rfl rfl H1 ?_
 intro g_0_0 W2 hu3 Ha4; clear H1; clear hu3
 refine aA ?_
 refine gX rfl rfl rfl rfl Ha4 ?_
 intro g_0_1 W6 hu7 Ha8; clear Ha4; clear hu7
 refine aA ?_
 refine aB rfl (aJ rfl) rfl rfl ?_
 refine aH ?_
 refine aG ?_
 refine wp_seq ?_
 refine wp_seq ?_
 refine aM [0, 1, 2, 3, 4, 5, 6, 7, 8, 9, 10, 11, 12, 13, 14, 15, 16, 17, 18, 19, 20, 21, 22, 23, 24, 25, 26, 27, 28, 29, 30, 31, 32, 33, 34, 35, 36, 37, 38, 39, 40, 41, 42, 43, 44, 45, 46, 47, 48, 49, 50, 51, 52, 53, 54, 55, 56, 57, 58, 59, 60, 61, 62] rfl ?_
 refine aA ?_
 refine aB rfl (aL fa_141_0 rfl) rfl rfl ?_
 refine aA ?_
 refine aB rfl (aN (k := 0) (v := .int .i64 (x.Kind)) Tryz.isAgg3 rfl (Ha8.blk 1 rfl) rfl) rfl rfl ?_
 refine aA ?_
 refine aB rfl (aL fa_141_0 rfl) rfl rfl ?_
 refine aA ?_
 refine aB rfl (aN (k := 0) (v := .int .i64 (y.Kind)) Tryz.isAgg3 rfl (Ha8.blk 0 rfl) rfl) rfl rfl ?_
 by_cases hg10 : ¬ (x.Kind : Int) = y.Kind
 ·refine aA ?_
  refine aB rfl (bV hg10 (bN rfl rfl)) rfl rfl ?_
  refine aA ?_
  refine aB rfl (aF rfl) rfl rfl ?_
  refine aA ?_
  refine aC rfl rfl rfl rfl rfl rfl rfl ?_
  refine aA ?_
  refine aC rfl rfl rfl rfl rfl rfl rfl ?_
  refine aA ?_
  refine aC rfl rfl rfl rfl rfl rfl rfl ?_
  refine aA ?_
  refine aC rfl rfl rfl rfl rfl rfl rfl ?_
  refine aA ?_
  refine aC rfl rfl rfl rfl rfl rfl rfl ?_
  refine aA ?_
  refine aB rfl (aI (v := .bool (true)) (b := true) rfl rfl rfl rfl) rfl rfl ?_
  refine aA ?_
  refine aB rfl (aF rfl) rfl rfl ?_
  refine aA ?_
  refine aC rfl rfl rfl rfl rfl rfl rfl ?_
  refine aA ?_
  refine aC rfl rfl rfl rfl rfl rfl rfl ?_
  refine aA ?_
  refine aC rfl rfl rfl rfl rfl rfl rfl ?_
  refine aA ?_
  refine aC rfl rfl rfl rfl rfl rfl rfl ?_
  refine aA ?_
  refine aC rfl rfl rfl rfl rfl rfl rfl ?_
  refine aA ?_
  refine aB rfl (aI (v := .bool (true)) (b := true) rfl rfl rfl rfl) rfl rfl ?_
  refine aA ?_
  refine aB rfl (aF rfl) rfl rfl ?_
  refine aA ?_
  refine aC rfl rfl rfl rfl rfl rfl rfl ?_
  refine aA ?_
  refine aC rfl rfl rfl rfl rfl rfl rfl ?_
  refine aA ?_
  refine aC rfl rfl rfl rfl rfl rfl rfl ?_
  refine aA ?_
  refine aC rfl rfl rfl rfl rfl rfl rfl ?_
  refine aA ?_
  refine aC rfl rfl rfl rfl rfl rfl rfl ?_
  refine aA ?_
  refine aB rfl (aI (v := .bool (true)) (b := true) rfl rfl rfl rfl) rfl rfl ?_
  refine aA ?_
  refine aB rfl (aF rfl) rfl rfl ?_
  refine aA ?_
  refine aC rfl rfl rfl rfl rfl rfl rfl ?_
  refine aA ?_
  refine aC rfl rfl rfl rfl rfl rfl rfl ?_
  refine aA ?_
  refine aC rfl rfl rfl rfl rfl rfl rfl ?_
  refine aA ?_
  refine aC rfl rfl rfl rfl rfl rfl rfl ?_
  refine aA ?_
  refine aC rfl rfl rfl rfl rfl rfl rfl ?_
  refine aA ?_
  refine aB rfl (aI (v := .bool (true)) (b := true) rfl rfl rfl rfl) rfl rfl ?_
  refine aA ?_
  refine aB rfl (aF rfl) rfl rfl ?_
  refine aA ?_
  refine aC rfl rfl rfl rfl rfl rfl rfl ?_
  refine aA ?_
  refine aC rfl rfl rfl rfl rfl rfl rfl ?_
  refine aA ?_
  refine aC rfl rfl rfl rfl rfl rfl rfl ?_
  refine aA ?_
  refine aC rfl rfl rfl rfl rfl rfl rfl ?_
  refine aA ?_
  refine aC rfl rfl rfl rfl rfl rfl rfl ?_
  refine aA ?_
  refine aB rfl (aI (v := .bool (true)) (b := true) rfl rfl rfl rfl) rfl rfl ?_
  refine aA ?_
  refine aB rfl (aF rfl) rfl rfl ?_
  refine aA ?_
  refine aC rfl rfl rfl rfl rfl rfl rfl ?_
  refine aA ?_
  refine aC rfl rfl rfl rfl rfl rfl rfl ?_
  refine aA ?_
  refine aC rfl rfl rfl rfl rfl rfl rfl ?_
  refine aA ?_
  refine aC rfl rfl rfl rfl rfl rfl rfl ?_
  refine aA ?_
  refine aC rfl rfl rfl rfl rfl rfl rfl ?_
  refine aA ?_
  refine aB rfl (aI (v := .bool (true)) (b := true) rfl rfl rfl rfl) rfl rfl ?_
  refine aA ?_
  refine aB rfl (aF rfl) rfl rfl ?_
  refine aA ?_
  refine aC rfl rfl rfl rfl rfl rfl rfl ?_
  refine aA ?_
  refine aC rfl rfl rfl rfl rfl rfl rfl ?_
  refine aA ?_
  refine aC rfl rfl rfl rfl rfl rfl rfl ?_
  refine aA ?_
  refine aC rfl rfl rfl rfl rfl rfl rfl ?_
  refine aA ?_
  refine aC rfl rfl rfl rfl rfl rfl rfl ?_
  refine aA ?_
  refine aB rfl (aI (v := .bool (true)) (b := true) rfl rfl rfl rfl) rfl rfl ?_
  refine aA ?_
  refine aB rfl (aF rfl) rfl rfl ?_
  refine aA ?_
  refine aC rfl rfl rfl rfl rfl rfl rfl ?_
  refine aA ?_
  refine aC rfl rfl rfl rfl rfl rfl rfl ?_
  refine aA ?_
  refine aC rfl rfl rfl rfl rfl rfl rfl ?_
  refine aA ?_
  refine aC rfl rfl rfl rfl rfl rfl rfl ?_
  refine aA ?_
  refine aC rfl rfl rfl rfl rfl rfl rfl ?_
  refine aA ?_
  refine aC rfl rfl rfl rfl rfl rfl rfl ?_
  refine aA ?_
  refine aC rfl rfl rfl rfl rfl rfl rfl ?_
  refine aA ?_
  refine aB rfl (aI (v := .bool (true)) (b := true) rfl rfl rfl rfl) rfl rfl ?_
  refine aH ?_
  refine aG ?_
  refine bX rfl ?_
  refine wp_seq ?_
  refine aM [0] rfl ?_
  refine aA ?_
  refine aB rfl (aJ rfl) rfl rfl ?_
  refine aH ?_
  refine aG ?_
  refine wp_ret ?_
  refine aU ?_
  have hr11 : aX x y = false := by simp [aX, hg10]
  refine aQ (.inl rfl) Tryz.results72 rfl ?_
  rw [hr11]
  exact ⟨rfl, Ha8.1⟩
 ·refine aA ?_
  refine aB rfl (bO hg10 (bN rfl rfl)) rfl rfl ?_
  refine aA ?_
  refine aB rfl (aF rfl) rfl rfl ?_
  refine aA ?_
  refine aR rfl rfl rfl rfl (fun _ ho12 => ?_)
  refine aB ho12 (aL fa_141_1 rfl) rfl rfl ?_
  refine aA ?_
  refine aR rfl rfl rfl rfl (fun _ ho13 => ?_)
  refine aB ho13 (aN (k := 1) (v := .int .i64 (x.Pos)) Tryz.isAgg3 rfl (Ha8.blk 1 rfl) rfl) rfl rfl ?_
  refine aA ?_
  refine aR rfl rfl rfl rfl (fun _ ho14 => ?_)
  refine aB ho14 (aL fa_141_1 rfl) rfl rfl ?_
  refine aA ?_
  refine aR rfl rfl rfl rfl (fun _ ho15 => ?_)
  refine aB ho15 (aN (k := 1) (v := .int .i64 (y.Pos)) Tryz.isAgg3 rfl (Ha8.blk 0 rfl) rfl) rfl rfl ?_
  by_cases hg16 : ¬ (x.Pos : Int) = y.Pos
  ·refine aA ?_
   refine aR rfl rfl rfl rfl (fun _ ho17 => ?_)
   refine aB ho17 (bV hg16 (bN rfl rfl)) rfl rfl ?_
   refine aA ?_
   refine aB rfl (aI (v := .bool (true)) (b := false) rfl rfl rfl rfl) rfl rfl ?_
   refine aA ?_
   refine aB rfl (aF rfl) rfl rfl ?_
   refine aA ?_
   refine aC rfl rfl rfl rfl rfl rfl rfl ?_
   refine aA ?_
   refine aC rfl rfl rfl rfl rfl rfl rfl ?_
   refine aA ?_
   refine aC rfl rfl rfl rfl rfl rfl rfl ?_
   refine aA ?_
   refine aC rfl rfl rfl rfl rfl rfl rfl ?_
   refine aA ?_
   refine aC rfl rfl rfl rfl rfl rfl rfl ?_
   refine aA ?_
   refine aB rfl (aI (v := .bool (true)) (b := true) rfl rfl rfl rfl) rfl rfl ?_
   refine aA ?_
   refine aB rfl (aF rfl) rfl rfl ?_
   refine aA ?_
   refine aC rfl rfl rfl rfl rfl rfl rfl ?_
   refine aA ?_
   refine aC rfl rfl rfl rfl rfl rfl rfl ?_
   refine aA ?_
   refine aC rfl rfl rfl rfl rfl rfl rfl ?_
   refine aA ?_
   refine aC rfl rfl rfl rfl rfl rfl rfl ?_
   refine aA ?_
   refine aC rfl rfl rfl rfl rfl rfl rfl ?_
   refine aA ?_
   refine aB rfl (aI (v := .bool (true)) (b := true) rfl rfl rfl rfl) rfl rfl ?_
   refine aA ?_
   refine aB rfl (aF rfl) rfl rfl ?_
   refine aA ?_
   refine aC rfl rfl rfl rfl rfl rfl rfl ?_
   refine aA ?_
   refine aC rfl rfl rfl rfl rfl rfl rfl ?_
   refine aA ?_
   refine aC rfl rfl rfl rfl rfl rfl rfl ?_
   refine aA ?_
   refine aC rfl rfl rfl rfl rfl rfl rfl ?_
   refine aA ?_
   refine aC rfl rfl rfl rfl rfl rfl rfl ?_
   refine aA ?_
   refine aB rfl (aI (v := .bool (true)) (b := true) rfl rfl rfl rfl) rfl rfl ?_
   refine aA ?_
   refine aB rfl (aF rfl) rfl rfl ?_
   refine aA ?_
   refine aC rfl rfl rfl rfl rfl rfl rfl ?_
   refine aA ?_
   refine aC rfl rfl rfl rfl rfl rfl rfl ?_
   refine aA ?_
   refine aC rfl rfl rfl rfl rfl rfl rfl ?_
   refine aA ?_
   refine aC rfl rfl rfl rfl rfl rfl rfl ?_
   refine aA ?_
   refine aC rfl rfl rfl rfl rfl rfl rfl ?_
   refine aA ?_
   refine aB rfl (aI (v := .bool (true)) (b := true) rfl rfl rfl rfl) rfl rfl ?_
   refine aA ?_
   refine aB rfl (aF rfl) rfl rfl ?_
   refine aA ?_
   refine aC rfl rfl rfl rfl rfl rfl rfl ?_
   refine aA ?_
   refine aC rfl rfl rfl rfl rfl rfl rfl ?_
   refine aA ?_
   refine aC rfl rfl rfl rfl rfl rfl rfl ?_
   refine aA ?_
   refine aC rfl rfl rfl rfl rfl rfl rfl ?_
   refine aA ?_
   refine aC rfl rfl rfl rfl rfl rfl rfl ?_
   refine aA ?_
   refine aB rfl (aI (v := .bool (true)) (b := true) rfl rfl rfl rfl) rfl rfl ?_
   refine aA ?_
   refine aB rfl (aF rfl) rfl rfl ?_
   refine aA ?_
   refine aC rfl rfl rfl rfl rfl rfl rfl ?_
   refine aA ?_
   refine aC rfl rfl rfl rfl rfl rfl rfl ?_
   refine aA ?_
   refine aC rfl rfl rfl rfl rfl rfl rfl ?_
   refine aA ?_
   refine aC rfl rfl rfl rfl rfl rfl rfl ?_
   refine aA ?_
   refine aC rfl rfl rfl rfl rfl rfl rfl ?_
   refine aA ?_
   refine aB rfl (aI (v := .bool (true)) (b := true) rfl rfl rfl rfl) rfl rfl ?_
   refine aA ?_
   refine aB rfl (aF rfl) rfl rfl ?_
   refine aA ?_
   refine aC rfl rfl rfl rfl rfl rfl rfl ?_
   refine aA ?_
   refine aC rfl rfl rfl rfl rfl rfl rfl ?_
   refine aA ?_
   refine aC rfl rfl rfl rfl rfl rfl rfl ?_
   refine aA ?_
   refine aC rfl rfl rfl rfl rfl rfl rfl ?_
   refine aA ?_
   refine aC rfl rfl rfl rfl rfl rfl rfl ?_
   refine aA ?_
   refine aC rfl rfl rfl rfl rfl rfl rfl ?_
   refine aA ?_
   refine aC rfl rfl rfl rfl rfl rfl rfl ?_
   refine aA ?_
   refine aB rfl (aI (v := .bool (true)) (b := true) rfl rfl rfl rfl) rfl rfl ?_
   refine aH ?_
   refine aG ?_
   refine bX rfl ?_
   refine wp_seq ?_
   refine aM [0] rfl ?_
   refine aA ?_
   refine aB rfl (aJ rfl) rfl rfl ?_
   refine aH ?_
   refine aG ?_
   refine wp_ret ?_
   refine aU ?_
   have hr18 : aX x y = false := by simp [aX, (Decidable.of_not_not hg10), hg16]
   refine aQ (.inl rfl) Tryz.results72 rfl ?_
   rw [hr18]
   exact ⟨rfl, Ha8.1⟩
  ·refine aA ?_
   refine aR rfl rfl rfl rfl (fun _ ho19 => ?_)
   refine aB ho19 (bO hg16 (bN rfl rfl)) rfl rfl ?_
   refine aA ?_
   refine aB rfl (aI (v := .bool (false)) (b := false) rfl rfl rfl rfl) rfl rfl ?_
   refine aA ?_
   refine aB rfl (aF rfl) rfl rfl ?_
   refine aA ?_
   refine aR rfl rfl rfl rfl (fun _ ho20 => ?_)
   refine aB ho20 (aL fa_141_2 rfl) rfl rfl ?_
   refine aA ?_
   refine aR rfl rfl rfl rfl (fun _ ho21 => ?_)
   refine aB ho21 (aN (k := 2) (v := .int .i64 (x.dH)) Tryz.isAgg3 rfl (Ha8.blk 1 rfl) rfl) rfl rfl ?_
   refine aA ?_
   refine aR rfl rfl rfl rfl (fun _ ho22 => ?_)
   refine aB ho22 (aL fa_141_2 rfl) rfl rfl ?_
   refine aA ?_
   refine aR rfl rfl rfl rfl (fun _ ho23 => ?_)
   refine aB ho23 (aN (k := 2) (v := .int .i64 (y.dH)) Tryz.isAgg3 rfl (Ha8.blk 0 rfl) rfl) rfl rfl ?_
   by_cases hg24 : ¬ (x.dH : Int) = y.dH
   ·refine aA ?_
    refine aR rfl rfl rfl rfl (fun _ ho25 => ?_)
    refine aB ho25 (bV hg24 (bN rfl rfl)) rfl rfl ?_
    refine aA ?_
    refine aB rfl (aI (v := .bool (true)) (b := false) rfl rfl rfl rfl) rfl rfl ?_
    refine aA ?_
    refine aB rfl (aF rfl) rfl rfl ?_
    refine aA ?_
    refine aC rfl rfl rfl rfl rfl rfl rfl ?_
    refine aA ?_
    refine aC rfl rfl rfl rfl rfl rfl rfl ?_
    refine aA ?_
    refine aC rfl rfl rfl rfl rfl rfl rfl ?_
    refine aA ?_
    refine aC rfl rfl rfl rfl rfl rfl rfl ?_
    refine aA ?_
    refine aC rfl rfl rfl rfl rfl rfl rfl ?_
    refine aA ?_
    refine aB rfl (aI (v := .bool (true)) (b := true) rfl rfl rfl rfl) rfl rfl ?_
    refine aA ?_
    refine aB rfl (aF rfl) rfl rfl ?_
    refine aA ?_
    refine aC rfl rfl rfl rfl rfl rfl rfl ?_
    refine aA ?_
    refine aC rfl rfl rfl rfl rfl rfl rfl ?_
    refine aA ?_
    refine aC rfl rfl rfl rfl rfl rfl rfl ?_
    refine aA ?_
    refine aC rfl rfl rfl rfl rfl rfl rfl ?_
    refine aA ?_
    refine aC rfl rfl rfl rfl rfl rfl rfl ?_
    refine aA ?_
    refine aB rfl (aI (v := .bool (true)) (b := true) rfl rfl rfl rfl) rfl rfl ?_
    refine aA ?_
    refine aB rfl (aF rfl) rfl rfl ?_
    refine aA ?_
    refine aC rfl rfl rfl rfl rfl rfl rfl ?_
    refine aA ?_
    refine aC rfl rfl rfl rfl rfl rfl rfl ?_
    refine aA ?_
    refine aC rfl rfl rfl rfl rfl rfl rfl ?_
    refine aA ?_
    refine aC rfl rfl rfl rfl rfl rfl rfl ?_
    refine aA ?_
    refine aC rfl rfl rfl rfl rfl rfl rfl ?_
    refine aA ?_
    refine aB rfl (aI (v := .bool (true)) (b := true) rfl rfl rfl rfl) rfl rfl ?_
    refine aA ?_
    refine aB rfl (aF rfl) rfl rfl ?_
    refine aA ?_
    refine aC rfl rfl rfl rfl rfl rfl rfl ?_
    refine aA ?_
    refine aC rfl rfl rfl rfl rfl rfl rfl ?_
    refine aA ?_
    refine aC rfl rfl rfl rfl rfl rfl rfl ?_
    refine aA ?_
    refine aC rfl rfl rfl rfl rfl rfl rfl ?_
    refine aA ?_
    refine aC rfl rfl rfl rfl rfl rfl rfl ?_
    refine aA ?_
    refine aB rfl (aI (v := .bool (true)) (b := true) rfl rfl rfl rfl) rfl rfl ?_
    refine aA ?_
    refine aB rfl (aF rfl) rfl rfl ?_
    refine aA ?_
    refine aC rfl rfl rfl rfl rfl rfl rfl ?_
    refine aA ?_
    refine aC rfl rfl rfl rfl rfl rfl rfl ?_
    refine aA ?_
    refine aC rfl rfl rfl rfl rfl rfl rfl ?_
    refine aA ?_
    refine aC rfl rfl rfl rfl rfl rfl rfl ?_
    refine aA ?_
    refine aC rfl rfl rfl rfl rfl rfl rfl ?_
    refine aA ?_
    refine aB rfl (aI (v := .bool (true)) (b := true) rfl rfl rfl rfl) rfl rfl ?_
    refine aA ?_
    refine aB rfl (aF rfl) rfl rfl ?_
    refine aA ?_
    refine aC rfl rfl rfl rfl rfl rfl rfl ?_
    refine aA ?_
    refine aC rfl rfl rfl rfl rfl rfl rfl ?_
    refine aA ?_
    refine aC rfl rfl rfl rfl rfl rfl rfl ?_
    refine aA ?_
    refine aC rfl rfl rfl rfl rfl rfl rfl ?_
    refine aA ?_
    refine aC rfl rfl rfl rfl rfl rfl rfl ?_
    refine aA ?_
    refine aC rfl rfl rfl rfl rfl rfl rfl ?_
    refine aA ?_
    refine aC rfl rfl rfl rfl rfl rfl rfl ?_
    refine aA ?_
    refine aB rfl (aI (v := .bool (true)) (b := true) rfl rfl rfl rfl) rfl rfl ?_
    refine aH ?_
    refine aG ?_
    refine bX rfl ?_
    refine wp_seq ?_
    refine aM [0] rfl ?_
    refine aA ?_
    refine aB rfl (aJ rfl) rfl rfl ?_
    refine aH ?_
    refine aG ?_
    refine wp_ret ?_
    refine aU ?_
    have hr26 : aX x y = false := by simp [aX, (Decidable.of_not_not hg10), (Decidable.of_not_not hg16), hg24]
    refine aQ (.inl rfl) Tryz.results72 rfl ?_
    rw [hr26]
    exact ⟨rfl, Ha8.1⟩
   ·refine aA ?_
    refine aR rfl rfl rfl rfl (fun _ ho27 => ?_)
    refine aB ho27 (bO hg24 (bN rfl rfl)) rfl rfl ?_
    refine aA ?_
    refine aB rfl (aI (v := .bool (false)) (b := false) rfl rfl rfl rfl) rfl rfl ?_
    refine aA ?_
    refine aB rfl (aF rfl) rfl rfl ?_
    refine aA ?_
    refine aR rfl rfl rfl rfl (fun _ ho28 => ?_)
    refine aB ho28 (aL fa_141_3 rfl) rfl rfl ?_
    refine aA ?_
    refine aR rfl rfl rfl rfl (fun _ ho29 => ?_)
    refine aB ho29 (aN (k := 3) (v := .int .i64 (x.Question)) Tryz.isAgg3 rfl (Ha8.blk 1 rfl) rfl) rfl rfl ?_
    refine aA ?_
    refine aR rfl rfl rfl rfl (fun _ ho30 => ?_)
    refine aB ho30 (aL fa_141_3 rfl) rfl rfl ?_
    refine aA ?_
    refine aR rfl rfl rfl rfl (fun _ ho31 => ?_)
    refine aB ho31 (aN (k := 3) (v := .int .i64 (y.Question)) Tryz.isAgg3 rfl (Ha8.blk 0 rfl) rfl) rfl rfl ?_
    by_cases hg32 : ¬ (x.Question : Int) = y.Question
    ·refine aA ?_
     refine aR rfl rfl rfl rfl (fun _ ho33 => ?_)
     refine aB ho33 (bV hg32 (bN rfl rfl)) rfl rfl ?_
     refine aA ?_
     refine aB rfl (aI (v := .bool (true)) (b := false) rfl rfl rfl rfl) rfl rfl ?_
     refine aA ?_
     refine aB rfl (aF rfl) rfl rfl ?_
     refine aA ?_
     refine aC rfl rfl rfl rfl rfl rfl rfl ?_
     refine aA ?_
     refine aC rfl rfl rfl rfl rfl rfl rfl ?_
     refine aA ?_
     refine aC rfl rfl rfl rfl rfl rfl rfl ?_
     refine aA ?_
     refine aC rfl rfl rfl rfl rfl rfl rfl ?_
     refine aA ?_
     refine aC rfl rfl rfl rfl rfl rfl rfl ?_
     refine aA ?_
     refine aB rfl (aI (v := .bool (true)) (b := true) rfl rfl rfl rfl) rfl rfl ?_
     refine aA ?_
     refine aB rfl (aF rfl) rfl rfl ?_
     refine aA ?_
     refine aC rfl rfl rfl rfl rfl rfl rfl ?_
     refine aA ?_
     refine aC rfl rfl rfl rfl rfl rfl rfl ?_
     refine aA ?_
     refine aC rfl rfl rfl rfl rfl rfl rfl ?_
     refine aA ?_
     refine aC rfl rfl rfl rfl rfl rfl rfl ?_
     refine aA ?_
     refine aC rfl rfl rfl rfl rfl rfl rfl ?_
     refine aA ?_
     refine aB rfl (aI (v := .bool (true)) (b := true) rfl rfl rfl rfl) rfl rfl ?_
     refine aA ?_
     refine aB rfl (aF rfl) rfl rfl ?_
     refine aA ?_
     refine aC rfl rfl rfl rfl rfl rfl rfl ?_
     refine aA ?_
     refine aC rfl rfl rfl rfl rfl rfl rfl ?_
     refine aA ?_
     refine aC rfl rfl rfl rfl rfl rfl rfl ?_
     refine aA ?_
     refine aC rfl rfl rfl rfl rfl rfl rfl ?_
     refine aA ?_
     refine aC rfl rfl rfl rfl rfl rfl rfl ?_
     refine aA ?_
     refine aB rfl (aI (v := .bool (true)) (b := true) rfl rfl rfl rfl) rfl rfl ?_
     refine aA ?_
     refine aB rfl (aF rfl) rfl rfl ?_
     refine aA ?_
     refine aC rfl rfl rfl rfl rfl rfl rfl ?_
     refine aA ?_
     refine aC rfl rfl rfl rfl rfl rfl rfl ?_
     refine aA ?_
     refine aC rfl rfl rfl rfl rfl rfl rfl ?_
     refine aA ?_
     refine aC rfl rfl rfl rfl rfl rfl rfl ?_
     refine aA ?_
     refine aC rfl rfl rfl rfl rfl rfl rfl ?_
     refine aA ?_
     refine aB rfl (aI (v := .bool (true)) (b := true) rfl rfl rfl rfl) rfl rfl ?_
     refine aA ?_
     refine aB rfl (aF rfl) rfl rfl ?_
     refine aA ?_
     refine aC rfl rfl rfl rfl rfl rfl rfl ?_
     refine aA ?_
     refine aC rfl rfl rfl rfl rfl rfl rfl ?_
     refine aA ?_
     refine aC rfl rfl rfl rfl rfl rfl rfl ?_
     refine aA ?_
     refine aC rfl rfl rfl rfl rfl rfl rfl ?_
     refine aA ?_
     refine aC rfl rfl rfl rfl rfl rfl rfl ?_
     refine aA ?_
     refine aC rfl rfl rfl rfl rfl rfl rfl ?_
     refine aA ?_
     refine aC rfl rfl rfl rfl rfl rfl rfl ?_
     refine aA ?_
     refine aB rfl (aI (v := .bool (true)) (b := true) rfl rfl rfl rfl) rfl rfl ?_
     refine aH ?_
     refine aG ?_
     refine bX rfl ?_
     refine wp_seq ?_
     refine aM [0] rfl ?_
     refine aA ?_
     refine aB rfl (aJ rfl) rfl rfl ?_
     refine aH ?_
     refine aG ?_
     refine wp_ret ?_
     refine aU ?_
     have hr34 : aX x y = false := by simp [aX, (Decidable.of_not_not hg10), (Decidable.of_not_not hg16), (Decidable.of_not_not hg24), hg32]
     refine aQ (.inl rfl) Tryz.results72 rfl ?_
     rw [hr34]
     exact ⟨rfl, Ha8.1⟩
    ·refine aA ?_
     refine aR rfl rfl rfl rfl (fun _ ho35 => ?_)
     refine aB ho35 (bO hg32 (bN rfl rfl)) rfl rfl ?_
     refine aA ?_
     refine aB rfl (aI (v := .bool (false)) (b := false) rfl rfl rfl rfl) rfl rfl ?_
     refine aA ?_
     refine aB rfl (aF rfl) rfl rfl ?_
     refine aA ?_
     refine aR rfl rfl rfl rfl (fun _ ho36 => ?_)
     refine aB ho36 (aL fa_141_4 rfl) rfl rfl ?_
     refine aA ?_
     refine aR rfl rfl rfl rfl (fun _ ho37 => ?_)
     refine aB ho37 (aN (k := 4) (v := .string (x.Name)) Tryz.isAgg9 rfl (Ha8.blk 1 rfl) rfl) rfl rfl ?_
     refine aA ?_
     refine aR rfl rfl rfl rfl (fun _ ho38 => ?_)
     refine aB ho38 (aL fa_141_4 rfl) rfl rfl ?_
     refine aA ?_
     refine aR rfl rfl rfl rfl (fun _ ho39 => ?_)
     refine aB ho39 (aN (k := 4) (v := .string (y.Name)) Tryz.isAgg9 rfl (Ha8.blk 0 rfl) rfl) rfl rfl ?_
     by_cases hg40 : (x.Name.toList == y.Name.toList) = true
     ·refine aA ?_
      refine aR rfl rfl rfl rfl (fun _ ho41 => ?_)
      refine aB ho41 (cZ (b := !(x.Name.toList == y.Name.toList)) (by rw [hg40]) (jV rfl rfl)) rfl rfl ?_
      refine aA ?_
      refine aB rfl (aI (v := .bool (false)) (b := false) rfl rfl rfl rfl) rfl rfl ?_
      refine aA ?_
      refine aB rfl (aF rfl) rfl rfl ?_
      refine aA ?_
      refine aR rfl rfl rfl rfl (fun _ ho42 => ?_)
      refine aB ho42 (aL fa_141_6 rfl) rfl rfl ?_
      refine aA ?_
      refine aR rfl rfl rfl rfl (fun _ ho43 => ?_)
      refine aB ho43 (iX (sub := #[.int .i64 (x.Value.Kind), .int .i64 (x.Value.N)]) Tryz.isAgg139 Tryz.sizeOf139 rfl (Ha8.blk 1 rfl) rfl rfl) rfl rfl ?_
      refine aA ?_
      refine aR rfl rfl rfl rfl (fun _ ho44 => ?_)
      refine aB ho44 (aL fa_141_6 rfl) rfl rfl ?_
      refine aA ?_
      refine aR rfl rfl rfl rfl (fun _ ho45 => ?_)
      refine aB ho45 (iX (sub := #[.int .i64 (y.Value.Kind), .int .i64 (y.Value.N)]) Tryz.isAgg139 Tryz.sizeOf139 rfl (Ha8.blk 0 rfl) rfl rfl) rfl rfl ?_
      by_cases hg46 : (eF x.Value y.Value) = true
      ·refine aA ?_
       refine aR rfl rfl rfl rfl (fun _ ho47 => ?_)
       refine aB ho47 (cZ (b := !(eF x.Value y.Value)) (by rw [hg46]) (fJ Tryz.eqGuardType139 rfl rfl (nP x.Value y.Value _ 9998))) rfl rfl ?_
       refine aA ?_
       refine aB rfl (aI (v := .bool (false)) (b := false) rfl rfl rfl rfl) rfl rfl ?_
       refine aA ?_
       refine aB rfl (aF rfl) rfl rfl ?_
       refine aA ?_
       refine aR rfl rfl rfl rfl (fun _ ho48 => ?_)
       refine aB ho48 (aL fa_141_7 rfl) rfl rfl ?_
       refine aA ?_
       refine aR rfl rfl rfl rfl (fun _ ho49 => ?_)
       refine aB ho49 (aN (k := 8) (v := .int .i64 (x.Count)) Tryz.isAgg3 rfl (Ha8.blk 1 rfl) rfl) rfl rfl ?_
       refine aA ?_
       refine aR rfl rfl rfl rfl (fun _ ho50 => ?_)
       refine aB ho50 (aL fa_141_7 rfl) rfl rfl ?_
       refine aA ?_
       refine aR rfl rfl rfl rfl (fun _ ho51 => ?_)
       refine aB ho51 (aN (k := 8) (v := .int .i64 (y.Count)) Tryz.isAgg3 rfl (Ha8.blk 0 rfl) rfl) rfl rfl ?_
       by_cases hg52 : ¬ (x.Count : Int) = y.Count
       ·refine aA ?_
        refine aR rfl rfl rfl rfl (fun _ ho53 => ?_)
        refine aB ho53 (bV hg52 (bN rfl rfl)) rfl rfl ?_
        refine aA ?_
        refine aB rfl (aI (v := .bool (true)) (b := false) rfl rfl rfl rfl) rfl rfl ?_
        refine aA ?_
        refine aB rfl (aF rfl) rfl rfl ?_
        refine aA ?_
        refine aC rfl rfl rfl rfl rfl rfl rfl ?_
        refine aA ?_
        refine aC rfl rfl rfl rfl rfl rfl rfl ?_
        refine aA ?_
        refine aC rfl rfl rfl rfl rfl rfl rfl ?_
        refine aA ?_
        refine aC rfl rfl rfl rfl rfl rfl rfl ?_
        refine aA ?_
        refine aC rfl rfl rfl rfl rfl rfl rfl ?_
        refine aA ?_
        refine aB rfl (aI (v := .bool (true)) (b := true) rfl rfl rfl rfl) rfl rfl ?_
        refine aA ?_
        refine aB rfl (aF rfl) rfl rfl ?_
        refine aA ?_
        refine aC rfl rfl rfl rfl rfl rfl rfl ?_
        refine aA ?_
        refine aC rfl rfl rfl rfl rfl rfl rfl ?_
        refine aA ?_
        refine aC rfl rfl rfl rfl rfl rfl rfl ?_
        refine aA ?_
        refine aC rfl rfl rfl rfl rfl rfl rfl ?_
        refine aA ?_
        refine aC rfl rfl rfl rfl rfl rfl rfl ?_
        refine aA ?_
        refine aC rfl rfl rfl rfl rfl rfl rfl ?_
        refine aA ?_
        refine aC rfl rfl rfl rfl rfl rfl rfl ?_
        refine aA ?_
        refine aB rfl (aI (v := .bool (true)) (b := true) rfl rfl rfl rfl) rfl rfl ?_
        refine aH ?_
        refine aG ?_
        refine bX rfl ?_
        refine wp_seq ?_
        refine aM [0] rfl ?_
        refine aA ?_
        refine aB rfl (aJ rfl) rfl rfl ?_
        refine aH ?_
        refine aG ?_
        refine wp_ret ?_
        refine aU ?_
        have hr54 : aX x y = false := by simp [aX, (Decidable.of_not_not hg10), (Decidable.of_not_not hg16), (Decidable.of_not_not hg24), (Decidable.of_not_not hg32), hg40, hg46, hg52]
        refine aQ (.inl rfl) Tryz.results72 rfl ?_
        rw [hr54]
        exact ⟨rfl, Ha8.1⟩
       ·refine aA ?_
        refine aR rfl rfl rfl rfl (fun _ ho55 => ?_)
        refine aB ho55 (bO hg52 (bN rfl rfl)) rfl rfl ?_
        refine aA ?_
        refine aB rfl (aI (v := .bool (false)) (b := false) rfl rfl rfl rfl) rfl rfl ?_
        refine aA ?_
        refine aB rfl (aF rfl) rfl rfl ?_
        refine aA ?_
        refine aR rfl rfl rfl rfl (fun _ ho56 => ?_)
        refine aB ho56 (aL fa_141_8 rfl) rfl rfl ?_
        refine aA ?_
        refine aR rfl rfl rfl rfl (fun _ ho57 => ?_)
        refine aB ho57 (iX (sub := #[.int .i64 (x.Tag.Vat), .int .i64 (x.Tag.Entity), .int .i64 (x.Tag.Seq)]) Tryz.isAgg50 Tryz.sizeOf50 rfl (Ha8.blk 1 rfl) rfl rfl) rfl rfl ?_
        refine aA ?_
        refine aR rfl rfl rfl rfl (fun _ ho58 => ?_)
        refine aB ho58 (aL fa_141_8 rfl) rfl rfl ?_
        refine aA ?_
        refine aR rfl rfl rfl rfl (fun _ ho59 => ?_)
        refine aB ho59 (iX (sub := #[.int .i64 (y.Tag.Vat), .int .i64 (y.Tag.Entity), .int .i64 (y.Tag.Seq)]) Tryz.isAgg50 Tryz.sizeOf50 rfl (Ha8.blk 0 rfl) rfl rfl) rfl rfl ?_
        by_cases hg60 : (jN x.Tag y.Tag) = true
        ·refine aA ?_
         refine aR rfl rfl rfl rfl (fun _ ho61 => ?_)
         refine aB ho61 (cZ (b := !(jN x.Tag y.Tag)) (by rw [hg60]) (fJ Tryz.eqGuardType50 rfl rfl (oH x.Tag y.Tag _ 9998))) rfl rfl ?_
         refine aA ?_
         refine aB rfl (aI (v := .bool (false)) (b := false) rfl rfl rfl rfl) rfl rfl ?_
         refine aA ?_
         refine aB rfl (aF rfl) rfl rfl ?_
         refine aA ?_
         refine aR rfl rfl rfl rfl (fun _ ho62 => ?_)
         refine aB ho62 (aL mF rfl) rfl rfl ?_
         refine aA ?_
         refine aR rfl rfl rfl rfl (fun _ ho63 => ?_)
         refine aB ho63 (aN (k := 5) (v := .slice Ax5 x.bD.length cx5) Tryz.isAgg138 rfl (Ha8.blk 1 rfl) rfl) rfl rfl ?_
         refine aA ?_
         refine aR rfl rfl rfl rfl (fun _ ho64 => ?_)
         refine aB ho64 (bQ Tryz.runUnderlying138 rfl) rfl rfl ?_
         refine aA ?_
         refine aR rfl rfl rfl rfl (fun _ ho65 => ?_)
         refine aB ho65 (aL mF rfl) rfl rfl ?_
         refine aA ?_
         refine aR rfl rfl rfl rfl (fun _ ho66 => ?_)
         refine aB ho66 (aN (k := 5) (v := .slice Ay5 y.bD.length cy5) Tryz.isAgg138 rfl (Ha8.blk 0 rfl) rfl) rfl rfl ?_
         refine aA ?_
         refine aR rfl rfl rfl rfl (fun _ ho67 => ?_)
         refine aB ho67 (bQ Tryz.runUnderlying138 rfl) rfl rfl ?_
         by_cases hg68 : ¬ ((x.bD.length : Nat) : Int) = (y.bD.length : Nat)
         ·refine aA ?_
          refine aR rfl rfl rfl rfl (fun _ ho69 => ?_)
          refine aB ho69 (bV hg68 (bN rfl rfl)) rfl rfl ?_
          refine aA ?_
          refine aB rfl (aI (v := .bool (true)) (b := false) rfl rfl rfl rfl) rfl rfl ?_
          refine aH ?_
          refine aG ?_
          refine bX rfl ?_
          refine wp_seq ?_
          refine aM [0] rfl ?_
          refine aA ?_
          refine aB rfl (aJ rfl) rfl rfl ?_
          refine aH ?_
          refine aG ?_
          refine wp_ret ?_
          refine aU ?_
          have hz70 : ∀ f, aV f x.bD y.bD = false := fun f => eY f x.bD y.bD kO
          have hr71 : aX x y = false := by simp [aX, (Decidable.of_not_not hg10), (Decidable.of_not_not hg16), (Decidable.of_not_not hg24), (Decidable.of_not_not hg32), hg40, hg46, (Decidable.of_not_not hg52), hg60, hz70]
          refine aQ (.inl rfl) Tryz.results72 rfl ?_
          rw [hr71]
          exact ⟨rfl, Ha8.1⟩
         ·refine aA ?_
          refine aR rfl rfl rfl rfl (fun _ ho72 => ?_)
          refine aB ho72 (bO hg68 (bN rfl rfl)) rfl rfl ?_
          refine aA ?_
          refine aB rfl (aI (v := .bool (false)) (b := false) rfl rfl rfl rfl) rfl rfl ?_
          refine aH ?_
          refine aG ?_
          refine dU rfl ?_
          refine wp_skip ?_
          refine aG ?_
          refine wp_seq ?_
          refine wp_seq ?_
          refine aM [0] rfl ?_
          refine aA ?_
          refine aB rfl (aJ rfl) rfl rfl ?_
          refine aH ?_
          refine aG ?_
          refine wp_block ?_
          refine wp_loop_ghost (fun r a' W' => ∃ (i1 : Nat) (x' : Nat → Value), a' = bT 87 x' [(2, .pointer (some ⟨g_0_0, 0, none⟩)), (3, .pointer (some ⟨g_0_1, 0, none⟩)), (5, .int .i64 (((i1 : Nat) : Int)))] ∧ (i1 + r = x.bD.length) ∧ (aV eF x.bD y.bD = aV eF (x.bD.drop i1) (y.bD.drop i1)) ∧ St w No [hB g_0_1 141 #[.int .i64 (y.Kind), .int .i64 (y.Pos), .int .i64 (y.dH), .int .i64 (y.Question), .string (y.Name), .slice Ay5 y.bD.length cy5, .int .i64 (y.Value.Kind), .int .i64 (y.Value.N), .int .i64 (y.Count), .int .i64 (y.Tag.Vat), .int .i64 (y.Tag.Entity), .int .i64 (y.Tag.Seq)], hB g_0_0 141 #[.int .i64 (x.Kind), .int .i64 (x.Pos), .int .i64 (x.dH), .int .i64 (x.Question), .string (x.Name), .slice Ax5 x.bD.length cx5, .int .i64 (x.Value.Kind), .int .i64 (x.Value.N), .int .i64 (x.Count), .int .i64 (x.Tag.Vat), .int .i64 (x.Tag.Entity), .int .i64 (x.Tag.Seq)]] W') x.bD.length ?_ ?_
          ·exact (bA [(2, .pointer (some ⟨g_0_0, 0, none⟩)), (3, .pointer (some ⟨g_0_1, 0, none⟩)), (5, .int .i64 (((0 : Nat) : Int)))] rfl).elim fun x' hx => ⟨0, x', hx, kO, rfl, Ha8⟩
          ·rintro r73 _ W74 ⟨i1, x75, rfl, hi1, hf1, H76⟩; clear Ha8
           refine wp_seq ?_
           refine wp_seq ?_
           refine aM [0, 1, 2, 3, 4] rfl ?_
           refine aA ?_
           refine aB rfl (aF rfl) rfl rfl ?_
           refine aA ?_
           refine aB rfl (aL mF rfl) rfl rfl ?_
           refine aA ?_
           refine aB rfl (aN (k := 5) (v := .slice Ax5 x.bD.length cx5) Tryz.isAgg138 rfl (H76.blk 1 rfl) rfl) rfl rfl ?_
           refine aA ?_
           refine aB rfl (bQ Tryz.runUnderlying138 rfl) rfl rfl ?_
           refine aA ?_
           refine aB rfl (gY rfl rfl) rfl rfl ?_
           refine aH ?_
           refine aG ?_
           refine eP rfl (fun hc77 => ?_) (fun hc77 => ?_)
           ·have hlt1 : i1 < x.bD.length := by omega
            have hlu1 : i1 < y.bD.length := by omega
            obtain ⟨ade78, cse78, hAe78, hKe78, hce78⟩ := dO hCx5 i1 hlt1
            have hle78 := o8 hKe78
            have hoe78 := o9 hKe78
            obtain ⟨ade79, cse79, hAe79, hKe79, hce79⟩ := dO hCy5 i1 hlu1
            have hle79 := o8 hKe79
            have hoe79 := o9 hKe79
            obtain rfl := kZ hKe78
            obtain rfl := kZ hKe79
            refine wp_skip ?_
            refine aG ?_
            refine wp_seq ?_
            refine wp_block ?_
            refine wp_seq ?_
            by_cases hg80 : (eF (x.bD[i1]) (y.bD[i1])) = true
            ·refine dD (fun W' => Blk W' g_0_0 141 #[.int .i64 (x.Kind), .int .i64 (x.Pos), .int .i64 (x.dH), .int .i64 (x.Question), .string (x.Name), .slice Ax5 x.bD.length cx5, .int .i64 (x.Value.Kind), .int .i64 (x.Value.N), .int .i64 (x.Count), .int .i64 (x.Tag.Vat), .int .i64 (x.Tag.Entity), .int .i64 (x.Tag.Seq)] ∧ Cat W' (Addr.add ade78 (i1 * 2)) [.int .i64 (x.bD[i1].Kind), .int .i64 (x.bD[i1].N)] ∧ Blk W' g_0_1 141 #[.int .i64 (y.Kind), .int .i64 (y.Pos), .int .i64 (y.dH), .int .i64 (y.Question), .string (y.Name), .slice Ay5 y.bD.length cy5, .int .i64 (y.Value.Kind), .int .i64 (y.Value.N), .int .i64 (y.Count), .int .i64 (y.Tag.Vat), .int .i64 (y.Tag.Entity), .int .i64 (y.Tag.Seq)] ∧ Cat W' (Addr.add ade79 (i1 * 2)) [.int .i64 (y.bD[i1].Kind), .int .i64 (y.bD[i1].N)]) 11 kR ?_
             have H81 := H76.drew; clear H76
             have hS82 : Blk W74.drew g_0_0 141 #[.int .i64 (x.Kind), .int .i64 (x.Pos), .int .i64 (x.dH), .int .i64 (x.Question), .string (x.Name), .slice Ax5 x.bD.length cx5, .int .i64 (x.Value.Kind), .int .i64 (x.Value.N), .int .i64 (x.Count), .int .i64 (x.Tag.Vat), .int .i64 (x.Tag.Entity), .int .i64 (x.Tag.Seq)] ∧ Cat W74.drew (Addr.add ade78 (i1 * 2)) [.int .i64 (x.bD[i1].Kind), .int .i64 (x.bD[i1].N)] ∧ Blk W74.drew g_0_1 141 #[.int .i64 (y.Kind), .int .i64 (y.Pos), .int .i64 (y.dH), .int .i64 (y.Question), .string (y.Name), .slice Ay5 y.bD.length cy5, .int .i64 (y.Value.Kind), .int .i64 (y.Value.N), .int .i64 (y.Count), .int .i64 (y.Tag.Vat), .int .i64 (y.Tag.Entity), .int .i64 (y.Tag.Seq)] ∧ Cat W74.drew (Addr.add ade79 (i1 * 2)) [.int .i64 (y.bD[i1].Kind), .int .i64 (y.bD[i1].N)] := ⟨H81.blk 1 rfl, (Cat.upd hce78 H81.1), H81.blk 0 rfl, (Cat.upd hce79 H81.1)⟩
             refine aD (i := 0) rfl kR kR kR kR kR (fun _ _ _ h => h) rfl rfl hS82 (fun W' hs' => aL mF rfl) ?_
             refine aD (i := 1) rfl kR kR kR kR kR (fun _ _ _ h => h) rfl rfl hS82 (fun W' hs' => aN (k := 5) (v := .slice Ax5 x.bD.length cx5) Tryz.isAgg138 rfl hs'.1 rfl) ?_
             refine aD (i := 2) rfl kR kR kR kR kR (fun _ _ _ h => h) rfl rfl hS82 (fun W' hs' => aF rfl) ?_
             refine aD (i := 3) rfl kR kR kR kR kR (fun _ _ _ h => h) rfl rfl hS82 (fun W' hs' => aP (k := i1) Tryz.runUnderlying138 Tryz.sizeOf139 rfl rfl hAe78 hlt1) ?_
             refine aD (i := 4) rfl kR kR kR kR kR (fun _ _ _ h => h) rfl rfl hS82 (fun W' hs' => aY Tryz.isAgg139 Tryz.sizeOf139 rfl hs'.2.1 rfl) ?_
             refine aD (i := 5) rfl kR kR kR kR kR (fun _ _ _ h => h) rfl rfl hS82 (fun W' hs' => aL mF rfl) ?_
             refine aD (i := 6) rfl kR kR kR kR kR (fun _ _ _ h => h) rfl rfl hS82 (fun W' hs' => aN (k := 5) (v := .slice Ay5 y.bD.length cy5) Tryz.isAgg138 rfl hs'.2.2.1 rfl) ?_
             refine aD (i := 7) rfl kR kR kR kR kR (fun _ _ _ h => h) rfl rfl hS82 (fun W' hs' => aF rfl) ?_
             refine aD (i := 8) rfl kR kR kR kR kR (fun _ _ _ h => h) rfl rfl hS82 (fun W' hs' => aP (k := i1) Tryz.runUnderlying138 Tryz.sizeOf139 rfl rfl hAe79 hlu1) ?_
             refine aD (i := 9) rfl kR kR kR kR kR (fun _ _ _ h => h) rfl rfl hS82 (fun W' hs' => aY Tryz.isAgg139 Tryz.sizeOf139 rfl hs'.2.2.2 rfl) ?_
             refine aD (i := 10) rfl kR kR kR kR kR (fun _ _ _ h => h) rfl rfl hS82 (fun W' hs' => cZ (b := !(eF (x.bD[i1]) (y.bD[i1]))) (by rw [hg80]) (fJ Tryz.eqGuardType139 rfl rfl (nP (x.bD[i1]) (y.bD[i1]) _ 9998))) ?_
             refine bU kR ?_ _
             refine aG ?_
             refine dU rfl ?_
             refine wp_skip ?_
             refine iY ?_
             refine aG ?_
             refine aM [0, 1, 2] rfl ?_
             refine aA ?_
             refine aB rfl (aF rfl) rfl rfl ?_
             refine aA ?_
             refine aB rfl (iB (k := i1) rfl rfl kO) rfl rfl ?_
             refine aA ?_
             refine aB rfl (aJ rfl) rfl rfl ?_
             refine aH ?_
             refine aG ?_
             exact (bA [(2, .pointer (some ⟨g_0_0, 0, none⟩)), (3, .pointer (some ⟨g_0_1, 0, none⟩)), (5, .int .i64 (((i1 + 1 : Nat) : Int)))] rfl).elim fun x' hx => ⟨r73 - 1, kO, i1 + 1, x', hx, kO, (hf1.trans (fC eF x.bD y.bD i1 hlt1 hlu1 hg80)), H81⟩
            ·refine dD (fun W' => Blk W' g_0_0 141 #[.int .i64 (x.Kind), .int .i64 (x.Pos), .int .i64 (x.dH), .int .i64 (x.Question), .string (x.Name), .slice Ax5 x.bD.length cx5, .int .i64 (x.Value.Kind), .int .i64 (x.Value.N), .int .i64 (x.Count), .int .i64 (x.Tag.Vat), .int .i64 (x.Tag.Entity), .int .i64 (x.Tag.Seq)] ∧ Cat W' (Addr.add ade78 (i1 * 2)) [.int .i64 (x.bD[i1].Kind), .int .i64 (x.bD[i1].N)] ∧ Blk W' g_0_1 141 #[.int .i64 (y.Kind), .int .i64 (y.Pos), .int .i64 (y.dH), .int .i64 (y.Question), .string (y.Name), .slice Ay5 y.bD.length cy5, .int .i64 (y.Value.Kind), .int .i64 (y.Value.N), .int .i64 (y.Count), .int .i64 (y.Tag.Vat), .int .i64 (y.Tag.Entity), .int .i64 (y.Tag.Seq)] ∧ Cat W' (Addr.add ade79 (i1 * 2)) [.int .i64 (y.bD[i1].Kind), .int .i64 (y.bD[i1].N)]) 11 kR ?_
             have H83 := H76.drew; clear H76
             have hS84 : Blk W74.drew g_0_0 141 #[.int .i64 (x.Kind), .int .i64 (x.Pos), .int .i64 (x.dH), .int .i64 (x.Question), .string (x.Name), .slice Ax5 x.bD.length cx5, .int .i64 (x.Value.Kind), .int .i64 (x.Value.N), .int .i64 (x.Count), .int .i64 (x.Tag.Vat), .int .i64 (x.Tag.Entity), .int .i64 (x.Tag.Seq)] ∧ Cat W74.drew (Addr.add ade78 (i1 * 2)) [.int .i64 (x.bD[i1].Kind), .int .i64 (x.bD[i1].N)] ∧ Blk W74.drew g_0_1 141 #[.int .i64 (y.Kind), .int .i64 (y.Pos), .int .i64 (y.dH), .int .i64 (y.Question), .string (y.Name), .slice Ay5 y.bD.length cy5, .int .i64 (y.Value.Kind), .int .i64 (y.Value.N), .int .i64 (y.Count), .int .i64 (y.Tag.Vat), .int .i64 (y.Tag.Entity), .int .i64 (y.Tag.Seq)] ∧ Cat W74.drew (Addr.add ade79 (i1 * 2)) [.int .i64 (y.bD[i1].Kind), .int .i64 (y.bD[i1].N)] := ⟨H83.blk 1 rfl, (Cat.upd hce78 H83.1), H83.blk 0 rfl, (Cat.upd hce79 H83.1)⟩
             refine aD (i := 0) rfl kR kR kR kR kR (fun _ _ _ h => h) rfl rfl hS84 (fun W' hs' => aL mF rfl) ?_
             refine aD (i := 1) rfl kR kR kR kR kR (fun _ _ _ h => h) rfl rfl hS84 (fun W' hs' => aN (k := 5) (v := .slice Ax5 x.bD.length cx5) Tryz.isAgg138 rfl hs'.1 rfl) ?_
             refine aD (i := 2) rfl kR kR kR kR kR (fun _ _ _ h => h) rfl rfl hS84 (fun W' hs' => aF rfl) ?_
             refine aD (i := 3) rfl kR kR kR kR kR (fun _ _ _ h => h) rfl rfl hS84 (fun W' hs' => aP (k := i1) Tryz.runUnderlying138 Tryz.sizeOf139 rfl rfl hAe78 hlt1) ?_
             refine aD (i := 4) rfl kR kR kR kR kR (fun _ _ _ h => h) rfl rfl hS84 (fun W' hs' => aY Tryz.isAgg139 Tryz.sizeOf139 rfl hs'.2.1 rfl) ?_
             refine aD (i := 5) rfl kR kR kR kR kR (fun _ _ _ h => h) rfl rfl hS84 (fun W' hs' => aL mF rfl) ?_
             refine aD (i := 6) rfl kR kR kR kR kR (fun _ _ _ h => h) rfl rfl hS84 (fun W' hs' => aN (k := 5) (v := .slice Ay5 y.bD.length cy5) Tryz.isAgg138 rfl hs'.2.2.1 rfl) ?_
             refine aD (i := 7) rfl kR kR kR kR kR (fun _ _ _ h => h) rfl rfl hS84 (fun W' hs' => aF rfl) ?_
             refine aD (i := 8) rfl kR kR kR kR kR (fun _ _ _ h => h) rfl rfl hS84 (fun W' hs' => aP (k := i1) Tryz.runUnderlying138 Tryz.sizeOf139 rfl rfl hAe79 hlu1) ?_
             refine aD (i := 9) rfl kR kR kR kR kR (fun _ _ _ h => h) rfl rfl hS84 (fun W' hs' => aY Tryz.isAgg139 Tryz.sizeOf139 rfl hs'.2.2.2 rfl) ?_
             refine aD (i := 10) rfl kR kR kR kR kR (fun _ _ _ h => h) rfl rfl hS84 (fun W' hs' => cZ (b := !(eF (x.bD[i1]) (y.bD[i1]))) (by rw [(eq_false_of_ne_true hg80)]) (fJ Tryz.eqGuardType139 rfl rfl (nP (x.bD[i1]) (y.bD[i1]) _ 9998))) ?_
             refine bU kR ?_ _
             refine aG ?_
             refine bX rfl ?_
             refine wp_seq ?_
             refine aM [0] rfl ?_
             refine aA ?_
             refine aB rfl (aJ rfl) rfl rfl ?_
             refine aH ?_
             refine aG ?_
             refine wp_ret ?_
             refine dS ?_
             refine aU ?_
             refine aU ?_
             refine dS ?_
             refine aU ?_
             have hz85 : aV eF x.bD y.bD = false := hf1.trans (eG eF x.bD y.bD i1 hlt1 hlu1 (eq_false_of_ne_true hg80))
             have hr86 : aX x y = false := by simp [aX, (Decidable.of_not_not hg10), (Decidable.of_not_not hg16), (Decidable.of_not_not hg24), (Decidable.of_not_not hg32), hg40, hg46, (Decidable.of_not_not hg52), hg60, hg80, hz85]
             refine aQ (.inl rfl) Tryz.results72 rfl ?_
             rw [hr86]
             exact ⟨rfl, H83.1⟩
           ·have hd1 : aV eF x.bD y.bD = true := hf1.trans (fD eF x.bD y.bD i1 kO kO)
            refine wp_exit ?_
            refine dP ?_
            refine dP ?_
            refine iZ ?_
            refine aG ?_
            refine wp_seq ?_
            refine aM [0] rfl ?_
            refine aA ?_
            refine aB rfl (aJ rfl) rfl rfl ?_
            refine aH ?_
            refine aG ?_
            refine wp_ret ?_
            have hr87 : aX x y = true := by simp [aX, (Decidable.of_not_not hg10), (Decidable.of_not_not hg16), (Decidable.of_not_not hg24), (Decidable.of_not_not hg32), hg40, hg46, (Decidable.of_not_not hg52), hg60, hd1]
            refine aQ (.inl rfl) Tryz.results72 rfl ?_
            rw [hr87]
            exact ⟨rfl, H76.1⟩
        ·refine aA ?_
         refine aR rfl rfl rfl rfl (fun _ ho88 => ?_)
         refine aB ho88 (cZ (b := !(jN x.Tag y.Tag)) (by rw [(eq_false_of_ne_true hg60)]) (fJ Tryz.eqGuardType50 rfl rfl (oH x.Tag y.Tag _ 9998))) rfl rfl ?_
         refine aA ?_
         refine aB rfl (aI (v := .bool (true)) (b := false) rfl rfl rfl rfl) rfl rfl ?_
         refine aA ?_
         refine aB rfl (aF rfl) rfl rfl ?_
         refine aA ?_
         refine aC rfl rfl rfl rfl rfl rfl rfl ?_
         refine aA ?_
         refine aC rfl rfl rfl rfl rfl rfl rfl ?_
         refine aA ?_
         refine aC rfl rfl rfl rfl rfl rfl rfl ?_
         refine aA ?_
         refine aC rfl rfl rfl rfl rfl rfl rfl ?_
         refine aA ?_
         refine aC rfl rfl rfl rfl rfl rfl rfl ?_
         refine aA ?_
         refine aC rfl rfl rfl rfl rfl rfl rfl ?_
         refine aA ?_
         refine aC rfl rfl rfl rfl rfl rfl rfl ?_
         refine aA ?_
         refine aB rfl (aI (v := .bool (true)) (b := true) rfl rfl rfl rfl) rfl rfl ?_
         refine aH ?_
         refine aG ?_
         refine bX rfl ?_
         refine wp_seq ?_
         refine aM [0] rfl ?_
         refine aA ?_
         refine aB rfl (aJ rfl) rfl rfl ?_
         refine aH ?_
         refine aG ?_
         refine wp_ret ?_
         refine aU ?_
         have hr89 : aX x y = false := by simp [aX, (Decidable.of_not_not hg10), (Decidable.of_not_not hg16), (Decidable.of_not_not hg24), (Decidable.of_not_not hg32), hg40, hg46, (Decidable.of_not_not hg52), hg60]
         refine aQ (.inl rfl) Tryz.results72 rfl ?_
         rw [hr89]
         exact ⟨rfl, Ha8.1⟩
      ·refine aA ?_
       refine aR rfl rfl rfl rfl (fun _ ho90 => ?_)
       refine aB ho90 (cZ (b := !(eF x.Value y.Value)) (by rw [(eq_false_of_ne_true hg46)]) (fJ Tryz.eqGuardType139 rfl rfl (nP x.Value y.Value _ 9998))) rfl rfl ?_
       refine aA ?_
       refine aB rfl (aI (v := .bool (true)) (b := false) rfl rfl rfl rfl) rfl rfl ?_
       refine aA ?_
       refine aB rfl (aF rfl) rfl rfl ?_
       refine aA ?_
       refine aC rfl rfl rfl rfl rfl rfl rfl ?_
       refine aA ?_
       refine aC rfl rfl rfl rfl rfl rfl rfl ?_
       refine aA ?_
       refine aC rfl rfl rfl rfl rfl rfl rfl ?_
       refine aA ?_
       refine aC rfl rfl rfl rfl rfl rfl rfl ?_
       refine aA ?_
       refine aC rfl rfl rfl rfl rfl rfl rfl ?_
       refine aA ?_
       refine aB rfl (aI (v := .bool (true)) (b := true) rfl rfl rfl rfl) rfl rfl ?_
       refine aA ?_
       refine aB rfl (aF rfl) rfl rfl ?_
       refine aA ?_
       refine aC rfl rfl rfl rfl rfl rfl rfl ?_
       refine aA ?_
       refine aC rfl rfl rfl rfl rfl rfl rfl ?_
       refine aA ?_
       refine aC rfl rfl rfl rfl rfl rfl rfl ?_
       refine aA ?_
       refine aC rfl rfl rfl rfl rfl rfl rfl ?_
       refine aA ?_
       refine aC rfl rfl rfl rfl rfl rfl rfl ?_
       refine aA ?_
       refine aB rfl (aI (v := .bool (true)) (b := true) rfl rfl rfl rfl) rfl rfl ?_
       refine aA ?_
       refine aB rfl (aF rfl) rfl rfl ?_
       refine aA ?_
       refine aC rfl rfl rfl rfl rfl rfl rfl ?_
       refine aA ?_
       refine aC rfl rfl rfl rfl rfl rfl rfl ?_
       refine aA ?_
       refine aC rfl rfl rfl rfl rfl rfl rfl ?_
       refine aA ?_
       refine aC rfl rfl rfl rfl rfl rfl rfl ?_
       refine aA ?_
       refine aC rfl rfl rfl rfl rfl rfl rfl ?_
       refine aA ?_
       refine aC rfl rfl rfl rfl rfl rfl rfl ?_
       refine aA ?_
       refine aC rfl rfl rfl rfl rfl rfl rfl ?_
       refine aA ?_
       refine aB rfl (aI (v := .bool (true)) (b := true) rfl rfl rfl rfl) rfl rfl ?_
       refine aH ?_
       refine aG ?_
       refine bX rfl ?_
       refine wp_seq ?_
       refine aM [0] rfl ?_
       refine aA ?_
       refine aB rfl (aJ rfl) rfl rfl ?_
       refine aH ?_
       refine aG ?_
       refine wp_ret ?_
       refine aU ?_
       have hr91 : aX x y = false := by simp [aX, (Decidable.of_not_not hg10), (Decidable.of_not_not hg16), (Decidable.of_not_not hg24), (Decidable.of_not_not hg32), hg40, hg46]
       refine aQ (.inl rfl) Tryz.results72 rfl ?_
       rw [hr91]
       exact ⟨rfl, Ha8.1⟩
     ·refine aA ?_
      refine aR rfl rfl rfl rfl (fun _ ho92 => ?_)
      refine aB ho92 (cZ (b := !(x.Name.toList == y.Name.toList)) (by rw [(eq_false_of_ne_true hg40)]) (jV rfl rfl)) rfl rfl ?_
      refine aA ?_
      refine aB rfl (aI (v := .bool (true)) (b := false) rfl rfl rfl rfl) rfl rfl ?_
      refine aA ?_
      refine aB rfl (aF rfl) rfl rfl ?_
      refine aA ?_
      refine aC rfl rfl rfl rfl rfl rfl rfl ?_
      refine aA ?_
      refine aC rfl rfl rfl rfl rfl rfl rfl ?_
      refine aA ?_
      refine aC rfl rfl rfl rfl rfl rfl rfl ?_
      refine aA ?_
      refine aC rfl rfl rfl rfl rfl rfl rfl ?_
      refine aA ?_
      refine aC rfl rfl rfl rfl rfl rfl rfl ?_
      refine aA ?_
      refine aB rfl (aI (v := .bool (true)) (b := true) rfl rfl rfl rfl) rfl rfl ?_
      refine aA ?_
      refine aB rfl (aF rfl) rfl rfl ?_
      refine aA ?_
      refine aC rfl rfl rfl rfl rfl rfl rfl ?_
      refine aA ?_
      refine aC rfl rfl rfl rfl rfl rfl rfl ?_
      refine aA ?_
      refine aC rfl rfl rfl rfl rfl rfl rfl ?_
      refine aA ?_
      refine aC rfl rfl rfl rfl rfl rfl rfl ?_
      refine aA ?_
      refine aC rfl rfl rfl rfl rfl rfl rfl ?_
      refine aA ?_
      refine aB rfl (aI (v := .bool (true)) (b := true) rfl rfl rfl rfl) rfl rfl ?_
      refine aA ?_
      refine aB rfl (aF rfl) rfl rfl ?_
      refine aA ?_
      refine aC rfl rfl rfl rfl rfl rfl rfl ?_
      refine aA ?_
      refine aC rfl rfl rfl rfl rfl rfl rfl ?_
      refine aA ?_
      refine aC rfl rfl rfl rfl rfl rfl rfl ?_
      refine aA ?_
      refine aC rfl rfl rfl rfl rfl rfl rfl ?_
      refine aA ?_
      refine aC rfl rfl rfl rfl rfl rfl rfl ?_
      refine aA ?_
      refine aB rfl (aI (v := .bool (true)) (b := true) rfl rfl rfl rfl) rfl rfl ?_
      refine aA ?_
      refine aB rfl (aF rfl) rfl rfl ?_
      refine aA ?_
      refine aC rfl rfl rfl rfl rfl rfl rfl ?_
      refine aA ?_
      refine aC rfl rfl rfl rfl rfl rfl rfl ?_
      refine aA ?_
      refine aC rfl rfl rfl rfl rfl rfl rfl ?_
      refine aA ?_
      refine aC rfl rfl rfl rfl rfl rfl rfl ?_
      refine aA ?_
      refine aC rfl rfl rfl rfl rfl rfl rfl ?_
      refine aA ?_
      refine aC rfl rfl rfl rfl rfl rfl rfl ?_
      refine aA ?_
      refine aC rfl rfl rfl rfl rfl rfl rfl ?_
      refine aA ?_
      refine aB rfl (aI (v := .bool (true)) (b := true) rfl rfl rfl rfl) rfl rfl ?_
      refine aH ?_
      refine aG ?_
      refine bX rfl ?_
      refine wp_seq ?_
      refine aM [0] rfl ?_
      refine aA ?_
      refine aB rfl (aJ rfl) rfl rfl ?_
      refine aH ?_
      refine aG ?_
      refine wp_ret ?_
      refine aU ?_
      have hr93 : aX x y = false := by simp [aX, (Decidable.of_not_not hg10), (Decidable.of_not_not hg16), (Decidable.of_not_not hg24), (Decidable.of_not_not hg32), hg40]
      refine aQ (.inl rfl) Tryz.results72 rfl ?_
      rw [hr93]
      exact ⟨rfl, Ha8.1⟩
theorem equalVats_s (x y : GVat) (cx cy : List Value) (w : World) (h : iK.K w x cx) (h' : iK.K w y cy) : Calls Tryz.prog 41 #[.agg cx.toArray, .agg cy.toArray] w (bW (dK x y) w) := by
 obtain ⟨Ax1, cx1, Ax2, cx2, Ax3, cx3, Ax4, cx4, rfl, hlx1, hCx1, hlx2, hCx2, hlx3, hCx3, hlx4, hCx4⟩ := oV h
 obtain ⟨Ay1, cy1, Ay2, cy2, Ay3, cy3, Ay4, cy4, rfl, hly1, hCy1, hly2, hCy2, hly3, hCy3, hly4, hCy4⟩ := oV h'
 have nx1 := hCx1.1
 have nx2 := hCx2.1
 have nx3 := hCx3.1
 have nx4 := hCx4.1
 refine enter 122 [(0, .agg #[.int .i64 (x.Id), .slice Ax1 x.aT.length cx1, .slice Ax2 x.Loop.length cx2, .slice Ax3 x.bZ.length cx3, .slice Ax4 x.Out.length cx4]), (1, .agg #[.int .i64 (y.Id), .slice Ay1 y.aT.length cy1, .slice Ay2 y.Loop.length cy2, .slice Ay3 y.bZ.length cy3, .slice Ay4 y.Out.length cy4])] Tryz.func41 rfl kR ?_
 intro xj
 have H1 : St w No [] w := St.enter
 refine wp_seq ?_
 refine aM [0, 1, 2] rfl ?_
 refine aA ?_
 refine gX rfl rfl rfl rfl H1 ?_
 intro g_0_0 W2 hu3 Ha4; clear H1; clear hu3
 refine aA ?_
 refine gX rfl rfl rfl rfl Ha4 ?_
 intro g_0_1 W6 hu7 Ha8; clear Ha4; clear hu7
 refine aA ?_
 refine aB rfl (aJ rfl) rfl rfl ?_
 refine aH ?_
 refine aG ?_
 refine wp_seq ?_
 refine wp_seq ?_
 refine aM [0, 1, 2, 3, 4, 5, 6, 7, 8, 9, 10, 11, 12, 13, 14, 15, 16, 17, 18, 19, 20, 21, 22, 23, 24, 25, 26, 27, 28, 29, 30, 31, 32, 33, 34, 35, 36, 37, 38, 39] rfl ?_
 refine aA ?_
 refine aB rfl (aL fa_80_0 rfl) rfl rfl ?_
 refine aA ?_
 refine aB rfl (aN (k := 0) (v := .int .i64 (x.Id)) Tryz.isAgg3 rfl (Ha8.blk 1 rfl) rfl) rfl rfl ?_
 refine aA ?_
 refine aB rfl (aL fa_80_0 rfl) rfl rfl ?_
 refine aA ?_
 refine aB rfl (aN (k := 0) (v := .int .i64 (y.Id)) Tryz.isAgg3 rfl (Ha8.blk 0 rfl) rfl) rfl rfl ?_
 by_cases hg10 : ¬ (x.Id : Int) = y.Id
 ·refine aA ?_
  refine aB rfl (bV hg10 (bN rfl rfl)) rfl rfl ?_
  refine aA ?_
  refine aB rfl (aF rfl) rfl rfl ?_
  refine aA ?_
  refine aC rfl rfl rfl rfl rfl rfl rfl ?_
  refine aA ?_
  refine aC rfl rfl rfl rfl rfl rfl rfl ?_
  refine aA ?_
  refine aC rfl rfl rfl rfl rfl rfl rfl ?_
  refine aA ?_
  refine aC rfl rfl rfl rfl rfl rfl rfl ?_
  refine aA ?_
  refine aC rfl rfl rfl rfl rfl rfl rfl ?_
  refine aA ?_
  refine aC rfl rfl rfl rfl rfl rfl rfl ?_
  refine aA ?_
  refine aC rfl rfl rfl rfl rfl rfl rfl ?_
  refine aA ?_
  refine aB rfl (aI (v := .bool (true)) (b := true) rfl rfl rfl rfl) rfl rfl ?_
  refine aA ?_
  refine aB rfl (aF rfl) rfl rfl ?_
  refine aA ?_
  refine aC rfl rfl rfl rfl rfl rfl rfl ?_
  refine aA ?_
  refine aC rfl rfl rfl rfl rfl rfl rfl ?_
  refine aA ?_
  refine aC rfl rfl rfl rfl rfl rfl rfl ?_
  refine aA ?_
  refine aC rfl rfl rfl rfl rfl rfl rfl ?_
  refine aA ?_
  refine aC rfl rfl rfl rfl rfl rfl rfl ?_
  refine aA ?_
  refine aC rfl rfl rfl rfl rfl rfl rfl ?_
  refine aA ?_
  refine aB rfl (aI (v := .bool (true)) (b := true) rfl rfl rfl rfl) rfl rfl ?_
  refine aA ?_
  refine aB rfl (aF rfl) rfl rfl ?_
  refine aA ?_
  refine aC rfl rfl rfl rfl rfl rfl rfl ?_
  refine aA ?_
  refine aC rfl rfl rfl rfl rfl rfl rfl ?_
  refine aA ?_
  refine aC rfl rfl rfl rfl rfl rfl rfl ?_
  refine aA ?_
  refine aC rfl rfl rfl rfl rfl rfl rfl ?_
  refine aA ?_
  refine aC rfl rfl rfl rfl rfl rfl rfl ?_
  refine aA ?_
  refine aC rfl rfl rfl rfl rfl rfl rfl ?_
  refine aA ?_
  refine aC rfl rfl rfl rfl rfl rfl rfl ?_
  refine aA ?_
  refine aB rfl (aI (v := .bool (true)) (b := true) rfl rfl rfl rfl) rfl rfl ?_
  refine aA ?_
  refine aB rfl (aF rfl) rfl rfl ?_
  refine aA ?_
  refine aC rfl rfl rfl rfl rfl rfl rfl ?_
  refine aA ?_
  refine aC rfl rfl rfl rfl rfl rfl rfl ?_
  refine aA ?_
  refine aC rfl rfl rfl rfl rfl rfl rfl ?_
  refine aA ?_
  refine aC rfl rfl rfl rfl rfl rfl rfl ?_
  refine aA ?_
  refine aC rfl rfl rfl rfl rfl rfl rfl ?_
  refine aA ?_
  refine aC rfl rfl rfl rfl rfl rfl rfl ?_
  refine aA ?_
  refine aC rfl rfl rfl rfl rfl rfl rfl ?_
  refine aA ?_
  refine aB rfl (aI (v := .bool (true)) (b := true) rfl rfl rfl rfl) rfl rfl ?_
  refine aH ?_
  refine aG ?_
  refine bX rfl ?_
  refine wp_seq ?_
  refine aM [0] rfl ?_
  refine aA ?_
  refine aB rfl (aJ rfl) rfl rfl ?_
  refine aH ?_
  refine aG ?_
  refine wp_ret ?_
  refine aU ?_
  have hr11 : dK x y = false := by simp [dK, hg10]
  refine aQ (.inl rfl) Tryz.results41 rfl ?_
  rw [hr11]
  exact ⟨rfl, Ha8.1⟩
 ·refine aA ?_
  refine aB rfl (bO hg10 (bN rfl rfl)) rfl rfl ?_
  refine aA ?_
  refine aB rfl (aF rfl) rfl rfl ?_
  refine aA ?_
  refine aR rfl rfl rfl rfl (fun _ ho12 => ?_)
  refine aB ho12 (aL nU rfl) rfl rfl ?_
  refine aA ?_
  refine aR rfl rfl rfl rfl (fun _ ho13 => ?_)
  refine aB ho13 (aN (k := 1) (v := .slice Ax1 x.aT.length cx1) Tryz.isAgg75 rfl (Ha8.blk 1 rfl) rfl) rfl rfl ?_
  refine aA ?_
  refine aR rfl rfl rfl rfl (fun _ ho14 => ?_)
  refine aB ho14 (bQ Tryz.runUnderlying75 rfl) rfl rfl ?_
  refine aA ?_
  refine aR rfl rfl rfl rfl (fun _ ho15 => ?_)
  refine aB ho15 (aL nU rfl) rfl rfl ?_
  refine aA ?_
  refine aR rfl rfl rfl rfl (fun _ ho16 => ?_)
  refine aB ho16 (aN (k := 1) (v := .slice Ay1 y.aT.length cy1) Tryz.isAgg75 rfl (Ha8.blk 0 rfl) rfl) rfl rfl ?_
  refine aA ?_
  refine aR rfl rfl rfl rfl (fun _ ho17 => ?_)
  refine aB ho17 (bQ Tryz.runUnderlying75 rfl) rfl rfl ?_
  by_cases hg18 : ¬ ((x.aT.length : Nat) : Int) = (y.aT.length : Nat)
  ·refine aA ?_
   refine aR rfl rfl rfl rfl (fun _ ho19 => ?_)
   refine aB ho19 (bV hg18 (bN rfl rfl)) rfl rfl ?_
   refine aA ?_
   refine aB rfl (aI (v := .bool (true)) (b := false) rfl rfl rfl rfl) rfl rfl ?_
   refine aA ?_
   refine aB rfl (aF rfl) rfl rfl ?_
   refine aA ?_
   refine aC rfl rfl rfl rfl rfl rfl rfl ?_
   refine aA ?_
   refine aC rfl rfl rfl rfl rfl rfl rfl ?_
   refine aA ?_
   refine aC rfl rfl rfl rfl rfl rfl rfl ?_
   refine aA ?_
   refine aC rfl rfl rfl rfl rfl rfl rfl ?_
   refine aA ?_
   refine aC rfl rfl rfl rfl rfl rfl rfl ?_
   refine aA ?_
   refine aC rfl rfl rfl rfl rfl rfl rfl ?_
   refine aA ?_
   refine aB rfl (aI (v := .bool (true)) (b := true) rfl rfl rfl rfl) rfl rfl ?_
   refine aA ?_
   refine aB rfl (aF rfl) rfl rfl ?_
   refine aA ?_
   refine aC rfl rfl rfl rfl rfl rfl rfl ?_
   refine aA ?_
   refine aC rfl rfl rfl rfl rfl rfl rfl ?_
   refine aA ?_
   refine aC rfl rfl rfl rfl rfl rfl rfl ?_
   refine aA ?_
   refine aC rfl rfl rfl rfl rfl rfl rfl ?_
   refine aA ?_
   refine aC rfl rfl rfl rfl rfl rfl rfl ?_
   refine aA ?_
   refine aC rfl rfl rfl rfl rfl rfl rfl ?_
   refine aA ?_
   refine aC rfl rfl rfl rfl rfl rfl rfl ?_
   refine aA ?_
   refine aB rfl (aI (v := .bool (true)) (b := true) rfl rfl rfl rfl) rfl rfl ?_
   refine aA ?_
   refine aB rfl (aF rfl) rfl rfl ?_
   refine aA ?_
   refine aC rfl rfl rfl rfl rfl rfl rfl ?_
   refine aA ?_
   refine aC rfl rfl rfl rfl rfl rfl rfl ?_
   refine aA ?_
   refine aC rfl rfl rfl rfl rfl rfl rfl ?_
   refine aA ?_
   refine aC rfl rfl rfl rfl rfl rfl rfl ?_
   refine aA ?_
   refine aC rfl rfl rfl rfl rfl rfl rfl ?_
   refine aA ?_
   refine aC rfl rfl rfl rfl rfl rfl rfl ?_
   refine aA ?_
   refine aC rfl rfl rfl rfl rfl rfl rfl ?_
   refine aA ?_
   refine aB rfl (aI (v := .bool (true)) (b := true) rfl rfl rfl rfl) rfl rfl ?_
   refine aH ?_
   refine aG ?_
   refine bX rfl ?_
   refine wp_seq ?_
   refine aM [0] rfl ?_
   refine aA ?_
   refine aB rfl (aJ rfl) rfl rfl ?_
   refine aH ?_
   refine aG ?_
   refine wp_ret ?_
   refine aU ?_
   have hz20 : ∀ f, aV f x.aT y.aT = false := fun f => eY f x.aT y.aT kO
   have hr21 : dK x y = false := by simp [dK, (Decidable.of_not_not hg10), hz20]
   refine aQ (.inl rfl) Tryz.results41 rfl ?_
   rw [hr21]
   exact ⟨rfl, Ha8.1⟩
  ·refine aA ?_
   refine aR rfl rfl rfl rfl (fun _ ho22 => ?_)
   refine aB ho22 (bO hg18 (bN rfl rfl)) rfl rfl ?_
   refine aA ?_
   refine aB rfl (aI (v := .bool (false)) (b := false) rfl rfl rfl rfl) rfl rfl ?_
   refine aA ?_
   refine aB rfl (aF rfl) rfl rfl ?_
   refine aA ?_
   refine aR rfl rfl rfl rfl (fun _ ho23 => ?_)
   refine aB ho23 (aL fa_80_2 rfl) rfl rfl ?_
   refine aA ?_
   refine aR rfl rfl rfl rfl (fun _ ho24 => ?_)
   refine aB ho24 (aN (k := 2) (v := .slice Ax2 x.Loop.length cx2) Tryz.isAgg76 rfl (Ha8.blk 1 rfl) rfl) rfl rfl ?_
   refine aA ?_
   refine aR rfl rfl rfl rfl (fun _ ho25 => ?_)
   refine aB ho25 (aL fa_80_2 rfl) rfl rfl ?_
   refine aA ?_
   refine aR rfl rfl rfl rfl (fun _ ho26 => ?_)
   refine aB ho26 (aN (k := 2) (v := .slice Ay2 y.Loop.length cy2) Tryz.isAgg76 rfl (Ha8.blk 0 rfl) rfl) rfl rfl ?_
   by_cases hg27 : (aV bS x.Loop y.Loop) = true
   ·refine aA ?_
    refine aR rfl rfl rfl rfl (fun _ ho28 => ?_)
    refine bP ho28 Tryz.call69 (vs := #[.slice Ax2 x.Loop.length cx2, .slice Ay2 y.Loop.length cy2]) rfl rfl rfl (fK (oL x.Loop y.Loop _ _ _ _ _ (aS Ha8.1 hCx2) (aS Ha8.1 hCy2)) hg27) ?_
    rintro e31 W30 ⟨rfl, hu29⟩; refine ⟨_, rfl, ?_⟩
    have H32 := Ha8.no hu29; clear Ha8
    refine aA ?_
    refine aR rfl rfl rfl rfl (fun _ ho33 => ?_)
    refine aB ho33 (gD rfl) rfl rfl ?_
    refine aA ?_
    refine aB rfl (aI (v := .bool (false)) (b := false) rfl rfl rfl rfl) rfl rfl ?_
    refine aA ?_
    refine aB rfl (aF rfl) rfl rfl ?_
    refine aA ?_
    refine aR rfl rfl rfl rfl (fun _ ho34 => ?_)
    refine aB ho34 (aL nV rfl) rfl rfl ?_
    refine aA ?_
    refine aR rfl rfl rfl rfl (fun _ ho35 => ?_)
    refine aB ho35 (aN (k := 3) (v := .slice Ax3 x.bZ.length cx3) Tryz.isAgg77 rfl (H32.blk 1 rfl) rfl) rfl rfl ?_
    refine aA ?_
    refine aR rfl rfl rfl rfl (fun _ ho36 => ?_)
    refine aB ho36 (bQ Tryz.runUnderlying77 rfl) rfl rfl ?_
    refine aA ?_
    refine aR rfl rfl rfl rfl (fun _ ho37 => ?_)
    refine aB ho37 (aL nV rfl) rfl rfl ?_
    refine aA ?_
    refine aR rfl rfl rfl rfl (fun _ ho38 => ?_)
    refine aB ho38 (aN (k := 3) (v := .slice Ay3 y.bZ.length cy3) Tryz.isAgg77 rfl (H32.blk 0 rfl) rfl) rfl rfl ?_
    refine aA ?_
    refine aR rfl rfl rfl rfl (fun _ ho39 => ?_)
    refine aB ho39 (bQ Tryz.runUnderlying77 rfl) rfl rfl ?_
    by_cases hg40 : ¬ ((x.bZ.length : Nat) : Int) = (y.bZ.length : Nat)
    ·refine aA ?_
     refine aR rfl rfl rfl rfl (fun _ ho41 => ?_)
     refine aB ho41 (bV hg40 (bN rfl rfl)) rfl rfl ?_
     refine aA ?_
     refine aB rfl (aI (v := .bool (true)) (b := false) rfl rfl rfl rfl) rfl rfl ?_
     refine aA ?_
     refine aB rfl (aF rfl) rfl rfl ?_
     refine aA ?_
     refine aC rfl rfl rfl rfl rfl rfl rfl ?_
     refine aA ?_
     refine aC rfl rfl rfl rfl rfl rfl rfl ?_
     refine aA ?_
     refine aC rfl rfl rfl rfl rfl rfl rfl ?_
     refine aA ?_
     refine aC rfl rfl rfl rfl rfl rfl rfl ?_
     refine aA ?_
     refine aC rfl rfl rfl rfl rfl rfl rfl ?_
     refine aA ?_
     refine aC rfl rfl rfl rfl rfl rfl rfl ?_
     refine aA ?_
     refine aC rfl rfl rfl rfl rfl rfl rfl ?_
     refine aA ?_
     refine aB rfl (aI (v := .bool (true)) (b := true) rfl rfl rfl rfl) rfl rfl ?_
     refine aH ?_
     refine aG ?_
     refine bX rfl ?_
     refine wp_seq ?_
     refine aM [0] rfl ?_
     refine aA ?_
     refine aB rfl (aJ rfl) rfl rfl ?_
     refine aH ?_
     refine aG ?_
     refine wp_ret ?_
     refine aU ?_
     have hz42 : ∀ f, aV f x.bZ y.bZ = false := fun f => eY f x.bZ y.bZ kO
     have hr43 : dK x y = false := by simp [dK, (Decidable.of_not_not hg10), hg27, hz42]
     refine aQ (.inl rfl) Tryz.results41 rfl ?_
     rw [hr43]
     exact ⟨rfl, H32.1⟩
    ·refine aA ?_
     refine aR rfl rfl rfl rfl (fun _ ho44 => ?_)
     refine aB ho44 (bO hg40 (bN rfl rfl)) rfl rfl ?_
     refine aA ?_
     refine aB rfl (aI (v := .bool (false)) (b := false) rfl rfl rfl rfl) rfl rfl ?_
     refine aA ?_
     refine aB rfl (aF rfl) rfl rfl ?_
     refine aA ?_
     refine aR rfl rfl rfl rfl (fun _ ho45 => ?_)
     refine aB ho45 (aL jZ rfl) rfl rfl ?_
     refine aA ?_
     refine aR rfl rfl rfl rfl (fun _ ho46 => ?_)
     refine aB ho46 (aN (k := 4) (v := .slice Ax4 x.Out.length cx4) Tryz.isAgg78 rfl (H32.blk 1 rfl) rfl) rfl rfl ?_
     refine aA ?_
     refine aR rfl rfl rfl rfl (fun _ ho47 => ?_)
     refine aB ho47 (bQ Tryz.runUnderlying78 rfl) rfl rfl ?_
     refine aA ?_
     refine aR rfl rfl rfl rfl (fun _ ho48 => ?_)
     refine aB ho48 (aL jZ rfl) rfl rfl ?_
     refine aA ?_
     refine aR rfl rfl rfl rfl (fun _ ho49 => ?_)
     refine aB ho49 (aN (k := 4) (v := .slice Ay4 y.Out.length cy4) Tryz.isAgg78 rfl (H32.blk 0 rfl) rfl) rfl rfl ?_
     refine aA ?_
     refine aR rfl rfl rfl rfl (fun _ ho50 => ?_)
     refine aB ho50 (bQ Tryz.runUnderlying78 rfl) rfl rfl ?_
     by_cases hg51 : ¬ ((x.Out.length : Nat) : Int) = (y.Out.length : Nat)
     ·refine aA ?_
      refine aR rfl rfl rfl rfl (fun _ ho52 => ?_)
      refine aB ho52 (bV hg51 (bN rfl rfl)) rfl rfl ?_
      refine aA ?_
      refine aB rfl (aI (v := .bool (true)) (b := false) rfl rfl rfl rfl) rfl rfl ?_
      refine aH ?_
      refine aG ?_
      refine bX rfl ?_
      refine wp_seq ?_
      refine aM [0] rfl ?_
      refine aA ?_
      refine aB rfl (aJ rfl) rfl rfl ?_
      refine aH ?_
      refine aG ?_
      refine wp_ret ?_
      refine aU ?_
      have hz53 : ∀ f, aV f x.Out y.Out = false := fun f => eY f x.Out y.Out kO
      have hr54 : dK x y = false := by simp [dK, (Decidable.of_not_not hg10), hg27, hz53]
      refine aQ (.inl rfl) Tryz.results41 rfl ?_
      rw [hr54]
      exact ⟨rfl, H32.1⟩
     ·refine aA ?_
      refine aR rfl rfl rfl rfl (fun _ ho55 => ?_)
      refine aB ho55 (bO hg51 (bN rfl rfl)) rfl rfl ?_
      refine aA ?_
      refine aB rfl (aI (v := .bool (false)) (b := false) rfl rfl rfl rfl) rfl rfl ?_
      refine aH ?_
      refine aG ?_
      refine dU rfl ?_
      refine wp_skip ?_
      refine aG ?_
      refine wp_seq ?_
      refine wp_seq ?_
      refine aM [0] rfl ?_
      refine aA ?_
      refine aB rfl (aJ rfl) rfl rfl ?_
      refine aH ?_
      refine aG ?_
      refine wp_block ?_
      refine wp_loop_ghost (fun r a' W' => ∃ (i1 : Nat) (x' : Nat → Value), a' = bT 122 x' [(2, .pointer (some ⟨g_0_0, 0, none⟩)), (3, .pointer (some ⟨g_0_1, 0, none⟩)), (5, .int .i64 (((i1 : Nat) : Int)))] ∧ (i1 + r = x.aT.length) ∧ (aV aZ x.aT y.aT = aV aZ (x.aT.drop i1) (y.aT.drop i1)) ∧ St w No [hB g_0_1 80 #[.int .i64 (y.Id), .slice Ay1 y.aT.length cy1, .slice Ay2 y.Loop.length cy2, .slice Ay3 y.bZ.length cy3, .slice Ay4 y.Out.length cy4], hB g_0_0 80 #[.int .i64 (x.Id), .slice Ax1 x.aT.length cx1, .slice Ax2 x.Loop.length cx2, .slice Ax3 x.bZ.length cx3, .slice Ax4 x.Out.length cx4]] W') x.aT.length ?_ ?_
      ·exact (bA [(2, .pointer (some ⟨g_0_0, 0, none⟩)), (3, .pointer (some ⟨g_0_1, 0, none⟩)), (5, .int .i64 (((0 : Nat) : Int)))] rfl).elim fun x' hx => ⟨0, x', hx, kO, rfl, H32⟩
      ·rintro r56 _ W57 ⟨i1, x58, rfl, hi1, hf1, H59⟩; clear H32
       refine wp_seq ?_
       refine wp_seq ?_
       refine aM [0, 1, 2, 3, 4] rfl ?_
       refine aA ?_
       refine aB rfl (aF rfl) rfl rfl ?_
       refine aA ?_
       refine aB rfl (aL nU rfl) rfl rfl ?_
       refine aA ?_
       refine aB rfl (aN (k := 1) (v := .slice Ax1 x.aT.length cx1) Tryz.isAgg75 rfl (H59.blk 1 rfl) rfl) rfl rfl ?_
       refine aA ?_
       refine aB rfl (bQ Tryz.runUnderlying75 rfl) rfl rfl ?_
       refine aA ?_
       refine aB rfl (gY rfl rfl) rfl rfl ?_
       refine aH ?_
       refine aG ?_
       refine eP rfl (fun hc60 => ?_) (fun hc60 => ?_)
       ·have hlt1 : i1 < x.aT.length := by omega
        have hlu1 : i1 < y.aT.length := by omega
        obtain ⟨ade61, cse61, hAe61, hKe61, hce61⟩ := dO hCx1 i1 hlt1
        have hle61 := nG hKe61
        have hoe61 := nH hKe61
        obtain ⟨ade62, cse62, hAe62, hKe62, hce62⟩ := dO hCy1 i1 hlu1
        have hle62 := nG hKe62
        have hoe62 := nH hKe62
        refine wp_skip ?_
        refine aG ?_
        refine wp_seq ?_
        refine wp_block ?_
        refine wp_seq ?_
        by_cases hg63 : (aZ (x.aT[i1]) (y.aT[i1])) = true
        ·refine dD (fun W' => Blk W' g_0_0 80 #[.int .i64 (x.Id), .slice Ax1 x.aT.length cx1, .slice Ax2 x.Loop.length cx2, .slice Ax3 x.bZ.length cx3, .slice Ax4 x.Out.length cx4] ∧ Cat W' (Addr.add ade61 (i1 * 12)) cse61 ∧ Blk W' g_0_1 80 #[.int .i64 (y.Id), .slice Ay1 y.aT.length cy1, .slice Ay2 y.Loop.length cy2, .slice Ay3 y.bZ.length cy3, .slice Ay4 y.Out.length cy4] ∧ Cat W' (Addr.add ade62 (i1 * 12)) cse62) 12 kR ?_
         have H64 := H59.drew; clear H59
         have hS65 : Blk W57.drew g_0_0 80 #[.int .i64 (x.Id), .slice Ax1 x.aT.length cx1, .slice Ax2 x.Loop.length cx2, .slice Ax3 x.bZ.length cx3, .slice Ax4 x.Out.length cx4] ∧ Cat W57.drew (Addr.add ade61 (i1 * 12)) cse61 ∧ Blk W57.drew g_0_1 80 #[.int .i64 (y.Id), .slice Ay1 y.aT.length cy1, .slice Ay2 y.Loop.length cy2, .slice Ay3 y.bZ.length cy3, .slice Ay4 y.Out.length cy4] ∧ Cat W57.drew (Addr.add ade62 (i1 * 12)) cse62 := ⟨H64.blk 1 rfl, (Cat.upd hce61 H64.1), H64.blk 0 rfl, (Cat.upd hce62 H64.1)⟩
         refine aD (i := 0) rfl kR kR kR kR kR (fun _ _ _ h => h) rfl rfl hS65 (fun W' hs' => aL nU rfl) ?_
         refine aD (i := 1) rfl kR kR kR kR kR (fun _ _ _ h => h) rfl rfl hS65 (fun W' hs' => aN (k := 1) (v := .slice Ax1 x.aT.length cx1) Tryz.isAgg75 rfl hs'.1 rfl) ?_
         refine aD (i := 2) rfl kR kR kR kR kR (fun _ _ _ h => h) rfl rfl hS65 (fun W' hs' => aF rfl) ?_
         refine aD (i := 3) rfl kR kR kR kR kR (fun _ _ _ h => h) rfl rfl hS65 (fun W' hs' => aP (k := i1) Tryz.runUnderlying75 Tryz.sizeOf132 rfl rfl hAe61 hlt1) ?_
         refine aD (i := 4) rfl kR kR kR kR kR (fun _ _ _ h => h) rfl rfl hS65 (fun W' hs' => aY Tryz.isAgg132 Tryz.sizeOf132 rfl hs'.2.1 hle61) ?_
         refine aD (i := 5) rfl kR kR kR kR kR (fun _ _ _ h => h) rfl rfl hS65 (fun W' hs' => aL nU rfl) ?_
         refine aD (i := 6) rfl kR kR kR kR kR (fun _ _ _ h => h) rfl rfl hS65 (fun W' hs' => aN (k := 1) (v := .slice Ay1 y.aT.length cy1) Tryz.isAgg75 rfl hs'.2.2.1 rfl) ?_
         refine aD (i := 7) rfl kR kR kR kR kR (fun _ _ _ h => h) rfl rfl hS65 (fun W' hs' => aF rfl) ?_
         refine aD (i := 8) rfl kR kR kR kR kR (fun _ _ _ h => h) rfl rfl hS65 (fun W' hs' => aP (k := i1) Tryz.runUnderlying75 Tryz.sizeOf132 rfl rfl hAe62 hlu1) ?_
         refine aD (i := 9) rfl kR kR kR kR kR (fun _ _ _ h => h) rfl rfl hS65 (fun W' hs' => aY Tryz.isAgg132 Tryz.sizeOf132 rfl hs'.2.2.2 hle62) ?_
         refine gW (i := 10) kR ?_
         refine bP rfl Tryz.call70 (vs := #[.agg (List.toArray cse61), .agg (List.toArray cse62)]) rfl rfl rfl (fK (equalEntities_s (x.aT[i1]) (y.aT[i1]) _ _ _ (fE H64.1 hKe61) (fE H64.1 hKe62)) hg63) ?_
         rintro e68 W67 ⟨rfl, hu66⟩; refine ⟨_, rfl, ?_⟩
         have H69 := H64.no hu66; clear H64
         have hS70 := And.intro (H69.blk 1 rfl) (And.intro (Cat.upd hce61 H69.1) (And.intro (H69.blk 0 rfl) ((Cat.upd hce62 H69.1)))); refine ⟨fun _ => hS70, ?_⟩
         refine aD (i := 11) rfl kR kR kR kR kR (fun _ _ _ h => h) rfl rfl hS70 (fun W' hs' => gD rfl) ?_
         refine bU kR ?_ _
         refine aG ?_
         refine dU rfl ?_
         refine wp_skip ?_
         refine iY ?_
         refine aG ?_
         refine aM [0, 1, 2] rfl ?_
         refine aA ?_
         refine aB rfl (aF rfl) rfl rfl ?_
         refine aA ?_
         refine aB rfl (iB (k := i1) rfl rfl kO) rfl rfl ?_
         refine aA ?_
         refine aB rfl (aJ rfl) rfl rfl ?_
         refine aH ?_
         refine aG ?_
         exact (bA [(2, .pointer (some ⟨g_0_0, 0, none⟩)), (3, .pointer (some ⟨g_0_1, 0, none⟩)), (5, .int .i64 (((i1 + 1 : Nat) : Int)))] rfl).elim fun x' hx => ⟨r56 - 1, kO, i1 + 1, x', hx, kO, (hf1.trans (fC aZ x.aT y.aT i1 hlt1 hlu1 hg63)), H69⟩
        ·refine dD (fun W' => Blk W' g_0_0 80 #[.int .i64 (x.Id), .slice Ax1 x.aT.length cx1, .slice Ax2 x.Loop.length cx2, .slice Ax3 x.bZ.length cx3, .slice Ax4 x.Out.length cx4] ∧ Cat W' (Addr.add ade61 (i1 * 12)) cse61 ∧ Blk W' g_0_1 80 #[.int .i64 (y.Id), .slice Ay1 y.aT.length cy1, .slice Ay2 y.Loop.length cy2, .slice Ay3 y.bZ.length cy3, .slice Ay4 y.Out.length cy4] ∧ Cat W' (Addr.add ade62 (i1 * 12)) cse62) 12 kR ?_
         have H71 := H59.drew; clear H59
         have hS72 : Blk W57.drew g_0_0 80 #[.int .i64 (x.Id), .slice Ax1 x.aT.length cx1, .slice Ax2 x.Loop.length cx2, .slice Ax3 x.bZ.length cx3, .slice Ax4 x.Out.length cx4] ∧ Cat W57.drew (Addr.add ade61 (i1 * 12)) cse61 ∧ Blk W57.drew g_0_1 80 #[.int .i64 (y.Id), .slice Ay1 y.aT.length cy1, .slice Ay2 y.Loop.length cy2, .slice Ay3 y.bZ.length cy3, .slice Ay4 y.Out.length cy4] ∧ Cat W57.drew (Addr.add ade62 (i1 * 12)) cse62 := ⟨H71.blk 1 rfl, (Cat.upd hce61 H71.1), H71.blk 0 rfl, (Cat.upd hce62 H71.1)⟩
         refine aD (i := 0) rfl kR kR kR kR kR (fun _ _ _ h => h) rfl rfl hS72 (fun W' hs' => aL nU rfl) ?_
         refine aD (i := 1) rfl kR kR kR kR kR (fun _ _ _ h => h) rfl rfl hS72 (fun W' hs' => aN (k := 1) (v := .slice Ax1 x.aT.length cx1) Tryz.isAgg75 rfl hs'.1 rfl) ?_
         refine aD (i := 2) rfl kR kR kR kR kR (fun _ _ _ h => h) rfl rfl hS72 (fun W' hs' => aF rfl) ?_
         refine aD (i := 3) rfl kR kR kR kR kR (fun _ _ _ h => h) rfl rfl hS72 (fun W' hs' => aP (k := i1) Tryz.runUnderlying75 Tryz.sizeOf132 rfl rfl hAe61 hlt1) ?_
         refine aD (i := 4) rfl kR kR kR kR kR (fun _ _ _ h => h) rfl rfl hS72 (fun W' hs' => aY Tryz.isAgg132 Tryz.sizeOf132 rfl hs'.2.1 hle61) ?_
         refine aD (i := 5) rfl kR kR kR kR kR (fun _ _ _ h => h) rfl rfl hS72 (fun W' hs' => aL nU rfl) ?_
         refine aD (i := 6) rfl kR kR kR kR kR (fun _ _ _ h => h) rfl rfl hS72 (fun W' hs' => aN (k := 1) (v := .slice Ay1 y.aT.length cy1) Tryz.isAgg75 rfl hs'.2.2.1 rfl) ?_
         refine aD (i := 7) rfl kR kR kR kR kR (fun _ _ _ h => h) rfl rfl hS72 (fun W' hs' => aF rfl) ?_
         refine aD (i := 8) rfl kR kR kR kR kR (fun _ _ _ h => h) rfl rfl hS72 (fun W' hs' => aP (k := i1) Tryz.runUnderlying75 Tryz.sizeOf132 rfl rfl hAe62 hlu1) ?_
         refine aD (i := 9) rfl kR kR kR kR kR (fun _ _ _ h => h) rfl rfl hS72 (fun W' hs' => aY Tryz.isAgg132 Tryz.sizeOf132 rfl hs'.2.2.2 hle62) ?_
         refine gW (i := 10) kR ?_
         refine bP rfl Tryz.call70 (vs := #[.agg (List.toArray cse61), .agg (List.toArray cse62)]) rfl rfl rfl (fK (equalEntities_s (x.aT[i1]) (y.aT[i1]) _ _ _ (fE H71.1 hKe61) (fE H71.1 hKe62)) (eq_false_of_ne_true hg63)) ?_
         rintro e75 W74 ⟨rfl, hu73⟩; refine ⟨_, rfl, ?_⟩
         have H76 := H71.no hu73; clear H71
         have hS77 := And.intro (H76.blk 1 rfl) (And.intro (Cat.upd hce61 H76.1) (And.intro (H76.blk 0 rfl) ((Cat.upd hce62 H76.1)))); refine ⟨fun _ => hS77, ?_⟩
         refine aD (i := 11) rfl kR kR kR kR kR (fun _ _ _ h => h) rfl rfl hS77 (fun W' hs' => gD rfl) ?_
         refine bU kR ?_ _
         refine aG ?_
         refine bX rfl ?_
         refine wp_seq ?_
         refine aM [0] rfl ?_
         refine aA ?_
         refine aB rfl (aJ rfl) rfl rfl ?_
         refine aH ?_
         refine aG ?_
         refine wp_ret ?_
         refine dS ?_
         refine aU ?_
         refine aU ?_
         refine dS ?_
         refine aU ?_
         have hz78 : aV aZ x.aT y.aT = false := hf1.trans (eG aZ x.aT y.aT i1 hlt1 hlu1 (eq_false_of_ne_true hg63))
         have hr79 : dK x y = false := by simp [dK, (Decidable.of_not_not hg10), hg27, hg63, hz78]
         refine aQ (.inl rfl) Tryz.results41 rfl ?_
         rw [hr79]
         exact ⟨rfl, H76.1⟩
       ·have hd1 : aV aZ x.aT y.aT = true := hf1.trans (fD aZ x.aT y.aT i1 kO kO)
        refine wp_exit ?_
        refine dP ?_
        refine dP ?_
        refine iZ ?_
        refine aG ?_
        refine wp_seq ?_
        refine wp_seq ?_
        refine aM [0] rfl ?_
        refine aA ?_
        refine aB rfl (aJ rfl) rfl rfl ?_
        refine aH ?_
        refine aG ?_
        refine wp_block ?_
        refine wp_loop_ghost (fun r a' W' => ∃ (i2 : Nat) (x' : Nat → Value), a' = bT 122 x' [(2, .pointer (some ⟨g_0_0, 0, none⟩)), (3, .pointer (some ⟨g_0_1, 0, none⟩)), (6, .int .i64 (((i2 : Nat) : Int)))] ∧ (i2 + r = x.bZ.length) ∧ (aV cK x.bZ y.bZ = aV cK (x.bZ.drop i2) (y.bZ.drop i2)) ∧ St w No [hB g_0_1 80 #[.int .i64 (y.Id), .slice Ay1 y.aT.length cy1, .slice Ay2 y.Loop.length cy2, .slice Ay3 y.bZ.length cy3, .slice Ay4 y.Out.length cy4], hB g_0_0 80 #[.int .i64 (x.Id), .slice Ax1 x.aT.length cx1, .slice Ax2 x.Loop.length cx2, .slice Ax3 x.bZ.length cx3, .slice Ax4 x.Out.length cx4]] W') x.bZ.length ?_ ?_
        ·exact (bA [(2, .pointer (some ⟨g_0_0, 0, none⟩)), (3, .pointer (some ⟨g_0_1, 0, none⟩)), (6, .int .i64 (((0 : Nat) : Int)))] rfl).elim fun x' hx => ⟨0, x', hx, kO, rfl, H59⟩
        ·rintro r80 _ W81 ⟨i2, x82, rfl, hi2, hf2, H83⟩; clear H59
         refine wp_seq ?_
         refine wp_seq ?_
         refine aM [0, 1, 2, 3, 4] rfl ?_
         refine aA ?_
         refine aB rfl (aF rfl) rfl rfl ?_
         refine aA ?_
         refine aB rfl (aL nV rfl) rfl rfl ?_
         refine aA ?_
         refine aB rfl (aN (k := 3) (v := .slice Ax3 x.bZ.length cx3) Tryz.isAgg77 rfl (H83.blk 1 rfl) rfl) rfl rfl ?_
         refine aA ?_
         refine aB rfl (bQ Tryz.runUnderlying77 rfl) rfl rfl ?_
         refine aA ?_
         refine aB rfl (gY rfl rfl) rfl rfl ?_
         refine aH ?_
         refine aG ?_
         refine eP rfl (fun hc84 => ?_) (fun hc84 => ?_)
         ·have hlt2 : i2 < x.bZ.length := by omega
          have hlu2 : i2 < y.bZ.length := by omega
          obtain ⟨ade85, cse85, hAe85, hKe85, hce85⟩ := dO hCx3 i2 hlt2
          have hle85 := o6 hKe85
          have hoe85 := o7 hKe85
          obtain ⟨ade86, cse86, hAe86, hKe86, hce86⟩ := dO hCy3 i2 hlu2
          have hle86 := o6 hKe86
          have hoe86 := o7 hKe86
          refine wp_skip ?_
          refine aG ?_
          refine wp_seq ?_
          refine wp_block ?_
          refine wp_seq ?_
          by_cases hg87 : (cK (x.bZ[i2]) (y.bZ[i2])) = true
          ·refine dD (fun W' => Blk W' g_0_0 80 #[.int .i64 (x.Id), .slice Ax1 x.aT.length cx1, .slice Ax2 x.Loop.length cx2, .slice Ax3 x.bZ.length cx3, .slice Ax4 x.Out.length cx4] ∧ Cat W' (Addr.add ade85 (i2 * 7)) cse85 ∧ Blk W' g_0_1 80 #[.int .i64 (y.Id), .slice Ay1 y.aT.length cy1, .slice Ay2 y.Loop.length cy2, .slice Ay3 y.bZ.length cy3, .slice Ay4 y.Out.length cy4] ∧ Cat W' (Addr.add ade86 (i2 * 7)) cse86) 12 kR ?_
           have H88 := H83.drew; clear H83
           have hS89 : Blk W81.drew g_0_0 80 #[.int .i64 (x.Id), .slice Ax1 x.aT.length cx1, .slice Ax2 x.Loop.length cx2, .slice Ax3 x.bZ.length cx3, .slice Ax4 x.Out.length cx4] ∧ Cat W81.drew (Addr.add ade85 (i2 * 7)) cse85 ∧ Blk W81.drew g_0_1 80 #[.int .i64 (y.Id), .slice Ay1 y.aT.length cy1, .slice Ay2 y.Loop.length cy2, .slice Ay3 y.bZ.length cy3, .slice Ay4 y.Out.length cy4] ∧ Cat W81.drew (Addr.add ade86 (i2 * 7)) cse86 := ⟨H88.blk 1 rfl, (Cat.upd hce85 H88.1), H88.blk 0 rfl, (Cat.upd hce86 H88.1)⟩
           refine aD (i := 0) rfl kR kR kR kR kR (fun _ _ _ h => h) rfl rfl hS89 (fun W' hs' => aL nV rfl) ?_
           refine aD (i := 1) rfl kR kR kR kR kR (fun _ _ _ h => h) rfl rfl hS89 (fun W' hs' => aN (k := 3) (v := .slice Ax3 x.bZ.length cx3) Tryz.isAgg77 rfl hs'.1 rfl) ?_
           refine aD (i := 2) rfl kR kR kR kR kR (fun _ _ _ h => h) rfl rfl hS89 (fun W' hs' => aF rfl) ?_
           refine aD (i := 3) rfl kR kR kR kR kR (fun _ _ _ h => h) rfl rfl hS89 (fun W' hs' => aP (k := i2) Tryz.runUnderlying77 Tryz.sizeOf137 rfl rfl hAe85 hlt2) ?_
           refine aD (i := 4) rfl kR kR kR kR kR (fun _ _ _ h => h) rfl rfl hS89 (fun W' hs' => aY Tryz.isAgg137 Tryz.sizeOf137 rfl hs'.2.1 hle85) ?_
           refine aD (i := 5) rfl kR kR kR kR kR (fun _ _ _ h => h) rfl rfl hS89 (fun W' hs' => aL nV rfl) ?_
           refine aD (i := 6) rfl kR kR kR kR kR (fun _ _ _ h => h) rfl rfl hS89 (fun W' hs' => aN (k := 3) (v := .slice Ay3 y.bZ.length cy3) Tryz.isAgg77 rfl hs'.2.2.1 rfl) ?_
           refine aD (i := 7) rfl kR kR kR kR kR (fun _ _ _ h => h) rfl rfl hS89 (fun W' hs' => aF rfl) ?_
           refine aD (i := 8) rfl kR kR kR kR kR (fun _ _ _ h => h) rfl rfl hS89 (fun W' hs' => aP (k := i2) Tryz.runUnderlying77 Tryz.sizeOf137 rfl rfl hAe86 hlu2) ?_
           refine aD (i := 9) rfl kR kR kR kR kR (fun _ _ _ h => h) rfl rfl hS89 (fun W' hs' => aY Tryz.isAgg137 Tryz.sizeOf137 rfl hs'.2.2.2 hle86) ?_
           refine gW (i := 10) kR ?_
           refine bP rfl Tryz.call71 (vs := #[.agg (List.toArray cse85), .agg (List.toArray cse86)]) rfl rfl rfl (fK (equalLinks_s (x.bZ[i2]) (y.bZ[i2]) _ _ _ (fE H88.1 hKe85) (fE H88.1 hKe86)) hg87) ?_
           rintro e92 W91 ⟨rfl, hu90⟩; refine ⟨_, rfl, ?_⟩
           have H93 := H88.no hu90; clear H88
           have hS94 := And.intro (H93.blk 1 rfl) (And.intro (Cat.upd hce85 H93.1) (And.intro (H93.blk 0 rfl) ((Cat.upd hce86 H93.1)))); refine ⟨fun _ => hS94, ?_⟩
           refine aD (i := 11) rfl kR kR kR kR kR (fun _ _ _ h => h) rfl rfl hS94 (fun W' hs' => gD rfl) ?_
           refine bU kR ?_ _
           refine aG ?_
           refine dU rfl ?_
           refine wp_skip ?_
           refine iY ?_
           refine aG ?_
           refine aM [0, 1, 2] rfl ?_
           refine aA ?_
           refine aB rfl (aF rfl) rfl rfl ?_
           refine aA ?_
           refine aB rfl (iB (k := i2) rfl rfl kO) rfl rfl ?_
           refine aA ?_
           refine aB rfl (aJ rfl) rfl rfl ?_
           refine aH ?_
           refine aG ?_
           exact (bA [(2, .pointer (some ⟨g_0_0, 0, none⟩)), (3, .pointer (some ⟨g_0_1, 0, none⟩)), (6, .int .i64 (((i2 + 1 : Nat) : Int)))] rfl).elim fun x' hx => ⟨r80 - 1, kO, i2 + 1, x', hx, kO, (hf2.trans (fC cK x.bZ y.bZ i2 hlt2 hlu2 hg87)), H93⟩
          ·refine dD (fun W' => Blk W' g_0_0 80 #[.int .i64 (x.Id), .slice Ax1 x.aT.length cx1, .slice Ax2 x.Loop.length cx2, .slice Ax3 x.bZ.length cx3, .slice Ax4 x.Out.length cx4] ∧ Cat W' (Addr.add ade85 (i2 * 7)) cse85 ∧ Blk W' g_0_1 80 #[.int .i64 (y.Id), .slice Ay1 y.aT.length cy1, .slice Ay2 y.Loop.length cy2, .slice Ay3 y.bZ.length cy3, .slice Ay4 y.Out.length cy4] ∧ Cat W' (Addr.add ade86 (i2 * 7)) cse86) 12 kR ?_
           have H95 := H83.drew; clear H83
           have hS96 : Blk W81.drew g_0_0 80 #[.int .i64 (x.Id), .slice Ax1 x.aT.length cx1, .slice Ax2 x.Loop.length cx2, .slice Ax3 x.bZ.length cx3, .slice Ax4 x.Out.length cx4] ∧ Cat W81.drew (Addr.add ade85 (i2 * 7)) cse85 ∧ Blk W81.drew g_0_1 80 #[.int .i64 (y.Id), .slice Ay1 y.aT.length cy1, .slice Ay2 y.Loop.length cy2, .slice Ay3 y.bZ.length cy3, .slice Ay4 y.Out.length cy4] ∧ Cat W81.drew (Addr.add ade86 (i2 * 7)) cse86 := ⟨H95.blk 1 rfl, (Cat.upd hce85 H95.1), H95.blk 0 rfl, (Cat.upd hce86 H95.1)⟩
           refine aD (i := 0) rfl kR kR kR kR kR (fun _ _ _ h => h) rfl rfl hS96 (fun W' hs' => aL nV rfl) ?_
           refine aD (i := 1) rfl kR kR kR kR kR (fun _ _ _ h => h) rfl rfl hS96 (fun W' hs' => aN (k := 3) (v := .slice Ax3 x.bZ.length cx3) Tryz.isAgg77 rfl hs'.1 rfl) ?_
           refine aD (i := 2) rfl kR kR kR kR kR (fun _ _ _ h => h) rfl rfl hS96 (fun W' hs' => aF rfl) ?_
           refine aD (i := 3) rfl kR kR kR kR kR (fun _ _ _ h => h) rfl rfl hS96 (fun W' hs' => aP (k := i2) Tryz.runUnderlying77 Tryz.sizeOf137 rfl rfl hAe85 hlt2) ?_
           refine aD (i := 4) rfl kR kR kR kR kR (fun _ _ _ h => h) rfl rfl hS96 (fun W' hs' => aY Tryz.isAgg137 Tryz.sizeOf137 rfl hs'.2.1 hle85) ?_
           refine aD (i := 5) rfl kR kR kR kR kR (fun _ _ _ h => h) rfl rfl hS96 (fun W' hs' => aL nV rfl) ?_
           refine aD (i := 6) rfl kR kR kR kR kR (fun _ _ _ h => h) rfl rfl hS96 (fun W' hs' => aN (k := 3) (v := .slice Ay3 y.bZ.length cy3) Tryz.isAgg77 rfl hs'.2.2.1 rfl) ?_
           refine aD (i := 7) rfl kR kR kR kR kR (fun _ _ _ h => h) rfl rfl hS96 (fun W' hs' => aF rfl) ?_
           refine aD (i := 8) rfl kR kR kR kR kR (fun _ _ _ h => h) rfl rfl hS96 (fun W' hs' => aP (k := i2) Tryz.runUnderlying77 Tryz.sizeOf137 rfl rfl hAe86 hlu2) ?_
           refine aD (i := 9) rfl kR kR kR kR kR (fun _ _ _ h => h) rfl rfl hS96 (fun W' hs' => aY Tryz.isAgg137 Tryz.sizeOf137 rfl hs'.2.2.2 hle86) ?_
           refine gW (i := 10) kR ?_
           refine bP rfl Tryz.call71 (vs := #[.agg (List.toArray cse85), .agg (List.toArray cse86)]) rfl rfl rfl (fK (equalLinks_s (x.bZ[i2]) (y.bZ[i2]) _ _ _ (fE H95.1 hKe85) (fE H95.1 hKe86)) (eq_false_of_ne_true hg87)) ?_
           rintro e99 W98 ⟨rfl, hu97⟩; refine ⟨_, rfl, ?_⟩
           have H100 := H95.no hu97; clear H95
           have hS101 := And.intro (H100.blk 1 rfl) (And.intro (Cat.upd hce85 H100.1) (And.intro (H100.blk 0 rfl) ((Cat.upd hce86 H100.1)))); refine ⟨fun _ => hS101, ?_⟩
           refine aD (i := 11) rfl kR kR kR kR kR (fun _ _ _ h => h) rfl rfl hS101 (fun W' hs' => gD rfl) ?_
           refine bU kR ?_ _
           refine aG ?_
           refine bX rfl ?_
           refine wp_seq ?_
           refine aM [0] rfl ?_
           refine aA ?_
           refine aB rfl (aJ rfl) rfl rfl ?_
           refine aH ?_
           refine aG ?_
           refine wp_ret ?_
           refine dS ?_
           refine aU ?_
           refine aU ?_
           refine dS ?_
           refine aU ?_
           have hz102 : aV cK x.bZ y.bZ = false := hf2.trans (eG cK x.bZ y.bZ i2 hlt2 hlu2 (eq_false_of_ne_true hg87))
           have hr103 : dK x y = false := by simp [dK, (Decidable.of_not_not hg10), hg27, hg87, hd1, hz102]
           refine aQ (.inl rfl) Tryz.results41 rfl ?_
           rw [hr103]
           exact ⟨rfl, H100.1⟩
         ·have hd2 : aV cK x.bZ y.bZ = true := hf2.trans (fD cK x.bZ y.bZ i2 kO kO)
          refine wp_exit ?_
          refine dP ?_
          refine dP ?_
          refine iZ ?_
          refine aG ?_
          refine wp_seq ?_
          refine wp_seq ?_
          refine aM [0] rfl ?_
          refine aA ?_
          refine aB rfl (aJ rfl) rfl rfl ?_
          refine aH ?_
          refine aG ?_
          refine wp_block ?_
          refine wp_loop_ghost (fun r a' W' => ∃ (i3 : Nat) (x' : Nat → Value), a' = bT 122 x' [(2, .pointer (some ⟨g_0_0, 0, none⟩)), (3, .pointer (some ⟨g_0_1, 0, none⟩)), (7, .int .i64 (((i3 : Nat) : Int)))] ∧ (i3 + r = x.Out.length) ∧ (aV dA x.Out y.Out = aV dA (x.Out.drop i3) (y.Out.drop i3)) ∧ St w No [hB g_0_1 80 #[.int .i64 (y.Id), .slice Ay1 y.aT.length cy1, .slice Ay2 y.Loop.length cy2, .slice Ay3 y.bZ.length cy3, .slice Ay4 y.Out.length cy4], hB g_0_0 80 #[.int .i64 (x.Id), .slice Ax1 x.aT.length cx1, .slice Ax2 x.Loop.length cx2, .slice Ax3 x.bZ.length cx3, .slice Ax4 x.Out.length cx4]] W') x.Out.length ?_ ?_
          ·exact (bA [(2, .pointer (some ⟨g_0_0, 0, none⟩)), (3, .pointer (some ⟨g_0_1, 0, none⟩)), (7, .int .i64 (((0 : Nat) : Int)))] rfl).elim fun x' hx => ⟨0, x', hx, kO, rfl, H83⟩
          ·rintro r104 _ W105 ⟨i3, x106, rfl, hi3, hf3, H107⟩; clear H83
           refine wp_seq ?_
           refine wp_seq ?_
           refine aM [0, 1, 2, 3, 4] rfl ?_
           refine aA ?_
           refine aB rfl (aF rfl) rfl rfl ?_
           refine aA ?_
           refine aB rfl (aL jZ rfl) rfl rfl ?_
           refine aA ?_
           refine aB rfl (aN (k := 4) (v := .slice Ax4 x.Out.length cx4) Tryz.isAgg78 rfl (H107.blk 1 rfl) rfl) rfl rfl ?_
           refine aA ?_
           refine aB rfl (bQ Tryz.runUnderlying78 rfl) rfl rfl ?_
           refine aA ?_
           refine aB rfl (gY rfl rfl) rfl rfl ?_
           refine aH ?_
           refine aG ?_
           refine eP rfl (fun hc108 => ?_) (fun hc108 => ?_)
           ·have hlt3 : i3 < x.Out.length := by omega
            have hlu3 : i3 < y.Out.length := by omega
            obtain ⟨ade109, cse109, hAe109, hKe109, hce109⟩ := dO hCx4 i3 hlt3
            have hle109 := lS hKe109
            have hoe109 := lT hKe109
            obtain ⟨ade110, cse110, hAe110, hKe110, hce110⟩ := dO hCy4 i3 hlu3
            have hle110 := lS hKe110
            have hoe110 := lT hKe110
            obtain ⟨Aade109_6, cade109_6, rfl, hlade109_6, hCade109_6⟩ := jO hKe109
            obtain ⟨Aade110_6, cade110_6, rfl, hlade110_6, hCade110_6⟩ := jO hKe110
            refine wp_skip ?_
            refine aG ?_
            refine wp_seq ?_
            refine wp_block ?_
            refine wp_seq ?_
            by_cases hg111 : ¬ ((x.Out[i3].To) : Int) = (y.Out[i3].To)
            ·refine dD (fun W' => Blk W' g_0_0 80 #[.int .i64 (x.Id), .slice Ax1 x.aT.length cx1, .slice Ax2 x.Loop.length cx2, .slice Ax3 x.bZ.length cx3, .slice Ax4 x.Out.length cx4] ∧ Cat W' (Addr.add ade109 (i3 * 13)) [.int .i64 (x.Out[i3].To), .int .i64 (x.Out[i3].Message.Kind), .int .i64 (x.Out[i3].Message.Pos), .int .i64 (x.Out[i3].Message.dH), .int .i64 (x.Out[i3].Message.Question), .string (x.Out[i3].Message.Name), .slice Aade109_6 (x.Out[i3].Message.bD.length) cade109_6, .int .i64 (x.Out[i3].Message.Value.Kind), .int .i64 (x.Out[i3].Message.Value.N), .int .i64 (x.Out[i3].Message.Count), .int .i64 (x.Out[i3].Message.Tag.Vat), .int .i64 (x.Out[i3].Message.Tag.Entity), .int .i64 (x.Out[i3].Message.Tag.Seq)] ∧ Blk W' g_0_1 80 #[.int .i64 (y.Id), .slice Ay1 y.aT.length cy1, .slice Ay2 y.Loop.length cy2, .slice Ay3 y.bZ.length cy3, .slice Ay4 y.Out.length cy4] ∧ Cat W' (Addr.add ade110 (i3 * 13)) [.int .i64 (y.Out[i3].To), .int .i64 (y.Out[i3].Message.Kind), .int .i64 (y.Out[i3].Message.Pos), .int .i64 (y.Out[i3].Message.dH), .int .i64 (y.Out[i3].Message.Question), .string (y.Out[i3].Message.Name), .slice Aade110_6 (y.Out[i3].Message.bD.length) cade110_6, .int .i64 (y.Out[i3].Message.Value.Kind), .int .i64 (y.Out[i3].Message.Value.N), .int .i64 (y.Out[i3].Message.Count), .int .i64 (y.Out[i3].Message.Tag.Vat), .int .i64 (y.Out[i3].Message.Tag.Entity), .int .i64 (y.Out[i3].Message.Tag.Seq)]) 29 kR ?_
             have H112 := H107.drew; clear H107
             have hS113 : Blk W105.drew g_0_0 80 #[.int .i64 (x.Id), .slice Ax1 x.aT.length cx1, .slice Ax2 x.Loop.length cx2, .slice Ax3 x.bZ.length cx3, .slice Ax4 x.Out.length cx4] ∧ Cat W105.drew (Addr.add ade109 (i3 * 13)) [.int .i64 (x.Out[i3].To), .int .i64 (x.Out[i3].Message.Kind), .int .i64 (x.Out[i3].Message.Pos), .int .i64 (x.Out[i3].Message.dH), .int .i64 (x.Out[i3].Message.Question), .string (x.Out[i3].Message.Name), .slice Aade109_6 (x.Out[i3].Message.bD.length) cade109_6, .int .i64 (x.Out[i3].Message.Value.Kind), .int .i64 (x.Out[i3].Message.Value.N), .int .i64 (x.Out[i3].Message.Count), .int .i64 (x.Out[i3].Message.Tag.Vat), .int .i64 (x.Out[i3].Message.Tag.Entity), .int .i64 (x.Out[i3].Message.Tag.Seq)] ∧ Blk W105.drew g_0_1 80 #[.int .i64 (y.Id), .slice Ay1 y.aT.length cy1, .slice Ay2 y.Loop.length cy2, .slice Ay3 y.bZ.length cy3, .slice Ay4 y.Out.length cy4] ∧ Cat W105.drew (Addr.add ade110 (i3 * 13)) [.int .i64 (y.Out[i3].To), .int .i64 (y.Out[i3].Message.Kind), .int .i64 (y.Out[i3].Message.Pos), .int .i64 (y.Out[i3].Message.dH), .int .i64 (y.Out[i3].Message.Question), .string (y.Out[i3].Message.Name), .slice Aade110_6 (y.Out[i3].Message.bD.length) cade110_6, .int .i64 (y.Out[i3].Message.Value.Kind), .int .i64 (y.Out[i3].Message.Value.N), .int .i64 (y.Out[i3].Message.Count), .int .i64 (y.Out[i3].Message.Tag.Vat), .int .i64 (y.Out[i3].Message.Tag.Entity), .int .i64 (y.Out[i3].Message.Tag.Seq)] := ⟨H112.blk 1 rfl, (Cat.upd hce109 H112.1), H112.blk 0 rfl, (Cat.upd hce110 H112.1)⟩
             refine aD (i := 0) rfl kR kR kR kR kR (fun _ _ _ h => h) rfl rfl hS113 (fun W' hs' => aL jZ rfl) ?_
             refine aD (i := 1) rfl kR kR kR kR kR (fun _ _ _ h => h) rfl rfl hS113 (fun W' hs' => aN (k := 4) (v := .slice Ax4 x.Out.length cx4) Tryz.isAgg78 rfl hs'.1 rfl) ?_
             refine aD (i := 2) rfl kR kR kR kR kR (fun _ _ _ h => h) rfl rfl hS113 (fun W' hs' => aF rfl) ?_
             refine aD (i := 3) rfl kR kR kR kR kR (fun _ _ _ h => h) rfl rfl hS113 (fun W' hs' => aP (k := i3) Tryz.runUnderlying78 Tryz.sizeOf143 rfl rfl hAe109 hlt3) ?_
             refine aD (i := 4) rfl kR kR kR kR kR (fun _ _ _ h => h) rfl rfl hS113 (fun W' hs' => aL nL rfl) ?_
             refine aD (i := 5) rfl kR kR kR kR kR (fun _ _ _ h => h) rfl rfl hS113 (fun W' hs' => bR (v := .int .i64 (x.Out[i3].To)) Tryz.isAgg3 rfl hs'.2.1 rfl) ?_
             refine aD (i := 6) rfl kR kR kR kR kR (fun _ _ _ h => h) rfl rfl hS113 (fun W' hs' => aL jZ rfl) ?_
             refine aD (i := 7) rfl kR kR kR kR kR (fun _ _ _ h => h) rfl rfl hS113 (fun W' hs' => aN (k := 4) (v := .slice Ay4 y.Out.length cy4) Tryz.isAgg78 rfl hs'.2.2.1 rfl) ?_
             refine aD (i := 8) rfl kR kR kR kR kR (fun _ _ _ h => h) rfl rfl hS113 (fun W' hs' => aF rfl) ?_
             refine aD (i := 9) rfl kR kR kR kR kR (fun _ _ _ h => h) rfl rfl hS113 (fun W' hs' => aP (k := i3) Tryz.runUnderlying78 Tryz.sizeOf143 rfl rfl hAe110 hlu3) ?_
             refine aD (i := 10) rfl kR kR kR kR kR (fun _ _ _ h => h) rfl rfl hS113 (fun W' hs' => aL nL rfl) ?_
             refine aD (i := 11) rfl kR kR kR kR kR (fun _ _ _ h => h) rfl rfl hS113 (fun W' hs' => bR (v := .int .i64 (y.Out[i3].To)) Tryz.isAgg3 rfl hs'.2.2.2 rfl) ?_
             refine aD (i := 12) rfl kR kR kR kR kR (fun _ _ _ h => h) rfl rfl hS113 (fun W' hs' => bV hg111 (bN rfl rfl)) ?_
             refine aD (i := 13) rfl kR kR kR kR kR (fun _ _ _ h => h) rfl rfl hS113 (fun W' hs' => aF rfl) ?_
             refine aO (i := 14) rfl rfl rfl rfl rfl kR kR kR kR kR (fun _ _ _ h => h) rfl rfl hS113 ?_
             refine aO (i := 15) rfl rfl rfl rfl rfl kR kR kR kR kR (fun _ _ _ h => h) rfl rfl hS113 ?_
             refine aO (i := 16) rfl rfl rfl rfl rfl kR kR kR kR kR (fun _ _ _ h => h) rfl rfl hS113 ?_
             refine aO (i := 17) rfl rfl rfl rfl rfl kR kR kR kR kR (fun _ _ _ h => h) rfl rfl hS113 ?_
             refine aO (i := 18) rfl rfl rfl rfl rfl kR kR kR kR kR (fun _ _ _ h => h) rfl rfl hS113 ?_
             refine aO (i := 19) rfl rfl rfl rfl rfl kR kR kR kR kR (fun _ _ _ h => h) rfl rfl hS113 ?_
             refine aO (i := 20) rfl rfl rfl rfl rfl kR kR kR kR kR (fun _ _ _ h => h) rfl rfl hS113 ?_
             refine aO (i := 21) rfl rfl rfl rfl rfl kR kR kR kR kR (fun _ _ _ h => h) rfl rfl hS113 ?_
             refine aO (i := 22) rfl rfl rfl rfl rfl kR kR kR kR kR (fun _ _ _ h => h) rfl rfl hS113 ?_
             refine aO (i := 23) rfl rfl rfl rfl rfl kR kR kR kR kR (fun _ _ _ h => h) rfl rfl hS113 ?_
             refine aO (i := 24) rfl rfl rfl rfl rfl kR kR kR kR kR (fun _ _ _ h => h) rfl rfl hS113 ?_
             refine aO (i := 25) rfl rfl rfl rfl rfl kR kR kR kR kR (fun _ _ _ h => h) rfl rfl hS113 ?_
             refine aO (i := 26) rfl rfl rfl rfl rfl kR kR kR kR kR (fun _ _ _ h => h) rfl rfl hS113 ?_
             refine aO (i := 27) rfl rfl rfl rfl rfl kR kR kR kR kR (fun _ _ _ h => h) rfl rfl hS113 ?_
             refine aD (i := 28) rfl kR kR kR kR kR (fun _ _ _ h => h) rfl rfl hS113 (fun W' hs' => aI (v := .bool (true)) (b := true) rfl rfl rfl rfl) ?_
             refine bU kR ?_ _
             refine aG ?_
             refine bX rfl ?_
             refine wp_seq ?_
             refine aM [0] rfl ?_
             refine aA ?_
             refine aB rfl (aJ rfl) rfl rfl ?_
             refine aH ?_
             refine aG ?_
             refine wp_ret ?_
             refine dS ?_
             refine aU ?_
             refine aU ?_
             refine dS ?_
             refine aU ?_
             have hz114 : aV dA x.Out y.Out = false := hf3.trans (eG dA x.Out y.Out i3 hlt3 hlu3 (by simp [dA, (Decidable.of_not_not hg10), hg27, hg111, hd1, hd2]))
             have hr115 : dK x y = false := by simp [dK, (Decidable.of_not_not hg10), hg27, hg111, hd1, hd2, hz114]
             refine aQ (.inl rfl) Tryz.results41 rfl ?_
             rw [hr115]
             exact ⟨rfl, H112.1⟩
            ·by_cases hg116 : (aX (x.Out[i3].Message) (y.Out[i3].Message)) = true
             ·refine dD (fun W' => Blk W' g_0_0 80 #[.int .i64 (x.Id), .slice Ax1 x.aT.length cx1, .slice Ax2 x.Loop.length cx2, .slice Ax3 x.bZ.length cx3, .slice Ax4 x.Out.length cx4] ∧ Cat W' (Addr.add ade109 (i3 * 13)) [.int .i64 (x.Out[i3].To), .int .i64 (x.Out[i3].Message.Kind), .int .i64 (x.Out[i3].Message.Pos), .int .i64 (x.Out[i3].Message.dH), .int .i64 (x.Out[i3].Message.Question), .string (x.Out[i3].Message.Name), .slice Aade109_6 (x.Out[i3].Message.bD.length) cade109_6, .int .i64 (x.Out[i3].Message.Value.Kind), .int .i64 (x.Out[i3].Message.Value.N), .int .i64 (x.Out[i3].Message.Count), .int .i64 (x.Out[i3].Message.Tag.Vat), .int .i64 (x.Out[i3].Message.Tag.Entity), .int .i64 (x.Out[i3].Message.Tag.Seq)] ∧ Blk W' g_0_1 80 #[.int .i64 (y.Id), .slice Ay1 y.aT.length cy1, .slice Ay2 y.Loop.length cy2, .slice Ay3 y.bZ.length cy3, .slice Ay4 y.Out.length cy4] ∧ Cat W' (Addr.add ade110 (i3 * 13)) [.int .i64 (y.Out[i3].To), .int .i64 (y.Out[i3].Message.Kind), .int .i64 (y.Out[i3].Message.Pos), .int .i64 (y.Out[i3].Message.dH), .int .i64 (y.Out[i3].Message.Question), .string (y.Out[i3].Message.Name), .slice Aade110_6 (y.Out[i3].Message.bD.length) cade110_6, .int .i64 (y.Out[i3].Message.Value.Kind), .int .i64 (y.Out[i3].Message.Value.N), .int .i64 (y.Out[i3].Message.Count), .int .i64 (y.Out[i3].Message.Tag.Vat), .int .i64 (y.Out[i3].Message.Tag.Entity), .int .i64 (y.Out[i3].Message.Tag.Seq)]) 29 kR ?_
              have H117 := H107.drew; clear H107
              have hS118 : Blk W105.drew g_0_0 80 #[.int .i64 (x.Id), .slice Ax1 x.aT.length cx1, .slice Ax2 x.Loop.length cx2, .slice Ax3 x.bZ.length cx3, .slice Ax4 x.Out.length cx4] ∧ Cat W105.drew (Addr.add ade109 (i3 * 13)) [.int .i64 (x.Out[i3].To), .int .i64 (x.Out[i3].Message.Kind), .int .i64 (x.Out[i3].Message.Pos), .int .i64 (x.Out[i3].Message.dH), .int .i64 (x.Out[i3].Message.Question), .string (x.Out[i3].Message.Name), .slice Aade109_6 (x.Out[i3].Message.bD.length) cade109_6, .int .i64 (x.Out[i3].Message.Value.Kind), .int .i64 (x.Out[i3].Message.Value.N), .int .i64 (x.Out[i3].Message.Count), .int .i64 (x.Out[i3].Message.Tag.Vat), .int .i64 (x.Out[i3].Message.Tag.Entity), .int .i64 (x.Out[i3].Message.Tag.Seq)] ∧ Blk W105.drew g_0_1 80 #[.int .i64 (y.Id), .slice Ay1 y.aT.length cy1, .slice Ay2 y.Loop.length cy2, .slice Ay3 y.bZ.length cy3, .slice Ay4 y.Out.length cy4] ∧ Cat W105.drew (Addr.add ade110 (i3 * 13)) [.int .i64 (y.Out[i3].To), .int .i64 (y.Out[i3].Message.Kind), .int .i64 (y.Out[i3].Message.Pos), .int .i64 (y.Out[i3].Message.dH), .int .i64 (y.Out[i3].Message.Question), .string (y.Out[i3].Message.Name), .slice Aade110_6 (y.Out[i3].Message.bD.length) cade110_6, .int .i64 (y.Out[i3].Message.Value.Kind), .int .i64 (y.Out[i3].Message.Value.N), .int .i64 (y.Out[i3].Message.Count), .int .i64 (y.Out[i3].Message.Tag.Vat), .int .i64 (y.Out[i3].Message.Tag.Entity), .int .i64 (y.Out[i3].Message.Tag.Seq)] := ⟨H117.blk 1 rfl, (Cat.upd hce109 H117.1), H117.blk 0 rfl, (Cat.upd hce110 H117.1)⟩
              refine aD (i := 0) rfl kR kR kR kR kR (fun _ _ _ h => h) rfl rfl hS118 (fun W' hs' => aL jZ rfl) ?_
              refine aD (i := 1) rfl kR kR kR kR kR (fun _ _ _ h => h) rfl rfl hS118 (fun W' hs' => aN (k := 4) (v := .slice Ax4 x.Out.length cx4) Tryz.isAgg78 rfl hs'.1 rfl) ?_
              refine aD (i := 2) rfl kR kR kR kR kR (fun _ _ _ h => h) rfl rfl hS118 (fun W' hs' => aF rfl) ?_
              refine aD (i := 3) rfl kR kR kR kR kR (fun _ _ _ h => h) rfl rfl hS118 (fun W' hs' => aP (k := i3) Tryz.runUnderlying78 Tryz.sizeOf143 rfl rfl hAe109 hlt3) ?_
              refine aD (i := 4) rfl kR kR kR kR kR (fun _ _ _ h => h) rfl rfl hS118 (fun W' hs' => aL nL rfl) ?_
              refine aD (i := 5) rfl kR kR kR kR kR (fun _ _ _ h => h) rfl rfl hS118 (fun W' hs' => bR (v := .int .i64 (x.Out[i3].To)) Tryz.isAgg3 rfl hs'.2.1 rfl) ?_
              refine aD (i := 6) rfl kR kR kR kR kR (fun _ _ _ h => h) rfl rfl hS118 (fun W' hs' => aL jZ rfl) ?_
              refine aD (i := 7) rfl kR kR kR kR kR (fun _ _ _ h => h) rfl rfl hS118 (fun W' hs' => aN (k := 4) (v := .slice Ay4 y.Out.length cy4) Tryz.isAgg78 rfl hs'.2.2.1 rfl) ?_
              refine aD (i := 8) rfl kR kR kR kR kR (fun _ _ _ h => h) rfl rfl hS118 (fun W' hs' => aF rfl) ?_
              refine aD (i := 9) rfl kR kR kR kR kR (fun _ _ _ h => h) rfl rfl hS118 (fun W' hs' => aP (k := i3) Tryz.runUnderlying78 Tryz.sizeOf143 rfl rfl hAe110 hlu3) ?_
              refine aD (i := 10) rfl kR kR kR kR kR (fun _ _ _ h => h) rfl rfl hS118 (fun W' hs' => aL nL rfl) ?_
              refine aD (i := 11) rfl kR kR kR kR kR (fun _ _ _ h => h) rfl rfl hS118 (fun W' hs' => bR (v := .int .i64 (y.Out[i3].To)) Tryz.isAgg3 rfl hs'.2.2.2 rfl) ?_
              refine aD (i := 12) rfl kR kR kR kR kR (fun _ _ _ h => h) rfl rfl hS118 (fun W' hs' => bO hg111 (bN rfl rfl)) ?_
              refine aD (i := 13) rfl kR kR kR kR kR (fun _ _ _ h => h) rfl rfl hS118 (fun W' hs' => aF rfl) ?_
              refine aK (i := 14) rfl rfl rfl rfl kR kR kR kR kR (fun _ _ _ h => h) rfl rfl hS118 (fun W' hs' => aL jZ rfl) ?_
              refine aK (i := 15) rfl rfl rfl rfl kR kR kR kR kR (fun _ _ _ h => h) rfl rfl hS118 (fun W' hs' => aN (k := 4) (v := .slice Ax4 x.Out.length cx4) Tryz.isAgg78 rfl hs'.1 rfl) ?_
              refine aK (i := 16) rfl rfl rfl rfl kR kR kR kR kR (fun _ _ _ h => h) rfl rfl hS118 (fun W' hs' => aF rfl) ?_
              refine aK (i := 17) rfl rfl rfl rfl kR kR kR kR kR (fun _ _ _ h => h) rfl rfl hS118 (fun W' hs' => aP (k := i3) Tryz.runUnderlying78 Tryz.sizeOf143 rfl rfl hAe109 hlt3) ?_
              refine aK (i := 18) rfl rfl rfl rfl kR kR kR kR kR (fun _ _ _ h => h) rfl rfl hS118 (fun W' hs' => aL fa_143_1 rfl) ?_
              refine aK (i := 19) rfl rfl rfl rfl kR kR kR kR kR (fun _ _ _ h => h) rfl rfl hS118 (fun W' hs' => lX (sub := [.int .i64 (x.Out[i3].Message.Kind), .int .i64 (x.Out[i3].Message.Pos), .int .i64 (x.Out[i3].Message.dH), .int .i64 (x.Out[i3].Message.Question), .string (x.Out[i3].Message.Name), .slice Aade109_6 (x.Out[i3].Message.bD.length) cade109_6, .int .i64 (x.Out[i3].Message.Value.Kind), .int .i64 (x.Out[i3].Message.Value.N), .int .i64 (x.Out[i3].Message.Count), .int .i64 (x.Out[i3].Message.Tag.Vat), .int .i64 (x.Out[i3].Message.Tag.Entity), .int .i64 (x.Out[i3].Message.Tag.Seq)]) Tryz.isAgg141 Tryz.sizeOf141 rfl hs'.2.1 rfl rfl) ?_
              refine aK (i := 20) rfl rfl rfl rfl kR kR kR kR kR (fun _ _ _ h => h) rfl rfl hS118 (fun W' hs' => aL jZ rfl) ?_
              refine aK (i := 21) rfl rfl rfl rfl kR kR kR kR kR (fun _ _ _ h => h) rfl rfl hS118 (fun W' hs' => aN (k := 4) (v := .slice Ay4 y.Out.length cy4) Tryz.isAgg78 rfl hs'.2.2.1 rfl) ?_
              refine aK (i := 22) rfl rfl rfl rfl kR kR kR kR kR (fun _ _ _ h => h) rfl rfl hS118 (fun W' hs' => aF rfl) ?_
              refine aK (i := 23) rfl rfl rfl rfl kR kR kR kR kR (fun _ _ _ h => h) rfl rfl hS118 (fun W' hs' => aP (k := i3) Tryz.runUnderlying78 Tryz.sizeOf143 rfl rfl hAe110 hlu3) ?_
              refine aK (i := 24) rfl rfl rfl rfl kR kR kR kR kR (fun _ _ _ h => h) rfl rfl hS118 (fun W' hs' => aL fa_143_1 rfl) ?_
              refine aK (i := 25) rfl rfl rfl rfl kR kR kR kR kR (fun _ _ _ h => h) rfl rfl hS118 (fun W' hs' => lX (sub := [.int .i64 (y.Out[i3].Message.Kind), .int .i64 (y.Out[i3].Message.Pos), .int .i64 (y.Out[i3].Message.dH), .int .i64 (y.Out[i3].Message.Question), .string (y.Out[i3].Message.Name), .slice Aade110_6 (y.Out[i3].Message.bD.length) cade110_6, .int .i64 (y.Out[i3].Message.Value.Kind), .int .i64 (y.Out[i3].Message.Value.N), .int .i64 (y.Out[i3].Message.Count), .int .i64 (y.Out[i3].Message.Tag.Vat), .int .i64 (y.Out[i3].Message.Tag.Entity), .int .i64 (y.Out[i3].Message.Tag.Seq)]) Tryz.isAgg141 Tryz.sizeOf141 rfl hs'.2.2.2 rfl rfl) ?_
              refine gW (i := 26) kR ?_
              refine aR rfl rfl rfl rfl (fun _ ho119 => ?_)
              refine bP ho119 Tryz.call72 (vs := #[.agg #[.int .i64 (x.Out[i3].Message.Kind), .int .i64 (x.Out[i3].Message.Pos), .int .i64 (x.Out[i3].Message.dH), .int .i64 (x.Out[i3].Message.Question), .string (x.Out[i3].Message.Name), .slice Aade109_6 (x.Out[i3].Message.bD.length) cade109_6, .int .i64 (x.Out[i3].Message.Value.Kind), .int .i64 (x.Out[i3].Message.Value.N), .int .i64 (x.Out[i3].Message.Count), .int .i64 (x.Out[i3].Message.Tag.Vat), .int .i64 (x.Out[i3].Message.Tag.Entity), .int .i64 (x.Out[i3].Message.Tag.Seq)], .agg #[.int .i64 (y.Out[i3].Message.Kind), .int .i64 (y.Out[i3].Message.Pos), .int .i64 (y.Out[i3].Message.dH), .int .i64 (y.Out[i3].Message.Question), .string (y.Out[i3].Message.Name), .slice Aade110_6 (y.Out[i3].Message.bD.length) cade110_6, .int .i64 (y.Out[i3].Message.Value.Kind), .int .i64 (y.Out[i3].Message.Value.N), .int .i64 (y.Out[i3].Message.Count), .int .i64 (y.Out[i3].Message.Tag.Vat), .int .i64 (y.Out[i3].Message.Tag.Entity), .int .i64 (y.Out[i3].Message.Tag.Seq)]]) rfl rfl rfl (fK (lU (x.Out[i3].Message) (y.Out[i3].Message) _ _ _ (gJ _ (x.Out[i3].Message) hlade109_6 (aS H117.1 hCade109_6)) (gJ _ (y.Out[i3].Message) hlade110_6 (aS H117.1 hCade110_6))) hg116) ?_
              rintro e122 W121 ⟨rfl, hu120⟩; refine ⟨_, rfl, ?_⟩
              have H123 := H117.no hu120; clear H117
              have hS124 := And.intro (H123.blk 1 rfl) (And.intro (Cat.upd hce109 H123.1) (And.intro (H123.blk 0 rfl) ((Cat.upd hce110 H123.1)))); refine ⟨fun _ => hS124, ?_⟩
              refine aK (i := 27) rfl rfl rfl rfl kR kR kR kR kR (fun _ _ _ h => h) rfl rfl hS124 (fun W' hs' => gD rfl) ?_
              refine aD (i := 28) rfl kR kR kR kR kR (fun _ _ _ h => h) rfl rfl hS124 (fun W' hs' => aI (v := .bool (false)) (b := false) rfl rfl rfl rfl) ?_
              refine bU kR ?_ _
              refine aG ?_
              refine dU rfl ?_
              refine wp_skip ?_
              refine iY ?_
              refine aG ?_
              refine aM [0, 1, 2] rfl ?_
              refine aA ?_
              refine aB rfl (aF rfl) rfl rfl ?_
              refine aA ?_
              refine aB rfl (iB (k := i3) rfl rfl kO) rfl rfl ?_
              refine aA ?_
              refine aB rfl (aJ rfl) rfl rfl ?_
              refine aH ?_
              refine aG ?_
              exact (bA [(2, .pointer (some ⟨g_0_0, 0, none⟩)), (3, .pointer (some ⟨g_0_1, 0, none⟩)), (7, .int .i64 (((i3 + 1 : Nat) : Int)))] rfl).elim fun x' hx => ⟨r104 - 1, kO, i3 + 1, x', hx, kO, (hf3.trans (fC dA x.Out y.Out i3 hlt3 hlu3 (by simp [dA, (Decidable.of_not_not hg111), hg116]))), H123⟩
             ·refine dD (fun W' => Blk W' g_0_0 80 #[.int .i64 (x.Id), .slice Ax1 x.aT.length cx1, .slice Ax2 x.Loop.length cx2, .slice Ax3 x.bZ.length cx3, .slice Ax4 x.Out.length cx4] ∧ Cat W' (Addr.add ade109 (i3 * 13)) [.int .i64 (x.Out[i3].To), .int .i64 (x.Out[i3].Message.Kind), .int .i64 (x.Out[i3].Message.Pos), .int .i64 (x.Out[i3].Message.dH), .int .i64 (x.Out[i3].Message.Question), .string (x.Out[i3].Message.Name), .slice Aade109_6 (x.Out[i3].Message.bD.length) cade109_6, .int .i64 (x.Out[i3].Message.Value.Kind), .int .i64 (x.Out[i3].Message.Value.N), .int .i64 (x.Out[i3].Message.Count), .int .i64 (x.Out[i3].Message.Tag.Vat), .int .i64 (x.Out[i3].Message.Tag.Entity), .int .i64 (x.Out[i3].Message.Tag.Seq)] ∧ Blk W' g_0_1 80 #[.int .i64 (y.Id), .slice Ay1 y.aT.length cy1, .slice Ay2 y.Loop.length cy2, .slice Ay3 y.bZ.length cy3, .slice Ay4 y.Out.length cy4] ∧ Cat W' (Addr.add ade110 (i3 * 13)) [.int .i64 (y.Out[i3].To), .int .i64 (y.Out[i3].Message.Kind), .int .i64 (y.Out[i3].Message.Pos), .int .i64 (y.Out[i3].Message.dH), .int .i64 (y.Out[i3].Message.Question), .string (y.Out[i3].Message.Name), .slice Aade110_6 (y.Out[i3].Message.bD.length) cade110_6, .int .i64 (y.Out[i3].Message.Value.Kind), .int .i64 (y.Out[i3].Message.Value.N), .int .i64 (y.Out[i3].Message.Count), .int .i64 (y.Out[i3].Message.Tag.Vat), .int .i64 (y.Out[i3].Message.Tag.Entity), .int .i64 (y.Out[i3].Message.Tag.Seq)]) 29 kR ?_
              have H125 := H107.drew; clear H107
              have hS126 : Blk W105.drew g_0_0 80 #[.int .i64 (x.Id), .slice Ax1 x.aT.length cx1, .slice Ax2 x.Loop.length cx2, .slice Ax3 x.bZ.length cx3, .slice Ax4 x.Out.length cx4] ∧ Cat W105.drew (Addr.add ade109 (i3 * 13)) [.int .i64 (x.Out[i3].To), .int .i64 (x.Out[i3].Message.Kind), .int .i64 (x.Out[i3].Message.Pos), .int .i64 (x.Out[i3].Message.dH), .int .i64 (x.Out[i3].Message.Question), .string (x.Out[i3].Message.Name), .slice Aade109_6 (x.Out[i3].Message.bD.length) cade109_6, .int .i64 (x.Out[i3].Message.Value.Kind), .int .i64 (x.Out[i3].Message.Value.N), .int .i64 (x.Out[i3].Message.Count), .int .i64 (x.Out[i3].Message.Tag.Vat), .int .i64 (x.Out[i3].Message.Tag.Entity), .int .i64 (x.Out[i3].Message.Tag.Seq)] ∧ Blk W105.drew g_0_1 80 #[.int .i64 (y.Id), .slice Ay1 y.aT.length cy1, .slice Ay2 y.Loop.length cy2, .slice Ay3 y.bZ.length cy3, .slice Ay4 y.Out.length cy4] ∧ Cat W105.drew (Addr.add ade110 (i3 * 13)) [.int .i64 (y.Out[i3].To), .int .i64 (y.Out[i3].Message.Kind), .int .i64 (y.Out[i3].Message.Pos), .int .i64 (y.Out[i3].Message.dH), .int .i64 (y.Out[i3].Message.Question), .string (y.Out[i3].Message.Name), .slice Aade110_6 (y.Out[i3].Message.bD.length) cade110_6, .int .i64 (y.Out[i3].Message.Value.Kind), .int .i64 (y.Out[i3].Message.Value.N), .int .i64 (y.Out[i3].Message.Count), .int .i64 (y.Out[i3].Message.Tag.Vat), .int .i64 (y.Out[i3].Message.Tag.Entity), .int .i64 (y.Out[i3].Message.Tag.Seq)] := ⟨H125.blk 1 rfl, (Cat.upd hce109 H125.1), H125.blk 0 rfl, (Cat.upd hce110 H125.1)⟩
              refine aD (i := 0) rfl kR kR kR kR kR (fun _ _ _ h => h) rfl rfl hS126 (fun W' hs' => aL jZ rfl) ?_
              refine aD (i := 1) rfl kR kR kR kR kR (fun _ _ _ h => h) rfl rfl hS126 (fun W' hs' => aN (k := 4) (v := .slice Ax4 x.Out.length cx4) Tryz.isAgg78 rfl hs'.1 rfl) ?_
              refine aD (i := 2) rfl kR kR kR kR kR (fun _ _ _ h => h) rfl rfl hS126 (fun W' hs' => aF rfl) ?_
              refine aD (i := 3) rfl kR kR kR kR kR (fun _ _ _ h => h) rfl rfl hS126 (fun W' hs' => aP (k := i3) Tryz.runUnderlying78 Tryz.sizeOf143 rfl rfl hAe109 hlt3) ?_
              refine aD (i := 4) rfl kR kR kR kR kR (fun _ _ _ h => h) rfl rfl hS126 (fun W' hs' => aL nL rfl) ?_
              refine aD (i := 5) rfl kR kR kR kR kR (fun _ _ _ h => h) rfl rfl hS126 (fun W' hs' => bR (v := .int .i64 (x.Out[i3].To)) Tryz.isAgg3 rfl hs'.2.1 rfl) ?_
              refine aD (i := 6) rfl kR kR kR kR kR (fun _ _ _ h => h) rfl rfl hS126 (fun W' hs' => aL jZ rfl) ?_
              refine aD (i := 7) rfl kR kR kR kR kR (fun _ _ _ h => h) rfl rfl hS126 (fun W' hs' => aN (k := 4) (v := .slice Ay4 y.Out.length cy4) Tryz.isAgg78 rfl hs'.2.2.1 rfl) ?_
              refine aD (i := 8) rfl kR kR kR kR kR (fun _ _ _ h => h) rfl rfl hS126 (fun W' hs' => aF rfl) ?_
              refine aD (i := 9) rfl kR kR kR kR kR (fun _ _ _ h => h) rfl rfl hS126 (fun W' hs' => aP (k := i3) Tryz.runUnderlying78 Tryz.sizeOf143 rfl rfl hAe110 hlu3) ?_
              refine aD (i := 10) rfl kR kR kR kR kR (fun _ _ _ h => h) rfl rfl hS126 (fun W' hs' => aL nL rfl) ?_
              refine aD (i := 11) rfl kR kR kR kR kR (fun _ _ _ h => h) rfl rfl hS126 (fun W' hs' => bR (v := .int .i64 (y.Out[i3].To)) Tryz.isAgg3 rfl hs'.2.2.2 rfl) ?_
              refine aD (i := 12) rfl kR kR kR kR kR (fun _ _ _ h => h) rfl rfl hS126 (fun W' hs' => bO hg111 (bN rfl rfl)) ?_
              refine aD (i := 13) rfl kR kR kR kR kR (fun _ _ _ h => h) rfl rfl hS126 (fun W' hs' => aF rfl) ?_
              refine aK (i := 14) rfl rfl rfl rfl kR kR kR kR kR (fun _ _ _ h => h) rfl rfl hS126 (fun W' hs' => aL jZ rfl) ?_
              refine aK (i := 15) rfl rfl rfl rfl kR kR kR kR kR (fun _ _ _ h => h) rfl rfl hS126 (fun W' hs' => aN (k := 4) (v := .slice Ax4 x.Out.length cx4) Tryz.isAgg78 rfl hs'.1 rfl) ?_
              refine aK (i := 16) rfl rfl rfl rfl kR kR kR kR kR (fun _ _ _ h => h) rfl rfl hS126 (fun W' hs' => aF rfl) ?_
              refine aK (i := 17) rfl rfl rfl rfl kR kR kR kR kR (fun _ _ _ h => h) rfl rfl hS126 (fun W' hs' => aP (k := i3) Tryz.runUnderlying78 Tryz.sizeOf143 rfl rfl hAe109 hlt3) ?_
              refine aK (i := 18) rfl rfl rfl rfl kR kR kR kR kR (fun _ _ _ h => h) rfl rfl hS126 (fun W' hs' => aL fa_143_1 rfl) ?_
              refine aK (i := 19) rfl rfl rfl rfl kR kR kR kR kR (fun _ _ _ h => h) rfl rfl hS126 (fun W' hs' => lX (sub := [.int .i64 (x.Out[i3].Message.Kind), .int .i64 (x.Out[i3].Message.Pos), .int .i64 (x.Out[i3].Message.dH), .int .i64 (x.Out[i3].Message.Question), .string (x.Out[i3].Message.Name), .slice Aade109_6 (x.Out[i3].Message.bD.length) cade109_6, .int .i64 (x.Out[i3].Message.Value.Kind), .int .i64 (x.Out[i3].Message.Value.N), .int .i64 (x.Out[i3].Message.Count), .int .i64 (x.Out[i3].Message.Tag.Vat), .int .i64 (x.Out[i3].Message.Tag.Entity), .int .i64 (x.Out[i3].Message.Tag.Seq)]) Tryz.isAgg141 Tryz.sizeOf141 rfl hs'.2.1 rfl rfl) ?_
              refine aK (i := 20) rfl rfl rfl rfl kR kR kR kR kR (fun _ _ _ h => h) rfl rfl hS126 (fun W' hs' => aL jZ rfl) ?_
              refine aK (i := 21) rfl rfl rfl rfl kR kR kR kR kR (fun _ _ _ h => h) rfl rfl hS126 (fun W' hs' => aN (k := 4) (v := .slice Ay4 y.Out.length cy4) Tryz.isAgg78 rfl hs'.2.2.1 rfl) ?_
              refine aK (i := 22) rfl rfl rfl rfl kR kR kR kR kR (fun _ _ _ h => h) rfl rfl hS126 (fun W' hs' => aF rfl) ?_
              refine aK (i := 23) rfl rfl rfl rfl kR kR kR kR kR (fun _ _ _ h => h) rfl rfl hS126 (fun W' hs' => aP (k := i3) Tryz.runUnderlying78 Tryz.sizeOf143 rfl rfl hAe110 hlu3) ?_
              refine aK (i := 24) rfl rfl rfl rfl kR kR kR kR kR (fun _ _ _ h => h) rfl rfl hS126 (fun W' hs' => aL fa_143_1 rfl) ?_
              refine aK (i := 25) rfl rfl rfl rfl kR kR kR kR kR (fun _ _ _ h => h) rfl rfl hS126 (fun W' hs' => lX (sub := [.int .i64 (y.Out[i3].Message.Kind), .int .i64 (y.Out[i3].Message.Pos), .int .i64 (y.Out[i3].Message.dH), .int .i64 (y.Out[i3].Message.Question), .string (y.Out[i3].Message.Name), .slice Aade110_6 (y.Out[i3].Message.bD.length) cade110_6, .int .i64 (y.Out[i3].Message.Value.Kind), .int .i64 (y.Out[i3].Message.Value.N), .int .i64 (y.Out[i3].Message.Count), .int .i64 (y.Out[i3].Message.Tag.Vat), .int .i64 (y.Out[i3].Message.Tag.Entity), .int .i64 (y.Out[i3].Message.Tag.Seq)]) Tryz.isAgg141 Tryz.sizeOf141 rfl hs'.2.2.2 rfl rfl) ?_
              refine gW (i := 26) kR ?_
              refine aR rfl rfl rfl rfl (fun _ ho127 => ?_)
              refine bP ho127 Tryz.call72 (vs := #[.agg #[.int .i64 (x.Out[i3].Message.Kind), .int .i64 (x.Out[i3].Message.Pos), .int .i64 (x.Out[i3].Message.dH), .int .i64 (x.Out[i3].Message.Question), .string (x.Out[i3].Message.Name), .slice Aade109_6 (x.Out[i3].Message.bD.length) cade109_6, .int .i64 (x.Out[i3].Message.Value.Kind), .int .i64 (x.Out[i3].Message.Value.N), .int .i64 (x.Out[i3].Message.Count), .int .i64 (x.Out[i3].Message.Tag.Vat), .int .i64 (x.Out[i3].Message.Tag.Entity), .int .i64 (x.Out[i3].Message.Tag.Seq)], .agg #[.int .i64 (y.Out[i3].Message.Kind), .int .i64 (y.Out[i3].Message.Pos), .int .i64 (y.Out[i3].Message.dH), .int .i64 (y.Out[i3].Message.Question), .string (y.Out[i3].Message.Name), .slice Aade110_6 (y.Out[i3].Message.bD.length) cade110_6, .int .i64 (y.Out[i3].Message.Value.Kind), .int .i64 (y.Out[i3].Message.Value.N), .int .i64 (y.Out[i3].Message.Count), .int .i64 (y.Out[i3].Message.Tag.Vat), .int .i64 (y.Out[i3].Message.Tag.Entity), .int .i64 (y.Out[i3].Message.Tag.Seq)]]) rfl rfl rfl (fK (lU (x.Out[i3].Message) (y.Out[i3].Message) _ _ _ (gJ _ (x.Out[i3].Message) hlade109_6 (aS H125.1 hCade109_6)) (gJ _ (y.Out[i3].Message) hlade110_6 (aS H125.1 hCade110_6))) (eq_false_of_ne_true hg116)) ?_
              rintro e130 W129 ⟨rfl, hu128⟩; refine ⟨_, rfl, ?_⟩
              have H131 := H125.no hu128; clear H125
              have hS132 := And.intro (H131.blk 1 rfl) (And.intro (Cat.upd hce109 H131.1) (And.intro (H131.blk 0 rfl) ((Cat.upd hce110 H131.1)))); refine ⟨fun _ => hS132, ?_⟩
              refine aK (i := 27) rfl rfl rfl rfl kR kR kR kR kR (fun _ _ _ h => h) rfl rfl hS132 (fun W' hs' => gD rfl) ?_
              refine aD (i := 28) rfl kR kR kR kR kR (fun _ _ _ h => h) rfl rfl hS132 (fun W' hs' => aI (v := .bool (true)) (b := false) rfl rfl rfl rfl) ?_
              refine bU kR ?_ _
              refine aG ?_
              refine bX rfl ?_
              refine wp_seq ?_
              refine aM [0] rfl ?_
              refine aA ?_
              refine aB rfl (aJ rfl) rfl rfl ?_
              refine aH ?_
              refine aG ?_
              refine wp_ret ?_
              refine dS ?_
              refine aU ?_
              refine aU ?_
              refine dS ?_
              refine aU ?_
              have hz133 : aV dA x.Out y.Out = false := hf3.trans (eG dA x.Out y.Out i3 hlt3 hlu3 (by simp [dA, (Decidable.of_not_not hg10), hg27, (Decidable.of_not_not hg111), hg116, hd1, hd2]))
              have hr134 : dK x y = false := by simp [dK, (Decidable.of_not_not hg10), hg27, (Decidable.of_not_not hg111), hg116, hd1, hd2, hz133]
              refine aQ (.inl rfl) Tryz.results41 rfl ?_
              rw [hr134]
              exact ⟨rfl, H131.1⟩
           ·have hd3 : aV dA x.Out y.Out = true := hf3.trans (fD dA x.Out y.Out i3 kO kO)
            refine wp_exit ?_
            refine dP ?_
            refine dP ?_
            refine iZ ?_
            refine aG ?_
            refine wp_seq ?_
            refine aM [0] rfl ?_
            refine aA ?_
            refine aB rfl (aJ rfl) rfl rfl ?_
            refine aH ?_
            refine aG ?_
            refine wp_ret ?_
            have hr135 : dK x y = true := by simp [dK, (Decidable.of_not_not hg10), hg27, hd1, hd2, hd3]
            refine aQ (.inl rfl) Tryz.results41 rfl ?_
            rw [hr135]
            exact ⟨rfl, H107.1⟩
   ·refine aA ?_
    refine aR rfl rfl rfl rfl (fun _ ho136 => ?_)
    refine bP ho136 Tryz.call69 (vs := #[.slice Ax2 x.Loop.length cx2, .slice Ay2 y.Loop.length cy2]) rfl rfl rfl (fK (oL x.Loop y.Loop _ _ _ _ _ (aS Ha8.1 hCx2) (aS Ha8.1 hCy2)) (eq_false_of_ne_true hg27)) ?_
    rintro e139 W138 ⟨rfl, hu137⟩; refine ⟨_, rfl, ?_⟩
    have H140 := Ha8.no hu137; clear Ha8
    refine aA ?_
    refine aR rfl rfl rfl rfl (fun _ ho141 => ?_)
    refine aB ho141 (gD rfl) rfl rfl ?_
    refine aA ?_
    refine aB rfl (aI (v := .bool (true)) (b := false) rfl rfl rfl rfl) rfl rfl ?_
    refine aA ?_
    refine aB rfl (aF rfl) rfl rfl ?_
    refine aA ?_
    refine aC rfl rfl rfl rfl rfl rfl rfl ?_
    refine aA ?_
    refine aC rfl rfl rfl rfl rfl rfl rfl ?_
    refine aA ?_
    refine aC rfl rfl rfl rfl rfl rfl rfl ?_
    refine aA ?_
    refine aC rfl rfl rfl rfl rfl rfl rfl ?_
    refine aA ?_
    refine aC rfl rfl rfl rfl rfl rfl rfl ?_
    refine aA ?_
    refine aC rfl rfl rfl rfl rfl rfl rfl ?_
    refine aA ?_
    refine aC rfl rfl rfl rfl rfl rfl rfl ?_
    refine aA ?_
    refine aB rfl (aI (v := .bool (true)) (b := true) rfl rfl rfl rfl) rfl rfl ?_
    refine aA ?_
    refine aB rfl (aF rfl) rfl rfl ?_
    refine aA ?_
    refine aC rfl rfl rfl rfl rfl rfl rfl ?_
    refine aA ?_
    refine aC rfl rfl rfl rfl rfl rfl rfl ?_
    refine aA ?_
    refine aC rfl rfl rfl rfl rfl rfl rfl ?_
    refine aA ?_
    refine aC rfl rfl rfl rfl rfl rfl rfl ?_
    refine aA ?_
    refine aC rfl rfl rfl rfl rfl rfl rfl ?_
    refine aA ?_
    refine aC rfl rfl rfl rfl rfl rfl rfl ?_
    refine aA ?_
    refine aC rfl rfl rfl rfl rfl rfl rfl ?_
    refine aA ?_
    refine aB rfl (aI (v := .bool (true)) (b := true) rfl rfl rfl rfl) rfl rfl ?_
    refine aH ?_
    refine aG ?_
    refine bX rfl ?_
    refine wp_seq ?_
    refine aM [0] rfl ?_
    refine aA ?_
    refine aB rfl (aJ rfl) rfl rfl ?_
    refine aH ?_
    refine aG ?_
    refine wp_ret ?_
    refine aU ?_
    have hr142 : dK x y = false := by simp [dK, (Decidable.of_not_not hg10), hg27]
    refine aQ (.inl rfl) Tryz.results41 rfl ?_
    rw [hr142]
    exact ⟨rfl, H140.1⟩
theorem equalChannels_s (l k : List GChannel) (A A' : Option Addr) (c c' : Nat) (w : World) (h : C dQ w A l) (h' : C dQ w A' k) : Calls Tryz.prog 42 #[.slice A l.length c, .slice A' k.length c'] w (bW (aV bG l k) w) := by
 have nx := h.1
 refine enter 85 [(0, .slice A l.length c), (1, .slice A' k.length c')] Tryz.func42 rfl kR ?_
 intro xj
 have H1 : St w No [] w := St.enter
 refine wp_seq ?_
 refine aM [0] rfl ?_
 refine aA ?_
 refine aB rfl (aJ rfl) rfl rfl ?_
 refine aH ?_
 refine aG ?_
 refine wp_seq ?_
 refine wp_seq ?_
 refine aM [0, 1, 2, 3, 4] rfl ?_
 refine aA ?_
 refine aB rfl (aF rfl) rfl rfl ?_
 refine aA ?_
 refine aB rfl (bQ Tryz.runUnderlying32 rfl) rfl rfl ?_
 refine aA ?_
 refine aB rfl (aF rfl) rfl rfl ?_
 refine aA ?_
 refine aB rfl (bQ Tryz.runUnderlying32 rfl) rfl rfl ?_
 by_cases hg2 : ¬ ((l.length : Nat) : Int) = (k.length : Nat)
 ·refine aA ?_
  refine aB rfl (bV hg2 (bN rfl rfl)) rfl rfl ?_
  refine aH ?_
  refine aG ?_
  refine bX rfl ?_
  refine wp_seq ?_
  refine aM [0] rfl ?_
  refine aA ?_
  refine aB rfl (aJ rfl) rfl rfl ?_
  refine aH ?_
  refine aG ?_
  refine wp_ret ?_
  refine aU ?_
  have hz3 : ∀ f, aV f l k = false := fun f => eY f l k kO
  have hr4 : aV bG l k = false := by simp [hz3]
  refine aQ (.inl rfl) Tryz.results42 rfl ?_
  rw [hr4]
  exact ⟨rfl, H1.1⟩
 ·refine aA ?_
  refine aB rfl (bO hg2 (bN rfl rfl)) rfl rfl ?_
  refine aH ?_
  refine aG ?_
  refine dU rfl ?_
  refine wp_skip ?_
  refine aG ?_
  refine wp_seq ?_
  refine wp_seq ?_
  refine aM [0] rfl ?_
  refine aA ?_
  refine aB rfl (aJ rfl) rfl rfl ?_
  refine aH ?_
  refine aG ?_
  refine wp_block ?_
  refine wp_loop_ghost (fun r a' W' => ∃ (i1 : Nat) (x' : Nat → Value), a' = bT 85 x' [(0, .slice A l.length c), (1, .slice A' k.length c'), (5, .int .i64 (((i1 : Nat) : Int)))] ∧ (i1 + r = l.length) ∧ (aV bG l k = aV bG (l.drop i1) (k.drop i1)) ∧ St w No [] W') l.length ?_ ?_
  ·exact (bA [(0, .slice A l.length c), (1, .slice A' k.length c'), (5, .int .i64 (((0 : Nat) : Int)))] rfl).elim fun x' hx => ⟨0, x', hx, kO, rfl, H1⟩
  ·rintro r5 _ W6 ⟨i1, x7, rfl, hi1, hf1, H8⟩; clear H1
   refine wp_seq ?_
   refine wp_seq ?_
   refine aM [0, 1, 2, 3] rfl ?_
   refine aA ?_
   refine aB rfl (aF rfl) rfl rfl ?_
   refine aA ?_
   refine aB rfl (aF rfl) rfl rfl ?_
   refine aA ?_
   refine aB rfl (bQ Tryz.runUnderlying32 rfl) rfl rfl ?_
   refine aA ?_
   refine aB rfl (gY rfl rfl) rfl rfl ?_
   refine aH ?_
   refine aG ?_
   refine eP rfl (fun hc9 => ?_) (fun hc9 => ?_)
   ·have hlt1 : i1 < l.length := by omega
    have hlu1 : i1 < k.length := by omega
    obtain ⟨ade10, cse10, hAe10, hKe10, hce10⟩ := dO h i1 hlt1
    have hle10 := mJ hKe10
    have hoe10 := mK hKe10
    obtain ⟨ade11, cse11, hAe11, hKe11, hce11⟩ := dO h' i1 hlu1
    have hle11 := mJ hKe11
    have hoe11 := mK hKe11
    obtain ⟨Aade10_2, cade10_2, rfl, hlade10_2, hCade10_2⟩ := kE hKe10
    obtain ⟨Aade11_2, cade11_2, rfl, hlade11_2, hCade11_2⟩ := kE hKe11
    have nzade10 := hCade10_2.1
    refine wp_skip ?_
    refine aG ?_
    refine wp_seq ?_
    refine wp_block ?_
    refine wp_seq ?_
    refine wp_seq ?_
    by_cases hg12 : ¬ ((l[i1].From) : Int) = (k[i1].From)
    ·refine dD (fun W' => Cat W' (Addr.add ade10 (i1 * 3)) [.int .i64 (l[i1].From), .int .i64 (l[i1].To), .slice Aade10_2 (l[i1].List.length) cade10_2] ∧ Cat W' (Addr.add ade11 (i1 * 3)) [.int .i64 (k[i1].From), .int .i64 (k[i1].To), .slice Aade11_2 (k[i1].List.length) cade11_2]) 39 kR ?_
     have H13 := H8.drew; clear H8
     have hS14 : Cat W6.drew (Addr.add ade10 (i1 * 3)) [.int .i64 (l[i1].From), .int .i64 (l[i1].To), .slice Aade10_2 (l[i1].List.length) cade10_2] ∧ Cat W6.drew (Addr.add ade11 (i1 * 3)) [.int .i64 (k[i1].From), .int .i64 (k[i1].To), .slice Aade11_2 (k[i1].List.length) cade11_2] := ⟨(Cat.upd hce10 H13.1), (Cat.upd hce11 H13.1)⟩
     refine aD (i := 0) rfl kR kR kR kR kR (fun _ _ _ h => h) rfl rfl hS14 (fun W' hs' => aF rfl) ?_
     refine aD (i := 1) rfl kR kR kR kR kR (fun _ _ _ h => h) rfl rfl hS14 (fun W' hs' => aF rfl) ?_
     refine aD (i := 2) rfl kR kR kR kR kR (fun _ _ _ h => h) rfl rfl hS14 (fun W' hs' => aP (k := i1) Tryz.runUnderlying32 Tryz.sizeOf102 rfl rfl hAe10 hlt1) ?_
     refine aD (i := 3) rfl kR kR kR kR kR (fun _ _ _ h => h) rfl rfl hS14 (fun W' hs' => aL lH rfl) ?_
     refine aD (i := 4) rfl kR kR kR kR kR (fun _ _ _ h => h) rfl rfl hS14 (fun W' hs' => bR (v := .int .i64 (l[i1].From)) Tryz.isAgg3 rfl hs'.1 rfl) ?_
     refine aD (i := 5) rfl kR kR kR kR kR (fun _ _ _ h => h) rfl rfl hS14 (fun W' hs' => aF rfl) ?_
     refine aD (i := 6) rfl kR kR kR kR kR (fun _ _ _ h => h) rfl rfl hS14 (fun W' hs' => aF rfl) ?_
     refine aD (i := 7) rfl kR kR kR kR kR (fun _ _ _ h => h) rfl rfl hS14 (fun W' hs' => aP (k := i1) Tryz.runUnderlying32 Tryz.sizeOf102 rfl rfl hAe11 hlu1) ?_
     refine aD (i := 8) rfl kR kR kR kR kR (fun _ _ _ h => h) rfl rfl hS14 (fun W' hs' => aL lH rfl) ?_
     refine aD (i := 9) rfl kR kR kR kR kR (fun _ _ _ h => h) rfl rfl hS14 (fun W' hs' => bR (v := .int .i64 (k[i1].From)) Tryz.isAgg3 rfl hs'.2 rfl) ?_
     refine aD (i := 10) rfl kR kR kR kR kR (fun _ _ _ h => h) rfl rfl hS14 (fun W' hs' => bV hg12 (bN rfl rfl)) ?_
     refine aD (i := 11) rfl kR kR kR kR kR (fun _ _ _ h => h) rfl rfl hS14 (fun W' hs' => aF rfl) ?_
     refine aO (i := 12) rfl rfl rfl rfl rfl kR kR kR kR kR (fun _ _ _ h => h) rfl rfl hS14 ?_
     refine aO (i := 13) rfl rfl rfl rfl rfl kR kR kR kR kR (fun _ _ _ h => h) rfl rfl hS14 ?_
     refine aO (i := 14) rfl rfl rfl rfl rfl kR kR kR kR kR (fun _ _ _ h => h) rfl rfl hS14 ?_
     refine aO (i := 15) rfl rfl rfl rfl rfl kR kR kR kR kR (fun _ _ _ h => h) rfl rfl hS14 ?_
     refine aO (i := 16) rfl rfl rfl rfl rfl kR kR kR kR kR (fun _ _ _ h => h) rfl rfl hS14 ?_
     refine aO (i := 17) rfl rfl rfl rfl rfl kR kR kR kR kR (fun _ _ _ h => h) rfl rfl hS14 ?_
     refine aO (i := 18) rfl rfl rfl rfl rfl kR kR kR kR kR (fun _ _ _ h => h) rfl rfl hS14 ?_
     refine aO (i := 19) rfl rfl rfl rfl rfl kR kR kR kR kR (fun _ _ _ h => h) rfl rfl hS14 ?_
     refine aO (i := 20) rfl rfl rfl rfl rfl kR kR kR kR kR (fun _ _ _ h => h) rfl rfl hS14 ?_
     refine aO (i := 21) rfl rfl rfl rfl rfl kR kR kR kR kR (fun _ _ _ h => h) rfl rfl hS14 ?_
     refine aO (i := 22) rfl rfl rfl rfl rfl kR kR kR kR kR (fun _ _ _ h => h) rfl rfl hS14 ?_
     refine aD (i := 23) rfl kR kR kR kR kR (fun _ _ _ h => h) rfl rfl hS14 (fun W' hs' => aI (v := .bool (true)) (b := true) rfl rfl rfl rfl) ?_
     refine aD (i := 24) rfl kR kR kR kR kR (fun _ _ _ h => h) rfl rfl hS14 (fun W' hs' => aF rfl) ?_
     refine aO (i := 25) rfl rfl rfl rfl rfl kR kR kR kR kR (fun _ _ _ h => h) rfl rfl hS14 ?_
     refine aO (i := 26) rfl rfl rfl rfl rfl kR kR kR kR kR (fun _ _ _ h => h) rfl rfl hS14 ?_
     refine aO (i := 27) rfl rfl rfl rfl rfl kR kR kR kR kR (fun _ _ _ h => h) rfl rfl hS14 ?_
     refine aO (i := 28) rfl rfl rfl rfl rfl kR kR kR kR kR (fun _ _ _ h => h) rfl rfl hS14 ?_
     refine aO (i := 29) rfl rfl rfl rfl rfl kR kR kR kR kR (fun _ _ _ h => h) rfl rfl hS14 ?_
     refine aO (i := 30) rfl rfl rfl rfl rfl kR kR kR kR kR (fun _ _ _ h => h) rfl rfl hS14 ?_
     refine aO (i := 31) rfl rfl rfl rfl rfl kR kR kR kR kR (fun _ _ _ h => h) rfl rfl hS14 ?_
     refine aO (i := 32) rfl rfl rfl rfl rfl kR kR kR kR kR (fun _ _ _ h => h) rfl rfl hS14 ?_
     refine aO (i := 33) rfl rfl rfl rfl rfl kR kR kR kR kR (fun _ _ _ h => h) rfl rfl hS14 ?_
     refine aO (i := 34) rfl rfl rfl rfl rfl kR kR kR kR kR (fun _ _ _ h => h) rfl rfl hS14 ?_
     refine aO (i := 35) rfl rfl rfl rfl rfl kR kR kR kR kR (fun _ _ _ h => h) rfl rfl hS14 ?_
     refine aO (i := 36) rfl rfl rfl rfl rfl kR kR kR kR kR (fun _ _ _ h => h) rfl rfl hS14 ?_
     refine aO (i := 37) rfl rfl rfl rfl rfl kR kR kR kR kR (fun _ _ _ h => h) rfl rfl hS14 ?_
     refine aD (i := 38) rfl kR kR kR kR kR (fun _ _ _ h => h) rfl rfl hS14 (fun W' hs' => aI (v := .bool (true)) (b := true) rfl rfl rfl rfl) ?_
     refine bU kR ?_ _
     refine aG ?_
     refine bX rfl ?_
     refine wp_seq ?_
     refine aM [0] rfl ?_
     refine aA ?_
     refine aB rfl (aJ rfl) rfl rfl ?_
     refine aH ?_
     refine aG ?_
     refine wp_ret ?_
     refine aU ?_
     refine dS ?_
     refine aU ?_
     refine aU ?_
     refine dS ?_
     refine aU ?_
     have hz15 : aV bG l k = false := hf1.trans (eG bG l k i1 hlt1 hlu1 (by simp [bG, hg12]))
     have hr16 : aV bG l k = false := by simp [hg12, hz15]
     refine aQ (.inl rfl) Tryz.results42 rfl ?_
     rw [hr16]
     exact ⟨rfl, H13.1⟩
    ·by_cases hg17 : ¬ ((l[i1].To) : Int) = (k[i1].To)
     ·refine dD (fun W' => Cat W' (Addr.add ade10 (i1 * 3)) [.int .i64 (l[i1].From), .int .i64 (l[i1].To), .slice Aade10_2 (l[i1].List.length) cade10_2] ∧ Cat W' (Addr.add ade11 (i1 * 3)) [.int .i64 (k[i1].From), .int .i64 (k[i1].To), .slice Aade11_2 (k[i1].List.length) cade11_2]) 39 kR ?_
      have H18 := H8.drew; clear H8
      have hS19 : Cat W6.drew (Addr.add ade10 (i1 * 3)) [.int .i64 (l[i1].From), .int .i64 (l[i1].To), .slice Aade10_2 (l[i1].List.length) cade10_2] ∧ Cat W6.drew (Addr.add ade11 (i1 * 3)) [.int .i64 (k[i1].From), .int .i64 (k[i1].To), .slice Aade11_2 (k[i1].List.length) cade11_2] := ⟨(Cat.upd hce10 H18.1), (Cat.upd hce11 H18.1)⟩
      refine aD (i := 0) rfl kR kR kR kR kR (fun _ _ _ h => h) rfl rfl hS19 (fun W' hs' => aF rfl) ?_
      refine aD (i := 1) rfl kR kR kR kR kR (fun _ _ _ h => h) rfl rfl hS19 (fun W' hs' => aF rfl) ?_
      refine aD (i := 2) rfl kR kR kR kR kR (fun _ _ _ h => h) rfl rfl hS19 (fun W' hs' => aP (k := i1) Tryz.runUnderlying32 Tryz.sizeOf102 rfl rfl hAe10 hlt1) ?_
      refine aD (i := 3) rfl kR kR kR kR kR (fun _ _ _ h => h) rfl rfl hS19 (fun W' hs' => aL lH rfl) ?_
      refine aD (i := 4) rfl kR kR kR kR kR (fun _ _ _ h => h) rfl rfl hS19 (fun W' hs' => bR (v := .int .i64 (l[i1].From)) Tryz.isAgg3 rfl hs'.1 rfl) ?_
      refine aD (i := 5) rfl kR kR kR kR kR (fun _ _ _ h => h) rfl rfl hS19 (fun W' hs' => aF rfl) ?_
      refine aD (i := 6) rfl kR kR kR kR kR (fun _ _ _ h => h) rfl rfl hS19 (fun W' hs' => aF rfl) ?_
      refine aD (i := 7) rfl kR kR kR kR kR (fun _ _ _ h => h) rfl rfl hS19 (fun W' hs' => aP (k := i1) Tryz.runUnderlying32 Tryz.sizeOf102 rfl rfl hAe11 hlu1) ?_
      refine aD (i := 8) rfl kR kR kR kR kR (fun _ _ _ h => h) rfl rfl hS19 (fun W' hs' => aL lH rfl) ?_
      refine aD (i := 9) rfl kR kR kR kR kR (fun _ _ _ h => h) rfl rfl hS19 (fun W' hs' => bR (v := .int .i64 (k[i1].From)) Tryz.isAgg3 rfl hs'.2 rfl) ?_
      refine aD (i := 10) rfl kR kR kR kR kR (fun _ _ _ h => h) rfl rfl hS19 (fun W' hs' => bO hg12 (bN rfl rfl)) ?_
      refine aD (i := 11) rfl kR kR kR kR kR (fun _ _ _ h => h) rfl rfl hS19 (fun W' hs' => aF rfl) ?_
      refine aK (i := 12) rfl rfl rfl rfl kR kR kR kR kR (fun _ _ _ h => h) rfl rfl hS19 (fun W' hs' => aF rfl) ?_
      refine aK (i := 13) rfl rfl rfl rfl kR kR kR kR kR (fun _ _ _ h => h) rfl rfl hS19 (fun W' hs' => aF rfl) ?_
      refine aK (i := 14) rfl rfl rfl rfl kR kR kR kR kR (fun _ _ _ h => h) rfl rfl hS19 (fun W' hs' => aP (k := i1) Tryz.runUnderlying32 Tryz.sizeOf102 rfl rfl hAe10 hlt1) ?_
      refine aK (i := 15) rfl rfl rfl rfl kR kR kR kR kR (fun _ _ _ h => h) rfl rfl hS19 (fun W' hs' => aL nK rfl) ?_
      refine aK (i := 16) rfl rfl rfl rfl kR kR kR kR kR (fun _ _ _ h => h) rfl rfl hS19 (fun W' hs' => bR (v := .int .i64 (l[i1].To)) Tryz.isAgg3 rfl hs'.1 rfl) ?_
      refine aK (i := 17) rfl rfl rfl rfl kR kR kR kR kR (fun _ _ _ h => h) rfl rfl hS19 (fun W' hs' => aF rfl) ?_
      refine aK (i := 18) rfl rfl rfl rfl kR kR kR kR kR (fun _ _ _ h => h) rfl rfl hS19 (fun W' hs' => aF rfl) ?_
      refine aK (i := 19) rfl rfl rfl rfl kR kR kR kR kR (fun _ _ _ h => h) rfl rfl hS19 (fun W' hs' => aP (k := i1) Tryz.runUnderlying32 Tryz.sizeOf102 rfl rfl hAe11 hlu1) ?_
      refine aK (i := 20) rfl rfl rfl rfl kR kR kR kR kR (fun _ _ _ h => h) rfl rfl hS19 (fun W' hs' => aL nK rfl) ?_
      refine aK (i := 21) rfl rfl rfl rfl kR kR kR kR kR (fun _ _ _ h => h) rfl rfl hS19 (fun W' hs' => bR (v := .int .i64 (k[i1].To)) Tryz.isAgg3 rfl hs'.2 rfl) ?_
      refine aK (i := 22) rfl rfl rfl rfl kR kR kR kR kR (fun _ _ _ h => h) rfl rfl hS19 (fun W' hs' => bV hg17 (bN rfl rfl)) ?_
      refine aD (i := 23) rfl kR kR kR kR kR (fun _ _ _ h => h) rfl rfl hS19 (fun W' hs' => aI (v := .bool (true)) (b := false) rfl rfl rfl rfl) ?_
      refine aD (i := 24) rfl kR kR kR kR kR (fun _ _ _ h => h) rfl rfl hS19 (fun W' hs' => aF rfl) ?_
      refine aO (i := 25) rfl rfl rfl rfl rfl kR kR kR kR kR (fun _ _ _ h => h) rfl rfl hS19 ?_
      refine aO (i := 26) rfl rfl rfl rfl rfl kR kR kR kR kR (fun _ _ _ h => h) rfl rfl hS19 ?_
      refine aO (i := 27) rfl rfl rfl rfl rfl kR kR kR kR kR (fun _ _ _ h => h) rfl rfl hS19 ?_
      refine aO (i := 28) rfl rfl rfl rfl rfl kR kR kR kR kR (fun _ _ _ h => h) rfl rfl hS19 ?_
      refine aO (i := 29) rfl rfl rfl rfl rfl kR kR kR kR kR (fun _ _ _ h => h) rfl rfl hS19 ?_
      refine aO (i := 30) rfl rfl rfl rfl rfl kR kR kR kR kR (fun _ _ _ h => h) rfl rfl hS19 ?_
      refine aO (i := 31) rfl rfl rfl rfl rfl kR kR kR kR kR (fun _ _ _ h => h) rfl rfl hS19 ?_
      refine aO (i := 32) rfl rfl rfl rfl rfl kR kR kR kR kR (fun _ _ _ h => h) rfl rfl hS19 ?_
      refine aO (i := 33) rfl rfl rfl rfl rfl kR kR kR kR kR (fun _ _ _ h => h) rfl rfl hS19 ?_
      refine aO (i := 34) rfl rfl rfl rfl rfl kR kR kR kR kR (fun _ _ _ h => h) rfl rfl hS19 ?_
      refine aO (i := 35) rfl rfl rfl rfl rfl kR kR kR kR kR (fun _ _ _ h => h) rfl rfl hS19 ?_
      refine aO (i := 36) rfl rfl rfl rfl rfl kR kR kR kR kR (fun _ _ _ h => h) rfl rfl hS19 ?_
      refine aO (i := 37) rfl rfl rfl rfl rfl kR kR kR kR kR (fun _ _ _ h => h) rfl rfl hS19 ?_
      refine aD (i := 38) rfl kR kR kR kR kR (fun _ _ _ h => h) rfl rfl hS19 (fun W' hs' => aI (v := .bool (true)) (b := true) rfl rfl rfl rfl) ?_
      refine bU kR ?_ _
      refine aG ?_
      refine bX rfl ?_
      refine wp_seq ?_
      refine aM [0] rfl ?_
      refine aA ?_
      refine aB rfl (aJ rfl) rfl rfl ?_
      refine aH ?_
      refine aG ?_
      refine wp_ret ?_
      refine aU ?_
      refine dS ?_
      refine aU ?_
      refine aU ?_
      refine dS ?_
      refine aU ?_
      have hz20 : aV bG l k = false := hf1.trans (eG bG l k i1 hlt1 hlu1 (by simp [bG, (Decidable.of_not_not hg12), hg17]))
      have hr21 : aV bG l k = false := by simp [(Decidable.of_not_not hg12), hg17, hz20]
      refine aQ (.inl rfl) Tryz.results42 rfl ?_
      rw [hr21]
      exact ⟨rfl, H18.1⟩
     ·by_cases hg22 : ¬ ((l[i1].List.length : Nat) : Int) = (k[i1].List.length : Nat)
      ·refine dD (fun W' => Cat W' (Addr.add ade10 (i1 * 3)) [.int .i64 (l[i1].From), .int .i64 (l[i1].To), .slice Aade10_2 (l[i1].List.length) cade10_2] ∧ Cat W' (Addr.add ade11 (i1 * 3)) [.int .i64 (k[i1].From), .int .i64 (k[i1].To), .slice Aade11_2 (k[i1].List.length) cade11_2]) 39 kR ?_
       have H23 := H8.drew; clear H8
       have hS24 : Cat W6.drew (Addr.add ade10 (i1 * 3)) [.int .i64 (l[i1].From), .int .i64 (l[i1].To), .slice Aade10_2 (l[i1].List.length) cade10_2] ∧ Cat W6.drew (Addr.add ade11 (i1 * 3)) [.int .i64 (k[i1].From), .int .i64 (k[i1].To), .slice Aade11_2 (k[i1].List.length) cade11_2] := ⟨(Cat.upd hce10 H23.1), (Cat.upd hce11 H23.1)⟩
       refine aD (i := 0) rfl kR kR kR kR kR (fun _ _ _ h => h) rfl rfl hS24 (fun W' hs' => aF rfl) ?_
       refine aD (i := 1) rfl kR kR kR kR kR (fun _ _ _ h => h) rfl rfl hS24 (fun W' hs' => aF rfl) ?_
       refine aD (i := 2) rfl kR kR kR kR kR (fun _ _ _ h => h) rfl rfl hS24 (fun W' hs' => aP (k := i1) Tryz.runUnderlying32 Tryz.sizeOf102 rfl rfl hAe10 hlt1) ?_
       refine aD (i := 3) rfl kR kR kR kR kR (fun _ _ _ h => h) rfl rfl hS24 (fun W' hs' => aL lH rfl) ?_
       refine aD (i := 4) rfl kR kR kR kR kR (fun _ _ _ h => h) rfl rfl hS24 (fun W' hs' => bR (v := .int .i64 (l[i1].From)) Tryz.isAgg3 rfl hs'.1 rfl) ?_
       refine aD (i := 5) rfl kR kR kR kR kR (fun _ _ _ h => h) rfl rfl hS24 (fun W' hs' => aF rfl) ?_
       refine aD (i := 6) rfl kR kR kR kR kR (fun _ _ _ h => h) rfl rfl hS24 (fun W' hs' => aF rfl) ?_
       refine aD (i := 7) rfl kR kR kR kR kR (fun _ _ _ h => h) rfl rfl hS24 (fun W' hs' => aP (k := i1) Tryz.runUnderlying32 Tryz.sizeOf102 rfl rfl hAe11 hlu1) ?_
       refine aD (i := 8) rfl kR kR kR kR kR (fun _ _ _ h => h) rfl rfl hS24 (fun W' hs' => aL lH rfl) ?_
       refine aD (i := 9) rfl kR kR kR kR kR (fun _ _ _ h => h) rfl rfl hS24 (fun W' hs' => bR (v := .int .i64 (k[i1].From)) Tryz.isAgg3 rfl hs'.2 rfl) ?_
       refine aD (i := 10) rfl kR kR kR kR kR (fun _ _ _ h => h) rfl rfl hS24 (fun W' hs' => bO hg12 (bN rfl rfl)) ?_
       refine aD (i := 11) rfl kR kR kR kR kR (fun _ _ _ h => h) rfl rfl hS24 (fun W' hs' => aF rfl) ?_
       refine aK (i := 12) rfl rfl rfl rfl kR kR kR kR kR (fun _ _ _ h => h) rfl rfl hS24 (fun W' hs' => aF rfl) ?_
       refine aK (i := 13) rfl rfl rfl rfl kR kR kR kR kR (fun _ _ _ h => h) rfl rfl hS24 (fun W' hs' => aF rfl) ?_
       refine aK (i := 14) rfl rfl rfl rfl kR kR kR kR kR (fun _ _ _ h => h) rfl rfl hS24 (fun W' hs' => aP (k := i1) Tryz.runUnderlying32 Tryz.sizeOf102 rfl rfl hAe10 hlt1) ?_
       refine aK (i := 15) rfl rfl rfl rfl kR kR kR kR kR (fun _ _ _ h => h) rfl rfl hS24 (fun W' hs' => aL nK rfl) ?_
       refine aK (i := 16) rfl rfl rfl rfl kR kR kR kR kR (fun _ _ _ h => h) rfl rfl hS24 (fun W' hs' => bR (v := .int .i64 (l[i1].To)) Tryz.isAgg3 rfl hs'.1 rfl) ?_
       refine aK (i := 17) rfl rfl rfl rfl kR kR kR kR kR (fun _ _ _ h => h) rfl rfl hS24 (fun W' hs' => aF rfl) ?_
       refine aK (i := 18) rfl rfl rfl rfl kR kR kR kR kR (fun _ _ _ h => h) rfl rfl hS24 (fun W' hs' => aF rfl) ?_
       refine aK (i := 19) rfl rfl rfl rfl kR kR kR kR kR (fun _ _ _ h => h) rfl rfl hS24 (fun W' hs' => aP (k := i1) Tryz.runUnderlying32 Tryz.sizeOf102 rfl rfl hAe11 hlu1) ?_
       refine aK (i := 20) rfl rfl rfl rfl kR kR kR kR kR (fun _ _ _ h => h) rfl rfl hS24 (fun W' hs' => aL nK rfl) ?_
       refine aK (i := 21) rfl rfl rfl rfl kR kR kR kR kR (fun _ _ _ h => h) rfl rfl hS24 (fun W' hs' => bR (v := .int .i64 (k[i1].To)) Tryz.isAgg3 rfl hs'.2 rfl) ?_
       refine aK (i := 22) rfl rfl rfl rfl kR kR kR kR kR (fun _ _ _ h => h) rfl rfl hS24 (fun W' hs' => bO hg17 (bN rfl rfl)) ?_
       refine aD (i := 23) rfl kR kR kR kR kR (fun _ _ _ h => h) rfl rfl hS24 (fun W' hs' => aI (v := .bool (false)) (b := false) rfl rfl rfl rfl) ?_
       refine aD (i := 24) rfl kR kR kR kR kR (fun _ _ _ h => h) rfl rfl hS24 (fun W' hs' => aF rfl) ?_
       refine aK (i := 25) rfl rfl rfl rfl kR kR kR kR kR (fun _ _ _ h => h) rfl rfl hS24 (fun W' hs' => aF rfl) ?_
       refine aK (i := 26) rfl rfl rfl rfl kR kR kR kR kR (fun _ _ _ h => h) rfl rfl hS24 (fun W' hs' => aF rfl) ?_
       refine aK (i := 27) rfl rfl rfl rfl kR kR kR kR kR (fun _ _ _ h => h) rfl rfl hS24 (fun W' hs' => aP (k := i1) Tryz.runUnderlying32 Tryz.sizeOf102 rfl rfl hAe10 hlt1) ?_
       refine aK (i := 28) rfl rfl rfl rfl kR kR kR kR kR (fun _ _ _ h => h) rfl rfl hS24 (fun W' hs' => aL kM rfl) ?_
       refine aK (i := 29) rfl rfl rfl rfl kR kR kR kR kR (fun _ _ _ h => h) rfl rfl hS24 (fun W' hs' => bR (v := .slice Aade10_2 (l[i1].List.length) cade10_2) Tryz.isAgg100 rfl hs'.1 rfl) ?_
       refine aK (i := 30) rfl rfl rfl rfl kR kR kR kR kR (fun _ _ _ h => h) rfl rfl hS24 (fun W' hs' => bQ Tryz.runUnderlying100 rfl) ?_
       refine aK (i := 31) rfl rfl rfl rfl kR kR kR kR kR (fun _ _ _ h => h) rfl rfl hS24 (fun W' hs' => aF rfl) ?_
       refine aK (i := 32) rfl rfl rfl rfl kR kR kR kR kR (fun _ _ _ h => h) rfl rfl hS24 (fun W' hs' => aF rfl) ?_
       refine aK (i := 33) rfl rfl rfl rfl kR kR kR kR kR (fun _ _ _ h => h) rfl rfl hS24 (fun W' hs' => aP (k := i1) Tryz.runUnderlying32 Tryz.sizeOf102 rfl rfl hAe11 hlu1) ?_
       refine aK (i := 34) rfl rfl rfl rfl kR kR kR kR kR (fun _ _ _ h => h) rfl rfl hS24 (fun W' hs' => aL kM rfl) ?_
       refine aK (i := 35) rfl rfl rfl rfl kR kR kR kR kR (fun _ _ _ h => h) rfl rfl hS24 (fun W' hs' => bR (v := .slice Aade11_2 (k[i1].List.length) cade11_2) Tryz.isAgg100 rfl hs'.2 rfl) ?_
       refine aK (i := 36) rfl rfl rfl rfl kR kR kR kR kR (fun _ _ _ h => h) rfl rfl hS24 (fun W' hs' => bQ Tryz.runUnderlying100 rfl) ?_
       refine aK (i := 37) rfl rfl rfl rfl kR kR kR kR kR (fun _ _ _ h => h) rfl rfl hS24 (fun W' hs' => bV hg22 (bN rfl rfl)) ?_
       refine aD (i := 38) rfl kR kR kR kR kR (fun _ _ _ h => h) rfl rfl hS24 (fun W' hs' => aI (v := .bool (true)) (b := false) rfl rfl rfl rfl) ?_
       refine bU kR ?_ _
       refine aG ?_
       refine bX rfl ?_
       refine wp_seq ?_
       refine aM [0] rfl ?_
       refine aA ?_
       refine aB rfl (aJ rfl) rfl rfl ?_
       refine aH ?_
       refine aG ?_
       refine wp_ret ?_
       refine aU ?_
       refine dS ?_
       refine aU ?_
       refine aU ?_
       refine dS ?_
       refine aU ?_
       have hz25 : ∀ f, aV f (l[i1].List) (k[i1].List) = false := fun f => eY f (l[i1].List) (k[i1].List) kO
       have hz26 : aV bG l k = false := hf1.trans (eG bG l k i1 hlt1 hlu1 (by simp [bG, (Decidable.of_not_not hg12), (Decidable.of_not_not hg17), hz25]))
       have hr27 : aV bG l k = false := by simp [(Decidable.of_not_not hg12), (Decidable.of_not_not hg17), hz25, hz26]
       refine aQ (.inl rfl) Tryz.results42 rfl ?_
       rw [hr27]
       exact ⟨rfl, H23.1⟩
      ·refine dD (fun W' => Cat W' (Addr.add ade10 (i1 * 3)) [.int .i64 (l[i1].From), .int .i64 (l[i1].To), .slice Aade10_2 (l[i1].List.length) cade10_2] ∧ Cat W' (Addr.add ade11 (i1 * 3)) [.int .i64 (k[i1].From), .int .i64 (k[i1].To), .slice Aade11_2 (k[i1].List.length) cade11_2]) 39 kR ?_
       have H28 := H8.drew; clear H8
       have hS29 : Cat W6.drew (Addr.add ade10 (i1 * 3)) [.int .i64 (l[i1].From), .int .i64 (l[i1].To), .slice Aade10_2 (l[i1].List.length) cade10_2] ∧ Cat W6.drew (Addr.add ade11 (i1 * 3)) [.int .i64 (k[i1].From), .int .i64 (k[i1].To), .slice Aade11_2 (k[i1].List.length) cade11_2] := ⟨(Cat.upd hce10 H28.1), (Cat.upd hce11 H28.1)⟩
       refine aD (i := 0) rfl kR kR kR kR kR (fun _ _ _ h => h) rfl rfl hS29 (fun W' hs' => aF rfl) ?_
       refine aD (i := 1) rfl kR kR kR kR kR (fun _ _ _ h => h) rfl rfl hS29 (fun W' hs' => aF rfl) ?_
       refine aD (i := 2) rfl kR kR kR kR kR (fun _ _ _ h => h) rfl rfl hS29 (fun W' hs' => aP (k := i1) Tryz.runUnderlying32 Tryz.sizeOf102 rfl rfl hAe10 hlt1) ?_
       refine aD (i := 3) rfl kR kR kR kR kR (fun _ _ _ h => h) rfl rfl hS29 (fun W' hs' => aL lH rfl) ?_
       refine aD (i := 4) rfl kR kR kR kR kR (fun _ _ _ h => h) rfl rfl hS29 (fun W' hs' => bR (v := .int .i64 (l[i1].From)) Tryz.isAgg3 rfl hs'.1 rfl) ?_
       refine aD (i := 5) rfl kR kR kR kR kR (fun _ _ _ h => h) rfl rfl hS29 (fun W' hs' => aF rfl) ?_
       refine aD (i := 6) rfl kR kR kR kR kR (fun _ _ _ h => h) rfl rfl hS29 (fun W' hs' => aF rfl) ?_
       refine aD (i := 7) rfl kR kR kR kR kR (fun _ _ _ h => h) rfl rfl hS29 (fun W' hs' => aP (k := i1) Tryz.runUnderlying32 Tryz.sizeOf102 rfl rfl hAe11 hlu1) ?_
       refine aD (i := 8) rfl kR kR kR kR kR (fun _ _ _ h => h) rfl rfl hS29 (fun W' hs' => aL lH rfl) ?_
       refine aD (i := 9) rfl kR kR kR kR kR (fun _ _ _ h => h) rfl rfl hS29 (fun W' hs' => bR (v := .int .i64 (k[i1].From)) Tryz.isAgg3 rfl hs'.2 rfl) ?_
       refine aD (i := 10) rfl kR kR kR kR kR (fun _ _ _ h => h) rfl rfl hS29 (fun W' hs' => bO hg12 (bN rfl rfl)) ?_
       refine aD (i := 11) rfl kR kR kR kR kR (fun _ _ _ h => h) rfl rfl hS29 (fun W' hs' => aF rfl) ?_
       refine aK (i := 12) rfl rfl rfl rfl kR kR kR kR kR (fun _ _ _ h => h) rfl rfl hS29 (fun W' hs' => aF rfl) ?_
       refine aK (i := 13) rfl rfl rfl rfl kR kR kR kR kR (fun _ _ _ h => h) rfl rfl hS29 (fun W' hs' => aF rfl) ?_
       refine aK (i := 14) rfl rfl rfl rfl kR kR kR kR kR (fun _ _ _ h => h) rfl rfl hS29 (fun W' hs' => aP (k := i1) Tryz.runUnderlying32 Tryz.sizeOf102 rfl rfl hAe10 hlt1) ?_
       refine aK (i := 15) rfl rfl rfl rfl kR kR kR kR kR (fun _ _ _ h => h) rfl rfl hS29 (fun W' hs' => aL nK rfl) ?_
       refine aK (i := 16) rfl rfl rfl rfl kR kR kR kR kR (fun _ _ _ h => h) rfl rfl hS29 (fun W' hs' => bR (v := .int .i64 (l[i1].To)) Tryz.isAgg3 rfl hs'.1 rfl) ?_
       refine aK (i := 17) rfl rfl rfl rfl kR kR kR kR kR (fun _ _ _ h => h) rfl rfl hS29 (fun W' hs' => aF rfl) ?_
       refine aK (i := 18) rfl rfl rfl rfl kR kR kR kR kR (fun _ _ _ h => h) rfl rfl hS29 (fun W' hs' => aF rfl) ?_
       refine aK (i := 19) rfl rfl rfl rfl kR kR kR kR kR (fun _ _ _ h => h) rfl rfl hS29 (fun W' hs' => aP (k := i1) Tryz.runUnderlying32 Tryz.sizeOf102 rfl rfl hAe11 hlu1) ?_
       refine aK (i := 20) rfl rfl rfl rfl kR kR kR kR kR (fun _ _ _ h => h) rfl rfl hS29 (fun W' hs' => aL nK rfl) ?_
       refine aK (i := 21) rfl rfl rfl rfl kR kR kR kR kR (fun _ _ _ h => h) rfl rfl hS29 (fun W' hs' => bR (v := .int .i64 (k[i1].To)) Tryz.isAgg3 rfl hs'.2 rfl) ?_
       refine aK (i := 22) rfl rfl rfl rfl kR kR kR kR kR (fun _ _ _ h => h) rfl rfl hS29 (fun W' hs' => bO hg17 (bN rfl rfl)) ?_
       refine aD (i := 23) rfl kR kR kR kR kR (fun _ _ _ h => h) rfl rfl hS29 (fun W' hs' => aI (v := .bool (false)) (b := false) rfl rfl rfl rfl) ?_
       refine aD (i := 24) rfl kR kR kR kR kR (fun _ _ _ h => h) rfl rfl hS29 (fun W' hs' => aF rfl) ?_
       refine aK (i := 25) rfl rfl rfl rfl kR kR kR kR kR (fun _ _ _ h => h) rfl rfl hS29 (fun W' hs' => aF rfl) ?_
       refine aK (i := 26) rfl rfl rfl rfl kR kR kR kR kR (fun _ _ _ h => h) rfl rfl hS29 (fun W' hs' => aF rfl) ?_
       refine aK (i := 27) rfl rfl rfl rfl kR kR kR kR kR (fun _ _ _ h => h) rfl rfl hS29 (fun W' hs' => aP (k := i1) Tryz.runUnderlying32 Tryz.sizeOf102 rfl rfl hAe10 hlt1) ?_
       refine aK (i := 28) rfl rfl rfl rfl kR kR kR kR kR (fun _ _ _ h => h) rfl rfl hS29 (fun W' hs' => aL kM rfl) ?_
       refine aK (i := 29) rfl rfl rfl rfl kR kR kR kR kR (fun _ _ _ h => h) rfl rfl hS29 (fun W' hs' => bR (v := .slice Aade10_2 (l[i1].List.length) cade10_2) Tryz.isAgg100 rfl hs'.1 rfl) ?_
       refine aK (i := 30) rfl rfl rfl rfl kR kR kR kR kR (fun _ _ _ h => h) rfl rfl hS29 (fun W' hs' => bQ Tryz.runUnderlying100 rfl) ?_
       refine aK (i := 31) rfl rfl rfl rfl kR kR kR kR kR (fun _ _ _ h => h) rfl rfl hS29 (fun W' hs' => aF rfl) ?_
       refine aK (i := 32) rfl rfl rfl rfl kR kR kR kR kR (fun _ _ _ h => h) rfl rfl hS29 (fun W' hs' => aF rfl) ?_
       refine aK (i := 33) rfl rfl rfl rfl kR kR kR kR kR (fun _ _ _ h => h) rfl rfl hS29 (fun W' hs' => aP (k := i1) Tryz.runUnderlying32 Tryz.sizeOf102 rfl rfl hAe11 hlu1) ?_
       refine aK (i := 34) rfl rfl rfl rfl kR kR kR kR kR (fun _ _ _ h => h) rfl rfl hS29 (fun W' hs' => aL kM rfl) ?_
       refine aK (i := 35) rfl rfl rfl rfl kR kR kR kR kR (fun _ _ _ h => h) rfl rfl hS29 (fun W' hs' => bR (v := .slice Aade11_2 (k[i1].List.length) cade11_2) Tryz.isAgg100 rfl hs'.2 rfl) ?_
       refine aK (i := 36) rfl rfl rfl rfl kR kR kR kR kR (fun _ _ _ h => h) rfl rfl hS29 (fun W' hs' => bQ Tryz.runUnderlying100 rfl) ?_
       refine aK (i := 37) rfl rfl rfl rfl kR kR kR kR kR (fun _ _ _ h => h) rfl rfl hS29 (fun W' hs' => bO hg22 (bN rfl rfl)) ?_
       refine aD (i := 38) rfl kR kR kR kR kR (fun _ _ _ h => h) rfl rfl hS29 (fun W' hs' => aI (v := .bool (false)) (b := false) rfl rfl rfl rfl) ?_
       refine bU kR ?_ _
       refine aG ?_
       refine dU rfl ?_
       refine wp_skip ?_
       refine aG ?_
       refine wp_seq ?_
       refine aM [0] rfl ?_
       refine aA ?_
       refine aB rfl (aJ rfl) rfl rfl ?_
       refine aH ?_
       refine aG ?_
       refine wp_block ?_
       refine wp_loop_ghost (fun r a' W' => ∃ (i2 : Nat) (x' : Nat → Value), a' = bT 85 x' [(0, .slice A l.length c), (1, .slice A' k.length c'), (5, .int .i64 (((i1 : Nat) : Int))), (6, .int .i64 (((i2 : Nat) : Int))), (30, .slice A l.length c), (31, .int .i64 (((i1 : Nat) : Int))), (32, .pointer (some (Addr.add ade10 (i1 * 3)))), (33, .pointer (some (Addr.add (Addr.add ade10 (i1 * 3)) 1))), (34, .int .i64 (l[i1].To)), (35, .slice A' k.length c'), (36, .int .i64 (((i1 : Nat) : Int))), (37, .pointer (some (Addr.add ade11 (i1 * 3)))), (38, .pointer (some (Addr.add (Addr.add ade11 (i1 * 3)) 1))), (39, .int .i64 (k[i1].To)), (40, .bool (false)), (43, .slice A l.length c), (44, .int .i64 (((i1 : Nat) : Int))), (45, .pointer (some (Addr.add ade10 (i1 * 3)))), (46, .pointer (some (Addr.add (Addr.add ade10 (i1 * 3)) 2))), (47, .slice Aade10_2 (l[i1].List.length) cade10_2), (48, .int .i64 ((l[i1].List.length : Nat))), (49, .slice A' k.length c'), (50, .int .i64 (((i1 : Nat) : Int))), (51, .pointer (some (Addr.add ade11 (i1 * 3)))), (52, .pointer (some (Addr.add (Addr.add ade11 (i1 * 3)) 2))), (53, .slice Aade11_2 (k[i1].List.length) cade11_2), (54, .int .i64 ((k[i1].List.length : Nat))), (55, .bool (false))] ∧ (i2 + r = (l[i1].List).length) ∧ (aV aX (l[i1].List) (k[i1].List) = aV aX ((l[i1].List).drop i2) ((k[i1].List).drop i2)) ∧ St w No [] W') ((l[i1].List).length) ?_ ?_
       ·exact (bA [(0, .slice A l.length c), (1, .slice A' k.length c'), (5, .int .i64 (((i1 : Nat) : Int))), (6, .int .i64 (((0 : Nat) : Int))), (30, .slice A l.length c), (31, .int .i64 (((i1 : Nat) : Int))), (32, .pointer (some (Addr.add ade10 (i1 * 3)))), (33, .pointer (some (Addr.add (Addr.add ade10 (i1 * 3)) 1))), (34, .int .i64 (l[i1].To)), (35, .slice A' k.length c'), (36, .int .i64 (((i1 : Nat) : Int))), (37, .pointer (some (Addr.add ade11 (i1 * 3)))), (38, .pointer (some (Addr.add (Addr.add ade11 (i1 * 3)) 1))), (39, .int .i64 (k[i1].To)), (40, .bool (false)), (43, .slice A l.length c), (44, .int .i64 (((i1 : Nat) : Int))), (45, .pointer (some (Addr.add ade10 (i1 * 3)))), (46, .pointer (some (Addr.add (Addr.add ade10 (i1 * 3)) 2))), (47, .slice Aade10_2 (l[i1].List.length) cade10_2), (48, .int .i64 ((l[i1].List.length : Nat))), (49, .slice A' k.length c'), (50, .int .i64 (((i1 : Nat) : Int))), (51, .pointer (some (Addr.add ade11 (i1 * 3)))), (52, .pointer (some (Addr.add (Addr.add ade11 (i1 * 3)) 2))), (53, .slice Aade11_2 (k[i1].List.length) cade11_2), (54, .int .i64 ((k[i1].List.length : Nat))), (55, .bool (false))] rfl).elim fun x' hx => ⟨0, x', hx, kO, rfl, H28⟩
       ·rintro r30 _ W31 ⟨i2, x32, rfl, hi2, hf2, H33⟩; clear H28
        refine wp_seq ?_
        refine wp_seq ?_
        refine aM [0, 1, 2, 3, 4, 5, 6, 7] rfl ?_
        refine aA ?_
        refine aB rfl (aF rfl) rfl rfl ?_
        refine aA ?_
        refine aB rfl (aF rfl) rfl rfl ?_
        refine aA ?_
        refine aB rfl (aF rfl) rfl rfl ?_
        refine aA ?_
        refine aB rfl (aP (k := i1) Tryz.runUnderlying32 Tryz.sizeOf102 rfl rfl hAe10 hlt1) rfl rfl ?_
        refine aA ?_
        refine aB rfl (aL kM rfl) rfl rfl ?_
        refine aA ?_
        refine aB rfl (bR (v := .slice Aade10_2 (l[i1].List.length) cade10_2) Tryz.isAgg100 rfl (Cat.upd hce10 H33.1) rfl) rfl rfl ?_
        refine aA ?_
        refine aB rfl (bQ Tryz.runUnderlying100 rfl) rfl rfl ?_
        refine aA ?_
        refine aB rfl (gY rfl rfl) rfl rfl ?_
        refine aH ?_
        refine aG ?_
        refine eP rfl (fun hc34 => ?_) (fun hc34 => ?_)
        ·have hlt2 : i2 < (l[i1].List).length := by omega
         have hlu2 : i2 < (k[i1].List).length := by omega
         obtain ⟨ade35, cse35, hAe35, hKe35, hce35⟩ := dO hCade10_2 i2 hlt2
         have hle35 := mH hKe35
         have hoe35 := mI hKe35
         obtain ⟨ade36, cse36, hAe36, hKe36, hce36⟩ := dO hCade11_2 i2 hlu2
         have hle36 := mH hKe36
         have hoe36 := mI hKe36
         refine wp_skip ?_
         refine aG ?_
         refine wp_seq ?_
         refine wp_block ?_
         refine wp_seq ?_
         by_cases hg37 : (aX ((l[i1].List)[i2]) ((k[i1].List)[i2])) = true
         ·refine dD (fun W' => Cat W' (Addr.add ade10 (i1 * 3)) [.int .i64 (l[i1].From), .int .i64 (l[i1].To), .slice Aade10_2 (l[i1].List.length) cade10_2] ∧ Cat W' (Addr.add ade35 (i2 * 12)) cse35 ∧ Cat W' (Addr.add ade11 (i1 * 3)) [.int .i64 (k[i1].From), .int .i64 (k[i1].To), .slice Aade11_2 (k[i1].List.length) cade11_2] ∧ Cat W' (Addr.add ade36 (i2 * 12)) cse36) 18 kR ?_
          have H38 := H33.drew; clear H33
          have hS39 : Cat W31.drew (Addr.add ade10 (i1 * 3)) [.int .i64 (l[i1].From), .int .i64 (l[i1].To), .slice Aade10_2 (l[i1].List.length) cade10_2] ∧ Cat W31.drew (Addr.add ade35 (i2 * 12)) cse35 ∧ Cat W31.drew (Addr.add ade11 (i1 * 3)) [.int .i64 (k[i1].From), .int .i64 (k[i1].To), .slice Aade11_2 (k[i1].List.length) cade11_2] ∧ Cat W31.drew (Addr.add ade36 (i2 * 12)) cse36 := ⟨(Cat.upd hce10 H38.1), (Cat.upd hce35 H38.1), (Cat.upd hce11 H38.1), (Cat.upd hce36 H38.1)⟩
          refine aD (i := 0) rfl kR kR kR kR kR (fun _ _ _ h => h) rfl rfl hS39 (fun W' hs' => aF rfl) ?_
          refine aD (i := 1) rfl kR kR kR kR kR (fun _ _ _ h => h) rfl rfl hS39 (fun W' hs' => aF rfl) ?_
          refine aD (i := 2) rfl kR kR kR kR kR (fun _ _ _ h => h) rfl rfl hS39 (fun W' hs' => aP (k := i1) Tryz.runUnderlying32 Tryz.sizeOf102 rfl rfl hAe10 hlt1) ?_
          refine aD (i := 3) rfl kR kR kR kR kR (fun _ _ _ h => h) rfl rfl hS39 (fun W' hs' => aL kM rfl) ?_
          refine aD (i := 4) rfl kR kR kR kR kR (fun _ _ _ h => h) rfl rfl hS39 (fun W' hs' => bR (v := .slice Aade10_2 (l[i1].List.length) cade10_2) Tryz.isAgg100 rfl hs'.1 rfl) ?_
          refine aD (i := 5) rfl kR kR kR kR kR (fun _ _ _ h => h) rfl rfl hS39 (fun W' hs' => aF rfl) ?_
          refine aD (i := 6) rfl kR kR kR kR kR (fun _ _ _ h => h) rfl rfl hS39 (fun W' hs' => aP (k := i2) Tryz.runUnderlying100 Tryz.sizeOf141 rfl rfl hAe35 hlt2) ?_
          refine aD (i := 7) rfl kR kR kR kR kR (fun _ _ _ h => h) rfl rfl hS39 (fun W' hs' => aY Tryz.isAgg141 Tryz.sizeOf141 rfl hs'.2.1 hle35) ?_
          refine aD (i := 8) rfl kR kR kR kR kR (fun _ _ _ h => h) rfl rfl hS39 (fun W' hs' => aF rfl) ?_
          refine aD (i := 9) rfl kR kR kR kR kR (fun _ _ _ h => h) rfl rfl hS39 (fun W' hs' => aF rfl) ?_
          refine aD (i := 10) rfl kR kR kR kR kR (fun _ _ _ h => h) rfl rfl hS39 (fun W' hs' => aP (k := i1) Tryz.runUnderlying32 Tryz.sizeOf102 rfl rfl hAe11 hlu1) ?_
          refine aD (i := 11) rfl kR kR kR kR kR (fun _ _ _ h => h) rfl rfl hS39 (fun W' hs' => aL kM rfl) ?_
          refine aD (i := 12) rfl kR kR kR kR kR (fun _ _ _ h => h) rfl rfl hS39 (fun W' hs' => bR (v := .slice Aade11_2 (k[i1].List.length) cade11_2) Tryz.isAgg100 rfl hs'.2.2.1 rfl) ?_
          refine aD (i := 13) rfl kR kR kR kR kR (fun _ _ _ h => h) rfl rfl hS39 (fun W' hs' => aF rfl) ?_
          refine aD (i := 14) rfl kR kR kR kR kR (fun _ _ _ h => h) rfl rfl hS39 (fun W' hs' => aP (k := i2) Tryz.runUnderlying100 Tryz.sizeOf141 rfl rfl hAe36 hlu2) ?_
          refine aD (i := 15) rfl kR kR kR kR kR (fun _ _ _ h => h) rfl rfl hS39 (fun W' hs' => aY Tryz.isAgg141 Tryz.sizeOf141 rfl hs'.2.2.2 hle36) ?_
          refine gW (i := 16) kR ?_
          refine bP rfl Tryz.call72 (vs := #[.agg (List.toArray cse35), .agg (List.toArray cse36)]) rfl rfl rfl (fK (lU ((l[i1].List)[i2]) ((k[i1].List)[i2]) _ _ _ (fE H38.1 hKe35) (fE H38.1 hKe36)) hg37) ?_
          rintro e42 W41 ⟨rfl, hu40⟩; refine ⟨_, rfl, ?_⟩
          have H43 := H38.no hu40; clear H38
          have hS44 := And.intro (Cat.upd hce10 H43.1) (And.intro (Cat.upd hce35 H43.1) (And.intro (Cat.upd hce11 H43.1) ((Cat.upd hce36 H43.1)))); refine ⟨fun _ => hS44, ?_⟩
          refine aD (i := 17) rfl kR kR kR kR kR (fun _ _ _ h => h) rfl rfl hS44 (fun W' hs' => gD rfl) ?_
          refine bU kR ?_ _
          refine aG ?_
          refine dU rfl ?_
          refine wp_skip ?_
          refine iY ?_
          refine aG ?_
          refine aM [0, 1, 2] rfl ?_
          refine aA ?_
          refine aB rfl (aF rfl) rfl rfl ?_
          refine aA ?_
          refine aB rfl (iB (k := i2) rfl rfl kO) rfl rfl ?_
          refine aA ?_
          refine aB rfl (aJ rfl) rfl rfl ?_
          refine aH ?_
          refine aG ?_
          exact (bA [(0, .slice A l.length c), (1, .slice A' k.length c'), (5, .int .i64 (((i1 : Nat) : Int))), (6, .int .i64 (((i2 + 1 : Nat) : Int))), (30, .slice A l.length c), (31, .int .i64 (((i1 : Nat) : Int))), (32, .pointer (some (Addr.add ade10 (i1 * 3)))), (33, .pointer (some (Addr.add (Addr.add ade10 (i1 * 3)) 1))), (34, .int .i64 (l[i1].To)), (35, .slice A' k.length c'), (36, .int .i64 (((i1 : Nat) : Int))), (37, .pointer (some (Addr.add ade11 (i1 * 3)))), (38, .pointer (some (Addr.add (Addr.add ade11 (i1 * 3)) 1))), (39, .int .i64 (k[i1].To)), (40, .bool (false)), (43, .slice A l.length c), (44, .int .i64 (((i1 : Nat) : Int))), (45, .pointer (some (Addr.add ade10 (i1 * 3)))), (46, .pointer (some (Addr.add (Addr.add ade10 (i1 * 3)) 2))), (47, .slice Aade10_2 (l[i1].List.length) cade10_2), (48, .int .i64 ((l[i1].List.length : Nat))), (49, .slice A' k.length c'), (50, .int .i64 (((i1 : Nat) : Int))), (51, .pointer (some (Addr.add ade11 (i1 * 3)))), (52, .pointer (some (Addr.add (Addr.add ade11 (i1 * 3)) 2))), (53, .slice Aade11_2 (k[i1].List.length) cade11_2), (54, .int .i64 ((k[i1].List.length : Nat))), (55, .bool (false))] rfl).elim fun x' hx => ⟨r30 - 1, kO, i2 + 1, x', hx, kO, (hf2.trans (fC aX (l[i1].List) (k[i1].List) i2 hlt2 hlu2 hg37)), H43⟩
         ·refine dD (fun W' => Cat W' (Addr.add ade10 (i1 * 3)) [.int .i64 (l[i1].From), .int .i64 (l[i1].To), .slice Aade10_2 (l[i1].List.length) cade10_2] ∧ Cat W' (Addr.add ade35 (i2 * 12)) cse35 ∧ Cat W' (Addr.add ade11 (i1 * 3)) [.int .i64 (k[i1].From), .int .i64 (k[i1].To), .slice Aade11_2 (k[i1].List.length) cade11_2] ∧ Cat W' (Addr.add ade36 (i2 * 12)) cse36) 18 kR ?_
          have H45 := H33.drew; clear H33
          have hS46 : Cat W31.drew (Addr.add ade10 (i1 * 3)) [.int .i64 (l[i1].From), .int .i64 (l[i1].To), .slice Aade10_2 (l[i1].List.length) cade10_2] ∧ Cat W31.drew (Addr.add ade35 (i2 * 12)) cse35 ∧ Cat W31.drew (Addr.add ade11 (i1 * 3)) [.int .i64 (k[i1].From), .int .i64 (k[i1].To), .slice Aade11_2 (k[i1].List.length) cade11_2] ∧ Cat W31.drew (Addr.add ade36 (i2 * 12)) cse36 := ⟨(Cat.upd hce10 H45.1), (Cat.upd hce35 H45.1), (Cat.upd hce11 H45.1), (Cat.upd hce36 H45.1)⟩
          refine aD (i := 0) rfl kR kR kR kR kR (fun _ _ _ h => h) rfl rfl hS46 (fun W' hs' => aF rfl) ?_
          refine aD (i := 1) rfl kR kR kR kR kR (fun _ _ _ h => h) rfl rfl hS46 (fun W' hs' => aF rfl) ?_
          refine aD (i := 2) rfl kR kR kR kR kR (fun _ _ _ h => h) rfl rfl hS46 (fun W' hs' => aP (k := i1) Tryz.runUnderlying32 Tryz.sizeOf102 rfl rfl hAe10 hlt1) ?_
          refine aD (i := 3) rfl kR kR kR kR kR (fun _ _ _ h => h) rfl rfl hS46 (fun W' hs' => aL kM rfl) ?_
          refine aD (i := 4) rfl kR kR kR kR kR (fun _ _ _ h => h) rfl rfl hS46 (fun W' hs' => bR (v := .slice Aade10_2 (l[i1].List.length) cade10_2) Tryz.isAgg100 rfl hs'.1 rfl) ?_
          refine aD (i := 5) rfl kR kR kR kR kR (fun _ _ _ h => h) rfl rfl hS46 (fun W' hs' => aF rfl) ?_
          refine aD (i := 6) rfl kR kR kR kR kR (fun _ _ _ h => h) rfl rfl hS46 (fun W' hs' => aP (k := i2) Tryz.runUnderlying100 Tryz.sizeOf141 rfl rfl hAe35 hlt2) ?_
          refine aD (i := 7) rfl kR kR kR kR kR (fun _ _ _ h => h) rfl rfl hS46 (fun W' hs' => aY Tryz.isAgg141 Tryz.sizeOf141 rfl hs'.2.1 hle35) ?_
          refine aD (i := 8) rfl kR kR kR kR kR (fun _ _ _ h => h) rfl rfl hS46 (fun W' hs' => aF rfl) ?_
          refine aD (i := 9) rfl kR kR kR kR kR (fun _ _ _ h => h) rfl rfl hS46 (fun W' hs' => aF rfl) ?_
          refine aD (i := 10) rfl kR kR kR kR kR (fun _ _ _ h => h) rfl rfl hS46 (fun W' hs' => aP (k := i1) Tryz.runUnderlying32 Tryz.sizeOf102 rfl rfl hAe11 hlu1) ?_
          refine aD (i := 11) rfl kR kR kR kR kR (fun _ _ _ h => h) rfl rfl hS46 (fun W' hs' => aL kM rfl) ?_
          refine aD (i := 12) rfl kR kR kR kR kR (fun _ _ _ h => h) rfl rfl hS46 (fun W' hs' => bR (v := .slice Aade11_2 (k[i1].List.length) cade11_2) Tryz.isAgg100 rfl hs'.2.2.1 rfl) ?_
          refine aD (i := 13) rfl kR kR kR kR kR (fun _ _ _ h => h) rfl rfl hS46 (fun W' hs' => aF rfl) ?_
          refine aD (i := 14) rfl kR kR kR kR kR (fun _ _ _ h => h) rfl rfl hS46 (fun W' hs' => aP (k := i2) Tryz.runUnderlying100 Tryz.sizeOf141 rfl rfl hAe36 hlu2) ?_
          refine aD (i := 15) rfl kR kR kR kR kR (fun _ _ _ h => h) rfl rfl hS46 (fun W' hs' => aY Tryz.isAgg141 Tryz.sizeOf141 rfl hs'.2.2.2 hle36) ?_
          refine gW (i := 16) kR ?_
          refine bP rfl Tryz.call72 (vs := #[.agg (List.toArray cse35), .agg (List.toArray cse36)]) rfl rfl rfl (fK (lU ((l[i1].List)[i2]) ((k[i1].List)[i2]) _ _ _ (fE H45.1 hKe35) (fE H45.1 hKe36)) (eq_false_of_ne_true hg37)) ?_
          rintro e49 W48 ⟨rfl, hu47⟩; refine ⟨_, rfl, ?_⟩
          have H50 := H45.no hu47; clear H45
          have hS51 := And.intro (Cat.upd hce10 H50.1) (And.intro (Cat.upd hce35 H50.1) (And.intro (Cat.upd hce11 H50.1) ((Cat.upd hce36 H50.1)))); refine ⟨fun _ => hS51, ?_⟩
          refine aD (i := 17) rfl kR kR kR kR kR (fun _ _ _ h => h) rfl rfl hS51 (fun W' hs' => gD rfl) ?_
          refine bU kR ?_ _
          refine aG ?_
          refine bX rfl ?_
          refine wp_seq ?_
          refine aM [0] rfl ?_
          refine aA ?_
          refine aB rfl (aJ rfl) rfl rfl ?_
          refine aH ?_
          refine aG ?_
          refine wp_ret ?_
          refine dS ?_
          refine aU ?_
          refine aU ?_
          refine dS ?_
          refine dS ?_
          refine aU ?_
          refine aU ?_
          refine dS ?_
          refine aU ?_
          have hz52 : aV aX (l[i1].List) (k[i1].List) = false := hf2.trans (eG aX (l[i1].List) (k[i1].List) i2 hlt2 hlu2 (eq_false_of_ne_true hg37))
          have hz53 : aV bG l k = false := hf1.trans (eG bG l k i1 hlt1 hlu1 (by simp [bG, (Decidable.of_not_not hg12), (Decidable.of_not_not hg17), hg37, hz52]))
          have hr54 : aV bG l k = false := by simp [(Decidable.of_not_not hg12), (Decidable.of_not_not hg17), hg37, hz52, hz53]
          refine aQ (.inl rfl) Tryz.results42 rfl ?_
          rw [hr54]
          exact ⟨rfl, H50.1⟩
        ·have hd2 : aV aX (l[i1].List) (k[i1].List) = true := hf2.trans (fD aX (l[i1].List) (k[i1].List) i2 kO kO)
         refine wp_exit ?_
         refine dP ?_
         refine dP ?_
         refine iZ ?_
         refine iY ?_
         refine aG ?_
         refine aM [0, 1, 2] rfl ?_
         refine aA ?_
         refine aB rfl (aF rfl) rfl rfl ?_
         refine aA ?_
         refine aB rfl (iB (k := i1) rfl rfl kO) rfl rfl ?_
         refine aA ?_
         refine aB rfl (aJ rfl) rfl rfl ?_
         refine aH ?_
         refine aG ?_
         exact (bA [(0, .slice A l.length c), (1, .slice A' k.length c'), (5, .int .i64 (((i1 + 1 : Nat) : Int)))] rfl).elim fun x' hx => ⟨r5 - 1, kO, i1 + 1, x', hx, kO, (hf1.trans (fC bG l k i1 hlt1 hlu1 (by simp [bG, (Decidable.of_not_not hg12), (Decidable.of_not_not hg17), hd2]))), H33⟩
   ·have hd1 : aV bG l k = true := hf1.trans (fD bG l k i1 kO kO)
    refine wp_exit ?_
    refine dP ?_
    refine dP ?_
    refine iZ ?_
    refine aG ?_
    refine wp_seq ?_
    refine aM [0] rfl ?_
    refine aA ?_
    refine aB rfl (aJ rfl) rfl rfl ?_
    refine aH ?_
    refine aG ?_
    refine wp_ret ?_
    have hr55 : aV bG l k = true := by simp [hd1]
    refine aQ (.inl rfl) Tryz.results42 rfl ?_
    rw [hr55]
    exact ⟨rfl, H8.1⟩
theorem equalWorlds_s (x y : GWorld) (cx cy : List Value) (w : World) (h : iL.K w x cx) (h' : iL.K w y cy) : Calls Tryz.prog 17 #[.agg cx.toArray, .agg cy.toArray] w (bW (dX x y) w) := by
 obtain ⟨Ax0, cx0, Ax1, cx1, Ax2, cx2, Ax3, cx3, rfl, hlx0, hCx0, hlx1, hCx1, hlx2, hCx2, hlx3, hCx3⟩ := mW h
 obtain ⟨Ay0, cy0, Ay1, cy1, Ay2, cy2, Ay3, cy3, rfl, hly0, hCy0, hly1, hCy1, hly2, hCy2, hly3, hCy3⟩ := mW h'
 have nx0 := hCx0.1
 have nx1 := hCx1.1
 have nx2 := hCx2.1
 have nx3 := hCx3.1
 refine enter 101 [(0, .agg #[.slice Ax0 x.bE.length cx0, .slice Ax1 x.eT.length cx1, .slice Ax2 x.bH.length cx2, .slice Ax3 x.bK.length cx3, .int .i64 (x.eO)]), (1, .agg #[.slice Ay0 y.bE.length cy0, .slice Ay1 y.eT.length cy1, .slice Ay2 y.bH.length cy2, .slice Ay3 y.bK.length cy3, .int .i64 (y.eO)])] Tryz.func17 rfl kR ?_
 intro xj
 have H1 : St w No [] w := St.enter
 refine wp_seq ?_
 refine aM [0, 1, 2] rfl ?_
 refine aA ?_
 refine gX rfl rfl rfl rfl H1 ?_
 intro g_0_0 W2 hu3 Ha4; clear H1; clear hu3
 refine aA ?_
 refine gX rfl rfl rfl rfl Ha4 ?_
 intro g_0_1 W6 hu7 Ha8; clear Ha4; clear hu7
 refine aA ?_
 refine aB rfl (aJ rfl) rfl rfl ?_
 refine aH ?_
 refine aG ?_
 refine wp_seq ?_
 refine wp_seq ?_
 refine aM [0, 1, 2, 3, 4, 5, 6, 7, 8, 9, 10, 11, 12, 13, 14, 15, 16, 17, 18, 19, 20, 21, 22, 23, 24, 25, 26, 27, 28, 29, 30, 31] rfl ?_
 refine aA ?_
 refine aB rfl (aL nR rfl) rfl rfl ?_
 refine aA ?_
 refine aB rfl (aN (k := 0) (v := .slice Ax0 x.bE.length cx0) Tryz.isAgg30 rfl (Ha8.blk 1 rfl) rfl) rfl rfl ?_
 refine aA ?_
 refine aB rfl (bQ Tryz.runUnderlying30 rfl) rfl rfl ?_
 refine aA ?_
 refine aB rfl (aL nR rfl) rfl rfl ?_
 refine aA ?_
 refine aB rfl (aN (k := 0) (v := .slice Ay0 y.bE.length cy0) Tryz.isAgg30 rfl (Ha8.blk 0 rfl) rfl) rfl rfl ?_
 refine aA ?_
 refine aB rfl (bQ Tryz.runUnderlying30 rfl) rfl rfl ?_
 by_cases hg10 : ¬ ((x.bE.length : Nat) : Int) = (y.bE.length : Nat)
 ·refine aA ?_
  refine aB rfl (bV hg10 (bN rfl rfl)) rfl rfl ?_
  refine aA ?_
  refine aB rfl (aF rfl) rfl rfl ?_
  refine aA ?_
  refine aC rfl rfl rfl rfl rfl rfl rfl ?_
  refine aA ?_
  refine aC rfl rfl rfl rfl rfl rfl rfl ?_
  refine aA ?_
  refine aC rfl rfl rfl rfl rfl rfl rfl ?_
  refine aA ?_
  refine aC rfl rfl rfl rfl rfl rfl rfl ?_
  refine aA ?_
  refine aC rfl rfl rfl rfl rfl rfl rfl ?_
  refine aA ?_
  refine aC rfl rfl rfl rfl rfl rfl rfl ?_
  refine aA ?_
  refine aC rfl rfl rfl rfl rfl rfl rfl ?_
  refine aA ?_
  refine aB rfl (aI (v := .bool (true)) (b := true) rfl rfl rfl rfl) rfl rfl ?_
  refine aA ?_
  refine aB rfl (aF rfl) rfl rfl ?_
  refine aA ?_
  refine aC rfl rfl rfl rfl rfl rfl rfl ?_
  refine aA ?_
  refine aC rfl rfl rfl rfl rfl rfl rfl ?_
  refine aA ?_
  refine aC rfl rfl rfl rfl rfl rfl rfl ?_
  refine aA ?_
  refine aC rfl rfl rfl rfl rfl rfl rfl ?_
  refine aA ?_
  refine aC rfl rfl rfl rfl rfl rfl rfl ?_
  refine aA ?_
  refine aC rfl rfl rfl rfl rfl rfl rfl ?_
  refine aA ?_
  refine aC rfl rfl rfl rfl rfl rfl rfl ?_
  refine aA ?_
  refine aB rfl (aI (v := .bool (true)) (b := true) rfl rfl rfl rfl) rfl rfl ?_
  refine aA ?_
  refine aB rfl (aF rfl) rfl rfl ?_
  refine aA ?_
  refine aC rfl rfl rfl rfl rfl rfl rfl ?_
  refine aA ?_
  refine aC rfl rfl rfl rfl rfl rfl rfl ?_
  refine aA ?_
  refine aC rfl rfl rfl rfl rfl rfl rfl ?_
  refine aA ?_
  refine aC rfl rfl rfl rfl rfl rfl rfl ?_
  refine aA ?_
  refine aC rfl rfl rfl rfl rfl rfl rfl ?_
  refine aA ?_
  refine aB rfl (aI (v := .bool (true)) (b := true) rfl rfl rfl rfl) rfl rfl ?_
  refine aH ?_
  refine aG ?_
  refine bX rfl ?_
  refine wp_seq ?_
  refine aM [0] rfl ?_
  refine aA ?_
  refine aB rfl (aJ rfl) rfl rfl ?_
  refine aH ?_
  refine aG ?_
  refine wp_ret ?_
  refine aU ?_
  have hz11 : ∀ f, aV f x.bE y.bE = false := fun f => eY f x.bE y.bE kO
  have hr12 : dX x y = false := by simp [dX, hz11]
  refine aQ (.inl rfl) Tryz.results17 rfl ?_
  rw [hr12]
  exact ⟨rfl, Ha8.1⟩
 ·refine aA ?_
  refine aB rfl (bO hg10 (bN rfl rfl)) rfl rfl ?_
  refine aA ?_
  refine aB rfl (aF rfl) rfl rfl ?_
  refine aA ?_
  refine aR rfl rfl rfl rfl (fun _ ho13 => ?_)
  refine aB ho13 (aL nS rfl) rfl rfl ?_
  refine aA ?_
  refine aR rfl rfl rfl rfl (fun _ ho14 => ?_)
  refine aB ho14 (aN (k := 1) (v := .slice Ax1 x.eT.length cx1) Tryz.isAgg31 rfl (Ha8.blk 1 rfl) rfl) rfl rfl ?_
  refine aA ?_
  refine aR rfl rfl rfl rfl (fun _ ho15 => ?_)
  refine aB ho15 (bQ Tryz.runUnderlying31 rfl) rfl rfl ?_
  refine aA ?_
  refine aR rfl rfl rfl rfl (fun _ ho16 => ?_)
  refine aB ho16 (aL nS rfl) rfl rfl ?_
  refine aA ?_
  refine aR rfl rfl rfl rfl (fun _ ho17 => ?_)
  refine aB ho17 (aN (k := 1) (v := .slice Ay1 y.eT.length cy1) Tryz.isAgg31 rfl (Ha8.blk 0 rfl) rfl) rfl rfl ?_
  refine aA ?_
  refine aR rfl rfl rfl rfl (fun _ ho18 => ?_)
  refine aB ho18 (bQ Tryz.runUnderlying31 rfl) rfl rfl ?_
  by_cases hg19 : ¬ ((x.eT.length : Nat) : Int) = (y.eT.length : Nat)
  ·refine aA ?_
   refine aR rfl rfl rfl rfl (fun _ ho20 => ?_)
   refine aB ho20 (bV hg19 (bN rfl rfl)) rfl rfl ?_
   refine aA ?_
   refine aB rfl (aI (v := .bool (true)) (b := false) rfl rfl rfl rfl) rfl rfl ?_
   refine aA ?_
   refine aB rfl (aF rfl) rfl rfl ?_
   refine aA ?_
   refine aC rfl rfl rfl rfl rfl rfl rfl ?_
   refine aA ?_
   refine aC rfl rfl rfl rfl rfl rfl rfl ?_
   refine aA ?_
   refine aC rfl rfl rfl rfl rfl rfl rfl ?_
   refine aA ?_
   refine aC rfl rfl rfl rfl rfl rfl rfl ?_
   refine aA ?_
   refine aC rfl rfl rfl rfl rfl rfl rfl ?_
   refine aA ?_
   refine aC rfl rfl rfl rfl rfl rfl rfl ?_
   refine aA ?_
   refine aC rfl rfl rfl rfl rfl rfl rfl ?_
   refine aA ?_
   refine aB rfl (aI (v := .bool (true)) (b := true) rfl rfl rfl rfl) rfl rfl ?_
   refine aA ?_
   refine aB rfl (aF rfl) rfl rfl ?_
   refine aA ?_
   refine aC rfl rfl rfl rfl rfl rfl rfl ?_
   refine aA ?_
   refine aC rfl rfl rfl rfl rfl rfl rfl ?_
   refine aA ?_
   refine aC rfl rfl rfl rfl rfl rfl rfl ?_
   refine aA ?_
   refine aC rfl rfl rfl rfl rfl rfl rfl ?_
   refine aA ?_
   refine aC rfl rfl rfl rfl rfl rfl rfl ?_
   refine aA ?_
   refine aB rfl (aI (v := .bool (true)) (b := true) rfl rfl rfl rfl) rfl rfl ?_
   refine aH ?_
   refine aG ?_
   refine bX rfl ?_
   refine wp_seq ?_
   refine aM [0] rfl ?_
   refine aA ?_
   refine aB rfl (aJ rfl) rfl rfl ?_
   refine aH ?_
   refine aG ?_
   refine wp_ret ?_
   refine aU ?_
   have hz21 : ∀ f, aV f x.eT y.eT = false := fun f => eY f x.eT y.eT kO
   have hr22 : dX x y = false := by simp [dX, hz21]
   refine aQ (.inl rfl) Tryz.results17 rfl ?_
   rw [hr22]
   exact ⟨rfl, Ha8.1⟩
  ·refine aA ?_
   refine aR rfl rfl rfl rfl (fun _ ho23 => ?_)
   refine aB ho23 (bO hg19 (bN rfl rfl)) rfl rfl ?_
   refine aA ?_
   refine aB rfl (aI (v := .bool (false)) (b := false) rfl rfl rfl rfl) rfl rfl ?_
   refine aA ?_
   refine aB rfl (aF rfl) rfl rfl ?_
   refine aA ?_
   refine aR rfl rfl rfl rfl (fun _ ho24 => ?_)
   refine aB ho24 (aL nT rfl) rfl rfl ?_
   refine aA ?_
   refine aR rfl rfl rfl rfl (fun _ ho25 => ?_)
   refine aB ho25 (aN (k := 3) (v := .slice Ax3 x.bK.length cx3) Tryz.isAgg33 rfl (Ha8.blk 1 rfl) rfl) rfl rfl ?_
   refine aA ?_
   refine aR rfl rfl rfl rfl (fun _ ho26 => ?_)
   refine aB ho26 (bQ Tryz.runUnderlying33 rfl) rfl rfl ?_
   refine aA ?_
   refine aR rfl rfl rfl rfl (fun _ ho27 => ?_)
   refine aB ho27 (aL nT rfl) rfl rfl ?_
   refine aA ?_
   refine aR rfl rfl rfl rfl (fun _ ho28 => ?_)
   refine aB ho28 (aN (k := 3) (v := .slice Ay3 y.bK.length cy3) Tryz.isAgg33 rfl (Ha8.blk 0 rfl) rfl) rfl rfl ?_
   refine aA ?_
   refine aR rfl rfl rfl rfl (fun _ ho29 => ?_)
   refine aB ho29 (bQ Tryz.runUnderlying33 rfl) rfl rfl ?_
   by_cases hg30 : ¬ ((x.bK.length : Nat) : Int) = (y.bK.length : Nat)
   ·refine aA ?_
    refine aR rfl rfl rfl rfl (fun _ ho31 => ?_)
    refine aB ho31 (bV hg30 (bN rfl rfl)) rfl rfl ?_
    refine aA ?_
    refine aB rfl (aI (v := .bool (true)) (b := false) rfl rfl rfl rfl) rfl rfl ?_
    refine aA ?_
    refine aB rfl (aF rfl) rfl rfl ?_
    refine aA ?_
    refine aC rfl rfl rfl rfl rfl rfl rfl ?_
    refine aA ?_
    refine aC rfl rfl rfl rfl rfl rfl rfl ?_
    refine aA ?_
    refine aC rfl rfl rfl rfl rfl rfl rfl ?_
    refine aA ?_
    refine aC rfl rfl rfl rfl rfl rfl rfl ?_
    refine aA ?_
    refine aC rfl rfl rfl rfl rfl rfl rfl ?_
    refine aA ?_
    refine aB rfl (aI (v := .bool (true)) (b := true) rfl rfl rfl rfl) rfl rfl ?_
    refine aH ?_
    refine aG ?_
    refine bX rfl ?_
    refine wp_seq ?_
    refine aM [0] rfl ?_
    refine aA ?_
    refine aB rfl (aJ rfl) rfl rfl ?_
    refine aH ?_
    refine aG ?_
    refine wp_ret ?_
    refine aU ?_
    have hz32 : ∀ f, aV f x.bK y.bK = false := fun f => eY f x.bK y.bK kO
    have hr33 : dX x y = false := by simp [dX, hz32]
    refine aQ (.inl rfl) Tryz.results17 rfl ?_
    rw [hr33]
    exact ⟨rfl, Ha8.1⟩
   ·refine aA ?_
    refine aR rfl rfl rfl rfl (fun _ ho34 => ?_)
    refine aB ho34 (bO hg30 (bN rfl rfl)) rfl rfl ?_
    refine aA ?_
    refine aB rfl (aI (v := .bool (false)) (b := false) rfl rfl rfl rfl) rfl rfl ?_
    refine aA ?_
    refine aB rfl (aF rfl) rfl rfl ?_
    refine aA ?_
    refine aR rfl rfl rfl rfl (fun _ ho35 => ?_)
    refine aB ho35 (aL fa_35_4 rfl) rfl rfl ?_
    refine aA ?_
    refine aR rfl rfl rfl rfl (fun _ ho36 => ?_)
    refine aB ho36 (aN (k := 4) (v := .int .i64 (x.eO)) Tryz.isAgg3 rfl (Ha8.blk 1 rfl) rfl) rfl rfl ?_
    refine aA ?_
    refine aR rfl rfl rfl rfl (fun _ ho37 => ?_)
    refine aB ho37 (aL fa_35_4 rfl) rfl rfl ?_
    refine aA ?_
    refine aR rfl rfl rfl rfl (fun _ ho38 => ?_)
    refine aB ho38 (aN (k := 4) (v := .int .i64 (y.eO)) Tryz.isAgg3 rfl (Ha8.blk 0 rfl) rfl) rfl rfl ?_
    by_cases hg39 : ¬ (x.eO : Int) = y.eO
    ·refine aA ?_
     refine aR rfl rfl rfl rfl (fun _ ho40 => ?_)
     refine aB ho40 (bV hg39 (bN rfl rfl)) rfl rfl ?_
     refine aA ?_
     refine aB rfl (aI (v := .bool (true)) (b := false) rfl rfl rfl rfl) rfl rfl ?_
     refine aH ?_
     refine aG ?_
     refine bX rfl ?_
     refine wp_seq ?_
     refine aM [0] rfl ?_
     refine aA ?_
     refine aB rfl (aJ rfl) rfl rfl ?_
     refine aH ?_
     refine aG ?_
     refine wp_ret ?_
     refine aU ?_
     have hr41 : dX x y = false := by simp [dX, hg39]
     refine aQ (.inl rfl) Tryz.results17 rfl ?_
     rw [hr41]
     exact ⟨rfl, Ha8.1⟩
    ·refine aA ?_
     refine aR rfl rfl rfl rfl (fun _ ho42 => ?_)
     refine aB ho42 (bO hg39 (bN rfl rfl)) rfl rfl ?_
     refine aA ?_
     refine aB rfl (aI (v := .bool (false)) (b := false) rfl rfl rfl rfl) rfl rfl ?_
     refine aH ?_
     refine aG ?_
     refine dU rfl ?_
     refine wp_skip ?_
     refine aG ?_
     refine wp_seq ?_
     refine wp_seq ?_
     refine aM [0] rfl ?_
     refine aA ?_
     refine aB rfl (aJ rfl) rfl rfl ?_
     refine aH ?_
     refine aG ?_
     refine wp_block ?_
     refine wp_loop_ghost (fun r a' W' => ∃ (i1 : Nat) (x' : Nat → Value), a' = bT 101 x' [(2, .pointer (some ⟨g_0_0, 0, none⟩)), (3, .pointer (some ⟨g_0_1, 0, none⟩)), (5, .int .i64 (((i1 : Nat) : Int)))] ∧ (i1 + r = x.bE.length) ∧ (aV cO x.bE y.bE = aV cO (x.bE.drop i1) (y.bE.drop i1)) ∧ St w No [hB g_0_1 35 #[.slice Ay0 y.bE.length cy0, .slice Ay1 y.eT.length cy1, .slice Ay2 y.bH.length cy2, .slice Ay3 y.bK.length cy3, .int .i64 (y.eO)], hB g_0_0 35 #[.slice Ax0 x.bE.length cx0, .slice Ax1 x.eT.length cx1, .slice Ax2 x.bH.length cx2, .slice Ax3 x.bK.length cx3, .int .i64 (x.eO)]] W') x.bE.length ?_ ?_
     ·exact (bA [(2, .pointer (some ⟨g_0_0, 0, none⟩)), (3, .pointer (some ⟨g_0_1, 0, none⟩)), (5, .int .i64 (((0 : Nat) : Int)))] rfl).elim fun x' hx => ⟨0, x', hx, kO, rfl, Ha8⟩
     ·rintro r43 _ W44 ⟨i1, x45, rfl, hi1, hf1, H46⟩; clear Ha8
      refine wp_seq ?_
      refine wp_seq ?_
      refine aM [0, 1, 2, 3, 4] rfl ?_
      refine aA ?_
      refine aB rfl (aF rfl) rfl rfl ?_
      refine aA ?_
      refine aB rfl (aL nR rfl) rfl rfl ?_
      refine aA ?_
      refine aB rfl (aN (k := 0) (v := .slice Ax0 x.bE.length cx0) Tryz.isAgg30 rfl (H46.blk 1 rfl) rfl) rfl rfl ?_
      refine aA ?_
      refine aB rfl (bQ Tryz.runUnderlying30 rfl) rfl rfl ?_
      refine aA ?_
      refine aB rfl (gY rfl rfl) rfl rfl ?_
      refine aH ?_
      refine aG ?_
      refine eP rfl (fun hc47 => ?_) (fun hc47 => ?_)
      ·have hlt1 : i1 < x.bE.length := by omega
       have hlu1 : i1 < y.bE.length := by omega
       obtain ⟨ade48, cse48, hAe48, hKe48, hce48⟩ := dO hCx0 i1 hlt1
       have hle48 := nD hKe48
       have hoe48 := nE hKe48
       obtain ⟨ade49, cse49, hAe49, hKe49, hce49⟩ := dO hCy0 i1 hlu1
       have hle49 := nD hKe49
       have hoe49 := nE hKe49
       refine wp_skip ?_
       refine aG ?_
       refine wp_seq ?_
       refine wp_block ?_
       refine wp_seq ?_
       by_cases hg50 : (cO (x.bE[i1]) (y.bE[i1])) = true
       ·refine dD (fun W' => Blk W' g_0_0 35 #[.slice Ax0 x.bE.length cx0, .slice Ax1 x.eT.length cx1, .slice Ax2 x.bH.length cx2, .slice Ax3 x.bK.length cx3, .int .i64 (x.eO)] ∧ Cat W' (Addr.add ade48 (i1 * 2)) cse48 ∧ Blk W' g_0_1 35 #[.slice Ay0 y.bE.length cy0, .slice Ay1 y.eT.length cy1, .slice Ay2 y.bH.length cy2, .slice Ay3 y.bK.length cy3, .int .i64 (y.eO)] ∧ Cat W' (Addr.add ade49 (i1 * 2)) cse49) 12 kR ?_
        have H51 := H46.drew; clear H46
        have hS52 : Blk W44.drew g_0_0 35 #[.slice Ax0 x.bE.length cx0, .slice Ax1 x.eT.length cx1, .slice Ax2 x.bH.length cx2, .slice Ax3 x.bK.length cx3, .int .i64 (x.eO)] ∧ Cat W44.drew (Addr.add ade48 (i1 * 2)) cse48 ∧ Blk W44.drew g_0_1 35 #[.slice Ay0 y.bE.length cy0, .slice Ay1 y.eT.length cy1, .slice Ay2 y.bH.length cy2, .slice Ay3 y.bK.length cy3, .int .i64 (y.eO)] ∧ Cat W44.drew (Addr.add ade49 (i1 * 2)) cse49 := ⟨H51.blk 1 rfl, (Cat.upd hce48 H51.1), H51.blk 0 rfl, (Cat.upd hce49 H51.1)⟩
        refine aD (i := 0) rfl kR kR kR kR kR (fun _ _ _ h => h) rfl rfl hS52 (fun W' hs' => aL nR rfl) ?_
        refine aD (i := 1) rfl kR kR kR kR kR (fun _ _ _ h => h) rfl rfl hS52 (fun W' hs' => aN (k := 0) (v := .slice Ax0 x.bE.length cx0) Tryz.isAgg30 rfl hs'.1 rfl) ?_
        refine aD (i := 2) rfl kR kR kR kR kR (fun _ _ _ h => h) rfl rfl hS52 (fun W' hs' => aF rfl) ?_
        refine aD (i := 3) rfl kR kR kR kR kR (fun _ _ _ h => h) rfl rfl hS52 (fun W' hs' => aP (k := i1) Tryz.runUnderlying30 Tryz.sizeOf73 rfl rfl hAe48 hlt1) ?_
        refine aD (i := 4) rfl kR kR kR kR kR (fun _ _ _ h => h) rfl rfl hS52 (fun W' hs' => aY Tryz.isAgg73 Tryz.sizeOf73 rfl hs'.2.1 hle48) ?_
        refine aD (i := 5) rfl kR kR kR kR kR (fun _ _ _ h => h) rfl rfl hS52 (fun W' hs' => aL nR rfl) ?_
        refine aD (i := 6) rfl kR kR kR kR kR (fun _ _ _ h => h) rfl rfl hS52 (fun W' hs' => aN (k := 0) (v := .slice Ay0 y.bE.length cy0) Tryz.isAgg30 rfl hs'.2.2.1 rfl) ?_
        refine aD (i := 7) rfl kR kR kR kR kR (fun _ _ _ h => h) rfl rfl hS52 (fun W' hs' => aF rfl) ?_
        refine aD (i := 8) rfl kR kR kR kR kR (fun _ _ _ h => h) rfl rfl hS52 (fun W' hs' => aP (k := i1) Tryz.runUnderlying30 Tryz.sizeOf73 rfl rfl hAe49 hlu1) ?_
        refine aD (i := 9) rfl kR kR kR kR kR (fun _ _ _ h => h) rfl rfl hS52 (fun W' hs' => aY Tryz.isAgg73 Tryz.sizeOf73 rfl hs'.2.2.2 hle49) ?_
        refine gW (i := 10) kR ?_
        refine bP rfl Tryz.call40 (vs := #[.agg (List.toArray cse48), .agg (List.toArray cse49)]) rfl rfl rfl (fK (equalScripts_s (x.bE[i1]) (y.bE[i1]) _ _ _ (fE H51.1 hKe48) (fE H51.1 hKe49)) hg50) ?_
        rintro e55 W54 ⟨rfl, hu53⟩; refine ⟨_, rfl, ?_⟩
        have H56 := H51.no hu53; clear H51
        have hS57 := And.intro (H56.blk 1 rfl) (And.intro (Cat.upd hce48 H56.1) (And.intro (H56.blk 0 rfl) ((Cat.upd hce49 H56.1)))); refine ⟨fun _ => hS57, ?_⟩
        refine aD (i := 11) rfl kR kR kR kR kR (fun _ _ _ h => h) rfl rfl hS57 (fun W' hs' => gD rfl) ?_
        refine bU kR ?_ _
        refine aG ?_
        refine dU rfl ?_
        refine wp_skip ?_
        refine iY ?_
        refine aG ?_
        refine aM [0, 1, 2] rfl ?_
        refine aA ?_
        refine aB rfl (aF rfl) rfl rfl ?_
        refine aA ?_
        refine aB rfl (iB (k := i1) rfl rfl kO) rfl rfl ?_
        refine aA ?_
        refine aB rfl (aJ rfl) rfl rfl ?_
        refine aH ?_
        refine aG ?_
        exact (bA [(2, .pointer (some ⟨g_0_0, 0, none⟩)), (3, .pointer (some ⟨g_0_1, 0, none⟩)), (5, .int .i64 (((i1 + 1 : Nat) : Int)))] rfl).elim fun x' hx => ⟨r43 - 1, kO, i1 + 1, x', hx, kO, (hf1.trans (fC cO x.bE y.bE i1 hlt1 hlu1 hg50)), H56⟩
       ·refine dD (fun W' => Blk W' g_0_0 35 #[.slice Ax0 x.bE.length cx0, .slice Ax1 x.eT.length cx1, .slice Ax2 x.bH.length cx2, .slice Ax3 x.bK.length cx3, .int .i64 (x.eO)] ∧ Cat W' (Addr.add ade48 (i1 * 2)) cse48 ∧ Blk W' g_0_1 35 #[.slice Ay0 y.bE.length cy0, .slice Ay1 y.eT.length cy1, .slice Ay2 y.bH.length cy2, .slice Ay3 y.bK.length cy3, .int .i64 (y.eO)] ∧ Cat W' (Addr.add ade49 (i1 * 2)) cse49) 12 kR ?_
        have H58 := H46.drew; clear H46
        have hS59 : Blk W44.drew g_0_0 35 #[.slice Ax0 x.bE.length cx0, .slice Ax1 x.eT.length cx1, .slice Ax2 x.bH.length cx2, .slice Ax3 x.bK.length cx3, .int .i64 (x.eO)] ∧ Cat W44.drew (Addr.add ade48 (i1 * 2)) cse48 ∧ Blk W44.drew g_0_1 35 #[.slice Ay0 y.bE.length cy0, .slice Ay1 y.eT.length cy1, .slice Ay2 y.bH.length cy2, .slice Ay3 y.bK.length cy3, .int .i64 (y.eO)] ∧ Cat W44.drew (Addr.add ade49 (i1 * 2)) cse49 := ⟨H58.blk 1 rfl, (Cat.upd hce48 H58.1), H58.blk 0 rfl, (Cat.upd hce49 H58.1)⟩
        refine aD (i := 0) rfl kR kR kR kR kR (fun _ _ _ h => h) rfl rfl hS59 (fun W' hs' => aL nR rfl) ?_
        refine aD (i := 1) rfl kR kR kR kR kR (fun _ _ _ h => h) rfl rfl hS59 (fun W' hs' => aN (k := 0) (v := .slice Ax0 x.bE.length cx0) Tryz.isAgg30 rfl hs'.1 rfl) ?_
        refine aD (i := 2) rfl kR kR kR kR kR (fun _ _ _ h => h) rfl rfl hS59 (fun W' hs' => aF rfl) ?_
        refine aD (i := 3) rfl kR kR kR kR kR (fun _ _ _ h => h) rfl rfl hS59 (fun W' hs' => aP (k := i1) Tryz.runUnderlying30 Tryz.sizeOf73 rfl rfl hAe48 hlt1) ?_
        refine aD (i := 4) rfl kR kR kR kR kR (fun _ _ _ h => h) rfl rfl hS59 (fun W' hs' => aY Tryz.isAgg73 Tryz.sizeOf73 rfl hs'.2.1 hle48) ?_
        refine aD (i := 5) rfl kR kR kR kR kR (fun _ _ _ h => h) rfl rfl hS59 (fun W' hs' => aL nR rfl) ?_
        refine aD (i := 6) rfl kR kR kR kR kR (fun _ _ _ h => h) rfl rfl hS59 (fun W' hs' => aN (k := 0) (v := .slice Ay0 y.bE.length cy0) Tryz.isAgg30 rfl hs'.2.2.1 rfl) ?_
        refine aD (i := 7) rfl kR kR kR kR kR (fun _ _ _ h => h) rfl rfl hS59 (fun W' hs' => aF rfl) ?_
        refine aD (i := 8) rfl kR kR kR kR kR (fun _ _ _ h => h) rfl rfl hS59 (fun W' hs' => aP (k := i1) Tryz.runUnderlying30 Tryz.sizeOf73 rfl rfl hAe49 hlu1) ?_
        refine aD (i := 9) rfl kR kR kR kR kR (fun _ _ _ h => h) rfl rfl hS59 (fun W' hs' => aY Tryz.isAgg73 Tryz.sizeOf73 rfl hs'.2.2.2 hle49) ?_
        refine gW (i := 10) kR ?_
        refine bP rfl Tryz.call40 (vs := #[.agg (List.toArray cse48), .agg (List.toArray cse49)]) rfl rfl rfl (fK (equalScripts_s (x.bE[i1]) (y.bE[i1]) _ _ _ (fE H58.1 hKe48) (fE H58.1 hKe49)) (eq_false_of_ne_true hg50)) ?_
        rintro e62 W61 ⟨rfl, hu60⟩; refine ⟨_, rfl, ?_⟩
        have H63 := H58.no hu60; clear H58
        have hS64 := And.intro (H63.blk 1 rfl) (And.intro (Cat.upd hce48 H63.1) (And.intro (H63.blk 0 rfl) ((Cat.upd hce49 H63.1)))); refine ⟨fun _ => hS64, ?_⟩
        refine aD (i := 11) rfl kR kR kR kR kR (fun _ _ _ h => h) rfl rfl hS64 (fun W' hs' => gD rfl) ?_
        refine bU kR ?_ _
        refine aG ?_
        refine bX rfl ?_
        refine wp_seq ?_
        refine aM [0] rfl ?_
        refine aA ?_
        refine aB rfl (aJ rfl) rfl rfl ?_
        refine aH ?_
        refine aG ?_
        refine wp_ret ?_
        refine dS ?_
        refine aU ?_
        refine aU ?_
        refine dS ?_
        refine aU ?_
        have hz65 : aV cO x.bE y.bE = false := hf1.trans (eG cO x.bE y.bE i1 hlt1 hlu1 (eq_false_of_ne_true hg50))
        have hr66 : dX x y = false := by simp [dX, (Decidable.of_not_not hg39), hg50, hz65]
        refine aQ (.inl rfl) Tryz.results17 rfl ?_
        rw [hr66]
        exact ⟨rfl, H63.1⟩
      ·have hd1 : aV cO x.bE y.bE = true := hf1.trans (fD cO x.bE y.bE i1 kO kO)
       refine wp_exit ?_
       refine dP ?_
       refine dP ?_
       refine iZ ?_
       refine aG ?_
       refine wp_seq ?_
       refine wp_seq ?_
       refine aM [0] rfl ?_
       refine aA ?_
       refine aB rfl (aJ rfl) rfl rfl ?_
       refine aH ?_
       refine aG ?_
       refine wp_block ?_
       refine wp_loop_ghost (fun r a' W' => ∃ (i2 : Nat) (x' : Nat → Value), a' = bT 101 x' [(2, .pointer (some ⟨g_0_0, 0, none⟩)), (3, .pointer (some ⟨g_0_1, 0, none⟩)), (6, .int .i64 (((i2 : Nat) : Int)))] ∧ (i2 + r = x.eT.length) ∧ (aV dK x.eT y.eT = aV dK (x.eT.drop i2) (y.eT.drop i2)) ∧ St w No [hB g_0_1 35 #[.slice Ay0 y.bE.length cy0, .slice Ay1 y.eT.length cy1, .slice Ay2 y.bH.length cy2, .slice Ay3 y.bK.length cy3, .int .i64 (y.eO)], hB g_0_0 35 #[.slice Ax0 x.bE.length cx0, .slice Ax1 x.eT.length cx1, .slice Ax2 x.bH.length cx2, .slice Ax3 x.bK.length cx3, .int .i64 (x.eO)]] W') x.eT.length ?_ ?_
       ·exact (bA [(2, .pointer (some ⟨g_0_0, 0, none⟩)), (3, .pointer (some ⟨g_0_1, 0, none⟩)), (6, .int .i64 (((0 : Nat) : Int)))] rfl).elim fun x' hx => ⟨0, x', hx, kO, rfl, H46⟩
       ·rintro r67 _ W68 ⟨i2, x69, rfl, hi2, hf2, H70⟩; clear H46
        refine wp_seq ?_
        refine wp_seq ?_
        refine aM [0, 1, 2, 3, 4] rfl ?_
        refine aA ?_
        refine aB rfl (aF rfl) rfl rfl ?_
        refine aA ?_
        refine aB rfl (aL nS rfl) rfl rfl ?_
        refine aA ?_
        refine aB rfl (aN (k := 1) (v := .slice Ax1 x.eT.length cx1) Tryz.isAgg31 rfl (H70.blk 1 rfl) rfl) rfl rfl ?_
        refine aA ?_
        refine aB rfl (bQ Tryz.runUnderlying31 rfl) rfl rfl ?_
        refine aA ?_
        refine aB rfl (gY rfl rfl) rfl rfl ?_
        refine aH ?_
        refine aG ?_
        refine eP rfl (fun hc71 => ?_) (fun hc71 => ?_)
        ·have hlt2 : i2 < x.eT.length := by omega
         have hlu2 : i2 < y.eT.length := by omega
         obtain ⟨ade72, cse72, hAe72, hKe72, hce72⟩ := dO hCx1 i2 hlt2
         have hle72 := ki_Vat_len hKe72
         have hoe72 := ki_Vat_one hKe72
         obtain ⟨ade73, cse73, hAe73, hKe73, hce73⟩ := dO hCy1 i2 hlu2
         have hle73 := ki_Vat_len hKe73
         have hoe73 := ki_Vat_one hKe73
         refine wp_skip ?_
         refine aG ?_
         refine wp_seq ?_
         refine wp_block ?_
         refine wp_seq ?_
         by_cases hg74 : (dK (x.eT[i2]) (y.eT[i2])) = true
         ·refine dD (fun W' => Blk W' g_0_0 35 #[.slice Ax0 x.bE.length cx0, .slice Ax1 x.eT.length cx1, .slice Ax2 x.bH.length cx2, .slice Ax3 x.bK.length cx3, .int .i64 (x.eO)] ∧ Cat W' (Addr.add ade72 (i2 * 5)) cse72 ∧ Blk W' g_0_1 35 #[.slice Ay0 y.bE.length cy0, .slice Ay1 y.eT.length cy1, .slice Ay2 y.bH.length cy2, .slice Ay3 y.bK.length cy3, .int .i64 (y.eO)] ∧ Cat W' (Addr.add ade73 (i2 * 5)) cse73) 12 kR ?_
          have H75 := H70.drew; clear H70
          have hS76 : Blk W68.drew g_0_0 35 #[.slice Ax0 x.bE.length cx0, .slice Ax1 x.eT.length cx1, .slice Ax2 x.bH.length cx2, .slice Ax3 x.bK.length cx3, .int .i64 (x.eO)] ∧ Cat W68.drew (Addr.add ade72 (i2 * 5)) cse72 ∧ Blk W68.drew g_0_1 35 #[.slice Ay0 y.bE.length cy0, .slice Ay1 y.eT.length cy1, .slice Ay2 y.bH.length cy2, .slice Ay3 y.bK.length cy3, .int .i64 (y.eO)] ∧ Cat W68.drew (Addr.add ade73 (i2 * 5)) cse73 := ⟨H75.blk 1 rfl, (Cat.upd hce72 H75.1), H75.blk 0 rfl, (Cat.upd hce73 H75.1)⟩
          refine aD (i := 0) rfl kR kR kR kR kR (fun _ _ _ h => h) rfl rfl hS76 (fun W' hs' => aL nS rfl) ?_
          refine aD (i := 1) rfl kR kR kR kR kR (fun _ _ _ h => h) rfl rfl hS76 (fun W' hs' => aN (k := 1) (v := .slice Ax1 x.eT.length cx1) Tryz.isAgg31 rfl hs'.1 rfl) ?_
          refine aD (i := 2) rfl kR kR kR kR kR (fun _ _ _ h => h) rfl rfl hS76 (fun W' hs' => aF rfl) ?_
          refine aD (i := 3) rfl kR kR kR kR kR (fun _ _ _ h => h) rfl rfl hS76 (fun W' hs' => aP (k := i2) Tryz.runUnderlying31 Tryz.sizeOf80 rfl rfl hAe72 hlt2) ?_
          refine aD (i := 4) rfl kR kR kR kR kR (fun _ _ _ h => h) rfl rfl hS76 (fun W' hs' => aY Tryz.isAgg80 Tryz.sizeOf80 rfl hs'.2.1 hle72) ?_
          refine aD (i := 5) rfl kR kR kR kR kR (fun _ _ _ h => h) rfl rfl hS76 (fun W' hs' => aL nS rfl) ?_
          refine aD (i := 6) rfl kR kR kR kR kR (fun _ _ _ h => h) rfl rfl hS76 (fun W' hs' => aN (k := 1) (v := .slice Ay1 y.eT.length cy1) Tryz.isAgg31 rfl hs'.2.2.1 rfl) ?_
          refine aD (i := 7) rfl kR kR kR kR kR (fun _ _ _ h => h) rfl rfl hS76 (fun W' hs' => aF rfl) ?_
          refine aD (i := 8) rfl kR kR kR kR kR (fun _ _ _ h => h) rfl rfl hS76 (fun W' hs' => aP (k := i2) Tryz.runUnderlying31 Tryz.sizeOf80 rfl rfl hAe73 hlu2) ?_
          refine aD (i := 9) rfl kR kR kR kR kR (fun _ _ _ h => h) rfl rfl hS76 (fun W' hs' => aY Tryz.isAgg80 Tryz.sizeOf80 rfl hs'.2.2.2 hle73) ?_
          refine gW (i := 10) kR ?_
          refine bP rfl Tryz.call41 (vs := #[.agg (List.toArray cse72), .agg (List.toArray cse73)]) rfl rfl rfl (fK (equalVats_s (x.eT[i2]) (y.eT[i2]) _ _ _ (fE H75.1 hKe72) (fE H75.1 hKe73)) hg74) ?_
          rintro e79 W78 ⟨rfl, hu77⟩; refine ⟨_, rfl, ?_⟩
          have H80 := H75.no hu77; clear H75
          have hS81 := And.intro (H80.blk 1 rfl) (And.intro (Cat.upd hce72 H80.1) (And.intro (H80.blk 0 rfl) ((Cat.upd hce73 H80.1)))); refine ⟨fun _ => hS81, ?_⟩
          refine aD (i := 11) rfl kR kR kR kR kR (fun _ _ _ h => h) rfl rfl hS81 (fun W' hs' => gD rfl) ?_
          refine bU kR ?_ _
          refine aG ?_
          refine dU rfl ?_
          refine wp_skip ?_
          refine iY ?_
          refine aG ?_
          refine aM [0, 1, 2] rfl ?_
          refine aA ?_
          refine aB rfl (aF rfl) rfl rfl ?_
          refine aA ?_
          refine aB rfl (iB (k := i2) rfl rfl kO) rfl rfl ?_
          refine aA ?_
          refine aB rfl (aJ rfl) rfl rfl ?_
          refine aH ?_
          refine aG ?_
          exact (bA [(2, .pointer (some ⟨g_0_0, 0, none⟩)), (3, .pointer (some ⟨g_0_1, 0, none⟩)), (6, .int .i64 (((i2 + 1 : Nat) : Int)))] rfl).elim fun x' hx => ⟨r67 - 1, kO, i2 + 1, x', hx, kO, (hf2.trans (fC dK x.eT y.eT i2 hlt2 hlu2 hg74)), H80⟩
         ·refine dD (fun W' => Blk W' g_0_0 35 #[.slice Ax0 x.bE.length cx0, .slice Ax1 x.eT.length cx1, .slice Ax2 x.bH.length cx2, .slice Ax3 x.bK.length cx3, .int .i64 (x.eO)] ∧ Cat W' (Addr.add ade72 (i2 * 5)) cse72 ∧ Blk W' g_0_1 35 #[.slice Ay0 y.bE.length cy0, .slice Ay1 y.eT.length cy1, .slice Ay2 y.bH.length cy2, .slice Ay3 y.bK.length cy3, .int .i64 (y.eO)] ∧ Cat W' (Addr.add ade73 (i2 * 5)) cse73) 12 kR ?_
          have H82 := H70.drew; clear H70
          have hS83 : Blk W68.drew g_0_0 35 #[.slice Ax0 x.bE.length cx0, .slice Ax1 x.eT.length cx1, .slice Ax2 x.bH.length cx2, .slice Ax3 x.bK.length cx3, .int .i64 (x.eO)] ∧ Cat W68.drew (Addr.add ade72 (i2 * 5)) cse72 ∧ Blk W68.drew g_0_1 35 #[.slice Ay0 y.bE.length cy0, .slice Ay1 y.eT.length cy1, .slice Ay2 y.bH.length cy2, .slice Ay3 y.bK.length cy3, .int .i64 (y.eO)] ∧ Cat W68.drew (Addr.add ade73 (i2 * 5)) cse73 := ⟨H82.blk 1 rfl, (Cat.upd hce72 H82.1), H82.blk 0 rfl, (Cat.upd hce73 H82.1)⟩
          refine aD (i := 0) rfl kR kR kR kR kR (fun _ _ _ h => h) rfl rfl hS83 (fun W' hs' => aL nS rfl) ?_
          refine aD (i := 1) rfl kR kR kR kR kR (fun _ _ _ h => h) rfl rfl hS83 (fun W' hs' => aN (k := 1) (v := .slice Ax1 x.eT.length cx1) Tryz.isAgg31 rfl hs'.1 rfl) ?_
          refine aD (i := 2) rfl kR kR kR kR kR (fun _ _ _ h => h) rfl rfl hS83 (fun W' hs' => aF rfl) ?_
          refine aD (i := 3) rfl kR kR kR kR kR (fun _ _ _ h => h) rfl rfl hS83 (fun W' hs' => aP (k := i2) Tryz.runUnderlying31 Tryz.sizeOf80 rfl rfl hAe72 hlt2) ?_
          refine aD (i := 4) rfl kR kR kR kR kR (fun _ _ _ h => h) rfl rfl hS83 (fun W' hs' => aY Tryz.isAgg80 Tryz.sizeOf80 rfl hs'.2.1 hle72) ?_
          refine aD (i := 5) rfl kR kR kR kR kR (fun _ _ _ h => h) rfl rfl hS83 (fun W' hs' => aL nS rfl) ?_
          refine aD (i := 6) rfl kR kR kR kR kR (fun _ _ _ h => h) rfl rfl hS83 (fun W' hs' => aN (k := 1) (v := .slice Ay1 y.eT.length cy1) Tryz.isAgg31 rfl hs'.2.2.1 rfl) ?_
          refine aD (i := 7) rfl kR kR kR kR kR (fun _ _ _ h => h) rfl rfl hS83 (fun W' hs' => aF rfl) ?_
          refine aD (i := 8) rfl kR kR kR kR kR (fun _ _ _ h => h) rfl rfl hS83 (fun W' hs' => aP (k := i2) Tryz.runUnderlying31 Tryz.sizeOf80 rfl rfl hAe73 hlu2) ?_
          refine aD (i := 9) rfl kR kR kR kR kR (fun _ _ _ h => h) rfl rfl hS83 (fun W' hs' => aY Tryz.isAgg80 Tryz.sizeOf80 rfl hs'.2.2.2 hle73) ?_
          refine gW (i := 10) kR ?_
          refine bP rfl Tryz.call41 (vs := #[.agg (List.toArray cse72), .agg (List.toArray cse73)]) rfl rfl rfl (fK (equalVats_s (x.eT[i2]) (y.eT[i2]) _ _ _ (fE H82.1 hKe72) (fE H82.1 hKe73)) (eq_false_of_ne_true hg74)) ?_
          rintro e86 W85 ⟨rfl, hu84⟩; refine ⟨_, rfl, ?_⟩
          have H87 := H82.no hu84; clear H82
          have hS88 := And.intro (H87.blk 1 rfl) (And.intro (Cat.upd hce72 H87.1) (And.intro (H87.blk 0 rfl) ((Cat.upd hce73 H87.1)))); refine ⟨fun _ => hS88, ?_⟩
          refine aD (i := 11) rfl kR kR kR kR kR (fun _ _ _ h => h) rfl rfl hS88 (fun W' hs' => gD rfl) ?_
          refine bU kR ?_ _
          refine aG ?_
          refine bX rfl ?_
          refine wp_seq ?_
          refine aM [0] rfl ?_
          refine aA ?_
          refine aB rfl (aJ rfl) rfl rfl ?_
          refine aH ?_
          refine aG ?_
          refine wp_ret ?_
          refine dS ?_
          refine aU ?_
          refine aU ?_
          refine dS ?_
          refine aU ?_
          have hz89 : aV dK x.eT y.eT = false := hf2.trans (eG dK x.eT y.eT i2 hlt2 hlu2 (eq_false_of_ne_true hg74))
          have hr90 : dX x y = false := by simp [dX, (Decidable.of_not_not hg39), hg74, hd1, hz89]
          refine aQ (.inl rfl) Tryz.results17 rfl ?_
          rw [hr90]
          exact ⟨rfl, H87.1⟩
        ·have hd2 : aV dK x.eT y.eT = true := hf2.trans (fD dK x.eT y.eT i2 kO kO)
         refine wp_exit ?_
         refine dP ?_
         refine dP ?_
         refine iZ ?_
         refine aG ?_
         refine wp_seq ?_
         refine wp_seq ?_
         refine aM [0] rfl ?_
         refine aA ?_
         refine aB rfl (aJ rfl) rfl rfl ?_
         refine aH ?_
         refine aG ?_
         refine wp_block ?_
         refine wp_loop_ghost (fun r a' W' => ∃ (i3 : Nat) (x' : Nat → Value), a' = bT 101 x' [(2, .pointer (some ⟨g_0_0, 0, none⟩)), (3, .pointer (some ⟨g_0_1, 0, none⟩)), (7, .int .i64 (((i3 : Nat) : Int)))] ∧ (i3 + r = x.bK.length) ∧ (aV fZ x.bK y.bK = aV fZ (x.bK.drop i3) (y.bK.drop i3)) ∧ St w No [hB g_0_1 35 #[.slice Ay0 y.bE.length cy0, .slice Ay1 y.eT.length cy1, .slice Ay2 y.bH.length cy2, .slice Ay3 y.bK.length cy3, .int .i64 (y.eO)], hB g_0_0 35 #[.slice Ax0 x.bE.length cx0, .slice Ax1 x.eT.length cx1, .slice Ax2 x.bH.length cx2, .slice Ax3 x.bK.length cx3, .int .i64 (x.eO)]] W') x.bK.length ?_ ?_
         ·exact (bA [(2, .pointer (some ⟨g_0_0, 0, none⟩)), (3, .pointer (some ⟨g_0_1, 0, none⟩)), (7, .int .i64 (((0 : Nat) : Int)))] rfl).elim fun x' hx => ⟨0, x', hx, kO, rfl, H70⟩
         ·rintro r91 _ W92 ⟨i3, x93, rfl, hi3, hf3, H94⟩; clear H70
          refine wp_seq ?_
          refine wp_seq ?_
          refine aM [0, 1, 2, 3, 4] rfl ?_
          refine aA ?_
          refine aB rfl (aF rfl) rfl rfl ?_
          refine aA ?_
          refine aB rfl (aL nT rfl) rfl rfl ?_
          refine aA ?_
          refine aB rfl (aN (k := 3) (v := .slice Ax3 x.bK.length cx3) Tryz.isAgg33 rfl (H94.blk 1 rfl) rfl) rfl rfl ?_
          refine aA ?_
          refine aB rfl (bQ Tryz.runUnderlying33 rfl) rfl rfl ?_
          refine aA ?_
          refine aB rfl (gY rfl rfl) rfl rfl ?_
          refine aH ?_
          refine aG ?_
          refine eP rfl (fun hc95 => ?_) (fun hc95 => ?_)
          ·have hlt3 : i3 < x.bK.length := by omega
           have hlu3 : i3 < y.bK.length := by omega
           obtain ⟨ade96, cse96, hAe96, hKe96, hce96⟩ := dO hCx3 i3 hlt3
           have hle96 := pE hKe96
           have hoe96 := pF hKe96
           obtain ⟨ade97, cse97, hAe97, hKe97, hce97⟩ := dO hCy3 i3 hlu3
           have hle97 := pE hKe97
           have hoe97 := pF hKe97
           obtain rfl := lZ hKe96
           obtain rfl := lZ hKe97
           refine wp_skip ?_
           refine aG ?_
           refine wp_seq ?_
           refine wp_block ?_
           refine wp_seq ?_
           by_cases hg98 : (fZ (x.bK[i3]) (y.bK[i3])) = true
           ·refine dD (fun W' => Blk W' g_0_0 35 #[.slice Ax0 x.bE.length cx0, .slice Ax1 x.eT.length cx1, .slice Ax2 x.bH.length cx2, .slice Ax3 x.bK.length cx3, .int .i64 (x.eO)] ∧ Cat W' (Addr.add ade96 (i3 * 6)) [.int .i64 (x.bK[i3].Kind), .int .i64 (x.bK[i3].Vat), .int .i64 (x.bK[i3].Entity), .int .i64 (x.bK[i3].Tag.Vat), .int .i64 (x.bK[i3].Tag.Entity), .int .i64 (x.bK[i3].Tag.Seq)] ∧ Blk W' g_0_1 35 #[.slice Ay0 y.bE.length cy0, .slice Ay1 y.eT.length cy1, .slice Ay2 y.bH.length cy2, .slice Ay3 y.bK.length cy3, .int .i64 (y.eO)] ∧ Cat W' (Addr.add ade97 (i3 * 6)) [.int .i64 (y.bK[i3].Kind), .int .i64 (y.bK[i3].Vat), .int .i64 (y.bK[i3].Entity), .int .i64 (y.bK[i3].Tag.Vat), .int .i64 (y.bK[i3].Tag.Entity), .int .i64 (y.bK[i3].Tag.Seq)]) 11 kR ?_
            have H99 := H94.drew; clear H94
            have hS100 : Blk W92.drew g_0_0 35 #[.slice Ax0 x.bE.length cx0, .slice Ax1 x.eT.length cx1, .slice Ax2 x.bH.length cx2, .slice Ax3 x.bK.length cx3, .int .i64 (x.eO)] ∧ Cat W92.drew (Addr.add ade96 (i3 * 6)) [.int .i64 (x.bK[i3].Kind), .int .i64 (x.bK[i3].Vat), .int .i64 (x.bK[i3].Entity), .int .i64 (x.bK[i3].Tag.Vat), .int .i64 (x.bK[i3].Tag.Entity), .int .i64 (x.bK[i3].Tag.Seq)] ∧ Blk W92.drew g_0_1 35 #[.slice Ay0 y.bE.length cy0, .slice Ay1 y.eT.length cy1, .slice Ay2 y.bH.length cy2, .slice Ay3 y.bK.length cy3, .int .i64 (y.eO)] ∧ Cat W92.drew (Addr.add ade97 (i3 * 6)) [.int .i64 (y.bK[i3].Kind), .int .i64 (y.bK[i3].Vat), .int .i64 (y.bK[i3].Entity), .int .i64 (y.bK[i3].Tag.Vat), .int .i64 (y.bK[i3].Tag.Entity), .int .i64 (y.bK[i3].Tag.Seq)] := ⟨H99.blk 1 rfl, (Cat.upd hce96 H99.1), H99.blk 0 rfl, (Cat.upd hce97 H99.1)⟩
            refine aD (i := 0) rfl kR kR kR kR kR (fun _ _ _ h => h) rfl rfl hS100 (fun W' hs' => aL nT rfl) ?_
            refine aD (i := 1) rfl kR kR kR kR kR (fun _ _ _ h => h) rfl rfl hS100 (fun W' hs' => aN (k := 3) (v := .slice Ax3 x.bK.length cx3) Tryz.isAgg33 rfl hs'.1 rfl) ?_
            refine aD (i := 2) rfl kR kR kR kR kR (fun _ _ _ h => h) rfl rfl hS100 (fun W' hs' => aF rfl) ?_
            refine aD (i := 3) rfl kR kR kR kR kR (fun _ _ _ h => h) rfl rfl hS100 (fun W' hs' => aP (k := i3) Tryz.runUnderlying33 Tryz.sizeOf52 rfl rfl hAe96 hlt3) ?_
            refine aD (i := 4) rfl kR kR kR kR kR (fun _ _ _ h => h) rfl rfl hS100 (fun W' hs' => aY Tryz.isAgg52 Tryz.sizeOf52 rfl hs'.2.1 rfl) ?_
            refine aD (i := 5) rfl kR kR kR kR kR (fun _ _ _ h => h) rfl rfl hS100 (fun W' hs' => aL nT rfl) ?_
            refine aD (i := 6) rfl kR kR kR kR kR (fun _ _ _ h => h) rfl rfl hS100 (fun W' hs' => aN (k := 3) (v := .slice Ay3 y.bK.length cy3) Tryz.isAgg33 rfl hs'.2.2.1 rfl) ?_
            refine aD (i := 7) rfl kR kR kR kR kR (fun _ _ _ h => h) rfl rfl hS100 (fun W' hs' => aF rfl) ?_
            refine aD (i := 8) rfl kR kR kR kR kR (fun _ _ _ h => h) rfl rfl hS100 (fun W' hs' => aP (k := i3) Tryz.runUnderlying33 Tryz.sizeOf52 rfl rfl hAe97 hlu3) ?_
            refine aD (i := 9) rfl kR kR kR kR kR (fun _ _ _ h => h) rfl rfl hS100 (fun W' hs' => aY Tryz.isAgg52 Tryz.sizeOf52 rfl hs'.2.2.2 rfl) ?_
            refine aD (i := 10) rfl kR kR kR kR kR (fun _ _ _ h => h) rfl rfl hS100 (fun W' hs' => cZ (b := !(fZ (x.bK[i3]) (y.bK[i3]))) (by rw [hg98]) (fJ Tryz.eqGuardType52 rfl rfl (eqr_Note (x.bK[i3]) (y.bK[i3]) _ 9997))) ?_
            refine bU kR ?_ _
            refine aG ?_
            refine dU rfl ?_
            refine wp_skip ?_
            refine iY ?_
            refine aG ?_
            refine aM [0, 1, 2] rfl ?_
            refine aA ?_
            refine aB rfl (aF rfl) rfl rfl ?_
            refine aA ?_
            refine aB rfl (iB (k := i3) rfl rfl kO) rfl rfl ?_
            refine aA ?_
            refine aB rfl (aJ rfl) rfl rfl ?_
            refine aH ?_
            refine aG ?_
            exact (bA [(2, .pointer (some ⟨g_0_0, 0, none⟩)), (3, .pointer (some ⟨g_0_1, 0, none⟩)), (7, .int .i64 (((i3 + 1 : Nat) : Int)))] rfl).elim fun x' hx => ⟨r91 - 1, kO, i3 + 1, x', hx, kO, (hf3.trans (fC fZ x.bK y.bK i3 hlt3 hlu3 hg98)), H99⟩
           ·refine dD (fun W' => Blk W' g_0_0 35 #[.slice Ax0 x.bE.length cx0, .slice Ax1 x.eT.length cx1, .slice Ax2 x.bH.length cx2, .slice Ax3 x.bK.length cx3, .int .i64 (x.eO)] ∧ Cat W' (Addr.add ade96 (i3 * 6)) [.int .i64 (x.bK[i3].Kind), .int .i64 (x.bK[i3].Vat), .int .i64 (x.bK[i3].Entity), .int .i64 (x.bK[i3].Tag.Vat), .int .i64 (x.bK[i3].Tag.Entity), .int .i64 (x.bK[i3].Tag.Seq)] ∧ Blk W' g_0_1 35 #[.slice Ay0 y.bE.length cy0, .slice Ay1 y.eT.length cy1, .slice Ay2 y.bH.length cy2, .slice Ay3 y.bK.length cy3, .int .i64 (y.eO)] ∧ Cat W' (Addr.add ade97 (i3 * 6)) [.int .i64 (y.bK[i3].Kind), .int .i64 (y.bK[i3].Vat), .int .i64 (y.bK[i3].Entity), .int .i64 (y.bK[i3].Tag.Vat), .int .i64 (y.bK[i3].Tag.Entity), .int .i64 (y.bK[i3].Tag.Seq)]) 11 kR ?_
            have H101 := H94.drew; clear H94
            have hS102 : Blk W92.drew g_0_0 35 #[.slice Ax0 x.bE.length cx0, .slice Ax1 x.eT.length cx1, .slice Ax2 x.bH.length cx2, .slice Ax3 x.bK.length cx3, .int .i64 (x.eO)] ∧ Cat W92.drew (Addr.add ade96 (i3 * 6)) [.int .i64 (x.bK[i3].Kind), .int .i64 (x.bK[i3].Vat), .int .i64 (x.bK[i3].Entity), .int .i64 (x.bK[i3].Tag.Vat), .int .i64 (x.bK[i3].Tag.Entity), .int .i64 (x.bK[i3].Tag.Seq)] ∧ Blk W92.drew g_0_1 35 #[.slice Ay0 y.bE.length cy0, .slice Ay1 y.eT.length cy1, .slice Ay2 y.bH.length cy2, .slice Ay3 y.bK.length cy3, .int .i64 (y.eO)] ∧ Cat W92.drew (Addr.add ade97 (i3 * 6)) [.int .i64 (y.bK[i3].Kind), .int .i64 (y.bK[i3].Vat), .int .i64 (y.bK[i3].Entity), .int .i64 (y.bK[i3].Tag.Vat), .int .i64 (y.bK[i3].Tag.Entity), .int .i64 (y.bK[i3].Tag.Seq)] := ⟨H101.blk 1 rfl, (Cat.upd hce96 H101.1), H101.blk 0 rfl, (Cat.upd hce97 H101.1)⟩
            refine aD (i := 0) rfl kR kR kR kR kR (fun _ _ _ h => h) rfl rfl hS102 (fun W' hs' => aL nT rfl) ?_
            refine aD (i := 1) rfl kR kR kR kR kR (fun _ _ _ h => h) rfl rfl hS102 (fun W' hs' => aN (k := 3) (v := .slice Ax3 x.bK.length cx3) Tryz.isAgg33 rfl hs'.1 rfl) ?_
            refine aD (i := 2) rfl kR kR kR kR kR (fun _ _ _ h => h) rfl rfl hS102 (fun W' hs' => aF rfl) ?_
            refine aD (i := 3) rfl kR kR kR kR kR (fun _ _ _ h => h) rfl rfl hS102 (fun W' hs' => aP (k := i3) Tryz.runUnderlying33 Tryz.sizeOf52 rfl rfl hAe96 hlt3) ?_
            refine aD (i := 4) rfl kR kR kR kR kR (fun _ _ _ h => h) rfl rfl hS102 (fun W' hs' => aY Tryz.isAgg52 Tryz.sizeOf52 rfl hs'.2.1 rfl) ?_
            refine aD (i := 5) rfl kR kR kR kR kR (fun _ _ _ h => h) rfl rfl hS102 (fun W' hs' => aL nT rfl) ?_
            refine aD (i := 6) rfl kR kR kR kR kR (fun _ _ _ h => h) rfl rfl hS102 (fun W' hs' => aN (k := 3) (v := .slice Ay3 y.bK.length cy3) Tryz.isAgg33 rfl hs'.2.2.1 rfl) ?_
            refine aD (i := 7) rfl kR kR kR kR kR (fun _ _ _ h => h) rfl rfl hS102 (fun W' hs' => aF rfl) ?_
            refine aD (i := 8) rfl kR kR kR kR kR (fun _ _ _ h => h) rfl rfl hS102 (fun W' hs' => aP (k := i3) Tryz.runUnderlying33 Tryz.sizeOf52 rfl rfl hAe97 hlu3) ?_
            refine aD (i := 9) rfl kR kR kR kR kR (fun _ _ _ h => h) rfl rfl hS102 (fun W' hs' => aY Tryz.isAgg52 Tryz.sizeOf52 rfl hs'.2.2.2 rfl) ?_
            refine aD (i := 10) rfl kR kR kR kR kR (fun _ _ _ h => h) rfl rfl hS102 (fun W' hs' => cZ (b := !(fZ (x.bK[i3]) (y.bK[i3]))) (by rw [(eq_false_of_ne_true hg98)]) (fJ Tryz.eqGuardType52 rfl rfl (eqr_Note (x.bK[i3]) (y.bK[i3]) _ 9997))) ?_
            refine bU kR ?_ _
            refine aG ?_
            refine bX rfl ?_
            refine wp_seq ?_
            refine aM [0] rfl ?_
            refine aA ?_
            refine aB rfl (aJ rfl) rfl rfl ?_
            refine aH ?_
            refine aG ?_
            refine wp_ret ?_
            refine dS ?_
            refine aU ?_
            refine aU ?_
            refine dS ?_
            refine aU ?_
            have hz103 : aV fZ x.bK y.bK = false := hf3.trans (eG fZ x.bK y.bK i3 hlt3 hlu3 (eq_false_of_ne_true hg98))
            have hr104 : dX x y = false := by simp [dX, (Decidable.of_not_not hg39), hg98, hd1, hd2, hz103]
            refine aQ (.inl rfl) Tryz.results17 rfl ?_
            rw [hr104]
            exact ⟨rfl, H101.1⟩
          ·have hd3 : aV fZ x.bK y.bK = true := hf3.trans (fD fZ x.bK y.bK i3 kO kO)
           refine wp_exit ?_
           refine dP ?_
           refine dP ?_
           refine iZ ?_
           refine aG ?_
           refine wp_seq ?_
           refine aM [0, 1, 2, 3, 4, 5] rfl ?_
           refine aA ?_
           refine aB rfl (aL fa_35_2 rfl) rfl rfl ?_
           refine aA ?_
           refine aB rfl (aN (k := 2) (v := .slice Ax2 x.bH.length cx2) Tryz.isAgg32 rfl (H94.blk 1 rfl) rfl) rfl rfl ?_
           refine aA ?_
           refine aB rfl (aL fa_35_2 rfl) rfl rfl ?_
           refine aA ?_
           refine aB rfl (aN (k := 2) (v := .slice Ay2 y.bH.length cy2) Tryz.isAgg32 rfl (H94.blk 0 rfl) rfl) rfl rfl ?_
           by_cases hg105 : (aV bG x.bH y.bH) = true
           ·refine aA ?_
            refine bP rfl Tryz.call42 (vs := #[.slice Ax2 x.bH.length cx2, .slice Ay2 y.bH.length cy2]) rfl rfl rfl (fK (equalChannels_s x.bH y.bH _ _ _ _ _ (aS H94.1 hCx2) (aS H94.1 hCy2)) hg105) ?_
            rintro e108 W107 ⟨rfl, hu106⟩; refine ⟨_, rfl, ?_⟩
            have H109 := H94.no hu106; clear H94
            refine aA ?_
            refine aB rfl (aJ rfl) rfl rfl ?_
            refine aH ?_
            refine aG ?_
            refine wp_ret ?_
            have hr110 : dX x y = true := by simp [dX, (Decidable.of_not_not hg39), hg105, hd1, hd2, hd3]
            refine aQ (.inl rfl) Tryz.results17 rfl ?_
            rw [hr110]
            exact ⟨rfl, H109.1⟩
           ·refine aA ?_
            refine bP rfl Tryz.call42 (vs := #[.slice Ax2 x.bH.length cx2, .slice Ay2 y.bH.length cy2]) rfl rfl rfl (fK (equalChannels_s x.bH y.bH _ _ _ _ _ (aS H94.1 hCx2) (aS H94.1 hCy2)) (eq_false_of_ne_true hg105)) ?_
            rintro e113 W112 ⟨rfl, hu111⟩; refine ⟨_, rfl, ?_⟩
            have H114 := H94.no hu111; clear H94
            refine aA ?_
            refine aB rfl (aJ rfl) rfl rfl ?_
            refine aH ?_
            refine aG ?_
            refine wp_ret ?_
            have hr115 : dX x y = false := by simp [dX, (Decidable.of_not_not hg39), hg105, hd1, hd2, hd3]
            refine aQ (.inl rfl) Tryz.results17 rfl ?_
            rw [hr115]
            exact ⟨rfl, H114.1⟩
theorem law_FnExactEqualWorlds (w : World) (x0 : GWorld) (cs0 : List Value) (hK0 : lM.K w x0 cs0) (hG0 : Gd_World x0) (x1 : GWorld) (cs1 : List Value) (hK1 : lM.K w x1 cs1) (hG1 : Gd_World x1) : Calls Tryz.prog 5 #[.agg cs0.toArray, .agg cs1.toArray] w (bW true w) := by
 have hl0_ : cs0.length = 5 := lM.jR hK0
 have ho0_ : ∀ u ∈ (List.toArray cs0).toList, u.oneCell' = true := lM.jW hK0
 have hl1_ : cs1.length = 5 := lM.jR hK1
 have ho1_ : ∀ u ∈ (List.toArray cs1).toList, u.oneCell' = true := lM.jW hK1
 refine enter 45 [(0, .agg (List.toArray cs0)), (1, .agg (List.toArray cs1))] Tryz.func5 rfl kR ?_
 intro xj
 have H1 : St w No [] w := St.enter
 refine wp_seq ?_
 refine aM [0, 1, 2] rfl ?_
 refine aA ?_
 refine gX rfl rfl rfl rfl H1 ?_
 intro g_0_0 W2 hu3 Ha4; clear H1; clear hu3
 refine aA ?_
 refine gX rfl rfl rfl rfl Ha4 ?_
 intro g_0_1 W6 hu7 Ha8; clear Ha4; clear hu7
 refine aA ?_
 refine aB rfl (aJ rfl) rfl rfl ?_
 refine aH ?_
 refine aG ?_
 refine wp_seq ?_
 refine aM [0] rfl ?_
 refine aA ?_
 refine aB rfl (aJ rfl) rfl rfl ?_
 refine aH ?_
 refine aG ?_
 refine wp_seq ?_
 refine aM [0, 1, 2, 3] rfl ?_
 refine aA ?_
 refine aB rfl (fH Tryz.isAgg27 Tryz.sizeOf27 rfl (Ha8.blk 1 rfl) hl0_) rfl rfl ?_
 refine aA ?_
 refine aB rfl (aF rfl) rfl rfl ?_
 refine aA ?_
 refine bP rfl Tryz.call6 (vs := #[.agg (List.toArray cs0), .int .i64 (1048576)]) rfl rfl rfl (sz_World x0 _ _ _ (fE Ha8.1 hK0) (Bd_of_World hG0) kO kO) ?_
 rintro e14 W13 ⟨n11, rfl, hr12, hu10⟩; refine ⟨_, rfl, ?_⟩
 have H15 := Ha8.no hu10; clear Ha8
 refine aA ?_
 refine aB rfl (aJ rfl) rfl rfl ?_
 refine aH ?_
 refine aG ?_
 refine wp_seq ?_
 refine wp_seq ?_
 refine aM [0, 1] rfl ?_
 refine aA ?_
 refine aB rfl (aF rfl) rfl rfl ?_
 refine aA ?_
 refine aB rfl (gY rfl rfl) rfl rfl ?_
 refine aH ?_
 refine aG ?_
 refine eP rfl (fun hc16 => ?_) (fun hc16 => ?_)
 ·refine wp_seq ?_
  refine aM [0] rfl ?_
  refine aA ?_
  refine aB rfl (aJ rfl) rfl rfl ?_
  refine aH ?_
  refine aG ?_
  refine wp_ret ?_
  refine aU ?_
  refine aQ (.inl rfl) Tryz.results5 rfl ?_
  exact ⟨rfl, H15.1⟩
 ·have hs_x0 : iR x0 ≤ 1048576 := by omega
  refine wp_skip ?_
  refine aG ?_
  refine wp_seq ?_
  refine aM [0, 1, 2, 3] rfl ?_
  refine aA ?_
  refine aB rfl (fH Tryz.isAgg27 Tryz.sizeOf27 rfl (H15.blk 0 rfl) hl1_) rfl rfl ?_
  refine aA ?_
  refine aB rfl (aF rfl) rfl rfl ?_
  refine aA ?_
  refine bP rfl Tryz.call6 (vs := #[.agg (List.toArray cs1), .int .i64 (n11)]) rfl rfl rfl (sz_World x1 _ _ _ (fE H15.1 hK1) (Bd_of_World hG1) kO kO) ?_
  rintro e21 W20 ⟨n18, rfl, hr19, hu17⟩; refine ⟨_, rfl, ?_⟩
  have H22 := H15.no hu17; clear H15
  refine aA ?_
  refine aB rfl (aJ rfl) rfl rfl ?_
  refine aH ?_
  refine aG ?_
  refine wp_seq ?_
  refine wp_seq ?_
  refine aM [0, 1] rfl ?_
  refine aA ?_
  refine aB rfl (aF rfl) rfl rfl ?_
  refine aA ?_
  refine aB rfl (gY rfl rfl) rfl rfl ?_
  refine aH ?_
  refine aG ?_
  refine eP rfl (fun hc23 => ?_) (fun hc23 => ?_)
  ·refine wp_seq ?_
   refine aM [0] rfl ?_
   refine aA ?_
   refine aB rfl (aJ rfl) rfl rfl ?_
   refine aH ?_
   refine aG ?_
   refine wp_ret ?_
   refine aU ?_
   refine aQ (.inl rfl) Tryz.results5 rfl ?_
   exact ⟨rfl, H22.1⟩
  ·have hs_x1 : iR x1 ≤ 1048576 := by omega
   refine wp_skip ?_
   refine aG ?_
   refine wp_seq ?_
   refine dD (fun W' => Blk W' g_0_0 27 (List.toArray cs0) ∧ Blk W' g_0_1 27 (List.toArray cs1)) 6 kR ?_
   have H24 := H22.drew; clear H22
   have hS25 : Blk W20.drew g_0_0 27 (List.toArray cs0) ∧ Blk W20.drew g_0_1 27 (List.toArray cs1) := ⟨H24.blk 1 rfl, H24.blk 0 rfl⟩
   refine aD (i := 0) rfl kR kR kR kR kR (fun _ _ _ h => h) rfl rfl hS25 (fun W' hs' => fH Tryz.isAgg27 Tryz.sizeOf27 rfl hs'.1 hl0_) ?_
   refine aD (i := 2) rfl kR kR kR kR kR (fun _ _ _ h => h) rfl rfl hS25 (fun W' hs' => fH Tryz.isAgg27 Tryz.sizeOf27 rfl hs'.2 hl1_) ?_
   refine gW (i := 1) kR ?_
   refine bP rfl Tryz.call8 (vs := #[.agg (List.toArray cs0)]) rfl rfl rfl (to_World x0 _ _ (fE H24.1 hK0) hs_x0) ?_
   rintro e30 W29 ⟨cs_8_1, rfl, hM27, hu28⟩; refine ⟨_, rfl, ?_⟩
   have H33 := H24.new (q := hM iL x0 cs_8_1) hu28 hM27; clear H24
   have hS34 := And.intro (H33.blk 2 rfl) (H33.blk 1 rfl); refine ⟨fun _ => hS34, ?_⟩
   refine gW (i := 3) kR ?_
   refine bP rfl Tryz.call8 (vs := #[.agg (List.toArray cs1)]) rfl rfl rfl (to_World x1 _ _ (fE H33.1 hK1) hs_x1) ?_
   rintro e39 W38 ⟨cs_8_3, rfl, hM36, hu37⟩; refine ⟨_, rfl, ?_⟩
   have H42 := H33.new (q := hM iL x1 cs_8_3) hu37 hM36; clear H33
   have hS43 := And.intro (H42.blk 3 rfl) (H42.blk 2 rfl); refine ⟨fun _ => hS43, ?_⟩
   refine gW (i := 4) kR ?_
   refine bP rfl Tryz.call17 (vs := #[.agg (List.toArray cs_8_1), .agg (List.toArray cs_8_3)]) rfl rfl rfl (equalWorlds_s x0 x1 _ _ _ (H42.kn 1 rfl) (H42.kn 0 rfl)) ?_
   rintro e46 W45 ⟨rfl, hu44⟩; refine ⟨_, rfl, ?_⟩
   have H47 := H42.no hu44; clear H42
   have hS48 := And.intro (H47.blk 3 rfl) (H47.blk 2 rfl); refine ⟨fun _ => hS48, ?_⟩
   refine aD (i := 5) rfl kR kR kR kR kR (fun _ _ _ h => h) rfl rfl hS48 (fun W' hs' => aJ rfl) ?_
   refine bU kR ?_ _
   refine aG ?_
   refine wp_seq ?_
   refine aM [0, 1, 2, 3] rfl ?_
   refine aA ?_
   refine aB rfl (fH Tryz.isAgg27 Tryz.sizeOf27 rfl (H47.blk 3 rfl) hl0_) rfl rfl ?_
   refine aA ?_
   refine bP rfl Tryz.call8 (vs := #[.agg (List.toArray cs0)]) rfl rfl rfl (to_World x0 _ _ (fE H47.1 hK0) hs_x0) ?_
   rintro e53 W52 ⟨cs_9_1, rfl, hM50, hu51⟩; refine ⟨_, rfl, ?_⟩
   have H56 := H47.new (q := hM iL x0 cs_9_1) hu51 hM50; clear H47
   refine aA ?_
   refine gZ rfl Tryz.zeroValue35 rfl rfl H56 ?_
   intro g_9_2 W57 hu58 Ha59; clear H56; clear hu58
   refine aA ?_
   refine gN rfl Tryz.sizeOf35 rfl rfl (lC (Ha59.kn 1 rfl)) rfl (ki_World_one (Ha59.kn 1 rfl)) Ha59 ?_
   intro W61 hu62 Ha63; clear Ha59; clear hu62
   refine aH ?_
   refine aG ?_
   refine wp_seq ?_
   refine aM [0, 1, 2, 3] rfl ?_
   refine aA ?_
   refine aB rfl (fH Tryz.isAgg27 Tryz.sizeOf27 rfl (Ha63.blk 4 rfl) hl1_) rfl rfl ?_
   refine aA ?_
   refine bP rfl Tryz.call8 (vs := #[.agg (List.toArray cs1)]) rfl rfl rfl (to_World x1 _ _ (fE Ha63.1 hK1) hs_x1) ?_
   rintro e69 W68 ⟨cs_10_1, rfl, hM66, hu67⟩; refine ⟨_, rfl, ?_⟩
   have H72 := Ha63.new (q := hM iL x1 cs_10_1) hu67 hM66; clear Ha63
   refine aA ?_
   refine gZ rfl Tryz.zeroValue35 rfl rfl H72 ?_
   intro g_10_2 W73 hu74 Ha75; clear H72; clear hu74
   refine aA ?_
   refine gN rfl Tryz.sizeOf35 rfl rfl (lC (Ha75.kn 1 rfl)) rfl (ki_World_one (Ha75.kn 1 rfl)) Ha75 ?_
   intro W77 hu78 Ha79; clear Ha75; clear hu78
   refine aH ?_
   refine aG ?_
   refine wp_seq ?_
   refine aM [0, 1, 2, 3] rfl ?_
   refine aA ?_
   refine aB rfl (fH Tryz.isAgg35 Tryz.sizeOf35 rfl (Ha79.blk 2 rfl) (lC (Ha79.kn 3 rfl))) rfl rfl ?_
   refine aA ?_
   refine aB rfl (fH Tryz.isAgg35 Tryz.sizeOf35 rfl (Ha79.blk 0 rfl) (lC (Ha79.kn 1 rfl))) rfl rfl ?_
   refine aA ?_
   refine bP rfl Tryz.call18 (vs := #[.agg (List.toArray cs_9_1), .agg (List.toArray cs_10_1)]) rfl rfl rfl (equalWorlds_i x0 x1 _ _ _ (Ha79.kn 3 rfl) (Ha79.kn 1 rfl)) ?_
   rintro e83 W82 ⟨rfl, hu81⟩; refine ⟨_, rfl, ?_⟩
   have H84 := Ha79.no hu81; clear Ha79
   refine aA ?_
   refine aB rfl (aJ rfl) rfl rfl ?_
   refine aH ?_
   refine aG ?_
   refine wp_seq ?_
   refine wp_seq ?_
   refine aM [0, 1, 2] rfl ?_
   refine aA ?_
   refine aB rfl (aF rfl) rfl rfl ?_
   refine aA ?_
   refine aB rfl (aF rfl) rfl rfl ?_
   refine aA ?_
   refine aB rfl (rn_neqB Tryz.runUnderlying4 rfl rfl) rfl rfl ?_
   refine aH ?_
   refine aG ?_
   refine dU rfl ?_
   refine wp_skip ?_
   refine aG ?_
   refine wp_seq ?_
   refine wp_seq ?_
   refine dD (fun W' => Blk W' g_9_2 35 (List.toArray cs_9_1) ∧ Blk W' g_0_0 27 (List.toArray cs0)) 5 kR ?_
   have H85 := H84.drew; clear H84
   have hS86 : Blk W82.drew g_9_2 35 (List.toArray cs_9_1) ∧ Blk W82.drew g_0_0 27 (List.toArray cs0) := ⟨H85.blk 2 rfl, H85.blk 7 rfl⟩
   refine aD (i := 0) rfl kR kR kR kR kR (fun _ _ _ h => h) rfl rfl hS86 (fun W' hs' => fH Tryz.isAgg35 Tryz.sizeOf35 rfl hs'.1 (lC (H85.kn 3 rfl))) ?_
   refine aD (i := 1) rfl kR kR kR kR kR (fun _ _ _ h => h) rfl rfl hS86 (fun W' hs' => fH Tryz.isAgg27 Tryz.sizeOf27 rfl hs'.2 hl0_) ?_
   refine gW (i := 2) kR ?_
   refine bP rfl Tryz.call8 (vs := #[.agg (List.toArray cs0)]) rfl rfl rfl (to_World x0 _ _ (fE H85.1 hK0) hs_x0) ?_
   rintro e91 W90 ⟨cs_14_2, rfl, hM88, hu89⟩; refine ⟨_, rfl, ?_⟩
   have H94 := H85.new (q := hM iL x0 cs_14_2) hu89 hM88; clear H85
   have hS95 := And.intro (H94.blk 3 rfl) (H94.blk 8 rfl); refine ⟨fun _ => hS95, ?_⟩
   refine gW (i := 3) kR ?_
   refine bP rfl Tryz.call10 (vs := #[.agg (List.toArray cs_9_1), .agg (List.toArray cs_14_2)]) rfl rfl rfl (eq_World x0 _ _ _ (H94.kn 4 rfl) (H94.kn 0 rfl)) ?_
   rintro e98 W97 ⟨rfl, hu96⟩; refine ⟨_, rfl, ?_⟩
   have H99 := H94.no hu96; clear H94
   have hS100 := And.intro (H99.blk 3 rfl) (H99.blk 8 rfl); refine ⟨fun _ => hS100, ?_⟩
   refine aD (i := 4) rfl kR kR kR kR kR (fun _ _ _ h => h) rfl rfl hS100 (fun W' hs' => gD rfl) ?_
   refine bU kR ?_ _
   refine aG ?_
   refine dU rfl ?_
   refine wp_skip ?_
   refine aG ?_
   refine wp_seq ?_
   refine wp_seq ?_
   refine dD (fun W' => Blk W' g_10_2 35 (List.toArray cs_10_1) ∧ Blk W' g_0_1 27 (List.toArray cs1)) 5 kR ?_
   have H101 := H99.drew; clear H99
   have hS102 : Blk W97.drew g_10_2 35 (List.toArray cs_10_1) ∧ Blk W97.drew g_0_1 27 (List.toArray cs1) := ⟨H101.blk 1 rfl, H101.blk 7 rfl⟩
   refine aD (i := 0) rfl kR kR kR kR kR (fun _ _ _ h => h) rfl rfl hS102 (fun W' hs' => fH Tryz.isAgg35 Tryz.sizeOf35 rfl hs'.1 (lC (H101.kn 2 rfl))) ?_
   refine aD (i := 1) rfl kR kR kR kR kR (fun _ _ _ h => h) rfl rfl hS102 (fun W' hs' => fH Tryz.isAgg27 Tryz.sizeOf27 rfl hs'.2 hl1_) ?_
   refine gW (i := 2) kR ?_
   refine bP rfl Tryz.call8 (vs := #[.agg (List.toArray cs1)]) rfl rfl rfl (to_World x1 _ _ (fE H101.1 hK1) hs_x1) ?_
   rintro e107 W106 ⟨cs_16_2, rfl, hM104, hu105⟩; refine ⟨_, rfl, ?_⟩
   have H110 := H101.new (q := hM iL x1 cs_16_2) hu105 hM104; clear H101
   have hS111 := And.intro (H110.blk 2 rfl) (H110.blk 8 rfl); refine ⟨fun _ => hS111, ?_⟩
   refine gW (i := 3) kR ?_
   refine bP rfl Tryz.call10 (vs := #[.agg (List.toArray cs_10_1), .agg (List.toArray cs_16_2)]) rfl rfl rfl (eq_World x1 _ _ _ (H110.kn 3 rfl) (H110.kn 0 rfl)) ?_
   rintro e114 W113 ⟨rfl, hu112⟩; refine ⟨_, rfl, ?_⟩
   have H115 := H110.no hu112; clear H110
   have hS116 := And.intro (H115.blk 2 rfl) (H115.blk 8 rfl); refine ⟨fun _ => hS116, ?_⟩
   refine aD (i := 4) rfl kR kR kR kR kR (fun _ _ _ h => h) rfl rfl hS116 (fun W' hs' => gD rfl) ?_
   refine bU kR ?_ _
   refine aG ?_
   refine dU rfl ?_
   refine wp_skip ?_
   refine aG ?_
   refine wp_seq ?_
   refine aM [0] rfl ?_
   refine aA ?_
   refine aB rfl (aJ rfl) rfl rfl ?_
   refine aH ?_
   refine aG ?_
   refine wp_ret ?_
   refine aQ (.inl rfl) Tryz.results5 rfl ?_
   exact ⟨rfl, H115.1⟩
end Go.Proofs.YtgaoabnnpjngcaaGreatFam
namespace Go.Proofs.YtgaoabnnpjngcaaGreatOpen
open Go.ChangeShapes Go.WideShapes Go.Proofs.YtgaoabnnpjngcaaGreatSep
structure Opens {α : Type} (P : Program) (t : TypeId) (d : Kn α) (G : α → Prop) : Prop where
 out : ∀ {H : Type} (enc : TypeId × Value → H) (w : World) (base : Nat) (spare : Nat → Bool) (held : Bool) (fuel : Nat) (cs : List Value) (x : DataW H × List MemPlace),
  DataW.trod enc P w base spare held fuel t cs = some x → ∃ v, d.K w v cs ∧ G v
structure OpensFs {α : Type} (P : Program) (fs : List Field) (off : Nat) (d : Kn α) (G : α → Prop) : Prop where
 out : ∀ {H : Type} (enc : TypeId × Value → H) (w : World) (base : Nat) (spare : Nat → Bool) (held : Bool) (fuel : Nat) (cs : List Value), cs.length = off + d.sz →
  (∀ f ∈ fs, ∃ x, DataW.trod enc P w base spare held fuel f.type ((cs.drop f.offset).take (P.cellsOf f.type)) = some x) → ∃ v, d.K w v (cs.drop off) ∧ G v
section
variable {P : Program} {t e : TypeId}
theorem dG (ht : P.underlying t = some (.int .i64)) : Opens P t Kn.int (fun n => (Lit.int .i64 n).wf = true) := by
 refine ⟨?_⟩
 intro H enc w base spare held fuel cs x h
 obtain ⟨n, rfl, _, hw⟩ := DataW.trod_int ht h
 exact ⟨n, rfl, hw⟩
theorem opens_bool (ht : P.underlying t = some .bool) : Opens P t Kn.bool (fun _ => True) := by
 refine ⟨?_⟩
 intro H enc w base spare held fuel cs x h
 obtain ⟨n, rfl, _⟩ := DataW.trod_bool ht h
 exact ⟨n, rfl, trivial⟩
theorem mP (ht : P.underlying t = some .string) : Opens P t Kn.string (fun s => s.size ≤ 9223372036854775807) := by
 refine ⟨?_⟩
 intro H enc w base spare held fuel cs x h
 obtain ⟨s, rfl, _, hw⟩ := DataW.trod_string ht h
 exact ⟨s, rfl, by simpa [maxLen] using hw⟩
theorem fO {α : Type} {d : Kn α} {G : α → Prop} (z : α) (ht : P.underlying t = some (.slice e)) (hc : P.cellsOf e = d.sz) (he : Opens P e d G) :
 Opens P t (Kn.slice e d) (fun l => l.length ≤ 9223372036854775807 ∧ ∀ x ∈ l, G x) := by
 refine ⟨?_⟩
 intro H enc w base spare held fuel cs x h
 rcases Go.Deep.open_slice ht h with ⟨rfl, _⟩ | ⟨a, len, cap, m, n, D, Pl, rfl, _, hl, hm, hmm, _, hx⟩
 ·exact ⟨[], ⟨none, 0, rfl, Nat.le_refl _, by simp, fun h => absurd h (Nat.lt_irrefl 0)⟩, by simp, by simp⟩
 have hle : len ≤ m := by rw [hmm]; split <;> omega
 have hm' : cap ≤ 9223372036854775807 := by simpa [maxLen] using hm
 haveI : Inhabited α := ⟨z⟩
 obtain ⟨V, hV⟩ := Go.Deep.choose_lt (α := α) (n := len) (p := fun i v => ∃ cs', w.cells? base (a.add (i * P.cellsOf e)) (P.cellsOf e) = some cs' ∧ d.K w v cs' ∧ G v) (fun i hi => by
  obtain ⟨cs', h1, h2⟩ := hx i kO
  obtain ⟨v, hk, hg⟩ := he.out enc w base spare held n cs' _ h2
  exact ⟨v, cs', h1, hk, hg⟩)
 have hlen : ((List.range len).map V).length = len := by simp
 refine ⟨(List.range len).map V, ⟨some a, cap, by rw [hlen], by rw [hlen]; exact hl, by rw [hlen]; omega, fun _ => ⟨a, rfl, fun j p hj => ?_⟩⟩, by rw [hlen]; omega, ?_⟩
 ·obtain ⟨hj1, hj2⟩ := List.getElem?_eq_some_iff.1 hj
  have hj3 : j < len := by rw [hlen] at hj1; exact hj1
  have hp : V j = p := by simpa using hj2
  subst hp
  obtain ⟨cs', h1, hk, _⟩ := hV j hj3
  rw [hc] at h1
  obtain ⟨_, h2, h3⟩ := World.cells?_some h1
  refine ⟨cs', hk, fun i u hu => ?_⟩
  have hi : i < d.sz := by rw [← h2]; exact (List.getElem?_eq_some_iff.1 hu).1
  have := h3 i hi
  rw [hu, Go.Deep.add_add] at this
  exact this
 ·intro x hx
  obtain ⟨j, hj, rfl⟩ := List.mem_map.1 hx
  obtain ⟨_, _, _, hg⟩ := hV j (List.mem_range.1 hj)
  exact hg
theorem iA {α β : Type} {d : Kn α} {G : α → Prop} (f : β → α) (g : α → β) (hfg : ∀ y, f (g y) = y) (h : Opens P t d G) : Opens P t (Kn.iso d f) (fun x => G (f x)) := by
 refine ⟨?_⟩
 intro H enc w base spare held fuel cs x hx
 obtain ⟨v, hk, hg⟩ := h.out enc w base spare held fuel cs x hx
 refine ⟨g v, ?_, ?_⟩
 ·show d.K w (f (g v)) cs
  rw [hfg]
  exact hk
 ·show G (f (g v))
  rw [hfg]
  exact hg
theorem gF {α : Type} {d : Kn α} {G : α → Prop} {f : Field} {off : Nat} (ho : f.offset = off) (hc : P.cellsOf f.type = d.sz) (h : Opens P f.type d G) : OpensFs P [f] off d G := by
 refine ⟨?_⟩
 intro H enc w base spare held fuel cs hl hf
 obtain ⟨x, hx⟩ := hf f (List.mem_singleton.2 rfl)
 rw [hc, ho, List.take_of_length_le (by rw [List.length_drop]; omega)] at hx
 exact h.out enc w base spare held fuel _ x hx
theorem bC {α β : Type} {a : Kn α} {b : Kn β} {G : α → Prop} {G' : β → Prop} {f : Field} {fs : List Field} {off : Nat} (ho : f.offset = off) (hc : P.cellsOf f.type = a.sz) (h : Opens P f.type a G)
 (h' : OpensFs P fs (off + a.sz) b G') : OpensFs P (f :: fs) off (Kn.pair a b) (fun x => G x.1 ∧ G' x.2) := by
 refine ⟨?_⟩
 intro H enc w base spare held fuel cs hl hf
 have hl' : cs.length = off + (a.sz + b.sz) := hl
 obtain ⟨x, hx⟩ := hf f List.mem_cons_self
 rw [hc, ho] at hx
 obtain ⟨v, hk, hg⟩ := h.out enc w base spare held fuel _ x hx
 obtain ⟨v', hk', hg'⟩ := h'.out enc w base spare held fuel cs kO (fun f hm => hf f (List.mem_cons_of_mem _ hm))
 exact ⟨(v, v'), ⟨_, _, by rw [← List.drop_drop]; exact (List.take_append_drop _ _).symm, hk, hk'⟩, hg, hg'⟩
theorem fF {α : Type} {d : Kn α} {G : α → Prop} {fs : List Field} (ht : P.underlying t = some (.struct fs.toArray)) (hc : P.cellsOf t = d.sz) (h : OpensFs P fs 0 d G) : Opens P t d G := by
 refine ⟨?_⟩
 intro H enc w base spare held fuel cs x hx
 obtain ⟨xs, n, _, _, hl, hlen, hf⟩ := DataW.trod_struct ht hx
 refine h.out enc w base spare held n cs (by rw [hl, hc, Nat.zero_add]) (fun f hm => ?_)
 obtain ⟨i, hi, rfl⟩ := List.mem_iff_getElem.1 hm
 have h1 := hf i fs[i] (by simp [hi])
 have hi' : i < xs.length := by rw [hlen]; simpa using hi
 exact ⟨xs[i], by rw [h1, List.getElem?_eq_getElem hi']⟩
theorem arg_struct {H : Type} {enc : TypeId × Value → H} {w : World} {base : Nat} {spare : Nat → Bool} {held : Bool} {α : Type} {d : Kn α} {G : α → Prop} {cs : Array Value} {dd : DataW H} {ps : List MemPlace}
 (h : Opens P t d G) (hd : DataW.Trod enc P w base spare held t (.agg cs) dd ps) : ∃ x : α, d.K w x cs.toList ∧ G x := by
 obtain ⟨fuel, hf⟩ := hd
 exact h.out enc w base spare held fuel _ _ hf
end
end Go.Proofs.YtgaoabnnpjngcaaGreatOpen
