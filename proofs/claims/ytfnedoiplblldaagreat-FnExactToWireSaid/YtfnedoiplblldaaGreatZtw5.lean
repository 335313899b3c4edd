/- What the row needs, packed. No conditions beyond those that each law names. -/
import Derived.Test.YtfnedoiplblldaaGreatZtw4
import Derived.Test.YtfnedoiplblldaaGreatProg
import Derived.Test.YtfnedoiplblldaaGreatZtw1
import Derived.Test.YtfnedoiplblldaaGreatZtw3
import Derived.Deep.Slices
import Derived.ChangeArms
import Derived.WideShapes
import Derived.KernelRfl
namespace Go.Proofs.YtfnedoiplblldaaGreatFam
open Go.ChangeShapes Go.WideShapes Go.RowKit Go.Proofs.YtfnedoiplblldaaGreatSep Go.Proofs.YtfnedoiplblldaaGreatT Go.Proofs.YtfnedoiplblldaaGreatK
set_option linter.unusedVariables false
set_option linter.unusedSimpArgs false
attribute [local irreducible] wpOps wpOp
set_option maxHeartbeats 4000000
set_option maxRecDepth 100000
theorem lN (x : GVat) (k0 n0 uk un : Int) (cs : List Value) (hl : x.aA.length ≤ 4194304) (w : World) (h : aG.K w x cs) (hlk : dW x.aA (x.aA.length + 1) k0 n0 = ⟨uk, un⟩) : Calls Tryz.prog 186 #[.agg cs.toArray, .agg #[.int .i64 k0, .int .i64 n0]] w (fun e w' => e = .returned (.agg #[.int .i64 uk, .int .i64 un]) ∧ Upd No w w') := by
 have q := look_s x k0 n0 cs hl w h
 rw [hlk] at q
 exact q
theorem linkTo_s (x : GVat) (p : Int) (cs : List Value) (hl : x.aD.length ≤ 4194304) (w : World) (h : aG.K w x cs) (q : Int) (hq : fidx (peP p) 0 x.aD = q) : Calls Tryz.prog 124 #[.agg cs.toArray, .int .i64 p] w (lQ q w) := by
 obtain ⟨Ax1, cx1, Ax2, cx2, Ax3, cx3, Ax4, cx4, rfl, hlx1, hCx1, hlx2, hCx2, hlx3, hCx3, hlx4, hCx4⟩ := kJ h
 refine enter 22 [(0, .agg #[.int .i64 (x.Id), .slice Ax1 x.aA.length cx1, .slice Ax2 x.Loop.length cx2, .slice Ax3 x.aD.length cx3, .slice Ax4 x.Out.length cx4]), (1, .int .i64 (p))] Tryz.func124 rfl kR ?_
 intro xj
 have H1 : St w No [] w := St.enter
 refine wp_seq ?_
 refine aS [0, 1] rfl ?_
 refine aB ?_
 refine gG rfl rfl rfl rfl H1 ?_
 intro g_0_0 W2 hu3 Ha4; clear H1; clear hu3
 refine aB ?_
 refine aC rfl (aW rfl) rfl rfl ?_
 refine aN ?_
 refine aM ?_
 refine wp_seq ?_
 refine wp_seq ?_
 refine aS [0] rfl ?_
 refine aB ?_
 refine aC rfl (aW rfl) rfl rfl ?_
 refine aN ?_
 refine aM ?_
 refine wp_block ?_
 refine wp_loop_ghost (fun r a' W' => ∃ (i1 : Nat) (x' : Nat → Value), a' = bO 22 x' [(1, .int .i64 (p)), (2, .pointer (some ⟨g_0_0, 0, none⟩)), (5, .int .i64 (((i1 : Nat) : Int)))] ∧ (i1 + r = x.aD.length) ∧ (fidx (peP p) 0 x.aD = fidx (peP p) ((i1 : Nat) : Int) (x.aD.drop i1)) ∧ St w No [hB g_0_0 68 #[.int .i64 (x.Id), .slice Ax1 x.aA.length cx1, .slice Ax2 x.Loop.length cx2, .slice Ax3 x.aD.length cx3, .slice Ax4 x.Out.length cx4]] W') x.aD.length ?_ ?_
 ·exact (aZ [(1, .int .i64 (p)), (2, .pointer (some ⟨g_0_0, 0, none⟩)), (5, .int .i64 (((0 : Nat) : Int)))] rfl).elim fun x' hx => ⟨0, x', hx, kO, (by rw [List.drop_zero]; rfl), Ha4⟩
 ·rintro r6 _ W7 ⟨i1, x8, rfl, hi1, hf1, H9⟩; clear Ha4
  refine wp_seq ?_
  refine wp_seq ?_
  refine aS [0, 1, 2, 3, 4] rfl ?_
  refine aB ?_
  refine aC rfl (aK rfl) rfl rfl ?_
  refine aB ?_
  refine aC rfl (bB iK rfl) rfl rfl ?_
  refine aB ?_
  refine aC rfl (bG (k := 3) (v := .slice Ax3 x.aD.length cx3) Tryz.isAgg65 rfl (H9.blk 0 rfl) rfl) rfl rfl ?_
  refine aB ?_
  refine aC rfl (jY Tryz.runUnderlying65 rfl) rfl rfl ?_
  refine aB ?_
  refine aC rfl (iW rfl rfl) rfl rfl ?_
  refine aN ?_
  refine aM ?_
  refine gU rfl (fun hc10 => ?_) (fun hc10 => ?_)
  ·have hlt1 : i1 < x.aD.length := by omega
   obtain ⟨ade11, cse11, hAe11, hKe11, hce11⟩ := lS hCx3 i1 hlt1
   have hle11 := lZ hKe11
   have hoe11 := nW hKe11
   obtain ⟨Aade11_2, cade11_2, Aade11_4, cade11_4, Aade11_6, cade11_6, rfl, hlade11_2, hCade11_2, hlade11_4, hCade11_4, hlade11_6, hCade11_6⟩ := kL hKe11
   refine wp_skip ?_
   refine aM ?_
   refine wp_seq ?_
   refine wp_block ?_
   refine wp_seq ?_
   refine aS [0, 1, 2, 3, 4, 5, 6, 7] rfl ?_
   refine aB ?_
   refine aC rfl (bB iK rfl) rfl rfl ?_
   refine aB ?_
   refine aC rfl (bG (k := 3) (v := .slice Ax3 x.aD.length cx3) Tryz.isAgg65 rfl (H9.blk 0 rfl) rfl) rfl rfl ?_
   refine aB ?_
   refine aC rfl (aK rfl) rfl rfl ?_
   refine aB ?_
   refine aC rfl (fD (k := i1) Tryz.runUnderlying65 Tryz.sizeOf178 rfl rfl hAe11 hlt1) rfl rfl ?_
   refine aB ?_
   refine aC rfl (bB fa_178_0 rfl) rfl rfl ?_
   refine aB ?_
   refine aC rfl (gI (v := .int .i64 (x.aD[i1].bT)) Tryz.isAgg3 rfl (Cat.upd hce11 H9.1) rfl) rfl rfl ?_
   refine aB ?_
   refine aC rfl (aK rfl) rfl rfl ?_
   refine aB ?_
   refine aC rfl (iQ rfl rfl) rfl rfl ?_
   refine aN ?_
   refine aM ?_
   refine gU rfl (fun hc12 => ?_) (fun hc12 => ?_)
   ·refine wp_seq ?_
    refine aS [0, 1] rfl ?_
    refine aB ?_
    refine aC rfl (aK rfl) rfl rfl ?_
    refine aB ?_
    refine aC rfl (aW rfl) rfl rfl ?_
    refine aN ?_
    refine aM ?_
    refine wp_ret ?_
    refine kQ ?_
    refine eB ?_
    refine eB ?_
    refine kQ ?_
    refine eB ?_
    refine eY (.inl rfl) Tryz.results124 rfl ?_
    exact ⟨by rw [← hq, hf1, fidx_yes (peP p) x.aD _ hlt1 (decide_eq_true (by assumption))], H9.1⟩
   ·refine wp_skip ?_
    refine inB_n ?_
    refine aM ?_
    refine aS [0, 1, 2] rfl ?_
    refine aB ?_
    refine aC rfl (aK rfl) rfl rfl ?_
    refine aB ?_
    refine aC rfl (lT (k := i1) rfl rfl kO) rfl rfl ?_
    refine aB ?_
    refine aC rfl (aW rfl) rfl rfl ?_
    refine aN ?_
    refine aM ?_
    exact (aZ [(1, .int .i64 (p)), (2, .pointer (some ⟨g_0_0, 0, none⟩)), (5, .int .i64 (((i1 + 1 : Nat) : Int)))] rfl).elim fun x' hx => ⟨r6 - 1, kO, i1 + 1, x', hx, kO, (hf1.trans (fidx_no (peP p) x.aD i1 hlt1 (decide_eq_false (by assumption)))), H9⟩
  ·have hge1 : x.aD.length ≤ i1 := by omega
   refine wp_exit ?_
   refine iF ?_
   refine iF ?_
   refine inB_x ?_
   refine aM ?_
   refine wp_seq ?_
   refine aS [0] rfl ?_
   refine aB ?_
   refine aC rfl (aW rfl) rfl rfl ?_
   refine aN ?_
   refine aM ?_
   refine wp_ret ?_
   refine eY (.inl rfl) Tryz.results124 rfl ?_
   exact ⟨by rw [← hq, hf1, fidx_end (peP p) x.aD _ hge1], H9.1⟩
theorem l13To_a (x : GVat) (p k0 n0 : Int) (g cE cS cL cO : Nat) (AE AS AL AO : Option Addr) (F0 : Nat → Prop) (w : World) (h : Star [hB g 68 #[.int .i64 x.Id, .slice AE x.aA.length cE, .slice AS x.Loop.length cS, .slice AL (x.aD).length cL, .slice AO x.Out.length cO], hR aJ 171 (.slice AE x.aA.length cE) x.aA, hR aX 235 (.slice AS x.Loop.length cS) x.Loop, hR aO 178 (.slice AL (x.aD).length cL) (x.aD), hR aP 147 (.slice AO x.Out.length cO) x.Out] w F0) (hs : bR x ≤ 4194304) (un : Int) (hlk : dW x.aA (x.aA.length + 1) k0 n0 = ⟨0, un⟩) (hr : 0 ≤ un ∧ un ≤ 999999) : Calls Tryz.prog 129 #[.pointer (some ⟨g, 0, none⟩), .int .i64 p, .agg #[.int .i64 k0, .int .i64 n0]] w (fun e' w' => ∃ A c, e' = .returned (.agg #[.int .i64 (twW x.aA x.aD p ⟨0, un⟩).Kind, .int .i64 (twW x.aA x.aD p ⟨0, un⟩).N]) ∧ St w F0 [hB g 68 #[.int .i64 x.Id, .slice AE x.aA.length cE, .slice AS x.Loop.length cS, .slice A (twL x.aA x.aD p ⟨0, un⟩).length c, .slice AO x.Out.length cO], hR aJ 171 (.slice AE x.aA.length cE) x.aA, hR aX 235 (.slice AS x.Loop.length cS) x.Loop, hR aO 178 (.slice A (twL x.aA x.aD p ⟨0, un⟩).length c) (twL x.aA x.aD p ⟨0, un⟩), hR aP 147 (.slice AO x.Out.length cO) x.Out] w') := by
 have s_Entities : bN dD x.aA ≤ 4194304 := by unfold bR at hs; omega
 have n_Entities : x.aA.length ≤ 4194304 := by unfold bN at s_Entities; omega
 have s_Loop : bN dX x.Loop ≤ 4194304 := by unfold bR at hs; omega
 have n_Loop : x.Loop.length ≤ 4194304 := by unfold bN at s_Loop; omega
 have s_Links : bN bQ x.aD ≤ 4194304 := by unfold bR at hs; omega
 have n_Links : x.aD.length ≤ 4194304 := by unfold bN at s_Links; omega
 have s_Out : bN dH x.Out ≤ 4194304 := by unfold bR at hs; omega
 have n_Out : x.Out.length ≤ 4194304 := by unfold bN at s_Out; omega
 refine enter 99 [(0, .pointer (some ⟨g, 0, none⟩)), (1, .int .i64 (p)), (2, .agg #[.int .i64 (k0), .int .i64 (n0)])] Tryz.func129 rfl kR ?_
 intro xj
 have H1 : St w F0 [hB g 68 #[.int .i64 (x.Id), .slice AE x.aA.length cE, .slice AS x.Loop.length cS, .slice AL x.aD.length cL, .slice AO x.Out.length cO], hR aJ 171 (.slice AE x.aA.length cE) x.aA, hR aX 235 (.slice AS x.Loop.length cS) x.Loop, hR aO 178 (.slice AL x.aD.length cL) x.aD, hR aP 147 (.slice AO x.Out.length cO) x.Out] w := St.kP h
 refine wp_seq ?_
 refine aS [0, 1] rfl ?_
 refine aB ?_
 refine gG rfl rfl rfl rfl H1 ?_
 intro g_0_0 W2 hu3 Ha4; clear H1; clear hu3
 refine aB ?_
 refine bA rfl Tryz.zeroValue72 rfl rfl Ha4 ?_
 intro g_0_1 W6 hu7 Ha8; clear Ha4; clear hu7
 refine aN ?_
 refine aM ?_
 refine wp_seq ?_
 refine lC (fun a' W' => ∃ (g_1_5 : Nat) (x' : Nat → Value), a' = bO 99 x' [(0, .pointer (some ⟨g, 0, none⟩)), (1, .int .i64 (p)), (6, .pointer (some ⟨g_0_1, 0, none⟩)), (7, .pointer (some ⟨g_1_5, 0, none⟩))] ∧ St w F0 [hB g_1_5 95 #[.int .i64 (0), .int .i64 (un)], hB g_0_1 72 #[.int .i64 (0), .int .i64 (0)], hB g 68 #[.int .i64 (x.Id), .slice AE x.aA.length cE, .slice AS x.Loop.length cS, .slice AL x.aD.length cL, .slice AO x.Out.length cO], hR aJ 171 (.slice AE x.aA.length cE) x.aA, hR aX 235 (.slice AS x.Loop.length cS) x.Loop, hR aO 178 (.slice AL x.aD.length cL) x.aD, hR aP 147 (.slice AO x.Out.length cO) x.Out] W') ?_ ?_
 ·refine eH (fun W' => Blk W' g 68 #[.int .i64 (x.Id), .slice AE x.aA.length cE, .slice AS x.Loop.length cS, .slice AL x.aD.length cL, .slice AO x.Out.length cO] ∧ Blk W' g_0_0 95 #[.int .i64 (k0), .int .i64 (n0)]) 7 kR ?_
  have H10 := Ha8.drew; clear Ha8
  have hS11 : Blk W6.drew g 68 #[.int .i64 (x.Id), .slice AE x.aA.length cE, .slice AS x.Loop.length cS, .slice AL x.aD.length cL, .slice AO x.Out.length cO] ∧ Blk W6.drew g_0_0 95 #[.int .i64 (k0), .int .i64 (n0)] := ⟨H10.blk 2 rfl, H10.blk 1 rfl⟩
  refine aF (i := 0) rfl kR kR kR kR kR (fun _ _ _ h => h) rfl rfl hS11 (fun W' hs' => aK rfl) ?_
  refine aF (i := 1) rfl kR kR kR kR kR (fun _ _ _ h => h) rfl rfl hS11 (fun W' hs' => dB rfl) ?_
  refine aF (i := 2) rfl kR kR kR kR kR (fun _ _ _ h => h) rfl rfl hS11 (fun W' hs' => bI Tryz.isAgg68 Tryz.sizeOf68 rfl hs'.1 rfl) ?_
  refine aF (i := 3) rfl kR kR kR kR kR (fun _ _ _ h => h) rfl rfl hS11 (fun W' hs' => bI Tryz.isAgg95 Tryz.sizeOf95 rfl hs'.2 rfl) ?_
  refine dY (i := 4) (i2 := 5) kR ?_ ?_
  ·refine aV rfl Tryz.call186 (vs := #[.agg #[.int .i64 (x.Id), .slice AE x.aA.length cE, .slice AS x.Loop.length cS, .slice AL x.aD.length cL, .slice AO x.Out.length cO], .agg #[.int .i64 (k0), .int .i64 (n0)]]) rfl rfl rfl (lN x k0 n0 0 un _ n_Entities _ (fM _ x (H10.eG 3 rfl).1 (H10.fC 3 rfl) (H10.eG 4 rfl).1 (H10.fC 4 rfl) (H10.eG 5 rfl).1 (H10.fC 5 rfl) (H10.eG 6 rfl).1 (H10.fC 6 rfl)) hlk) ?_
   rintro e14 W13 ⟨rfl, hu12⟩; refine ⟨_, rfl, ?_⟩
   have H15 := H10.no hu12; clear H10
   have hS16 := And.intro (H15.blk 2 rfl) (H15.blk 1 rfl); refine ⟨fun _ => hS16, ?_⟩
   refine aL (i := 5) kR ?_
   refine bA rfl Tryz.zeroValue95 rfl rfl H15 ?_
   intro g_1_5 W17 hu18 Ha19; clear H15; clear hu18
   have hS21 := And.intro (Ha19.blk 3 rfl) (Ha19.blk 2 rfl); refine ⟨fun _ => hS21, ?_⟩
   refine aL (i := 6) kR ?_
   refine aR rfl Tryz.sizeOf95 rfl rfl rfl rfl kS Ha19 ?_
   intro W22 hu23 Ha24; clear Ha19; clear hu23
   have hS26 := And.intro (Ha24.blk 3 rfl) (Ha24.blk 2 rfl); refine ⟨fun _ => hS26, ?_⟩
   refine bD kR ?_ _
   exact (aZ [(0, .pointer (some ⟨g, 0, none⟩)), (1, .int .i64 (p)), (6, .pointer (some ⟨g_0_1, 0, none⟩)), (7, .pointer (some ⟨g_1_5, 0, none⟩))] rfl).elim fun x' hx => ⟨g_1_5, x', hx, Ha24.pick [0, 1, 3, 4, 5, 6, 7] kD rfl⟩
  refine bA rfl Tryz.zeroValue95 rfl rfl H10 ?_
  intro g_1_5 W27 hu28 Ha29; clear H10; clear hu28
  have hS31 := And.intro (Ha29.blk 3 rfl) (Ha29.blk 2 rfl); refine ⟨fun _ => hS31, ?_⟩
  refine aL (i := 4) kR ?_
  refine aV rfl Tryz.call186 (vs := #[.agg #[.int .i64 (x.Id), .slice AE x.aA.length cE, .slice AS x.Loop.length cS, .slice AL x.aD.length cL, .slice AO x.Out.length cO], .agg #[.int .i64 (k0), .int .i64 (n0)]]) rfl rfl rfl (lN x k0 n0 0 un _ n_Entities _ (fM _ x (Ha29.eG 4 rfl).1 (Ha29.fC 4 rfl) (Ha29.eG 5 rfl).1 (Ha29.fC 5 rfl) (Ha29.eG 6 rfl).1 (Ha29.fC 6 rfl) (Ha29.eG 7 rfl).1 (Ha29.fC 7 rfl)) hlk) ?_
  rintro e34 W33 ⟨rfl, hu32⟩; refine ⟨_, rfl, ?_⟩
  have H35 := Ha29.no hu32; clear Ha29
  have hS36 := And.intro (H35.blk 3 rfl) (H35.blk 2 rfl); refine ⟨fun _ => hS36, ?_⟩
  refine aL (i := 6) kR ?_
  refine aR rfl Tryz.sizeOf95 rfl rfl rfl rfl kS H35 ?_
  intro W37 hu38 Ha39; clear H35; clear hu38
  have hS41 := And.intro (Ha39.blk 3 rfl) (Ha39.blk 2 rfl); refine ⟨fun _ => hS41, ?_⟩
  refine bD kR ?_ _
  exact (aZ [(0, .pointer (some ⟨g, 0, none⟩)), (1, .int .i64 (p)), (6, .pointer (some ⟨g_0_1, 0, none⟩)), (7, .pointer (some ⟨g_1_5, 0, none⟩))] rfl).elim fun x' hx => ⟨g_1_5, x', hx, Ha39.pick [0, 1, 3, 4, 5, 6, 7] kD rfl⟩
 ·rintro _ W43 ⟨g_1_5, x44, rfl, H42⟩
  refine aM ?_
  refine wp_seq ?_
  refine wp_seq ?_
  refine aS [0, 1, 2, 3, 4, 5, 6, 7] rfl ?_
  refine aB ?_
  refine aC rfl (bB jM rfl) rfl rfl ?_
  refine aB ?_
  refine aC rfl (bG (k := 0) (v := .int .i64 (0)) Tryz.isAgg3 rfl (H42.blk 0 rfl) rfl) rfl rfl ?_
  refine aB ?_
  refine aC rfl (gH (p := (0 : Int) = 0) rfl (iQ (p := 0) (q := 0) rfl rfl)) rfl rfl ?_
  refine aB ?_
  refine aC rfl (aK rfl) rfl rfl ?_
  refine aB ?_
  refine eO rfl rfl rfl rfl (fun _ ho45 => ?_)
  refine aC ho45 (bB iZ rfl) rfl rfl ?_
  refine aB ?_
  refine eO rfl rfl rfl rfl (fun _ ho46 => ?_)
  refine aC ho46 (bG (k := 1) (v := .int .i64 (un)) Tryz.isAgg3 rfl (H42.blk 0 rfl) rfl) rfl rfl ?_
  refine aB ?_
  refine eO rfl rfl rfl rfl (fun _ ho47 => ?_)
  refine aV ho47 Tryz.call115 (vs := #[.int .i64 (un), .int .i64 (0), .int .i64 (999999)]) rfl rfl rfl (l1In_s_t un 0 999999 _ hr) ?_
  rintro e50 W49 ⟨rfl, hu48⟩; refine ⟨_, rfl, ?_⟩
  have H51 := H42.no hu48; clear H42
  refine aB ?_
  refine aC rfl (dS (v := .bool (true)) (b := true) rfl rfl rfl rfl) rfl rfl ?_
  refine aN ?_
  refine aM ?_
  refine jB rfl ?_
  refine wp_seq ?_
  refine aS [0, 1, 2, 3] rfl ?_
  refine aB ?_
  refine aC rfl (bB iZ rfl) rfl rfl ?_
  refine aB ?_
  refine aC rfl (bG (k := 1) (v := .int .i64 (un)) Tryz.isAgg3 rfl (H51.blk 0 rfl) rfl) rfl rfl ?_
  refine aB ?_
  refine aC rfl (fJ (vs := [(1, .int .i64 (un))]) (cells := #[.int .i64 (0), .int .i64 (un)]) rfl kR) rfl rfl ?_
  refine aB ?_
  have H55 : St w F0 [hB g_0_1 72 #[.int .i64 (0), .int .i64 (0)], hB g_1_5 95 #[.int .i64 (0), .int .i64 (un)], hB g 68 #[.int .i64 (x.Id), .slice AE x.aA.length cE, .slice AS x.Loop.length cS, .slice AL x.aD.length cL, .slice AO x.Out.length cO], hR aJ 171 (.slice AE x.aA.length cE) x.aA, hR aX 235 (.slice AS x.Loop.length cS) x.Loop, hR aO 178 (.slice AL x.aD.length cL) x.aD, hR aP 147 (.slice AO x.Out.length cO) x.Out] W49 := H51.pick [1, 0, 2, 3, 4, 5, 6] kD rfl; clear H51
  refine aR rfl Tryz.sizeOf72 rfl rfl rfl rfl kS H55 ?_
  intro W52 hu53 Ha54; clear H55; clear hu53
  refine aN ?_
  refine aM ?_
  refine wp_ret ?_
  refine eB ?_
  obtain ⟨e1, e2⟩ := tw_int x.aA x.aD p 0 un (by unfold isI; rw [decide_eq_true hr]; rfl)
  refine eP (.inl rfl) Tryz.results129 Tryz.isAgg72 Tryz.sizeOf72 rfl (Ha54.blk 0 rfl) rfl ?_
  rw [e1, e2]
  exact ⟨AL, cL, rfl, Ha54.pick [2, 3, 4, 5, 6] kD rfl⟩
theorem l13To_b (x : GVat) (p k0 n0 : Int) (g cE cS cL cO : Nat) (AE AS AL AO : Option Addr) (F0 : Nat → Prop) (w : World) (h : Star [hB g 68 #[.int .i64 x.Id, .slice AE x.aA.length cE, .slice AS x.Loop.length cS, .slice AL (x.aD).length cL, .slice AO x.Out.length cO], hR aJ 171 (.slice AE x.aA.length cE) x.aA, hR aX 235 (.slice AS x.Loop.length cS) x.Loop, hR aO 178 (.slice AL (x.aD).length cL) (x.aD), hR aP 147 (.slice AO x.Out.length cO) x.Out] w F0) (hs : bR x ≤ 4194304) (un : Int) (hlk : dW x.aA (x.aA.length + 1) k0 n0 = ⟨0, un⟩) (hr : ¬ (0 ≤ un ∧ un ≤ 999999)) : Calls Tryz.prog 129 #[.pointer (some ⟨g, 0, none⟩), .int .i64 p, .agg #[.int .i64 k0, .int .i64 n0]] w (fun e' w' => ∃ A c, e' = .returned (.agg #[.int .i64 (twW x.aA x.aD p ⟨0, un⟩).Kind, .int .i64 (twW x.aA x.aD p ⟨0, un⟩).N]) ∧ St w F0 [hB g 68 #[.int .i64 x.Id, .slice AE x.aA.length cE, .slice AS x.Loop.length cS, .slice A (twL x.aA x.aD p ⟨0, un⟩).length c, .slice AO x.Out.length cO], hR aJ 171 (.slice AE x.aA.length cE) x.aA, hR aX 235 (.slice AS x.Loop.length cS) x.Loop, hR aO 178 (.slice A (twL x.aA x.aD p ⟨0, un⟩).length c) (twL x.aA x.aD p ⟨0, un⟩), hR aP 147 (.slice AO x.Out.length cO) x.Out] w') := by
 have s_Entities : bN dD x.aA ≤ 4194304 := by unfold bR at hs; omega
 have n_Entities : x.aA.length ≤ 4194304 := by unfold bN at s_Entities; omega
 have s_Loop : bN dX x.Loop ≤ 4194304 := by unfold bR at hs; omega
 have n_Loop : x.Loop.length ≤ 4194304 := by unfold bN at s_Loop; omega
 have s_Links : bN bQ x.aD ≤ 4194304 := by unfold bR at hs; omega
 have n_Links : x.aD.length ≤ 4194304 := by unfold bN at s_Links; omega
 have s_Out : bN dH x.Out ≤ 4194304 := by unfold bR at hs; omega
 have n_Out : x.Out.length ≤ 4194304 := by unfold bN at s_Out; omega
 refine enter 99 [(0, .pointer (some ⟨g, 0, none⟩)), (1, .int .i64 (p)), (2, .agg #[.int .i64 (k0), .int .i64 (n0)])] Tryz.func129 rfl kR ?_
 intro xj
 have H1 : St w F0 [hB g 68 #[.int .i64 (x.Id), .slice AE x.aA.length cE, .slice AS x.Loop.length cS, .slice AL x.aD.length cL, .slice AO x.Out.length cO], hR aJ 171 (.slice AE x.aA.length cE) x.aA, hR aX 235 (.slice AS x.Loop.length cS) x.Loop, hR aO 178 (.slice AL x.aD.length cL) x.aD, hR aP 147 (.slice AO x.Out.length cO) x.Out] w := St.kP h
 refine wp_seq ?_
 refine aS [0, 1] rfl ?_
 refine aB ?_
 refine gG rfl rfl rfl rfl H1 ?_
 intro g_0_0 W2 hu3 Ha4; clear H1; clear hu3
 refine aB ?_
 refine bA rfl Tryz.zeroValue72 rfl rfl Ha4 ?_
 intro g_0_1 W6 hu7 Ha8; clear Ha4; clear hu7
 refine aN ?_
 refine aM ?_
 refine wp_seq ?_
 refine lC (fun a' W' => ∃ (g_1_5 : Nat) (x' : Nat → Value), a' = bO 99 x' [(0, .pointer (some ⟨g, 0, none⟩)), (1, .int .i64 (p)), (6, .pointer (some ⟨g_0_1, 0, none⟩)), (7, .pointer (some ⟨g_1_5, 0, none⟩))] ∧ St w F0 [hB g_1_5 95 #[.int .i64 (0), .int .i64 (un)], hB g_0_1 72 #[.int .i64 (0), .int .i64 (0)], hB g 68 #[.int .i64 (x.Id), .slice AE x.aA.length cE, .slice AS x.Loop.length cS, .slice AL x.aD.length cL, .slice AO x.Out.length cO], hR aJ 171 (.slice AE x.aA.length cE) x.aA, hR aX 235 (.slice AS x.Loop.length cS) x.Loop, hR aO 178 (.slice AL x.aD.length cL) x.aD, hR aP 147 (.slice AO x.Out.length cO) x.Out] W') ?_ ?_
 ·refine eH (fun W' => Blk W' g 68 #[.int .i64 (x.Id), .slice AE x.aA.length cE, .slice AS x.Loop.length cS, .slice AL x.aD.length cL, .slice AO x.Out.length cO] ∧ Blk W' g_0_0 95 #[.int .i64 (k0), .int .i64 (n0)]) 7 kR ?_
  have H10 := Ha8.drew; clear Ha8
  have hS11 : Blk W6.drew g 68 #[.int .i64 (x.Id), .slice AE x.aA.length cE, .slice AS x.Loop.length cS, .slice AL x.aD.length cL, .slice AO x.Out.length cO] ∧ Blk W6.drew g_0_0 95 #[.int .i64 (k0), .int .i64 (n0)] := ⟨H10.blk 2 rfl, H10.blk 1 rfl⟩
  refine aF (i := 0) rfl kR kR kR kR kR (fun _ _ _ h => h) rfl rfl hS11 (fun W' hs' => aK rfl) ?_
  refine aF (i := 1) rfl kR kR kR kR kR (fun _ _ _ h => h) rfl rfl hS11 (fun W' hs' => dB rfl) ?_
  refine aF (i := 2) rfl kR kR kR kR kR (fun _ _ _ h => h) rfl rfl hS11 (fun W' hs' => bI Tryz.isAgg68 Tryz.sizeOf68 rfl hs'.1 rfl) ?_
  refine aF (i := 3) rfl kR kR kR kR kR (fun _ _ _ h => h) rfl rfl hS11 (fun W' hs' => bI Tryz.isAgg95 Tryz.sizeOf95 rfl hs'.2 rfl) ?_
  refine dY (i := 4) (i2 := 5) kR ?_ ?_
  ·refine aV rfl Tryz.call186 (vs := #[.agg #[.int .i64 (x.Id), .slice AE x.aA.length cE, .slice AS x.Loop.length cS, .slice AL x.aD.length cL, .slice AO x.Out.length cO], .agg #[.int .i64 (k0), .int .i64 (n0)]]) rfl rfl rfl (lN x k0 n0 0 un _ n_Entities _ (fM _ x (H10.eG 3 rfl).1 (H10.fC 3 rfl) (H10.eG 4 rfl).1 (H10.fC 4 rfl) (H10.eG 5 rfl).1 (H10.fC 5 rfl) (H10.eG 6 rfl).1 (H10.fC 6 rfl)) hlk) ?_
   rintro e14 W13 ⟨rfl, hu12⟩; refine ⟨_, rfl, ?_⟩
   have H15 := H10.no hu12; clear H10
   have hS16 := And.intro (H15.blk 2 rfl) (H15.blk 1 rfl); refine ⟨fun _ => hS16, ?_⟩
   refine aL (i := 5) kR ?_
   refine bA rfl Tryz.zeroValue95 rfl rfl H15 ?_
   intro g_1_5 W17 hu18 Ha19; clear H15; clear hu18
   have hS21 := And.intro (Ha19.blk 3 rfl) (Ha19.blk 2 rfl); refine ⟨fun _ => hS21, ?_⟩
   refine aL (i := 6) kR ?_
   refine aR rfl Tryz.sizeOf95 rfl rfl rfl rfl kS Ha19 ?_
   intro W22 hu23 Ha24; clear Ha19; clear hu23
   have hS26 := And.intro (Ha24.blk 3 rfl) (Ha24.blk 2 rfl); refine ⟨fun _ => hS26, ?_⟩
   refine bD kR ?_ _
   exact (aZ [(0, .pointer (some ⟨g, 0, none⟩)), (1, .int .i64 (p)), (6, .pointer (some ⟨g_0_1, 0, none⟩)), (7, .pointer (some ⟨g_1_5, 0, none⟩))] rfl).elim fun x' hx => ⟨g_1_5, x', hx, Ha24.pick [0, 1, 3, 4, 5, 6, 7] kD rfl⟩
  refine bA rfl Tryz.zeroValue95 rfl rfl H10 ?_
  intro g_1_5 W27 hu28 Ha29; clear H10; clear hu28
  have hS31 := And.intro (Ha29.blk 3 rfl) (Ha29.blk 2 rfl); refine ⟨fun _ => hS31, ?_⟩
  refine aL (i := 4) kR ?_
  refine aV rfl Tryz.call186 (vs := #[.agg #[.int .i64 (x.Id), .slice AE x.aA.length cE, .slice AS x.Loop.length cS, .slice AL x.aD.length cL, .slice AO x.Out.length cO], .agg #[.int .i64 (k0), .int .i64 (n0)]]) rfl rfl rfl (lN x k0 n0 0 un _ n_Entities _ (fM _ x (Ha29.eG 4 rfl).1 (Ha29.fC 4 rfl) (Ha29.eG 5 rfl).1 (Ha29.fC 5 rfl) (Ha29.eG 6 rfl).1 (Ha29.fC 6 rfl) (Ha29.eG 7 rfl).1 (Ha29.fC 7 rfl)) hlk) ?_
  rintro e34 W33 ⟨rfl, hu32⟩; refine ⟨_, rfl, ?_⟩
  have H35 := Ha29.no hu32; clear Ha29
  have hS36 := And.intro (H35.blk 3 rfl) (H35.blk 2 rfl); refine ⟨fun _ => hS36, ?_⟩
  refine aL (i := 6) kR ?_
  refine aR rfl Tryz.sizeOf95 rfl rfl rfl rfl kS H35 ?_
  intro W37 hu38 Ha39; clear H35; clear hu38
  have hS41 := And.intro (Ha39.blk 3 rfl) (Ha39.blk 2 rfl); refine ⟨fun _ => hS41, ?_⟩
  refine bD kR ?_ _
  exact (aZ [(0, .pointer (some ⟨g, 0, none⟩)), (1, .int .i64 (p)), (6, .pointer (some ⟨g_0_1, 0, none⟩)), (7, .pointer (some ⟨g_1_5, 0, none⟩))] rfl).elim fun x' hx => ⟨g_1_5, x', hx, Ha39.pick [0, 1, 3, 4, 5, 6, 7] kD rfl⟩
 ·rintro _ W43 ⟨g_1_5, x44, rfl, H42⟩
  refine aM ?_
  refine wp_seq ?_
  refine wp_seq ?_
  refine aS [0, 1, 2, 3, 4, 5, 6, 7] rfl ?_
  refine aB ?_
  refine aC rfl (bB jM rfl) rfl rfl ?_
  refine aB ?_
  refine aC rfl (bG (k := 0) (v := .int .i64 (0)) Tryz.isAgg3 rfl (H42.blk 0 rfl) rfl) rfl rfl ?_
  refine aB ?_
  refine aC rfl (gH (p := (0 : Int) = 0) rfl (iQ (p := 0) (q := 0) rfl rfl)) rfl rfl ?_
  refine aB ?_
  refine aC rfl (aK rfl) rfl rfl ?_
  refine aB ?_
  refine eO rfl rfl rfl rfl (fun _ ho45 => ?_)
  refine aC ho45 (bB iZ rfl) rfl rfl ?_
  refine aB ?_
  refine eO rfl rfl rfl rfl (fun _ ho46 => ?_)
  refine aC ho46 (bG (k := 1) (v := .int .i64 (un)) Tryz.isAgg3 rfl (H42.blk 0 rfl) rfl) rfl rfl ?_
  refine aB ?_
  refine eO rfl rfl rfl rfl (fun _ ho47 => ?_)
  refine aV ho47 Tryz.call115 (vs := #[.int .i64 (un), .int .i64 (0), .int .i64 (999999)]) rfl rfl rfl (l1In_s_f un 0 999999 _ hr) ?_
  rintro e50 W49 ⟨rfl, hu48⟩; refine ⟨_, rfl, ?_⟩
  have H51 := H42.no hu48; clear H42
  refine aB ?_
  refine aC rfl (dS (v := .bool (false)) (b := true) rfl rfl rfl rfl) rfl rfl ?_
  refine aN ?_
  refine aM ?_
  refine fO rfl ?_
  refine wp_skip ?_
  refine aM ?_
  refine wp_seq ?_
  refine wp_seq ?_
  refine eH (fun W' => Blk W' g_1_5 95 #[.int .i64 (0), .int .i64 (un)]) 23 kR ?_
  have H52 := H51.drew; clear H51
  have hS53 : Blk W49.drew g_1_5 95 #[.int .i64 (0), .int .i64 (un)] := H52.blk 0 rfl
  refine aF (i := 0) rfl kR kR kR kR kR (fun _ _ _ h => h) rfl rfl hS53 (fun W' hs' => bB jM rfl) ?_
  refine aF (i := 1) rfl kR kR kR kR kR (fun _ _ _ h => h) rfl rfl hS53 (fun W' hs' => bG (k := 0) (v := .int .i64 (0)) Tryz.isAgg3 rfl hs' rfl) ?_
  refine aF (i := 2) rfl kR kR kR kR kR (fun _ _ _ h => h) rfl rfl hS53 (fun W' hs' => gH (p := ¬ (0 : Int) = 1) kD (iR (p := 0) (q := 1) rfl rfl)) ?_
  refine aF (i := 3) rfl kR kR kR kR kR (fun _ _ _ h => h) rfl rfl hS53 (fun W' hs' => aK rfl) ?_
  refine dU (i := 4) rfl rfl rfl rfl rfl kR kR kR kR kR (fun _ _ _ h => h) rfl rfl hS53 ?_
  refine dU (i := 5) rfl rfl rfl rfl rfl kR kR kR kR kR (fun _ _ _ h => h) rfl rfl hS53 ?_
  refine dU (i := 6) rfl rfl rfl rfl rfl kR kR kR kR kR (fun _ _ _ h => h) rfl rfl hS53 ?_
  refine dU (i := 7) rfl rfl rfl rfl rfl kR kR kR kR kR (fun _ _ _ h => h) rfl rfl hS53 ?_
  refine dU (i := 8) rfl rfl rfl rfl rfl kR kR kR kR kR (fun _ _ _ h => h) rfl rfl hS53 ?_
  refine dU (i := 9) rfl rfl rfl rfl rfl kR kR kR kR kR (fun _ _ _ h => h) rfl rfl hS53 ?_
  refine dU (i := 10) rfl rfl rfl rfl rfl kR kR kR kR kR (fun _ _ _ h => h) rfl rfl hS53 ?_
  refine dU (i := 11) rfl rfl rfl rfl rfl kR kR kR kR kR (fun _ _ _ h => h) rfl rfl hS53 ?_
  refine dU (i := 12) rfl rfl rfl rfl rfl kR kR kR kR kR (fun _ _ _ h => h) rfl rfl hS53 ?_
  refine dU (i := 13) rfl rfl rfl rfl rfl kR kR kR kR kR (fun _ _ _ h => h) rfl rfl hS53 ?_
  refine aF (i := 14) rfl kR kR kR kR kR (fun _ _ _ h => h) rfl rfl hS53 (fun W' hs' => dS (v := .bool (true)) (b := true) rfl rfl rfl rfl) ?_
  refine aF (i := 15) rfl kR kR kR kR kR (fun _ _ _ h => h) rfl rfl hS53 (fun W' hs' => aK rfl) ?_
  refine dU (i := 16) rfl rfl rfl rfl rfl kR kR kR kR kR (fun _ _ _ h => h) rfl rfl hS53 ?_
  refine dU (i := 17) rfl rfl rfl rfl rfl kR kR kR kR kR (fun _ _ _ h => h) rfl rfl hS53 ?_
  refine dU (i := 18) rfl rfl rfl rfl rfl kR kR kR kR kR (fun _ _ _ h => h) rfl rfl hS53 ?_
  refine dU (i := 19) rfl rfl rfl rfl rfl kR kR kR kR kR (fun _ _ _ h => h) rfl rfl hS53 ?_
  refine dU (i := 20) rfl rfl rfl rfl rfl kR kR kR kR kR (fun _ _ _ h => h) rfl rfl hS53 ?_
  refine dU (i := 21) rfl rfl rfl rfl rfl kR kR kR kR kR (fun _ _ _ h => h) rfl rfl hS53 ?_
  refine aF (i := 22) rfl kR kR kR kR kR (fun _ _ _ h => h) rfl rfl hS53 (fun W' hs' => dS (v := .bool (true)) (b := true) rfl rfl rfl rfl) ?_
  refine bD kR ?_ _
  refine aM ?_
  refine jB rfl ?_
  refine wp_seq ?_
  refine aS [0, 1] rfl ?_
  refine aB ?_
  refine aC rfl (fJ (vs := [(0, .int .i64 (3))]) (cells := #[.int .i64 (3), .int .i64 (0)]) rfl kR) rfl rfl ?_
  refine aB ?_
  have H57 : St w F0 [hB g_0_1 72 #[.int .i64 (0), .int .i64 (0)], hB g_1_5 95 #[.int .i64 (0), .int .i64 (un)], hB g 68 #[.int .i64 (x.Id), .slice AE x.aA.length cE, .slice AS x.Loop.length cS, .slice AL x.aD.length cL, .slice AO x.Out.length cO], hR aJ 171 (.slice AE x.aA.length cE) x.aA, hR aX 235 (.slice AS x.Loop.length cS) x.Loop, hR aO 178 (.slice AL x.aD.length cL) x.aD, hR aP 147 (.slice AO x.Out.length cO) x.Out] W49.drew := H52.pick [1, 0, 2, 3, 4, 5, 6] kD rfl; clear H52
  refine aR rfl Tryz.sizeOf72 rfl rfl rfl rfl kS H57 ?_
  intro W54 hu55 Ha56; clear H57; clear hu55
  refine aN ?_
  refine aM ?_
  refine wp_ret ?_
  refine eB ?_
  obtain ⟨e1, e2⟩ := tw_bad x.aA x.aD p 0 un (by unfold isI; rw [decide_eq_false hr, Bool.and_false]) (fun q => absurd q.1.1 kD)
  refine eP (.inl rfl) Tryz.results129 Tryz.isAgg72 Tryz.sizeOf72 rfl (Ha56.blk 0 rfl) rfl ?_
  rw [e1, e2]
  exact ⟨AL, cL, rfl, Ha56.pick [2, 3, 4, 5, 6] kD rfl⟩
theorem l13To_c (x : GVat) (p k0 n0 : Int) (g cE cS cL cO : Nat) (AE AS AL AO : Option Addr) (F0 : Nat → Prop) (w : World) (h : Star [hB g 68 #[.int .i64 x.Id, .slice AE x.aA.length cE, .slice AS x.Loop.length cS, .slice AL (x.aD).length cL, .slice AO x.Out.length cO], hR aJ 171 (.slice AE x.aA.length cE) x.aA, hR aX 235 (.slice AS x.Loop.length cS) x.Loop, hR aO 178 (.slice AL (x.aD).length cL) (x.aD), hR aP 147 (.slice AO x.Out.length cO) x.Out] w F0) (hs : bR x ≤ 4194304) (uk un : Int) (hlk : dW x.aA (x.aA.length + 1) k0 n0 = ⟨uk, un⟩) (h0 : ¬ uk = 0) (h1 : ¬ uk = 1) : Calls Tryz.prog 129 #[.pointer (some ⟨g, 0, none⟩), .int .i64 p, .agg #[.int .i64 k0, .int .i64 n0]] w (fun e' w' => ∃ A c, e' = .returned (.agg #[.int .i64 (twW x.aA x.aD p ⟨uk, un⟩).Kind, .int .i64 (twW x.aA x.aD p ⟨uk, un⟩).N]) ∧ St w F0 [hB g 68 #[.int .i64 x.Id, .slice AE x.aA.length cE, .slice AS x.Loop.length cS, .slice A (twL x.aA x.aD p ⟨uk, un⟩).length c, .slice AO x.Out.length cO], hR aJ 171 (.slice AE x.aA.length cE) x.aA, hR aX 235 (.slice AS x.Loop.length cS) x.Loop, hR aO 178 (.slice A (twL x.aA x.aD p ⟨uk, un⟩).length c) (twL x.aA x.aD p ⟨uk, un⟩), hR aP 147 (.slice AO x.Out.length cO) x.Out] w') := by
 have s_Entities : bN dD x.aA ≤ 4194304 := by unfold bR at hs; omega
 have n_Entities : x.aA.length ≤ 4194304 := by unfold bN at s_Entities; omega
 have s_Loop : bN dX x.Loop ≤ 4194304 := by unfold bR at hs; omega
 have n_Loop : x.Loop.length ≤ 4194304 := by unfold bN at s_Loop; omega
 have s_Links : bN bQ x.aD ≤ 4194304 := by unfold bR at hs; omega
 have n_Links : x.aD.length ≤ 4194304 := by unfold bN at s_Links; omega
 have s_Out : bN dH x.Out ≤ 4194304 := by unfold bR at hs; omega
 have n_Out : x.Out.length ≤ 4194304 := by unfold bN at s_Out; omega
 refine enter 99 [(0, .pointer (some ⟨g, 0, none⟩)), (1, .int .i64 (p)), (2, .agg #[.int .i64 (k0), .int .i64 (n0)])] Tryz.func129 rfl kR ?_
 intro xj
 have H1 : St w F0 [hB g 68 #[.int .i64 (x.Id), .slice AE x.aA.length cE, .slice AS x.Loop.length cS, .slice AL x.aD.length cL, .slice AO x.Out.length cO], hR aJ 171 (.slice AE x.aA.length cE) x.aA, hR aX 235 (.slice AS x.Loop.length cS) x.Loop, hR aO 178 (.slice AL x.aD.length cL) x.aD, hR aP 147 (.slice AO x.Out.length cO) x.Out] w := St.kP h
 refine wp_seq ?_
 refine aS [0, 1] rfl ?_
 refine aB ?_
 refine gG rfl rfl rfl rfl H1 ?_
 intro g_0_0 W2 hu3 Ha4; clear H1; clear hu3
 refine aB ?_
 refine bA rfl Tryz.zeroValue72 rfl rfl Ha4 ?_
 intro g_0_1 W6 hu7 Ha8; clear Ha4; clear hu7
 refine aN ?_
 refine aM ?_
 refine wp_seq ?_
 refine lC (fun a' W' => ∃ (g_1_5 : Nat) (x' : Nat → Value), a' = bO 99 x' [(0, .pointer (some ⟨g, 0, none⟩)), (1, .int .i64 (p)), (6, .pointer (some ⟨g_0_1, 0, none⟩)), (7, .pointer (some ⟨g_1_5, 0, none⟩))] ∧ St w F0 [hB g_1_5 95 #[.int .i64 (uk), .int .i64 (un)], hB g_0_1 72 #[.int .i64 (0), .int .i64 (0)], hB g 68 #[.int .i64 (x.Id), .slice AE x.aA.length cE, .slice AS x.Loop.length cS, .slice AL x.aD.length cL, .slice AO x.Out.length cO], hR aJ 171 (.slice AE x.aA.length cE) x.aA, hR aX 235 (.slice AS x.Loop.length cS) x.Loop, hR aO 178 (.slice AL x.aD.length cL) x.aD, hR aP 147 (.slice AO x.Out.length cO) x.Out] W') ?_ ?_
 ·refine eH (fun W' => Blk W' g 68 #[.int .i64 (x.Id), .slice AE x.aA.length cE, .slice AS x.Loop.length cS, .slice AL x.aD.length cL, .slice AO x.Out.length cO] ∧ Blk W' g_0_0 95 #[.int .i64 (k0), .int .i64 (n0)]) 7 kR ?_
  have H10 := Ha8.drew; clear Ha8
  have hS11 : Blk W6.drew g 68 #[.int .i64 (x.Id), .slice AE x.aA.length cE, .slice AS x.Loop.length cS, .slice AL x.aD.length cL, .slice AO x.Out.length cO] ∧ Blk W6.drew g_0_0 95 #[.int .i64 (k0), .int .i64 (n0)] := ⟨H10.blk 2 rfl, H10.blk 1 rfl⟩
  refine aF (i := 0) rfl kR kR kR kR kR (fun _ _ _ h => h) rfl rfl hS11 (fun W' hs' => aK rfl) ?_
  refine aF (i := 1) rfl kR kR kR kR kR (fun _ _ _ h => h) rfl rfl hS11 (fun W' hs' => dB rfl) ?_
  refine aF (i := 2) rfl kR kR kR kR kR (fun _ _ _ h => h) rfl rfl hS11 (fun W' hs' => bI Tryz.isAgg68 Tryz.sizeOf68 rfl hs'.1 rfl) ?_
  refine aF (i := 3) rfl kR kR kR kR kR (fun _ _ _ h => h) rfl rfl hS11 (fun W' hs' => bI Tryz.isAgg95 Tryz.sizeOf95 rfl hs'.2 rfl) ?_
  refine dY (i := 4) (i2 := 5) kR ?_ ?_
  ·refine aV rfl Tryz.call186 (vs := #[.agg #[.int .i64 (x.Id), .slice AE x.aA.length cE, .slice AS x.Loop.length cS, .slice AL x.aD.length cL, .slice AO x.Out.length cO], .agg #[.int .i64 (k0), .int .i64 (n0)]]) rfl rfl rfl (lN x k0 n0 uk un _ n_Entities _ (fM _ x (H10.eG 3 rfl).1 (H10.fC 3 rfl) (H10.eG 4 rfl).1 (H10.fC 4 rfl) (H10.eG 5 rfl).1 (H10.fC 5 rfl) (H10.eG 6 rfl).1 (H10.fC 6 rfl)) hlk) ?_
   rintro e14 W13 ⟨rfl, hu12⟩; refine ⟨_, rfl, ?_⟩
   have H15 := H10.no hu12; clear H10
   have hS16 := And.intro (H15.blk 2 rfl) (H15.blk 1 rfl); refine ⟨fun _ => hS16, ?_⟩
   refine aL (i := 5) kR ?_
   refine bA rfl Tryz.zeroValue95 rfl rfl H15 ?_
   intro g_1_5 W17 hu18 Ha19; clear H15; clear hu18
   have hS21 := And.intro (Ha19.blk 3 rfl) (Ha19.blk 2 rfl); refine ⟨fun _ => hS21, ?_⟩
   refine aL (i := 6) kR ?_
   refine aR rfl Tryz.sizeOf95 rfl rfl rfl rfl kS Ha19 ?_
   intro W22 hu23 Ha24; clear Ha19; clear hu23
   have hS26 := And.intro (Ha24.blk 3 rfl) (Ha24.blk 2 rfl); refine ⟨fun _ => hS26, ?_⟩
   refine bD kR ?_ _
   exact (aZ [(0, .pointer (some ⟨g, 0, none⟩)), (1, .int .i64 (p)), (6, .pointer (some ⟨g_0_1, 0, none⟩)), (7, .pointer (some ⟨g_1_5, 0, none⟩))] rfl).elim fun x' hx => ⟨g_1_5, x', hx, Ha24.pick [0, 1, 3, 4, 5, 6, 7] kD rfl⟩
  refine bA rfl Tryz.zeroValue95 rfl rfl H10 ?_
  intro g_1_5 W27 hu28 Ha29; clear H10; clear hu28
  have hS31 := And.intro (Ha29.blk 3 rfl) (Ha29.blk 2 rfl); refine ⟨fun _ => hS31, ?_⟩
  refine aL (i := 4) kR ?_
  refine aV rfl Tryz.call186 (vs := #[.agg #[.int .i64 (x.Id), .slice AE x.aA.length cE, .slice AS x.Loop.length cS, .slice AL x.aD.length cL, .slice AO x.Out.length cO], .agg #[.int .i64 (k0), .int .i64 (n0)]]) rfl rfl rfl (lN x k0 n0 uk un _ n_Entities _ (fM _ x (Ha29.eG 4 rfl).1 (Ha29.fC 4 rfl) (Ha29.eG 5 rfl).1 (Ha29.fC 5 rfl) (Ha29.eG 6 rfl).1 (Ha29.fC 6 rfl) (Ha29.eG 7 rfl).1 (Ha29.fC 7 rfl)) hlk) ?_
  rintro e34 W33 ⟨rfl, hu32⟩; refine ⟨_, rfl, ?_⟩
  have H35 := Ha29.no hu32; clear Ha29
  have hS36 := And.intro (H35.blk 3 rfl) (H35.blk 2 rfl); refine ⟨fun _ => hS36, ?_⟩
  refine aL (i := 6) kR ?_
  refine aR rfl Tryz.sizeOf95 rfl rfl rfl rfl kS H35 ?_
  intro W37 hu38 Ha39; clear H35; clear hu38
  have hS41 := And.intro (Ha39.blk 3 rfl) (Ha39.blk 2 rfl); refine ⟨fun _ => hS41, ?_⟩
  refine bD kR ?_ _
  exact (aZ [(0, .pointer (some ⟨g, 0, none⟩)), (1, .int .i64 (p)), (6, .pointer (some ⟨g_0_1, 0, none⟩)), (7, .pointer (some ⟨g_1_5, 0, none⟩))] rfl).elim fun x' hx => ⟨g_1_5, x', hx, Ha39.pick [0, 1, 3, 4, 5, 6, 7] kD rfl⟩
 ·rintro _ W43 ⟨g_1_5, x44, rfl, H42⟩
  refine aM ?_
  refine wp_seq ?_
  refine wp_seq ?_
  refine aS [0, 1, 2, 3, 4, 5, 6, 7] rfl ?_
  refine aB ?_
  refine aC rfl (bB jM rfl) rfl rfl ?_
  refine aB ?_
  refine aC rfl (bG (k := 0) (v := .int .i64 (uk)) Tryz.isAgg3 rfl (H42.blk 0 rfl) rfl) rfl rfl ?_
  refine aB ?_
  refine aC rfl (fB (p := (uk : Int) = 0) h0 (iQ (p := uk) (q := 0) rfl rfl)) rfl rfl ?_
  refine aB ?_
  refine aC rfl (aK rfl) rfl rfl ?_
  refine aB ?_
  refine bX rfl rfl rfl rfl rfl rfl rfl ?_
  refine aB ?_
  refine bX rfl rfl rfl rfl rfl rfl rfl ?_
  refine aB ?_
  refine bX rfl rfl rfl rfl rfl rfl rfl ?_
  refine aB ?_
  refine aC rfl (dS (v := .bool (false)) (b := false) rfl rfl rfl rfl) rfl rfl ?_
  refine aN ?_
  refine aM ?_
  refine fO rfl ?_
  refine wp_skip ?_
  refine aM ?_
  refine wp_seq ?_
  refine wp_seq ?_
  refine eH (fun W' => Blk W' g_1_5 95 #[.int .i64 (uk), .int .i64 (un)]) 23 kR ?_
  have H45 := H42.drew; clear H42
  have hS46 : Blk W43.drew g_1_5 95 #[.int .i64 (uk), .int .i64 (un)] := H45.blk 0 rfl
  refine aF (i := 0) rfl kR kR kR kR kR (fun _ _ _ h => h) rfl rfl hS46 (fun W' hs' => bB jM rfl) ?_
  refine aF (i := 1) rfl kR kR kR kR kR (fun _ _ _ h => h) rfl rfl hS46 (fun W' hs' => bG (k := 0) (v := .int .i64 (uk)) Tryz.isAgg3 rfl hs' rfl) ?_
  refine aF (i := 2) rfl kR kR kR kR kR (fun _ _ _ h => h) rfl rfl hS46 (fun W' hs' => gH (p := ¬ (uk : Int) = 1) h1 (iR (p := uk) (q := 1) rfl rfl)) ?_
  refine aF (i := 3) rfl kR kR kR kR kR (fun _ _ _ h => h) rfl rfl hS46 (fun W' hs' => aK rfl) ?_
  refine dU (i := 4) rfl rfl rfl rfl rfl kR kR kR kR kR (fun _ _ _ h => h) rfl rfl hS46 ?_
  refine dU (i := 5) rfl rfl rfl rfl rfl kR kR kR kR kR (fun _ _ _ h => h) rfl rfl hS46 ?_
  refine dU (i := 6) rfl rfl rfl rfl rfl kR kR kR kR kR (fun _ _ _ h => h) rfl rfl hS46 ?_
  refine dU (i := 7) rfl rfl rfl rfl rfl kR kR kR kR kR (fun _ _ _ h => h) rfl rfl hS46 ?_
  refine dU (i := 8) rfl rfl rfl rfl rfl kR kR kR kR kR (fun _ _ _ h => h) rfl rfl hS46 ?_
  refine dU (i := 9) rfl rfl rfl rfl rfl kR kR kR kR kR (fun _ _ _ h => h) rfl rfl hS46 ?_
  refine dU (i := 10) rfl rfl rfl rfl rfl kR kR kR kR kR (fun _ _ _ h => h) rfl rfl hS46 ?_
  refine dU (i := 11) rfl rfl rfl rfl rfl kR kR kR kR kR (fun _ _ _ h => h) rfl rfl hS46 ?_
  refine dU (i := 12) rfl rfl rfl rfl rfl kR kR kR kR kR (fun _ _ _ h => h) rfl rfl hS46 ?_
  refine dU (i := 13) rfl rfl rfl rfl rfl kR kR kR kR kR (fun _ _ _ h => h) rfl rfl hS46 ?_
  refine aF (i := 14) rfl kR kR kR kR kR (fun _ _ _ h => h) rfl rfl hS46 (fun W' hs' => dS (v := .bool (true)) (b := true) rfl rfl rfl rfl) ?_
  refine aF (i := 15) rfl kR kR kR kR kR (fun _ _ _ h => h) rfl rfl hS46 (fun W' hs' => aK rfl) ?_
  refine dU (i := 16) rfl rfl rfl rfl rfl kR kR kR kR kR (fun _ _ _ h => h) rfl rfl hS46 ?_
  refine dU (i := 17) rfl rfl rfl rfl rfl kR kR kR kR kR (fun _ _ _ h => h) rfl rfl hS46 ?_
  refine dU (i := 18) rfl rfl rfl rfl rfl kR kR kR kR kR (fun _ _ _ h => h) rfl rfl hS46 ?_
  refine dU (i := 19) rfl rfl rfl rfl rfl kR kR kR kR kR (fun _ _ _ h => h) rfl rfl hS46 ?_
  refine dU (i := 20) rfl rfl rfl rfl rfl kR kR kR kR kR (fun _ _ _ h => h) rfl rfl hS46 ?_
  refine dU (i := 21) rfl rfl rfl rfl rfl kR kR kR kR kR (fun _ _ _ h => h) rfl rfl hS46 ?_
  refine aF (i := 22) rfl kR kR kR kR kR (fun _ _ _ h => h) rfl rfl hS46 (fun W' hs' => dS (v := .bool (true)) (b := true) rfl rfl rfl rfl) ?_
  refine bD kR ?_ _
  refine aM ?_
  refine jB rfl ?_
  refine wp_seq ?_
  refine aS [0, 1] rfl ?_
  refine aB ?_
  refine aC rfl (fJ (vs := [(0, .int .i64 (3))]) (cells := #[.int .i64 (3), .int .i64 (0)]) rfl kR) rfl rfl ?_
  refine aB ?_
  have H50 : St w F0 [hB g_0_1 72 #[.int .i64 (0), .int .i64 (0)], hB g_1_5 95 #[.int .i64 (uk), .int .i64 (un)], hB g 68 #[.int .i64 (x.Id), .slice AE x.aA.length cE, .slice AS x.Loop.length cS, .slice AL x.aD.length cL, .slice AO x.Out.length cO], hR aJ 171 (.slice AE x.aA.length cE) x.aA, hR aX 235 (.slice AS x.Loop.length cS) x.Loop, hR aO 178 (.slice AL x.aD.length cL) x.aD, hR aP 147 (.slice AO x.Out.length cO) x.Out] W43.drew := H45.pick [1, 0, 2, 3, 4, 5, 6] kD rfl; clear H45
  refine aR rfl Tryz.sizeOf72 rfl rfl rfl rfl kS H50 ?_
  intro W47 hu48 Ha49; clear H50; clear hu48
  refine aN ?_
  refine aM ?_
  refine wp_ret ?_
  refine eB ?_
  obtain ⟨e1, e2⟩ := tw_bad x.aA x.aD p uk un (by unfold isI; rw [decide_eq_false h0]; rfl) (fun q => h1 q.1.1)
  refine eP (.inl rfl) Tryz.results129 Tryz.isAgg72 Tryz.sizeOf72 rfl (Ha49.blk 0 rfl) rfl ?_
  rw [e1, e2]
  exact ⟨AL, cL, rfl, Ha49.pick [2, 3, 4, 5, 6] kD rfl⟩
theorem l13To_d (x : GVat) (p k0 n0 : Int) (g cE cS cL cO : Nat) (AE AS AL AO : Option Addr) (F0 : Nat → Prop) (w : World) (h : Star [hB g 68 #[.int .i64 x.Id, .slice AE x.aA.length cE, .slice AS x.Loop.length cS, .slice AL (x.aD).length cL, .slice AO x.Out.length cO], hR aJ 171 (.slice AE x.aA.length cE) x.aA, hR aX 235 (.slice AS x.Loop.length cS) x.Loop, hR aO 178 (.slice AL (x.aD).length cL) (x.aD), hR aP 147 (.slice AO x.Out.length cO) x.Out] w F0) (hs : bR x ≤ 4194304) (un : Int) (hlk : dW x.aA (x.aA.length + 1) k0 n0 = ⟨1, un⟩) (hr : ¬ (0 ≤ un ∧ un < (x.aA.length : Int))) : Calls Tryz.prog 129 #[.pointer (some ⟨g, 0, none⟩), .int .i64 p, .agg #[.int .i64 k0, .int .i64 n0]] w (fun e' w' => ∃ A c, e' = .returned (.agg #[.int .i64 (twW x.aA x.aD p ⟨1, un⟩).Kind, .int .i64 (twW x.aA x.aD p ⟨1, un⟩).N]) ∧ St w F0 [hB g 68 #[.int .i64 x.Id, .slice AE x.aA.length cE, .slice AS x.Loop.length cS, .slice A (twL x.aA x.aD p ⟨1, un⟩).length c, .slice AO x.Out.length cO], hR aJ 171 (.slice AE x.aA.length cE) x.aA, hR aX 235 (.slice AS x.Loop.length cS) x.Loop, hR aO 178 (.slice A (twL x.aA x.aD p ⟨1, un⟩).length c) (twL x.aA x.aD p ⟨1, un⟩), hR aP 147 (.slice AO x.Out.length cO) x.Out] w') := by
 have s_Entities : bN dD x.aA ≤ 4194304 := by unfold bR at hs; omega
 have n_Entities : x.aA.length ≤ 4194304 := by unfold bN at s_Entities; omega
 have s_Loop : bN dX x.Loop ≤ 4194304 := by unfold bR at hs; omega
 have n_Loop : x.Loop.length ≤ 4194304 := by unfold bN at s_Loop; omega
 have s_Links : bN bQ x.aD ≤ 4194304 := by unfold bR at hs; omega
 have n_Links : x.aD.length ≤ 4194304 := by unfold bN at s_Links; omega
 have s_Out : bN dH x.Out ≤ 4194304 := by unfold bR at hs; omega
 have n_Out : x.Out.length ≤ 4194304 := by unfold bN at s_Out; omega
 refine enter 99 [(0, .pointer (some ⟨g, 0, none⟩)), (1, .int .i64 (p)), (2, .agg #[.int .i64 (k0), .int .i64 (n0)])] Tryz.func129 rfl kR ?_
 intro xj
 have H1 : St w F0 [hB g 68 #[.int .i64 (x.Id), .slice AE x.aA.length cE, .slice AS x.Loop.length cS, .slice AL x.aD.length cL, .slice AO x.Out.length cO], hR aJ 171 (.slice AE x.aA.length cE) x.aA, hR aX 235 (.slice AS x.Loop.length cS) x.Loop, hR aO 178 (.slice AL x.aD.length cL) x.aD, hR aP 147 (.slice AO x.Out.length cO) x.Out] w := St.kP h
 have hr_ : ¬ (0 ≤ un ∧ un ≤ ((x.aA.length : Nat) : Int) - 1) := by omega
 refine wp_seq ?_
 refine aS [0, 1] rfl ?_
 refine aB ?_
 refine gG rfl rfl rfl rfl H1 ?_
 intro g_0_0 W2 hu3 Ha4; clear H1; clear hu3
 refine aB ?_
 refine bA rfl Tryz.zeroValue72 rfl rfl Ha4 ?_
 intro g_0_1 W6 hu7 Ha8; clear Ha4; clear hu7
 refine aN ?_
 refine aM ?_
 refine wp_seq ?_
 refine lC (fun a' W' => ∃ (g_1_5 : Nat) (x' : Nat → Value), a' = bO 99 x' [(0, .pointer (some ⟨g, 0, none⟩)), (1, .int .i64 (p)), (6, .pointer (some ⟨g_0_1, 0, none⟩)), (7, .pointer (some ⟨g_1_5, 0, none⟩))] ∧ St w F0 [hB g_1_5 95 #[.int .i64 (1), .int .i64 (un)], hB g_0_1 72 #[.int .i64 (0), .int .i64 (0)], hB g 68 #[.int .i64 (x.Id), .slice AE x.aA.length cE, .slice AS x.Loop.length cS, .slice AL x.aD.length cL, .slice AO x.Out.length cO], hR aJ 171 (.slice AE x.aA.length cE) x.aA, hR aX 235 (.slice AS x.Loop.length cS) x.Loop, hR aO 178 (.slice AL x.aD.length cL) x.aD, hR aP 147 (.slice AO x.Out.length cO) x.Out] W') ?_ ?_
 ·refine eH (fun W' => Blk W' g 68 #[.int .i64 (x.Id), .slice AE x.aA.length cE, .slice AS x.Loop.length cS, .slice AL x.aD.length cL, .slice AO x.Out.length cO] ∧ Blk W' g_0_0 95 #[.int .i64 (k0), .int .i64 (n0)]) 7 kR ?_
  have H10 := Ha8.drew; clear Ha8
  have hS11 : Blk W6.drew g 68 #[.int .i64 (x.Id), .slice AE x.aA.length cE, .slice AS x.Loop.length cS, .slice AL x.aD.length cL, .slice AO x.Out.length cO] ∧ Blk W6.drew g_0_0 95 #[.int .i64 (k0), .int .i64 (n0)] := ⟨H10.blk 2 rfl, H10.blk 1 rfl⟩
  refine aF (i := 0) rfl kR kR kR kR kR (fun _ _ _ h => h) rfl rfl hS11 (fun W' hs' => aK rfl) ?_
  refine aF (i := 1) rfl kR kR kR kR kR (fun _ _ _ h => h) rfl rfl hS11 (fun W' hs' => dB rfl) ?_
  refine aF (i := 2) rfl kR kR kR kR kR (fun _ _ _ h => h) rfl rfl hS11 (fun W' hs' => bI Tryz.isAgg68 Tryz.sizeOf68 rfl hs'.1 rfl) ?_
  refine aF (i := 3) rfl kR kR kR kR kR (fun _ _ _ h => h) rfl rfl hS11 (fun W' hs' => bI Tryz.isAgg95 Tryz.sizeOf95 rfl hs'.2 rfl) ?_
  refine dY (i := 4) (i2 := 5) kR ?_ ?_
  ·refine aV rfl Tryz.call186 (vs := #[.agg #[.int .i64 (x.Id), .slice AE x.aA.length cE, .slice AS x.Loop.length cS, .slice AL x.aD.length cL, .slice AO x.Out.length cO], .agg #[.int .i64 (k0), .int .i64 (n0)]]) rfl rfl rfl (lN x k0 n0 1 un _ n_Entities _ (fM _ x (H10.eG 3 rfl).1 (H10.fC 3 rfl) (H10.eG 4 rfl).1 (H10.fC 4 rfl) (H10.eG 5 rfl).1 (H10.fC 5 rfl) (H10.eG 6 rfl).1 (H10.fC 6 rfl)) hlk) ?_
   rintro e14 W13 ⟨rfl, hu12⟩; refine ⟨_, rfl, ?_⟩
   have H15 := H10.no hu12; clear H10
   have hS16 := And.intro (H15.blk 2 rfl) (H15.blk 1 rfl); refine ⟨fun _ => hS16, ?_⟩
   refine aL (i := 5) kR ?_
   refine bA rfl Tryz.zeroValue95 rfl rfl H15 ?_
   intro g_1_5 W17 hu18 Ha19; clear H15; clear hu18
   have hS21 := And.intro (Ha19.blk 3 rfl) (Ha19.blk 2 rfl); refine ⟨fun _ => hS21, ?_⟩
   refine aL (i := 6) kR ?_
   refine aR rfl Tryz.sizeOf95 rfl rfl rfl rfl kS Ha19 ?_
   intro W22 hu23 Ha24; clear Ha19; clear hu23
   have hS26 := And.intro (Ha24.blk 3 rfl) (Ha24.blk 2 rfl); refine ⟨fun _ => hS26, ?_⟩
   refine bD kR ?_ _
   exact (aZ [(0, .pointer (some ⟨g, 0, none⟩)), (1, .int .i64 (p)), (6, .pointer (some ⟨g_0_1, 0, none⟩)), (7, .pointer (some ⟨g_1_5, 0, none⟩))] rfl).elim fun x' hx => ⟨g_1_5, x', hx, Ha24.pick [0, 1, 3, 4, 5, 6, 7] kD rfl⟩
  refine bA rfl Tryz.zeroValue95 rfl rfl H10 ?_
  intro g_1_5 W27 hu28 Ha29; clear H10; clear hu28
  have hS31 := And.intro (Ha29.blk 3 rfl) (Ha29.blk 2 rfl); refine ⟨fun _ => hS31, ?_⟩
  refine aL (i := 4) kR ?_
  refine aV rfl Tryz.call186 (vs := #[.agg #[.int .i64 (x.Id), .slice AE x.aA.length cE, .slice AS x.Loop.length cS, .slice AL x.aD.length cL, .slice AO x.Out.length cO], .agg #[.int .i64 (k0), .int .i64 (n0)]]) rfl rfl rfl (lN x k0 n0 1 un _ n_Entities _ (fM _ x (Ha29.eG 4 rfl).1 (Ha29.fC 4 rfl) (Ha29.eG 5 rfl).1 (Ha29.fC 5 rfl) (Ha29.eG 6 rfl).1 (Ha29.fC 6 rfl) (Ha29.eG 7 rfl).1 (Ha29.fC 7 rfl)) hlk) ?_
  rintro e34 W33 ⟨rfl, hu32⟩; refine ⟨_, rfl, ?_⟩
  have H35 := Ha29.no hu32; clear Ha29
  have hS36 := And.intro (H35.blk 3 rfl) (H35.blk 2 rfl); refine ⟨fun _ => hS36, ?_⟩
  refine aL (i := 6) kR ?_
  refine aR rfl Tryz.sizeOf95 rfl rfl rfl rfl kS H35 ?_
  intro W37 hu38 Ha39; clear H35; clear hu38
  have hS41 := And.intro (Ha39.blk 3 rfl) (Ha39.blk 2 rfl); refine ⟨fun _ => hS41, ?_⟩
  refine bD kR ?_ _
  exact (aZ [(0, .pointer (some ⟨g, 0, none⟩)), (1, .int .i64 (p)), (6, .pointer (some ⟨g_0_1, 0, none⟩)), (7, .pointer (some ⟨g_1_5, 0, none⟩))] rfl).elim fun x' hx => ⟨g_1_5, x', hx, Ha39.pick [0, 1, 3, 4, 5, 6, 7] kD rfl⟩
 ·rintro _ W43 ⟨g_1_5, x44, rfl, H42⟩
  refine aM ?_
  refine wp_seq ?_
  refine wp_seq ?_
  refine aS [0, 1, 2, 3, 4, 5, 6, 7] rfl ?_
  refine aB ?_
  refine aC rfl (bB jM rfl) rfl rfl ?_
  refine aB ?_
  refine aC rfl (bG (k := 0) (v := .int .i64 (1)) Tryz.isAgg3 rfl (H42.blk 0 rfl) rfl) rfl rfl ?_
  refine aB ?_
  refine aC rfl (fB (p := (1 : Int) = 0) kD (iQ (p := 1) (q := 0) rfl rfl)) rfl rfl ?_
  refine aB ?_
  refine aC rfl (aK rfl) rfl rfl ?_
  refine aB ?_
  refine bX rfl rfl rfl rfl rfl rfl rfl ?_
  refine aB ?_
  refine bX rfl rfl rfl rfl rfl rfl rfl ?_
  refine aB ?_
  refine bX rfl rfl rfl rfl rfl rfl rfl ?_
  refine aB ?_
  refine aC rfl (dS (v := .bool (false)) (b := false) rfl rfl rfl rfl) rfl rfl ?_
  refine aN ?_
  refine aM ?_
  refine fO rfl ?_
  refine wp_skip ?_
  refine aM ?_
  refine wp_seq ?_
  refine wp_seq ?_
  refine eH (fun W' => Blk W' g_1_5 95 #[.int .i64 (1), .int .i64 (un)] ∧ Blk W' g 68 #[.int .i64 (x.Id), .slice AE x.aA.length cE, .slice AS x.Loop.length cS, .slice AL x.aD.length cL, .slice AO x.Out.length cO]) 23 kR ?_
  have H45 := H42.drew; clear H42
  have hS46 : Blk W43.drew g_1_5 95 #[.int .i64 (1), .int .i64 (un)] ∧ Blk W43.drew g 68 #[.int .i64 (x.Id), .slice AE x.aA.length cE, .slice AS x.Loop.length cS, .slice AL x.aD.length cL, .slice AO x.Out.length cO] := ⟨H45.blk 0 rfl, H45.blk 2 rfl⟩
  refine aF (i := 0) rfl kR kR kR kR kR (fun _ _ _ h => h) rfl rfl hS46 (fun W' hs' => bB jM rfl) ?_
  refine aF (i := 1) rfl kR kR kR kR kR (fun _ _ _ h => h) rfl rfl hS46 (fun W' hs' => bG (k := 0) (v := .int .i64 (1)) Tryz.isAgg3 rfl hs'.1 rfl) ?_
  refine aF (i := 2) rfl kR kR kR kR kR (fun _ _ _ h => h) rfl rfl hS46 (fun W' hs' => fB (p := ¬ (1 : Int) = 1) (not_not_intro rfl) (iR (p := 1) (q := 1) rfl rfl)) ?_
  refine aF (i := 3) rfl kR kR kR kR kR (fun _ _ _ h => h) rfl rfl hS46 (fun W' hs' => aK rfl) ?_
  refine dV (i := 4) rfl rfl rfl rfl kR kR kR kR kR (fun _ _ _ h => h) rfl rfl hS46 (fun W' hs' => bB iZ rfl) ?_
  refine dV (i := 5) rfl rfl rfl rfl kR kR kR kR kR (fun _ _ _ h => h) rfl rfl hS46 (fun W' hs' => bG (k := 1) (v := .int .i64 (un)) Tryz.isAgg3 rfl hs'.1 rfl) ?_
  refine dV (i := 6) rfl rfl rfl rfl kR kR kR kR kR (fun _ _ _ h => h) rfl rfl hS46 (fun W' hs' => aK rfl) ?_
  refine dV (i := 7) rfl rfl rfl rfl kR kR kR kR kR (fun _ _ _ h => h) rfl rfl hS46 (fun W' hs' => dB rfl) ?_
  refine dV (i := 8) rfl rfl rfl rfl kR kR kR kR kR (fun _ _ _ h => h) rfl rfl hS46 (fun W' hs' => bB iY rfl) ?_
  refine dV (i := 9) rfl rfl rfl rfl kR kR kR kR kR (fun _ _ _ h => h) rfl rfl hS46 (fun W' hs' => bG (k := 1) (v := .slice AE x.aA.length cE) Tryz.isAgg63 rfl hs'.2 rfl) ?_
  refine dV (i := 10) rfl rfl rfl rfl kR kR kR kR kR (fun _ _ _ h => h) rfl rfl hS46 (fun W' hs' => jY Tryz.runUnderlying63 rfl) ?_
  refine dV (i := 11) rfl rfl rfl rfl kR kR kR kR kR (fun _ _ _ h => h) rfl rfl hS46 (fun W' hs' => rn_sub rfl rfl kO) ?_
  refine aL (i := 12) kR ?_
  refine eO rfl rfl rfl rfl (fun _ ho47 => ?_)
  refine aV ho47 Tryz.call115 (vs := #[.int .i64 (un), .int .i64 (0), .int .i64 (((x.aA.length : Nat) - 1))]) rfl rfl rfl (l1In_s_f un 0 ((x.aA.length : Nat) - 1) _ hr_) ?_
  rintro e50 W49 ⟨rfl, hu48⟩; refine ⟨_, rfl, ?_⟩
  have H51 := H45.no hu48; clear H45
  have hS52 := And.intro (H51.blk 0 rfl) (H51.blk 2 rfl); refine ⟨fun _ => hS52, ?_⟩
  refine dV (i := 13) rfl rfl rfl rfl kR kR kR kR kR (fun _ _ _ h => h) rfl rfl hS52 (fun W' hs' => iP rfl) ?_
  refine aF (i := 14) rfl kR kR kR kR kR (fun _ _ _ h => h) rfl rfl hS52 (fun W' hs' => dS (v := .bool (true)) (b := false) rfl rfl rfl rfl) ?_
  refine aF (i := 15) rfl kR kR kR kR kR (fun _ _ _ h => h) rfl rfl hS52 (fun W' hs' => aK rfl) ?_
  refine dU (i := 16) rfl rfl rfl rfl rfl kR kR kR kR kR (fun _ _ _ h => h) rfl rfl hS52 ?_
  refine dU (i := 17) rfl rfl rfl rfl rfl kR kR kR kR kR (fun _ _ _ h => h) rfl rfl hS52 ?_
  refine dU (i := 18) rfl rfl rfl rfl rfl kR kR kR kR kR (fun _ _ _ h => h) rfl rfl hS52 ?_
  refine dU (i := 19) rfl rfl rfl rfl rfl kR kR kR kR kR (fun _ _ _ h => h) rfl rfl hS52 ?_
  refine dU (i := 20) rfl rfl rfl rfl rfl kR kR kR kR kR (fun _ _ _ h => h) rfl rfl hS52 ?_
  refine dU (i := 21) rfl rfl rfl rfl rfl kR kR kR kR kR (fun _ _ _ h => h) rfl rfl hS52 ?_
  refine aF (i := 22) rfl kR kR kR kR kR (fun _ _ _ h => h) rfl rfl hS52 (fun W' hs' => dS (v := .bool (true)) (b := true) rfl rfl rfl rfl) ?_
  refine bD kR ?_ _
  refine aM ?_
  refine jB rfl ?_
  refine wp_seq ?_
  refine aS [0, 1] rfl ?_
  refine aB ?_
  refine aC rfl (fJ (vs := [(0, .int .i64 (3))]) (cells := #[.int .i64 (3), .int .i64 (0)]) rfl kR) rfl rfl ?_
  refine aB ?_
  have H56 : St w F0 [hB g_0_1 72 #[.int .i64 (0), .int .i64 (0)], hB g_1_5 95 #[.int .i64 (1), .int .i64 (un)], hB g 68 #[.int .i64 (x.Id), .slice AE x.aA.length cE, .slice AS x.Loop.length cS, .slice AL x.aD.length cL, .slice AO x.Out.length cO], hR aJ 171 (.slice AE x.aA.length cE) x.aA, hR aX 235 (.slice AS x.Loop.length cS) x.Loop, hR aO 178 (.slice AL x.aD.length cL) x.aD, hR aP 147 (.slice AO x.Out.length cO) x.Out] W49 := H51.pick [1, 0, 2, 3, 4, 5, 6] kD rfl; clear H51
  refine aR rfl Tryz.sizeOf72 rfl rfl rfl rfl kS H56 ?_
  intro W53 hu54 Ha55; clear H56; clear hu54
  refine aN ?_
  refine aM ?_
  refine wp_ret ?_
  refine eB ?_
  obtain ⟨e1, e2⟩ := tw_bad x.aA x.aD p 1 un (by unfold isI; rw [decide_eq_false kD]; rfl) (fun q => hr q.1.2)
  refine eP (.inl rfl) Tryz.results129 Tryz.isAgg72 Tryz.sizeOf72 rfl (Ha55.blk 0 rfl) rfl ?_
  rw [e1, e2]
  exact ⟨AL, cL, rfl, Ha55.pick [2, 3, 4, 5, 6] kD rfl⟩
theorem l13To_e (x : GVat) (p k0 n0 : Int) (g cE cS cL cO : Nat) (AE AS AL AO : Option Addr) (F0 : Nat → Prop) (w : World) (h : Star [hB g 68 #[.int .i64 x.Id, .slice AE x.aA.length cE, .slice AS x.Loop.length cS, .slice AL (x.aD).length cL, .slice AO x.Out.length cO], hR aJ 171 (.slice AE x.aA.length cE) x.aA, hR aX 235 (.slice AS x.Loop.length cS) x.Loop, hR aO 178 (.slice AL (x.aD).length cL) (x.aD), hR aP 147 (.slice AO x.Out.length cO) x.Out] w F0) (hs : bR x ≤ 4194304) (kq : Nat) (hlk : dW x.aA (x.aA.length + 1) k0 n0 = ⟨1, (kq : Int)⟩) (hkq : kq < x.aA.length) (hup : x.aD.any (upP p) = false) : Calls Tryz.prog 129 #[.pointer (some ⟨g, 0, none⟩), .int .i64 p, .agg #[.int .i64 k0, .int .i64 n0]] w (fun e' w' => ∃ A c, e' = .returned (.agg #[.int .i64 (twW x.aA x.aD p ⟨1, (kq : Int)⟩).Kind, .int .i64 (twW x.aA x.aD p ⟨1, (kq : Int)⟩).N]) ∧ St w F0 [hB g 68 #[.int .i64 x.Id, .slice AE x.aA.length cE, .slice AS x.Loop.length cS, .slice A (twL x.aA x.aD p ⟨1, (kq : Int)⟩).length c, .slice AO x.Out.length cO], hR aJ 171 (.slice AE x.aA.length cE) x.aA, hR aX 235 (.slice AS x.Loop.length cS) x.Loop, hR aO 178 (.slice A (twL x.aA x.aD p ⟨1, (kq : Int)⟩).length c) (twL x.aA x.aD p ⟨1, (kq : Int)⟩), hR aP 147 (.slice AO x.Out.length cO) x.Out] w') := by
 have s_Entities : bN dD x.aA ≤ 4194304 := by unfold bR at hs; omega
 have n_Entities : x.aA.length ≤ 4194304 := by unfold bN at s_Entities; omega
 have s_Loop : bN dX x.Loop ≤ 4194304 := by unfold bR at hs; omega
 have n_Loop : x.Loop.length ≤ 4194304 := by unfold bN at s_Loop; omega
 have s_Links : bN bQ x.aD ≤ 4194304 := by unfold bR at hs; omega
 have n_Links : x.aD.length ≤ 4194304 := by unfold bN at s_Links; omega
 have s_Out : bN dH x.Out ≤ 4194304 := by unfold bR at hs; omega
 have n_Out : x.Out.length ≤ 4194304 := by unfold bN at s_Out; omega
 refine enter 99 [(0, .pointer (some ⟨g, 0, none⟩)), (1, .int .i64 (p)), (2, .agg #[.int .i64 (k0), .int .i64 (n0)])] Tryz.func129 rfl kR ?_
 intro xj
 have H1 : St w F0 [hB g 68 #[.int .i64 (x.Id), .slice AE x.aA.length cE, .slice AS x.Loop.length cS, .slice AL x.aD.length cL, .slice AO x.Out.length cO], hR aJ 171 (.slice AE x.aA.length cE) x.aA, hR aX 235 (.slice AS x.Loop.length cS) x.Loop, hR aO 178 (.slice AL x.aD.length cL) x.aD, hR aP 147 (.slice AO x.Out.length cO) x.Out] w := St.kP h
 refine wp_seq ?_
 refine aS [0, 1] rfl ?_
 refine aB ?_
 refine gG rfl rfl rfl rfl H1 ?_
 intro g_0_0 W2 hu3 Ha4; clear H1; clear hu3
 refine aB ?_
 refine bA rfl Tryz.zeroValue72 rfl rfl Ha4 ?_
 intro g_0_1 W6 hu7 Ha8; clear Ha4; clear hu7
 refine aN ?_
 refine aM ?_
 refine wp_seq ?_
 refine lC (fun a' W' => ∃ (g_1_5 : Nat) (x' : Nat → Value), a' = bO 99 x' [(0, .pointer (some ⟨g, 0, none⟩)), (1, .int .i64 (p)), (6, .pointer (some ⟨g_0_1, 0, none⟩)), (7, .pointer (some ⟨g_1_5, 0, none⟩))] ∧ St w F0 [hB g_1_5 95 #[.int .i64 (1), .int .i64 (((kq : Nat) : Int))], hB g_0_1 72 #[.int .i64 (0), .int .i64 (0)], hB g 68 #[.int .i64 (x.Id), .slice AE x.aA.length cE, .slice AS x.Loop.length cS, .slice AL x.aD.length cL, .slice AO x.Out.length cO], hR aJ 171 (.slice AE x.aA.length cE) x.aA, hR aX 235 (.slice AS x.Loop.length cS) x.Loop, hR aO 178 (.slice AL x.aD.length cL) x.aD, hR aP 147 (.slice AO x.Out.length cO) x.Out] W') ?_ ?_
 ·refine eH (fun W' => Blk W' g 68 #[.int .i64 (x.Id), .slice AE x.aA.length cE, .slice AS x.Loop.length cS, .slice AL x.aD.length cL, .slice AO x.Out.length cO] ∧ Blk W' g_0_0 95 #[.int .i64 (k0), .int .i64 (n0)]) 7 kR ?_
  have H10 := Ha8.drew; clear Ha8
  have hS11 : Blk W6.drew g 68 #[.int .i64 (x.Id), .slice AE x.aA.length cE, .slice AS x.Loop.length cS, .slice AL x.aD.length cL, .slice AO x.Out.length cO] ∧ Blk W6.drew g_0_0 95 #[.int .i64 (k0), .int .i64 (n0)] := ⟨H10.blk 2 rfl, H10.blk 1 rfl⟩
  refine aF (i := 0) rfl kR kR kR kR kR (fun _ _ _ h => h) rfl rfl hS11 (fun W' hs' => aK rfl) ?_
  refine aF (i := 1) rfl kR kR kR kR kR (fun _ _ _ h => h) rfl rfl hS11 (fun W' hs' => dB rfl) ?_
  refine aF (i := 2) rfl kR kR kR kR kR (fun _ _ _ h => h) rfl rfl hS11 (fun W' hs' => bI Tryz.isAgg68 Tryz.sizeOf68 rfl hs'.1 rfl) ?_
  refine aF (i := 3) rfl kR kR kR kR kR (fun _ _ _ h => h) rfl rfl hS11 (fun W' hs' => bI Tryz.isAgg95 Tryz.sizeOf95 rfl hs'.2 rfl) ?_
  refine dY (i := 4) (i2 := 5) kR ?_ ?_
  ·refine aV rfl Tryz.call186 (vs := #[.agg #[.int .i64 (x.Id), .slice AE x.aA.length cE, .slice AS x.Loop.length cS, .slice AL x.aD.length cL, .slice AO x.Out.length cO], .agg #[.int .i64 (k0), .int .i64 (n0)]]) rfl rfl rfl (lN x k0 n0 1 ((kq : Nat) : Int) _ n_Entities _ (fM _ x (H10.eG 3 rfl).1 (H10.fC 3 rfl) (H10.eG 4 rfl).1 (H10.fC 4 rfl) (H10.eG 5 rfl).1 (H10.fC 5 rfl) (H10.eG 6 rfl).1 (H10.fC 6 rfl)) hlk) ?_
   rintro e14 W13 ⟨rfl, hu12⟩; refine ⟨_, rfl, ?_⟩
   have H15 := H10.no hu12; clear H10
   have hS16 := And.intro (H15.blk 2 rfl) (H15.blk 1 rfl); refine ⟨fun _ => hS16, ?_⟩
   refine aL (i := 5) kR ?_
   refine bA rfl Tryz.zeroValue95 rfl rfl H15 ?_
   intro g_1_5 W17 hu18 Ha19; clear H15; clear hu18
   have hS21 := And.intro (Ha19.blk 3 rfl) (Ha19.blk 2 rfl); refine ⟨fun _ => hS21, ?_⟩
   refine aL (i := 6) kR ?_
   refine aR rfl Tryz.sizeOf95 rfl rfl rfl rfl kS Ha19 ?_
   intro W22 hu23 Ha24; clear Ha19; clear hu23
   have hS26 := And.intro (Ha24.blk 3 rfl) (Ha24.blk 2 rfl); refine ⟨fun _ => hS26, ?_⟩
   refine bD kR ?_ _
   exact (aZ [(0, .pointer (some ⟨g, 0, none⟩)), (1, .int .i64 (p)), (6, .pointer (some ⟨g_0_1, 0, none⟩)), (7, .pointer (some ⟨g_1_5, 0, none⟩))] rfl).elim fun x' hx => ⟨g_1_5, x', hx, Ha24.pick [0, 1, 3, 4, 5, 6, 7] kD rfl⟩
  refine bA rfl Tryz.zeroValue95 rfl rfl H10 ?_
  intro g_1_5 W27 hu28 Ha29; clear H10; clear hu28
  have hS31 := And.intro (Ha29.blk 3 rfl) (Ha29.blk 2 rfl); refine ⟨fun _ => hS31, ?_⟩
  refine aL (i := 4) kR ?_
  refine aV rfl Tryz.call186 (vs := #[.agg #[.int .i64 (x.Id), .slice AE x.aA.length cE, .slice AS x.Loop.length cS, .slice AL x.aD.length cL, .slice AO x.Out.length cO], .agg #[.int .i64 (k0), .int .i64 (n0)]]) rfl rfl rfl (lN x k0 n0 1 ((kq : Nat) : Int) _ n_Entities _ (fM _ x (Ha29.eG 4 rfl).1 (Ha29.fC 4 rfl) (Ha29.eG 5 rfl).1 (Ha29.fC 5 rfl) (Ha29.eG 6 rfl).1 (Ha29.fC 6 rfl) (Ha29.eG 7 rfl).1 (Ha29.fC 7 rfl)) hlk) ?_
  rintro e34 W33 ⟨rfl, hu32⟩; refine ⟨_, rfl, ?_⟩
  have H35 := Ha29.no hu32; clear Ha29
  have hS36 := And.intro (H35.blk 3 rfl) (H35.blk 2 rfl); refine ⟨fun _ => hS36, ?_⟩
  refine aL (i := 6) kR ?_
  refine aR rfl Tryz.sizeOf95 rfl rfl rfl rfl kS H35 ?_
  intro W37 hu38 Ha39; clear H35; clear hu38
  have hS41 := And.intro (Ha39.blk 3 rfl) (Ha39.blk 2 rfl); refine ⟨fun _ => hS41, ?_⟩
  refine bD kR ?_ _
  exact (aZ [(0, .pointer (some ⟨g, 0, none⟩)), (1, .int .i64 (p)), (6, .pointer (some ⟨g_0_1, 0, none⟩)), (7, .pointer (some ⟨g_1_5, 0, none⟩))] rfl).elim fun x' hx => ⟨g_1_5, x', hx, Ha39.pick [0, 1, 3, 4, 5, 6, 7] kD rfl⟩
 ·rintro _ W43 ⟨g_1_5, x44, rfl, H42⟩
  refine aM ?_
  refine wp_seq ?_
  refine wp_seq ?_
  refine aS [0, 1, 2, 3, 4, 5, 6, 7] rfl ?_
  refine aB ?_
  refine aC rfl (bB jM rfl) rfl rfl ?_
  refine aB ?_
  refine aC rfl (bG (k := 0) (v := .int .i64 (1)) Tryz.isAgg3 rfl (H42.blk 0 rfl) rfl) rfl rfl ?_
  refine aB ?_
  refine aC rfl (fB (p := (1 : Int) = 0) kD (iQ (p := 1) (q := 0) rfl rfl)) rfl rfl ?_
  refine aB ?_
  refine aC rfl (aK rfl) rfl rfl ?_
  refine aB ?_
  refine bX rfl rfl rfl rfl rfl rfl rfl ?_
  refine aB ?_
  refine bX rfl rfl rfl rfl rfl rfl rfl ?_
  refine aB ?_
  refine bX rfl rfl rfl rfl rfl rfl rfl ?_
  refine aB ?_
  refine aC rfl (dS (v := .bool (false)) (b := false) rfl rfl rfl rfl) rfl rfl ?_
  refine aN ?_
  refine aM ?_
  refine fO rfl ?_
  refine wp_skip ?_
  refine aM ?_
  refine wp_seq ?_
  refine wp_seq ?_
  refine eH (fun W' => Blk W' g_1_5 95 #[.int .i64 (1), .int .i64 (((kq : Nat) : Int))] ∧ Blk W' g 68 #[.int .i64 (x.Id), .slice AE x.aA.length cE, .slice AS x.Loop.length cS, .slice AL x.aD.length cL, .slice AO x.Out.length cO]) 23 kR ?_
  have H45 := H42.drew; clear H42
  have hS46 : Blk W43.drew g_1_5 95 #[.int .i64 (1), .int .i64 (((kq : Nat) : Int))] ∧ Blk W43.drew g 68 #[.int .i64 (x.Id), .slice AE x.aA.length cE, .slice AS x.Loop.length cS, .slice AL x.aD.length cL, .slice AO x.Out.length cO] := ⟨H45.blk 0 rfl, H45.blk 2 rfl⟩
  refine aF (i := 0) rfl kR kR kR kR kR (fun _ _ _ h => h) rfl rfl hS46 (fun W' hs' => bB jM rfl) ?_
  refine aF (i := 1) rfl kR kR kR kR kR (fun _ _ _ h => h) rfl rfl hS46 (fun W' hs' => bG (k := 0) (v := .int .i64 (1)) Tryz.isAgg3 rfl hs'.1 rfl) ?_
  refine aF (i := 2) rfl kR kR kR kR kR (fun _ _ _ h => h) rfl rfl hS46 (fun W' hs' => fB (p := ¬ (1 : Int) = 1) (not_not_intro rfl) (iR (p := 1) (q := 1) rfl rfl)) ?_
  refine aF (i := 3) rfl kR kR kR kR kR (fun _ _ _ h => h) rfl rfl hS46 (fun W' hs' => aK rfl) ?_
  refine dV (i := 4) rfl rfl rfl rfl kR kR kR kR kR (fun _ _ _ h => h) rfl rfl hS46 (fun W' hs' => bB iZ rfl) ?_
  refine dV (i := 5) rfl rfl rfl rfl kR kR kR kR kR (fun _ _ _ h => h) rfl rfl hS46 (fun W' hs' => bG (k := 1) (v := .int .i64 (((kq : Nat) : Int))) Tryz.isAgg3 rfl hs'.1 rfl) ?_
  refine dV (i := 6) rfl rfl rfl rfl kR kR kR kR kR (fun _ _ _ h => h) rfl rfl hS46 (fun W' hs' => aK rfl) ?_
  refine dV (i := 7) rfl rfl rfl rfl kR kR kR kR kR (fun _ _ _ h => h) rfl rfl hS46 (fun W' hs' => dB rfl) ?_
  refine dV (i := 8) rfl rfl rfl rfl kR kR kR kR kR (fun _ _ _ h => h) rfl rfl hS46 (fun W' hs' => bB iY rfl) ?_
  refine dV (i := 9) rfl rfl rfl rfl kR kR kR kR kR (fun _ _ _ h => h) rfl rfl hS46 (fun W' hs' => bG (k := 1) (v := .slice AE x.aA.length cE) Tryz.isAgg63 rfl hs'.2 rfl) ?_
  refine dV (i := 10) rfl rfl rfl rfl kR kR kR kR kR (fun _ _ _ h => h) rfl rfl hS46 (fun W' hs' => jY Tryz.runUnderlying63 rfl) ?_
  refine dV (i := 11) rfl rfl rfl rfl kR kR kR kR kR (fun _ _ _ h => h) rfl rfl hS46 (fun W' hs' => rn_sub rfl rfl kO) ?_
  refine aL (i := 12) kR ?_
  refine eO rfl rfl rfl rfl (fun _ ho47 => ?_)
  refine aV ho47 Tryz.call115 (vs := #[.int .i64 (((kq : Nat) : Int)), .int .i64 (0), .int .i64 (((x.aA.length : Nat) - 1))]) rfl rfl rfl (l1In_s_t ((kq : Nat) : Int) 0 ((x.aA.length : Nat) - 1) _ kO) ?_
  rintro e50 W49 ⟨rfl, hu48⟩; refine ⟨_, rfl, ?_⟩
  have H51 := H45.no hu48; clear H45
  have hS52 := And.intro (H51.blk 0 rfl) (H51.blk 2 rfl); refine ⟨fun _ => hS52, ?_⟩
  refine dV (i := 13) rfl rfl rfl rfl kR kR kR kR kR (fun _ _ _ h => h) rfl rfl hS52 (fun W' hs' => iP rfl) ?_
  refine aF (i := 14) rfl kR kR kR kR kR (fun _ _ _ h => h) rfl rfl hS52 (fun W' hs' => dS (v := .bool (false)) (b := false) rfl rfl rfl rfl) ?_
  refine aF (i := 15) rfl kR kR kR kR kR (fun _ _ _ h => h) rfl rfl hS52 (fun W' hs' => aK rfl) ?_
  refine dV (i := 16) rfl rfl rfl rfl kR kR kR kR kR (fun _ _ _ h => h) rfl rfl hS52 (fun W' hs' => aK rfl) ?_
  refine dV (i := 17) rfl rfl rfl rfl kR kR kR kR kR (fun _ _ _ h => h) rfl rfl hS52 (fun W' hs' => dB rfl) ?_
  refine dV (i := 18) rfl rfl rfl rfl kR kR kR kR kR (fun _ _ _ h => h) rfl rfl hS52 (fun W' hs' => bI Tryz.isAgg68 Tryz.sizeOf68 rfl hs'.2 rfl) ?_
  refine dV (i := 19) rfl rfl rfl rfl kR kR kR kR kR (fun _ _ _ h => h) rfl rfl hS52 (fun W' hs' => aK rfl) ?_
  refine aL (i := 20) kR ?_
  refine eO rfl rfl rfl rfl (fun _ ho53 => ?_)
  refine aV ho53 Tryz.call91 (vs := #[.agg #[.int .i64 (x.Id), .slice AE x.aA.length cE, .slice AS x.Loop.length cS, .slice AL x.aD.length cL, .slice AO x.Out.length cO], .int .i64 (p)]) rfl rfl rfl (retb (isUp_s x p _ n_Links _ (fM _ x (H51.eG 3 rfl).1 (H51.fC 3 rfl) (H51.eG 4 rfl).1 (H51.fC 4 rfl) (H51.eG 5 rfl).1 (H51.fC 5 rfl) (H51.eG 6 rfl).1 (H51.fC 6 rfl))) hup) ?_
  rintro e56 W55 ⟨rfl, hu54⟩; refine ⟨_, rfl, ?_⟩
  have H57 := H51.no hu54; clear H51
  have hS58 := And.intro (H57.blk 0 rfl) (H57.blk 2 rfl); refine ⟨fun _ => hS58, ?_⟩
  refine dV (i := 21) rfl rfl rfl rfl kR kR kR kR kR (fun _ _ _ h => h) rfl rfl hS58 (fun W' hs' => iP rfl) ?_
  refine aF (i := 22) rfl kR kR kR kR kR (fun _ _ _ h => h) rfl rfl hS58 (fun W' hs' => dS (v := .bool (true)) (b := false) rfl rfl rfl rfl) ?_
  refine bD kR ?_ _
  refine aM ?_
  refine jB rfl ?_
  refine wp_seq ?_
  refine aS [0, 1] rfl ?_
  refine aB ?_
  refine aC rfl (fJ (vs := [(0, .int .i64 (3))]) (cells := #[.int .i64 (3), .int .i64 (0)]) rfl kR) rfl rfl ?_
  refine aB ?_
  have H62 : St w F0 [hB g_0_1 72 #[.int .i64 (0), .int .i64 (0)], hB g_1_5 95 #[.int .i64 (1), .int .i64 (((kq : Nat) : Int))], hB g 68 #[.int .i64 (x.Id), .slice AE x.aA.length cE, .slice AS x.Loop.length cS, .slice AL x.aD.length cL, .slice AO x.Out.length cO], hR aJ 171 (.slice AE x.aA.length cE) x.aA, hR aX 235 (.slice AS x.Loop.length cS) x.Loop, hR aO 178 (.slice AL x.aD.length cL) x.aD, hR aP 147 (.slice AO x.Out.length cO) x.Out] W55 := H57.pick [1, 0, 2, 3, 4, 5, 6] kD rfl; clear H57
  refine aR rfl Tryz.sizeOf72 rfl rfl rfl rfl kS H62 ?_
  intro W59 hu60 Ha61; clear H62; clear hu60
  refine aN ?_
  refine aM ?_
  refine wp_ret ?_
  refine eB ?_
  obtain ⟨e1, e2⟩ := tw_bad x.aA x.aD p 1 ((kq : Nat) : Int) (by unfold isI; rw [decide_eq_false kD]; rfl) (by rintro ⟨_, q⟩; rw [hup] at q; cases q)
  refine eP (.inl rfl) Tryz.results129 Tryz.isAgg72 Tryz.sizeOf72 rfl (Ha61.blk 0 rfl) rfl ?_
  rw [e1, e2]
  exact ⟨AL, cL, rfl, Ha61.pick [2, 3, 4, 5, 6] kD rfl⟩
theorem l13To_f (x : GVat) (p k0 n0 : Int) (g cE cS cL cO : Nat) (AE AS AL AO : Option Addr) (F0 : Nat → Prop) (w : World) (h : Star [hB g 68 #[.int .i64 x.Id, .slice AE x.aA.length cE, .slice AS x.Loop.length cS, .slice AL (x.aD).length cL, .slice AO x.Out.length cO], hR aJ 171 (.slice AE x.aA.length cE) x.aA, hR aX 235 (.slice AS x.Loop.length cS) x.Loop, hR aO 178 (.slice AL (x.aD).length cL) (x.aD), hR aP 147 (.slice AO x.Out.length cO) x.Out] w F0) (hs : bR x ≤ 4194304) (kq : Nat) (hlk : dW x.aA (x.aA.length + 1) k0 n0 = ⟨1, (kq : Int)⟩) (hkq : kq < x.aA.length) (hup : x.aD.any (upP p) = true) (k : Nat) (hk : k < x.aD.length) (hf : fidx (peP p) 0 x.aD = (k : Int)) : Calls Tryz.prog 129 #[.pointer (some ⟨g, 0, none⟩), .int .i64 p, .agg #[.int .i64 k0, .int .i64 n0]] w (fun e' w' => ∃ A c, e' = .returned (.agg #[.int .i64 (twW x.aA x.aD p ⟨1, (kq : Int)⟩).Kind, .int .i64 (twW x.aA x.aD p ⟨1, (kq : Int)⟩).N]) ∧ St w F0 [hB g 68 #[.int .i64 x.Id, .slice AE x.aA.length cE, .slice AS x.Loop.length cS, .slice A (twL x.aA x.aD p ⟨1, (kq : Int)⟩).length c, .slice AO x.Out.length cO], hR aJ 171 (.slice AE x.aA.length cE) x.aA, hR aX 235 (.slice AS x.Loop.length cS) x.Loop, hR aO 178 (.slice A (twL x.aA x.aD p ⟨1, (kq : Int)⟩).length c) (twL x.aA x.aD p ⟨1, (kq : Int)⟩), hR aP 147 (.slice AO x.Out.length cO) x.Out] w') := by
 have s_Entities : bN dD x.aA ≤ 4194304 := by unfold bR at hs; omega
 have n_Entities : x.aA.length ≤ 4194304 := by unfold bN at s_Entities; omega
 have s_Loop : bN dX x.Loop ≤ 4194304 := by unfold bR at hs; omega
 have n_Loop : x.Loop.length ≤ 4194304 := by unfold bN at s_Loop; omega
 have s_Links : bN bQ x.aD ≤ 4194304 := by unfold bR at hs; omega
 have n_Links : x.aD.length ≤ 4194304 := by unfold bN at s_Links; omega
 have s_Out : bN dH x.Out ≤ 4194304 := by unfold bR at hs; omega
 have n_Out : x.Out.length ≤ 4194304 := by unfold bN at s_Out; omega
 refine enter 99 [(0, .pointer (some ⟨g, 0, none⟩)), (1, .int .i64 (p)), (2, .agg #[.int .i64 (k0), .int .i64 (n0)])] Tryz.func129 rfl kR ?_
 intro xj
 have H1 : St w F0 [hB g 68 #[.int .i64 (x.Id), .slice AE x.aA.length cE, .slice AS x.Loop.length cS, .slice AL x.aD.length cL, .slice AO x.Out.length cO], hR aJ 171 (.slice AE x.aA.length cE) x.aA, hR aX 235 (.slice AS x.Loop.length cS) x.Loop, hR aO 178 (.slice AL x.aD.length cL) x.aD, hR aP 147 (.slice AO x.Out.length cO) x.Out] w := St.kP h
 refine wp_seq ?_
 refine aS [0, 1] rfl ?_
 refine aB ?_
 refine gG rfl rfl rfl rfl H1 ?_
 intro g_0_0 W2 hu3 Ha4; clear H1; clear hu3
 refine aB ?_
 refine bA rfl Tryz.zeroValue72 rfl rfl Ha4 ?_
 intro g_0_1 W6 hu7 Ha8; clear Ha4; clear hu7
 refine aN ?_
 refine aM ?_
 refine wp_seq ?_
 refine lC (fun a' W' => ∃ (g_1_5 : Nat) (x' : Nat → Value), a' = bO 99 x' [(0, .pointer (some ⟨g, 0, none⟩)), (1, .int .i64 (p)), (6, .pointer (some ⟨g_0_1, 0, none⟩)), (7, .pointer (some ⟨g_1_5, 0, none⟩))] ∧ St w F0 [hB g_1_5 95 #[.int .i64 (1), .int .i64 (((kq : Nat) : Int))], hB g_0_1 72 #[.int .i64 (0), .int .i64 (0)], hB g 68 #[.int .i64 (x.Id), .slice AE x.aA.length cE, .slice AS x.Loop.length cS, .slice AL x.aD.length cL, .slice AO x.Out.length cO], hR aJ 171 (.slice AE x.aA.length cE) x.aA, hR aX 235 (.slice AS x.Loop.length cS) x.Loop, hR aO 178 (.slice AL x.aD.length cL) x.aD, hR aP 147 (.slice AO x.Out.length cO) x.Out] W') ?_ ?_
 ·refine eH (fun W' => Blk W' g 68 #[.int .i64 (x.Id), .slice AE x.aA.length cE, .slice AS x.Loop.length cS, .slice AL x.aD.length cL, .slice AO x.Out.length cO] ∧ Blk W' g_0_0 95 #[.int .i64 (k0), .int .i64 (n0)]) 7 kR ?_
  have H10 := Ha8.drew; clear Ha8
  have hS11 : Blk W6.drew g 68 #[.int .i64 (x.Id), .slice AE x.aA.length cE, .slice AS x.Loop.length cS, .slice AL x.aD.length cL, .slice AO x.Out.length cO] ∧ Blk W6.drew g_0_0 95 #[.int .i64 (k0), .int .i64 (n0)] := ⟨H10.blk 2 rfl, H10.blk 1 rfl⟩
  refine aF (i := 0) rfl kR kR kR kR kR (fun _ _ _ h => h) rfl rfl hS11 (fun W' hs' => aK rfl) ?_
  refine aF (i := 1) rfl kR kR kR kR kR (fun _ _ _ h => h) rfl rfl hS11 (fun W' hs' => dB rfl) ?_
  refine aF (i := 2) rfl kR kR kR kR kR (fun _ _ _ h => h) rfl rfl hS11 (fun W' hs' => bI Tryz.isAgg68 Tryz.sizeOf68 rfl hs'.1 rfl) ?_
  refine aF (i := 3) rfl kR kR kR kR kR (fun _ _ _ h => h) rfl rfl hS11 (fun W' hs' => bI Tryz.isAgg95 Tryz.sizeOf95 rfl hs'.2 rfl) ?_
  refine dY (i := 4) (i2 := 5) kR ?_ ?_
  ·refine aV rfl Tryz.call186 (vs := #[.agg #[.int .i64 (x.Id), .slice AE x.aA.length cE, .slice AS x.Loop.length cS, .slice AL x.aD.length cL, .slice AO x.Out.length cO], .agg #[.int .i64 (k0), .int .i64 (n0)]]) rfl rfl rfl (lN x k0 n0 1 ((kq : Nat) : Int) _ n_Entities _ (fM _ x (H10.eG 3 rfl).1 (H10.fC 3 rfl) (H10.eG 4 rfl).1 (H10.fC 4 rfl) (H10.eG 5 rfl).1 (H10.fC 5 rfl) (H10.eG 6 rfl).1 (H10.fC 6 rfl)) hlk) ?_
   rintro e14 W13 ⟨rfl, hu12⟩; refine ⟨_, rfl, ?_⟩
   have H15 := H10.no hu12; clear H10
   have hS16 := And.intro (H15.blk 2 rfl) (H15.blk 1 rfl); refine ⟨fun _ => hS16, ?_⟩
   refine aL (i := 5) kR ?_
   refine bA rfl Tryz.zeroValue95 rfl rfl H15 ?_
   intro g_1_5 W17 hu18 Ha19; clear H15; clear hu18
   have hS21 := And.intro (Ha19.blk 3 rfl) (Ha19.blk 2 rfl); refine ⟨fun _ => hS21, ?_⟩
   refine aL (i := 6) kR ?_
   refine aR rfl Tryz.sizeOf95 rfl rfl rfl rfl kS Ha19 ?_
   intro W22 hu23 Ha24; clear Ha19; clear hu23
   have hS26 := And.intro (Ha24.blk 3 rfl) (Ha24.blk 2 rfl); refine ⟨fun _ => hS26, ?_⟩
   refine bD kR ?_ _
   exact (aZ [(0, .pointer (some ⟨g, 0, none⟩)), (1, .int .i64 (p)), (6, .pointer (some ⟨g_0_1, 0, none⟩)), (7, .pointer (some ⟨g_1_5, 0, none⟩))] rfl).elim fun x' hx => ⟨g_1_5, x', hx, Ha24.pick [0, 1, 3, 4, 5, 6, 7] kD rfl⟩
  refine bA rfl Tryz.zeroValue95 rfl rfl H10 ?_
  intro g_1_5 W27 hu28 Ha29; clear H10; clear hu28
  have hS31 := And.intro (Ha29.blk 3 rfl) (Ha29.blk 2 rfl); refine ⟨fun _ => hS31, ?_⟩
  refine aL (i := 4) kR ?_
  refine aV rfl Tryz.call186 (vs := #[.agg #[.int .i64 (x.Id), .slice AE x.aA.length cE, .slice AS x.Loop.length cS, .slice AL x.aD.length cL, .slice AO x.Out.length cO], .agg #[.int .i64 (k0), .int .i64 (n0)]]) rfl rfl rfl (lN x k0 n0 1 ((kq : Nat) : Int) _ n_Entities _ (fM _ x (Ha29.eG 4 rfl).1 (Ha29.fC 4 rfl) (Ha29.eG 5 rfl).1 (Ha29.fC 5 rfl) (Ha29.eG 6 rfl).1 (Ha29.fC 6 rfl) (Ha29.eG 7 rfl).1 (Ha29.fC 7 rfl)) hlk) ?_
  rintro e34 W33 ⟨rfl, hu32⟩; refine ⟨_, rfl, ?_⟩
  have H35 := Ha29.no hu32; clear Ha29
  have hS36 := And.intro (H35.blk 3 rfl) (H35.blk 2 rfl); refine ⟨fun _ => hS36, ?_⟩
  refine aL (i := 6) kR ?_
  refine aR rfl Tryz.sizeOf95 rfl rfl rfl rfl kS H35 ?_
  intro W37 hu38 Ha39; clear H35; clear hu38
  have hS41 := And.intro (Ha39.blk 3 rfl) (Ha39.blk 2 rfl); refine ⟨fun _ => hS41, ?_⟩
  refine bD kR ?_ _
  exact (aZ [(0, .pointer (some ⟨g, 0, none⟩)), (1, .int .i64 (p)), (6, .pointer (some ⟨g_0_1, 0, none⟩)), (7, .pointer (some ⟨g_1_5, 0, none⟩))] rfl).elim fun x' hx => ⟨g_1_5, x', hx, Ha39.pick [0, 1, 3, 4, 5, 6, 7] kD rfl⟩
 ·rintro _ W43 ⟨g_1_5, x44, rfl, H42⟩
  refine aM ?_
  refine wp_seq ?_
  refine wp_seq ?_
  refine aS [0, 1, 2, 3, 4, 5, 6, 7] rfl ?_
  refine aB ?_
  refine aC rfl (bB jM rfl) rfl rfl ?_
  refine aB ?_
  refine aC rfl (bG (k := 0) (v := .int .i64 (1)) Tryz.isAgg3 rfl (H42.blk 0 rfl) rfl) rfl rfl ?_
  refine aB ?_
  refine aC rfl (fB (p := (1 : Int) = 0) kD (iQ (p := 1) (q := 0) rfl rfl)) rfl rfl ?_
  refine aB ?_
  refine aC rfl (aK rfl) rfl rfl ?_
  refine aB ?_
  refine bX rfl rfl rfl rfl rfl rfl rfl ?_
  refine aB ?_
  refine bX rfl rfl rfl rfl rfl rfl rfl ?_
  refine aB ?_
  refine bX rfl rfl rfl rfl rfl rfl rfl ?_
  refine aB ?_
  refine aC rfl (dS (v := .bool (false)) (b := false) rfl rfl rfl rfl) rfl rfl ?_
  refine aN ?_
  refine aM ?_
  refine fO rfl ?_
  refine wp_skip ?_
  refine aM ?_
  refine wp_seq ?_
  refine wp_seq ?_
  refine eH (fun W' => Blk W' g_1_5 95 #[.int .i64 (1), .int .i64 (((kq : Nat) : Int))] ∧ Blk W' g 68 #[.int .i64 (x.Id), .slice AE x.aA.length cE, .slice AS x.Loop.length cS, .slice AL x.aD.length cL, .slice AO x.Out.length cO]) 23 kR ?_
  have H45 := H42.drew; clear H42
  have hS46 : Blk W43.drew g_1_5 95 #[.int .i64 (1), .int .i64 (((kq : Nat) : Int))] ∧ Blk W43.drew g 68 #[.int .i64 (x.Id), .slice AE x.aA.length cE, .slice AS x.Loop.length cS, .slice AL x.aD.length cL, .slice AO x.Out.length cO] := ⟨H45.blk 0 rfl, H45.blk 2 rfl⟩
  refine aF (i := 0) rfl kR kR kR kR kR (fun _ _ _ h => h) rfl rfl hS46 (fun W' hs' => bB jM rfl) ?_
  refine aF (i := 1) rfl kR kR kR kR kR (fun _ _ _ h => h) rfl rfl hS46 (fun W' hs' => bG (k := 0) (v := .int .i64 (1)) Tryz.isAgg3 rfl hs'.1 rfl) ?_
  refine aF (i := 2) rfl kR kR kR kR kR (fun _ _ _ h => h) rfl rfl hS46 (fun W' hs' => fB (p := ¬ (1 : Int) = 1) (not_not_intro rfl) (iR (p := 1) (q := 1) rfl rfl)) ?_
  refine aF (i := 3) rfl kR kR kR kR kR (fun _ _ _ h => h) rfl rfl hS46 (fun W' hs' => aK rfl) ?_
  refine dV (i := 4) rfl rfl rfl rfl kR kR kR kR kR (fun _ _ _ h => h) rfl rfl hS46 (fun W' hs' => bB iZ rfl) ?_
  refine dV (i := 5) rfl rfl rfl rfl kR kR kR kR kR (fun _ _ _ h => h) rfl rfl hS46 (fun W' hs' => bG (k := 1) (v := .int .i64 (((kq : Nat) : Int))) Tryz.isAgg3 rfl hs'.1 rfl) ?_
  refine dV (i := 6) rfl rfl rfl rfl kR kR kR kR kR (fun _ _ _ h => h) rfl rfl hS46 (fun W' hs' => aK rfl) ?_
  refine dV (i := 7) rfl rfl rfl rfl kR kR kR kR kR (fun _ _ _ h => h) rfl rfl hS46 (fun W' hs' => dB rfl) ?_
  refine dV (i := 8) rfl rfl rfl rfl kR kR kR kR kR (fun _ _ _ h => h) rfl rfl hS46 (fun W' hs' => bB iY rfl) ?_
  refine dV (i := 9) rfl rfl rfl rfl kR kR kR kR kR (fun _ _ _ h => h) rfl rfl hS46 (fun W' hs' => bG (k := 1) (v := .slice AE x.aA.length cE) Tryz.isAgg63 rfl hs'.2 rfl) ?_
  refine dV (i := 10) rfl rfl rfl rfl kR kR kR kR kR (fun _ _ _ h => h) rfl rfl hS46 (fun W' hs' => jY Tryz.runUnderlying63 rfl) ?_
  refine dV (i := 11) rfl rfl rfl rfl kR kR kR kR kR (fun _ _ _ h => h) rfl rfl hS46 (fun W' hs' => rn_sub rfl rfl kO) ?_
  refine aL (i := 12) kR ?_
  refine eO rfl rfl rfl rfl (fun _ ho47 => ?_)
  refine aV ho47 Tryz.call115 (vs := #[.int .i64 (((kq : Nat) : Int)), .int .i64 (0), .int .i64 (((x.aA.length : Nat) - 1))]) rfl rfl rfl (l1In_s_t ((kq : Nat) : Int) 0 ((x.aA.length : Nat) - 1) _ kO) ?_
  rintro e50 W49 ⟨rfl, hu48⟩; refine ⟨_, rfl, ?_⟩
  have H51 := H45.no hu48; clear H45
  have hS52 := And.intro (H51.blk 0 rfl) (H51.blk 2 rfl); refine ⟨fun _ => hS52, ?_⟩
  refine dV (i := 13) rfl rfl rfl rfl kR kR kR kR kR (fun _ _ _ h => h) rfl rfl hS52 (fun W' hs' => iP rfl) ?_
  refine aF (i := 14) rfl kR kR kR kR kR (fun _ _ _ h => h) rfl rfl hS52 (fun W' hs' => dS (v := .bool (false)) (b := false) rfl rfl rfl rfl) ?_
  refine aF (i := 15) rfl kR kR kR kR kR (fun _ _ _ h => h) rfl rfl hS52 (fun W' hs' => aK rfl) ?_
  refine dV (i := 16) rfl rfl rfl rfl kR kR kR kR kR (fun _ _ _ h => h) rfl rfl hS52 (fun W' hs' => aK rfl) ?_
  refine dV (i := 17) rfl rfl rfl rfl kR kR kR kR kR (fun _ _ _ h => h) rfl rfl hS52 (fun W' hs' => dB rfl) ?_
  refine dV (i := 18) rfl rfl rfl rfl kR kR kR kR kR (fun _ _ _ h => h) rfl rfl hS52 (fun W' hs' => bI Tryz.isAgg68 Tryz.sizeOf68 rfl hs'.2 rfl) ?_
  refine dV (i := 19) rfl rfl rfl rfl kR kR kR kR kR (fun _ _ _ h => h) rfl rfl hS52 (fun W' hs' => aK rfl) ?_
  refine aL (i := 20) kR ?_
  refine eO rfl rfl rfl rfl (fun _ ho53 => ?_)
  refine aV ho53 Tryz.call91 (vs := #[.agg #[.int .i64 (x.Id), .slice AE x.aA.length cE, .slice AS x.Loop.length cS, .slice AL x.aD.length cL, .slice AO x.Out.length cO], .int .i64 (p)]) rfl rfl rfl (retb (isUp_s x p _ n_Links _ (fM _ x (H51.eG 3 rfl).1 (H51.fC 3 rfl) (H51.eG 4 rfl).1 (H51.fC 4 rfl) (H51.eG 5 rfl).1 (H51.fC 5 rfl) (H51.eG 6 rfl).1 (H51.fC 6 rfl))) hup) ?_
  rintro e56 W55 ⟨rfl, hu54⟩; refine ⟨_, rfl, ?_⟩
  have H57 := H51.no hu54; clear H51
  have hS58 := And.intro (H57.blk 0 rfl) (H57.blk 2 rfl); refine ⟨fun _ => hS58, ?_⟩
  refine dV (i := 21) rfl rfl rfl rfl kR kR kR kR kR (fun _ _ _ h => h) rfl rfl hS58 (fun W' hs' => iP rfl) ?_
  refine aF (i := 22) rfl kR kR kR kR kR (fun _ _ _ h => h) rfl rfl hS58 (fun W' hs' => dS (v := .bool (false)) (b := false) rfl rfl rfl rfl) ?_
  refine bD kR ?_ _
  refine aM ?_
  refine fO rfl ?_
  refine wp_skip ?_
  refine aM ?_
  refine wp_seq ?_
  have H59 : St w F0 [hR aJ 171 (.slice AE x.aA.length cE) x.aA, hB g_1_5 95 #[.int .i64 (1), .int .i64 (((kq : Nat) : Int))], hB g_0_1 72 #[.int .i64 (0), .int .i64 (0)], hB g 68 #[.int .i64 (x.Id), .slice AE x.aA.length cE, .slice AS x.Loop.length cS, .slice AL x.aD.length cL, .slice AO x.Out.length cO], hR aX 235 (.slice AS x.Loop.length cS) x.Loop, hR aO 178 (.slice AL x.aD.length cL) x.aD, hR aP 147 (.slice AO x.Out.length cO) x.Out] W55 := H57.pick [3, 0, 1, 2, 4, 5, 6] kD rfl; clear H57
  obtain ⟨gf60, rfl⟩ := H59.openS (q := kq) hkq
  obtain ⟨ce61, hn62, H63⟩ := H59.openG (q := kq) hkq; clear H59
  have H64 : St w F0 [hE aJ 171 gf60 cE kq ce61 x.aA, hM aJ (x.aA[kq]) ce61, hB g_1_5 95 #[.int .i64 (1), .int .i64 (((kq : Nat) : Int))], hB g_0_1 72 #[.int .i64 (0), .int .i64 (0)], hB g 68 #[.int .i64 (x.Id), .slice (some ⟨gf60, 0, none⟩) x.aA.length cE, .slice AS x.Loop.length cS, .slice AL x.aD.length cL, .slice AO x.Out.length cO], hR aX 235 (.slice AS x.Loop.length cS) x.Loop, hR aO 178 (.slice AL x.aD.length cL) x.aD, hR aP 147 (.slice AO x.Out.length cO) x.Out] W55 := H63; clear H63
  have H75 : St w F0 [hM aJ (x.aA[kq]) ce61, hE aJ 171 gf60 cE kq ce61 x.aA, hB g_1_5 95 #[.int .i64 (1), .int .i64 (((kq : Nat) : Int))], hB g_0_1 72 #[.int .i64 (0), .int .i64 (0)], hB g 68 #[.int .i64 (x.Id), .slice (some ⟨gf60, 0, none⟩) x.aA.length cE, .slice AS x.Loop.length cS, .slice AL x.aD.length cL, .slice AO x.Out.length cO], hR aX 235 (.slice AS x.Loop.length cS) x.Loop, hR aO 178 (.slice AL x.aD.length cL) x.aD, hR aP 147 (.slice AO x.Out.length cO) x.Out] W55 := H64.pick [1, 0, 2, 3, 4, 5, 6, 7] kD rfl; clear H64
  obtain ⟨F65, hM66, hb67⟩ := H75.unM
  obtain ⟨B69, c70, B71, c72, B73, c74, rfl, hst68⟩ := ki_Entity_open hM66
  have H76 : St w F0 [hR aT 95 (.slice B69 ((x.aA[kq]).dP.length) c70) ((x.aA[kq]).dP), hR aX 235 (.slice B71 ((x.aA[kq]).Queue.length) c72) ((x.aA[kq]).Queue), hR eD 285 (.slice B73 ((x.aA[kq]).bS.length) c74) ((x.aA[kq]).bS), hE aJ 171 gf60 cE kq [.int .i64 ((x.aA[kq]).Kind), .int .i64 ((x.aA[kq]).Script), .slice B69 ((x.aA[kq]).dP.length) c70, .int .i64 ((x.aA[kq]).State), .int .i64 ((x.aA[kq]).Value.Kind), .int .i64 ((x.aA[kq]).Value.N), .slice B71 ((x.aA[kq]).Queue.length) c72, .slice B73 ((x.aA[kq]).bS.length) c74, .int .i64 ((x.aA[kq]).bT), .int .i64 ((x.aA[kq]).Pos), .int .i64 ((x.aA[kq]).Count), .int .i64 ((x.aA[kq]).iN)] x.aA, hB g_1_5 95 #[.int .i64 (1), .int .i64 (((kq : Nat) : Int))], hB g_0_1 72 #[.int .i64 (0), .int .i64 (0)], hB g 68 #[.int .i64 (x.Id), .slice (some ⟨gf60, 0, none⟩) x.aA.length cE, .slice AS x.Loop.length cS, .slice AL x.aD.length cL, .slice AO x.Out.length cO], hR aX 235 (.slice AS x.Loop.length cS) x.Loop, hR aO 178 (.slice AL x.aD.length cL) x.aD, hR aP 147 (.slice AO x.Out.length cO) x.Out] W55 := hb67 _ hst68; clear H75
  refine eH (fun W' => Blk W' g 68 #[.int .i64 (x.Id), .slice (some ⟨gf60, 0, none⟩) x.aA.length cE, .slice AS x.Loop.length cS, .slice AL x.aD.length cL, .slice AO x.Out.length cO] ∧ Blk W' g_1_5 95 #[.int .i64 (1), .int .i64 (((kq : Nat) : Int))] ∧ Cat W' (Addr.add ⟨gf60, 0, none⟩ (kq * 12)) [.int .i64 ((x.aA[kq]).Kind), .int .i64 ((x.aA[kq]).Script), .slice B69 ((x.aA[kq]).dP.length) c70, .int .i64 ((x.aA[kq]).State), .int .i64 ((x.aA[kq]).Value.Kind), .int .i64 ((x.aA[kq]).Value.N), .slice B71 ((x.aA[kq]).Queue.length) c72, .slice B73 ((x.aA[kq]).bS.length) c74, .int .i64 ((x.aA[kq]).bT), .int .i64 ((x.aA[kq]).Pos), .int .i64 ((x.aA[kq]).Count), .int .i64 ((x.aA[kq]).iN)]) 10 kR ?_
  have H77 := H76.drew; clear H76
  have hS78 : Blk W55.drew g 68 #[.int .i64 (x.Id), .slice (some ⟨gf60, 0, none⟩) x.aA.length cE, .slice AS x.Loop.length cS, .slice AL x.aD.length cL, .slice AO x.Out.length cO] ∧ Blk W55.drew g_1_5 95 #[.int .i64 (1), .int .i64 (((kq : Nat) : Int))] ∧ Cat W55.drew (Addr.add ⟨gf60, 0, none⟩ (kq * 12)) [.int .i64 ((x.aA[kq]).Kind), .int .i64 ((x.aA[kq]).Script), .slice B69 ((x.aA[kq]).dP.length) c70, .int .i64 ((x.aA[kq]).State), .int .i64 ((x.aA[kq]).Value.Kind), .int .i64 ((x.aA[kq]).Value.N), .slice B71 ((x.aA[kq]).Queue.length) c72, .slice B73 ((x.aA[kq]).bS.length) c74, .int .i64 ((x.aA[kq]).bT), .int .i64 ((x.aA[kq]).Pos), .int .i64 ((x.aA[kq]).Count), .int .i64 ((x.aA[kq]).iN)] := ⟨H77.blk 6 rfl, H77.blk 4 rfl, (H77.catE 3 rfl)⟩
  refine aF (i := 0) rfl kR kR kR kR kR (fun _ _ _ h => h) rfl rfl hS78 (fun W' hs' => aK rfl) ?_
  refine aF (i := 1) rfl kR kR kR kR kR (fun _ _ _ h => h) rfl rfl hS78 (fun W' hs' => dB rfl) ?_
  refine aF (i := 2) rfl kR kR kR kR kR (fun _ _ _ h => h) rfl rfl hS78 (fun W' hs' => bB iY rfl) ?_
  refine aF (i := 3) rfl kR kR kR kR kR (fun _ _ _ h => h) rfl rfl hS78 (fun W' hs' => bG (k := 1) (v := .slice (some ⟨gf60, 0, none⟩) x.aA.length cE) Tryz.isAgg63 rfl hs'.1 rfl) ?_
  refine aF (i := 4) rfl kR kR kR kR kR (fun _ _ _ h => h) rfl rfl hS78 (fun W' hs' => bB iZ rfl) ?_
  refine aF (i := 5) rfl kR kR kR kR kR (fun _ _ _ h => h) rfl rfl hS78 (fun W' hs' => bG (k := 1) (v := .int .i64 (((kq : Nat) : Int))) Tryz.isAgg3 rfl hs'.2.1 rfl) ?_
  refine aF (i := 6) rfl kR kR kR kR kR (fun _ _ _ h => h) rfl rfl hS78 (fun W' hs' => fD (k := kq) Tryz.runUnderlying63 Tryz.sizeOf171 rfl rfl rfl (Nat.lt_of_lt_of_eq hkq hn62.symm)) ?_
  refine aF (i := 7) rfl kR kR kR kR kR (fun _ _ _ h => h) rfl rfl hS78 (fun W' hs' => jF Tryz.isAgg171 Tryz.sizeOf171 rfl hs'.2.2 rfl) ?_
  refine aL (i := 8) kR ?_
  refine bA rfl Tryz.zeroValue171 rfl rfl H77 ?_
  intro g_6_8 W79 hu80 Ha81; clear H77; clear hu80
  have hS83 := And.intro (Ha81.blk 7 rfl) (And.intro (Ha81.blk 5 rfl) ((Ha81.catE 4 rfl))); refine ⟨fun _ => hS83, ?_⟩
  refine aL (i := 9) kR ?_
  refine aR rfl Tryz.sizeOf171 rfl rfl rfl rfl kS Ha81 ?_
  intro W84 hu85 Ha86; clear Ha81; clear hu85
  have hS88 := And.intro (Ha86.blk 7 rfl) (And.intro (Ha86.blk 5 rfl) ((Ha86.catE 4 rfl))); refine ⟨fun _ => hS88, ?_⟩
  refine bD kR ?_ _
  have H89 : St w F0 [hR aT 95 (.slice B69 ((x.aA[kq]).dP.length) c70) ((x.aA[kq]).dP), hR aX 235 (.slice B71 ((x.aA[kq]).Queue.length) c72) ((x.aA[kq]).Queue), hR eD 285 (.slice B73 ((x.aA[kq]).bS.length) c74) ((x.aA[kq]).bS), hB g_6_8 171 #[.int .i64 ((x.aA[kq]).Kind), .int .i64 ((x.aA[kq]).Script), .slice B69 ((x.aA[kq]).dP.length) c70, .int .i64 ((x.aA[kq]).State), .int .i64 ((x.aA[kq]).Value.Kind), .int .i64 ((x.aA[kq]).Value.N), .slice B71 ((x.aA[kq]).Queue.length) c72, .slice B73 ((x.aA[kq]).bS.length) c74, .int .i64 ((x.aA[kq]).bT), .int .i64 ((x.aA[kq]).Pos), .int .i64 ((x.aA[kq]).Count), .int .i64 ((x.aA[kq]).iN)], hE aJ 171 gf60 cE kq [.int .i64 ((x.aA[kq]).Kind), .int .i64 ((x.aA[kq]).Script), .slice B69 ((x.aA[kq]).dP.length) c70, .int .i64 ((x.aA[kq]).State), .int .i64 ((x.aA[kq]).Value.Kind), .int .i64 ((x.aA[kq]).Value.N), .slice B71 ((x.aA[kq]).Queue.length) c72, .slice B73 ((x.aA[kq]).bS.length) c74, .int .i64 ((x.aA[kq]).bT), .int .i64 ((x.aA[kq]).Pos), .int .i64 ((x.aA[kq]).Count), .int .i64 ((x.aA[kq]).iN)] x.aA, hB g_1_5 95 #[.int .i64 (1), .int .i64 (((kq : Nat) : Int))], hB g_0_1 72 #[.int .i64 (0), .int .i64 (0)], hB g 68 #[.int .i64 (x.Id), .slice (some ⟨gf60, 0, none⟩) x.aA.length cE, .slice AS x.Loop.length cS, .slice AL x.aD.length cL, .slice AO x.Out.length cO], hR aX 235 (.slice AS x.Loop.length cS) x.Loop, hR aO 178 (.slice AL x.aD.length cL) x.aD, hR aP 147 (.slice AO x.Out.length cO) x.Out] W84 := Ha86.pick [1, 2, 3, 0, 4, 5, 6, 7, 8, 9, 10] kD rfl; clear Ha86
  have H90 : St w F0 [hM aJ (x.aA[kq]) [.int .i64 ((x.aA[kq]).Kind), .int .i64 ((x.aA[kq]).Script), .slice B69 ((x.aA[kq]).dP.length) c70, .int .i64 ((x.aA[kq]).State), .int .i64 ((x.aA[kq]).Value.Kind), .int .i64 ((x.aA[kq]).Value.N), .slice B71 ((x.aA[kq]).Queue.length) c72, .slice B73 ((x.aA[kq]).bS.length) c74, .int .i64 ((x.aA[kq]).bT), .int .i64 ((x.aA[kq]).Pos), .int .i64 ((x.aA[kq]).Count), .int .i64 ((x.aA[kq]).iN)], hB g_6_8 171 #[.int .i64 ((x.aA[kq]).Kind), .int .i64 ((x.aA[kq]).Script), .slice B69 ((x.aA[kq]).dP.length) c70, .int .i64 ((x.aA[kq]).State), .int .i64 ((x.aA[kq]).Value.Kind), .int .i64 ((x.aA[kq]).Value.N), .slice B71 ((x.aA[kq]).Queue.length) c72, .slice B73 ((x.aA[kq]).bS.length) c74, .int .i64 ((x.aA[kq]).bT), .int .i64 ((x.aA[kq]).Pos), .int .i64 ((x.aA[kq]).Count), .int .i64 ((x.aA[kq]).iN)], hE aJ 171 gf60 cE kq [.int .i64 ((x.aA[kq]).Kind), .int .i64 ((x.aA[kq]).Script), .slice B69 ((x.aA[kq]).dP.length) c70, .int .i64 ((x.aA[kq]).State), .int .i64 ((x.aA[kq]).Value.Kind), .int .i64 ((x.aA[kq]).Value.N), .slice B71 ((x.aA[kq]).Queue.length) c72, .slice B73 ((x.aA[kq]).bS.length) c74, .int .i64 ((x.aA[kq]).bT), .int .i64 ((x.aA[kq]).Pos), .int .i64 ((x.aA[kq]).Count), .int .i64 ((x.aA[kq]).iN)] x.aA, hB g_1_5 95 #[.int .i64 (1), .int .i64 (((kq : Nat) : Int))], hB g_0_1 72 #[.int .i64 (0), .int .i64 (0)], hB g 68 #[.int .i64 (x.Id), .slice (some ⟨gf60, 0, none⟩) x.aA.length cE, .slice AS x.Loop.length cS, .slice AL x.aD.length cL, .slice AO x.Out.length cO], hR aX 235 (.slice AS x.Loop.length cS) x.Loop, hR aO 178 (.slice AL x.aD.length cL) x.aD, hR aP 147 (.slice AO x.Out.length cO) x.Out] W84 := H89.swap (l0 := [hR aT 95 (.slice B69 ((x.aA[kq]).dP.length) c70) ((x.aA[kq]).dP), hR aX 235 (.slice B71 ((x.aA[kq]).Queue.length) c72) ((x.aA[kq]).Queue), hR eD 285 (.slice B73 ((x.aA[kq]).bS.length) c74) ((x.aA[kq]).bS)]) (l' := [hM aJ (x.aA[kq]) [.int .i64 ((x.aA[kq]).Kind), .int .i64 ((x.aA[kq]).Script), .slice B69 ((x.aA[kq]).dP.length) c70, .int .i64 ((x.aA[kq]).State), .int .i64 ((x.aA[kq]).Value.Kind), .int .i64 ((x.aA[kq]).Value.N), .slice B71 ((x.aA[kq]).Queue.length) c72, .slice B73 ((x.aA[kq]).bS.length) c74, .int .i64 ((x.aA[kq]).bT), .int .i64 ((x.aA[kq]).Pos), .int .i64 ((x.aA[kq]).Count), .int .i64 ((x.aA[kq]).iN)]]) (fun _ h => Star.one (ki_Entity_close (x := x.aA[kq]) h)); clear H89
  have H91 : St w F0 [hE aJ 171 gf60 cE kq [.int .i64 ((x.aA[kq]).Kind), .int .i64 ((x.aA[kq]).Script), .slice B69 ((x.aA[kq]).dP.length) c70, .int .i64 ((x.aA[kq]).State), .int .i64 ((x.aA[kq]).Value.Kind), .int .i64 ((x.aA[kq]).Value.N), .slice B71 ((x.aA[kq]).Queue.length) c72, .slice B73 ((x.aA[kq]).bS.length) c74, .int .i64 ((x.aA[kq]).bT), .int .i64 ((x.aA[kq]).Pos), .int .i64 ((x.aA[kq]).Count), .int .i64 ((x.aA[kq]).iN)] x.aA, hM aJ (x.aA[kq]) [.int .i64 ((x.aA[kq]).Kind), .int .i64 ((x.aA[kq]).Script), .slice B69 ((x.aA[kq]).dP.length) c70, .int .i64 ((x.aA[kq]).State), .int .i64 ((x.aA[kq]).Value.Kind), .int .i64 ((x.aA[kq]).Value.N), .slice B71 ((x.aA[kq]).Queue.length) c72, .slice B73 ((x.aA[kq]).bS.length) c74, .int .i64 ((x.aA[kq]).bT), .int .i64 ((x.aA[kq]).Pos), .int .i64 ((x.aA[kq]).Count), .int .i64 ((x.aA[kq]).iN)], hB g_6_8 171 #[.int .i64 ((x.aA[kq]).Kind), .int .i64 ((x.aA[kq]).Script), .slice B69 ((x.aA[kq]).dP.length) c70, .int .i64 ((x.aA[kq]).State), .int .i64 ((x.aA[kq]).Value.Kind), .int .i64 ((x.aA[kq]).Value.N), .slice B71 ((x.aA[kq]).Queue.length) c72, .slice B73 ((x.aA[kq]).bS.length) c74, .int .i64 ((x.aA[kq]).bT), .int .i64 ((x.aA[kq]).Pos), .int .i64 ((x.aA[kq]).Count), .int .i64 ((x.aA[kq]).iN)], hB g_1_5 95 #[.int .i64 (1), .int .i64 (((kq : Nat) : Int))], hB g_0_1 72 #[.int .i64 (0), .int .i64 (0)], hB g 68 #[.int .i64 (x.Id), .slice (some ⟨gf60, 0, none⟩) x.aA.length cE, .slice AS x.Loop.length cS, .slice AL x.aD.length cL, .slice AO x.Out.length cO], hR aX 235 (.slice AS x.Loop.length cS) x.Loop, hR aO 178 (.slice AL x.aD.length cL) x.aD, hR aP 147 (.slice AO x.Out.length cO) x.Out] W84 := H90.pick [2, 0, 1, 3, 4, 5, 6, 7, 8] kD rfl; clear H90
  have H92 : St w F0 [hR aJ 171 (.slice (some ⟨gf60, 0, none⟩) x.aA.length cE) x.aA, hB g_6_8 171 #[.int .i64 ((x.aA[kq]).Kind), .int .i64 ((x.aA[kq]).Script), .slice B69 ((x.aA[kq]).dP.length) c70, .int .i64 ((x.aA[kq]).State), .int .i64 ((x.aA[kq]).Value.Kind), .int .i64 ((x.aA[kq]).Value.N), .slice B71 ((x.aA[kq]).Queue.length) c72, .slice B73 ((x.aA[kq]).bS.length) c74, .int .i64 ((x.aA[kq]).bT), .int .i64 ((x.aA[kq]).Pos), .int .i64 ((x.aA[kq]).Count), .int .i64 ((x.aA[kq]).iN)], hB g_1_5 95 #[.int .i64 (1), .int .i64 (((kq : Nat) : Int))], hB g_0_1 72 #[.int .i64 (0), .int .i64 (0)], hB g 68 #[.int .i64 (x.Id), .slice (some ⟨gf60, 0, none⟩) x.aA.length cE, .slice AS x.Loop.length cS, .slice AL x.aD.length cL, .slice AO x.Out.length cO], hR aX 235 (.slice AS x.Loop.length cS) x.Loop, hR aO 178 (.slice AL x.aD.length cL) x.aD, hR aP 147 (.slice AO x.Out.length cO) x.Out] W84 := H91.closeG (List.set_getElem_self ..) rfl; clear H91
  refine aM ?_
  refine wp_seq ?_
  refine wp_seq ?_
  refine aS [0, 1, 2, 3, 4, 5, 6, 7, 8] rfl ?_
  refine aB ?_
  refine aC rfl (bB fa_171_0 rfl) rfl rfl ?_
  refine aB ?_
  refine aC rfl (bG (k := 0) (v := .int .i64 ((x.aA[kq]).Kind)) Tryz.isAgg3 rfl (H92.blk 1 rfl) rfl) rfl rfl ?_
  by_cases hg93 : (((x.aA[kq]).Kind) : Int) = 3
  ·refine aB ?_
   refine aC rfl (gH hg93 (iQ rfl rfl)) rfl rfl ?_
   refine aB ?_
   refine aC rfl (aK rfl) rfl rfl ?_
   refine aB ?_
   refine eO rfl rfl rfl rfl (fun _ ho94 => ?_)
   refine aC ho94 (bB fa_171_7 rfl) rfl rfl ?_
   refine aB ?_
   refine eO rfl rfl rfl rfl (fun _ ho95 => ?_)
   refine aC ho95 (bG (k := 8) (v := .int .i64 ((x.aA[kq]).bT)) Tryz.isAgg3 rfl (H92.blk 1 rfl) rfl) rfl rfl ?_
   refine aB ?_
   refine eO rfl rfl rfl rfl (fun _ ho96 => ?_)
   refine aC ho96 (aK rfl) rfl rfl ?_
   by_cases hg97 : (((x.aA[kq]).bT) : Int) = p
   ·refine aB ?_
    refine eO rfl rfl rfl rfl (fun _ ho98 => ?_)
    refine aC ho98 (gH hg97 (iQ rfl rfl)) rfl rfl ?_
    refine aB ?_
    refine aC rfl (dS (v := .bool (true)) (b := true) rfl rfl rfl rfl) rfl rfl ?_
    refine aN ?_
    refine aM ?_
    refine jB rfl ?_
    refine wp_seq ?_
    refine aS [0, 1, 2, 3] rfl ?_
    refine aB ?_
    refine aC rfl (bB fa_171_8 rfl) rfl rfl ?_
    refine aB ?_
    refine aC rfl (bG (k := 9) (v := .int .i64 ((x.aA[kq]).Pos)) Tryz.isAgg3 rfl (H92.blk 1 rfl) rfl) rfl rfl ?_
    refine aB ?_
    refine aC rfl (fJ (vs := [(0, .int .i64 (2)), (1, .int .i64 ((x.aA[kq]).Pos))]) (cells := #[.int .i64 (2), .int .i64 ((x.aA[kq]).Pos)]) rfl kR) rfl rfl ?_
    refine aB ?_
    have H102 : St w F0 [hB g_0_1 72 #[.int .i64 (0), .int .i64 (0)], hR aJ 171 (.slice (some ⟨gf60, 0, none⟩) x.aA.length cE) x.aA, hB g_6_8 171 #[.int .i64 ((x.aA[kq]).Kind), .int .i64 ((x.aA[kq]).Script), .slice B69 ((x.aA[kq]).dP.length) c70, .int .i64 ((x.aA[kq]).State), .int .i64 ((x.aA[kq]).Value.Kind), .int .i64 ((x.aA[kq]).Value.N), .slice B71 ((x.aA[kq]).Queue.length) c72, .slice B73 ((x.aA[kq]).bS.length) c74, .int .i64 ((x.aA[kq]).bT), .int .i64 ((x.aA[kq]).Pos), .int .i64 ((x.aA[kq]).Count), .int .i64 ((x.aA[kq]).iN)], hB g_1_5 95 #[.int .i64 (1), .int .i64 (((kq : Nat) : Int))], hB g 68 #[.int .i64 (x.Id), .slice (some ⟨gf60, 0, none⟩) x.aA.length cE, .slice AS x.Loop.length cS, .slice AL x.aD.length cL, .slice AO x.Out.length cO], hR aX 235 (.slice AS x.Loop.length cS) x.Loop, hR aO 178 (.slice AL x.aD.length cL) x.aD, hR aP 147 (.slice AO x.Out.length cO) x.Out] W84 := H92.pick [3, 0, 1, 2, 4, 5, 6, 7] kD rfl; clear H92
    refine aR rfl Tryz.sizeOf72 rfl rfl rfl rfl kS H102 ?_
    intro W99 hu100 Ha101; clear H102; clear hu100
    refine aN ?_
    refine aM ?_
    refine wp_ret ?_
    refine eB ?_
    obtain ⟨e1, e2⟩ := tw_back x.aA x.aD p kq hkq hup kO
    refine eP (.inl rfl) Tryz.results129 Tryz.isAgg72 Tryz.sizeOf72 rfl (Ha101.blk 0 rfl) rfl ?_
    rw [e1, e2]
    exact ⟨AL, cL, rfl, Ha101.pick [4, 1, 5, 6, 7] kD rfl⟩
   ·refine aB ?_
    refine eO rfl rfl rfl rfl (fun _ ho104 => ?_)
    refine aC ho104 (fB hg97 (iQ rfl rfl)) rfl rfl ?_
    refine aB ?_
    refine aC rfl (dS (v := .bool (false)) (b := true) rfl rfl rfl rfl) rfl rfl ?_
    refine aN ?_
    refine aM ?_
    refine fO rfl ?_
    refine wp_skip ?_
    refine aM ?_
    refine wp_seq ?_
    refine aS [0, 1, 2, 3, 4, 5] rfl ?_
    refine aB ?_
    refine aC rfl (aK rfl) rfl rfl ?_
    refine aB ?_
    refine aC rfl (dB rfl) rfl rfl ?_
    refine aB ?_
    refine aC rfl (bI Tryz.isAgg68 Tryz.sizeOf68 rfl (H92.blk 4 rfl) rfl) rfl rfl ?_
    refine aB ?_
    refine aC rfl (aK rfl) rfl rfl ?_
    refine aB ?_
    refine aV rfl Tryz.call124 (vs := #[.agg #[.int .i64 (x.Id), .slice (some ⟨gf60, 0, none⟩) x.aA.length cE, .slice AS x.Loop.length cS, .slice AL x.aD.length cL, .slice AO x.Out.length cO], .int .i64 (p)]) rfl rfl rfl (linkTo_s x p _ n_Links _ (fM _ x (H92.eG 0 rfl).1 (H92.fC 0 rfl) (H92.eG 5 rfl).1 (H92.fC 5 rfl) (H92.eG 6 rfl).1 (H92.fC 6 rfl) (H92.eG 7 rfl).1 (H92.fC 7 rfl)) ((k : Nat) : Int) hf) ?_
    rintro e107 W106 ⟨rfl, hu105⟩; refine ⟨_, rfl, ?_⟩
    have H108 := H92.no hu105; clear H92
    refine aB ?_
    refine aC rfl (aW rfl) rfl rfl ?_
    refine aN ?_
    refine aM ?_
    refine wp_seq ?_
    have hsl : bQ x.aD[k] ≤ 4194304 := by have h1 := gT bQ x.aD k hk; have h2 := s_Links; unfold bN at h2; omega
    have H109 : St w F0 [hR aO 178 (.slice AL x.aD.length cL) x.aD, hR aJ 171 (.slice (some ⟨gf60, 0, none⟩) x.aA.length cE) x.aA, hB g_6_8 171 #[.int .i64 ((x.aA[kq]).Kind), .int .i64 ((x.aA[kq]).Script), .slice B69 ((x.aA[kq]).dP.length) c70, .int .i64 ((x.aA[kq]).State), .int .i64 ((x.aA[kq]).Value.Kind), .int .i64 ((x.aA[kq]).Value.N), .slice B71 ((x.aA[kq]).Queue.length) c72, .slice B73 ((x.aA[kq]).bS.length) c74, .int .i64 ((x.aA[kq]).bT), .int .i64 ((x.aA[kq]).Pos), .int .i64 ((x.aA[kq]).Count), .int .i64 ((x.aA[kq]).iN)], hB g_1_5 95 #[.int .i64 (1), .int .i64 (((kq : Nat) : Int))], hB g_0_1 72 #[.int .i64 (0), .int .i64 (0)], hB g 68 #[.int .i64 (x.Id), .slice (some ⟨gf60, 0, none⟩) x.aA.length cE, .slice AS x.Loop.length cS, .slice AL x.aD.length cL, .slice AO x.Out.length cO], hR aX 235 (.slice AS x.Loop.length cS) x.Loop, hR aP 147 (.slice AO x.Out.length cO) x.Out] W106 := H108.pick [6, 0, 1, 2, 3, 4, 5, 7] kD rfl; clear H108
    obtain ⟨gf110, rfl⟩ := H109.openS (q := k) hk
    obtain ⟨ce111, hn112, H113⟩ := H109.openG (q := k) hk; clear H109
    have H114 : St w F0 [hE aO 178 gf110 cL k ce111 x.aD, hM aO (x.aD[k]) ce111, hR aJ 171 (.slice (some ⟨gf60, 0, none⟩) x.aA.length cE) x.aA, hB g_6_8 171 #[.int .i64 ((x.aA[kq]).Kind), .int .i64 ((x.aA[kq]).Script), .slice B69 ((x.aA[kq]).dP.length) c70, .int .i64 ((x.aA[kq]).State), .int .i64 ((x.aA[kq]).Value.Kind), .int .i64 ((x.aA[kq]).Value.N), .slice B71 ((x.aA[kq]).Queue.length) c72, .slice B73 ((x.aA[kq]).bS.length) c74, .int .i64 ((x.aA[kq]).bT), .int .i64 ((x.aA[kq]).Pos), .int .i64 ((x.aA[kq]).Count), .int .i64 ((x.aA[kq]).iN)], hB g_1_5 95 #[.int .i64 (1), .int .i64 (((kq : Nat) : Int))], hB g_0_1 72 #[.int .i64 (0), .int .i64 (0)], hB g 68 #[.int .i64 (x.Id), .slice (some ⟨gf60, 0, none⟩) x.aA.length cE, .slice AS x.Loop.length cS, .slice (some ⟨gf110, 0, none⟩) x.aD.length cL, .slice AO x.Out.length cO], hR aX 235 (.slice AS x.Loop.length cS) x.Loop, hR aP 147 (.slice AO x.Out.length cO) x.Out] W106 := H113; clear H113
    have H125 : St w F0 [hM aO (x.aD[k]) ce111, hE aO 178 gf110 cL k ce111 x.aD, hR aJ 171 (.slice (some ⟨gf60, 0, none⟩) x.aA.length cE) x.aA, hB g_6_8 171 #[.int .i64 ((x.aA[kq]).Kind), .int .i64 ((x.aA[kq]).Script), .slice B69 ((x.aA[kq]).dP.length) c70, .int .i64 ((x.aA[kq]).State), .int .i64 ((x.aA[kq]).Value.Kind), .int .i64 ((x.aA[kq]).Value.N), .slice B71 ((x.aA[kq]).Queue.length) c72, .slice B73 ((x.aA[kq]).bS.length) c74, .int .i64 ((x.aA[kq]).bT), .int .i64 ((x.aA[kq]).Pos), .int .i64 ((x.aA[kq]).Count), .int .i64 ((x.aA[kq]).iN)], hB g_1_5 95 #[.int .i64 (1), .int .i64 (((kq : Nat) : Int))], hB g_0_1 72 #[.int .i64 (0), .int .i64 (0)], hB g 68 #[.int .i64 (x.Id), .slice (some ⟨gf60, 0, none⟩) x.aA.length cE, .slice AS x.Loop.length cS, .slice (some ⟨gf110, 0, none⟩) x.aD.length cL, .slice AO x.Out.length cO], hR aX 235 (.slice AS x.Loop.length cS) x.Loop, hR aP 147 (.slice AO x.Out.length cO) x.Out] W106 := H114.pick [1, 0, 2, 3, 4, 5, 6, 7, 8] kD rfl; clear H114
    obtain ⟨F115, hM116, hb117⟩ := H125.unM
    obtain ⟨B119, c120, B121, c122, B123, c124, rfl, hst118⟩ := iT hM116
    have H126 : St w F0 [hR bC 256 (.slice B119 ((x.aD[k]).aH.length) c120) ((x.aD[k]).aH), hR aU 289 (.slice B121 ((x.aD[k]).aI.length) c122) ((x.aD[k]).aI), hR aU 289 (.slice B123 ((x.aD[k]).aQ.length) c124) ((x.aD[k]).aQ), hE aO 178 gf110 cL k [.int .i64 ((x.aD[k]).bT), .bool ((x.aD[k]).Up), .slice B119 ((x.aD[k]).aH.length) c120, .int .i64 ((x.aD[k]).Next), .slice B121 ((x.aD[k]).aI.length) c122, .int .i64 ((x.aD[k]).bZ), .slice B123 ((x.aD[k]).aQ.length) c124] x.aD, hR aJ 171 (.slice (some ⟨gf60, 0, none⟩) x.aA.length cE) x.aA, hB g_6_8 171 #[.int .i64 ((x.aA[kq]).Kind), .int .i64 ((x.aA[kq]).Script), .slice B69 ((x.aA[kq]).dP.length) c70, .int .i64 ((x.aA[kq]).State), .int .i64 ((x.aA[kq]).Value.Kind), .int .i64 ((x.aA[kq]).Value.N), .slice B71 ((x.aA[kq]).Queue.length) c72, .slice B73 ((x.aA[kq]).bS.length) c74, .int .i64 ((x.aA[kq]).bT), .int .i64 ((x.aA[kq]).Pos), .int .i64 ((x.aA[kq]).Count), .int .i64 ((x.aA[kq]).iN)], hB g_1_5 95 #[.int .i64 (1), .int .i64 (((kq : Nat) : Int))], hB g_0_1 72 #[.int .i64 (0), .int .i64 (0)], hB g 68 #[.int .i64 (x.Id), .slice (some ⟨gf60, 0, none⟩) x.aA.length cE, .slice AS x.Loop.length cS, .slice (some ⟨gf110, 0, none⟩) x.aD.length cL, .slice AO x.Out.length cO], hR aX 235 (.slice AS x.Loop.length cS) x.Loop, hR aP 147 (.slice AO x.Out.length cO) x.Out] W106 := hb117 _ hst118; clear H125
    refine lC (fun a' W' => ∃ (B_10_9_2 : Option Addr) (c_10_9_2 : Nat) (B_10_9_4 : Option Addr) (c_10_9_4 : Nat) (B_10_9_6 : Option Addr) (c_10_9_6 : Nat) (g_10_13 : Nat) (x' : Nat → Value), a' = bO 99 x' [(0, .pointer (some ⟨g, 0, none⟩)), (6, .pointer (some ⟨g_0_1, 0, none⟩)), (9, .int .i64 (((k : Nat) : Int))), (10, .pointer (some ⟨g_10_13, 0, none⟩)), (11, .int .i64 ((pxN ((kq : Nat) : Int) x.aD[k].aH x.aD[k].Next)))] ∧ St w F0 [hB g_10_13 178 #[.int .i64 ((pxV ((kq : Nat) : Int) x.aD[k]).bT), .bool ((pxV ((kq : Nat) : Int) x.aD[k]).Up), .slice B_10_9_2 ((pxV ((kq : Nat) : Int) x.aD[k]).aH.length) c_10_9_2, .int .i64 ((pxV ((kq : Nat) : Int) x.aD[k]).Next), .slice B_10_9_4 ((pxV ((kq : Nat) : Int) x.aD[k]).aI.length) c_10_9_4, .int .i64 ((pxV ((kq : Nat) : Int) x.aD[k]).bZ), .slice B_10_9_6 ((pxV ((kq : Nat) : Int) x.aD[k]).aQ.length) c_10_9_6], hR bC 256 (.slice B_10_9_2 ((pxV ((kq : Nat) : Int) x.aD[k]).aH.length) c_10_9_2) ((pxV ((kq : Nat) : Int) x.aD[k]).aH), hR aU 289 (.slice B_10_9_4 ((pxV ((kq : Nat) : Int) x.aD[k]).aI.length) c_10_9_4) ((pxV ((kq : Nat) : Int) x.aD[k]).aI), hR aU 289 (.slice B_10_9_6 ((pxV ((kq : Nat) : Int) x.aD[k]).aQ.length) c_10_9_6) ((pxV ((kq : Nat) : Int) x.aD[k]).aQ), hE aO 178 gf110 cL k [.int .i64 ((x.aD[k]).bT), .bool ((x.aD[k]).Up), .slice B119 ((x.aD[k]).aH.length) c120, .int .i64 ((x.aD[k]).Next), .slice B121 ((x.aD[k]).aI.length) c122, .int .i64 ((x.aD[k]).bZ), .slice B123 ((x.aD[k]).aQ.length) c124] x.aD, hR aJ 171 (.slice (some ⟨gf60, 0, none⟩) x.aA.length cE) x.aA, hB g_0_1 72 #[.int .i64 (0), .int .i64 (0)], hB g 68 #[.int .i64 (x.Id), .slice (some ⟨gf60, 0, none⟩) x.aA.length cE, .slice AS x.Loop.length cS, .slice (some ⟨gf110, 0, none⟩) x.aD.length cL, .slice AO x.Out.length cO], hR aX 235 (.slice AS x.Loop.length cS) x.Loop, hR aP 147 (.slice AO x.Out.length cO) x.Out] W') ?_ ?_
    ·refine eH (fun W' => Blk W' g 68 #[.int .i64 (x.Id), .slice (some ⟨gf60, 0, none⟩) x.aA.length cE, .slice AS x.Loop.length cS, .slice (some ⟨gf110, 0, none⟩) x.aD.length cL, .slice AO x.Out.length cO] ∧ Cat W' (Addr.add ⟨gf110, 0, none⟩ (k * 7)) [.int .i64 ((x.aD[k]).bT), .bool ((x.aD[k]).Up), .slice B119 ((x.aD[k]).aH.length) c120, .int .i64 ((x.aD[k]).Next), .slice B121 ((x.aD[k]).aI.length) c122, .int .i64 ((x.aD[k]).bZ), .slice B123 ((x.aD[k]).aQ.length) c124] ∧ Blk W' g_1_5 95 #[.int .i64 (1), .int .i64 (((kq : Nat) : Int))]) 16 kR ?_
     have H127 := H126.drew; clear H126
     have hS128 : Blk W106.drew g 68 #[.int .i64 (x.Id), .slice (some ⟨gf60, 0, none⟩) x.aA.length cE, .slice AS x.Loop.length cS, .slice (some ⟨gf110, 0, none⟩) x.aD.length cL, .slice AO x.Out.length cO] ∧ Cat W106.drew (Addr.add ⟨gf110, 0, none⟩ (k * 7)) [.int .i64 ((x.aD[k]).bT), .bool ((x.aD[k]).Up), .slice B119 ((x.aD[k]).aH.length) c120, .int .i64 ((x.aD[k]).Next), .slice B121 ((x.aD[k]).aI.length) c122, .int .i64 ((x.aD[k]).bZ), .slice B123 ((x.aD[k]).aQ.length) c124] ∧ Blk W106.drew g_1_5 95 #[.int .i64 (1), .int .i64 (((kq : Nat) : Int))] := ⟨H127.blk 8 rfl, (H127.catE 3 rfl), H127.blk 6 rfl⟩
     refine aF (i := 0) rfl kR kR kR kR kR (fun _ _ _ h => h) rfl rfl hS128 (fun W' hs' => aK rfl) ?_
     refine aF (i := 1) rfl kR kR kR kR kR (fun _ _ _ h => h) rfl rfl hS128 (fun W' hs' => dB rfl) ?_
     refine aF (i := 2) rfl kR kR kR kR kR (fun _ _ _ h => h) rfl rfl hS128 (fun W' hs' => bB iK rfl) ?_
     refine aF (i := 3) rfl kR kR kR kR kR (fun _ _ _ h => h) rfl rfl hS128 (fun W' hs' => bG (k := 3) (v := .slice (some ⟨gf110, 0, none⟩) x.aD.length cL) Tryz.isAgg65 rfl hs'.1 rfl) ?_
     refine aF (i := 4) rfl kR kR kR kR kR (fun _ _ _ h => h) rfl rfl hS128 (fun W' hs' => aK rfl) ?_
     refine aF (i := 5) rfl kR kR kR kR kR (fun _ _ _ h => h) rfl rfl hS128 (fun W' hs' => fD (k := k) Tryz.runUnderlying65 Tryz.sizeOf178 rfl rfl rfl (Nat.lt_of_lt_of_eq hk hn112.symm)) ?_
     refine aF (i := 6) rfl kR kR kR kR kR (fun _ _ _ h => h) rfl rfl hS128 (fun W' hs' => jF Tryz.isAgg178 Tryz.sizeOf178 rfl hs'.2.1 rfl) ?_
     refine aF (i := 7) rfl kR kR kR kR kR (fun _ _ _ h => h) rfl rfl hS128 (fun W' hs' => bB iZ rfl) ?_
     refine aF (i := 8) rfl kR kR kR kR kR (fun _ _ _ h => h) rfl rfl hS128 (fun W' hs' => bG (k := 1) (v := .int .i64 (((kq : Nat) : Int))) Tryz.isAgg3 rfl hs'.2.2 rfl) ?_
     refine dY (i := 9) (i2 := 13) kR ?_ ?_
     ·refine aV rfl Tryz.call126 (vs := #[.agg #[.int .i64 ((x.aD[k]).bT), .bool ((x.aD[k]).Up), .slice B119 ((x.aD[k]).aH.length) c120, .int .i64 ((x.aD[k]).Next), .slice B121 ((x.aD[k]).aI.length) c122, .int .i64 ((x.aD[k]).bZ), .slice B123 ((x.aD[k]).aQ.length) c124], .int .i64 (((kq : Nat) : Int))]) rfl rfl rfl (oF x.aD[k] ((kq : Nat) : Int) _ _ (jI _ (x.aD[k]) (H127.eG 0 rfl).1 (H127.fC 0 rfl) (H127.eG 1 rfl).1 (H127.fC 1 rfl) (H127.eG 2 rfl).1 (H127.fC 2 rfl)) hsl) ?_
      rintro e134 W133 ⟨cs129, rfl, hM130, hu131⟩; refine ⟨_, rfl, ?_⟩
      obtain ⟨B_10_9_2, c_10_9_2, B_10_9_4, c_10_9_4, B_10_9_6, c_10_9_6, rfl, hst132⟩ := iT hM130
      have H135 := H127.news hu131 hst132; clear H127
      have hS136 := And.intro (H135.blk 11 rfl) (And.intro (H135.catE 6 rfl) (H135.blk 9 rfl)); refine ⟨fun _ => hS136, ?_⟩
      refine aF (i := 10) rfl kR kR kR kR kR (fun _ _ _ h => h) rfl rfl hS136 (fun W' hs' => aK rfl) ?_
      refine aF (i := 11) rfl kR kR kR kR kR (fun _ _ _ h => h) rfl rfl hS136 (fun W' hs' => aY (v := .agg #[.int .i64 ((pxV ((kq : Nat) : Int) x.aD[k]).bT), .bool ((pxV ((kq : Nat) : Int) x.aD[k]).Up), .slice B_10_9_2 ((pxV ((kq : Nat) : Int) x.aD[k]).aH.length) c_10_9_2, .int .i64 ((pxV ((kq : Nat) : Int) x.aD[k]).Next), .slice B_10_9_4 ((pxV ((kq : Nat) : Int) x.aD[k]).aI.length) c_10_9_4, .int .i64 ((pxV ((kq : Nat) : Int) x.aD[k]).bZ), .slice B_10_9_6 ((pxV ((kq : Nat) : Int) x.aD[k]).aQ.length) c_10_9_6]) rfl rfl) ?_
      refine aF (i := 12) rfl kR kR kR kR kR (fun _ _ _ h => h) rfl rfl hS136 (fun W' hs' => aY (v := .int .i64 ((pxN ((kq : Nat) : Int) x.aD[k].aH x.aD[k].Next))) rfl rfl) ?_
      refine aL (i := 13) kR ?_
      refine bA rfl Tryz.zeroValue178 rfl rfl H135 ?_
      intro g_10_13 W137 hu138 Ha139; clear H135; clear hu138
      have hS141 := And.intro (Ha139.blk 12 rfl) (And.intro (Ha139.catE 7 rfl) (Ha139.blk 10 rfl)); refine ⟨fun _ => hS141, ?_⟩
      refine aL (i := 14) kR ?_
      refine aR rfl Tryz.sizeOf178 rfl rfl rfl rfl kS Ha139 ?_
      intro W142 hu143 Ha144; clear Ha139; clear hu143
      have hS146 := And.intro (Ha144.blk 12 rfl) (And.intro (Ha144.catE 7 rfl) (Ha144.blk 10 rfl)); refine ⟨fun _ => hS146, ?_⟩
      refine aF (i := 15) rfl kR kR kR kR kR (fun _ _ _ h => h) rfl rfl hS146 (fun W' hs' => aW rfl) ?_
      refine bD kR ?_ _
      exact (aZ [(0, .pointer (some ⟨g, 0, none⟩)), (6, .pointer (some ⟨g_0_1, 0, none⟩)), (9, .int .i64 (((k : Nat) : Int))), (10, .pointer (some ⟨g_10_13, 0, none⟩)), (11, .int .i64 ((pxN ((kq : Nat) : Int) x.aD[k].aH x.aD[k].Next)))] rfl).elim fun x' hx => ⟨B_10_9_2, c_10_9_2, B_10_9_4, c_10_9_4, B_10_9_6, c_10_9_6, g_10_13, x', hx, Ha144.pick [0, 1, 2, 3, 7, 8, 11, 12, 13, 14] kD rfl⟩
     refine bA rfl Tryz.zeroValue178 rfl rfl H127 ?_
     intro g_10_13 W147 hu148 Ha149; clear H127; clear hu148
     have hS151 := And.intro (Ha149.blk 9 rfl) (And.intro (Ha149.catE 4 rfl) (Ha149.blk 7 rfl)); refine ⟨fun _ => hS151, ?_⟩
     refine aL (i := 9) kR ?_
     refine aV rfl Tryz.call126 (vs := #[.agg #[.int .i64 ((x.aD[k]).bT), .bool ((x.aD[k]).Up), .slice B119 ((x.aD[k]).aH.length) c120, .int .i64 ((x.aD[k]).Next), .slice B121 ((x.aD[k]).aI.length) c122, .int .i64 ((x.aD[k]).bZ), .slice B123 ((x.aD[k]).aQ.length) c124], .int .i64 (((kq : Nat) : Int))]) rfl rfl rfl (oF x.aD[k] ((kq : Nat) : Int) _ _ (jI _ (x.aD[k]) (Ha149.eG 1 rfl).1 (Ha149.fC 1 rfl) (Ha149.eG 2 rfl).1 (Ha149.fC 2 rfl) (Ha149.eG 3 rfl).1 (Ha149.fC 3 rfl)) hsl) ?_
     rintro e157 W156 ⟨cs152, rfl, hM153, hu154⟩; refine ⟨_, rfl, ?_⟩
     obtain ⟨B_10_9_2, c_10_9_2, B_10_9_4, c_10_9_4, B_10_9_6, c_10_9_6, rfl, hst155⟩ := iT hM153
     have H158 := Ha149.news hu154 hst155; clear Ha149
     have hS159 := And.intro (H158.blk 12 rfl) (And.intro (H158.catE 7 rfl) (H158.blk 10 rfl)); refine ⟨fun _ => hS159, ?_⟩
     refine aF (i := 10) rfl kR kR kR kR kR (fun _ _ _ h => h) rfl rfl hS159 (fun W' hs' => aK rfl) ?_
     refine aF (i := 11) rfl kR kR kR kR kR (fun _ _ _ h => h) rfl rfl hS159 (fun W' hs' => aY (v := .agg #[.int .i64 ((pxV ((kq : Nat) : Int) x.aD[k]).bT), .bool ((pxV ((kq : Nat) : Int) x.aD[k]).Up), .slice B_10_9_2 ((pxV ((kq : Nat) : Int) x.aD[k]).aH.length) c_10_9_2, .int .i64 ((pxV ((kq : Nat) : Int) x.aD[k]).Next), .slice B_10_9_4 ((pxV ((kq : Nat) : Int) x.aD[k]).aI.length) c_10_9_4, .int .i64 ((pxV ((kq : Nat) : Int) x.aD[k]).bZ), .slice B_10_9_6 ((pxV ((kq : Nat) : Int) x.aD[k]).aQ.length) c_10_9_6]) rfl rfl) ?_
     refine aF (i := 12) rfl kR kR kR kR kR (fun _ _ _ h => h) rfl rfl hS159 (fun W' hs' => aY (v := .int .i64 ((pxN ((kq : Nat) : Int) x.aD[k].aH x.aD[k].Next))) rfl rfl) ?_
     refine aL (i := 14) kR ?_
     have H163 : St w F0 [hB g_10_13 178 #[.int .i64 (0), .bool (false), .slice none 0 0, .int .i64 (0), .slice none 0 0, .int .i64 (0), .slice none 0 0], hR bC 256 (.slice B_10_9_2 ((pxV ((kq : Nat) : Int) x.aD[k]).aH.length) c_10_9_2) ((pxV ((kq : Nat) : Int) x.aD[k]).aH), hR aU 289 (.slice B_10_9_4 ((pxV ((kq : Nat) : Int) x.aD[k]).aI.length) c_10_9_4) ((pxV ((kq : Nat) : Int) x.aD[k]).aI), hR aU 289 (.slice B_10_9_6 ((pxV ((kq : Nat) : Int) x.aD[k]).aQ.length) c_10_9_6) ((pxV ((kq : Nat) : Int) x.aD[k]).aQ), hR bC 256 (.slice B119 ((x.aD[k]).aH.length) c120) ((x.aD[k]).aH), hR aU 289 (.slice B121 ((x.aD[k]).aI.length) c122) ((x.aD[k]).aI), hR aU 289 (.slice B123 ((x.aD[k]).aQ.length) c124) ((x.aD[k]).aQ), hE aO 178 gf110 cL k [.int .i64 ((x.aD[k]).bT), .bool ((x.aD[k]).Up), .slice B119 ((x.aD[k]).aH.length) c120, .int .i64 ((x.aD[k]).Next), .slice B121 ((x.aD[k]).aI.length) c122, .int .i64 ((x.aD[k]).bZ), .slice B123 ((x.aD[k]).aQ.length) c124] x.aD, hR aJ 171 (.slice (some ⟨gf60, 0, none⟩) x.aA.length cE) x.aA, hB g_6_8 171 #[.int .i64 ((x.aA[kq]).Kind), .int .i64 ((x.aA[kq]).Script), .slice B69 ((x.aA[kq]).dP.length) c70, .int .i64 ((x.aA[kq]).State), .int .i64 ((x.aA[kq]).Value.Kind), .int .i64 ((x.aA[kq]).Value.N), .slice B71 ((x.aA[kq]).Queue.length) c72, .slice B73 ((x.aA[kq]).bS.length) c74, .int .i64 ((x.aA[kq]).bT), .int .i64 ((x.aA[kq]).Pos), .int .i64 ((x.aA[kq]).Count), .int .i64 ((x.aA[kq]).iN)], hB g_1_5 95 #[.int .i64 (1), .int .i64 (((kq : Nat) : Int))], hB g_0_1 72 #[.int .i64 (0), .int .i64 (0)], hB g 68 #[.int .i64 (x.Id), .slice (some ⟨gf60, 0, none⟩) x.aA.length cE, .slice AS x.Loop.length cS, .slice (some ⟨gf110, 0, none⟩) x.aD.length cL, .slice AO x.Out.length cO], hR aX 235 (.slice AS x.Loop.length cS) x.Loop, hR aP 147 (.slice AO x.Out.length cO) x.Out] W156 := H158.pick [3, 0, 1, 2, 4, 5, 6, 7, 8, 9, 10, 11, 12, 13, 14] kD rfl; clear H158
     refine aR rfl Tryz.sizeOf178 rfl rfl rfl rfl kS H163 ?_
     intro W160 hu161 Ha162; clear H163; clear hu161
     have hS165 := And.intro (Ha162.blk 12 rfl) (And.intro (Ha162.catE 7 rfl) (Ha162.blk 10 rfl)); refine ⟨fun _ => hS165, ?_⟩
     refine aF (i := 15) rfl kR kR kR kR kR (fun _ _ _ h => h) rfl rfl hS165 (fun W' hs' => aW rfl) ?_
     refine bD kR ?_ _
     exact (aZ [(0, .pointer (some ⟨g, 0, none⟩)), (6, .pointer (some ⟨g_0_1, 0, none⟩)), (9, .int .i64 (((k : Nat) : Int))), (10, .pointer (some ⟨g_10_13, 0, none⟩)), (11, .int .i64 ((pxN ((kq : Nat) : Int) x.aD[k].aH x.aD[k].Next)))] rfl).elim fun x' hx => ⟨B_10_9_2, c_10_9_2, B_10_9_4, c_10_9_4, B_10_9_6, c_10_9_6, g_10_13, x', hx, Ha162.pick [0, 1, 2, 3, 7, 8, 11, 12, 13, 14] kD rfl⟩
    ·rintro _ W167 ⟨B_10_9_2, c_10_9_2, B_10_9_4, c_10_9_4, B_10_9_6, c_10_9_6, g_10_13, x168, rfl, H166⟩
     refine aM ?_
     refine wp_seq ?_
     refine eH (fun W' => Blk W' g 68 #[.int .i64 (x.Id), .slice (some ⟨gf60, 0, none⟩) x.aA.length cE, .slice AS x.Loop.length cS, .slice (some ⟨gf110, 0, none⟩) x.aD.length cL, .slice AO x.Out.length cO] ∧ Blk W' g_10_13 178 #[.int .i64 ((pxV ((kq : Nat) : Int) x.aD[k]).bT), .bool ((pxV ((kq : Nat) : Int) x.aD[k]).Up), .slice B_10_9_2 ((pxV ((kq : Nat) : Int) x.aD[k]).aH.length) c_10_9_2, .int .i64 ((pxV ((kq : Nat) : Int) x.aD[k]).Next), .slice B_10_9_4 ((pxV ((kq : Nat) : Int) x.aD[k]).aI.length) c_10_9_4, .int .i64 ((pxV ((kq : Nat) : Int) x.aD[k]).bZ), .slice B_10_9_6 ((pxV ((kq : Nat) : Int) x.aD[k]).aQ.length) c_10_9_6]) 8 kR ?_
     have H169 := H166.drew; clear H166
     have hS170 : Blk W167.drew g 68 #[.int .i64 (x.Id), .slice (some ⟨gf60, 0, none⟩) x.aA.length cE, .slice AS x.Loop.length cS, .slice (some ⟨gf110, 0, none⟩) x.aD.length cL, .slice AO x.Out.length cO] ∧ Blk W167.drew g_10_13 178 #[.int .i64 ((pxV ((kq : Nat) : Int) x.aD[k]).bT), .bool ((pxV ((kq : Nat) : Int) x.aD[k]).Up), .slice B_10_9_2 ((pxV ((kq : Nat) : Int) x.aD[k]).aH.length) c_10_9_2, .int .i64 ((pxV ((kq : Nat) : Int) x.aD[k]).Next), .slice B_10_9_4 ((pxV ((kq : Nat) : Int) x.aD[k]).aI.length) c_10_9_4, .int .i64 ((pxV ((kq : Nat) : Int) x.aD[k]).bZ), .slice B_10_9_6 ((pxV ((kq : Nat) : Int) x.aD[k]).aQ.length) c_10_9_6] := ⟨H169.blk 7 rfl, H169.blk 0 rfl⟩
     refine aF (i := 0) rfl kR kR kR kR kR (fun _ _ _ h => h) rfl rfl hS170 (fun W' hs' => aK rfl) ?_
     refine aF (i := 1) rfl kR kR kR kR kR (fun _ _ _ h => h) rfl rfl hS170 (fun W' hs' => dB rfl) ?_
     refine aF (i := 2) rfl kR kR kR kR kR (fun _ _ _ h => h) rfl rfl hS170 (fun W' hs' => bB iK rfl) ?_
     refine aF (i := 3) rfl kR kR kR kR kR (fun _ _ _ h => h) rfl rfl hS170 (fun W' hs' => bG (k := 3) (v := .slice (some ⟨gf110, 0, none⟩) x.aD.length cL) Tryz.isAgg65 rfl hs'.1 rfl) ?_
     refine aF (i := 4) rfl kR kR kR kR kR (fun _ _ _ h => h) rfl rfl hS170 (fun W' hs' => aK rfl) ?_
     refine aF (i := 5) rfl kR kR kR kR kR (fun _ _ _ h => h) rfl rfl hS170 (fun W' hs' => bI Tryz.isAgg178 Tryz.sizeOf178 rfl hs'.2 rfl) ?_
     refine aF (i := 6) rfl kR kR kR kR kR (fun _ _ _ h => h) rfl rfl hS170 (fun W' hs' => fD (k := k) Tryz.runUnderlying65 Tryz.sizeOf178 rfl rfl rfl (Nat.lt_of_lt_of_eq hk hn112.symm)) ?_
     refine aL (i := 7) kR ?_
     have H174 : St w F0 [hE aO 178 gf110 cL k [.int .i64 ((x.aD[k]).bT), .bool ((x.aD[k]).Up), .slice B119 ((x.aD[k]).aH.length) c120, .int .i64 ((x.aD[k]).Next), .slice B121 ((x.aD[k]).aI.length) c122, .int .i64 ((x.aD[k]).bZ), .slice B123 ((x.aD[k]).aQ.length) c124] x.aD, hB g_10_13 178 #[.int .i64 ((pxV ((kq : Nat) : Int) x.aD[k]).bT), .bool ((pxV ((kq : Nat) : Int) x.aD[k]).Up), .slice B_10_9_2 ((pxV ((kq : Nat) : Int) x.aD[k]).aH.length) c_10_9_2, .int .i64 ((pxV ((kq : Nat) : Int) x.aD[k]).Next), .slice B_10_9_4 ((pxV ((kq : Nat) : Int) x.aD[k]).aI.length) c_10_9_4, .int .i64 ((pxV ((kq : Nat) : Int) x.aD[k]).bZ), .slice B_10_9_6 ((pxV ((kq : Nat) : Int) x.aD[k]).aQ.length) c_10_9_6], hR bC 256 (.slice B_10_9_2 ((pxV ((kq : Nat) : Int) x.aD[k]).aH.length) c_10_9_2) ((pxV ((kq : Nat) : Int) x.aD[k]).aH), hR aU 289 (.slice B_10_9_4 ((pxV ((kq : Nat) : Int) x.aD[k]).aI.length) c_10_9_4) ((pxV ((kq : Nat) : Int) x.aD[k]).aI), hR aU 289 (.slice B_10_9_6 ((pxV ((kq : Nat) : Int) x.aD[k]).aQ.length) c_10_9_6) ((pxV ((kq : Nat) : Int) x.aD[k]).aQ), hR aJ 171 (.slice (some ⟨gf60, 0, none⟩) x.aA.length cE) x.aA, hB g_0_1 72 #[.int .i64 (0), .int .i64 (0)], hB g 68 #[.int .i64 (x.Id), .slice (some ⟨gf60, 0, none⟩) x.aA.length cE, .slice AS x.Loop.length cS, .slice (some ⟨gf110, 0, none⟩) x.aD.length cL, .slice AO x.Out.length cO], hR aX 235 (.slice AS x.Loop.length cS) x.Loop, hR aP 147 (.slice AO x.Out.length cO) x.Out] W167.drew := H169.pick [4, 0, 1, 2, 3, 5, 6, 7, 8, 9] kD rfl; clear H169
     refine nK (dk := aO) (k := 0) (ce' := [.int .i64 ((pxV ((kq : Nat) : Int) x.aD[k]).bT), .bool ((pxV ((kq : Nat) : Int) x.aD[k]).Up), .slice B_10_9_2 ((pxV ((kq : Nat) : Int) x.aD[k]).aH.length) c_10_9_2, .int .i64 ((pxV ((kq : Nat) : Int) x.aD[k]).Next), .slice B_10_9_4 ((pxV ((kq : Nat) : Int) x.aD[k]).aI.length) c_10_9_4, .int .i64 ((pxV ((kq : Nat) : Int) x.aD[k]).bZ), .slice B_10_9_6 ((pxV ((kq : Nat) : Int) x.aD[k]).aQ.length) c_10_9_6]) rfl Tryz.sizeOf178 rfl rfl rfl rfl (Nat.le_of_ble_eq_true rfl) (by simp [Value.cells, Value.oneCell']) rfl H174 ?_
     intro W171 hu172 Ha173; clear H174; clear hu172
     have hS176 := And.intro (Ha173.blk 7 rfl) (Ha173.blk 1 rfl); refine ⟨fun _ => hS176, ?_⟩
     refine bD kR ?_ _
     have H177 : St w F0 [hR bC 256 (.slice B_10_9_2 ((pxV ((kq : Nat) : Int) x.aD[k]).aH.length) c_10_9_2) ((pxV ((kq : Nat) : Int) x.aD[k]).aH), hR aU 289 (.slice B_10_9_4 ((pxV ((kq : Nat) : Int) x.aD[k]).aI.length) c_10_9_4) ((pxV ((kq : Nat) : Int) x.aD[k]).aI), hR aU 289 (.slice B_10_9_6 ((pxV ((kq : Nat) : Int) x.aD[k]).aQ.length) c_10_9_6) ((pxV ((kq : Nat) : Int) x.aD[k]).aQ), hE aO 178 gf110 cL k [.int .i64 ((pxV ((kq : Nat) : Int) x.aD[k]).bT), .bool ((pxV ((kq : Nat) : Int) x.aD[k]).Up), .slice B_10_9_2 ((pxV ((kq : Nat) : Int) x.aD[k]).aH.length) c_10_9_2, .int .i64 ((pxV ((kq : Nat) : Int) x.aD[k]).Next), .slice B_10_9_4 ((pxV ((kq : Nat) : Int) x.aD[k]).aI.length) c_10_9_4, .int .i64 ((pxV ((kq : Nat) : Int) x.aD[k]).bZ), .slice B_10_9_6 ((pxV ((kq : Nat) : Int) x.aD[k]).aQ.length) c_10_9_6] x.aD, hB g_10_13 178 #[.int .i64 ((pxV ((kq : Nat) : Int) x.aD[k]).bT), .bool ((pxV ((kq : Nat) : Int) x.aD[k]).Up), .slice B_10_9_2 ((pxV ((kq : Nat) : Int) x.aD[k]).aH.length) c_10_9_2, .int .i64 ((pxV ((kq : Nat) : Int) x.aD[k]).Next), .slice B_10_9_4 ((pxV ((kq : Nat) : Int) x.aD[k]).aI.length) c_10_9_4, .int .i64 ((pxV ((kq : Nat) : Int) x.aD[k]).bZ), .slice B_10_9_6 ((pxV ((kq : Nat) : Int) x.aD[k]).aQ.length) c_10_9_6], hR aJ 171 (.slice (some ⟨gf60, 0, none⟩) x.aA.length cE) x.aA, hB g_0_1 72 #[.int .i64 (0), .int .i64 (0)], hB g 68 #[.int .i64 (x.Id), .slice (some ⟨gf60, 0, none⟩) x.aA.length cE, .slice AS x.Loop.length cS, .slice (some ⟨gf110, 0, none⟩) x.aD.length cL, .slice AO x.Out.length cO], hR aX 235 (.slice AS x.Loop.length cS) x.Loop, hR aP 147 (.slice AO x.Out.length cO) x.Out] W171 := Ha173.pick [2, 3, 4, 0, 1, 5, 6, 7, 8, 9] kD rfl; clear Ha173
     have H178 : St w F0 [hM aO (pxV ((kq : Nat) : Int) x.aD[k]) [.int .i64 ((pxV ((kq : Nat) : Int) x.aD[k]).bT), .bool ((pxV ((kq : Nat) : Int) x.aD[k]).Up), .slice B_10_9_2 ((pxV ((kq : Nat) : Int) x.aD[k]).aH.length) c_10_9_2, .int .i64 ((pxV ((kq : Nat) : Int) x.aD[k]).Next), .slice B_10_9_4 ((pxV ((kq : Nat) : Int) x.aD[k]).aI.length) c_10_9_4, .int .i64 ((pxV ((kq : Nat) : Int) x.aD[k]).bZ), .slice B_10_9_6 ((pxV ((kq : Nat) : Int) x.aD[k]).aQ.length) c_10_9_6], hE aO 178 gf110 cL k [.int .i64 ((pxV ((kq : Nat) : Int) x.aD[k]).bT), .bool ((pxV ((kq : Nat) : Int) x.aD[k]).Up), .slice B_10_9_2 ((pxV ((kq : Nat) : Int) x.aD[k]).aH.length) c_10_9_2, .int .i64 ((pxV ((kq : Nat) : Int) x.aD[k]).Next), .slice B_10_9_4 ((pxV ((kq : Nat) : Int) x.aD[k]).aI.length) c_10_9_4, .int .i64 ((pxV ((kq : Nat) : Int) x.aD[k]).bZ), .slice B_10_9_6 ((pxV ((kq : Nat) : Int) x.aD[k]).aQ.length) c_10_9_6] x.aD, hB g_10_13 178 #[.int .i64 ((pxV ((kq : Nat) : Int) x.aD[k]).bT), .bool ((pxV ((kq : Nat) : Int) x.aD[k]).Up), .slice B_10_9_2 ((pxV ((kq : Nat) : Int) x.aD[k]).aH.length) c_10_9_2, .int .i64 ((pxV ((kq : Nat) : Int) x.aD[k]).Next), .slice B_10_9_4 ((pxV ((kq : Nat) : Int) x.aD[k]).aI.length) c_10_9_4, .int .i64 ((pxV ((kq : Nat) : Int) x.aD[k]).bZ), .slice B_10_9_6 ((pxV ((kq : Nat) : Int) x.aD[k]).aQ.length) c_10_9_6], hR aJ 171 (.slice (some ⟨gf60, 0, none⟩) x.aA.length cE) x.aA, hB g_0_1 72 #[.int .i64 (0), .int .i64 (0)], hB g 68 #[.int .i64 (x.Id), .slice (some ⟨gf60, 0, none⟩) x.aA.length cE, .slice AS x.Loop.length cS, .slice (some ⟨gf110, 0, none⟩) x.aD.length cL, .slice AO x.Out.length cO], hR aX 235 (.slice AS x.Loop.length cS) x.Loop, hR aP 147 (.slice AO x.Out.length cO) x.Out] W171 := H177.swap (l0 := [hR bC 256 (.slice B_10_9_2 ((pxV ((kq : Nat) : Int) x.aD[k]).aH.length) c_10_9_2) ((pxV ((kq : Nat) : Int) x.aD[k]).aH), hR aU 289 (.slice B_10_9_4 ((pxV ((kq : Nat) : Int) x.aD[k]).aI.length) c_10_9_4) ((pxV ((kq : Nat) : Int) x.aD[k]).aI), hR aU 289 (.slice B_10_9_6 ((pxV ((kq : Nat) : Int) x.aD[k]).aQ.length) c_10_9_6) ((pxV ((kq : Nat) : Int) x.aD[k]).aQ)]) (l' := [hM aO (pxV ((kq : Nat) : Int) x.aD[k]) [.int .i64 ((pxV ((kq : Nat) : Int) x.aD[k]).bT), .bool ((pxV ((kq : Nat) : Int) x.aD[k]).Up), .slice B_10_9_2 ((pxV ((kq : Nat) : Int) x.aD[k]).aH.length) c_10_9_2, .int .i64 ((pxV ((kq : Nat) : Int) x.aD[k]).Next), .slice B_10_9_4 ((pxV ((kq : Nat) : Int) x.aD[k]).aI.length) c_10_9_4, .int .i64 ((pxV ((kq : Nat) : Int) x.aD[k]).bZ), .slice B_10_9_6 ((pxV ((kq : Nat) : Int) x.aD[k]).aQ.length) c_10_9_6]]) (fun _ h => Star.one (lM (x := (pxV ((kq : Nat) : Int) x.aD[k])) h)); clear H177
     have H179 : St w F0 [hE aO 178 gf110 cL k [.int .i64 ((pxV ((kq : Nat) : Int) x.aD[k]).bT), .bool ((pxV ((kq : Nat) : Int) x.aD[k]).Up), .slice B_10_9_2 ((pxV ((kq : Nat) : Int) x.aD[k]).aH.length) c_10_9_2, .int .i64 ((pxV ((kq : Nat) : Int) x.aD[k]).Next), .slice B_10_9_4 ((pxV ((kq : Nat) : Int) x.aD[k]).aI.length) c_10_9_4, .int .i64 ((pxV ((kq : Nat) : Int) x.aD[k]).bZ), .slice B_10_9_6 ((pxV ((kq : Nat) : Int) x.aD[k]).aQ.length) c_10_9_6] x.aD, hM aO (pxV ((kq : Nat) : Int) x.aD[k]) [.int .i64 ((pxV ((kq : Nat) : Int) x.aD[k]).bT), .bool ((pxV ((kq : Nat) : Int) x.aD[k]).Up), .slice B_10_9_2 ((pxV ((kq : Nat) : Int) x.aD[k]).aH.length) c_10_9_2, .int .i64 ((pxV ((kq : Nat) : Int) x.aD[k]).Next), .slice B_10_9_4 ((pxV ((kq : Nat) : Int) x.aD[k]).aI.length) c_10_9_4, .int .i64 ((pxV ((kq : Nat) : Int) x.aD[k]).bZ), .slice B_10_9_6 ((pxV ((kq : Nat) : Int) x.aD[k]).aQ.length) c_10_9_6], hB g_10_13 178 #[.int .i64 ((pxV ((kq : Nat) : Int) x.aD[k]).bT), .bool ((pxV ((kq : Nat) : Int) x.aD[k]).Up), .slice B_10_9_2 ((pxV ((kq : Nat) : Int) x.aD[k]).aH.length) c_10_9_2, .int .i64 ((pxV ((kq : Nat) : Int) x.aD[k]).Next), .slice B_10_9_4 ((pxV ((kq : Nat) : Int) x.aD[k]).aI.length) c_10_9_4, .int .i64 ((pxV ((kq : Nat) : Int) x.aD[k]).bZ), .slice B_10_9_6 ((pxV ((kq : Nat) : Int) x.aD[k]).aQ.length) c_10_9_6], hR aJ 171 (.slice (some ⟨gf60, 0, none⟩) x.aA.length cE) x.aA, hB g_0_1 72 #[.int .i64 (0), .int .i64 (0)], hB g 68 #[.int .i64 (x.Id), .slice (some ⟨gf60, 0, none⟩) x.aA.length cE, .slice AS x.Loop.length cS, .slice (some ⟨gf110, 0, none⟩) x.aD.length cL, .slice AO x.Out.length cO], hR aX 235 (.slice AS x.Loop.length cS) x.Loop, hR aP 147 (.slice AO x.Out.length cO) x.Out] W171 := H178.pick [1, 0, 2, 3, 4, 5, 6, 7] kD rfl; clear H178
     have H180 : St w F0 [hR aO 178 (.slice (some ⟨gf110, 0, none⟩) x.aD.length cL) (x.aD.set k (pxV ((kq : Nat) : Int) x.aD[k])), hB g_10_13 178 #[.int .i64 ((pxV ((kq : Nat) : Int) x.aD[k]).bT), .bool ((pxV ((kq : Nat) : Int) x.aD[k]).Up), .slice B_10_9_2 ((pxV ((kq : Nat) : Int) x.aD[k]).aH.length) c_10_9_2, .int .i64 ((pxV ((kq : Nat) : Int) x.aD[k]).Next), .slice B_10_9_4 ((pxV ((kq : Nat) : Int) x.aD[k]).aI.length) c_10_9_4, .int .i64 ((pxV ((kq : Nat) : Int) x.aD[k]).bZ), .slice B_10_9_6 ((pxV ((kq : Nat) : Int) x.aD[k]).aQ.length) c_10_9_6], hR aJ 171 (.slice (some ⟨gf60, 0, none⟩) x.aA.length cE) x.aA, hB g_0_1 72 #[.int .i64 (0), .int .i64 (0)], hB g 68 #[.int .i64 (x.Id), .slice (some ⟨gf60, 0, none⟩) x.aA.length cE, .slice AS x.Loop.length cS, .slice (some ⟨gf110, 0, none⟩) x.aD.length cL, .slice AO x.Out.length cO], hR aX 235 (.slice AS x.Loop.length cS) x.Loop, hR aP 147 (.slice AO x.Out.length cO) x.Out] W171 := H179.closeG rfl (List.length_set ..).symm; clear H179
     refine aM ?_
     refine wp_seq ?_
     refine aS [0, 1, 2] rfl ?_
     refine aB ?_
     refine aC rfl (aK rfl) rfl rfl ?_
     refine aB ?_
     refine aC rfl (fJ (vs := [(0, .int .i64 (1)), (1, .int .i64 ((pxN ((kq : Nat) : Int) x.aD[k].aH x.aD[k].Next)))]) (cells := #[.int .i64 (1), .int .i64 ((pxN ((kq : Nat) : Int) x.aD[k].aH x.aD[k].Next))]) rfl kR) rfl rfl ?_
     refine aB ?_
     have H184 : St w F0 [hB g_0_1 72 #[.int .i64 (0), .int .i64 (0)], hR aO 178 (.slice (some ⟨gf110, 0, none⟩) x.aD.length cL) (x.aD.set k (pxV ((kq : Nat) : Int) x.aD[k])), hB g_10_13 178 #[.int .i64 ((pxV ((kq : Nat) : Int) x.aD[k]).bT), .bool ((pxV ((kq : Nat) : Int) x.aD[k]).Up), .slice B_10_9_2 ((pxV ((kq : Nat) : Int) x.aD[k]).aH.length) c_10_9_2, .int .i64 ((pxV ((kq : Nat) : Int) x.aD[k]).Next), .slice B_10_9_4 ((pxV ((kq : Nat) : Int) x.aD[k]).aI.length) c_10_9_4, .int .i64 ((pxV ((kq : Nat) : Int) x.aD[k]).bZ), .slice B_10_9_6 ((pxV ((kq : Nat) : Int) x.aD[k]).aQ.length) c_10_9_6], hR aJ 171 (.slice (some ⟨gf60, 0, none⟩) x.aA.length cE) x.aA, hB g 68 #[.int .i64 (x.Id), .slice (some ⟨gf60, 0, none⟩) x.aA.length cE, .slice AS x.Loop.length cS, .slice (some ⟨gf110, 0, none⟩) x.aD.length cL, .slice AO x.Out.length cO], hR aX 235 (.slice AS x.Loop.length cS) x.Loop, hR aP 147 (.slice AO x.Out.length cO) x.Out] W171 := H180.pick [3, 0, 1, 2, 4, 5, 6] kD rfl; clear H180
     refine aR rfl Tryz.sizeOf72 rfl rfl rfl rfl kS H184 ?_
     intro W181 hu182 Ha183; clear H184; clear hu182
     refine aN ?_
     refine aM ?_
     refine wp_ret ?_
     obtain ⟨e1, e2⟩ := tw_put x.aA x.aD p kq hkq hup kO k hk hf
     refine eP (.inl rfl) Tryz.results129 Tryz.isAgg72 Tryz.sizeOf72 rfl (Ha183.blk 0 rfl) rfl ?_
     rw [e1, e2]
     rw [List.length_set]
     exact ⟨(some ⟨gf110, 0, none⟩), cL, rfl, Ha183.pick [4, 3, 5, 1, 6] kD rfl⟩
  ·refine aB ?_
   refine aC rfl (fB hg93 (iQ rfl rfl)) rfl rfl ?_
   refine aB ?_
   refine aC rfl (aK rfl) rfl rfl ?_
   refine aB ?_
   refine bX rfl rfl rfl rfl rfl rfl rfl ?_
   refine aB ?_
   refine bX rfl rfl rfl rfl rfl rfl rfl ?_
   refine aB ?_
   refine bX rfl rfl rfl rfl rfl rfl rfl ?_
   refine aB ?_
   refine bX rfl rfl rfl rfl rfl rfl rfl ?_
   refine aB ?_
   refine aC rfl (dS (v := .bool (false)) (b := false) rfl rfl rfl rfl) rfl rfl ?_
   refine aN ?_
   refine aM ?_
   refine fO rfl ?_
   refine wp_skip ?_
   refine aM ?_
   refine wp_seq ?_
   refine aS [0, 1, 2, 3, 4, 5] rfl ?_
   refine aB ?_
   refine aC rfl (aK rfl) rfl rfl ?_
   refine aB ?_
   refine aC rfl (dB rfl) rfl rfl ?_
   refine aB ?_
   refine aC rfl (bI Tryz.isAgg68 Tryz.sizeOf68 rfl (H92.blk 4 rfl) rfl) rfl rfl ?_
   refine aB ?_
   refine aC rfl (aK rfl) rfl rfl ?_
   refine aB ?_
   refine aV rfl Tryz.call124 (vs := #[.agg #[.int .i64 (x.Id), .slice (some ⟨gf60, 0, none⟩) x.aA.length cE, .slice AS x.Loop.length cS, .slice AL x.aD.length cL, .slice AO x.Out.length cO], .int .i64 (p)]) rfl rfl rfl (linkTo_s x p _ n_Links _ (fM _ x (H92.eG 0 rfl).1 (H92.fC 0 rfl) (H92.eG 5 rfl).1 (H92.fC 5 rfl) (H92.eG 6 rfl).1 (H92.fC 6 rfl) (H92.eG 7 rfl).1 (H92.fC 7 rfl)) ((k : Nat) : Int) hf) ?_
   rintro e188 W187 ⟨rfl, hu186⟩; refine ⟨_, rfl, ?_⟩
   have H189 := H92.no hu186; clear H92
   refine aB ?_
   refine aC rfl (aW rfl) rfl rfl ?_
   refine aN ?_
   refine aM ?_
   refine wp_seq ?_
   have hsl : bQ x.aD[k] ≤ 4194304 := by have h1 := gT bQ x.aD k hk; have h2 := s_Links; unfold bN at h2; omega
   have H190 : St w F0 [hR aO 178 (.slice AL x.aD.length cL) x.aD, hR aJ 171 (.slice (some ⟨gf60, 0, none⟩) x.aA.length cE) x.aA, hB g_6_8 171 #[.int .i64 ((x.aA[kq]).Kind), .int .i64 ((x.aA[kq]).Script), .slice B69 ((x.aA[kq]).dP.length) c70, .int .i64 ((x.aA[kq]).State), .int .i64 ((x.aA[kq]).Value.Kind), .int .i64 ((x.aA[kq]).Value.N), .slice B71 ((x.aA[kq]).Queue.length) c72, .slice B73 ((x.aA[kq]).bS.length) c74, .int .i64 ((x.aA[kq]).bT), .int .i64 ((x.aA[kq]).Pos), .int .i64 ((x.aA[kq]).Count), .int .i64 ((x.aA[kq]).iN)], hB g_1_5 95 #[.int .i64 (1), .int .i64 (((kq : Nat) : Int))], hB g_0_1 72 #[.int .i64 (0), .int .i64 (0)], hB g 68 #[.int .i64 (x.Id), .slice (some ⟨gf60, 0, none⟩) x.aA.length cE, .slice AS x.Loop.length cS, .slice AL x.aD.length cL, .slice AO x.Out.length cO], hR aX 235 (.slice AS x.Loop.length cS) x.Loop, hR aP 147 (.slice AO x.Out.length cO) x.Out] W187 := H189.pick [6, 0, 1, 2, 3, 4, 5, 7] kD rfl; clear H189
   obtain ⟨gf191, rfl⟩ := H190.openS (q := k) hk
   obtain ⟨ce192, hn193, H194⟩ := H190.openG (q := k) hk; clear H190
   have H195 : St w F0 [hE aO 178 gf191 cL k ce192 x.aD, hM aO (x.aD[k]) ce192, hR aJ 171 (.slice (some ⟨gf60, 0, none⟩) x.aA.length cE) x.aA, hB g_6_8 171 #[.int .i64 ((x.aA[kq]).Kind), .int .i64 ((x.aA[kq]).Script), .slice B69 ((x.aA[kq]).dP.length) c70, .int .i64 ((x.aA[kq]).State), .int .i64 ((x.aA[kq]).Value.Kind), .int .i64 ((x.aA[kq]).Value.N), .slice B71 ((x.aA[kq]).Queue.length) c72, .slice B73 ((x.aA[kq]).bS.length) c74, .int .i64 ((x.aA[kq]).bT), .int .i64 ((x.aA[kq]).Pos), .int .i64 ((x.aA[kq]).Count), .int .i64 ((x.aA[kq]).iN)], hB g_1_5 95 #[.int .i64 (1), .int .i64 (((kq : Nat) : Int))], hB g_0_1 72 #[.int .i64 (0), .int .i64 (0)], hB g 68 #[.int .i64 (x.Id), .slice (some ⟨gf60, 0, none⟩) x.aA.length cE, .slice AS x.Loop.length cS, .slice (some ⟨gf191, 0, none⟩) x.aD.length cL, .slice AO x.Out.length cO], hR aX 235 (.slice AS x.Loop.length cS) x.Loop, hR aP 147 (.slice AO x.Out.length cO) x.Out] W187 := H194; clear H194
   have H206 : St w F0 [hM aO (x.aD[k]) ce192, hE aO 178 gf191 cL k ce192 x.aD, hR aJ 171 (.slice (some ⟨gf60, 0, none⟩) x.aA.length cE) x.aA, hB g_6_8 171 #[.int .i64 ((x.aA[kq]).Kind), .int .i64 ((x.aA[kq]).Script), .slice B69 ((x.aA[kq]).dP.length) c70, .int .i64 ((x.aA[kq]).State), .int .i64 ((x.aA[kq]).Value.Kind), .int .i64 ((x.aA[kq]).Value.N), .slice B71 ((x.aA[kq]).Queue.length) c72, .slice B73 ((x.aA[kq]).bS.length) c74, .int .i64 ((x.aA[kq]).bT), .int .i64 ((x.aA[kq]).Pos), .int .i64 ((x.aA[kq]).Count), .int .i64 ((x.aA[kq]).iN)], hB g_1_5 95 #[.int .i64 (1), .int .i64 (((kq : Nat) : Int))], hB g_0_1 72 #[.int .i64 (0), .int .i64 (0)], hB g 68 #[.int .i64 (x.Id), .slice (some ⟨gf60, 0, none⟩) x.aA.length cE, .slice AS x.Loop.length cS, .slice (some ⟨gf191, 0, none⟩) x.aD.length cL, .slice AO x.Out.length cO], hR aX 235 (.slice AS x.Loop.length cS) x.Loop, hR aP 147 (.slice AO x.Out.length cO) x.Out] W187 := H195.pick [1, 0, 2, 3, 4, 5, 6, 7, 8] kD rfl; clear H195
   obtain ⟨F196, hM197, hb198⟩ := H206.unM
   obtain ⟨B200, c201, B202, c203, B204, c205, rfl, hst199⟩ := iT hM197
   have H207 : St w F0 [hR bC 256 (.slice B200 ((x.aD[k]).aH.length) c201) ((x.aD[k]).aH), hR aU 289 (.slice B202 ((x.aD[k]).aI.length) c203) ((x.aD[k]).aI), hR aU 289 (.slice B204 ((x.aD[k]).aQ.length) c205) ((x.aD[k]).aQ), hE aO 178 gf191 cL k [.int .i64 ((x.aD[k]).bT), .bool ((x.aD[k]).Up), .slice B200 ((x.aD[k]).aH.length) c201, .int .i64 ((x.aD[k]).Next), .slice B202 ((x.aD[k]).aI.length) c203, .int .i64 ((x.aD[k]).bZ), .slice B204 ((x.aD[k]).aQ.length) c205] x.aD, hR aJ 171 (.slice (some ⟨gf60, 0, none⟩) x.aA.length cE) x.aA, hB g_6_8 171 #[.int .i64 ((x.aA[kq]).Kind), .int .i64 ((x.aA[kq]).Script), .slice B69 ((x.aA[kq]).dP.length) c70, .int .i64 ((x.aA[kq]).State), .int .i64 ((x.aA[kq]).Value.Kind), .int .i64 ((x.aA[kq]).Value.N), .slice B71 ((x.aA[kq]).Queue.length) c72, .slice B73 ((x.aA[kq]).bS.length) c74, .int .i64 ((x.aA[kq]).bT), .int .i64 ((x.aA[kq]).Pos), .int .i64 ((x.aA[kq]).Count), .int .i64 ((x.aA[kq]).iN)], hB g_1_5 95 #[.int .i64 (1), .int .i64 (((kq : Nat) : Int))], hB g_0_1 72 #[.int .i64 (0), .int .i64 (0)], hB g 68 #[.int .i64 (x.Id), .slice (some ⟨gf60, 0, none⟩) x.aA.length cE, .slice AS x.Loop.length cS, .slice (some ⟨gf191, 0, none⟩) x.aD.length cL, .slice AO x.Out.length cO], hR aX 235 (.slice AS x.Loop.length cS) x.Loop, hR aP 147 (.slice AO x.Out.length cO) x.Out] W187 := hb198 _ hst199; clear H206
   refine lC (fun a' W' => ∃ (B_10_9_2 : Option Addr) (c_10_9_2 : Nat) (B_10_9_4 : Option Addr) (c_10_9_4 : Nat) (B_10_9_6 : Option Addr) (c_10_9_6 : Nat) (g_10_13 : Nat) (x' : Nat → Value), a' = bO 99 x' [(0, .pointer (some ⟨g, 0, none⟩)), (6, .pointer (some ⟨g_0_1, 0, none⟩)), (9, .int .i64 (((k : Nat) : Int))), (10, .pointer (some ⟨g_10_13, 0, none⟩)), (11, .int .i64 ((pxN ((kq : Nat) : Int) x.aD[k].aH x.aD[k].Next)))] ∧ St w F0 [hB g_10_13 178 #[.int .i64 ((pxV ((kq : Nat) : Int) x.aD[k]).bT), .bool ((pxV ((kq : Nat) : Int) x.aD[k]).Up), .slice B_10_9_2 ((pxV ((kq : Nat) : Int) x.aD[k]).aH.length) c_10_9_2, .int .i64 ((pxV ((kq : Nat) : Int) x.aD[k]).Next), .slice B_10_9_4 ((pxV ((kq : Nat) : Int) x.aD[k]).aI.length) c_10_9_4, .int .i64 ((pxV ((kq : Nat) : Int) x.aD[k]).bZ), .slice B_10_9_6 ((pxV ((kq : Nat) : Int) x.aD[k]).aQ.length) c_10_9_6], hR bC 256 (.slice B_10_9_2 ((pxV ((kq : Nat) : Int) x.aD[k]).aH.length) c_10_9_2) ((pxV ((kq : Nat) : Int) x.aD[k]).aH), hR aU 289 (.slice B_10_9_4 ((pxV ((kq : Nat) : Int) x.aD[k]).aI.length) c_10_9_4) ((pxV ((kq : Nat) : Int) x.aD[k]).aI), hR aU 289 (.slice B_10_9_6 ((pxV ((kq : Nat) : Int) x.aD[k]).aQ.length) c_10_9_6) ((pxV ((kq : Nat) : Int) x.aD[k]).aQ), hE aO 178 gf191 cL k [.int .i64 ((x.aD[k]).bT), .bool ((x.aD[k]).Up), .slice B200 ((x.aD[k]).aH.length) c201, .int .i64 ((x.aD[k]).Next), .slice B202 ((x.aD[k]).aI.length) c203, .int .i64 ((x.aD[k]).bZ), .slice B204 ((x.aD[k]).aQ.length) c205] x.aD, hR aJ 171 (.slice (some ⟨gf60, 0, none⟩) x.aA.length cE) x.aA, hB g_0_1 72 #[.int .i64 (0), .int .i64 (0)], hB g 68 #[.int .i64 (x.Id), .slice (some ⟨gf60, 0, none⟩) x.aA.length cE, .slice AS x.Loop.length cS, .slice (some ⟨gf191, 0, none⟩) x.aD.length cL, .slice AO x.Out.length cO], hR aX 235 (.slice AS x.Loop.length cS) x.Loop, hR aP 147 (.slice AO x.Out.length cO) x.Out] W') ?_ ?_
   ·refine eH (fun W' => Blk W' g 68 #[.int .i64 (x.Id), .slice (some ⟨gf60, 0, none⟩) x.aA.length cE, .slice AS x.Loop.length cS, .slice (some ⟨gf191, 0, none⟩) x.aD.length cL, .slice AO x.Out.length cO] ∧ Cat W' (Addr.add ⟨gf191, 0, none⟩ (k * 7)) [.int .i64 ((x.aD[k]).bT), .bool ((x.aD[k]).Up), .slice B200 ((x.aD[k]).aH.length) c201, .int .i64 ((x.aD[k]).Next), .slice B202 ((x.aD[k]).aI.length) c203, .int .i64 ((x.aD[k]).bZ), .slice B204 ((x.aD[k]).aQ.length) c205] ∧ Blk W' g_1_5 95 #[.int .i64 (1), .int .i64 (((kq : Nat) : Int))]) 16 kR ?_
    have H208 := H207.drew; clear H207
    have hS209 : Blk W187.drew g 68 #[.int .i64 (x.Id), .slice (some ⟨gf60, 0, none⟩) x.aA.length cE, .slice AS x.Loop.length cS, .slice (some ⟨gf191, 0, none⟩) x.aD.length cL, .slice AO x.Out.length cO] ∧ Cat W187.drew (Addr.add ⟨gf191, 0, none⟩ (k * 7)) [.int .i64 ((x.aD[k]).bT), .bool ((x.aD[k]).Up), .slice B200 ((x.aD[k]).aH.length) c201, .int .i64 ((x.aD[k]).Next), .slice B202 ((x.aD[k]).aI.length) c203, .int .i64 ((x.aD[k]).bZ), .slice B204 ((x.aD[k]).aQ.length) c205] ∧ Blk W187.drew g_1_5 95 #[.int .i64 (1), .int .i64 (((kq : Nat) : Int))] := ⟨H208.blk 8 rfl, (H208.catE 3 rfl), H208.blk 6 rfl⟩
    refine aF (i := 0) rfl kR kR kR kR kR (fun _ _ _ h => h) rfl rfl hS209 (fun W' hs' => aK rfl) ?_
    refine aF (i := 1) rfl kR kR kR kR kR (fun _ _ _ h => h) rfl rfl hS209 (fun W' hs' => dB rfl) ?_
    refine aF (i := 2) rfl kR kR kR kR kR (fun _ _ _ h => h) rfl rfl hS209 (fun W' hs' => bB iK rfl) ?_
    refine aF (i := 3) rfl kR kR kR kR kR (fun _ _ _ h => h) rfl rfl hS209 (fun W' hs' => bG (k := 3) (v := .slice (some ⟨gf191, 0, none⟩) x.aD.length cL) Tryz.isAgg65 rfl hs'.1 rfl) ?_
    refine aF (i := 4) rfl kR kR kR kR kR (fun _ _ _ h => h) rfl rfl hS209 (fun W' hs' => aK rfl) ?_
    refine aF (i := 5) rfl kR kR kR kR kR (fun _ _ _ h => h) rfl rfl hS209 (fun W' hs' => fD (k := k) Tryz.runUnderlying65 Tryz.sizeOf178 rfl rfl rfl (Nat.lt_of_lt_of_eq hk hn193.symm)) ?_
    refine aF (i := 6) rfl kR kR kR kR kR (fun _ _ _ h => h) rfl rfl hS209 (fun W' hs' => jF Tryz.isAgg178 Tryz.sizeOf178 rfl hs'.2.1 rfl) ?_
    refine aF (i := 7) rfl kR kR kR kR kR (fun _ _ _ h => h) rfl rfl hS209 (fun W' hs' => bB iZ rfl) ?_
    refine aF (i := 8) rfl kR kR kR kR kR (fun _ _ _ h => h) rfl rfl hS209 (fun W' hs' => bG (k := 1) (v := .int .i64 (((kq : Nat) : Int))) Tryz.isAgg3 rfl hs'.2.2 rfl) ?_
    refine dY (i := 9) (i2 := 13) kR ?_ ?_
    ·refine aV rfl Tryz.call126 (vs := #[.agg #[.int .i64 ((x.aD[k]).bT), .bool ((x.aD[k]).Up), .slice B200 ((x.aD[k]).aH.length) c201, .int .i64 ((x.aD[k]).Next), .slice B202 ((x.aD[k]).aI.length) c203, .int .i64 ((x.aD[k]).bZ), .slice B204 ((x.aD[k]).aQ.length) c205], .int .i64 (((kq : Nat) : Int))]) rfl rfl rfl (oF x.aD[k] ((kq : Nat) : Int) _ _ (jI _ (x.aD[k]) (H208.eG 0 rfl).1 (H208.fC 0 rfl) (H208.eG 1 rfl).1 (H208.fC 1 rfl) (H208.eG 2 rfl).1 (H208.fC 2 rfl)) hsl) ?_
     rintro e215 W214 ⟨cs210, rfl, hM211, hu212⟩; refine ⟨_, rfl, ?_⟩
     obtain ⟨B_10_9_2, c_10_9_2, B_10_9_4, c_10_9_4, B_10_9_6, c_10_9_6, rfl, hst213⟩ := iT hM211
     have H216 := H208.news hu212 hst213; clear H208
     have hS217 := And.intro (H216.blk 11 rfl) (And.intro (H216.catE 6 rfl) (H216.blk 9 rfl)); refine ⟨fun _ => hS217, ?_⟩
     refine aF (i := 10) rfl kR kR kR kR kR (fun _ _ _ h => h) rfl rfl hS217 (fun W' hs' => aK rfl) ?_
     refine aF (i := 11) rfl kR kR kR kR kR (fun _ _ _ h => h) rfl rfl hS217 (fun W' hs' => aY (v := .agg #[.int .i64 ((pxV ((kq : Nat) : Int) x.aD[k]).bT), .bool ((pxV ((kq : Nat) : Int) x.aD[k]).Up), .slice B_10_9_2 ((pxV ((kq : Nat) : Int) x.aD[k]).aH.length) c_10_9_2, .int .i64 ((pxV ((kq : Nat) : Int) x.aD[k]).Next), .slice B_10_9_4 ((pxV ((kq : Nat) : Int) x.aD[k]).aI.length) c_10_9_4, .int .i64 ((pxV ((kq : Nat) : Int) x.aD[k]).bZ), .slice B_10_9_6 ((pxV ((kq : Nat) : Int) x.aD[k]).aQ.length) c_10_9_6]) rfl rfl) ?_
     refine aF (i := 12) rfl kR kR kR kR kR (fun _ _ _ h => h) rfl rfl hS217 (fun W' hs' => aY (v := .int .i64 ((pxN ((kq : Nat) : Int) x.aD[k].aH x.aD[k].Next))) rfl rfl) ?_
     refine aL (i := 13) kR ?_
     refine bA rfl Tryz.zeroValue178 rfl rfl H216 ?_
     intro g_10_13 W218 hu219 Ha220; clear H216; clear hu219
     have hS222 := And.intro (Ha220.blk 12 rfl) (And.intro (Ha220.catE 7 rfl) (Ha220.blk 10 rfl)); refine ⟨fun _ => hS222, ?_⟩
     refine aL (i := 14) kR ?_
     refine aR rfl Tryz.sizeOf178 rfl rfl rfl rfl kS Ha220 ?_
     intro W223 hu224 Ha225; clear Ha220; clear hu224
     have hS227 := And.intro (Ha225.blk 12 rfl) (And.intro (Ha225.catE 7 rfl) (Ha225.blk 10 rfl)); refine ⟨fun _ => hS227, ?_⟩
     refine aF (i := 15) rfl kR kR kR kR kR (fun _ _ _ h => h) rfl rfl hS227 (fun W' hs' => aW rfl) ?_
     refine bD kR ?_ _
     exact (aZ [(0, .pointer (some ⟨g, 0, none⟩)), (6, .pointer (some ⟨g_0_1, 0, none⟩)), (9, .int .i64 (((k : Nat) : Int))), (10, .pointer (some ⟨g_10_13, 0, none⟩)), (11, .int .i64 ((pxN ((kq : Nat) : Int) x.aD[k].aH x.aD[k].Next)))] rfl).elim fun x' hx => ⟨B_10_9_2, c_10_9_2, B_10_9_4, c_10_9_4, B_10_9_6, c_10_9_6, g_10_13, x', hx, Ha225.pick [0, 1, 2, 3, 7, 8, 11, 12, 13, 14] kD rfl⟩
    refine bA rfl Tryz.zeroValue178 rfl rfl H208 ?_
    intro g_10_13 W228 hu229 Ha230; clear H208; clear hu229
    have hS232 := And.intro (Ha230.blk 9 rfl) (And.intro (Ha230.catE 4 rfl) (Ha230.blk 7 rfl)); refine ⟨fun _ => hS232, ?_⟩
    refine aL (i := 9) kR ?_
    refine aV rfl Tryz.call126 (vs := #[.agg #[.int .i64 ((x.aD[k]).bT), .bool ((x.aD[k]).Up), .slice B200 ((x.aD[k]).aH.length) c201, .int .i64 ((x.aD[k]).Next), .slice B202 ((x.aD[k]).aI.length) c203, .int .i64 ((x.aD[k]).bZ), .slice B204 ((x.aD[k]).aQ.length) c205], .int .i64 (((kq : Nat) : Int))]) rfl rfl rfl (oF x.aD[k] ((kq : Nat) : Int) _ _ (jI _ (x.aD[k]) (Ha230.eG 1 rfl).1 (Ha230.fC 1 rfl) (Ha230.eG 2 rfl).1 (Ha230.fC 2 rfl) (Ha230.eG 3 rfl).1 (Ha230.fC 3 rfl)) hsl) ?_
    rintro e238 W237 ⟨cs233, rfl, hM234, hu235⟩; refine ⟨_, rfl, ?_⟩
    obtain ⟨B_10_9_2, c_10_9_2, B_10_9_4, c_10_9_4, B_10_9_6, c_10_9_6, rfl, hst236⟩ := iT hM234
    have H239 := Ha230.news hu235 hst236; clear Ha230
    have hS240 := And.intro (H239.blk 12 rfl) (And.intro (H239.catE 7 rfl) (H239.blk 10 rfl)); refine ⟨fun _ => hS240, ?_⟩
    refine aF (i := 10) rfl kR kR kR kR kR (fun _ _ _ h => h) rfl rfl hS240 (fun W' hs' => aK rfl) ?_
    refine aF (i := 11) rfl kR kR kR kR kR (fun _ _ _ h => h) rfl rfl hS240 (fun W' hs' => aY (v := .agg #[.int .i64 ((pxV ((kq : Nat) : Int) x.aD[k]).bT), .bool ((pxV ((kq : Nat) : Int) x.aD[k]).Up), .slice B_10_9_2 ((pxV ((kq : Nat) : Int) x.aD[k]).aH.length) c_10_9_2, .int .i64 ((pxV ((kq : Nat) : Int) x.aD[k]).Next), .slice B_10_9_4 ((pxV ((kq : Nat) : Int) x.aD[k]).aI.length) c_10_9_4, .int .i64 ((pxV ((kq : Nat) : Int) x.aD[k]).bZ), .slice B_10_9_6 ((pxV ((kq : Nat) : Int) x.aD[k]).aQ.length) c_10_9_6]) rfl rfl) ?_
    refine aF (i := 12) rfl kR kR kR kR kR (fun _ _ _ h => h) rfl rfl hS240 (fun W' hs' => aY (v := .int .i64 ((pxN ((kq : Nat) : Int) x.aD[k].aH x.aD[k].Next))) rfl rfl) ?_
    refine aL (i := 14) kR ?_
    have H244 : St w F0 [hB g_10_13 178 #[.int .i64 (0), .bool (false), .slice none 0 0, .int .i64 (0), .slice none 0 0, .int .i64 (0), .slice none 0 0], hR bC 256 (.slice B_10_9_2 ((pxV ((kq : Nat) : Int) x.aD[k]).aH.length) c_10_9_2) ((pxV ((kq : Nat) : Int) x.aD[k]).aH), hR aU 289 (.slice B_10_9_4 ((pxV ((kq : Nat) : Int) x.aD[k]).aI.length) c_10_9_4) ((pxV ((kq : Nat) : Int) x.aD[k]).aI), hR aU 289 (.slice B_10_9_6 ((pxV ((kq : Nat) : Int) x.aD[k]).aQ.length) c_10_9_6) ((pxV ((kq : Nat) : Int) x.aD[k]).aQ), hR bC 256 (.slice B200 ((x.aD[k]).aH.length) c201) ((x.aD[k]).aH), hR aU 289 (.slice B202 ((x.aD[k]).aI.length) c203) ((x.aD[k]).aI), hR aU 289 (.slice B204 ((x.aD[k]).aQ.length) c205) ((x.aD[k]).aQ), hE aO 178 gf191 cL k [.int .i64 ((x.aD[k]).bT), .bool ((x.aD[k]).Up), .slice B200 ((x.aD[k]).aH.length) c201, .int .i64 ((x.aD[k]).Next), .slice B202 ((x.aD[k]).aI.length) c203, .int .i64 ((x.aD[k]).bZ), .slice B204 ((x.aD[k]).aQ.length) c205] x.aD, hR aJ 171 (.slice (some ⟨gf60, 0, none⟩) x.aA.length cE) x.aA, hB g_6_8 171 #[.int .i64 ((x.aA[kq]).Kind), .int .i64 ((x.aA[kq]).Script), .slice B69 ((x.aA[kq]).dP.length) c70, .int .i64 ((x.aA[kq]).State), .int .i64 ((x.aA[kq]).Value.Kind), .int .i64 ((x.aA[kq]).Value.N), .slice B71 ((x.aA[kq]).Queue.length) c72, .slice B73 ((x.aA[kq]).bS.length) c74, .int .i64 ((x.aA[kq]).bT), .int .i64 ((x.aA[kq]).Pos), .int .i64 ((x.aA[kq]).Count), .int .i64 ((x.aA[kq]).iN)], hB g_1_5 95 #[.int .i64 (1), .int .i64 (((kq : Nat) : Int))], hB g_0_1 72 #[.int .i64 (0), .int .i64 (0)], hB g 68 #[.int .i64 (x.Id), .slice (some ⟨gf60, 0, none⟩) x.aA.length cE, .slice AS x.Loop.length cS, .slice (some ⟨gf191, 0, none⟩) x.aD.length cL, .slice AO x.Out.length cO], hR aX 235 (.slice AS x.Loop.length cS) x.Loop, hR aP 147 (.slice AO x.Out.length cO) x.Out] W237 := H239.pick [3, 0, 1, 2, 4, 5, 6, 7, 8, 9, 10, 11, 12, 13, 14] kD rfl; clear H239
    refine aR rfl Tryz.sizeOf178 rfl rfl rfl rfl kS H244 ?_
    intro W241 hu242 Ha243; clear H244; clear hu242
    have hS246 := And.intro (Ha243.blk 12 rfl) (And.intro (Ha243.catE 7 rfl) (Ha243.blk 10 rfl)); refine ⟨fun _ => hS246, ?_⟩
    refine aF (i := 15) rfl kR kR kR kR kR (fun _ _ _ h => h) rfl rfl hS246 (fun W' hs' => aW rfl) ?_
    refine bD kR ?_ _
    exact (aZ [(0, .pointer (some ⟨g, 0, none⟩)), (6, .pointer (some ⟨g_0_1, 0, none⟩)), (9, .int .i64 (((k : Nat) : Int))), (10, .pointer (some ⟨g_10_13, 0, none⟩)), (11, .int .i64 ((pxN ((kq : Nat) : Int) x.aD[k].aH x.aD[k].Next)))] rfl).elim fun x' hx => ⟨B_10_9_2, c_10_9_2, B_10_9_4, c_10_9_4, B_10_9_6, c_10_9_6, g_10_13, x', hx, Ha243.pick [0, 1, 2, 3, 7, 8, 11, 12, 13, 14] kD rfl⟩
   ·rintro _ W248 ⟨B_10_9_2, c_10_9_2, B_10_9_4, c_10_9_4, B_10_9_6, c_10_9_6, g_10_13, x249, rfl, H247⟩
    refine aM ?_
    refine wp_seq ?_
    refine eH (fun W' => Blk W' g 68 #[.int .i64 (x.Id), .slice (some ⟨gf60, 0, none⟩) x.aA.length cE, .slice AS x.Loop.length cS, .slice (some ⟨gf191, 0, none⟩) x.aD.length cL, .slice AO x.Out.length cO] ∧ Blk W' g_10_13 178 #[.int .i64 ((pxV ((kq : Nat) : Int) x.aD[k]).bT), .bool ((pxV ((kq : Nat) : Int) x.aD[k]).Up), .slice B_10_9_2 ((pxV ((kq : Nat) : Int) x.aD[k]).aH.length) c_10_9_2, .int .i64 ((pxV ((kq : Nat) : Int) x.aD[k]).Next), .slice B_10_9_4 ((pxV ((kq : Nat) : Int) x.aD[k]).aI.length) c_10_9_4, .int .i64 ((pxV ((kq : Nat) : Int) x.aD[k]).bZ), .slice B_10_9_6 ((pxV ((kq : Nat) : Int) x.aD[k]).aQ.length) c_10_9_6]) 8 kR ?_
    have H250 := H247.drew; clear H247
    have hS251 : Blk W248.drew g 68 #[.int .i64 (x.Id), .slice (some ⟨gf60, 0, none⟩) x.aA.length cE, .slice AS x.Loop.length cS, .slice (some ⟨gf191, 0, none⟩) x.aD.length cL, .slice AO x.Out.length cO] ∧ Blk W248.drew g_10_13 178 #[.int .i64 ((pxV ((kq : Nat) : Int) x.aD[k]).bT), .bool ((pxV ((kq : Nat) : Int) x.aD[k]).Up), .slice B_10_9_2 ((pxV ((kq : Nat) : Int) x.aD[k]).aH.length) c_10_9_2, .int .i64 ((pxV ((kq : Nat) : Int) x.aD[k]).Next), .slice B_10_9_4 ((pxV ((kq : Nat) : Int) x.aD[k]).aI.length) c_10_9_4, .int .i64 ((pxV ((kq : Nat) : Int) x.aD[k]).bZ), .slice B_10_9_6 ((pxV ((kq : Nat) : Int) x.aD[k]).aQ.length) c_10_9_6] := ⟨H250.blk 7 rfl, H250.blk 0 rfl⟩
    refine aF (i := 0) rfl kR kR kR kR kR (fun _ _ _ h => h) rfl rfl hS251 (fun W' hs' => aK rfl) ?_
    refine aF (i := 1) rfl kR kR kR kR kR (fun _ _ _ h => h) rfl rfl hS251 (fun W' hs' => dB rfl) ?_
    refine aF (i := 2) rfl kR kR kR kR kR (fun _ _ _ h => h) rfl rfl hS251 (fun W' hs' => bB iK rfl) ?_
    refine aF (i := 3) rfl kR kR kR kR kR (fun _ _ _ h => h) rfl rfl hS251 (fun W' hs' => bG (k := 3) (v := .slice (some ⟨gf191, 0, none⟩) x.aD.length cL) Tryz.isAgg65 rfl hs'.1 rfl) ?_
    refine aF (i := 4) rfl kR kR kR kR kR (fun _ _ _ h => h) rfl rfl hS251 (fun W' hs' => aK rfl) ?_
    refine aF (i := 5) rfl kR kR kR kR kR (fun _ _ _ h => h) rfl rfl hS251 (fun W' hs' => bI Tryz.isAgg178 Tryz.sizeOf178 rfl hs'.2 rfl) ?_
    refine aF (i := 6) rfl kR kR kR kR kR (fun _ _ _ h => h) rfl rfl hS251 (fun W' hs' => fD (k := k) Tryz.runUnderlying65 Tryz.sizeOf178 rfl rfl rfl (Nat.lt_of_lt_of_eq hk hn193.symm)) ?_
    refine aL (i := 7) kR ?_
    have H255 : St w F0 [hE aO 178 gf191 cL k [.int .i64 ((x.aD[k]).bT), .bool ((x.aD[k]).Up), .slice B200 ((x.aD[k]).aH.length) c201, .int .i64 ((x.aD[k]).Next), .slice B202 ((x.aD[k]).aI.length) c203, .int .i64 ((x.aD[k]).bZ), .slice B204 ((x.aD[k]).aQ.length) c205] x.aD, hB g_10_13 178 #[.int .i64 ((pxV ((kq : Nat) : Int) x.aD[k]).bT), .bool ((pxV ((kq : Nat) : Int) x.aD[k]).Up), .slice B_10_9_2 ((pxV ((kq : Nat) : Int) x.aD[k]).aH.length) c_10_9_2, .int .i64 ((pxV ((kq : Nat) : Int) x.aD[k]).Next), .slice B_10_9_4 ((pxV ((kq : Nat) : Int) x.aD[k]).aI.length) c_10_9_4, .int .i64 ((pxV ((kq : Nat) : Int) x.aD[k]).bZ), .slice B_10_9_6 ((pxV ((kq : Nat) : Int) x.aD[k]).aQ.length) c_10_9_6], hR bC 256 (.slice B_10_9_2 ((pxV ((kq : Nat) : Int) x.aD[k]).aH.length) c_10_9_2) ((pxV ((kq : Nat) : Int) x.aD[k]).aH), hR aU 289 (.slice B_10_9_4 ((pxV ((kq : Nat) : Int) x.aD[k]).aI.length) c_10_9_4) ((pxV ((kq : Nat) : Int) x.aD[k]).aI), hR aU 289 (.slice B_10_9_6 ((pxV ((kq : Nat) : Int) x.aD[k]).aQ.length) c_10_9_6) ((pxV ((kq : Nat) : Int) x.aD[k]).aQ), hR aJ 171 (.slice (some ⟨gf60, 0, none⟩) x.aA.length cE) x.aA, hB g_0_1 72 #[.int .i64 (0), .int .i64 (0)], hB g 68 #[.int .i64 (x.Id), .slice (some ⟨gf60, 0, none⟩) x.aA.length cE, .slice AS x.Loop.length cS, .slice (some ⟨gf191, 0, none⟩) x.aD.length cL, .slice AO x.Out.length cO], hR aX 235 (.slice AS x.Loop.length cS) x.Loop, hR aP 147 (.slice AO x.Out.length cO) x.Out] W248.drew := H250.pick [4, 0, 1, 2, 3, 5, 6, 7, 8, 9] kD rfl; clear H250
    refine nK (dk := aO) (k := 0) (ce' := [.int .i64 ((pxV ((kq : Nat) : Int) x.aD[k]).bT), .bool ((pxV ((kq : Nat) : Int) x.aD[k]).Up), .slice B_10_9_2 ((pxV ((kq : Nat) : Int) x.aD[k]).aH.length) c_10_9_2, .int .i64 ((pxV ((kq : Nat) : Int) x.aD[k]).Next), .slice B_10_9_4 ((pxV ((kq : Nat) : Int) x.aD[k]).aI.length) c_10_9_4, .int .i64 ((pxV ((kq : Nat) : Int) x.aD[k]).bZ), .slice B_10_9_6 ((pxV ((kq : Nat) : Int) x.aD[k]).aQ.length) c_10_9_6]) rfl Tryz.sizeOf178 rfl rfl rfl rfl (Nat.le_of_ble_eq_true rfl) (by simp [Value.cells, Value.oneCell']) rfl H255 ?_
    intro W252 hu253 Ha254; clear H255; clear hu253
    have hS257 := And.intro (Ha254.blk 7 rfl) (Ha254.blk 1 rfl); refine ⟨fun _ => hS257, ?_⟩
    refine bD kR ?_ _
    have H258 : St w F0 [hR bC 256 (.slice B_10_9_2 ((pxV ((kq : Nat) : Int) x.aD[k]).aH.length) c_10_9_2) ((pxV ((kq : Nat) : Int) x.aD[k]).aH), hR aU 289 (.slice B_10_9_4 ((pxV ((kq : Nat) : Int) x.aD[k]).aI.length) c_10_9_4) ((pxV ((kq : Nat) : Int) x.aD[k]).aI), hR aU 289 (.slice B_10_9_6 ((pxV ((kq : Nat) : Int) x.aD[k]).aQ.length) c_10_9_6) ((pxV ((kq : Nat) : Int) x.aD[k]).aQ), hE aO 178 gf191 cL k [.int .i64 ((pxV ((kq : Nat) : Int) x.aD[k]).bT), .bool ((pxV ((kq : Nat) : Int) x.aD[k]).Up), .slice B_10_9_2 ((pxV ((kq : Nat) : Int) x.aD[k]).aH.length) c_10_9_2, .int .i64 ((pxV ((kq : Nat) : Int) x.aD[k]).Next), .slice B_10_9_4 ((pxV ((kq : Nat) : Int) x.aD[k]).aI.length) c_10_9_4, .int .i64 ((pxV ((kq : Nat) : Int) x.aD[k]).bZ), .slice B_10_9_6 ((pxV ((kq : Nat) : Int) x.aD[k]).aQ.length) c_10_9_6] x.aD, hB g_10_13 178 #[.int .i64 ((pxV ((kq : Nat) : Int) x.aD[k]).bT), .bool ((pxV ((kq : Nat) : Int) x.aD[k]).Up), .slice B_10_9_2 ((pxV ((kq : Nat) : Int) x.aD[k]).aH.length) c_10_9_2, .int .i64 ((pxV ((kq : Nat) : Int) x.aD[k]).Next), .slice B_10_9_4 ((pxV ((kq : Nat) : Int) x.aD[k]).aI.length) c_10_9_4, .int .i64 ((pxV ((kq : Nat) : Int) x.aD[k]).bZ), .slice B_10_9_6 ((pxV ((kq : Nat) : Int) x.aD[k]).aQ.length) c_10_9_6], hR aJ 171 (.slice (some ⟨gf60, 0, none⟩) x.aA.length cE) x.aA, hB g_0_1 72 #[.int .i64 (0), .int .i64 (0)], hB g 68 #[.int .i64 (x.Id), .slice (some ⟨gf60, 0, none⟩) x.aA.length cE, .slice AS x.Loop.length cS, .slice (some ⟨gf191, 0, none⟩) x.aD.length cL, .slice AO x.Out.length cO], hR aX 235 (.slice AS x.Loop.length cS) x.Loop, hR aP 147 (.slice AO x.Out.length cO) x.Out] W252 := Ha254.pick [2, 3, 4, 0, 1, 5, 6, 7, 8, 9] kD rfl; clear Ha254
    have H259 : St w F0 [hM aO (pxV ((kq : Nat) : Int) x.aD[k]) [.int .i64 ((pxV ((kq : Nat) : Int) x.aD[k]).bT), .bool ((pxV ((kq : Nat) : Int) x.aD[k]).Up), .slice B_10_9_2 ((pxV ((kq : Nat) : Int) x.aD[k]).aH.length) c_10_9_2, .int .i64 ((pxV ((kq : Nat) : Int) x.aD[k]).Next), .slice B_10_9_4 ((pxV ((kq : Nat) : Int) x.aD[k]).aI.length) c_10_9_4, .int .i64 ((pxV ((kq : Nat) : Int) x.aD[k]).bZ), .slice B_10_9_6 ((pxV ((kq : Nat) : Int) x.aD[k]).aQ.length) c_10_9_6], hE aO 178 gf191 cL k [.int .i64 ((pxV ((kq : Nat) : Int) x.aD[k]).bT), .bool ((pxV ((kq : Nat) : Int) x.aD[k]).Up), .slice B_10_9_2 ((pxV ((kq : Nat) : Int) x.aD[k]).aH.length) c_10_9_2, .int .i64 ((pxV ((kq : Nat) : Int) x.aD[k]).Next), .slice B_10_9_4 ((pxV ((kq : Nat) : Int) x.aD[k]).aI.length) c_10_9_4, .int .i64 ((pxV ((kq : Nat) : Int) x.aD[k]).bZ), .slice B_10_9_6 ((pxV ((kq : Nat) : Int) x.aD[k]).aQ.length) c_10_9_6] x.aD, hB g_10_13 178 #[.int .i64 ((pxV ((kq : Nat) : Int) x.aD[k]).bT), .bool ((pxV ((kq : Nat) : Int) x.aD[k]).Up), .slice B_10_9_2 ((pxV ((kq : Nat) : Int) x.aD[k]).aH.length) c_10_9_2, .int .i64 ((pxV ((kq : Nat) : Int) x.aD[k]).Next), .slice B_10_9_4 ((pxV ((kq : Nat) : Int) x.aD[k]).aI.length) c_10_9_4, .int .i64 ((pxV ((kq : Nat) : Int) x.aD[k]).bZ), .slice B_10_9_6 ((pxV ((kq : Nat) : Int) x.aD[k]).aQ.length) c_10_9_6], hR aJ 171 (.slice (some ⟨gf60, 0, none⟩) x.aA.length cE) x.aA, hB g_0_1 72 #[.int .i64 (0), .int .i64 (0)], hB g 68 #[.int .i64 (x.Id), .slice (some ⟨gf60, 0, none⟩) x.aA.length cE, .slice AS x.Loop.length cS, .slice (some ⟨gf191, 0, none⟩) x.aD.length cL, .slice AO x.Out.length cO], hR aX 235 (.slice AS x.Loop.length cS) x.Loop, hR aP 147 (.slice AO x.Out.length cO) x.Out] W252 := H258.swap (l0 := [hR bC 256 (.slice B_10_9_2 ((pxV ((kq : Nat) : Int) x.aD[k]).aH.length) c_10_9_2) ((pxV ((kq : Nat) : Int) x.aD[k]).aH), hR aU 289 (.slice B_10_9_4 ((pxV ((kq : Nat) : Int) x.aD[k]).aI.length) c_10_9_4) ((pxV ((kq : Nat) : Int) x.aD[k]).aI), hR aU 289 (.slice B_10_9_6 ((pxV ((kq : Nat) : Int) x.aD[k]).aQ.length) c_10_9_6) ((pxV ((kq : Nat) : Int) x.aD[k]).aQ)]) (l' := [hM aO (pxV ((kq : Nat) : Int) x.aD[k]) [.int .i64 ((pxV ((kq : Nat) : Int) x.aD[k]).bT), .bool ((pxV ((kq : Nat) : Int) x.aD[k]).Up), .slice B_10_9_2 ((pxV ((kq : Nat) : Int) x.aD[k]).aH.length) c_10_9_2, .int .i64 ((pxV ((kq : Nat) : Int) x.aD[k]).Next), .slice B_10_9_4 ((pxV ((kq : Nat) : Int) x.aD[k]).aI.length) c_10_9_4, .int .i64 ((pxV ((kq : Nat) : Int) x.aD[k]).bZ), .slice B_10_9_6 ((pxV ((kq : Nat) : Int) x.aD[k]).aQ.length) c_10_9_6]]) (fun _ h => Star.one (lM (x := (pxV ((kq : Nat) : Int) x.aD[k])) h)); clear H258
    have H260 : St w F0 [hE aO 178 gf191 cL k [.int .i64 ((pxV ((kq : Nat) : Int) x.aD[k]).bT), .bool ((pxV ((kq : Nat) : Int) x.aD[k]).Up), .slice B_10_9_2 ((pxV ((kq : Nat) : Int) x.aD[k]).aH.length) c_10_9_2, .int .i64 ((pxV ((kq : Nat) : Int) x.aD[k]).Next), .slice B_10_9_4 ((pxV ((kq : Nat) : Int) x.aD[k]).aI.length) c_10_9_4, .int .i64 ((pxV ((kq : Nat) : Int) x.aD[k]).bZ), .slice B_10_9_6 ((pxV ((kq : Nat) : Int) x.aD[k]).aQ.length) c_10_9_6] x.aD, hM aO (pxV ((kq : Nat) : Int) x.aD[k]) [.int .i64 ((pxV ((kq : Nat) : Int) x.aD[k]).bT), .bool ((pxV ((kq : Nat) : Int) x.aD[k]).Up), .slice B_10_9_2 ((pxV ((kq : Nat) : Int) x.aD[k]).aH.length) c_10_9_2, .int .i64 ((pxV ((kq : Nat) : Int) x.aD[k]).Next), .slice B_10_9_4 ((pxV ((kq : Nat) : Int) x.aD[k]).aI.length) c_10_9_4, .int .i64 ((pxV ((kq : Nat) : Int) x.aD[k]).bZ), .slice B_10_9_6 ((pxV ((kq : Nat) : Int) x.aD[k]).aQ.length) c_10_9_6], hB g_10_13 178 #[.int .i64 ((pxV ((kq : Nat) : Int) x.aD[k]).bT), .bool ((pxV ((kq : Nat) : Int) x.aD[k]).Up), .slice B_10_9_2 ((pxV ((kq : Nat) : Int) x.aD[k]).aH.length) c_10_9_2, .int .i64 ((pxV ((kq : Nat) : Int) x.aD[k]).Next), .slice B_10_9_4 ((pxV ((kq : Nat) : Int) x.aD[k]).aI.length) c_10_9_4, .int .i64 ((pxV ((kq : Nat) : Int) x.aD[k]).bZ), .slice B_10_9_6 ((pxV ((kq : Nat) : Int) x.aD[k]).aQ.length) c_10_9_6], hR aJ 171 (.slice (some ⟨gf60, 0, none⟩) x.aA.length cE) x.aA, hB g_0_1 72 #[.int .i64 (0), .int .i64 (0)], hB g 68 #[.int .i64 (x.Id), .slice (some ⟨gf60, 0, none⟩) x.aA.length cE, .slice AS x.Loop.length cS, .slice (some ⟨gf191, 0, none⟩) x.aD.length cL, .slice AO x.Out.length cO], hR aX 235 (.slice AS x.Loop.length cS) x.Loop, hR aP 147 (.slice AO x.Out.length cO) x.Out] W252 := H259.pick [1, 0, 2, 3, 4, 5, 6, 7] kD rfl; clear H259
    have H261 : St w F0 [hR aO 178 (.slice (some ⟨gf191, 0, none⟩) x.aD.length cL) (x.aD.set k (pxV ((kq : Nat) : Int) x.aD[k])), hB g_10_13 178 #[.int .i64 ((pxV ((kq : Nat) : Int) x.aD[k]).bT), .bool ((pxV ((kq : Nat) : Int) x.aD[k]).Up), .slice B_10_9_2 ((pxV ((kq : Nat) : Int) x.aD[k]).aH.length) c_10_9_2, .int .i64 ((pxV ((kq : Nat) : Int) x.aD[k]).Next), .slice B_10_9_4 ((pxV ((kq : Nat) : Int) x.aD[k]).aI.length) c_10_9_4, .int .i64 ((pxV ((kq : Nat) : Int) x.aD[k]).bZ), .slice B_10_9_6 ((pxV ((kq : Nat) : Int) x.aD[k]).aQ.length) c_10_9_6], hR aJ 171 (.slice (some ⟨gf60, 0, none⟩) x.aA.length cE) x.aA, hB g_0_1 72 #[.int .i64 (0), .int .i64 (0)], hB g 68 #[.int .i64 (x.Id), .slice (some ⟨gf60, 0, none⟩) x.aA.length cE, .slice AS x.Loop.length cS, .slice (some ⟨gf191, 0, none⟩) x.aD.length cL, .slice AO x.Out.length cO], hR aX 235 (.slice AS x.Loop.length cS) x.Loop, hR aP 147 (.slice AO x.Out.length cO) x.Out] W252 := H260.closeG rfl (List.length_set ..).symm; clear H260
    refine aM ?_
    refine wp_seq ?_
    refine aS [0, 1, 2] rfl ?_
    refine aB ?_
    refine aC rfl (aK rfl) rfl rfl ?_
    refine aB ?_
    refine aC rfl (fJ (vs := [(0, .int .i64 (1)), (1, .int .i64 ((pxN ((kq : Nat) : Int) x.aD[k].aH x.aD[k].Next)))]) (cells := #[.int .i64 (1), .int .i64 ((pxN ((kq : Nat) : Int) x.aD[k].aH x.aD[k].Next))]) rfl kR) rfl rfl ?_
    refine aB ?_
    have H265 : St w F0 [hB g_0_1 72 #[.int .i64 (0), .int .i64 (0)], hR aO 178 (.slice (some ⟨gf191, 0, none⟩) x.aD.length cL) (x.aD.set k (pxV ((kq : Nat) : Int) x.aD[k])), hB g_10_13 178 #[.int .i64 ((pxV ((kq : Nat) : Int) x.aD[k]).bT), .bool ((pxV ((kq : Nat) : Int) x.aD[k]).Up), .slice B_10_9_2 ((pxV ((kq : Nat) : Int) x.aD[k]).aH.length) c_10_9_2, .int .i64 ((pxV ((kq : Nat) : Int) x.aD[k]).Next), .slice B_10_9_4 ((pxV ((kq : Nat) : Int) x.aD[k]).aI.length) c_10_9_4, .int .i64 ((pxV ((kq : Nat) : Int) x.aD[k]).bZ), .slice B_10_9_6 ((pxV ((kq : Nat) : Int) x.aD[k]).aQ.length) c_10_9_6], hR aJ 171 (.slice (some ⟨gf60, 0, none⟩) x.aA.length cE) x.aA, hB g 68 #[.int .i64 (x.Id), .slice (some ⟨gf60, 0, none⟩) x.aA.length cE, .slice AS x.Loop.length cS, .slice (some ⟨gf191, 0, none⟩) x.aD.length cL, .slice AO x.Out.length cO], hR aX 235 (.slice AS x.Loop.length cS) x.Loop, hR aP 147 (.slice AO x.Out.length cO) x.Out] W252 := H261.pick [3, 0, 1, 2, 4, 5, 6] kD rfl; clear H261
    refine aR rfl Tryz.sizeOf72 rfl rfl rfl rfl kS H265 ?_
    intro W262 hu263 Ha264; clear H265; clear hu263
    refine aN ?_
    refine aM ?_
    refine wp_ret ?_
    obtain ⟨e1, e2⟩ := tw_put x.aA x.aD p kq hkq hup kO k hk hf
    refine eP (.inl rfl) Tryz.results129 Tryz.isAgg72 Tryz.sizeOf72 rfl (Ha264.blk 0 rfl) rfl ?_
    rw [e1, e2]
    rw [List.length_set]
    exact ⟨(some ⟨gf191, 0, none⟩), cL, rfl, Ha264.pick [4, 3, 5, 1, 6] kD rfl⟩
theorem l13To_s (x : GVat) (p k0 n0 : Int) (g cE cS cL cO : Nat) (AE AS AL AO : Option Addr) (F0 : Nat → Prop) (w : World) (h : Star [hB g 68 #[.int .i64 x.Id, .slice AE x.aA.length cE, .slice AS x.Loop.length cS, .slice AL (x.aD).length cL, .slice AO x.Out.length cO], hR aJ 171 (.slice AE x.aA.length cE) x.aA, hR aX 235 (.slice AS x.Loop.length cS) x.Loop, hR aO 178 (.slice AL (x.aD).length cL) (x.aD), hR aP 147 (.slice AO x.Out.length cO) x.Out] w F0) (hs : bR x ≤ 4194304) : Calls Tryz.prog 129 #[.pointer (some ⟨g, 0, none⟩), .int .i64 p, .agg #[.int .i64 k0, .int .i64 n0]] w (fun e' w' => ∃ A c, e' = .returned (.agg #[.int .i64 (twW x.aA x.aD p (dW x.aA (x.aA.length + 1) k0 n0)).Kind, .int .i64 (twW x.aA x.aD p (dW x.aA (x.aA.length + 1) k0 n0)).N]) ∧ St w F0 [hB g 68 #[.int .i64 x.Id, .slice AE x.aA.length cE, .slice AS x.Loop.length cS, .slice A (twL x.aA x.aD p (dW x.aA (x.aA.length + 1) k0 n0)).length c, .slice AO x.Out.length cO], hR aJ 171 (.slice AE x.aA.length cE) x.aA, hR aX 235 (.slice AS x.Loop.length cS) x.Loop, hR aO 178 (.slice A (twL x.aA x.aD p (dW x.aA (x.aA.length + 1) k0 n0)).length c) (twL x.aA x.aD p (dW x.aA (x.aA.length + 1) k0 n0)), hR aP 147 (.slice AO x.Out.length cO) x.Out] w') := by
 generalize hlk : dW x.aA (x.aA.length + 1) k0 n0 = u
 obtain ⟨uk, un⟩ := u
 by_cases h0 : uk = 0
 ·subst h0
  by_cases hr : 0 ≤ un ∧ un ≤ 999999
  ·exact l13To_a x p k0 n0 g cE cS cL cO AE AS AL AO F0 w h hs un hlk hr
  ·exact l13To_b x p k0 n0 g cE cS cL cO AE AS AL AO F0 w h hs un hlk hr
 ·by_cases h1 : uk = 1
  ·subst h1
   by_cases hr : 0 ≤ un ∧ un < (x.aA.length : Int)
   ·obtain ⟨kq, rfl⟩ : ∃ kq : Nat, un = kq := ⟨un.toNat, by omega⟩
    have hkq : kq < x.aA.length := by omega
    cases hup : x.aD.any (upP p)
    ·exact l13To_e x p k0 n0 g cE cS cL cO AE AS AL AO F0 w h hs kq hlk hkq hup
    ·obtain ⟨k, hk, hf⟩ := up_pe p x.aD hup
     exact l13To_f x p k0 n0 g cE cS cL cO AE AS AL AO F0 w h hs kq hlk hkq hup k hk hf
   ·exact l13To_d x p k0 n0 g cE cS cL cO AE AS AL AO F0 w h hs un hlk hr
  ·exact l13To_c x p k0 n0 g cE cS cL cO AE AS AL AO F0 w h hs uk un hlk h0 h1
theorem toWire_i (le : List GEntity) (ll : List GLink) (p k0 n0 : Int) (g cE cL : Nat) (AE AL : Option Addr) (u0 u2 u4 : Value) (F0 : Nat → Prop) (w : World) (h : Star [hB g 68 #[u0, .slice AE le.length cE, u2, .slice AL (ll).length cL, u4], hR aJ 171 (.slice AE le.length cE) le, hR aO 178 (.slice AL (ll).length cL) (ll)] w F0) (hne : le.length ≤ 4194304) (hbl : ∀ (q : Nat) (h : q < ll.length), ll[q].aH.length ≤ 4194304) : Calls Tryz.prog 130 #[.pointer (some ⟨g, 0, none⟩), .int .i64 p, .agg #[.int .i64 k0, .int .i64 n0]] w (fun e' w' => ∃ A c, e' = .returned (.agg #[.int .i64 (twW le ll p (dW le (le.length + 1) k0 n0)).Kind, .int .i64 (twW le ll p (dW le (le.length + 1) k0 n0)).N]) ∧ St w F0 [hB g 68 #[u0, .slice AE le.length cE, u2, .slice A (twL le ll p (dW le (le.length + 1) k0 n0)).length c, u4], hR aJ 171 (.slice AE le.length cE) le, hR aO 178 (.slice A (twL le ll p (dW le (le.length + 1) k0 n0)).length c) (twL le ll p (dW le (le.length + 1) k0 n0))] w') := by
 generalize hlk : dW le (le.length + 1) k0 n0 = u
 obtain ⟨uk, un⟩ := u
 cases hup : ll.any (upP p)
 ·exact toWire_no le ll p k0 n0 uk un g cE cL AE AL u0 u2 u4 F0 w h hne hbl hlk hup
 ·obtain ⟨k, hk, hf⟩ := up_pe p ll hup
  exact toWire_yes le ll p k0 n0 uk un g cE cL AE AL u0 u2 u4 F0 w h hne hbl hlk hup k hk hf
end Go.Proofs.YtfnedoiplblldaaGreatFam
namespace Go.Proofs.YtfnedoiplblldaaGreatFam
open Go.ChangeShapes Go.WideShapes Go.RowKit Go.Proofs.YtfnedoiplblldaaGreatSep Go.Proofs.YtfnedoiplblldaaGreatT Go.Proofs.YtfnedoiplblldaaGreatK
set_option linter.unusedVariables false
set_option linter.unusedSimpArgs false
attribute [local irreducible] wpOps wpOp
def RetAW {α : Type} (d : Kn α) (x : α) (q : GWire) (w : World) (e : Ending) (w' : World) : Prop := ∃ cs, e = .returned (.tuple #[.agg cs.toArray, .agg #[.int .i64 q.Kind, .int .i64 q.N]]) ∧ d.M w' (New w) x cs ∧ Upd No w w'
def twU (v : GValue) (x : GVat) : GValue := dW x.aA (x.aA.length + 1) v.Kind v.N
def twV (p : Int) (v : GValue) (x : GVat) : GVat := ⟨x.Id, x.aA, x.Loop, twL x.aA x.aD p (twU v x), x.Out⟩
def twR (p : Int) (v : GValue) (x : GVat) : GWire := twW x.aA x.aD p (twU v x)
theorem sumS_zero {α : Type} (s : α → Nat) (hs : ∀ x, s x = 0) : ∀ l : List α, gX s l = 0
 | [] => rfl
 | x :: l => by
  have h := sumS_zero s hs l
  have h2 := hs x
  simp only [gX]
  omega
theorem sumS_setB {α : Type} (s : α → Nat) (y : α) : ∀ (l : List α) (k : Nat), gX s (l.set k y) ≤ gX s l + s y
 | [], k => by simp [gX]
 | x :: l, 0 => by
  simp only [List.set_cons_zero, gX]
  omega
 | x :: l, k + 1 => by
  have := sumS_setB s y l k
  simp only [List.set_cons_succ, gX]
  omega
theorem pxV_sz (n : Int) (x : GLink) : bQ (pxV n x) ≤ bQ x + 1 := by
 have h1 := px_len n x.aH x.Next
 have h2 := sumS_zero fK (fun _ => rfl) (pxL n x.aH x.Next)
 have h3 := sumS_zero fK (fun _ => rfl) x.aH
 unfold bQ pxV
 simp only [bN]
 omega
theorem twK_sz (ll : List GLink) (p : Int) : bQ (twK ll p) ≤ gX bQ ll := by
 unfold twK
 rw [List.getD_eq_getElem?_getD]
 cases h : ll[(fidx (peP p) 0 ll).toNat]? with
 | none => exact Nat.zero_le _
 | some y =>
  obtain ⟨hk, rfl⟩ := List.getElem?_eq_some_iff.1 h
  exact gT bQ ll _ hk
theorem twL_sz (le : List GEntity) (ll : List GLink) (p : Int) (u : GValue) : bN bQ (twL le ll p u) ≤ 2 * bN bQ ll + 1 := by
 unfold twL
 split
 ·omega
 ·split
  ·split
   ·omega
   ·have h1 := sumS_setB bQ (pxV u.N (twK ll p)) ll (fidx (peP p) 0 ll).toNat
    have h2 := pxV_sz u.N (twK ll p)
    have h3 := twK_sz ll p
    unfold bN
    rw [List.length_set]
    omega
  ·omega
theorem twV_bd (p : Int) (v : GValue) (x : GVat) (h : bR x ≤ 1048576) : bR (twV p v x) ≤ 4194304 := by
 have h1 := twL_sz x.aA x.aD p (twU v x)
 unfold bR at h ⊢
 simp only [twV]
 omega
section
variable {P : Program} {n : Nat} {x : Nat → Value} {live : List (Nat × Value)} {W : World}
theorem post_cell_cell {fn : Func} {e : Exit} {p t g tb m p2 t2 g2 tb2 m2 : Nat} {cs cs2 : Array Value} {R : Ending → World → Prop} (he : e = .ret ∨ e = .normal) (hr : fn.results = #[.cell p t, .cell p2 t2]) (hA : ∀ w, (isAgg t).run P w = .ok true w) (hS : ∀ w, (sizeOf t).run P w = .ok m w) (hA2 : ∀ w, (isAgg t2).run P w = .ok true w) (hS2 : ∀ w, (sizeOf t2).run P w = .ok m2 w) (hx : evl n live (.tmp p) = some (.pointer (some ⟨g, 0, none⟩))) (hx2 : evl n live (.tmp p2) = some (.pointer (some ⟨g2, 0, none⟩))) (hb : Blk W g tb cs) (hm : cs.size = m) (hb2 : Blk W g2 tb2 cs2) (hm2 : cs2.size = m2) (h : R (.returned (.tuple #[.agg cs, .agg cs2])) W) : bodyPost P fn R e (bO n x live) W := by
 have e2 : (bO n x live).tmps.getD p undef = .pointer (some ⟨g, 0, none⟩) := fG (y := .tmp p) hx
 have e3 : (bO n x live).tmps.getD p2 undef = .pointer (some ⟨g2, 0, none⟩) := fG (y := .tmp p2) hx2
 have hl := run_cell hA hS hb hm
 have hl2 := run_cell hA2 hS2 hb2 hm2
 have hrun : (results fn (bO n x live).tmps).run P W = .ok (.tuple #[.agg cs, .agg cs2]) W := by
  simp only [results, hr]
  simp at e2 e3
  simp [e2, e3, asAddr, hl, hl2]
 rcases he with rfl | rfl <;> exact ⟨rfl, _, hrun, h⟩
end
end Go.Proofs.YtfnedoiplblldaaGreatFam
namespace Go.Proofs.YtfnedoiplblldaaGreatT
open Go.Proofs.YtfnedoiplblldaaGreatSep
theorem oG (x : GVat) : 0 ≤ bL x := by
 have h1 := fE dN jK x.aA
 have h2 := fE dJ iU x.Loop
 have h3 := fE dZ kW x.aD
 have h4 := fE cK iO x.Out
 unfold bL
 omega
theorem oH (x : GVat) : bL x ≤ 20 * (bR x : Int) := by
 have h1 := gN dN dD cnt_Entity_le x.aA
 have h2 := gN dJ dX cnt_Sent_le x.Loop
 have h3 := gN dZ bQ cnt_Link_le x.aD
 have h4 := gN cK dH cnt_Outgoing_le x.Out
 unfold bL bR
 omega
end Go.Proofs.YtfnedoiplblldaaGreatT
namespace Go.Proofs.YtfnedoiplblldaaGreatOpen
open Go.ChangeShapes Go.WideShapes Go.Proofs.YtfnedoiplblldaaGreatSep
structure Opens {α : Type} (P : Program) (t : TypeId) (d : Kn α) (G : α → Prop) : Prop where
 out : ∀ {H : Type} (enc : TypeId × Value → H) (w : World) (base : Nat) (spare : Nat → Bool) (held : Bool) (fuel : Nat) (cs : List Value) (x : DataW H × List MemPlace),
  DataW.trod enc P w base spare held fuel t cs = some x → ∃ v, d.K w v cs ∧ G v
structure OpensFs {α : Type} (P : Program) (fs : List Field) (off : Nat) (d : Kn α) (G : α → Prop) : Prop where
 out : ∀ {H : Type} (enc : TypeId × Value → H) (w : World) (base : Nat) (spare : Nat → Bool) (held : Bool) (fuel : Nat) (cs : List Value), cs.length = off + d.sz →
  (∀ f ∈ fs, ∃ x, DataW.trod enc P w base spare held fuel f.type ((cs.drop f.offset).take (P.cellsOf f.type)) = some x) → ∃ v, d.K w v (cs.drop off) ∧ G v
section
variable {P : Program} {t e : TypeId}
theorem eF (ht : P.underlying t = some (.int .i64)) : Opens P t Kn.int (fun n => (Lit.int .i64 n).wf = true) := by
 refine ⟨?_⟩
 intro H enc w base spare held fuel cs x h
 obtain ⟨n, rfl, _, hw⟩ := DataW.trod_int ht h
 exact ⟨n, rfl, hw⟩
theorem opens_bool (ht : P.underlying t = some .bool) : Opens P t Kn.bool (fun _ => True) := by
 refine ⟨?_⟩
 intro H enc w base spare held fuel cs x h
 obtain ⟨n, rfl, _⟩ := DataW.trod_bool ht h
 exact ⟨n, rfl, trivial⟩
theorem opens_string (ht : P.underlying t = some .string) : Opens P t Kn.string (fun s => s.size ≤ 9223372036854775807) := by
 refine ⟨?_⟩
 intro H enc w base spare held fuel cs x h
 obtain ⟨s, rfl, _, hw⟩ := DataW.trod_string ht h
 exact ⟨s, rfl, by simpa [maxLen] using hw⟩
theorem gQ {α : Type} {d : Kn α} {G : α → Prop} (z : α) (ht : P.underlying t = some (.slice e)) (hc : P.cellsOf e = d.sz) (he : Opens P e d G) :
 Opens P t (Kn.slice e d) (fun l => l.length ≤ 9223372036854775807 ∧ ∀ x ∈ l, G x) := by
 refine ⟨?_⟩
 intro H enc w base spare held fuel cs x h
 rcases Go.Deep.open_slice ht h with ⟨rfl, _⟩ | ⟨a, len, cap, m, n, D, Pl, rfl, _, hl, hm, hmm, _, hx⟩
 ·exact ⟨[], ⟨none, 0, rfl, Nat.le_refl _, by simp, fun h => absurd h (Nat.lt_irrefl 0)⟩, by simp, by simp⟩
 have hle : len ≤ m := by rw [hmm]; split <;> omega
 have hm' : cap ≤ 9223372036854775807 := by simpa [maxLen] using hm
 haveI : Inhabited α := ⟨z⟩
 obtain ⟨V, hV⟩ := Go.Deep.choose_lt (α := α) (n := len) (p := fun i v => ∃ cs', w.cells? base (a.add (i * P.cellsOf e)) (P.cellsOf e) = some cs' ∧ d.K w v cs' ∧ G v) (fun i hi => by
  obtain ⟨cs', h1, h2⟩ := hx i kO
  obtain ⟨v, hk, hg⟩ := he.out enc w base spare held n cs' _ h2
  exact ⟨v, cs', h1, hk, hg⟩)
 have hlen : ((List.range len).map V).length = len := by simp
 refine ⟨(List.range len).map V, ⟨some a, cap, by rw [hlen], by rw [hlen]; exact hl, by rw [hlen]; omega, fun _ => ⟨a, rfl, fun j p hj => ?_⟩⟩, by rw [hlen]; omega, ?_⟩
 ·obtain ⟨hj1, hj2⟩ := List.getElem?_eq_some_iff.1 hj
  have hj3 : j < len := by rw [hlen] at hj1; exact hj1
  have hp : V j = p := by simpa using hj2
  subst hp
  obtain ⟨cs', h1, hk, _⟩ := hV j hj3
  rw [hc] at h1
  obtain ⟨_, h2, h3⟩ := World.cells?_some h1
  refine ⟨cs', hk, fun i u hu => ?_⟩
  have hi : i < d.sz := by rw [← h2]; exact (List.getElem?_eq_some_iff.1 hu).1
  have := h3 i hi
  rw [hu, Go.Deep.add_add] at this
  exact this
 ·intro x hx
  obtain ⟨j, hj, rfl⟩ := List.mem_map.1 hx
  obtain ⟨_, _, _, hg⟩ := hV j (List.mem_range.1 hj)
  exact hg
theorem jE {α β : Type} {d : Kn α} {G : α → Prop} (f : β → α) (g : α → β) (hfg : ∀ y, f (g y) = y) (h : Opens P t d G) : Opens P t (Kn.iso d f) (fun x => G (f x)) := by
 refine ⟨?_⟩
 intro H enc w base spare held fuel cs x hx
 obtain ⟨v, hk, hg⟩ := h.out enc w base spare held fuel cs x hx
 refine ⟨g v, ?_, ?_⟩
 ·show d.K w (f (g v)) cs
  rw [hfg]
  exact hk
 ·show G (f (g v))
  rw [hfg]
  exact hg
theorem gY {α : Type} {d : Kn α} {G : α → Prop} {f : Field} {off : Nat} (ho : f.offset = off) (hc : P.cellsOf f.type = d.sz) (h : Opens P f.type d G) : OpensFs P [f] off d G := by
 refine ⟨?_⟩
 intro H enc w base spare held fuel cs hl hf
 obtain ⟨x, hx⟩ := hf f (List.mem_singleton.2 rfl)
 rw [hc, ho, List.take_of_length_le (by rw [List.length_drop]; omega)] at hx
 exact h.out enc w base spare held fuel _ x hx
theorem bY {α β : Type} {a : Kn α} {b : Kn β} {G : α → Prop} {G' : β → Prop} {f : Field} {fs : List Field} {off : Nat} (ho : f.offset = off) (hc : P.cellsOf f.type = a.sz) (h : Opens P f.type a G)
 (h' : OpensFs P fs (off + a.sz) b G') : OpensFs P (f :: fs) off (Kn.pair a b) (fun x => G x.1 ∧ G' x.2) := by
 refine ⟨?_⟩
 intro H enc w base spare held fuel cs hl hf
 have hl' : cs.length = off + (a.sz + b.sz) := hl
 obtain ⟨x, hx⟩ := hf f List.mem_cons_self
 rw [hc, ho] at hx
 obtain ⟨v, hk, hg⟩ := h.out enc w base spare held fuel _ x hx
 obtain ⟨v', hk', hg'⟩ := h'.out enc w base spare held fuel cs kO (fun f hm => hf f (List.mem_cons_of_mem _ hm))
 exact ⟨(v, v'), ⟨_, _, by rw [← List.drop_drop]; exact (List.take_append_drop _ _).symm, hk, hk'⟩, hg, hg'⟩
theorem gL {α : Type} {d : Kn α} {G : α → Prop} {fs : List Field} (ht : P.underlying t = some (.struct fs.toArray)) (hc : P.cellsOf t = d.sz) (h : OpensFs P fs 0 d G) : Opens P t d G := by
 refine ⟨?_⟩
 intro H enc w base spare held fuel cs x hx
 obtain ⟨xs, n, _, _, hl, hlen, hf⟩ := DataW.trod_struct ht hx
 refine h.out enc w base spare held n cs (by rw [hl, hc, Nat.zero_add]) (fun f hm => ?_)
 obtain ⟨i, hi, rfl⟩ := List.mem_iff_getElem.1 hm
 have h1 := hf i fs[i] (by simp [hi])
 have hi' : i < xs.length := by rw [hlen]; simpa using hi
 exact ⟨xs[i], by rw [h1, List.getElem?_eq_getElem hi']⟩
theorem arg_slice {H : Type} {enc : TypeId × Value → H} {w : World} {base : Nat} {spare : Nat → Bool} {held : Bool} {α : Type} {d : Kn α} {G : List α → Prop} {a : Option Addr} {len cap : Nat} {dd : DataW H} {ps : List MemPlace}
 (h : Opens P t (Kn.slice e d) G) (hd : DataW.Trod enc P w base spare held t (.slice a len cap) dd ps) :
 ∃ l : List α, len = l.length ∧ l.length ≤ cap ∧ C d w a l ∧ G l := by
 obtain ⟨fuel, hf⟩ := hd
 obtain ⟨l, ⟨A, c, he, hl, hC⟩, hg⟩ := h.out enc w base spare held fuel _ _ hf
 simp [Value.cells] at he
 obtain ⟨rfl, rfl, rfl⟩ := he
 exact ⟨l, rfl, hl, hC, hg⟩
theorem arg_struct {H : Type} {enc : TypeId × Value → H} {w : World} {base : Nat} {spare : Nat → Bool} {held : Bool} {α : Type} {d : Kn α} {G : α → Prop} {cs : Array Value} {dd : DataW H} {ps : List MemPlace}
 (h : Opens P t d G) (hd : DataW.Trod enc P w base spare held t (.agg cs) dd ps) : ∃ x : α, d.K w x cs.toList ∧ G x := by
 obtain ⟨fuel, hf⟩ := hd
 exact h.out enc w base spare held fuel _ _ hf
end
end Go.Proofs.YtfnedoiplblldaaGreatOpen
namespace Go.Proofs.YtfnedoiplblldaaGreatK
open Go.RowKit Go.Proofs.YtfnedoiplblldaaGreatSep Go.Proofs.YtfnedoiplblldaaGreatT Go.Proofs.YtfnedoiplblldaaGreatOpen
theorem nE : Opens Tryz.prog 92 gB gP := by
 have h : Opens Tryz.prog 92 (Kn.pair Kn.int Kn.int) (fun p : Int × Int => (fun q : Int => (Lit.int .i64 q).wf = true) p.1 ∧ (fun p : Int => (Lit.int .i64 p).wf = true) p.2) := by
  refine gL Tryz.underlying92 kR ?_
  refine bY (G := fun q : Int => (Lit.int .i64 q).wf = true) (G' := fun p : Int => (Lit.int .i64 p).wf = true) ?_ ?_ ?_ ?_
  ·rfl
  ·kernel_rfl
  ·exact (eF Tryz.underlying3)
  refine gY ?_ ?_ ?_
  ·rfl
  ·kernel_rfl
  ·exact (eF Tryz.underlying3)
 exact jE (fun x : GValue => (x.Kind, x.N)) (fun p => ⟨p.1, p.2⟩) (fun _ => rfl) h
theorem opens_Tag : Opens Tryz.prog 29 kl_Tag kV := by
 have h : Opens Tryz.prog 29 (Kn.pair Kn.int (Kn.pair Kn.int Kn.int)) (fun p : Int × Int × Int => (fun q : Int => (Lit.int .i64 q).wf = true) p.1 ∧ (fun p : Int × Int => (fun q : Int => (Lit.int .i64 q).wf = true) p.1 ∧ (fun p : Int => (Lit.int .i64 p).wf = true) p.2) p.2) := by
  refine gL Tryz.underlying29 kR ?_
  refine bY (G := fun q : Int => (Lit.int .i64 q).wf = true) (G' := fun p : Int × Int => (fun q : Int => (Lit.int .i64 q).wf = true) p.1 ∧ (fun p : Int => (Lit.int .i64 p).wf = true) p.2) ?_ ?_ ?_ ?_
  ·rfl
  ·kernel_rfl
  ·exact (eF Tryz.underlying3)
  refine bY (G := fun q : Int => (Lit.int .i64 q).wf = true) (G' := fun p : Int => (Lit.int .i64 p).wf = true) ?_ ?_ ?_ ?_
  ·rfl
  ·kernel_rfl
  ·exact (eF Tryz.underlying3)
  refine gY ?_ ?_ ?_
  ·rfl
  ·kernel_rfl
  ·exact (eF Tryz.underlying3)
 exact jE (fun x : GTag => (x.Vat, x.Entity, x.Seq)) (fun p => ⟨p.1, p.2.1, p.2.2⟩) (fun _ => rfl) h
theorem opens_Sent : Opens Tryz.prog 221 jN jZ := by
 have h : Opens Tryz.prog 221 (Kn.pair Kn.int (Kn.pair Kn.string (Kn.pair (Kn.slice 92 gB) (Kn.pair Kn.int kl_Tag)))) (fun p : Int × ByteArray × List GValue × Int × GTag => (fun q : Int => (Lit.int .i64 q).wf = true) p.1 ∧ (fun p : ByteArray × List GValue × Int × GTag => (fun q : ByteArray => q.size ≤ 9223372036854775807) p.1 ∧ (fun p : List GValue × Int × GTag => (fun q : List GValue => (q.length ≤ 9223372036854775807 ∧ ∀ y ∈ q, gP y)) p.1 ∧ (fun p : Int × GTag => (fun q : Int => (Lit.int .i64 q).wf = true) p.1 ∧ (fun p : GTag => kV p) p.2) p.2) p.2) p.2) := by
  refine gL Tryz.underlying221 kR ?_
  refine bY (G := fun q : Int => (Lit.int .i64 q).wf = true) (G' := fun p : ByteArray × List GValue × Int × GTag => (fun q : ByteArray => q.size ≤ 9223372036854775807) p.1 ∧ (fun p : List GValue × Int × GTag => (fun q : List GValue => (q.length ≤ 9223372036854775807 ∧ ∀ y ∈ q, gP y)) p.1 ∧ (fun p : Int × GTag => (fun q : Int => (Lit.int .i64 q).wf = true) p.1 ∧ (fun p : GTag => kV p) p.2) p.2) p.2) ?_ ?_ ?_ ?_
  ·rfl
  ·kernel_rfl
  ·exact (eF Tryz.underlying3)
  refine bY (G := fun q : ByteArray => q.size ≤ 9223372036854775807) (G' := fun p : List GValue × Int × GTag => (fun q : List GValue => (q.length ≤ 9223372036854775807 ∧ ∀ y ∈ q, gP y)) p.1 ∧ (fun p : Int × GTag => (fun q : Int => (Lit.int .i64 q).wf = true) p.1 ∧ (fun p : GTag => kV p) p.2) p.2) ?_ ?_ ?_ ?_
  ·rfl
  ·kernel_rfl
  ·exact (opens_string Tryz.underlying9)
  refine bY (G := fun q : List GValue => (q.length ≤ 9223372036854775807 ∧ ∀ y ∈ q, gP y)) (G' := fun p : Int × GTag => (fun q : Int => (Lit.int .i64 q).wf = true) p.1 ∧ (fun p : GTag => kV p) p.2) ?_ ?_ ?_ ?_
  ·rfl
  ·kernel_rfl
  ·exact (gQ zValue Tryz.underlying81 kR nE)
  refine bY (G := fun q : Int => (Lit.int .i64 q).wf = true) (G' := fun p : GTag => kV p) ?_ ?_ ?_ ?_
  ·rfl
  ·kernel_rfl
  ·exact (eF Tryz.underlying3)
  refine gY ?_ ?_ ?_
  ·rfl
  ·kernel_rfl
  ·exact opens_Tag
 exact jE (fun x : GSent => (x.Target, x.Name, x.dI, x.Result, x.Tag)) (fun p => ⟨p.1, p.2.1, p.2.2.1, p.2.2.2.1, p.2.2.2.2⟩) (fun _ => rfl) h
theorem opens_Asker : Opens Tryz.prog 304 kI lI := by
 have h : Opens Tryz.prog 304 (Kn.pair Kn.int Kn.int) (fun p : Int × Int => (fun q : Int => (Lit.int .i64 q).wf = true) p.1 ∧ (fun p : Int => (Lit.int .i64 p).wf = true) p.2) := by
  refine gL Tryz.underlying304 kR ?_
  refine bY (G := fun q : Int => (Lit.int .i64 q).wf = true) (G' := fun p : Int => (Lit.int .i64 p).wf = true) ?_ ?_ ?_ ?_
  ·rfl
  ·kernel_rfl
  ·exact (eF Tryz.underlying3)
  refine gY ?_ ?_ ?_
  ·rfl
  ·kernel_rfl
  ·exact (eF Tryz.underlying3)
 exact jE (fun x : GAsker => (x.bT, x.Question)) (fun p => ⟨p.1, p.2⟩) (fun _ => rfl) h
theorem opens_Entity : Opens Tryz.prog 218 jR nI := by
 have h : Opens Tryz.prog 218 (Kn.pair Kn.int (Kn.pair Kn.int (Kn.pair (Kn.slice 92 gB) (Kn.pair Kn.int (Kn.pair gB (Kn.pair (Kn.slice 221 jN) (Kn.pair (Kn.slice 304 kI) (Kn.pair Kn.int (Kn.pair Kn.int (Kn.pair Kn.int Kn.int)))))))))) (fun p : Int × Int × List GValue × Int × GValue × List GSent × List GAsker × Int × Int × Int × Int => (fun q : Int => (Lit.int .i64 q).wf = true) p.1 ∧ (fun p : Int × List GValue × Int × GValue × List GSent × List GAsker × Int × Int × Int × Int => (fun q : Int => (Lit.int .i64 q).wf = true) p.1 ∧ (fun p : List GValue × Int × GValue × List GSent × List GAsker × Int × Int × Int × Int => (fun q : List GValue => (q.length ≤ 9223372036854775807 ∧ ∀ y ∈ q, gP y)) p.1 ∧ (fun p : Int × GValue × List GSent × List GAsker × Int × Int × Int × Int => (fun q : Int => (Lit.int .i64 q).wf = true) p.1 ∧ (fun p : GValue × List GSent × List GAsker × Int × Int × Int × Int => (fun q : GValue => gP q) p.1 ∧ (fun p : List GSent × List GAsker × Int × Int × Int × Int => (fun q : List GSent => (q.length ≤ 9223372036854775807 ∧ ∀ y ∈ q, jZ y)) p.1 ∧ (fun p : List GAsker × Int × Int × Int × Int => (fun q : List GAsker => (q.length ≤ 9223372036854775807 ∧ ∀ y ∈ q, lI y)) p.1 ∧ (fun p : Int × Int × Int × Int => (fun q : Int => (Lit.int .i64 q).wf = true) p.1 ∧ (fun p : Int × Int × Int => (fun q : Int => (Lit.int .i64 q).wf = true) p.1 ∧ (fun p : Int × Int => (fun q : Int => (Lit.int .i64 q).wf = true) p.1 ∧ (fun p : Int => (Lit.int .i64 p).wf = true) p.2) p.2) p.2) p.2) p.2) p.2) p.2) p.2) p.2) p.2) := by
  refine gL Tryz.underlying218 kR ?_
  refine bY (G := fun q : Int => (Lit.int .i64 q).wf = true) (G' := fun p : Int × List GValue × Int × GValue × List GSent × List GAsker × Int × Int × Int × Int => (fun q : Int => (Lit.int .i64 q).wf = true) p.1 ∧ (fun p : List GValue × Int × GValue × List GSent × List GAsker × Int × Int × Int × Int => (fun q : List GValue => (q.length ≤ 9223372036854775807 ∧ ∀ y ∈ q, gP y)) p.1 ∧ (fun p : Int × GValue × List GSent × List GAsker × Int × Int × Int × Int => (fun q : Int => (Lit.int .i64 q).wf = true) p.1 ∧ (fun p : GValue × List GSent × List GAsker × Int × Int × Int × Int => (fun q : GValue => gP q) p.1 ∧ (fun p : List GSent × List GAsker × Int × Int × Int × Int => (fun q : List GSent => (q.length ≤ 9223372036854775807 ∧ ∀ y ∈ q, jZ y)) p.1 ∧ (fun p : List GAsker × Int × Int × Int × Int => (fun q : List GAsker => (q.length ≤ 9223372036854775807 ∧ ∀ y ∈ q, lI y)) p.1 ∧ (fun p : Int × Int × Int × Int => (fun q : Int => (Lit.int .i64 q).wf = true) p.1 ∧ (fun p : Int × Int × Int => (fun q : Int => (Lit.int .i64 q).wf = true) p.1 ∧ (fun p : Int × Int => (fun q : Int => (Lit.int .i64 q).wf = true) p.1 ∧ (fun p : Int => (Lit.int .i64 p).wf = true) p.2) p.2) p.2) p.2) p.2) p.2) p.2) p.2) p.2) ?_ ?_ ?_ ?_
  ·rfl
  ·kernel_rfl
  ·exact (eF Tryz.underlying3)
  refine bY (G := fun q : Int => (Lit.int .i64 q).wf = true) (G' := fun p : List GValue × Int × GValue × List GSent × List GAsker × Int × Int × Int × Int => (fun q : List GValue => (q.length ≤ 9223372036854775807 ∧ ∀ y ∈ q, gP y)) p.1 ∧ (fun p : Int × GValue × List GSent × List GAsker × Int × Int × Int × Int => (fun q : Int => (Lit.int .i64 q).wf = true) p.1 ∧ (fun p : GValue × List GSent × List GAsker × Int × Int × Int × Int => (fun q : GValue => gP q) p.1 ∧ (fun p : List GSent × List GAsker × Int × Int × Int × Int => (fun q : List GSent => (q.length ≤ 9223372036854775807 ∧ ∀ y ∈ q, jZ y)) p.1 ∧ (fun p : List GAsker × Int × Int × Int × Int => (fun q : List GAsker => (q.length ≤ 9223372036854775807 ∧ ∀ y ∈ q, lI y)) p.1 ∧ (fun p : Int × Int × Int × Int => (fun q : Int => (Lit.int .i64 q).wf = true) p.1 ∧ (fun p : Int × Int × Int => (fun q : Int => (Lit.int .i64 q).wf = true) p.1 ∧ (fun p : Int × Int => (fun q : Int => (Lit.int .i64 q).wf = true) p.1 ∧ (fun p : Int => (Lit.int .i64 p).wf = true) p.2) p.2) p.2) p.2) p.2) p.2) p.2) p.2) ?_ ?_ ?_ ?_
  ·rfl
  ·kernel_rfl
  ·exact (eF Tryz.underlying3)
  refine bY (G := fun q : List GValue => (q.length ≤ 9223372036854775807 ∧ ∀ y ∈ q, gP y)) (G' := fun p : Int × GValue × List GSent × List GAsker × Int × Int × Int × Int => (fun q : Int => (Lit.int .i64 q).wf = true) p.1 ∧ (fun p : GValue × List GSent × List GAsker × Int × Int × Int × Int => (fun q : GValue => gP q) p.1 ∧ (fun p : List GSent × List GAsker × Int × Int × Int × Int => (fun q : List GSent => (q.length ≤ 9223372036854775807 ∧ ∀ y ∈ q, jZ y)) p.1 ∧ (fun p : List GAsker × Int × Int × Int × Int => (fun q : List GAsker => (q.length ≤ 9223372036854775807 ∧ ∀ y ∈ q, lI y)) p.1 ∧ (fun p : Int × Int × Int × Int => (fun q : Int => (Lit.int .i64 q).wf = true) p.1 ∧ (fun p : Int × Int × Int => (fun q : Int => (Lit.int .i64 q).wf = true) p.1 ∧ (fun p : Int × Int => (fun q : Int => (Lit.int .i64 q).wf = true) p.1 ∧ (fun p : Int => (Lit.int .i64 p).wf = true) p.2) p.2) p.2) p.2) p.2) p.2) p.2) ?_ ?_ ?_ ?_
  ·rfl
  ·kernel_rfl
  ·exact (gQ zValue Tryz.underlying81 kR nE)
  refine bY (G := fun q : Int => (Lit.int .i64 q).wf = true) (G' := fun p : GValue × List GSent × List GAsker × Int × Int × Int × Int => (fun q : GValue => gP q) p.1 ∧ (fun p : List GSent × List GAsker × Int × Int × Int × Int => (fun q : List GSent => (q.length ≤ 9223372036854775807 ∧ ∀ y ∈ q, jZ y)) p.1 ∧ (fun p : List GAsker × Int × Int × Int × Int => (fun q : List GAsker => (q.length ≤ 9223372036854775807 ∧ ∀ y ∈ q, lI y)) p.1 ∧ (fun p : Int × Int × Int × Int => (fun q : Int => (Lit.int .i64 q).wf = true) p.1 ∧ (fun p : Int × Int × Int => (fun q : Int => (Lit.int .i64 q).wf = true) p.1 ∧ (fun p : Int × Int => (fun q : Int => (Lit.int .i64 q).wf = true) p.1 ∧ (fun p : Int => (Lit.int .i64 p).wf = true) p.2) p.2) p.2) p.2) p.2) p.2) ?_ ?_ ?_ ?_
  ·rfl
  ·kernel_rfl
  ·exact (eF Tryz.underlying3)
  refine bY (G := fun q : GValue => gP q) (G' := fun p : List GSent × List GAsker × Int × Int × Int × Int => (fun q : List GSent => (q.length ≤ 9223372036854775807 ∧ ∀ y ∈ q, jZ y)) p.1 ∧ (fun p : List GAsker × Int × Int × Int × Int => (fun q : List GAsker => (q.length ≤ 9223372036854775807 ∧ ∀ y ∈ q, lI y)) p.1 ∧ (fun p : Int × Int × Int × Int => (fun q : Int => (Lit.int .i64 q).wf = true) p.1 ∧ (fun p : Int × Int × Int => (fun q : Int => (Lit.int .i64 q).wf = true) p.1 ∧ (fun p : Int × Int => (fun q : Int => (Lit.int .i64 q).wf = true) p.1 ∧ (fun p : Int => (Lit.int .i64 p).wf = true) p.2) p.2) p.2) p.2) p.2) ?_ ?_ ?_ ?_
  ·rfl
  ·kernel_rfl
  ·exact nE
  refine bY (G := fun q : List GSent => (q.length ≤ 9223372036854775807 ∧ ∀ y ∈ q, jZ y)) (G' := fun p : List GAsker × Int × Int × Int × Int => (fun q : List GAsker => (q.length ≤ 9223372036854775807 ∧ ∀ y ∈ q, lI y)) p.1 ∧ (fun p : Int × Int × Int × Int => (fun q : Int => (Lit.int .i64 q).wf = true) p.1 ∧ (fun p : Int × Int × Int => (fun q : Int => (Lit.int .i64 q).wf = true) p.1 ∧ (fun p : Int × Int => (fun q : Int => (Lit.int .i64 q).wf = true) p.1 ∧ (fun p : Int => (Lit.int .i64 p).wf = true) p.2) p.2) p.2) p.2) ?_ ?_ ?_ ?_
  ·rfl
  ·kernel_rfl
  ·exact (gQ zSent Tryz.underlying51 kR opens_Sent)
  refine bY (G := fun q : List GAsker => (q.length ≤ 9223372036854775807 ∧ ∀ y ∈ q, lI y)) (G' := fun p : Int × Int × Int × Int => (fun q : Int => (Lit.int .i64 q).wf = true) p.1 ∧ (fun p : Int × Int × Int => (fun q : Int => (Lit.int .i64 q).wf = true) p.1 ∧ (fun p : Int × Int => (fun q : Int => (Lit.int .i64 q).wf = true) p.1 ∧ (fun p : Int => (Lit.int .i64 p).wf = true) p.2) p.2) p.2) ?_ ?_ ?_ ?_
  ·rfl
  ·kernel_rfl
  ·exact (gQ zAsker Tryz.underlying216 kR opens_Asker)
  refine bY (G := fun q : Int => (Lit.int .i64 q).wf = true) (G' := fun p : Int × Int × Int => (fun q : Int => (Lit.int .i64 q).wf = true) p.1 ∧ (fun p : Int × Int => (fun q : Int => (Lit.int .i64 q).wf = true) p.1 ∧ (fun p : Int => (Lit.int .i64 p).wf = true) p.2) p.2) ?_ ?_ ?_ ?_
  ·rfl
  ·kernel_rfl
  ·exact (eF Tryz.underlying3)
  refine bY (G := fun q : Int => (Lit.int .i64 q).wf = true) (G' := fun p : Int × Int => (fun q : Int => (Lit.int .i64 q).wf = true) p.1 ∧ (fun p : Int => (Lit.int .i64 p).wf = true) p.2) ?_ ?_ ?_ ?_
  ·rfl
  ·kernel_rfl
  ·exact (eF Tryz.underlying3)
  refine bY (G := fun q : Int => (Lit.int .i64 q).wf = true) (G' := fun p : Int => (Lit.int .i64 p).wf = true) ?_ ?_ ?_ ?_
  ·rfl
  ·kernel_rfl
  ·exact (eF Tryz.underlying3)
  refine gY ?_ ?_ ?_
  ·rfl
  ·kernel_rfl
  ·exact (eF Tryz.underlying3)
 exact jE (fun x : GEntity => (x.Kind, x.Script, x.dP, x.State, x.Value, x.Queue, x.bS, x.bT, x.Pos, x.Count, x.iN)) (fun p => ⟨p.1, p.2.1, p.2.2.1, p.2.2.2.1, p.2.2.2.2.1, p.2.2.2.2.2.1, p.2.2.2.2.2.2.1, p.2.2.2.2.2.2.2.1, p.2.2.2.2.2.2.2.2.1, p.2.2.2.2.2.2.2.2.2.1, p.2.2.2.2.2.2.2.2.2.2⟩) (fun _ => rfl) h
theorem opens_Export : Opens Tryz.prog 306 jD nJ := by
 have h : Opens Tryz.prog 306 (Kn.pair Kn.int (Kn.pair Kn.int Kn.int)) (fun p : Int × Int × Int => (fun q : Int => (Lit.int .i64 q).wf = true) p.1 ∧ (fun p : Int × Int => (fun q : Int => (Lit.int .i64 q).wf = true) p.1 ∧ (fun p : Int => (Lit.int .i64 p).wf = true) p.2) p.2) := by
  refine gL Tryz.underlying306 kR ?_
  refine bY (G := fun q : Int => (Lit.int .i64 q).wf = true) (G' := fun p : Int × Int => (fun q : Int => (Lit.int .i64 q).wf = true) p.1 ∧ (fun p : Int => (Lit.int .i64 p).wf = true) p.2) ?_ ?_ ?_ ?_
  ·rfl
  ·kernel_rfl
  ·exact (eF Tryz.underlying3)
  refine bY (G := fun q : Int => (Lit.int .i64 q).wf = true) (G' := fun p : Int => (Lit.int .i64 p).wf = true) ?_ ?_ ?_ ?_
  ·rfl
  ·kernel_rfl
  ·exact (eF Tryz.underlying3)
  refine gY ?_ ?_ ?_
  ·rfl
  ·kernel_rfl
  ·exact (eF Tryz.underlying3)
 exact jE (fun x : GExport => (x.Pos, x.Entity, x.Count)) (fun p => ⟨p.1, p.2.1, p.2.2⟩) (fun _ => rfl) h
theorem opens_Question : Opens Tryz.prog 308 fP fQ := by
 have h : Opens Tryz.prog 308 (Kn.pair Kn.int Kn.int) (fun p : Int × Int => (fun q : Int => (Lit.int .i64 q).wf = true) p.1 ∧ (fun p : Int => (Lit.int .i64 p).wf = true) p.2) := by
  refine gL Tryz.underlying308 kR ?_
  refine bY (G := fun q : Int => (Lit.int .i64 q).wf = true) (G' := fun p : Int => (Lit.int .i64 p).wf = true) ?_ ?_ ?_ ?_
  ·rfl
  ·kernel_rfl
  ·exact (eF Tryz.underlying3)
  refine gY ?_ ?_ ?_
  ·rfl
  ·kernel_rfl
  ·exact (eF Tryz.underlying3)
 exact jE (fun x : GQuestion => (x.Id, x.Promise)) (fun p => ⟨p.1, p.2⟩) (fun _ => rfl) h
theorem opens_Link : Opens Tryz.prog 226 mH Gd_Link := by
 have h : Opens Tryz.prog 226 (Kn.pair Kn.int (Kn.pair Kn.bool (Kn.pair (Kn.slice 306 jD) (Kn.pair Kn.int (Kn.pair (Kn.slice 308 fP) (Kn.pair Kn.int (Kn.slice 308 fP))))))) (fun p : Int × Bool × List GExport × Int × List GQuestion × Int × List GQuestion => (fun q : Int => (Lit.int .i64 q).wf = true) p.1 ∧ (fun p : Bool × List GExport × Int × List GQuestion × Int × List GQuestion => (fun q : Bool => True) p.1 ∧ (fun p : List GExport × Int × List GQuestion × Int × List GQuestion => (fun q : List GExport => (q.length ≤ 9223372036854775807 ∧ ∀ y ∈ q, nJ y)) p.1 ∧ (fun p : Int × List GQuestion × Int × List GQuestion => (fun q : Int => (Lit.int .i64 q).wf = true) p.1 ∧ (fun p : List GQuestion × Int × List GQuestion => (fun q : List GQuestion => (q.length ≤ 9223372036854775807 ∧ ∀ y ∈ q, fQ y)) p.1 ∧ (fun p : Int × List GQuestion => (fun q : Int => (Lit.int .i64 q).wf = true) p.1 ∧ (fun p : List GQuestion => (p.length ≤ 9223372036854775807 ∧ ∀ y ∈ p, fQ y)) p.2) p.2) p.2) p.2) p.2) p.2) := by
  refine gL Tryz.underlying226 kR ?_
  refine bY (G := fun q : Int => (Lit.int .i64 q).wf = true) (G' := fun p : Bool × List GExport × Int × List GQuestion × Int × List GQuestion => (fun q : Bool => True) p.1 ∧ (fun p : List GExport × Int × List GQuestion × Int × List GQuestion => (fun q : List GExport => (q.length ≤ 9223372036854775807 ∧ ∀ y ∈ q, nJ y)) p.1 ∧ (fun p : Int × List GQuestion × Int × List GQuestion => (fun q : Int => (Lit.int .i64 q).wf = true) p.1 ∧ (fun p : List GQuestion × Int × List GQuestion => (fun q : List GQuestion => (q.length ≤ 9223372036854775807 ∧ ∀ y ∈ q, fQ y)) p.1 ∧ (fun p : Int × List GQuestion => (fun q : Int => (Lit.int .i64 q).wf = true) p.1 ∧ (fun p : List GQuestion => (p.length ≤ 9223372036854775807 ∧ ∀ y ∈ p, fQ y)) p.2) p.2) p.2) p.2) p.2) ?_ ?_ ?_ ?_
  ·rfl
  ·kernel_rfl
  ·exact (eF Tryz.underlying3)
  refine bY (G := fun q : Bool => True) (G' := fun p : List GExport × Int × List GQuestion × Int × List GQuestion => (fun q : List GExport => (q.length ≤ 9223372036854775807 ∧ ∀ y ∈ q, nJ y)) p.1 ∧ (fun p : Int × List GQuestion × Int × List GQuestion => (fun q : Int => (Lit.int .i64 q).wf = true) p.1 ∧ (fun p : List GQuestion × Int × List GQuestion => (fun q : List GQuestion => (q.length ≤ 9223372036854775807 ∧ ∀ y ∈ q, fQ y)) p.1 ∧ (fun p : Int × List GQuestion => (fun q : Int => (Lit.int .i64 q).wf = true) p.1 ∧ (fun p : List GQuestion => (p.length ≤ 9223372036854775807 ∧ ∀ y ∈ p, fQ y)) p.2) p.2) p.2) p.2) ?_ ?_ ?_ ?_
  ·rfl
  ·kernel_rfl
  ·exact (opens_bool Tryz.underlying4)
  refine bY (G := fun q : List GExport => (q.length ≤ 9223372036854775807 ∧ ∀ y ∈ q, nJ y)) (G' := fun p : Int × List GQuestion × Int × List GQuestion => (fun q : Int => (Lit.int .i64 q).wf = true) p.1 ∧ (fun p : List GQuestion × Int × List GQuestion => (fun q : List GQuestion => (q.length ≤ 9223372036854775807 ∧ ∀ y ∈ q, fQ y)) p.1 ∧ (fun p : Int × List GQuestion => (fun q : Int => (Lit.int .i64 q).wf = true) p.1 ∧ (fun p : List GQuestion => (p.length ≤ 9223372036854775807 ∧ ∀ y ∈ p, fQ y)) p.2) p.2) p.2) ?_ ?_ ?_ ?_
  ·rfl
  ·kernel_rfl
  ·exact (gQ zExport Tryz.underlying223 kR opens_Export)
  refine bY (G := fun q : Int => (Lit.int .i64 q).wf = true) (G' := fun p : List GQuestion × Int × List GQuestion => (fun q : List GQuestion => (q.length ≤ 9223372036854775807 ∧ ∀ y ∈ q, fQ y)) p.1 ∧ (fun p : Int × List GQuestion => (fun q : Int => (Lit.int .i64 q).wf = true) p.1 ∧ (fun p : List GQuestion => (p.length ≤ 9223372036854775807 ∧ ∀ y ∈ p, fQ y)) p.2) p.2) ?_ ?_ ?_ ?_
  ·rfl
  ·kernel_rfl
  ·exact (eF Tryz.underlying3)
  refine bY (G := fun q : List GQuestion => (q.length ≤ 9223372036854775807 ∧ ∀ y ∈ q, fQ y)) (G' := fun p : Int × List GQuestion => (fun q : Int => (Lit.int .i64 q).wf = true) p.1 ∧ (fun p : List GQuestion => (p.length ≤ 9223372036854775807 ∧ ∀ y ∈ p, fQ y)) p.2) ?_ ?_ ?_ ?_
  ·rfl
  ·kernel_rfl
  ·exact (gQ lY Tryz.underlying224 kR opens_Question)
  refine bY (G := fun q : Int => (Lit.int .i64 q).wf = true) (G' := fun p : List GQuestion => (p.length ≤ 9223372036854775807 ∧ ∀ y ∈ p, fQ y)) ?_ ?_ ?_ ?_
  ·rfl
  ·kernel_rfl
  ·exact (eF Tryz.underlying3)
  refine gY ?_ ?_ ?_
  ·rfl
  ·kernel_rfl
  ·exact (gQ lY Tryz.underlying224 kR opens_Question)
 exact jE (fun x : GLink => (x.bT, x.Up, x.aH, x.Next, x.aI, x.bZ, x.aQ)) (fun p => ⟨p.1, p.2.1, p.2.2.1, p.2.2.2.1, p.2.2.2.2.1, p.2.2.2.2.2.1, p.2.2.2.2.2.2⟩) (fun _ => rfl) h
theorem opens_Wire : Opens Tryz.prog 58 jO jA := by
 have h : Opens Tryz.prog 58 (Kn.pair Kn.int Kn.int) (fun p : Int × Int => (fun q : Int => (Lit.int .i64 q).wf = true) p.1 ∧ (fun p : Int => (Lit.int .i64 p).wf = true) p.2) := by
  refine gL Tryz.underlying58 kR ?_
  refine bY (G := fun q : Int => (Lit.int .i64 q).wf = true) (G' := fun p : Int => (Lit.int .i64 p).wf = true) ?_ ?_ ?_ ?_
  ·rfl
  ·kernel_rfl
  ·exact (eF Tryz.underlying3)
  refine gY ?_ ?_ ?_
  ·rfl
  ·kernel_rfl
  ·exact (eF Tryz.underlying3)
 exact jE (fun x : GWire => (x.Kind, x.N)) (fun p => ⟨p.1, p.2⟩) (fun _ => rfl) h
theorem opens_Message : Opens Tryz.prog 60 lW nM := by
 have h : Opens Tryz.prog 60 (Kn.pair Kn.int (Kn.pair Kn.int (Kn.pair Kn.int (Kn.pair Kn.int (Kn.pair Kn.string (Kn.pair (Kn.slice 58 jO) (Kn.pair jO (Kn.pair Kn.int kl_Tag)))))))) (fun p : Int × Int × Int × Int × ByteArray × List GWire × GWire × Int × GTag => (fun q : Int => (Lit.int .i64 q).wf = true) p.1 ∧ (fun p : Int × Int × Int × ByteArray × List GWire × GWire × Int × GTag => (fun q : Int => (Lit.int .i64 q).wf = true) p.1 ∧ (fun p : Int × Int × ByteArray × List GWire × GWire × Int × GTag => (fun q : Int => (Lit.int .i64 q).wf = true) p.1 ∧ (fun p : Int × ByteArray × List GWire × GWire × Int × GTag => (fun q : Int => (Lit.int .i64 q).wf = true) p.1 ∧ (fun p : ByteArray × List GWire × GWire × Int × GTag => (fun q : ByteArray => q.size ≤ 9223372036854775807) p.1 ∧ (fun p : List GWire × GWire × Int × GTag => (fun q : List GWire => (q.length ≤ 9223372036854775807 ∧ ∀ y ∈ q, jA y)) p.1 ∧ (fun p : GWire × Int × GTag => (fun q : GWire => jA q) p.1 ∧ (fun p : Int × GTag => (fun q : Int => (Lit.int .i64 q).wf = true) p.1 ∧ (fun p : GTag => kV p) p.2) p.2) p.2) p.2) p.2) p.2) p.2) p.2) := by
  refine gL Tryz.underlying60 kR ?_
  refine bY (G := fun q : Int => (Lit.int .i64 q).wf = true) (G' := fun p : Int × Int × Int × ByteArray × List GWire × GWire × Int × GTag => (fun q : Int => (Lit.int .i64 q).wf = true) p.1 ∧ (fun p : Int × Int × ByteArray × List GWire × GWire × Int × GTag => (fun q : Int => (Lit.int .i64 q).wf = true) p.1 ∧ (fun p : Int × ByteArray × List GWire × GWire × Int × GTag => (fun q : Int => (Lit.int .i64 q).wf = true) p.1 ∧ (fun p : ByteArray × List GWire × GWire × Int × GTag => (fun q : ByteArray => q.size ≤ 9223372036854775807) p.1 ∧ (fun p : List GWire × GWire × Int × GTag => (fun q : List GWire => (q.length ≤ 9223372036854775807 ∧ ∀ y ∈ q, jA y)) p.1 ∧ (fun p : GWire × Int × GTag => (fun q : GWire => jA q) p.1 ∧ (fun p : Int × GTag => (fun q : Int => (Lit.int .i64 q).wf = true) p.1 ∧ (fun p : GTag => kV p) p.2) p.2) p.2) p.2) p.2) p.2) p.2) ?_ ?_ ?_ ?_
  ·rfl
  ·kernel_rfl
  ·exact (eF Tryz.underlying3)
  refine bY (G := fun q : Int => (Lit.int .i64 q).wf = true) (G' := fun p : Int × Int × ByteArray × List GWire × GWire × Int × GTag => (fun q : Int => (Lit.int .i64 q).wf = true) p.1 ∧ (fun p : Int × ByteArray × List GWire × GWire × Int × GTag => (fun q : Int => (Lit.int .i64 q).wf = true) p.1 ∧ (fun p : ByteArray × List GWire × GWire × Int × GTag => (fun q : ByteArray => q.size ≤ 9223372036854775807) p.1 ∧ (fun p : List GWire × GWire × Int × GTag => (fun q : List GWire => (q.length ≤ 9223372036854775807 ∧ ∀ y ∈ q, jA y)) p.1 ∧ (fun p : GWire × Int × GTag => (fun q : GWire => jA q) p.1 ∧ (fun p : Int × GTag => (fun q : Int => (Lit.int .i64 q).wf = true) p.1 ∧ (fun p : GTag => kV p) p.2) p.2) p.2) p.2) p.2) p.2) ?_ ?_ ?_ ?_
  ·rfl
  ·kernel_rfl
  ·exact (eF Tryz.underlying3)
  refine bY (G := fun q : Int => (Lit.int .i64 q).wf = true) (G' := fun p : Int × ByteArray × List GWire × GWire × Int × GTag => (fun q : Int => (Lit.int .i64 q).wf = true) p.1 ∧ (fun p : ByteArray × List GWire × GWire × Int × GTag => (fun q : ByteArray => q.size ≤ 9223372036854775807) p.1 ∧ (fun p : List GWire × GWire × Int × GTag => (fun q : List GWire => (q.length ≤ 9223372036854775807 ∧ ∀ y ∈ q, jA y)) p.1 ∧ (fun p : GWire × Int × GTag => (fun q : GWire => jA q) p.1 ∧ (fun p : Int × GTag => (fun q : Int => (Lit.int .i64 q).wf = true) p.1 ∧ (fun p : GTag => kV p) p.2) p.2) p.2) p.2) p.2) ?_ ?_ ?_ ?_
  ·rfl
  ·kernel_rfl
  ·exact (eF Tryz.underlying3)
  refine bY (G := fun q : Int => (Lit.int .i64 q).wf = true) (G' := fun p : ByteArray × List GWire × GWire × Int × GTag => (fun q : ByteArray => q.size ≤ 9223372036854775807) p.1 ∧ (fun p : List GWire × GWire × Int × GTag => (fun q : List GWire => (q.length ≤ 9223372036854775807 ∧ ∀ y ∈ q, jA y)) p.1 ∧ (fun p : GWire × Int × GTag => (fun q : GWire => jA q) p.1 ∧ (fun p : Int × GTag => (fun q : Int => (Lit.int .i64 q).wf = true) p.1 ∧ (fun p : GTag => kV p) p.2) p.2) p.2) p.2) ?_ ?_ ?_ ?_
  ·rfl
  ·kernel_rfl
  ·exact (eF Tryz.underlying3)
  refine bY (G := fun q : ByteArray => q.size ≤ 9223372036854775807) (G' := fun p : List GWire × GWire × Int × GTag => (fun q : List GWire => (q.length ≤ 9223372036854775807 ∧ ∀ y ∈ q, jA y)) p.1 ∧ (fun p : GWire × Int × GTag => (fun q : GWire => jA q) p.1 ∧ (fun p : Int × GTag => (fun q : Int => (Lit.int .i64 q).wf = true) p.1 ∧ (fun p : GTag => kV p) p.2) p.2) p.2) ?_ ?_ ?_ ?_
  ·rfl
  ·kernel_rfl
  ·exact (opens_string Tryz.underlying9)
  refine bY (G := fun q : List GWire => (q.length ≤ 9223372036854775807 ∧ ∀ y ∈ q, jA y)) (G' := fun p : GWire × Int × GTag => (fun q : GWire => jA q) p.1 ∧ (fun p : Int × GTag => (fun q : Int => (Lit.int .i64 q).wf = true) p.1 ∧ (fun p : GTag => kV p) p.2) p.2) ?_ ?_ ?_ ?_
  ·rfl
  ·kernel_rfl
  ·exact (gQ zWire Tryz.underlying56 kR opens_Wire)
  refine bY (G := fun q : GWire => jA q) (G' := fun p : Int × GTag => (fun q : Int => (Lit.int .i64 q).wf = true) p.1 ∧ (fun p : GTag => kV p) p.2) ?_ ?_ ?_ ?_
  ·rfl
  ·kernel_rfl
  ·exact opens_Wire
  refine bY (G := fun q : Int => (Lit.int .i64 q).wf = true) (G' := fun p : GTag => kV p) ?_ ?_ ?_ ?_
  ·rfl
  ·kernel_rfl
  ·exact (eF Tryz.underlying3)
  refine gY ?_ ?_ ?_
  ·rfl
  ·kernel_rfl
  ·exact opens_Tag
 exact jE (fun x : GMessage => (x.Kind, x.Pos, x.eU, x.Question, x.Name, x.dI, x.Value, x.Count, x.Tag)) (fun p => ⟨p.1, p.2.1, p.2.2.1, p.2.2.2.1, p.2.2.2.2.1, p.2.2.2.2.2.1, p.2.2.2.2.2.2.1, p.2.2.2.2.2.2.2.1, p.2.2.2.2.2.2.2.2⟩) (fun _ => rfl) h
theorem opens_Outgoing : Opens Tryz.prog 229 iH jT := by
 have h : Opens Tryz.prog 229 (Kn.pair Kn.int lW) (fun p : Int × GMessage => (fun q : Int => (Lit.int .i64 q).wf = true) p.1 ∧ (fun p : GMessage => nM p) p.2) := by
  refine gL Tryz.underlying229 kR ?_
  refine bY (G := fun q : Int => (Lit.int .i64 q).wf = true) (G' := fun p : GMessage => nM p) ?_ ?_ ?_ ?_
  ·rfl
  ·kernel_rfl
  ·exact (eF Tryz.underlying3)
  refine gY ?_ ?_ ?_
  ·rfl
  ·kernel_rfl
  ·exact opens_Message
 exact jE (fun x : GOutgoing => (x.To, x.Message)) (fun p => ⟨p.1, p.2⟩) (fun _ => rfl) h
theorem opens_Vat : Opens Tryz.prog 55 kl_Vat Gd_Vat := by
 have h : Opens Tryz.prog 55 (Kn.pair Kn.int (Kn.pair (Kn.slice 218 jR) (Kn.pair (Kn.slice 221 jN) (Kn.pair (Kn.slice 226 mH) (Kn.slice 229 iH))))) (fun p : Int × List GEntity × List GSent × List GLink × List GOutgoing => (fun q : Int => (Lit.int .i64 q).wf = true) p.1 ∧ (fun p : List GEntity × List GSent × List GLink × List GOutgoing => (fun q : List GEntity => (q.length ≤ 9223372036854775807 ∧ ∀ y ∈ q, nI y)) p.1 ∧ (fun p : List GSent × List GLink × List GOutgoing => (fun q : List GSent => (q.length ≤ 9223372036854775807 ∧ ∀ y ∈ q, jZ y)) p.1 ∧ (fun p : List GLink × List GOutgoing => (fun q : List GLink => (q.length ≤ 9223372036854775807 ∧ ∀ y ∈ q, Gd_Link y)) p.1 ∧ (fun p : List GOutgoing => (p.length ≤ 9223372036854775807 ∧ ∀ y ∈ p, jT y)) p.2) p.2) p.2) p.2) := by
  refine gL Tryz.underlying55 kR ?_
  refine bY (G := fun q : Int => (Lit.int .i64 q).wf = true) (G' := fun p : List GEntity × List GSent × List GLink × List GOutgoing => (fun q : List GEntity => (q.length ≤ 9223372036854775807 ∧ ∀ y ∈ q, nI y)) p.1 ∧ (fun p : List GSent × List GLink × List GOutgoing => (fun q : List GSent => (q.length ≤ 9223372036854775807 ∧ ∀ y ∈ q, jZ y)) p.1 ∧ (fun p : List GLink × List GOutgoing => (fun q : List GLink => (q.length ≤ 9223372036854775807 ∧ ∀ y ∈ q, Gd_Link y)) p.1 ∧ (fun p : List GOutgoing => (p.length ≤ 9223372036854775807 ∧ ∀ y ∈ p, jT y)) p.2) p.2) p.2) ?_ ?_ ?_ ?_
  ·rfl
  ·kernel_rfl
  ·exact (eF Tryz.underlying3)
  refine bY (G := fun q : List GEntity => (q.length ≤ 9223372036854775807 ∧ ∀ y ∈ q, nI y)) (G' := fun p : List GSent × List GLink × List GOutgoing => (fun q : List GSent => (q.length ≤ 9223372036854775807 ∧ ∀ y ∈ q, jZ y)) p.1 ∧ (fun p : List GLink × List GOutgoing => (fun q : List GLink => (q.length ≤ 9223372036854775807 ∧ ∀ y ∈ q, Gd_Link y)) p.1 ∧ (fun p : List GOutgoing => (p.length ≤ 9223372036854775807 ∧ ∀ y ∈ p, jT y)) p.2) p.2) ?_ ?_ ?_ ?_
  ·rfl
  ·kernel_rfl
  ·exact (gQ jG Tryz.underlying50 kR opens_Entity)
  refine bY (G := fun q : List GSent => (q.length ≤ 9223372036854775807 ∧ ∀ y ∈ q, jZ y)) (G' := fun p : List GLink × List GOutgoing => (fun q : List GLink => (q.length ≤ 9223372036854775807 ∧ ∀ y ∈ q, Gd_Link y)) p.1 ∧ (fun p : List GOutgoing => (p.length ≤ 9223372036854775807 ∧ ∀ y ∈ p, jT y)) p.2) ?_ ?_ ?_ ?_
  ·rfl
  ·kernel_rfl
  ·exact (gQ zSent Tryz.underlying51 kR opens_Sent)
  refine bY (G := fun q : List GLink => (q.length ≤ 9223372036854775807 ∧ ∀ y ∈ q, Gd_Link y)) (G' := fun p : List GOutgoing => (p.length ≤ 9223372036854775807 ∧ ∀ y ∈ p, jT y)) ?_ ?_ ?_ ?_
  ·rfl
  ·kernel_rfl
  ·exact (gQ zLink Tryz.underlying52 kR opens_Link)
  refine gY ?_ ?_ ?_
  ·rfl
  ·kernel_rfl
  ·exact (gQ mP Tryz.underlying53 kR opens_Outgoing)
 exact jE (fun x : GVat => (x.Id, x.aA, x.Loop, x.aD, x.Out)) (fun p => ⟨p.1, p.2.1, p.2.2.1, p.2.2.2.1, p.2.2.2.2⟩) (fun _ => rfl) h
end Go.Proofs.YtfnedoiplblldaaGreatK
