/- What the row needs, packed. No conditions beyond those that each law names. -/
import Derived.Test.YtfnedoiplblldaaGreatZtw5
import Derived.Test.YtfnedoiplblldaaGreatProg
import Derived.Test.YtfnedoiplblldaaGreatZtw1
namespace Go.Proofs.YtfnedoiplblldaaGreatFam
open Go.ChangeShapes Go.WideShapes Go.RowKit Go.Proofs.YtfnedoiplblldaaGreatSep Go.Proofs.YtfnedoiplblldaaGreatT Go.Proofs.YtfnedoiplblldaaGreatK
set_option linter.unusedVariables false
set_option linter.unusedSimpArgs false
attribute [local irreducible] wpOps wpOp
set_option maxHeartbeats 4000000
set_option maxRecDepth 100000
theorem gW (x : GVat) (p : Int) (v : GValue) (cs cv : List Value) (w : World) (h : aG.K w x cs) (hs : bR x ≤ 4194304) (h2 : aT.K w v cv) : Calls Tryz.prog 43 #[.agg cs.toArray, .int .i64 p, .agg cv.toArray] w (RetAW aG (twV p v x) (twR p v x) w) := by
 obtain ⟨Ax1, cx1, Ax2, cx2, Ax3, cx3, Ax4, cx4, rfl, hlx1, hCx1, hlx2, hCx2, hlx3, hCx3, hlx4, hCx4⟩ := kJ h
 have s_Entities : bN dD x.aA ≤ 4194304 := by unfold bR at hs; omega
 have n_Entities : x.aA.length ≤ 4194304 := by unfold bN at s_Entities; omega
 have s_Loop : bN dX x.Loop ≤ 4194304 := by unfold bR at hs; omega
 have n_Loop : x.Loop.length ≤ 4194304 := by unfold bN at s_Loop; omega
 have s_Links : bN bQ x.aD ≤ 4194304 := by unfold bR at hs; omega
 have n_Links : x.aD.length ≤ 4194304 := by unfold bN at s_Links; omega
 have s_Out : bN dH x.Out ≤ 4194304 := by unfold bR at hs; omega
 have n_Out : x.Out.length ≤ 4194304 := by unfold bN at s_Out; omega
 obtain rfl := j6 h2
 have hbl : ∀ (q : Nat) (h : q < x.aD.length), x.aD[q].aH.length ≤ 4194304 := by
  intro q hq
  have h1 := gT bQ x.aD q hq
  have h3 := s_Links
  unfold bN at h3
  have h4 : bQ x.aD[q] ≤ 4194304 := by omega
  have h5 : bN fK x.aD[q].aH ≤ 4194304 := by unfold bQ at h4; omega
  unfold bN at h5
  omega
 refine enter 17 [(0, .agg #[.int .i64 (x.Id), .slice Ax1 x.aA.length cx1, .slice Ax2 x.Loop.length cx2, .slice Ax3 x.aD.length cx3, .slice Ax4 x.Out.length cx4]), (1, .int .i64 (p)), (2, .agg #[.int .i64 (v.Kind), .int .i64 (v.N)])] Tryz.func43 rfl kR ?_
 intro xj
 have H1 : St w No [] w := St.enter
 refine wp_seq ?_
 refine aS [0, 1, 2, 3] rfl ?_
 refine aB ?_
 refine gG rfl rfl rfl rfl H1 ?_
 intro g_0_0 W2 hu3 Ha4; clear H1; clear hu3
 refine aB ?_
 refine gG rfl rfl rfl rfl Ha4 ?_
 intro g_0_1 W6 hu7 Ha8; clear Ha4; clear hu7
 refine aB ?_
 refine bA rfl Tryz.zeroValue68 rfl rfl Ha8 ?_
 intro g_0_2 W10 hu11 Ha12; clear Ha8; clear hu11
 refine aB ?_
 refine bA rfl Tryz.zeroValue72 rfl rfl Ha12 ?_
 intro g_0_3 W14 hu15 Ha16; clear Ha12; clear hu15
 refine aN ?_
 refine aM ?_
 refine wp_seq ?_
 refine aS [0, 1, 2, 3] rfl ?_
 refine aB ?_
 refine aC rfl (bI Tryz.isAgg68 Tryz.sizeOf68 rfl (Ha16.blk 3 rfl) rfl) rfl rfl ?_
 refine aB ?_
 refine aV rfl Tryz.call90 (vs := #[.agg #[.int .i64 (x.Id), .slice Ax1 x.aA.length cx1, .slice Ax2 x.Loop.length cx2, .slice Ax3 x.aD.length cx3, .slice Ax4 x.Out.length cx4]]) rfl rfl rfl (l12Copy_s x _ _ (fM _ x hlx1 (bK Ha16.1 hCx1) hlx2 (bK Ha16.1 hCx2) hlx3 (bK Ha16.1 hCx3) hlx4 (bK Ha16.1 hCx4)) hs) ?_
 rintro e23 W22 ⟨cs18, rfl, hM19, hu20⟩; refine ⟨_, rfl, ?_⟩
 obtain ⟨B_1_1_1, c_1_1_1, B_1_1_2, c_1_1_2, B_1_1_3, c_1_1_3, B_1_1_4, c_1_1_4, rfl, hst21⟩ := nY hM19
 have H24 := Ha16.news hu20 hst21; clear Ha16
 refine aB ?_
 refine bA rfl Tryz.zeroValue68 rfl rfl H24 ?_
 intro g_1_2 W25 hu26 Ha27; clear H24; clear hu26
 refine aB ?_
 refine aR rfl Tryz.sizeOf68 rfl rfl rfl rfl kS Ha27 ?_
 intro W29 hu30 Ha31; clear Ha27; clear hu30
 refine aN ?_
 refine aM ?_
 refine wp_seq ?_
 refine aS [0, 1, 2, 3, 4] rfl ?_
 refine aB ?_
 refine aC rfl (aK rfl) rfl rfl ?_
 refine aB ?_
 refine aC rfl (bI Tryz.isAgg95 Tryz.sizeOf95 rfl (Ha31.blk 7 rfl) rfl) rfl rfl ?_
 refine aB ?_
 obtain ⟨F33, hs34, _, hfr35⟩ := St.frame (l0 := [hB g_1_2 68 #[.int .i64 (x.Id), .slice B_1_1_1 x.aA.length c_1_1_1, .slice B_1_1_2 x.Loop.length c_1_1_2, .slice B_1_1_3 x.aD.length c_1_1_3, .slice B_1_1_4 x.Out.length c_1_1_4], hR aJ 171 (.slice B_1_1_1 x.aA.length c_1_1_1) x.aA, hR aX 235 (.slice B_1_1_2 x.Loop.length c_1_1_2) x.Loop, hR aO 178 (.slice B_1_1_3 x.aD.length c_1_1_3) x.aD, hR aP 147 (.slice B_1_1_4 x.Out.length c_1_1_4) x.Out]) (l := [hB g_0_3 72 #[.int .i64 (0), .int .i64 (0)], hB g_0_2 68 #[.int .i64 (0), .slice none 0 0, .slice none 0 0, .slice none 0 0, .slice none 0 0], hB g_0_1 95 #[.int .i64 (v.Kind), .int .i64 (v.N)], hB g_0_0 68 #[.int .i64 (x.Id), .slice Ax1 x.aA.length cx1, .slice Ax2 x.Loop.length cx2, .slice Ax3 x.aD.length cx3, .slice Ax4 x.Out.length cx4]]) Ha31
 refine aV rfl Tryz.call129 (vs := #[.pointer (some ⟨g_1_2, 0, none⟩), .int .i64 (p), .agg #[.int .i64 (v.Kind), .int .i64 (v.N)]]) rfl rfl rfl (l13To_s x p v.Kind v.N _ _ _ _ _ _ _ _ _ _ _ hs34 hs) ?_
 rintro e38 W37 ⟨A_2_2, c_2_2, rfl, Hn36⟩; refine ⟨_, rfl, ?_⟩
 have H39 := hfr35 _ _ Hn36; clear Ha31
 refine aB ?_
 refine bA rfl Tryz.zeroValue72 rfl rfl H39 ?_
 intro g_2_3 W40 hu41 Ha42; clear H39; clear hu41
 refine aB ?_
 refine aR rfl Tryz.sizeOf72 rfl rfl rfl rfl kS Ha42 ?_
 intro W44 hu45 Ha46; clear Ha42; clear hu45
 refine aN ?_
 refine aM ?_
 refine wp_seq ?_
 refine eH (fun W' => Blk W' g_1_2 68 #[.int .i64 (x.Id), .slice B_1_1_1 x.aA.length c_1_1_1, .slice B_1_1_2 x.Loop.length c_1_1_2, .slice A_2_2 ((twL x.aA x.aD p (dW x.aA (x.aA.length + 1) v.Kind v.N)).length) c_2_2, .slice B_1_1_4 x.Out.length c_1_1_4] ∧ Blk W' g_2_3 72 #[.int .i64 ((twW x.aA x.aD p (dW x.aA (x.aA.length + 1) v.Kind v.N)).Kind), .int .i64 ((twW x.aA x.aD p (dW x.aA (x.aA.length + 1) v.Kind v.N)).N)]) 4 kR ?_
 have H48 := Ha46.drew; clear Ha46
 have hS49 : Blk W44.drew g_1_2 68 #[.int .i64 (x.Id), .slice B_1_1_1 x.aA.length c_1_1_1, .slice B_1_1_2 x.Loop.length c_1_1_2, .slice A_2_2 ((twL x.aA x.aD p (dW x.aA (x.aA.length + 1) v.Kind v.N)).length) c_2_2, .slice B_1_1_4 x.Out.length c_1_1_4] ∧ Blk W44.drew g_2_3 72 #[.int .i64 ((twW x.aA x.aD p (dW x.aA (x.aA.length + 1) v.Kind v.N)).Kind), .int .i64 ((twW x.aA x.aD p (dW x.aA (x.aA.length + 1) v.Kind v.N)).N)] := ⟨H48.blk 1 rfl, H48.blk 0 rfl⟩
 refine aF (i := 0) rfl kR kR kR kR kR (fun _ _ _ h => h) rfl rfl hS49 (fun W' hs' => bI Tryz.isAgg68 Tryz.sizeOf68 rfl hs'.1 rfl) ?_
 refine aF (i := 1) rfl kR kR kR kR kR (fun _ _ _ h => h) rfl rfl hS49 (fun W' hs' => bI Tryz.isAgg72 Tryz.sizeOf72 rfl hs'.2 rfl) ?_
 refine aL (i := 2) kR ?_
 have H53 : St w No [hB g_0_2 68 #[.int .i64 (0), .slice none 0 0, .slice none 0 0, .slice none 0 0, .slice none 0 0], hB g_2_3 72 #[.int .i64 ((twW x.aA x.aD p (dW x.aA (x.aA.length + 1) v.Kind v.N)).Kind), .int .i64 ((twW x.aA x.aD p (dW x.aA (x.aA.length + 1) v.Kind v.N)).N)], hB g_1_2 68 #[.int .i64 (x.Id), .slice B_1_1_1 x.aA.length c_1_1_1, .slice B_1_1_2 x.Loop.length c_1_1_2, .slice A_2_2 ((twL x.aA x.aD p (dW x.aA (x.aA.length + 1) v.Kind v.N)).length) c_2_2, .slice B_1_1_4 x.Out.length c_1_1_4], hR aJ 171 (.slice B_1_1_1 x.aA.length c_1_1_1) x.aA, hR aX 235 (.slice B_1_1_2 x.Loop.length c_1_1_2) x.Loop, hR aO 178 (.slice A_2_2 ((twL x.aA x.aD p (dW x.aA (x.aA.length + 1) v.Kind v.N)).length) c_2_2) (twL x.aA x.aD p (dW x.aA (x.aA.length + 1) v.Kind v.N)), hR aP 147 (.slice B_1_1_4 x.Out.length c_1_1_4) x.Out, hB g_0_3 72 #[.int .i64 (0), .int .i64 (0)], hB g_0_1 95 #[.int .i64 (v.Kind), .int .i64 (v.N)], hB g_0_0 68 #[.int .i64 (x.Id), .slice Ax1 x.aA.length cx1, .slice Ax2 x.Loop.length cx2, .slice Ax3 x.aD.length cx3, .slice Ax4 x.Out.length cx4]] W44.drew := H48.pick [7, 0, 1, 2, 3, 4, 5, 6, 8, 9] kD rfl; clear H48
 refine aR rfl Tryz.sizeOf68 rfl rfl rfl rfl kS H53 ?_
 intro W50 hu51 Ha52; clear H53; clear hu51
 have hS55 := And.intro (Ha52.blk 2 rfl) (Ha52.blk 1 rfl); refine ⟨fun _ => hS55, ?_⟩
 refine aL (i := 3) kR ?_
 have H59 : St w No [hB g_0_3 72 #[.int .i64 (0), .int .i64 (0)], hB g_0_2 68 #[.int .i64 (x.Id), .slice B_1_1_1 x.aA.length c_1_1_1, .slice B_1_1_2 x.Loop.length c_1_1_2, .slice A_2_2 ((twL x.aA x.aD p (dW x.aA (x.aA.length + 1) v.Kind v.N)).length) c_2_2, .slice B_1_1_4 x.Out.length c_1_1_4], hB g_2_3 72 #[.int .i64 ((twW x.aA x.aD p (dW x.aA (x.aA.length + 1) v.Kind v.N)).Kind), .int .i64 ((twW x.aA x.aD p (dW x.aA (x.aA.length + 1) v.Kind v.N)).N)], hB g_1_2 68 #[.int .i64 (x.Id), .slice B_1_1_1 x.aA.length c_1_1_1, .slice B_1_1_2 x.Loop.length c_1_1_2, .slice A_2_2 ((twL x.aA x.aD p (dW x.aA (x.aA.length + 1) v.Kind v.N)).length) c_2_2, .slice B_1_1_4 x.Out.length c_1_1_4], hR aJ 171 (.slice B_1_1_1 x.aA.length c_1_1_1) x.aA, hR aX 235 (.slice B_1_1_2 x.Loop.length c_1_1_2) x.Loop, hR aO 178 (.slice A_2_2 ((twL x.aA x.aD p (dW x.aA (x.aA.length + 1) v.Kind v.N)).length) c_2_2) (twL x.aA x.aD p (dW x.aA (x.aA.length + 1) v.Kind v.N)), hR aP 147 (.slice B_1_1_4 x.Out.length c_1_1_4) x.Out, hB g_0_1 95 #[.int .i64 (v.Kind), .int .i64 (v.N)], hB g_0_0 68 #[.int .i64 (x.Id), .slice Ax1 x.aA.length cx1, .slice Ax2 x.Loop.length cx2, .slice Ax3 x.aD.length cx3, .slice Ax4 x.Out.length cx4]] W50 := Ha52.pick [7, 0, 1, 2, 3, 4, 5, 6, 8, 9] kD rfl; clear Ha52
 refine aR rfl Tryz.sizeOf72 rfl rfl rfl rfl kS H59 ?_
 intro W56 hu57 Ha58; clear H59; clear hu57
 have hS61 := And.intro (Ha58.blk 3 rfl) (Ha58.blk 2 rfl); refine ⟨fun _ => hS61, ?_⟩
 refine bD kR ?_ _
 refine aM ?_
 refine wp_ret ?_
 refine post_cell_cell (.inl rfl) Tryz.results43 Tryz.isAgg68 Tryz.sizeOf68 Tryz.isAgg72 Tryz.sizeOf72 rfl rfl (Ha58.blk 1 rfl) rfl (Ha58.blk 0 rfl) rfl ?_
 exact ⟨_, rfl, lF (x := twV p v x) (Ha58.pick [4, 5, 6, 7] kD rfl).star, Ha58.1⟩
theorem fF (x : GVat) (p : Int) (v : GValue) (cs cv : List Value) (w : World) (h : aG.K w x cs) (hs : bR x ≤ 4194304) (h2 : aT.K w v cv) : Calls Tryz.prog 45 #[.agg cs.toArray, .int .i64 p, .agg cv.toArray] w (RetAW aG (twV p v x) (twR p v x) w) := by
 obtain ⟨Ax1, cx1, Ax2, cx2, Ax3, cx3, Ax4, cx4, rfl, hlx1, hCx1, hlx2, hCx2, hlx3, hCx3, hlx4, hCx4⟩ := kJ h
 have s_Entities : bN dD x.aA ≤ 4194304 := by unfold bR at hs; omega
 have n_Entities : x.aA.length ≤ 4194304 := by unfold bN at s_Entities; omega
 have s_Loop : bN dX x.Loop ≤ 4194304 := by unfold bR at hs; omega
 have n_Loop : x.Loop.length ≤ 4194304 := by unfold bN at s_Loop; omega
 have s_Links : bN bQ x.aD ≤ 4194304 := by unfold bR at hs; omega
 have n_Links : x.aD.length ≤ 4194304 := by unfold bN at s_Links; omega
 have s_Out : bN dH x.Out ≤ 4194304 := by unfold bR at hs; omega
 have n_Out : x.Out.length ≤ 4194304 := by unfold bN at s_Out; omega
 obtain rfl := j6 h2
 have hbl : ∀ (q : Nat) (h : q < x.aD.length), x.aD[q].aH.length ≤ 4194304 := by
  intro q hq
  have h1 := gT bQ x.aD q hq
  have h3 := s_Links
  unfold bN at h3
  have h4 : bQ x.aD[q] ≤ 4194304 := by omega
  have h5 : bN fK x.aD[q].aH ≤ 4194304 := by unfold bQ at h4; omega
  unfold bN at h5
  omega
 refine enter 17 [(0, .agg #[.int .i64 (x.Id), .slice Ax1 x.aA.length cx1, .slice Ax2 x.Loop.length cx2, .slice Ax3 x.aD.length cx3, .slice Ax4 x.Out.length cx4]), (1, .int .i64 (p)), (2, .agg #[.int .i64 (v.Kind), .int .i64 (v.N)])] Tryz.func45 rfl kR ?_
 intro xj
 have H1 : St w No [] w := St.enter
 refine wp_seq ?_
 refine aS [0, 1, 2, 3] rfl ?_
 refine aB ?_
 refine gG rfl rfl rfl rfl H1 ?_
 intro g_0_0 W2 hu3 Ha4; clear H1; clear hu3
 refine aB ?_
 refine gG rfl rfl rfl rfl Ha4 ?_
 intro g_0_1 W6 hu7 Ha8; clear Ha4; clear hu7
 refine aB ?_
 refine bA rfl Tryz.zeroValue68 rfl rfl Ha8 ?_
 intro g_0_2 W10 hu11 Ha12; clear Ha8; clear hu11
 refine aB ?_
 refine bA rfl Tryz.zeroValue72 rfl rfl Ha12 ?_
 intro g_0_3 W14 hu15 Ha16; clear Ha12; clear hu15
 refine aN ?_
 refine aM ?_
 refine wp_seq ?_
 refine aS [0, 1, 2, 3] rfl ?_
 refine aB ?_
 refine aC rfl (bI Tryz.isAgg68 Tryz.sizeOf68 rfl (Ha16.blk 3 rfl) rfl) rfl rfl ?_
 refine aB ?_
 refine aV rfl Tryz.call99 (vs := #[.agg #[.int .i64 (x.Id), .slice Ax1 x.aA.length cx1, .slice Ax2 x.Loop.length cx2, .slice Ax3 x.aD.length cx3, .slice Ax4 x.Out.length cx4]]) rfl rfl rfl (copied_Vat x _ _ (fM _ x hlx1 (bK Ha16.1 hCx1) hlx2 (bK Ha16.1 hCx2) hlx3 (bK Ha16.1 hCx3) hlx4 (bK Ha16.1 hCx4)) hs) ?_
 rintro e23 W22 ⟨cs18, rfl, hM19, hu20⟩; refine ⟨_, rfl, ?_⟩
 obtain ⟨B_1_1_1, c_1_1_1, B_1_1_2, c_1_1_2, B_1_1_3, c_1_1_3, B_1_1_4, c_1_1_4, rfl, hst21⟩ := nY hM19
 have H24 := Ha16.news hu20 hst21; clear Ha16
 refine aB ?_
 refine bA rfl Tryz.zeroValue68 rfl rfl H24 ?_
 intro g_1_2 W25 hu26 Ha27; clear H24; clear hu26
 refine aB ?_
 refine aR rfl Tryz.sizeOf68 rfl rfl rfl rfl kS Ha27 ?_
 intro W29 hu30 Ha31; clear Ha27; clear hu30
 refine aN ?_
 refine aM ?_
 refine wp_seq ?_
 refine aS [0, 1, 2, 3, 4] rfl ?_
 refine aB ?_
 refine aC rfl (aK rfl) rfl rfl ?_
 refine aB ?_
 refine aC rfl (bI Tryz.isAgg95 Tryz.sizeOf95 rfl (Ha31.blk 7 rfl) rfl) rfl rfl ?_
 refine aB ?_
 have H33 : St w No [hB g_1_2 68 #[.int .i64 (x.Id), .slice B_1_1_1 x.aA.length c_1_1_1, .slice B_1_1_2 x.Loop.length c_1_1_2, .slice B_1_1_3 x.aD.length c_1_1_3, .slice B_1_1_4 x.Out.length c_1_1_4], hR aJ 171 (.slice B_1_1_1 x.aA.length c_1_1_1) x.aA, hR aO 178 (.slice B_1_1_3 x.aD.length c_1_1_3) x.aD, hR aX 235 (.slice B_1_1_2 x.Loop.length c_1_1_2) x.Loop, hR aP 147 (.slice B_1_1_4 x.Out.length c_1_1_4) x.Out, hB g_0_3 72 #[.int .i64 (0), .int .i64 (0)], hB g_0_2 68 #[.int .i64 (0), .slice none 0 0, .slice none 0 0, .slice none 0 0, .slice none 0 0], hB g_0_1 95 #[.int .i64 (v.Kind), .int .i64 (v.N)], hB g_0_0 68 #[.int .i64 (x.Id), .slice Ax1 x.aA.length cx1, .slice Ax2 x.Loop.length cx2, .slice Ax3 x.aD.length cx3, .slice Ax4 x.Out.length cx4]] W29 := Ha31.pick [0, 1, 3, 2, 4, 5, 6, 7, 8] kD rfl; clear Ha31
 obtain ⟨F34, hs35, _, hfr36⟩ := St.frame (l0 := [hB g_1_2 68 #[.int .i64 (x.Id), .slice B_1_1_1 x.aA.length c_1_1_1, .slice B_1_1_2 x.Loop.length c_1_1_2, .slice B_1_1_3 x.aD.length c_1_1_3, .slice B_1_1_4 x.Out.length c_1_1_4], hR aJ 171 (.slice B_1_1_1 x.aA.length c_1_1_1) x.aA, hR aO 178 (.slice B_1_1_3 x.aD.length c_1_1_3) x.aD]) (l := [hR aX 235 (.slice B_1_1_2 x.Loop.length c_1_1_2) x.Loop, hR aP 147 (.slice B_1_1_4 x.Out.length c_1_1_4) x.Out, hB g_0_3 72 #[.int .i64 (0), .int .i64 (0)], hB g_0_2 68 #[.int .i64 (0), .slice none 0 0, .slice none 0 0, .slice none 0 0, .slice none 0 0], hB g_0_1 95 #[.int .i64 (v.Kind), .int .i64 (v.N)], hB g_0_0 68 #[.int .i64 (x.Id), .slice Ax1 x.aA.length cx1, .slice Ax2 x.Loop.length cx2, .slice Ax3 x.aD.length cx3, .slice Ax4 x.Out.length cx4]]) H33
 refine aV rfl Tryz.call130 (vs := #[.pointer (some ⟨g_1_2, 0, none⟩), .int .i64 (p), .agg #[.int .i64 (v.Kind), .int .i64 (v.N)]]) rfl rfl rfl (toWire_i x.aA x.aD p v.Kind v.N _ _ _ _ _ _ _ _ _ _ hs35 n_Entities hbl) ?_
 rintro e39 W38 ⟨A_2_2, c_2_2, rfl, Hn37⟩; refine ⟨_, rfl, ?_⟩
 have H40 := hfr36 _ _ Hn37; clear H33
 refine aB ?_
 refine bA rfl Tryz.zeroValue72 rfl rfl H40 ?_
 intro g_2_3 W41 hu42 Ha43; clear H40; clear hu42
 refine aB ?_
 refine aR rfl Tryz.sizeOf72 rfl rfl rfl rfl kS Ha43 ?_
 intro W45 hu46 Ha47; clear Ha43; clear hu46
 refine aN ?_
 refine aM ?_
 refine wp_seq ?_
 refine eH (fun W' => Blk W' g_1_2 68 #[.int .i64 (x.Id), .slice B_1_1_1 x.aA.length c_1_1_1, .slice B_1_1_2 x.Loop.length c_1_1_2, .slice A_2_2 ((twL x.aA x.aD p (dW x.aA (x.aA.length + 1) v.Kind v.N)).length) c_2_2, .slice B_1_1_4 x.Out.length c_1_1_4] ∧ Blk W' g_2_3 72 #[.int .i64 ((twW x.aA x.aD p (dW x.aA (x.aA.length + 1) v.Kind v.N)).Kind), .int .i64 ((twW x.aA x.aD p (dW x.aA (x.aA.length + 1) v.Kind v.N)).N)]) 4 kR ?_
 have H49 := Ha47.drew; clear Ha47
 have hS50 : Blk W45.drew g_1_2 68 #[.int .i64 (x.Id), .slice B_1_1_1 x.aA.length c_1_1_1, .slice B_1_1_2 x.Loop.length c_1_1_2, .slice A_2_2 ((twL x.aA x.aD p (dW x.aA (x.aA.length + 1) v.Kind v.N)).length) c_2_2, .slice B_1_1_4 x.Out.length c_1_1_4] ∧ Blk W45.drew g_2_3 72 #[.int .i64 ((twW x.aA x.aD p (dW x.aA (x.aA.length + 1) v.Kind v.N)).Kind), .int .i64 ((twW x.aA x.aD p (dW x.aA (x.aA.length + 1) v.Kind v.N)).N)] := ⟨H49.blk 1 rfl, H49.blk 0 rfl⟩
 refine aF (i := 0) rfl kR kR kR kR kR (fun _ _ _ h => h) rfl rfl hS50 (fun W' hs' => bI Tryz.isAgg68 Tryz.sizeOf68 rfl hs'.1 rfl) ?_
 refine aF (i := 1) rfl kR kR kR kR kR (fun _ _ _ h => h) rfl rfl hS50 (fun W' hs' => bI Tryz.isAgg72 Tryz.sizeOf72 rfl hs'.2 rfl) ?_
 refine aL (i := 2) kR ?_
 have H54 : St w No [hB g_0_2 68 #[.int .i64 (0), .slice none 0 0, .slice none 0 0, .slice none 0 0, .slice none 0 0], hB g_2_3 72 #[.int .i64 ((twW x.aA x.aD p (dW x.aA (x.aA.length + 1) v.Kind v.N)).Kind), .int .i64 ((twW x.aA x.aD p (dW x.aA (x.aA.length + 1) v.Kind v.N)).N)], hB g_1_2 68 #[.int .i64 (x.Id), .slice B_1_1_1 x.aA.length c_1_1_1, .slice B_1_1_2 x.Loop.length c_1_1_2, .slice A_2_2 ((twL x.aA x.aD p (dW x.aA (x.aA.length + 1) v.Kind v.N)).length) c_2_2, .slice B_1_1_4 x.Out.length c_1_1_4], hR aJ 171 (.slice B_1_1_1 x.aA.length c_1_1_1) x.aA, hR aO 178 (.slice A_2_2 ((twL x.aA x.aD p (dW x.aA (x.aA.length + 1) v.Kind v.N)).length) c_2_2) (twL x.aA x.aD p (dW x.aA (x.aA.length + 1) v.Kind v.N)), hR aX 235 (.slice B_1_1_2 x.Loop.length c_1_1_2) x.Loop, hR aP 147 (.slice B_1_1_4 x.Out.length c_1_1_4) x.Out, hB g_0_3 72 #[.int .i64 (0), .int .i64 (0)], hB g_0_1 95 #[.int .i64 (v.Kind), .int .i64 (v.N)], hB g_0_0 68 #[.int .i64 (x.Id), .slice Ax1 x.aA.length cx1, .slice Ax2 x.Loop.length cx2, .slice Ax3 x.aD.length cx3, .slice Ax4 x.Out.length cx4]] W45.drew := H49.pick [7, 0, 1, 2, 3, 4, 5, 6, 8, 9] kD rfl; clear H49
 refine aR rfl Tryz.sizeOf68 rfl rfl rfl rfl kS H54 ?_
 intro W51 hu52 Ha53; clear H54; clear hu52
 have hS56 := And.intro (Ha53.blk 2 rfl) (Ha53.blk 1 rfl); refine ⟨fun _ => hS56, ?_⟩
 refine aL (i := 3) kR ?_
 have H60 : St w No [hB g_0_3 72 #[.int .i64 (0), .int .i64 (0)], hB g_0_2 68 #[.int .i64 (x.Id), .slice B_1_1_1 x.aA.length c_1_1_1, .slice B_1_1_2 x.Loop.length c_1_1_2, .slice A_2_2 ((twL x.aA x.aD p (dW x.aA (x.aA.length + 1) v.Kind v.N)).length) c_2_2, .slice B_1_1_4 x.Out.length c_1_1_4], hB g_2_3 72 #[.int .i64 ((twW x.aA x.aD p (dW x.aA (x.aA.length + 1) v.Kind v.N)).Kind), .int .i64 ((twW x.aA x.aD p (dW x.aA (x.aA.length + 1) v.Kind v.N)).N)], hB g_1_2 68 #[.int .i64 (x.Id), .slice B_1_1_1 x.aA.length c_1_1_1, .slice B_1_1_2 x.Loop.length c_1_1_2, .slice A_2_2 ((twL x.aA x.aD p (dW x.aA (x.aA.length + 1) v.Kind v.N)).length) c_2_2, .slice B_1_1_4 x.Out.length c_1_1_4], hR aJ 171 (.slice B_1_1_1 x.aA.length c_1_1_1) x.aA, hR aO 178 (.slice A_2_2 ((twL x.aA x.aD p (dW x.aA (x.aA.length + 1) v.Kind v.N)).length) c_2_2) (twL x.aA x.aD p (dW x.aA (x.aA.length + 1) v.Kind v.N)), hR aX 235 (.slice B_1_1_2 x.Loop.length c_1_1_2) x.Loop, hR aP 147 (.slice B_1_1_4 x.Out.length c_1_1_4) x.Out, hB g_0_1 95 #[.int .i64 (v.Kind), .int .i64 (v.N)], hB g_0_0 68 #[.int .i64 (x.Id), .slice Ax1 x.aA.length cx1, .slice Ax2 x.Loop.length cx2, .slice Ax3 x.aD.length cx3, .slice Ax4 x.Out.length cx4]] W51 := Ha53.pick [7, 0, 1, 2, 3, 4, 5, 6, 8, 9] kD rfl; clear Ha53
 refine aR rfl Tryz.sizeOf72 rfl rfl rfl rfl kS H60 ?_
 intro W57 hu58 Ha59; clear H60; clear hu58
 have hS62 := And.intro (Ha59.blk 3 rfl) (Ha59.blk 2 rfl); refine ⟨fun _ => hS62, ?_⟩
 refine bD kR ?_ _
 refine aM ?_
 refine wp_ret ?_
 refine post_cell_cell (.inl rfl) Tryz.results45 Tryz.isAgg68 Tryz.sizeOf68 Tryz.isAgg72 Tryz.sizeOf72 rfl rfl (Ha59.blk 1 rfl) rfl (Ha59.blk 0 rfl) rfl ?_
 exact ⟨_, rfl, lF (x := twV p v x) (Ha59.pick [4, 6, 5, 7] kD rfl).star, Ha59.1⟩
theorem law_FnExactToWire (w : World) (x0 : GVat) (cs0 : List Value) (hK0 : kl_Vat.K w x0 cs0) (hG0 : Gd_Vat x0) (a1 : Int) (w1 : (Lit.int .i64 a1).wf = true) (x2 : GValue) (cs2 : List Value) (hK2 : gB.K w x2 cs2) (hG2 : gP x2) : Calls Tryz.prog 8 #[.agg cs0.toArray, .int .i64 a1, .agg cs2.toArray] w (eX true w) := by
 have hl0_ : cs0.length = 5 := kl_Vat.l8 hK0
 have ho0_ : ∀ u ∈ (List.toArray cs0).toList, u.oneCell' = true := kl_Vat.K_one hK0
 have hl2_ : cs2.length = 2 := gB.l8 hK2
 have ho2_ : ∀ u ∈ (List.toArray cs2).toList, u.oneCell' = true := gB.K_one hK2
 refine enter 112 [(0, .agg (List.toArray cs0)), (1, .int .i64 (a1)), (2, .agg (List.toArray cs2))] Tryz.func8 rfl kR ?_
 intro xj
 have H1 : St w No [] w := St.enter
 refine wp_seq ?_
 refine aS [0, 1, 2] rfl ?_
 refine aB ?_
 refine gG rfl rfl rfl rfl H1 ?_
 intro g_0_0 W2 hu3 Ha4; clear H1; clear hu3
 refine aB ?_
 refine gG rfl rfl rfl rfl Ha4 ?_
 intro g_0_1 W6 hu7 Ha8; clear Ha4; clear hu7
 refine aB ?_
 refine aC rfl (aW rfl) rfl rfl ?_
 refine aN ?_
 refine aM ?_
 refine wp_seq ?_
 refine aS [0] rfl ?_
 refine aB ?_
 refine aC rfl (aW rfl) rfl rfl ?_
 refine aN ?_
 refine aM ?_
 refine wp_seq ?_
 refine aS [0, 1, 2, 3] rfl ?_
 refine aB ?_
 refine aC rfl (bI Tryz.isAgg55 Tryz.sizeOf55 rfl (Ha8.blk 1 rfl) hl0_) rfl rfl ?_
 refine aB ?_
 refine aC rfl (aK rfl) rfl rfl ?_
 refine aB ?_
 refine aV rfl Tryz.call24 (vs := #[.agg (List.toArray cs0), .int .i64 (1048576)]) rfl rfl rfl (sz_Vat x0 _ _ _ (fV Ha8.1 hK0) (Bd_of_Vat hG0) kO kO) ?_
 rintro e14 W13 ⟨n11, rfl, hr12, hu10⟩; refine ⟨_, rfl, ?_⟩
 have H15 := Ha8.no hu10; clear Ha8
 refine aB ?_
 refine aC rfl (aW rfl) rfl rfl ?_
 refine aN ?_
 refine aM ?_
 refine wp_seq ?_
 refine wp_seq ?_
 refine aS [0, 1] rfl ?_
 refine aB ?_
 refine aC rfl (aK rfl) rfl rfl ?_
 refine aB ?_
 refine aC rfl (iW rfl rfl) rfl rfl ?_
 refine aN ?_
 refine aM ?_
 refine gU rfl (fun hc16 => ?_) (fun hc16 => ?_)
 ·refine wp_seq ?_
  refine aS [0] rfl ?_
  refine aB ?_
  refine aC rfl (aW rfl) rfl rfl ?_
  refine aN ?_
  refine aM ?_
  refine wp_ret ?_
  refine eB ?_
  refine eY (.inl rfl) Tryz.results8 rfl ?_
  exact ⟨rfl, H15.1⟩
 ·have hs_x0 : bR x0 ≤ 1048576 := by omega
  refine wp_skip ?_
  refine aM ?_
  refine wp_seq ?_
  have nn17 : 0 ≤ bL x0 := oG x0
  have nn17b := oH x0
  have nn17c : bR x0 ≤ 4194304 := (Nat.le_trans hs_x0 kD)
  have nn18 : 0 ≤ bL (twV a1 x2 x0) := oG (twV a1 x2 x0)
  have nn18b := oH (twV a1 x2 x0)
  have nn18c : bR (twV a1 x2 x0) ≤ 4194304 := twV_bd a1 x2 x0 hs_x0
  refine lC (fun a' W' => ∃ (cs_5_5 : List Value) (g_5_9 : Nat) (g_5_10 : Nat) (x' : Nat → Value), a' = bO 112 x' [(1, .int .i64 (a1)), (3, .pointer (some ⟨g_0_0, 0, none⟩)), (5, .pointer (some ⟨g_0_1, 0, none⟩)), (8, .pointer (some ⟨g_5_9, 0, none⟩)), (9, .pointer (some ⟨g_5_10, 0, none⟩))] ∧ St w No [hB g_5_10 72 #[.int .i64 ((twR a1 x2 x0).Kind), .int .i64 ((twR a1 x2 x0).N)], hB g_5_9 68 (List.toArray cs_5_5), hM aG (twV a1 x2 x0) cs_5_5, hB g_0_1 92 (List.toArray cs2), hB g_0_0 55 (List.toArray cs0)] W') ?_ ?_
  ·refine eH (fun W' => Blk W' g_0_0 55 (List.toArray cs0) ∧ Blk W' g_0_1 92 (List.toArray cs2)) 13 kR ?_
   have H19 := H15.drew; clear H15
   have hS20 : Blk W13.drew g_0_0 55 (List.toArray cs0) ∧ Blk W13.drew g_0_1 92 (List.toArray cs2) := ⟨H19.blk 1 rfl, H19.blk 0 rfl⟩
   refine aF (i := 0) rfl kR kR kR kR kR (fun _ _ _ h => h) rfl rfl hS20 (fun W' hs' => bI Tryz.isAgg55 Tryz.sizeOf55 rfl hs'.1 hl0_) ?_
   refine aF (i := 2) rfl kR kR kR kR kR (fun _ _ _ h => h) rfl rfl hS20 (fun W' hs' => aK rfl) ?_
   refine aF (i := 3) rfl kR kR kR kR kR (fun _ _ _ h => h) rfl rfl hS20 (fun W' hs' => bI Tryz.isAgg92 Tryz.sizeOf92 rfl hs'.2 hl2_) ?_
   refine kU (i := 1) (i2 := 9) (i3 := 10) kR ?_ ?_ ?_
   ·refine aV rfl Tryz.call27 (vs := #[.agg (List.toArray cs0)]) rfl rfl rfl (lH x0 _ _ (fV H19.1 hK0) hs_x0) ?_
    rintro e25 W24 ⟨cs_5_1, rfl, hM22, hu23⟩; refine ⟨_, rfl, ?_⟩
    have H28 := H19.new (q := hM aG x0 cs_5_1) hu23 hM22; clear H19
    have hS29 := And.intro (H28.blk 2 rfl) (H28.blk 1 rfl); refine ⟨fun _ => hS29, ?_⟩
    refine kU (i := 4) (i2 := 9) (i3 := 10) kR ?_ ?_ ?_
    ·refine aV rfl Tryz.call44 (vs := #[.agg (List.toArray cs2)]) rfl rfl rfl (fI x2 _ _ (fV H28.1 hK2) (by simp [dO])) ?_
     rintro e34 W33 ⟨cs_5_4, rfl, hM31, hu32⟩; refine ⟨_, rfl, ?_⟩
     have H37 := H28.new (q := hM aT x2 cs_5_4) hu32 hM31; clear H28
     have hS38 := And.intro (H37.blk 3 rfl) (H37.blk 2 rfl); refine ⟨fun _ => hS38, ?_⟩
     refine kU (i := 5) (i2 := 9) (i3 := 10) kR ?_ ?_ ?_
     ·refine aV rfl Tryz.call43 (vs := #[.agg (List.toArray cs_5_1), .int .i64 (a1), .agg (List.toArray cs_5_4)]) rfl rfl rfl (gW x0 a1 x2 _ _ _ (H37.kn 1 rfl) (Nat.le_trans hs_x0 kD) (H37.kn 0 rfl)) ?_
      rintro e42 W41 ⟨cs_5_5, rfl, hM39, hu40⟩; refine ⟨_, rfl, ?_⟩
      have H43 := H37.new (q := hM aG (twV a1 x2 x0) cs_5_5) hu40 hM39; clear H37
      have hS44 := And.intro (H43.blk 4 rfl) (H43.blk 3 rfl); refine ⟨fun _ => hS44, ?_⟩
      refine aF (i := 6) rfl kR kR kR kR kR (fun _ _ _ h => h) rfl rfl hS44 (fun W' hs' => aK rfl) ?_
      refine aF (i := 7) rfl kR kR kR kR kR (fun _ _ _ h => h) rfl rfl hS44 (fun W' hs' => aY (v := .agg (List.toArray cs_5_5)) rfl rfl) ?_
      refine aF (i := 8) rfl kR kR kR kR kR (fun _ _ _ h => h) rfl rfl hS44 (fun W' hs' => aY (v := .agg #[.int .i64 ((twR a1 x2 x0).Kind), .int .i64 ((twR a1 x2 x0).N)]) rfl rfl) ?_
      refine dY (i := 9) (i2 := 10) kR ?_ ?_
      ·refine bA rfl Tryz.zeroValue68 rfl rfl H43 ?_
       intro g_5_9 W45 hu46 Ha47; clear H43; clear hu46
       have hS49 := And.intro (Ha47.blk 5 rfl) (Ha47.blk 4 rfl); refine ⟨fun _ => hS49, ?_⟩
       refine aL (i := 10) kR ?_
       refine bA rfl Tryz.zeroValue72 rfl rfl Ha47 ?_
       intro g_5_10 W50 hu51 Ha52; clear Ha47; clear hu51
       have hS54 := And.intro (Ha52.blk 6 rfl) (Ha52.blk 5 rfl); refine ⟨fun _ => hS54, ?_⟩
       refine aL (i := 11) kR ?_
       have H58 : St w No [hB g_5_9 68 #[.int .i64 (0), .slice none 0 0, .slice none 0 0, .slice none 0 0, .slice none 0 0], hB g_5_10 72 #[.int .i64 (0), .int .i64 (0)], hM aG (twV a1 x2 x0) cs_5_5, hM aT x2 cs_5_4, hM aG x0 cs_5_1, hB g_0_1 92 (List.toArray cs2), hB g_0_0 55 (List.toArray cs0)] W50 := Ha52.pick [1, 0, 2, 3, 4, 5, 6] kD rfl; clear Ha52
       refine aR rfl Tryz.sizeOf68 rfl rfl (bE (H58.kn 2 rfl)) rfl (bP (H58.kn 2 rfl)) H58 ?_
       intro W55 hu56 Ha57; clear H58; clear hu56
       have hS60 := And.intro (Ha57.blk 6 rfl) (Ha57.blk 5 rfl); refine ⟨fun _ => hS60, ?_⟩
       refine aL (i := 12) kR ?_
       have H64 : St w No [hB g_5_10 72 #[.int .i64 (0), .int .i64 (0)], hB g_5_9 68 (List.toArray cs_5_5), hM aG (twV a1 x2 x0) cs_5_5, hM aT x2 cs_5_4, hM aG x0 cs_5_1, hB g_0_1 92 (List.toArray cs2), hB g_0_0 55 (List.toArray cs0)] W55 := Ha57.pick [1, 0, 2, 3, 4, 5, 6] kD rfl; clear Ha57
       refine aR rfl Tryz.sizeOf72 rfl rfl rfl rfl kS H64 ?_
       intro W61 hu62 Ha63; clear H64; clear hu62
       have hS66 := And.intro (Ha63.blk 6 rfl) (Ha63.blk 5 rfl); refine ⟨fun _ => hS66, ?_⟩
       refine bD kR ?_ _
       exact (aZ [(1, .int .i64 (a1)), (3, .pointer (some ⟨g_0_0, 0, none⟩)), (5, .pointer (some ⟨g_0_1, 0, none⟩)), (8, .pointer (some ⟨g_5_9, 0, none⟩)), (9, .pointer (some ⟨g_5_10, 0, none⟩))] rfl).elim fun x' hx => ⟨cs_5_5, g_5_9, g_5_10, x', hx, Ha63.pick [0, 1, 2, 5, 6] kD rfl⟩
      refine bA rfl Tryz.zeroValue72 rfl rfl H43 ?_
      intro g_5_10 W67 hu68 Ha69; clear H43; clear hu68
      have hS71 := And.intro (Ha69.blk 5 rfl) (Ha69.blk 4 rfl); refine ⟨fun _ => hS71, ?_⟩
      refine aL (i := 9) kR ?_
      refine bA rfl Tryz.zeroValue68 rfl rfl Ha69 ?_
      intro g_5_9 W72 hu73 Ha74; clear Ha69; clear hu73
      have hS76 := And.intro (Ha74.blk 6 rfl) (Ha74.blk 5 rfl); refine ⟨fun _ => hS76, ?_⟩
      refine aL (i := 11) kR ?_
      refine aR rfl Tryz.sizeOf68 rfl rfl (bE (Ha74.kn 2 rfl)) rfl (bP (Ha74.kn 2 rfl)) Ha74 ?_
      intro W77 hu78 Ha79; clear Ha74; clear hu78
      have hS81 := And.intro (Ha79.blk 6 rfl) (Ha79.blk 5 rfl); refine ⟨fun _ => hS81, ?_⟩
      refine aL (i := 12) kR ?_
      have H85 : St w No [hB g_5_10 72 #[.int .i64 (0), .int .i64 (0)], hB g_5_9 68 (List.toArray cs_5_5), hM aG (twV a1 x2 x0) cs_5_5, hM aT x2 cs_5_4, hM aG x0 cs_5_1, hB g_0_1 92 (List.toArray cs2), hB g_0_0 55 (List.toArray cs0)] W77 := Ha79.pick [1, 0, 2, 3, 4, 5, 6] kD rfl; clear Ha79
      refine aR rfl Tryz.sizeOf72 rfl rfl rfl rfl kS H85 ?_
      intro W82 hu83 Ha84; clear H85; clear hu83
      have hS87 := And.intro (Ha84.blk 6 rfl) (Ha84.blk 5 rfl); refine ⟨fun _ => hS87, ?_⟩
      refine bD kR ?_ _
      exact (aZ [(1, .int .i64 (a1)), (3, .pointer (some ⟨g_0_0, 0, none⟩)), (5, .pointer (some ⟨g_0_1, 0, none⟩)), (8, .pointer (some ⟨g_5_9, 0, none⟩)), (9, .pointer (some ⟨g_5_10, 0, none⟩))] rfl).elim fun x' hx => ⟨cs_5_5, g_5_9, g_5_10, x', hx, Ha84.pick [0, 1, 2, 5, 6] kD rfl⟩
     ·refine bA rfl Tryz.zeroValue68 rfl rfl H37 ?_
      intro g_5_9 W88 hu89 Ha90; clear H37; clear hu89
      have hS92 := And.intro (Ha90.blk 4 rfl) (Ha90.blk 3 rfl); refine ⟨fun _ => hS92, ?_⟩
      refine dY (i := 5) (i2 := 10) kR ?_ ?_
      ·refine aV rfl Tryz.call43 (vs := #[.agg (List.toArray cs_5_1), .int .i64 (a1), .agg (List.toArray cs_5_4)]) rfl rfl rfl (gW x0 a1 x2 _ _ _ (Ha90.kn 2 rfl) (Nat.le_trans hs_x0 kD) (Ha90.kn 1 rfl)) ?_
       rintro e96 W95 ⟨cs_5_5, rfl, hM93, hu94⟩; refine ⟨_, rfl, ?_⟩
       have H97 := Ha90.new (q := hM aG (twV a1 x2 x0) cs_5_5) hu94 hM93; clear Ha90
       have hS98 := And.intro (H97.blk 5 rfl) (H97.blk 4 rfl); refine ⟨fun _ => hS98, ?_⟩
       refine aF (i := 6) rfl kR kR kR kR kR (fun _ _ _ h => h) rfl rfl hS98 (fun W' hs' => aK rfl) ?_
       refine aF (i := 7) rfl kR kR kR kR kR (fun _ _ _ h => h) rfl rfl hS98 (fun W' hs' => aY (v := .agg (List.toArray cs_5_5)) rfl rfl) ?_
       refine aF (i := 8) rfl kR kR kR kR kR (fun _ _ _ h => h) rfl rfl hS98 (fun W' hs' => aY (v := .agg #[.int .i64 ((twR a1 x2 x0).Kind), .int .i64 ((twR a1 x2 x0).N)]) rfl rfl) ?_
       refine aL (i := 10) kR ?_
       refine bA rfl Tryz.zeroValue72 rfl rfl H97 ?_
       intro g_5_10 W99 hu100 Ha101; clear H97; clear hu100
       have hS103 := And.intro (Ha101.blk 6 rfl) (Ha101.blk 5 rfl); refine ⟨fun _ => hS103, ?_⟩
       refine aL (i := 11) kR ?_
       have H107 : St w No [hB g_5_9 68 #[.int .i64 (0), .slice none 0 0, .slice none 0 0, .slice none 0 0, .slice none 0 0], hB g_5_10 72 #[.int .i64 (0), .int .i64 (0)], hM aG (twV a1 x2 x0) cs_5_5, hM aT x2 cs_5_4, hM aG x0 cs_5_1, hB g_0_1 92 (List.toArray cs2), hB g_0_0 55 (List.toArray cs0)] W99 := Ha101.pick [2, 0, 1, 3, 4, 5, 6] kD rfl; clear Ha101
       refine aR rfl Tryz.sizeOf68 rfl rfl (bE (H107.kn 2 rfl)) rfl (bP (H107.kn 2 rfl)) H107 ?_
       intro W104 hu105 Ha106; clear H107; clear hu105
       have hS109 := And.intro (Ha106.blk 6 rfl) (Ha106.blk 5 rfl); refine ⟨fun _ => hS109, ?_⟩
       refine aL (i := 12) kR ?_
       have H113 : St w No [hB g_5_10 72 #[.int .i64 (0), .int .i64 (0)], hB g_5_9 68 (List.toArray cs_5_5), hM aG (twV a1 x2 x0) cs_5_5, hM aT x2 cs_5_4, hM aG x0 cs_5_1, hB g_0_1 92 (List.toArray cs2), hB g_0_0 55 (List.toArray cs0)] W104 := Ha106.pick [1, 0, 2, 3, 4, 5, 6] kD rfl; clear Ha106
       refine aR rfl Tryz.sizeOf72 rfl rfl rfl rfl kS H113 ?_
       intro W110 hu111 Ha112; clear H113; clear hu111
       have hS115 := And.intro (Ha112.blk 6 rfl) (Ha112.blk 5 rfl); refine ⟨fun _ => hS115, ?_⟩
       refine bD kR ?_ _
       exact (aZ [(1, .int .i64 (a1)), (3, .pointer (some ⟨g_0_0, 0, none⟩)), (5, .pointer (some ⟨g_0_1, 0, none⟩)), (8, .pointer (some ⟨g_5_9, 0, none⟩)), (9, .pointer (some ⟨g_5_10, 0, none⟩))] rfl).elim fun x' hx => ⟨cs_5_5, g_5_9, g_5_10, x', hx, Ha112.pick [0, 1, 2, 5, 6] kD rfl⟩
      refine bA rfl Tryz.zeroValue72 rfl rfl Ha90 ?_
      intro g_5_10 W116 hu117 Ha118; clear Ha90; clear hu117
      have hS120 := And.intro (Ha118.blk 5 rfl) (Ha118.blk 4 rfl); refine ⟨fun _ => hS120, ?_⟩
      refine aL (i := 5) kR ?_
      refine aV rfl Tryz.call43 (vs := #[.agg (List.toArray cs_5_1), .int .i64 (a1), .agg (List.toArray cs_5_4)]) rfl rfl rfl (gW x0 a1 x2 _ _ _ (Ha118.kn 3 rfl) (Nat.le_trans hs_x0 kD) (Ha118.kn 2 rfl)) ?_
      rintro e124 W123 ⟨cs_5_5, rfl, hM121, hu122⟩; refine ⟨_, rfl, ?_⟩
      have H125 := Ha118.new (q := hM aG (twV a1 x2 x0) cs_5_5) hu122 hM121; clear Ha118
      have hS126 := And.intro (H125.blk 6 rfl) (H125.blk 5 rfl); refine ⟨fun _ => hS126, ?_⟩
      refine aF (i := 6) rfl kR kR kR kR kR (fun _ _ _ h => h) rfl rfl hS126 (fun W' hs' => aK rfl) ?_
      refine aF (i := 7) rfl kR kR kR kR kR (fun _ _ _ h => h) rfl rfl hS126 (fun W' hs' => aY (v := .agg (List.toArray cs_5_5)) rfl rfl) ?_
      refine aF (i := 8) rfl kR kR kR kR kR (fun _ _ _ h => h) rfl rfl hS126 (fun W' hs' => aY (v := .agg #[.int .i64 ((twR a1 x2 x0).Kind), .int .i64 ((twR a1 x2 x0).N)]) rfl rfl) ?_
      refine aL (i := 11) kR ?_
      have H130 : St w No [hB g_5_9 68 #[.int .i64 (0), .slice none 0 0, .slice none 0 0, .slice none 0 0, .slice none 0 0], hM aG (twV a1 x2 x0) cs_5_5, hB g_5_10 72 #[.int .i64 (0), .int .i64 (0)], hM aT x2 cs_5_4, hM aG x0 cs_5_1, hB g_0_1 92 (List.toArray cs2), hB g_0_0 55 (List.toArray cs0)] W123 := H125.pick [2, 0, 1, 3, 4, 5, 6] kD rfl; clear H125
      refine aR rfl Tryz.sizeOf68 rfl rfl (bE (H130.kn 1 rfl)) rfl (bP (H130.kn 1 rfl)) H130 ?_
      intro W127 hu128 Ha129; clear H130; clear hu128
      have hS132 := And.intro (Ha129.blk 6 rfl) (Ha129.blk 5 rfl); refine ⟨fun _ => hS132, ?_⟩
      refine aL (i := 12) kR ?_
      have H136 : St w No [hB g_5_10 72 #[.int .i64 (0), .int .i64 (0)], hB g_5_9 68 (List.toArray cs_5_5), hM aG (twV a1 x2 x0) cs_5_5, hM aT x2 cs_5_4, hM aG x0 cs_5_1, hB g_0_1 92 (List.toArray cs2), hB g_0_0 55 (List.toArray cs0)] W127 := Ha129.pick [2, 0, 1, 3, 4, 5, 6] kD rfl; clear Ha129
      refine aR rfl Tryz.sizeOf72 rfl rfl rfl rfl kS H136 ?_
      intro W133 hu134 Ha135; clear H136; clear hu134
      have hS138 := And.intro (Ha135.blk 6 rfl) (Ha135.blk 5 rfl); refine ⟨fun _ => hS138, ?_⟩
      refine bD kR ?_ _
      exact (aZ [(1, .int .i64 (a1)), (3, .pointer (some ⟨g_0_0, 0, none⟩)), (5, .pointer (some ⟨g_0_1, 0, none⟩)), (8, .pointer (some ⟨g_5_9, 0, none⟩)), (9, .pointer (some ⟨g_5_10, 0, none⟩))] rfl).elim fun x' hx => ⟨cs_5_5, g_5_9, g_5_10, x', hx, Ha135.pick [0, 1, 2, 5, 6] kD rfl⟩
     refine bA rfl Tryz.zeroValue72 rfl rfl H37 ?_
     intro g_5_10 W139 hu140 Ha141; clear H37; clear hu140
     have hS143 := And.intro (Ha141.blk 4 rfl) (Ha141.blk 3 rfl); refine ⟨fun _ => hS143, ?_⟩
     refine dY (i := 5) (i2 := 9) kR ?_ ?_
     ·refine aV rfl Tryz.call43 (vs := #[.agg (List.toArray cs_5_1), .int .i64 (a1), .agg (List.toArray cs_5_4)]) rfl rfl rfl (gW x0 a1 x2 _ _ _ (Ha141.kn 2 rfl) (Nat.le_trans hs_x0 kD) (Ha141.kn 1 rfl)) ?_
      rintro e147 W146 ⟨cs_5_5, rfl, hM144, hu145⟩; refine ⟨_, rfl, ?_⟩
      have H148 := Ha141.new (q := hM aG (twV a1 x2 x0) cs_5_5) hu145 hM144; clear Ha141
      have hS149 := And.intro (H148.blk 5 rfl) (H148.blk 4 rfl); refine ⟨fun _ => hS149, ?_⟩
      refine aF (i := 6) rfl kR kR kR kR kR (fun _ _ _ h => h) rfl rfl hS149 (fun W' hs' => aK rfl) ?_
      refine aF (i := 7) rfl kR kR kR kR kR (fun _ _ _ h => h) rfl rfl hS149 (fun W' hs' => aY (v := .agg (List.toArray cs_5_5)) rfl rfl) ?_
      refine aF (i := 8) rfl kR kR kR kR kR (fun _ _ _ h => h) rfl rfl hS149 (fun W' hs' => aY (v := .agg #[.int .i64 ((twR a1 x2 x0).Kind), .int .i64 ((twR a1 x2 x0).N)]) rfl rfl) ?_
      refine aL (i := 9) kR ?_
      refine bA rfl Tryz.zeroValue68 rfl rfl H148 ?_
      intro g_5_9 W150 hu151 Ha152; clear H148; clear hu151
      have hS154 := And.intro (Ha152.blk 6 rfl) (Ha152.blk 5 rfl); refine ⟨fun _ => hS154, ?_⟩
      refine aL (i := 11) kR ?_
      refine aR rfl Tryz.sizeOf68 rfl rfl (bE (Ha152.kn 1 rfl)) rfl (bP (Ha152.kn 1 rfl)) Ha152 ?_
      intro W155 hu156 Ha157; clear Ha152; clear hu156
      have hS159 := And.intro (Ha157.blk 6 rfl) (Ha157.blk 5 rfl); refine ⟨fun _ => hS159, ?_⟩
      refine aL (i := 12) kR ?_
      have H163 : St w No [hB g_5_10 72 #[.int .i64 (0), .int .i64 (0)], hB g_5_9 68 (List.toArray cs_5_5), hM aG (twV a1 x2 x0) cs_5_5, hM aT x2 cs_5_4, hM aG x0 cs_5_1, hB g_0_1 92 (List.toArray cs2), hB g_0_0 55 (List.toArray cs0)] W155 := Ha157.pick [2, 0, 1, 3, 4, 5, 6] kD rfl; clear Ha157
      refine aR rfl Tryz.sizeOf72 rfl rfl rfl rfl kS H163 ?_
      intro W160 hu161 Ha162; clear H163; clear hu161
      have hS165 := And.intro (Ha162.blk 6 rfl) (Ha162.blk 5 rfl); refine ⟨fun _ => hS165, ?_⟩
      refine bD kR ?_ _
      exact (aZ [(1, .int .i64 (a1)), (3, .pointer (some ⟨g_0_0, 0, none⟩)), (5, .pointer (some ⟨g_0_1, 0, none⟩)), (8, .pointer (some ⟨g_5_9, 0, none⟩)), (9, .pointer (some ⟨g_5_10, 0, none⟩))] rfl).elim fun x' hx => ⟨cs_5_5, g_5_9, g_5_10, x', hx, Ha162.pick [0, 1, 2, 5, 6] kD rfl⟩
     refine bA rfl Tryz.zeroValue68 rfl rfl Ha141 ?_
     intro g_5_9 W166 hu167 Ha168; clear Ha141; clear hu167
     have hS170 := And.intro (Ha168.blk 5 rfl) (Ha168.blk 4 rfl); refine ⟨fun _ => hS170, ?_⟩
     refine aL (i := 5) kR ?_
     refine aV rfl Tryz.call43 (vs := #[.agg (List.toArray cs_5_1), .int .i64 (a1), .agg (List.toArray cs_5_4)]) rfl rfl rfl (gW x0 a1 x2 _ _ _ (Ha168.kn 3 rfl) (Nat.le_trans hs_x0 kD) (Ha168.kn 2 rfl)) ?_
     rintro e174 W173 ⟨cs_5_5, rfl, hM171, hu172⟩; refine ⟨_, rfl, ?_⟩
     have H175 := Ha168.new (q := hM aG (twV a1 x2 x0) cs_5_5) hu172 hM171; clear Ha168
     have hS176 := And.intro (H175.blk 6 rfl) (H175.blk 5 rfl); refine ⟨fun _ => hS176, ?_⟩
     refine aF (i := 6) rfl kR kR kR kR kR (fun _ _ _ h => h) rfl rfl hS176 (fun W' hs' => aK rfl) ?_
     refine aF (i := 7) rfl kR kR kR kR kR (fun _ _ _ h => h) rfl rfl hS176 (fun W' hs' => aY (v := .agg (List.toArray cs_5_5)) rfl rfl) ?_
     refine aF (i := 8) rfl kR kR kR kR kR (fun _ _ _ h => h) rfl rfl hS176 (fun W' hs' => aY (v := .agg #[.int .i64 ((twR a1 x2 x0).Kind), .int .i64 ((twR a1 x2 x0).N)]) rfl rfl) ?_
     refine aL (i := 11) kR ?_
     have H180 : St w No [hB g_5_9 68 #[.int .i64 (0), .slice none 0 0, .slice none 0 0, .slice none 0 0, .slice none 0 0], hM aG (twV a1 x2 x0) cs_5_5, hB g_5_10 72 #[.int .i64 (0), .int .i64 (0)], hM aT x2 cs_5_4, hM aG x0 cs_5_1, hB g_0_1 92 (List.toArray cs2), hB g_0_0 55 (List.toArray cs0)] W173 := H175.pick [1, 0, 2, 3, 4, 5, 6] kD rfl; clear H175
     refine aR rfl Tryz.sizeOf68 rfl rfl (bE (H180.kn 1 rfl)) rfl (bP (H180.kn 1 rfl)) H180 ?_
     intro W177 hu178 Ha179; clear H180; clear hu178
     have hS182 := And.intro (Ha179.blk 6 rfl) (Ha179.blk 5 rfl); refine ⟨fun _ => hS182, ?_⟩
     refine aL (i := 12) kR ?_
     have H186 : St w No [hB g_5_10 72 #[.int .i64 (0), .int .i64 (0)], hB g_5_9 68 (List.toArray cs_5_5), hM aG (twV a1 x2 x0) cs_5_5, hM aT x2 cs_5_4, hM aG x0 cs_5_1, hB g_0_1 92 (List.toArray cs2), hB g_0_0 55 (List.toArray cs0)] W177 := Ha179.pick [2, 0, 1, 3, 4, 5, 6] kD rfl; clear Ha179
     refine aR rfl Tryz.sizeOf72 rfl rfl rfl rfl kS H186 ?_
     intro W183 hu184 Ha185; clear H186; clear hu184
     have hS188 := And.intro (Ha185.blk 6 rfl) (Ha185.blk 5 rfl); refine ⟨fun _ => hS188, ?_⟩
     refine bD kR ?_ _
     exact (aZ [(1, .int .i64 (a1)), (3, .pointer (some ⟨g_0_0, 0, none⟩)), (5, .pointer (some ⟨g_0_1, 0, none⟩)), (8, .pointer (some ⟨g_5_9, 0, none⟩)), (9, .pointer (some ⟨g_5_10, 0, none⟩))] rfl).elim fun x' hx => ⟨cs_5_5, g_5_9, g_5_10, x', hx, Ha185.pick [0, 1, 2, 5, 6] kD rfl⟩
    ·refine bA rfl Tryz.zeroValue68 rfl rfl H28 ?_
     intro g_5_9 W189 hu190 Ha191; clear H28; clear hu190
     have hS193 := And.intro (Ha191.blk 3 rfl) (Ha191.blk 2 rfl); refine ⟨fun _ => hS193, ?_⟩
     refine dY (i := 4) (i2 := 10) kR ?_ ?_
     ·refine aV rfl Tryz.call44 (vs := #[.agg (List.toArray cs2)]) rfl rfl rfl (fI x2 _ _ (fV Ha191.1 hK2) (by simp [dO])) ?_
      rintro e198 W197 ⟨cs_5_4, rfl, hM195, hu196⟩; refine ⟨_, rfl, ?_⟩
      have H201 := Ha191.new (q := hM aT x2 cs_5_4) hu196 hM195; clear Ha191
      have hS202 := And.intro (H201.blk 4 rfl) (H201.blk 3 rfl); refine ⟨fun _ => hS202, ?_⟩
      refine dY (i := 5) (i2 := 10) kR ?_ ?_
      ·refine aV rfl Tryz.call43 (vs := #[.agg (List.toArray cs_5_1), .int .i64 (a1), .agg (List.toArray cs_5_4)]) rfl rfl rfl (gW x0 a1 x2 _ _ _ (H201.kn 2 rfl) (Nat.le_trans hs_x0 kD) (H201.kn 0 rfl)) ?_
       rintro e206 W205 ⟨cs_5_5, rfl, hM203, hu204⟩; refine ⟨_, rfl, ?_⟩
       have H207 := H201.new (q := hM aG (twV a1 x2 x0) cs_5_5) hu204 hM203; clear H201
       have hS208 := And.intro (H207.blk 5 rfl) (H207.blk 4 rfl); refine ⟨fun _ => hS208, ?_⟩
       refine aF (i := 6) rfl kR kR kR kR kR (fun _ _ _ h => h) rfl rfl hS208 (fun W' hs' => aK rfl) ?_
       refine aF (i := 7) rfl kR kR kR kR kR (fun _ _ _ h => h) rfl rfl hS208 (fun W' hs' => aY (v := .agg (List.toArray cs_5_5)) rfl rfl) ?_
       refine aF (i := 8) rfl kR kR kR kR kR (fun _ _ _ h => h) rfl rfl hS208 (fun W' hs' => aY (v := .agg #[.int .i64 ((twR a1 x2 x0).Kind), .int .i64 ((twR a1 x2 x0).N)]) rfl rfl) ?_
       refine aL (i := 10) kR ?_
       refine bA rfl Tryz.zeroValue72 rfl rfl H207 ?_
       intro g_5_10 W209 hu210 Ha211; clear H207; clear hu210
       have hS213 := And.intro (Ha211.blk 6 rfl) (Ha211.blk 5 rfl); refine ⟨fun _ => hS213, ?_⟩
       refine aL (i := 11) kR ?_
       have H217 : St w No [hB g_5_9 68 #[.int .i64 (0), .slice none 0 0, .slice none 0 0, .slice none 0 0, .slice none 0 0], hB g_5_10 72 #[.int .i64 (0), .int .i64 (0)], hM aG (twV a1 x2 x0) cs_5_5, hM aT x2 cs_5_4, hM aG x0 cs_5_1, hB g_0_1 92 (List.toArray cs2), hB g_0_0 55 (List.toArray cs0)] W209 := Ha211.pick [3, 0, 1, 2, 4, 5, 6] kD rfl; clear Ha211
       refine aR rfl Tryz.sizeOf68 rfl rfl (bE (H217.kn 2 rfl)) rfl (bP (H217.kn 2 rfl)) H217 ?_
       intro W214 hu215 Ha216; clear H217; clear hu215
       have hS219 := And.intro (Ha216.blk 6 rfl) (Ha216.blk 5 rfl); refine ⟨fun _ => hS219, ?_⟩
       refine aL (i := 12) kR ?_
       have H223 : St w No [hB g_5_10 72 #[.int .i64 (0), .int .i64 (0)], hB g_5_9 68 (List.toArray cs_5_5), hM aG (twV a1 x2 x0) cs_5_5, hM aT x2 cs_5_4, hM aG x0 cs_5_1, hB g_0_1 92 (List.toArray cs2), hB g_0_0 55 (List.toArray cs0)] W214 := Ha216.pick [1, 0, 2, 3, 4, 5, 6] kD rfl; clear Ha216
       refine aR rfl Tryz.sizeOf72 rfl rfl rfl rfl kS H223 ?_
       intro W220 hu221 Ha222; clear H223; clear hu221
       have hS225 := And.intro (Ha222.blk 6 rfl) (Ha222.blk 5 rfl); refine ⟨fun _ => hS225, ?_⟩
       refine bD kR ?_ _
       exact (aZ [(1, .int .i64 (a1)), (3, .pointer (some ⟨g_0_0, 0, none⟩)), (5, .pointer (some ⟨g_0_1, 0, none⟩)), (8, .pointer (some ⟨g_5_9, 0, none⟩)), (9, .pointer (some ⟨g_5_10, 0, none⟩))] rfl).elim fun x' hx => ⟨cs_5_5, g_5_9, g_5_10, x', hx, Ha222.pick [0, 1, 2, 5, 6] kD rfl⟩
      refine bA rfl Tryz.zeroValue72 rfl rfl H201 ?_
      intro g_5_10 W226 hu227 Ha228; clear H201; clear hu227
      have hS230 := And.intro (Ha228.blk 5 rfl) (Ha228.blk 4 rfl); refine ⟨fun _ => hS230, ?_⟩
      refine aL (i := 5) kR ?_
      refine aV rfl Tryz.call43 (vs := #[.agg (List.toArray cs_5_1), .int .i64 (a1), .agg (List.toArray cs_5_4)]) rfl rfl rfl (gW x0 a1 x2 _ _ _ (Ha228.kn 3 rfl) (Nat.le_trans hs_x0 kD) (Ha228.kn 1 rfl)) ?_
      rintro e234 W233 ⟨cs_5_5, rfl, hM231, hu232⟩; refine ⟨_, rfl, ?_⟩
      have H235 := Ha228.new (q := hM aG (twV a1 x2 x0) cs_5_5) hu232 hM231; clear Ha228
      have hS236 := And.intro (H235.blk 6 rfl) (H235.blk 5 rfl); refine ⟨fun _ => hS236, ?_⟩
      refine aF (i := 6) rfl kR kR kR kR kR (fun _ _ _ h => h) rfl rfl hS236 (fun W' hs' => aK rfl) ?_
      refine aF (i := 7) rfl kR kR kR kR kR (fun _ _ _ h => h) rfl rfl hS236 (fun W' hs' => aY (v := .agg (List.toArray cs_5_5)) rfl rfl) ?_
      refine aF (i := 8) rfl kR kR kR kR kR (fun _ _ _ h => h) rfl rfl hS236 (fun W' hs' => aY (v := .agg #[.int .i64 ((twR a1 x2 x0).Kind), .int .i64 ((twR a1 x2 x0).N)]) rfl rfl) ?_
      refine aL (i := 11) kR ?_
      have H240 : St w No [hB g_5_9 68 #[.int .i64 (0), .slice none 0 0, .slice none 0 0, .slice none 0 0, .slice none 0 0], hM aG (twV a1 x2 x0) cs_5_5, hB g_5_10 72 #[.int .i64 (0), .int .i64 (0)], hM aT x2 cs_5_4, hM aG x0 cs_5_1, hB g_0_1 92 (List.toArray cs2), hB g_0_0 55 (List.toArray cs0)] W233 := H235.pick [3, 0, 1, 2, 4, 5, 6] kD rfl; clear H235
      refine aR rfl Tryz.sizeOf68 rfl rfl (bE (H240.kn 1 rfl)) rfl (bP (H240.kn 1 rfl)) H240 ?_
      intro W237 hu238 Ha239; clear H240; clear hu238
      have hS242 := And.intro (Ha239.blk 6 rfl) (Ha239.blk 5 rfl); refine ⟨fun _ => hS242, ?_⟩
      refine aL (i := 12) kR ?_
      have H246 : St w No [hB g_5_10 72 #[.int .i64 (0), .int .i64 (0)], hB g_5_9 68 (List.toArray cs_5_5), hM aG (twV a1 x2 x0) cs_5_5, hM aT x2 cs_5_4, hM aG x0 cs_5_1, hB g_0_1 92 (List.toArray cs2), hB g_0_0 55 (List.toArray cs0)] W237 := Ha239.pick [2, 0, 1, 3, 4, 5, 6] kD rfl; clear Ha239
      refine aR rfl Tryz.sizeOf72 rfl rfl rfl rfl kS H246 ?_
      intro W243 hu244 Ha245; clear H246; clear hu244
      have hS248 := And.intro (Ha245.blk 6 rfl) (Ha245.blk 5 rfl); refine ⟨fun _ => hS248, ?_⟩
      refine bD kR ?_ _
      exact (aZ [(1, .int .i64 (a1)), (3, .pointer (some ⟨g_0_0, 0, none⟩)), (5, .pointer (some ⟨g_0_1, 0, none⟩)), (8, .pointer (some ⟨g_5_9, 0, none⟩)), (9, .pointer (some ⟨g_5_10, 0, none⟩))] rfl).elim fun x' hx => ⟨cs_5_5, g_5_9, g_5_10, x', hx, Ha245.pick [0, 1, 2, 5, 6] kD rfl⟩
     refine bA rfl Tryz.zeroValue72 rfl rfl Ha191 ?_
     intro g_5_10 W249 hu250 Ha251; clear Ha191; clear hu250
     have hS253 := And.intro (Ha251.blk 4 rfl) (Ha251.blk 3 rfl); refine ⟨fun _ => hS253, ?_⟩
     refine aL (i := 4) kR ?_
     refine aV rfl Tryz.call44 (vs := #[.agg (List.toArray cs2)]) rfl rfl rfl (fI x2 _ _ (fV Ha251.1 hK2) (by simp [dO])) ?_
     rintro e258 W257 ⟨cs_5_4, rfl, hM255, hu256⟩; refine ⟨_, rfl, ?_⟩
     have H261 := Ha251.new (q := hM aT x2 cs_5_4) hu256 hM255; clear Ha251
     have hS262 := And.intro (H261.blk 5 rfl) (H261.blk 4 rfl); refine ⟨fun _ => hS262, ?_⟩
     refine aL (i := 5) kR ?_
     refine aV rfl Tryz.call43 (vs := #[.agg (List.toArray cs_5_1), .int .i64 (a1), .agg (List.toArray cs_5_4)]) rfl rfl rfl (gW x0 a1 x2 _ _ _ (H261.kn 3 rfl) (Nat.le_trans hs_x0 kD) (H261.kn 0 rfl)) ?_
     rintro e266 W265 ⟨cs_5_5, rfl, hM263, hu264⟩; refine ⟨_, rfl, ?_⟩
     have H267 := H261.new (q := hM aG (twV a1 x2 x0) cs_5_5) hu264 hM263; clear H261
     have hS268 := And.intro (H267.blk 6 rfl) (H267.blk 5 rfl); refine ⟨fun _ => hS268, ?_⟩
     refine aF (i := 6) rfl kR kR kR kR kR (fun _ _ _ h => h) rfl rfl hS268 (fun W' hs' => aK rfl) ?_
     refine aF (i := 7) rfl kR kR kR kR kR (fun _ _ _ h => h) rfl rfl hS268 (fun W' hs' => aY (v := .agg (List.toArray cs_5_5)) rfl rfl) ?_
     refine aF (i := 8) rfl kR kR kR kR kR (fun _ _ _ h => h) rfl rfl hS268 (fun W' hs' => aY (v := .agg #[.int .i64 ((twR a1 x2 x0).Kind), .int .i64 ((twR a1 x2 x0).N)]) rfl rfl) ?_
     refine aL (i := 11) kR ?_
     have H272 : St w No [hB g_5_9 68 #[.int .i64 (0), .slice none 0 0, .slice none 0 0, .slice none 0 0, .slice none 0 0], hM aG (twV a1 x2 x0) cs_5_5, hM aT x2 cs_5_4, hB g_5_10 72 #[.int .i64 (0), .int .i64 (0)], hM aG x0 cs_5_1, hB g_0_1 92 (List.toArray cs2), hB g_0_0 55 (List.toArray cs0)] W265 := H267.pick [3, 0, 1, 2, 4, 5, 6] kD rfl; clear H267
     refine aR rfl Tryz.sizeOf68 rfl rfl (bE (H272.kn 1 rfl)) rfl (bP (H272.kn 1 rfl)) H272 ?_
     intro W269 hu270 Ha271; clear H272; clear hu270
     have hS274 := And.intro (Ha271.blk 6 rfl) (Ha271.blk 5 rfl); refine ⟨fun _ => hS274, ?_⟩
     refine aL (i := 12) kR ?_
     have H278 : St w No [hB g_5_10 72 #[.int .i64 (0), .int .i64 (0)], hB g_5_9 68 (List.toArray cs_5_5), hM aG (twV a1 x2 x0) cs_5_5, hM aT x2 cs_5_4, hM aG x0 cs_5_1, hB g_0_1 92 (List.toArray cs2), hB g_0_0 55 (List.toArray cs0)] W269 := Ha271.pick [3, 0, 1, 2, 4, 5, 6] kD rfl; clear Ha271
     refine aR rfl Tryz.sizeOf72 rfl rfl rfl rfl kS H278 ?_
     intro W275 hu276 Ha277; clear H278; clear hu276
     have hS280 := And.intro (Ha277.blk 6 rfl) (Ha277.blk 5 rfl); refine ⟨fun _ => hS280, ?_⟩
     refine bD kR ?_ _
     exact (aZ [(1, .int .i64 (a1)), (3, .pointer (some ⟨g_0_0, 0, none⟩)), (5, .pointer (some ⟨g_0_1, 0, none⟩)), (8, .pointer (some ⟨g_5_9, 0, none⟩)), (9, .pointer (some ⟨g_5_10, 0, none⟩))] rfl).elim fun x' hx => ⟨cs_5_5, g_5_9, g_5_10, x', hx, Ha277.pick [0, 1, 2, 5, 6] kD rfl⟩
    refine bA rfl Tryz.zeroValue72 rfl rfl H28 ?_
    intro g_5_10 W281 hu282 Ha283; clear H28; clear hu282
    have hS285 := And.intro (Ha283.blk 3 rfl) (Ha283.blk 2 rfl); refine ⟨fun _ => hS285, ?_⟩
    refine dY (i := 4) (i2 := 9) kR ?_ ?_
    ·refine aV rfl Tryz.call44 (vs := #[.agg (List.toArray cs2)]) rfl rfl rfl (fI x2 _ _ (fV Ha283.1 hK2) (by simp [dO])) ?_
     rintro e290 W289 ⟨cs_5_4, rfl, hM287, hu288⟩; refine ⟨_, rfl, ?_⟩
     have H293 := Ha283.new (q := hM aT x2 cs_5_4) hu288 hM287; clear Ha283
     have hS294 := And.intro (H293.blk 4 rfl) (H293.blk 3 rfl); refine ⟨fun _ => hS294, ?_⟩
     refine dY (i := 5) (i2 := 9) kR ?_ ?_
     ·refine aV rfl Tryz.call43 (vs := #[.agg (List.toArray cs_5_1), .int .i64 (a1), .agg (List.toArray cs_5_4)]) rfl rfl rfl (gW x0 a1 x2 _ _ _ (H293.kn 2 rfl) (Nat.le_trans hs_x0 kD) (H293.kn 0 rfl)) ?_
      rintro e298 W297 ⟨cs_5_5, rfl, hM295, hu296⟩; refine ⟨_, rfl, ?_⟩
      have H299 := H293.new (q := hM aG (twV a1 x2 x0) cs_5_5) hu296 hM295; clear H293
      have hS300 := And.intro (H299.blk 5 rfl) (H299.blk 4 rfl); refine ⟨fun _ => hS300, ?_⟩
      refine aF (i := 6) rfl kR kR kR kR kR (fun _ _ _ h => h) rfl rfl hS300 (fun W' hs' => aK rfl) ?_
      refine aF (i := 7) rfl kR kR kR kR kR (fun _ _ _ h => h) rfl rfl hS300 (fun W' hs' => aY (v := .agg (List.toArray cs_5_5)) rfl rfl) ?_
      refine aF (i := 8) rfl kR kR kR kR kR (fun _ _ _ h => h) rfl rfl hS300 (fun W' hs' => aY (v := .agg #[.int .i64 ((twR a1 x2 x0).Kind), .int .i64 ((twR a1 x2 x0).N)]) rfl rfl) ?_
      refine aL (i := 9) kR ?_
      refine bA rfl Tryz.zeroValue68 rfl rfl H299 ?_
      intro g_5_9 W301 hu302 Ha303; clear H299; clear hu302
      have hS305 := And.intro (Ha303.blk 6 rfl) (Ha303.blk 5 rfl); refine ⟨fun _ => hS305, ?_⟩
      refine aL (i := 11) kR ?_
      refine aR rfl Tryz.sizeOf68 rfl rfl (bE (Ha303.kn 1 rfl)) rfl (bP (Ha303.kn 1 rfl)) Ha303 ?_
      intro W306 hu307 Ha308; clear Ha303; clear hu307
      have hS310 := And.intro (Ha308.blk 6 rfl) (Ha308.blk 5 rfl); refine ⟨fun _ => hS310, ?_⟩
      refine aL (i := 12) kR ?_
      have H314 : St w No [hB g_5_10 72 #[.int .i64 (0), .int .i64 (0)], hB g_5_9 68 (List.toArray cs_5_5), hM aG (twV a1 x2 x0) cs_5_5, hM aT x2 cs_5_4, hM aG x0 cs_5_1, hB g_0_1 92 (List.toArray cs2), hB g_0_0 55 (List.toArray cs0)] W306 := Ha308.pick [3, 0, 1, 2, 4, 5, 6] kD rfl; clear Ha308
      refine aR rfl Tryz.sizeOf72 rfl rfl rfl rfl kS H314 ?_
      intro W311 hu312 Ha313; clear H314; clear hu312
      have hS316 := And.intro (Ha313.blk 6 rfl) (Ha313.blk 5 rfl); refine ⟨fun _ => hS316, ?_⟩
      refine bD kR ?_ _
      exact (aZ [(1, .int .i64 (a1)), (3, .pointer (some ⟨g_0_0, 0, none⟩)), (5, .pointer (some ⟨g_0_1, 0, none⟩)), (8, .pointer (some ⟨g_5_9, 0, none⟩)), (9, .pointer (some ⟨g_5_10, 0, none⟩))] rfl).elim fun x' hx => ⟨cs_5_5, g_5_9, g_5_10, x', hx, Ha313.pick [0, 1, 2, 5, 6] kD rfl⟩
     refine bA rfl Tryz.zeroValue68 rfl rfl H293 ?_
     intro g_5_9 W317 hu318 Ha319; clear H293; clear hu318
     have hS321 := And.intro (Ha319.blk 5 rfl) (Ha319.blk 4 rfl); refine ⟨fun _ => hS321, ?_⟩
     refine aL (i := 5) kR ?_
     refine aV rfl Tryz.call43 (vs := #[.agg (List.toArray cs_5_1), .int .i64 (a1), .agg (List.toArray cs_5_4)]) rfl rfl rfl (gW x0 a1 x2 _ _ _ (Ha319.kn 3 rfl) (Nat.le_trans hs_x0 kD) (Ha319.kn 1 rfl)) ?_
     rintro e325 W324 ⟨cs_5_5, rfl, hM322, hu323⟩; refine ⟨_, rfl, ?_⟩
     have H326 := Ha319.new (q := hM aG (twV a1 x2 x0) cs_5_5) hu323 hM322; clear Ha319
     have hS327 := And.intro (H326.blk 6 rfl) (H326.blk 5 rfl); refine ⟨fun _ => hS327, ?_⟩
     refine aF (i := 6) rfl kR kR kR kR kR (fun _ _ _ h => h) rfl rfl hS327 (fun W' hs' => aK rfl) ?_
     refine aF (i := 7) rfl kR kR kR kR kR (fun _ _ _ h => h) rfl rfl hS327 (fun W' hs' => aY (v := .agg (List.toArray cs_5_5)) rfl rfl) ?_
     refine aF (i := 8) rfl kR kR kR kR kR (fun _ _ _ h => h) rfl rfl hS327 (fun W' hs' => aY (v := .agg #[.int .i64 ((twR a1 x2 x0).Kind), .int .i64 ((twR a1 x2 x0).N)]) rfl rfl) ?_
     refine aL (i := 11) kR ?_
     have H331 : St w No [hB g_5_9 68 #[.int .i64 (0), .slice none 0 0, .slice none 0 0, .slice none 0 0, .slice none 0 0], hM aG (twV a1 x2 x0) cs_5_5, hM aT x2 cs_5_4, hB g_5_10 72 #[.int .i64 (0), .int .i64 (0)], hM aG x0 cs_5_1, hB g_0_1 92 (List.toArray cs2), hB g_0_0 55 (List.toArray cs0)] W324 := H326.pick [1, 0, 2, 3, 4, 5, 6] kD rfl; clear H326
     refine aR rfl Tryz.sizeOf68 rfl rfl (bE (H331.kn 1 rfl)) rfl (bP (H331.kn 1 rfl)) H331 ?_
     intro W328 hu329 Ha330; clear H331; clear hu329
     have hS333 := And.intro (Ha330.blk 6 rfl) (Ha330.blk 5 rfl); refine ⟨fun _ => hS333, ?_⟩
     refine aL (i := 12) kR ?_
     have H337 : St w No [hB g_5_10 72 #[.int .i64 (0), .int .i64 (0)], hB g_5_9 68 (List.toArray cs_5_5), hM aG (twV a1 x2 x0) cs_5_5, hM aT x2 cs_5_4, hM aG x0 cs_5_1, hB g_0_1 92 (List.toArray cs2), hB g_0_0 55 (List.toArray cs0)] W328 := Ha330.pick [3, 0, 1, 2, 4, 5, 6] kD rfl; clear Ha330
     refine aR rfl Tryz.sizeOf72 rfl rfl rfl rfl kS H337 ?_
     intro W334 hu335 Ha336; clear H337; clear hu335
     have hS339 := And.intro (Ha336.blk 6 rfl) (Ha336.blk 5 rfl); refine ⟨fun _ => hS339, ?_⟩
     refine bD kR ?_ _
     exact (aZ [(1, .int .i64 (a1)), (3, .pointer (some ⟨g_0_0, 0, none⟩)), (5, .pointer (some ⟨g_0_1, 0, none⟩)), (8, .pointer (some ⟨g_5_9, 0, none⟩)), (9, .pointer (some ⟨g_5_10, 0, none⟩))] rfl).elim fun x' hx => ⟨cs_5_5, g_5_9, g_5_10, x', hx, Ha336.pick [0, 1, 2, 5, 6] kD rfl⟩
    refine bA rfl Tryz.zeroValue68 rfl rfl Ha283 ?_
    intro g_5_9 W340 hu341 Ha342; clear Ha283; clear hu341
    have hS344 := And.intro (Ha342.blk 4 rfl) (Ha342.blk 3 rfl); refine ⟨fun _ => hS344, ?_⟩
    refine aL (i := 4) kR ?_
    refine aV rfl Tryz.call44 (vs := #[.agg (List.toArray cs2)]) rfl rfl rfl (fI x2 _ _ (fV Ha342.1 hK2) (by simp [dO])) ?_
    rintro e349 W348 ⟨cs_5_4, rfl, hM346, hu347⟩; refine ⟨_, rfl, ?_⟩
    have H352 := Ha342.new (q := hM aT x2 cs_5_4) hu347 hM346; clear Ha342
    have hS353 := And.intro (H352.blk 5 rfl) (H352.blk 4 rfl); refine ⟨fun _ => hS353, ?_⟩
    refine aL (i := 5) kR ?_
    refine aV rfl Tryz.call43 (vs := #[.agg (List.toArray cs_5_1), .int .i64 (a1), .agg (List.toArray cs_5_4)]) rfl rfl rfl (gW x0 a1 x2 _ _ _ (H352.kn 3 rfl) (Nat.le_trans hs_x0 kD) (H352.kn 0 rfl)) ?_
    rintro e357 W356 ⟨cs_5_5, rfl, hM354, hu355⟩; refine ⟨_, rfl, ?_⟩
    have H358 := H352.new (q := hM aG (twV a1 x2 x0) cs_5_5) hu355 hM354; clear H352
    have hS359 := And.intro (H358.blk 6 rfl) (H358.blk 5 rfl); refine ⟨fun _ => hS359, ?_⟩
    refine aF (i := 6) rfl kR kR kR kR kR (fun _ _ _ h => h) rfl rfl hS359 (fun W' hs' => aK rfl) ?_
    refine aF (i := 7) rfl kR kR kR kR kR (fun _ _ _ h => h) rfl rfl hS359 (fun W' hs' => aY (v := .agg (List.toArray cs_5_5)) rfl rfl) ?_
    refine aF (i := 8) rfl kR kR kR kR kR (fun _ _ _ h => h) rfl rfl hS359 (fun W' hs' => aY (v := .agg #[.int .i64 ((twR a1 x2 x0).Kind), .int .i64 ((twR a1 x2 x0).N)]) rfl rfl) ?_
    refine aL (i := 11) kR ?_
    have H363 : St w No [hB g_5_9 68 #[.int .i64 (0), .slice none 0 0, .slice none 0 0, .slice none 0 0, .slice none 0 0], hM aG (twV a1 x2 x0) cs_5_5, hM aT x2 cs_5_4, hB g_5_10 72 #[.int .i64 (0), .int .i64 (0)], hM aG x0 cs_5_1, hB g_0_1 92 (List.toArray cs2), hB g_0_0 55 (List.toArray cs0)] W356 := H358.pick [2, 0, 1, 3, 4, 5, 6] kD rfl; clear H358
    refine aR rfl Tryz.sizeOf68 rfl rfl (bE (H363.kn 1 rfl)) rfl (bP (H363.kn 1 rfl)) H363 ?_
    intro W360 hu361 Ha362; clear H363; clear hu361
    have hS365 := And.intro (Ha362.blk 6 rfl) (Ha362.blk 5 rfl); refine ⟨fun _ => hS365, ?_⟩
    refine aL (i := 12) kR ?_
    have H369 : St w No [hB g_5_10 72 #[.int .i64 (0), .int .i64 (0)], hB g_5_9 68 (List.toArray cs_5_5), hM aG (twV a1 x2 x0) cs_5_5, hM aT x2 cs_5_4, hM aG x0 cs_5_1, hB g_0_1 92 (List.toArray cs2), hB g_0_0 55 (List.toArray cs0)] W360 := Ha362.pick [3, 0, 1, 2, 4, 5, 6] kD rfl; clear Ha362
    refine aR rfl Tryz.sizeOf72 rfl rfl rfl rfl kS H369 ?_
    intro W366 hu367 Ha368; clear H369; clear hu367
    have hS371 := And.intro (Ha368.blk 6 rfl) (Ha368.blk 5 rfl); refine ⟨fun _ => hS371, ?_⟩
    refine bD kR ?_ _
    exact (aZ [(1, .int .i64 (a1)), (3, .pointer (some ⟨g_0_0, 0, none⟩)), (5, .pointer (some ⟨g_0_1, 0, none⟩)), (8, .pointer (some ⟨g_5_9, 0, none⟩)), (9, .pointer (some ⟨g_5_10, 0, none⟩))] rfl).elim fun x' hx => ⟨cs_5_5, g_5_9, g_5_10, x', hx, Ha368.pick [0, 1, 2, 5, 6] kD rfl⟩
   ·refine bA rfl Tryz.zeroValue68 rfl rfl H19 ?_
    intro g_5_9 W372 hu373 Ha374; clear H19; clear hu373
    have hS376 := And.intro (Ha374.blk 2 rfl) (Ha374.blk 1 rfl); refine ⟨fun _ => hS376, ?_⟩
    refine dY (i := 1) (i2 := 10) kR ?_ ?_
    ·refine aV rfl Tryz.call27 (vs := #[.agg (List.toArray cs0)]) rfl rfl rfl (lH x0 _ _ (fV Ha374.1 hK0) hs_x0) ?_
     rintro e381 W380 ⟨cs_5_1, rfl, hM378, hu379⟩; refine ⟨_, rfl, ?_⟩
     have H384 := Ha374.new (q := hM aG x0 cs_5_1) hu379 hM378; clear Ha374
     have hS385 := And.intro (H384.blk 3 rfl) (H384.blk 2 rfl); refine ⟨fun _ => hS385, ?_⟩
     refine dY (i := 4) (i2 := 10) kR ?_ ?_
     ·refine aV rfl Tryz.call44 (vs := #[.agg (List.toArray cs2)]) rfl rfl rfl (fI x2 _ _ (fV H384.1 hK2) (by simp [dO])) ?_
      rintro e390 W389 ⟨cs_5_4, rfl, hM387, hu388⟩; refine ⟨_, rfl, ?_⟩
      have H393 := H384.new (q := hM aT x2 cs_5_4) hu388 hM387; clear H384
      have hS394 := And.intro (H393.blk 4 rfl) (H393.blk 3 rfl); refine ⟨fun _ => hS394, ?_⟩
      refine dY (i := 5) (i2 := 10) kR ?_ ?_
      ·refine aV rfl Tryz.call43 (vs := #[.agg (List.toArray cs_5_1), .int .i64 (a1), .agg (List.toArray cs_5_4)]) rfl rfl rfl (gW x0 a1 x2 _ _ _ (H393.kn 1 rfl) (Nat.le_trans hs_x0 kD) (H393.kn 0 rfl)) ?_
       rintro e398 W397 ⟨cs_5_5, rfl, hM395, hu396⟩; refine ⟨_, rfl, ?_⟩
       have H399 := H393.new (q := hM aG (twV a1 x2 x0) cs_5_5) hu396 hM395; clear H393
       have hS400 := And.intro (H399.blk 5 rfl) (H399.blk 4 rfl); refine ⟨fun _ => hS400, ?_⟩
       refine aF (i := 6) rfl kR kR kR kR kR (fun _ _ _ h => h) rfl rfl hS400 (fun W' hs' => aK rfl) ?_
       refine aF (i := 7) rfl kR kR kR kR kR (fun _ _ _ h => h) rfl rfl hS400 (fun W' hs' => aY (v := .agg (List.toArray cs_5_5)) rfl rfl) ?_
       refine aF (i := 8) rfl kR kR kR kR kR (fun _ _ _ h => h) rfl rfl hS400 (fun W' hs' => aY (v := .agg #[.int .i64 ((twR a1 x2 x0).Kind), .int .i64 ((twR a1 x2 x0).N)]) rfl rfl) ?_
       refine aL (i := 10) kR ?_
       refine bA rfl Tryz.zeroValue72 rfl rfl H399 ?_
       intro g_5_10 W401 hu402 Ha403; clear H399; clear hu402
       have hS405 := And.intro (Ha403.blk 6 rfl) (Ha403.blk 5 rfl); refine ⟨fun _ => hS405, ?_⟩
       refine aL (i := 11) kR ?_
       have H409 : St w No [hB g_5_9 68 #[.int .i64 (0), .slice none 0 0, .slice none 0 0, .slice none 0 0, .slice none 0 0], hB g_5_10 72 #[.int .i64 (0), .int .i64 (0)], hM aG (twV a1 x2 x0) cs_5_5, hM aT x2 cs_5_4, hM aG x0 cs_5_1, hB g_0_1 92 (List.toArray cs2), hB g_0_0 55 (List.toArray cs0)] W401 := Ha403.pick [4, 0, 1, 2, 3, 5, 6] kD rfl; clear Ha403
       refine aR rfl Tryz.sizeOf68 rfl rfl (bE (H409.kn 2 rfl)) rfl (bP (H409.kn 2 rfl)) H409 ?_
       intro W406 hu407 Ha408; clear H409; clear hu407
       have hS411 := And.intro (Ha408.blk 6 rfl) (Ha408.blk 5 rfl); refine ⟨fun _ => hS411, ?_⟩
       refine aL (i := 12) kR ?_
       have H415 : St w No [hB g_5_10 72 #[.int .i64 (0), .int .i64 (0)], hB g_5_9 68 (List.toArray cs_5_5), hM aG (twV a1 x2 x0) cs_5_5, hM aT x2 cs_5_4, hM aG x0 cs_5_1, hB g_0_1 92 (List.toArray cs2), hB g_0_0 55 (List.toArray cs0)] W406 := Ha408.pick [1, 0, 2, 3, 4, 5, 6] kD rfl; clear Ha408
       refine aR rfl Tryz.sizeOf72 rfl rfl rfl rfl kS H415 ?_
       intro W412 hu413 Ha414; clear H415; clear hu413
       have hS417 := And.intro (Ha414.blk 6 rfl) (Ha414.blk 5 rfl); refine ⟨fun _ => hS417, ?_⟩
       refine bD kR ?_ _
       exact (aZ [(1, .int .i64 (a1)), (3, .pointer (some ⟨g_0_0, 0, none⟩)), (5, .pointer (some ⟨g_0_1, 0, none⟩)), (8, .pointer (some ⟨g_5_9, 0, none⟩)), (9, .pointer (some ⟨g_5_10, 0, none⟩))] rfl).elim fun x' hx => ⟨cs_5_5, g_5_9, g_5_10, x', hx, Ha414.pick [0, 1, 2, 5, 6] kD rfl⟩
      refine bA rfl Tryz.zeroValue72 rfl rfl H393 ?_
      intro g_5_10 W418 hu419 Ha420; clear H393; clear hu419
      have hS422 := And.intro (Ha420.blk 5 rfl) (Ha420.blk 4 rfl); refine ⟨fun _ => hS422, ?_⟩
      refine aL (i := 5) kR ?_
      refine aV rfl Tryz.call43 (vs := #[.agg (List.toArray cs_5_1), .int .i64 (a1), .agg (List.toArray cs_5_4)]) rfl rfl rfl (gW x0 a1 x2 _ _ _ (Ha420.kn 2 rfl) (Nat.le_trans hs_x0 kD) (Ha420.kn 1 rfl)) ?_
      rintro e426 W425 ⟨cs_5_5, rfl, hM423, hu424⟩; refine ⟨_, rfl, ?_⟩
      have H427 := Ha420.new (q := hM aG (twV a1 x2 x0) cs_5_5) hu424 hM423; clear Ha420
      have hS428 := And.intro (H427.blk 6 rfl) (H427.blk 5 rfl); refine ⟨fun _ => hS428, ?_⟩
      refine aF (i := 6) rfl kR kR kR kR kR (fun _ _ _ h => h) rfl rfl hS428 (fun W' hs' => aK rfl) ?_
      refine aF (i := 7) rfl kR kR kR kR kR (fun _ _ _ h => h) rfl rfl hS428 (fun W' hs' => aY (v := .agg (List.toArray cs_5_5)) rfl rfl) ?_
      refine aF (i := 8) rfl kR kR kR kR kR (fun _ _ _ h => h) rfl rfl hS428 (fun W' hs' => aY (v := .agg #[.int .i64 ((twR a1 x2 x0).Kind), .int .i64 ((twR a1 x2 x0).N)]) rfl rfl) ?_
      refine aL (i := 11) kR ?_
      have H432 : St w No [hB g_5_9 68 #[.int .i64 (0), .slice none 0 0, .slice none 0 0, .slice none 0 0, .slice none 0 0], hM aG (twV a1 x2 x0) cs_5_5, hB g_5_10 72 #[.int .i64 (0), .int .i64 (0)], hM aT x2 cs_5_4, hM aG x0 cs_5_1, hB g_0_1 92 (List.toArray cs2), hB g_0_0 55 (List.toArray cs0)] W425 := H427.pick [4, 0, 1, 2, 3, 5, 6] kD rfl; clear H427
      refine aR rfl Tryz.sizeOf68 rfl rfl (bE (H432.kn 1 rfl)) rfl (bP (H432.kn 1 rfl)) H432 ?_
      intro W429 hu430 Ha431; clear H432; clear hu430
      have hS434 := And.intro (Ha431.blk 6 rfl) (Ha431.blk 5 rfl); refine ⟨fun _ => hS434, ?_⟩
      refine aL (i := 12) kR ?_
      have H438 : St w No [hB g_5_10 72 #[.int .i64 (0), .int .i64 (0)], hB g_5_9 68 (List.toArray cs_5_5), hM aG (twV a1 x2 x0) cs_5_5, hM aT x2 cs_5_4, hM aG x0 cs_5_1, hB g_0_1 92 (List.toArray cs2), hB g_0_0 55 (List.toArray cs0)] W429 := Ha431.pick [2, 0, 1, 3, 4, 5, 6] kD rfl; clear Ha431
      refine aR rfl Tryz.sizeOf72 rfl rfl rfl rfl kS H438 ?_
      intro W435 hu436 Ha437; clear H438; clear hu436
      have hS440 := And.intro (Ha437.blk 6 rfl) (Ha437.blk 5 rfl); refine ⟨fun _ => hS440, ?_⟩
      refine bD kR ?_ _
      exact (aZ [(1, .int .i64 (a1)), (3, .pointer (some ⟨g_0_0, 0, none⟩)), (5, .pointer (some ⟨g_0_1, 0, none⟩)), (8, .pointer (some ⟨g_5_9, 0, none⟩)), (9, .pointer (some ⟨g_5_10, 0, none⟩))] rfl).elim fun x' hx => ⟨cs_5_5, g_5_9, g_5_10, x', hx, Ha437.pick [0, 1, 2, 5, 6] kD rfl⟩
     refine bA rfl Tryz.zeroValue72 rfl rfl H384 ?_
     intro g_5_10 W441 hu442 Ha443; clear H384; clear hu442
     have hS445 := And.intro (Ha443.blk 4 rfl) (Ha443.blk 3 rfl); refine ⟨fun _ => hS445, ?_⟩
     refine aL (i := 4) kR ?_
     refine aV rfl Tryz.call44 (vs := #[.agg (List.toArray cs2)]) rfl rfl rfl (fI x2 _ _ (fV Ha443.1 hK2) (by simp [dO])) ?_
     rintro e450 W449 ⟨cs_5_4, rfl, hM447, hu448⟩; refine ⟨_, rfl, ?_⟩
     have H453 := Ha443.new (q := hM aT x2 cs_5_4) hu448 hM447; clear Ha443
     have hS454 := And.intro (H453.blk 5 rfl) (H453.blk 4 rfl); refine ⟨fun _ => hS454, ?_⟩
     refine aL (i := 5) kR ?_
     refine aV rfl Tryz.call43 (vs := #[.agg (List.toArray cs_5_1), .int .i64 (a1), .agg (List.toArray cs_5_4)]) rfl rfl rfl (gW x0 a1 x2 _ _ _ (H453.kn 2 rfl) (Nat.le_trans hs_x0 kD) (H453.kn 0 rfl)) ?_
     rintro e458 W457 ⟨cs_5_5, rfl, hM455, hu456⟩; refine ⟨_, rfl, ?_⟩
     have H459 := H453.new (q := hM aG (twV a1 x2 x0) cs_5_5) hu456 hM455; clear H453
     have hS460 := And.intro (H459.blk 6 rfl) (H459.blk 5 rfl); refine ⟨fun _ => hS460, ?_⟩
     refine aF (i := 6) rfl kR kR kR kR kR (fun _ _ _ h => h) rfl rfl hS460 (fun W' hs' => aK rfl) ?_
     refine aF (i := 7) rfl kR kR kR kR kR (fun _ _ _ h => h) rfl rfl hS460 (fun W' hs' => aY (v := .agg (List.toArray cs_5_5)) rfl rfl) ?_
     refine aF (i := 8) rfl kR kR kR kR kR (fun _ _ _ h => h) rfl rfl hS460 (fun W' hs' => aY (v := .agg #[.int .i64 ((twR a1 x2 x0).Kind), .int .i64 ((twR a1 x2 x0).N)]) rfl rfl) ?_
     refine aL (i := 11) kR ?_
     have H464 : St w No [hB g_5_9 68 #[.int .i64 (0), .slice none 0 0, .slice none 0 0, .slice none 0 0, .slice none 0 0], hM aG (twV a1 x2 x0) cs_5_5, hM aT x2 cs_5_4, hB g_5_10 72 #[.int .i64 (0), .int .i64 (0)], hM aG x0 cs_5_1, hB g_0_1 92 (List.toArray cs2), hB g_0_0 55 (List.toArray cs0)] W457 := H459.pick [4, 0, 1, 2, 3, 5, 6] kD rfl; clear H459
     refine aR rfl Tryz.sizeOf68 rfl rfl (bE (H464.kn 1 rfl)) rfl (bP (H464.kn 1 rfl)) H464 ?_
     intro W461 hu462 Ha463; clear H464; clear hu462
     have hS466 := And.intro (Ha463.blk 6 rfl) (Ha463.blk 5 rfl); refine ⟨fun _ => hS466, ?_⟩
     refine aL (i := 12) kR ?_
     have H470 : St w No [hB g_5_10 72 #[.int .i64 (0), .int .i64 (0)], hB g_5_9 68 (List.toArray cs_5_5), hM aG (twV a1 x2 x0) cs_5_5, hM aT x2 cs_5_4, hM aG x0 cs_5_1, hB g_0_1 92 (List.toArray cs2), hB g_0_0 55 (List.toArray cs0)] W461 := Ha463.pick [3, 0, 1, 2, 4, 5, 6] kD rfl; clear Ha463
     refine aR rfl Tryz.sizeOf72 rfl rfl rfl rfl kS H470 ?_
     intro W467 hu468 Ha469; clear H470; clear hu468
     have hS472 := And.intro (Ha469.blk 6 rfl) (Ha469.blk 5 rfl); refine ⟨fun _ => hS472, ?_⟩
     refine bD kR ?_ _
     exact (aZ [(1, .int .i64 (a1)), (3, .pointer (some ⟨g_0_0, 0, none⟩)), (5, .pointer (some ⟨g_0_1, 0, none⟩)), (8, .pointer (some ⟨g_5_9, 0, none⟩)), (9, .pointer (some ⟨g_5_10, 0, none⟩))] rfl).elim fun x' hx => ⟨cs_5_5, g_5_9, g_5_10, x', hx, Ha469.pick [0, 1, 2, 5, 6] kD rfl⟩
    refine bA rfl Tryz.zeroValue72 rfl rfl Ha374 ?_
    intro g_5_10 W473 hu474 Ha475; clear Ha374; clear hu474
    have hS477 := And.intro (Ha475.blk 3 rfl) (Ha475.blk 2 rfl); refine ⟨fun _ => hS477, ?_⟩
    refine aL (i := 1) kR ?_
    refine aV rfl Tryz.call27 (vs := #[.agg (List.toArray cs0)]) rfl rfl rfl (lH x0 _ _ (fV Ha475.1 hK0) hs_x0) ?_
    rintro e482 W481 ⟨cs_5_1, rfl, hM479, hu480⟩; refine ⟨_, rfl, ?_⟩
    have H485 := Ha475.new (q := hM aG x0 cs_5_1) hu480 hM479; clear Ha475
    have hS486 := And.intro (H485.blk 4 rfl) (H485.blk 3 rfl); refine ⟨fun _ => hS486, ?_⟩
    refine aL (i := 4) kR ?_
    refine aV rfl Tryz.call44 (vs := #[.agg (List.toArray cs2)]) rfl rfl rfl (fI x2 _ _ (fV H485.1 hK2) (by simp [dO])) ?_
    rintro e491 W490 ⟨cs_5_4, rfl, hM488, hu489⟩; refine ⟨_, rfl, ?_⟩
    have H494 := H485.new (q := hM aT x2 cs_5_4) hu489 hM488; clear H485
    have hS495 := And.intro (H494.blk 5 rfl) (H494.blk 4 rfl); refine ⟨fun _ => hS495, ?_⟩
    refine aL (i := 5) kR ?_
    refine aV rfl Tryz.call43 (vs := #[.agg (List.toArray cs_5_1), .int .i64 (a1), .agg (List.toArray cs_5_4)]) rfl rfl rfl (gW x0 a1 x2 _ _ _ (H494.kn 1 rfl) (Nat.le_trans hs_x0 kD) (H494.kn 0 rfl)) ?_
    rintro e499 W498 ⟨cs_5_5, rfl, hM496, hu497⟩; refine ⟨_, rfl, ?_⟩
    have H500 := H494.new (q := hM aG (twV a1 x2 x0) cs_5_5) hu497 hM496; clear H494
    have hS501 := And.intro (H500.blk 6 rfl) (H500.blk 5 rfl); refine ⟨fun _ => hS501, ?_⟩
    refine aF (i := 6) rfl kR kR kR kR kR (fun _ _ _ h => h) rfl rfl hS501 (fun W' hs' => aK rfl) ?_
    refine aF (i := 7) rfl kR kR kR kR kR (fun _ _ _ h => h) rfl rfl hS501 (fun W' hs' => aY (v := .agg (List.toArray cs_5_5)) rfl rfl) ?_
    refine aF (i := 8) rfl kR kR kR kR kR (fun _ _ _ h => h) rfl rfl hS501 (fun W' hs' => aY (v := .agg #[.int .i64 ((twR a1 x2 x0).Kind), .int .i64 ((twR a1 x2 x0).N)]) rfl rfl) ?_
    refine aL (i := 11) kR ?_
    have H505 : St w No [hB g_5_9 68 #[.int .i64 (0), .slice none 0 0, .slice none 0 0, .slice none 0 0, .slice none 0 0], hM aG (twV a1 x2 x0) cs_5_5, hM aT x2 cs_5_4, hM aG x0 cs_5_1, hB g_5_10 72 #[.int .i64 (0), .int .i64 (0)], hB g_0_1 92 (List.toArray cs2), hB g_0_0 55 (List.toArray cs0)] W498 := H500.pick [4, 0, 1, 2, 3, 5, 6] kD rfl; clear H500
    refine aR rfl Tryz.sizeOf68 rfl rfl (bE (H505.kn 1 rfl)) rfl (bP (H505.kn 1 rfl)) H505 ?_
    intro W502 hu503 Ha504; clear H505; clear hu503
    have hS507 := And.intro (Ha504.blk 6 rfl) (Ha504.blk 5 rfl); refine ⟨fun _ => hS507, ?_⟩
    refine aL (i := 12) kR ?_
    have H511 : St w No [hB g_5_10 72 #[.int .i64 (0), .int .i64 (0)], hB g_5_9 68 (List.toArray cs_5_5), hM aG (twV a1 x2 x0) cs_5_5, hM aT x2 cs_5_4, hM aG x0 cs_5_1, hB g_0_1 92 (List.toArray cs2), hB g_0_0 55 (List.toArray cs0)] W502 := Ha504.pick [4, 0, 1, 2, 3, 5, 6] kD rfl; clear Ha504
    refine aR rfl Tryz.sizeOf72 rfl rfl rfl rfl kS H511 ?_
    intro W508 hu509 Ha510; clear H511; clear hu509
    have hS513 := And.intro (Ha510.blk 6 rfl) (Ha510.blk 5 rfl); refine ⟨fun _ => hS513, ?_⟩
    refine bD kR ?_ _
    exact (aZ [(1, .int .i64 (a1)), (3, .pointer (some ⟨g_0_0, 0, none⟩)), (5, .pointer (some ⟨g_0_1, 0, none⟩)), (8, .pointer (some ⟨g_5_9, 0, none⟩)), (9, .pointer (some ⟨g_5_10, 0, none⟩))] rfl).elim fun x' hx => ⟨cs_5_5, g_5_9, g_5_10, x', hx, Ha510.pick [0, 1, 2, 5, 6] kD rfl⟩
   refine bA rfl Tryz.zeroValue72 rfl rfl H19 ?_
   intro g_5_10 W514 hu515 Ha516; clear H19; clear hu515
   have hS518 := And.intro (Ha516.blk 2 rfl) (Ha516.blk 1 rfl); refine ⟨fun _ => hS518, ?_⟩
   refine dY (i := 1) (i2 := 9) kR ?_ ?_
   ·refine aV rfl Tryz.call27 (vs := #[.agg (List.toArray cs0)]) rfl rfl rfl (lH x0 _ _ (fV Ha516.1 hK0) hs_x0) ?_
    rintro e523 W522 ⟨cs_5_1, rfl, hM520, hu521⟩; refine ⟨_, rfl, ?_⟩
    have H526 := Ha516.new (q := hM aG x0 cs_5_1) hu521 hM520; clear Ha516
    have hS527 := And.intro (H526.blk 3 rfl) (H526.blk 2 rfl); refine ⟨fun _ => hS527, ?_⟩
    refine dY (i := 4) (i2 := 9) kR ?_ ?_
    ·refine aV rfl Tryz.call44 (vs := #[.agg (List.toArray cs2)]) rfl rfl rfl (fI x2 _ _ (fV H526.1 hK2) (by simp [dO])) ?_
     rintro e532 W531 ⟨cs_5_4, rfl, hM529, hu530⟩; refine ⟨_, rfl, ?_⟩
     have H535 := H526.new (q := hM aT x2 cs_5_4) hu530 hM529; clear H526
     have hS536 := And.intro (H535.blk 4 rfl) (H535.blk 3 rfl); refine ⟨fun _ => hS536, ?_⟩
     refine dY (i := 5) (i2 := 9) kR ?_ ?_
     ·refine aV rfl Tryz.call43 (vs := #[.agg (List.toArray cs_5_1), .int .i64 (a1), .agg (List.toArray cs_5_4)]) rfl rfl rfl (gW x0 a1 x2 _ _ _ (H535.kn 1 rfl) (Nat.le_trans hs_x0 kD) (H535.kn 0 rfl)) ?_
      rintro e540 W539 ⟨cs_5_5, rfl, hM537, hu538⟩; refine ⟨_, rfl, ?_⟩
      have H541 := H535.new (q := hM aG (twV a1 x2 x0) cs_5_5) hu538 hM537; clear H535
      have hS542 := And.intro (H541.blk 5 rfl) (H541.blk 4 rfl); refine ⟨fun _ => hS542, ?_⟩
      refine aF (i := 6) rfl kR kR kR kR kR (fun _ _ _ h => h) rfl rfl hS542 (fun W' hs' => aK rfl) ?_
      refine aF (i := 7) rfl kR kR kR kR kR (fun _ _ _ h => h) rfl rfl hS542 (fun W' hs' => aY (v := .agg (List.toArray cs_5_5)) rfl rfl) ?_
      refine aF (i := 8) rfl kR kR kR kR kR (fun _ _ _ h => h) rfl rfl hS542 (fun W' hs' => aY (v := .agg #[.int .i64 ((twR a1 x2 x0).Kind), .int .i64 ((twR a1 x2 x0).N)]) rfl rfl) ?_
      refine aL (i := 9) kR ?_
      refine bA rfl Tryz.zeroValue68 rfl rfl H541 ?_
      intro g_5_9 W543 hu544 Ha545; clear H541; clear hu544
      have hS547 := And.intro (Ha545.blk 6 rfl) (Ha545.blk 5 rfl); refine ⟨fun _ => hS547, ?_⟩
      refine aL (i := 11) kR ?_
      refine aR rfl Tryz.sizeOf68 rfl rfl (bE (Ha545.kn 1 rfl)) rfl (bP (Ha545.kn 1 rfl)) Ha545 ?_
      intro W548 hu549 Ha550; clear Ha545; clear hu549
      have hS552 := And.intro (Ha550.blk 6 rfl) (Ha550.blk 5 rfl); refine ⟨fun _ => hS552, ?_⟩
      refine aL (i := 12) kR ?_
      have H556 : St w No [hB g_5_10 72 #[.int .i64 (0), .int .i64 (0)], hB g_5_9 68 (List.toArray cs_5_5), hM aG (twV a1 x2 x0) cs_5_5, hM aT x2 cs_5_4, hM aG x0 cs_5_1, hB g_0_1 92 (List.toArray cs2), hB g_0_0 55 (List.toArray cs0)] W548 := Ha550.pick [4, 0, 1, 2, 3, 5, 6] kD rfl; clear Ha550
      refine aR rfl Tryz.sizeOf72 rfl rfl rfl rfl kS H556 ?_
      intro W553 hu554 Ha555; clear H556; clear hu554
      have hS558 := And.intro (Ha555.blk 6 rfl) (Ha555.blk 5 rfl); refine ⟨fun _ => hS558, ?_⟩
      refine bD kR ?_ _
      exact (aZ [(1, .int .i64 (a1)), (3, .pointer (some ⟨g_0_0, 0, none⟩)), (5, .pointer (some ⟨g_0_1, 0, none⟩)), (8, .pointer (some ⟨g_5_9, 0, none⟩)), (9, .pointer (some ⟨g_5_10, 0, none⟩))] rfl).elim fun x' hx => ⟨cs_5_5, g_5_9, g_5_10, x', hx, Ha555.pick [0, 1, 2, 5, 6] kD rfl⟩
     refine bA rfl Tryz.zeroValue68 rfl rfl H535 ?_
     intro g_5_9 W559 hu560 Ha561; clear H535; clear hu560
     have hS563 := And.intro (Ha561.blk 5 rfl) (Ha561.blk 4 rfl); refine ⟨fun _ => hS563, ?_⟩
     refine aL (i := 5) kR ?_
     refine aV rfl Tryz.call43 (vs := #[.agg (List.toArray cs_5_1), .int .i64 (a1), .agg (List.toArray cs_5_4)]) rfl rfl rfl (gW x0 a1 x2 _ _ _ (Ha561.kn 2 rfl) (Nat.le_trans hs_x0 kD) (Ha561.kn 1 rfl)) ?_
     rintro e567 W566 ⟨cs_5_5, rfl, hM564, hu565⟩; refine ⟨_, rfl, ?_⟩
     have H568 := Ha561.new (q := hM aG (twV a1 x2 x0) cs_5_5) hu565 hM564; clear Ha561
     have hS569 := And.intro (H568.blk 6 rfl) (H568.blk 5 rfl); refine ⟨fun _ => hS569, ?_⟩
     refine aF (i := 6) rfl kR kR kR kR kR (fun _ _ _ h => h) rfl rfl hS569 (fun W' hs' => aK rfl) ?_
     refine aF (i := 7) rfl kR kR kR kR kR (fun _ _ _ h => h) rfl rfl hS569 (fun W' hs' => aY (v := .agg (List.toArray cs_5_5)) rfl rfl) ?_
     refine aF (i := 8) rfl kR kR kR kR kR (fun _ _ _ h => h) rfl rfl hS569 (fun W' hs' => aY (v := .agg #[.int .i64 ((twR a1 x2 x0).Kind), .int .i64 ((twR a1 x2 x0).N)]) rfl rfl) ?_
     refine aL (i := 11) kR ?_
     have H573 : St w No [hB g_5_9 68 #[.int .i64 (0), .slice none 0 0, .slice none 0 0, .slice none 0 0, .slice none 0 0], hM aG (twV a1 x2 x0) cs_5_5, hM aT x2 cs_5_4, hM aG x0 cs_5_1, hB g_5_10 72 #[.int .i64 (0), .int .i64 (0)], hB g_0_1 92 (List.toArray cs2), hB g_0_0 55 (List.toArray cs0)] W566 := H568.pick [1, 0, 2, 3, 4, 5, 6] kD rfl; clear H568
     refine aR rfl Tryz.sizeOf68 rfl rfl (bE (H573.kn 1 rfl)) rfl (bP (H573.kn 1 rfl)) H573 ?_
     intro W570 hu571 Ha572; clear H573; clear hu571
     have hS575 := And.intro (Ha572.blk 6 rfl) (Ha572.blk 5 rfl); refine ⟨fun _ => hS575, ?_⟩
     refine aL (i := 12) kR ?_
     have H579 : St w No [hB g_5_10 72 #[.int .i64 (0), .int .i64 (0)], hB g_5_9 68 (List.toArray cs_5_5), hM aG (twV a1 x2 x0) cs_5_5, hM aT x2 cs_5_4, hM aG x0 cs_5_1, hB g_0_1 92 (List.toArray cs2), hB g_0_0 55 (List.toArray cs0)] W570 := Ha572.pick [4, 0, 1, 2, 3, 5, 6] kD rfl; clear Ha572
     refine aR rfl Tryz.sizeOf72 rfl rfl rfl rfl kS H579 ?_
     intro W576 hu577 Ha578; clear H579; clear hu577
     have hS581 := And.intro (Ha578.blk 6 rfl) (Ha578.blk 5 rfl); refine ⟨fun _ => hS581, ?_⟩
     refine bD kR ?_ _
     exact (aZ [(1, .int .i64 (a1)), (3, .pointer (some ⟨g_0_0, 0, none⟩)), (5, .pointer (some ⟨g_0_1, 0, none⟩)), (8, .pointer (some ⟨g_5_9, 0, none⟩)), (9, .pointer (some ⟨g_5_10, 0, none⟩))] rfl).elim fun x' hx => ⟨cs_5_5, g_5_9, g_5_10, x', hx, Ha578.pick [0, 1, 2, 5, 6] kD rfl⟩
    refine bA rfl Tryz.zeroValue68 rfl rfl H526 ?_
    intro g_5_9 W582 hu583 Ha584; clear H526; clear hu583
    have hS586 := And.intro (Ha584.blk 4 rfl) (Ha584.blk 3 rfl); refine ⟨fun _ => hS586, ?_⟩
    refine aL (i := 4) kR ?_
    refine aV rfl Tryz.call44 (vs := #[.agg (List.toArray cs2)]) rfl rfl rfl (fI x2 _ _ (fV Ha584.1 hK2) (by simp [dO])) ?_
    rintro e591 W590 ⟨cs_5_4, rfl, hM588, hu589⟩; refine ⟨_, rfl, ?_⟩
    have H594 := Ha584.new (q := hM aT x2 cs_5_4) hu589 hM588; clear Ha584
    have hS595 := And.intro (H594.blk 5 rfl) (H594.blk 4 rfl); refine ⟨fun _ => hS595, ?_⟩
    refine aL (i := 5) kR ?_
    refine aV rfl Tryz.call43 (vs := #[.agg (List.toArray cs_5_1), .int .i64 (a1), .agg (List.toArray cs_5_4)]) rfl rfl rfl (gW x0 a1 x2 _ _ _ (H594.kn 2 rfl) (Nat.le_trans hs_x0 kD) (H594.kn 0 rfl)) ?_
    rintro e599 W598 ⟨cs_5_5, rfl, hM596, hu597⟩; refine ⟨_, rfl, ?_⟩
    have H600 := H594.new (q := hM aG (twV a1 x2 x0) cs_5_5) hu597 hM596; clear H594
    have hS601 := And.intro (H600.blk 6 rfl) (H600.blk 5 rfl); refine ⟨fun _ => hS601, ?_⟩
    refine aF (i := 6) rfl kR kR kR kR kR (fun _ _ _ h => h) rfl rfl hS601 (fun W' hs' => aK rfl) ?_
    refine aF (i := 7) rfl kR kR kR kR kR (fun _ _ _ h => h) rfl rfl hS601 (fun W' hs' => aY (v := .agg (List.toArray cs_5_5)) rfl rfl) ?_
    refine aF (i := 8) rfl kR kR kR kR kR (fun _ _ _ h => h) rfl rfl hS601 (fun W' hs' => aY (v := .agg #[.int .i64 ((twR a1 x2 x0).Kind), .int .i64 ((twR a1 x2 x0).N)]) rfl rfl) ?_
    refine aL (i := 11) kR ?_
    have H605 : St w No [hB g_5_9 68 #[.int .i64 (0), .slice none 0 0, .slice none 0 0, .slice none 0 0, .slice none 0 0], hM aG (twV a1 x2 x0) cs_5_5, hM aT x2 cs_5_4, hM aG x0 cs_5_1, hB g_5_10 72 #[.int .i64 (0), .int .i64 (0)], hB g_0_1 92 (List.toArray cs2), hB g_0_0 55 (List.toArray cs0)] W598 := H600.pick [2, 0, 1, 3, 4, 5, 6] kD rfl; clear H600
    refine aR rfl Tryz.sizeOf68 rfl rfl (bE (H605.kn 1 rfl)) rfl (bP (H605.kn 1 rfl)) H605 ?_
    intro W602 hu603 Ha604; clear H605; clear hu603
    have hS607 := And.intro (Ha604.blk 6 rfl) (Ha604.blk 5 rfl); refine ⟨fun _ => hS607, ?_⟩
    refine aL (i := 12) kR ?_
    have H611 : St w No [hB g_5_10 72 #[.int .i64 (0), .int .i64 (0)], hB g_5_9 68 (List.toArray cs_5_5), hM aG (twV a1 x2 x0) cs_5_5, hM aT x2 cs_5_4, hM aG x0 cs_5_1, hB g_0_1 92 (List.toArray cs2), hB g_0_0 55 (List.toArray cs0)] W602 := Ha604.pick [4, 0, 1, 2, 3, 5, 6] kD rfl; clear Ha604
    refine aR rfl Tryz.sizeOf72 rfl rfl rfl rfl kS H611 ?_
    intro W608 hu609 Ha610; clear H611; clear hu609
    have hS613 := And.intro (Ha610.blk 6 rfl) (Ha610.blk 5 rfl); refine ⟨fun _ => hS613, ?_⟩
    refine bD kR ?_ _
    exact (aZ [(1, .int .i64 (a1)), (3, .pointer (some ⟨g_0_0, 0, none⟩)), (5, .pointer (some ⟨g_0_1, 0, none⟩)), (8, .pointer (some ⟨g_5_9, 0, none⟩)), (9, .pointer (some ⟨g_5_10, 0, none⟩))] rfl).elim fun x' hx => ⟨cs_5_5, g_5_9, g_5_10, x', hx, Ha610.pick [0, 1, 2, 5, 6] kD rfl⟩
   refine bA rfl Tryz.zeroValue68 rfl rfl Ha516 ?_
   intro g_5_9 W614 hu615 Ha616; clear Ha516; clear hu615
   have hS618 := And.intro (Ha616.blk 3 rfl) (Ha616.blk 2 rfl); refine ⟨fun _ => hS618, ?_⟩
   refine aL (i := 1) kR ?_
   refine aV rfl Tryz.call27 (vs := #[.agg (List.toArray cs0)]) rfl rfl rfl (lH x0 _ _ (fV Ha616.1 hK0) hs_x0) ?_
   rintro e623 W622 ⟨cs_5_1, rfl, hM620, hu621⟩; refine ⟨_, rfl, ?_⟩
   have H626 := Ha616.new (q := hM aG x0 cs_5_1) hu621 hM620; clear Ha616
   have hS627 := And.intro (H626.blk 4 rfl) (H626.blk 3 rfl); refine ⟨fun _ => hS627, ?_⟩
   refine aL (i := 4) kR ?_
   refine aV rfl Tryz.call44 (vs := #[.agg (List.toArray cs2)]) rfl rfl rfl (fI x2 _ _ (fV H626.1 hK2) (by simp [dO])) ?_
   rintro e632 W631 ⟨cs_5_4, rfl, hM629, hu630⟩; refine ⟨_, rfl, ?_⟩
   have H635 := H626.new (q := hM aT x2 cs_5_4) hu630 hM629; clear H626
   have hS636 := And.intro (H635.blk 5 rfl) (H635.blk 4 rfl); refine ⟨fun _ => hS636, ?_⟩
   refine aL (i := 5) kR ?_
   refine aV rfl Tryz.call43 (vs := #[.agg (List.toArray cs_5_1), .int .i64 (a1), .agg (List.toArray cs_5_4)]) rfl rfl rfl (gW x0 a1 x2 _ _ _ (H635.kn 1 rfl) (Nat.le_trans hs_x0 kD) (H635.kn 0 rfl)) ?_
   rintro e640 W639 ⟨cs_5_5, rfl, hM637, hu638⟩; refine ⟨_, rfl, ?_⟩
   have H641 := H635.new (q := hM aG (twV a1 x2 x0) cs_5_5) hu638 hM637; clear H635
   have hS642 := And.intro (H641.blk 6 rfl) (H641.blk 5 rfl); refine ⟨fun _ => hS642, ?_⟩
   refine aF (i := 6) rfl kR kR kR kR kR (fun _ _ _ h => h) rfl rfl hS642 (fun W' hs' => aK rfl) ?_
   refine aF (i := 7) rfl kR kR kR kR kR (fun _ _ _ h => h) rfl rfl hS642 (fun W' hs' => aY (v := .agg (List.toArray cs_5_5)) rfl rfl) ?_
   refine aF (i := 8) rfl kR kR kR kR kR (fun _ _ _ h => h) rfl rfl hS642 (fun W' hs' => aY (v := .agg #[.int .i64 ((twR a1 x2 x0).Kind), .int .i64 ((twR a1 x2 x0).N)]) rfl rfl) ?_
   refine aL (i := 11) kR ?_
   have H646 : St w No [hB g_5_9 68 #[.int .i64 (0), .slice none 0 0, .slice none 0 0, .slice none 0 0, .slice none 0 0], hM aG (twV a1 x2 x0) cs_5_5, hM aT x2 cs_5_4, hM aG x0 cs_5_1, hB g_5_10 72 #[.int .i64 (0), .int .i64 (0)], hB g_0_1 92 (List.toArray cs2), hB g_0_0 55 (List.toArray cs0)] W639 := H641.pick [3, 0, 1, 2, 4, 5, 6] kD rfl; clear H641
   refine aR rfl Tryz.sizeOf68 rfl rfl (bE (H646.kn 1 rfl)) rfl (bP (H646.kn 1 rfl)) H646 ?_
   intro W643 hu644 Ha645; clear H646; clear hu644
   have hS648 := And.intro (Ha645.blk 6 rfl) (Ha645.blk 5 rfl); refine ⟨fun _ => hS648, ?_⟩
   refine aL (i := 12) kR ?_
   have H652 : St w No [hB g_5_10 72 #[.int .i64 (0), .int .i64 (0)], hB g_5_9 68 (List.toArray cs_5_5), hM aG (twV a1 x2 x0) cs_5_5, hM aT x2 cs_5_4, hM aG x0 cs_5_1, hB g_0_1 92 (List.toArray cs2), hB g_0_0 55 (List.toArray cs0)] W643 := Ha645.pick [4, 0, 1, 2, 3, 5, 6] kD rfl; clear Ha645
   refine aR rfl Tryz.sizeOf72 rfl rfl rfl rfl kS H652 ?_
   intro W649 hu650 Ha651; clear H652; clear hu650
   have hS654 := And.intro (Ha651.blk 6 rfl) (Ha651.blk 5 rfl); refine ⟨fun _ => hS654, ?_⟩
   refine bD kR ?_ _
   exact (aZ [(1, .int .i64 (a1)), (3, .pointer (some ⟨g_0_0, 0, none⟩)), (5, .pointer (some ⟨g_0_1, 0, none⟩)), (8, .pointer (some ⟨g_5_9, 0, none⟩)), (9, .pointer (some ⟨g_5_10, 0, none⟩))] rfl).elim fun x' hx => ⟨cs_5_5, g_5_9, g_5_10, x', hx, Ha651.pick [0, 1, 2, 5, 6] kD rfl⟩
  ·rintro _ W656 ⟨cs_5_5, g_5_9, g_5_10, x657, rfl, H655⟩
   refine aM ?_
   refine wp_seq ?_
   refine aS [0, 1, 2, 3] rfl ?_
   refine aB ?_
   refine aC rfl (bI Tryz.isAgg55 Tryz.sizeOf55 rfl (H655.blk 4 rfl) hl0_) rfl rfl ?_
   refine aB ?_
   refine aV rfl Tryz.call27 (vs := #[.agg (List.toArray cs0)]) rfl rfl rfl (lH x0 _ _ (fV H655.1 hK0) hs_x0) ?_
   rintro e662 W661 ⟨cs_6_1, rfl, hM659, hu660⟩; refine ⟨_, rfl, ?_⟩
   have H665 := H655.new (q := hM aG x0 cs_6_1) hu660 hM659; clear H655
   refine aB ?_
   refine bA rfl Tryz.zeroValue68 rfl rfl H665 ?_
   intro g_6_2 W666 hu667 Ha668; clear H665; clear hu667
   refine aB ?_
   refine aR rfl Tryz.sizeOf68 rfl rfl (bE (Ha668.kn 1 rfl)) rfl (bP (Ha668.kn 1 rfl)) Ha668 ?_
   intro W670 hu671 Ha672; clear Ha668; clear hu671
   refine aN ?_
   refine aM ?_
   refine wp_seq ?_
   refine lC (fun a' W' => ∃ (cs_7_4 : List Value) (g_7_8 : Nat) (g_7_9 : Nat) (x' : Nat → Value), a' = bO 112 x' [(1, .int .i64 (a1)), (3, .pointer (some ⟨g_0_0, 0, none⟩)), (5, .pointer (some ⟨g_0_1, 0, none⟩)), (8, .pointer (some ⟨g_5_9, 0, none⟩)), (9, .pointer (some ⟨g_5_10, 0, none⟩)), (10, .pointer (some ⟨g_6_2, 0, none⟩)), (11, .pointer (some ⟨g_7_8, 0, none⟩)), (12, .pointer (some ⟨g_7_9, 0, none⟩))] ∧ St w No [hB g_7_9 72 #[.int .i64 ((twR a1 x2 x0).Kind), .int .i64 ((twR a1 x2 x0).N)], hB g_7_8 68 (List.toArray cs_7_4), hM aG (twV a1 x2 x0) cs_7_4, hB g_6_2 68 (List.toArray cs_6_1), hM aG x0 cs_6_1, hB g_5_10 72 #[.int .i64 ((twR a1 x2 x0).Kind), .int .i64 ((twR a1 x2 x0).N)], hB g_5_9 68 (List.toArray cs_5_5), hM aG (twV a1 x2 x0) cs_5_5, hB g_0_1 92 (List.toArray cs2), hB g_0_0 55 (List.toArray cs0)] W') ?_ ?_
   ·refine eH (fun W' => Blk W' g_6_2 68 (List.toArray cs_6_1) ∧ Blk W' g_0_1 92 (List.toArray cs2)) 12 kR ?_
    have H674 := Ha672.drew; clear Ha672
    have hS675 : Blk W670.drew g_6_2 68 (List.toArray cs_6_1) ∧ Blk W670.drew g_0_1 92 (List.toArray cs2) := ⟨H674.blk 0 rfl, H674.blk 5 rfl⟩
    refine aF (i := 0) rfl kR kR kR kR kR (fun _ _ _ h => h) rfl rfl hS675 (fun W' hs' => bI Tryz.isAgg68 Tryz.sizeOf68 rfl hs'.1 (bE (H674.kn 1 rfl))) ?_
    refine aF (i := 1) rfl kR kR kR kR kR (fun _ _ _ h => h) rfl rfl hS675 (fun W' hs' => aK rfl) ?_
    refine aF (i := 2) rfl kR kR kR kR kR (fun _ _ _ h => h) rfl rfl hS675 (fun W' hs' => bI Tryz.isAgg92 Tryz.sizeOf92 rfl hs'.2 hl2_) ?_
    refine kU (i := 3) (i2 := 8) (i3 := 9) kR ?_ ?_ ?_
    ·refine aV rfl Tryz.call44 (vs := #[.agg (List.toArray cs2)]) rfl rfl rfl (fI x2 _ _ (fV H674.1 hK2) (by simp [dO])) ?_
     rintro e680 W679 ⟨cs_7_3, rfl, hM677, hu678⟩; refine ⟨_, rfl, ?_⟩
     have H683 := H674.new (q := hM aT x2 cs_7_3) hu678 hM677; clear H674
     have hS684 := And.intro (H683.blk 1 rfl) (H683.blk 6 rfl); refine ⟨fun _ => hS684, ?_⟩
     refine kU (i := 4) (i2 := 8) (i3 := 9) kR ?_ ?_ ?_
     ·refine aV rfl Tryz.call45 (vs := #[.agg (List.toArray cs_6_1), .int .i64 (a1), .agg (List.toArray cs_7_3)]) rfl rfl rfl (fF x0 a1 x2 _ _ _ (H683.kn 2 rfl) (Nat.le_trans hs_x0 kD) (H683.kn 0 rfl)) ?_
      rintro e688 W687 ⟨cs_7_4, rfl, hM685, hu686⟩; refine ⟨_, rfl, ?_⟩
      have H689 := H683.new (q := hM aG (twV a1 x2 x0) cs_7_4) hu686 hM685; clear H683
      have hS690 := And.intro (H689.blk 2 rfl) (H689.blk 7 rfl); refine ⟨fun _ => hS690, ?_⟩
      refine aF (i := 5) rfl kR kR kR kR kR (fun _ _ _ h => h) rfl rfl hS690 (fun W' hs' => aK rfl) ?_
      refine aF (i := 6) rfl kR kR kR kR kR (fun _ _ _ h => h) rfl rfl hS690 (fun W' hs' => aY (v := .agg (List.toArray cs_7_4)) rfl rfl) ?_
      refine aF (i := 7) rfl kR kR kR kR kR (fun _ _ _ h => h) rfl rfl hS690 (fun W' hs' => aY (v := .agg #[.int .i64 ((twR a1 x2 x0).Kind), .int .i64 ((twR a1 x2 x0).N)]) rfl rfl) ?_
      refine dY (i := 8) (i2 := 9) kR ?_ ?_
      ·refine bA rfl Tryz.zeroValue68 rfl rfl H689 ?_
       intro g_7_8 W691 hu692 Ha693; clear H689; clear hu692
       have hS695 := And.intro (Ha693.blk 3 rfl) (Ha693.blk 8 rfl); refine ⟨fun _ => hS695, ?_⟩
       refine aL (i := 9) kR ?_
       refine bA rfl Tryz.zeroValue72 rfl rfl Ha693 ?_
       intro g_7_9 W696 hu697 Ha698; clear Ha693; clear hu697
       have hS700 := And.intro (Ha698.blk 4 rfl) (Ha698.blk 9 rfl); refine ⟨fun _ => hS700, ?_⟩
       refine aL (i := 10) kR ?_
       have H704 : St w No [hB g_7_8 68 #[.int .i64 (0), .slice none 0 0, .slice none 0 0, .slice none 0 0, .slice none 0 0], hB g_7_9 72 #[.int .i64 (0), .int .i64 (0)], hM aG (twV a1 x2 x0) cs_7_4, hM aT x2 cs_7_3, hB g_6_2 68 (List.toArray cs_6_1), hM aG x0 cs_6_1, hB g_5_10 72 #[.int .i64 ((twR a1 x2 x0).Kind), .int .i64 ((twR a1 x2 x0).N)], hB g_5_9 68 (List.toArray cs_5_5), hM aG (twV a1 x2 x0) cs_5_5, hB g_0_1 92 (List.toArray cs2), hB g_0_0 55 (List.toArray cs0)] W696 := Ha698.pick [1, 0, 2, 3, 4, 5, 6, 7, 8, 9, 10] kD rfl; clear Ha698
       refine aR rfl Tryz.sizeOf68 rfl rfl (bE (H704.kn 2 rfl)) rfl (bP (H704.kn 2 rfl)) H704 ?_
       intro W701 hu702 Ha703; clear H704; clear hu702
       have hS706 := And.intro (Ha703.blk 4 rfl) (Ha703.blk 9 rfl); refine ⟨fun _ => hS706, ?_⟩
       refine aL (i := 11) kR ?_
       have H710 : St w No [hB g_7_9 72 #[.int .i64 (0), .int .i64 (0)], hB g_7_8 68 (List.toArray cs_7_4), hM aG (twV a1 x2 x0) cs_7_4, hM aT x2 cs_7_3, hB g_6_2 68 (List.toArray cs_6_1), hM aG x0 cs_6_1, hB g_5_10 72 #[.int .i64 ((twR a1 x2 x0).Kind), .int .i64 ((twR a1 x2 x0).N)], hB g_5_9 68 (List.toArray cs_5_5), hM aG (twV a1 x2 x0) cs_5_5, hB g_0_1 92 (List.toArray cs2), hB g_0_0 55 (List.toArray cs0)] W701 := Ha703.pick [1, 0, 2, 3, 4, 5, 6, 7, 8, 9, 10] kD rfl; clear Ha703
       refine aR rfl Tryz.sizeOf72 rfl rfl rfl rfl kS H710 ?_
       intro W707 hu708 Ha709; clear H710; clear hu708
       have hS712 := And.intro (Ha709.blk 4 rfl) (Ha709.blk 9 rfl); refine ⟨fun _ => hS712, ?_⟩
       refine bD kR ?_ _
       exact (aZ [(1, .int .i64 (a1)), (3, .pointer (some ⟨g_0_0, 0, none⟩)), (5, .pointer (some ⟨g_0_1, 0, none⟩)), (8, .pointer (some ⟨g_5_9, 0, none⟩)), (9, .pointer (some ⟨g_5_10, 0, none⟩)), (10, .pointer (some ⟨g_6_2, 0, none⟩)), (11, .pointer (some ⟨g_7_8, 0, none⟩)), (12, .pointer (some ⟨g_7_9, 0, none⟩))] rfl).elim fun x' hx => ⟨cs_7_4, g_7_8, g_7_9, x', hx, Ha709.pick [0, 1, 2, 4, 5, 6, 7, 8, 9, 10] kD rfl⟩
      refine bA rfl Tryz.zeroValue72 rfl rfl H689 ?_
      intro g_7_9 W713 hu714 Ha715; clear H689; clear hu714
      have hS717 := And.intro (Ha715.blk 3 rfl) (Ha715.blk 8 rfl); refine ⟨fun _ => hS717, ?_⟩
      refine aL (i := 8) kR ?_
      refine bA rfl Tryz.zeroValue68 rfl rfl Ha715 ?_
      intro g_7_8 W718 hu719 Ha720; clear Ha715; clear hu719
      have hS722 := And.intro (Ha720.blk 4 rfl) (Ha720.blk 9 rfl); refine ⟨fun _ => hS722, ?_⟩
      refine aL (i := 10) kR ?_
      refine aR rfl Tryz.sizeOf68 rfl rfl (bE (Ha720.kn 2 rfl)) rfl (bP (Ha720.kn 2 rfl)) Ha720 ?_
      intro W723 hu724 Ha725; clear Ha720; clear hu724
      have hS727 := And.intro (Ha725.blk 4 rfl) (Ha725.blk 9 rfl); refine ⟨fun _ => hS727, ?_⟩
      refine aL (i := 11) kR ?_
      have H731 : St w No [hB g_7_9 72 #[.int .i64 (0), .int .i64 (0)], hB g_7_8 68 (List.toArray cs_7_4), hM aG (twV a1 x2 x0) cs_7_4, hM aT x2 cs_7_3, hB g_6_2 68 (List.toArray cs_6_1), hM aG x0 cs_6_1, hB g_5_10 72 #[.int .i64 ((twR a1 x2 x0).Kind), .int .i64 ((twR a1 x2 x0).N)], hB g_5_9 68 (List.toArray cs_5_5), hM aG (twV a1 x2 x0) cs_5_5, hB g_0_1 92 (List.toArray cs2), hB g_0_0 55 (List.toArray cs0)] W723 := Ha725.pick [1, 0, 2, 3, 4, 5, 6, 7, 8, 9, 10] kD rfl; clear Ha725
      refine aR rfl Tryz.sizeOf72 rfl rfl rfl rfl kS H731 ?_
      intro W728 hu729 Ha730; clear H731; clear hu729
      have hS733 := And.intro (Ha730.blk 4 rfl) (Ha730.blk 9 rfl); refine ⟨fun _ => hS733, ?_⟩
      refine bD kR ?_ _
      exact (aZ [(1, .int .i64 (a1)), (3, .pointer (some ⟨g_0_0, 0, none⟩)), (5, .pointer (some ⟨g_0_1, 0, none⟩)), (8, .pointer (some ⟨g_5_9, 0, none⟩)), (9, .pointer (some ⟨g_5_10, 0, none⟩)), (10, .pointer (some ⟨g_6_2, 0, none⟩)), (11, .pointer (some ⟨g_7_8, 0, none⟩)), (12, .pointer (some ⟨g_7_9, 0, none⟩))] rfl).elim fun x' hx => ⟨cs_7_4, g_7_8, g_7_9, x', hx, Ha730.pick [0, 1, 2, 4, 5, 6, 7, 8, 9, 10] kD rfl⟩
     ·refine bA rfl Tryz.zeroValue68 rfl rfl H683 ?_
      intro g_7_8 W734 hu735 Ha736; clear H683; clear hu735
      have hS738 := And.intro (Ha736.blk 2 rfl) (Ha736.blk 7 rfl); refine ⟨fun _ => hS738, ?_⟩
      refine dY (i := 4) (i2 := 9) kR ?_ ?_
      ·refine aV rfl Tryz.call45 (vs := #[.agg (List.toArray cs_6_1), .int .i64 (a1), .agg (List.toArray cs_7_3)]) rfl rfl rfl (fF x0 a1 x2 _ _ _ (Ha736.kn 3 rfl) (Nat.le_trans hs_x0 kD) (Ha736.kn 1 rfl)) ?_
       rintro e742 W741 ⟨cs_7_4, rfl, hM739, hu740⟩; refine ⟨_, rfl, ?_⟩
       have H743 := Ha736.new (q := hM aG (twV a1 x2 x0) cs_7_4) hu740 hM739; clear Ha736
       have hS744 := And.intro (H743.blk 3 rfl) (H743.blk 8 rfl); refine ⟨fun _ => hS744, ?_⟩
       refine aF (i := 5) rfl kR kR kR kR kR (fun _ _ _ h => h) rfl rfl hS744 (fun W' hs' => aK rfl) ?_
       refine aF (i := 6) rfl kR kR kR kR kR (fun _ _ _ h => h) rfl rfl hS744 (fun W' hs' => aY (v := .agg (List.toArray cs_7_4)) rfl rfl) ?_
       refine aF (i := 7) rfl kR kR kR kR kR (fun _ _ _ h => h) rfl rfl hS744 (fun W' hs' => aY (v := .agg #[.int .i64 ((twR a1 x2 x0).Kind), .int .i64 ((twR a1 x2 x0).N)]) rfl rfl) ?_
       refine aL (i := 9) kR ?_
       refine bA rfl Tryz.zeroValue72 rfl rfl H743 ?_
       intro g_7_9 W745 hu746 Ha747; clear H743; clear hu746
       have hS749 := And.intro (Ha747.blk 4 rfl) (Ha747.blk 9 rfl); refine ⟨fun _ => hS749, ?_⟩
       refine aL (i := 10) kR ?_
       have H753 : St w No [hB g_7_8 68 #[.int .i64 (0), .slice none 0 0, .slice none 0 0, .slice none 0 0, .slice none 0 0], hB g_7_9 72 #[.int .i64 (0), .int .i64 (0)], hM aG (twV a1 x2 x0) cs_7_4, hM aT x2 cs_7_3, hB g_6_2 68 (List.toArray cs_6_1), hM aG x0 cs_6_1, hB g_5_10 72 #[.int .i64 ((twR a1 x2 x0).Kind), .int .i64 ((twR a1 x2 x0).N)], hB g_5_9 68 (List.toArray cs_5_5), hM aG (twV a1 x2 x0) cs_5_5, hB g_0_1 92 (List.toArray cs2), hB g_0_0 55 (List.toArray cs0)] W745 := Ha747.pick [2, 0, 1, 3, 4, 5, 6, 7, 8, 9, 10] kD rfl; clear Ha747
       refine aR rfl Tryz.sizeOf68 rfl rfl (bE (H753.kn 2 rfl)) rfl (bP (H753.kn 2 rfl)) H753 ?_
       intro W750 hu751 Ha752; clear H753; clear hu751
       have hS755 := And.intro (Ha752.blk 4 rfl) (Ha752.blk 9 rfl); refine ⟨fun _ => hS755, ?_⟩
       refine aL (i := 11) kR ?_
       have H759 : St w No [hB g_7_9 72 #[.int .i64 (0), .int .i64 (0)], hB g_7_8 68 (List.toArray cs_7_4), hM aG (twV a1 x2 x0) cs_7_4, hM aT x2 cs_7_3, hB g_6_2 68 (List.toArray cs_6_1), hM aG x0 cs_6_1, hB g_5_10 72 #[.int .i64 ((twR a1 x2 x0).Kind), .int .i64 ((twR a1 x2 x0).N)], hB g_5_9 68 (List.toArray cs_5_5), hM aG (twV a1 x2 x0) cs_5_5, hB g_0_1 92 (List.toArray cs2), hB g_0_0 55 (List.toArray cs0)] W750 := Ha752.pick [1, 0, 2, 3, 4, 5, 6, 7, 8, 9, 10] kD rfl; clear Ha752
       refine aR rfl Tryz.sizeOf72 rfl rfl rfl rfl kS H759 ?_
       intro W756 hu757 Ha758; clear H759; clear hu757
       have hS761 := And.intro (Ha758.blk 4 rfl) (Ha758.blk 9 rfl); refine ⟨fun _ => hS761, ?_⟩
       refine bD kR ?_ _
       exact (aZ [(1, .int .i64 (a1)), (3, .pointer (some ⟨g_0_0, 0, none⟩)), (5, .pointer (some ⟨g_0_1, 0, none⟩)), (8, .pointer (some ⟨g_5_9, 0, none⟩)), (9, .pointer (some ⟨g_5_10, 0, none⟩)), (10, .pointer (some ⟨g_6_2, 0, none⟩)), (11, .pointer (some ⟨g_7_8, 0, none⟩)), (12, .pointer (some ⟨g_7_9, 0, none⟩))] rfl).elim fun x' hx => ⟨cs_7_4, g_7_8, g_7_9, x', hx, Ha758.pick [0, 1, 2, 4, 5, 6, 7, 8, 9, 10] kD rfl⟩
      refine bA rfl Tryz.zeroValue72 rfl rfl Ha736 ?_
      intro g_7_9 W762 hu763 Ha764; clear Ha736; clear hu763
      have hS766 := And.intro (Ha764.blk 3 rfl) (Ha764.blk 8 rfl); refine ⟨fun _ => hS766, ?_⟩
      refine aL (i := 4) kR ?_
      refine aV rfl Tryz.call45 (vs := #[.agg (List.toArray cs_6_1), .int .i64 (a1), .agg (List.toArray cs_7_3)]) rfl rfl rfl (fF x0 a1 x2 _ _ _ (Ha764.kn 4 rfl) (Nat.le_trans hs_x0 kD) (Ha764.kn 2 rfl)) ?_
      rintro e770 W769 ⟨cs_7_4, rfl, hM767, hu768⟩; refine ⟨_, rfl, ?_⟩
      have H771 := Ha764.new (q := hM aG (twV a1 x2 x0) cs_7_4) hu768 hM767; clear Ha764
      have hS772 := And.intro (H771.blk 4 rfl) (H771.blk 9 rfl); refine ⟨fun _ => hS772, ?_⟩
      refine aF (i := 5) rfl kR kR kR kR kR (fun _ _ _ h => h) rfl rfl hS772 (fun W' hs' => aK rfl) ?_
      refine aF (i := 6) rfl kR kR kR kR kR (fun _ _ _ h => h) rfl rfl hS772 (fun W' hs' => aY (v := .agg (List.toArray cs_7_4)) rfl rfl) ?_
      refine aF (i := 7) rfl kR kR kR kR kR (fun _ _ _ h => h) rfl rfl hS772 (fun W' hs' => aY (v := .agg #[.int .i64 ((twR a1 x2 x0).Kind), .int .i64 ((twR a1 x2 x0).N)]) rfl rfl) ?_
      refine aL (i := 10) kR ?_
      have H776 : St w No [hB g_7_8 68 #[.int .i64 (0), .slice none 0 0, .slice none 0 0, .slice none 0 0, .slice none 0 0], hM aG (twV a1 x2 x0) cs_7_4, hB g_7_9 72 #[.int .i64 (0), .int .i64 (0)], hM aT x2 cs_7_3, hB g_6_2 68 (List.toArray cs_6_1), hM aG x0 cs_6_1, hB g_5_10 72 #[.int .i64 ((twR a1 x2 x0).Kind), .int .i64 ((twR a1 x2 x0).N)], hB g_5_9 68 (List.toArray cs_5_5), hM aG (twV a1 x2 x0) cs_5_5, hB g_0_1 92 (List.toArray cs2), hB g_0_0 55 (List.toArray cs0)] W769 := H771.pick [2, 0, 1, 3, 4, 5, 6, 7, 8, 9, 10] kD rfl; clear H771
      refine aR rfl Tryz.sizeOf68 rfl rfl (bE (H776.kn 1 rfl)) rfl (bP (H776.kn 1 rfl)) H776 ?_
      intro W773 hu774 Ha775; clear H776; clear hu774
      have hS778 := And.intro (Ha775.blk 4 rfl) (Ha775.blk 9 rfl); refine ⟨fun _ => hS778, ?_⟩
      refine aL (i := 11) kR ?_
      have H782 : St w No [hB g_7_9 72 #[.int .i64 (0), .int .i64 (0)], hB g_7_8 68 (List.toArray cs_7_4), hM aG (twV a1 x2 x0) cs_7_4, hM aT x2 cs_7_3, hB g_6_2 68 (List.toArray cs_6_1), hM aG x0 cs_6_1, hB g_5_10 72 #[.int .i64 ((twR a1 x2 x0).Kind), .int .i64 ((twR a1 x2 x0).N)], hB g_5_9 68 (List.toArray cs_5_5), hM aG (twV a1 x2 x0) cs_5_5, hB g_0_1 92 (List.toArray cs2), hB g_0_0 55 (List.toArray cs0)] W773 := Ha775.pick [2, 0, 1, 3, 4, 5, 6, 7, 8, 9, 10] kD rfl; clear Ha775
      refine aR rfl Tryz.sizeOf72 rfl rfl rfl rfl kS H782 ?_
      intro W779 hu780 Ha781; clear H782; clear hu780
      have hS784 := And.intro (Ha781.blk 4 rfl) (Ha781.blk 9 rfl); refine ⟨fun _ => hS784, ?_⟩
      refine bD kR ?_ _
      exact (aZ [(1, .int .i64 (a1)), (3, .pointer (some ⟨g_0_0, 0, none⟩)), (5, .pointer (some ⟨g_0_1, 0, none⟩)), (8, .pointer (some ⟨g_5_9, 0, none⟩)), (9, .pointer (some ⟨g_5_10, 0, none⟩)), (10, .pointer (some ⟨g_6_2, 0, none⟩)), (11, .pointer (some ⟨g_7_8, 0, none⟩)), (12, .pointer (some ⟨g_7_9, 0, none⟩))] rfl).elim fun x' hx => ⟨cs_7_4, g_7_8, g_7_9, x', hx, Ha781.pick [0, 1, 2, 4, 5, 6, 7, 8, 9, 10] kD rfl⟩
     refine bA rfl Tryz.zeroValue72 rfl rfl H683 ?_
     intro g_7_9 W785 hu786 Ha787; clear H683; clear hu786
     have hS789 := And.intro (Ha787.blk 2 rfl) (Ha787.blk 7 rfl); refine ⟨fun _ => hS789, ?_⟩
     refine dY (i := 4) (i2 := 8) kR ?_ ?_
     ·refine aV rfl Tryz.call45 (vs := #[.agg (List.toArray cs_6_1), .int .i64 (a1), .agg (List.toArray cs_7_3)]) rfl rfl rfl (fF x0 a1 x2 _ _ _ (Ha787.kn 3 rfl) (Nat.le_trans hs_x0 kD) (Ha787.kn 1 rfl)) ?_
      rintro e793 W792 ⟨cs_7_4, rfl, hM790, hu791⟩; refine ⟨_, rfl, ?_⟩
      have H794 := Ha787.new (q := hM aG (twV a1 x2 x0) cs_7_4) hu791 hM790; clear Ha787
      have hS795 := And.intro (H794.blk 3 rfl) (H794.blk 8 rfl); refine ⟨fun _ => hS795, ?_⟩
      refine aF (i := 5) rfl kR kR kR kR kR (fun _ _ _ h => h) rfl rfl hS795 (fun W' hs' => aK rfl) ?_
      refine aF (i := 6) rfl kR kR kR kR kR (fun _ _ _ h => h) rfl rfl hS795 (fun W' hs' => aY (v := .agg (List.toArray cs_7_4)) rfl rfl) ?_
      refine aF (i := 7) rfl kR kR kR kR kR (fun _ _ _ h => h) rfl rfl hS795 (fun W' hs' => aY (v := .agg #[.int .i64 ((twR a1 x2 x0).Kind), .int .i64 ((twR a1 x2 x0).N)]) rfl rfl) ?_
      refine aL (i := 8) kR ?_
      refine bA rfl Tryz.zeroValue68 rfl rfl H794 ?_
      intro g_7_8 W796 hu797 Ha798; clear H794; clear hu797
      have hS800 := And.intro (Ha798.blk 4 rfl) (Ha798.blk 9 rfl); refine ⟨fun _ => hS800, ?_⟩
      refine aL (i := 10) kR ?_
      refine aR rfl Tryz.sizeOf68 rfl rfl (bE (Ha798.kn 1 rfl)) rfl (bP (Ha798.kn 1 rfl)) Ha798 ?_
      intro W801 hu802 Ha803; clear Ha798; clear hu802
      have hS805 := And.intro (Ha803.blk 4 rfl) (Ha803.blk 9 rfl); refine ⟨fun _ => hS805, ?_⟩
      refine aL (i := 11) kR ?_
      have H809 : St w No [hB g_7_9 72 #[.int .i64 (0), .int .i64 (0)], hB g_7_8 68 (List.toArray cs_7_4), hM aG (twV a1 x2 x0) cs_7_4, hM aT x2 cs_7_3, hB g_6_2 68 (List.toArray cs_6_1), hM aG x0 cs_6_1, hB g_5_10 72 #[.int .i64 ((twR a1 x2 x0).Kind), .int .i64 ((twR a1 x2 x0).N)], hB g_5_9 68 (List.toArray cs_5_5), hM aG (twV a1 x2 x0) cs_5_5, hB g_0_1 92 (List.toArray cs2), hB g_0_0 55 (List.toArray cs0)] W801 := Ha803.pick [2, 0, 1, 3, 4, 5, 6, 7, 8, 9, 10] kD rfl; clear Ha803
      refine aR rfl Tryz.sizeOf72 rfl rfl rfl rfl kS H809 ?_
      intro W806 hu807 Ha808; clear H809; clear hu807
      have hS811 := And.intro (Ha808.blk 4 rfl) (Ha808.blk 9 rfl); refine ⟨fun _ => hS811, ?_⟩
      refine bD kR ?_ _
      exact (aZ [(1, .int .i64 (a1)), (3, .pointer (some ⟨g_0_0, 0, none⟩)), (5, .pointer (some ⟨g_0_1, 0, none⟩)), (8, .pointer (some ⟨g_5_9, 0, none⟩)), (9, .pointer (some ⟨g_5_10, 0, none⟩)), (10, .pointer (some ⟨g_6_2, 0, none⟩)), (11, .pointer (some ⟨g_7_8, 0, none⟩)), (12, .pointer (some ⟨g_7_9, 0, none⟩))] rfl).elim fun x' hx => ⟨cs_7_4, g_7_8, g_7_9, x', hx, Ha808.pick [0, 1, 2, 4, 5, 6, 7, 8, 9, 10] kD rfl⟩
     refine bA rfl Tryz.zeroValue68 rfl rfl Ha787 ?_
     intro g_7_8 W812 hu813 Ha814; clear Ha787; clear hu813
     have hS816 := And.intro (Ha814.blk 3 rfl) (Ha814.blk 8 rfl); refine ⟨fun _ => hS816, ?_⟩
     refine aL (i := 4) kR ?_
     refine aV rfl Tryz.call45 (vs := #[.agg (List.toArray cs_6_1), .int .i64 (a1), .agg (List.toArray cs_7_3)]) rfl rfl rfl (fF x0 a1 x2 _ _ _ (Ha814.kn 4 rfl) (Nat.le_trans hs_x0 kD) (Ha814.kn 2 rfl)) ?_
     rintro e820 W819 ⟨cs_7_4, rfl, hM817, hu818⟩; refine ⟨_, rfl, ?_⟩
     have H821 := Ha814.new (q := hM aG (twV a1 x2 x0) cs_7_4) hu818 hM817; clear Ha814
     have hS822 := And.intro (H821.blk 4 rfl) (H821.blk 9 rfl); refine ⟨fun _ => hS822, ?_⟩
     refine aF (i := 5) rfl kR kR kR kR kR (fun _ _ _ h => h) rfl rfl hS822 (fun W' hs' => aK rfl) ?_
     refine aF (i := 6) rfl kR kR kR kR kR (fun _ _ _ h => h) rfl rfl hS822 (fun W' hs' => aY (v := .agg (List.toArray cs_7_4)) rfl rfl) ?_
     refine aF (i := 7) rfl kR kR kR kR kR (fun _ _ _ h => h) rfl rfl hS822 (fun W' hs' => aY (v := .agg #[.int .i64 ((twR a1 x2 x0).Kind), .int .i64 ((twR a1 x2 x0).N)]) rfl rfl) ?_
     refine aL (i := 10) kR ?_
     have H826 : St w No [hB g_7_8 68 #[.int .i64 (0), .slice none 0 0, .slice none 0 0, .slice none 0 0, .slice none 0 0], hM aG (twV a1 x2 x0) cs_7_4, hB g_7_9 72 #[.int .i64 (0), .int .i64 (0)], hM aT x2 cs_7_3, hB g_6_2 68 (List.toArray cs_6_1), hM aG x0 cs_6_1, hB g_5_10 72 #[.int .i64 ((twR a1 x2 x0).Kind), .int .i64 ((twR a1 x2 x0).N)], hB g_5_9 68 (List.toArray cs_5_5), hM aG (twV a1 x2 x0) cs_5_5, hB g_0_1 92 (List.toArray cs2), hB g_0_0 55 (List.toArray cs0)] W819 := H821.pick [1, 0, 2, 3, 4, 5, 6, 7, 8, 9, 10] kD rfl; clear H821
     refine aR rfl Tryz.sizeOf68 rfl rfl (bE (H826.kn 1 rfl)) rfl (bP (H826.kn 1 rfl)) H826 ?_
     intro W823 hu824 Ha825; clear H826; clear hu824
     have hS828 := And.intro (Ha825.blk 4 rfl) (Ha825.blk 9 rfl); refine ⟨fun _ => hS828, ?_⟩
     refine aL (i := 11) kR ?_
     have H832 : St w No [hB g_7_9 72 #[.int .i64 (0), .int .i64 (0)], hB g_7_8 68 (List.toArray cs_7_4), hM aG (twV a1 x2 x0) cs_7_4, hM aT x2 cs_7_3, hB g_6_2 68 (List.toArray cs_6_1), hM aG x0 cs_6_1, hB g_5_10 72 #[.int .i64 ((twR a1 x2 x0).Kind), .int .i64 ((twR a1 x2 x0).N)], hB g_5_9 68 (List.toArray cs_5_5), hM aG (twV a1 x2 x0) cs_5_5, hB g_0_1 92 (List.toArray cs2), hB g_0_0 55 (List.toArray cs0)] W823 := Ha825.pick [2, 0, 1, 3, 4, 5, 6, 7, 8, 9, 10] kD rfl; clear Ha825
     refine aR rfl Tryz.sizeOf72 rfl rfl rfl rfl kS H832 ?_
     intro W829 hu830 Ha831; clear H832; clear hu830
     have hS834 := And.intro (Ha831.blk 4 rfl) (Ha831.blk 9 rfl); refine ⟨fun _ => hS834, ?_⟩
     refine bD kR ?_ _
     exact (aZ [(1, .int .i64 (a1)), (3, .pointer (some ⟨g_0_0, 0, none⟩)), (5, .pointer (some ⟨g_0_1, 0, none⟩)), (8, .pointer (some ⟨g_5_9, 0, none⟩)), (9, .pointer (some ⟨g_5_10, 0, none⟩)), (10, .pointer (some ⟨g_6_2, 0, none⟩)), (11, .pointer (some ⟨g_7_8, 0, none⟩)), (12, .pointer (some ⟨g_7_9, 0, none⟩))] rfl).elim fun x' hx => ⟨cs_7_4, g_7_8, g_7_9, x', hx, Ha831.pick [0, 1, 2, 4, 5, 6, 7, 8, 9, 10] kD rfl⟩
    ·refine bA rfl Tryz.zeroValue68 rfl rfl H674 ?_
     intro g_7_8 W835 hu836 Ha837; clear H674; clear hu836
     have hS839 := And.intro (Ha837.blk 1 rfl) (Ha837.blk 6 rfl); refine ⟨fun _ => hS839, ?_⟩
     refine dY (i := 3) (i2 := 9) kR ?_ ?_
     ·refine aV rfl Tryz.call44 (vs := #[.agg (List.toArray cs2)]) rfl rfl rfl (fI x2 _ _ (fV Ha837.1 hK2) (by simp [dO])) ?_
      rintro e844 W843 ⟨cs_7_3, rfl, hM841, hu842⟩; refine ⟨_, rfl, ?_⟩
      have H847 := Ha837.new (q := hM aT x2 cs_7_3) hu842 hM841; clear Ha837
      have hS848 := And.intro (H847.blk 2 rfl) (H847.blk 7 rfl); refine ⟨fun _ => hS848, ?_⟩
      refine dY (i := 4) (i2 := 9) kR ?_ ?_
      ·refine aV rfl Tryz.call45 (vs := #[.agg (List.toArray cs_6_1), .int .i64 (a1), .agg (List.toArray cs_7_3)]) rfl rfl rfl (fF x0 a1 x2 _ _ _ (H847.kn 3 rfl) (Nat.le_trans hs_x0 kD) (H847.kn 0 rfl)) ?_
       rintro e852 W851 ⟨cs_7_4, rfl, hM849, hu850⟩; refine ⟨_, rfl, ?_⟩
       have H853 := H847.new (q := hM aG (twV a1 x2 x0) cs_7_4) hu850 hM849; clear H847
       have hS854 := And.intro (H853.blk 3 rfl) (H853.blk 8 rfl); refine ⟨fun _ => hS854, ?_⟩
       refine aF (i := 5) rfl kR kR kR kR kR (fun _ _ _ h => h) rfl rfl hS854 (fun W' hs' => aK rfl) ?_
       refine aF (i := 6) rfl kR kR kR kR kR (fun _ _ _ h => h) rfl rfl hS854 (fun W' hs' => aY (v := .agg (List.toArray cs_7_4)) rfl rfl) ?_
       refine aF (i := 7) rfl kR kR kR kR kR (fun _ _ _ h => h) rfl rfl hS854 (fun W' hs' => aY (v := .agg #[.int .i64 ((twR a1 x2 x0).Kind), .int .i64 ((twR a1 x2 x0).N)]) rfl rfl) ?_
       refine aL (i := 9) kR ?_
       refine bA rfl Tryz.zeroValue72 rfl rfl H853 ?_
       intro g_7_9 W855 hu856 Ha857; clear H853; clear hu856
       have hS859 := And.intro (Ha857.blk 4 rfl) (Ha857.blk 9 rfl); refine ⟨fun _ => hS859, ?_⟩
       refine aL (i := 10) kR ?_
       have H863 : St w No [hB g_7_8 68 #[.int .i64 (0), .slice none 0 0, .slice none 0 0, .slice none 0 0, .slice none 0 0], hB g_7_9 72 #[.int .i64 (0), .int .i64 (0)], hM aG (twV a1 x2 x0) cs_7_4, hM aT x2 cs_7_3, hB g_6_2 68 (List.toArray cs_6_1), hM aG x0 cs_6_1, hB g_5_10 72 #[.int .i64 ((twR a1 x2 x0).Kind), .int .i64 ((twR a1 x2 x0).N)], hB g_5_9 68 (List.toArray cs_5_5), hM aG (twV a1 x2 x0) cs_5_5, hB g_0_1 92 (List.toArray cs2), hB g_0_0 55 (List.toArray cs0)] W855 := Ha857.pick [3, 0, 1, 2, 4, 5, 6, 7, 8, 9, 10] kD rfl; clear Ha857
       refine aR rfl Tryz.sizeOf68 rfl rfl (bE (H863.kn 2 rfl)) rfl (bP (H863.kn 2 rfl)) H863 ?_
       intro W860 hu861 Ha862; clear H863; clear hu861
       have hS865 := And.intro (Ha862.blk 4 rfl) (Ha862.blk 9 rfl); refine ⟨fun _ => hS865, ?_⟩
       refine aL (i := 11) kR ?_
       have H869 : St w No [hB g_7_9 72 #[.int .i64 (0), .int .i64 (0)], hB g_7_8 68 (List.toArray cs_7_4), hM aG (twV a1 x2 x0) cs_7_4, hM aT x2 cs_7_3, hB g_6_2 68 (List.toArray cs_6_1), hM aG x0 cs_6_1, hB g_5_10 72 #[.int .i64 ((twR a1 x2 x0).Kind), .int .i64 ((twR a1 x2 x0).N)], hB g_5_9 68 (List.toArray cs_5_5), hM aG (twV a1 x2 x0) cs_5_5, hB g_0_1 92 (List.toArray cs2), hB g_0_0 55 (List.toArray cs0)] W860 := Ha862.pick [1, 0, 2, 3, 4, 5, 6, 7, 8, 9, 10] kD rfl; clear Ha862
       refine aR rfl Tryz.sizeOf72 rfl rfl rfl rfl kS H869 ?_
       intro W866 hu867 Ha868; clear H869; clear hu867
       have hS871 := And.intro (Ha868.blk 4 rfl) (Ha868.blk 9 rfl); refine ⟨fun _ => hS871, ?_⟩
       refine bD kR ?_ _
       exact (aZ [(1, .int .i64 (a1)), (3, .pointer (some ⟨g_0_0, 0, none⟩)), (5, .pointer (some ⟨g_0_1, 0, none⟩)), (8, .pointer (some ⟨g_5_9, 0, none⟩)), (9, .pointer (some ⟨g_5_10, 0, none⟩)), (10, .pointer (some ⟨g_6_2, 0, none⟩)), (11, .pointer (some ⟨g_7_8, 0, none⟩)), (12, .pointer (some ⟨g_7_9, 0, none⟩))] rfl).elim fun x' hx => ⟨cs_7_4, g_7_8, g_7_9, x', hx, Ha868.pick [0, 1, 2, 4, 5, 6, 7, 8, 9, 10] kD rfl⟩
      refine bA rfl Tryz.zeroValue72 rfl rfl H847 ?_
      intro g_7_9 W872 hu873 Ha874; clear H847; clear hu873
      have hS876 := And.intro (Ha874.blk 3 rfl) (Ha874.blk 8 rfl); refine ⟨fun _ => hS876, ?_⟩
      refine aL (i := 4) kR ?_
      refine aV rfl Tryz.call45 (vs := #[.agg (List.toArray cs_6_1), .int .i64 (a1), .agg (List.toArray cs_7_3)]) rfl rfl rfl (fF x0 a1 x2 _ _ _ (Ha874.kn 4 rfl) (Nat.le_trans hs_x0 kD) (Ha874.kn 1 rfl)) ?_
      rintro e880 W879 ⟨cs_7_4, rfl, hM877, hu878⟩; refine ⟨_, rfl, ?_⟩
      have H881 := Ha874.new (q := hM aG (twV a1 x2 x0) cs_7_4) hu878 hM877; clear Ha874
      have hS882 := And.intro (H881.blk 4 rfl) (H881.blk 9 rfl); refine ⟨fun _ => hS882, ?_⟩
      refine aF (i := 5) rfl kR kR kR kR kR (fun _ _ _ h => h) rfl rfl hS882 (fun W' hs' => aK rfl) ?_
      refine aF (i := 6) rfl kR kR kR kR kR (fun _ _ _ h => h) rfl rfl hS882 (fun W' hs' => aY (v := .agg (List.toArray cs_7_4)) rfl rfl) ?_
      refine aF (i := 7) rfl kR kR kR kR kR (fun _ _ _ h => h) rfl rfl hS882 (fun W' hs' => aY (v := .agg #[.int .i64 ((twR a1 x2 x0).Kind), .int .i64 ((twR a1 x2 x0).N)]) rfl rfl) ?_
      refine aL (i := 10) kR ?_
      have H886 : St w No [hB g_7_8 68 #[.int .i64 (0), .slice none 0 0, .slice none 0 0, .slice none 0 0, .slice none 0 0], hM aG (twV a1 x2 x0) cs_7_4, hB g_7_9 72 #[.int .i64 (0), .int .i64 (0)], hM aT x2 cs_7_3, hB g_6_2 68 (List.toArray cs_6_1), hM aG x0 cs_6_1, hB g_5_10 72 #[.int .i64 ((twR a1 x2 x0).Kind), .int .i64 ((twR a1 x2 x0).N)], hB g_5_9 68 (List.toArray cs_5_5), hM aG (twV a1 x2 x0) cs_5_5, hB g_0_1 92 (List.toArray cs2), hB g_0_0 55 (List.toArray cs0)] W879 := H881.pick [3, 0, 1, 2, 4, 5, 6, 7, 8, 9, 10] kD rfl; clear H881
      refine aR rfl Tryz.sizeOf68 rfl rfl (bE (H886.kn 1 rfl)) rfl (bP (H886.kn 1 rfl)) H886 ?_
      intro W883 hu884 Ha885; clear H886; clear hu884
      have hS888 := And.intro (Ha885.blk 4 rfl) (Ha885.blk 9 rfl); refine ⟨fun _ => hS888, ?_⟩
      refine aL (i := 11) kR ?_
      have H892 : St w No [hB g_7_9 72 #[.int .i64 (0), .int .i64 (0)], hB g_7_8 68 (List.toArray cs_7_4), hM aG (twV a1 x2 x0) cs_7_4, hM aT x2 cs_7_3, hB g_6_2 68 (List.toArray cs_6_1), hM aG x0 cs_6_1, hB g_5_10 72 #[.int .i64 ((twR a1 x2 x0).Kind), .int .i64 ((twR a1 x2 x0).N)], hB g_5_9 68 (List.toArray cs_5_5), hM aG (twV a1 x2 x0) cs_5_5, hB g_0_1 92 (List.toArray cs2), hB g_0_0 55 (List.toArray cs0)] W883 := Ha885.pick [2, 0, 1, 3, 4, 5, 6, 7, 8, 9, 10] kD rfl; clear Ha885
      refine aR rfl Tryz.sizeOf72 rfl rfl rfl rfl kS H892 ?_
      intro W889 hu890 Ha891; clear H892; clear hu890
      have hS894 := And.intro (Ha891.blk 4 rfl) (Ha891.blk 9 rfl); refine ⟨fun _ => hS894, ?_⟩
      refine bD kR ?_ _
      exact (aZ [(1, .int .i64 (a1)), (3, .pointer (some ⟨g_0_0, 0, none⟩)), (5, .pointer (some ⟨g_0_1, 0, none⟩)), (8, .pointer (some ⟨g_5_9, 0, none⟩)), (9, .pointer (some ⟨g_5_10, 0, none⟩)), (10, .pointer (some ⟨g_6_2, 0, none⟩)), (11, .pointer (some ⟨g_7_8, 0, none⟩)), (12, .pointer (some ⟨g_7_9, 0, none⟩))] rfl).elim fun x' hx => ⟨cs_7_4, g_7_8, g_7_9, x', hx, Ha891.pick [0, 1, 2, 4, 5, 6, 7, 8, 9, 10] kD rfl⟩
     refine bA rfl Tryz.zeroValue72 rfl rfl Ha837 ?_
     intro g_7_9 W895 hu896 Ha897; clear Ha837; clear hu896
     have hS899 := And.intro (Ha897.blk 2 rfl) (Ha897.blk 7 rfl); refine ⟨fun _ => hS899, ?_⟩
     refine aL (i := 3) kR ?_
     refine aV rfl Tryz.call44 (vs := #[.agg (List.toArray cs2)]) rfl rfl rfl (fI x2 _ _ (fV Ha897.1 hK2) (by simp [dO])) ?_
     rintro e904 W903 ⟨cs_7_3, rfl, hM901, hu902⟩; refine ⟨_, rfl, ?_⟩
     have H907 := Ha897.new (q := hM aT x2 cs_7_3) hu902 hM901; clear Ha897
     have hS908 := And.intro (H907.blk 3 rfl) (H907.blk 8 rfl); refine ⟨fun _ => hS908, ?_⟩
     refine aL (i := 4) kR ?_
     refine aV rfl Tryz.call45 (vs := #[.agg (List.toArray cs_6_1), .int .i64 (a1), .agg (List.toArray cs_7_3)]) rfl rfl rfl (fF x0 a1 x2 _ _ _ (H907.kn 4 rfl) (Nat.le_trans hs_x0 kD) (H907.kn 0 rfl)) ?_
     rintro e912 W911 ⟨cs_7_4, rfl, hM909, hu910⟩; refine ⟨_, rfl, ?_⟩
     have H913 := H907.new (q := hM aG (twV a1 x2 x0) cs_7_4) hu910 hM909; clear H907
     have hS914 := And.intro (H913.blk 4 rfl) (H913.blk 9 rfl); refine ⟨fun _ => hS914, ?_⟩
     refine aF (i := 5) rfl kR kR kR kR kR (fun _ _ _ h => h) rfl rfl hS914 (fun W' hs' => aK rfl) ?_
     refine aF (i := 6) rfl kR kR kR kR kR (fun _ _ _ h => h) rfl rfl hS914 (fun W' hs' => aY (v := .agg (List.toArray cs_7_4)) rfl rfl) ?_
     refine aF (i := 7) rfl kR kR kR kR kR (fun _ _ _ h => h) rfl rfl hS914 (fun W' hs' => aY (v := .agg #[.int .i64 ((twR a1 x2 x0).Kind), .int .i64 ((twR a1 x2 x0).N)]) rfl rfl) ?_
     refine aL (i := 10) kR ?_
     have H918 : St w No [hB g_7_8 68 #[.int .i64 (0), .slice none 0 0, .slice none 0 0, .slice none 0 0, .slice none 0 0], hM aG (twV a1 x2 x0) cs_7_4, hM aT x2 cs_7_3, hB g_7_9 72 #[.int .i64 (0), .int .i64 (0)], hB g_6_2 68 (List.toArray cs_6_1), hM aG x0 cs_6_1, hB g_5_10 72 #[.int .i64 ((twR a1 x2 x0).Kind), .int .i64 ((twR a1 x2 x0).N)], hB g_5_9 68 (List.toArray cs_5_5), hM aG (twV a1 x2 x0) cs_5_5, hB g_0_1 92 (List.toArray cs2), hB g_0_0 55 (List.toArray cs0)] W911 := H913.pick [3, 0, 1, 2, 4, 5, 6, 7, 8, 9, 10] kD rfl; clear H913
     refine aR rfl Tryz.sizeOf68 rfl rfl (bE (H918.kn 1 rfl)) rfl (bP (H918.kn 1 rfl)) H918 ?_
     intro W915 hu916 Ha917; clear H918; clear hu916
     have hS920 := And.intro (Ha917.blk 4 rfl) (Ha917.blk 9 rfl); refine ⟨fun _ => hS920, ?_⟩
     refine aL (i := 11) kR ?_
     have H924 : St w No [hB g_7_9 72 #[.int .i64 (0), .int .i64 (0)], hB g_7_8 68 (List.toArray cs_7_4), hM aG (twV a1 x2 x0) cs_7_4, hM aT x2 cs_7_3, hB g_6_2 68 (List.toArray cs_6_1), hM aG x0 cs_6_1, hB g_5_10 72 #[.int .i64 ((twR a1 x2 x0).Kind), .int .i64 ((twR a1 x2 x0).N)], hB g_5_9 68 (List.toArray cs_5_5), hM aG (twV a1 x2 x0) cs_5_5, hB g_0_1 92 (List.toArray cs2), hB g_0_0 55 (List.toArray cs0)] W915 := Ha917.pick [3, 0, 1, 2, 4, 5, 6, 7, 8, 9, 10] kD rfl; clear Ha917
     refine aR rfl Tryz.sizeOf72 rfl rfl rfl rfl kS H924 ?_
     intro W921 hu922 Ha923; clear H924; clear hu922
     have hS926 := And.intro (Ha923.blk 4 rfl) (Ha923.blk 9 rfl); refine ⟨fun _ => hS926, ?_⟩
     refine bD kR ?_ _
     exact (aZ [(1, .int .i64 (a1)), (3, .pointer (some ⟨g_0_0, 0, none⟩)), (5, .pointer (some ⟨g_0_1, 0, none⟩)), (8, .pointer (some ⟨g_5_9, 0, none⟩)), (9, .pointer (some ⟨g_5_10, 0, none⟩)), (10, .pointer (some ⟨g_6_2, 0, none⟩)), (11, .pointer (some ⟨g_7_8, 0, none⟩)), (12, .pointer (some ⟨g_7_9, 0, none⟩))] rfl).elim fun x' hx => ⟨cs_7_4, g_7_8, g_7_9, x', hx, Ha923.pick [0, 1, 2, 4, 5, 6, 7, 8, 9, 10] kD rfl⟩
    refine bA rfl Tryz.zeroValue72 rfl rfl H674 ?_
    intro g_7_9 W927 hu928 Ha929; clear H674; clear hu928
    have hS931 := And.intro (Ha929.blk 1 rfl) (Ha929.blk 6 rfl); refine ⟨fun _ => hS931, ?_⟩
    refine dY (i := 3) (i2 := 8) kR ?_ ?_
    ·refine aV rfl Tryz.call44 (vs := #[.agg (List.toArray cs2)]) rfl rfl rfl (fI x2 _ _ (fV Ha929.1 hK2) (by simp [dO])) ?_
     rintro e936 W935 ⟨cs_7_3, rfl, hM933, hu934⟩; refine ⟨_, rfl, ?_⟩
     have H939 := Ha929.new (q := hM aT x2 cs_7_3) hu934 hM933; clear Ha929
     have hS940 := And.intro (H939.blk 2 rfl) (H939.blk 7 rfl); refine ⟨fun _ => hS940, ?_⟩
     refine dY (i := 4) (i2 := 8) kR ?_ ?_
     ·refine aV rfl Tryz.call45 (vs := #[.agg (List.toArray cs_6_1), .int .i64 (a1), .agg (List.toArray cs_7_3)]) rfl rfl rfl (fF x0 a1 x2 _ _ _ (H939.kn 3 rfl) (Nat.le_trans hs_x0 kD) (H939.kn 0 rfl)) ?_
      rintro e944 W943 ⟨cs_7_4, rfl, hM941, hu942⟩; refine ⟨_, rfl, ?_⟩
      have H945 := H939.new (q := hM aG (twV a1 x2 x0) cs_7_4) hu942 hM941; clear H939
      have hS946 := And.intro (H945.blk 3 rfl) (H945.blk 8 rfl); refine ⟨fun _ => hS946, ?_⟩
      refine aF (i := 5) rfl kR kR kR kR kR (fun _ _ _ h => h) rfl rfl hS946 (fun W' hs' => aK rfl) ?_
      refine aF (i := 6) rfl kR kR kR kR kR (fun _ _ _ h => h) rfl rfl hS946 (fun W' hs' => aY (v := .agg (List.toArray cs_7_4)) rfl rfl) ?_
      refine aF (i := 7) rfl kR kR kR kR kR (fun _ _ _ h => h) rfl rfl hS946 (fun W' hs' => aY (v := .agg #[.int .i64 ((twR a1 x2 x0).Kind), .int .i64 ((twR a1 x2 x0).N)]) rfl rfl) ?_
      refine aL (i := 8) kR ?_
      refine bA rfl Tryz.zeroValue68 rfl rfl H945 ?_
      intro g_7_8 W947 hu948 Ha949; clear H945; clear hu948
      have hS951 := And.intro (Ha949.blk 4 rfl) (Ha949.blk 9 rfl); refine ⟨fun _ => hS951, ?_⟩
      refine aL (i := 10) kR ?_
      refine aR rfl Tryz.sizeOf68 rfl rfl (bE (Ha949.kn 1 rfl)) rfl (bP (Ha949.kn 1 rfl)) Ha949 ?_
      intro W952 hu953 Ha954; clear Ha949; clear hu953
      have hS956 := And.intro (Ha954.blk 4 rfl) (Ha954.blk 9 rfl); refine ⟨fun _ => hS956, ?_⟩
      refine aL (i := 11) kR ?_
      have H960 : St w No [hB g_7_9 72 #[.int .i64 (0), .int .i64 (0)], hB g_7_8 68 (List.toArray cs_7_4), hM aG (twV a1 x2 x0) cs_7_4, hM aT x2 cs_7_3, hB g_6_2 68 (List.toArray cs_6_1), hM aG x0 cs_6_1, hB g_5_10 72 #[.int .i64 ((twR a1 x2 x0).Kind), .int .i64 ((twR a1 x2 x0).N)], hB g_5_9 68 (List.toArray cs_5_5), hM aG (twV a1 x2 x0) cs_5_5, hB g_0_1 92 (List.toArray cs2), hB g_0_0 55 (List.toArray cs0)] W952 := Ha954.pick [3, 0, 1, 2, 4, 5, 6, 7, 8, 9, 10] kD rfl; clear Ha954
      refine aR rfl Tryz.sizeOf72 rfl rfl rfl rfl kS H960 ?_
      intro W957 hu958 Ha959; clear H960; clear hu958
      have hS962 := And.intro (Ha959.blk 4 rfl) (Ha959.blk 9 rfl); refine ⟨fun _ => hS962, ?_⟩
      refine bD kR ?_ _
      exact (aZ [(1, .int .i64 (a1)), (3, .pointer (some ⟨g_0_0, 0, none⟩)), (5, .pointer (some ⟨g_0_1, 0, none⟩)), (8, .pointer (some ⟨g_5_9, 0, none⟩)), (9, .pointer (some ⟨g_5_10, 0, none⟩)), (10, .pointer (some ⟨g_6_2, 0, none⟩)), (11, .pointer (some ⟨g_7_8, 0, none⟩)), (12, .pointer (some ⟨g_7_9, 0, none⟩))] rfl).elim fun x' hx => ⟨cs_7_4, g_7_8, g_7_9, x', hx, Ha959.pick [0, 1, 2, 4, 5, 6, 7, 8, 9, 10] kD rfl⟩
     refine bA rfl Tryz.zeroValue68 rfl rfl H939 ?_
     intro g_7_8 W963 hu964 Ha965; clear H939; clear hu964
     have hS967 := And.intro (Ha965.blk 3 rfl) (Ha965.blk 8 rfl); refine ⟨fun _ => hS967, ?_⟩
     refine aL (i := 4) kR ?_
     refine aV rfl Tryz.call45 (vs := #[.agg (List.toArray cs_6_1), .int .i64 (a1), .agg (List.toArray cs_7_3)]) rfl rfl rfl (fF x0 a1 x2 _ _ _ (Ha965.kn 4 rfl) (Nat.le_trans hs_x0 kD) (Ha965.kn 1 rfl)) ?_
     rintro e971 W970 ⟨cs_7_4, rfl, hM968, hu969⟩; refine ⟨_, rfl, ?_⟩
     have H972 := Ha965.new (q := hM aG (twV a1 x2 x0) cs_7_4) hu969 hM968; clear Ha965
     have hS973 := And.intro (H972.blk 4 rfl) (H972.blk 9 rfl); refine ⟨fun _ => hS973, ?_⟩
     refine aF (i := 5) rfl kR kR kR kR kR (fun _ _ _ h => h) rfl rfl hS973 (fun W' hs' => aK rfl) ?_
     refine aF (i := 6) rfl kR kR kR kR kR (fun _ _ _ h => h) rfl rfl hS973 (fun W' hs' => aY (v := .agg (List.toArray cs_7_4)) rfl rfl) ?_
     refine aF (i := 7) rfl kR kR kR kR kR (fun _ _ _ h => h) rfl rfl hS973 (fun W' hs' => aY (v := .agg #[.int .i64 ((twR a1 x2 x0).Kind), .int .i64 ((twR a1 x2 x0).N)]) rfl rfl) ?_
     refine aL (i := 10) kR ?_
     have H977 : St w No [hB g_7_8 68 #[.int .i64 (0), .slice none 0 0, .slice none 0 0, .slice none 0 0, .slice none 0 0], hM aG (twV a1 x2 x0) cs_7_4, hM aT x2 cs_7_3, hB g_7_9 72 #[.int .i64 (0), .int .i64 (0)], hB g_6_2 68 (List.toArray cs_6_1), hM aG x0 cs_6_1, hB g_5_10 72 #[.int .i64 ((twR a1 x2 x0).Kind), .int .i64 ((twR a1 x2 x0).N)], hB g_5_9 68 (List.toArray cs_5_5), hM aG (twV a1 x2 x0) cs_5_5, hB g_0_1 92 (List.toArray cs2), hB g_0_0 55 (List.toArray cs0)] W970 := H972.pick [1, 0, 2, 3, 4, 5, 6, 7, 8, 9, 10] kD rfl; clear H972
     refine aR rfl Tryz.sizeOf68 rfl rfl (bE (H977.kn 1 rfl)) rfl (bP (H977.kn 1 rfl)) H977 ?_
     intro W974 hu975 Ha976; clear H977; clear hu975
     have hS979 := And.intro (Ha976.blk 4 rfl) (Ha976.blk 9 rfl); refine ⟨fun _ => hS979, ?_⟩
     refine aL (i := 11) kR ?_
     have H983 : St w No [hB g_7_9 72 #[.int .i64 (0), .int .i64 (0)], hB g_7_8 68 (List.toArray cs_7_4), hM aG (twV a1 x2 x0) cs_7_4, hM aT x2 cs_7_3, hB g_6_2 68 (List.toArray cs_6_1), hM aG x0 cs_6_1, hB g_5_10 72 #[.int .i64 ((twR a1 x2 x0).Kind), .int .i64 ((twR a1 x2 x0).N)], hB g_5_9 68 (List.toArray cs_5_5), hM aG (twV a1 x2 x0) cs_5_5, hB g_0_1 92 (List.toArray cs2), hB g_0_0 55 (List.toArray cs0)] W974 := Ha976.pick [3, 0, 1, 2, 4, 5, 6, 7, 8, 9, 10] kD rfl; clear Ha976
     refine aR rfl Tryz.sizeOf72 rfl rfl rfl rfl kS H983 ?_
     intro W980 hu981 Ha982; clear H983; clear hu981
     have hS985 := And.intro (Ha982.blk 4 rfl) (Ha982.blk 9 rfl); refine ⟨fun _ => hS985, ?_⟩
     refine bD kR ?_ _
     exact (aZ [(1, .int .i64 (a1)), (3, .pointer (some ⟨g_0_0, 0, none⟩)), (5, .pointer (some ⟨g_0_1, 0, none⟩)), (8, .pointer (some ⟨g_5_9, 0, none⟩)), (9, .pointer (some ⟨g_5_10, 0, none⟩)), (10, .pointer (some ⟨g_6_2, 0, none⟩)), (11, .pointer (some ⟨g_7_8, 0, none⟩)), (12, .pointer (some ⟨g_7_9, 0, none⟩))] rfl).elim fun x' hx => ⟨cs_7_4, g_7_8, g_7_9, x', hx, Ha982.pick [0, 1, 2, 4, 5, 6, 7, 8, 9, 10] kD rfl⟩
    refine bA rfl Tryz.zeroValue68 rfl rfl Ha929 ?_
    intro g_7_8 W986 hu987 Ha988; clear Ha929; clear hu987
    have hS990 := And.intro (Ha988.blk 2 rfl) (Ha988.blk 7 rfl); refine ⟨fun _ => hS990, ?_⟩
    refine aL (i := 3) kR ?_
    refine aV rfl Tryz.call44 (vs := #[.agg (List.toArray cs2)]) rfl rfl rfl (fI x2 _ _ (fV Ha988.1 hK2) (by simp [dO])) ?_
    rintro e995 W994 ⟨cs_7_3, rfl, hM992, hu993⟩; refine ⟨_, rfl, ?_⟩
    have H998 := Ha988.new (q := hM aT x2 cs_7_3) hu993 hM992; clear Ha988
    have hS999 := And.intro (H998.blk 3 rfl) (H998.blk 8 rfl); refine ⟨fun _ => hS999, ?_⟩
    refine aL (i := 4) kR ?_
    refine aV rfl Tryz.call45 (vs := #[.agg (List.toArray cs_6_1), .int .i64 (a1), .agg (List.toArray cs_7_3)]) rfl rfl rfl (fF x0 a1 x2 _ _ _ (H998.kn 4 rfl) (Nat.le_trans hs_x0 kD) (H998.kn 0 rfl)) ?_
    rintro e1003 W1002 ⟨cs_7_4, rfl, hM1000, hu1001⟩; refine ⟨_, rfl, ?_⟩
    have H1004 := H998.new (q := hM aG (twV a1 x2 x0) cs_7_4) hu1001 hM1000; clear H998
    have hS1005 := And.intro (H1004.blk 4 rfl) (H1004.blk 9 rfl); refine ⟨fun _ => hS1005, ?_⟩
    refine aF (i := 5) rfl kR kR kR kR kR (fun _ _ _ h => h) rfl rfl hS1005 (fun W' hs' => aK rfl) ?_
    refine aF (i := 6) rfl kR kR kR kR kR (fun _ _ _ h => h) rfl rfl hS1005 (fun W' hs' => aY (v := .agg (List.toArray cs_7_4)) rfl rfl) ?_
    refine aF (i := 7) rfl kR kR kR kR kR (fun _ _ _ h => h) rfl rfl hS1005 (fun W' hs' => aY (v := .agg #[.int .i64 ((twR a1 x2 x0).Kind), .int .i64 ((twR a1 x2 x0).N)]) rfl rfl) ?_
    refine aL (i := 10) kR ?_
    have H1009 : St w No [hB g_7_8 68 #[.int .i64 (0), .slice none 0 0, .slice none 0 0, .slice none 0 0, .slice none 0 0], hM aG (twV a1 x2 x0) cs_7_4, hM aT x2 cs_7_3, hB g_7_9 72 #[.int .i64 (0), .int .i64 (0)], hB g_6_2 68 (List.toArray cs_6_1), hM aG x0 cs_6_1, hB g_5_10 72 #[.int .i64 ((twR a1 x2 x0).Kind), .int .i64 ((twR a1 x2 x0).N)], hB g_5_9 68 (List.toArray cs_5_5), hM aG (twV a1 x2 x0) cs_5_5, hB g_0_1 92 (List.toArray cs2), hB g_0_0 55 (List.toArray cs0)] W1002 := H1004.pick [2, 0, 1, 3, 4, 5, 6, 7, 8, 9, 10] kD rfl; clear H1004
    refine aR rfl Tryz.sizeOf68 rfl rfl (bE (H1009.kn 1 rfl)) rfl (bP (H1009.kn 1 rfl)) H1009 ?_
    intro W1006 hu1007 Ha1008; clear H1009; clear hu1007
    have hS1011 := And.intro (Ha1008.blk 4 rfl) (Ha1008.blk 9 rfl); refine ⟨fun _ => hS1011, ?_⟩
    refine aL (i := 11) kR ?_
    have H1015 : St w No [hB g_7_9 72 #[.int .i64 (0), .int .i64 (0)], hB g_7_8 68 (List.toArray cs_7_4), hM aG (twV a1 x2 x0) cs_7_4, hM aT x2 cs_7_3, hB g_6_2 68 (List.toArray cs_6_1), hM aG x0 cs_6_1, hB g_5_10 72 #[.int .i64 ((twR a1 x2 x0).Kind), .int .i64 ((twR a1 x2 x0).N)], hB g_5_9 68 (List.toArray cs_5_5), hM aG (twV a1 x2 x0) cs_5_5, hB g_0_1 92 (List.toArray cs2), hB g_0_0 55 (List.toArray cs0)] W1006 := Ha1008.pick [3, 0, 1, 2, 4, 5, 6, 7, 8, 9, 10] kD rfl; clear Ha1008
    refine aR rfl Tryz.sizeOf72 rfl rfl rfl rfl kS H1015 ?_
    intro W1012 hu1013 Ha1014; clear H1015; clear hu1013
    have hS1017 := And.intro (Ha1014.blk 4 rfl) (Ha1014.blk 9 rfl); refine ⟨fun _ => hS1017, ?_⟩
    refine bD kR ?_ _
    exact (aZ [(1, .int .i64 (a1)), (3, .pointer (some ⟨g_0_0, 0, none⟩)), (5, .pointer (some ⟨g_0_1, 0, none⟩)), (8, .pointer (some ⟨g_5_9, 0, none⟩)), (9, .pointer (some ⟨g_5_10, 0, none⟩)), (10, .pointer (some ⟨g_6_2, 0, none⟩)), (11, .pointer (some ⟨g_7_8, 0, none⟩)), (12, .pointer (some ⟨g_7_9, 0, none⟩))] rfl).elim fun x' hx => ⟨cs_7_4, g_7_8, g_7_9, x', hx, Ha1014.pick [0, 1, 2, 4, 5, 6, 7, 8, 9, 10] kD rfl⟩
   ·rintro _ W1019 ⟨cs_7_4, g_7_8, g_7_9, x1020, rfl, H1018⟩
    refine aM ?_
    refine wp_seq ?_
    refine wp_seq ?_
    refine aS [0, 1, 2, 3, 4, 5, 6, 7, 8, 9] rfl ?_
    refine aB ?_
    refine aC rfl (bI Tryz.isAgg68 Tryz.sizeOf68 rfl (H1018.blk 1 rfl) (bE (H1018.kn 2 rfl))) rfl rfl ?_
    refine aB ?_
    refine aC rfl (bI Tryz.isAgg68 Tryz.sizeOf68 rfl (H1018.blk 6 rfl) (bE (H1018.kn 7 rfl))) rfl rfl ?_
    refine aB ?_
    refine aV rfl Tryz.call30 (vs := #[.agg (List.toArray cs_7_4), .agg (List.toArray cs_5_5)]) rfl rfl rfl (eq_Vat (twV a1 x2 x0) _ _ _ (H1018.kn 2 rfl) (H1018.kn 7 rfl)) ?_
    rintro e1023 W1022 ⟨rfl, hu1021⟩; refine ⟨_, rfl, ?_⟩
    have H1024 := H1018.no hu1021; clear H1018
    refine aB ?_
    refine aC rfl (iP rfl) rfl rfl ?_
    refine aB ?_
    refine aC rfl (aK rfl) rfl rfl ?_
    refine aB ?_
    refine eO rfl rfl rfl rfl (fun _ ho1025 => ?_)
    refine aC ho1025 (bI Tryz.isAgg72 Tryz.sizeOf72 rfl (H1024.blk 0 rfl) rfl) rfl rfl ?_
    refine aB ?_
    refine eO rfl rfl rfl rfl (fun _ ho1026 => ?_)
    refine aC ho1026 (bI Tryz.isAgg72 Tryz.sizeOf72 rfl (H1024.blk 5 rfl) rfl) rfl rfl ?_
    refine aB ?_
    refine eO rfl rfl rfl rfl (fun _ ho1027 => ?_)
    refine aV ho1027 Tryz.call46 (vs := #[.agg #[.int .i64 ((twR a1 x2 x0).Kind), .int .i64 ((twR a1 x2 x0).N)], .agg #[.int .i64 ((twR a1 x2 x0).Kind), .int .i64 ((twR a1 x2 x0).N)]]) rfl rfl rfl (eq_Wire (twR a1 x2 x0) _ _ _ (iI _ (twR a1 x2 x0)) (iI _ (twR a1 x2 x0))) ?_
    rintro e1030 W1029 ⟨rfl, hu1028⟩; refine ⟨_, rfl, ?_⟩
    have H1031 := H1024.no hu1028; clear H1024
    refine aB ?_
    refine eO rfl rfl rfl rfl (fun _ ho1032 => ?_)
    refine aC ho1032 (iP rfl) rfl rfl ?_
    refine aB ?_
    refine aC rfl (dS (v := .bool (false)) (b := false) rfl rfl rfl rfl) rfl rfl ?_
    refine aN ?_
    refine aM ?_
    refine fO rfl ?_
    refine wp_skip ?_
    refine aM ?_
    refine wp_seq ?_
    refine wp_seq ?_
    refine eH (fun W' => Blk W' g_6_2 68 (List.toArray cs_6_1) ∧ Blk W' g_0_0 55 (List.toArray cs0)) 5 kR ?_
    have H1033 := H1031.drew; clear H1031
    have hS1034 : Blk W1029.drew g_6_2 68 (List.toArray cs_6_1) ∧ Blk W1029.drew g_0_0 55 (List.toArray cs0) := ⟨H1033.blk 3 rfl, H1033.blk 9 rfl⟩
    refine aF (i := 0) rfl kR kR kR kR kR (fun _ _ _ h => h) rfl rfl hS1034 (fun W' hs' => bI Tryz.isAgg68 Tryz.sizeOf68 rfl hs'.1 (bE (H1033.kn 4 rfl))) ?_
    refine aF (i := 1) rfl kR kR kR kR kR (fun _ _ _ h => h) rfl rfl hS1034 (fun W' hs' => bI Tryz.isAgg55 Tryz.sizeOf55 rfl hs'.2 hl0_) ?_
    refine aL (i := 2) kR ?_
    refine aV rfl Tryz.call27 (vs := #[.agg (List.toArray cs0)]) rfl rfl rfl (lH x0 _ _ (fV H1033.1 hK0) hs_x0) ?_
    rintro e1039 W1038 ⟨cs_10_2, rfl, hM1036, hu1037⟩; refine ⟨_, rfl, ?_⟩
    have H1042 := H1033.new (q := hM aG x0 cs_10_2) hu1037 hM1036; clear H1033
    have hS1043 := And.intro (H1042.blk 4 rfl) (H1042.blk 10 rfl); refine ⟨fun _ => hS1043, ?_⟩
    refine aL (i := 3) kR ?_
    refine aV rfl Tryz.call30 (vs := #[.agg (List.toArray cs_6_1), .agg (List.toArray cs_10_2)]) rfl rfl rfl (eq_Vat x0 _ _ _ (H1042.kn 5 rfl) (H1042.kn 0 rfl)) ?_
    rintro e1046 W1045 ⟨rfl, hu1044⟩; refine ⟨_, rfl, ?_⟩
    have H1047 := H1042.no hu1044; clear H1042
    have hS1048 := And.intro (H1047.blk 4 rfl) (H1047.blk 10 rfl); refine ⟨fun _ => hS1048, ?_⟩
    refine aF (i := 4) rfl kR kR kR kR kR (fun _ _ _ h => h) rfl rfl hS1048 (fun W' hs' => iP rfl) ?_
    refine bD kR ?_ _
    refine aM ?_
    refine fO rfl ?_
    refine wp_skip ?_
    refine aM ?_
    refine wp_seq ?_
    refine aS [0] rfl ?_
    refine aB ?_
    refine aC rfl (aW rfl) rfl rfl ?_
    refine aN ?_
    refine aM ?_
    refine wp_seq ?_
    refine aS [0, 1, 2, 3] rfl ?_
    refine aB ?_
    refine aC rfl (bI Tryz.isAgg68 Tryz.sizeOf68 rfl (H1047.blk 4 rfl) (bE (H1047.kn 5 rfl))) rfl rfl ?_
    refine aB ?_
    refine aC rfl (aK rfl) rfl rfl ?_
    refine aB ?_
    have H1055 : St w No [hM aG x0 cs_6_1, hM aG x0 cs_10_2, hB g_7_9 72 #[.int .i64 ((twR a1 x2 x0).Kind), .int .i64 ((twR a1 x2 x0).N)], hB g_7_8 68 (List.toArray cs_7_4), hM aG (twV a1 x2 x0) cs_7_4, hB g_6_2 68 (List.toArray cs_6_1), hB g_5_10 72 #[.int .i64 ((twR a1 x2 x0).Kind), .int .i64 ((twR a1 x2 x0).N)], hB g_5_9 68 (List.toArray cs_5_5), hM aG (twV a1 x2 x0) cs_5_5, hB g_0_1 92 (List.toArray cs2), hB g_0_0 55 (List.toArray cs0)] W1045 := H1047.pick [5, 0, 1, 2, 3, 4, 6, 7, 8, 9, 10] kD rfl; clear H1047
    obtain ⟨F1050, hM1051, hF1052, hT1053⟩ := H1055.turn
    refine aV rfl Tryz.call32 (vs := #[.agg (List.toArray cs_6_1), .int .i64 (1)]) rfl rfl rfl (oC x0 _ F1050 _ _ hM1051 kO kO) ?_
    rintro e1057 W1056 ⟨rfl, hM1054, hu1049⟩; refine ⟨_, rfl, ?_⟩
    have H1058 : St w No [hM aG (bM 1 x0) cs_6_1, hM aG x0 cs_10_2, hB g_7_9 72 #[.int .i64 ((twR a1 x2 x0).Kind), .int .i64 ((twR a1 x2 x0).N)], hB g_7_8 68 (List.toArray cs_7_4), hM aG (twV a1 x2 x0) cs_7_4, hB g_6_2 68 (List.toArray cs_6_1), hB g_5_10 72 #[.int .i64 ((twR a1 x2 x0).Kind), .int .i64 ((twR a1 x2 x0).N)], hB g_5_9 68 (List.toArray cs_5_5), hM aG (twV a1 x2 x0) cs_5_5, hB g_0_1 92 (List.toArray cs2), hB g_0_0 55 (List.toArray cs0)] W1056 := hT1053 (hM aG (bM 1 x0) cs_6_1) _ hu1049 ((hM aG (bM 1 x0) cs_6_1).mono (fun _ q => .inl q) hM1054); clear H1055
    refine aB ?_
    refine aC rfl (aW rfl) rfl rfl ?_
    refine aN ?_
    refine aM ?_
    refine wp_seq ?_
    refine wp_seq ?_
    refine aS [0, 1, 2, 3, 4, 5, 6, 7, 8, 9, 10, 11, 12, 13] rfl ?_
    refine aB ?_
    refine aC rfl (aK rfl) rfl rfl ?_
    refine aB ?_
    refine aC rfl (fB (p := ((1 + bL x0) : Int) < 0) kO (iW (p := (1 + bL x0)) (q := 0) rfl rfl)) rfl rfl ?_
    refine aB ?_
    refine aC rfl (aK rfl) rfl rfl ?_
    refine aB ?_
    refine eO rfl rfl rfl rfl (fun _ ho1059 => ?_)
    refine aC ho1059 (bI Tryz.isAgg68 Tryz.sizeOf68 rfl (H1058.blk 3 rfl) (bE (H1058.kn 4 rfl))) rfl rfl ?_
    refine aB ?_
    refine eO rfl rfl rfl rfl (fun _ ho1060 => ?_)
    refine aC ho1060 (bI Tryz.isAgg68 Tryz.sizeOf68 rfl (H1058.blk 7 rfl) (bE (H1058.kn 8 rfl))) rfl rfl ?_
    refine aB ?_
    refine eO rfl rfl rfl rfl (fun _ ho1061 => ?_)
    refine aV ho1061 Tryz.call30 (vs := #[.agg (List.toArray cs_7_4), .agg (List.toArray cs_5_5)]) rfl rfl rfl (eq_Vat (twV a1 x2 x0) _ _ _ (H1058.kn 4 rfl) (H1058.kn 8 rfl)) ?_
    rintro e1064 W1063 ⟨rfl, hu1062⟩; refine ⟨_, rfl, ?_⟩
    have H1065 := H1058.no hu1062; clear H1058
    refine aB ?_
    refine eO rfl rfl rfl rfl (fun _ ho1066 => ?_)
    refine aC ho1066 (iP rfl) rfl rfl ?_
    refine aB ?_
    refine aC rfl (dS (v := .bool (false)) (b := false) rfl rfl rfl rfl) rfl rfl ?_
    refine aB ?_
    refine aC rfl (aK rfl) rfl rfl ?_
    refine aB ?_
    refine eO rfl rfl rfl rfl (fun _ ho1067 => ?_)
    refine aC ho1067 (bI Tryz.isAgg72 Tryz.sizeOf72 rfl (H1065.blk 2 rfl) rfl) rfl rfl ?_
    refine aB ?_
    refine eO rfl rfl rfl rfl (fun _ ho1068 => ?_)
    refine aC ho1068 (bI Tryz.isAgg72 Tryz.sizeOf72 rfl (H1065.blk 6 rfl) rfl) rfl rfl ?_
    refine aB ?_
    refine eO rfl rfl rfl rfl (fun _ ho1069 => ?_)
    refine aV ho1069 Tryz.call46 (vs := #[.agg #[.int .i64 ((twR a1 x2 x0).Kind), .int .i64 ((twR a1 x2 x0).N)], .agg #[.int .i64 ((twR a1 x2 x0).Kind), .int .i64 ((twR a1 x2 x0).N)]]) rfl rfl rfl (eq_Wire (twR a1 x2 x0) _ _ _ (iI _ (twR a1 x2 x0)) (iI _ (twR a1 x2 x0))) ?_
    rintro e1072 W1071 ⟨rfl, hu1070⟩; refine ⟨_, rfl, ?_⟩
    have H1073 := H1065.no hu1070; clear H1065
    refine aB ?_
    refine eO rfl rfl rfl rfl (fun _ ho1074 => ?_)
    refine aC ho1074 (iP rfl) rfl rfl ?_
    refine aB ?_
    refine aC rfl (dS (v := .bool (false)) (b := false) rfl rfl rfl rfl) rfl rfl ?_
    refine aN ?_
    refine aM ?_
    refine fO rfl ?_
    refine wp_skip ?_
    refine aM ?_
    refine wp_seq ?_
    refine aS [0] rfl ?_
    refine aB ?_
    refine aC rfl (aW rfl) rfl rfl ?_
    refine aN ?_
    refine aM ?_
    refine wp_seq ?_
    refine aS [0, 1, 2, 3] rfl ?_
    refine aB ?_
    refine aC rfl (bI Tryz.isAgg68 Tryz.sizeOf68 rfl (H1073.blk 3 rfl) (bE (H1073.kn 4 rfl))) rfl rfl ?_
    refine aB ?_
    refine aC rfl (aK rfl) rfl rfl ?_
    refine aB ?_
    have H1081 : St w No [hM aG (twV a1 x2 x0) cs_7_4, hM aG (bM 1 x0) cs_6_1, hM aG x0 cs_10_2, hB g_7_9 72 #[.int .i64 ((twR a1 x2 x0).Kind), .int .i64 ((twR a1 x2 x0).N)], hB g_7_8 68 (List.toArray cs_7_4), hB g_6_2 68 (List.toArray cs_6_1), hB g_5_10 72 #[.int .i64 ((twR a1 x2 x0).Kind), .int .i64 ((twR a1 x2 x0).N)], hB g_5_9 68 (List.toArray cs_5_5), hM aG (twV a1 x2 x0) cs_5_5, hB g_0_1 92 (List.toArray cs2), hB g_0_0 55 (List.toArray cs0)] W1071 := H1073.pick [4, 0, 1, 2, 3, 5, 6, 7, 8, 9, 10] kD rfl; clear H1073
    obtain ⟨F1076, hM1077, hF1078, hT1079⟩ := H1081.turn
    refine aV rfl Tryz.call32 (vs := #[.agg (List.toArray cs_7_4), .int .i64 (1)]) rfl rfl rfl (oC (twV a1 x2 x0) _ F1076 _ _ hM1077 kO kO) ?_
    rintro e1083 W1082 ⟨rfl, hM1080, hu1075⟩; refine ⟨_, rfl, ?_⟩
    have H1084 : St w No [hM aG (bM 1 (twV a1 x2 x0)) cs_7_4, hM aG (bM 1 x0) cs_6_1, hM aG x0 cs_10_2, hB g_7_9 72 #[.int .i64 ((twR a1 x2 x0).Kind), .int .i64 ((twR a1 x2 x0).N)], hB g_7_8 68 (List.toArray cs_7_4), hB g_6_2 68 (List.toArray cs_6_1), hB g_5_10 72 #[.int .i64 ((twR a1 x2 x0).Kind), .int .i64 ((twR a1 x2 x0).N)], hB g_5_9 68 (List.toArray cs_5_5), hM aG (twV a1 x2 x0) cs_5_5, hB g_0_1 92 (List.toArray cs2), hB g_0_0 55 (List.toArray cs0)] W1082 := hT1079 (hM aG (bM 1 (twV a1 x2 x0)) cs_7_4) _ hu1075 ((hM aG (bM 1 (twV a1 x2 x0)) cs_7_4).mono (fun _ q => .inl q) hM1080); clear H1081
    refine aB ?_
    refine aC rfl (aW rfl) rfl rfl ?_
    refine aN ?_
    refine aM ?_
    refine wp_seq ?_
    refine aS [0] rfl ?_
    refine aB ?_
    refine aC rfl (aW rfl) rfl rfl ?_
    refine aN ?_
    refine aM ?_
    refine wp_seq ?_
    refine aS [0, 1, 2, 3] rfl ?_
    refine aB ?_
    refine aC rfl (bI Tryz.isAgg68 Tryz.sizeOf68 rfl (H1084.blk 4 rfl) (bE (H1084.kn 0 rfl))) rfl rfl ?_
    refine aB ?_
    refine aC rfl (aK rfl) rfl rfl ?_
    refine aB ?_
    refine aV rfl Tryz.call34 (vs := #[.agg (List.toArray cs_7_4), .int .i64 (1)]) rfl rfl rfl (oD (twV a1 x2 x0) _ _ _ (H1084.kn 0 rfl) kO kO) ?_
    rintro e1087 W1086 ⟨rfl, hu1085⟩; refine ⟨_, rfl, ?_⟩
    have H1088 := H1084.no hu1085; clear H1084
    refine aB ?_
    refine aC rfl (aW rfl) rfl rfl ?_
    refine aN ?_
    refine aM ?_
    refine wp_seq ?_
    refine wp_seq ?_
    refine aS [0, 1] rfl ?_
    refine aB ?_
    refine aC rfl (aK rfl) rfl rfl ?_
    refine aB ?_
    refine aC rfl (fB (p := ((1 + bL (twV a1 x2 x0)) : Int) < 0) kO (iW (p := (1 + bL (twV a1 x2 x0))) (q := 0) rfl rfl)) rfl rfl ?_
    refine aN ?_
    refine aM ?_
    refine fO rfl ?_
    refine wp_skip ?_
    refine aM ?_
    refine wp_seq ?_
    refine wp_seq ?_
    refine aS [0, 1, 2] rfl ?_
    refine aB ?_
    refine aC rfl (aK rfl) rfl rfl ?_
    refine aB ?_
    refine aC rfl (aK rfl) rfl rfl ?_
    refine aB ?_
    refine aC rfl (fB (p := ¬ ((1 + bL (twV a1 x2 x0)) : Int) = (1 + bL (twV a1 x2 x0))) (not_not_intro rfl) (iR (p := (1 + bL (twV a1 x2 x0))) (q := (1 + bL (twV a1 x2 x0))) rfl rfl)) rfl rfl ?_
    refine aN ?_
    refine aM ?_
    refine fO rfl ?_
    refine wp_skip ?_
    refine aM ?_
    refine wp_seq ?_
    refine lC (fun a' W' => ∃ (cs_24_5 : List Value) (g_24_9 : Nat) (g_24_10 : Nat) (x' : Nat → Value), a' = bO 112 x' [(8, .pointer (some ⟨g_5_9, 0, none⟩)), (9, .pointer (some ⟨g_5_10, 0, none⟩)), (11, .pointer (some ⟨g_7_8, 0, none⟩)), (14, .int .i64 ((1 + bL (twV a1 x2 x0)))), (16, .pointer (some ⟨g_24_9, 0, none⟩)), (17, .pointer (some ⟨g_24_10, 0, none⟩))] ∧ St w No [hB g_24_10 72 #[.int .i64 ((twR a1 x2 x0).Kind), .int .i64 ((twR a1 x2 x0).N)], hB g_24_9 68 (List.toArray cs_24_5), hM aG (twV a1 x2 x0) cs_24_5, hM aG (bM 1 (twV a1 x2 x0)) cs_7_4, hB g_7_8 68 (List.toArray cs_7_4), hB g_5_10 72 #[.int .i64 ((twR a1 x2 x0).Kind), .int .i64 ((twR a1 x2 x0).N)], hB g_5_9 68 (List.toArray cs_5_5), hM aG (twV a1 x2 x0) cs_5_5] W') ?_ ?_
    ·refine eH (fun W' => Blk W' g_0_0 55 (List.toArray cs0) ∧ Blk W' g_0_1 92 (List.toArray cs2)) 13 kR ?_
     have H1089 := H1088.drew; clear H1088
     have hS1090 : Blk W1086.drew g_0_0 55 (List.toArray cs0) ∧ Blk W1086.drew g_0_1 92 (List.toArray cs2) := ⟨H1089.blk 10 rfl, H1089.blk 9 rfl⟩
     refine aF (i := 0) rfl kR kR kR kR kR (fun _ _ _ h => h) rfl rfl hS1090 (fun W' hs' => bI Tryz.isAgg55 Tryz.sizeOf55 rfl hs'.1 hl0_) ?_
     refine aF (i := 2) rfl kR kR kR kR kR (fun _ _ _ h => h) rfl rfl hS1090 (fun W' hs' => aK rfl) ?_
     refine aF (i := 3) rfl kR kR kR kR kR (fun _ _ _ h => h) rfl rfl hS1090 (fun W' hs' => bI Tryz.isAgg92 Tryz.sizeOf92 rfl hs'.2 hl2_) ?_
     refine kU (i := 1) (i2 := 9) (i3 := 10) kR ?_ ?_ ?_
     ·refine aV rfl Tryz.call27 (vs := #[.agg (List.toArray cs0)]) rfl rfl rfl (lH x0 _ _ (fV H1089.1 hK0) hs_x0) ?_
      rintro e1095 W1094 ⟨cs_24_1, rfl, hM1092, hu1093⟩; refine ⟨_, rfl, ?_⟩
      have H1098 := H1089.new (q := hM aG x0 cs_24_1) hu1093 hM1092; clear H1089
      have hS1099 := And.intro (H1098.blk 11 rfl) (H1098.blk 10 rfl); refine ⟨fun _ => hS1099, ?_⟩
      refine kU (i := 4) (i2 := 9) (i3 := 10) kR ?_ ?_ ?_
      ·refine aV rfl Tryz.call44 (vs := #[.agg (List.toArray cs2)]) rfl rfl rfl (fI x2 _ _ (fV H1098.1 hK2) (by simp [dO])) ?_
       rintro e1104 W1103 ⟨cs_24_4, rfl, hM1101, hu1102⟩; refine ⟨_, rfl, ?_⟩
       have H1107 := H1098.new (q := hM aT x2 cs_24_4) hu1102 hM1101; clear H1098
       have hS1108 := And.intro (H1107.blk 12 rfl) (H1107.blk 11 rfl); refine ⟨fun _ => hS1108, ?_⟩
       refine kU (i := 5) (i2 := 9) (i3 := 10) kR ?_ ?_ ?_
       ·refine aV rfl Tryz.call45 (vs := #[.agg (List.toArray cs_24_1), .int .i64 (a1), .agg (List.toArray cs_24_4)]) rfl rfl rfl (fF x0 a1 x2 _ _ _ (H1107.kn 1 rfl) (Nat.le_trans hs_x0 kD) (H1107.kn 0 rfl)) ?_
        rintro e1112 W1111 ⟨cs_24_5, rfl, hM1109, hu1110⟩; refine ⟨_, rfl, ?_⟩
        have H1113 := H1107.new (q := hM aG (twV a1 x2 x0) cs_24_5) hu1110 hM1109; clear H1107
        have hS1114 := And.intro (H1113.blk 13 rfl) (H1113.blk 12 rfl); refine ⟨fun _ => hS1114, ?_⟩
        refine aF (i := 6) rfl kR kR kR kR kR (fun _ _ _ h => h) rfl rfl hS1114 (fun W' hs' => aK rfl) ?_
        refine aF (i := 7) rfl kR kR kR kR kR (fun _ _ _ h => h) rfl rfl hS1114 (fun W' hs' => aY (v := .agg (List.toArray cs_24_5)) rfl rfl) ?_
        refine aF (i := 8) rfl kR kR kR kR kR (fun _ _ _ h => h) rfl rfl hS1114 (fun W' hs' => aY (v := .agg #[.int .i64 ((twR a1 x2 x0).Kind), .int .i64 ((twR a1 x2 x0).N)]) rfl rfl) ?_
        refine dY (i := 9) (i2 := 10) kR ?_ ?_
        ·refine bA rfl Tryz.zeroValue68 rfl rfl H1113 ?_
         intro g_24_9 W1115 hu1116 Ha1117; clear H1113; clear hu1116
         have hS1119 := And.intro (Ha1117.blk 14 rfl) (Ha1117.blk 13 rfl); refine ⟨fun _ => hS1119, ?_⟩
         refine aL (i := 10) kR ?_
         refine bA rfl Tryz.zeroValue72 rfl rfl Ha1117 ?_
         intro g_24_10 W1120 hu1121 Ha1122; clear Ha1117; clear hu1121
         have hS1124 := And.intro (Ha1122.blk 15 rfl) (Ha1122.blk 14 rfl); refine ⟨fun _ => hS1124, ?_⟩
         refine aL (i := 11) kR ?_
         have H1128 : St w No [hB g_24_9 68 #[.int .i64 (0), .slice none 0 0, .slice none 0 0, .slice none 0 0, .slice none 0 0], hB g_24_10 72 #[.int .i64 (0), .int .i64 (0)], hM aG (twV a1 x2 x0) cs_24_5, hM aT x2 cs_24_4, hM aG x0 cs_24_1, hM aG (bM 1 (twV a1 x2 x0)) cs_7_4, hM aG (bM 1 x0) cs_6_1, hM aG x0 cs_10_2, hB g_7_9 72 #[.int .i64 ((twR a1 x2 x0).Kind), .int .i64 ((twR a1 x2 x0).N)], hB g_7_8 68 (List.toArray cs_7_4), hB g_6_2 68 (List.toArray cs_6_1), hB g_5_10 72 #[.int .i64 ((twR a1 x2 x0).Kind), .int .i64 ((twR a1 x2 x0).N)], hB g_5_9 68 (List.toArray cs_5_5), hM aG (twV a1 x2 x0) cs_5_5, hB g_0_1 92 (List.toArray cs2), hB g_0_0 55 (List.toArray cs0)] W1120 := Ha1122.pick [1, 0, 2, 3, 4, 5, 6, 7, 8, 9, 10, 11, 12, 13, 14, 15] kD rfl; clear Ha1122
         refine aR rfl Tryz.sizeOf68 rfl rfl (bE (H1128.kn 2 rfl)) rfl (bP (H1128.kn 2 rfl)) H1128 ?_
         intro W1125 hu1126 Ha1127; clear H1128; clear hu1126
         have hS1130 := And.intro (Ha1127.blk 15 rfl) (Ha1127.blk 14 rfl); refine ⟨fun _ => hS1130, ?_⟩
         refine aL (i := 12) kR ?_
         have H1134 : St w No [hB g_24_10 72 #[.int .i64 (0), .int .i64 (0)], hB g_24_9 68 (List.toArray cs_24_5), hM aG (twV a1 x2 x0) cs_24_5, hM aT x2 cs_24_4, hM aG x0 cs_24_1, hM aG (bM 1 (twV a1 x2 x0)) cs_7_4, hM aG (bM 1 x0) cs_6_1, hM aG x0 cs_10_2, hB g_7_9 72 #[.int .i64 ((twR a1 x2 x0).Kind), .int .i64 ((twR a1 x2 x0).N)], hB g_7_8 68 (List.toArray cs_7_4), hB g_6_2 68 (List.toArray cs_6_1), hB g_5_10 72 #[.int .i64 ((twR a1 x2 x0).Kind), .int .i64 ((twR a1 x2 x0).N)], hB g_5_9 68 (List.toArray cs_5_5), hM aG (twV a1 x2 x0) cs_5_5, hB g_0_1 92 (List.toArray cs2), hB g_0_0 55 (List.toArray cs0)] W1125 := Ha1127.pick [1, 0, 2, 3, 4, 5, 6, 7, 8, 9, 10, 11, 12, 13, 14, 15] kD rfl; clear Ha1127
         refine aR rfl Tryz.sizeOf72 rfl rfl rfl rfl kS H1134 ?_
         intro W1131 hu1132 Ha1133; clear H1134; clear hu1132
         have hS1136 := And.intro (Ha1133.blk 15 rfl) (Ha1133.blk 14 rfl); refine ⟨fun _ => hS1136, ?_⟩
         refine bD kR ?_ _
         exact (aZ [(8, .pointer (some ⟨g_5_9, 0, none⟩)), (9, .pointer (some ⟨g_5_10, 0, none⟩)), (11, .pointer (some ⟨g_7_8, 0, none⟩)), (14, .int .i64 ((1 + bL (twV a1 x2 x0)))), (16, .pointer (some ⟨g_24_9, 0, none⟩)), (17, .pointer (some ⟨g_24_10, 0, none⟩))] rfl).elim fun x' hx => ⟨cs_24_5, g_24_9, g_24_10, x', hx, Ha1133.pick [0, 1, 2, 5, 9, 11, 12, 13] kD rfl⟩
        refine bA rfl Tryz.zeroValue72 rfl rfl H1113 ?_
        intro g_24_10 W1137 hu1138 Ha1139; clear H1113; clear hu1138
        have hS1141 := And.intro (Ha1139.blk 14 rfl) (Ha1139.blk 13 rfl); refine ⟨fun _ => hS1141, ?_⟩
        refine aL (i := 9) kR ?_
        refine bA rfl Tryz.zeroValue68 rfl rfl Ha1139 ?_
        intro g_24_9 W1142 hu1143 Ha1144; clear Ha1139; clear hu1143
        have hS1146 := And.intro (Ha1144.blk 15 rfl) (Ha1144.blk 14 rfl); refine ⟨fun _ => hS1146, ?_⟩
        refine aL (i := 11) kR ?_
        refine aR rfl Tryz.sizeOf68 rfl rfl (bE (Ha1144.kn 2 rfl)) rfl (bP (Ha1144.kn 2 rfl)) Ha1144 ?_
        intro W1147 hu1148 Ha1149; clear Ha1144; clear hu1148
        have hS1151 := And.intro (Ha1149.blk 15 rfl) (Ha1149.blk 14 rfl); refine ⟨fun _ => hS1151, ?_⟩
        refine aL (i := 12) kR ?_
        have H1155 : St w No [hB g_24_10 72 #[.int .i64 (0), .int .i64 (0)], hB g_24_9 68 (List.toArray cs_24_5), hM aG (twV a1 x2 x0) cs_24_5, hM aT x2 cs_24_4, hM aG x0 cs_24_1, hM aG (bM 1 (twV a1 x2 x0)) cs_7_4, hM aG (bM 1 x0) cs_6_1, hM aG x0 cs_10_2, hB g_7_9 72 #[.int .i64 ((twR a1 x2 x0).Kind), .int .i64 ((twR a1 x2 x0).N)], hB g_7_8 68 (List.toArray cs_7_4), hB g_6_2 68 (List.toArray cs_6_1), hB g_5_10 72 #[.int .i64 ((twR a1 x2 x0).Kind), .int .i64 ((twR a1 x2 x0).N)], hB g_5_9 68 (List.toArray cs_5_5), hM aG (twV a1 x2 x0) cs_5_5, hB g_0_1 92 (List.toArray cs2), hB g_0_0 55 (List.toArray cs0)] W1147 := Ha1149.pick [1, 0, 2, 3, 4, 5, 6, 7, 8, 9, 10, 11, 12, 13, 14, 15] kD rfl; clear Ha1149
        refine aR rfl Tryz.sizeOf72 rfl rfl rfl rfl kS H1155 ?_
        intro W1152 hu1153 Ha1154; clear H1155; clear hu1153
        have hS1157 := And.intro (Ha1154.blk 15 rfl) (Ha1154.blk 14 rfl); refine ⟨fun _ => hS1157, ?_⟩
        refine bD kR ?_ _
        exact (aZ [(8, .pointer (some ⟨g_5_9, 0, none⟩)), (9, .pointer (some ⟨g_5_10, 0, none⟩)), (11, .pointer (some ⟨g_7_8, 0, none⟩)), (14, .int .i64 ((1 + bL (twV a1 x2 x0)))), (16, .pointer (some ⟨g_24_9, 0, none⟩)), (17, .pointer (some ⟨g_24_10, 0, none⟩))] rfl).elim fun x' hx => ⟨cs_24_5, g_24_9, g_24_10, x', hx, Ha1154.pick [0, 1, 2, 5, 9, 11, 12, 13] kD rfl⟩
       ·refine bA rfl Tryz.zeroValue68 rfl rfl H1107 ?_
        intro g_24_9 W1158 hu1159 Ha1160; clear H1107; clear hu1159
        have hS1162 := And.intro (Ha1160.blk 13 rfl) (Ha1160.blk 12 rfl); refine ⟨fun _ => hS1162, ?_⟩
        refine dY (i := 5) (i2 := 10) kR ?_ ?_
        ·refine aV rfl Tryz.call45 (vs := #[.agg (List.toArray cs_24_1), .int .i64 (a1), .agg (List.toArray cs_24_4)]) rfl rfl rfl (fF x0 a1 x2 _ _ _ (Ha1160.kn 2 rfl) (Nat.le_trans hs_x0 kD) (Ha1160.kn 1 rfl)) ?_
         rintro e1166 W1165 ⟨cs_24_5, rfl, hM1163, hu1164⟩; refine ⟨_, rfl, ?_⟩
         have H1167 := Ha1160.new (q := hM aG (twV a1 x2 x0) cs_24_5) hu1164 hM1163; clear Ha1160
         have hS1168 := And.intro (H1167.blk 14 rfl) (H1167.blk 13 rfl); refine ⟨fun _ => hS1168, ?_⟩
         refine aF (i := 6) rfl kR kR kR kR kR (fun _ _ _ h => h) rfl rfl hS1168 (fun W' hs' => aK rfl) ?_
         refine aF (i := 7) rfl kR kR kR kR kR (fun _ _ _ h => h) rfl rfl hS1168 (fun W' hs' => aY (v := .agg (List.toArray cs_24_5)) rfl rfl) ?_
         refine aF (i := 8) rfl kR kR kR kR kR (fun _ _ _ h => h) rfl rfl hS1168 (fun W' hs' => aY (v := .agg #[.int .i64 ((twR a1 x2 x0).Kind), .int .i64 ((twR a1 x2 x0).N)]) rfl rfl) ?_
         refine aL (i := 10) kR ?_
         refine bA rfl Tryz.zeroValue72 rfl rfl H1167 ?_
         intro g_24_10 W1169 hu1170 Ha1171; clear H1167; clear hu1170
         have hS1173 := And.intro (Ha1171.blk 15 rfl) (Ha1171.blk 14 rfl); refine ⟨fun _ => hS1173, ?_⟩
         refine aL (i := 11) kR ?_
         have H1177 : St w No [hB g_24_9 68 #[.int .i64 (0), .slice none 0 0, .slice none 0 0, .slice none 0 0, .slice none 0 0], hB g_24_10 72 #[.int .i64 (0), .int .i64 (0)], hM aG (twV a1 x2 x0) cs_24_5, hM aT x2 cs_24_4, hM aG x0 cs_24_1, hM aG (bM 1 (twV a1 x2 x0)) cs_7_4, hM aG (bM 1 x0) cs_6_1, hM aG x0 cs_10_2, hB g_7_9 72 #[.int .i64 ((twR a1 x2 x0).Kind), .int .i64 ((twR a1 x2 x0).N)], hB g_7_8 68 (List.toArray cs_7_4), hB g_6_2 68 (List.toArray cs_6_1), hB g_5_10 72 #[.int .i64 ((twR a1 x2 x0).Kind), .int .i64 ((twR a1 x2 x0).N)], hB g_5_9 68 (List.toArray cs_5_5), hM aG (twV a1 x2 x0) cs_5_5, hB g_0_1 92 (List.toArray cs2), hB g_0_0 55 (List.toArray cs0)] W1169 := Ha1171.pick [2, 0, 1, 3, 4, 5, 6, 7, 8, 9, 10, 11, 12, 13, 14, 15] kD rfl; clear Ha1171
         refine aR rfl Tryz.sizeOf68 rfl rfl (bE (H1177.kn 2 rfl)) rfl (bP (H1177.kn 2 rfl)) H1177 ?_
         intro W1174 hu1175 Ha1176; clear H1177; clear hu1175
         have hS1179 := And.intro (Ha1176.blk 15 rfl) (Ha1176.blk 14 rfl); refine ⟨fun _ => hS1179, ?_⟩
         refine aL (i := 12) kR ?_
         have H1183 : St w No [hB g_24_10 72 #[.int .i64 (0), .int .i64 (0)], hB g_24_9 68 (List.toArray cs_24_5), hM aG (twV a1 x2 x0) cs_24_5, hM aT x2 cs_24_4, hM aG x0 cs_24_1, hM aG (bM 1 (twV a1 x2 x0)) cs_7_4, hM aG (bM 1 x0) cs_6_1, hM aG x0 cs_10_2, hB g_7_9 72 #[.int .i64 ((twR a1 x2 x0).Kind), .int .i64 ((twR a1 x2 x0).N)], hB g_7_8 68 (List.toArray cs_7_4), hB g_6_2 68 (List.toArray cs_6_1), hB g_5_10 72 #[.int .i64 ((twR a1 x2 x0).Kind), .int .i64 ((twR a1 x2 x0).N)], hB g_5_9 68 (List.toArray cs_5_5), hM aG (twV a1 x2 x0) cs_5_5, hB g_0_1 92 (List.toArray cs2), hB g_0_0 55 (List.toArray cs0)] W1174 := Ha1176.pick [1, 0, 2, 3, 4, 5, 6, 7, 8, 9, 10, 11, 12, 13, 14, 15] kD rfl; clear Ha1176
         refine aR rfl Tryz.sizeOf72 rfl rfl rfl rfl kS H1183 ?_
         intro W1180 hu1181 Ha1182; clear H1183; clear hu1181
         have hS1185 := And.intro (Ha1182.blk 15 rfl) (Ha1182.blk 14 rfl); refine ⟨fun _ => hS1185, ?_⟩
         refine bD kR ?_ _
         exact (aZ [(8, .pointer (some ⟨g_5_9, 0, none⟩)), (9, .pointer (some ⟨g_5_10, 0, none⟩)), (11, .pointer (some ⟨g_7_8, 0, none⟩)), (14, .int .i64 ((1 + bL (twV a1 x2 x0)))), (16, .pointer (some ⟨g_24_9, 0, none⟩)), (17, .pointer (some ⟨g_24_10, 0, none⟩))] rfl).elim fun x' hx => ⟨cs_24_5, g_24_9, g_24_10, x', hx, Ha1182.pick [0, 1, 2, 5, 9, 11, 12, 13] kD rfl⟩
        refine bA rfl Tryz.zeroValue72 rfl rfl Ha1160 ?_
        intro g_24_10 W1186 hu1187 Ha1188; clear Ha1160; clear hu1187
        have hS1190 := And.intro (Ha1188.blk 14 rfl) (Ha1188.blk 13 rfl); refine ⟨fun _ => hS1190, ?_⟩
        refine aL (i := 5) kR ?_
        refine aV rfl Tryz.call45 (vs := #[.agg (List.toArray cs_24_1), .int .i64 (a1), .agg (List.toArray cs_24_4)]) rfl rfl rfl (fF x0 a1 x2 _ _ _ (Ha1188.kn 3 rfl) (Nat.le_trans hs_x0 kD) (Ha1188.kn 2 rfl)) ?_
        rintro e1194 W1193 ⟨cs_24_5, rfl, hM1191, hu1192⟩; refine ⟨_, rfl, ?_⟩
        have H1195 := Ha1188.new (q := hM aG (twV a1 x2 x0) cs_24_5) hu1192 hM1191; clear Ha1188
        have hS1196 := And.intro (H1195.blk 15 rfl) (H1195.blk 14 rfl); refine ⟨fun _ => hS1196, ?_⟩
        refine aF (i := 6) rfl kR kR kR kR kR (fun _ _ _ h => h) rfl rfl hS1196 (fun W' hs' => aK rfl) ?_
        refine aF (i := 7) rfl kR kR kR kR kR (fun _ _ _ h => h) rfl rfl hS1196 (fun W' hs' => aY (v := .agg (List.toArray cs_24_5)) rfl rfl) ?_
        refine aF (i := 8) rfl kR kR kR kR kR (fun _ _ _ h => h) rfl rfl hS1196 (fun W' hs' => aY (v := .agg #[.int .i64 ((twR a1 x2 x0).Kind), .int .i64 ((twR a1 x2 x0).N)]) rfl rfl) ?_
        refine aL (i := 11) kR ?_
        have H1200 : St w No [hB g_24_9 68 #[.int .i64 (0), .slice none 0 0, .slice none 0 0, .slice none 0 0, .slice none 0 0], hM aG (twV a1 x2 x0) cs_24_5, hB g_24_10 72 #[.int .i64 (0), .int .i64 (0)], hM aT x2 cs_24_4, hM aG x0 cs_24_1, hM aG (bM 1 (twV a1 x2 x0)) cs_7_4, hM aG (bM 1 x0) cs_6_1, hM aG x0 cs_10_2, hB g_7_9 72 #[.int .i64 ((twR a1 x2 x0).Kind), .int .i64 ((twR a1 x2 x0).N)], hB g_7_8 68 (List.toArray cs_7_4), hB g_6_2 68 (List.toArray cs_6_1), hB g_5_10 72 #[.int .i64 ((twR a1 x2 x0).Kind), .int .i64 ((twR a1 x2 x0).N)], hB g_5_9 68 (List.toArray cs_5_5), hM aG (twV a1 x2 x0) cs_5_5, hB g_0_1 92 (List.toArray cs2), hB g_0_0 55 (List.toArray cs0)] W1193 := H1195.pick [2, 0, 1, 3, 4, 5, 6, 7, 8, 9, 10, 11, 12, 13, 14, 15] kD rfl; clear H1195
        refine aR rfl Tryz.sizeOf68 rfl rfl (bE (H1200.kn 1 rfl)) rfl (bP (H1200.kn 1 rfl)) H1200 ?_
        intro W1197 hu1198 Ha1199; clear H1200; clear hu1198
        have hS1202 := And.intro (Ha1199.blk 15 rfl) (Ha1199.blk 14 rfl); refine ⟨fun _ => hS1202, ?_⟩
        refine aL (i := 12) kR ?_
        have H1206 : St w No [hB g_24_10 72 #[.int .i64 (0), .int .i64 (0)], hB g_24_9 68 (List.toArray cs_24_5), hM aG (twV a1 x2 x0) cs_24_5, hM aT x2 cs_24_4, hM aG x0 cs_24_1, hM aG (bM 1 (twV a1 x2 x0)) cs_7_4, hM aG (bM 1 x0) cs_6_1, hM aG x0 cs_10_2, hB g_7_9 72 #[.int .i64 ((twR a1 x2 x0).Kind), .int .i64 ((twR a1 x2 x0).N)], hB g_7_8 68 (List.toArray cs_7_4), hB g_6_2 68 (List.toArray cs_6_1), hB g_5_10 72 #[.int .i64 ((twR a1 x2 x0).Kind), .int .i64 ((twR a1 x2 x0).N)], hB g_5_9 68 (List.toArray cs_5_5), hM aG (twV a1 x2 x0) cs_5_5, hB g_0_1 92 (List.toArray cs2), hB g_0_0 55 (List.toArray cs0)] W1197 := Ha1199.pick [2, 0, 1, 3, 4, 5, 6, 7, 8, 9, 10, 11, 12, 13, 14, 15] kD rfl; clear Ha1199
        refine aR rfl Tryz.sizeOf72 rfl rfl rfl rfl kS H1206 ?_
        intro W1203 hu1204 Ha1205; clear H1206; clear hu1204
        have hS1208 := And.intro (Ha1205.blk 15 rfl) (Ha1205.blk 14 rfl); refine ⟨fun _ => hS1208, ?_⟩
        refine bD kR ?_ _
        exact (aZ [(8, .pointer (some ⟨g_5_9, 0, none⟩)), (9, .pointer (some ⟨g_5_10, 0, none⟩)), (11, .pointer (some ⟨g_7_8, 0, none⟩)), (14, .int .i64 ((1 + bL (twV a1 x2 x0)))), (16, .pointer (some ⟨g_24_9, 0, none⟩)), (17, .pointer (some ⟨g_24_10, 0, none⟩))] rfl).elim fun x' hx => ⟨cs_24_5, g_24_9, g_24_10, x', hx, Ha1205.pick [0, 1, 2, 5, 9, 11, 12, 13] kD rfl⟩
       refine bA rfl Tryz.zeroValue72 rfl rfl H1107 ?_
       intro g_24_10 W1209 hu1210 Ha1211; clear H1107; clear hu1210
       have hS1213 := And.intro (Ha1211.blk 13 rfl) (Ha1211.blk 12 rfl); refine ⟨fun _ => hS1213, ?_⟩
       refine dY (i := 5) (i2 := 9) kR ?_ ?_
       ·refine aV rfl Tryz.call45 (vs := #[.agg (List.toArray cs_24_1), .int .i64 (a1), .agg (List.toArray cs_24_4)]) rfl rfl rfl (fF x0 a1 x2 _ _ _ (Ha1211.kn 2 rfl) (Nat.le_trans hs_x0 kD) (Ha1211.kn 1 rfl)) ?_
        rintro e1217 W1216 ⟨cs_24_5, rfl, hM1214, hu1215⟩; refine ⟨_, rfl, ?_⟩
        have H1218 := Ha1211.new (q := hM aG (twV a1 x2 x0) cs_24_5) hu1215 hM1214; clear Ha1211
        have hS1219 := And.intro (H1218.blk 14 rfl) (H1218.blk 13 rfl); refine ⟨fun _ => hS1219, ?_⟩
        refine aF (i := 6) rfl kR kR kR kR kR (fun _ _ _ h => h) rfl rfl hS1219 (fun W' hs' => aK rfl) ?_
        refine aF (i := 7) rfl kR kR kR kR kR (fun _ _ _ h => h) rfl rfl hS1219 (fun W' hs' => aY (v := .agg (List.toArray cs_24_5)) rfl rfl) ?_
        refine aF (i := 8) rfl kR kR kR kR kR (fun _ _ _ h => h) rfl rfl hS1219 (fun W' hs' => aY (v := .agg #[.int .i64 ((twR a1 x2 x0).Kind), .int .i64 ((twR a1 x2 x0).N)]) rfl rfl) ?_
        refine aL (i := 9) kR ?_
        refine bA rfl Tryz.zeroValue68 rfl rfl H1218 ?_
        intro g_24_9 W1220 hu1221 Ha1222; clear H1218; clear hu1221
        have hS1224 := And.intro (Ha1222.blk 15 rfl) (Ha1222.blk 14 rfl); refine ⟨fun _ => hS1224, ?_⟩
        refine aL (i := 11) kR ?_
        refine aR rfl Tryz.sizeOf68 rfl rfl (bE (Ha1222.kn 1 rfl)) rfl (bP (Ha1222.kn 1 rfl)) Ha1222 ?_
        intro W1225 hu1226 Ha1227; clear Ha1222; clear hu1226
        have hS1229 := And.intro (Ha1227.blk 15 rfl) (Ha1227.blk 14 rfl); refine ⟨fun _ => hS1229, ?_⟩
        refine aL (i := 12) kR ?_
        have H1233 : St w No [hB g_24_10 72 #[.int .i64 (0), .int .i64 (0)], hB g_24_9 68 (List.toArray cs_24_5), hM aG (twV a1 x2 x0) cs_24_5, hM aT x2 cs_24_4, hM aG x0 cs_24_1, hM aG (bM 1 (twV a1 x2 x0)) cs_7_4, hM aG (bM 1 x0) cs_6_1, hM aG x0 cs_10_2, hB g_7_9 72 #[.int .i64 ((twR a1 x2 x0).Kind), .int .i64 ((twR a1 x2 x0).N)], hB g_7_8 68 (List.toArray cs_7_4), hB g_6_2 68 (List.toArray cs_6_1), hB g_5_10 72 #[.int .i64 ((twR a1 x2 x0).Kind), .int .i64 ((twR a1 x2 x0).N)], hB g_5_9 68 (List.toArray cs_5_5), hM aG (twV a1 x2 x0) cs_5_5, hB g_0_1 92 (List.toArray cs2), hB g_0_0 55 (List.toArray cs0)] W1225 := Ha1227.pick [2, 0, 1, 3, 4, 5, 6, 7, 8, 9, 10, 11, 12, 13, 14, 15] kD rfl; clear Ha1227
        refine aR rfl Tryz.sizeOf72 rfl rfl rfl rfl kS H1233 ?_
        intro W1230 hu1231 Ha1232; clear H1233; clear hu1231
        have hS1235 := And.intro (Ha1232.blk 15 rfl) (Ha1232.blk 14 rfl); refine ⟨fun _ => hS1235, ?_⟩
        refine bD kR ?_ _
        exact (aZ [(8, .pointer (some ⟨g_5_9, 0, none⟩)), (9, .pointer (some ⟨g_5_10, 0, none⟩)), (11, .pointer (some ⟨g_7_8, 0, none⟩)), (14, .int .i64 ((1 + bL (twV a1 x2 x0)))), (16, .pointer (some ⟨g_24_9, 0, none⟩)), (17, .pointer (some ⟨g_24_10, 0, none⟩))] rfl).elim fun x' hx => ⟨cs_24_5, g_24_9, g_24_10, x', hx, Ha1232.pick [0, 1, 2, 5, 9, 11, 12, 13] kD rfl⟩
       refine bA rfl Tryz.zeroValue68 rfl rfl Ha1211 ?_
       intro g_24_9 W1236 hu1237 Ha1238; clear Ha1211; clear hu1237
       have hS1240 := And.intro (Ha1238.blk 14 rfl) (Ha1238.blk 13 rfl); refine ⟨fun _ => hS1240, ?_⟩
       refine aL (i := 5) kR ?_
       refine aV rfl Tryz.call45 (vs := #[.agg (List.toArray cs_24_1), .int .i64 (a1), .agg (List.toArray cs_24_4)]) rfl rfl rfl (fF x0 a1 x2 _ _ _ (Ha1238.kn 3 rfl) (Nat.le_trans hs_x0 kD) (Ha1238.kn 2 rfl)) ?_
       rintro e1244 W1243 ⟨cs_24_5, rfl, hM1241, hu1242⟩; refine ⟨_, rfl, ?_⟩
       have H1245 := Ha1238.new (q := hM aG (twV a1 x2 x0) cs_24_5) hu1242 hM1241; clear Ha1238
       have hS1246 := And.intro (H1245.blk 15 rfl) (H1245.blk 14 rfl); refine ⟨fun _ => hS1246, ?_⟩
       refine aF (i := 6) rfl kR kR kR kR kR (fun _ _ _ h => h) rfl rfl hS1246 (fun W' hs' => aK rfl) ?_
       refine aF (i := 7) rfl kR kR kR kR kR (fun _ _ _ h => h) rfl rfl hS1246 (fun W' hs' => aY (v := .agg (List.toArray cs_24_5)) rfl rfl) ?_
       refine aF (i := 8) rfl kR kR kR kR kR (fun _ _ _ h => h) rfl rfl hS1246 (fun W' hs' => aY (v := .agg #[.int .i64 ((twR a1 x2 x0).Kind), .int .i64 ((twR a1 x2 x0).N)]) rfl rfl) ?_
       refine aL (i := 11) kR ?_
       have H1250 : St w No [hB g_24_9 68 #[.int .i64 (0), .slice none 0 0, .slice none 0 0, .slice none 0 0, .slice none 0 0], hM aG (twV a1 x2 x0) cs_24_5, hB g_24_10 72 #[.int .i64 (0), .int .i64 (0)], hM aT x2 cs_24_4, hM aG x0 cs_24_1, hM aG (bM 1 (twV a1 x2 x0)) cs_7_4, hM aG (bM 1 x0) cs_6_1, hM aG x0 cs_10_2, hB g_7_9 72 #[.int .i64 ((twR a1 x2 x0).Kind), .int .i64 ((twR a1 x2 x0).N)], hB g_7_8 68 (List.toArray cs_7_4), hB g_6_2 68 (List.toArray cs_6_1), hB g_5_10 72 #[.int .i64 ((twR a1 x2 x0).Kind), .int .i64 ((twR a1 x2 x0).N)], hB g_5_9 68 (List.toArray cs_5_5), hM aG (twV a1 x2 x0) cs_5_5, hB g_0_1 92 (List.toArray cs2), hB g_0_0 55 (List.toArray cs0)] W1243 := H1245.pick [1, 0, 2, 3, 4, 5, 6, 7, 8, 9, 10, 11, 12, 13, 14, 15] kD rfl; clear H1245
       refine aR rfl Tryz.sizeOf68 rfl rfl (bE (H1250.kn 1 rfl)) rfl (bP (H1250.kn 1 rfl)) H1250 ?_
       intro W1247 hu1248 Ha1249; clear H1250; clear hu1248
       have hS1252 := And.intro (Ha1249.blk 15 rfl) (Ha1249.blk 14 rfl); refine ⟨fun _ => hS1252, ?_⟩
       refine aL (i := 12) kR ?_
       have H1256 : St w No [hB g_24_10 72 #[.int .i64 (0), .int .i64 (0)], hB g_24_9 68 (List.toArray cs_24_5), hM aG (twV a1 x2 x0) cs_24_5, hM aT x2 cs_24_4, hM aG x0 cs_24_1, hM aG (bM 1 (twV a1 x2 x0)) cs_7_4, hM aG (bM 1 x0) cs_6_1, hM aG x0 cs_10_2, hB g_7_9 72 #[.int .i64 ((twR a1 x2 x0).Kind), .int .i64 ((twR a1 x2 x0).N)], hB g_7_8 68 (List.toArray cs_7_4), hB g_6_2 68 (List.toArray cs_6_1), hB g_5_10 72 #[.int .i64 ((twR a1 x2 x0).Kind), .int .i64 ((twR a1 x2 x0).N)], hB g_5_9 68 (List.toArray cs_5_5), hM aG (twV a1 x2 x0) cs_5_5, hB g_0_1 92 (List.toArray cs2), hB g_0_0 55 (List.toArray cs0)] W1247 := Ha1249.pick [2, 0, 1, 3, 4, 5, 6, 7, 8, 9, 10, 11, 12, 13, 14, 15] kD rfl; clear Ha1249
       refine aR rfl Tryz.sizeOf72 rfl rfl rfl rfl kS H1256 ?_
       intro W1253 hu1254 Ha1255; clear H1256; clear hu1254
       have hS1258 := And.intro (Ha1255.blk 15 rfl) (Ha1255.blk 14 rfl); refine ⟨fun _ => hS1258, ?_⟩
       refine bD kR ?_ _
       exact (aZ [(8, .pointer (some ⟨g_5_9, 0, none⟩)), (9, .pointer (some ⟨g_5_10, 0, none⟩)), (11, .pointer (some ⟨g_7_8, 0, none⟩)), (14, .int .i64 ((1 + bL (twV a1 x2 x0)))), (16, .pointer (some ⟨g_24_9, 0, none⟩)), (17, .pointer (some ⟨g_24_10, 0, none⟩))] rfl).elim fun x' hx => ⟨cs_24_5, g_24_9, g_24_10, x', hx, Ha1255.pick [0, 1, 2, 5, 9, 11, 12, 13] kD rfl⟩
      ·refine bA rfl Tryz.zeroValue68 rfl rfl H1098 ?_
       intro g_24_9 W1259 hu1260 Ha1261; clear H1098; clear hu1260
       have hS1263 := And.intro (Ha1261.blk 12 rfl) (Ha1261.blk 11 rfl); refine ⟨fun _ => hS1263, ?_⟩
       refine dY (i := 4) (i2 := 10) kR ?_ ?_
       ·refine aV rfl Tryz.call44 (vs := #[.agg (List.toArray cs2)]) rfl rfl rfl (fI x2 _ _ (fV Ha1261.1 hK2) (by simp [dO])) ?_
        rintro e1268 W1267 ⟨cs_24_4, rfl, hM1265, hu1266⟩; refine ⟨_, rfl, ?_⟩
        have H1271 := Ha1261.new (q := hM aT x2 cs_24_4) hu1266 hM1265; clear Ha1261
        have hS1272 := And.intro (H1271.blk 13 rfl) (H1271.blk 12 rfl); refine ⟨fun _ => hS1272, ?_⟩
        refine dY (i := 5) (i2 := 10) kR ?_ ?_
        ·refine aV rfl Tryz.call45 (vs := #[.agg (List.toArray cs_24_1), .int .i64 (a1), .agg (List.toArray cs_24_4)]) rfl rfl rfl (fF x0 a1 x2 _ _ _ (H1271.kn 2 rfl) (Nat.le_trans hs_x0 kD) (H1271.kn 0 rfl)) ?_
         rintro e1276 W1275 ⟨cs_24_5, rfl, hM1273, hu1274⟩; refine ⟨_, rfl, ?_⟩
         have H1277 := H1271.new (q := hM aG (twV a1 x2 x0) cs_24_5) hu1274 hM1273; clear H1271
         have hS1278 := And.intro (H1277.blk 14 rfl) (H1277.blk 13 rfl); refine ⟨fun _ => hS1278, ?_⟩
         refine aF (i := 6) rfl kR kR kR kR kR (fun _ _ _ h => h) rfl rfl hS1278 (fun W' hs' => aK rfl) ?_
         refine aF (i := 7) rfl kR kR kR kR kR (fun _ _ _ h => h) rfl rfl hS1278 (fun W' hs' => aY (v := .agg (List.toArray cs_24_5)) rfl rfl) ?_
         refine aF (i := 8) rfl kR kR kR kR kR (fun _ _ _ h => h) rfl rfl hS1278 (fun W' hs' => aY (v := .agg #[.int .i64 ((twR a1 x2 x0).Kind), .int .i64 ((twR a1 x2 x0).N)]) rfl rfl) ?_
         refine aL (i := 10) kR ?_
         refine bA rfl Tryz.zeroValue72 rfl rfl H1277 ?_
         intro g_24_10 W1279 hu1280 Ha1281; clear H1277; clear hu1280
         have hS1283 := And.intro (Ha1281.blk 15 rfl) (Ha1281.blk 14 rfl); refine ⟨fun _ => hS1283, ?_⟩
         refine aL (i := 11) kR ?_
         have H1287 : St w No [hB g_24_9 68 #[.int .i64 (0), .slice none 0 0, .slice none 0 0, .slice none 0 0, .slice none 0 0], hB g_24_10 72 #[.int .i64 (0), .int .i64 (0)], hM aG (twV a1 x2 x0) cs_24_5, hM aT x2 cs_24_4, hM aG x0 cs_24_1, hM aG (bM 1 (twV a1 x2 x0)) cs_7_4, hM aG (bM 1 x0) cs_6_1, hM aG x0 cs_10_2, hB g_7_9 72 #[.int .i64 ((twR a1 x2 x0).Kind), .int .i64 ((twR a1 x2 x0).N)], hB g_7_8 68 (List.toArray cs_7_4), hB g_6_2 68 (List.toArray cs_6_1), hB g_5_10 72 #[.int .i64 ((twR a1 x2 x0).Kind), .int .i64 ((twR a1 x2 x0).N)], hB g_5_9 68 (List.toArray cs_5_5), hM aG (twV a1 x2 x0) cs_5_5, hB g_0_1 92 (List.toArray cs2), hB g_0_0 55 (List.toArray cs0)] W1279 := Ha1281.pick [3, 0, 1, 2, 4, 5, 6, 7, 8, 9, 10, 11, 12, 13, 14, 15] kD rfl; clear Ha1281
         refine aR rfl Tryz.sizeOf68 rfl rfl (bE (H1287.kn 2 rfl)) rfl (bP (H1287.kn 2 rfl)) H1287 ?_
         intro W1284 hu1285 Ha1286; clear H1287; clear hu1285
         have hS1289 := And.intro (Ha1286.blk 15 rfl) (Ha1286.blk 14 rfl); refine ⟨fun _ => hS1289, ?_⟩
         refine aL (i := 12) kR ?_
         have H1293 : St w No [hB g_24_10 72 #[.int .i64 (0), .int .i64 (0)], hB g_24_9 68 (List.toArray cs_24_5), hM aG (twV a1 x2 x0) cs_24_5, hM aT x2 cs_24_4, hM aG x0 cs_24_1, hM aG (bM 1 (twV a1 x2 x0)) cs_7_4, hM aG (bM 1 x0) cs_6_1, hM aG x0 cs_10_2, hB g_7_9 72 #[.int .i64 ((twR a1 x2 x0).Kind), .int .i64 ((twR a1 x2 x0).N)], hB g_7_8 68 (List.toArray cs_7_4), hB g_6_2 68 (List.toArray cs_6_1), hB g_5_10 72 #[.int .i64 ((twR a1 x2 x0).Kind), .int .i64 ((twR a1 x2 x0).N)], hB g_5_9 68 (List.toArray cs_5_5), hM aG (twV a1 x2 x0) cs_5_5, hB g_0_1 92 (List.toArray cs2), hB g_0_0 55 (List.toArray cs0)] W1284 := Ha1286.pick [1, 0, 2, 3, 4, 5, 6, 7, 8, 9, 10, 11, 12, 13, 14, 15] kD rfl; clear Ha1286
         refine aR rfl Tryz.sizeOf72 rfl rfl rfl rfl kS H1293 ?_
         intro W1290 hu1291 Ha1292; clear H1293; clear hu1291
         have hS1295 := And.intro (Ha1292.blk 15 rfl) (Ha1292.blk 14 rfl); refine ⟨fun _ => hS1295, ?_⟩
         refine bD kR ?_ _
         exact (aZ [(8, .pointer (some ⟨g_5_9, 0, none⟩)), (9, .pointer (some ⟨g_5_10, 0, none⟩)), (11, .pointer (some ⟨g_7_8, 0, none⟩)), (14, .int .i64 ((1 + bL (twV a1 x2 x0)))), (16, .pointer (some ⟨g_24_9, 0, none⟩)), (17, .pointer (some ⟨g_24_10, 0, none⟩))] rfl).elim fun x' hx => ⟨cs_24_5, g_24_9, g_24_10, x', hx, Ha1292.pick [0, 1, 2, 5, 9, 11, 12, 13] kD rfl⟩
        refine bA rfl Tryz.zeroValue72 rfl rfl H1271 ?_
        intro g_24_10 W1296 hu1297 Ha1298; clear H1271; clear hu1297
        have hS1300 := And.intro (Ha1298.blk 14 rfl) (Ha1298.blk 13 rfl); refine ⟨fun _ => hS1300, ?_⟩
        refine aL (i := 5) kR ?_
        refine aV rfl Tryz.call45 (vs := #[.agg (List.toArray cs_24_1), .int .i64 (a1), .agg (List.toArray cs_24_4)]) rfl rfl rfl (fF x0 a1 x2 _ _ _ (Ha1298.kn 3 rfl) (Nat.le_trans hs_x0 kD) (Ha1298.kn 1 rfl)) ?_
        rintro e1304 W1303 ⟨cs_24_5, rfl, hM1301, hu1302⟩; refine ⟨_, rfl, ?_⟩
        have H1305 := Ha1298.new (q := hM aG (twV a1 x2 x0) cs_24_5) hu1302 hM1301; clear Ha1298
        have hS1306 := And.intro (H1305.blk 15 rfl) (H1305.blk 14 rfl); refine ⟨fun _ => hS1306, ?_⟩
        refine aF (i := 6) rfl kR kR kR kR kR (fun _ _ _ h => h) rfl rfl hS1306 (fun W' hs' => aK rfl) ?_
        refine aF (i := 7) rfl kR kR kR kR kR (fun _ _ _ h => h) rfl rfl hS1306 (fun W' hs' => aY (v := .agg (List.toArray cs_24_5)) rfl rfl) ?_
        refine aF (i := 8) rfl kR kR kR kR kR (fun _ _ _ h => h) rfl rfl hS1306 (fun W' hs' => aY (v := .agg #[.int .i64 ((twR a1 x2 x0).Kind), .int .i64 ((twR a1 x2 x0).N)]) rfl rfl) ?_
        refine aL (i := 11) kR ?_
        have H1310 : St w No [hB g_24_9 68 #[.int .i64 (0), .slice none 0 0, .slice none 0 0, .slice none 0 0, .slice none 0 0], hM aG (twV a1 x2 x0) cs_24_5, hB g_24_10 72 #[.int .i64 (0), .int .i64 (0)], hM aT x2 cs_24_4, hM aG x0 cs_24_1, hM aG (bM 1 (twV a1 x2 x0)) cs_7_4, hM aG (bM 1 x0) cs_6_1, hM aG x0 cs_10_2, hB g_7_9 72 #[.int .i64 ((twR a1 x2 x0).Kind), .int .i64 ((twR a1 x2 x0).N)], hB g_7_8 68 (List.toArray cs_7_4), hB g_6_2 68 (List.toArray cs_6_1), hB g_5_10 72 #[.int .i64 ((twR a1 x2 x0).Kind), .int .i64 ((twR a1 x2 x0).N)], hB g_5_9 68 (List.toArray cs_5_5), hM aG (twV a1 x2 x0) cs_5_5, hB g_0_1 92 (List.toArray cs2), hB g_0_0 55 (List.toArray cs0)] W1303 := H1305.pick [3, 0, 1, 2, 4, 5, 6, 7, 8, 9, 10, 11, 12, 13, 14, 15] kD rfl; clear H1305
        refine aR rfl Tryz.sizeOf68 rfl rfl (bE (H1310.kn 1 rfl)) rfl (bP (H1310.kn 1 rfl)) H1310 ?_
        intro W1307 hu1308 Ha1309; clear H1310; clear hu1308
        have hS1312 := And.intro (Ha1309.blk 15 rfl) (Ha1309.blk 14 rfl); refine ⟨fun _ => hS1312, ?_⟩
        refine aL (i := 12) kR ?_
        have H1316 : St w No [hB g_24_10 72 #[.int .i64 (0), .int .i64 (0)], hB g_24_9 68 (List.toArray cs_24_5), hM aG (twV a1 x2 x0) cs_24_5, hM aT x2 cs_24_4, hM aG x0 cs_24_1, hM aG (bM 1 (twV a1 x2 x0)) cs_7_4, hM aG (bM 1 x0) cs_6_1, hM aG x0 cs_10_2, hB g_7_9 72 #[.int .i64 ((twR a1 x2 x0).Kind), .int .i64 ((twR a1 x2 x0).N)], hB g_7_8 68 (List.toArray cs_7_4), hB g_6_2 68 (List.toArray cs_6_1), hB g_5_10 72 #[.int .i64 ((twR a1 x2 x0).Kind), .int .i64 ((twR a1 x2 x0).N)], hB g_5_9 68 (List.toArray cs_5_5), hM aG (twV a1 x2 x0) cs_5_5, hB g_0_1 92 (List.toArray cs2), hB g_0_0 55 (List.toArray cs0)] W1307 := Ha1309.pick [2, 0, 1, 3, 4, 5, 6, 7, 8, 9, 10, 11, 12, 13, 14, 15] kD rfl; clear Ha1309
        refine aR rfl Tryz.sizeOf72 rfl rfl rfl rfl kS H1316 ?_
        intro W1313 hu1314 Ha1315; clear H1316; clear hu1314
        have hS1318 := And.intro (Ha1315.blk 15 rfl) (Ha1315.blk 14 rfl); refine ⟨fun _ => hS1318, ?_⟩
        refine bD kR ?_ _
        exact (aZ [(8, .pointer (some ⟨g_5_9, 0, none⟩)), (9, .pointer (some ⟨g_5_10, 0, none⟩)), (11, .pointer (some ⟨g_7_8, 0, none⟩)), (14, .int .i64 ((1 + bL (twV a1 x2 x0)))), (16, .pointer (some ⟨g_24_9, 0, none⟩)), (17, .pointer (some ⟨g_24_10, 0, none⟩))] rfl).elim fun x' hx => ⟨cs_24_5, g_24_9, g_24_10, x', hx, Ha1315.pick [0, 1, 2, 5, 9, 11, 12, 13] kD rfl⟩
       refine bA rfl Tryz.zeroValue72 rfl rfl Ha1261 ?_
       intro g_24_10 W1319 hu1320 Ha1321; clear Ha1261; clear hu1320
       have hS1323 := And.intro (Ha1321.blk 13 rfl) (Ha1321.blk 12 rfl); refine ⟨fun _ => hS1323, ?_⟩
       refine aL (i := 4) kR ?_
       refine aV rfl Tryz.call44 (vs := #[.agg (List.toArray cs2)]) rfl rfl rfl (fI x2 _ _ (fV Ha1321.1 hK2) (by simp [dO])) ?_
       rintro e1328 W1327 ⟨cs_24_4, rfl, hM1325, hu1326⟩; refine ⟨_, rfl, ?_⟩
       have H1331 := Ha1321.new (q := hM aT x2 cs_24_4) hu1326 hM1325; clear Ha1321
       have hS1332 := And.intro (H1331.blk 14 rfl) (H1331.blk 13 rfl); refine ⟨fun _ => hS1332, ?_⟩
       refine aL (i := 5) kR ?_
       refine aV rfl Tryz.call45 (vs := #[.agg (List.toArray cs_24_1), .int .i64 (a1), .agg (List.toArray cs_24_4)]) rfl rfl rfl (fF x0 a1 x2 _ _ _ (H1331.kn 3 rfl) (Nat.le_trans hs_x0 kD) (H1331.kn 0 rfl)) ?_
       rintro e1336 W1335 ⟨cs_24_5, rfl, hM1333, hu1334⟩; refine ⟨_, rfl, ?_⟩
       have H1337 := H1331.new (q := hM aG (twV a1 x2 x0) cs_24_5) hu1334 hM1333; clear H1331
       have hS1338 := And.intro (H1337.blk 15 rfl) (H1337.blk 14 rfl); refine ⟨fun _ => hS1338, ?_⟩
       refine aF (i := 6) rfl kR kR kR kR kR (fun _ _ _ h => h) rfl rfl hS1338 (fun W' hs' => aK rfl) ?_
       refine aF (i := 7) rfl kR kR kR kR kR (fun _ _ _ h => h) rfl rfl hS1338 (fun W' hs' => aY (v := .agg (List.toArray cs_24_5)) rfl rfl) ?_
       refine aF (i := 8) rfl kR kR kR kR kR (fun _ _ _ h => h) rfl rfl hS1338 (fun W' hs' => aY (v := .agg #[.int .i64 ((twR a1 x2 x0).Kind), .int .i64 ((twR a1 x2 x0).N)]) rfl rfl) ?_
       refine aL (i := 11) kR ?_
       have H1342 : St w No [hB g_24_9 68 #[.int .i64 (0), .slice none 0 0, .slice none 0 0, .slice none 0 0, .slice none 0 0], hM aG (twV a1 x2 x0) cs_24_5, hM aT x2 cs_24_4, hB g_24_10 72 #[.int .i64 (0), .int .i64 (0)], hM aG x0 cs_24_1, hM aG (bM 1 (twV a1 x2 x0)) cs_7_4, hM aG (bM 1 x0) cs_6_1, hM aG x0 cs_10_2, hB g_7_9 72 #[.int .i64 ((twR a1 x2 x0).Kind), .int .i64 ((twR a1 x2 x0).N)], hB g_7_8 68 (List.toArray cs_7_4), hB g_6_2 68 (List.toArray cs_6_1), hB g_5_10 72 #[.int .i64 ((twR a1 x2 x0).Kind), .int .i64 ((twR a1 x2 x0).N)], hB g_5_9 68 (List.toArray cs_5_5), hM aG (twV a1 x2 x0) cs_5_5, hB g_0_1 92 (List.toArray cs2), hB g_0_0 55 (List.toArray cs0)] W1335 := H1337.pick [3, 0, 1, 2, 4, 5, 6, 7, 8, 9, 10, 11, 12, 13, 14, 15] kD rfl; clear H1337
       refine aR rfl Tryz.sizeOf68 rfl rfl (bE (H1342.kn 1 rfl)) rfl (bP (H1342.kn 1 rfl)) H1342 ?_
       intro W1339 hu1340 Ha1341; clear H1342; clear hu1340
       have hS1344 := And.intro (Ha1341.blk 15 rfl) (Ha1341.blk 14 rfl); refine ⟨fun _ => hS1344, ?_⟩
       refine aL (i := 12) kR ?_
       have H1348 : St w No [hB g_24_10 72 #[.int .i64 (0), .int .i64 (0)], hB g_24_9 68 (List.toArray cs_24_5), hM aG (twV a1 x2 x0) cs_24_5, hM aT x2 cs_24_4, hM aG x0 cs_24_1, hM aG (bM 1 (twV a1 x2 x0)) cs_7_4, hM aG (bM 1 x0) cs_6_1, hM aG x0 cs_10_2, hB g_7_9 72 #[.int .i64 ((twR a1 x2 x0).Kind), .int .i64 ((twR a1 x2 x0).N)], hB g_7_8 68 (List.toArray cs_7_4), hB g_6_2 68 (List.toArray cs_6_1), hB g_5_10 72 #[.int .i64 ((twR a1 x2 x0).Kind), .int .i64 ((twR a1 x2 x0).N)], hB g_5_9 68 (List.toArray cs_5_5), hM aG (twV a1 x2 x0) cs_5_5, hB g_0_1 92 (List.toArray cs2), hB g_0_0 55 (List.toArray cs0)] W1339 := Ha1341.pick [3, 0, 1, 2, 4, 5, 6, 7, 8, 9, 10, 11, 12, 13, 14, 15] kD rfl; clear Ha1341
       refine aR rfl Tryz.sizeOf72 rfl rfl rfl rfl kS H1348 ?_
       intro W1345 hu1346 Ha1347; clear H1348; clear hu1346
       have hS1350 := And.intro (Ha1347.blk 15 rfl) (Ha1347.blk 14 rfl); refine ⟨fun _ => hS1350, ?_⟩
       refine bD kR ?_ _
       exact (aZ [(8, .pointer (some ⟨g_5_9, 0, none⟩)), (9, .pointer (some ⟨g_5_10, 0, none⟩)), (11, .pointer (some ⟨g_7_8, 0, none⟩)), (14, .int .i64 ((1 + bL (twV a1 x2 x0)))), (16, .pointer (some ⟨g_24_9, 0, none⟩)), (17, .pointer (some ⟨g_24_10, 0, none⟩))] rfl).elim fun x' hx => ⟨cs_24_5, g_24_9, g_24_10, x', hx, Ha1347.pick [0, 1, 2, 5, 9, 11, 12, 13] kD rfl⟩
      refine bA rfl Tryz.zeroValue72 rfl rfl H1098 ?_
      intro g_24_10 W1351 hu1352 Ha1353; clear H1098; clear hu1352
      have hS1355 := And.intro (Ha1353.blk 12 rfl) (Ha1353.blk 11 rfl); refine ⟨fun _ => hS1355, ?_⟩
      refine dY (i := 4) (i2 := 9) kR ?_ ?_
      ·refine aV rfl Tryz.call44 (vs := #[.agg (List.toArray cs2)]) rfl rfl rfl (fI x2 _ _ (fV Ha1353.1 hK2) (by simp [dO])) ?_
       rintro e1360 W1359 ⟨cs_24_4, rfl, hM1357, hu1358⟩; refine ⟨_, rfl, ?_⟩
       have H1363 := Ha1353.new (q := hM aT x2 cs_24_4) hu1358 hM1357; clear Ha1353
       have hS1364 := And.intro (H1363.blk 13 rfl) (H1363.blk 12 rfl); refine ⟨fun _ => hS1364, ?_⟩
       refine dY (i := 5) (i2 := 9) kR ?_ ?_
       ·refine aV rfl Tryz.call45 (vs := #[.agg (List.toArray cs_24_1), .int .i64 (a1), .agg (List.toArray cs_24_4)]) rfl rfl rfl (fF x0 a1 x2 _ _ _ (H1363.kn 2 rfl) (Nat.le_trans hs_x0 kD) (H1363.kn 0 rfl)) ?_
        rintro e1368 W1367 ⟨cs_24_5, rfl, hM1365, hu1366⟩; refine ⟨_, rfl, ?_⟩
        have H1369 := H1363.new (q := hM aG (twV a1 x2 x0) cs_24_5) hu1366 hM1365; clear H1363
        have hS1370 := And.intro (H1369.blk 14 rfl) (H1369.blk 13 rfl); refine ⟨fun _ => hS1370, ?_⟩
        refine aF (i := 6) rfl kR kR kR kR kR (fun _ _ _ h => h) rfl rfl hS1370 (fun W' hs' => aK rfl) ?_
        refine aF (i := 7) rfl kR kR kR kR kR (fun _ _ _ h => h) rfl rfl hS1370 (fun W' hs' => aY (v := .agg (List.toArray cs_24_5)) rfl rfl) ?_
        refine aF (i := 8) rfl kR kR kR kR kR (fun _ _ _ h => h) rfl rfl hS1370 (fun W' hs' => aY (v := .agg #[.int .i64 ((twR a1 x2 x0).Kind), .int .i64 ((twR a1 x2 x0).N)]) rfl rfl) ?_
        refine aL (i := 9) kR ?_
        refine bA rfl Tryz.zeroValue68 rfl rfl H1369 ?_
        intro g_24_9 W1371 hu1372 Ha1373; clear H1369; clear hu1372
        have hS1375 := And.intro (Ha1373.blk 15 rfl) (Ha1373.blk 14 rfl); refine ⟨fun _ => hS1375, ?_⟩
        refine aL (i := 11) kR ?_
        refine aR rfl Tryz.sizeOf68 rfl rfl (bE (Ha1373.kn 1 rfl)) rfl (bP (Ha1373.kn 1 rfl)) Ha1373 ?_
        intro W1376 hu1377 Ha1378; clear Ha1373; clear hu1377
        have hS1380 := And.intro (Ha1378.blk 15 rfl) (Ha1378.blk 14 rfl); refine ⟨fun _ => hS1380, ?_⟩
        refine aL (i := 12) kR ?_
        have H1384 : St w No [hB g_24_10 72 #[.int .i64 (0), .int .i64 (0)], hB g_24_9 68 (List.toArray cs_24_5), hM aG (twV a1 x2 x0) cs_24_5, hM aT x2 cs_24_4, hM aG x0 cs_24_1, hM aG (bM 1 (twV a1 x2 x0)) cs_7_4, hM aG (bM 1 x0) cs_6_1, hM aG x0 cs_10_2, hB g_7_9 72 #[.int .i64 ((twR a1 x2 x0).Kind), .int .i64 ((twR a1 x2 x0).N)], hB g_7_8 68 (List.toArray cs_7_4), hB g_6_2 68 (List.toArray cs_6_1), hB g_5_10 72 #[.int .i64 ((twR a1 x2 x0).Kind), .int .i64 ((twR a1 x2 x0).N)], hB g_5_9 68 (List.toArray cs_5_5), hM aG (twV a1 x2 x0) cs_5_5, hB g_0_1 92 (List.toArray cs2), hB g_0_0 55 (List.toArray cs0)] W1376 := Ha1378.pick [3, 0, 1, 2, 4, 5, 6, 7, 8, 9, 10, 11, 12, 13, 14, 15] kD rfl; clear Ha1378
        refine aR rfl Tryz.sizeOf72 rfl rfl rfl rfl kS H1384 ?_
        intro W1381 hu1382 Ha1383; clear H1384; clear hu1382
        have hS1386 := And.intro (Ha1383.blk 15 rfl) (Ha1383.blk 14 rfl); refine ⟨fun _ => hS1386, ?_⟩
        refine bD kR ?_ _
        exact (aZ [(8, .pointer (some ⟨g_5_9, 0, none⟩)), (9, .pointer (some ⟨g_5_10, 0, none⟩)), (11, .pointer (some ⟨g_7_8, 0, none⟩)), (14, .int .i64 ((1 + bL (twV a1 x2 x0)))), (16, .pointer (some ⟨g_24_9, 0, none⟩)), (17, .pointer (some ⟨g_24_10, 0, none⟩))] rfl).elim fun x' hx => ⟨cs_24_5, g_24_9, g_24_10, x', hx, Ha1383.pick [0, 1, 2, 5, 9, 11, 12, 13] kD rfl⟩
       refine bA rfl Tryz.zeroValue68 rfl rfl H1363 ?_
       intro g_24_9 W1387 hu1388 Ha1389; clear H1363; clear hu1388
       have hS1391 := And.intro (Ha1389.blk 14 rfl) (Ha1389.blk 13 rfl); refine ⟨fun _ => hS1391, ?_⟩
       refine aL (i := 5) kR ?_
       refine aV rfl Tryz.call45 (vs := #[.agg (List.toArray cs_24_1), .int .i64 (a1), .agg (List.toArray cs_24_4)]) rfl rfl rfl (fF x0 a1 x2 _ _ _ (Ha1389.kn 3 rfl) (Nat.le_trans hs_x0 kD) (Ha1389.kn 1 rfl)) ?_
       rintro e1395 W1394 ⟨cs_24_5, rfl, hM1392, hu1393⟩; refine ⟨_, rfl, ?_⟩
       have H1396 := Ha1389.new (q := hM aG (twV a1 x2 x0) cs_24_5) hu1393 hM1392; clear Ha1389
       have hS1397 := And.intro (H1396.blk 15 rfl) (H1396.blk 14 rfl); refine ⟨fun _ => hS1397, ?_⟩
       refine aF (i := 6) rfl kR kR kR kR kR (fun _ _ _ h => h) rfl rfl hS1397 (fun W' hs' => aK rfl) ?_
       refine aF (i := 7) rfl kR kR kR kR kR (fun _ _ _ h => h) rfl rfl hS1397 (fun W' hs' => aY (v := .agg (List.toArray cs_24_5)) rfl rfl) ?_
       refine aF (i := 8) rfl kR kR kR kR kR (fun _ _ _ h => h) rfl rfl hS1397 (fun W' hs' => aY (v := .agg #[.int .i64 ((twR a1 x2 x0).Kind), .int .i64 ((twR a1 x2 x0).N)]) rfl rfl) ?_
       refine aL (i := 11) kR ?_
       have H1401 : St w No [hB g_24_9 68 #[.int .i64 (0), .slice none 0 0, .slice none 0 0, .slice none 0 0, .slice none 0 0], hM aG (twV a1 x2 x0) cs_24_5, hM aT x2 cs_24_4, hB g_24_10 72 #[.int .i64 (0), .int .i64 (0)], hM aG x0 cs_24_1, hM aG (bM 1 (twV a1 x2 x0)) cs_7_4, hM aG (bM 1 x0) cs_6_1, hM aG x0 cs_10_2, hB g_7_9 72 #[.int .i64 ((twR a1 x2 x0).Kind), .int .i64 ((twR a1 x2 x0).N)], hB g_7_8 68 (List.toArray cs_7_4), hB g_6_2 68 (List.toArray cs_6_1), hB g_5_10 72 #[.int .i64 ((twR a1 x2 x0).Kind), .int .i64 ((twR a1 x2 x0).N)], hB g_5_9 68 (List.toArray cs_5_5), hM aG (twV a1 x2 x0) cs_5_5, hB g_0_1 92 (List.toArray cs2), hB g_0_0 55 (List.toArray cs0)] W1394 := H1396.pick [1, 0, 2, 3, 4, 5, 6, 7, 8, 9, 10, 11, 12, 13, 14, 15] kD rfl; clear H1396
       refine aR rfl Tryz.sizeOf68 rfl rfl (bE (H1401.kn 1 rfl)) rfl (bP (H1401.kn 1 rfl)) H1401 ?_
       intro W1398 hu1399 Ha1400; clear H1401; clear hu1399
       have hS1403 := And.intro (Ha1400.blk 15 rfl) (Ha1400.blk 14 rfl); refine ⟨fun _ => hS1403, ?_⟩
       refine aL (i := 12) kR ?_
       have H1407 : St w No [hB g_24_10 72 #[.int .i64 (0), .int .i64 (0)], hB g_24_9 68 (List.toArray cs_24_5), hM aG (twV a1 x2 x0) cs_24_5, hM aT x2 cs_24_4, hM aG x0 cs_24_1, hM aG (bM 1 (twV a1 x2 x0)) cs_7_4, hM aG (bM 1 x0) cs_6_1, hM aG x0 cs_10_2, hB g_7_9 72 #[.int .i64 ((twR a1 x2 x0).Kind), .int .i64 ((twR a1 x2 x0).N)], hB g_7_8 68 (List.toArray cs_7_4), hB g_6_2 68 (List.toArray cs_6_1), hB g_5_10 72 #[.int .i64 ((twR a1 x2 x0).Kind), .int .i64 ((twR a1 x2 x0).N)], hB g_5_9 68 (List.toArray cs_5_5), hM aG (twV a1 x2 x0) cs_5_5, hB g_0_1 92 (List.toArray cs2), hB g_0_0 55 (List.toArray cs0)] W1398 := Ha1400.pick [3, 0, 1, 2, 4, 5, 6, 7, 8, 9, 10, 11, 12, 13, 14, 15] kD rfl; clear Ha1400
       refine aR rfl Tryz.sizeOf72 rfl rfl rfl rfl kS H1407 ?_
       intro W1404 hu1405 Ha1406; clear H1407; clear hu1405
       have hS1409 := And.intro (Ha1406.blk 15 rfl) (Ha1406.blk 14 rfl); refine ⟨fun _ => hS1409, ?_⟩
       refine bD kR ?_ _
       exact (aZ [(8, .pointer (some ⟨g_5_9, 0, none⟩)), (9, .pointer (some ⟨g_5_10, 0, none⟩)), (11, .pointer (some ⟨g_7_8, 0, none⟩)), (14, .int .i64 ((1 + bL (twV a1 x2 x0)))), (16, .pointer (some ⟨g_24_9, 0, none⟩)), (17, .pointer (some ⟨g_24_10, 0, none⟩))] rfl).elim fun x' hx => ⟨cs_24_5, g_24_9, g_24_10, x', hx, Ha1406.pick [0, 1, 2, 5, 9, 11, 12, 13] kD rfl⟩
      refine bA rfl Tryz.zeroValue68 rfl rfl Ha1353 ?_
      intro g_24_9 W1410 hu1411 Ha1412; clear Ha1353; clear hu1411
      have hS1414 := And.intro (Ha1412.blk 13 rfl) (Ha1412.blk 12 rfl); refine ⟨fun _ => hS1414, ?_⟩
      refine aL (i := 4) kR ?_
      refine aV rfl Tryz.call44 (vs := #[.agg (List.toArray cs2)]) rfl rfl rfl (fI x2 _ _ (fV Ha1412.1 hK2) (by simp [dO])) ?_
      rintro e1419 W1418 ⟨cs_24_4, rfl, hM1416, hu1417⟩; refine ⟨_, rfl, ?_⟩
      have H1422 := Ha1412.new (q := hM aT x2 cs_24_4) hu1417 hM1416; clear Ha1412
      have hS1423 := And.intro (H1422.blk 14 rfl) (H1422.blk 13 rfl); refine ⟨fun _ => hS1423, ?_⟩
      refine aL (i := 5) kR ?_
      refine aV rfl Tryz.call45 (vs := #[.agg (List.toArray cs_24_1), .int .i64 (a1), .agg (List.toArray cs_24_4)]) rfl rfl rfl (fF x0 a1 x2 _ _ _ (H1422.kn 3 rfl) (Nat.le_trans hs_x0 kD) (H1422.kn 0 rfl)) ?_
      rintro e1427 W1426 ⟨cs_24_5, rfl, hM1424, hu1425⟩; refine ⟨_, rfl, ?_⟩
      have H1428 := H1422.new (q := hM aG (twV a1 x2 x0) cs_24_5) hu1425 hM1424; clear H1422
      have hS1429 := And.intro (H1428.blk 15 rfl) (H1428.blk 14 rfl); refine ⟨fun _ => hS1429, ?_⟩
      refine aF (i := 6) rfl kR kR kR kR kR (fun _ _ _ h => h) rfl rfl hS1429 (fun W' hs' => aK rfl) ?_
      refine aF (i := 7) rfl kR kR kR kR kR (fun _ _ _ h => h) rfl rfl hS1429 (fun W' hs' => aY (v := .agg (List.toArray cs_24_5)) rfl rfl) ?_
      refine aF (i := 8) rfl kR kR kR kR kR (fun _ _ _ h => h) rfl rfl hS1429 (fun W' hs' => aY (v := .agg #[.int .i64 ((twR a1 x2 x0).Kind), .int .i64 ((twR a1 x2 x0).N)]) rfl rfl) ?_
      refine aL (i := 11) kR ?_
      have H1433 : St w No [hB g_24_9 68 #[.int .i64 (0), .slice none 0 0, .slice none 0 0, .slice none 0 0, .slice none 0 0], hM aG (twV a1 x2 x0) cs_24_5, hM aT x2 cs_24_4, hB g_24_10 72 #[.int .i64 (0), .int .i64 (0)], hM aG x0 cs_24_1, hM aG (bM 1 (twV a1 x2 x0)) cs_7_4, hM aG (bM 1 x0) cs_6_1, hM aG x0 cs_10_2, hB g_7_9 72 #[.int .i64 ((twR a1 x2 x0).Kind), .int .i64 ((twR a1 x2 x0).N)], hB g_7_8 68 (List.toArray cs_7_4), hB g_6_2 68 (List.toArray cs_6_1), hB g_5_10 72 #[.int .i64 ((twR a1 x2 x0).Kind), .int .i64 ((twR a1 x2 x0).N)], hB g_5_9 68 (List.toArray cs_5_5), hM aG (twV a1 x2 x0) cs_5_5, hB g_0_1 92 (List.toArray cs2), hB g_0_0 55 (List.toArray cs0)] W1426 := H1428.pick [2, 0, 1, 3, 4, 5, 6, 7, 8, 9, 10, 11, 12, 13, 14, 15] kD rfl; clear H1428
      refine aR rfl Tryz.sizeOf68 rfl rfl (bE (H1433.kn 1 rfl)) rfl (bP (H1433.kn 1 rfl)) H1433 ?_
      intro W1430 hu1431 Ha1432; clear H1433; clear hu1431
      have hS1435 := And.intro (Ha1432.blk 15 rfl) (Ha1432.blk 14 rfl); refine ⟨fun _ => hS1435, ?_⟩
      refine aL (i := 12) kR ?_
      have H1439 : St w No [hB g_24_10 72 #[.int .i64 (0), .int .i64 (0)], hB g_24_9 68 (List.toArray cs_24_5), hM aG (twV a1 x2 x0) cs_24_5, hM aT x2 cs_24_4, hM aG x0 cs_24_1, hM aG (bM 1 (twV a1 x2 x0)) cs_7_4, hM aG (bM 1 x0) cs_6_1, hM aG x0 cs_10_2, hB g_7_9 72 #[.int .i64 ((twR a1 x2 x0).Kind), .int .i64 ((twR a1 x2 x0).N)], hB g_7_8 68 (List.toArray cs_7_4), hB g_6_2 68 (List.toArray cs_6_1), hB g_5_10 72 #[.int .i64 ((twR a1 x2 x0).Kind), .int .i64 ((twR a1 x2 x0).N)], hB g_5_9 68 (List.toArray cs_5_5), hM aG (twV a1 x2 x0) cs_5_5, hB g_0_1 92 (List.toArray cs2), hB g_0_0 55 (List.toArray cs0)] W1430 := Ha1432.pick [3, 0, 1, 2, 4, 5, 6, 7, 8, 9, 10, 11, 12, 13, 14, 15] kD rfl; clear Ha1432
      refine aR rfl Tryz.sizeOf72 rfl rfl rfl rfl kS H1439 ?_
      intro W1436 hu1437 Ha1438; clear H1439; clear hu1437
      have hS1441 := And.intro (Ha1438.blk 15 rfl) (Ha1438.blk 14 rfl); refine ⟨fun _ => hS1441, ?_⟩
      refine bD kR ?_ _
      exact (aZ [(8, .pointer (some ⟨g_5_9, 0, none⟩)), (9, .pointer (some ⟨g_5_10, 0, none⟩)), (11, .pointer (some ⟨g_7_8, 0, none⟩)), (14, .int .i64 ((1 + bL (twV a1 x2 x0)))), (16, .pointer (some ⟨g_24_9, 0, none⟩)), (17, .pointer (some ⟨g_24_10, 0, none⟩))] rfl).elim fun x' hx => ⟨cs_24_5, g_24_9, g_24_10, x', hx, Ha1438.pick [0, 1, 2, 5, 9, 11, 12, 13] kD rfl⟩
     ·refine bA rfl Tryz.zeroValue68 rfl rfl H1089 ?_
      intro g_24_9 W1442 hu1443 Ha1444; clear H1089; clear hu1443
      have hS1446 := And.intro (Ha1444.blk 11 rfl) (Ha1444.blk 10 rfl); refine ⟨fun _ => hS1446, ?_⟩
      refine dY (i := 1) (i2 := 10) kR ?_ ?_
      ·refine aV rfl Tryz.call27 (vs := #[.agg (List.toArray cs0)]) rfl rfl rfl (lH x0 _ _ (fV Ha1444.1 hK0) hs_x0) ?_
       rintro e1451 W1450 ⟨cs_24_1, rfl, hM1448, hu1449⟩; refine ⟨_, rfl, ?_⟩
       have H1454 := Ha1444.new (q := hM aG x0 cs_24_1) hu1449 hM1448; clear Ha1444
       have hS1455 := And.intro (H1454.blk 12 rfl) (H1454.blk 11 rfl); refine ⟨fun _ => hS1455, ?_⟩
       refine dY (i := 4) (i2 := 10) kR ?_ ?_
       ·refine aV rfl Tryz.call44 (vs := #[.agg (List.toArray cs2)]) rfl rfl rfl (fI x2 _ _ (fV H1454.1 hK2) (by simp [dO])) ?_
        rintro e1460 W1459 ⟨cs_24_4, rfl, hM1457, hu1458⟩; refine ⟨_, rfl, ?_⟩
        have H1463 := H1454.new (q := hM aT x2 cs_24_4) hu1458 hM1457; clear H1454
        have hS1464 := And.intro (H1463.blk 13 rfl) (H1463.blk 12 rfl); refine ⟨fun _ => hS1464, ?_⟩
        refine dY (i := 5) (i2 := 10) kR ?_ ?_
        ·refine aV rfl Tryz.call45 (vs := #[.agg (List.toArray cs_24_1), .int .i64 (a1), .agg (List.toArray cs_24_4)]) rfl rfl rfl (fF x0 a1 x2 _ _ _ (H1463.kn 1 rfl) (Nat.le_trans hs_x0 kD) (H1463.kn 0 rfl)) ?_
         rintro e1468 W1467 ⟨cs_24_5, rfl, hM1465, hu1466⟩; refine ⟨_, rfl, ?_⟩
         have H1469 := H1463.new (q := hM aG (twV a1 x2 x0) cs_24_5) hu1466 hM1465; clear H1463
         have hS1470 := And.intro (H1469.blk 14 rfl) (H1469.blk 13 rfl); refine ⟨fun _ => hS1470, ?_⟩
         refine aF (i := 6) rfl kR kR kR kR kR (fun _ _ _ h => h) rfl rfl hS1470 (fun W' hs' => aK rfl) ?_
         refine aF (i := 7) rfl kR kR kR kR kR (fun _ _ _ h => h) rfl rfl hS1470 (fun W' hs' => aY (v := .agg (List.toArray cs_24_5)) rfl rfl) ?_
         refine aF (i := 8) rfl kR kR kR kR kR (fun _ _ _ h => h) rfl rfl hS1470 (fun W' hs' => aY (v := .agg #[.int .i64 ((twR a1 x2 x0).Kind), .int .i64 ((twR a1 x2 x0).N)]) rfl rfl) ?_
         refine aL (i := 10) kR ?_
         refine bA rfl Tryz.zeroValue72 rfl rfl H1469 ?_
         intro g_24_10 W1471 hu1472 Ha1473; clear H1469; clear hu1472
         have hS1475 := And.intro (Ha1473.blk 15 rfl) (Ha1473.blk 14 rfl); refine ⟨fun _ => hS1475, ?_⟩
         refine aL (i := 11) kR ?_
         have H1479 : St w No [hB g_24_9 68 #[.int .i64 (0), .slice none 0 0, .slice none 0 0, .slice none 0 0, .slice none 0 0], hB g_24_10 72 #[.int .i64 (0), .int .i64 (0)], hM aG (twV a1 x2 x0) cs_24_5, hM aT x2 cs_24_4, hM aG x0 cs_24_1, hM aG (bM 1 (twV a1 x2 x0)) cs_7_4, hM aG (bM 1 x0) cs_6_1, hM aG x0 cs_10_2, hB g_7_9 72 #[.int .i64 ((twR a1 x2 x0).Kind), .int .i64 ((twR a1 x2 x0).N)], hB g_7_8 68 (List.toArray cs_7_4), hB g_6_2 68 (List.toArray cs_6_1), hB g_5_10 72 #[.int .i64 ((twR a1 x2 x0).Kind), .int .i64 ((twR a1 x2 x0).N)], hB g_5_9 68 (List.toArray cs_5_5), hM aG (twV a1 x2 x0) cs_5_5, hB g_0_1 92 (List.toArray cs2), hB g_0_0 55 (List.toArray cs0)] W1471 := Ha1473.pick [4, 0, 1, 2, 3, 5, 6, 7, 8, 9, 10, 11, 12, 13, 14, 15] kD rfl; clear Ha1473
         refine aR rfl Tryz.sizeOf68 rfl rfl (bE (H1479.kn 2 rfl)) rfl (bP (H1479.kn 2 rfl)) H1479 ?_
         intro W1476 hu1477 Ha1478; clear H1479; clear hu1477
         have hS1481 := And.intro (Ha1478.blk 15 rfl) (Ha1478.blk 14 rfl); refine ⟨fun _ => hS1481, ?_⟩
         refine aL (i := 12) kR ?_
         have H1485 : St w No [hB g_24_10 72 #[.int .i64 (0), .int .i64 (0)], hB g_24_9 68 (List.toArray cs_24_5), hM aG (twV a1 x2 x0) cs_24_5, hM aT x2 cs_24_4, hM aG x0 cs_24_1, hM aG (bM 1 (twV a1 x2 x0)) cs_7_4, hM aG (bM 1 x0) cs_6_1, hM aG x0 cs_10_2, hB g_7_9 72 #[.int .i64 ((twR a1 x2 x0).Kind), .int .i64 ((twR a1 x2 x0).N)], hB g_7_8 68 (List.toArray cs_7_4), hB g_6_2 68 (List.toArray cs_6_1), hB g_5_10 72 #[.int .i64 ((twR a1 x2 x0).Kind), .int .i64 ((twR a1 x2 x0).N)], hB g_5_9 68 (List.toArray cs_5_5), hM aG (twV a1 x2 x0) cs_5_5, hB g_0_1 92 (List.toArray cs2), hB g_0_0 55 (List.toArray cs0)] W1476 := Ha1478.pick [1, 0, 2, 3, 4, 5, 6, 7, 8, 9, 10, 11, 12, 13, 14, 15] kD rfl; clear Ha1478
         refine aR rfl Tryz.sizeOf72 rfl rfl rfl rfl kS H1485 ?_
         intro W1482 hu1483 Ha1484; clear H1485; clear hu1483
         have hS1487 := And.intro (Ha1484.blk 15 rfl) (Ha1484.blk 14 rfl); refine ⟨fun _ => hS1487, ?_⟩
         refine bD kR ?_ _
         exact (aZ [(8, .pointer (some ⟨g_5_9, 0, none⟩)), (9, .pointer (some ⟨g_5_10, 0, none⟩)), (11, .pointer (some ⟨g_7_8, 0, none⟩)), (14, .int .i64 ((1 + bL (twV a1 x2 x0)))), (16, .pointer (some ⟨g_24_9, 0, none⟩)), (17, .pointer (some ⟨g_24_10, 0, none⟩))] rfl).elim fun x' hx => ⟨cs_24_5, g_24_9, g_24_10, x', hx, Ha1484.pick [0, 1, 2, 5, 9, 11, 12, 13] kD rfl⟩
        refine bA rfl Tryz.zeroValue72 rfl rfl H1463 ?_
        intro g_24_10 W1488 hu1489 Ha1490; clear H1463; clear hu1489
        have hS1492 := And.intro (Ha1490.blk 14 rfl) (Ha1490.blk 13 rfl); refine ⟨fun _ => hS1492, ?_⟩
        refine aL (i := 5) kR ?_
        refine aV rfl Tryz.call45 (vs := #[.agg (List.toArray cs_24_1), .int .i64 (a1), .agg (List.toArray cs_24_4)]) rfl rfl rfl (fF x0 a1 x2 _ _ _ (Ha1490.kn 2 rfl) (Nat.le_trans hs_x0 kD) (Ha1490.kn 1 rfl)) ?_
        rintro e1496 W1495 ⟨cs_24_5, rfl, hM1493, hu1494⟩; refine ⟨_, rfl, ?_⟩
        have H1497 := Ha1490.new (q := hM aG (twV a1 x2 x0) cs_24_5) hu1494 hM1493; clear Ha1490
        have hS1498 := And.intro (H1497.blk 15 rfl) (H1497.blk 14 rfl); refine ⟨fun _ => hS1498, ?_⟩
        refine aF (i := 6) rfl kR kR kR kR kR (fun _ _ _ h => h) rfl rfl hS1498 (fun W' hs' => aK rfl) ?_
        refine aF (i := 7) rfl kR kR kR kR kR (fun _ _ _ h => h) rfl rfl hS1498 (fun W' hs' => aY (v := .agg (List.toArray cs_24_5)) rfl rfl) ?_
        refine aF (i := 8) rfl kR kR kR kR kR (fun _ _ _ h => h) rfl rfl hS1498 (fun W' hs' => aY (v := .agg #[.int .i64 ((twR a1 x2 x0).Kind), .int .i64 ((twR a1 x2 x0).N)]) rfl rfl) ?_
        refine aL (i := 11) kR ?_
        have H1502 : St w No [hB g_24_9 68 #[.int .i64 (0), .slice none 0 0, .slice none 0 0, .slice none 0 0, .slice none 0 0], hM aG (twV a1 x2 x0) cs_24_5, hB g_24_10 72 #[.int .i64 (0), .int .i64 (0)], hM aT x2 cs_24_4, hM aG x0 cs_24_1, hM aG (bM 1 (twV a1 x2 x0)) cs_7_4, hM aG (bM 1 x0) cs_6_1, hM aG x0 cs_10_2, hB g_7_9 72 #[.int .i64 ((twR a1 x2 x0).Kind), .int .i64 ((twR a1 x2 x0).N)], hB g_7_8 68 (List.toArray cs_7_4), hB g_6_2 68 (List.toArray cs_6_1), hB g_5_10 72 #[.int .i64 ((twR a1 x2 x0).Kind), .int .i64 ((twR a1 x2 x0).N)], hB g_5_9 68 (List.toArray cs_5_5), hM aG (twV a1 x2 x0) cs_5_5, hB g_0_1 92 (List.toArray cs2), hB g_0_0 55 (List.toArray cs0)] W1495 := H1497.pick [4, 0, 1, 2, 3, 5, 6, 7, 8, 9, 10, 11, 12, 13, 14, 15] kD rfl; clear H1497
        refine aR rfl Tryz.sizeOf68 rfl rfl (bE (H1502.kn 1 rfl)) rfl (bP (H1502.kn 1 rfl)) H1502 ?_
        intro W1499 hu1500 Ha1501; clear H1502; clear hu1500
        have hS1504 := And.intro (Ha1501.blk 15 rfl) (Ha1501.blk 14 rfl); refine ⟨fun _ => hS1504, ?_⟩
        refine aL (i := 12) kR ?_
        have H1508 : St w No [hB g_24_10 72 #[.int .i64 (0), .int .i64 (0)], hB g_24_9 68 (List.toArray cs_24_5), hM aG (twV a1 x2 x0) cs_24_5, hM aT x2 cs_24_4, hM aG x0 cs_24_1, hM aG (bM 1 (twV a1 x2 x0)) cs_7_4, hM aG (bM 1 x0) cs_6_1, hM aG x0 cs_10_2, hB g_7_9 72 #[.int .i64 ((twR a1 x2 x0).Kind), .int .i64 ((twR a1 x2 x0).N)], hB g_7_8 68 (List.toArray cs_7_4), hB g_6_2 68 (List.toArray cs_6_1), hB g_5_10 72 #[.int .i64 ((twR a1 x2 x0).Kind), .int .i64 ((twR a1 x2 x0).N)], hB g_5_9 68 (List.toArray cs_5_5), hM aG (twV a1 x2 x0) cs_5_5, hB g_0_1 92 (List.toArray cs2), hB g_0_0 55 (List.toArray cs0)] W1499 := Ha1501.pick [2, 0, 1, 3, 4, 5, 6, 7, 8, 9, 10, 11, 12, 13, 14, 15] kD rfl; clear Ha1501
        refine aR rfl Tryz.sizeOf72 rfl rfl rfl rfl kS H1508 ?_
        intro W1505 hu1506 Ha1507; clear H1508; clear hu1506
        have hS1510 := And.intro (Ha1507.blk 15 rfl) (Ha1507.blk 14 rfl); refine ⟨fun _ => hS1510, ?_⟩
        refine bD kR ?_ _
        exact (aZ [(8, .pointer (some ⟨g_5_9, 0, none⟩)), (9, .pointer (some ⟨g_5_10, 0, none⟩)), (11, .pointer (some ⟨g_7_8, 0, none⟩)), (14, .int .i64 ((1 + bL (twV a1 x2 x0)))), (16, .pointer (some ⟨g_24_9, 0, none⟩)), (17, .pointer (some ⟨g_24_10, 0, none⟩))] rfl).elim fun x' hx => ⟨cs_24_5, g_24_9, g_24_10, x', hx, Ha1507.pick [0, 1, 2, 5, 9, 11, 12, 13] kD rfl⟩
       refine bA rfl Tryz.zeroValue72 rfl rfl H1454 ?_
       intro g_24_10 W1511 hu1512 Ha1513; clear H1454; clear hu1512
       have hS1515 := And.intro (Ha1513.blk 13 rfl) (Ha1513.blk 12 rfl); refine ⟨fun _ => hS1515, ?_⟩
       refine aL (i := 4) kR ?_
       refine aV rfl Tryz.call44 (vs := #[.agg (List.toArray cs2)]) rfl rfl rfl (fI x2 _ _ (fV Ha1513.1 hK2) (by simp [dO])) ?_
       rintro e1520 W1519 ⟨cs_24_4, rfl, hM1517, hu1518⟩; refine ⟨_, rfl, ?_⟩
       have H1523 := Ha1513.new (q := hM aT x2 cs_24_4) hu1518 hM1517; clear Ha1513
       have hS1524 := And.intro (H1523.blk 14 rfl) (H1523.blk 13 rfl); refine ⟨fun _ => hS1524, ?_⟩
       refine aL (i := 5) kR ?_
       refine aV rfl Tryz.call45 (vs := #[.agg (List.toArray cs_24_1), .int .i64 (a1), .agg (List.toArray cs_24_4)]) rfl rfl rfl (fF x0 a1 x2 _ _ _ (H1523.kn 2 rfl) (Nat.le_trans hs_x0 kD) (H1523.kn 0 rfl)) ?_
       rintro e1528 W1527 ⟨cs_24_5, rfl, hM1525, hu1526⟩; refine ⟨_, rfl, ?_⟩
       have H1529 := H1523.new (q := hM aG (twV a1 x2 x0) cs_24_5) hu1526 hM1525; clear H1523
       have hS1530 := And.intro (H1529.blk 15 rfl) (H1529.blk 14 rfl); refine ⟨fun _ => hS1530, ?_⟩
       refine aF (i := 6) rfl kR kR kR kR kR (fun _ _ _ h => h) rfl rfl hS1530 (fun W' hs' => aK rfl) ?_
       refine aF (i := 7) rfl kR kR kR kR kR (fun _ _ _ h => h) rfl rfl hS1530 (fun W' hs' => aY (v := .agg (List.toArray cs_24_5)) rfl rfl) ?_
       refine aF (i := 8) rfl kR kR kR kR kR (fun _ _ _ h => h) rfl rfl hS1530 (fun W' hs' => aY (v := .agg #[.int .i64 ((twR a1 x2 x0).Kind), .int .i64 ((twR a1 x2 x0).N)]) rfl rfl) ?_
       refine aL (i := 11) kR ?_
       have H1534 : St w No [hB g_24_9 68 #[.int .i64 (0), .slice none 0 0, .slice none 0 0, .slice none 0 0, .slice none 0 0], hM aG (twV a1 x2 x0) cs_24_5, hM aT x2 cs_24_4, hB g_24_10 72 #[.int .i64 (0), .int .i64 (0)], hM aG x0 cs_24_1, hM aG (bM 1 (twV a1 x2 x0)) cs_7_4, hM aG (bM 1 x0) cs_6_1, hM aG x0 cs_10_2, hB g_7_9 72 #[.int .i64 ((twR a1 x2 x0).Kind), .int .i64 ((twR a1 x2 x0).N)], hB g_7_8 68 (List.toArray cs_7_4), hB g_6_2 68 (List.toArray cs_6_1), hB g_5_10 72 #[.int .i64 ((twR a1 x2 x0).Kind), .int .i64 ((twR a1 x2 x0).N)], hB g_5_9 68 (List.toArray cs_5_5), hM aG (twV a1 x2 x0) cs_5_5, hB g_0_1 92 (List.toArray cs2), hB g_0_0 55 (List.toArray cs0)] W1527 := H1529.pick [4, 0, 1, 2, 3, 5, 6, 7, 8, 9, 10, 11, 12, 13, 14, 15] kD rfl; clear H1529
       refine aR rfl Tryz.sizeOf68 rfl rfl (bE (H1534.kn 1 rfl)) rfl (bP (H1534.kn 1 rfl)) H1534 ?_
       intro W1531 hu1532 Ha1533; clear H1534; clear hu1532
       have hS1536 := And.intro (Ha1533.blk 15 rfl) (Ha1533.blk 14 rfl); refine ⟨fun _ => hS1536, ?_⟩
       refine aL (i := 12) kR ?_
       have H1540 : St w No [hB g_24_10 72 #[.int .i64 (0), .int .i64 (0)], hB g_24_9 68 (List.toArray cs_24_5), hM aG (twV a1 x2 x0) cs_24_5, hM aT x2 cs_24_4, hM aG x0 cs_24_1, hM aG (bM 1 (twV a1 x2 x0)) cs_7_4, hM aG (bM 1 x0) cs_6_1, hM aG x0 cs_10_2, hB g_7_9 72 #[.int .i64 ((twR a1 x2 x0).Kind), .int .i64 ((twR a1 x2 x0).N)], hB g_7_8 68 (List.toArray cs_7_4), hB g_6_2 68 (List.toArray cs_6_1), hB g_5_10 72 #[.int .i64 ((twR a1 x2 x0).Kind), .int .i64 ((twR a1 x2 x0).N)], hB g_5_9 68 (List.toArray cs_5_5), hM aG (twV a1 x2 x0) cs_5_5, hB g_0_1 92 (List.toArray cs2), hB g_0_0 55 (List.toArray cs0)] W1531 := Ha1533.pick [3, 0, 1, 2, 4, 5, 6, 7, 8, 9, 10, 11, 12, 13, 14, 15] kD rfl; clear Ha1533
       refine aR rfl Tryz.sizeOf72 rfl rfl rfl rfl kS H1540 ?_
       intro W1537 hu1538 Ha1539; clear H1540; clear hu1538
       have hS1542 := And.intro (Ha1539.blk 15 rfl) (Ha1539.blk 14 rfl); refine ⟨fun _ => hS1542, ?_⟩
       refine bD kR ?_ _
       exact (aZ [(8, .pointer (some ⟨g_5_9, 0, none⟩)), (9, .pointer (some ⟨g_5_10, 0, none⟩)), (11, .pointer (some ⟨g_7_8, 0, none⟩)), (14, .int .i64 ((1 + bL (twV a1 x2 x0)))), (16, .pointer (some ⟨g_24_9, 0, none⟩)), (17, .pointer (some ⟨g_24_10, 0, none⟩))] rfl).elim fun x' hx => ⟨cs_24_5, g_24_9, g_24_10, x', hx, Ha1539.pick [0, 1, 2, 5, 9, 11, 12, 13] kD rfl⟩
      refine bA rfl Tryz.zeroValue72 rfl rfl Ha1444 ?_
      intro g_24_10 W1543 hu1544 Ha1545; clear Ha1444; clear hu1544
      have hS1547 := And.intro (Ha1545.blk 12 rfl) (Ha1545.blk 11 rfl); refine ⟨fun _ => hS1547, ?_⟩
      refine aL (i := 1) kR ?_
      refine aV rfl Tryz.call27 (vs := #[.agg (List.toArray cs0)]) rfl rfl rfl (lH x0 _ _ (fV Ha1545.1 hK0) hs_x0) ?_
      rintro e1552 W1551 ⟨cs_24_1, rfl, hM1549, hu1550⟩; refine ⟨_, rfl, ?_⟩
      have H1555 := Ha1545.new (q := hM aG x0 cs_24_1) hu1550 hM1549; clear Ha1545
      have hS1556 := And.intro (H1555.blk 13 rfl) (H1555.blk 12 rfl); refine ⟨fun _ => hS1556, ?_⟩
      refine aL (i := 4) kR ?_
      refine aV rfl Tryz.call44 (vs := #[.agg (List.toArray cs2)]) rfl rfl rfl (fI x2 _ _ (fV H1555.1 hK2) (by simp [dO])) ?_
      rintro e1561 W1560 ⟨cs_24_4, rfl, hM1558, hu1559⟩; refine ⟨_, rfl, ?_⟩
      have H1564 := H1555.new (q := hM aT x2 cs_24_4) hu1559 hM1558; clear H1555
      have hS1565 := And.intro (H1564.blk 14 rfl) (H1564.blk 13 rfl); refine ⟨fun _ => hS1565, ?_⟩
      refine aL (i := 5) kR ?_
      refine aV rfl Tryz.call45 (vs := #[.agg (List.toArray cs_24_1), .int .i64 (a1), .agg (List.toArray cs_24_4)]) rfl rfl rfl (fF x0 a1 x2 _ _ _ (H1564.kn 1 rfl) (Nat.le_trans hs_x0 kD) (H1564.kn 0 rfl)) ?_
      rintro e1569 W1568 ⟨cs_24_5, rfl, hM1566, hu1567⟩; refine ⟨_, rfl, ?_⟩
      have H1570 := H1564.new (q := hM aG (twV a1 x2 x0) cs_24_5) hu1567 hM1566; clear H1564
      have hS1571 := And.intro (H1570.blk 15 rfl) (H1570.blk 14 rfl); refine ⟨fun _ => hS1571, ?_⟩
      refine aF (i := 6) rfl kR kR kR kR kR (fun _ _ _ h => h) rfl rfl hS1571 (fun W' hs' => aK rfl) ?_
      refine aF (i := 7) rfl kR kR kR kR kR (fun _ _ _ h => h) rfl rfl hS1571 (fun W' hs' => aY (v := .agg (List.toArray cs_24_5)) rfl rfl) ?_
      refine aF (i := 8) rfl kR kR kR kR kR (fun _ _ _ h => h) rfl rfl hS1571 (fun W' hs' => aY (v := .agg #[.int .i64 ((twR a1 x2 x0).Kind), .int .i64 ((twR a1 x2 x0).N)]) rfl rfl) ?_
      refine aL (i := 11) kR ?_
      have H1575 : St w No [hB g_24_9 68 #[.int .i64 (0), .slice none 0 0, .slice none 0 0, .slice none 0 0, .slice none 0 0], hM aG (twV a1 x2 x0) cs_24_5, hM aT x2 cs_24_4, hM aG x0 cs_24_1, hB g_24_10 72 #[.int .i64 (0), .int .i64 (0)], hM aG (bM 1 (twV a1 x2 x0)) cs_7_4, hM aG (bM 1 x0) cs_6_1, hM aG x0 cs_10_2, hB g_7_9 72 #[.int .i64 ((twR a1 x2 x0).Kind), .int .i64 ((twR a1 x2 x0).N)], hB g_7_8 68 (List.toArray cs_7_4), hB g_6_2 68 (List.toArray cs_6_1), hB g_5_10 72 #[.int .i64 ((twR a1 x2 x0).Kind), .int .i64 ((twR a1 x2 x0).N)], hB g_5_9 68 (List.toArray cs_5_5), hM aG (twV a1 x2 x0) cs_5_5, hB g_0_1 92 (List.toArray cs2), hB g_0_0 55 (List.toArray cs0)] W1568 := H1570.pick [4, 0, 1, 2, 3, 5, 6, 7, 8, 9, 10, 11, 12, 13, 14, 15] kD rfl; clear H1570
      refine aR rfl Tryz.sizeOf68 rfl rfl (bE (H1575.kn 1 rfl)) rfl (bP (H1575.kn 1 rfl)) H1575 ?_
      intro W1572 hu1573 Ha1574; clear H1575; clear hu1573
      have hS1577 := And.intro (Ha1574.blk 15 rfl) (Ha1574.blk 14 rfl); refine ⟨fun _ => hS1577, ?_⟩
      refine aL (i := 12) kR ?_
      have H1581 : St w No [hB g_24_10 72 #[.int .i64 (0), .int .i64 (0)], hB g_24_9 68 (List.toArray cs_24_5), hM aG (twV a1 x2 x0) cs_24_5, hM aT x2 cs_24_4, hM aG x0 cs_24_1, hM aG (bM 1 (twV a1 x2 x0)) cs_7_4, hM aG (bM 1 x0) cs_6_1, hM aG x0 cs_10_2, hB g_7_9 72 #[.int .i64 ((twR a1 x2 x0).Kind), .int .i64 ((twR a1 x2 x0).N)], hB g_7_8 68 (List.toArray cs_7_4), hB g_6_2 68 (List.toArray cs_6_1), hB g_5_10 72 #[.int .i64 ((twR a1 x2 x0).Kind), .int .i64 ((twR a1 x2 x0).N)], hB g_5_9 68 (List.toArray cs_5_5), hM aG (twV a1 x2 x0) cs_5_5, hB g_0_1 92 (List.toArray cs2), hB g_0_0 55 (List.toArray cs0)] W1572 := Ha1574.pick [4, 0, 1, 2, 3, 5, 6, 7, 8, 9, 10, 11, 12, 13, 14, 15] kD rfl; clear Ha1574
      refine aR rfl Tryz.sizeOf72 rfl rfl rfl rfl kS H1581 ?_
      intro W1578 hu1579 Ha1580; clear H1581; clear hu1579
      have hS1583 := And.intro (Ha1580.blk 15 rfl) (Ha1580.blk 14 rfl); refine ⟨fun _ => hS1583, ?_⟩
      refine bD kR ?_ _
      exact (aZ [(8, .pointer (some ⟨g_5_9, 0, none⟩)), (9, .pointer (some ⟨g_5_10, 0, none⟩)), (11, .pointer (some ⟨g_7_8, 0, none⟩)), (14, .int .i64 ((1 + bL (twV a1 x2 x0)))), (16, .pointer (some ⟨g_24_9, 0, none⟩)), (17, .pointer (some ⟨g_24_10, 0, none⟩))] rfl).elim fun x' hx => ⟨cs_24_5, g_24_9, g_24_10, x', hx, Ha1580.pick [0, 1, 2, 5, 9, 11, 12, 13] kD rfl⟩
     refine bA rfl Tryz.zeroValue72 rfl rfl H1089 ?_
     intro g_24_10 W1584 hu1585 Ha1586; clear H1089; clear hu1585
     have hS1588 := And.intro (Ha1586.blk 11 rfl) (Ha1586.blk 10 rfl); refine ⟨fun _ => hS1588, ?_⟩
     refine dY (i := 1) (i2 := 9) kR ?_ ?_
     ·refine aV rfl Tryz.call27 (vs := #[.agg (List.toArray cs0)]) rfl rfl rfl (lH x0 _ _ (fV Ha1586.1 hK0) hs_x0) ?_
      rintro e1593 W1592 ⟨cs_24_1, rfl, hM1590, hu1591⟩; refine ⟨_, rfl, ?_⟩
      have H1596 := Ha1586.new (q := hM aG x0 cs_24_1) hu1591 hM1590; clear Ha1586
      have hS1597 := And.intro (H1596.blk 12 rfl) (H1596.blk 11 rfl); refine ⟨fun _ => hS1597, ?_⟩
      refine dY (i := 4) (i2 := 9) kR ?_ ?_
      ·refine aV rfl Tryz.call44 (vs := #[.agg (List.toArray cs2)]) rfl rfl rfl (fI x2 _ _ (fV H1596.1 hK2) (by simp [dO])) ?_
       rintro e1602 W1601 ⟨cs_24_4, rfl, hM1599, hu1600⟩; refine ⟨_, rfl, ?_⟩
       have H1605 := H1596.new (q := hM aT x2 cs_24_4) hu1600 hM1599; clear H1596
       have hS1606 := And.intro (H1605.blk 13 rfl) (H1605.blk 12 rfl); refine ⟨fun _ => hS1606, ?_⟩
       refine dY (i := 5) (i2 := 9) kR ?_ ?_
       ·refine aV rfl Tryz.call45 (vs := #[.agg (List.toArray cs_24_1), .int .i64 (a1), .agg (List.toArray cs_24_4)]) rfl rfl rfl (fF x0 a1 x2 _ _ _ (H1605.kn 1 rfl) (Nat.le_trans hs_x0 kD) (H1605.kn 0 rfl)) ?_
        rintro e1610 W1609 ⟨cs_24_5, rfl, hM1607, hu1608⟩; refine ⟨_, rfl, ?_⟩
        have H1611 := H1605.new (q := hM aG (twV a1 x2 x0) cs_24_5) hu1608 hM1607; clear H1605
        have hS1612 := And.intro (H1611.blk 14 rfl) (H1611.blk 13 rfl); refine ⟨fun _ => hS1612, ?_⟩
        refine aF (i := 6) rfl kR kR kR kR kR (fun _ _ _ h => h) rfl rfl hS1612 (fun W' hs' => aK rfl) ?_
        refine aF (i := 7) rfl kR kR kR kR kR (fun _ _ _ h => h) rfl rfl hS1612 (fun W' hs' => aY (v := .agg (List.toArray cs_24_5)) rfl rfl) ?_
        refine aF (i := 8) rfl kR kR kR kR kR (fun _ _ _ h => h) rfl rfl hS1612 (fun W' hs' => aY (v := .agg #[.int .i64 ((twR a1 x2 x0).Kind), .int .i64 ((twR a1 x2 x0).N)]) rfl rfl) ?_
        refine aL (i := 9) kR ?_
        refine bA rfl Tryz.zeroValue68 rfl rfl H1611 ?_
        intro g_24_9 W1613 hu1614 Ha1615; clear H1611; clear hu1614
        have hS1617 := And.intro (Ha1615.blk 15 rfl) (Ha1615.blk 14 rfl); refine ⟨fun _ => hS1617, ?_⟩
        refine aL (i := 11) kR ?_
        refine aR rfl Tryz.sizeOf68 rfl rfl (bE (Ha1615.kn 1 rfl)) rfl (bP (Ha1615.kn 1 rfl)) Ha1615 ?_
        intro W1618 hu1619 Ha1620; clear Ha1615; clear hu1619
        have hS1622 := And.intro (Ha1620.blk 15 rfl) (Ha1620.blk 14 rfl); refine ⟨fun _ => hS1622, ?_⟩
        refine aL (i := 12) kR ?_
        have H1626 : St w No [hB g_24_10 72 #[.int .i64 (0), .int .i64 (0)], hB g_24_9 68 (List.toArray cs_24_5), hM aG (twV a1 x2 x0) cs_24_5, hM aT x2 cs_24_4, hM aG x0 cs_24_1, hM aG (bM 1 (twV a1 x2 x0)) cs_7_4, hM aG (bM 1 x0) cs_6_1, hM aG x0 cs_10_2, hB g_7_9 72 #[.int .i64 ((twR a1 x2 x0).Kind), .int .i64 ((twR a1 x2 x0).N)], hB g_7_8 68 (List.toArray cs_7_4), hB g_6_2 68 (List.toArray cs_6_1), hB g_5_10 72 #[.int .i64 ((twR a1 x2 x0).Kind), .int .i64 ((twR a1 x2 x0).N)], hB g_5_9 68 (List.toArray cs_5_5), hM aG (twV a1 x2 x0) cs_5_5, hB g_0_1 92 (List.toArray cs2), hB g_0_0 55 (List.toArray cs0)] W1618 := Ha1620.pick [4, 0, 1, 2, 3, 5, 6, 7, 8, 9, 10, 11, 12, 13, 14, 15] kD rfl; clear Ha1620
        refine aR rfl Tryz.sizeOf72 rfl rfl rfl rfl kS H1626 ?_
        intro W1623 hu1624 Ha1625; clear H1626; clear hu1624
        have hS1628 := And.intro (Ha1625.blk 15 rfl) (Ha1625.blk 14 rfl); refine ⟨fun _ => hS1628, ?_⟩
        refine bD kR ?_ _
        exact (aZ [(8, .pointer (some ⟨g_5_9, 0, none⟩)), (9, .pointer (some ⟨g_5_10, 0, none⟩)), (11, .pointer (some ⟨g_7_8, 0, none⟩)), (14, .int .i64 ((1 + bL (twV a1 x2 x0)))), (16, .pointer (some ⟨g_24_9, 0, none⟩)), (17, .pointer (some ⟨g_24_10, 0, none⟩))] rfl).elim fun x' hx => ⟨cs_24_5, g_24_9, g_24_10, x', hx, Ha1625.pick [0, 1, 2, 5, 9, 11, 12, 13] kD rfl⟩
       refine bA rfl Tryz.zeroValue68 rfl rfl H1605 ?_
       intro g_24_9 W1629 hu1630 Ha1631; clear H1605; clear hu1630
       have hS1633 := And.intro (Ha1631.blk 14 rfl) (Ha1631.blk 13 rfl); refine ⟨fun _ => hS1633, ?_⟩
       refine aL (i := 5) kR ?_
       refine aV rfl Tryz.call45 (vs := #[.agg (List.toArray cs_24_1), .int .i64 (a1), .agg (List.toArray cs_24_4)]) rfl rfl rfl (fF x0 a1 x2 _ _ _ (Ha1631.kn 2 rfl) (Nat.le_trans hs_x0 kD) (Ha1631.kn 1 rfl)) ?_
       rintro e1637 W1636 ⟨cs_24_5, rfl, hM1634, hu1635⟩; refine ⟨_, rfl, ?_⟩
       have H1638 := Ha1631.new (q := hM aG (twV a1 x2 x0) cs_24_5) hu1635 hM1634; clear Ha1631
       have hS1639 := And.intro (H1638.blk 15 rfl) (H1638.blk 14 rfl); refine ⟨fun _ => hS1639, ?_⟩
       refine aF (i := 6) rfl kR kR kR kR kR (fun _ _ _ h => h) rfl rfl hS1639 (fun W' hs' => aK rfl) ?_
       refine aF (i := 7) rfl kR kR kR kR kR (fun _ _ _ h => h) rfl rfl hS1639 (fun W' hs' => aY (v := .agg (List.toArray cs_24_5)) rfl rfl) ?_
       refine aF (i := 8) rfl kR kR kR kR kR (fun _ _ _ h => h) rfl rfl hS1639 (fun W' hs' => aY (v := .agg #[.int .i64 ((twR a1 x2 x0).Kind), .int .i64 ((twR a1 x2 x0).N)]) rfl rfl) ?_
       refine aL (i := 11) kR ?_
       have H1643 : St w No [hB g_24_9 68 #[.int .i64 (0), .slice none 0 0, .slice none 0 0, .slice none 0 0, .slice none 0 0], hM aG (twV a1 x2 x0) cs_24_5, hM aT x2 cs_24_4, hM aG x0 cs_24_1, hB g_24_10 72 #[.int .i64 (0), .int .i64 (0)], hM aG (bM 1 (twV a1 x2 x0)) cs_7_4, hM aG (bM 1 x0) cs_6_1, hM aG x0 cs_10_2, hB g_7_9 72 #[.int .i64 ((twR a1 x2 x0).Kind), .int .i64 ((twR a1 x2 x0).N)], hB g_7_8 68 (List.toArray cs_7_4), hB g_6_2 68 (List.toArray cs_6_1), hB g_5_10 72 #[.int .i64 ((twR a1 x2 x0).Kind), .int .i64 ((twR a1 x2 x0).N)], hB g_5_9 68 (List.toArray cs_5_5), hM aG (twV a1 x2 x0) cs_5_5, hB g_0_1 92 (List.toArray cs2), hB g_0_0 55 (List.toArray cs0)] W1636 := H1638.pick [1, 0, 2, 3, 4, 5, 6, 7, 8, 9, 10, 11, 12, 13, 14, 15] kD rfl; clear H1638
       refine aR rfl Tryz.sizeOf68 rfl rfl (bE (H1643.kn 1 rfl)) rfl (bP (H1643.kn 1 rfl)) H1643 ?_
       intro W1640 hu1641 Ha1642; clear H1643; clear hu1641
       have hS1645 := And.intro (Ha1642.blk 15 rfl) (Ha1642.blk 14 rfl); refine ⟨fun _ => hS1645, ?_⟩
       refine aL (i := 12) kR ?_
       have H1649 : St w No [hB g_24_10 72 #[.int .i64 (0), .int .i64 (0)], hB g_24_9 68 (List.toArray cs_24_5), hM aG (twV a1 x2 x0) cs_24_5, hM aT x2 cs_24_4, hM aG x0 cs_24_1, hM aG (bM 1 (twV a1 x2 x0)) cs_7_4, hM aG (bM 1 x0) cs_6_1, hM aG x0 cs_10_2, hB g_7_9 72 #[.int .i64 ((twR a1 x2 x0).Kind), .int .i64 ((twR a1 x2 x0).N)], hB g_7_8 68 (List.toArray cs_7_4), hB g_6_2 68 (List.toArray cs_6_1), hB g_5_10 72 #[.int .i64 ((twR a1 x2 x0).Kind), .int .i64 ((twR a1 x2 x0).N)], hB g_5_9 68 (List.toArray cs_5_5), hM aG (twV a1 x2 x0) cs_5_5, hB g_0_1 92 (List.toArray cs2), hB g_0_0 55 (List.toArray cs0)] W1640 := Ha1642.pick [4, 0, 1, 2, 3, 5, 6, 7, 8, 9, 10, 11, 12, 13, 14, 15] kD rfl; clear Ha1642
       refine aR rfl Tryz.sizeOf72 rfl rfl rfl rfl kS H1649 ?_
       intro W1646 hu1647 Ha1648; clear H1649; clear hu1647
       have hS1651 := And.intro (Ha1648.blk 15 rfl) (Ha1648.blk 14 rfl); refine ⟨fun _ => hS1651, ?_⟩
       refine bD kR ?_ _
       exact (aZ [(8, .pointer (some ⟨g_5_9, 0, none⟩)), (9, .pointer (some ⟨g_5_10, 0, none⟩)), (11, .pointer (some ⟨g_7_8, 0, none⟩)), (14, .int .i64 ((1 + bL (twV a1 x2 x0)))), (16, .pointer (some ⟨g_24_9, 0, none⟩)), (17, .pointer (some ⟨g_24_10, 0, none⟩))] rfl).elim fun x' hx => ⟨cs_24_5, g_24_9, g_24_10, x', hx, Ha1648.pick [0, 1, 2, 5, 9, 11, 12, 13] kD rfl⟩
      refine bA rfl Tryz.zeroValue68 rfl rfl H1596 ?_
      intro g_24_9 W1652 hu1653 Ha1654; clear H1596; clear hu1653
      have hS1656 := And.intro (Ha1654.blk 13 rfl) (Ha1654.blk 12 rfl); refine ⟨fun _ => hS1656, ?_⟩
      refine aL (i := 4) kR ?_
      refine aV rfl Tryz.call44 (vs := #[.agg (List.toArray cs2)]) rfl rfl rfl (fI x2 _ _ (fV Ha1654.1 hK2) (by simp [dO])) ?_
      rintro e1661 W1660 ⟨cs_24_4, rfl, hM1658, hu1659⟩; refine ⟨_, rfl, ?_⟩
      have H1664 := Ha1654.new (q := hM aT x2 cs_24_4) hu1659 hM1658; clear Ha1654
      have hS1665 := And.intro (H1664.blk 14 rfl) (H1664.blk 13 rfl); refine ⟨fun _ => hS1665, ?_⟩
      refine aL (i := 5) kR ?_
      refine aV rfl Tryz.call45 (vs := #[.agg (List.toArray cs_24_1), .int .i64 (a1), .agg (List.toArray cs_24_4)]) rfl rfl rfl (fF x0 a1 x2 _ _ _ (H1664.kn 2 rfl) (Nat.le_trans hs_x0 kD) (H1664.kn 0 rfl)) ?_
      rintro e1669 W1668 ⟨cs_24_5, rfl, hM1666, hu1667⟩; refine ⟨_, rfl, ?_⟩
      have H1670 := H1664.new (q := hM aG (twV a1 x2 x0) cs_24_5) hu1667 hM1666; clear H1664
      have hS1671 := And.intro (H1670.blk 15 rfl) (H1670.blk 14 rfl); refine ⟨fun _ => hS1671, ?_⟩
      refine aF (i := 6) rfl kR kR kR kR kR (fun _ _ _ h => h) rfl rfl hS1671 (fun W' hs' => aK rfl) ?_
      refine aF (i := 7) rfl kR kR kR kR kR (fun _ _ _ h => h) rfl rfl hS1671 (fun W' hs' => aY (v := .agg (List.toArray cs_24_5)) rfl rfl) ?_
      refine aF (i := 8) rfl kR kR kR kR kR (fun _ _ _ h => h) rfl rfl hS1671 (fun W' hs' => aY (v := .agg #[.int .i64 ((twR a1 x2 x0).Kind), .int .i64 ((twR a1 x2 x0).N)]) rfl rfl) ?_
      refine aL (i := 11) kR ?_
      have H1675 : St w No [hB g_24_9 68 #[.int .i64 (0), .slice none 0 0, .slice none 0 0, .slice none 0 0, .slice none 0 0], hM aG (twV a1 x2 x0) cs_24_5, hM aT x2 cs_24_4, hM aG x0 cs_24_1, hB g_24_10 72 #[.int .i64 (0), .int .i64 (0)], hM aG (bM 1 (twV a1 x2 x0)) cs_7_4, hM aG (bM 1 x0) cs_6_1, hM aG x0 cs_10_2, hB g_7_9 72 #[.int .i64 ((twR a1 x2 x0).Kind), .int .i64 ((twR a1 x2 x0).N)], hB g_7_8 68 (List.toArray cs_7_4), hB g_6_2 68 (List.toArray cs_6_1), hB g_5_10 72 #[.int .i64 ((twR a1 x2 x0).Kind), .int .i64 ((twR a1 x2 x0).N)], hB g_5_9 68 (List.toArray cs_5_5), hM aG (twV a1 x2 x0) cs_5_5, hB g_0_1 92 (List.toArray cs2), hB g_0_0 55 (List.toArray cs0)] W1668 := H1670.pick [2, 0, 1, 3, 4, 5, 6, 7, 8, 9, 10, 11, 12, 13, 14, 15] kD rfl; clear H1670
      refine aR rfl Tryz.sizeOf68 rfl rfl (bE (H1675.kn 1 rfl)) rfl (bP (H1675.kn 1 rfl)) H1675 ?_
      intro W1672 hu1673 Ha1674; clear H1675; clear hu1673
      have hS1677 := And.intro (Ha1674.blk 15 rfl) (Ha1674.blk 14 rfl); refine ⟨fun _ => hS1677, ?_⟩
      refine aL (i := 12) kR ?_
      have H1681 : St w No [hB g_24_10 72 #[.int .i64 (0), .int .i64 (0)], hB g_24_9 68 (List.toArray cs_24_5), hM aG (twV a1 x2 x0) cs_24_5, hM aT x2 cs_24_4, hM aG x0 cs_24_1, hM aG (bM 1 (twV a1 x2 x0)) cs_7_4, hM aG (bM 1 x0) cs_6_1, hM aG x0 cs_10_2, hB g_7_9 72 #[.int .i64 ((twR a1 x2 x0).Kind), .int .i64 ((twR a1 x2 x0).N)], hB g_7_8 68 (List.toArray cs_7_4), hB g_6_2 68 (List.toArray cs_6_1), hB g_5_10 72 #[.int .i64 ((twR a1 x2 x0).Kind), .int .i64 ((twR a1 x2 x0).N)], hB g_5_9 68 (List.toArray cs_5_5), hM aG (twV a1 x2 x0) cs_5_5, hB g_0_1 92 (List.toArray cs2), hB g_0_0 55 (List.toArray cs0)] W1672 := Ha1674.pick [4, 0, 1, 2, 3, 5, 6, 7, 8, 9, 10, 11, 12, 13, 14, 15] kD rfl; clear Ha1674
      refine aR rfl Tryz.sizeOf72 rfl rfl rfl rfl kS H1681 ?_
      intro W1678 hu1679 Ha1680; clear H1681; clear hu1679
      have hS1683 := And.intro (Ha1680.blk 15 rfl) (Ha1680.blk 14 rfl); refine ⟨fun _ => hS1683, ?_⟩
      refine bD kR ?_ _
      exact (aZ [(8, .pointer (some ⟨g_5_9, 0, none⟩)), (9, .pointer (some ⟨g_5_10, 0, none⟩)), (11, .pointer (some ⟨g_7_8, 0, none⟩)), (14, .int .i64 ((1 + bL (twV a1 x2 x0)))), (16, .pointer (some ⟨g_24_9, 0, none⟩)), (17, .pointer (some ⟨g_24_10, 0, none⟩))] rfl).elim fun x' hx => ⟨cs_24_5, g_24_9, g_24_10, x', hx, Ha1680.pick [0, 1, 2, 5, 9, 11, 12, 13] kD rfl⟩
     refine bA rfl Tryz.zeroValue68 rfl rfl Ha1586 ?_
     intro g_24_9 W1684 hu1685 Ha1686; clear Ha1586; clear hu1685
     have hS1688 := And.intro (Ha1686.blk 12 rfl) (Ha1686.blk 11 rfl); refine ⟨fun _ => hS1688, ?_⟩
     refine aL (i := 1) kR ?_
     refine aV rfl Tryz.call27 (vs := #[.agg (List.toArray cs0)]) rfl rfl rfl (lH x0 _ _ (fV Ha1686.1 hK0) hs_x0) ?_
     rintro e1693 W1692 ⟨cs_24_1, rfl, hM1690, hu1691⟩; refine ⟨_, rfl, ?_⟩
     have H1696 := Ha1686.new (q := hM aG x0 cs_24_1) hu1691 hM1690; clear Ha1686
     have hS1697 := And.intro (H1696.blk 13 rfl) (H1696.blk 12 rfl); refine ⟨fun _ => hS1697, ?_⟩
     refine aL (i := 4) kR ?_
     refine aV rfl Tryz.call44 (vs := #[.agg (List.toArray cs2)]) rfl rfl rfl (fI x2 _ _ (fV H1696.1 hK2) (by simp [dO])) ?_
     rintro e1702 W1701 ⟨cs_24_4, rfl, hM1699, hu1700⟩; refine ⟨_, rfl, ?_⟩
     have H1705 := H1696.new (q := hM aT x2 cs_24_4) hu1700 hM1699; clear H1696
     have hS1706 := And.intro (H1705.blk 14 rfl) (H1705.blk 13 rfl); refine ⟨fun _ => hS1706, ?_⟩
     refine aL (i := 5) kR ?_
     refine aV rfl Tryz.call45 (vs := #[.agg (List.toArray cs_24_1), .int .i64 (a1), .agg (List.toArray cs_24_4)]) rfl rfl rfl (fF x0 a1 x2 _ _ _ (H1705.kn 1 rfl) (Nat.le_trans hs_x0 kD) (H1705.kn 0 rfl)) ?_
     rintro e1710 W1709 ⟨cs_24_5, rfl, hM1707, hu1708⟩; refine ⟨_, rfl, ?_⟩
     have H1711 := H1705.new (q := hM aG (twV a1 x2 x0) cs_24_5) hu1708 hM1707; clear H1705
     have hS1712 := And.intro (H1711.blk 15 rfl) (H1711.blk 14 rfl); refine ⟨fun _ => hS1712, ?_⟩
     refine aF (i := 6) rfl kR kR kR kR kR (fun _ _ _ h => h) rfl rfl hS1712 (fun W' hs' => aK rfl) ?_
     refine aF (i := 7) rfl kR kR kR kR kR (fun _ _ _ h => h) rfl rfl hS1712 (fun W' hs' => aY (v := .agg (List.toArray cs_24_5)) rfl rfl) ?_
     refine aF (i := 8) rfl kR kR kR kR kR (fun _ _ _ h => h) rfl rfl hS1712 (fun W' hs' => aY (v := .agg #[.int .i64 ((twR a1 x2 x0).Kind), .int .i64 ((twR a1 x2 x0).N)]) rfl rfl) ?_
     refine aL (i := 11) kR ?_
     have H1716 : St w No [hB g_24_9 68 #[.int .i64 (0), .slice none 0 0, .slice none 0 0, .slice none 0 0, .slice none 0 0], hM aG (twV a1 x2 x0) cs_24_5, hM aT x2 cs_24_4, hM aG x0 cs_24_1, hB g_24_10 72 #[.int .i64 (0), .int .i64 (0)], hM aG (bM 1 (twV a1 x2 x0)) cs_7_4, hM aG (bM 1 x0) cs_6_1, hM aG x0 cs_10_2, hB g_7_9 72 #[.int .i64 ((twR a1 x2 x0).Kind), .int .i64 ((twR a1 x2 x0).N)], hB g_7_8 68 (List.toArray cs_7_4), hB g_6_2 68 (List.toArray cs_6_1), hB g_5_10 72 #[.int .i64 ((twR a1 x2 x0).Kind), .int .i64 ((twR a1 x2 x0).N)], hB g_5_9 68 (List.toArray cs_5_5), hM aG (twV a1 x2 x0) cs_5_5, hB g_0_1 92 (List.toArray cs2), hB g_0_0 55 (List.toArray cs0)] W1709 := H1711.pick [3, 0, 1, 2, 4, 5, 6, 7, 8, 9, 10, 11, 12, 13, 14, 15] kD rfl; clear H1711
     refine aR rfl Tryz.sizeOf68 rfl rfl (bE (H1716.kn 1 rfl)) rfl (bP (H1716.kn 1 rfl)) H1716 ?_
     intro W1713 hu1714 Ha1715; clear H1716; clear hu1714
     have hS1718 := And.intro (Ha1715.blk 15 rfl) (Ha1715.blk 14 rfl); refine ⟨fun _ => hS1718, ?_⟩
     refine aL (i := 12) kR ?_
     have H1722 : St w No [hB g_24_10 72 #[.int .i64 (0), .int .i64 (0)], hB g_24_9 68 (List.toArray cs_24_5), hM aG (twV a1 x2 x0) cs_24_5, hM aT x2 cs_24_4, hM aG x0 cs_24_1, hM aG (bM 1 (twV a1 x2 x0)) cs_7_4, hM aG (bM 1 x0) cs_6_1, hM aG x0 cs_10_2, hB g_7_9 72 #[.int .i64 ((twR a1 x2 x0).Kind), .int .i64 ((twR a1 x2 x0).N)], hB g_7_8 68 (List.toArray cs_7_4), hB g_6_2 68 (List.toArray cs_6_1), hB g_5_10 72 #[.int .i64 ((twR a1 x2 x0).Kind), .int .i64 ((twR a1 x2 x0).N)], hB g_5_9 68 (List.toArray cs_5_5), hM aG (twV a1 x2 x0) cs_5_5, hB g_0_1 92 (List.toArray cs2), hB g_0_0 55 (List.toArray cs0)] W1713 := Ha1715.pick [4, 0, 1, 2, 3, 5, 6, 7, 8, 9, 10, 11, 12, 13, 14, 15] kD rfl; clear Ha1715
     refine aR rfl Tryz.sizeOf72 rfl rfl rfl rfl kS H1722 ?_
     intro W1719 hu1720 Ha1721; clear H1722; clear hu1720
     have hS1724 := And.intro (Ha1721.blk 15 rfl) (Ha1721.blk 14 rfl); refine ⟨fun _ => hS1724, ?_⟩
     refine bD kR ?_ _
     exact (aZ [(8, .pointer (some ⟨g_5_9, 0, none⟩)), (9, .pointer (some ⟨g_5_10, 0, none⟩)), (11, .pointer (some ⟨g_7_8, 0, none⟩)), (14, .int .i64 ((1 + bL (twV a1 x2 x0)))), (16, .pointer (some ⟨g_24_9, 0, none⟩)), (17, .pointer (some ⟨g_24_10, 0, none⟩))] rfl).elim fun x' hx => ⟨cs_24_5, g_24_9, g_24_10, x', hx, Ha1721.pick [0, 1, 2, 5, 9, 11, 12, 13] kD rfl⟩
    ·rintro _ W1726 ⟨cs_24_5, g_24_9, g_24_10, x1727, rfl, H1725⟩
     refine aM ?_
     refine wp_seq ?_
     refine wp_seq ?_
     refine aS [0, 1, 2, 3, 4, 5, 6, 7, 8, 9] rfl ?_
     refine aB ?_
     refine aC rfl (bI Tryz.isAgg68 Tryz.sizeOf68 rfl (H1725.blk 1 rfl) (bE (H1725.kn 2 rfl))) rfl rfl ?_
     refine aB ?_
     refine aC rfl (bI Tryz.isAgg68 Tryz.sizeOf68 rfl (H1725.blk 6 rfl) (bE (H1725.kn 7 rfl))) rfl rfl ?_
     refine aB ?_
     refine aV rfl Tryz.call30 (vs := #[.agg (List.toArray cs_24_5), .agg (List.toArray cs_5_5)]) rfl rfl rfl (eq_Vat (twV a1 x2 x0) _ _ _ (H1725.kn 2 rfl) (H1725.kn 7 rfl)) ?_
     rintro e1730 W1729 ⟨rfl, hu1728⟩; refine ⟨_, rfl, ?_⟩
     have H1731 := H1725.no hu1728; clear H1725
     refine aB ?_
     refine aC rfl (iP rfl) rfl rfl ?_
     refine aB ?_
     refine aC rfl (aK rfl) rfl rfl ?_
     refine aB ?_
     refine eO rfl rfl rfl rfl (fun _ ho1732 => ?_)
     refine aC ho1732 (bI Tryz.isAgg72 Tryz.sizeOf72 rfl (H1731.blk 0 rfl) rfl) rfl rfl ?_
     refine aB ?_
     refine eO rfl rfl rfl rfl (fun _ ho1733 => ?_)
     refine aC ho1733 (bI Tryz.isAgg72 Tryz.sizeOf72 rfl (H1731.blk 5 rfl) rfl) rfl rfl ?_
     refine aB ?_
     refine eO rfl rfl rfl rfl (fun _ ho1734 => ?_)
     refine aV ho1734 Tryz.call46 (vs := #[.agg #[.int .i64 ((twR a1 x2 x0).Kind), .int .i64 ((twR a1 x2 x0).N)], .agg #[.int .i64 ((twR a1 x2 x0).Kind), .int .i64 ((twR a1 x2 x0).N)]]) rfl rfl rfl (eq_Wire (twR a1 x2 x0) _ _ _ (iI _ (twR a1 x2 x0)) (iI _ (twR a1 x2 x0))) ?_
     rintro e1737 W1736 ⟨rfl, hu1735⟩; refine ⟨_, rfl, ?_⟩
     have H1738 := H1731.no hu1735; clear H1731
     refine aB ?_
     refine eO rfl rfl rfl rfl (fun _ ho1739 => ?_)
     refine aC ho1739 (iP rfl) rfl rfl ?_
     refine aB ?_
     refine aC rfl (dS (v := .bool (false)) (b := false) rfl rfl rfl rfl) rfl rfl ?_
     refine aN ?_
     refine aM ?_
     refine fO rfl ?_
     refine wp_skip ?_
     refine aM ?_
     refine wp_seq ?_
     refine aS [0] rfl ?_
     refine aB ?_
     refine aC rfl (aW rfl) rfl rfl ?_
     refine aN ?_
     refine aM ?_
     refine wp_seq ?_
     refine aS [0, 1, 2, 3] rfl ?_
     refine aB ?_
     refine aC rfl (bI Tryz.isAgg68 Tryz.sizeOf68 rfl (H1738.blk 4 rfl) (bE (H1738.kn 3 rfl))) rfl rfl ?_
     refine aB ?_
     refine aC rfl (aK rfl) rfl rfl ?_
     refine aB ?_
     refine aV rfl Tryz.call34 (vs := #[.agg (List.toArray cs_7_4), .int .i64 (1)]) rfl rfl rfl (oD (twV a1 x2 x0) _ _ _ (H1738.kn 3 rfl) kO kO) ?_
     rintro e1742 W1741 ⟨rfl, hu1740⟩; refine ⟨_, rfl, ?_⟩
     have H1743 := H1738.no hu1740; clear H1738
     refine aB ?_
     refine aC rfl (aW rfl) rfl rfl ?_
     refine aN ?_
     refine aM ?_
     refine wp_seq ?_
     refine wp_seq ?_
     refine aS [0, 1] rfl ?_
     refine aB ?_
     refine aC rfl (aK rfl) rfl rfl ?_
     refine aB ?_
     refine aC rfl (fB (p := ((1 + bL (twV a1 x2 x0)) : Int) < 0) kO (iW (p := (1 + bL (twV a1 x2 x0))) (q := 0) rfl rfl)) rfl rfl ?_
     refine aN ?_
     refine aM ?_
     refine fO rfl ?_
     refine wp_skip ?_
     refine aM ?_
     refine wp_seq ?_
     refine wp_seq ?_
     refine aS [0, 1, 2] rfl ?_
     refine aB ?_
     refine aC rfl (aK rfl) rfl rfl ?_
     refine aB ?_
     refine aC rfl (aK rfl) rfl rfl ?_
     refine aB ?_
     refine aC rfl (fB (p := ¬ ((1 + bL (twV a1 x2 x0)) : Int) = (1 + bL (twV a1 x2 x0))) (not_not_intro rfl) (iR (p := (1 + bL (twV a1 x2 x0))) (q := (1 + bL (twV a1 x2 x0))) rfl rfl)) rfl rfl ?_
     refine aN ?_
     refine aM ?_
     refine fO rfl ?_
     refine wp_skip ?_
     refine aM ?_
     refine wp_seq ?_
     refine aS [0] rfl ?_
     refine aB ?_
     refine aC rfl (aW rfl) rfl rfl ?_
     refine aN ?_
     refine aM ?_
     refine wp_ret ?_
     refine eY (.inl rfl) Tryz.results8 rfl ?_
     exact ⟨rfl, H1743.1⟩
end Go.Proofs.YtfnedoiplblldaaGreatFam
