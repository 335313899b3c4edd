/- What the row needs, packed. No conditions beyond those that each law names. -/
import Derived.Test.YtgaoabnnpjngcaaGreatZcu4
import Derived.Test.YtgaoabnnpjngcaaGreatProg
import Derived.Test.YtgaoabnnpjngcaaGreatZcu1
import Derived.Test.YtgaoabnnpjngcaaGreatZcu3
namespace Go.Proofs.YtgaoabnnpjngcaaGreatFam
open Go.ChangeShapes Go.WideShapes Go.RowKit Go.Proofs.YtgaoabnnpjngcaaGreatSep Go.Proofs.YtgaoabnnpjngcaaGreatT Go.Proofs.YtgaoabnnpjngcaaGreatK
set_option linter.unusedVariables false
set_option linter.unusedSimpArgs false
attribute [local irreducible] wpOps wpOp
set_option maxHeartbeats 4000000
set_option maxRecDepth 100000
theorem law_FnExactUndone (w : World) (x0 : GWorld) (cs0 : List Value) (hK0 : kQ.K w x0 cs0) (hG0 : Gd_World x0) : Calls Tryz.prog 4 #[.agg cs0.toArray] w (bU true w) := by
 have hl0_ : cs0.length = 5 := kQ.K_len hK0
 have ho0_ : ∀ u ∈ (List.toArray cs0).toList, u.oneCell' = true := kQ.K_one hK0
 refine enter 69 [(0, .agg (List.toArray cs0))] Tryz.func4 rfl kR ?_
 intro xj
 have H1 : St w No [] w := St.enter
 refine wp_seq ?_
 refine aL [0, 1] rfl ?_
 refine aA ?_
 refine op_box rfl rfl rfl rfl H1 ?_
 intro g_0_0 W2 hu3 Ha4; clear H1; clear hu3
 refine aA ?_
 refine aC rfl (aN rfl) rfl rfl ?_
 refine aJ ?_
 refine aG ?_
 refine wp_seq ?_
 refine aL [0] rfl ?_
 refine aA ?_
 refine aC rfl (aN rfl) rfl rfl ?_
 refine aJ ?_
 refine aG ?_
 refine wp_seq ?_
 refine aL [0, 1, 2, 3] rfl ?_
 refine aA ?_
 refine aC rfl (gN Tryz.isAgg27 Tryz.sizeOf27 rfl (Ha4.blk 0 rfl) hl0_) rfl rfl ?_
 refine aA ?_
 refine aC rfl (aH rfl) rfl rfl ?_
 refine aA ?_
 refine eF rfl Tryz.call6 (vs := #[.agg (List.toArray cs0), .int .i64 (1048576)]) rfl rfl rfl (sz_World x0 _ _ _ (K_upd Ha4.1 hK0) (Bd_of_World hG0) kO kO) ?_
 rintro e10 W9 ⟨n7, rfl, hr8, hu6⟩; refine ⟨_, rfl, ?_⟩
 have H11 := Ha4.no hu6; clear Ha4
 refine aA ?_
 refine aC rfl (aN rfl) rfl rfl ?_
 refine aJ ?_
 refine aG ?_
 refine wp_seq ?_
 refine wp_seq ?_
 refine aL [0, 1] rfl ?_
 refine aA ?_
 refine aC rfl (aH rfl) rfl rfl ?_
 refine aA ?_
 refine aC rfl (lV rfl rfl) rfl rfl ?_
 refine aJ ?_
 refine aG ?_
 refine jP rfl (fun hc12 => ?_) (fun hc12 => ?_)
 ·refine wp_seq ?_
  refine aL [0] rfl ?_
  refine aA ?_
  refine aC rfl (aN rfl) rfl rfl ?_
  refine aJ ?_
  refine aG ?_
  refine wp_ret ?_
  refine jK ?_
  refine gJ (.inl rfl) Tryz.results4 rfl ?_
  exact ⟨rfl, H11.1⟩
 ·have hs_x0 : fU x0 ≤ 1048576 := by omega
  refine wp_skip ?_
  refine aG ?_
  refine wp_seq ?_
  have hn0 : x0.aB.length ≤ 4194304 := by have h1 := hs_x0; unfold fU bB at h1; omega
  have nn13 : 0 ≤ iA x0 := cntv_World_nn x0
  have nn13b := cntv_World_le x0
  have nn13c : fU x0 ≤ 4194304 := (Nat.le_trans hs_x0 kD)
  have nn14 : 0 ≤ aQ bS (unT x0.aB x0.aB.length) := dB bS nJ (unT x0.aB x0.aB.length)
  have nn14b := dU bS mV cnt_Tag_le (unT x0.aB x0.aB.length)
  have nn14c : bB mV (unT x0.aB x0.aB.length) ≤ 4194304 := (by have h1 := un_len x0.aB x0.aB.length (Nat.le_refl _); have h2 : eZ mV (unT x0.aB x0.aB.length) ≤ 0 * (unT x0.aB x0.aB.length).length := sumS_all _ _ _ (fun _ _ => Nat.le_refl 0); have h3 : x0.aB.length ≤ 1048576 := (by have h1 := hs_x0; unfold fU bB at h1; omega); unfold bB; omega)
  refine aL [0, 1, 2, 3] rfl ?_
  refine aA ?_
  refine aC rfl (gN Tryz.isAgg27 Tryz.sizeOf27 rfl (H11.blk 0 rfl) hl0_) rfl rfl ?_
  refine aA ?_
  refine eF rfl Tryz.call8 (vs := #[.agg (List.toArray cs0)]) rfl rfl rfl (nP x0 _ _ (K_upd H11.1 hK0) hs_x0) ?_
  rintro e19 W18 ⟨cs_5_1, rfl, hM16, hu17⟩; refine ⟨_, rfl, ?_⟩
  have H22 := H11.new (q := hM cB x0 cs_5_1) hu17 hM16; clear H11
  refine aA ?_
  refine eF rfl Tryz.call11 (vs := #[.agg (List.toArray cs_5_1)]) rfl rfl rfl (undone_s x0 _ _ (H22.kn 0 rfl) hn0) ?_
  rintro e27 W26 ⟨v23, rfl, hR24, hu25⟩; refine ⟨_, rfl, ?_⟩
  obtain ⟨B_5_2, c_5_2, rfl⟩ := aV hR24
  have H28 := H22.new (q := hR cZ 50 (.slice B_5_2 ((unT x0.aB x0.aB.length).length) c_5_2) (unT x0.aB x0.aB.length)) hu25 hR24; clear H22
  refine aA ?_
  refine aC rfl (aN rfl) rfl rfl ?_
  refine aJ ?_
  refine aG ?_
  refine wp_seq ?_
  refine aL [0, 1, 2, 3] rfl ?_
  refine aA ?_
  refine aC rfl (gN Tryz.isAgg27 Tryz.sizeOf27 rfl (H28.blk 2 rfl) hl0_) rfl rfl ?_
  refine aA ?_
  refine eF rfl Tryz.call8 (vs := #[.agg (List.toArray cs0)]) rfl rfl rfl (nP x0 _ _ (K_upd H28.1 hK0) hs_x0) ?_
  rintro e33 W32 ⟨cs_6_1, rfl, hM30, hu31⟩; refine ⟨_, rfl, ?_⟩
  have H36 := H28.new (q := hM cB x0 cs_6_1) hu31 hM30; clear H28
  refine aA ?_
  refine nI rfl Tryz.zeroValue35 rfl rfl H36 ?_
  intro g_6_2 W37 hu38 Ha39; clear H36; clear hu38
  refine aA ?_
  refine lW rfl Tryz.sizeOf35 rfl rfl (jO (Ha39.kn 1 rfl)) rfl (ki_World_one (Ha39.kn 1 rfl)) Ha39 ?_
  intro W41 hu42 Ha43; clear Ha39; clear hu42
  refine aJ ?_
  refine aG ?_
  refine wp_seq ?_
  refine aL [0, 1, 2] rfl ?_
  refine aA ?_
  refine aC rfl (gN Tryz.isAgg35 Tryz.sizeOf35 rfl (Ha43.blk 0 rfl) (jO (Ha43.kn 1 rfl))) rfl rfl ?_
  refine aA ?_
  refine eF rfl Tryz.call12 (vs := #[.agg (List.toArray cs_6_1)]) rfl rfl rfl (undone_i x0 _ _ (Ha43.kn 1 rfl) hn0) ?_
  rintro e49 W48 ⟨v45, rfl, hR46, hu47⟩; refine ⟨_, rfl, ?_⟩
  obtain ⟨B_7_1, c_7_1, rfl⟩ := aV hR46
  have H50 := Ha43.new (q := hR cZ 50 (.slice B_7_1 ((unT x0.aB x0.aB.length).length) c_7_1) (unT x0.aB x0.aB.length)) hu47 hR46; clear Ha43
  refine aA ?_
  refine aC rfl (aN rfl) rfl rfl ?_
  refine aJ ?_
  refine aG ?_
  refine wp_seq ?_
  refine wp_seq ?_
  refine aL [0, 1, 2, 3] rfl ?_
  refine aA ?_
  refine aC rfl (aH rfl) rfl rfl ?_
  refine aA ?_
  refine aC rfl (aH rfl) rfl rfl ?_
  refine aA ?_
  refine eF rfl Tryz.call13 (vs := #[.slice B_7_1 ((unT x0.aB x0.aB.length).length) c_7_1, .slice B_5_2 ((unT x0.aB x0.aB.length).length) c_5_2]) rfl rfl rfl (eqS_Tag (unT x0.aB x0.aB.length) _ _ _ _ _ (H50.rowC 0 rfl) (H50.rowC 3 rfl)) ?_
  rintro e53 W52 ⟨rfl, hu51⟩; refine ⟨_, rfl, ?_⟩
  have H54 := H50.no hu51; clear H50
  refine aA ?_
  refine aC rfl (rn_not rfl) rfl rfl ?_
  refine aJ ?_
  refine aG ?_
  refine iY rfl ?_
  refine wp_skip ?_
  refine aG ?_
  refine wp_seq ?_
  refine wp_seq ?_
  refine gV (fun W' => Blk W' g_6_2 35 (List.toArray cs_6_1) ∧ Blk W' g_0_0 27 (List.toArray cs0)) 5 kR ?_
  have H55 := H54.drew; clear H54
  have hS56 : Blk W52.drew g_6_2 35 (List.toArray cs_6_1) ∧ Blk W52.drew g_0_0 27 (List.toArray cs0) := ⟨H55.blk 1 rfl, H55.blk 5 rfl⟩
  refine aD (i := 0) rfl kR kR kR kR kR (fun _ _ _ h => h) rfl rfl hS56 (fun W' hs' => gN Tryz.isAgg35 Tryz.sizeOf35 rfl hs'.1 (jO (H55.kn 2 rfl))) ?_
  refine aD (i := 1) rfl kR kR kR kR kR (fun _ _ _ h => h) rfl rfl hS56 (fun W' hs' => gN Tryz.isAgg27 Tryz.sizeOf27 rfl hs'.2 hl0_) ?_
  refine jB (i := 2) kR ?_
  refine eF rfl Tryz.call8 (vs := #[.agg (List.toArray cs0)]) rfl rfl rfl (nP x0 _ _ (K_upd H55.1 hK0) hs_x0) ?_
  rintro e61 W60 ⟨cs_10_2, rfl, hM58, hu59⟩; refine ⟨_, rfl, ?_⟩
  have H64 := H55.new (q := hM cB x0 cs_10_2) hu59 hM58; clear H55
  have hS65 := And.intro (H64.blk 2 rfl) (H64.blk 6 rfl); refine ⟨fun _ => hS65, ?_⟩
  refine jB (i := 3) kR ?_
  refine eF rfl Tryz.call10 (vs := #[.agg (List.toArray cs_6_1), .agg (List.toArray cs_10_2)]) rfl rfl rfl (eq_World x0 _ _ _ (H64.kn 3 rfl) (H64.kn 0 rfl)) ?_
  rintro e68 W67 ⟨rfl, hu66⟩; refine ⟨_, rfl, ?_⟩
  have H69 := H64.no hu66; clear H64
  have hS70 := And.intro (H69.blk 2 rfl) (H69.blk 6 rfl); refine ⟨fun _ => hS70, ?_⟩
  refine aD (i := 4) rfl kR kR kR kR kR (fun _ _ _ h => h) rfl rfl hS70 (fun W' hs' => rn_not rfl) ?_
  refine gF kR ?_ _
  refine aG ?_
  refine iY rfl ?_
  refine wp_skip ?_
  refine aG ?_
  refine wp_seq ?_
  refine aL [0] rfl ?_
  refine aA ?_
  refine aC rfl (aN rfl) rfl rfl ?_
  refine aJ ?_
  refine aG ?_
  refine wp_seq ?_
  refine aL [0, 1, 2, 3] rfl ?_
  refine aA ?_
  refine aC rfl (gN Tryz.isAgg35 Tryz.sizeOf35 rfl (H69.blk 2 rfl) (jO (H69.kn 3 rfl))) rfl rfl ?_
  refine aA ?_
  refine aC rfl (aH rfl) rfl rfl ?_
  refine aA ?_
  have H77 : St w No [hM cB x0 cs_6_1, hM cB x0 cs_10_2, hR cZ 50 (.slice B_7_1 ((unT x0.aB x0.aB.length).length) c_7_1) (unT x0.aB x0.aB.length), hB g_6_2 35 (List.toArray cs_6_1), hR cZ 50 (.slice B_5_2 ((unT x0.aB x0.aB.length).length) c_5_2) (unT x0.aB x0.aB.length), hM cB x0 cs_5_1, hB g_0_0 27 (List.toArray cs0)] W67 := H69.pick [3, 0, 1, 2, 4, 5, 6] kD rfl; clear H69
  obtain ⟨F72, hM73, hF74, hT75⟩ := H77.turn
  refine eF rfl Tryz.call14 (vs := #[.agg (List.toArray cs_6_1), .int .i64 (1)]) rfl rfl rfl (markv_World_c x0 _ F72 _ _ hM73 kO kO) ?_
  rintro e79 W78 ⟨rfl, hM76, hu71⟩; refine ⟨_, rfl, ?_⟩
  have H80 : St w No [hM cB (kZ 1 x0) cs_6_1, hM cB x0 cs_10_2, hR cZ 50 (.slice B_7_1 ((unT x0.aB x0.aB.length).length) c_7_1) (unT x0.aB x0.aB.length), hB g_6_2 35 (List.toArray cs_6_1), hR cZ 50 (.slice B_5_2 ((unT x0.aB x0.aB.length).length) c_5_2) (unT x0.aB x0.aB.length), hM cB x0 cs_5_1, hB g_0_0 27 (List.toArray cs0)] W78 := hT75 (hM cB (kZ 1 x0) cs_6_1) _ hu71 ((hM cB (kZ 1 x0) cs_6_1).mono (fun _ q => .inl q) hM76); clear H77
  refine aA ?_
  refine aC rfl (aN rfl) rfl rfl ?_
  refine aJ ?_
  refine aG ?_
  refine wp_seq ?_
  refine wp_seq ?_
  refine aL [0, 1, 2, 3, 4, 5, 6, 7] rfl ?_
  refine aA ?_
  refine aC rfl (aH rfl) rfl rfl ?_
  refine aA ?_
  refine aC rfl (j5 (p := ((1 + iA x0) : Int) < 0) kO (lV (p := (1 + iA x0)) (q := 0) rfl rfl)) rfl rfl ?_
  refine aA ?_
  refine aC rfl (aH rfl) rfl rfl ?_
  refine aA ?_
  refine op_G rfl rfl rfl rfl (fun _ ho81 => ?_)
  refine aC ho81 (aH rfl) rfl rfl ?_
  refine aA ?_
  refine op_G rfl rfl rfl rfl (fun _ ho82 => ?_)
  refine aC ho82 (aH rfl) rfl rfl ?_
  refine aA ?_
  refine op_G rfl rfl rfl rfl (fun _ ho83 => ?_)
  refine eF ho83 Tryz.call13 (vs := #[.slice B_7_1 ((unT x0.aB x0.aB.length).length) c_7_1, .slice B_5_2 ((unT x0.aB x0.aB.length).length) c_5_2]) rfl rfl rfl (eqS_Tag (unT x0.aB x0.aB.length) _ _ _ _ _ (H80.rowC 2 rfl) (H80.rowC 4 rfl)) ?_
  rintro e86 W85 ⟨rfl, hu84⟩; refine ⟨_, rfl, ?_⟩
  have H87 := H80.no hu84; clear H80
  refine aA ?_
  refine op_G rfl rfl rfl rfl (fun _ ho88 => ?_)
  refine aC ho88 (rn_not rfl) rfl rfl ?_
  refine aA ?_
  refine aC rfl (fZ (v := .bool (false)) (b := false) rfl rfl rfl rfl) rfl rfl ?_
  refine aJ ?_
  refine aG ?_
  refine iY rfl ?_
  refine wp_skip ?_
  refine aG ?_
  refine wp_seq ?_
  refine aL [0] rfl ?_
  refine aA ?_
  refine aC rfl (aN rfl) rfl rfl ?_
  refine aJ ?_
  refine aG ?_
  refine wp_seq ?_
  refine aL [0, 1, 2, 3] rfl ?_
  refine aA ?_
  refine aC rfl (aH rfl) rfl rfl ?_
  refine aA ?_
  refine aC rfl (aH rfl) rfl rfl ?_
  refine aA ?_
  have H95 : St w No [hR cZ 50 (.slice B_7_1 ((unT x0.aB x0.aB.length).length) c_7_1) (unT x0.aB x0.aB.length), hM cB (kZ 1 x0) cs_6_1, hM cB x0 cs_10_2, hB g_6_2 35 (List.toArray cs_6_1), hR cZ 50 (.slice B_5_2 ((unT x0.aB x0.aB.length).length) c_5_2) (unT x0.aB x0.aB.length), hM cB x0 cs_5_1, hB g_0_0 27 (List.toArray cs0)] W85 := H87.pick [2, 0, 1, 3, 4, 5, 6] kD rfl; clear H87
  obtain ⟨F90, hM91, hF92, hT93⟩ := H95.turn
  refine eF rfl Tryz.call15 (vs := #[.slice B_7_1 ((unT x0.aB x0.aB.length).length) c_7_1, .int .i64 (1)]) rfl rfl rfl (markS_Tag (unT x0.aB x0.aB.length) _ F90 _ _ hM91 kO kO) ?_
  rintro e97 W96 ⟨rfl, hM94, hu89⟩; refine ⟨_, rfl, ?_⟩
  have H98 : St w No [hR cZ 50 (.slice B_7_1 ((unT x0.aB x0.aB.length).length) c_7_1) (mkS mk_Tag bS 1 (unT x0.aB x0.aB.length)), hM cB (kZ 1 x0) cs_6_1, hM cB x0 cs_10_2, hB g_6_2 35 (List.toArray cs_6_1), hR cZ 50 (.slice B_5_2 ((unT x0.aB x0.aB.length).length) c_5_2) (unT x0.aB x0.aB.length), hM cB x0 cs_5_1, hB g_0_0 27 (List.toArray cs0)] W96 := hT93 (hR cZ 50 (.slice B_7_1 ((unT x0.aB x0.aB.length).length) c_7_1) (mkS mk_Tag bS 1 (unT x0.aB x0.aB.length))) _ hu89 ((hR cZ 50 (.slice B_7_1 ((unT x0.aB x0.aB.length).length) c_7_1) (mkS mk_Tag bS 1 (unT x0.aB x0.aB.length))).mono (fun _ q => .inl q) hM94); clear H95
  refine aA ?_
  refine aC rfl (aN rfl) rfl rfl ?_
  refine aJ ?_
  refine aG ?_
  refine wp_seq ?_
  refine aL [0] rfl ?_
  refine aA ?_
  refine aC rfl (aN rfl) rfl rfl ?_
  refine aJ ?_
  refine aG ?_
  refine wp_seq ?_
  refine aL [0, 1, 2, 3] rfl ?_
  refine aA ?_
  refine aC rfl (aH rfl) rfl rfl ?_
  refine aA ?_
  refine aC rfl (aH rfl) rfl rfl ?_
  refine aA ?_
  refine eF rfl Tryz.call16 (vs := #[.slice B_7_1 ((unT x0.aB x0.aB.length).length) c_7_1, .int .i64 (1)]) rfl rfl rfl (heldS_Tag (unT x0.aB x0.aB.length) _ _ _ _ (H98.rowC 0 rfl) kO kO) ?_
  rintro e101 W100 ⟨rfl, hu99⟩; refine ⟨_, rfl, ?_⟩
  have H102 := H98.no hu99; clear H98
  refine aA ?_
  refine aC rfl (aN rfl) rfl rfl ?_
  refine aJ ?_
  refine aG ?_
  refine wp_seq ?_
  refine wp_seq ?_
  refine aL [0, 1] rfl ?_
  refine aA ?_
  refine aC rfl (aH rfl) rfl rfl ?_
  refine aA ?_
  refine aC rfl (j5 (p := ((1 + aQ bS (unT x0.aB x0.aB.length)) : Int) < 0) kO (lV (p := (1 + aQ bS (unT x0.aB x0.aB.length))) (q := 0) rfl rfl)) rfl rfl ?_
  refine aJ ?_
  refine aG ?_
  refine iY rfl ?_
  refine wp_skip ?_
  refine aG ?_
  refine wp_seq ?_
  refine wp_seq ?_
  refine aL [0, 1, 2] rfl ?_
  refine aA ?_
  refine aC rfl (aH rfl) rfl rfl ?_
  refine aA ?_
  refine aC rfl (aH rfl) rfl rfl ?_
  refine aA ?_
  refine aC rfl (j5 (p := ¬ ((1 + aQ bS (unT x0.aB x0.aB.length)) : Int) = (1 + aQ bS (unT x0.aB x0.aB.length))) (not_not_intro rfl) (rn_neq (p := (1 + aQ bS (unT x0.aB x0.aB.length))) (q := (1 + aQ bS (unT x0.aB x0.aB.length))) rfl rfl)) rfl rfl ?_
  refine aJ ?_
  refine aG ?_
  refine iY rfl ?_
  refine wp_skip ?_
  refine aG ?_
  refine wp_seq ?_
  refine aL [0, 1, 2, 3] rfl ?_
  refine aA ?_
  refine aC rfl (gN Tryz.isAgg27 Tryz.sizeOf27 rfl (H102.blk 6 rfl) hl0_) rfl rfl ?_
  refine aA ?_
  refine eF rfl Tryz.call8 (vs := #[.agg (List.toArray cs0)]) rfl rfl rfl (nP x0 _ _ (K_upd H102.1 hK0) hs_x0) ?_
  rintro e107 W106 ⟨cs_24_1, rfl, hM104, hu105⟩; refine ⟨_, rfl, ?_⟩
  have H110 := H102.new (q := hM cB x0 cs_24_1) hu105 hM104; clear H102
  refine aA ?_
  refine eF rfl Tryz.call12 (vs := #[.agg (List.toArray cs_24_1)]) rfl rfl rfl (undone_i x0 _ _ (H110.kn 0 rfl) hn0) ?_
  rintro e115 W114 ⟨v111, rfl, hR112, hu113⟩; refine ⟨_, rfl, ?_⟩
  obtain ⟨B_24_2, c_24_2, rfl⟩ := aV hR112
  have H116 := H110.new (q := hR cZ 50 (.slice B_24_2 ((unT x0.aB x0.aB.length).length) c_24_2) (unT x0.aB x0.aB.length)) hu113 hR112; clear H110
  refine aA ?_
  refine aC rfl (aN rfl) rfl rfl ?_
  refine aJ ?_
  refine aG ?_
  refine wp_seq ?_
  refine wp_seq ?_
  refine aL [0, 1, 2, 3] rfl ?_
  refine aA ?_
  refine aC rfl (aH rfl) rfl rfl ?_
  refine aA ?_
  refine aC rfl (aH rfl) rfl rfl ?_
  refine aA ?_
  refine eF rfl Tryz.call13 (vs := #[.slice B_24_2 ((unT x0.aB x0.aB.length).length) c_24_2, .slice B_5_2 ((unT x0.aB x0.aB.length).length) c_5_2]) rfl rfl rfl (eqS_Tag (unT x0.aB x0.aB.length) _ _ _ _ _ (H116.rowC 0 rfl) (H116.rowC 6 rfl)) ?_
  rintro e119 W118 ⟨rfl, hu117⟩; refine ⟨_, rfl, ?_⟩
  have H120 := H116.no hu117; clear H116
  refine aA ?_
  refine aC rfl (rn_not rfl) rfl rfl ?_
  refine aJ ?_
  refine aG ?_
  refine iY rfl ?_
  refine wp_skip ?_
  refine aG ?_
  refine wp_seq ?_
  refine aL [0] rfl ?_
  refine aA ?_
  refine aC rfl (aN rfl) rfl rfl ?_
  refine aJ ?_
  refine aG ?_
  refine wp_seq ?_
  refine aL [0, 1, 2, 3] rfl ?_
  refine aA ?_
  refine aC rfl (aH rfl) rfl rfl ?_
  refine aA ?_
  refine aC rfl (aH rfl) rfl rfl ?_
  refine aA ?_
  refine eF rfl Tryz.call16 (vs := #[.slice B_7_1 ((unT x0.aB x0.aB.length).length) c_7_1, .int .i64 (1)]) rfl rfl rfl (heldS_Tag (unT x0.aB x0.aB.length) _ _ _ _ (H120.rowC 2 rfl) kO kO) ?_
  rintro e123 W122 ⟨rfl, hu121⟩; refine ⟨_, rfl, ?_⟩
  have H124 := H120.no hu121; clear H120
  refine aA ?_
  refine aC rfl (aN rfl) rfl rfl ?_
  refine aJ ?_
  refine aG ?_
  refine wp_seq ?_
  refine wp_seq ?_
  refine aL [0, 1] rfl ?_
  refine aA ?_
  refine aC rfl (aH rfl) rfl rfl ?_
  refine aA ?_
  refine aC rfl (j5 (p := ((1 + aQ bS (unT x0.aB x0.aB.length)) : Int) < 0) kO (lV (p := (1 + aQ bS (unT x0.aB x0.aB.length))) (q := 0) rfl rfl)) rfl rfl ?_
  refine aJ ?_
  refine aG ?_
  refine iY rfl ?_
  refine wp_skip ?_
  refine aG ?_
  refine wp_seq ?_
  refine wp_seq ?_
  refine aL [0, 1, 2] rfl ?_
  refine aA ?_
  refine aC rfl (aH rfl) rfl rfl ?_
  refine aA ?_
  refine aC rfl (aH rfl) rfl rfl ?_
  refine aA ?_
  refine aC rfl (j5 (p := ¬ ((1 + aQ bS (unT x0.aB x0.aB.length)) : Int) = (1 + aQ bS (unT x0.aB x0.aB.length))) (not_not_intro rfl) (rn_neq (p := (1 + aQ bS (unT x0.aB x0.aB.length))) (q := (1 + aQ bS (unT x0.aB x0.aB.length))) rfl rfl)) rfl rfl ?_
  refine aJ ?_
  refine aG ?_
  refine iY rfl ?_
  refine wp_skip ?_
  refine aG ?_
  refine wp_seq ?_
  refine aL [0] rfl ?_
  refine aA ?_
  refine aC rfl (aN rfl) rfl rfl ?_
  refine aJ ?_
  refine aG ?_
  refine wp_ret ?_
  refine gJ (.inl rfl) Tryz.results4 rfl ?_
  exact ⟨rfl, H124.1⟩
end Go.Proofs.YtgaoabnnpjngcaaGreatFam
