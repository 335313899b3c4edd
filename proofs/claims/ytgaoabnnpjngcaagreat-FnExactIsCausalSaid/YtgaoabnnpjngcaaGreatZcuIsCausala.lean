/- What the row needs, packed. No conditions beyond those that each law names. -/
import Derived.Test.YtgaoabnnpjngcaaGreatZcu4
import Derived.Test.YtgaoabnnpjngcaaGreatProg
import Derived.Test.YtgaoabnnpjngcaaGreatZcu1
import Derived.Test.YtgaoabnnpjngcaaGreatZcu3
namespace Go.Proofs.YtgaoabnnpjngcaaGreatFam
open Go.ChangeShapes Go.WideShapes Go.RowKit Go.Proofs.YtgaoabnnpjngcaaGreatSep Go.Proofs.YtgaoabnnpjngcaaGreatT Go.Proofs.YtgaoabnnpjngcaaGreatK
set_option linter.unusedVariables false
set_option linter.unusedSimpArgs false
attribute [local irreducible] wpOps wpOp
set_option maxHeartbeats 4000000
set_option maxRecDepth 100000
theorem law_FnExactIsCausal (w : World) (x0 : GWorld) (cs0 : List Value) (hK0 : kQ.K w x0 cs0) (hG0 : Gd_World x0) : Calls Tryz.prog 3 #[.agg cs0.toArray] w (bU true w) := by
 have hl0_ : cs0.length = 5 := kQ.K_len hK0
 have ho0_ : ∀ u ∈ (List.toArray cs0).toList, u.oneCell' = true := kQ.K_one hK0
 refine enter 27 [(0, .agg (List.toArray cs0))] Tryz.func3 rfl kR ?_
 intro xj
 have H1 : St w No [] w := St.enter
 refine wp_seq ?_
 refine aL [0, 1] rfl ?_
 refine aA ?_
 refine op_box rfl rfl rfl rfl H1 ?_
 intro g_0_0 W2 hu3 Ha4; clear H1; clear hu3
 refine aA ?_
 refine aC rfl (aN rfl) rfl rfl ?_
 refine aJ ?_
 refine aG ?_
 refine wp_seq ?_
 refine aL [0] rfl ?_
 refine aA ?_
 refine aC rfl (aN rfl) rfl rfl ?_
 refine aJ ?_
 refine aG ?_
 refine wp_seq ?_
 refine aL [0, 1, 2, 3] rfl ?_
 refine aA ?_
 refine aC rfl (gN Tryz.isAgg27 Tryz.sizeOf27 rfl (Ha4.blk 0 rfl) hl0_) rfl rfl ?_
 refine aA ?_
 refine aC rfl (aH rfl) rfl rfl ?_
 refine aA ?_
 refine eF rfl Tryz.call6 (vs := #[.agg (List.toArray cs0), .int .i64 (1048576)]) rfl rfl rfl (sz_World x0 _ _ _ (K_upd Ha4.1 hK0) (Bd_of_World hG0) kO kO) ?_
 rintro e10 W9 ⟨n7, rfl, hr8, hu6⟩; refine ⟨_, rfl, ?_⟩
 have H11 := Ha4.no hu6; clear Ha4
 refine aA ?_
 refine aC rfl (aN rfl) rfl rfl ?_
 refine aJ ?_
 refine aG ?_
 refine wp_seq ?_
 refine wp_seq ?_
 refine aL [0, 1] rfl ?_
 refine aA ?_
 refine aC rfl (aH rfl) rfl rfl ?_
 refine aA ?_
 refine aC rfl (lV rfl rfl) rfl rfl ?_
 refine aJ ?_
 refine aG ?_
 refine jP rfl (fun hc12 => ?_) (fun hc12 => ?_)
 ·refine wp_seq ?_
  refine aL [0] rfl ?_
  refine aA ?_
  refine aC rfl (aN rfl) rfl rfl ?_
  refine aJ ?_
  refine aG ?_
  refine wp_ret ?_
  refine jK ?_
  refine gJ (.inl rfl) Tryz.results3 rfl ?_
  exact ⟨rfl, H11.1⟩
 ·have hs_x0 : fU x0 ≤ 1048576 := by omega
  refine wp_skip ?_
  refine aG ?_
  refine wp_seq ?_
  refine aL [0, 1, 2, 3] rfl ?_
  refine aA ?_
  refine aC rfl (gN Tryz.isAgg27 Tryz.sizeOf27 rfl (H11.blk 0 rfl) hl0_) rfl rfl ?_
  refine aA ?_
  refine eF rfl Tryz.call8 (vs := #[.agg (List.toArray cs0)]) rfl rfl rfl (nP x0 _ _ (K_upd H11.1 hK0) hs_x0) ?_
  rintro e17 W16 ⟨cs_5_1, rfl, hM14, hu15⟩; refine ⟨_, rfl, ?_⟩
  have H20 := H11.new (q := hM cB x0 cs_5_1) hu15 hM14; clear H11
  refine aA ?_
  refine eF rfl Tryz.call7 (vs := #[.agg (List.toArray cs_5_1)]) rfl rfl rfl (isCausal_s x0 _ _ (H20.kn 0 rfl)) ?_
  rintro e23 W22 ⟨rfl, hu21⟩; refine ⟨_, rfl, ?_⟩
  have H24 := H20.no hu21; clear H20
  refine aA ?_
  refine aC rfl (aN rfl) rfl rfl ?_
  refine aJ ?_
  refine aG ?_
  refine wp_seq ?_
  refine aL [0, 1, 2, 3] rfl ?_
  refine aA ?_
  refine aC rfl (gN Tryz.isAgg27 Tryz.sizeOf27 rfl (H24.blk 1 rfl) hl0_) rfl rfl ?_
  refine aA ?_
  refine eF rfl Tryz.call8 (vs := #[.agg (List.toArray cs0)]) rfl rfl rfl (nP x0 _ _ (K_upd H24.1 hK0) hs_x0) ?_
  rintro e29 W28 ⟨cs_6_1, rfl, hM26, hu27⟩; refine ⟨_, rfl, ?_⟩
  have H32 := H24.new (q := hM cB x0 cs_6_1) hu27 hM26; clear H24
  refine aA ?_
  refine nI rfl Tryz.zeroValue35 rfl rfl H32 ?_
  intro g_6_2 W33 hu34 Ha35; clear H32; clear hu34
  refine aA ?_
  refine lW rfl Tryz.sizeOf35 rfl rfl (jO (Ha35.kn 1 rfl)) rfl (ki_World_one (Ha35.kn 1 rfl)) Ha35 ?_
  intro W37 hu38 Ha39; clear Ha35; clear hu38
  refine aJ ?_
  refine aG ?_
  refine wp_seq ?_
  refine aL [0, 1, 2] rfl ?_
  refine aA ?_
  refine aC rfl (gN Tryz.isAgg35 Tryz.sizeOf35 rfl (Ha39.blk 0 rfl) (jO (Ha39.kn 1 rfl))) rfl rfl ?_
  refine aA ?_
  refine eF rfl Tryz.call9 (vs := #[.agg (List.toArray cs_6_1)]) rfl rfl rfl (retb (isCausal_i x0 _ _ (Ha39.kn 1 rfl)) (cz_same x0.aB)) ?_
  rintro e43 W42 ⟨rfl, hu41⟩; refine ⟨_, rfl, ?_⟩
  have H44 := Ha39.no hu41; clear Ha39
  refine aA ?_
  refine aC rfl (aN rfl) rfl rfl ?_
  refine aJ ?_
  refine aG ?_
  refine wp_seq ?_
  refine wp_seq ?_
  refine aL [0, 1, 2] rfl ?_
  refine aA ?_
  refine aC rfl (aH rfl) rfl rfl ?_
  refine aA ?_
  refine aC rfl (aH rfl) rfl rfl ?_
  refine aA ?_
  refine aC rfl (rn_neqB Tryz.runUnderlying4 rfl rfl) rfl rfl ?_
  refine aJ ?_
  refine aG ?_
  refine iY rfl ?_
  refine wp_skip ?_
  refine aG ?_
  refine wp_seq ?_
  refine wp_seq ?_
  refine gV (fun W' => Blk W' g_6_2 35 (List.toArray cs_6_1) ∧ Blk W' g_0_0 27 (List.toArray cs0)) 5 kR ?_
  have H45 := H44.drew; clear H44
  have hS46 : Blk W42.drew g_6_2 35 (List.toArray cs_6_1) ∧ Blk W42.drew g_0_0 27 (List.toArray cs0) := ⟨H45.blk 0 rfl, H45.blk 3 rfl⟩
  refine aD (i := 0) rfl kR kR kR kR kR (fun _ _ _ h => h) rfl rfl hS46 (fun W' hs' => gN Tryz.isAgg35 Tryz.sizeOf35 rfl hs'.1 (jO (H45.kn 1 rfl))) ?_
  refine aD (i := 1) rfl kR kR kR kR kR (fun _ _ _ h => h) rfl rfl hS46 (fun W' hs' => gN Tryz.isAgg27 Tryz.sizeOf27 rfl hs'.2 hl0_) ?_
  refine jB (i := 2) kR ?_
  refine eF rfl Tryz.call8 (vs := #[.agg (List.toArray cs0)]) rfl rfl rfl (nP x0 _ _ (K_upd H45.1 hK0) hs_x0) ?_
  rintro e51 W50 ⟨cs_10_2, rfl, hM48, hu49⟩; refine ⟨_, rfl, ?_⟩
  have H54 := H45.new (q := hM cB x0 cs_10_2) hu49 hM48; clear H45
  have hS55 := And.intro (H54.blk 1 rfl) (H54.blk 4 rfl); refine ⟨fun _ => hS55, ?_⟩
  refine jB (i := 3) kR ?_
  refine eF rfl Tryz.call10 (vs := #[.agg (List.toArray cs_6_1), .agg (List.toArray cs_10_2)]) rfl rfl rfl (eq_World x0 _ _ _ (H54.kn 2 rfl) (H54.kn 0 rfl)) ?_
  rintro e58 W57 ⟨rfl, hu56⟩; refine ⟨_, rfl, ?_⟩
  have H59 := H54.no hu56; clear H54
  have hS60 := And.intro (H59.blk 1 rfl) (H59.blk 4 rfl); refine ⟨fun _ => hS60, ?_⟩
  refine aD (i := 4) rfl kR kR kR kR kR (fun _ _ _ h => h) rfl rfl hS60 (fun W' hs' => rn_not rfl) ?_
  refine gF kR ?_ _
  refine aG ?_
  refine iY rfl ?_
  refine wp_skip ?_
  refine aG ?_
  refine wp_seq ?_
  refine aL [0] rfl ?_
  refine aA ?_
  refine aC rfl (aN rfl) rfl rfl ?_
  refine aJ ?_
  refine aG ?_
  refine wp_ret ?_
  refine gJ (.inl rfl) Tryz.results3 rfl ?_
  exact ⟨rfl, H59.1⟩
end Go.Proofs.YtgaoabnnpjngcaaGreatFam
