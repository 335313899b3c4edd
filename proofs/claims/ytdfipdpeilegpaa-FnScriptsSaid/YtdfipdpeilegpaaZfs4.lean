/- What the row needs, packed. No conditions beyond those that each law names. -/
import Derived.Test.YtdfipdpeilegpaaZfs3
import Derived.Test.YtdfipdpeilegpaaProg
import Derived.Test.YtdfipdpeilegpaaZfs1
namespace Go.Proofs.YtdfipdpeilegpaaFam
open Go.ChangeShapes Go.WideShapes Go.RowKit Go.Proofs.YtdfipdpeilegpaaSep Go.Proofs.YtdfipdpeilegpaaT Go.Proofs.YtdfipdpeilegpaaK
set_option linter.unusedVariables false
set_option linter.unusedSimpArgs false
attribute [local irreducible] wpOps wpOp
set_option maxHeartbeats 4000000
set_option maxRecDepth 100000
theorem szB {α : Type} (s : α → Nat) (L M : List α) : bZ s (L ++ M) = bZ s L + bZ s M := by
 unfold bZ
 rw [sumS_append, List.length_append]
 omega
theorem szA {α : Type} (s : α → Nat) (L : List α) (m : α) : bZ s (L ++ [m]) = bZ s L + s m + 1 := by
 rw [szB]
 show _ + (1 + (s m + 0)) = _
 omega
theorem rep_sz (m : Nat) : bZ cK (List.replicate m bX) = m := by
 unfold bZ
 rw [List.length_replicate]
 have h : ∀ k, sumS cK (List.replicate k bX) = 0 := fun k => by
  induction k with
  | zero => rfl
  | succ k ih => rw [List.replicate_succ]; show 0 + sumS cK (List.replicate k bX) = 0; omega
 rw [h]
 omega
theorem instr_s  (bs : List Int) (gc cb : Nat) (A : Option Addr) (F0 : Nat → Prop) (w : World) (hV : CV A bs F0 w) (hn : bs.length ≤ 1048576) (h : Star [aV gc 157 A bs.length cb] w F0) : Calls Try.prog 143 #[.pointer (some ⟨gc, 0, none⟩)] w (fun e' w' => ∃ o a b c d n, e' = .returned (.agg #[.int .i64 o, .int .i64 a, .int .i64 b, .int .i64 c, .int .i64 d, .string n]) ∧ n.size ≤ 8 ∧ St w F0 [aV gc 157 A bs.length cb] w') := by
 refine enter 95 [(0, .pointer (some ⟨gc, 0, none⟩))] Try.func143 rfl kR ?_
 intro xj
 have H1 : St w F0 [aV gc 157 A bs.length cb] w := St.enterF h
 refine wp_seq ?_
 refine aI [0] rfl ?_
 refine aA ?_
 refine dD rfl Try.zeroValue118 rfl rfl H1 ?_
 intro g_0_0 W2 hu3 Ha4; clear H1; clear hu3
 refine aF ?_
 refine aH ?_
 refine wp_seq ?_
 refine aI [0, 1, 2] rfl ?_
 refine aA ?_
 refine aB rfl (aC rfl) rfl rfl ?_
 refine aA ?_
 have H8 : St w F0 [aV gc 157 A bs.length cb, hB g_0_0 118 #[.int .i64 (0), .int .i64 (0), .int .i64 (0), .int .i64 (0), .int .i64 (0), .string (⟨#[]⟩)]] W2 := Ha4.pick [1, 0] kD rfl; clear Ha4
 obtain ⟨F9, hs10, hF11, hfr12⟩ := St.frame (l0 := [aV gc 157 A bs.length cb]) (l := [hB g_0_0 118 #[.int .i64 (0), .int .i64 (0), .int .i64 (0), .int .i64 (0), .int .i64 (0), .string (⟨#[]⟩)]]) H8
 refine aK rfl Try.call44 (vs := #[.pointer (some ⟨gc, 0, none⟩), .int .i64 (4)]) rfl rfl rfl (cB 4 _ _ _ _ _ _ (CV.step hV H8.1 hF11) hn hs10) ?_
 rintro e15 W14 ⟨q6, rfl, hq7, Hn13⟩; refine ⟨_, rfl, ?_⟩
 have H16 := hfr12 _ _ Hn13; clear H8
 refine aA ?_
 refine aB rfl (aG rfl) rfl rfl ?_
 refine aF ?_
 refine aH ?_
 refine wp_seq ?_
 refine aI [0, 1, 2] rfl ?_
 refine aA ?_
 refine aB rfl (aC rfl) rfl rfl ?_
 refine aA ?_
 obtain ⟨F19, hs20, hF21, hfr22⟩ := St.frame (l0 := [aV gc 157 A bs.length cb]) (l := [hB g_0_0 118 #[.int .i64 (0), .int .i64 (0), .int .i64 (0), .int .i64 (0), .int .i64 (0), .string (⟨#[]⟩)]]) H16
 refine aK rfl Try.call44 (vs := #[.pointer (some ⟨gc, 0, none⟩), .int .i64 (4)]) rfl rfl rfl (cB 4 _ _ _ _ _ _ (CV.step hV H16.1 hF21) hn hs20) ?_
 rintro e25 W24 ⟨q17, rfl, hq18, Hn23⟩; refine ⟨_, rfl, ?_⟩
 have H26 := hfr22 _ _ Hn23; clear H16
 refine aA ?_
 refine aB rfl (aG rfl) rfl rfl ?_
 refine aF ?_
 refine aH ?_
 refine wp_seq ?_
 refine aI [0, 1, 2, 3] rfl ?_
 refine aA ?_
 refine aB rfl (aC rfl) rfl rfl ?_
 refine aA ?_
 refine bT (vs := [(0, .int .i64 (-1)), (1, .int .i64 (-1)), (2, .int .i64 (0)), (3, .int .i64 (1)), (4, .int .i64 (2))]) (cells := #[.int .i64 (-1), .int .i64 (-1), .int .i64 (0), .int .i64 (1), .int .i64 (2)]) rfl Try.runUnderlying82 Try.sizeOf3 Try.zeroValue3 rfl kD kD kR rfl rfl H26 ?_
 intro g_3_1 W27 hu28 Ha29; clear H26
 have Hb30 := St.eT (xs := ([-1, -1, 0, 1, 2] : List Int)) (h1 := fun _ => rfl) Ha29 rfl kD rfl; clear hu28
 refine aA ?_
 have H33 : St w F0 [aV gc 157 A bs.length cb, hR Kn.int 3 (.slice (some ⟨g_3_1, 0, none⟩) 5 5) ([-1, -1, 0, 1, 2] : List Int), hB g_0_0 118 #[.int .i64 (0), .int .i64 (0), .int .i64 (0), .int .i64 (0), .int .i64 (0), .string (⟨#[]⟩)]] W27 := Hb30.pick [1, 0, 2] kD rfl; clear Hb30
 obtain ⟨F34, hs35, hF36, hfr37⟩ := St.frame (l0 := [aV gc 157 A bs.length cb, hR Kn.int 3 (.slice (some ⟨g_3_1, 0, none⟩) 5 5) ([-1, -1, 0, 1, 2] : List Int)]) (l := [hB g_0_0 118 #[.int .i64 (0), .int .i64 (0), .int .i64 (0), .int .i64 (0), .int .i64 (0), .string (⟨#[]⟩)]]) H33
 refine aK rfl Try.call113 (vs := #[.pointer (some ⟨gc, 0, none⟩), .slice (some ⟨g_3_1, 0, none⟩) 5 5]) rfl rfl rfl (int_s ([-1, -1, 0, 1, 2] : List Int) _ _ kD _ _ _ _ _ _ (CV.step hV H33.1 hF36) hn hs35) ?_
 rintro e40 W39 ⟨s31, rfl, hs32, Hn38⟩; refine ⟨_, rfl, ?_⟩
 have H41 := hfr37 _ _ Hn38; clear H33
 refine aA ?_
 refine aB rfl (aG rfl) rfl rfl ?_
 refine aF ?_
 refine aH ?_
 refine wp_seq ?_
 refine wp_seq ?_
 refine aI [0, 1] rfl ?_
 refine aA ?_
 refine aB rfl (aC rfl) rfl rfl ?_
 refine aA ?_
 obtain ⟨F44, hs45, hF46, hfr47⟩ := St.frame (l0 := [aV gc 157 A bs.length cb]) (l := [hR Kn.int 3 (.slice (some ⟨g_3_1, 0, none⟩) 5 5) ([-1, -1, 0, 1, 2] : List Int), hB g_0_0 118 #[.int .i64 (0), .int .i64 (0), .int .i64 (0), .int .i64 (0), .int .i64 (0), .string (⟨#[]⟩)]]) H41
 refine aK rfl Try.call44 (vs := #[.pointer (some ⟨gc, 0, none⟩), .int .i64 (12)]) rfl rfl rfl (cB 12 _ _ _ _ _ _ (CV.step hV H41.1 hF46) hn hs45) ?_
 rintro e50 W49 ⟨q42, rfl, hq43, Hn48⟩; refine ⟨_, rfl, ?_⟩
 have H51 := hfr47 _ _ Hn48; clear H41
 refine aF ?_
 refine aH ?_
 refine wp_block ?_
 refine wp_seq ?_
 refine wp_seq ?_
 refine aI [0, 1] rfl ?_
 refine aA ?_
 refine aB rfl (bD rfl rfl) rfl rfl ?_
 refine aA ?_
 refine aB rfl (aG rfl) rfl rfl ?_
 refine aF ?_
 refine aH ?_
 refine aW rfl (fun hc52 => ?_) (fun hc52 => ?_)
 ·refine wp_skip ?_
  refine aH ?_
  refine aW rfl (fun hc53 => ?_) (fun hc53 => ?_)
  ·refine wp_seq ?_
   refine aI [0, 1, 2, 3, 4] rfl ?_
   refine aA ?_
   refine aB rfl (aC rfl) rfl rfl ?_
   refine aA ?_
   refine aB rfl (aC rfl) rfl rfl ?_
   refine aA ?_
   obtain ⟨F56, hs57, hF58, hfr59⟩ := St.frame (l0 := [aV gc 157 A bs.length cb]) (l := [hR Kn.int 3 (.slice (some ⟨g_3_1, 0, none⟩) 5 5) ([-1, -1, 0, 1, 2] : List Int), hB g_0_0 118 #[.int .i64 (0), .int .i64 (0), .int .i64 (0), .int .i64 (0), .int .i64 (0), .string (⟨#[]⟩)]]) H51
   refine aK rfl Try.call44 (vs := #[.pointer (some ⟨gc, 0, none⟩), .int .i64 (9)]) rfl rfl rfl (cB 9 _ _ _ _ _ _ (CV.step hV H51.1 hF58) hn hs57) ?_
   rintro e62 W61 ⟨q54, rfl, hq55, Hn60⟩; refine ⟨_, rfl, ?_⟩
   have H63 := hfr59 _ _ Hn60; clear H51
   refine aA ?_
   refine aB rfl (bB (vs := [(0, .int .i64 (1)), (1, .int .i64 (q6)), (2, .int .i64 (q54))]) (cells := #[.int .i64 (1), .int .i64 (q6), .int .i64 (q54), .int .i64 (0), .int .i64 (0), .string (⟨#[]⟩)]) rfl kR) rfl rfl ?_
   refine aA ?_
   have H67 : St w F0 [hB g_0_0 118 #[.int .i64 (0), .int .i64 (0), .int .i64 (0), .int .i64 (0), .int .i64 (0), .string (⟨#[]⟩)], aV gc 157 A bs.length cb, hR Kn.int 3 (.slice (some ⟨g_3_1, 0, none⟩) 5 5) ([-1, -1, 0, 1, 2] : List Int)] W61 := H63.pick [2, 0, 1] kD rfl; clear H63
   refine aU rfl Try.sizeOf118 rfl rfl rfl rfl kS H67 ?_
   intro W64 hu65 Ha66; clear H67; clear hu65
   refine aF ?_
   refine aH ?_
   refine wp_ret ?_
   refine aY ?_
   refine aR ?_
   refine bA (.inl rfl) Try.results143 Try.isAgg118 Try.sizeOf118 rfl (Ha66.blk 0 rfl) rfl ?_
   exact ⟨_, _, _, _, _, _, rfl, (Nat.le_of_ble_eq_true rfl), Ha66.pick [1] kD rfl⟩
  ·refine wp_seq ?_
   refine wp_seq ?_
   refine aI [0, 1] rfl ?_
   refine aA ?_
   refine aB rfl (bD rfl rfl) rfl rfl ?_
   refine aA ?_
   refine aB rfl (aG rfl) rfl rfl ?_
   refine aF ?_
   refine aH ?_
   refine aW rfl (fun hc69 => ?_) (fun hc69 => ?_)
   ·refine wp_skip ?_
    refine aH ?_
    refine aW rfl (fun hc70 => ?_) (fun hc70 => ?_)
    ·refine wp_seq ?_
     refine aI [0, 1, 2, 3, 4] rfl ?_
     refine aA ?_
     refine aB rfl (aC rfl) rfl rfl ?_
     refine aA ?_
     refine aB rfl (aC rfl) rfl rfl ?_
     refine aA ?_
     obtain ⟨F73, hs74, hF75, hfr76⟩ := St.frame (l0 := [aV gc 157 A bs.length cb]) (l := [hR Kn.int 3 (.slice (some ⟨g_3_1, 0, none⟩) 5 5) ([-1, -1, 0, 1, 2] : List Int), hB g_0_0 118 #[.int .i64 (0), .int .i64 (0), .int .i64 (0), .int .i64 (0), .int .i64 (0), .string (⟨#[]⟩)]]) H51
     refine aK rfl Try.call44 (vs := #[.pointer (some ⟨gc, 0, none⟩), .int .i64 (2)]) rfl rfl rfl (cB 2 _ _ _ _ _ _ (CV.step hV H51.1 hF75) hn hs74) ?_
     rintro e79 W78 ⟨q71, rfl, hq72, Hn77⟩; refine ⟨_, rfl, ?_⟩
     have H80 := hfr76 _ _ Hn77; clear H51
     refine aA ?_
     refine aB rfl (bB (vs := [(0, .int .i64 (2)), (1, .int .i64 (q6)), (2, .int .i64 (q71))]) (cells := #[.int .i64 (2), .int .i64 (q6), .int .i64 (q71), .int .i64 (0), .int .i64 (0), .string (⟨#[]⟩)]) rfl kR) rfl rfl ?_
     refine aA ?_
     have H84 : St w F0 [hB g_0_0 118 #[.int .i64 (0), .int .i64 (0), .int .i64 (0), .int .i64 (0), .int .i64 (0), .string (⟨#[]⟩)], aV gc 157 A bs.length cb, hR Kn.int 3 (.slice (some ⟨g_3_1, 0, none⟩) 5 5) ([-1, -1, 0, 1, 2] : List Int)] W78 := H80.pick [2, 0, 1] kD rfl; clear H80
     refine aU rfl Try.sizeOf118 rfl rfl rfl rfl kS H84 ?_
     intro W81 hu82 Ha83; clear H84; clear hu82
     refine aF ?_
     refine aH ?_
     refine wp_ret ?_
     refine aY ?_
     refine aR ?_
     refine bA (.inl rfl) Try.results143 Try.isAgg118 Try.sizeOf118 rfl (Ha83.blk 0 rfl) rfl ?_
     exact ⟨_, _, _, _, _, _, rfl, (Nat.le_of_ble_eq_true rfl), Ha83.pick [1] kD rfl⟩
    ·refine wp_seq ?_
     refine aI [0, 1] rfl ?_
     refine aA ?_
     refine aB rfl (bD rfl rfl) rfl rfl ?_
     refine aA ?_
     refine aB rfl (aG rfl) rfl rfl ?_
     refine aF ?_
     refine aH ?_
     refine aW rfl (fun hc86 => ?_) (fun hc86 => ?_)
     ·refine wp_seq ?_
      refine aI [0, 1, 2, 3, 4] rfl ?_
      refine aA ?_
      refine aB rfl (aC rfl) rfl rfl ?_
      refine aA ?_
      refine aB rfl (aC rfl) rfl rfl ?_
      refine aA ?_
      obtain ⟨F89, hs90, hF91, hfr92⟩ := St.frame (l0 := [aV gc 157 A bs.length cb]) (l := [hR Kn.int 3 (.slice (some ⟨g_3_1, 0, none⟩) 5 5) ([-1, -1, 0, 1, 2] : List Int), hB g_0_0 118 #[.int .i64 (0), .int .i64 (0), .int .i64 (0), .int .i64 (0), .int .i64 (0), .string (⟨#[]⟩)]]) H51
      refine aK rfl Try.call44 (vs := #[.pointer (some ⟨gc, 0, none⟩), .int .i64 (3)]) rfl rfl rfl (cB 3 _ _ _ _ _ _ (CV.step hV H51.1 hF91) hn hs90) ?_
      rintro e95 W94 ⟨q87, rfl, hq88, Hn93⟩; refine ⟨_, rfl, ?_⟩
      have H96 := hfr92 _ _ Hn93; clear H51
      refine aA ?_
      refine aB rfl (bB (vs := [(0, .int .i64 (3)), (1, .int .i64 (q6)), (2, .int .i64 (q87))]) (cells := #[.int .i64 (3), .int .i64 (q6), .int .i64 (q87), .int .i64 (0), .int .i64 (0), .string (⟨#[]⟩)]) rfl kR) rfl rfl ?_
      refine aA ?_
      have H100 : St w F0 [hB g_0_0 118 #[.int .i64 (0), .int .i64 (0), .int .i64 (0), .int .i64 (0), .int .i64 (0), .string (⟨#[]⟩)], aV gc 157 A bs.length cb, hR Kn.int 3 (.slice (some ⟨g_3_1, 0, none⟩) 5 5) ([-1, -1, 0, 1, 2] : List Int)] W94 := H96.pick [2, 0, 1] kD rfl; clear H96
      refine aU rfl Try.sizeOf118 rfl rfl rfl rfl kS H100 ?_
      intro W97 hu98 Ha99; clear H100; clear hu98
      refine aF ?_
      refine aH ?_
      refine wp_ret ?_
      refine aY ?_
      refine aR ?_
      refine bA (.inl rfl) Try.results143 Try.isAgg118 Try.sizeOf118 rfl (Ha99.blk 0 rfl) rfl ?_
      exact ⟨_, _, _, _, _, _, rfl, (Nat.le_of_ble_eq_true rfl), Ha99.pick [1] kD rfl⟩
     ·refine wp_seq ?_
      refine aI [0, 1] rfl ?_
      refine aA ?_
      refine aB rfl (bD rfl rfl) rfl rfl ?_
      refine aA ?_
      refine aB rfl (aG rfl) rfl rfl ?_
      refine aF ?_
      refine aH ?_
      refine aW rfl (fun hc102 => ?_) (fun hc102 => ?_)
      ·refine wp_seq ?_
       refine aI [0, 1, 2] rfl ?_
       refine aA ?_
       refine aB rfl (aC rfl) rfl rfl ?_
       refine aA ?_
       refine aB rfl (bB (vs := [(0, .int .i64 (4)), (1, .int .i64 (q6))]) (cells := #[.int .i64 (4), .int .i64 (q6), .int .i64 (0), .int .i64 (0), .int .i64 (0), .string (⟨#[]⟩)]) rfl kR) rfl rfl ?_
       refine aA ?_
       have H106 : St w F0 [hB g_0_0 118 #[.int .i64 (0), .int .i64 (0), .int .i64 (0), .int .i64 (0), .int .i64 (0), .string (⟨#[]⟩)], aV gc 157 A bs.length cb, hR Kn.int 3 (.slice (some ⟨g_3_1, 0, none⟩) 5 5) ([-1, -1, 0, 1, 2] : List Int)] W49 := H51.pick [2, 0, 1] kD rfl; clear H51
       refine aU rfl Try.sizeOf118 rfl rfl rfl rfl kS H106 ?_
       intro W103 hu104 Ha105; clear H106; clear hu104
       refine aF ?_
       refine aH ?_
       refine wp_ret ?_
       refine aY ?_
       refine aR ?_
       refine bA (.inl rfl) Try.results143 Try.isAgg118 Try.sizeOf118 rfl (Ha105.blk 0 rfl) rfl ?_
       exact ⟨_, _, _, _, _, _, rfl, (Nat.le_of_ble_eq_true rfl), Ha105.pick [1] kD rfl⟩
      ·refine wp_seq ?_
       refine aI [0, 1] rfl ?_
       refine aA ?_
       refine aB rfl (bD rfl rfl) rfl rfl ?_
       refine aA ?_
       refine aB rfl (aG rfl) rfl rfl ?_
       refine aF ?_
       refine aH ?_
       refine aW rfl (fun hc108 => ?_) (fun hc108 => ?_)
       ·refine wp_seq ?_
        refine aI [0, 1, 2, 3, 4, 5] rfl ?_
        refine aA ?_
        refine aB rfl (aC rfl) rfl rfl ?_
        refine aA ?_
        refine aB rfl (aC rfl) rfl rfl ?_
        refine aA ?_
        refine aB rfl (aC rfl) rfl rfl ?_
        refine aA ?_
        obtain ⟨F111, hs112, hF113, hfr114⟩ := St.frame (l0 := [aV gc 157 A bs.length cb]) (l := [hR Kn.int 3 (.slice (some ⟨g_3_1, 0, none⟩) 5 5) ([-1, -1, 0, 1, 2] : List Int), hB g_0_0 118 #[.int .i64 (0), .int .i64 (0), .int .i64 (0), .int .i64 (0), .int .i64 (0), .string (⟨#[]⟩)]]) H51
        refine aK rfl Try.call44 (vs := #[.pointer (some ⟨gc, 0, none⟩), .int .i64 (4)]) rfl rfl rfl (cB 4 _ _ _ _ _ _ (CV.step hV H51.1 hF113) hn hs112) ?_
        rintro e117 W116 ⟨q109, rfl, hq110, Hn115⟩; refine ⟨_, rfl, ?_⟩
        have H118 := hfr114 _ _ Hn115; clear H51
        refine aA ?_
        refine aB rfl (bB (vs := [(0, .int .i64 (5)), (1, .int .i64 (q6)), (2, .int .i64 (q17)), (3, .int .i64 (q109))]) (cells := #[.int .i64 (5), .int .i64 (q6), .int .i64 (q17), .int .i64 (q109), .int .i64 (0), .string (⟨#[]⟩)]) rfl kR) rfl rfl ?_
        refine aA ?_
        have H122 : St w F0 [hB g_0_0 118 #[.int .i64 (0), .int .i64 (0), .int .i64 (0), .int .i64 (0), .int .i64 (0), .string (⟨#[]⟩)], aV gc 157 A bs.length cb, hR Kn.int 3 (.slice (some ⟨g_3_1, 0, none⟩) 5 5) ([-1, -1, 0, 1, 2] : List Int)] W116 := H118.pick [2, 0, 1] kD rfl; clear H118
        refine aU rfl Try.sizeOf118 rfl rfl rfl rfl kS H122 ?_
        intro W119 hu120 Ha121; clear H122; clear hu120
        refine aF ?_
        refine aH ?_
        refine wp_ret ?_
        refine aY ?_
        refine aR ?_
        refine bA (.inl rfl) Try.results143 Try.isAgg118 Try.sizeOf118 rfl (Ha121.blk 0 rfl) rfl ?_
        exact ⟨_, _, _, _, _, _, rfl, (Nat.le_of_ble_eq_true rfl), Ha121.pick [1] kD rfl⟩
       ·refine wp_seq ?_
        refine wp_seq ?_
        refine aI [0, 1] rfl ?_
        refine aA ?_
        refine aB rfl (bD rfl rfl) rfl rfl ?_
        refine aA ?_
        refine aB rfl (aG rfl) rfl rfl ?_
        refine aF ?_
        refine aH ?_
        refine aW rfl (fun hc124 => ?_) (fun hc124 => ?_)
        ·refine wp_skip ?_
         refine aH ?_
         refine aW rfl (fun hc125 => ?_) (fun hc125 => ?_)
         ·refine wp_seq ?_
          refine wp_seq ?_
          refine aI [0, 1] rfl ?_
          refine aA ?_
          refine aB rfl (aC rfl) rfl rfl ?_
          refine aA ?_
          refine aB rfl (bD rfl rfl) rfl rfl ?_
          refine aF ?_
          refine aH ?_
          refine aW rfl (fun hc126 => ?_) (fun hc126 => ?_)
          ·refine wp_seq ?_
           refine aI [0, 1, 2, 3, 4, 5] rfl ?_
           refine aA ?_
           refine aB rfl (aC rfl) rfl rfl ?_
           refine aA ?_
           refine aB rfl (aC rfl) rfl rfl ?_
           refine aA ?_
           refine aB rfl (aC rfl) rfl rfl ?_
           refine aA ?_
           obtain ⟨F129, hs130, hF131, hfr132⟩ := St.frame (l0 := [aV gc 157 A bs.length cb]) (l := [hR Kn.int 3 (.slice (some ⟨g_3_1, 0, none⟩) 5 5) ([-1, -1, 0, 1, 2] : List Int), hB g_0_0 118 #[.int .i64 (0), .int .i64 (0), .int .i64 (0), .int .i64 (0), .int .i64 (0), .string (⟨#[]⟩)]]) H51
           refine aK rfl Try.call63 (vs := #[.pointer (some ⟨gc, 0, none⟩)]) rfl rfl rfl (fZ _ _ _ _ _ _ (CV.step hV H51.1 hF131) hn hs130) ?_
           rintro e135 W134 ⟨s127, rfl, hs128, Hn133⟩; refine ⟨_, rfl, ?_⟩
           have H136 := hfr132 _ _ Hn133; clear H51
           refine aA ?_
           refine aB rfl (bB (vs := [(0, .int .i64 (6)), (1, .int .i64 (q6)), (2, .int .i64 (q17)), (3, .int .i64 (-1)), (4, .int .i64 (-1)), (5, .string (s127))]) (cells := #[.int .i64 (6), .int .i64 (q6), .int .i64 (q17), .int .i64 (-1), .int .i64 (-1), .string (s127)]) rfl kR) rfl rfl ?_
           refine aA ?_
           have H140 : St w F0 [hB g_0_0 118 #[.int .i64 (0), .int .i64 (0), .int .i64 (0), .int .i64 (0), .int .i64 (0), .string (⟨#[]⟩)], aV gc 157 A bs.length cb, hR Kn.int 3 (.slice (some ⟨g_3_1, 0, none⟩) 5 5) ([-1, -1, 0, 1, 2] : List Int)] W134 := H136.pick [2, 0, 1] kD rfl; clear H136
           refine aU rfl Try.sizeOf118 rfl rfl rfl rfl kS H140 ?_
           intro W137 hu138 Ha139; clear H140; clear hu138
           refine aF ?_
           refine aH ?_
           refine wp_ret ?_
           refine aR ?_
           refine aY ?_
           refine aR ?_
           refine bA (.inl rfl) Try.results143 Try.isAgg118 Try.sizeOf118 rfl (Ha139.blk 0 rfl) rfl ?_
           exact ⟨_, _, _, _, _, _, rfl, (Nat.le_trans hs128 kD), Ha139.pick [1] kD rfl⟩
          ·refine wp_skip ?_
           refine aH ?_
           refine wp_seq ?_
           refine aI [0, 1, 2, 3, 4, 5, 6, 7, 8, 9] rfl ?_
           refine aA ?_
           refine aB rfl (aC rfl) rfl rfl ?_
           refine aA ?_
           refine aB rfl (aC rfl) rfl rfl ?_
           refine aA ?_
           refine aB rfl (aC rfl) rfl rfl ?_
           refine aA ?_
           refine aB rfl (aC rfl) rfl rfl ?_
           refine aA ?_
           refine bT (vs := [(0, .int .i64 (-1)), (1, .int .i64 (0)), (2, .int .i64 (3))]) (cells := #[.int .i64 (-1), .int .i64 (0), .int .i64 (3)]) rfl Try.runUnderlying82 Try.sizeOf3 Try.zeroValue3 rfl kD kD kR rfl rfl H51 ?_
           intro g_21_4 W142 hu143 Ha144; clear H51
           have Hb145 := St.eT (xs := ([-1, 0, 3] : List Int)) (h1 := fun _ => rfl) Ha144 rfl kD rfl; clear hu143
           refine aA ?_
           have H148 : St w F0 [aV gc 157 A bs.length cb, hR Kn.int 3 (.slice (some ⟨g_21_4, 0, none⟩) 3 3) ([-1, 0, 3] : List Int), hR Kn.int 3 (.slice (some ⟨g_3_1, 0, none⟩) 5 5) ([-1, -1, 0, 1, 2] : List Int), hB g_0_0 118 #[.int .i64 (0), .int .i64 (0), .int .i64 (0), .int .i64 (0), .int .i64 (0), .string (⟨#[]⟩)]] W142 := Hb145.pick [1, 0, 2, 3] kD rfl; clear Hb145
           obtain ⟨F149, hs150, hF151, hfr152⟩ := St.frame (l0 := [aV gc 157 A bs.length cb, hR Kn.int 3 (.slice (some ⟨g_21_4, 0, none⟩) 3 3) ([-1, 0, 3] : List Int)]) (l := [hR Kn.int 3 (.slice (some ⟨g_3_1, 0, none⟩) 5 5) ([-1, -1, 0, 1, 2] : List Int), hB g_0_0 118 #[.int .i64 (0), .int .i64 (0), .int .i64 (0), .int .i64 (0), .int .i64 (0), .string (⟨#[]⟩)]]) H148
           refine aK rfl Try.call113 (vs := #[.pointer (some ⟨gc, 0, none⟩), .slice (some ⟨g_21_4, 0, none⟩) 3 3]) rfl rfl rfl (int_s ([-1, 0, 3] : List Int) _ _ kD _ _ _ _ _ _ (CV.step hV H148.1 hF151) hn hs150) ?_
           rintro e155 W154 ⟨s146, rfl, hs147, Hn153⟩; refine ⟨_, rfl, ?_⟩
           have H156 := hfr152 _ _ Hn153; clear H148
           refine aA ?_
           refine aB rfl (aC rfl) rfl rfl ?_
           refine aA ?_
           obtain ⟨F159, hs160, hF161, hfr162⟩ := St.frame (l0 := [aV gc 157 A bs.length cb]) (l := [hR Kn.int 3 (.slice (some ⟨g_21_4, 0, none⟩) 3 3) ([-1, 0, 3] : List Int), hR Kn.int 3 (.slice (some ⟨g_3_1, 0, none⟩) 5 5) ([-1, -1, 0, 1, 2] : List Int), hB g_0_0 118 #[.int .i64 (0), .int .i64 (0), .int .i64 (0), .int .i64 (0), .int .i64 (0), .string (⟨#[]⟩)]]) H156
           refine aK rfl Try.call63 (vs := #[.pointer (some ⟨gc, 0, none⟩)]) rfl rfl rfl (fZ _ _ _ _ _ _ (CV.step hV H156.1 hF161) hn hs160) ?_
           rintro e165 W164 ⟨s157, rfl, hs158, Hn163⟩; refine ⟨_, rfl, ?_⟩
           have H166 := hfr162 _ _ Hn163; clear H156
           refine aA ?_
           refine aB rfl (bB (vs := [(0, .int .i64 (6)), (1, .int .i64 (q6)), (2, .int .i64 (q17)), (3, .int .i64 (s31)), (4, .int .i64 (s146)), (5, .string (s157))]) (cells := #[.int .i64 (6), .int .i64 (q6), .int .i64 (q17), .int .i64 (s31), .int .i64 (s146), .string (s157)]) rfl kR) rfl rfl ?_
           refine aA ?_
           have H170 : St w F0 [hB g_0_0 118 #[.int .i64 (0), .int .i64 (0), .int .i64 (0), .int .i64 (0), .int .i64 (0), .string (⟨#[]⟩)], aV gc 157 A bs.length cb, hR Kn.int 3 (.slice (some ⟨g_21_4, 0, none⟩) 3 3) ([-1, 0, 3] : List Int), hR Kn.int 3 (.slice (some ⟨g_3_1, 0, none⟩) 5 5) ([-1, -1, 0, 1, 2] : List Int)] W164 := H166.pick [3, 0, 1, 2] kD rfl; clear H166
           refine aU rfl Try.sizeOf118 rfl rfl rfl rfl kS H170 ?_
           intro W167 hu168 Ha169; clear H170; clear hu168
           refine aF ?_
           refine aH ?_
           refine wp_ret ?_
           refine aY ?_
           refine aR ?_
           refine bA (.inl rfl) Try.results143 Try.isAgg118 Try.sizeOf118 rfl (Ha169.blk 0 rfl) rfl ?_
           exact ⟨_, _, _, _, _, _, rfl, (Nat.le_trans hs158 kD), Ha169.pick [1] kD rfl⟩
         ·refine wp_seq ?_
          refine aI [0, 1] rfl ?_
          refine aA ?_
          refine aB rfl (bD rfl rfl) rfl rfl ?_
          refine aA ?_
          refine aB rfl (aG rfl) rfl rfl ?_
          refine aF ?_
          refine aH ?_
          refine aW rfl (fun hc172 => ?_) (fun hc172 => ?_)
          ·refine wp_seq ?_
           refine wp_seq ?_
           refine aI [0, 1] rfl ?_
           refine aA ?_
           refine aB rfl (aC rfl) rfl rfl ?_
           refine aA ?_
           refine aB rfl (bD rfl rfl) rfl rfl ?_
           refine aF ?_
           refine aH ?_
           refine aW rfl (fun hc173 => ?_) (fun hc173 => ?_)
           ·refine wp_seq ?_
            refine aI [0, 1, 2, 3, 4, 5] rfl ?_
            refine aA ?_
            refine aB rfl (aC rfl) rfl rfl ?_
            refine aA ?_
            refine aB rfl (aC rfl) rfl rfl ?_
            refine aA ?_
            refine bT (vs := [(0, .string (⟨#[99, 101, 108, 108]⟩)), (1, .string (⟨#[112, 114, 111, 120, 121]⟩)), (2, .string (⟨#[109, 97, 107, 101, 114]⟩)), (3, .string (⟨#[110, 111, 110, 101]⟩))]) (cells := #[.string (⟨#[99, 101, 108, 108]⟩), .string (⟨#[112, 114, 111, 120, 121]⟩), .string (⟨#[109, 97, 107, 101, 114]⟩), .string (⟨#[110, 111, 110, 101]⟩)]) rfl Try.runUnderlying166 Try.sizeOf9 Try.zeroValue9 rfl kD kD kR rfl rfl H51 ?_
            intro g_24_2 W174 hu175 Ha176; clear H51
            have Hb177 := St.eT (xs := ([⟨#[99, 101, 108, 108]⟩, ⟨#[112, 114, 111, 120, 121]⟩, ⟨#[109, 97, 107, 101, 114]⟩, ⟨#[110, 111, 110, 101]⟩] : List ByteArray)) (h1 := fun _ => rfl) Ha176 rfl kD rfl; clear hu175
            refine aA ?_
            have H180 : St w F0 [aV gc 157 A bs.length cb, hR Kn.string 9 (.slice (some ⟨g_24_2, 0, none⟩) 4 4) ([⟨#[99, 101, 108, 108]⟩, ⟨#[112, 114, 111, 120, 121]⟩, ⟨#[109, 97, 107, 101, 114]⟩, ⟨#[110, 111, 110, 101]⟩] : List ByteArray), hR Kn.int 3 (.slice (some ⟨g_3_1, 0, none⟩) 5 5) ([-1, -1, 0, 1, 2] : List Int), hB g_0_0 118 #[.int .i64 (0), .int .i64 (0), .int .i64 (0), .int .i64 (0), .int .i64 (0), .string (⟨#[]⟩)]] W174 := Hb177.pick [1, 0, 2, 3] kD rfl; clear Hb177
            obtain ⟨F181, hs182, hF183, hfr184⟩ := St.frame (l0 := [aV gc 157 A bs.length cb, hR Kn.string 9 (.slice (some ⟨g_24_2, 0, none⟩) 4 4) ([⟨#[99, 101, 108, 108]⟩, ⟨#[112, 114, 111, 120, 121]⟩, ⟨#[109, 97, 107, 101, 114]⟩, ⟨#[110, 111, 110, 101]⟩] : List ByteArray)]) (l := [hR Kn.int 3 (.slice (some ⟨g_3_1, 0, none⟩) 5 5) ([-1, -1, 0, 1, 2] : List Int), hB g_0_0 118 #[.int .i64 (0), .int .i64 (0), .int .i64 (0), .int .i64 (0), .int .i64 (0), .string (⟨#[]⟩)]]) H180
            refine aK rfl Try.call110 (vs := #[.pointer (some ⟨gc, 0, none⟩), .slice (some ⟨g_24_2, 0, none⟩) 4 4]) rfl rfl rfl (gV ([⟨#[99, 101, 108, 108]⟩, ⟨#[112, 114, 111, 120, 121]⟩, ⟨#[109, 97, 107, 101, 114]⟩, ⟨#[110, 111, 110, 101]⟩] : List ByteArray) _ _ kD _ _ _ _ _ _ (CV.step hV H180.1 hF183) hn hs182) ?_
            rintro e187 W186 ⟨s178, rfl, hs179, Hn185⟩; refine ⟨_, rfl, ?_⟩
            have H188 := hfr184 _ _ Hn185; clear H180
            refine aA ?_
            refine aB rfl (bB (vs := [(0, .int .i64 (7)), (1, .int .i64 (q6)), (3, .int .i64 (-1)), (4, .int .i64 (-1)), (5, .string (s178))]) (cells := #[.int .i64 (7), .int .i64 (q6), .int .i64 (0), .int .i64 (-1), .int .i64 (-1), .string (s178)]) rfl kR) rfl rfl ?_
            refine aA ?_
            have H192 : St w F0 [hB g_0_0 118 #[.int .i64 (0), .int .i64 (0), .int .i64 (0), .int .i64 (0), .int .i64 (0), .string (⟨#[]⟩)], aV gc 157 A bs.length cb, hR Kn.string 9 (.slice (some ⟨g_24_2, 0, none⟩) 4 4) ([⟨#[99, 101, 108, 108]⟩, ⟨#[112, 114, 111, 120, 121]⟩, ⟨#[109, 97, 107, 101, 114]⟩, ⟨#[110, 111, 110, 101]⟩] : List ByteArray), hR Kn.int 3 (.slice (some ⟨g_3_1, 0, none⟩) 5 5) ([-1, -1, 0, 1, 2] : List Int)] W186 := H188.pick [3, 0, 1, 2] kD rfl; clear H188
            refine aU rfl Try.sizeOf118 rfl rfl rfl rfl kS H192 ?_
            intro W189 hu190 Ha191; clear H192; clear hu190
            refine aF ?_
            refine aH ?_
            refine wp_ret ?_
            refine aR ?_
            refine aY ?_
            refine aR ?_
            refine bA (.inl rfl) Try.results143 Try.isAgg118 Try.sizeOf118 rfl (Ha191.blk 0 rfl) rfl ?_
            exact ⟨_, _, _, _, _, _, rfl, (eZ hs179 kD), Ha191.pick [1] kD rfl⟩
           ·refine wp_skip ?_
            refine aH ?_
            refine wp_seq ?_
            refine aI [0, 1, 2, 3, 4, 5, 6] rfl ?_
            refine aA ?_
            refine aB rfl (aC rfl) rfl rfl ?_
            refine aA ?_
            refine aB rfl (aC rfl) rfl rfl ?_
            refine aA ?_
            refine aB rfl (aC rfl) rfl rfl ?_
            refine aA ?_
            refine bT (vs := [(0, .string (⟨#[99, 101, 108, 108]⟩)), (1, .string (⟨#[112, 114, 111, 120, 121]⟩)), (2, .string (⟨#[109, 97, 107, 101, 114]⟩))]) (cells := #[.string (⟨#[99, 101, 108, 108]⟩), .string (⟨#[112, 114, 111, 120, 121]⟩), .string (⟨#[109, 97, 107, 101, 114]⟩)]) rfl Try.runUnderlying166 Try.sizeOf9 Try.zeroValue9 rfl kD kD kR rfl rfl H51 ?_
            intro g_25_3 W194 hu195 Ha196; clear H51
            have Hb197 := St.eT (xs := ([⟨#[99, 101, 108, 108]⟩, ⟨#[112, 114, 111, 120, 121]⟩, ⟨#[109, 97, 107, 101, 114]⟩] : List ByteArray)) (h1 := fun _ => rfl) Ha196 rfl kD rfl; clear hu195
            refine aA ?_
            have H200 : St w F0 [aV gc 157 A bs.length cb, hR Kn.string 9 (.slice (some ⟨g_25_3, 0, none⟩) 3 3) ([⟨#[99, 101, 108, 108]⟩, ⟨#[112, 114, 111, 120, 121]⟩, ⟨#[109, 97, 107, 101, 114]⟩] : List ByteArray), hR Kn.int 3 (.slice (some ⟨g_3_1, 0, none⟩) 5 5) ([-1, -1, 0, 1, 2] : List Int), hB g_0_0 118 #[.int .i64 (0), .int .i64 (0), .int .i64 (0), .int .i64 (0), .int .i64 (0), .string (⟨#[]⟩)]] W194 := Hb197.pick [1, 0, 2, 3] kD rfl; clear Hb197
            obtain ⟨F201, hs202, hF203, hfr204⟩ := St.frame (l0 := [aV gc 157 A bs.length cb, hR Kn.string 9 (.slice (some ⟨g_25_3, 0, none⟩) 3 3) ([⟨#[99, 101, 108, 108]⟩, ⟨#[112, 114, 111, 120, 121]⟩, ⟨#[109, 97, 107, 101, 114]⟩] : List ByteArray)]) (l := [hR Kn.int 3 (.slice (some ⟨g_3_1, 0, none⟩) 5 5) ([-1, -1, 0, 1, 2] : List Int), hB g_0_0 118 #[.int .i64 (0), .int .i64 (0), .int .i64 (0), .int .i64 (0), .int .i64 (0), .string (⟨#[]⟩)]]) H200
            refine aK rfl Try.call110 (vs := #[.pointer (some ⟨gc, 0, none⟩), .slice (some ⟨g_25_3, 0, none⟩) 3 3]) rfl rfl rfl (gV ([⟨#[99, 101, 108, 108]⟩, ⟨#[112, 114, 111, 120, 121]⟩, ⟨#[109, 97, 107, 101, 114]⟩] : List ByteArray) _ _ kD _ _ _ _ _ _ (CV.step hV H200.1 hF203) hn hs202) ?_
            rintro e207 W206 ⟨s198, rfl, hs199, Hn205⟩; refine ⟨_, rfl, ?_⟩
            have H208 := hfr204 _ _ Hn205; clear H200
            refine aA ?_
            refine aB rfl (bB (vs := [(0, .int .i64 (7)), (1, .int .i64 (q6)), (3, .int .i64 (s31)), (4, .int .i64 (-1)), (5, .string (s198))]) (cells := #[.int .i64 (7), .int .i64 (q6), .int .i64 (0), .int .i64 (s31), .int .i64 (-1), .string (s198)]) rfl kR) rfl rfl ?_
            refine aA ?_
            have H212 : St w F0 [hB g_0_0 118 #[.int .i64 (0), .int .i64 (0), .int .i64 (0), .int .i64 (0), .int .i64 (0), .string (⟨#[]⟩)], aV gc 157 A bs.length cb, hR Kn.string 9 (.slice (some ⟨g_25_3, 0, none⟩) 3 3) ([⟨#[99, 101, 108, 108]⟩, ⟨#[112, 114, 111, 120, 121]⟩, ⟨#[109, 97, 107, 101, 114]⟩] : List ByteArray), hR Kn.int 3 (.slice (some ⟨g_3_1, 0, none⟩) 5 5) ([-1, -1, 0, 1, 2] : List Int)] W206 := H208.pick [3, 0, 1, 2] kD rfl; clear H208
            refine aU rfl Try.sizeOf118 rfl rfl rfl rfl kS H212 ?_
            intro W209 hu210 Ha211; clear H212; clear hu210
            refine aF ?_
            refine aH ?_
            refine wp_ret ?_
            refine aY ?_
            refine aR ?_
            refine bA (.inl rfl) Try.results143 Try.isAgg118 Try.sizeOf118 rfl (Ha211.blk 0 rfl) rfl ?_
            exact ⟨_, _, _, _, _, _, rfl, (eZ hs199 kD), Ha211.pick [1] kD rfl⟩
          ·refine wp_seq ?_
           refine aI [0, 1] rfl ?_
           refine aA ?_
           refine aB rfl (bD rfl rfl) rfl rfl ?_
           refine aA ?_
           refine aB rfl (aG rfl) rfl rfl ?_
           refine aF ?_
           refine aH ?_
           refine aW rfl (fun hc214 => ?_) (fun hc214 => ?_)
           ·refine wp_seq ?_
            refine aI [0, 1, 2, 3, 4] rfl ?_
            refine aA ?_
            refine aB rfl (aC rfl) rfl rfl ?_
            refine aA ?_
            obtain ⟨F217, hs218, hF219, hfr220⟩ := St.frame (l0 := [aV gc 157 A bs.length cb]) (l := [hR Kn.int 3 (.slice (some ⟨g_3_1, 0, none⟩) 5 5) ([-1, -1, 0, 1, 2] : List Int), hB g_0_0 118 #[.int .i64 (0), .int .i64 (0), .int .i64 (0), .int .i64 (0), .int .i64 (0), .string (⟨#[]⟩)]]) H51
            refine aK rfl Try.call44 (vs := #[.pointer (some ⟨gc, 0, none⟩), .int .i64 (3)]) rfl rfl rfl (cB 3 _ _ _ _ _ _ (CV.step hV H51.1 hF219) hn hs218) ?_
            rintro e223 W222 ⟨q215, rfl, hq216, Hn221⟩; refine ⟨_, rfl, ?_⟩
            have H224 := hfr220 _ _ Hn221; clear H51
            refine aA ?_
            refine aB rfl (aC rfl) rfl rfl ?_
            refine aA ?_
            refine aB rfl (bB (vs := [(0, .int .i64 (8)), (1, .int .i64 (q215)), (2, .int .i64 (q17))]) (cells := #[.int .i64 (8), .int .i64 (q215), .int .i64 (q17), .int .i64 (0), .int .i64 (0), .string (⟨#[]⟩)]) rfl kR) rfl rfl ?_
            refine aA ?_
            have H228 : St w F0 [hB g_0_0 118 #[.int .i64 (0), .int .i64 (0), .int .i64 (0), .int .i64 (0), .int .i64 (0), .string (⟨#[]⟩)], aV gc 157 A bs.length cb, hR Kn.int 3 (.slice (some ⟨g_3_1, 0, none⟩) 5 5) ([-1, -1, 0, 1, 2] : List Int)] W222 := H224.pick [2, 0, 1] kD rfl; clear H224
            refine aU rfl Try.sizeOf118 rfl rfl rfl rfl kS H228 ?_
            intro W225 hu226 Ha227; clear H228; clear hu226
            refine aF ?_
            refine aH ?_
            refine wp_ret ?_
            refine aY ?_
            refine aR ?_
            refine bA (.inl rfl) Try.results143 Try.isAgg118 Try.sizeOf118 rfl (Ha227.blk 0 rfl) rfl ?_
            exact ⟨_, _, _, _, _, _, rfl, (Nat.le_of_ble_eq_true rfl), Ha227.pick [1] kD rfl⟩
           ·refine wp_skip ?_
            refine dR ?_
            refine aH ?_
            refine wp_seq ?_
            refine wp_seq ?_
            refine aI [0, 1] rfl ?_
            refine aA ?_
            refine aB rfl (aC rfl) rfl rfl ?_
            refine aA ?_
            obtain ⟨F231, hs232, hF233, hfr234⟩ := St.frame (l0 := [aV gc 157 A bs.length cb]) (l := [hR Kn.int 3 (.slice (some ⟨g_3_1, 0, none⟩) 5 5) ([-1, -1, 0, 1, 2] : List Int), hB g_0_0 118 #[.int .i64 (0), .int .i64 (0), .int .i64 (0), .int .i64 (0), .int .i64 (0), .string (⟨#[]⟩)]]) H51
            refine aK rfl Try.call43 (vs := #[.pointer (some ⟨gc, 0, none⟩), .int .i64 (2)]) rfl rfl rfl (once_s 2 _ _ _ _ _ _ (CV.step hV H51.1 hF233) hn hs232) ?_
            rintro e237 W236 ⟨b230, rfl, Hn235⟩; refine ⟨_, rfl, ?_⟩
            have H238 := hfr234 _ _ Hn235; clear H51
            refine aF ?_
            refine aH ?_
            refine fC (b := b230) rfl (fun hc239 => ?_) (fun hc239 => ?_)
            ·refine wp_seq ?_
             refine aI [0, 1, 2, 3, 4, 5] rfl ?_
             refine aA ?_
             refine aB rfl (aC rfl) rfl rfl ?_
             refine aA ?_
             refine aB rfl (aC rfl) rfl rfl ?_
             refine aA ?_
             obtain ⟨F242, hs243, hF244, hfr245⟩ := St.frame (l0 := [aV gc 157 A bs.length cb]) (l := [hR Kn.int 3 (.slice (some ⟨g_3_1, 0, none⟩) 5 5) ([-1, -1, 0, 1, 2] : List Int), hB g_0_0 118 #[.int .i64 (0), .int .i64 (0), .int .i64 (0), .int .i64 (0), .int .i64 (0), .string (⟨#[]⟩)]]) H238
             refine aK rfl Try.call44 (vs := #[.pointer (some ⟨gc, 0, none⟩), .int .i64 (3)]) rfl rfl rfl (cB 3 _ _ _ _ _ _ (CV.step hV H238.1 hF244) hn hs243) ?_
             rintro e248 W247 ⟨q240, rfl, hq241, Hn246⟩; refine ⟨_, rfl, ?_⟩
             have H249 := hfr245 _ _ Hn246; clear H238
             refine aA ?_
             refine aB rfl (rn_add rfl rfl kO) rfl rfl ?_
             refine aA ?_
             refine aB rfl (bB (vs := [(0, .int .i64 (9)), (1, .int .i64 (q6)), (2, .int .i64 ((1 + q240)))]) (cells := #[.int .i64 (9), .int .i64 (q6), .int .i64 ((1 + q240)), .int .i64 (0), .int .i64 (0), .string (⟨#[]⟩)]) rfl kR) rfl rfl ?_
             refine aA ?_
             have H253 : St w F0 [hB g_0_0 118 #[.int .i64 (0), .int .i64 (0), .int .i64 (0), .int .i64 (0), .int .i64 (0), .string (⟨#[]⟩)], aV gc 157 A bs.length cb, hR Kn.int 3 (.slice (some ⟨g_3_1, 0, none⟩) 5 5) ([-1, -1, 0, 1, 2] : List Int)] W247 := H249.pick [2, 0, 1] kD rfl; clear H249
             refine aU rfl Try.sizeOf118 rfl rfl rfl rfl kS H253 ?_
             intro W250 hu251 Ha252; clear H253; clear hu251
             refine aF ?_
             refine aH ?_
             refine wp_ret ?_
             refine aR ?_
             refine bA (.inl rfl) Try.results143 Try.isAgg118 Try.sizeOf118 rfl (Ha252.blk 0 rfl) rfl ?_
             exact ⟨_, _, _, _, _, _, rfl, (Nat.le_of_ble_eq_true rfl), Ha252.pick [1] kD rfl⟩
            ·refine wp_skip ?_
             refine aH ?_
             refine wp_seq ?_
             refine aI [0, 1, 2] rfl ?_
             refine aA ?_
             refine aB rfl (aC rfl) rfl rfl ?_
             refine aA ?_
             refine aB rfl (bB (vs := [(0, .int .i64 (10)), (1, .int .i64 (q6))]) (cells := #[.int .i64 (10), .int .i64 (q6), .int .i64 (0), .int .i64 (0), .int .i64 (0), .string (⟨#[]⟩)]) rfl kR) rfl rfl ?_
             refine aA ?_
             have H258 : St w F0 [hB g_0_0 118 #[.int .i64 (0), .int .i64 (0), .int .i64 (0), .int .i64 (0), .int .i64 (0), .string (⟨#[]⟩)], aV gc 157 A bs.length cb, hR Kn.int 3 (.slice (some ⟨g_3_1, 0, none⟩) 5 5) ([-1, -1, 0, 1, 2] : List Int)] W236 := H238.pick [2, 0, 1] kD rfl; clear H238
             refine aU rfl Try.sizeOf118 rfl rfl rfl rfl kS H258 ?_
             intro W255 hu256 Ha257; clear H258; clear hu256
             refine aF ?_
             refine aH ?_
             refine wp_ret ?_
             refine bA (.inl rfl) Try.results143 Try.isAgg118 Try.sizeOf118 rfl (Ha257.blk 0 rfl) rfl ?_
             exact ⟨_, _, _, _, _, _, rfl, (Nat.le_of_ble_eq_true rfl), Ha257.pick [1] kD rfl⟩
        ·refine aI [0, 1] rfl ?_
         refine aA ?_
         refine aB rfl (bD rfl rfl) rfl rfl ?_
         refine aA ?_
         refine aB rfl (aG rfl) rfl rfl ?_
         refine aF ?_
         refine aH ?_
         refine aW rfl (fun hc260 => ?_) (fun hc260 => ?_)
         ·refine wp_seq ?_
          refine wp_seq ?_
          refine aI [0, 1] rfl ?_
          refine aA ?_
          refine aB rfl (aC rfl) rfl rfl ?_
          refine aA ?_
          refine aB rfl (bD rfl rfl) rfl rfl ?_
          refine aF ?_
          refine aH ?_
          refine aW rfl (fun hc261 => ?_) (fun hc261 => ?_)
          ·refine wp_seq ?_
           refine aI [0, 1, 2, 3, 4, 5] rfl ?_
           refine aA ?_
           refine aB rfl (aC rfl) rfl rfl ?_
           refine aA ?_
           refine aB rfl (aC rfl) rfl rfl ?_
           refine aA ?_
           refine aB rfl (aC rfl) rfl rfl ?_
           refine aA ?_
           obtain ⟨F264, hs265, hF266, hfr267⟩ := St.frame (l0 := [aV gc 157 A bs.length cb]) (l := [hR Kn.int 3 (.slice (some ⟨g_3_1, 0, none⟩) 5 5) ([-1, -1, 0, 1, 2] : List Int), hB g_0_0 118 #[.int .i64 (0), .int .i64 (0), .int .i64 (0), .int .i64 (0), .int .i64 (0), .string (⟨#[]⟩)]]) H51
           refine aK rfl Try.call63 (vs := #[.pointer (some ⟨gc, 0, none⟩)]) rfl rfl rfl (fZ _ _ _ _ _ _ (CV.step hV H51.1 hF266) hn hs265) ?_
           rintro e270 W269 ⟨s262, rfl, hs263, Hn268⟩; refine ⟨_, rfl, ?_⟩
           have H271 := hfr267 _ _ Hn268; clear H51
           refine aA ?_
           refine aB rfl (bB (vs := [(0, .int .i64 (6)), (1, .int .i64 (q6)), (2, .int .i64 (q17)), (3, .int .i64 (-1)), (4, .int .i64 (-1)), (5, .string (s262))]) (cells := #[.int .i64 (6), .int .i64 (q6), .int .i64 (q17), .int .i64 (-1), .int .i64 (-1), .string (s262)]) rfl kR) rfl rfl ?_
           refine aA ?_
           have H275 : St w F0 [hB g_0_0 118 #[.int .i64 (0), .int .i64 (0), .int .i64 (0), .int .i64 (0), .int .i64 (0), .string (⟨#[]⟩)], aV gc 157 A bs.length cb, hR Kn.int 3 (.slice (some ⟨g_3_1, 0, none⟩) 5 5) ([-1, -1, 0, 1, 2] : List Int)] W269 := H271.pick [2, 0, 1] kD rfl; clear H271
           refine aU rfl Try.sizeOf118 rfl rfl rfl rfl kS H275 ?_
           intro W272 hu273 Ha274; clear H275; clear hu273
           refine aF ?_
           refine aH ?_
           refine wp_ret ?_
           refine aR ?_
           refine aY ?_
           refine aR ?_
           refine bA (.inl rfl) Try.results143 Try.isAgg118 Try.sizeOf118 rfl (Ha274.blk 0 rfl) rfl ?_
           exact ⟨_, _, _, _, _, _, rfl, (Nat.le_trans hs263 kD), Ha274.pick [1] kD rfl⟩
          ·refine wp_skip ?_
           refine aH ?_
           refine wp_seq ?_
           refine aI [0, 1, 2, 3, 4, 5, 6, 7, 8, 9] rfl ?_
           refine aA ?_
           refine aB rfl (aC rfl) rfl rfl ?_
           refine aA ?_
           refine aB rfl (aC rfl) rfl rfl ?_
           refine aA ?_
           refine aB rfl (aC rfl) rfl rfl ?_
           refine aA ?_
           refine aB rfl (aC rfl) rfl rfl ?_
           refine aA ?_
           refine bT (vs := [(0, .int .i64 (-1)), (1, .int .i64 (0)), (2, .int .i64 (3))]) (cells := #[.int .i64 (-1), .int .i64 (0), .int .i64 (3)]) rfl Try.runUnderlying82 Try.sizeOf3 Try.zeroValue3 rfl kD kD kR rfl rfl H51 ?_
           intro g_21_4 W277 hu278 Ha279; clear H51
           have Hb280 := St.eT (xs := ([-1, 0, 3] : List Int)) (h1 := fun _ => rfl) Ha279 rfl kD rfl; clear hu278
           refine aA ?_
           have H283 : St w F0 [aV gc 157 A bs.length cb, hR Kn.int 3 (.slice (some ⟨g_21_4, 0, none⟩) 3 3) ([-1, 0, 3] : List Int), hR Kn.int 3 (.slice (some ⟨g_3_1, 0, none⟩) 5 5) ([-1, -1, 0, 1, 2] : List Int), hB g_0_0 118 #[.int .i64 (0), .int .i64 (0), .int .i64 (0), .int .i64 (0), .int .i64 (0), .string (⟨#[]⟩)]] W277 := Hb280.pick [1, 0, 2, 3] kD rfl; clear Hb280
           obtain ⟨F284, hs285, hF286, hfr287⟩ := St.frame (l0 := [aV gc 157 A bs.length cb, hR Kn.int 3 (.slice (some ⟨g_21_4, 0, none⟩) 3 3) ([-1, 0, 3] : List Int)]) (l := [hR Kn.int 3 (.slice (some ⟨g_3_1, 0, none⟩) 5 5) ([-1, -1, 0, 1, 2] : List Int), hB g_0_0 118 #[.int .i64 (0), .int .i64 (0), .int .i64 (0), .int .i64 (0), .int .i64 (0), .string (⟨#[]⟩)]]) H283
           refine aK rfl Try.call113 (vs := #[.pointer (some ⟨gc, 0, none⟩), .slice (some ⟨g_21_4, 0, none⟩) 3 3]) rfl rfl rfl (int_s ([-1, 0, 3] : List Int) _ _ kD _ _ _ _ _ _ (CV.step hV H283.1 hF286) hn hs285) ?_
           rintro e290 W289 ⟨s281, rfl, hs282, Hn288⟩; refine ⟨_, rfl, ?_⟩
           have H291 := hfr287 _ _ Hn288; clear H283
           refine aA ?_
           refine aB rfl (aC rfl) rfl rfl ?_
           refine aA ?_
           obtain ⟨F294, hs295, hF296, hfr297⟩ := St.frame (l0 := [aV gc 157 A bs.length cb]) (l := [hR Kn.int 3 (.slice (some ⟨g_21_4, 0, none⟩) 3 3) ([-1, 0, 3] : List Int), hR Kn.int 3 (.slice (some ⟨g_3_1, 0, none⟩) 5 5) ([-1, -1, 0, 1, 2] : List Int), hB g_0_0 118 #[.int .i64 (0), .int .i64 (0), .int .i64 (0), .int .i64 (0), .int .i64 (0), .string (⟨#[]⟩)]]) H291
           refine aK rfl Try.call63 (vs := #[.pointer (some ⟨gc, 0, none⟩)]) rfl rfl rfl (fZ _ _ _ _ _ _ (CV.step hV H291.1 hF296) hn hs295) ?_
           rintro e300 W299 ⟨s292, rfl, hs293, Hn298⟩; refine ⟨_, rfl, ?_⟩
           have H301 := hfr297 _ _ Hn298; clear H291
           refine aA ?_
           refine aB rfl (bB (vs := [(0, .int .i64 (6)), (1, .int .i64 (q6)), (2, .int .i64 (q17)), (3, .int .i64 (s31)), (4, .int .i64 (s281)), (5, .string (s292))]) (cells := #[.int .i64 (6), .int .i64 (q6), .int .i64 (q17), .int .i64 (s31), .int .i64 (s281), .string (s292)]) rfl kR) rfl rfl ?_
           refine aA ?_
           have H305 : St w F0 [hB g_0_0 118 #[.int .i64 (0), .int .i64 (0), .int .i64 (0), .int .i64 (0), .int .i64 (0), .string (⟨#[]⟩)], aV gc 157 A bs.length cb, hR Kn.int 3 (.slice (some ⟨g_21_4, 0, none⟩) 3 3) ([-1, 0, 3] : List Int), hR Kn.int 3 (.slice (some ⟨g_3_1, 0, none⟩) 5 5) ([-1, -1, 0, 1, 2] : List Int)] W299 := H301.pick [3, 0, 1, 2] kD rfl; clear H301
           refine aU rfl Try.sizeOf118 rfl rfl rfl rfl kS H305 ?_
           intro W302 hu303 Ha304; clear H305; clear hu303
           refine aF ?_
           refine aH ?_
           refine wp_ret ?_
           refine aY ?_
           refine aR ?_
           refine bA (.inl rfl) Try.results143 Try.isAgg118 Try.sizeOf118 rfl (Ha304.blk 0 rfl) rfl ?_
           exact ⟨_, _, _, _, _, _, rfl, (Nat.le_trans hs293 kD), Ha304.pick [1] kD rfl⟩
         ·refine wp_seq ?_
          refine aI [0, 1] rfl ?_
          refine aA ?_
          refine aB rfl (bD rfl rfl) rfl rfl ?_
          refine aA ?_
          refine aB rfl (aG rfl) rfl rfl ?_
          refine aF ?_
          refine aH ?_
          refine aW rfl (fun hc307 => ?_) (fun hc307 => ?_)
          ·refine wp_seq ?_
           refine wp_seq ?_
           refine aI [0, 1] rfl ?_
           refine aA ?_
           refine aB rfl (aC rfl) rfl rfl ?_
           refine aA ?_
           refine aB rfl (bD rfl rfl) rfl rfl ?_
           refine aF ?_
           refine aH ?_
           refine aW rfl (fun hc308 => ?_) (fun hc308 => ?_)
           ·refine wp_seq ?_
            refine aI [0, 1, 2, 3, 4, 5] rfl ?_
            refine aA ?_
            refine aB rfl (aC rfl) rfl rfl ?_
            refine aA ?_
            refine aB rfl (aC rfl) rfl rfl ?_
            refine aA ?_
            refine bT (vs := [(0, .string (⟨#[99, 101, 108, 108]⟩)), (1, .string (⟨#[112, 114, 111, 120, 121]⟩)), (2, .string (⟨#[109, 97, 107, 101, 114]⟩)), (3, .string (⟨#[110, 111, 110, 101]⟩))]) (cells := #[.string (⟨#[99, 101, 108, 108]⟩), .string (⟨#[112, 114, 111, 120, 121]⟩), .string (⟨#[109, 97, 107, 101, 114]⟩), .string (⟨#[110, 111, 110, 101]⟩)]) rfl Try.runUnderlying166 Try.sizeOf9 Try.zeroValue9 rfl kD kD kR rfl rfl H51 ?_
            intro g_24_2 W309 hu310 Ha311; clear H51
            have Hb312 := St.eT (xs := ([⟨#[99, 101, 108, 108]⟩, ⟨#[112, 114, 111, 120, 121]⟩, ⟨#[109, 97, 107, 101, 114]⟩, ⟨#[110, 111, 110, 101]⟩] : List ByteArray)) (h1 := fun _ => rfl) Ha311 rfl kD rfl; clear hu310
            refine aA ?_
            have H315 : St w F0 [aV gc 157 A bs.length cb, hR Kn.string 9 (.slice (some ⟨g_24_2, 0, none⟩) 4 4) ([⟨#[99, 101, 108, 108]⟩, ⟨#[112, 114, 111, 120, 121]⟩, ⟨#[109, 97, 107, 101, 114]⟩, ⟨#[110, 111, 110, 101]⟩] : List ByteArray), hR Kn.int 3 (.slice (some ⟨g_3_1, 0, none⟩) 5 5) ([-1, -1, 0, 1, 2] : List Int), hB g_0_0 118 #[.int .i64 (0), .int .i64 (0), .int .i64 (0), .int .i64 (0), .int .i64 (0), .string (⟨#[]⟩)]] W309 := Hb312.pick [1, 0, 2, 3] kD rfl; clear Hb312
            obtain ⟨F316, hs317, hF318, hfr319⟩ := St.frame (l0 := [aV gc 157 A bs.length cb, hR Kn.string 9 (.slice (some ⟨g_24_2, 0, none⟩) 4 4) ([⟨#[99, 101, 108, 108]⟩, ⟨#[112, 114, 111, 120, 121]⟩, ⟨#[109, 97, 107, 101, 114]⟩, ⟨#[110, 111, 110, 101]⟩] : List ByteArray)]) (l := [hR Kn.int 3 (.slice (some ⟨g_3_1, 0, none⟩) 5 5) ([-1, -1, 0, 1, 2] : List Int), hB g_0_0 118 #[.int .i64 (0), .int .i64 (0), .int .i64 (0), .int .i64 (0), .int .i64 (0), .string (⟨#[]⟩)]]) H315
            refine aK rfl Try.call110 (vs := #[.pointer (some ⟨gc, 0, none⟩), .slice (some ⟨g_24_2, 0, none⟩) 4 4]) rfl rfl rfl (gV ([⟨#[99, 101, 108, 108]⟩, ⟨#[112, 114, 111, 120, 121]⟩, ⟨#[109, 97, 107, 101, 114]⟩, ⟨#[110, 111, 110, 101]⟩] : List ByteArray) _ _ kD _ _ _ _ _ _ (CV.step hV H315.1 hF318) hn hs317) ?_
            rintro e322 W321 ⟨s313, rfl, hs314, Hn320⟩; refine ⟨_, rfl, ?_⟩
            have H323 := hfr319 _ _ Hn320; clear H315
            refine aA ?_
            refine aB rfl (bB (vs := [(0, .int .i64 (7)), (1, .int .i64 (q6)), (3, .int .i64 (-1)), (4, .int .i64 (-1)), (5, .string (s313))]) (cells := #[.int .i64 (7), .int .i64 (q6), .int .i64 (0), .int .i64 (-1), .int .i64 (-1), .string (s313)]) rfl kR) rfl rfl ?_
            refine aA ?_
            have H327 : St w F0 [hB g_0_0 118 #[.int .i64 (0), .int .i64 (0), .int .i64 (0), .int .i64 (0), .int .i64 (0), .string (⟨#[]⟩)], aV gc 157 A bs.length cb, hR Kn.string 9 (.slice (some ⟨g_24_2, 0, none⟩) 4 4) ([⟨#[99, 101, 108, 108]⟩, ⟨#[112, 114, 111, 120, 121]⟩, ⟨#[109, 97, 107, 101, 114]⟩, ⟨#[110, 111, 110, 101]⟩] : List ByteArray), hR Kn.int 3 (.slice (some ⟨g_3_1, 0, none⟩) 5 5) ([-1, -1, 0, 1, 2] : List Int)] W321 := H323.pick [3, 0, 1, 2] kD rfl; clear H323
            refine aU rfl Try.sizeOf118 rfl rfl rfl rfl kS H327 ?_
            intro W324 hu325 Ha326; clear H327; clear hu325
            refine aF ?_
            refine aH ?_
            refine wp_ret ?_
            refine aR ?_
            refine aY ?_
            refine aR ?_
            refine bA (.inl rfl) Try.results143 Try.isAgg118 Try.sizeOf118 rfl (Ha326.blk 0 rfl) rfl ?_
            exact ⟨_, _, _, _, _, _, rfl, (eZ hs314 kD), Ha326.pick [1] kD rfl⟩
           ·refine wp_skip ?_
            refine aH ?_
            refine wp_seq ?_
            refine aI [0, 1, 2, 3, 4, 5, 6] rfl ?_
            refine aA ?_
            refine aB rfl (aC rfl) rfl rfl ?_
            refine aA ?_
            refine aB rfl (aC rfl) rfl rfl ?_
            refine aA ?_
            refine aB rfl (aC rfl) rfl rfl ?_
            refine aA ?_
            refine bT (vs := [(0, .string (⟨#[99, 101, 108, 108]⟩)), (1, .string (⟨#[112, 114, 111, 120, 121]⟩)), (2, .string (⟨#[109, 97, 107, 101, 114]⟩))]) (cells := #[.string (⟨#[99, 101, 108, 108]⟩), .string (⟨#[112, 114, 111, 120, 121]⟩), .string (⟨#[109, 97, 107, 101, 114]⟩)]) rfl Try.runUnderlying166 Try.sizeOf9 Try.zeroValue9 rfl kD kD kR rfl rfl H51 ?_
            intro g_25_3 W329 hu330 Ha331; clear H51
            have Hb332 := St.eT (xs := ([⟨#[99, 101, 108, 108]⟩, ⟨#[112, 114, 111, 120, 121]⟩, ⟨#[109, 97, 107, 101, 114]⟩] : List ByteArray)) (h1 := fun _ => rfl) Ha331 rfl kD rfl; clear hu330
            refine aA ?_
            have H335 : St w F0 [aV gc 157 A bs.length cb, hR Kn.string 9 (.slice (some ⟨g_25_3, 0, none⟩) 3 3) ([⟨#[99, 101, 108, 108]⟩, ⟨#[112, 114, 111, 120, 121]⟩, ⟨#[109, 97, 107, 101, 114]⟩] : List ByteArray), hR Kn.int 3 (.slice (some ⟨g_3_1, 0, none⟩) 5 5) ([-1, -1, 0, 1, 2] : List Int), hB g_0_0 118 #[.int .i64 (0), .int .i64 (0), .int .i64 (0), .int .i64 (0), .int .i64 (0), .string (⟨#[]⟩)]] W329 := Hb332.pick [1, 0, 2, 3] kD rfl; clear Hb332
            obtain ⟨F336, hs337, hF338, hfr339⟩ := St.frame (l0 := [aV gc 157 A bs.length cb, hR Kn.string 9 (.slice (some ⟨g_25_3, 0, none⟩) 3 3) ([⟨#[99, 101, 108, 108]⟩, ⟨#[112, 114, 111, 120, 121]⟩, ⟨#[109, 97, 107, 101, 114]⟩] : List ByteArray)]) (l := [hR Kn.int 3 (.slice (some ⟨g_3_1, 0, none⟩) 5 5) ([-1, -1, 0, 1, 2] : List Int), hB g_0_0 118 #[.int .i64 (0), .int .i64 (0), .int .i64 (0), .int .i64 (0), .int .i64 (0), .string (⟨#[]⟩)]]) H335
            refine aK rfl Try.call110 (vs := #[.pointer (some ⟨gc, 0, none⟩), .slice (some ⟨g_25_3, 0, none⟩) 3 3]) rfl rfl rfl (gV ([⟨#[99, 101, 108, 108]⟩, ⟨#[112, 114, 111, 120, 121]⟩, ⟨#[109, 97, 107, 101, 114]⟩] : List ByteArray) _ _ kD _ _ _ _ _ _ (CV.step hV H335.1 hF338) hn hs337) ?_
            rintro e342 W341 ⟨s333, rfl, hs334, Hn340⟩; refine ⟨_, rfl, ?_⟩
            have H343 := hfr339 _ _ Hn340; clear H335
            refine aA ?_
            refine aB rfl (bB (vs := [(0, .int .i64 (7)), (1, .int .i64 (q6)), (3, .int .i64 (s31)), (4, .int .i64 (-1)), (5, .string (s333))]) (cells := #[.int .i64 (7), .int .i64 (q6), .int .i64 (0), .int .i64 (s31), .int .i64 (-1), .string (s333)]) rfl kR) rfl rfl ?_
            refine aA ?_
            have H347 : St w F0 [hB g_0_0 118 #[.int .i64 (0), .int .i64 (0), .int .i64 (0), .int .i64 (0), .int .i64 (0), .string (⟨#[]⟩)], aV gc 157 A bs.length cb, hR Kn.string 9 (.slice (some ⟨g_25_3, 0, none⟩) 3 3) ([⟨#[99, 101, 108, 108]⟩, ⟨#[112, 114, 111, 120, 121]⟩, ⟨#[109, 97, 107, 101, 114]⟩] : List ByteArray), hR Kn.int 3 (.slice (some ⟨g_3_1, 0, none⟩) 5 5) ([-1, -1, 0, 1, 2] : List Int)] W341 := H343.pick [3, 0, 1, 2] kD rfl; clear H343
            refine aU rfl Try.sizeOf118 rfl rfl rfl rfl kS H347 ?_
            intro W344 hu345 Ha346; clear H347; clear hu345
            refine aF ?_
            refine aH ?_
            refine wp_ret ?_
            refine aY ?_
            refine aR ?_
            refine bA (.inl rfl) Try.results143 Try.isAgg118 Try.sizeOf118 rfl (Ha346.blk 0 rfl) rfl ?_
            exact ⟨_, _, _, _, _, _, rfl, (eZ hs334 kD), Ha346.pick [1] kD rfl⟩
          ·refine wp_seq ?_
           refine aI [0, 1] rfl ?_
           refine aA ?_
           refine aB rfl (bD rfl rfl) rfl rfl ?_
           refine aA ?_
           refine aB rfl (aG rfl) rfl rfl ?_
           refine aF ?_
           refine aH ?_
           refine aW rfl (fun hc349 => ?_) (fun hc349 => ?_)
           ·refine wp_seq ?_
            refine aI [0, 1, 2, 3, 4] rfl ?_
            refine aA ?_
            refine aB rfl (aC rfl) rfl rfl ?_
            refine aA ?_
            obtain ⟨F352, hs353, hF354, hfr355⟩ := St.frame (l0 := [aV gc 157 A bs.length cb]) (l := [hR Kn.int 3 (.slice (some ⟨g_3_1, 0, none⟩) 5 5) ([-1, -1, 0, 1, 2] : List Int), hB g_0_0 118 #[.int .i64 (0), .int .i64 (0), .int .i64 (0), .int .i64 (0), .int .i64 (0), .string (⟨#[]⟩)]]) H51
            refine aK rfl Try.call44 (vs := #[.pointer (some ⟨gc, 0, none⟩), .int .i64 (3)]) rfl rfl rfl (cB 3 _ _ _ _ _ _ (CV.step hV H51.1 hF354) hn hs353) ?_
            rintro e358 W357 ⟨q350, rfl, hq351, Hn356⟩; refine ⟨_, rfl, ?_⟩
            have H359 := hfr355 _ _ Hn356; clear H51
            refine aA ?_
            refine aB rfl (aC rfl) rfl rfl ?_
            refine aA ?_
            refine aB rfl (bB (vs := [(0, .int .i64 (8)), (1, .int .i64 (q350)), (2, .int .i64 (q17))]) (cells := #[.int .i64 (8), .int .i64 (q350), .int .i64 (q17), .int .i64 (0), .int .i64 (0), .string (⟨#[]⟩)]) rfl kR) rfl rfl ?_
            refine aA ?_
            have H363 : St w F0 [hB g_0_0 118 #[.int .i64 (0), .int .i64 (0), .int .i64 (0), .int .i64 (0), .int .i64 (0), .string (⟨#[]⟩)], aV gc 157 A bs.length cb, hR Kn.int 3 (.slice (some ⟨g_3_1, 0, none⟩) 5 5) ([-1, -1, 0, 1, 2] : List Int)] W357 := H359.pick [2, 0, 1] kD rfl; clear H359
            refine aU rfl Try.sizeOf118 rfl rfl rfl rfl kS H363 ?_
            intro W360 hu361 Ha362; clear H363; clear hu361
            refine aF ?_
            refine aH ?_
            refine wp_ret ?_
            refine aY ?_
            refine aR ?_
            refine bA (.inl rfl) Try.results143 Try.isAgg118 Try.sizeOf118 rfl (Ha362.blk 0 rfl) rfl ?_
            exact ⟨_, _, _, _, _, _, rfl, (Nat.le_of_ble_eq_true rfl), Ha362.pick [1] kD rfl⟩
           ·refine wp_skip ?_
            refine dR ?_
            refine aH ?_
            refine wp_seq ?_
            refine wp_seq ?_
            refine aI [0, 1] rfl ?_
            refine aA ?_
            refine aB rfl (aC rfl) rfl rfl ?_
            refine aA ?_
            obtain ⟨F366, hs367, hF368, hfr369⟩ := St.frame (l0 := [aV gc 157 A bs.length cb]) (l := [hR Kn.int 3 (.slice (some ⟨g_3_1, 0, none⟩) 5 5) ([-1, -1, 0, 1, 2] : List Int), hB g_0_0 118 #[.int .i64 (0), .int .i64 (0), .int .i64 (0), .int .i64 (0), .int .i64 (0), .string (⟨#[]⟩)]]) H51
            refine aK rfl Try.call43 (vs := #[.pointer (some ⟨gc, 0, none⟩), .int .i64 (2)]) rfl rfl rfl (once_s 2 _ _ _ _ _ _ (CV.step hV H51.1 hF368) hn hs367) ?_
            rintro e372 W371 ⟨b365, rfl, Hn370⟩; refine ⟨_, rfl, ?_⟩
            have H373 := hfr369 _ _ Hn370; clear H51
            refine aF ?_
            refine aH ?_
            refine fC (b := b365) rfl (fun hc374 => ?_) (fun hc374 => ?_)
            ·refine wp_seq ?_
             refine aI [0, 1, 2, 3, 4, 5] rfl ?_
             refine aA ?_
             refine aB rfl (aC rfl) rfl rfl ?_
             refine aA ?_
             refine aB rfl (aC rfl) rfl rfl ?_
             refine aA ?_
             obtain ⟨F377, hs378, hF379, hfr380⟩ := St.frame (l0 := [aV gc 157 A bs.length cb]) (l := [hR Kn.int 3 (.slice (some ⟨g_3_1, 0, none⟩) 5 5) ([-1, -1, 0, 1, 2] : List Int), hB g_0_0 118 #[.int .i64 (0), .int .i64 (0), .int .i64 (0), .int .i64 (0), .int .i64 (0), .string (⟨#[]⟩)]]) H373
             refine aK rfl Try.call44 (vs := #[.pointer (some ⟨gc, 0, none⟩), .int .i64 (3)]) rfl rfl rfl (cB 3 _ _ _ _ _ _ (CV.step hV H373.1 hF379) hn hs378) ?_
             rintro e383 W382 ⟨q375, rfl, hq376, Hn381⟩; refine ⟨_, rfl, ?_⟩
             have H384 := hfr380 _ _ Hn381; clear H373
             refine aA ?_
             refine aB rfl (rn_add rfl rfl kO) rfl rfl ?_
             refine aA ?_
             refine aB rfl (bB (vs := [(0, .int .i64 (9)), (1, .int .i64 (q6)), (2, .int .i64 ((1 + q375)))]) (cells := #[.int .i64 (9), .int .i64 (q6), .int .i64 ((1 + q375)), .int .i64 (0), .int .i64 (0), .string (⟨#[]⟩)]) rfl kR) rfl rfl ?_
             refine aA ?_
             have H388 : St w F0 [hB g_0_0 118 #[.int .i64 (0), .int .i64 (0), .int .i64 (0), .int .i64 (0), .int .i64 (0), .string (⟨#[]⟩)], aV gc 157 A bs.length cb, hR Kn.int 3 (.slice (some ⟨g_3_1, 0, none⟩) 5 5) ([-1, -1, 0, 1, 2] : List Int)] W382 := H384.pick [2, 0, 1] kD rfl; clear H384
             refine aU rfl Try.sizeOf118 rfl rfl rfl rfl kS H388 ?_
             intro W385 hu386 Ha387; clear H388; clear hu386
             refine aF ?_
             refine aH ?_
             refine wp_ret ?_
             refine aR ?_
             refine bA (.inl rfl) Try.results143 Try.isAgg118 Try.sizeOf118 rfl (Ha387.blk 0 rfl) rfl ?_
             exact ⟨_, _, _, _, _, _, rfl, (Nat.le_of_ble_eq_true rfl), Ha387.pick [1] kD rfl⟩
            ·refine wp_skip ?_
             refine aH ?_
             refine wp_seq ?_
             refine aI [0, 1, 2] rfl ?_
             refine aA ?_
             refine aB rfl (aC rfl) rfl rfl ?_
             refine aA ?_
             refine aB rfl (bB (vs := [(0, .int .i64 (10)), (1, .int .i64 (q6))]) (cells := #[.int .i64 (10), .int .i64 (q6), .int .i64 (0), .int .i64 (0), .int .i64 (0), .string (⟨#[]⟩)]) rfl kR) rfl rfl ?_
             refine aA ?_
             have H393 : St w F0 [hB g_0_0 118 #[.int .i64 (0), .int .i64 (0), .int .i64 (0), .int .i64 (0), .int .i64 (0), .string (⟨#[]⟩)], aV gc 157 A bs.length cb, hR Kn.int 3 (.slice (some ⟨g_3_1, 0, none⟩) 5 5) ([-1, -1, 0, 1, 2] : List Int)] W371 := H373.pick [2, 0, 1] kD rfl; clear H373
             refine aU rfl Try.sizeOf118 rfl rfl rfl rfl kS H393 ?_
             intro W390 hu391 Ha392; clear H393; clear hu391
             refine aF ?_
             refine aH ?_
             refine wp_ret ?_
             refine bA (.inl rfl) Try.results143 Try.isAgg118 Try.sizeOf118 rfl (Ha392.blk 0 rfl) rfl ?_
             exact ⟨_, _, _, _, _, _, rfl, (Nat.le_of_ble_eq_true rfl), Ha392.pick [1] kD rfl⟩
   ·refine aI [0, 1] rfl ?_
    refine aA ?_
    refine aB rfl (bD rfl rfl) rfl rfl ?_
    refine aA ?_
    refine aB rfl (aG rfl) rfl rfl ?_
    refine aF ?_
    refine aH ?_
    refine aW rfl (fun hc395 => ?_) (fun hc395 => ?_)
    ·refine wp_seq ?_
     refine aI [0, 1, 2, 3, 4] rfl ?_
     refine aA ?_
     refine aB rfl (aC rfl) rfl rfl ?_
     refine aA ?_
     refine aB rfl (aC rfl) rfl rfl ?_
     refine aA ?_
     obtain ⟨F398, hs399, hF400, hfr401⟩ := St.frame (l0 := [aV gc 157 A bs.length cb]) (l := [hR Kn.int 3 (.slice (some ⟨g_3_1, 0, none⟩) 5 5) ([-1, -1, 0, 1, 2] : List Int), hB g_0_0 118 #[.int .i64 (0), .int .i64 (0), .int .i64 (0), .int .i64 (0), .int .i64 (0), .string (⟨#[]⟩)]]) H51
     refine aK rfl Try.call44 (vs := #[.pointer (some ⟨gc, 0, none⟩), .int .i64 (2)]) rfl rfl rfl (cB 2 _ _ _ _ _ _ (CV.step hV H51.1 hF400) hn hs399) ?_
     rintro e404 W403 ⟨q396, rfl, hq397, Hn402⟩; refine ⟨_, rfl, ?_⟩
     have H405 := hfr401 _ _ Hn402; clear H51
     refine aA ?_
     refine aB rfl (bB (vs := [(0, .int .i64 (2)), (1, .int .i64 (q6)), (2, .int .i64 (q396))]) (cells := #[.int .i64 (2), .int .i64 (q6), .int .i64 (q396), .int .i64 (0), .int .i64 (0), .string (⟨#[]⟩)]) rfl kR) rfl rfl ?_
     refine aA ?_
     have H409 : St w F0 [hB g_0_0 118 #[.int .i64 (0), .int .i64 (0), .int .i64 (0), .int .i64 (0), .int .i64 (0), .string (⟨#[]⟩)], aV gc 157 A bs.length cb, hR Kn.int 3 (.slice (some ⟨g_3_1, 0, none⟩) 5 5) ([-1, -1, 0, 1, 2] : List Int)] W403 := H405.pick [2, 0, 1] kD rfl; clear H405
     refine aU rfl Try.sizeOf118 rfl rfl rfl rfl kS H409 ?_
     intro W406 hu407 Ha408; clear H409; clear hu407
     refine aF ?_
     refine aH ?_
     refine wp_ret ?_
     refine aY ?_
     refine aR ?_
     refine bA (.inl rfl) Try.results143 Try.isAgg118 Try.sizeOf118 rfl (Ha408.blk 0 rfl) rfl ?_
     exact ⟨_, _, _, _, _, _, rfl, (Nat.le_of_ble_eq_true rfl), Ha408.pick [1] kD rfl⟩
    ·refine wp_seq ?_
     refine aI [0, 1] rfl ?_
     refine aA ?_
     refine aB rfl (bD rfl rfl) rfl rfl ?_
     refine aA ?_
     refine aB rfl (aG rfl) rfl rfl ?_
     refine aF ?_
     refine aH ?_
     refine aW rfl (fun hc411 => ?_) (fun hc411 => ?_)
     ·refine wp_seq ?_
      refine aI [0, 1, 2, 3, 4] rfl ?_
      refine aA ?_
      refine aB rfl (aC rfl) rfl rfl ?_
      refine aA ?_
      refine aB rfl (aC rfl) rfl rfl ?_
      refine aA ?_
      obtain ⟨F414, hs415, hF416, hfr417⟩ := St.frame (l0 := [aV gc 157 A bs.length cb]) (l := [hR Kn.int 3 (.slice (some ⟨g_3_1, 0, none⟩) 5 5) ([-1, -1, 0, 1, 2] : List Int), hB g_0_0 118 #[.int .i64 (0), .int .i64 (0), .int .i64 (0), .int .i64 (0), .int .i64 (0), .string (⟨#[]⟩)]]) H51
      refine aK rfl Try.call44 (vs := #[.pointer (some ⟨gc, 0, none⟩), .int .i64 (3)]) rfl rfl rfl (cB 3 _ _ _ _ _ _ (CV.step hV H51.1 hF416) hn hs415) ?_
      rintro e420 W419 ⟨q412, rfl, hq413, Hn418⟩; refine ⟨_, rfl, ?_⟩
      have H421 := hfr417 _ _ Hn418; clear H51
      refine aA ?_
      refine aB rfl (bB (vs := [(0, .int .i64 (3)), (1, .int .i64 (q6)), (2, .int .i64 (q412))]) (cells := #[.int .i64 (3), .int .i64 (q6), .int .i64 (q412), .int .i64 (0), .int .i64 (0), .string (⟨#[]⟩)]) rfl kR) rfl rfl ?_
      refine aA ?_
      have H425 : St w F0 [hB g_0_0 118 #[.int .i64 (0), .int .i64 (0), .int .i64 (0), .int .i64 (0), .int .i64 (0), .string (⟨#[]⟩)], aV gc 157 A bs.length cb, hR Kn.int 3 (.slice (some ⟨g_3_1, 0, none⟩) 5 5) ([-1, -1, 0, 1, 2] : List Int)] W419 := H421.pick [2, 0, 1] kD rfl; clear H421
      refine aU rfl Try.sizeOf118 rfl rfl rfl rfl kS H425 ?_
      intro W422 hu423 Ha424; clear H425; clear hu423
      refine aF ?_
      refine aH ?_
      refine wp_ret ?_
      refine aY ?_
      refine aR ?_
      refine bA (.inl rfl) Try.results143 Try.isAgg118 Try.sizeOf118 rfl (Ha424.blk 0 rfl) rfl ?_
      exact ⟨_, _, _, _, _, _, rfl, (Nat.le_of_ble_eq_true rfl), Ha424.pick [1] kD rfl⟩
     ·refine wp_seq ?_
      refine aI [0, 1] rfl ?_
      refine aA ?_
      refine aB rfl (bD rfl rfl) rfl rfl ?_
      refine aA ?_
      refine aB rfl (aG rfl) rfl rfl ?_
      refine aF ?_
      refine aH ?_
      refine aW rfl (fun hc427 => ?_) (fun hc427 => ?_)
      ·refine wp_seq ?_
       refine aI [0, 1, 2] rfl ?_
       refine aA ?_
       refine aB rfl (aC rfl) rfl rfl ?_
       refine aA ?_
       refine aB rfl (bB (vs := [(0, .int .i64 (4)), (1, .int .i64 (q6))]) (cells := #[.int .i64 (4), .int .i64 (q6), .int .i64 (0), .int .i64 (0), .int .i64 (0), .string (⟨#[]⟩)]) rfl kR) rfl rfl ?_
       refine aA ?_
       have H431 : St w F0 [hB g_0_0 118 #[.int .i64 (0), .int .i64 (0), .int .i64 (0), .int .i64 (0), .int .i64 (0), .string (⟨#[]⟩)], aV gc 157 A bs.length cb, hR Kn.int 3 (.slice (some ⟨g_3_1, 0, none⟩) 5 5) ([-1, -1, 0, 1, 2] : List Int)] W49 := H51.pick [2, 0, 1] kD rfl; clear H51
       refine aU rfl Try.sizeOf118 rfl rfl rfl rfl kS H431 ?_
       intro W428 hu429 Ha430; clear H431; clear hu429
       refine aF ?_
       refine aH ?_
       refine wp_ret ?_
       refine aY ?_
       refine aR ?_
       refine bA (.inl rfl) Try.results143 Try.isAgg118 Try.sizeOf118 rfl (Ha430.blk 0 rfl) rfl ?_
       exact ⟨_, _, _, _, _, _, rfl, (Nat.le_of_ble_eq_true rfl), Ha430.pick [1] kD rfl⟩
      ·refine wp_seq ?_
       refine aI [0, 1] rfl ?_
       refine aA ?_
       refine aB rfl (bD rfl rfl) rfl rfl ?_
       refine aA ?_
       refine aB rfl (aG rfl) rfl rfl ?_
       refine aF ?_
       refine aH ?_
       refine aW rfl (fun hc433 => ?_) (fun hc433 => ?_)
       ·refine wp_seq ?_
        refine aI [0, 1, 2, 3, 4, 5] rfl ?_
        refine aA ?_
        refine aB rfl (aC rfl) rfl rfl ?_
        refine aA ?_
        refine aB rfl (aC rfl) rfl rfl ?_
        refine aA ?_
        refine aB rfl (aC rfl) rfl rfl ?_
        refine aA ?_
        obtain ⟨F436, hs437, hF438, hfr439⟩ := St.frame (l0 := [aV gc 157 A bs.length cb]) (l := [hR Kn.int 3 (.slice (some ⟨g_3_1, 0, none⟩) 5 5) ([-1, -1, 0, 1, 2] : List Int), hB g_0_0 118 #[.int .i64 (0), .int .i64 (0), .int .i64 (0), .int .i64 (0), .int .i64 (0), .string (⟨#[]⟩)]]) H51
        refine aK rfl Try.call44 (vs := #[.pointer (some ⟨gc, 0, none⟩), .int .i64 (4)]) rfl rfl rfl (cB 4 _ _ _ _ _ _ (CV.step hV H51.1 hF438) hn hs437) ?_
        rintro e442 W441 ⟨q434, rfl, hq435, Hn440⟩; refine ⟨_, rfl, ?_⟩
        have H443 := hfr439 _ _ Hn440; clear H51
        refine aA ?_
        refine aB rfl (bB (vs := [(0, .int .i64 (5)), (1, .int .i64 (q6)), (2, .int .i64 (q17)), (3, .int .i64 (q434))]) (cells := #[.int .i64 (5), .int .i64 (q6), .int .i64 (q17), .int .i64 (q434), .int .i64 (0), .string (⟨#[]⟩)]) rfl kR) rfl rfl ?_
        refine aA ?_
        have H447 : St w F0 [hB g_0_0 118 #[.int .i64 (0), .int .i64 (0), .int .i64 (0), .int .i64 (0), .int .i64 (0), .string (⟨#[]⟩)], aV gc 157 A bs.length cb, hR Kn.int 3 (.slice (some ⟨g_3_1, 0, none⟩) 5 5) ([-1, -1, 0, 1, 2] : List Int)] W441 := H443.pick [2, 0, 1] kD rfl; clear H443
        refine aU rfl Try.sizeOf118 rfl rfl rfl rfl kS H447 ?_
        intro W444 hu445 Ha446; clear H447; clear hu445
        refine aF ?_
        refine aH ?_
        refine wp_ret ?_
        refine aY ?_
        refine aR ?_
        refine bA (.inl rfl) Try.results143 Try.isAgg118 Try.sizeOf118 rfl (Ha446.blk 0 rfl) rfl ?_
        exact ⟨_, _, _, _, _, _, rfl, (Nat.le_of_ble_eq_true rfl), Ha446.pick [1] kD rfl⟩
       ·refine wp_seq ?_
        refine wp_seq ?_
        refine aI [0, 1] rfl ?_
        refine aA ?_
        refine aB rfl (bD rfl rfl) rfl rfl ?_
        refine aA ?_
        refine aB rfl (aG rfl) rfl rfl ?_
        refine aF ?_
        refine aH ?_
        refine aW rfl (fun hc449 => ?_) (fun hc449 => ?_)
        ·refine wp_skip ?_
         refine aH ?_
         refine aW rfl (fun hc450 => ?_) (fun hc450 => ?_)
         ·refine wp_seq ?_
          refine wp_seq ?_
          refine aI [0, 1] rfl ?_
          refine aA ?_
          refine aB rfl (aC rfl) rfl rfl ?_
          refine aA ?_
          refine aB rfl (bD rfl rfl) rfl rfl ?_
          refine aF ?_
          refine aH ?_
          refine aW rfl (fun hc451 => ?_) (fun hc451 => ?_)
          ·refine wp_seq ?_
           refine aI [0, 1, 2, 3, 4, 5] rfl ?_
           refine aA ?_
           refine aB rfl (aC rfl) rfl rfl ?_
           refine aA ?_
           refine aB rfl (aC rfl) rfl rfl ?_
           refine aA ?_
           refine aB rfl (aC rfl) rfl rfl ?_
           refine aA ?_
           obtain ⟨F454, hs455, hF456, hfr457⟩ := St.frame (l0 := [aV gc 157 A bs.length cb]) (l := [hR Kn.int 3 (.slice (some ⟨g_3_1, 0, none⟩) 5 5) ([-1, -1, 0, 1, 2] : List Int), hB g_0_0 118 #[.int .i64 (0), .int .i64 (0), .int .i64 (0), .int .i64 (0), .int .i64 (0), .string (⟨#[]⟩)]]) H51
           refine aK rfl Try.call63 (vs := #[.pointer (some ⟨gc, 0, none⟩)]) rfl rfl rfl (fZ _ _ _ _ _ _ (CV.step hV H51.1 hF456) hn hs455) ?_
           rintro e460 W459 ⟨s452, rfl, hs453, Hn458⟩; refine ⟨_, rfl, ?_⟩
           have H461 := hfr457 _ _ Hn458; clear H51
           refine aA ?_
           refine aB rfl (bB (vs := [(0, .int .i64 (6)), (1, .int .i64 (q6)), (2, .int .i64 (q17)), (3, .int .i64 (-1)), (4, .int .i64 (-1)), (5, .string (s452))]) (cells := #[.int .i64 (6), .int .i64 (q6), .int .i64 (q17), .int .i64 (-1), .int .i64 (-1), .string (s452)]) rfl kR) rfl rfl ?_
           refine aA ?_
           have H465 : St w F0 [hB g_0_0 118 #[.int .i64 (0), .int .i64 (0), .int .i64 (0), .int .i64 (0), .int .i64 (0), .string (⟨#[]⟩)], aV gc 157 A bs.length cb, hR Kn.int 3 (.slice (some ⟨g_3_1, 0, none⟩) 5 5) ([-1, -1, 0, 1, 2] : List Int)] W459 := H461.pick [2, 0, 1] kD rfl; clear H461
           refine aU rfl Try.sizeOf118 rfl rfl rfl rfl kS H465 ?_
           intro W462 hu463 Ha464; clear H465; clear hu463
           refine aF ?_
           refine aH ?_
           refine wp_ret ?_
           refine aR ?_
           refine aY ?_
           refine aR ?_
           refine bA (.inl rfl) Try.results143 Try.isAgg118 Try.sizeOf118 rfl (Ha464.blk 0 rfl) rfl ?_
           exact ⟨_, _, _, _, _, _, rfl, (Nat.le_trans hs453 kD), Ha464.pick [1] kD rfl⟩
          ·refine wp_skip ?_
           refine aH ?_
           refine wp_seq ?_
           refine aI [0, 1, 2, 3, 4, 5, 6, 7, 8, 9] rfl ?_
           refine aA ?_
           refine aB rfl (aC rfl) rfl rfl ?_
           refine aA ?_
           refine aB rfl (aC rfl) rfl rfl ?_
           refine aA ?_
           refine aB rfl (aC rfl) rfl rfl ?_
           refine aA ?_
           refine aB rfl (aC rfl) rfl rfl ?_
           refine aA ?_
           refine bT (vs := [(0, .int .i64 (-1)), (1, .int .i64 (0)), (2, .int .i64 (3))]) (cells := #[.int .i64 (-1), .int .i64 (0), .int .i64 (3)]) rfl Try.runUnderlying82 Try.sizeOf3 Try.zeroValue3 rfl kD kD kR rfl rfl H51 ?_
           intro g_21_4 W467 hu468 Ha469; clear H51
           have Hb470 := St.eT (xs := ([-1, 0, 3] : List Int)) (h1 := fun _ => rfl) Ha469 rfl kD rfl; clear hu468
           refine aA ?_
           have H473 : St w F0 [aV gc 157 A bs.length cb, hR Kn.int 3 (.slice (some ⟨g_21_4, 0, none⟩) 3 3) ([-1, 0, 3] : List Int), hR Kn.int 3 (.slice (some ⟨g_3_1, 0, none⟩) 5 5) ([-1, -1, 0, 1, 2] : List Int), hB g_0_0 118 #[.int .i64 (0), .int .i64 (0), .int .i64 (0), .int .i64 (0), .int .i64 (0), .string (⟨#[]⟩)]] W467 := Hb470.pick [1, 0, 2, 3] kD rfl; clear Hb470
           obtain ⟨F474, hs475, hF476, hfr477⟩ := St.frame (l0 := [aV gc 157 A bs.length cb, hR Kn.int 3 (.slice (some ⟨g_21_4, 0, none⟩) 3 3) ([-1, 0, 3] : List Int)]) (l := [hR Kn.int 3 (.slice (some ⟨g_3_1, 0, none⟩) 5 5) ([-1, -1, 0, 1, 2] : List Int), hB g_0_0 118 #[.int .i64 (0), .int .i64 (0), .int .i64 (0), .int .i64 (0), .int .i64 (0), .string (⟨#[]⟩)]]) H473
           refine aK rfl Try.call113 (vs := #[.pointer (some ⟨gc, 0, none⟩), .slice (some ⟨g_21_4, 0, none⟩) 3 3]) rfl rfl rfl (int_s ([-1, 0, 3] : List Int) _ _ kD _ _ _ _ _ _ (CV.step hV H473.1 hF476) hn hs475) ?_
           rintro e480 W479 ⟨s471, rfl, hs472, Hn478⟩; refine ⟨_, rfl, ?_⟩
           have H481 := hfr477 _ _ Hn478; clear H473
           refine aA ?_
           refine aB rfl (aC rfl) rfl rfl ?_
           refine aA ?_
           obtain ⟨F484, hs485, hF486, hfr487⟩ := St.frame (l0 := [aV gc 157 A bs.length cb]) (l := [hR Kn.int 3 (.slice (some ⟨g_21_4, 0, none⟩) 3 3) ([-1, 0, 3] : List Int), hR Kn.int 3 (.slice (some ⟨g_3_1, 0, none⟩) 5 5) ([-1, -1, 0, 1, 2] : List Int), hB g_0_0 118 #[.int .i64 (0), .int .i64 (0), .int .i64 (0), .int .i64 (0), .int .i64 (0), .string (⟨#[]⟩)]]) H481
           refine aK rfl Try.call63 (vs := #[.pointer (some ⟨gc, 0, none⟩)]) rfl rfl rfl (fZ _ _ _ _ _ _ (CV.step hV H481.1 hF486) hn hs485) ?_
           rintro e490 W489 ⟨s482, rfl, hs483, Hn488⟩; refine ⟨_, rfl, ?_⟩
           have H491 := hfr487 _ _ Hn488; clear H481
           refine aA ?_
           refine aB rfl (bB (vs := [(0, .int .i64 (6)), (1, .int .i64 (q6)), (2, .int .i64 (q17)), (3, .int .i64 (s31)), (4, .int .i64 (s471)), (5, .string (s482))]) (cells := #[.int .i64 (6), .int .i64 (q6), .int .i64 (q17), .int .i64 (s31), .int .i64 (s471), .string (s482)]) rfl kR) rfl rfl ?_
           refine aA ?_
           have H495 : St w F0 [hB g_0_0 118 #[.int .i64 (0), .int .i64 (0), .int .i64 (0), .int .i64 (0), .int .i64 (0), .string (⟨#[]⟩)], aV gc 157 A bs.length cb, hR Kn.int 3 (.slice (some ⟨g_21_4, 0, none⟩) 3 3) ([-1, 0, 3] : List Int), hR Kn.int 3 (.slice (some ⟨g_3_1, 0, none⟩) 5 5) ([-1, -1, 0, 1, 2] : List Int)] W489 := H491.pick [3, 0, 1, 2] kD rfl; clear H491
           refine aU rfl Try.sizeOf118 rfl rfl rfl rfl kS H495 ?_
           intro W492 hu493 Ha494; clear H495; clear hu493
           refine aF ?_
           refine aH ?_
           refine wp_ret ?_
           refine aY ?_
           refine aR ?_
           refine bA (.inl rfl) Try.results143 Try.isAgg118 Try.sizeOf118 rfl (Ha494.blk 0 rfl) rfl ?_
           exact ⟨_, _, _, _, _, _, rfl, (Nat.le_trans hs483 kD), Ha494.pick [1] kD rfl⟩
         ·refine wp_seq ?_
          refine aI [0, 1] rfl ?_
          refine aA ?_
          refine aB rfl (bD rfl rfl) rfl rfl ?_
          refine aA ?_
          refine aB rfl (aG rfl) rfl rfl ?_
          refine aF ?_
          refine aH ?_
          refine aW rfl (fun hc497 => ?_) (fun hc497 => ?_)
          ·refine wp_seq ?_
           refine wp_seq ?_
           refine aI [0, 1] rfl ?_
           refine aA ?_
           refine aB rfl (aC rfl) rfl rfl ?_
           refine aA ?_
           refine aB rfl (bD rfl rfl) rfl rfl ?_
           refine aF ?_
           refine aH ?_
           refine aW rfl (fun hc498 => ?_) (fun hc498 => ?_)
           ·refine wp_seq ?_
            refine aI [0, 1, 2, 3, 4, 5] rfl ?_
            refine aA ?_
            refine aB rfl (aC rfl) rfl rfl ?_
            refine aA ?_
            refine aB rfl (aC rfl) rfl rfl ?_
            refine aA ?_
            refine bT (vs := [(0, .string (⟨#[99, 101, 108, 108]⟩)), (1, .string (⟨#[112, 114, 111, 120, 121]⟩)), (2, .string (⟨#[109, 97, 107, 101, 114]⟩)), (3, .string (⟨#[110, 111, 110, 101]⟩))]) (cells := #[.string (⟨#[99, 101, 108, 108]⟩), .string (⟨#[112, 114, 111, 120, 121]⟩), .string (⟨#[109, 97, 107, 101, 114]⟩), .string (⟨#[110, 111, 110, 101]⟩)]) rfl Try.runUnderlying166 Try.sizeOf9 Try.zeroValue9 rfl kD kD kR rfl rfl H51 ?_
            intro g_24_2 W499 hu500 Ha501; clear H51
            have Hb502 := St.eT (xs := ([⟨#[99, 101, 108, 108]⟩, ⟨#[112, 114, 111, 120, 121]⟩, ⟨#[109, 97, 107, 101, 114]⟩, ⟨#[110, 111, 110, 101]⟩] : List ByteArray)) (h1 := fun _ => rfl) Ha501 rfl kD rfl; clear hu500
            refine aA ?_
            have H505 : St w F0 [aV gc 157 A bs.length cb, hR Kn.string 9 (.slice (some ⟨g_24_2, 0, none⟩) 4 4) ([⟨#[99, 101, 108, 108]⟩, ⟨#[112, 114, 111, 120, 121]⟩, ⟨#[109, 97, 107, 101, 114]⟩, ⟨#[110, 111, 110, 101]⟩] : List ByteArray), hR Kn.int 3 (.slice (some ⟨g_3_1, 0, none⟩) 5 5) ([-1, -1, 0, 1, 2] : List Int), hB g_0_0 118 #[.int .i64 (0), .int .i64 (0), .int .i64 (0), .int .i64 (0), .int .i64 (0), .string (⟨#[]⟩)]] W499 := Hb502.pick [1, 0, 2, 3] kD rfl; clear Hb502
            obtain ⟨F506, hs507, hF508, hfr509⟩ := St.frame (l0 := [aV gc 157 A bs.length cb, hR Kn.string 9 (.slice (some ⟨g_24_2, 0, none⟩) 4 4) ([⟨#[99, 101, 108, 108]⟩, ⟨#[112, 114, 111, 120, 121]⟩, ⟨#[109, 97, 107, 101, 114]⟩, ⟨#[110, 111, 110, 101]⟩] : List ByteArray)]) (l := [hR Kn.int 3 (.slice (some ⟨g_3_1, 0, none⟩) 5 5) ([-1, -1, 0, 1, 2] : List Int), hB g_0_0 118 #[.int .i64 (0), .int .i64 (0), .int .i64 (0), .int .i64 (0), .int .i64 (0), .string (⟨#[]⟩)]]) H505
            refine aK rfl Try.call110 (vs := #[.pointer (some ⟨gc, 0, none⟩), .slice (some ⟨g_24_2, 0, none⟩) 4 4]) rfl rfl rfl (gV ([⟨#[99, 101, 108, 108]⟩, ⟨#[112, 114, 111, 120, 121]⟩, ⟨#[109, 97, 107, 101, 114]⟩, ⟨#[110, 111, 110, 101]⟩] : List ByteArray) _ _ kD _ _ _ _ _ _ (CV.step hV H505.1 hF508) hn hs507) ?_
            rintro e512 W511 ⟨s503, rfl, hs504, Hn510⟩; refine ⟨_, rfl, ?_⟩
            have H513 := hfr509 _ _ Hn510; clear H505
            refine aA ?_
            refine aB rfl (bB (vs := [(0, .int .i64 (7)), (1, .int .i64 (q6)), (3, .int .i64 (-1)), (4, .int .i64 (-1)), (5, .string (s503))]) (cells := #[.int .i64 (7), .int .i64 (q6), .int .i64 (0), .int .i64 (-1), .int .i64 (-1), .string (s503)]) rfl kR) rfl rfl ?_
            refine aA ?_
            have H517 : St w F0 [hB g_0_0 118 #[.int .i64 (0), .int .i64 (0), .int .i64 (0), .int .i64 (0), .int .i64 (0), .string (⟨#[]⟩)], aV gc 157 A bs.length cb, hR Kn.string 9 (.slice (some ⟨g_24_2, 0, none⟩) 4 4) ([⟨#[99, 101, 108, 108]⟩, ⟨#[112, 114, 111, 120, 121]⟩, ⟨#[109, 97, 107, 101, 114]⟩, ⟨#[110, 111, 110, 101]⟩] : List ByteArray), hR Kn.int 3 (.slice (some ⟨g_3_1, 0, none⟩) 5 5) ([-1, -1, 0, 1, 2] : List Int)] W511 := H513.pick [3, 0, 1, 2] kD rfl; clear H513
            refine aU rfl Try.sizeOf118 rfl rfl rfl rfl kS H517 ?_
            intro W514 hu515 Ha516; clear H517; clear hu515
            refine aF ?_
            refine aH ?_
            refine wp_ret ?_
            refine aR ?_
            refine aY ?_
            refine aR ?_
            refine bA (.inl rfl) Try.results143 Try.isAgg118 Try.sizeOf118 rfl (Ha516.blk 0 rfl) rfl ?_
            exact ⟨_, _, _, _, _, _, rfl, (eZ hs504 kD), Ha516.pick [1] kD rfl⟩
           ·refine wp_skip ?_
            refine aH ?_
            refine wp_seq ?_
            refine aI [0, 1, 2, 3, 4, 5, 6] rfl ?_
            refine aA ?_
            refine aB rfl (aC rfl) rfl rfl ?_
            refine aA ?_
            refine aB rfl (aC rfl) rfl rfl ?_
            refine aA ?_
            refine aB rfl (aC rfl) rfl rfl ?_
            refine aA ?_
            refine bT (vs := [(0, .string (⟨#[99, 101, 108, 108]⟩)), (1, .string (⟨#[112, 114, 111, 120, 121]⟩)), (2, .string (⟨#[109, 97, 107, 101, 114]⟩))]) (cells := #[.string (⟨#[99, 101, 108, 108]⟩), .string (⟨#[112, 114, 111, 120, 121]⟩), .string (⟨#[109, 97, 107, 101, 114]⟩)]) rfl Try.runUnderlying166 Try.sizeOf9 Try.zeroValue9 rfl kD kD kR rfl rfl H51 ?_
            intro g_25_3 W519 hu520 Ha521; clear H51
            have Hb522 := St.eT (xs := ([⟨#[99, 101, 108, 108]⟩, ⟨#[112, 114, 111, 120, 121]⟩, ⟨#[109, 97, 107, 101, 114]⟩] : List ByteArray)) (h1 := fun _ => rfl) Ha521 rfl kD rfl; clear hu520
            refine aA ?_
            have H525 : St w F0 [aV gc 157 A bs.length cb, hR Kn.string 9 (.slice (some ⟨g_25_3, 0, none⟩) 3 3) ([⟨#[99, 101, 108, 108]⟩, ⟨#[112, 114, 111, 120, 121]⟩, ⟨#[109, 97, 107, 101, 114]⟩] : List ByteArray), hR Kn.int 3 (.slice (some ⟨g_3_1, 0, none⟩) 5 5) ([-1, -1, 0, 1, 2] : List Int), hB g_0_0 118 #[.int .i64 (0), .int .i64 (0), .int .i64 (0), .int .i64 (0), .int .i64 (0), .string (⟨#[]⟩)]] W519 := Hb522.pick [1, 0, 2, 3] kD rfl; clear Hb522
            obtain ⟨F526, hs527, hF528, hfr529⟩ := St.frame (l0 := [aV gc 157 A bs.length cb, hR Kn.string 9 (.slice (some ⟨g_25_3, 0, none⟩) 3 3) ([⟨#[99, 101, 108, 108]⟩, ⟨#[112, 114, 111, 120, 121]⟩, ⟨#[109, 97, 107, 101, 114]⟩] : List ByteArray)]) (l := [hR Kn.int 3 (.slice (some ⟨g_3_1, 0, none⟩) 5 5) ([-1, -1, 0, 1, 2] : List Int), hB g_0_0 118 #[.int .i64 (0), .int .i64 (0), .int .i64 (0), .int .i64 (0), .int .i64 (0), .string (⟨#[]⟩)]]) H525
            refine aK rfl Try.call110 (vs := #[.pointer (some ⟨gc, 0, none⟩), .slice (some ⟨g_25_3, 0, none⟩) 3 3]) rfl rfl rfl (gV ([⟨#[99, 101, 108, 108]⟩, ⟨#[112, 114, 111, 120, 121]⟩, ⟨#[109, 97, 107, 101, 114]⟩] : List ByteArray) _ _ kD _ _ _ _ _ _ (CV.step hV H525.1 hF528) hn hs527) ?_
            rintro e532 W531 ⟨s523, rfl, hs524, Hn530⟩; refine ⟨_, rfl, ?_⟩
            have H533 := hfr529 _ _ Hn530; clear H525
            refine aA ?_
            refine aB rfl (bB (vs := [(0, .int .i64 (7)), (1, .int .i64 (q6)), (3, .int .i64 (s31)), (4, .int .i64 (-1)), (5, .string (s523))]) (cells := #[.int .i64 (7), .int .i64 (q6), .int .i64 (0), .int .i64 (s31), .int .i64 (-1), .string (s523)]) rfl kR) rfl rfl ?_
            refine aA ?_
            have H537 : St w F0 [hB g_0_0 118 #[.int .i64 (0), .int .i64 (0), .int .i64 (0), .int .i64 (0), .int .i64 (0), .string (⟨#[]⟩)], aV gc 157 A bs.length cb, hR Kn.string 9 (.slice (some ⟨g_25_3, 0, none⟩) 3 3) ([⟨#[99, 101, 108, 108]⟩, ⟨#[112, 114, 111, 120, 121]⟩, ⟨#[109, 97, 107, 101, 114]⟩] : List ByteArray), hR Kn.int 3 (.slice (some ⟨g_3_1, 0, none⟩) 5 5) ([-1, -1, 0, 1, 2] : List Int)] W531 := H533.pick [3, 0, 1, 2] kD rfl; clear H533
            refine aU rfl Try.sizeOf118 rfl rfl rfl rfl kS H537 ?_
            intro W534 hu535 Ha536; clear H537; clear hu535
            refine aF ?_
            refine aH ?_
            refine wp_ret ?_
            refine aY ?_
            refine aR ?_
            refine bA (.inl rfl) Try.results143 Try.isAgg118 Try.sizeOf118 rfl (Ha536.blk 0 rfl) rfl ?_
            exact ⟨_, _, _, _, _, _, rfl, (eZ hs524 kD), Ha536.pick [1] kD rfl⟩
          ·refine wp_seq ?_
           refine aI [0, 1] rfl ?_
           refine aA ?_
           refine aB rfl (bD rfl rfl) rfl rfl ?_
           refine aA ?_
           refine aB rfl (aG rfl) rfl rfl ?_
           refine aF ?_
           refine aH ?_
           refine aW rfl (fun hc539 => ?_) (fun hc539 => ?_)
           ·refine wp_seq ?_
            refine aI [0, 1, 2, 3, 4] rfl ?_
            refine aA ?_
            refine aB rfl (aC rfl) rfl rfl ?_
            refine aA ?_
            obtain ⟨F542, hs543, hF544, hfr545⟩ := St.frame (l0 := [aV gc 157 A bs.length cb]) (l := [hR Kn.int 3 (.slice (some ⟨g_3_1, 0, none⟩) 5 5) ([-1, -1, 0, 1, 2] : List Int), hB g_0_0 118 #[.int .i64 (0), .int .i64 (0), .int .i64 (0), .int .i64 (0), .int .i64 (0), .string (⟨#[]⟩)]]) H51
            refine aK rfl Try.call44 (vs := #[.pointer (some ⟨gc, 0, none⟩), .int .i64 (3)]) rfl rfl rfl (cB 3 _ _ _ _ _ _ (CV.step hV H51.1 hF544) hn hs543) ?_
            rintro e548 W547 ⟨q540, rfl, hq541, Hn546⟩; refine ⟨_, rfl, ?_⟩
            have H549 := hfr545 _ _ Hn546; clear H51
            refine aA ?_
            refine aB rfl (aC rfl) rfl rfl ?_
            refine aA ?_
            refine aB rfl (bB (vs := [(0, .int .i64 (8)), (1, .int .i64 (q540)), (2, .int .i64 (q17))]) (cells := #[.int .i64 (8), .int .i64 (q540), .int .i64 (q17), .int .i64 (0), .int .i64 (0), .string (⟨#[]⟩)]) rfl kR) rfl rfl ?_
            refine aA ?_
            have H553 : St w F0 [hB g_0_0 118 #[.int .i64 (0), .int .i64 (0), .int .i64 (0), .int .i64 (0), .int .i64 (0), .string (⟨#[]⟩)], aV gc 157 A bs.length cb, hR Kn.int 3 (.slice (some ⟨g_3_1, 0, none⟩) 5 5) ([-1, -1, 0, 1, 2] : List Int)] W547 := H549.pick [2, 0, 1] kD rfl; clear H549
            refine aU rfl Try.sizeOf118 rfl rfl rfl rfl kS H553 ?_
            intro W550 hu551 Ha552; clear H553; clear hu551
            refine aF ?_
            refine aH ?_
            refine wp_ret ?_
            refine aY ?_
            refine aR ?_
            refine bA (.inl rfl) Try.results143 Try.isAgg118 Try.sizeOf118 rfl (Ha552.blk 0 rfl) rfl ?_
            exact ⟨_, _, _, _, _, _, rfl, (Nat.le_of_ble_eq_true rfl), Ha552.pick [1] kD rfl⟩
           ·refine wp_skip ?_
            refine dR ?_
            refine aH ?_
            refine wp_seq ?_
            refine wp_seq ?_
            refine aI [0, 1] rfl ?_
            refine aA ?_
            refine aB rfl (aC rfl) rfl rfl ?_
            refine aA ?_
            obtain ⟨F556, hs557, hF558, hfr559⟩ := St.frame (l0 := [aV gc 157 A bs.length cb]) (l := [hR Kn.int 3 (.slice (some ⟨g_3_1, 0, none⟩) 5 5) ([-1, -1, 0, 1, 2] : List Int), hB g_0_0 118 #[.int .i64 (0), .int .i64 (0), .int .i64 (0), .int .i64 (0), .int .i64 (0), .string (⟨#[]⟩)]]) H51
            refine aK rfl Try.call43 (vs := #[.pointer (some ⟨gc, 0, none⟩), .int .i64 (2)]) rfl rfl rfl (once_s 2 _ _ _ _ _ _ (CV.step hV H51.1 hF558) hn hs557) ?_
            rintro e562 W561 ⟨b555, rfl, Hn560⟩; refine ⟨_, rfl, ?_⟩
            have H563 := hfr559 _ _ Hn560; clear H51
            refine aF ?_
            refine aH ?_
            refine fC (b := b555) rfl (fun hc564 => ?_) (fun hc564 => ?_)
            ·refine wp_seq ?_
             refine aI [0, 1, 2, 3, 4, 5] rfl ?_
             refine aA ?_
             refine aB rfl (aC rfl) rfl rfl ?_
             refine aA ?_
             refine aB rfl (aC rfl) rfl rfl ?_
             refine aA ?_
             obtain ⟨F567, hs568, hF569, hfr570⟩ := St.frame (l0 := [aV gc 157 A bs.length cb]) (l := [hR Kn.int 3 (.slice (some ⟨g_3_1, 0, none⟩) 5 5) ([-1, -1, 0, 1, 2] : List Int), hB g_0_0 118 #[.int .i64 (0), .int .i64 (0), .int .i64 (0), .int .i64 (0), .int .i64 (0), .string (⟨#[]⟩)]]) H563
             refine aK rfl Try.call44 (vs := #[.pointer (some ⟨gc, 0, none⟩), .int .i64 (3)]) rfl rfl rfl (cB 3 _ _ _ _ _ _ (CV.step hV H563.1 hF569) hn hs568) ?_
             rintro e573 W572 ⟨q565, rfl, hq566, Hn571⟩; refine ⟨_, rfl, ?_⟩
             have H574 := hfr570 _ _ Hn571; clear H563
             refine aA ?_
             refine aB rfl (rn_add rfl rfl kO) rfl rfl ?_
             refine aA ?_
             refine aB rfl (bB (vs := [(0, .int .i64 (9)), (1, .int .i64 (q6)), (2, .int .i64 ((1 + q565)))]) (cells := #[.int .i64 (9), .int .i64 (q6), .int .i64 ((1 + q565)), .int .i64 (0), .int .i64 (0), .string (⟨#[]⟩)]) rfl kR) rfl rfl ?_
             refine aA ?_
             have H578 : St w F0 [hB g_0_0 118 #[.int .i64 (0), .int .i64 (0), .int .i64 (0), .int .i64 (0), .int .i64 (0), .string (⟨#[]⟩)], aV gc 157 A bs.length cb, hR Kn.int 3 (.slice (some ⟨g_3_1, 0, none⟩) 5 5) ([-1, -1, 0, 1, 2] : List Int)] W572 := H574.pick [2, 0, 1] kD rfl; clear H574
             refine aU rfl Try.sizeOf118 rfl rfl rfl rfl kS H578 ?_
             intro W575 hu576 Ha577; clear H578; clear hu576
             refine aF ?_
             refine aH ?_
             refine wp_ret ?_
             refine aR ?_
             refine bA (.inl rfl) Try.results143 Try.isAgg118 Try.sizeOf118 rfl (Ha577.blk 0 rfl) rfl ?_
             exact ⟨_, _, _, _, _, _, rfl, (Nat.le_of_ble_eq_true rfl), Ha577.pick [1] kD rfl⟩
            ·refine wp_skip ?_
             refine aH ?_
             refine wp_seq ?_
             refine aI [0, 1, 2] rfl ?_
             refine aA ?_
             refine aB rfl (aC rfl) rfl rfl ?_
             refine aA ?_
             refine aB rfl (bB (vs := [(0, .int .i64 (10)), (1, .int .i64 (q6))]) (cells := #[.int .i64 (10), .int .i64 (q6), .int .i64 (0), .int .i64 (0), .int .i64 (0), .string (⟨#[]⟩)]) rfl kR) rfl rfl ?_
             refine aA ?_
             have H583 : St w F0 [hB g_0_0 118 #[.int .i64 (0), .int .i64 (0), .int .i64 (0), .int .i64 (0), .int .i64 (0), .string (⟨#[]⟩)], aV gc 157 A bs.length cb, hR Kn.int 3 (.slice (some ⟨g_3_1, 0, none⟩) 5 5) ([-1, -1, 0, 1, 2] : List Int)] W561 := H563.pick [2, 0, 1] kD rfl; clear H563
             refine aU rfl Try.sizeOf118 rfl rfl rfl rfl kS H583 ?_
             intro W580 hu581 Ha582; clear H583; clear hu581
             refine aF ?_
             refine aH ?_
             refine wp_ret ?_
             refine bA (.inl rfl) Try.results143 Try.isAgg118 Try.sizeOf118 rfl (Ha582.blk 0 rfl) rfl ?_
             exact ⟨_, _, _, _, _, _, rfl, (Nat.le_of_ble_eq_true rfl), Ha582.pick [1] kD rfl⟩
        ·refine aI [0, 1] rfl ?_
         refine aA ?_
         refine aB rfl (bD rfl rfl) rfl rfl ?_
         refine aA ?_
         refine aB rfl (aG rfl) rfl rfl ?_
         refine aF ?_
         refine aH ?_
         refine aW rfl (fun hc585 => ?_) (fun hc585 => ?_)
         ·refine wp_seq ?_
          refine wp_seq ?_
          refine aI [0, 1] rfl ?_
          refine aA ?_
          refine aB rfl (aC rfl) rfl rfl ?_
          refine aA ?_
          refine aB rfl (bD rfl rfl) rfl rfl ?_
          refine aF ?_
          refine aH ?_
          refine aW rfl (fun hc586 => ?_) (fun hc586 => ?_)
          ·refine wp_seq ?_
           refine aI [0, 1, 2, 3, 4, 5] rfl ?_
           refine aA ?_
           refine aB rfl (aC rfl) rfl rfl ?_
           refine aA ?_
           refine aB rfl (aC rfl) rfl rfl ?_
           refine aA ?_
           refine aB rfl (aC rfl) rfl rfl ?_
           refine aA ?_
           obtain ⟨F589, hs590, hF591, hfr592⟩ := St.frame (l0 := [aV gc 157 A bs.length cb]) (l := [hR Kn.int 3 (.slice (some ⟨g_3_1, 0, none⟩) 5 5) ([-1, -1, 0, 1, 2] : List Int), hB g_0_0 118 #[.int .i64 (0), .int .i64 (0), .int .i64 (0), .int .i64 (0), .int .i64 (0), .string (⟨#[]⟩)]]) H51
           refine aK rfl Try.call63 (vs := #[.pointer (some ⟨gc, 0, none⟩)]) rfl rfl rfl (fZ _ _ _ _ _ _ (CV.step hV H51.1 hF591) hn hs590) ?_
           rintro e595 W594 ⟨s587, rfl, hs588, Hn593⟩; refine ⟨_, rfl, ?_⟩
           have H596 := hfr592 _ _ Hn593; clear H51
           refine aA ?_
           refine aB rfl (bB (vs := [(0, .int .i64 (6)), (1, .int .i64 (q6)), (2, .int .i64 (q17)), (3, .int .i64 (-1)), (4, .int .i64 (-1)), (5, .string (s587))]) (cells := #[.int .i64 (6), .int .i64 (q6), .int .i64 (q17), .int .i64 (-1), .int .i64 (-1), .string (s587)]) rfl kR) rfl rfl ?_
           refine aA ?_
           have H600 : St w F0 [hB g_0_0 118 #[.int .i64 (0), .int .i64 (0), .int .i64 (0), .int .i64 (0), .int .i64 (0), .string (⟨#[]⟩)], aV gc 157 A bs.length cb, hR Kn.int 3 (.slice (some ⟨g_3_1, 0, none⟩) 5 5) ([-1, -1, 0, 1, 2] : List Int)] W594 := H596.pick [2, 0, 1] kD rfl; clear H596
           refine aU rfl Try.sizeOf118 rfl rfl rfl rfl kS H600 ?_
           intro W597 hu598 Ha599; clear H600; clear hu598
           refine aF ?_
           refine aH ?_
           refine wp_ret ?_
           refine aR ?_
           refine aY ?_
           refine aR ?_
           refine bA (.inl rfl) Try.results143 Try.isAgg118 Try.sizeOf118 rfl (Ha599.blk 0 rfl) rfl ?_
           exact ⟨_, _, _, _, _, _, rfl, (Nat.le_trans hs588 kD), Ha599.pick [1] kD rfl⟩
          ·refine wp_skip ?_
           refine aH ?_
           refine wp_seq ?_
           refine aI [0, 1, 2, 3, 4, 5, 6, 7, 8, 9] rfl ?_
           refine aA ?_
           refine aB rfl (aC rfl) rfl rfl ?_
           refine aA ?_
           refine aB rfl (aC rfl) rfl rfl ?_
           refine aA ?_
           refine aB rfl (aC rfl) rfl rfl ?_
           refine aA ?_
           refine aB rfl (aC rfl) rfl rfl ?_
           refine aA ?_
           refine bT (vs := [(0, .int .i64 (-1)), (1, .int .i64 (0)), (2, .int .i64 (3))]) (cells := #[.int .i64 (-1), .int .i64 (0), .int .i64 (3)]) rfl Try.runUnderlying82 Try.sizeOf3 Try.zeroValue3 rfl kD kD kR rfl rfl H51 ?_
           intro g_21_4 W602 hu603 Ha604; clear H51
           have Hb605 := St.eT (xs := ([-1, 0, 3] : List Int)) (h1 := fun _ => rfl) Ha604 rfl kD rfl; clear hu603
           refine aA ?_
           have H608 : St w F0 [aV gc 157 A bs.length cb, hR Kn.int 3 (.slice (some ⟨g_21_4, 0, none⟩) 3 3) ([-1, 0, 3] : List Int), hR Kn.int 3 (.slice (some ⟨g_3_1, 0, none⟩) 5 5) ([-1, -1, 0, 1, 2] : List Int), hB g_0_0 118 #[.int .i64 (0), .int .i64 (0), .int .i64 (0), .int .i64 (0), .int .i64 (0), .string (⟨#[]⟩)]] W602 := Hb605.pick [1, 0, 2, 3] kD rfl; clear Hb605
           obtain ⟨F609, hs610, hF611, hfr612⟩ := St.frame (l0 := [aV gc 157 A bs.length cb, hR Kn.int 3 (.slice (some ⟨g_21_4, 0, none⟩) 3 3) ([-1, 0, 3] : List Int)]) (l := [hR Kn.int 3 (.slice (some ⟨g_3_1, 0, none⟩) 5 5) ([-1, -1, 0, 1, 2] : List Int), hB g_0_0 118 #[.int .i64 (0), .int .i64 (0), .int .i64 (0), .int .i64 (0), .int .i64 (0), .string (⟨#[]⟩)]]) H608
           refine aK rfl Try.call113 (vs := #[.pointer (some ⟨gc, 0, none⟩), .slice (some ⟨g_21_4, 0, none⟩) 3 3]) rfl rfl rfl (int_s ([-1, 0, 3] : List Int) _ _ kD _ _ _ _ _ _ (CV.step hV H608.1 hF611) hn hs610) ?_
           rintro e615 W614 ⟨s606, rfl, hs607, Hn613⟩; refine ⟨_, rfl, ?_⟩
           have H616 := hfr612 _ _ Hn613; clear H608
           refine aA ?_
           refine aB rfl (aC rfl) rfl rfl ?_
           refine aA ?_
           obtain ⟨F619, hs620, hF621, hfr622⟩ := St.frame (l0 := [aV gc 157 A bs.length cb]) (l := [hR Kn.int 3 (.slice (some ⟨g_21_4, 0, none⟩) 3 3) ([-1, 0, 3] : List Int), hR Kn.int 3 (.slice (some ⟨g_3_1, 0, none⟩) 5 5) ([-1, -1, 0, 1, 2] : List Int), hB g_0_0 118 #[.int .i64 (0), .int .i64 (0), .int .i64 (0), .int .i64 (0), .int .i64 (0), .string (⟨#[]⟩)]]) H616
           refine aK rfl Try.call63 (vs := #[.pointer (some ⟨gc, 0, none⟩)]) rfl rfl rfl (fZ _ _ _ _ _ _ (CV.step hV H616.1 hF621) hn hs620) ?_
           rintro e625 W624 ⟨s617, rfl, hs618, Hn623⟩; refine ⟨_, rfl, ?_⟩
           have H626 := hfr622 _ _ Hn623; clear H616
           refine aA ?_
           refine aB rfl (bB (vs := [(0, .int .i64 (6)), (1, .int .i64 (q6)), (2, .int .i64 (q17)), (3, .int .i64 (s31)), (4, .int .i64 (s606)), (5, .string (s617))]) (cells := #[.int .i64 (6), .int .i64 (q6), .int .i64 (q17), .int .i64 (s31), .int .i64 (s606), .string (s617)]) rfl kR) rfl rfl ?_
           refine aA ?_
           have H630 : St w F0 [hB g_0_0 118 #[.int .i64 (0), .int .i64 (0), .int .i64 (0), .int .i64 (0), .int .i64 (0), .string (⟨#[]⟩)], aV gc 157 A bs.length cb, hR Kn.int 3 (.slice (some ⟨g_21_4, 0, none⟩) 3 3) ([-1, 0, 3] : List Int), hR Kn.int 3 (.slice (some ⟨g_3_1, 0, none⟩) 5 5) ([-1, -1, 0, 1, 2] : List Int)] W624 := H626.pick [3, 0, 1, 2] kD rfl; clear H626
           refine aU rfl Try.sizeOf118 rfl rfl rfl rfl kS H630 ?_
           intro W627 hu628 Ha629; clear H630; clear hu628
           refine aF ?_
           refine aH ?_
           refine wp_ret ?_
           refine aY ?_
           refine aR ?_
           refine bA (.inl rfl) Try.results143 Try.isAgg118 Try.sizeOf118 rfl (Ha629.blk 0 rfl) rfl ?_
           exact ⟨_, _, _, _, _, _, rfl, (Nat.le_trans hs618 kD), Ha629.pick [1] kD rfl⟩
         ·refine wp_seq ?_
          refine aI [0, 1] rfl ?_
          refine aA ?_
          refine aB rfl (bD rfl rfl) rfl rfl ?_
          refine aA ?_
          refine aB rfl (aG rfl) rfl rfl ?_
          refine aF ?_
          refine aH ?_
          refine aW rfl (fun hc632 => ?_) (fun hc632 => ?_)
          ·refine wp_seq ?_
           refine wp_seq ?_
           refine aI [0, 1] rfl ?_
           refine aA ?_
           refine aB rfl (aC rfl) rfl rfl ?_
           refine aA ?_
           refine aB rfl (bD rfl rfl) rfl rfl ?_
           refine aF ?_
           refine aH ?_
           refine aW rfl (fun hc633 => ?_) (fun hc633 => ?_)
           ·refine wp_seq ?_
            refine aI [0, 1, 2, 3, 4, 5] rfl ?_
            refine aA ?_
            refine aB rfl (aC rfl) rfl rfl ?_
            refine aA ?_
            refine aB rfl (aC rfl) rfl rfl ?_
            refine aA ?_
            refine bT (vs := [(0, .string (⟨#[99, 101, 108, 108]⟩)), (1, .string (⟨#[112, 114, 111, 120, 121]⟩)), (2, .string (⟨#[109, 97, 107, 101, 114]⟩)), (3, .string (⟨#[110, 111, 110, 101]⟩))]) (cells := #[.string (⟨#[99, 101, 108, 108]⟩), .string (⟨#[112, 114, 111, 120, 121]⟩), .string (⟨#[109, 97, 107, 101, 114]⟩), .string (⟨#[110, 111, 110, 101]⟩)]) rfl Try.runUnderlying166 Try.sizeOf9 Try.zeroValue9 rfl kD kD kR rfl rfl H51 ?_
            intro g_24_2 W634 hu635 Ha636; clear H51
            have Hb637 := St.eT (xs := ([⟨#[99, 101, 108, 108]⟩, ⟨#[112, 114, 111, 120, 121]⟩, ⟨#[109, 97, 107, 101, 114]⟩, ⟨#[110, 111, 110, 101]⟩] : List ByteArray)) (h1 := fun _ => rfl) Ha636 rfl kD rfl; clear hu635
            refine aA ?_
            have H640 : St w F0 [aV gc 157 A bs.length cb, hR Kn.string 9 (.slice (some ⟨g_24_2, 0, none⟩) 4 4) ([⟨#[99, 101, 108, 108]⟩, ⟨#[112, 114, 111, 120, 121]⟩, ⟨#[109, 97, 107, 101, 114]⟩, ⟨#[110, 111, 110, 101]⟩] : List ByteArray), hR Kn.int 3 (.slice (some ⟨g_3_1, 0, none⟩) 5 5) ([-1, -1, 0, 1, 2] : List Int), hB g_0_0 118 #[.int .i64 (0), .int .i64 (0), .int .i64 (0), .int .i64 (0), .int .i64 (0), .string (⟨#[]⟩)]] W634 := Hb637.pick [1, 0, 2, 3] kD rfl; clear Hb637
            obtain ⟨F641, hs642, hF643, hfr644⟩ := St.frame (l0 := [aV gc 157 A bs.length cb, hR Kn.string 9 (.slice (some ⟨g_24_2, 0, none⟩) 4 4) ([⟨#[99, 101, 108, 108]⟩, ⟨#[112, 114, 111, 120, 121]⟩, ⟨#[109, 97, 107, 101, 114]⟩, ⟨#[110, 111, 110, 101]⟩] : List ByteArray)]) (l := [hR Kn.int 3 (.slice (some ⟨g_3_1, 0, none⟩) 5 5) ([-1, -1, 0, 1, 2] : List Int), hB g_0_0 118 #[.int .i64 (0), .int .i64 (0), .int .i64 (0), .int .i64 (0), .int .i64 (0), .string (⟨#[]⟩)]]) H640
            refine aK rfl Try.call110 (vs := #[.pointer (some ⟨gc, 0, none⟩), .slice (some ⟨g_24_2, 0, none⟩) 4 4]) rfl rfl rfl (gV ([⟨#[99, 101, 108, 108]⟩, ⟨#[112, 114, 111, 120, 121]⟩, ⟨#[109, 97, 107, 101, 114]⟩, ⟨#[110, 111, 110, 101]⟩] : List ByteArray) _ _ kD _ _ _ _ _ _ (CV.step hV H640.1 hF643) hn hs642) ?_
            rintro e647 W646 ⟨s638, rfl, hs639, Hn645⟩; refine ⟨_, rfl, ?_⟩
            have H648 := hfr644 _ _ Hn645; clear H640
            refine aA ?_
            refine aB rfl (bB (vs := [(0, .int .i64 (7)), (1, .int .i64 (q6)), (3, .int .i64 (-1)), (4, .int .i64 (-1)), (5, .string (s638))]) (cells := #[.int .i64 (7), .int .i64 (q6), .int .i64 (0), .int .i64 (-1), .int .i64 (-1), .string (s638)]) rfl kR) rfl rfl ?_
            refine aA ?_
            have H652 : St w F0 [hB g_0_0 118 #[.int .i64 (0), .int .i64 (0), .int .i64 (0), .int .i64 (0), .int .i64 (0), .string (⟨#[]⟩)], aV gc 157 A bs.length cb, hR Kn.string 9 (.slice (some ⟨g_24_2, 0, none⟩) 4 4) ([⟨#[99, 101, 108, 108]⟩, ⟨#[112, 114, 111, 120, 121]⟩, ⟨#[109, 97, 107, 101, 114]⟩, ⟨#[110, 111, 110, 101]⟩] : List ByteArray), hR Kn.int 3 (.slice (some ⟨g_3_1, 0, none⟩) 5 5) ([-1, -1, 0, 1, 2] : List Int)] W646 := H648.pick [3, 0, 1, 2] kD rfl; clear H648
            refine aU rfl Try.sizeOf118 rfl rfl rfl rfl kS H652 ?_
            intro W649 hu650 Ha651; clear H652; clear hu650
            refine aF ?_
            refine aH ?_
            refine wp_ret ?_
            refine aR ?_
            refine aY ?_
            refine aR ?_
            refine bA (.inl rfl) Try.results143 Try.isAgg118 Try.sizeOf118 rfl (Ha651.blk 0 rfl) rfl ?_
            exact ⟨_, _, _, _, _, _, rfl, (eZ hs639 kD), Ha651.pick [1] kD rfl⟩
           ·refine wp_skip ?_
            refine aH ?_
            refine wp_seq ?_
            refine aI [0, 1, 2, 3, 4, 5, 6] rfl ?_
            refine aA ?_
            refine aB rfl (aC rfl) rfl rfl ?_
            refine aA ?_
            refine aB rfl (aC rfl) rfl rfl ?_
            refine aA ?_
            refine aB rfl (aC rfl) rfl rfl ?_
            refine aA ?_
            refine bT (vs := [(0, .string (⟨#[99, 101, 108, 108]⟩)), (1, .string (⟨#[112, 114, 111, 120, 121]⟩)), (2, .string (⟨#[109, 97, 107, 101, 114]⟩))]) (cells := #[.string (⟨#[99, 101, 108, 108]⟩), .string (⟨#[112, 114, 111, 120, 121]⟩), .string (⟨#[109, 97, 107, 101, 114]⟩)]) rfl Try.runUnderlying166 Try.sizeOf9 Try.zeroValue9 rfl kD kD kR rfl rfl H51 ?_
            intro g_25_3 W654 hu655 Ha656; clear H51
            have Hb657 := St.eT (xs := ([⟨#[99, 101, 108, 108]⟩, ⟨#[112, 114, 111, 120, 121]⟩, ⟨#[109, 97, 107, 101, 114]⟩] : List ByteArray)) (h1 := fun _ => rfl) Ha656 rfl kD rfl; clear hu655
            refine aA ?_
            have H660 : St w F0 [aV gc 157 A bs.length cb, hR Kn.string 9 (.slice (some ⟨g_25_3, 0, none⟩) 3 3) ([⟨#[99, 101, 108, 108]⟩, ⟨#[112, 114, 111, 120, 121]⟩, ⟨#[109, 97, 107, 101, 114]⟩] : List ByteArray), hR Kn.int 3 (.slice (some ⟨g_3_1, 0, none⟩) 5 5) ([-1, -1, 0, 1, 2] : List Int), hB g_0_0 118 #[.int .i64 (0), .int .i64 (0), .int .i64 (0), .int .i64 (0), .int .i64 (0), .string (⟨#[]⟩)]] W654 := Hb657.pick [1, 0, 2, 3] kD rfl; clear Hb657
            obtain ⟨F661, hs662, hF663, hfr664⟩ := St.frame (l0 := [aV gc 157 A bs.length cb, hR Kn.string 9 (.slice (some ⟨g_25_3, 0, none⟩) 3 3) ([⟨#[99, 101, 108, 108]⟩, ⟨#[112, 114, 111, 120, 121]⟩, ⟨#[109, 97, 107, 101, 114]⟩] : List ByteArray)]) (l := [hR Kn.int 3 (.slice (some ⟨g_3_1, 0, none⟩) 5 5) ([-1, -1, 0, 1, 2] : List Int), hB g_0_0 118 #[.int .i64 (0), .int .i64 (0), .int .i64 (0), .int .i64 (0), .int .i64 (0), .string (⟨#[]⟩)]]) H660
            refine aK rfl Try.call110 (vs := #[.pointer (some ⟨gc, 0, none⟩), .slice (some ⟨g_25_3, 0, none⟩) 3 3]) rfl rfl rfl (gV ([⟨#[99, 101, 108, 108]⟩, ⟨#[112, 114, 111, 120, 121]⟩, ⟨#[109, 97, 107, 101, 114]⟩] : List ByteArray) _ _ kD _ _ _ _ _ _ (CV.step hV H660.1 hF663) hn hs662) ?_
            rintro e667 W666 ⟨s658, rfl, hs659, Hn665⟩; refine ⟨_, rfl, ?_⟩
            have H668 := hfr664 _ _ Hn665; clear H660
            refine aA ?_
            refine aB rfl (bB (vs := [(0, .int .i64 (7)), (1, .int .i64 (q6)), (3, .int .i64 (s31)), (4, .int .i64 (-1)), (5, .string (s658))]) (cells := #[.int .i64 (7), .int .i64 (q6), .int .i64 (0), .int .i64 (s31), .int .i64 (-1), .string (s658)]) rfl kR) rfl rfl ?_
            refine aA ?_
            have H672 : St w F0 [hB g_0_0 118 #[.int .i64 (0), .int .i64 (0), .int .i64 (0), .int .i64 (0), .int .i64 (0), .string (⟨#[]⟩)], aV gc 157 A bs.length cb, hR Kn.string 9 (.slice (some ⟨g_25_3, 0, none⟩) 3 3) ([⟨#[99, 101, 108, 108]⟩, ⟨#[112, 114, 111, 120, 121]⟩, ⟨#[109, 97, 107, 101, 114]⟩] : List ByteArray), hR Kn.int 3 (.slice (some ⟨g_3_1, 0, none⟩) 5 5) ([-1, -1, 0, 1, 2] : List Int)] W666 := H668.pick [3, 0, 1, 2] kD rfl; clear H668
            refine aU rfl Try.sizeOf118 rfl rfl rfl rfl kS H672 ?_
            intro W669 hu670 Ha671; clear H672; clear hu670
            refine aF ?_
            refine aH ?_
            refine wp_ret ?_
            refine aY ?_
            refine aR ?_
            refine bA (.inl rfl) Try.results143 Try.isAgg118 Try.sizeOf118 rfl (Ha671.blk 0 rfl) rfl ?_
            exact ⟨_, _, _, _, _, _, rfl, (eZ hs659 kD), Ha671.pick [1] kD rfl⟩
          ·refine wp_seq ?_
           refine aI [0, 1] rfl ?_
           refine aA ?_
           refine aB rfl (bD rfl rfl) rfl rfl ?_
           refine aA ?_
           refine aB rfl (aG rfl) rfl rfl ?_
           refine aF ?_
           refine aH ?_
           refine aW rfl (fun hc674 => ?_) (fun hc674 => ?_)
           ·refine wp_seq ?_
            refine aI [0, 1, 2, 3, 4] rfl ?_
            refine aA ?_
            refine aB rfl (aC rfl) rfl rfl ?_
            refine aA ?_
            obtain ⟨F677, hs678, hF679, hfr680⟩ := St.frame (l0 := [aV gc 157 A bs.length cb]) (l := [hR Kn.int 3 (.slice (some ⟨g_3_1, 0, none⟩) 5 5) ([-1, -1, 0, 1, 2] : List Int), hB g_0_0 118 #[.int .i64 (0), .int .i64 (0), .int .i64 (0), .int .i64 (0), .int .i64 (0), .string (⟨#[]⟩)]]) H51
            refine aK rfl Try.call44 (vs := #[.pointer (some ⟨gc, 0, none⟩), .int .i64 (3)]) rfl rfl rfl (cB 3 _ _ _ _ _ _ (CV.step hV H51.1 hF679) hn hs678) ?_
            rintro e683 W682 ⟨q675, rfl, hq676, Hn681⟩; refine ⟨_, rfl, ?_⟩
            have H684 := hfr680 _ _ Hn681; clear H51
            refine aA ?_
            refine aB rfl (aC rfl) rfl rfl ?_
            refine aA ?_
            refine aB rfl (bB (vs := [(0, .int .i64 (8)), (1, .int .i64 (q675)), (2, .int .i64 (q17))]) (cells := #[.int .i64 (8), .int .i64 (q675), .int .i64 (q17), .int .i64 (0), .int .i64 (0), .string (⟨#[]⟩)]) rfl kR) rfl rfl ?_
            refine aA ?_
            have H688 : St w F0 [hB g_0_0 118 #[.int .i64 (0), .int .i64 (0), .int .i64 (0), .int .i64 (0), .int .i64 (0), .string (⟨#[]⟩)], aV gc 157 A bs.length cb, hR Kn.int 3 (.slice (some ⟨g_3_1, 0, none⟩) 5 5) ([-1, -1, 0, 1, 2] : List Int)] W682 := H684.pick [2, 0, 1] kD rfl; clear H684
            refine aU rfl Try.sizeOf118 rfl rfl rfl rfl kS H688 ?_
            intro W685 hu686 Ha687; clear H688; clear hu686
            refine aF ?_
            refine aH ?_
            refine wp_ret ?_
            refine aY ?_
            refine aR ?_
            refine bA (.inl rfl) Try.results143 Try.isAgg118 Try.sizeOf118 rfl (Ha687.blk 0 rfl) rfl ?_
            exact ⟨_, _, _, _, _, _, rfl, (Nat.le_of_ble_eq_true rfl), Ha687.pick [1] kD rfl⟩
           ·refine wp_skip ?_
            refine dR ?_
            refine aH ?_
            refine wp_seq ?_
            refine wp_seq ?_
            refine aI [0, 1] rfl ?_
            refine aA ?_
            refine aB rfl (aC rfl) rfl rfl ?_
            refine aA ?_
            obtain ⟨F691, hs692, hF693, hfr694⟩ := St.frame (l0 := [aV gc 157 A bs.length cb]) (l := [hR Kn.int 3 (.slice (some ⟨g_3_1, 0, none⟩) 5 5) ([-1, -1, 0, 1, 2] : List Int), hB g_0_0 118 #[.int .i64 (0), .int .i64 (0), .int .i64 (0), .int .i64 (0), .int .i64 (0), .string (⟨#[]⟩)]]) H51
            refine aK rfl Try.call43 (vs := #[.pointer (some ⟨gc, 0, none⟩), .int .i64 (2)]) rfl rfl rfl (once_s 2 _ _ _ _ _ _ (CV.step hV H51.1 hF693) hn hs692) ?_
            rintro e697 W696 ⟨b690, rfl, Hn695⟩; refine ⟨_, rfl, ?_⟩
            have H698 := hfr694 _ _ Hn695; clear H51
            refine aF ?_
            refine aH ?_
            refine fC (b := b690) rfl (fun hc699 => ?_) (fun hc699 => ?_)
            ·refine wp_seq ?_
             refine aI [0, 1, 2, 3, 4, 5] rfl ?_
             refine aA ?_
             refine aB rfl (aC rfl) rfl rfl ?_
             refine aA ?_
             refine aB rfl (aC rfl) rfl rfl ?_
             refine aA ?_
             obtain ⟨F702, hs703, hF704, hfr705⟩ := St.frame (l0 := [aV gc 157 A bs.length cb]) (l := [hR Kn.int 3 (.slice (some ⟨g_3_1, 0, none⟩) 5 5) ([-1, -1, 0, 1, 2] : List Int), hB g_0_0 118 #[.int .i64 (0), .int .i64 (0), .int .i64 (0), .int .i64 (0), .int .i64 (0), .string (⟨#[]⟩)]]) H698
             refine aK rfl Try.call44 (vs := #[.pointer (some ⟨gc, 0, none⟩), .int .i64 (3)]) rfl rfl rfl (cB 3 _ _ _ _ _ _ (CV.step hV H698.1 hF704) hn hs703) ?_
             rintro e708 W707 ⟨q700, rfl, hq701, Hn706⟩; refine ⟨_, rfl, ?_⟩
             have H709 := hfr705 _ _ Hn706; clear H698
             refine aA ?_
             refine aB rfl (rn_add rfl rfl kO) rfl rfl ?_
             refine aA ?_
             refine aB rfl (bB (vs := [(0, .int .i64 (9)), (1, .int .i64 (q6)), (2, .int .i64 ((1 + q700)))]) (cells := #[.int .i64 (9), .int .i64 (q6), .int .i64 ((1 + q700)), .int .i64 (0), .int .i64 (0), .string (⟨#[]⟩)]) rfl kR) rfl rfl ?_
             refine aA ?_
             have H713 : St w F0 [hB g_0_0 118 #[.int .i64 (0), .int .i64 (0), .int .i64 (0), .int .i64 (0), .int .i64 (0), .string (⟨#[]⟩)], aV gc 157 A bs.length cb, hR Kn.int 3 (.slice (some ⟨g_3_1, 0, none⟩) 5 5) ([-1, -1, 0, 1, 2] : List Int)] W707 := H709.pick [2, 0, 1] kD rfl; clear H709
             refine aU rfl Try.sizeOf118 rfl rfl rfl rfl kS H713 ?_
             intro W710 hu711 Ha712; clear H713; clear hu711
             refine aF ?_
             refine aH ?_
             refine wp_ret ?_
             refine aR ?_
             refine bA (.inl rfl) Try.results143 Try.isAgg118 Try.sizeOf118 rfl (Ha712.blk 0 rfl) rfl ?_
             exact ⟨_, _, _, _, _, _, rfl, (Nat.le_of_ble_eq_true rfl), Ha712.pick [1] kD rfl⟩
            ·refine wp_skip ?_
             refine aH ?_
             refine wp_seq ?_
             refine aI [0, 1, 2] rfl ?_
             refine aA ?_
             refine aB rfl (aC rfl) rfl rfl ?_
             refine aA ?_
             refine aB rfl (bB (vs := [(0, .int .i64 (10)), (1, .int .i64 (q6))]) (cells := #[.int .i64 (10), .int .i64 (q6), .int .i64 (0), .int .i64 (0), .int .i64 (0), .string (⟨#[]⟩)]) rfl kR) rfl rfl ?_
             refine aA ?_
             have H718 : St w F0 [hB g_0_0 118 #[.int .i64 (0), .int .i64 (0), .int .i64 (0), .int .i64 (0), .int .i64 (0), .string (⟨#[]⟩)], aV gc 157 A bs.length cb, hR Kn.int 3 (.slice (some ⟨g_3_1, 0, none⟩) 5 5) ([-1, -1, 0, 1, 2] : List Int)] W696 := H698.pick [2, 0, 1] kD rfl; clear H698
             refine aU rfl Try.sizeOf118 rfl rfl rfl rfl kS H718 ?_
             intro W715 hu716 Ha717; clear H718; clear hu716
             refine aF ?_
             refine aH ?_
             refine wp_ret ?_
             refine bA (.inl rfl) Try.results143 Try.isAgg118 Try.sizeOf118 rfl (Ha717.blk 0 rfl) rfl ?_
             exact ⟨_, _, _, _, _, _, rfl, (Nat.le_of_ble_eq_true rfl), Ha717.pick [1] kD rfl⟩
 ·refine aI [0, 1] rfl ?_
  refine aA ?_
  refine aB rfl (bD rfl rfl) rfl rfl ?_
  refine aA ?_
  refine aB rfl (aG rfl) rfl rfl ?_
  refine aF ?_
  refine aH ?_
  refine aW rfl (fun hc720 => ?_) (fun hc720 => ?_)
  ·refine wp_seq ?_
   refine aI [0, 1, 2, 3, 4] rfl ?_
   refine aA ?_
   refine aB rfl (aC rfl) rfl rfl ?_
   refine aA ?_
   refine aB rfl (aC rfl) rfl rfl ?_
   refine aA ?_
   obtain ⟨F723, hs724, hF725, hfr726⟩ := St.frame (l0 := [aV gc 157 A bs.length cb]) (l := [hR Kn.int 3 (.slice (some ⟨g_3_1, 0, none⟩) 5 5) ([-1, -1, 0, 1, 2] : List Int), hB g_0_0 118 #[.int .i64 (0), .int .i64 (0), .int .i64 (0), .int .i64 (0), .int .i64 (0), .string (⟨#[]⟩)]]) H51
   refine aK rfl Try.call44 (vs := #[.pointer (some ⟨gc, 0, none⟩), .int .i64 (9)]) rfl rfl rfl (cB 9 _ _ _ _ _ _ (CV.step hV H51.1 hF725) hn hs724) ?_
   rintro e729 W728 ⟨q721, rfl, hq722, Hn727⟩; refine ⟨_, rfl, ?_⟩
   have H730 := hfr726 _ _ Hn727; clear H51
   refine aA ?_
   refine aB rfl (bB (vs := [(0, .int .i64 (1)), (1, .int .i64 (q6)), (2, .int .i64 (q721))]) (cells := #[.int .i64 (1), .int .i64 (q6), .int .i64 (q721), .int .i64 (0), .int .i64 (0), .string (⟨#[]⟩)]) rfl kR) rfl rfl ?_
   refine aA ?_
   have H734 : St w F0 [hB g_0_0 118 #[.int .i64 (0), .int .i64 (0), .int .i64 (0), .int .i64 (0), .int .i64 (0), .string (⟨#[]⟩)], aV gc 157 A bs.length cb, hR Kn.int 3 (.slice (some ⟨g_3_1, 0, none⟩) 5 5) ([-1, -1, 0, 1, 2] : List Int)] W728 := H730.pick [2, 0, 1] kD rfl; clear H730
   refine aU rfl Try.sizeOf118 rfl rfl rfl rfl kS H734 ?_
   intro W731 hu732 Ha733; clear H734; clear hu732
   refine aF ?_
   refine aH ?_
   refine wp_ret ?_
   refine aY ?_
   refine aR ?_
   refine bA (.inl rfl) Try.results143 Try.isAgg118 Try.sizeOf118 rfl (Ha733.blk 0 rfl) rfl ?_
   exact ⟨_, _, _, _, _, _, rfl, (Nat.le_of_ble_eq_true rfl), Ha733.pick [1] kD rfl⟩
  ·refine wp_seq ?_
   refine wp_seq ?_
   refine aI [0, 1] rfl ?_
   refine aA ?_
   refine aB rfl (bD rfl rfl) rfl rfl ?_
   refine aA ?_
   refine aB rfl (aG rfl) rfl rfl ?_
   refine aF ?_
   refine aH ?_
   refine aW rfl (fun hc736 => ?_) (fun hc736 => ?_)
   ·refine wp_skip ?_
    refine aH ?_
    refine aW rfl (fun hc737 => ?_) (fun hc737 => ?_)
    ·refine wp_seq ?_
     refine aI [0, 1, 2, 3, 4] rfl ?_
     refine aA ?_
     refine aB rfl (aC rfl) rfl rfl ?_
     refine aA ?_
     refine aB rfl (aC rfl) rfl rfl ?_
     refine aA ?_
     obtain ⟨F740, hs741, hF742, hfr743⟩ := St.frame (l0 := [aV gc 157 A bs.length cb]) (l := [hR Kn.int 3 (.slice (some ⟨g_3_1, 0, none⟩) 5 5) ([-1, -1, 0, 1, 2] : List Int), hB g_0_0 118 #[.int .i64 (0), .int .i64 (0), .int .i64 (0), .int .i64 (0), .int .i64 (0), .string (⟨#[]⟩)]]) H51
     refine aK rfl Try.call44 (vs := #[.pointer (some ⟨gc, 0, none⟩), .int .i64 (2)]) rfl rfl rfl (cB 2 _ _ _ _ _ _ (CV.step hV H51.1 hF742) hn hs741) ?_
     rintro e746 W745 ⟨q738, rfl, hq739, Hn744⟩; refine ⟨_, rfl, ?_⟩
     have H747 := hfr743 _ _ Hn744; clear H51
     refine aA ?_
     refine aB rfl (bB (vs := [(0, .int .i64 (2)), (1, .int .i64 (q6)), (2, .int .i64 (q738))]) (cells := #[.int .i64 (2), .int .i64 (q6), .int .i64 (q738), .int .i64 (0), .int .i64 (0), .string (⟨#[]⟩)]) rfl kR) rfl rfl ?_
     refine aA ?_
     have H751 : St w F0 [hB g_0_0 118 #[.int .i64 (0), .int .i64 (0), .int .i64 (0), .int .i64 (0), .int .i64 (0), .string (⟨#[]⟩)], aV gc 157 A bs.length cb, hR Kn.int 3 (.slice (some ⟨g_3_1, 0, none⟩) 5 5) ([-1, -1, 0, 1, 2] : List Int)] W745 := H747.pick [2, 0, 1] kD rfl; clear H747
     refine aU rfl Try.sizeOf118 rfl rfl rfl rfl kS H751 ?_
     intro W748 hu749 Ha750; clear H751; clear hu749
     refine aF ?_
     refine aH ?_
     refine wp_ret ?_
     refine aY ?_
     refine aR ?_
     refine bA (.inl rfl) Try.results143 Try.isAgg118 Try.sizeOf118 rfl (Ha750.blk 0 rfl) rfl ?_
     exact ⟨_, _, _, _, _, _, rfl, (Nat.le_of_ble_eq_true rfl), Ha750.pick [1] kD rfl⟩
    ·refine wp_seq ?_
     refine aI [0, 1] rfl ?_
     refine aA ?_
     refine aB rfl (bD rfl rfl) rfl rfl ?_
     refine aA ?_
     refine aB rfl (aG rfl) rfl rfl ?_
     refine aF ?_
     refine aH ?_
     refine aW rfl (fun hc753 => ?_) (fun hc753 => ?_)
     ·refine wp_seq ?_
      refine aI [0, 1, 2, 3, 4] rfl ?_
      refine aA ?_
      refine aB rfl (aC rfl) rfl rfl ?_
      refine aA ?_
      refine aB rfl (aC rfl) rfl rfl ?_
      refine aA ?_
      obtain ⟨F756, hs757, hF758, hfr759⟩ := St.frame (l0 := [aV gc 157 A bs.length cb]) (l := [hR Kn.int 3 (.slice (some ⟨g_3_1, 0, none⟩) 5 5) ([-1, -1, 0, 1, 2] : List Int), hB g_0_0 118 #[.int .i64 (0), .int .i64 (0), .int .i64 (0), .int .i64 (0), .int .i64 (0), .string (⟨#[]⟩)]]) H51
      refine aK rfl Try.call44 (vs := #[.pointer (some ⟨gc, 0, none⟩), .int .i64 (3)]) rfl rfl rfl (cB 3 _ _ _ _ _ _ (CV.step hV H51.1 hF758) hn hs757) ?_
      rintro e762 W761 ⟨q754, rfl, hq755, Hn760⟩; refine ⟨_, rfl, ?_⟩
      have H763 := hfr759 _ _ Hn760; clear H51
      refine aA ?_
      refine aB rfl (bB (vs := [(0, .int .i64 (3)), (1, .int .i64 (q6)), (2, .int .i64 (q754))]) (cells := #[.int .i64 (3), .int .i64 (q6), .int .i64 (q754), .int .i64 (0), .int .i64 (0), .string (⟨#[]⟩)]) rfl kR) rfl rfl ?_
      refine aA ?_
      have H767 : St w F0 [hB g_0_0 118 #[.int .i64 (0), .int .i64 (0), .int .i64 (0), .int .i64 (0), .int .i64 (0), .string (⟨#[]⟩)], aV gc 157 A bs.length cb, hR Kn.int 3 (.slice (some ⟨g_3_1, 0, none⟩) 5 5) ([-1, -1, 0, 1, 2] : List Int)] W761 := H763.pick [2, 0, 1] kD rfl; clear H763
      refine aU rfl Try.sizeOf118 rfl rfl rfl rfl kS H767 ?_
      intro W764 hu765 Ha766; clear H767; clear hu765
      refine aF ?_
      refine aH ?_
      refine wp_ret ?_
      refine aY ?_
      refine aR ?_
      refine bA (.inl rfl) Try.results143 Try.isAgg118 Try.sizeOf118 rfl (Ha766.blk 0 rfl) rfl ?_
      exact ⟨_, _, _, _, _, _, rfl, (Nat.le_of_ble_eq_true rfl), Ha766.pick [1] kD rfl⟩
     ·refine wp_seq ?_
      refine aI [0, 1] rfl ?_
      refine aA ?_
      refine aB rfl (bD rfl rfl) rfl rfl ?_
      refine aA ?_
      refine aB rfl (aG rfl) rfl rfl ?_
      refine aF ?_
      refine aH ?_
      refine aW rfl (fun hc769 => ?_) (fun hc769 => ?_)
      ·refine wp_seq ?_
       refine aI [0, 1, 2] rfl ?_
       refine aA ?_
       refine aB rfl (aC rfl) rfl rfl ?_
       refine aA ?_
       refine aB rfl (bB (vs := [(0, .int .i64 (4)), (1, .int .i64 (q6))]) (cells := #[.int .i64 (4), .int .i64 (q6), .int .i64 (0), .int .i64 (0), .int .i64 (0), .string (⟨#[]⟩)]) rfl kR) rfl rfl ?_
       refine aA ?_
       have H773 : St w F0 [hB g_0_0 118 #[.int .i64 (0), .int .i64 (0), .int .i64 (0), .int .i64 (0), .int .i64 (0), .string (⟨#[]⟩)], aV gc 157 A bs.length cb, hR Kn.int 3 (.slice (some ⟨g_3_1, 0, none⟩) 5 5) ([-1, -1, 0, 1, 2] : List Int)] W49 := H51.pick [2, 0, 1] kD rfl; clear H51
       refine aU rfl Try.sizeOf118 rfl rfl rfl rfl kS H773 ?_
       intro W770 hu771 Ha772; clear H773; clear hu771
       refine aF ?_
       refine aH ?_
       refine wp_ret ?_
       refine aY ?_
       refine aR ?_
       refine bA (.inl rfl) Try.results143 Try.isAgg118 Try.sizeOf118 rfl (Ha772.blk 0 rfl) rfl ?_
       exact ⟨_, _, _, _, _, _, rfl, (Nat.le_of_ble_eq_true rfl), Ha772.pick [1] kD rfl⟩
      ·refine wp_seq ?_
       refine aI [0, 1] rfl ?_
       refine aA ?_
       refine aB rfl (bD rfl rfl) rfl rfl ?_
       refine aA ?_
       refine aB rfl (aG rfl) rfl rfl ?_
       refine aF ?_
       refine aH ?_
       refine aW rfl (fun hc775 => ?_) (fun hc775 => ?_)
       ·refine wp_seq ?_
        refine aI [0, 1, 2, 3, 4, 5] rfl ?_
        refine aA ?_
        refine aB rfl (aC rfl) rfl rfl ?_
        refine aA ?_
        refine aB rfl (aC rfl) rfl rfl ?_
        refine aA ?_
        refine aB rfl (aC rfl) rfl rfl ?_
        refine aA ?_
        obtain ⟨F778, hs779, hF780, hfr781⟩ := St.frame (l0 := [aV gc 157 A bs.length cb]) (l := [hR Kn.int 3 (.slice (some ⟨g_3_1, 0, none⟩) 5 5) ([-1, -1, 0, 1, 2] : List Int), hB g_0_0 118 #[.int .i64 (0), .int .i64 (0), .int .i64 (0), .int .i64 (0), .int .i64 (0), .string (⟨#[]⟩)]]) H51
        refine aK rfl Try.call44 (vs := #[.pointer (some ⟨gc, 0, none⟩), .int .i64 (4)]) rfl rfl rfl (cB 4 _ _ _ _ _ _ (CV.step hV H51.1 hF780) hn hs779) ?_
        rintro e784 W783 ⟨q776, rfl, hq777, Hn782⟩; refine ⟨_, rfl, ?_⟩
        have H785 := hfr781 _ _ Hn782; clear H51
        refine aA ?_
        refine aB rfl (bB (vs := [(0, .int .i64 (5)), (1, .int .i64 (q6)), (2, .int .i64 (q17)), (3, .int .i64 (q776))]) (cells := #[.int .i64 (5), .int .i64 (q6), .int .i64 (q17), .int .i64 (q776), .int .i64 (0), .string (⟨#[]⟩)]) rfl kR) rfl rfl ?_
        refine aA ?_
        have H789 : St w F0 [hB g_0_0 118 #[.int .i64 (0), .int .i64 (0), .int .i64 (0), .int .i64 (0), .int .i64 (0), .string (⟨#[]⟩)], aV gc 157 A bs.length cb, hR Kn.int 3 (.slice (some ⟨g_3_1, 0, none⟩) 5 5) ([-1, -1, 0, 1, 2] : List Int)] W783 := H785.pick [2, 0, 1] kD rfl; clear H785
        refine aU rfl Try.sizeOf118 rfl rfl rfl rfl kS H789 ?_
        intro W786 hu787 Ha788; clear H789; clear hu787
        refine aF ?_
        refine aH ?_
        refine wp_ret ?_
        refine aY ?_
        refine aR ?_
        refine bA (.inl rfl) Try.results143 Try.isAgg118 Try.sizeOf118 rfl (Ha788.blk 0 rfl) rfl ?_
        exact ⟨_, _, _, _, _, _, rfl, (Nat.le_of_ble_eq_true rfl), Ha788.pick [1] kD rfl⟩
       ·refine wp_seq ?_
        refine wp_seq ?_
        refine aI [0, 1] rfl ?_
        refine aA ?_
        refine aB rfl (bD rfl rfl) rfl rfl ?_
        refine aA ?_
        refine aB rfl (aG rfl) rfl rfl ?_
        refine aF ?_
        refine aH ?_
        refine aW rfl (fun hc791 => ?_) (fun hc791 => ?_)
        ·refine wp_skip ?_
         refine aH ?_
         refine aW rfl (fun hc792 => ?_) (fun hc792 => ?_)
         ·refine wp_seq ?_
          refine wp_seq ?_
          refine aI [0, 1] rfl ?_
          refine aA ?_
          refine aB rfl (aC rfl) rfl rfl ?_
          refine aA ?_
          refine aB rfl (bD rfl rfl) rfl rfl ?_
          refine aF ?_
          refine aH ?_
          refine aW rfl (fun hc793 => ?_) (fun hc793 => ?_)
          ·refine wp_seq ?_
           refine aI [0, 1, 2, 3, 4, 5] rfl ?_
           refine aA ?_
           refine aB rfl (aC rfl) rfl rfl ?_
           refine aA ?_
           refine aB rfl (aC rfl) rfl rfl ?_
           refine aA ?_
           refine aB rfl (aC rfl) rfl rfl ?_
           refine aA ?_
           obtain ⟨F796, hs797, hF798, hfr799⟩ := St.frame (l0 := [aV gc 157 A bs.length cb]) (l := [hR Kn.int 3 (.slice (some ⟨g_3_1, 0, none⟩) 5 5) ([-1, -1, 0, 1, 2] : List Int), hB g_0_0 118 #[.int .i64 (0), .int .i64 (0), .int .i64 (0), .int .i64 (0), .int .i64 (0), .string (⟨#[]⟩)]]) H51
           refine aK rfl Try.call63 (vs := #[.pointer (some ⟨gc, 0, none⟩)]) rfl rfl rfl (fZ _ _ _ _ _ _ (CV.step hV H51.1 hF798) hn hs797) ?_
           rintro e802 W801 ⟨s794, rfl, hs795, Hn800⟩; refine ⟨_, rfl, ?_⟩
           have H803 := hfr799 _ _ Hn800; clear H51
           refine aA ?_
           refine aB rfl (bB (vs := [(0, .int .i64 (6)), (1, .int .i64 (q6)), (2, .int .i64 (q17)), (3, .int .i64 (-1)), (4, .int .i64 (-1)), (5, .string (s794))]) (cells := #[.int .i64 (6), .int .i64 (q6), .int .i64 (q17), .int .i64 (-1), .int .i64 (-1), .string (s794)]) rfl kR) rfl rfl ?_
           refine aA ?_
           have H807 : St w F0 [hB g_0_0 118 #[.int .i64 (0), .int .i64 (0), .int .i64 (0), .int .i64 (0), .int .i64 (0), .string (⟨#[]⟩)], aV gc 157 A bs.length cb, hR Kn.int 3 (.slice (some ⟨g_3_1, 0, none⟩) 5 5) ([-1, -1, 0, 1, 2] : List Int)] W801 := H803.pick [2, 0, 1] kD rfl; clear H803
           refine aU rfl Try.sizeOf118 rfl rfl rfl rfl kS H807 ?_
           intro W804 hu805 Ha806; clear H807; clear hu805
           refine aF ?_
           refine aH ?_
           refine wp_ret ?_
           refine aR ?_
           refine aY ?_
           refine aR ?_
           refine bA (.inl rfl) Try.results143 Try.isAgg118 Try.sizeOf118 rfl (Ha806.blk 0 rfl) rfl ?_
           exact ⟨_, _, _, _, _, _, rfl, (Nat.le_trans hs795 kD), Ha806.pick [1] kD rfl⟩
          ·refine wp_skip ?_
           refine aH ?_
           refine wp_seq ?_
           refine aI [0, 1, 2, 3, 4, 5, 6, 7, 8, 9] rfl ?_
           refine aA ?_
           refine aB rfl (aC rfl) rfl rfl ?_
           refine aA ?_
           refine aB rfl (aC rfl) rfl rfl ?_
           refine aA ?_
           refine aB rfl (aC rfl) rfl rfl ?_
           refine aA ?_
           refine aB rfl (aC rfl) rfl rfl ?_
           refine aA ?_
           refine bT (vs := [(0, .int .i64 (-1)), (1, .int .i64 (0)), (2, .int .i64 (3))]) (cells := #[.int .i64 (-1), .int .i64 (0), .int .i64 (3)]) rfl Try.runUnderlying82 Try.sizeOf3 Try.zeroValue3 rfl kD kD kR rfl rfl H51 ?_
           intro g_21_4 W809 hu810 Ha811; clear H51
           have Hb812 := St.eT (xs := ([-1, 0, 3] : List Int)) (h1 := fun _ => rfl) Ha811 rfl kD rfl; clear hu810
           refine aA ?_
           have H815 : St w F0 [aV gc 157 A bs.length cb, hR Kn.int 3 (.slice (some ⟨g_21_4, 0, none⟩) 3 3) ([-1, 0, 3] : List Int), hR Kn.int 3 (.slice (some ⟨g_3_1, 0, none⟩) 5 5) ([-1, -1, 0, 1, 2] : List Int), hB g_0_0 118 #[.int .i64 (0), .int .i64 (0), .int .i64 (0), .int .i64 (0), .int .i64 (0), .string (⟨#[]⟩)]] W809 := Hb812.pick [1, 0, 2, 3] kD rfl; clear Hb812
           obtain ⟨F816, hs817, hF818, hfr819⟩ := St.frame (l0 := [aV gc 157 A bs.length cb, hR Kn.int 3 (.slice (some ⟨g_21_4, 0, none⟩) 3 3) ([-1, 0, 3] : List Int)]) (l := [hR Kn.int 3 (.slice (some ⟨g_3_1, 0, none⟩) 5 5) ([-1, -1, 0, 1, 2] : List Int), hB g_0_0 118 #[.int .i64 (0), .int .i64 (0), .int .i64 (0), .int .i64 (0), .int .i64 (0), .string (⟨#[]⟩)]]) H815
           refine aK rfl Try.call113 (vs := #[.pointer (some ⟨gc, 0, none⟩), .slice (some ⟨g_21_4, 0, none⟩) 3 3]) rfl rfl rfl (int_s ([-1, 0, 3] : List Int) _ _ kD _ _ _ _ _ _ (CV.step hV H815.1 hF818) hn hs817) ?_
           rintro e822 W821 ⟨s813, rfl, hs814, Hn820⟩; refine ⟨_, rfl, ?_⟩
           have H823 := hfr819 _ _ Hn820; clear H815
           refine aA ?_
           refine aB rfl (aC rfl) rfl rfl ?_
           refine aA ?_
           obtain ⟨F826, hs827, hF828, hfr829⟩ := St.frame (l0 := [aV gc 157 A bs.length cb]) (l := [hR Kn.int 3 (.slice (some ⟨g_21_4, 0, none⟩) 3 3) ([-1, 0, 3] : List Int), hR Kn.int 3 (.slice (some ⟨g_3_1, 0, none⟩) 5 5) ([-1, -1, 0, 1, 2] : List Int), hB g_0_0 118 #[.int .i64 (0), .int .i64 (0), .int .i64 (0), .int .i64 (0), .int .i64 (0), .string (⟨#[]⟩)]]) H823
           refine aK rfl Try.call63 (vs := #[.pointer (some ⟨gc, 0, none⟩)]) rfl rfl rfl (fZ _ _ _ _ _ _ (CV.step hV H823.1 hF828) hn hs827) ?_
           rintro e832 W831 ⟨s824, rfl, hs825, Hn830⟩; refine ⟨_, rfl, ?_⟩
           have H833 := hfr829 _ _ Hn830; clear H823
           refine aA ?_
           refine aB rfl (bB (vs := [(0, .int .i64 (6)), (1, .int .i64 (q6)), (2, .int .i64 (q17)), (3, .int .i64 (s31)), (4, .int .i64 (s813)), (5, .string (s824))]) (cells := #[.int .i64 (6), .int .i64 (q6), .int .i64 (q17), .int .i64 (s31), .int .i64 (s813), .string (s824)]) rfl kR) rfl rfl ?_
           refine aA ?_
           have H837 : St w F0 [hB g_0_0 118 #[.int .i64 (0), .int .i64 (0), .int .i64 (0), .int .i64 (0), .int .i64 (0), .string (⟨#[]⟩)], aV gc 157 A bs.length cb, hR Kn.int 3 (.slice (some ⟨g_21_4, 0, none⟩) 3 3) ([-1, 0, 3] : List Int), hR Kn.int 3 (.slice (some ⟨g_3_1, 0, none⟩) 5 5) ([-1, -1, 0, 1, 2] : List Int)] W831 := H833.pick [3, 0, 1, 2] kD rfl; clear H833
           refine aU rfl Try.sizeOf118 rfl rfl rfl rfl kS H837 ?_
           intro W834 hu835 Ha836; clear H837; clear hu835
           refine aF ?_
           refine aH ?_
           refine wp_ret ?_
           refine aY ?_
           refine aR ?_
           refine bA (.inl rfl) Try.results143 Try.isAgg118 Try.sizeOf118 rfl (Ha836.blk 0 rfl) rfl ?_
           exact ⟨_, _, _, _, _, _, rfl, (Nat.le_trans hs825 kD), Ha836.pick [1] kD rfl⟩
         ·refine wp_seq ?_
          refine aI [0, 1] rfl ?_
          refine aA ?_
          refine aB rfl (bD rfl rfl) rfl rfl ?_
          refine aA ?_
          refine aB rfl (aG rfl) rfl rfl ?_
          refine aF ?_
          refine aH ?_
          refine aW rfl (fun hc839 => ?_) (fun hc839 => ?_)
          ·refine wp_seq ?_
           refine wp_seq ?_
           refine aI [0, 1] rfl ?_
           refine aA ?_
           refine aB rfl (aC rfl) rfl rfl ?_
           refine aA ?_
           refine aB rfl (bD rfl rfl) rfl rfl ?_
           refine aF ?_
           refine aH ?_
           refine aW rfl (fun hc840 => ?_) (fun hc840 => ?_)
           ·refine wp_seq ?_
            refine aI [0, 1, 2, 3, 4, 5] rfl ?_
            refine aA ?_
            refine aB rfl (aC rfl) rfl rfl ?_
            refine aA ?_
            refine aB rfl (aC rfl) rfl rfl ?_
            refine aA ?_
            refine bT (vs := [(0, .string (⟨#[99, 101, 108, 108]⟩)), (1, .string (⟨#[112, 114, 111, 120, 121]⟩)), (2, .string (⟨#[109, 97, 107, 101, 114]⟩)), (3, .string (⟨#[110, 111, 110, 101]⟩))]) (cells := #[.string (⟨#[99, 101, 108, 108]⟩), .string (⟨#[112, 114, 111, 120, 121]⟩), .string (⟨#[109, 97, 107, 101, 114]⟩), .string (⟨#[110, 111, 110, 101]⟩)]) rfl Try.runUnderlying166 Try.sizeOf9 Try.zeroValue9 rfl kD kD kR rfl rfl H51 ?_
            intro g_24_2 W841 hu842 Ha843; clear H51
            have Hb844 := St.eT (xs := ([⟨#[99, 101, 108, 108]⟩, ⟨#[112, 114, 111, 120, 121]⟩, ⟨#[109, 97, 107, 101, 114]⟩, ⟨#[110, 111, 110, 101]⟩] : List ByteArray)) (h1 := fun _ => rfl) Ha843 rfl kD rfl; clear hu842
            refine aA ?_
            have H847 : St w F0 [aV gc 157 A bs.length cb, hR Kn.string 9 (.slice (some ⟨g_24_2, 0, none⟩) 4 4) ([⟨#[99, 101, 108, 108]⟩, ⟨#[112, 114, 111, 120, 121]⟩, ⟨#[109, 97, 107, 101, 114]⟩, ⟨#[110, 111, 110, 101]⟩] : List ByteArray), hR Kn.int 3 (.slice (some ⟨g_3_1, 0, none⟩) 5 5) ([-1, -1, 0, 1, 2] : List Int), hB g_0_0 118 #[.int .i64 (0), .int .i64 (0), .int .i64 (0), .int .i64 (0), .int .i64 (0), .string (⟨#[]⟩)]] W841 := Hb844.pick [1, 0, 2, 3] kD rfl; clear Hb844
            obtain ⟨F848, hs849, hF850, hfr851⟩ := St.frame (l0 := [aV gc 157 A bs.length cb, hR Kn.string 9 (.slice (some ⟨g_24_2, 0, none⟩) 4 4) ([⟨#[99, 101, 108, 108]⟩, ⟨#[112, 114, 111, 120, 121]⟩, ⟨#[109, 97, 107, 101, 114]⟩, ⟨#[110, 111, 110, 101]⟩] : List ByteArray)]) (l := [hR Kn.int 3 (.slice (some ⟨g_3_1, 0, none⟩) 5 5) ([-1, -1, 0, 1, 2] : List Int), hB g_0_0 118 #[.int .i64 (0), .int .i64 (0), .int .i64 (0), .int .i64 (0), .int .i64 (0), .string (⟨#[]⟩)]]) H847
            refine aK rfl Try.call110 (vs := #[.pointer (some ⟨gc, 0, none⟩), .slice (some ⟨g_24_2, 0, none⟩) 4 4]) rfl rfl rfl (gV ([⟨#[99, 101, 108, 108]⟩, ⟨#[112, 114, 111, 120, 121]⟩, ⟨#[109, 97, 107, 101, 114]⟩, ⟨#[110, 111, 110, 101]⟩] : List ByteArray) _ _ kD _ _ _ _ _ _ (CV.step hV H847.1 hF850) hn hs849) ?_
            rintro e854 W853 ⟨s845, rfl, hs846, Hn852⟩; refine ⟨_, rfl, ?_⟩
            have H855 := hfr851 _ _ Hn852; clear H847
            refine aA ?_
            refine aB rfl (bB (vs := [(0, .int .i64 (7)), (1, .int .i64 (q6)), (3, .int .i64 (-1)), (4, .int .i64 (-1)), (5, .string (s845))]) (cells := #[.int .i64 (7), .int .i64 (q6), .int .i64 (0), .int .i64 (-1), .int .i64 (-1), .string (s845)]) rfl kR) rfl rfl ?_
            refine aA ?_
            have H859 : St w F0 [hB g_0_0 118 #[.int .i64 (0), .int .i64 (0), .int .i64 (0), .int .i64 (0), .int .i64 (0), .string (⟨#[]⟩)], aV gc 157 A bs.length cb, hR Kn.string 9 (.slice (some ⟨g_24_2, 0, none⟩) 4 4) ([⟨#[99, 101, 108, 108]⟩, ⟨#[112, 114, 111, 120, 121]⟩, ⟨#[109, 97, 107, 101, 114]⟩, ⟨#[110, 111, 110, 101]⟩] : List ByteArray), hR Kn.int 3 (.slice (some ⟨g_3_1, 0, none⟩) 5 5) ([-1, -1, 0, 1, 2] : List Int)] W853 := H855.pick [3, 0, 1, 2] kD rfl; clear H855
            refine aU rfl Try.sizeOf118 rfl rfl rfl rfl kS H859 ?_
            intro W856 hu857 Ha858; clear H859; clear hu857
            refine aF ?_
            refine aH ?_
            refine wp_ret ?_
            refine aR ?_
            refine aY ?_
            refine aR ?_
            refine bA (.inl rfl) Try.results143 Try.isAgg118 Try.sizeOf118 rfl (Ha858.blk 0 rfl) rfl ?_
            exact ⟨_, _, _, _, _, _, rfl, (eZ hs846 kD), Ha858.pick [1] kD rfl⟩
           ·refine wp_skip ?_
            refine aH ?_
            refine wp_seq ?_
            refine aI [0, 1, 2, 3, 4, 5, 6] rfl ?_
            refine aA ?_
            refine aB rfl (aC rfl) rfl rfl ?_
            refine aA ?_
            refine aB rfl (aC rfl) rfl rfl ?_
            refine aA ?_
            refine aB rfl (aC rfl) rfl rfl ?_
            refine aA ?_
            refine bT (vs := [(0, .string (⟨#[99, 101, 108, 108]⟩)), (1, .string (⟨#[112, 114, 111, 120, 121]⟩)), (2, .string (⟨#[109, 97, 107, 101, 114]⟩))]) (cells := #[.string (⟨#[99, 101, 108, 108]⟩), .string (⟨#[112, 114, 111, 120, 121]⟩), .string (⟨#[109, 97, 107, 101, 114]⟩)]) rfl Try.runUnderlying166 Try.sizeOf9 Try.zeroValue9 rfl kD kD kR rfl rfl H51 ?_
            intro g_25_3 W861 hu862 Ha863; clear H51
            have Hb864 := St.eT (xs := ([⟨#[99, 101, 108, 108]⟩, ⟨#[112, 114, 111, 120, 121]⟩, ⟨#[109, 97, 107, 101, 114]⟩] : List ByteArray)) (h1 := fun _ => rfl) Ha863 rfl kD rfl; clear hu862
            refine aA ?_
            have H867 : St w F0 [aV gc 157 A bs.length cb, hR Kn.string 9 (.slice (some ⟨g_25_3, 0, none⟩) 3 3) ([⟨#[99, 101, 108, 108]⟩, ⟨#[112, 114, 111, 120, 121]⟩, ⟨#[109, 97, 107, 101, 114]⟩] : List ByteArray), hR Kn.int 3 (.slice (some ⟨g_3_1, 0, none⟩) 5 5) ([-1, -1, 0, 1, 2] : List Int), hB g_0_0 118 #[.int .i64 (0), .int .i64 (0), .int .i64 (0), .int .i64 (0), .int .i64 (0), .string (⟨#[]⟩)]] W861 := Hb864.pick [1, 0, 2, 3] kD rfl; clear Hb864
            obtain ⟨F868, hs869, hF870, hfr871⟩ := St.frame (l0 := [aV gc 157 A bs.length cb, hR Kn.string 9 (.slice (some ⟨g_25_3, 0, none⟩) 3 3) ([⟨#[99, 101, 108, 108]⟩, ⟨#[112, 114, 111, 120, 121]⟩, ⟨#[109, 97, 107, 101, 114]⟩] : List ByteArray)]) (l := [hR Kn.int 3 (.slice (some ⟨g_3_1, 0, none⟩) 5 5) ([-1, -1, 0, 1, 2] : List Int), hB g_0_0 118 #[.int .i64 (0), .int .i64 (0), .int .i64 (0), .int .i64 (0), .int .i64 (0), .string (⟨#[]⟩)]]) H867
            refine aK rfl Try.call110 (vs := #[.pointer (some ⟨gc, 0, none⟩), .slice (some ⟨g_25_3, 0, none⟩) 3 3]) rfl rfl rfl (gV ([⟨#[99, 101, 108, 108]⟩, ⟨#[112, 114, 111, 120, 121]⟩, ⟨#[109, 97, 107, 101, 114]⟩] : List ByteArray) _ _ kD _ _ _ _ _ _ (CV.step hV H867.1 hF870) hn hs869) ?_
            rintro e874 W873 ⟨s865, rfl, hs866, Hn872⟩; refine ⟨_, rfl, ?_⟩
            have H875 := hfr871 _ _ Hn872; clear H867
            refine aA ?_
            refine aB rfl (bB (vs := [(0, .int .i64 (7)), (1, .int .i64 (q6)), (3, .int .i64 (s31)), (4, .int .i64 (-1)), (5, .string (s865))]) (cells := #[.int .i64 (7), .int .i64 (q6), .int .i64 (0), .int .i64 (s31), .int .i64 (-1), .string (s865)]) rfl kR) rfl rfl ?_
            refine aA ?_
            have H879 : St w F0 [hB g_0_0 118 #[.int .i64 (0), .int .i64 (0), .int .i64 (0), .int .i64 (0), .int .i64 (0), .string (⟨#[]⟩)], aV gc 157 A bs.length cb, hR Kn.string 9 (.slice (some ⟨g_25_3, 0, none⟩) 3 3) ([⟨#[99, 101, 108, 108]⟩, ⟨#[112, 114, 111, 120, 121]⟩, ⟨#[109, 97, 107, 101, 114]⟩] : List ByteArray), hR Kn.int 3 (.slice (some ⟨g_3_1, 0, none⟩) 5 5) ([-1, -1, 0, 1, 2] : List Int)] W873 := H875.pick [3, 0, 1, 2] kD rfl; clear H875
            refine aU rfl Try.sizeOf118 rfl rfl rfl rfl kS H879 ?_
            intro W876 hu877 Ha878; clear H879; clear hu877
            refine aF ?_
            refine aH ?_
            refine wp_ret ?_
            refine aY ?_
            refine aR ?_
            refine bA (.inl rfl) Try.results143 Try.isAgg118 Try.sizeOf118 rfl (Ha878.blk 0 rfl) rfl ?_
            exact ⟨_, _, _, _, _, _, rfl, (eZ hs866 kD), Ha878.pick [1] kD rfl⟩
          ·refine wp_seq ?_
           refine aI [0, 1] rfl ?_
           refine aA ?_
           refine aB rfl (bD rfl rfl) rfl rfl ?_
           refine aA ?_
           refine aB rfl (aG rfl) rfl rfl ?_
           refine aF ?_
           refine aH ?_
           refine aW rfl (fun hc881 => ?_) (fun hc881 => ?_)
           ·refine wp_seq ?_
            refine aI [0, 1, 2, 3, 4] rfl ?_
            refine aA ?_
            refine aB rfl (aC rfl) rfl rfl ?_
            refine aA ?_
            obtain ⟨F884, hs885, hF886, hfr887⟩ := St.frame (l0 := [aV gc 157 A bs.length cb]) (l := [hR Kn.int 3 (.slice (some ⟨g_3_1, 0, none⟩) 5 5) ([-1, -1, 0, 1, 2] : List Int), hB g_0_0 118 #[.int .i64 (0), .int .i64 (0), .int .i64 (0), .int .i64 (0), .int .i64 (0), .string (⟨#[]⟩)]]) H51
            refine aK rfl Try.call44 (vs := #[.pointer (some ⟨gc, 0, none⟩), .int .i64 (3)]) rfl rfl rfl (cB 3 _ _ _ _ _ _ (CV.step hV H51.1 hF886) hn hs885) ?_
            rintro e890 W889 ⟨q882, rfl, hq883, Hn888⟩; refine ⟨_, rfl, ?_⟩
            have H891 := hfr887 _ _ Hn888; clear H51
            refine aA ?_
            refine aB rfl (aC rfl) rfl rfl ?_
            refine aA ?_
            refine aB rfl (bB (vs := [(0, .int .i64 (8)), (1, .int .i64 (q882)), (2, .int .i64 (q17))]) (cells := #[.int .i64 (8), .int .i64 (q882), .int .i64 (q17), .int .i64 (0), .int .i64 (0), .string (⟨#[]⟩)]) rfl kR) rfl rfl ?_
            refine aA ?_
            have H895 : St w F0 [hB g_0_0 118 #[.int .i64 (0), .int .i64 (0), .int .i64 (0), .int .i64 (0), .int .i64 (0), .string (⟨#[]⟩)], aV gc 157 A bs.length cb, hR Kn.int 3 (.slice (some ⟨g_3_1, 0, none⟩) 5 5) ([-1, -1, 0, 1, 2] : List Int)] W889 := H891.pick [2, 0, 1] kD rfl; clear H891
            refine aU rfl Try.sizeOf118 rfl rfl rfl rfl kS H895 ?_
            intro W892 hu893 Ha894; clear H895; clear hu893
            refine aF ?_
            refine aH ?_
            refine wp_ret ?_
            refine aY ?_
            refine aR ?_
            refine bA (.inl rfl) Try.results143 Try.isAgg118 Try.sizeOf118 rfl (Ha894.blk 0 rfl) rfl ?_
            exact ⟨_, _, _, _, _, _, rfl, (Nat.le_of_ble_eq_true rfl), Ha894.pick [1] kD rfl⟩
           ·refine wp_skip ?_
            refine dR ?_
            refine aH ?_
            refine wp_seq ?_
            refine wp_seq ?_
            refine aI [0, 1] rfl ?_
            refine aA ?_
            refine aB rfl (aC rfl) rfl rfl ?_
            refine aA ?_
            obtain ⟨F898, hs899, hF900, hfr901⟩ := St.frame (l0 := [aV gc 157 A bs.length cb]) (l := [hR Kn.int 3 (.slice (some ⟨g_3_1, 0, none⟩) 5 5) ([-1, -1, 0, 1, 2] : List Int), hB g_0_0 118 #[.int .i64 (0), .int .i64 (0), .int .i64 (0), .int .i64 (0), .int .i64 (0), .string (⟨#[]⟩)]]) H51
            refine aK rfl Try.call43 (vs := #[.pointer (some ⟨gc, 0, none⟩), .int .i64 (2)]) rfl rfl rfl (once_s 2 _ _ _ _ _ _ (CV.step hV H51.1 hF900) hn hs899) ?_
            rintro e904 W903 ⟨b897, rfl, Hn902⟩; refine ⟨_, rfl, ?_⟩
            have H905 := hfr901 _ _ Hn902; clear H51
            refine aF ?_
            refine aH ?_
            refine fC (b := b897) rfl (fun hc906 => ?_) (fun hc906 => ?_)
            ·refine wp_seq ?_
             refine aI [0, 1, 2, 3, 4, 5] rfl ?_
             refine aA ?_
             refine aB rfl (aC rfl) rfl rfl ?_
             refine aA ?_
             refine aB rfl (aC rfl) rfl rfl ?_
             refine aA ?_
             obtain ⟨F909, hs910, hF911, hfr912⟩ := St.frame (l0 := [aV gc 157 A bs.length cb]) (l := [hR Kn.int 3 (.slice (some ⟨g_3_1, 0, none⟩) 5 5) ([-1, -1, 0, 1, 2] : List Int), hB g_0_0 118 #[.int .i64 (0), .int .i64 (0), .int .i64 (0), .int .i64 (0), .int .i64 (0), .string (⟨#[]⟩)]]) H905
             refine aK rfl Try.call44 (vs := #[.pointer (some ⟨gc, 0, none⟩), .int .i64 (3)]) rfl rfl rfl (cB 3 _ _ _ _ _ _ (CV.step hV H905.1 hF911) hn hs910) ?_
             rintro e915 W914 ⟨q907, rfl, hq908, Hn913⟩; refine ⟨_, rfl, ?_⟩
             have H916 := hfr912 _ _ Hn913; clear H905
             refine aA ?_
             refine aB rfl (rn_add rfl rfl kO) rfl rfl ?_
             refine aA ?_
             refine aB rfl (bB (vs := [(0, .int .i64 (9)), (1, .int .i64 (q6)), (2, .int .i64 ((1 + q907)))]) (cells := #[.int .i64 (9), .int .i64 (q6), .int .i64 ((1 + q907)), .int .i64 (0), .int .i64 (0), .string (⟨#[]⟩)]) rfl kR) rfl rfl ?_
             refine aA ?_
             have H920 : St w F0 [hB g_0_0 118 #[.int .i64 (0), .int .i64 (0), .int .i64 (0), .int .i64 (0), .int .i64 (0), .string (⟨#[]⟩)], aV gc 157 A bs.length cb, hR Kn.int 3 (.slice (some ⟨g_3_1, 0, none⟩) 5 5) ([-1, -1, 0, 1, 2] : List Int)] W914 := H916.pick [2, 0, 1] kD rfl; clear H916
             refine aU rfl Try.sizeOf118 rfl rfl rfl rfl kS H920 ?_
             intro W917 hu918 Ha919; clear H920; clear hu918
             refine aF ?_
             refine aH ?_
             refine wp_ret ?_
             refine aR ?_
             refine bA (.inl rfl) Try.results143 Try.isAgg118 Try.sizeOf118 rfl (Ha919.blk 0 rfl) rfl ?_
             exact ⟨_, _, _, _, _, _, rfl, (Nat.le_of_ble_eq_true rfl), Ha919.pick [1] kD rfl⟩
            ·refine wp_skip ?_
             refine aH ?_
             refine wp_seq ?_
             refine aI [0, 1, 2] rfl ?_
             refine aA ?_
             refine aB rfl (aC rfl) rfl rfl ?_
             refine aA ?_
             refine aB rfl (bB (vs := [(0, .int .i64 (10)), (1, .int .i64 (q6))]) (cells := #[.int .i64 (10), .int .i64 (q6), .int .i64 (0), .int .i64 (0), .int .i64 (0), .string (⟨#[]⟩)]) rfl kR) rfl rfl ?_
             refine aA ?_
             have H925 : St w F0 [hB g_0_0 118 #[.int .i64 (0), .int .i64 (0), .int .i64 (0), .int .i64 (0), .int .i64 (0), .string (⟨#[]⟩)], aV gc 157 A bs.length cb, hR Kn.int 3 (.slice (some ⟨g_3_1, 0, none⟩) 5 5) ([-1, -1, 0, 1, 2] : List Int)] W903 := H905.pick [2, 0, 1] kD rfl; clear H905
             refine aU rfl Try.sizeOf118 rfl rfl rfl rfl kS H925 ?_
             intro W922 hu923 Ha924; clear H925; clear hu923
             refine aF ?_
             refine aH ?_
             refine wp_ret ?_
             refine bA (.inl rfl) Try.results143 Try.isAgg118 Try.sizeOf118 rfl (Ha924.blk 0 rfl) rfl ?_
             exact ⟨_, _, _, _, _, _, rfl, (Nat.le_of_ble_eq_true rfl), Ha924.pick [1] kD rfl⟩
        ·refine aI [0, 1] rfl ?_
         refine aA ?_
         refine aB rfl (bD rfl rfl) rfl rfl ?_
         refine aA ?_
         refine aB rfl (aG rfl) rfl rfl ?_
         refine aF ?_
         refine aH ?_
         refine aW rfl (fun hc927 => ?_) (fun hc927 => ?_)
         ·refine wp_seq ?_
          refine wp_seq ?_
          refine aI [0, 1] rfl ?_
          refine aA ?_
          refine aB rfl (aC rfl) rfl rfl ?_
          refine aA ?_
          refine aB rfl (bD rfl rfl) rfl rfl ?_
          refine aF ?_
          refine aH ?_
          refine aW rfl (fun hc928 => ?_) (fun hc928 => ?_)
          ·refine wp_seq ?_
           refine aI [0, 1, 2, 3, 4, 5] rfl ?_
           refine aA ?_
           refine aB rfl (aC rfl) rfl rfl ?_
           refine aA ?_
           refine aB rfl (aC rfl) rfl rfl ?_
           refine aA ?_
           refine aB rfl (aC rfl) rfl rfl ?_
           refine aA ?_
           obtain ⟨F931, hs932, hF933, hfr934⟩ := St.frame (l0 := [aV gc 157 A bs.length cb]) (l := [hR Kn.int 3 (.slice (some ⟨g_3_1, 0, none⟩) 5 5) ([-1, -1, 0, 1, 2] : List Int), hB g_0_0 118 #[.int .i64 (0), .int .i64 (0), .int .i64 (0), .int .i64 (0), .int .i64 (0), .string (⟨#[]⟩)]]) H51
           refine aK rfl Try.call63 (vs := #[.pointer (some ⟨gc, 0, none⟩)]) rfl rfl rfl (fZ _ _ _ _ _ _ (CV.step hV H51.1 hF933) hn hs932) ?_
           rintro e937 W936 ⟨s929, rfl, hs930, Hn935⟩; refine ⟨_, rfl, ?_⟩
           have H938 := hfr934 _ _ Hn935; clear H51
           refine aA ?_
           refine aB rfl (bB (vs := [(0, .int .i64 (6)), (1, .int .i64 (q6)), (2, .int .i64 (q17)), (3, .int .i64 (-1)), (4, .int .i64 (-1)), (5, .string (s929))]) (cells := #[.int .i64 (6), .int .i64 (q6), .int .i64 (q17), .int .i64 (-1), .int .i64 (-1), .string (s929)]) rfl kR) rfl rfl ?_
           refine aA ?_
           have H942 : St w F0 [hB g_0_0 118 #[.int .i64 (0), .int .i64 (0), .int .i64 (0), .int .i64 (0), .int .i64 (0), .string (⟨#[]⟩)], aV gc 157 A bs.length cb, hR Kn.int 3 (.slice (some ⟨g_3_1, 0, none⟩) 5 5) ([-1, -1, 0, 1, 2] : List Int)] W936 := H938.pick [2, 0, 1] kD rfl; clear H938
           refine aU rfl Try.sizeOf118 rfl rfl rfl rfl kS H942 ?_
           intro W939 hu940 Ha941; clear H942; clear hu940
           refine aF ?_
           refine aH ?_
           refine wp_ret ?_
           refine aR ?_
           refine aY ?_
           refine aR ?_
           refine bA (.inl rfl) Try.results143 Try.isAgg118 Try.sizeOf118 rfl (Ha941.blk 0 rfl) rfl ?_
           exact ⟨_, _, _, _, _, _, rfl, (Nat.le_trans hs930 kD), Ha941.pick [1] kD rfl⟩
          ·refine wp_skip ?_
           refine aH ?_
           refine wp_seq ?_
           refine aI [0, 1, 2, 3, 4, 5, 6, 7, 8, 9] rfl ?_
           refine aA ?_
           refine aB rfl (aC rfl) rfl rfl ?_
           refine aA ?_
           refine aB rfl (aC rfl) rfl rfl ?_
           refine aA ?_
           refine aB rfl (aC rfl) rfl rfl ?_
           refine aA ?_
           refine aB rfl (aC rfl) rfl rfl ?_
           refine aA ?_
           refine bT (vs := [(0, .int .i64 (-1)), (1, .int .i64 (0)), (2, .int .i64 (3))]) (cells := #[.int .i64 (-1), .int .i64 (0), .int .i64 (3)]) rfl Try.runUnderlying82 Try.sizeOf3 Try.zeroValue3 rfl kD kD kR rfl rfl H51 ?_
           intro g_21_4 W944 hu945 Ha946; clear H51
           have Hb947 := St.eT (xs := ([-1, 0, 3] : List Int)) (h1 := fun _ => rfl) Ha946 rfl kD rfl; clear hu945
           refine aA ?_
           have H950 : St w F0 [aV gc 157 A bs.length cb, hR Kn.int 3 (.slice (some ⟨g_21_4, 0, none⟩) 3 3) ([-1, 0, 3] : List Int), hR Kn.int 3 (.slice (some ⟨g_3_1, 0, none⟩) 5 5) ([-1, -1, 0, 1, 2] : List Int), hB g_0_0 118 #[.int .i64 (0), .int .i64 (0), .int .i64 (0), .int .i64 (0), .int .i64 (0), .string (⟨#[]⟩)]] W944 := Hb947.pick [1, 0, 2, 3] kD rfl; clear Hb947
           obtain ⟨F951, hs952, hF953, hfr954⟩ := St.frame (l0 := [aV gc 157 A bs.length cb, hR Kn.int 3 (.slice (some ⟨g_21_4, 0, none⟩) 3 3) ([-1, 0, 3] : List Int)]) (l := [hR Kn.int 3 (.slice (some ⟨g_3_1, 0, none⟩) 5 5) ([-1, -1, 0, 1, 2] : List Int), hB g_0_0 118 #[.int .i64 (0), .int .i64 (0), .int .i64 (0), .int .i64 (0), .int .i64 (0), .string (⟨#[]⟩)]]) H950
           refine aK rfl Try.call113 (vs := #[.pointer (some ⟨gc, 0, none⟩), .slice (some ⟨g_21_4, 0, none⟩) 3 3]) rfl rfl rfl (int_s ([-1, 0, 3] : List Int) _ _ kD _ _ _ _ _ _ (CV.step hV H950.1 hF953) hn hs952) ?_
           rintro e957 W956 ⟨s948, rfl, hs949, Hn955⟩; refine ⟨_, rfl, ?_⟩
           have H958 := hfr954 _ _ Hn955; clear H950
           refine aA ?_
           refine aB rfl (aC rfl) rfl rfl ?_
           refine aA ?_
           obtain ⟨F961, hs962, hF963, hfr964⟩ := St.frame (l0 := [aV gc 157 A bs.length cb]) (l := [hR Kn.int 3 (.slice (some ⟨g_21_4, 0, none⟩) 3 3) ([-1, 0, 3] : List Int), hR Kn.int 3 (.slice (some ⟨g_3_1, 0, none⟩) 5 5) ([-1, -1, 0, 1, 2] : List Int), hB g_0_0 118 #[.int .i64 (0), .int .i64 (0), .int .i64 (0), .int .i64 (0), .int .i64 (0), .string (⟨#[]⟩)]]) H958
           refine aK rfl Try.call63 (vs := #[.pointer (some ⟨gc, 0, none⟩)]) rfl rfl rfl (fZ _ _ _ _ _ _ (CV.step hV H958.1 hF963) hn hs962) ?_
           rintro e967 W966 ⟨s959, rfl, hs960, Hn965⟩; refine ⟨_, rfl, ?_⟩
           have H968 := hfr964 _ _ Hn965; clear H958
           refine aA ?_
           refine aB rfl (bB (vs := [(0, .int .i64 (6)), (1, .int .i64 (q6)), (2, .int .i64 (q17)), (3, .int .i64 (s31)), (4, .int .i64 (s948)), (5, .string (s959))]) (cells := #[.int .i64 (6), .int .i64 (q6), .int .i64 (q17), .int .i64 (s31), .int .i64 (s948), .string (s959)]) rfl kR) rfl rfl ?_
           refine aA ?_
           have H972 : St w F0 [hB g_0_0 118 #[.int .i64 (0), .int .i64 (0), .int .i64 (0), .int .i64 (0), .int .i64 (0), .string (⟨#[]⟩)], aV gc 157 A bs.length cb, hR Kn.int 3 (.slice (some ⟨g_21_4, 0, none⟩) 3 3) ([-1, 0, 3] : List Int), hR Kn.int 3 (.slice (some ⟨g_3_1, 0, none⟩) 5 5) ([-1, -1, 0, 1, 2] : List Int)] W966 := H968.pick [3, 0, 1, 2] kD rfl; clear H968
           refine aU rfl Try.sizeOf118 rfl rfl rfl rfl kS H972 ?_
           intro W969 hu970 Ha971; clear H972; clear hu970
           refine aF ?_
           refine aH ?_
           refine wp_ret ?_
           refine aY ?_
           refine aR ?_
           refine bA (.inl rfl) Try.results143 Try.isAgg118 Try.sizeOf118 rfl (Ha971.blk 0 rfl) rfl ?_
           exact ⟨_, _, _, _, _, _, rfl, (Nat.le_trans hs960 kD), Ha971.pick [1] kD rfl⟩
         ·refine wp_seq ?_
          refine aI [0, 1] rfl ?_
          refine aA ?_
          refine aB rfl (bD rfl rfl) rfl rfl ?_
          refine aA ?_
          refine aB rfl (aG rfl) rfl rfl ?_
          refine aF ?_
          refine aH ?_
          refine aW rfl (fun hc974 => ?_) (fun hc974 => ?_)
          ·refine wp_seq ?_
           refine wp_seq ?_
           refine aI [0, 1] rfl ?_
           refine aA ?_
           refine aB rfl (aC rfl) rfl rfl ?_
           refine aA ?_
           refine aB rfl (bD rfl rfl) rfl rfl ?_
           refine aF ?_
           refine aH ?_
           refine aW rfl (fun hc975 => ?_) (fun hc975 => ?_)
           ·refine wp_seq ?_
            refine aI [0, 1, 2, 3, 4, 5] rfl ?_
            refine aA ?_
            refine aB rfl (aC rfl) rfl rfl ?_
            refine aA ?_
            refine aB rfl (aC rfl) rfl rfl ?_
            refine aA ?_
            refine bT (vs := [(0, .string (⟨#[99, 101, 108, 108]⟩)), (1, .string (⟨#[112, 114, 111, 120, 121]⟩)), (2, .string (⟨#[109, 97, 107, 101, 114]⟩)), (3, .string (⟨#[110, 111, 110, 101]⟩))]) (cells := #[.string (⟨#[99, 101, 108, 108]⟩), .string (⟨#[112, 114, 111, 120, 121]⟩), .string (⟨#[109, 97, 107, 101, 114]⟩), .string (⟨#[110, 111, 110, 101]⟩)]) rfl Try.runUnderlying166 Try.sizeOf9 Try.zeroValue9 rfl kD kD kR rfl rfl H51 ?_
            intro g_24_2 W976 hu977 Ha978; clear H51
            have Hb979 := St.eT (xs := ([⟨#[99, 101, 108, 108]⟩, ⟨#[112, 114, 111, 120, 121]⟩, ⟨#[109, 97, 107, 101, 114]⟩, ⟨#[110, 111, 110, 101]⟩] : List ByteArray)) (h1 := fun _ => rfl) Ha978 rfl kD rfl; clear hu977
            refine aA ?_
            have H982 : St w F0 [aV gc 157 A bs.length cb, hR Kn.string 9 (.slice (some ⟨g_24_2, 0, none⟩) 4 4) ([⟨#[99, 101, 108, 108]⟩, ⟨#[112, 114, 111, 120, 121]⟩, ⟨#[109, 97, 107, 101, 114]⟩, ⟨#[110, 111, 110, 101]⟩] : List ByteArray), hR Kn.int 3 (.slice (some ⟨g_3_1, 0, none⟩) 5 5) ([-1, -1, 0, 1, 2] : List Int), hB g_0_0 118 #[.int .i64 (0), .int .i64 (0), .int .i64 (0), .int .i64 (0), .int .i64 (0), .string (⟨#[]⟩)]] W976 := Hb979.pick [1, 0, 2, 3] kD rfl; clear Hb979
            obtain ⟨F983, hs984, hF985, hfr986⟩ := St.frame (l0 := [aV gc 157 A bs.length cb, hR Kn.string 9 (.slice (some ⟨g_24_2, 0, none⟩) 4 4) ([⟨#[99, 101, 108, 108]⟩, ⟨#[112, 114, 111, 120, 121]⟩, ⟨#[109, 97, 107, 101, 114]⟩, ⟨#[110, 111, 110, 101]⟩] : List ByteArray)]) (l := [hR Kn.int 3 (.slice (some ⟨g_3_1, 0, none⟩) 5 5) ([-1, -1, 0, 1, 2] : List Int), hB g_0_0 118 #[.int .i64 (0), .int .i64 (0), .int .i64 (0), .int .i64 (0), .int .i64 (0), .string (⟨#[]⟩)]]) H982
            refine aK rfl Try.call110 (vs := #[.pointer (some ⟨gc, 0, none⟩), .slice (some ⟨g_24_2, 0, none⟩) 4 4]) rfl rfl rfl (gV ([⟨#[99, 101, 108, 108]⟩, ⟨#[112, 114, 111, 120, 121]⟩, ⟨#[109, 97, 107, 101, 114]⟩, ⟨#[110, 111, 110, 101]⟩] : List ByteArray) _ _ kD _ _ _ _ _ _ (CV.step hV H982.1 hF985) hn hs984) ?_
            rintro e989 W988 ⟨s980, rfl, hs981, Hn987⟩; refine ⟨_, rfl, ?_⟩
            have H990 := hfr986 _ _ Hn987; clear H982
            refine aA ?_
            refine aB rfl (bB (vs := [(0, .int .i64 (7)), (1, .int .i64 (q6)), (3, .int .i64 (-1)), (4, .int .i64 (-1)), (5, .string (s980))]) (cells := #[.int .i64 (7), .int .i64 (q6), .int .i64 (0), .int .i64 (-1), .int .i64 (-1), .string (s980)]) rfl kR) rfl rfl ?_
            refine aA ?_
            have H994 : St w F0 [hB g_0_0 118 #[.int .i64 (0), .int .i64 (0), .int .i64 (0), .int .i64 (0), .int .i64 (0), .string (⟨#[]⟩)], aV gc 157 A bs.length cb, hR Kn.string 9 (.slice (some ⟨g_24_2, 0, none⟩) 4 4) ([⟨#[99, 101, 108, 108]⟩, ⟨#[112, 114, 111, 120, 121]⟩, ⟨#[109, 97, 107, 101, 114]⟩, ⟨#[110, 111, 110, 101]⟩] : List ByteArray), hR Kn.int 3 (.slice (some ⟨g_3_1, 0, none⟩) 5 5) ([-1, -1, 0, 1, 2] : List Int)] W988 := H990.pick [3, 0, 1, 2] kD rfl; clear H990
            refine aU rfl Try.sizeOf118 rfl rfl rfl rfl kS H994 ?_
            intro W991 hu992 Ha993; clear H994; clear hu992
            refine aF ?_
            refine aH ?_
            refine wp_ret ?_
            refine aR ?_
            refine aY ?_
            refine aR ?_
            refine bA (.inl rfl) Try.results143 Try.isAgg118 Try.sizeOf118 rfl (Ha993.blk 0 rfl) rfl ?_
            exact ⟨_, _, _, _, _, _, rfl, (eZ hs981 kD), Ha993.pick [1] kD rfl⟩
           ·refine wp_skip ?_
            refine aH ?_
            refine wp_seq ?_
            refine aI [0, 1, 2, 3, 4, 5, 6] rfl ?_
            refine aA ?_
            refine aB rfl (aC rfl) rfl rfl ?_
            refine aA ?_
            refine aB rfl (aC rfl) rfl rfl ?_
            refine aA ?_
            refine aB rfl (aC rfl) rfl rfl ?_
            refine aA ?_
            refine bT (vs := [(0, .string (⟨#[99, 101, 108, 108]⟩)), (1, .string (⟨#[112, 114, 111, 120, 121]⟩)), (2, .string (⟨#[109, 97, 107, 101, 114]⟩))]) (cells := #[.string (⟨#[99, 101, 108, 108]⟩), .string (⟨#[112, 114, 111, 120, 121]⟩), .string (⟨#[109, 97, 107, 101, 114]⟩)]) rfl Try.runUnderlying166 Try.sizeOf9 Try.zeroValue9 rfl kD kD kR rfl rfl H51 ?_
            intro g_25_3 W996 hu997 Ha998; clear H51
            have Hb999 := St.eT (xs := ([⟨#[99, 101, 108, 108]⟩, ⟨#[112, 114, 111, 120, 121]⟩, ⟨#[109, 97, 107, 101, 114]⟩] : List ByteArray)) (h1 := fun _ => rfl) Ha998 rfl kD rfl; clear hu997
            refine aA ?_
            have H1002 : St w F0 [aV gc 157 A bs.length cb, hR Kn.string 9 (.slice (some ⟨g_25_3, 0, none⟩) 3 3) ([⟨#[99, 101, 108, 108]⟩, ⟨#[112, 114, 111, 120, 121]⟩, ⟨#[109, 97, 107, 101, 114]⟩] : List ByteArray), hR Kn.int 3 (.slice (some ⟨g_3_1, 0, none⟩) 5 5) ([-1, -1, 0, 1, 2] : List Int), hB g_0_0 118 #[.int .i64 (0), .int .i64 (0), .int .i64 (0), .int .i64 (0), .int .i64 (0), .string (⟨#[]⟩)]] W996 := Hb999.pick [1, 0, 2, 3] kD rfl; clear Hb999
            obtain ⟨F1003, hs1004, hF1005, hfr1006⟩ := St.frame (l0 := [aV gc 157 A bs.length cb, hR Kn.string 9 (.slice (some ⟨g_25_3, 0, none⟩) 3 3) ([⟨#[99, 101, 108, 108]⟩, ⟨#[112, 114, 111, 120, 121]⟩, ⟨#[109, 97, 107, 101, 114]⟩] : List ByteArray)]) (l := [hR Kn.int 3 (.slice (some ⟨g_3_1, 0, none⟩) 5 5) ([-1, -1, 0, 1, 2] : List Int), hB g_0_0 118 #[.int .i64 (0), .int .i64 (0), .int .i64 (0), .int .i64 (0), .int .i64 (0), .string (⟨#[]⟩)]]) H1002
            refine aK rfl Try.call110 (vs := #[.pointer (some ⟨gc, 0, none⟩), .slice (some ⟨g_25_3, 0, none⟩) 3 3]) rfl rfl rfl (gV ([⟨#[99, 101, 108, 108]⟩, ⟨#[112, 114, 111, 120, 121]⟩, ⟨#[109, 97, 107, 101, 114]⟩] : List ByteArray) _ _ kD _ _ _ _ _ _ (CV.step hV H1002.1 hF1005) hn hs1004) ?_
            rintro e1009 W1008 ⟨s1000, rfl, hs1001, Hn1007⟩; refine ⟨_, rfl, ?_⟩
            have H1010 := hfr1006 _ _ Hn1007; clear H1002
            refine aA ?_
            refine aB rfl (bB (vs := [(0, .int .i64 (7)), (1, .int .i64 (q6)), (3, .int .i64 (s31)), (4, .int .i64 (-1)), (5, .string (s1000))]) (cells := #[.int .i64 (7), .int .i64 (q6), .int .i64 (0), .int .i64 (s31), .int .i64 (-1), .string (s1000)]) rfl kR) rfl rfl ?_
            refine aA ?_
            have H1014 : St w F0 [hB g_0_0 118 #[.int .i64 (0), .int .i64 (0), .int .i64 (0), .int .i64 (0), .int .i64 (0), .string (⟨#[]⟩)], aV gc 157 A bs.length cb, hR Kn.string 9 (.slice (some ⟨g_25_3, 0, none⟩) 3 3) ([⟨#[99, 101, 108, 108]⟩, ⟨#[112, 114, 111, 120, 121]⟩, ⟨#[109, 97, 107, 101, 114]⟩] : List ByteArray), hR Kn.int 3 (.slice (some ⟨g_3_1, 0, none⟩) 5 5) ([-1, -1, 0, 1, 2] : List Int)] W1008 := H1010.pick [3, 0, 1, 2] kD rfl; clear H1010
            refine aU rfl Try.sizeOf118 rfl rfl rfl rfl kS H1014 ?_
            intro W1011 hu1012 Ha1013; clear H1014; clear hu1012
            refine aF ?_
            refine aH ?_
            refine wp_ret ?_
            refine aY ?_
            refine aR ?_
            refine bA (.inl rfl) Try.results143 Try.isAgg118 Try.sizeOf118 rfl (Ha1013.blk 0 rfl) rfl ?_
            exact ⟨_, _, _, _, _, _, rfl, (eZ hs1001 kD), Ha1013.pick [1] kD rfl⟩
          ·refine wp_seq ?_
           refine aI [0, 1] rfl ?_
           refine aA ?_
           refine aB rfl (bD rfl rfl) rfl rfl ?_
           refine aA ?_
           refine aB rfl (aG rfl) rfl rfl ?_
           refine aF ?_
           refine aH ?_
           refine aW rfl (fun hc1016 => ?_) (fun hc1016 => ?_)
           ·refine wp_seq ?_
            refine aI [0, 1, 2, 3, 4] rfl ?_
            refine aA ?_
            refine aB rfl (aC rfl) rfl rfl ?_
            refine aA ?_
            obtain ⟨F1019, hs1020, hF1021, hfr1022⟩ := St.frame (l0 := [aV gc 157 A bs.length cb]) (l := [hR Kn.int 3 (.slice (some ⟨g_3_1, 0, none⟩) 5 5) ([-1, -1, 0, 1, 2] : List Int), hB g_0_0 118 #[.int .i64 (0), .int .i64 (0), .int .i64 (0), .int .i64 (0), .int .i64 (0), .string (⟨#[]⟩)]]) H51
            refine aK rfl Try.call44 (vs := #[.pointer (some ⟨gc, 0, none⟩), .int .i64 (3)]) rfl rfl rfl (cB 3 _ _ _ _ _ _ (CV.step hV H51.1 hF1021) hn hs1020) ?_
            rintro e1025 W1024 ⟨q1017, rfl, hq1018, Hn1023⟩; refine ⟨_, rfl, ?_⟩
            have H1026 := hfr1022 _ _ Hn1023; clear H51
            refine aA ?_
            refine aB rfl (aC rfl) rfl rfl ?_
            refine aA ?_
            refine aB rfl (bB (vs := [(0, .int .i64 (8)), (1, .int .i64 (q1017)), (2, .int .i64 (q17))]) (cells := #[.int .i64 (8), .int .i64 (q1017), .int .i64 (q17), .int .i64 (0), .int .i64 (0), .string (⟨#[]⟩)]) rfl kR) rfl rfl ?_
            refine aA ?_
            have H1030 : St w F0 [hB g_0_0 118 #[.int .i64 (0), .int .i64 (0), .int .i64 (0), .int .i64 (0), .int .i64 (0), .string (⟨#[]⟩)], aV gc 157 A bs.length cb, hR Kn.int 3 (.slice (some ⟨g_3_1, 0, none⟩) 5 5) ([-1, -1, 0, 1, 2] : List Int)] W1024 := H1026.pick [2, 0, 1] kD rfl; clear H1026
            refine aU rfl Try.sizeOf118 rfl rfl rfl rfl kS H1030 ?_
            intro W1027 hu1028 Ha1029; clear H1030; clear hu1028
            refine aF ?_
            refine aH ?_
            refine wp_ret ?_
            refine aY ?_
            refine aR ?_
            refine bA (.inl rfl) Try.results143 Try.isAgg118 Try.sizeOf118 rfl (Ha1029.blk 0 rfl) rfl ?_
            exact ⟨_, _, _, _, _, _, rfl, (Nat.le_of_ble_eq_true rfl), Ha1029.pick [1] kD rfl⟩
           ·refine wp_skip ?_
            refine dR ?_
            refine aH ?_
            refine wp_seq ?_
            refine wp_seq ?_
            refine aI [0, 1] rfl ?_
            refine aA ?_
            refine aB rfl (aC rfl) rfl rfl ?_
            refine aA ?_
            obtain ⟨F1033, hs1034, hF1035, hfr1036⟩ := St.frame (l0 := [aV gc 157 A bs.length cb]) (l := [hR Kn.int 3 (.slice (some ⟨g_3_1, 0, none⟩) 5 5) ([-1, -1, 0, 1, 2] : List Int), hB g_0_0 118 #[.int .i64 (0), .int .i64 (0), .int .i64 (0), .int .i64 (0), .int .i64 (0), .string (⟨#[]⟩)]]) H51
            refine aK rfl Try.call43 (vs := #[.pointer (some ⟨gc, 0, none⟩), .int .i64 (2)]) rfl rfl rfl (once_s 2 _ _ _ _ _ _ (CV.step hV H51.1 hF1035) hn hs1034) ?_
            rintro e1039 W1038 ⟨b1032, rfl, Hn1037⟩; refine ⟨_, rfl, ?_⟩
            have H1040 := hfr1036 _ _ Hn1037; clear H51
            refine aF ?_
            refine aH ?_
            refine fC (b := b1032) rfl (fun hc1041 => ?_) (fun hc1041 => ?_)
            ·refine wp_seq ?_
             refine aI [0, 1, 2, 3, 4, 5] rfl ?_
             refine aA ?_
             refine aB rfl (aC rfl) rfl rfl ?_
             refine aA ?_
             refine aB rfl (aC rfl) rfl rfl ?_
             refine aA ?_
             obtain ⟨F1044, hs1045, hF1046, hfr1047⟩ := St.frame (l0 := [aV gc 157 A bs.length cb]) (l := [hR Kn.int 3 (.slice (some ⟨g_3_1, 0, none⟩) 5 5) ([-1, -1, 0, 1, 2] : List Int), hB g_0_0 118 #[.int .i64 (0), .int .i64 (0), .int .i64 (0), .int .i64 (0), .int .i64 (0), .string (⟨#[]⟩)]]) H1040
             refine aK rfl Try.call44 (vs := #[.pointer (some ⟨gc, 0, none⟩), .int .i64 (3)]) rfl rfl rfl (cB 3 _ _ _ _ _ _ (CV.step hV H1040.1 hF1046) hn hs1045) ?_
             rintro e1050 W1049 ⟨q1042, rfl, hq1043, Hn1048⟩; refine ⟨_, rfl, ?_⟩
             have H1051 := hfr1047 _ _ Hn1048; clear H1040
             refine aA ?_
             refine aB rfl (rn_add rfl rfl kO) rfl rfl ?_
             refine aA ?_
             refine aB rfl (bB (vs := [(0, .int .i64 (9)), (1, .int .i64 (q6)), (2, .int .i64 ((1 + q1042)))]) (cells := #[.int .i64 (9), .int .i64 (q6), .int .i64 ((1 + q1042)), .int .i64 (0), .int .i64 (0), .string (⟨#[]⟩)]) rfl kR) rfl rfl ?_
             refine aA ?_
             have H1055 : St w F0 [hB g_0_0 118 #[.int .i64 (0), .int .i64 (0), .int .i64 (0), .int .i64 (0), .int .i64 (0), .string (⟨#[]⟩)], aV gc 157 A bs.length cb, hR Kn.int 3 (.slice (some ⟨g_3_1, 0, none⟩) 5 5) ([-1, -1, 0, 1, 2] : List Int)] W1049 := H1051.pick [2, 0, 1] kD rfl; clear H1051
             refine aU rfl Try.sizeOf118 rfl rfl rfl rfl kS H1055 ?_
             intro W1052 hu1053 Ha1054; clear H1055; clear hu1053
             refine aF ?_
             refine aH ?_
             refine wp_ret ?_
             refine aR ?_
             refine bA (.inl rfl) Try.results143 Try.isAgg118 Try.sizeOf118 rfl (Ha1054.blk 0 rfl) rfl ?_
             exact ⟨_, _, _, _, _, _, rfl, (Nat.le_of_ble_eq_true rfl), Ha1054.pick [1] kD rfl⟩
            ·refine wp_skip ?_
             refine aH ?_
             refine wp_seq ?_
             refine aI [0, 1, 2] rfl ?_
             refine aA ?_
             refine aB rfl (aC rfl) rfl rfl ?_
             refine aA ?_
             refine aB rfl (bB (vs := [(0, .int .i64 (10)), (1, .int .i64 (q6))]) (cells := #[.int .i64 (10), .int .i64 (q6), .int .i64 (0), .int .i64 (0), .int .i64 (0), .string (⟨#[]⟩)]) rfl kR) rfl rfl ?_
             refine aA ?_
             have H1060 : St w F0 [hB g_0_0 118 #[.int .i64 (0), .int .i64 (0), .int .i64 (0), .int .i64 (0), .int .i64 (0), .string (⟨#[]⟩)], aV gc 157 A bs.length cb, hR Kn.int 3 (.slice (some ⟨g_3_1, 0, none⟩) 5 5) ([-1, -1, 0, 1, 2] : List Int)] W1038 := H1040.pick [2, 0, 1] kD rfl; clear H1040
             refine aU rfl Try.sizeOf118 rfl rfl rfl rfl kS H1060 ?_
             intro W1057 hu1058 Ha1059; clear H1060; clear hu1058
             refine aF ?_
             refine aH ?_
             refine wp_ret ?_
             refine bA (.inl rfl) Try.results143 Try.isAgg118 Try.sizeOf118 rfl (Ha1059.blk 0 rfl) rfl ?_
             exact ⟨_, _, _, _, _, _, rfl, (Nat.le_of_ble_eq_true rfl), Ha1059.pick [1] kD rfl⟩
   ·refine aI [0, 1] rfl ?_
    refine aA ?_
    refine aB rfl (bD rfl rfl) rfl rfl ?_
    refine aA ?_
    refine aB rfl (aG rfl) rfl rfl ?_
    refine aF ?_
    refine aH ?_
    refine aW rfl (fun hc1062 => ?_) (fun hc1062 => ?_)
    ·refine wp_seq ?_
     refine aI [0, 1, 2, 3, 4] rfl ?_
     refine aA ?_
     refine aB rfl (aC rfl) rfl rfl ?_
     refine aA ?_
     refine aB rfl (aC rfl) rfl rfl ?_
     refine aA ?_
     obtain ⟨F1065, hs1066, hF1067, hfr1068⟩ := St.frame (l0 := [aV gc 157 A bs.length cb]) (l := [hR Kn.int 3 (.slice (some ⟨g_3_1, 0, none⟩) 5 5) ([-1, -1, 0, 1, 2] : List Int), hB g_0_0 118 #[.int .i64 (0), .int .i64 (0), .int .i64 (0), .int .i64 (0), .int .i64 (0), .string (⟨#[]⟩)]]) H51
     refine aK rfl Try.call44 (vs := #[.pointer (some ⟨gc, 0, none⟩), .int .i64 (2)]) rfl rfl rfl (cB 2 _ _ _ _ _ _ (CV.step hV H51.1 hF1067) hn hs1066) ?_
     rintro e1071 W1070 ⟨q1063, rfl, hq1064, Hn1069⟩; refine ⟨_, rfl, ?_⟩
     have H1072 := hfr1068 _ _ Hn1069; clear H51
     refine aA ?_
     refine aB rfl (bB (vs := [(0, .int .i64 (2)), (1, .int .i64 (q6)), (2, .int .i64 (q1063))]) (cells := #[.int .i64 (2), .int .i64 (q6), .int .i64 (q1063), .int .i64 (0), .int .i64 (0), .string (⟨#[]⟩)]) rfl kR) rfl rfl ?_
     refine aA ?_
     have H1076 : St w F0 [hB g_0_0 118 #[.int .i64 (0), .int .i64 (0), .int .i64 (0), .int .i64 (0), .int .i64 (0), .string (⟨#[]⟩)], aV gc 157 A bs.length cb, hR Kn.int 3 (.slice (some ⟨g_3_1, 0, none⟩) 5 5) ([-1, -1, 0, 1, 2] : List Int)] W1070 := H1072.pick [2, 0, 1] kD rfl; clear H1072
     refine aU rfl Try.sizeOf118 rfl rfl rfl rfl kS H1076 ?_
     intro W1073 hu1074 Ha1075; clear H1076; clear hu1074
     refine aF ?_
     refine aH ?_
     refine wp_ret ?_
     refine aY ?_
     refine aR ?_
     refine bA (.inl rfl) Try.results143 Try.isAgg118 Try.sizeOf118 rfl (Ha1075.blk 0 rfl) rfl ?_
     exact ⟨_, _, _, _, _, _, rfl, (Nat.le_of_ble_eq_true rfl), Ha1075.pick [1] kD rfl⟩
    ·refine wp_seq ?_
     refine aI [0, 1] rfl ?_
     refine aA ?_
     refine aB rfl (bD rfl rfl) rfl rfl ?_
     refine aA ?_
     refine aB rfl (aG rfl) rfl rfl ?_
     refine aF ?_
     refine aH ?_
     refine aW rfl (fun hc1078 => ?_) (fun hc1078 => ?_)
     ·refine wp_seq ?_
      refine aI [0, 1, 2, 3, 4] rfl ?_
      refine aA ?_
      refine aB rfl (aC rfl) rfl rfl ?_
      refine aA ?_
      refine aB rfl (aC rfl) rfl rfl ?_
      refine aA ?_
      obtain ⟨F1081, hs1082, hF1083, hfr1084⟩ := St.frame (l0 := [aV gc 157 A bs.length cb]) (l := [hR Kn.int 3 (.slice (some ⟨g_3_1, 0, none⟩) 5 5) ([-1, -1, 0, 1, 2] : List Int), hB g_0_0 118 #[.int .i64 (0), .int .i64 (0), .int .i64 (0), .int .i64 (0), .int .i64 (0), .string (⟨#[]⟩)]]) H51
      refine aK rfl Try.call44 (vs := #[.pointer (some ⟨gc, 0, none⟩), .int .i64 (3)]) rfl rfl rfl (cB 3 _ _ _ _ _ _ (CV.step hV H51.1 hF1083) hn hs1082) ?_
      rintro e1087 W1086 ⟨q1079, rfl, hq1080, Hn1085⟩; refine ⟨_, rfl, ?_⟩
      have H1088 := hfr1084 _ _ Hn1085; clear H51
      refine aA ?_
      refine aB rfl (bB (vs := [(0, .int .i64 (3)), (1, .int .i64 (q6)), (2, .int .i64 (q1079))]) (cells := #[.int .i64 (3), .int .i64 (q6), .int .i64 (q1079), .int .i64 (0), .int .i64 (0), .string (⟨#[]⟩)]) rfl kR) rfl rfl ?_
      refine aA ?_
      have H1092 : St w F0 [hB g_0_0 118 #[.int .i64 (0), .int .i64 (0), .int .i64 (0), .int .i64 (0), .int .i64 (0), .string (⟨#[]⟩)], aV gc 157 A bs.length cb, hR Kn.int 3 (.slice (some ⟨g_3_1, 0, none⟩) 5 5) ([-1, -1, 0, 1, 2] : List Int)] W1086 := H1088.pick [2, 0, 1] kD rfl; clear H1088
      refine aU rfl Try.sizeOf118 rfl rfl rfl rfl kS H1092 ?_
      intro W1089 hu1090 Ha1091; clear H1092; clear hu1090
      refine aF ?_
      refine aH ?_
      refine wp_ret ?_
      refine aY ?_
      refine aR ?_
      refine bA (.inl rfl) Try.results143 Try.isAgg118 Try.sizeOf118 rfl (Ha1091.blk 0 rfl) rfl ?_
      exact ⟨_, _, _, _, _, _, rfl, (Nat.le_of_ble_eq_true rfl), Ha1091.pick [1] kD rfl⟩
     ·refine wp_seq ?_
      refine aI [0, 1] rfl ?_
      refine aA ?_
      refine aB rfl (bD rfl rfl) rfl rfl ?_
      refine aA ?_
      refine aB rfl (aG rfl) rfl rfl ?_
      refine aF ?_
      refine aH ?_
      refine aW rfl (fun hc1094 => ?_) (fun hc1094 => ?_)
      ·refine wp_seq ?_
       refine aI [0, 1, 2] rfl ?_
       refine aA ?_
       refine aB rfl (aC rfl) rfl rfl ?_
       refine aA ?_
       refine aB rfl (bB (vs := [(0, .int .i64 (4)), (1, .int .i64 (q6))]) (cells := #[.int .i64 (4), .int .i64 (q6), .int .i64 (0), .int .i64 (0), .int .i64 (0), .string (⟨#[]⟩)]) rfl kR) rfl rfl ?_
       refine aA ?_
       have H1098 : St w F0 [hB g_0_0 118 #[.int .i64 (0), .int .i64 (0), .int .i64 (0), .int .i64 (0), .int .i64 (0), .string (⟨#[]⟩)], aV gc 157 A bs.length cb, hR Kn.int 3 (.slice (some ⟨g_3_1, 0, none⟩) 5 5) ([-1, -1, 0, 1, 2] : List Int)] W49 := H51.pick [2, 0, 1] kD rfl; clear H51
       refine aU rfl Try.sizeOf118 rfl rfl rfl rfl kS H1098 ?_
       intro W1095 hu1096 Ha1097; clear H1098; clear hu1096
       refine aF ?_
       refine aH ?_
       refine wp_ret ?_
       refine aY ?_
       refine aR ?_
       refine bA (.inl rfl) Try.results143 Try.isAgg118 Try.sizeOf118 rfl (Ha1097.blk 0 rfl) rfl ?_
       exact ⟨_, _, _, _, _, _, rfl, (Nat.le_of_ble_eq_true rfl), Ha1097.pick [1] kD rfl⟩
      ·refine wp_seq ?_
       refine aI [0, 1] rfl ?_
       refine aA ?_
       refine aB rfl (bD rfl rfl) rfl rfl ?_
       refine aA ?_
       refine aB rfl (aG rfl) rfl rfl ?_
       refine aF ?_
       refine aH ?_
       refine aW rfl (fun hc1100 => ?_) (fun hc1100 => ?_)
       ·refine wp_seq ?_
        refine aI [0, 1, 2, 3, 4, 5] rfl ?_
        refine aA ?_
        refine aB rfl (aC rfl) rfl rfl ?_
        refine aA ?_
        refine aB rfl (aC rfl) rfl rfl ?_
        refine aA ?_
        refine aB rfl (aC rfl) rfl rfl ?_
        refine aA ?_
        obtain ⟨F1103, hs1104, hF1105, hfr1106⟩ := St.frame (l0 := [aV gc 157 A bs.length cb]) (l := [hR Kn.int 3 (.slice (some ⟨g_3_1, 0, none⟩) 5 5) ([-1, -1, 0, 1, 2] : List Int), hB g_0_0 118 #[.int .i64 (0), .int .i64 (0), .int .i64 (0), .int .i64 (0), .int .i64 (0), .string (⟨#[]⟩)]]) H51
        refine aK rfl Try.call44 (vs := #[.pointer (some ⟨gc, 0, none⟩), .int .i64 (4)]) rfl rfl rfl (cB 4 _ _ _ _ _ _ (CV.step hV H51.1 hF1105) hn hs1104) ?_
        rintro e1109 W1108 ⟨q1101, rfl, hq1102, Hn1107⟩; refine ⟨_, rfl, ?_⟩
        have H1110 := hfr1106 _ _ Hn1107; clear H51
        refine aA ?_
        refine aB rfl (bB (vs := [(0, .int .i64 (5)), (1, .int .i64 (q6)), (2, .int .i64 (q17)), (3, .int .i64 (q1101))]) (cells := #[.int .i64 (5), .int .i64 (q6), .int .i64 (q17), .int .i64 (q1101), .int .i64 (0), .string (⟨#[]⟩)]) rfl kR) rfl rfl ?_
        refine aA ?_
        have H1114 : St w F0 [hB g_0_0 118 #[.int .i64 (0), .int .i64 (0), .int .i64 (0), .int .i64 (0), .int .i64 (0), .string (⟨#[]⟩)], aV gc 157 A bs.length cb, hR Kn.int 3 (.slice (some ⟨g_3_1, 0, none⟩) 5 5) ([-1, -1, 0, 1, 2] : List Int)] W1108 := H1110.pick [2, 0, 1] kD rfl; clear H1110
        refine aU rfl Try.sizeOf118 rfl rfl rfl rfl kS H1114 ?_
        intro W1111 hu1112 Ha1113; clear H1114; clear hu1112
        refine aF ?_
        refine aH ?_
        refine wp_ret ?_
        refine aY ?_
        refine aR ?_
        refine bA (.inl rfl) Try.results143 Try.isAgg118 Try.sizeOf118 rfl (Ha1113.blk 0 rfl) rfl ?_
        exact ⟨_, _, _, _, _, _, rfl, (Nat.le_of_ble_eq_true rfl), Ha1113.pick [1] kD rfl⟩
       ·refine wp_seq ?_
        refine wp_seq ?_
        refine aI [0, 1] rfl ?_
        refine aA ?_
        refine aB rfl (bD rfl rfl) rfl rfl ?_
        refine aA ?_
        refine aB rfl (aG rfl) rfl rfl ?_
        refine aF ?_
        refine aH ?_
        refine aW rfl (fun hc1116 => ?_) (fun hc1116 => ?_)
        ·refine wp_skip ?_
         refine aH ?_
         refine aW rfl (fun hc1117 => ?_) (fun hc1117 => ?_)
         ·refine wp_seq ?_
          refine wp_seq ?_
          refine aI [0, 1] rfl ?_
          refine aA ?_
          refine aB rfl (aC rfl) rfl rfl ?_
          refine aA ?_
          refine aB rfl (bD rfl rfl) rfl rfl ?_
          refine aF ?_
          refine aH ?_
          refine aW rfl (fun hc1118 => ?_) (fun hc1118 => ?_)
          ·refine wp_seq ?_
           refine aI [0, 1, 2, 3, 4, 5] rfl ?_
           refine aA ?_
           refine aB rfl (aC rfl) rfl rfl ?_
           refine aA ?_
           refine aB rfl (aC rfl) rfl rfl ?_
           refine aA ?_
           refine aB rfl (aC rfl) rfl rfl ?_
           refine aA ?_
           obtain ⟨F1121, hs1122, hF1123, hfr1124⟩ := St.frame (l0 := [aV gc 157 A bs.length cb]) (l := [hR Kn.int 3 (.slice (some ⟨g_3_1, 0, none⟩) 5 5) ([-1, -1, 0, 1, 2] : List Int), hB g_0_0 118 #[.int .i64 (0), .int .i64 (0), .int .i64 (0), .int .i64 (0), .int .i64 (0), .string (⟨#[]⟩)]]) H51
           refine aK rfl Try.call63 (vs := #[.pointer (some ⟨gc, 0, none⟩)]) rfl rfl rfl (fZ _ _ _ _ _ _ (CV.step hV H51.1 hF1123) hn hs1122) ?_
           rintro e1127 W1126 ⟨s1119, rfl, hs1120, Hn1125⟩; refine ⟨_, rfl, ?_⟩
           have H1128 := hfr1124 _ _ Hn1125; clear H51
           refine aA ?_
           refine aB rfl (bB (vs := [(0, .int .i64 (6)), (1, .int .i64 (q6)), (2, .int .i64 (q17)), (3, .int .i64 (-1)), (4, .int .i64 (-1)), (5, .string (s1119))]) (cells := #[.int .i64 (6), .int .i64 (q6), .int .i64 (q17), .int .i64 (-1), .int .i64 (-1), .string (s1119)]) rfl kR) rfl rfl ?_
           refine aA ?_
           have H1132 : St w F0 [hB g_0_0 118 #[.int .i64 (0), .int .i64 (0), .int .i64 (0), .int .i64 (0), .int .i64 (0), .string (⟨#[]⟩)], aV gc 157 A bs.length cb, hR Kn.int 3 (.slice (some ⟨g_3_1, 0, none⟩) 5 5) ([-1, -1, 0, 1, 2] : List Int)] W1126 := H1128.pick [2, 0, 1] kD rfl; clear H1128
           refine aU rfl Try.sizeOf118 rfl rfl rfl rfl kS H1132 ?_
           intro W1129 hu1130 Ha1131; clear H1132; clear hu1130
           refine aF ?_
           refine aH ?_
           refine wp_ret ?_
           refine aR ?_
           refine aY ?_
           refine aR ?_
           refine bA (.inl rfl) Try.results143 Try.isAgg118 Try.sizeOf118 rfl (Ha1131.blk 0 rfl) rfl ?_
           exact ⟨_, _, _, _, _, _, rfl, (Nat.le_trans hs1120 kD), Ha1131.pick [1] kD rfl⟩
          ·refine wp_skip ?_
           refine aH ?_
           refine wp_seq ?_
           refine aI [0, 1, 2, 3, 4, 5, 6, 7, 8, 9] rfl ?_
           refine aA ?_
           refine aB rfl (aC rfl) rfl rfl ?_
           refine aA ?_
           refine aB rfl (aC rfl) rfl rfl ?_
           refine aA ?_
           refine aB rfl (aC rfl) rfl rfl ?_
           refine aA ?_
           refine aB rfl (aC rfl) rfl rfl ?_
           refine aA ?_
           refine bT (vs := [(0, .int .i64 (-1)), (1, .int .i64 (0)), (2, .int .i64 (3))]) (cells := #[.int .i64 (-1), .int .i64 (0), .int .i64 (3)]) rfl Try.runUnderlying82 Try.sizeOf3 Try.zeroValue3 rfl kD kD kR rfl rfl H51 ?_
           intro g_21_4 W1134 hu1135 Ha1136; clear H51
           have Hb1137 := St.eT (xs := ([-1, 0, 3] : List Int)) (h1 := fun _ => rfl) Ha1136 rfl kD rfl; clear hu1135
           refine aA ?_
           have H1140 : St w F0 [aV gc 157 A bs.length cb, hR Kn.int 3 (.slice (some ⟨g_21_4, 0, none⟩) 3 3) ([-1, 0, 3] : List Int), hR Kn.int 3 (.slice (some ⟨g_3_1, 0, none⟩) 5 5) ([-1, -1, 0, 1, 2] : List Int), hB g_0_0 118 #[.int .i64 (0), .int .i64 (0), .int .i64 (0), .int .i64 (0), .int .i64 (0), .string (⟨#[]⟩)]] W1134 := Hb1137.pick [1, 0, 2, 3] kD rfl; clear Hb1137
           obtain ⟨F1141, hs1142, hF1143, hfr1144⟩ := St.frame (l0 := [aV gc 157 A bs.length cb, hR Kn.int 3 (.slice (some ⟨g_21_4, 0, none⟩) 3 3) ([-1, 0, 3] : List Int)]) (l := [hR Kn.int 3 (.slice (some ⟨g_3_1, 0, none⟩) 5 5) ([-1, -1, 0, 1, 2] : List Int), hB g_0_0 118 #[.int .i64 (0), .int .i64 (0), .int .i64 (0), .int .i64 (0), .int .i64 (0), .string (⟨#[]⟩)]]) H1140
           refine aK rfl Try.call113 (vs := #[.pointer (some ⟨gc, 0, none⟩), .slice (some ⟨g_21_4, 0, none⟩) 3 3]) rfl rfl rfl (int_s ([-1, 0, 3] : List Int) _ _ kD _ _ _ _ _ _ (CV.step hV H1140.1 hF1143) hn hs1142) ?_
           rintro e1147 W1146 ⟨s1138, rfl, hs1139, Hn1145⟩; refine ⟨_, rfl, ?_⟩
           have H1148 := hfr1144 _ _ Hn1145; clear H1140
           refine aA ?_
           refine aB rfl (aC rfl) rfl rfl ?_
           refine aA ?_
           obtain ⟨F1151, hs1152, hF1153, hfr1154⟩ := St.frame (l0 := [aV gc 157 A bs.length cb]) (l := [hR Kn.int 3 (.slice (some ⟨g_21_4, 0, none⟩) 3 3) ([-1, 0, 3] : List Int), hR Kn.int 3 (.slice (some ⟨g_3_1, 0, none⟩) 5 5) ([-1, -1, 0, 1, 2] : List Int), hB g_0_0 118 #[.int .i64 (0), .int .i64 (0), .int .i64 (0), .int .i64 (0), .int .i64 (0), .string (⟨#[]⟩)]]) H1148
           refine aK rfl Try.call63 (vs := #[.pointer (some ⟨gc, 0, none⟩)]) rfl rfl rfl (fZ _ _ _ _ _ _ (CV.step hV H1148.1 hF1153) hn hs1152) ?_
           rintro e1157 W1156 ⟨s1149, rfl, hs1150, Hn1155⟩; refine ⟨_, rfl, ?_⟩
           have H1158 := hfr1154 _ _ Hn1155; clear H1148
           refine aA ?_
           refine aB rfl (bB (vs := [(0, .int .i64 (6)), (1, .int .i64 (q6)), (2, .int .i64 (q17)), (3, .int .i64 (s31)), (4, .int .i64 (s1138)), (5, .string (s1149))]) (cells := #[.int .i64 (6), .int .i64 (q6), .int .i64 (q17), .int .i64 (s31), .int .i64 (s1138), .string (s1149)]) rfl kR) rfl rfl ?_
           refine aA ?_
           have H1162 : St w F0 [hB g_0_0 118 #[.int .i64 (0), .int .i64 (0), .int .i64 (0), .int .i64 (0), .int .i64 (0), .string (⟨#[]⟩)], aV gc 157 A bs.length cb, hR Kn.int 3 (.slice (some ⟨g_21_4, 0, none⟩) 3 3) ([-1, 0, 3] : List Int), hR Kn.int 3 (.slice (some ⟨g_3_1, 0, none⟩) 5 5) ([-1, -1, 0, 1, 2] : List Int)] W1156 := H1158.pick [3, 0, 1, 2] kD rfl; clear H1158
           refine aU rfl Try.sizeOf118 rfl rfl rfl rfl kS H1162 ?_
           intro W1159 hu1160 Ha1161; clear H1162; clear hu1160
           refine aF ?_
           refine aH ?_
           refine wp_ret ?_
           refine aY ?_
           refine aR ?_
           refine bA (.inl rfl) Try.results143 Try.isAgg118 Try.sizeOf118 rfl (Ha1161.blk 0 rfl) rfl ?_
           exact ⟨_, _, _, _, _, _, rfl, (Nat.le_trans hs1150 kD), Ha1161.pick [1] kD rfl⟩
         ·refine wp_seq ?_
          refine aI [0, 1] rfl ?_
          refine aA ?_
          refine aB rfl (bD rfl rfl) rfl rfl ?_
          refine aA ?_
          refine aB rfl (aG rfl) rfl rfl ?_
          refine aF ?_
          refine aH ?_
          refine aW rfl (fun hc1164 => ?_) (fun hc1164 => ?_)
          ·refine wp_seq ?_
           refine wp_seq ?_
           refine aI [0, 1] rfl ?_
           refine aA ?_
           refine aB rfl (aC rfl) rfl rfl ?_
           refine aA ?_
           refine aB rfl (bD rfl rfl) rfl rfl ?_
           refine aF ?_
           refine aH ?_
           refine aW rfl (fun hc1165 => ?_) (fun hc1165 => ?_)
           ·refine wp_seq ?_
            refine aI [0, 1, 2, 3, 4, 5] rfl ?_
            refine aA ?_
            refine aB rfl (aC rfl) rfl rfl ?_
            refine aA ?_
            refine aB rfl (aC rfl) rfl rfl ?_
            refine aA ?_
            refine bT (vs := [(0, .string (⟨#[99, 101, 108, 108]⟩)), (1, .string (⟨#[112, 114, 111, 120, 121]⟩)), (2, .string (⟨#[109, 97, 107, 101, 114]⟩)), (3, .string (⟨#[110, 111, 110, 101]⟩))]) (cells := #[.string (⟨#[99, 101, 108, 108]⟩), .string (⟨#[112, 114, 111, 120, 121]⟩), .string (⟨#[109, 97, 107, 101, 114]⟩), .string (⟨#[110, 111, 110, 101]⟩)]) rfl Try.runUnderlying166 Try.sizeOf9 Try.zeroValue9 rfl kD kD kR rfl rfl H51 ?_
            intro g_24_2 W1166 hu1167 Ha1168; clear H51
            have Hb1169 := St.eT (xs := ([⟨#[99, 101, 108, 108]⟩, ⟨#[112, 114, 111, 120, 121]⟩, ⟨#[109, 97, 107, 101, 114]⟩, ⟨#[110, 111, 110, 101]⟩] : List ByteArray)) (h1 := fun _ => rfl) Ha1168 rfl kD rfl; clear hu1167
            refine aA ?_
            have H1172 : St w F0 [aV gc 157 A bs.length cb, hR Kn.string 9 (.slice (some ⟨g_24_2, 0, none⟩) 4 4) ([⟨#[99, 101, 108, 108]⟩, ⟨#[112, 114, 111, 120, 121]⟩, ⟨#[109, 97, 107, 101, 114]⟩, ⟨#[110, 111, 110, 101]⟩] : List ByteArray), hR Kn.int 3 (.slice (some ⟨g_3_1, 0, none⟩) 5 5) ([-1, -1, 0, 1, 2] : List Int), hB g_0_0 118 #[.int .i64 (0), .int .i64 (0), .int .i64 (0), .int .i64 (0), .int .i64 (0), .string (⟨#[]⟩)]] W1166 := Hb1169.pick [1, 0, 2, 3] kD rfl; clear Hb1169
            obtain ⟨F1173, hs1174, hF1175, hfr1176⟩ := St.frame (l0 := [aV gc 157 A bs.length cb, hR Kn.string 9 (.slice (some ⟨g_24_2, 0, none⟩) 4 4) ([⟨#[99, 101, 108, 108]⟩, ⟨#[112, 114, 111, 120, 121]⟩, ⟨#[109, 97, 107, 101, 114]⟩, ⟨#[110, 111, 110, 101]⟩] : List ByteArray)]) (l := [hR Kn.int 3 (.slice (some ⟨g_3_1, 0, none⟩) 5 5) ([-1, -1, 0, 1, 2] : List Int), hB g_0_0 118 #[.int .i64 (0), .int .i64 (0), .int .i64 (0), .int .i64 (0), .int .i64 (0), .string (⟨#[]⟩)]]) H1172
            refine aK rfl Try.call110 (vs := #[.pointer (some ⟨gc, 0, none⟩), .slice (some ⟨g_24_2, 0, none⟩) 4 4]) rfl rfl rfl (gV ([⟨#[99, 101, 108, 108]⟩, ⟨#[112, 114, 111, 120, 121]⟩, ⟨#[109, 97, 107, 101, 114]⟩, ⟨#[110, 111, 110, 101]⟩] : List ByteArray) _ _ kD _ _ _ _ _ _ (CV.step hV H1172.1 hF1175) hn hs1174) ?_
            rintro e1179 W1178 ⟨s1170, rfl, hs1171, Hn1177⟩; refine ⟨_, rfl, ?_⟩
            have H1180 := hfr1176 _ _ Hn1177; clear H1172
            refine aA ?_
            refine aB rfl (bB (vs := [(0, .int .i64 (7)), (1, .int .i64 (q6)), (3, .int .i64 (-1)), (4, .int .i64 (-1)), (5, .string (s1170))]) (cells := #[.int .i64 (7), .int .i64 (q6), .int .i64 (0), .int .i64 (-1), .int .i64 (-1), .string (s1170)]) rfl kR) rfl rfl ?_
            refine aA ?_
            have H1184 : St w F0 [hB g_0_0 118 #[.int .i64 (0), .int .i64 (0), .int .i64 (0), .int .i64 (0), .int .i64 (0), .string (⟨#[]⟩)], aV gc 157 A bs.length cb, hR Kn.string 9 (.slice (some ⟨g_24_2, 0, none⟩) 4 4) ([⟨#[99, 101, 108, 108]⟩, ⟨#[112, 114, 111, 120, 121]⟩, ⟨#[109, 97, 107, 101, 114]⟩, ⟨#[110, 111, 110, 101]⟩] : List ByteArray), hR Kn.int 3 (.slice (some ⟨g_3_1, 0, none⟩) 5 5) ([-1, -1, 0, 1, 2] : List Int)] W1178 := H1180.pick [3, 0, 1, 2] kD rfl; clear H1180
            refine aU rfl Try.sizeOf118 rfl rfl rfl rfl kS H1184 ?_
            intro W1181 hu1182 Ha1183; clear H1184; clear hu1182
            refine aF ?_
            refine aH ?_
            refine wp_ret ?_
            refine aR ?_
            refine aY ?_
            refine aR ?_
            refine bA (.inl rfl) Try.results143 Try.isAgg118 Try.sizeOf118 rfl (Ha1183.blk 0 rfl) rfl ?_
            exact ⟨_, _, _, _, _, _, rfl, (eZ hs1171 kD), Ha1183.pick [1] kD rfl⟩
           ·refine wp_skip ?_
            refine aH ?_
            refine wp_seq ?_
            refine aI [0, 1, 2, 3, 4, 5, 6] rfl ?_
            refine aA ?_
            refine aB rfl (aC rfl) rfl rfl ?_
            refine aA ?_
            refine aB rfl (aC rfl) rfl rfl ?_
            refine aA ?_
            refine aB rfl (aC rfl) rfl rfl ?_
            refine aA ?_
            refine bT (vs := [(0, .string (⟨#[99, 101, 108, 108]⟩)), (1, .string (⟨#[112, 114, 111, 120, 121]⟩)), (2, .string (⟨#[109, 97, 107, 101, 114]⟩))]) (cells := #[.string (⟨#[99, 101, 108, 108]⟩), .string (⟨#[112, 114, 111, 120, 121]⟩), .string (⟨#[109, 97, 107, 101, 114]⟩)]) rfl Try.runUnderlying166 Try.sizeOf9 Try.zeroValue9 rfl kD kD kR rfl rfl H51 ?_
            intro g_25_3 W1186 hu1187 Ha1188; clear H51
            have Hb1189 := St.eT (xs := ([⟨#[99, 101, 108, 108]⟩, ⟨#[112, 114, 111, 120, 121]⟩, ⟨#[109, 97, 107, 101, 114]⟩] : List ByteArray)) (h1 := fun _ => rfl) Ha1188 rfl kD rfl; clear hu1187
            refine aA ?_
            have H1192 : St w F0 [aV gc 157 A bs.length cb, hR Kn.string 9 (.slice (some ⟨g_25_3, 0, none⟩) 3 3) ([⟨#[99, 101, 108, 108]⟩, ⟨#[112, 114, 111, 120, 121]⟩, ⟨#[109, 97, 107, 101, 114]⟩] : List ByteArray), hR Kn.int 3 (.slice (some ⟨g_3_1, 0, none⟩) 5 5) ([-1, -1, 0, 1, 2] : List Int), hB g_0_0 118 #[.int .i64 (0), .int .i64 (0), .int .i64 (0), .int .i64 (0), .int .i64 (0), .string (⟨#[]⟩)]] W1186 := Hb1189.pick [1, 0, 2, 3] kD rfl; clear Hb1189
            obtain ⟨F1193, hs1194, hF1195, hfr1196⟩ := St.frame (l0 := [aV gc 157 A bs.length cb, hR Kn.string 9 (.slice (some ⟨g_25_3, 0, none⟩) 3 3) ([⟨#[99, 101, 108, 108]⟩, ⟨#[112, 114, 111, 120, 121]⟩, ⟨#[109, 97, 107, 101, 114]⟩] : List ByteArray)]) (l := [hR Kn.int 3 (.slice (some ⟨g_3_1, 0, none⟩) 5 5) ([-1, -1, 0, 1, 2] : List Int), hB g_0_0 118 #[.int .i64 (0), .int .i64 (0), .int .i64 (0), .int .i64 (0), .int .i64 (0), .string (⟨#[]⟩)]]) H1192
            refine aK rfl Try.call110 (vs := #[.pointer (some ⟨gc, 0, none⟩), .slice (some ⟨g_25_3, 0, none⟩) 3 3]) rfl rfl rfl (gV ([⟨#[99, 101, 108, 108]⟩, ⟨#[112, 114, 111, 120, 121]⟩, ⟨#[109, 97, 107, 101, 114]⟩] : List ByteArray) _ _ kD _ _ _ _ _ _ (CV.step hV H1192.1 hF1195) hn hs1194) ?_
            rintro e1199 W1198 ⟨s1190, rfl, hs1191, Hn1197⟩; refine ⟨_, rfl, ?_⟩
            have H1200 := hfr1196 _ _ Hn1197; clear H1192
            refine aA ?_
            refine aB rfl (bB (vs := [(0, .int .i64 (7)), (1, .int .i64 (q6)), (3, .int .i64 (s31)), (4, .int .i64 (-1)), (5, .string (s1190))]) (cells := #[.int .i64 (7), .int .i64 (q6), .int .i64 (0), .int .i64 (s31), .int .i64 (-1), .string (s1190)]) rfl kR) rfl rfl ?_
            refine aA ?_
            have H1204 : St w F0 [hB g_0_0 118 #[.int .i64 (0), .int .i64 (0), .int .i64 (0), .int .i64 (0), .int .i64 (0), .string (⟨#[]⟩)], aV gc 157 A bs.length cb, hR Kn.string 9 (.slice (some ⟨g_25_3, 0, none⟩) 3 3) ([⟨#[99, 101, 108, 108]⟩, ⟨#[112, 114, 111, 120, 121]⟩, ⟨#[109, 97, 107, 101, 114]⟩] : List ByteArray), hR Kn.int 3 (.slice (some ⟨g_3_1, 0, none⟩) 5 5) ([-1, -1, 0, 1, 2] : List Int)] W1198 := H1200.pick [3, 0, 1, 2] kD rfl; clear H1200
            refine aU rfl Try.sizeOf118 rfl rfl rfl rfl kS H1204 ?_
            intro W1201 hu1202 Ha1203; clear H1204; clear hu1202
            refine aF ?_
            refine aH ?_
            refine wp_ret ?_
            refine aY ?_
            refine aR ?_
            refine bA (.inl rfl) Try.results143 Try.isAgg118 Try.sizeOf118 rfl (Ha1203.blk 0 rfl) rfl ?_
            exact ⟨_, _, _, _, _, _, rfl, (eZ hs1191 kD), Ha1203.pick [1] kD rfl⟩
          ·refine wp_seq ?_
           refine aI [0, 1] rfl ?_
           refine aA ?_
           refine aB rfl (bD rfl rfl) rfl rfl ?_
           refine aA ?_
           refine aB rfl (aG rfl) rfl rfl ?_
           refine aF ?_
           refine aH ?_
           refine aW rfl (fun hc1206 => ?_) (fun hc1206 => ?_)
           ·refine wp_seq ?_
            refine aI [0, 1, 2, 3, 4] rfl ?_
            refine aA ?_
            refine aB rfl (aC rfl) rfl rfl ?_
            refine aA ?_
            obtain ⟨F1209, hs1210, hF1211, hfr1212⟩ := St.frame (l0 := [aV gc 157 A bs.length cb]) (l := [hR Kn.int 3 (.slice (some ⟨g_3_1, 0, none⟩) 5 5) ([-1, -1, 0, 1, 2] : List Int), hB g_0_0 118 #[.int .i64 (0), .int .i64 (0), .int .i64 (0), .int .i64 (0), .int .i64 (0), .string (⟨#[]⟩)]]) H51
            refine aK rfl Try.call44 (vs := #[.pointer (some ⟨gc, 0, none⟩), .int .i64 (3)]) rfl rfl rfl (cB 3 _ _ _ _ _ _ (CV.step hV H51.1 hF1211) hn hs1210) ?_
            rintro e1215 W1214 ⟨q1207, rfl, hq1208, Hn1213⟩; refine ⟨_, rfl, ?_⟩
            have H1216 := hfr1212 _ _ Hn1213; clear H51
            refine aA ?_
            refine aB rfl (aC rfl) rfl rfl ?_
            refine aA ?_
            refine aB rfl (bB (vs := [(0, .int .i64 (8)), (1, .int .i64 (q1207)), (2, .int .i64 (q17))]) (cells := #[.int .i64 (8), .int .i64 (q1207), .int .i64 (q17), .int .i64 (0), .int .i64 (0), .string (⟨#[]⟩)]) rfl kR) rfl rfl ?_
            refine aA ?_
            have H1220 : St w F0 [hB g_0_0 118 #[.int .i64 (0), .int .i64 (0), .int .i64 (0), .int .i64 (0), .int .i64 (0), .string (⟨#[]⟩)], aV gc 157 A bs.length cb, hR Kn.int 3 (.slice (some ⟨g_3_1, 0, none⟩) 5 5) ([-1, -1, 0, 1, 2] : List Int)] W1214 := H1216.pick [2, 0, 1] kD rfl; clear H1216
            refine aU rfl Try.sizeOf118 rfl rfl rfl rfl kS H1220 ?_
            intro W1217 hu1218 Ha1219; clear H1220; clear hu1218
            refine aF ?_
            refine aH ?_
            refine wp_ret ?_
            refine aY ?_
            refine aR ?_
            refine bA (.inl rfl) Try.results143 Try.isAgg118 Try.sizeOf118 rfl (Ha1219.blk 0 rfl) rfl ?_
            exact ⟨_, _, _, _, _, _, rfl, (Nat.le_of_ble_eq_true rfl), Ha1219.pick [1] kD rfl⟩
           ·refine wp_skip ?_
            refine dR ?_
            refine aH ?_
            refine wp_seq ?_
            refine wp_seq ?_
            refine aI [0, 1] rfl ?_
            refine aA ?_
            refine aB rfl (aC rfl) rfl rfl ?_
            refine aA ?_
            obtain ⟨F1223, hs1224, hF1225, hfr1226⟩ := St.frame (l0 := [aV gc 157 A bs.length cb]) (l := [hR Kn.int 3 (.slice (some ⟨g_3_1, 0, none⟩) 5 5) ([-1, -1, 0, 1, 2] : List Int), hB g_0_0 118 #[.int .i64 (0), .int .i64 (0), .int .i64 (0), .int .i64 (0), .int .i64 (0), .string (⟨#[]⟩)]]) H51
            refine aK rfl Try.call43 (vs := #[.pointer (some ⟨gc, 0, none⟩), .int .i64 (2)]) rfl rfl rfl (once_s 2 _ _ _ _ _ _ (CV.step hV H51.1 hF1225) hn hs1224) ?_
            rintro e1229 W1228 ⟨b1222, rfl, Hn1227⟩; refine ⟨_, rfl, ?_⟩
            have H1230 := hfr1226 _ _ Hn1227; clear H51
            refine aF ?_
            refine aH ?_
            refine fC (b := b1222) rfl (fun hc1231 => ?_) (fun hc1231 => ?_)
            ·refine wp_seq ?_
             refine aI [0, 1, 2, 3, 4, 5] rfl ?_
             refine aA ?_
             refine aB rfl (aC rfl) rfl rfl ?_
             refine aA ?_
             refine aB rfl (aC rfl) rfl rfl ?_
             refine aA ?_
             obtain ⟨F1234, hs1235, hF1236, hfr1237⟩ := St.frame (l0 := [aV gc 157 A bs.length cb]) (l := [hR Kn.int 3 (.slice (some ⟨g_3_1, 0, none⟩) 5 5) ([-1, -1, 0, 1, 2] : List Int), hB g_0_0 118 #[.int .i64 (0), .int .i64 (0), .int .i64 (0), .int .i64 (0), .int .i64 (0), .string (⟨#[]⟩)]]) H1230
             refine aK rfl Try.call44 (vs := #[.pointer (some ⟨gc, 0, none⟩), .int .i64 (3)]) rfl rfl rfl (cB 3 _ _ _ _ _ _ (CV.step hV H1230.1 hF1236) hn hs1235) ?_
             rintro e1240 W1239 ⟨q1232, rfl, hq1233, Hn1238⟩; refine ⟨_, rfl, ?_⟩
             have H1241 := hfr1237 _ _ Hn1238; clear H1230
             refine aA ?_
             refine aB rfl (rn_add rfl rfl kO) rfl rfl ?_
             refine aA ?_
             refine aB rfl (bB (vs := [(0, .int .i64 (9)), (1, .int .i64 (q6)), (2, .int .i64 ((1 + q1232)))]) (cells := #[.int .i64 (9), .int .i64 (q6), .int .i64 ((1 + q1232)), .int .i64 (0), .int .i64 (0), .string (⟨#[]⟩)]) rfl kR) rfl rfl ?_
             refine aA ?_
             have H1245 : St w F0 [hB g_0_0 118 #[.int .i64 (0), .int .i64 (0), .int .i64 (0), .int .i64 (0), .int .i64 (0), .string (⟨#[]⟩)], aV gc 157 A bs.length cb, hR Kn.int 3 (.slice (some ⟨g_3_1, 0, none⟩) 5 5) ([-1, -1, 0, 1, 2] : List Int)] W1239 := H1241.pick [2, 0, 1] kD rfl; clear H1241
             refine aU rfl Try.sizeOf118 rfl rfl rfl rfl kS H1245 ?_
             intro W1242 hu1243 Ha1244; clear H1245; clear hu1243
             refine aF ?_
             refine aH ?_
             refine wp_ret ?_
             refine aR ?_
             refine bA (.inl rfl) Try.results143 Try.isAgg118 Try.sizeOf118 rfl (Ha1244.blk 0 rfl) rfl ?_
             exact ⟨_, _, _, _, _, _, rfl, (Nat.le_of_ble_eq_true rfl), Ha1244.pick [1] kD rfl⟩
            ·refine wp_skip ?_
             refine aH ?_
             refine wp_seq ?_
             refine aI [0, 1, 2] rfl ?_
             refine aA ?_
             refine aB rfl (aC rfl) rfl rfl ?_
             refine aA ?_
             refine aB rfl (bB (vs := [(0, .int .i64 (10)), (1, .int .i64 (q6))]) (cells := #[.int .i64 (10), .int .i64 (q6), .int .i64 (0), .int .i64 (0), .int .i64 (0), .string (⟨#[]⟩)]) rfl kR) rfl rfl ?_
             refine aA ?_
             have H1250 : St w F0 [hB g_0_0 118 #[.int .i64 (0), .int .i64 (0), .int .i64 (0), .int .i64 (0), .int .i64 (0), .string (⟨#[]⟩)], aV gc 157 A bs.length cb, hR Kn.int 3 (.slice (some ⟨g_3_1, 0, none⟩) 5 5) ([-1, -1, 0, 1, 2] : List Int)] W1228 := H1230.pick [2, 0, 1] kD rfl; clear H1230
             refine aU rfl Try.sizeOf118 rfl rfl rfl rfl kS H1250 ?_
             intro W1247 hu1248 Ha1249; clear H1250; clear hu1248
             refine aF ?_
             refine aH ?_
             refine wp_ret ?_
             refine bA (.inl rfl) Try.results143 Try.isAgg118 Try.sizeOf118 rfl (Ha1249.blk 0 rfl) rfl ?_
             exact ⟨_, _, _, _, _, _, rfl, (Nat.le_of_ble_eq_true rfl), Ha1249.pick [1] kD rfl⟩
        ·refine aI [0, 1] rfl ?_
         refine aA ?_
         refine aB rfl (bD rfl rfl) rfl rfl ?_
         refine aA ?_
         refine aB rfl (aG rfl) rfl rfl ?_
         refine aF ?_
         refine aH ?_
         refine aW rfl (fun hc1252 => ?_) (fun hc1252 => ?_)
         ·refine wp_seq ?_
          refine wp_seq ?_
          refine aI [0, 1] rfl ?_
          refine aA ?_
          refine aB rfl (aC rfl) rfl rfl ?_
          refine aA ?_
          refine aB rfl (bD rfl rfl) rfl rfl ?_
          refine aF ?_
          refine aH ?_
          refine aW rfl (fun hc1253 => ?_) (fun hc1253 => ?_)
          ·refine wp_seq ?_
           refine aI [0, 1, 2, 3, 4, 5] rfl ?_
           refine aA ?_
           refine aB rfl (aC rfl) rfl rfl ?_
           refine aA ?_
           refine aB rfl (aC rfl) rfl rfl ?_
           refine aA ?_
           refine aB rfl (aC rfl) rfl rfl ?_
           refine aA ?_
           obtain ⟨F1256, hs1257, hF1258, hfr1259⟩ := St.frame (l0 := [aV gc 157 A bs.length cb]) (l := [hR Kn.int 3 (.slice (some ⟨g_3_1, 0, none⟩) 5 5) ([-1, -1, 0, 1, 2] : List Int), hB g_0_0 118 #[.int .i64 (0), .int .i64 (0), .int .i64 (0), .int .i64 (0), .int .i64 (0), .string (⟨#[]⟩)]]) H51
           refine aK rfl Try.call63 (vs := #[.pointer (some ⟨gc, 0, none⟩)]) rfl rfl rfl (fZ _ _ _ _ _ _ (CV.step hV H51.1 hF1258) hn hs1257) ?_
           rintro e1262 W1261 ⟨s1254, rfl, hs1255, Hn1260⟩; refine ⟨_, rfl, ?_⟩
           have H1263 := hfr1259 _ _ Hn1260; clear H51
           refine aA ?_
           refine aB rfl (bB (vs := [(0, .int .i64 (6)), (1, .int .i64 (q6)), (2, .int .i64 (q17)), (3, .int .i64 (-1)), (4, .int .i64 (-1)), (5, .string (s1254))]) (cells := #[.int .i64 (6), .int .i64 (q6), .int .i64 (q17), .int .i64 (-1), .int .i64 (-1), .string (s1254)]) rfl kR) rfl rfl ?_
           refine aA ?_
           have H1267 : St w F0 [hB g_0_0 118 #[.int .i64 (0), .int .i64 (0), .int .i64 (0), .int .i64 (0), .int .i64 (0), .string (⟨#[]⟩)], aV gc 157 A bs.length cb, hR Kn.int 3 (.slice (some ⟨g_3_1, 0, none⟩) 5 5) ([-1, -1, 0, 1, 2] : List Int)] W1261 := H1263.pick [2, 0, 1] kD rfl; clear H1263
           refine aU rfl Try.sizeOf118 rfl rfl rfl rfl kS H1267 ?_
           intro W1264 hu1265 Ha1266; clear H1267; clear hu1265
           refine aF ?_
           refine aH ?_
           refine wp_ret ?_
           refine aR ?_
           refine aY ?_
           refine aR ?_
           refine bA (.inl rfl) Try.results143 Try.isAgg118 Try.sizeOf118 rfl (Ha1266.blk 0 rfl) rfl ?_
           exact ⟨_, _, _, _, _, _, rfl, (Nat.le_trans hs1255 kD), Ha1266.pick [1] kD rfl⟩
          ·refine wp_skip ?_
           refine aH ?_
           refine wp_seq ?_
           refine aI [0, 1, 2, 3, 4, 5, 6, 7, 8, 9] rfl ?_
           refine aA ?_
           refine aB rfl (aC rfl) rfl rfl ?_
           refine aA ?_
           refine aB rfl (aC rfl) rfl rfl ?_
           refine aA ?_
           refine aB rfl (aC rfl) rfl rfl ?_
           refine aA ?_
           refine aB rfl (aC rfl) rfl rfl ?_
           refine aA ?_
           refine bT (vs := [(0, .int .i64 (-1)), (1, .int .i64 (0)), (2, .int .i64 (3))]) (cells := #[.int .i64 (-1), .int .i64 (0), .int .i64 (3)]) rfl Try.runUnderlying82 Try.sizeOf3 Try.zeroValue3 rfl kD kD kR rfl rfl H51 ?_
           intro g_21_4 W1269 hu1270 Ha1271; clear H51
           have Hb1272 := St.eT (xs := ([-1, 0, 3] : List Int)) (h1 := fun _ => rfl) Ha1271 rfl kD rfl; clear hu1270
           refine aA ?_
           have H1275 : St w F0 [aV gc 157 A bs.length cb, hR Kn.int 3 (.slice (some ⟨g_21_4, 0, none⟩) 3 3) ([-1, 0, 3] : List Int), hR Kn.int 3 (.slice (some ⟨g_3_1, 0, none⟩) 5 5) ([-1, -1, 0, 1, 2] : List Int), hB g_0_0 118 #[.int .i64 (0), .int .i64 (0), .int .i64 (0), .int .i64 (0), .int .i64 (0), .string (⟨#[]⟩)]] W1269 := Hb1272.pick [1, 0, 2, 3] kD rfl; clear Hb1272
           obtain ⟨F1276, hs1277, hF1278, hfr1279⟩ := St.frame (l0 := [aV gc 157 A bs.length cb, hR Kn.int 3 (.slice (some ⟨g_21_4, 0, none⟩) 3 3) ([-1, 0, 3] : List Int)]) (l := [hR Kn.int 3 (.slice (some ⟨g_3_1, 0, none⟩) 5 5) ([-1, -1, 0, 1, 2] : List Int), hB g_0_0 118 #[.int .i64 (0), .int .i64 (0), .int .i64 (0), .int .i64 (0), .int .i64 (0), .string (⟨#[]⟩)]]) H1275
           refine aK rfl Try.call113 (vs := #[.pointer (some ⟨gc, 0, none⟩), .slice (some ⟨g_21_4, 0, none⟩) 3 3]) rfl rfl rfl (int_s ([-1, 0, 3] : List Int) _ _ kD _ _ _ _ _ _ (CV.step hV H1275.1 hF1278) hn hs1277) ?_
           rintro e1282 W1281 ⟨s1273, rfl, hs1274, Hn1280⟩; refine ⟨_, rfl, ?_⟩
           have H1283 := hfr1279 _ _ Hn1280; clear H1275
           refine aA ?_
           refine aB rfl (aC rfl) rfl rfl ?_
           refine aA ?_
           obtain ⟨F1286, hs1287, hF1288, hfr1289⟩ := St.frame (l0 := [aV gc 157 A bs.length cb]) (l := [hR Kn.int 3 (.slice (some ⟨g_21_4, 0, none⟩) 3 3) ([-1, 0, 3] : List Int), hR Kn.int 3 (.slice (some ⟨g_3_1, 0, none⟩) 5 5) ([-1, -1, 0, 1, 2] : List Int), hB g_0_0 118 #[.int .i64 (0), .int .i64 (0), .int .i64 (0), .int .i64 (0), .int .i64 (0), .string (⟨#[]⟩)]]) H1283
           refine aK rfl Try.call63 (vs := #[.pointer (some ⟨gc, 0, none⟩)]) rfl rfl rfl (fZ _ _ _ _ _ _ (CV.step hV H1283.1 hF1288) hn hs1287) ?_
           rintro e1292 W1291 ⟨s1284, rfl, hs1285, Hn1290⟩; refine ⟨_, rfl, ?_⟩
           have H1293 := hfr1289 _ _ Hn1290; clear H1283
           refine aA ?_
           refine aB rfl (bB (vs := [(0, .int .i64 (6)), (1, .int .i64 (q6)), (2, .int .i64 (q17)), (3, .int .i64 (s31)), (4, .int .i64 (s1273)), (5, .string (s1284))]) (cells := #[.int .i64 (6), .int .i64 (q6), .int .i64 (q17), .int .i64 (s31), .int .i64 (s1273), .string (s1284)]) rfl kR) rfl rfl ?_
           refine aA ?_
           have H1297 : St w F0 [hB g_0_0 118 #[.int .i64 (0), .int .i64 (0), .int .i64 (0), .int .i64 (0), .int .i64 (0), .string (⟨#[]⟩)], aV gc 157 A bs.length cb, hR Kn.int 3 (.slice (some ⟨g_21_4, 0, none⟩) 3 3) ([-1, 0, 3] : List Int), hR Kn.int 3 (.slice (some ⟨g_3_1, 0, none⟩) 5 5) ([-1, -1, 0, 1, 2] : List Int)] W1291 := H1293.pick [3, 0, 1, 2] kD rfl; clear H1293
           refine aU rfl Try.sizeOf118 rfl rfl rfl rfl kS H1297 ?_
           intro W1294 hu1295 Ha1296; clear H1297; clear hu1295
           refine aF ?_
           refine aH ?_
           refine wp_ret ?_
           refine aY ?_
           refine aR ?_
           refine bA (.inl rfl) Try.results143 Try.isAgg118 Try.sizeOf118 rfl (Ha1296.blk 0 rfl) rfl ?_
           exact ⟨_, _, _, _, _, _, rfl, (Nat.le_trans hs1285 kD), Ha1296.pick [1] kD rfl⟩
         ·refine wp_seq ?_
          refine aI [0, 1] rfl ?_
          refine aA ?_
          refine aB rfl (bD rfl rfl) rfl rfl ?_
          refine aA ?_
          refine aB rfl (aG rfl) rfl rfl ?_
          refine aF ?_
          refine aH ?_
          refine aW rfl (fun hc1299 => ?_) (fun hc1299 => ?_)
          ·refine wp_seq ?_
           refine wp_seq ?_
           refine aI [0, 1] rfl ?_
           refine aA ?_
           refine aB rfl (aC rfl) rfl rfl ?_
           refine aA ?_
           refine aB rfl (bD rfl rfl) rfl rfl ?_
           refine aF ?_
           refine aH ?_
           refine aW rfl (fun hc1300 => ?_) (fun hc1300 => ?_)
           ·refine wp_seq ?_
            refine aI [0, 1, 2, 3, 4, 5] rfl ?_
            refine aA ?_
            refine aB rfl (aC rfl) rfl rfl ?_
            refine aA ?_
            refine aB rfl (aC rfl) rfl rfl ?_
            refine aA ?_
            refine bT (vs := [(0, .string (⟨#[99, 101, 108, 108]⟩)), (1, .string (⟨#[112, 114, 111, 120, 121]⟩)), (2, .string (⟨#[109, 97, 107, 101, 114]⟩)), (3, .string (⟨#[110, 111, 110, 101]⟩))]) (cells := #[.string (⟨#[99, 101, 108, 108]⟩), .string (⟨#[112, 114, 111, 120, 121]⟩), .string (⟨#[109, 97, 107, 101, 114]⟩), .string (⟨#[110, 111, 110, 101]⟩)]) rfl Try.runUnderlying166 Try.sizeOf9 Try.zeroValue9 rfl kD kD kR rfl rfl H51 ?_
            intro g_24_2 W1301 hu1302 Ha1303; clear H51
            have Hb1304 := St.eT (xs := ([⟨#[99, 101, 108, 108]⟩, ⟨#[112, 114, 111, 120, 121]⟩, ⟨#[109, 97, 107, 101, 114]⟩, ⟨#[110, 111, 110, 101]⟩] : List ByteArray)) (h1 := fun _ => rfl) Ha1303 rfl kD rfl; clear hu1302
            refine aA ?_
            have H1307 : St w F0 [aV gc 157 A bs.length cb, hR Kn.string 9 (.slice (some ⟨g_24_2, 0, none⟩) 4 4) ([⟨#[99, 101, 108, 108]⟩, ⟨#[112, 114, 111, 120, 121]⟩, ⟨#[109, 97, 107, 101, 114]⟩, ⟨#[110, 111, 110, 101]⟩] : List ByteArray), hR Kn.int 3 (.slice (some ⟨g_3_1, 0, none⟩) 5 5) ([-1, -1, 0, 1, 2] : List Int), hB g_0_0 118 #[.int .i64 (0), .int .i64 (0), .int .i64 (0), .int .i64 (0), .int .i64 (0), .string (⟨#[]⟩)]] W1301 := Hb1304.pick [1, 0, 2, 3] kD rfl; clear Hb1304
            obtain ⟨F1308, hs1309, hF1310, hfr1311⟩ := St.frame (l0 := [aV gc 157 A bs.length cb, hR Kn.string 9 (.slice (some ⟨g_24_2, 0, none⟩) 4 4) ([⟨#[99, 101, 108, 108]⟩, ⟨#[112, 114, 111, 120, 121]⟩, ⟨#[109, 97, 107, 101, 114]⟩, ⟨#[110, 111, 110, 101]⟩] : List ByteArray)]) (l := [hR Kn.int 3 (.slice (some ⟨g_3_1, 0, none⟩) 5 5) ([-1, -1, 0, 1, 2] : List Int), hB g_0_0 118 #[.int .i64 (0), .int .i64 (0), .int .i64 (0), .int .i64 (0), .int .i64 (0), .string (⟨#[]⟩)]]) H1307
            refine aK rfl Try.call110 (vs := #[.pointer (some ⟨gc, 0, none⟩), .slice (some ⟨g_24_2, 0, none⟩) 4 4]) rfl rfl rfl (gV ([⟨#[99, 101, 108, 108]⟩, ⟨#[112, 114, 111, 120, 121]⟩, ⟨#[109, 97, 107, 101, 114]⟩, ⟨#[110, 111, 110, 101]⟩] : List ByteArray) _ _ kD _ _ _ _ _ _ (CV.step hV H1307.1 hF1310) hn hs1309) ?_
            rintro e1314 W1313 ⟨s1305, rfl, hs1306, Hn1312⟩; refine ⟨_, rfl, ?_⟩
            have H1315 := hfr1311 _ _ Hn1312; clear H1307
            refine aA ?_
            refine aB rfl (bB (vs := [(0, .int .i64 (7)), (1, .int .i64 (q6)), (3, .int .i64 (-1)), (4, .int .i64 (-1)), (5, .string (s1305))]) (cells := #[.int .i64 (7), .int .i64 (q6), .int .i64 (0), .int .i64 (-1), .int .i64 (-1), .string (s1305)]) rfl kR) rfl rfl ?_
            refine aA ?_
            have H1319 : St w F0 [hB g_0_0 118 #[.int .i64 (0), .int .i64 (0), .int .i64 (0), .int .i64 (0), .int .i64 (0), .string (⟨#[]⟩)], aV gc 157 A bs.length cb, hR Kn.string 9 (.slice (some ⟨g_24_2, 0, none⟩) 4 4) ([⟨#[99, 101, 108, 108]⟩, ⟨#[112, 114, 111, 120, 121]⟩, ⟨#[109, 97, 107, 101, 114]⟩, ⟨#[110, 111, 110, 101]⟩] : List ByteArray), hR Kn.int 3 (.slice (some ⟨g_3_1, 0, none⟩) 5 5) ([-1, -1, 0, 1, 2] : List Int)] W1313 := H1315.pick [3, 0, 1, 2] kD rfl; clear H1315
            refine aU rfl Try.sizeOf118 rfl rfl rfl rfl kS H1319 ?_
            intro W1316 hu1317 Ha1318; clear H1319; clear hu1317
            refine aF ?_
            refine aH ?_
            refine wp_ret ?_
            refine aR ?_
            refine aY ?_
            refine aR ?_
            refine bA (.inl rfl) Try.results143 Try.isAgg118 Try.sizeOf118 rfl (Ha1318.blk 0 rfl) rfl ?_
            exact ⟨_, _, _, _, _, _, rfl, (eZ hs1306 kD), Ha1318.pick [1] kD rfl⟩
           ·refine wp_skip ?_
            refine aH ?_
            refine wp_seq ?_
            refine aI [0, 1, 2, 3, 4, 5, 6] rfl ?_
            refine aA ?_
            refine aB rfl (aC rfl) rfl rfl ?_
            refine aA ?_
            refine aB rfl (aC rfl) rfl rfl ?_
            refine aA ?_
            refine aB rfl (aC rfl) rfl rfl ?_
            refine aA ?_
            refine bT (vs := [(0, .string (⟨#[99, 101, 108, 108]⟩)), (1, .string (⟨#[112, 114, 111, 120, 121]⟩)), (2, .string (⟨#[109, 97, 107, 101, 114]⟩))]) (cells := #[.string (⟨#[99, 101, 108, 108]⟩), .string (⟨#[112, 114, 111, 120, 121]⟩), .string (⟨#[109, 97, 107, 101, 114]⟩)]) rfl Try.runUnderlying166 Try.sizeOf9 Try.zeroValue9 rfl kD kD kR rfl rfl H51 ?_
            intro g_25_3 W1321 hu1322 Ha1323; clear H51
            have Hb1324 := St.eT (xs := ([⟨#[99, 101, 108, 108]⟩, ⟨#[112, 114, 111, 120, 121]⟩, ⟨#[109, 97, 107, 101, 114]⟩] : List ByteArray)) (h1 := fun _ => rfl) Ha1323 rfl kD rfl; clear hu1322
            refine aA ?_
            have H1327 : St w F0 [aV gc 157 A bs.length cb, hR Kn.string 9 (.slice (some ⟨g_25_3, 0, none⟩) 3 3) ([⟨#[99, 101, 108, 108]⟩, ⟨#[112, 114, 111, 120, 121]⟩, ⟨#[109, 97, 107, 101, 114]⟩] : List ByteArray), hR Kn.int 3 (.slice (some ⟨g_3_1, 0, none⟩) 5 5) ([-1, -1, 0, 1, 2] : List Int), hB g_0_0 118 #[.int .i64 (0), .int .i64 (0), .int .i64 (0), .int .i64 (0), .int .i64 (0), .string (⟨#[]⟩)]] W1321 := Hb1324.pick [1, 0, 2, 3] kD rfl; clear Hb1324
            obtain ⟨F1328, hs1329, hF1330, hfr1331⟩ := St.frame (l0 := [aV gc 157 A bs.length cb, hR Kn.string 9 (.slice (some ⟨g_25_3, 0, none⟩) 3 3) ([⟨#[99, 101, 108, 108]⟩, ⟨#[112, 114, 111, 120, 121]⟩, ⟨#[109, 97, 107, 101, 114]⟩] : List ByteArray)]) (l := [hR Kn.int 3 (.slice (some ⟨g_3_1, 0, none⟩) 5 5) ([-1, -1, 0, 1, 2] : List Int), hB g_0_0 118 #[.int .i64 (0), .int .i64 (0), .int .i64 (0), .int .i64 (0), .int .i64 (0), .string (⟨#[]⟩)]]) H1327
            refine aK rfl Try.call110 (vs := #[.pointer (some ⟨gc, 0, none⟩), .slice (some ⟨g_25_3, 0, none⟩) 3 3]) rfl rfl rfl (gV ([⟨#[99, 101, 108, 108]⟩, ⟨#[112, 114, 111, 120, 121]⟩, ⟨#[109, 97, 107, 101, 114]⟩] : List ByteArray) _ _ kD _ _ _ _ _ _ (CV.step hV H1327.1 hF1330) hn hs1329) ?_
            rintro e1334 W1333 ⟨s1325, rfl, hs1326, Hn1332⟩; refine ⟨_, rfl, ?_⟩
            have H1335 := hfr1331 _ _ Hn1332; clear H1327
            refine aA ?_
            refine aB rfl (bB (vs := [(0, .int .i64 (7)), (1, .int .i64 (q6)), (3, .int .i64 (s31)), (4, .int .i64 (-1)), (5, .string (s1325))]) (cells := #[.int .i64 (7), .int .i64 (q6), .int .i64 (0), .int .i64 (s31), .int .i64 (-1), .string (s1325)]) rfl kR) rfl rfl ?_
            refine aA ?_
            have H1339 : St w F0 [hB g_0_0 118 #[.int .i64 (0), .int .i64 (0), .int .i64 (0), .int .i64 (0), .int .i64 (0), .string (⟨#[]⟩)], aV gc 157 A bs.length cb, hR Kn.string 9 (.slice (some ⟨g_25_3, 0, none⟩) 3 3) ([⟨#[99, 101, 108, 108]⟩, ⟨#[112, 114, 111, 120, 121]⟩, ⟨#[109, 97, 107, 101, 114]⟩] : List ByteArray), hR Kn.int 3 (.slice (some ⟨g_3_1, 0, none⟩) 5 5) ([-1, -1, 0, 1, 2] : List Int)] W1333 := H1335.pick [3, 0, 1, 2] kD rfl; clear H1335
            refine aU rfl Try.sizeOf118 rfl rfl rfl rfl kS H1339 ?_
            intro W1336 hu1337 Ha1338; clear H1339; clear hu1337
            refine aF ?_
            refine aH ?_
            refine wp_ret ?_
            refine aY ?_
            refine aR ?_
            refine bA (.inl rfl) Try.results143 Try.isAgg118 Try.sizeOf118 rfl (Ha1338.blk 0 rfl) rfl ?_
            exact ⟨_, _, _, _, _, _, rfl, (eZ hs1326 kD), Ha1338.pick [1] kD rfl⟩
          ·refine wp_seq ?_
           refine aI [0, 1] rfl ?_
           refine aA ?_
           refine aB rfl (bD rfl rfl) rfl rfl ?_
           refine aA ?_
           refine aB rfl (aG rfl) rfl rfl ?_
           refine aF ?_
           refine aH ?_
           refine aW rfl (fun hc1341 => ?_) (fun hc1341 => ?_)
           ·refine wp_seq ?_
            refine aI [0, 1, 2, 3, 4] rfl ?_
            refine aA ?_
            refine aB rfl (aC rfl) rfl rfl ?_
            refine aA ?_
            obtain ⟨F1344, hs1345, hF1346, hfr1347⟩ := St.frame (l0 := [aV gc 157 A bs.length cb]) (l := [hR Kn.int 3 (.slice (some ⟨g_3_1, 0, none⟩) 5 5) ([-1, -1, 0, 1, 2] : List Int), hB g_0_0 118 #[.int .i64 (0), .int .i64 (0), .int .i64 (0), .int .i64 (0), .int .i64 (0), .string (⟨#[]⟩)]]) H51
            refine aK rfl Try.call44 (vs := #[.pointer (some ⟨gc, 0, none⟩), .int .i64 (3)]) rfl rfl rfl (cB 3 _ _ _ _ _ _ (CV.step hV H51.1 hF1346) hn hs1345) ?_
            rintro e1350 W1349 ⟨q1342, rfl, hq1343, Hn1348⟩; refine ⟨_, rfl, ?_⟩
            have H1351 := hfr1347 _ _ Hn1348; clear H51
            refine aA ?_
            refine aB rfl (aC rfl) rfl rfl ?_
            refine aA ?_
            refine aB rfl (bB (vs := [(0, .int .i64 (8)), (1, .int .i64 (q1342)), (2, .int .i64 (q17))]) (cells := #[.int .i64 (8), .int .i64 (q1342), .int .i64 (q17), .int .i64 (0), .int .i64 (0), .string (⟨#[]⟩)]) rfl kR) rfl rfl ?_
            refine aA ?_
            have H1355 : St w F0 [hB g_0_0 118 #[.int .i64 (0), .int .i64 (0), .int .i64 (0), .int .i64 (0), .int .i64 (0), .string (⟨#[]⟩)], aV gc 157 A bs.length cb, hR Kn.int 3 (.slice (some ⟨g_3_1, 0, none⟩) 5 5) ([-1, -1, 0, 1, 2] : List Int)] W1349 := H1351.pick [2, 0, 1] kD rfl; clear H1351
            refine aU rfl Try.sizeOf118 rfl rfl rfl rfl kS H1355 ?_
            intro W1352 hu1353 Ha1354; clear H1355; clear hu1353
            refine aF ?_
            refine aH ?_
            refine wp_ret ?_
            refine aY ?_
            refine aR ?_
            refine bA (.inl rfl) Try.results143 Try.isAgg118 Try.sizeOf118 rfl (Ha1354.blk 0 rfl) rfl ?_
            exact ⟨_, _, _, _, _, _, rfl, (Nat.le_of_ble_eq_true rfl), Ha1354.pick [1] kD rfl⟩
           ·refine wp_skip ?_
            refine dR ?_
            refine aH ?_
            refine wp_seq ?_
            refine wp_seq ?_
            refine aI [0, 1] rfl ?_
            refine aA ?_
            refine aB rfl (aC rfl) rfl rfl ?_
            refine aA ?_
            obtain ⟨F1358, hs1359, hF1360, hfr1361⟩ := St.frame (l0 := [aV gc 157 A bs.length cb]) (l := [hR Kn.int 3 (.slice (some ⟨g_3_1, 0, none⟩) 5 5) ([-1, -1, 0, 1, 2] : List Int), hB g_0_0 118 #[.int .i64 (0), .int .i64 (0), .int .i64 (0), .int .i64 (0), .int .i64 (0), .string (⟨#[]⟩)]]) H51
            refine aK rfl Try.call43 (vs := #[.pointer (some ⟨gc, 0, none⟩), .int .i64 (2)]) rfl rfl rfl (once_s 2 _ _ _ _ _ _ (CV.step hV H51.1 hF1360) hn hs1359) ?_
            rintro e1364 W1363 ⟨b1357, rfl, Hn1362⟩; refine ⟨_, rfl, ?_⟩
            have H1365 := hfr1361 _ _ Hn1362; clear H51
            refine aF ?_
            refine aH ?_
            refine fC (b := b1357) rfl (fun hc1366 => ?_) (fun hc1366 => ?_)
            ·refine wp_seq ?_
             refine aI [0, 1, 2, 3, 4, 5] rfl ?_
             refine aA ?_
             refine aB rfl (aC rfl) rfl rfl ?_
             refine aA ?_
             refine aB rfl (aC rfl) rfl rfl ?_
             refine aA ?_
             obtain ⟨F1369, hs1370, hF1371, hfr1372⟩ := St.frame (l0 := [aV gc 157 A bs.length cb]) (l := [hR Kn.int 3 (.slice (some ⟨g_3_1, 0, none⟩) 5 5) ([-1, -1, 0, 1, 2] : List Int), hB g_0_0 118 #[.int .i64 (0), .int .i64 (0), .int .i64 (0), .int .i64 (0), .int .i64 (0), .string (⟨#[]⟩)]]) H1365
             refine aK rfl Try.call44 (vs := #[.pointer (some ⟨gc, 0, none⟩), .int .i64 (3)]) rfl rfl rfl (cB 3 _ _ _ _ _ _ (CV.step hV H1365.1 hF1371) hn hs1370) ?_
             rintro e1375 W1374 ⟨q1367, rfl, hq1368, Hn1373⟩; refine ⟨_, rfl, ?_⟩
             have H1376 := hfr1372 _ _ Hn1373; clear H1365
             refine aA ?_
             refine aB rfl (rn_add rfl rfl kO) rfl rfl ?_
             refine aA ?_
             refine aB rfl (bB (vs := [(0, .int .i64 (9)), (1, .int .i64 (q6)), (2, .int .i64 ((1 + q1367)))]) (cells := #[.int .i64 (9), .int .i64 (q6), .int .i64 ((1 + q1367)), .int .i64 (0), .int .i64 (0), .string (⟨#[]⟩)]) rfl kR) rfl rfl ?_
             refine aA ?_
             have H1380 : St w F0 [hB g_0_0 118 #[.int .i64 (0), .int .i64 (0), .int .i64 (0), .int .i64 (0), .int .i64 (0), .string (⟨#[]⟩)], aV gc 157 A bs.length cb, hR Kn.int 3 (.slice (some ⟨g_3_1, 0, none⟩) 5 5) ([-1, -1, 0, 1, 2] : List Int)] W1374 := H1376.pick [2, 0, 1] kD rfl; clear H1376
             refine aU rfl Try.sizeOf118 rfl rfl rfl rfl kS H1380 ?_
             intro W1377 hu1378 Ha1379; clear H1380; clear hu1378
             refine aF ?_
             refine aH ?_
             refine wp_ret ?_
             refine aR ?_
             refine bA (.inl rfl) Try.results143 Try.isAgg118 Try.sizeOf118 rfl (Ha1379.blk 0 rfl) rfl ?_
             exact ⟨_, _, _, _, _, _, rfl, (Nat.le_of_ble_eq_true rfl), Ha1379.pick [1] kD rfl⟩
            ·refine wp_skip ?_
             refine aH ?_
             refine wp_seq ?_
             refine aI [0, 1, 2] rfl ?_
             refine aA ?_
             refine aB rfl (aC rfl) rfl rfl ?_
             refine aA ?_
             refine aB rfl (bB (vs := [(0, .int .i64 (10)), (1, .int .i64 (q6))]) (cells := #[.int .i64 (10), .int .i64 (q6), .int .i64 (0), .int .i64 (0), .int .i64 (0), .string (⟨#[]⟩)]) rfl kR) rfl rfl ?_
             refine aA ?_
             have H1385 : St w F0 [hB g_0_0 118 #[.int .i64 (0), .int .i64 (0), .int .i64 (0), .int .i64 (0), .int .i64 (0), .string (⟨#[]⟩)], aV gc 157 A bs.length cb, hR Kn.int 3 (.slice (some ⟨g_3_1, 0, none⟩) 5 5) ([-1, -1, 0, 1, 2] : List Int)] W1363 := H1365.pick [2, 0, 1] kD rfl; clear H1365
             refine aU rfl Try.sizeOf118 rfl rfl rfl rfl kS H1385 ?_
             intro W1382 hu1383 Ha1384; clear H1385; clear hu1383
             refine aF ?_
             refine aH ?_
             refine wp_ret ?_
             refine bA (.inl rfl) Try.results143 Try.isAgg118 Try.sizeOf118 rfl (Ha1384.blk 0 rfl) rfl ?_
             exact ⟨_, _, _, _, _, _, rfl, (Nat.le_of_ble_eq_true rfl), Ha1384.pick [1] kD rfl⟩
end Go.Proofs.YtdfipdpeilegpaaFam
