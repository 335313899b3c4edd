/- What the row needs, packed. No conditions beyond those that each law names. -/
import Derived.Test.YtdfipdpeilegpaaZfv3
import Derived.Test.YtdfipdpeilegpaaProg
import Derived.Test.YtdfipdpeilegpaaZfv1
namespace Go.Proofs.YtdfipdpeilegpaaFam
open Go.ChangeShapes Go.WideShapes Go.RowKit Go.Proofs.YtdfipdpeilegpaaSep Go.Proofs.YtdfipdpeilegpaaT Go.Proofs.YtdfipdpeilegpaaK
set_option linter.unusedVariables false
set_option linter.unusedSimpArgs false
attribute [local irreducible] wpOps wpOp
set_option maxHeartbeats 4000000
set_option maxRecDepth 100000
theorem entity_s  (bs : List Int) (gc cb : Nat) (A : Option Addr) (F0 : Nat → Prop) (w : World) (hV : CV A bs F0 w) (hn : bs.length ≤ 1048576) (h : Star [bF gc 157 A bs.length cb] w F0) : Calls Try.prog 85 #[.pointer (some ⟨gc, 0, none⟩)] w (fun e' w' => ∃ m cs, e' = .returned (.agg (List.toArray cs)) ∧ bU m ≤ 60 ∧ St w F0 [hM aL m cs, bF gc 157 A bs.length cb] w') := by
 refine enter 101 [(0, .pointer (some ⟨gc, 0, none⟩))] Try.func85 rfl kR ?_
 intro xj
 have H1 : St w F0 [bF gc 157 A bs.length cb] w := St.iA h
 refine wp_seq ?_
 refine aN [0] rfl ?_
 refine aA ?_
 refine bP rfl Try.zeroValue77 rfl rfl H1 ?_
 intro g_0_0 W2 hu3 Ha4; clear H1; clear hu3
 refine aI ?_
 refine aK ?_
 refine wp_seq ?_
 refine aN [0, 1, 2] rfl ?_
 refine aA ?_
 refine aB rfl (dS (vs := []) (cells := #[.int .i64 (0), .int .i64 (0), .slice none 0 0, .int .i64 (0), .int .i64 (0), .int .i64 (0), .slice none 0 0, .slice none 0 0, .int .i64 (0), .int .i64 (0), .int .i64 (0), .int .i64 (0)]) rfl kR) rfl rfl ?_
 refine aA ?_
 refine bP rfl Try.zeroValue77 rfl rfl Ha4 ?_
 intro g_1_1 W6 hu7 Ha8; clear Ha4; clear hu7
 refine aA ?_
 refine bG rfl Try.sizeOf77 rfl rfl rfl rfl kS Ha8 ?_
 intro W10 hu11 Ha12; clear Ha8; clear hu11
 refine aI ?_
 refine aK ?_
 refine wp_seq ?_
 refine wp_seq ?_
 refine aN [0, 1] rfl ?_
 refine aA ?_
 refine aB rfl (aF rfl) rfl rfl ?_
 refine aA ?_
 have H16 : St w F0 [bF gc 157 A bs.length cb, hB g_1_1 77 #[.int .i64 (0), .int .i64 (0), .slice none 0 0, .int .i64 (0), .int .i64 (0), .int .i64 (0), .slice none 0 0, .slice none 0 0, .int .i64 (0), .int .i64 (0), .int .i64 (0), .int .i64 (0)], hB g_0_0 77 #[.int .i64 (0), .int .i64 (0), .slice none 0 0, .int .i64 (0), .int .i64 (0), .int .i64 (0), .slice none 0 0, .slice none 0 0, .int .i64 (0), .int .i64 (0), .int .i64 (0), .int .i64 (0)]] W10 := Ha12.pick [2, 0, 1] kD rfl; clear Ha12
 obtain ⟨F17, hs18, hF19, hfr20⟩ := St.frame (l0 := [bF gc 157 A bs.length cb]) (l := [hB g_1_1 77 #[.int .i64 (0), .int .i64 (0), .slice none 0 0, .int .i64 (0), .int .i64 (0), .int .i64 (0), .slice none 0 0, .slice none 0 0, .int .i64 (0), .int .i64 (0), .int .i64 (0), .int .i64 (0)], hB g_0_0 77 #[.int .i64 (0), .int .i64 (0), .slice none 0 0, .int .i64 (0), .int .i64 (0), .int .i64 (0), .slice none 0 0, .slice none 0 0, .int .i64 (0), .int .i64 (0), .int .i64 (0), .int .i64 (0)]]) H16
 refine bC rfl Try.call44 (vs := #[.pointer (some ⟨gc, 0, none⟩), .int .i64 (3)]) rfl rfl rfl (dN 3 _ _ _ _ _ _ (CV.step hV H16.1 hF19) hn hs18) ?_
 rintro e23 W22 ⟨q14, rfl, hq15, Hn21⟩; refine ⟨_, rfl, ?_⟩
 have H24 := hfr20 _ _ Hn21; clear H16
 refine aI ?_
 refine aK ?_
 refine eU (fun a' W' => ∃ (E : GEntity) (BSlots : Option Addr) (cSlots : Nat) (BQueue : Option Addr) (cQueue : Nat) (BAskers : Option Addr) (cAskers : Nat) (x' : Nat → Value), a' = bH 101 x' [(0, .pointer (some ⟨gc, 0, none⟩)), (2, .pointer (some ⟨g_0_0, 0, none⟩)), (3, .pointer (some ⟨g_1_1, 0, none⟩))] ∧ St w F0 [hR aP 70 (.slice BSlots E.aM.length cSlots) E.aM, hR aH 181 (.slice BQueue E.Queue.length cQueue) E.Queue, hR aQ 155 (.slice BAskers E.aG.length cAskers) E.aG, hB g_1_1 77 #[.int .i64 (E.Kind), .int .i64 (E.Script), .slice BSlots E.aM.length cSlots, .int .i64 (E.State), .int .i64 (E.Value.Kind), .int .i64 (E.Value.N), .slice BQueue E.Queue.length cQueue, .slice BAskers E.aG.length cAskers, .int .i64 (E.bD), .int .i64 (E.Pos), .int .i64 (E.Count), .int .i64 (E.bJ)], bF gc 157 A bs.length cb, hB g_0_0 77 #[.int .i64 (0), .int .i64 (0), .slice none 0 0, .int .i64 (0), .int .i64 (0), .int .i64 (0), .slice none 0 0, .slice none 0 0, .int .i64 (0), .int .i64 (0), .int .i64 (0), .int .i64 (0)]] W' ∧ (E.aM.length ≤ 8) ∧ (bV bT E.Queue ≤ 30) ∧ (E.aG.length ≤ 2)) ?_ ?_
 ·refine wp_block ?_
  refine wp_seq ?_
  refine aN [0, 1] rfl ?_
  refine aA ?_
  refine aB rfl (bS rfl rfl) rfl rfl ?_
  refine aA ?_
  refine aB rfl (aR rfl) rfl rfl ?_
  refine aI ?_
  refine aK ?_
  refine dB rfl (fun hc25 => ?_) (fun hc25 => ?_)
  ·refine aN [0, 1, 2, 3, 4, 5] rfl ?_
   refine aA ?_
   refine aB rfl (aF rfl) rfl rfl ?_
   refine aA ?_
   obtain ⟨F28, hs29, hF30, hfr31⟩ := St.frame (l0 := [bF gc 157 A bs.length cb]) (l := [hB g_1_1 77 #[.int .i64 (0), .int .i64 (0), .slice none 0 0, .int .i64 (0), .int .i64 (0), .int .i64 (0), .slice none 0 0, .slice none 0 0, .int .i64 (0), .int .i64 (0), .int .i64 (0), .int .i64 (0)], hB g_0_0 77 #[.int .i64 (0), .int .i64 (0), .slice none 0 0, .int .i64 (0), .int .i64 (0), .int .i64 (0), .slice none 0 0, .slice none 0 0, .int .i64 (0), .int .i64 (0), .int .i64 (0), .int .i64 (0)]]) H24
   refine bC rfl Try.call44 (vs := #[.pointer (some ⟨gc, 0, none⟩), .int .i64 (3)]) rfl rfl rfl (dN 3 _ _ _ _ _ _ (CV.step hV H24.1 hF30) hn hs29) ?_
   rintro e34 W33 ⟨q26, rfl, hq27, Hn32⟩; refine ⟨_, rfl, ?_⟩
   have H35 := hfr31 _ _ Hn32; clear H24
   refine aA ?_
   refine aB rfl (aF rfl) rfl rfl ?_
   refine aA ?_
   obtain ⟨F38, hs39, hF40, hfr41⟩ := St.frame (l0 := [bF gc 157 A bs.length cb]) (l := [hB g_1_1 77 #[.int .i64 (0), .int .i64 (0), .slice none 0 0, .int .i64 (0), .int .i64 (0), .int .i64 (0), .slice none 0 0, .slice none 0 0, .int .i64 (0), .int .i64 (0), .int .i64 (0), .int .i64 (0)], hB g_0_0 77 #[.int .i64 (0), .int .i64 (0), .slice none 0 0, .int .i64 (0), .int .i64 (0), .int .i64 (0), .slice none 0 0, .slice none 0 0, .int .i64 (0), .int .i64 (0), .int .i64 (0), .int .i64 (0)]]) H35
   refine bC rfl Try.call129 (vs := #[.pointer (some ⟨gc, 0, none⟩)]) rfl rfl rfl (list_s _ _ _ _ _ _ (CV.step hV H35.1 hF40) hn hs39) ?_
   rintro e44 W43 ⟨B36, Lq, c37, rfl, hLq, Hn42⟩; refine ⟨_, rfl, ?_⟩
   have H45 : St w F0 [hR aP 70 (.slice B36 Lq.length c37) Lq, bF gc 157 A bs.length cb, hB g_1_1 77 #[.int .i64 (0), .int .i64 (0), .slice none 0 0, .int .i64 (0), .int .i64 (0), .int .i64 (0), .slice none 0 0, .slice none 0 0, .int .i64 (0), .int .i64 (0), .int .i64 (0), .int .i64 (0)], hB g_0_0 77 #[.int .i64 (0), .int .i64 (0), .slice none 0 0, .int .i64 (0), .int .i64 (0), .int .i64 (0), .slice none 0 0, .slice none 0 0, .int .i64 (0), .int .i64 (0), .int .i64 (0), .int .i64 (0)]] W43 := hfr41 (_ :: [_]) _ Hn42; clear H35
   refine aA ?_
   refine bC rfl Try.call121 (vs := #[.int .i64 (q26), .slice B36 Lq.length c37]) rfl rfl rfl (newObject_s q26 Lq _ _ _ (H45.fU 0 rfl) (Nat.le_trans hLq kD)) ?_
   rintro e51 W50 ⟨cs46, rfl, hM47, hu48⟩; refine ⟨_, rfl, ?_⟩
   obtain ⟨B_14_4_2, c_14_4_2, B_14_4_6, c_14_4_6, B_14_4_7, c_14_4_7, rfl, hst49⟩ := gK hM47
   have H52 := H45.news hu48 hst49; clear H45
   refine aA ?_
   have H56 : St w F0 [hB g_1_1 77 #[.int .i64 (0), .int .i64 (0), .slice none 0 0, .int .i64 (0), .int .i64 (0), .int .i64 (0), .slice none 0 0, .slice none 0 0, .int .i64 (0), .int .i64 (0), .int .i64 (0), .int .i64 (0)], hR aP 70 (.slice B_14_4_2 ((objE q26 Lq).aM.length) c_14_4_2) ((objE q26 Lq).aM), hR aH 181 (.slice B_14_4_6 ((objE q26 Lq).Queue.length) c_14_4_6) ((objE q26 Lq).Queue), hR aQ 155 (.slice B_14_4_7 ((objE q26 Lq).aG.length) c_14_4_7) ((objE q26 Lq).aG), hR aP 70 (.slice B36 Lq.length c37) Lq, bF gc 157 A bs.length cb, hB g_0_0 77 #[.int .i64 (0), .int .i64 (0), .slice none 0 0, .int .i64 (0), .int .i64 (0), .int .i64 (0), .slice none 0 0, .slice none 0 0, .int .i64 (0), .int .i64 (0), .int .i64 (0), .int .i64 (0)]] W50 := H52.pick [5, 0, 1, 2, 3, 4, 6] kD rfl; clear H52
   refine bG rfl Try.sizeOf77 rfl rfl rfl rfl kS H56 ?_
   intro W53 hu54 Ha55; clear H56; clear hu54
   refine aI ?_
   refine eP ?_
   exact (aZ [(0, .pointer (some ⟨gc, 0, none⟩)), (2, .pointer (some ⟨g_0_0, 0, none⟩)), (3, .pointer (some ⟨g_1_1, 0, none⟩))] rfl).elim fun x' hx => ⟨(objE q26 Lq), B_14_4_2, c_14_4_2, B_14_4_6, c_14_4_6, B_14_4_7, c_14_4_7, x', hx, Ha55.pick [1, 2, 3, 0, 5, 6] kD rfl, (by first | exact hE1 | exact hLq | exact Nat.le_of_ble_eq_true rfl), (by first | exact hE2 | exact eT _ hsent | exact Nat.le_of_ble_eq_true rfl), (by first | exact hE3 | exact hE3 | exact Nat.le_of_ble_eq_true rfl)⟩
  ·refine wp_seq ?_
   refine aN [0, 1] rfl ?_
   refine aA ?_
   refine aB rfl (bS rfl rfl) rfl rfl ?_
   refine aA ?_
   refine aB rfl (aR rfl) rfl rfl ?_
   refine aI ?_
   refine aK ?_
   refine dB rfl (fun hc58 => ?_) (fun hc58 => ?_)
   ·refine aN [0, 1, 2, 3, 4, 5, 6, 7] rfl ?_
    refine aA ?_
    refine aB rfl (aF rfl) rfl rfl ?_
    refine aA ?_
    obtain ⟨F61, hs62, hF63, hfr64⟩ := St.frame (l0 := [bF gc 157 A bs.length cb]) (l := [hB g_1_1 77 #[.int .i64 (0), .int .i64 (0), .slice none 0 0, .int .i64 (0), .int .i64 (0), .int .i64 (0), .slice none 0 0, .slice none 0 0, .int .i64 (0), .int .i64 (0), .int .i64 (0), .int .i64 (0)], hB g_0_0 77 #[.int .i64 (0), .int .i64 (0), .slice none 0 0, .int .i64 (0), .int .i64 (0), .int .i64 (0), .slice none 0 0, .slice none 0 0, .int .i64 (0), .int .i64 (0), .int .i64 (0), .int .i64 (0)]]) H24
    refine bC rfl Try.call44 (vs := #[.pointer (some ⟨gc, 0, none⟩), .int .i64 (3)]) rfl rfl rfl (dN 3 _ _ _ _ _ _ (CV.step hV H24.1 hF63) hn hs62) ?_
    rintro e67 W66 ⟨q59, rfl, hq60, Hn65⟩; refine ⟨_, rfl, ?_⟩
    have H68 := hfr64 _ _ Hn65; clear H24
    refine aA ?_
    refine aB rfl (gV rfl rfl kO) rfl rfl ?_
    refine aA ?_
    refine aB rfl (aF rfl) rfl rfl ?_
    refine aA ?_
    obtain ⟨F71, hs72, hF73, hfr74⟩ := St.frame (l0 := [bF gc 157 A bs.length cb]) (l := [hB g_1_1 77 #[.int .i64 (0), .int .i64 (0), .slice none 0 0, .int .i64 (0), .int .i64 (0), .int .i64 (0), .slice none 0 0, .slice none 0 0, .int .i64 (0), .int .i64 (0), .int .i64 (0), .int .i64 (0)], hB g_0_0 77 #[.int .i64 (0), .int .i64 (0), .slice none 0 0, .int .i64 (0), .int .i64 (0), .int .i64 (0), .slice none 0 0, .slice none 0 0, .int .i64 (0), .int .i64 (0), .int .i64 (0), .int .i64 (0)]]) H68
    refine bC rfl Try.call44 (vs := #[.pointer (some ⟨gc, 0, none⟩), .int .i64 (5)]) rfl rfl rfl (dN 5 _ _ _ _ _ _ (CV.step hV H68.1 hF73) hn hs72) ?_
    rintro e77 W76 ⟨q69, rfl, hq70, Hn75⟩; refine ⟨_, rfl, ?_⟩
    have H78 := hfr74 _ _ Hn75; clear H68
    refine aA ?_
    refine aB rfl (gV rfl rfl kO) rfl rfl ?_
    refine aA ?_
    refine bC rfl Try.call124 (vs := #[.int .i64 ((1 + q59)), .int .i64 ((1 + q69))]) rfl rfl rfl (newProxy_s (1 + q59) (1 + q69) _) ?_
    rintro e84 W83 ⟨cs79, rfl, hM80, hu81⟩; refine ⟨_, rfl, ?_⟩
    obtain ⟨B_16_6_2, c_16_6_2, B_16_6_6, c_16_6_6, B_16_6_7, c_16_6_7, rfl, hst82⟩ := gK hM80
    have H85 := H78.news hu81 hst82; clear H78
    refine aA ?_
    have H89 : St w F0 [hB g_1_1 77 #[.int .i64 (0), .int .i64 (0), .slice none 0 0, .int .i64 (0), .int .i64 (0), .int .i64 (0), .slice none 0 0, .slice none 0 0, .int .i64 (0), .int .i64 (0), .int .i64 (0), .int .i64 (0)], hR aP 70 (.slice B_16_6_2 ((prE (1 + q59) (1 + q69)).aM.length) c_16_6_2) ((prE (1 + q59) (1 + q69)).aM), hR aH 181 (.slice B_16_6_6 ((prE (1 + q59) (1 + q69)).Queue.length) c_16_6_6) ((prE (1 + q59) (1 + q69)).Queue), hR aQ 155 (.slice B_16_6_7 ((prE (1 + q59) (1 + q69)).aG.length) c_16_6_7) ((prE (1 + q59) (1 + q69)).aG), bF gc 157 A bs.length cb, hB g_0_0 77 #[.int .i64 (0), .int .i64 (0), .slice none 0 0, .int .i64 (0), .int .i64 (0), .int .i64 (0), .slice none 0 0, .slice none 0 0, .int .i64 (0), .int .i64 (0), .int .i64 (0), .int .i64 (0)]] W83 := H85.pick [4, 0, 1, 2, 3, 5] kD rfl; clear H85
    refine bG rfl Try.sizeOf77 rfl rfl rfl rfl kS H89 ?_
    intro W86 hu87 Ha88; clear H89; clear hu87
    refine aI ?_
    refine eP ?_
    exact (aZ [(0, .pointer (some ⟨gc, 0, none⟩)), (2, .pointer (some ⟨g_0_0, 0, none⟩)), (3, .pointer (some ⟨g_1_1, 0, none⟩))] rfl).elim fun x' hx => ⟨(prE (1 + q59) (1 + q69)), B_16_6_2, c_16_6_2, B_16_6_6, c_16_6_6, B_16_6_7, c_16_6_7, x', hx, Ha88.pick [1, 2, 3, 0, 4, 5] kD rfl, (by first | exact hE1 | exact hLq | exact Nat.le_of_ble_eq_true rfl), (by first | exact hE2 | exact eT _ hsent | exact Nat.le_of_ble_eq_true rfl), (by first | exact hE3 | exact hE3 | exact Nat.le_of_ble_eq_true rfl)⟩
   ·refine wp_seq ?_
    refine aN [0, 1] rfl ?_
    refine aA ?_
    refine bC rfl Try.call78 (vs := #[]) rfl rfl rfl (jC _) ?_
    rintro e96 W95 ⟨cs91, rfl, hM92, hu93⟩; refine ⟨_, rfl, ?_⟩
    obtain ⟨B_3_0_2, c_3_0_2, B_3_0_6, c_3_0_6, B_3_0_7, c_3_0_7, rfl, hst94⟩ := gK hM92
    have H97 := H24.news hu93 hst94; clear H24
    refine aA ?_
    have H101 : St w F0 [hB g_1_1 77 #[.int .i64 (0), .int .i64 (0), .slice none 0 0, .int .i64 (0), .int .i64 (0), .int .i64 (0), .slice none 0 0, .slice none 0 0, .int .i64 (0), .int .i64 (0), .int .i64 (0), .int .i64 (0)], hR aP 70 (.slice B_3_0_2 prm.aM.length c_3_0_2) prm.aM, hR aH 181 (.slice B_3_0_6 prm.Queue.length c_3_0_6) prm.Queue, hR aQ 155 (.slice B_3_0_7 prm.aG.length c_3_0_7) prm.aG, bF gc 157 A bs.length cb, hB g_0_0 77 #[.int .i64 (0), .int .i64 (0), .slice none 0 0, .int .i64 (0), .int .i64 (0), .int .i64 (0), .slice none 0 0, .slice none 0 0, .int .i64 (0), .int .i64 (0), .int .i64 (0), .int .i64 (0)]] W95 := H97.pick [4, 0, 1, 2, 3, 5] kD rfl; clear H97
    refine bG rfl Try.sizeOf77 rfl rfl rfl rfl kS H101 ?_
    intro W98 hu99 Ha100; clear H101; clear hu99
    refine aI ?_
    refine aK ?_
    refine wp_seq ?_
    refine aN [0, 1, 2, 3, 4] rfl ?_
    refine aA ?_
    refine aB rfl (aF rfl) rfl rfl ?_
    refine aA ?_
    have H105 : St w F0 [bF gc 157 A bs.length cb, hB g_1_1 77 #[.int .i64 (prm.Kind), .int .i64 (prm.Script), .slice B_3_0_2 prm.aM.length c_3_0_2, .int .i64 (prm.State), .int .i64 (prm.Value.Kind), .int .i64 (prm.Value.N), .slice B_3_0_6 prm.Queue.length c_3_0_6, .slice B_3_0_7 prm.aG.length c_3_0_7, .int .i64 (prm.bD), .int .i64 (prm.Pos), .int .i64 (prm.Count), .int .i64 (prm.bJ)], hR aP 70 (.slice B_3_0_2 prm.aM.length c_3_0_2) prm.aM, hR aH 181 (.slice B_3_0_6 prm.Queue.length c_3_0_6) prm.Queue, hR aQ 155 (.slice B_3_0_7 prm.aG.length c_3_0_7) prm.aG, hB g_0_0 77 #[.int .i64 (0), .int .i64 (0), .slice none 0 0, .int .i64 (0), .int .i64 (0), .int .i64 (0), .slice none 0 0, .slice none 0 0, .int .i64 (0), .int .i64 (0), .int .i64 (0), .int .i64 (0)]] W98 := Ha100.pick [4, 0, 1, 2, 3, 5] kD rfl; clear Ha100
    obtain ⟨F106, hs107, hF108, hfr109⟩ := St.frame (l0 := [bF gc 157 A bs.length cb]) (l := [hB g_1_1 77 #[.int .i64 (prm.Kind), .int .i64 (prm.Script), .slice B_3_0_2 prm.aM.length c_3_0_2, .int .i64 (prm.State), .int .i64 (prm.Value.Kind), .int .i64 (prm.Value.N), .slice B_3_0_6 prm.Queue.length c_3_0_6, .slice B_3_0_7 prm.aG.length c_3_0_7, .int .i64 (prm.bD), .int .i64 (prm.Pos), .int .i64 (prm.Count), .int .i64 (prm.bJ)], hR aP 70 (.slice B_3_0_2 prm.aM.length c_3_0_2) prm.aM, hR aH 181 (.slice B_3_0_6 prm.Queue.length c_3_0_6) prm.Queue, hR aQ 155 (.slice B_3_0_7 prm.aG.length c_3_0_7) prm.aG, hB g_0_0 77 #[.int .i64 (0), .int .i64 (0), .slice none 0 0, .int .i64 (0), .int .i64 (0), .int .i64 (0), .slice none 0 0, .slice none 0 0, .int .i64 (0), .int .i64 (0), .int .i64 (0), .int .i64 (0)]]) H105
    refine bC rfl Try.call44 (vs := #[.pointer (some ⟨gc, 0, none⟩), .int .i64 (4)]) rfl rfl rfl (dN 4 _ _ _ _ _ _ (CV.step hV H105.1 hF108) hn hs107) ?_
    rintro e112 W111 ⟨q103, rfl, hq104, Hn110⟩; refine ⟨_, rfl, ?_⟩
    have H113 := hfr109 _ _ Hn110; clear H105
    refine aA ?_
    refine aB rfl (gV rfl rfl kO) rfl rfl ?_
    refine aA ?_
    refine aB rfl (aU fV rfl) rfl rfl ?_
    refine aA ?_
    have H117 : St w F0 [hB g_1_1 77 #[.int .i64 (prm.Kind), .int .i64 (prm.Script), .slice B_3_0_2 prm.aM.length c_3_0_2, .int .i64 (prm.State), .int .i64 (prm.Value.Kind), .int .i64 (prm.Value.N), .slice B_3_0_6 prm.Queue.length c_3_0_6, .slice B_3_0_7 prm.aG.length c_3_0_7, .int .i64 (prm.bD), .int .i64 (prm.Pos), .int .i64 (prm.Count), .int .i64 (prm.bJ)], bF gc 157 A bs.length cb, hR aP 70 (.slice B_3_0_2 prm.aM.length c_3_0_2) prm.aM, hR aH 181 (.slice B_3_0_6 prm.Queue.length c_3_0_6) prm.Queue, hR aQ 155 (.slice B_3_0_7 prm.aG.length c_3_0_7) prm.aG, hB g_0_0 77 #[.int .i64 (0), .int .i64 (0), .slice none 0 0, .int .i64 (0), .int .i64 (0), .int .i64 (0), .slice none 0 0, .slice none 0 0, .int .i64 (0), .int .i64 (0), .int .i64 (0), .int .i64 (0)]] W111 := H113.pick [1, 0, 2, 3, 4, 5] kD rfl; clear H113
    refine bR rfl Try.sizeOf3 rfl rfl rfl (Nat.le_of_ble_eq_true rfl) (by simp [Value.cells, Value.oneCell']) H117 ?_
    intro W114 hu115 Ha116; clear H117; clear hu115
    refine aI ?_
    refine aK ?_
    refine wp_seq ?_
    refine wp_seq ?_
    refine aN [0, 1, 2, 3, 4, 5, 6, 7] rfl ?_
    refine aA ?_
    refine aB rfl (aU fV rfl) rfl rfl ?_
    refine aA ?_
    refine aB rfl (bB (k := 3) (v := .int .i64 ((1 + q103))) Try.isAgg3 rfl (Ha116.blk 0 rfl) rfl) rfl rfl ?_
    by_cases hg119 : ((1 + q103) : Int) = 2
    ·refine aA ?_
     refine aB rfl (bX hg119 (bS rfl rfl)) rfl rfl ?_
     refine aA ?_
     refine aB rfl (aF rfl) rfl rfl ?_
     refine aA ?_
     refine aD rfl rfl rfl rfl rfl rfl rfl ?_
     refine aA ?_
     refine aD rfl rfl rfl rfl rfl rfl rfl ?_
     refine aA ?_
     refine aD rfl rfl rfl rfl rfl rfl rfl ?_
     refine aA ?_
     refine aB rfl (aX (v := .bool (true)) (b := true) rfl rfl rfl rfl) rfl rfl ?_
     refine aI ?_
     refine aK ?_
     refine eU (fun a' W' => ∃ (E : GEntity) (BSlots : Option Addr) (cSlots : Nat) (BQueue : Option Addr) (cQueue : Nat) (BAskers : Option Addr) (cAskers : Nat) (x' : Nat → Value), a' = bH 101 x' [(0, .pointer (some ⟨gc, 0, none⟩)), (2, .pointer (some ⟨g_0_0, 0, none⟩)), (3, .pointer (some ⟨g_1_1, 0, none⟩))] ∧ St w F0 [hR aP 70 (.slice BSlots E.aM.length cSlots) E.aM, hR aH 181 (.slice BQueue E.Queue.length cQueue) E.Queue, hR aQ 155 (.slice BAskers E.aG.length cAskers) E.aG, hB g_1_1 77 #[.int .i64 (E.Kind), .int .i64 (E.Script), .slice BSlots E.aM.length cSlots, .int .i64 (E.State), .int .i64 (E.Value.Kind), .int .i64 (E.Value.N), .slice BQueue E.Queue.length cQueue, .slice BAskers E.aG.length cAskers, .int .i64 (E.bD), .int .i64 (E.Pos), .int .i64 (E.Count), .int .i64 (E.bJ)], bF gc 157 A bs.length cb, hB g_0_0 77 #[.int .i64 (0), .int .i64 (0), .slice none 0 0, .int .i64 (0), .int .i64 (0), .int .i64 (0), .slice none 0 0, .slice none 0 0, .int .i64 (0), .int .i64 (0), .int .i64 (0), .int .i64 (0)]] W' ∧ (E.aM.length ≤ 8) ∧ (bV bT E.Queue ≤ 30) ∧ (E.aG.length ≤ 2)) ?_ ?_
     ·refine fK rfl ?_
      refine aN [0, 1, 2, 3, 4] rfl ?_
      refine aA ?_
      refine aB rfl (aF rfl) rfl rfl ?_
      refine aA ?_
      have H122 : St w F0 [bF gc 157 A bs.length cb, hB g_1_1 77 #[.int .i64 (prm.Kind), .int .i64 (prm.Script), .slice B_3_0_2 prm.aM.length c_3_0_2, .int .i64 ((1 + q103)), .int .i64 (prm.Value.Kind), .int .i64 (prm.Value.N), .slice B_3_0_6 prm.Queue.length c_3_0_6, .slice B_3_0_7 prm.aG.length c_3_0_7, .int .i64 (prm.bD), .int .i64 (prm.Pos), .int .i64 (prm.Count), .int .i64 (prm.bJ)], hR aP 70 (.slice B_3_0_2 prm.aM.length c_3_0_2) prm.aM, hR aH 181 (.slice B_3_0_6 prm.Queue.length c_3_0_6) prm.Queue, hR aQ 155 (.slice B_3_0_7 prm.aG.length c_3_0_7) prm.aG, hB g_0_0 77 #[.int .i64 (0), .int .i64 (0), .slice none 0 0, .int .i64 (0), .int .i64 (0), .int .i64 (0), .slice none 0 0, .slice none 0 0, .int .i64 (0), .int .i64 (0), .int .i64 (0), .int .i64 (0)]] W114 := Ha116.pick [1, 0, 2, 3, 4, 5] kD rfl; clear Ha116
      obtain ⟨F123, hs124, hF125, hfr126⟩ := St.frame (l0 := [bF gc 157 A bs.length cb]) (l := [hB g_1_1 77 #[.int .i64 (prm.Kind), .int .i64 (prm.Script), .slice B_3_0_2 prm.aM.length c_3_0_2, .int .i64 ((1 + q103)), .int .i64 (prm.Value.Kind), .int .i64 (prm.Value.N), .slice B_3_0_6 prm.Queue.length c_3_0_6, .slice B_3_0_7 prm.aG.length c_3_0_7, .int .i64 (prm.bD), .int .i64 (prm.Pos), .int .i64 (prm.Count), .int .i64 (prm.bJ)], hR aP 70 (.slice B_3_0_2 prm.aM.length c_3_0_2) prm.aM, hR aH 181 (.slice B_3_0_6 prm.Queue.length c_3_0_6) prm.Queue, hR aQ 155 (.slice B_3_0_7 prm.aG.length c_3_0_7) prm.aG, hB g_0_0 77 #[.int .i64 (0), .int .i64 (0), .slice none 0 0, .int .i64 (0), .int .i64 (0), .int .i64 (0), .slice none 0 0, .slice none 0 0, .int .i64 (0), .int .i64 (0), .int .i64 (0), .int .i64 (0)]]) H122
      refine bC rfl Try.call44 (vs := #[.pointer (some ⟨gc, 0, none⟩), .int .i64 (9)]) rfl rfl rfl (dN 9 _ _ _ _ _ _ (CV.step hV H122.1 hF125) hn hs124) ?_
      rintro e129 W128 ⟨q120, rfl, hq121, Hn127⟩; refine ⟨_, rfl, ?_⟩
      have H130 := hfr126 _ _ Hn127; clear H122
      refine aA ?_
      refine bC rfl Try.call122 (vs := #[.int .i64 (q120)]) rfl rfl rfl (jS q120 _) ?_
      rintro e135 W134 ⟨k131, v132, rfl, hu133⟩; refine ⟨_, rfl, ?_⟩
      have H136 := H130.no hu133; clear H130
      refine aA ?_
      refine aB rfl (aU kI rfl) rfl rfl ?_
      refine aA ?_
      have H140 : St w F0 [hB g_1_1 77 #[.int .i64 (prm.Kind), .int .i64 (prm.Script), .slice B_3_0_2 prm.aM.length c_3_0_2, .int .i64 ((1 + q103)), .int .i64 (prm.Value.Kind), .int .i64 (prm.Value.N), .slice B_3_0_6 prm.Queue.length c_3_0_6, .slice B_3_0_7 prm.aG.length c_3_0_7, .int .i64 (prm.bD), .int .i64 (prm.Pos), .int .i64 (prm.Count), .int .i64 (prm.bJ)], bF gc 157 A bs.length cb, hR aP 70 (.slice B_3_0_2 prm.aM.length c_3_0_2) prm.aM, hR aH 181 (.slice B_3_0_6 prm.Queue.length c_3_0_6) prm.Queue, hR aQ 155 (.slice B_3_0_7 prm.aG.length c_3_0_7) prm.aG, hB g_0_0 77 #[.int .i64 (0), .int .i64 (0), .slice none 0 0, .int .i64 (0), .int .i64 (0), .int .i64 (0), .slice none 0 0, .slice none 0 0, .int .i64 (0), .int .i64 (0), .int .i64 (0), .int .i64 (0)]] W134 := H136.pick [1, 0, 2, 3, 4, 5] kD rfl; clear H136
      refine bR rfl Try.sizeOf70 rfl rfl rfl (Nat.le_of_ble_eq_true rfl) (by simp [Value.cells, Value.oneCell']) H140 ?_
      intro W137 hu138 Ha139; clear H140; clear hu138
      refine aI ?_
      exact (aZ [(0, .pointer (some ⟨gc, 0, none⟩)), (2, .pointer (some ⟨g_0_0, 0, none⟩)), (3, .pointer (some ⟨g_1_1, 0, none⟩))] rfl).elim fun x' hx => ⟨(⟨prm.Kind, prm.Script, prm.aM, (1 + q103), (⟨k131, v132⟩ : GValue), prm.Queue, prm.aG, prm.bD, prm.Pos, prm.Count, prm.bJ⟩ : GEntity), B_3_0_2, c_3_0_2, B_3_0_6, c_3_0_6, B_3_0_7, c_3_0_7, x', hx, Ha139.pick [2, 3, 4, 0, 1, 5] kD rfl, (by first | exact hE1 | exact hLq | exact Nat.le_of_ble_eq_true rfl), (by first | exact hE2 | exact eT _ hsent | exact Nat.le_of_ble_eq_true rfl), (by first | exact hE3 | exact hE3 | exact Nat.le_of_ble_eq_true rfl)⟩
     ·rintro _ W143 ⟨E, BSlots, cSlots, BQueue, cQueue, BAskers, cAskers, x144, rfl, H142, hE1, hE2, hE3⟩
      refine aK ?_
      refine wp_seq ?_
      refine wp_seq ?_
      refine aN [0, 1, 2, 3, 4, 5, 6, 7] rfl ?_
      refine aA ?_
      refine aB rfl (aU fV rfl) rfl rfl ?_
      refine aA ?_
      refine aB rfl (bB (k := 3) (v := .int .i64 (E.State)) Try.isAgg3 rfl (H142.blk 3 rfl) rfl) rfl rfl ?_
      by_cases hg145 : (E.State : Int) = 3
      ·refine aA ?_
       refine aB rfl (bX hg145 (bS rfl rfl)) rfl rfl ?_
       refine aA ?_
       refine aB rfl (aF rfl) rfl rfl ?_
       refine aA ?_
       refine aD rfl rfl rfl rfl rfl rfl rfl ?_
       refine aA ?_
       refine aD rfl rfl rfl rfl rfl rfl rfl ?_
       refine aA ?_
       refine aD rfl rfl rfl rfl rfl rfl rfl ?_
       refine aA ?_
       refine aB rfl (aX (v := .bool (true)) (b := true) rfl rfl rfl rfl) rfl rfl ?_
       refine aI ?_
       refine aK ?_
       refine eU (fun a' W' => ∃ (E : GEntity) (BSlots : Option Addr) (cSlots : Nat) (BQueue : Option Addr) (cQueue : Nat) (BAskers : Option Addr) (cAskers : Nat) (x' : Nat → Value), a' = bH 101 x' [(0, .pointer (some ⟨gc, 0, none⟩)), (2, .pointer (some ⟨g_0_0, 0, none⟩)), (3, .pointer (some ⟨g_1_1, 0, none⟩))] ∧ St w F0 [hR aP 70 (.slice BSlots E.aM.length cSlots) E.aM, hR aH 181 (.slice BQueue E.Queue.length cQueue) E.Queue, hR aQ 155 (.slice BAskers E.aG.length cAskers) E.aG, hB g_1_1 77 #[.int .i64 (E.Kind), .int .i64 (E.Script), .slice BSlots E.aM.length cSlots, .int .i64 (E.State), .int .i64 (E.Value.Kind), .int .i64 (E.Value.N), .slice BQueue E.Queue.length cQueue, .slice BAskers E.aG.length cAskers, .int .i64 (E.bD), .int .i64 (E.Pos), .int .i64 (E.Count), .int .i64 (E.bJ)], bF gc 157 A bs.length cb, hB g_0_0 77 #[.int .i64 (0), .int .i64 (0), .slice none 0 0, .int .i64 (0), .int .i64 (0), .int .i64 (0), .slice none 0 0, .slice none 0 0, .int .i64 (0), .int .i64 (0), .int .i64 (0), .int .i64 (0)]] W' ∧ (E.aM.length ≤ 8) ∧ (bV bT E.Queue ≤ 30) ∧ (E.aG.length ≤ 2)) ?_ ?_
       ·refine fK rfl ?_
        refine wp_seq ?_
        refine aN [0, 1, 2, 3, 4] rfl ?_
        refine aA ?_
        refine aB rfl (aF rfl) rfl rfl ?_
        refine aA ?_
        have H148 : St w F0 [bF gc 157 A bs.length cb, hR aP 70 (.slice BSlots E.aM.length cSlots) E.aM, hR aH 181 (.slice BQueue E.Queue.length cQueue) E.Queue, hR aQ 155 (.slice BAskers E.aG.length cAskers) E.aG, hB g_1_1 77 #[.int .i64 (E.Kind), .int .i64 (E.Script), .slice BSlots E.aM.length cSlots, .int .i64 (E.State), .int .i64 (E.Value.Kind), .int .i64 (E.Value.N), .slice BQueue E.Queue.length cQueue, .slice BAskers E.aG.length cAskers, .int .i64 (E.bD), .int .i64 (E.Pos), .int .i64 (E.Count), .int .i64 (E.bJ)], hB g_0_0 77 #[.int .i64 (0), .int .i64 (0), .slice none 0 0, .int .i64 (0), .int .i64 (0), .int .i64 (0), .slice none 0 0, .slice none 0 0, .int .i64 (0), .int .i64 (0), .int .i64 (0), .int .i64 (0)]] W143 := H142.pick [4, 0, 1, 2, 3, 5] kD rfl; clear H142
        obtain ⟨F149, hs150, hF151, hfr152⟩ := St.frame (l0 := [bF gc 157 A bs.length cb]) (l := [hR aP 70 (.slice BSlots E.aM.length cSlots) E.aM, hR aH 181 (.slice BQueue E.Queue.length cQueue) E.Queue, hR aQ 155 (.slice BAskers E.aG.length cAskers) E.aG, hB g_1_1 77 #[.int .i64 (E.Kind), .int .i64 (E.Script), .slice BSlots E.aM.length cSlots, .int .i64 (E.State), .int .i64 (E.Value.Kind), .int .i64 (E.Value.N), .slice BQueue E.Queue.length cQueue, .slice BAskers E.aG.length cAskers, .int .i64 (E.bD), .int .i64 (E.Pos), .int .i64 (E.Count), .int .i64 (E.bJ)], hB g_0_0 77 #[.int .i64 (0), .int .i64 (0), .slice none 0 0, .int .i64 (0), .int .i64 (0), .int .i64 (0), .slice none 0 0, .slice none 0 0, .int .i64 (0), .int .i64 (0), .int .i64 (0), .int .i64 (0)]]) H148
        refine bC rfl Try.call44 (vs := #[.pointer (some ⟨gc, 0, none⟩), .int .i64 (3)]) rfl rfl rfl (dN 3 _ _ _ _ _ _ (CV.step hV H148.1 hF151) hn hs150) ?_
        rintro e155 W154 ⟨q146, rfl, hq147, Hn153⟩; refine ⟨_, rfl, ?_⟩
        have H156 := hfr152 _ _ Hn153; clear H148
        refine aA ?_
        refine aB rfl (gV rfl rfl kO) rfl rfl ?_
        refine aA ?_
        refine aB rfl (aU jZ rfl) rfl rfl ?_
        refine aA ?_
        have H160 : St w F0 [hB g_1_1 77 #[.int .i64 (E.Kind), .int .i64 (E.Script), .slice BSlots E.aM.length cSlots, .int .i64 (E.State), .int .i64 (E.Value.Kind), .int .i64 (E.Value.N), .slice BQueue E.Queue.length cQueue, .slice BAskers E.aG.length cAskers, .int .i64 (E.bD), .int .i64 (E.Pos), .int .i64 (E.Count), .int .i64 (E.bJ)], bF gc 157 A bs.length cb, hR aP 70 (.slice BSlots E.aM.length cSlots) E.aM, hR aH 181 (.slice BQueue E.Queue.length cQueue) E.Queue, hR aQ 155 (.slice BAskers E.aG.length cAskers) E.aG, hB g_0_0 77 #[.int .i64 (0), .int .i64 (0), .slice none 0 0, .int .i64 (0), .int .i64 (0), .int .i64 (0), .slice none 0 0, .slice none 0 0, .int .i64 (0), .int .i64 (0), .int .i64 (0), .int .i64 (0)]] W154 := H156.pick [4, 0, 1, 2, 3, 5] kD rfl; clear H156
        refine bR rfl Try.sizeOf3 rfl rfl rfl (Nat.le_of_ble_eq_true rfl) (by simp [Value.cells, Value.oneCell']) H160 ?_
        intro W157 hu158 Ha159; clear H160; clear hu158
        refine aI ?_
        refine aK ?_
        refine aN [0, 1, 2, 3, 4] rfl ?_
        refine aA ?_
        refine aB rfl (aF rfl) rfl rfl ?_
        refine aA ?_
        have H164 : St w F0 [bF gc 157 A bs.length cb, hB g_1_1 77 #[.int .i64 (E.Kind), .int .i64 (E.Script), .slice BSlots E.aM.length cSlots, .int .i64 (E.State), .int .i64 (E.Value.Kind), .int .i64 (E.Value.N), .slice BQueue E.Queue.length cQueue, .slice BAskers E.aG.length cAskers, .int .i64 ((1 + q146)), .int .i64 (E.Pos), .int .i64 (E.Count), .int .i64 (E.bJ)], hR aP 70 (.slice BSlots E.aM.length cSlots) E.aM, hR aH 181 (.slice BQueue E.Queue.length cQueue) E.Queue, hR aQ 155 (.slice BAskers E.aG.length cAskers) E.aG, hB g_0_0 77 #[.int .i64 (0), .int .i64 (0), .slice none 0 0, .int .i64 (0), .int .i64 (0), .int .i64 (0), .slice none 0 0, .slice none 0 0, .int .i64 (0), .int .i64 (0), .int .i64 (0), .int .i64 (0)]] W157 := Ha159.pick [1, 0, 2, 3, 4, 5] kD rfl; clear Ha159
        obtain ⟨F165, hs166, hF167, hfr168⟩ := St.frame (l0 := [bF gc 157 A bs.length cb]) (l := [hB g_1_1 77 #[.int .i64 (E.Kind), .int .i64 (E.Script), .slice BSlots E.aM.length cSlots, .int .i64 (E.State), .int .i64 (E.Value.Kind), .int .i64 (E.Value.N), .slice BQueue E.Queue.length cQueue, .slice BAskers E.aG.length cAskers, .int .i64 ((1 + q146)), .int .i64 (E.Pos), .int .i64 (E.Count), .int .i64 (E.bJ)], hR aP 70 (.slice BSlots E.aM.length cSlots) E.aM, hR aH 181 (.slice BQueue E.Queue.length cQueue) E.Queue, hR aQ 155 (.slice BAskers E.aG.length cAskers) E.aG, hB g_0_0 77 #[.int .i64 (0), .int .i64 (0), .slice none 0 0, .int .i64 (0), .int .i64 (0), .int .i64 (0), .slice none 0 0, .slice none 0 0, .int .i64 (0), .int .i64 (0), .int .i64 (0), .int .i64 (0)]]) H164
        refine bC rfl Try.call44 (vs := #[.pointer (some ⟨gc, 0, none⟩), .int .i64 (5)]) rfl rfl rfl (dN 5 _ _ _ _ _ _ (CV.step hV H164.1 hF167) hn hs166) ?_
        rintro e171 W170 ⟨q162, rfl, hq163, Hn169⟩; refine ⟨_, rfl, ?_⟩
        have H172 := hfr168 _ _ Hn169; clear H164
        refine aA ?_
        refine aB rfl (gV rfl rfl kO) rfl rfl ?_
        refine aA ?_
        refine aB rfl (aU kT rfl) rfl rfl ?_
        refine aA ?_
        have H176 : St w F0 [hB g_1_1 77 #[.int .i64 (E.Kind), .int .i64 (E.Script), .slice BSlots E.aM.length cSlots, .int .i64 (E.State), .int .i64 (E.Value.Kind), .int .i64 (E.Value.N), .slice BQueue E.Queue.length cQueue, .slice BAskers E.aG.length cAskers, .int .i64 ((1 + q146)), .int .i64 (E.Pos), .int .i64 (E.Count), .int .i64 (E.bJ)], bF gc 157 A bs.length cb, hR aP 70 (.slice BSlots E.aM.length cSlots) E.aM, hR aH 181 (.slice BQueue E.Queue.length cQueue) E.Queue, hR aQ 155 (.slice BAskers E.aG.length cAskers) E.aG, hB g_0_0 77 #[.int .i64 (0), .int .i64 (0), .slice none 0 0, .int .i64 (0), .int .i64 (0), .int .i64 (0), .slice none 0 0, .slice none 0 0, .int .i64 (0), .int .i64 (0), .int .i64 (0), .int .i64 (0)]] W170 := H172.pick [1, 0, 2, 3, 4, 5] kD rfl; clear H172
        refine bR rfl Try.sizeOf3 rfl rfl rfl (Nat.le_of_ble_eq_true rfl) (by simp [Value.cells, Value.oneCell']) H176 ?_
        intro W173 hu174 Ha175; clear H176; clear hu174
        refine aI ?_
        exact (aZ [(0, .pointer (some ⟨gc, 0, none⟩)), (2, .pointer (some ⟨g_0_0, 0, none⟩)), (3, .pointer (some ⟨g_1_1, 0, none⟩))] rfl).elim fun x' hx => ⟨(⟨E.Kind, E.Script, E.aM, E.State, E.Value, E.Queue, E.aG, (1 + q146), (1 + q162), E.Count, E.bJ⟩ : GEntity), BSlots, cSlots, BQueue, cQueue, BAskers, cAskers, x', hx, Ha175.pick [2, 3, 4, 0, 1, 5] kD rfl, (by first | exact hE1 | exact hLq | exact Nat.le_of_ble_eq_true rfl), (by first | exact hE2 | exact eT _ hsent | exact Nat.le_of_ble_eq_true rfl), (by first | exact hE3 | exact hE3 | exact Nat.le_of_ble_eq_true rfl)⟩
       ·rintro _ W179 ⟨E, BSlots, cSlots, BQueue, cQueue, BAskers, cAskers, x180, rfl, H178, hE1, hE2, hE3⟩
        refine aK ?_
        refine wp_seq ?_
        refine aN [0, 1, 2, 3, 4, 5, 6] rfl ?_
        refine aA ?_
        refine aB rfl (aU fV rfl) rfl rfl ?_
        refine aA ?_
        refine aB rfl (bB (k := 3) (v := .int .i64 (E.State)) Try.isAgg3 rfl (H178.blk 3 rfl) rfl) rfl rfl ?_
        by_cases hg181 : (E.State : Int) = 1
        ·refine aA ?_
         refine aB rfl (bX hg181 (bS rfl rfl)) rfl rfl ?_
         refine aA ?_
         refine aB rfl (aF rfl) rfl rfl ?_
         refine aA ?_
         refine bL rfl rfl rfl rfl (fun _ ho182 => ?_)
         refine aB ho182 (aF rfl) rfl rfl ?_
         refine aA ?_
         refine bL rfl rfl rfl rfl (fun _ ho183 => ?_)
         have H185 : St w F0 [bF gc 157 A bs.length cb, hR aP 70 (.slice BSlots E.aM.length cSlots) E.aM, hR aH 181 (.slice BQueue E.Queue.length cQueue) E.Queue, hR aQ 155 (.slice BAskers E.aG.length cAskers) E.aG, hB g_1_1 77 #[.int .i64 (E.Kind), .int .i64 (E.Script), .slice BSlots E.aM.length cSlots, .int .i64 (E.State), .int .i64 (E.Value.Kind), .int .i64 (E.Value.N), .slice BQueue E.Queue.length cQueue, .slice BAskers E.aG.length cAskers, .int .i64 (E.bD), .int .i64 (E.Pos), .int .i64 (E.Count), .int .i64 (E.bJ)], hB g_0_0 77 #[.int .i64 (0), .int .i64 (0), .slice none 0 0, .int .i64 (0), .int .i64 (0), .int .i64 (0), .slice none 0 0, .slice none 0 0, .int .i64 (0), .int .i64 (0), .int .i64 (0), .int .i64 (0)]] W179 := H178.pick [4, 0, 1, 2, 3, 5] kD rfl; clear H178
         obtain ⟨F186, hs187, hF188, hfr189⟩ := St.frame (l0 := [bF gc 157 A bs.length cb]) (l := [hR aP 70 (.slice BSlots E.aM.length cSlots) E.aM, hR aH 181 (.slice BQueue E.Queue.length cQueue) E.Queue, hR aQ 155 (.slice BAskers E.aG.length cAskers) E.aG, hB g_1_1 77 #[.int .i64 (E.Kind), .int .i64 (E.Script), .slice BSlots E.aM.length cSlots, .int .i64 (E.State), .int .i64 (E.Value.Kind), .int .i64 (E.Value.N), .slice BQueue E.Queue.length cQueue, .slice BAskers E.aG.length cAskers, .int .i64 (E.bD), .int .i64 (E.Pos), .int .i64 (E.Count), .int .i64 (E.bJ)], hB g_0_0 77 #[.int .i64 (0), .int .i64 (0), .slice none 0 0, .int .i64 (0), .int .i64 (0), .int .i64 (0), .slice none 0 0, .slice none 0 0, .int .i64 (0), .int .i64 (0), .int .i64 (0), .int .i64 (0)]]) H185
         refine bC ho183 Try.call43 (vs := #[.pointer (some ⟨gc, 0, none⟩), .int .i64 (2)]) rfl rfl rfl (jR 2 _ _ _ _ _ _ (CV.step hV H185.1 hF188) hn hs187) ?_
         rintro e192 W191 ⟨b184, rfl, Hn190⟩; refine ⟨_, rfl, ?_⟩
         have H193 := hfr189 _ _ Hn190; clear H185
         refine aA ?_
         refine aB rfl (aX (v := .bool (b184)) (b := true) rfl rfl rfl rfl) rfl rfl ?_
         refine aI ?_
         refine aK ?_
         refine eU (fun a' W' => ∃ (E : GEntity) (BSlots : Option Addr) (cSlots : Nat) (BQueue : Option Addr) (cQueue : Nat) (BAskers : Option Addr) (cAskers : Nat) (x' : Nat → Value), a' = bH 101 x' [(0, .pointer (some ⟨gc, 0, none⟩)), (2, .pointer (some ⟨g_0_0, 0, none⟩)), (3, .pointer (some ⟨g_1_1, 0, none⟩))] ∧ St w F0 [hR aP 70 (.slice BSlots E.aM.length cSlots) E.aM, hR aH 181 (.slice BQueue E.Queue.length cQueue) E.Queue, hR aQ 155 (.slice BAskers E.aG.length cAskers) E.aG, hB g_1_1 77 #[.int .i64 (E.Kind), .int .i64 (E.Script), .slice BSlots E.aM.length cSlots, .int .i64 (E.State), .int .i64 (E.Value.Kind), .int .i64 (E.Value.N), .slice BQueue E.Queue.length cQueue, .slice BAskers E.aG.length cAskers, .int .i64 (E.bD), .int .i64 (E.Pos), .int .i64 (E.Count), .int .i64 (E.bJ)], bF gc 157 A bs.length cb, hB g_0_0 77 #[.int .i64 (0), .int .i64 (0), .slice none 0 0, .int .i64 (0), .int .i64 (0), .int .i64 (0), .slice none 0 0, .slice none 0 0, .int .i64 (0), .int .i64 (0), .int .i64 (0), .int .i64 (0)]] W' ∧ (E.aM.length ≤ 8) ∧ (bV bT E.Queue ≤ 30) ∧ (E.aG.length ≤ 2)) ?_ ?_
         ·refine jO (b := b184) rfl (fun hc194 => ?_) (fun hc194 => ?_)
          ·refine wp_seq ?_
           refine aN [0, 1, 2, 3, 4] rfl ?_
           refine aA ?_
           refine aB rfl (aF rfl) rfl rfl ?_
           refine aA ?_
           obtain ⟨F197, hs198, hF199, hfr200⟩ := St.frame (l0 := [bF gc 157 A bs.length cb]) (l := [hR aP 70 (.slice BSlots E.aM.length cSlots) E.aM, hR aH 181 (.slice BQueue E.Queue.length cQueue) E.Queue, hR aQ 155 (.slice BAskers E.aG.length cAskers) E.aG, hB g_1_1 77 #[.int .i64 (E.Kind), .int .i64 (E.Script), .slice BSlots E.aM.length cSlots, .int .i64 (E.State), .int .i64 (E.Value.Kind), .int .i64 (E.Value.N), .slice BQueue E.Queue.length cQueue, .slice BAskers E.aG.length cAskers, .int .i64 (E.bD), .int .i64 (E.Pos), .int .i64 (E.Count), .int .i64 (E.bJ)], hB g_0_0 77 #[.int .i64 (0), .int .i64 (0), .slice none 0 0, .int .i64 (0), .int .i64 (0), .int .i64 (0), .slice none 0 0, .slice none 0 0, .int .i64 (0), .int .i64 (0), .int .i64 (0), .int .i64 (0)]]) H193
           refine bC rfl Try.call130 (vs := #[.pointer (some ⟨gc, 0, none⟩)]) rfl rfl rfl (sent_s _ _ _ _ _ _ (CV.step hV H193.1 hF199) hn hs198) ?_
           rintro e203 W202 ⟨m195, cs196, rfl, hsent, Hn201⟩; refine ⟨_, rfl, ?_⟩
           have H204 : St w F0 [hM aH m195 cs196, bF gc 157 A bs.length cb, hR aP 70 (.slice BSlots E.aM.length cSlots) E.aM, hR aH 181 (.slice BQueue E.Queue.length cQueue) E.Queue, hR aQ 155 (.slice BAskers E.aG.length cAskers) E.aG, hB g_1_1 77 #[.int .i64 (E.Kind), .int .i64 (E.Script), .slice BSlots E.aM.length cSlots, .int .i64 (E.State), .int .i64 (E.Value.Kind), .int .i64 (E.Value.N), .slice BQueue E.Queue.length cQueue, .slice BAskers E.aG.length cAskers, .int .i64 (E.bD), .int .i64 (E.Pos), .int .i64 (E.Count), .int .i64 (E.bJ)], hB g_0_0 77 #[.int .i64 (0), .int .i64 (0), .slice none 0 0, .int .i64 (0), .int .i64 (0), .int .i64 (0), .slice none 0 0, .slice none 0 0, .int .i64 (0), .int .i64 (0), .int .i64 (0), .int .i64 (0)]] W202 := hfr200 (_ :: [_]) _ Hn201; clear H193
           refine aA ?_
           refine dD rfl Try.runUnderlying65 Try.sizeOf181 kD Try.zeroValue181 rfl (eY (H204.kn 0 rfl)) rfl rfl H204 ?_
           intro g_11_2 W205 hu206 Ha207; clear H204; clear hu206
           refine aA ?_
           refine aB rfl (aU jX rfl) rfl rfl ?_
           have H209 : St w F0 [hR aH 181 (.slice (some ⟨g_11_2, 0, none⟩) 1 1) ([m195]), bF gc 157 A bs.length cb, hR aP 70 (.slice BSlots E.aM.length cSlots) E.aM, hR aH 181 (.slice BQueue E.Queue.length cQueue) E.Queue, hR aQ 155 (.slice BAskers E.aG.length cAskers) E.aG, hB g_1_1 77 #[.int .i64 (E.Kind), .int .i64 (E.Script), .slice BSlots E.aM.length cSlots, .int .i64 (E.State), .int .i64 (E.Value.Kind), .int .i64 (E.Value.N), .slice BQueue E.Queue.length cQueue, .slice BAskers E.aG.length cAskers, .int .i64 (E.bD), .int .i64 (E.Pos), .int .i64 (E.Count), .int .i64 (E.bJ)], hB g_0_0 77 #[.int .i64 (0), .int .i64 (0), .slice none 0 0, .int .i64 (0), .int .i64 (0), .int .i64 (0), .slice none 0 0, .slice none 0 0, .int .i64 (0), .int .i64 (0), .int .i64 (0), .int .i64 (0)]] W205 := Ha207.iG (eY (Ha207.kn 1 rfl)); clear Ha207
           refine aA ?_
           have H213 : St w F0 [hB g_1_1 77 #[.int .i64 (E.Kind), .int .i64 (E.Script), .slice BSlots E.aM.length cSlots, .int .i64 (E.State), .int .i64 (E.Value.Kind), .int .i64 (E.Value.N), .slice BQueue E.Queue.length cQueue, .slice BAskers E.aG.length cAskers, .int .i64 (E.bD), .int .i64 (E.Pos), .int .i64 (E.Count), .int .i64 (E.bJ)], hR aH 181 (.slice (some ⟨g_11_2, 0, none⟩) 1 1) ([m195]), bF gc 157 A bs.length cb, hR aP 70 (.slice BSlots E.aM.length cSlots) E.aM, hR aH 181 (.slice BQueue E.Queue.length cQueue) E.Queue, hR aQ 155 (.slice BAskers E.aG.length cAskers) E.aG, hB g_0_0 77 #[.int .i64 (0), .int .i64 (0), .slice none 0 0, .int .i64 (0), .int .i64 (0), .int .i64 (0), .slice none 0 0, .slice none 0 0, .int .i64 (0), .int .i64 (0), .int .i64 (0), .int .i64 (0)]] W205 := H209.pick [5, 0, 1, 2, 3, 4, 6] kD rfl; clear H209
           refine bR rfl Try.sizeOf65 rfl rfl rfl (Nat.le_of_ble_eq_true rfl) (by simp [Value.cells, Value.oneCell']) H213 ?_
           intro W210 hu211 Ha212; clear H213; clear hu211
           refine aI ?_
           refine aK ?_
           refine aN [0, 1, 2, 3] rfl ?_
           refine aA ?_
           refine aB rfl (dS (vs := [(0, .int .i64 (1)), (1, .int .i64 (2))]) (cells := #[.int .i64 (1), .int .i64 (2)]) rfl kR) rfl rfl ?_
           refine aA ?_
           refine dD rfl Try.runUnderlying75 Try.sizeOf155 kD Try.zeroValue155 rfl rfl rfl rfl Ha212 ?_
           intro g_12_1 W215 hu216 Ha217; clear Ha212; clear hu216
           refine aA ?_
           refine aB rfl (aU jY rfl) rfl rfl ?_
           have H219 : St w F0 [hM aQ (⟨1, 2⟩ : GAsker) [.int .i64 (1), .int .i64 (2)], hB g_12_1 155 #[.int .i64 (1), .int .i64 (2)], hB g_1_1 77 #[.int .i64 (E.Kind), .int .i64 (E.Script), .slice BSlots E.aM.length cSlots, .int .i64 (E.State), .int .i64 (E.Value.Kind), .int .i64 (E.Value.N), .slice (some ⟨g_11_2, 0, none⟩) 1 1, .slice BAskers E.aG.length cAskers, .int .i64 (E.bD), .int .i64 (E.Pos), .int .i64 (E.Count), .int .i64 (E.bJ)], hR aH 181 (.slice (some ⟨g_11_2, 0, none⟩) 1 1) ([m195]), bF gc 157 A bs.length cb, hR aP 70 (.slice BSlots E.aM.length cSlots) E.aM, hR aH 181 (.slice BQueue E.Queue.length cQueue) E.Queue, hR aQ 155 (.slice BAskers E.aG.length cAskers) E.aG, hB g_0_0 77 #[.int .i64 (0), .int .i64 (0), .slice none 0 0, .int .i64 (0), .int .i64 (0), .int .i64 (0), .slice none 0 0, .slice none 0 0, .int .i64 (0), .int .i64 (0), .int .i64 (0), .int .i64 (0)]] W215 := Ha217.add0 (q := hM aQ (⟨1, 2⟩ : GAsker) [.int .i64 (1), .int .i64 (2)]) (iC _ No (⟨1, 2⟩ : GAsker)); clear Ha217
           have H220 : St w F0 [hB g_12_1 155 #[.int .i64 (1), .int .i64 (2)], hM aQ (⟨1, 2⟩ : GAsker) [.int .i64 (1), .int .i64 (2)], hB g_1_1 77 #[.int .i64 (E.Kind), .int .i64 (E.Script), .slice BSlots E.aM.length cSlots, .int .i64 (E.State), .int .i64 (E.Value.Kind), .int .i64 (E.Value.N), .slice (some ⟨g_11_2, 0, none⟩) 1 1, .slice BAskers E.aG.length cAskers, .int .i64 (E.bD), .int .i64 (E.Pos), .int .i64 (E.Count), .int .i64 (E.bJ)], hR aH 181 (.slice (some ⟨g_11_2, 0, none⟩) 1 1) ([m195]), bF gc 157 A bs.length cb, hR aP 70 (.slice BSlots E.aM.length cSlots) E.aM, hR aH 181 (.slice BQueue E.Queue.length cQueue) E.Queue, hR aQ 155 (.slice BAskers E.aG.length cAskers) E.aG, hB g_0_0 77 #[.int .i64 (0), .int .i64 (0), .slice none 0 0, .int .i64 (0), .int .i64 (0), .int .i64 (0), .slice none 0 0, .slice none 0 0, .int .i64 (0), .int .i64 (0), .int .i64 (0), .int .i64 (0)]] W215 := H219.pick [1, 0, 2, 3, 4, 5, 6, 7, 8] kD rfl; clear H219
           have H221 : St w F0 [hR aQ 155 (.slice (some ⟨g_12_1, 0, none⟩) 1 1) ([(⟨1, 2⟩ : GAsker)]), hB g_1_1 77 #[.int .i64 (E.Kind), .int .i64 (E.Script), .slice BSlots E.aM.length cSlots, .int .i64 (E.State), .int .i64 (E.Value.Kind), .int .i64 (E.Value.N), .slice (some ⟨g_11_2, 0, none⟩) 1 1, .slice BAskers E.aG.length cAskers, .int .i64 (E.bD), .int .i64 (E.Pos), .int .i64 (E.Count), .int .i64 (E.bJ)], hR aH 181 (.slice (some ⟨g_11_2, 0, none⟩) 1 1) ([m195]), bF gc 157 A bs.length cb, hR aP 70 (.slice BSlots E.aM.length cSlots) E.aM, hR aH 181 (.slice BQueue E.Queue.length cQueue) E.Queue, hR aQ 155 (.slice BAskers E.aG.length cAskers) E.aG, hB g_0_0 77 #[.int .i64 (0), .int .i64 (0), .slice none 0 0, .int .i64 (0), .int .i64 (0), .int .i64 (0), .slice none 0 0, .slice none 0 0, .int .i64 (0), .int .i64 (0), .int .i64 (0), .int .i64 (0)]] W215 := H220.iG rfl; clear H220
           refine aA ?_
           have H225 : St w F0 [hB g_1_1 77 #[.int .i64 (E.Kind), .int .i64 (E.Script), .slice BSlots E.aM.length cSlots, .int .i64 (E.State), .int .i64 (E.Value.Kind), .int .i64 (E.Value.N), .slice (some ⟨g_11_2, 0, none⟩) 1 1, .slice BAskers E.aG.length cAskers, .int .i64 (E.bD), .int .i64 (E.Pos), .int .i64 (E.Count), .int .i64 (E.bJ)], hR aQ 155 (.slice (some ⟨g_12_1, 0, none⟩) 1 1) ([(⟨1, 2⟩ : GAsker)]), hR aH 181 (.slice (some ⟨g_11_2, 0, none⟩) 1 1) ([m195]), bF gc 157 A bs.length cb, hR aP 70 (.slice BSlots E.aM.length cSlots) E.aM, hR aH 181 (.slice BQueue E.Queue.length cQueue) E.Queue, hR aQ 155 (.slice BAskers E.aG.length cAskers) E.aG, hB g_0_0 77 #[.int .i64 (0), .int .i64 (0), .slice none 0 0, .int .i64 (0), .int .i64 (0), .int .i64 (0), .slice none 0 0, .slice none 0 0, .int .i64 (0), .int .i64 (0), .int .i64 (0), .int .i64 (0)]] W215 := H221.pick [1, 0, 2, 3, 4, 5, 6, 7] kD rfl; clear H221
           refine bR rfl Try.sizeOf75 rfl rfl rfl (Nat.le_of_ble_eq_true rfl) (by simp [Value.cells, Value.oneCell']) H225 ?_
           intro W222 hu223 Ha224; clear H225; clear hu223
           refine aI ?_
           exact (aZ [(0, .pointer (some ⟨gc, 0, none⟩)), (2, .pointer (some ⟨g_0_0, 0, none⟩)), (3, .pointer (some ⟨g_1_1, 0, none⟩))] rfl).elim fun x' hx => ⟨(⟨E.Kind, E.Script, E.aM, E.State, E.Value, [m195], [(⟨1, 2⟩ : GAsker)], E.bD, E.Pos, E.Count, E.bJ⟩ : GEntity), BSlots, cSlots, (some ⟨g_11_2, 0, none⟩), 1, (some ⟨g_12_1, 0, none⟩), 1, x', hx, Ha224.pick [4, 2, 1, 0, 3, 7] kD rfl, (by first | exact hE1 | exact hLq | exact Nat.le_of_ble_eq_true rfl), (by first | exact hE2 | exact eT _ hsent | exact Nat.le_of_ble_eq_true rfl), (by first | exact hE3 | exact hE3 | exact Nat.le_of_ble_eq_true rfl)⟩
          ·refine wp_skip ?_
           exact (aZ [(0, .pointer (some ⟨gc, 0, none⟩)), (2, .pointer (some ⟨g_0_0, 0, none⟩)), (3, .pointer (some ⟨g_1_1, 0, none⟩))] rfl).elim fun x' hx => ⟨E, BSlots, cSlots, BQueue, cQueue, BAskers, cAskers, x', hx, H193.pick [1, 2, 3, 4, 0, 5] kD rfl, (by first | exact hE1 | exact hLq | exact Nat.le_of_ble_eq_true rfl), (by first | exact hE2 | exact eT _ hsent | exact Nat.le_of_ble_eq_true rfl), (by first | exact hE3 | exact hE3 | exact Nat.le_of_ble_eq_true rfl)⟩
         ·rintro _ W228 ⟨E, BSlots, cSlots, BQueue, cQueue, BAskers, cAskers, x229, rfl, H227, hE1, hE2, hE3⟩
          refine eP ?_
          exact (aZ [(0, .pointer (some ⟨gc, 0, none⟩)), (2, .pointer (some ⟨g_0_0, 0, none⟩)), (3, .pointer (some ⟨g_1_1, 0, none⟩))] rfl).elim fun x' hx => ⟨E, BSlots, cSlots, BQueue, cQueue, BAskers, cAskers, x', hx, H227, (by first | exact hE1 | exact hLq | exact Nat.le_of_ble_eq_true rfl), (by first | exact hE2 | exact eT _ hsent | exact Nat.le_of_ble_eq_true rfl), (by first | exact hE3 | exact hE3 | exact Nat.le_of_ble_eq_true rfl)⟩
        ·refine aA ?_
         refine aB rfl (bZ hg181 (bS rfl rfl)) rfl rfl ?_
         refine aA ?_
         refine aB rfl (aF rfl) rfl rfl ?_
         refine aA ?_
         refine aD rfl rfl rfl rfl rfl rfl rfl ?_
         refine aA ?_
         refine aD rfl rfl rfl rfl rfl rfl rfl ?_
         refine aA ?_
         refine aB rfl (aX (v := .bool (false)) (b := false) rfl rfl rfl rfl) rfl rfl ?_
         refine aI ?_
         refine aK ?_
         refine eU (fun a' W' => ∃ (E : GEntity) (BSlots : Option Addr) (cSlots : Nat) (BQueue : Option Addr) (cQueue : Nat) (BAskers : Option Addr) (cAskers : Nat) (x' : Nat → Value), a' = bH 101 x' [(0, .pointer (some ⟨gc, 0, none⟩)), (2, .pointer (some ⟨g_0_0, 0, none⟩)), (3, .pointer (some ⟨g_1_1, 0, none⟩))] ∧ St w F0 [hR aP 70 (.slice BSlots E.aM.length cSlots) E.aM, hR aH 181 (.slice BQueue E.Queue.length cQueue) E.Queue, hR aQ 155 (.slice BAskers E.aG.length cAskers) E.aG, hB g_1_1 77 #[.int .i64 (E.Kind), .int .i64 (E.Script), .slice BSlots E.aM.length cSlots, .int .i64 (E.State), .int .i64 (E.Value.Kind), .int .i64 (E.Value.N), .slice BQueue E.Queue.length cQueue, .slice BAskers E.aG.length cAskers, .int .i64 (E.bD), .int .i64 (E.Pos), .int .i64 (E.Count), .int .i64 (E.bJ)], bF gc 157 A bs.length cb, hB g_0_0 77 #[.int .i64 (0), .int .i64 (0), .slice none 0 0, .int .i64 (0), .int .i64 (0), .int .i64 (0), .slice none 0 0, .slice none 0 0, .int .i64 (0), .int .i64 (0), .int .i64 (0), .int .i64 (0)]] W' ∧ (E.aM.length ≤ 8) ∧ (bV bT E.Queue ≤ 30) ∧ (E.aG.length ≤ 2)) ?_ ?_
         ·refine fA rfl ?_
          refine wp_skip ?_
          exact (aZ [(0, .pointer (some ⟨gc, 0, none⟩)), (2, .pointer (some ⟨g_0_0, 0, none⟩)), (3, .pointer (some ⟨g_1_1, 0, none⟩))] rfl).elim fun x' hx => ⟨E, BSlots, cSlots, BQueue, cQueue, BAskers, cAskers, x', hx, H178, (by first | exact hE1 | exact hLq | exact Nat.le_of_ble_eq_true rfl), (by first | exact hE2 | exact eT _ hsent | exact Nat.le_of_ble_eq_true rfl), (by first | exact hE3 | exact hE3 | exact Nat.le_of_ble_eq_true rfl)⟩
         ·rintro _ W231 ⟨E, BSlots, cSlots, BQueue, cQueue, BAskers, cAskers, x232, rfl, H230, hE1, hE2, hE3⟩
          refine eP ?_
          exact (aZ [(0, .pointer (some ⟨gc, 0, none⟩)), (2, .pointer (some ⟨g_0_0, 0, none⟩)), (3, .pointer (some ⟨g_1_1, 0, none⟩))] rfl).elim fun x' hx => ⟨E, BSlots, cSlots, BQueue, cQueue, BAskers, cAskers, x', hx, H230, (by first | exact hE1 | exact hLq | exact Nat.le_of_ble_eq_true rfl), (by first | exact hE2 | exact eT _ hsent | exact Nat.le_of_ble_eq_true rfl), (by first | exact hE3 | exact hE3 | exact Nat.le_of_ble_eq_true rfl)⟩
      ·refine aA ?_
       refine aB rfl (bZ hg145 (bS rfl rfl)) rfl rfl ?_
       refine aA ?_
       refine aB rfl (aF rfl) rfl rfl ?_
       refine aA ?_
       refine bL rfl rfl rfl rfl (fun _ ho233 => ?_)
       refine aB ho233 (aU fV rfl) rfl rfl ?_
       refine aA ?_
       refine bL rfl rfl rfl rfl (fun _ ho234 => ?_)
       refine aB ho234 (bB (k := 3) (v := .int .i64 (E.State)) Try.isAgg3 rfl (H142.blk 3 rfl) rfl) rfl rfl ?_
       by_cases hg235 : (E.State : Int) = 4
       ·refine aA ?_
        refine bL rfl rfl rfl rfl (fun _ ho236 => ?_)
        refine aB ho236 (bX hg235 (bS rfl rfl)) rfl rfl ?_
        refine aA ?_
        refine aB rfl (aX (v := .bool (true)) (b := false) rfl rfl rfl rfl) rfl rfl ?_
        refine aI ?_
        refine aK ?_
        refine eU (fun a' W' => ∃ (E : GEntity) (BSlots : Option Addr) (cSlots : Nat) (BQueue : Option Addr) (cQueue : Nat) (BAskers : Option Addr) (cAskers : Nat) (x' : Nat → Value), a' = bH 101 x' [(0, .pointer (some ⟨gc, 0, none⟩)), (2, .pointer (some ⟨g_0_0, 0, none⟩)), (3, .pointer (some ⟨g_1_1, 0, none⟩))] ∧ St w F0 [hR aP 70 (.slice BSlots E.aM.length cSlots) E.aM, hR aH 181 (.slice BQueue E.Queue.length cQueue) E.Queue, hR aQ 155 (.slice BAskers E.aG.length cAskers) E.aG, hB g_1_1 77 #[.int .i64 (E.Kind), .int .i64 (E.Script), .slice BSlots E.aM.length cSlots, .int .i64 (E.State), .int .i64 (E.Value.Kind), .int .i64 (E.Value.N), .slice BQueue E.Queue.length cQueue, .slice BAskers E.aG.length cAskers, .int .i64 (E.bD), .int .i64 (E.Pos), .int .i64 (E.Count), .int .i64 (E.bJ)], bF gc 157 A bs.length cb, hB g_0_0 77 #[.int .i64 (0), .int .i64 (0), .slice none 0 0, .int .i64 (0), .int .i64 (0), .int .i64 (0), .slice none 0 0, .slice none 0 0, .int .i64 (0), .int .i64 (0), .int .i64 (0), .int .i64 (0)]] W' ∧ (E.aM.length ≤ 8) ∧ (bV bT E.Queue ≤ 30) ∧ (E.aG.length ≤ 2)) ?_ ?_
        ·refine fK rfl ?_
         refine wp_seq ?_
         refine aN [0, 1, 2, 3, 4] rfl ?_
         refine aA ?_
         refine aB rfl (aF rfl) rfl rfl ?_
         refine aA ?_
         have H239 : St w F0 [bF gc 157 A bs.length cb, hR aP 70 (.slice BSlots E.aM.length cSlots) E.aM, hR aH 181 (.slice BQueue E.Queue.length cQueue) E.Queue, hR aQ 155 (.slice BAskers E.aG.length cAskers) E.aG, hB g_1_1 77 #[.int .i64 (E.Kind), .int .i64 (E.Script), .slice BSlots E.aM.length cSlots, .int .i64 (E.State), .int .i64 (E.Value.Kind), .int .i64 (E.Value.N), .slice BQueue E.Queue.length cQueue, .slice BAskers E.aG.length cAskers, .int .i64 (E.bD), .int .i64 (E.Pos), .int .i64 (E.Count), .int .i64 (E.bJ)], hB g_0_0 77 #[.int .i64 (0), .int .i64 (0), .slice none 0 0, .int .i64 (0), .int .i64 (0), .int .i64 (0), .slice none 0 0, .slice none 0 0, .int .i64 (0), .int .i64 (0), .int .i64 (0), .int .i64 (0)]] W143 := H142.pick [4, 0, 1, 2, 3, 5] kD rfl; clear H142
         obtain ⟨F240, hs241, hF242, hfr243⟩ := St.frame (l0 := [bF gc 157 A bs.length cb]) (l := [hR aP 70 (.slice BSlots E.aM.length cSlots) E.aM, hR aH 181 (.slice BQueue E.Queue.length cQueue) E.Queue, hR aQ 155 (.slice BAskers E.aG.length cAskers) E.aG, hB g_1_1 77 #[.int .i64 (E.Kind), .int .i64 (E.Script), .slice BSlots E.aM.length cSlots, .int .i64 (E.State), .int .i64 (E.Value.Kind), .int .i64 (E.Value.N), .slice BQueue E.Queue.length cQueue, .slice BAskers E.aG.length cAskers, .int .i64 (E.bD), .int .i64 (E.Pos), .int .i64 (E.Count), .int .i64 (E.bJ)], hB g_0_0 77 #[.int .i64 (0), .int .i64 (0), .slice none 0 0, .int .i64 (0), .int .i64 (0), .int .i64 (0), .slice none 0 0, .slice none 0 0, .int .i64 (0), .int .i64 (0), .int .i64 (0), .int .i64 (0)]]) H239
         refine bC rfl Try.call44 (vs := #[.pointer (some ⟨gc, 0, none⟩), .int .i64 (3)]) rfl rfl rfl (dN 3 _ _ _ _ _ _ (CV.step hV H239.1 hF242) hn hs241) ?_
         rintro e246 W245 ⟨q237, rfl, hq238, Hn244⟩; refine ⟨_, rfl, ?_⟩
         have H247 := hfr243 _ _ Hn244; clear H239
         refine aA ?_
         refine aB rfl (gV rfl rfl kO) rfl rfl ?_
         refine aA ?_
         refine aB rfl (aU jZ rfl) rfl rfl ?_
         refine aA ?_
         have H251 : St w F0 [hB g_1_1 77 #[.int .i64 (E.Kind), .int .i64 (E.Script), .slice BSlots E.aM.length cSlots, .int .i64 (E.State), .int .i64 (E.Value.Kind), .int .i64 (E.Value.N), .slice BQueue E.Queue.length cQueue, .slice BAskers E.aG.length cAskers, .int .i64 (E.bD), .int .i64 (E.Pos), .int .i64 (E.Count), .int .i64 (E.bJ)], bF gc 157 A bs.length cb, hR aP 70 (.slice BSlots E.aM.length cSlots) E.aM, hR aH 181 (.slice BQueue E.Queue.length cQueue) E.Queue, hR aQ 155 (.slice BAskers E.aG.length cAskers) E.aG, hB g_0_0 77 #[.int .i64 (0), .int .i64 (0), .slice none 0 0, .int .i64 (0), .int .i64 (0), .int .i64 (0), .slice none 0 0, .slice none 0 0, .int .i64 (0), .int .i64 (0), .int .i64 (0), .int .i64 (0)]] W245 := H247.pick [4, 0, 1, 2, 3, 5] kD rfl; clear H247
         refine bR rfl Try.sizeOf3 rfl rfl rfl (Nat.le_of_ble_eq_true rfl) (by simp [Value.cells, Value.oneCell']) H251 ?_
         intro W248 hu249 Ha250; clear H251; clear hu249
         refine aI ?_
         refine aK ?_
         refine aN [0, 1, 2, 3, 4] rfl ?_
         refine aA ?_
         refine aB rfl (aF rfl) rfl rfl ?_
         refine aA ?_
         have H255 : St w F0 [bF gc 157 A bs.length cb, hB g_1_1 77 #[.int .i64 (E.Kind), .int .i64 (E.Script), .slice BSlots E.aM.length cSlots, .int .i64 (E.State), .int .i64 (E.Value.Kind), .int .i64 (E.Value.N), .slice BQueue E.Queue.length cQueue, .slice BAskers E.aG.length cAskers, .int .i64 ((1 + q237)), .int .i64 (E.Pos), .int .i64 (E.Count), .int .i64 (E.bJ)], hR aP 70 (.slice BSlots E.aM.length cSlots) E.aM, hR aH 181 (.slice BQueue E.Queue.length cQueue) E.Queue, hR aQ 155 (.slice BAskers E.aG.length cAskers) E.aG, hB g_0_0 77 #[.int .i64 (0), .int .i64 (0), .slice none 0 0, .int .i64 (0), .int .i64 (0), .int .i64 (0), .slice none 0 0, .slice none 0 0, .int .i64 (0), .int .i64 (0), .int .i64 (0), .int .i64 (0)]] W248 := Ha250.pick [1, 0, 2, 3, 4, 5] kD rfl; clear Ha250
         obtain ⟨F256, hs257, hF258, hfr259⟩ := St.frame (l0 := [bF gc 157 A bs.length cb]) (l := [hB g_1_1 77 #[.int .i64 (E.Kind), .int .i64 (E.Script), .slice BSlots E.aM.length cSlots, .int .i64 (E.State), .int .i64 (E.Value.Kind), .int .i64 (E.Value.N), .slice BQueue E.Queue.length cQueue, .slice BAskers E.aG.length cAskers, .int .i64 ((1 + q237)), .int .i64 (E.Pos), .int .i64 (E.Count), .int .i64 (E.bJ)], hR aP 70 (.slice BSlots E.aM.length cSlots) E.aM, hR aH 181 (.slice BQueue E.Queue.length cQueue) E.Queue, hR aQ 155 (.slice BAskers E.aG.length cAskers) E.aG, hB g_0_0 77 #[.int .i64 (0), .int .i64 (0), .slice none 0 0, .int .i64 (0), .int .i64 (0), .int .i64 (0), .slice none 0 0, .slice none 0 0, .int .i64 (0), .int .i64 (0), .int .i64 (0), .int .i64 (0)]]) H255
         refine bC rfl Try.call44 (vs := #[.pointer (some ⟨gc, 0, none⟩), .int .i64 (5)]) rfl rfl rfl (dN 5 _ _ _ _ _ _ (CV.step hV H255.1 hF258) hn hs257) ?_
         rintro e262 W261 ⟨q253, rfl, hq254, Hn260⟩; refine ⟨_, rfl, ?_⟩
         have H263 := hfr259 _ _ Hn260; clear H255
         refine aA ?_
         refine aB rfl (gV rfl rfl kO) rfl rfl ?_
         refine aA ?_
         refine aB rfl (aU kT rfl) rfl rfl ?_
         refine aA ?_
         have H267 : St w F0 [hB g_1_1 77 #[.int .i64 (E.Kind), .int .i64 (E.Script), .slice BSlots E.aM.length cSlots, .int .i64 (E.State), .int .i64 (E.Value.Kind), .int .i64 (E.Value.N), .slice BQueue E.Queue.length cQueue, .slice BAskers E.aG.length cAskers, .int .i64 ((1 + q237)), .int .i64 (E.Pos), .int .i64 (E.Count), .int .i64 (E.bJ)], bF gc 157 A bs.length cb, hR aP 70 (.slice BSlots E.aM.length cSlots) E.aM, hR aH 181 (.slice BQueue E.Queue.length cQueue) E.Queue, hR aQ 155 (.slice BAskers E.aG.length cAskers) E.aG, hB g_0_0 77 #[.int .i64 (0), .int .i64 (0), .slice none 0 0, .int .i64 (0), .int .i64 (0), .int .i64 (0), .slice none 0 0, .slice none 0 0, .int .i64 (0), .int .i64 (0), .int .i64 (0), .int .i64 (0)]] W261 := H263.pick [1, 0, 2, 3, 4, 5] kD rfl; clear H263
         refine bR rfl Try.sizeOf3 rfl rfl rfl (Nat.le_of_ble_eq_true rfl) (by simp [Value.cells, Value.oneCell']) H267 ?_
         intro W264 hu265 Ha266; clear H267; clear hu265
         refine aI ?_
         exact (aZ [(0, .pointer (some ⟨gc, 0, none⟩)), (2, .pointer (some ⟨g_0_0, 0, none⟩)), (3, .pointer (some ⟨g_1_1, 0, none⟩))] rfl).elim fun x' hx => ⟨(⟨E.Kind, E.Script, E.aM, E.State, E.Value, E.Queue, E.aG, (1 + q237), (1 + q253), E.Count, E.bJ⟩ : GEntity), BSlots, cSlots, BQueue, cQueue, BAskers, cAskers, x', hx, Ha266.pick [2, 3, 4, 0, 1, 5] kD rfl, (by first | exact hE1 | exact hLq | exact Nat.le_of_ble_eq_true rfl), (by first | exact hE2 | exact eT _ hsent | exact Nat.le_of_ble_eq_true rfl), (by first | exact hE3 | exact hE3 | exact Nat.le_of_ble_eq_true rfl)⟩
        ·rintro _ W270 ⟨E, BSlots, cSlots, BQueue, cQueue, BAskers, cAskers, x271, rfl, H269, hE1, hE2, hE3⟩
         refine aK ?_
         refine wp_seq ?_
         refine aN [0, 1, 2, 3, 4, 5, 6] rfl ?_
         refine aA ?_
         refine aB rfl (aU fV rfl) rfl rfl ?_
         refine aA ?_
         refine aB rfl (bB (k := 3) (v := .int .i64 (E.State)) Try.isAgg3 rfl (H269.blk 3 rfl) rfl) rfl rfl ?_
         by_cases hg272 : (E.State : Int) = 1
         ·refine aA ?_
          refine aB rfl (bX hg272 (bS rfl rfl)) rfl rfl ?_
          refine aA ?_
          refine aB rfl (aF rfl) rfl rfl ?_
          refine aA ?_
          refine bL rfl rfl rfl rfl (fun _ ho273 => ?_)
          refine aB ho273 (aF rfl) rfl rfl ?_
          refine aA ?_
          refine bL rfl rfl rfl rfl (fun _ ho274 => ?_)
          have H276 : St w F0 [bF gc 157 A bs.length cb, hR aP 70 (.slice BSlots E.aM.length cSlots) E.aM, hR aH 181 (.slice BQueue E.Queue.length cQueue) E.Queue, hR aQ 155 (.slice BAskers E.aG.length cAskers) E.aG, hB g_1_1 77 #[.int .i64 (E.Kind), .int .i64 (E.Script), .slice BSlots E.aM.length cSlots, .int .i64 (E.State), .int .i64 (E.Value.Kind), .int .i64 (E.Value.N), .slice BQueue E.Queue.length cQueue, .slice BAskers E.aG.length cAskers, .int .i64 (E.bD), .int .i64 (E.Pos), .int .i64 (E.Count), .int .i64 (E.bJ)], hB g_0_0 77 #[.int .i64 (0), .int .i64 (0), .slice none 0 0, .int .i64 (0), .int .i64 (0), .int .i64 (0), .slice none 0 0, .slice none 0 0, .int .i64 (0), .int .i64 (0), .int .i64 (0), .int .i64 (0)]] W270 := H269.pick [4, 0, 1, 2, 3, 5] kD rfl; clear H269
          obtain ⟨F277, hs278, hF279, hfr280⟩ := St.frame (l0 := [bF gc 157 A bs.length cb]) (l := [hR aP 70 (.slice BSlots E.aM.length cSlots) E.aM, hR aH 181 (.slice BQueue E.Queue.length cQueue) E.Queue, hR aQ 155 (.slice BAskers E.aG.length cAskers) E.aG, hB g_1_1 77 #[.int .i64 (E.Kind), .int .i64 (E.Script), .slice BSlots E.aM.length cSlots, .int .i64 (E.State), .int .i64 (E.Value.Kind), .int .i64 (E.Value.N), .slice BQueue E.Queue.length cQueue, .slice BAskers E.aG.length cAskers, .int .i64 (E.bD), .int .i64 (E.Pos), .int .i64 (E.Count), .int .i64 (E.bJ)], hB g_0_0 77 #[.int .i64 (0), .int .i64 (0), .slice none 0 0, .int .i64 (0), .int .i64 (0), .int .i64 (0), .slice none 0 0, .slice none 0 0, .int .i64 (0), .int .i64 (0), .int .i64 (0), .int .i64 (0)]]) H276
          refine bC ho274 Try.call43 (vs := #[.pointer (some ⟨gc, 0, none⟩), .int .i64 (2)]) rfl rfl rfl (jR 2 _ _ _ _ _ _ (CV.step hV H276.1 hF279) hn hs278) ?_
          rintro e283 W282 ⟨b275, rfl, Hn281⟩; refine ⟨_, rfl, ?_⟩
          have H284 := hfr280 _ _ Hn281; clear H276
          refine aA ?_
          refine aB rfl (aX (v := .bool (b275)) (b := true) rfl rfl rfl rfl) rfl rfl ?_
          refine aI ?_
          refine aK ?_
          refine eU (fun a' W' => ∃ (E : GEntity) (BSlots : Option Addr) (cSlots : Nat) (BQueue : Option Addr) (cQueue : Nat) (BAskers : Option Addr) (cAskers : Nat) (x' : Nat → Value), a' = bH 101 x' [(0, .pointer (some ⟨gc, 0, none⟩)), (2, .pointer (some ⟨g_0_0, 0, none⟩)), (3, .pointer (some ⟨g_1_1, 0, none⟩))] ∧ St w F0 [hR aP 70 (.slice BSlots E.aM.length cSlots) E.aM, hR aH 181 (.slice BQueue E.Queue.length cQueue) E.Queue, hR aQ 155 (.slice BAskers E.aG.length cAskers) E.aG, hB g_1_1 77 #[.int .i64 (E.Kind), .int .i64 (E.Script), .slice BSlots E.aM.length cSlots, .int .i64 (E.State), .int .i64 (E.Value.Kind), .int .i64 (E.Value.N), .slice BQueue E.Queue.length cQueue, .slice BAskers E.aG.length cAskers, .int .i64 (E.bD), .int .i64 (E.Pos), .int .i64 (E.Count), .int .i64 (E.bJ)], bF gc 157 A bs.length cb, hB g_0_0 77 #[.int .i64 (0), .int .i64 (0), .slice none 0 0, .int .i64 (0), .int .i64 (0), .int .i64 (0), .slice none 0 0, .slice none 0 0, .int .i64 (0), .int .i64 (0), .int .i64 (0), .int .i64 (0)]] W' ∧ (E.aM.length ≤ 8) ∧ (bV bT E.Queue ≤ 30) ∧ (E.aG.length ≤ 2)) ?_ ?_
          ·refine jO (b := b275) rfl (fun hc285 => ?_) (fun hc285 => ?_)
           ·refine wp_seq ?_
            refine aN [0, 1, 2, 3, 4] rfl ?_
            refine aA ?_
            refine aB rfl (aF rfl) rfl rfl ?_
            refine aA ?_
            obtain ⟨F288, hs289, hF290, hfr291⟩ := St.frame (l0 := [bF gc 157 A bs.length cb]) (l := [hR aP 70 (.slice BSlots E.aM.length cSlots) E.aM, hR aH 181 (.slice BQueue E.Queue.length cQueue) E.Queue, hR aQ 155 (.slice BAskers E.aG.length cAskers) E.aG, hB g_1_1 77 #[.int .i64 (E.Kind), .int .i64 (E.Script), .slice BSlots E.aM.length cSlots, .int .i64 (E.State), .int .i64 (E.Value.Kind), .int .i64 (E.Value.N), .slice BQueue E.Queue.length cQueue, .slice BAskers E.aG.length cAskers, .int .i64 (E.bD), .int .i64 (E.Pos), .int .i64 (E.Count), .int .i64 (E.bJ)], hB g_0_0 77 #[.int .i64 (0), .int .i64 (0), .slice none 0 0, .int .i64 (0), .int .i64 (0), .int .i64 (0), .slice none 0 0, .slice none 0 0, .int .i64 (0), .int .i64 (0), .int .i64 (0), .int .i64 (0)]]) H284
            refine bC rfl Try.call130 (vs := #[.pointer (some ⟨gc, 0, none⟩)]) rfl rfl rfl (sent_s _ _ _ _ _ _ (CV.step hV H284.1 hF290) hn hs289) ?_
            rintro e294 W293 ⟨m286, cs287, rfl, hsent, Hn292⟩; refine ⟨_, rfl, ?_⟩
            have H295 : St w F0 [hM aH m286 cs287, bF gc 157 A bs.length cb, hR aP 70 (.slice BSlots E.aM.length cSlots) E.aM, hR aH 181 (.slice BQueue E.Queue.length cQueue) E.Queue, hR aQ 155 (.slice BAskers E.aG.length cAskers) E.aG, hB g_1_1 77 #[.int .i64 (E.Kind), .int .i64 (E.Script), .slice BSlots E.aM.length cSlots, .int .i64 (E.State), .int .i64 (E.Value.Kind), .int .i64 (E.Value.N), .slice BQueue E.Queue.length cQueue, .slice BAskers E.aG.length cAskers, .int .i64 (E.bD), .int .i64 (E.Pos), .int .i64 (E.Count), .int .i64 (E.bJ)], hB g_0_0 77 #[.int .i64 (0), .int .i64 (0), .slice none 0 0, .int .i64 (0), .int .i64 (0), .int .i64 (0), .slice none 0 0, .slice none 0 0, .int .i64 (0), .int .i64 (0), .int .i64 (0), .int .i64 (0)]] W293 := hfr291 (_ :: [_]) _ Hn292; clear H284
            refine aA ?_
            refine dD rfl Try.runUnderlying65 Try.sizeOf181 kD Try.zeroValue181 rfl (eY (H295.kn 0 rfl)) rfl rfl H295 ?_
            intro g_11_2 W296 hu297 Ha298; clear H295; clear hu297
            refine aA ?_
            refine aB rfl (aU jX rfl) rfl rfl ?_
            have H300 : St w F0 [hR aH 181 (.slice (some ⟨g_11_2, 0, none⟩) 1 1) ([m286]), bF gc 157 A bs.length cb, hR aP 70 (.slice BSlots E.aM.length cSlots) E.aM, hR aH 181 (.slice BQueue E.Queue.length cQueue) E.Queue, hR aQ 155 (.slice BAskers E.aG.length cAskers) E.aG, hB g_1_1 77 #[.int .i64 (E.Kind), .int .i64 (E.Script), .slice BSlots E.aM.length cSlots, .int .i64 (E.State), .int .i64 (E.Value.Kind), .int .i64 (E.Value.N), .slice BQueue E.Queue.length cQueue, .slice BAskers E.aG.length cAskers, .int .i64 (E.bD), .int .i64 (E.Pos), .int .i64 (E.Count), .int .i64 (E.bJ)], hB g_0_0 77 #[.int .i64 (0), .int .i64 (0), .slice none 0 0, .int .i64 (0), .int .i64 (0), .int .i64 (0), .slice none 0 0, .slice none 0 0, .int .i64 (0), .int .i64 (0), .int .i64 (0), .int .i64 (0)]] W296 := Ha298.iG (eY (Ha298.kn 1 rfl)); clear Ha298
            refine aA ?_
            have H304 : St w F0 [hB g_1_1 77 #[.int .i64 (E.Kind), .int .i64 (E.Script), .slice BSlots E.aM.length cSlots, .int .i64 (E.State), .int .i64 (E.Value.Kind), .int .i64 (E.Value.N), .slice BQueue E.Queue.length cQueue, .slice BAskers E.aG.length cAskers, .int .i64 (E.bD), .int .i64 (E.Pos), .int .i64 (E.Count), .int .i64 (E.bJ)], hR aH 181 (.slice (some ⟨g_11_2, 0, none⟩) 1 1) ([m286]), bF gc 157 A bs.length cb, hR aP 70 (.slice BSlots E.aM.length cSlots) E.aM, hR aH 181 (.slice BQueue E.Queue.length cQueue) E.Queue, hR aQ 155 (.slice BAskers E.aG.length cAskers) E.aG, hB g_0_0 77 #[.int .i64 (0), .int .i64 (0), .slice none 0 0, .int .i64 (0), .int .i64 (0), .int .i64 (0), .slice none 0 0, .slice none 0 0, .int .i64 (0), .int .i64 (0), .int .i64 (0), .int .i64 (0)]] W296 := H300.pick [5, 0, 1, 2, 3, 4, 6] kD rfl; clear H300
            refine bR rfl Try.sizeOf65 rfl rfl rfl (Nat.le_of_ble_eq_true rfl) (by simp [Value.cells, Value.oneCell']) H304 ?_
            intro W301 hu302 Ha303; clear H304; clear hu302
            refine aI ?_
            refine aK ?_
            refine aN [0, 1, 2, 3] rfl ?_
            refine aA ?_
            refine aB rfl (dS (vs := [(0, .int .i64 (1)), (1, .int .i64 (2))]) (cells := #[.int .i64 (1), .int .i64 (2)]) rfl kR) rfl rfl ?_
            refine aA ?_
            refine dD rfl Try.runUnderlying75 Try.sizeOf155 kD Try.zeroValue155 rfl rfl rfl rfl Ha303 ?_
            intro g_12_1 W306 hu307 Ha308; clear Ha303; clear hu307
            refine aA ?_
            refine aB rfl (aU jY rfl) rfl rfl ?_
            have H310 : St w F0 [hM aQ (⟨1, 2⟩ : GAsker) [.int .i64 (1), .int .i64 (2)], hB g_12_1 155 #[.int .i64 (1), .int .i64 (2)], hB g_1_1 77 #[.int .i64 (E.Kind), .int .i64 (E.Script), .slice BSlots E.aM.length cSlots, .int .i64 (E.State), .int .i64 (E.Value.Kind), .int .i64 (E.Value.N), .slice (some ⟨g_11_2, 0, none⟩) 1 1, .slice BAskers E.aG.length cAskers, .int .i64 (E.bD), .int .i64 (E.Pos), .int .i64 (E.Count), .int .i64 (E.bJ)], hR aH 181 (.slice (some ⟨g_11_2, 0, none⟩) 1 1) ([m286]), bF gc 157 A bs.length cb, hR aP 70 (.slice BSlots E.aM.length cSlots) E.aM, hR aH 181 (.slice BQueue E.Queue.length cQueue) E.Queue, hR aQ 155 (.slice BAskers E.aG.length cAskers) E.aG, hB g_0_0 77 #[.int .i64 (0), .int .i64 (0), .slice none 0 0, .int .i64 (0), .int .i64 (0), .int .i64 (0), .slice none 0 0, .slice none 0 0, .int .i64 (0), .int .i64 (0), .int .i64 (0), .int .i64 (0)]] W306 := Ha308.add0 (q := hM aQ (⟨1, 2⟩ : GAsker) [.int .i64 (1), .int .i64 (2)]) (iC _ No (⟨1, 2⟩ : GAsker)); clear Ha308
            have H311 : St w F0 [hB g_12_1 155 #[.int .i64 (1), .int .i64 (2)], hM aQ (⟨1, 2⟩ : GAsker) [.int .i64 (1), .int .i64 (2)], hB g_1_1 77 #[.int .i64 (E.Kind), .int .i64 (E.Script), .slice BSlots E.aM.length cSlots, .int .i64 (E.State), .int .i64 (E.Value.Kind), .int .i64 (E.Value.N), .slice (some ⟨g_11_2, 0, none⟩) 1 1, .slice BAskers E.aG.length cAskers, .int .i64 (E.bD), .int .i64 (E.Pos), .int .i64 (E.Count), .int .i64 (E.bJ)], hR aH 181 (.slice (some ⟨g_11_2, 0, none⟩) 1 1) ([m286]), bF gc 157 A bs.length cb, hR aP 70 (.slice BSlots E.aM.length cSlots) E.aM, hR aH 181 (.slice BQueue E.Queue.length cQueue) E.Queue, hR aQ 155 (.slice BAskers E.aG.length cAskers) E.aG, hB g_0_0 77 #[.int .i64 (0), .int .i64 (0), .slice none 0 0, .int .i64 (0), .int .i64 (0), .int .i64 (0), .slice none 0 0, .slice none 0 0, .int .i64 (0), .int .i64 (0), .int .i64 (0), .int .i64 (0)]] W306 := H310.pick [1, 0, 2, 3, 4, 5, 6, 7, 8] kD rfl; clear H310
            have H312 : St w F0 [hR aQ 155 (.slice (some ⟨g_12_1, 0, none⟩) 1 1) ([(⟨1, 2⟩ : GAsker)]), hB g_1_1 77 #[.int .i64 (E.Kind), .int .i64 (E.Script), .slice BSlots E.aM.length cSlots, .int .i64 (E.State), .int .i64 (E.Value.Kind), .int .i64 (E.Value.N), .slice (some ⟨g_11_2, 0, none⟩) 1 1, .slice BAskers E.aG.length cAskers, .int .i64 (E.bD), .int .i64 (E.Pos), .int .i64 (E.Count), .int .i64 (E.bJ)], hR aH 181 (.slice (some ⟨g_11_2, 0, none⟩) 1 1) ([m286]), bF gc 157 A bs.length cb, hR aP 70 (.slice BSlots E.aM.length cSlots) E.aM, hR aH 181 (.slice BQueue E.Queue.length cQueue) E.Queue, hR aQ 155 (.slice BAskers E.aG.length cAskers) E.aG, hB g_0_0 77 #[.int .i64 (0), .int .i64 (0), .slice none 0 0, .int .i64 (0), .int .i64 (0), .int .i64 (0), .slice none 0 0, .slice none 0 0, .int .i64 (0), .int .i64 (0), .int .i64 (0), .int .i64 (0)]] W306 := H311.iG rfl; clear H311
            refine aA ?_
            have H316 : St w F0 [hB g_1_1 77 #[.int .i64 (E.Kind), .int .i64 (E.Script), .slice BSlots E.aM.length cSlots, .int .i64 (E.State), .int .i64 (E.Value.Kind), .int .i64 (E.Value.N), .slice (some ⟨g_11_2, 0, none⟩) 1 1, .slice BAskers E.aG.length cAskers, .int .i64 (E.bD), .int .i64 (E.Pos), .int .i64 (E.Count), .int .i64 (E.bJ)], hR aQ 155 (.slice (some ⟨g_12_1, 0, none⟩) 1 1) ([(⟨1, 2⟩ : GAsker)]), hR aH 181 (.slice (some ⟨g_11_2, 0, none⟩) 1 1) ([m286]), bF gc 157 A bs.length cb, hR aP 70 (.slice BSlots E.aM.length cSlots) E.aM, hR aH 181 (.slice BQueue E.Queue.length cQueue) E.Queue, hR aQ 155 (.slice BAskers E.aG.length cAskers) E.aG, hB g_0_0 77 #[.int .i64 (0), .int .i64 (0), .slice none 0 0, .int .i64 (0), .int .i64 (0), .int .i64 (0), .slice none 0 0, .slice none 0 0, .int .i64 (0), .int .i64 (0), .int .i64 (0), .int .i64 (0)]] W306 := H312.pick [1, 0, 2, 3, 4, 5, 6, 7] kD rfl; clear H312
            refine bR rfl Try.sizeOf75 rfl rfl rfl (Nat.le_of_ble_eq_true rfl) (by simp [Value.cells, Value.oneCell']) H316 ?_
            intro W313 hu314 Ha315; clear H316; clear hu314
            refine aI ?_
            exact (aZ [(0, .pointer (some ⟨gc, 0, none⟩)), (2, .pointer (some ⟨g_0_0, 0, none⟩)), (3, .pointer (some ⟨g_1_1, 0, none⟩))] rfl).elim fun x' hx => ⟨(⟨E.Kind, E.Script, E.aM, E.State, E.Value, [m286], [(⟨1, 2⟩ : GAsker)], E.bD, E.Pos, E.Count, E.bJ⟩ : GEntity), BSlots, cSlots, (some ⟨g_11_2, 0, none⟩), 1, (some ⟨g_12_1, 0, none⟩), 1, x', hx, Ha315.pick [4, 2, 1, 0, 3, 7] kD rfl, (by first | exact hE1 | exact hLq | exact Nat.le_of_ble_eq_true rfl), (by first | exact hE2 | exact eT _ hsent | exact Nat.le_of_ble_eq_true rfl), (by first | exact hE3 | exact hE3 | exact Nat.le_of_ble_eq_true rfl)⟩
           ·refine wp_skip ?_
            exact (aZ [(0, .pointer (some ⟨gc, 0, none⟩)), (2, .pointer (some ⟨g_0_0, 0, none⟩)), (3, .pointer (some ⟨g_1_1, 0, none⟩))] rfl).elim fun x' hx => ⟨E, BSlots, cSlots, BQueue, cQueue, BAskers, cAskers, x', hx, H284.pick [1, 2, 3, 4, 0, 5] kD rfl, (by first | exact hE1 | exact hLq | exact Nat.le_of_ble_eq_true rfl), (by first | exact hE2 | exact eT _ hsent | exact Nat.le_of_ble_eq_true rfl), (by first | exact hE3 | exact hE3 | exact Nat.le_of_ble_eq_true rfl)⟩
          ·rintro _ W319 ⟨E, BSlots, cSlots, BQueue, cQueue, BAskers, cAskers, x320, rfl, H318, hE1, hE2, hE3⟩
           refine eP ?_
           exact (aZ [(0, .pointer (some ⟨gc, 0, none⟩)), (2, .pointer (some ⟨g_0_0, 0, none⟩)), (3, .pointer (some ⟨g_1_1, 0, none⟩))] rfl).elim fun x' hx => ⟨E, BSlots, cSlots, BQueue, cQueue, BAskers, cAskers, x', hx, H318, (by first | exact hE1 | exact hLq | exact Nat.le_of_ble_eq_true rfl), (by first | exact hE2 | exact eT _ hsent | exact Nat.le_of_ble_eq_true rfl), (by first | exact hE3 | exact hE3 | exact Nat.le_of_ble_eq_true rfl)⟩
         ·refine aA ?_
          refine aB rfl (bZ hg272 (bS rfl rfl)) rfl rfl ?_
          refine aA ?_
          refine aB rfl (aF rfl) rfl rfl ?_
          refine aA ?_
          refine aD rfl rfl rfl rfl rfl rfl rfl ?_
          refine aA ?_
          refine aD rfl rfl rfl rfl rfl rfl rfl ?_
          refine aA ?_
          refine aB rfl (aX (v := .bool (false)) (b := false) rfl rfl rfl rfl) rfl rfl ?_
          refine aI ?_
          refine aK ?_
          refine eU (fun a' W' => ∃ (E : GEntity) (BSlots : Option Addr) (cSlots : Nat) (BQueue : Option Addr) (cQueue : Nat) (BAskers : Option Addr) (cAskers : Nat) (x' : Nat → Value), a' = bH 101 x' [(0, .pointer (some ⟨gc, 0, none⟩)), (2, .pointer (some ⟨g_0_0, 0, none⟩)), (3, .pointer (some ⟨g_1_1, 0, none⟩))] ∧ St w F0 [hR aP 70 (.slice BSlots E.aM.length cSlots) E.aM, hR aH 181 (.slice BQueue E.Queue.length cQueue) E.Queue, hR aQ 155 (.slice BAskers E.aG.length cAskers) E.aG, hB g_1_1 77 #[.int .i64 (E.Kind), .int .i64 (E.Script), .slice BSlots E.aM.length cSlots, .int .i64 (E.State), .int .i64 (E.Value.Kind), .int .i64 (E.Value.N), .slice BQueue E.Queue.length cQueue, .slice BAskers E.aG.length cAskers, .int .i64 (E.bD), .int .i64 (E.Pos), .int .i64 (E.Count), .int .i64 (E.bJ)], bF gc 157 A bs.length cb, hB g_0_0 77 #[.int .i64 (0), .int .i64 (0), .slice none 0 0, .int .i64 (0), .int .i64 (0), .int .i64 (0), .slice none 0 0, .slice none 0 0, .int .i64 (0), .int .i64 (0), .int .i64 (0), .int .i64 (0)]] W' ∧ (E.aM.length ≤ 8) ∧ (bV bT E.Queue ≤ 30) ∧ (E.aG.length ≤ 2)) ?_ ?_
          ·refine fA rfl ?_
           refine wp_skip ?_
           exact (aZ [(0, .pointer (some ⟨gc, 0, none⟩)), (2, .pointer (some ⟨g_0_0, 0, none⟩)), (3, .pointer (some ⟨g_1_1, 0, none⟩))] rfl).elim fun x' hx => ⟨E, BSlots, cSlots, BQueue, cQueue, BAskers, cAskers, x', hx, H269, (by first | exact hE1 | exact hLq | exact Nat.le_of_ble_eq_true rfl), (by first | exact hE2 | exact eT _ hsent | exact Nat.le_of_ble_eq_true rfl), (by first | exact hE3 | exact hE3 | exact Nat.le_of_ble_eq_true rfl)⟩
          ·rintro _ W322 ⟨E, BSlots, cSlots, BQueue, cQueue, BAskers, cAskers, x323, rfl, H321, hE1, hE2, hE3⟩
           refine eP ?_
           exact (aZ [(0, .pointer (some ⟨gc, 0, none⟩)), (2, .pointer (some ⟨g_0_0, 0, none⟩)), (3, .pointer (some ⟨g_1_1, 0, none⟩))] rfl).elim fun x' hx => ⟨E, BSlots, cSlots, BQueue, cQueue, BAskers, cAskers, x', hx, H321, (by first | exact hE1 | exact hLq | exact Nat.le_of_ble_eq_true rfl), (by first | exact hE2 | exact eT _ hsent | exact Nat.le_of_ble_eq_true rfl), (by first | exact hE3 | exact hE3 | exact Nat.le_of_ble_eq_true rfl)⟩
       ·refine aA ?_
        refine bL rfl rfl rfl rfl (fun _ ho324 => ?_)
        refine aB ho324 (bZ hg235 (bS rfl rfl)) rfl rfl ?_
        refine aA ?_
        refine aB rfl (aX (v := .bool (false)) (b := false) rfl rfl rfl rfl) rfl rfl ?_
        refine aI ?_
        refine aK ?_
        refine eU (fun a' W' => ∃ (E : GEntity) (BSlots : Option Addr) (cSlots : Nat) (BQueue : Option Addr) (cQueue : Nat) (BAskers : Option Addr) (cAskers : Nat) (x' : Nat → Value), a' = bH 101 x' [(0, .pointer (some ⟨gc, 0, none⟩)), (2, .pointer (some ⟨g_0_0, 0, none⟩)), (3, .pointer (some ⟨g_1_1, 0, none⟩))] ∧ St w F0 [hR aP 70 (.slice BSlots E.aM.length cSlots) E.aM, hR aH 181 (.slice BQueue E.Queue.length cQueue) E.Queue, hR aQ 155 (.slice BAskers E.aG.length cAskers) E.aG, hB g_1_1 77 #[.int .i64 (E.Kind), .int .i64 (E.Script), .slice BSlots E.aM.length cSlots, .int .i64 (E.State), .int .i64 (E.Value.Kind), .int .i64 (E.Value.N), .slice BQueue E.Queue.length cQueue, .slice BAskers E.aG.length cAskers, .int .i64 (E.bD), .int .i64 (E.Pos), .int .i64 (E.Count), .int .i64 (E.bJ)], bF gc 157 A bs.length cb, hB g_0_0 77 #[.int .i64 (0), .int .i64 (0), .slice none 0 0, .int .i64 (0), .int .i64 (0), .int .i64 (0), .slice none 0 0, .slice none 0 0, .int .i64 (0), .int .i64 (0), .int .i64 (0), .int .i64 (0)]] W' ∧ (E.aM.length ≤ 8) ∧ (bV bT E.Queue ≤ 30) ∧ (E.aG.length ≤ 2)) ?_ ?_
        ·refine fA rfl ?_
         refine wp_skip ?_
         exact (aZ [(0, .pointer (some ⟨gc, 0, none⟩)), (2, .pointer (some ⟨g_0_0, 0, none⟩)), (3, .pointer (some ⟨g_1_1, 0, none⟩))] rfl).elim fun x' hx => ⟨E, BSlots, cSlots, BQueue, cQueue, BAskers, cAskers, x', hx, H142, (by first | exact hE1 | exact hLq | exact Nat.le_of_ble_eq_true rfl), (by first | exact hE2 | exact eT _ hsent | exact Nat.le_of_ble_eq_true rfl), (by first | exact hE3 | exact hE3 | exact Nat.le_of_ble_eq_true rfl)⟩
        ·rintro _ W326 ⟨E, BSlots, cSlots, BQueue, cQueue, BAskers, cAskers, x327, rfl, H325, hE1, hE2, hE3⟩
         refine aK ?_
         refine wp_seq ?_
         refine aN [0, 1, 2, 3, 4, 5, 6] rfl ?_
         refine aA ?_
         refine aB rfl (aU fV rfl) rfl rfl ?_
         refine aA ?_
         refine aB rfl (bB (k := 3) (v := .int .i64 (E.State)) Try.isAgg3 rfl (H325.blk 3 rfl) rfl) rfl rfl ?_
         by_cases hg328 : (E.State : Int) = 1
         ·refine aA ?_
          refine aB rfl (bX hg328 (bS rfl rfl)) rfl rfl ?_
          refine aA ?_
          refine aB rfl (aF rfl) rfl rfl ?_
          refine aA ?_
          refine bL rfl rfl rfl rfl (fun _ ho329 => ?_)
          refine aB ho329 (aF rfl) rfl rfl ?_
          refine aA ?_
          refine bL rfl rfl rfl rfl (fun _ ho330 => ?_)
          have H332 : St w F0 [bF gc 157 A bs.length cb, hR aP 70 (.slice BSlots E.aM.length cSlots) E.aM, hR aH 181 (.slice BQueue E.Queue.length cQueue) E.Queue, hR aQ 155 (.slice BAskers E.aG.length cAskers) E.aG, hB g_1_1 77 #[.int .i64 (E.Kind), .int .i64 (E.Script), .slice BSlots E.aM.length cSlots, .int .i64 (E.State), .int .i64 (E.Value.Kind), .int .i64 (E.Value.N), .slice BQueue E.Queue.length cQueue, .slice BAskers E.aG.length cAskers, .int .i64 (E.bD), .int .i64 (E.Pos), .int .i64 (E.Count), .int .i64 (E.bJ)], hB g_0_0 77 #[.int .i64 (0), .int .i64 (0), .slice none 0 0, .int .i64 (0), .int .i64 (0), .int .i64 (0), .slice none 0 0, .slice none 0 0, .int .i64 (0), .int .i64 (0), .int .i64 (0), .int .i64 (0)]] W326 := H325.pick [4, 0, 1, 2, 3, 5] kD rfl; clear H325
          obtain ⟨F333, hs334, hF335, hfr336⟩ := St.frame (l0 := [bF gc 157 A bs.length cb]) (l := [hR aP 70 (.slice BSlots E.aM.length cSlots) E.aM, hR aH 181 (.slice BQueue E.Queue.length cQueue) E.Queue, hR aQ 155 (.slice BAskers E.aG.length cAskers) E.aG, hB g_1_1 77 #[.int .i64 (E.Kind), .int .i64 (E.Script), .slice BSlots E.aM.length cSlots, .int .i64 (E.State), .int .i64 (E.Value.Kind), .int .i64 (E.Value.N), .slice BQueue E.Queue.length cQueue, .slice BAskers E.aG.length cAskers, .int .i64 (E.bD), .int .i64 (E.Pos), .int .i64 (E.Count), .int .i64 (E.bJ)], hB g_0_0 77 #[.int .i64 (0), .int .i64 (0), .slice none 0 0, .int .i64 (0), .int .i64 (0), .int .i64 (0), .slice none 0 0, .slice none 0 0, .int .i64 (0), .int .i64 (0), .int .i64 (0), .int .i64 (0)]]) H332
          refine bC ho330 Try.call43 (vs := #[.pointer (some ⟨gc, 0, none⟩), .int .i64 (2)]) rfl rfl rfl (jR 2 _ _ _ _ _ _ (CV.step hV H332.1 hF335) hn hs334) ?_
          rintro e339 W338 ⟨b331, rfl, Hn337⟩; refine ⟨_, rfl, ?_⟩
          have H340 := hfr336 _ _ Hn337; clear H332
          refine aA ?_
          refine aB rfl (aX (v := .bool (b331)) (b := true) rfl rfl rfl rfl) rfl rfl ?_
          refine aI ?_
          refine aK ?_
          refine eU (fun a' W' => ∃ (E : GEntity) (BSlots : Option Addr) (cSlots : Nat) (BQueue : Option Addr) (cQueue : Nat) (BAskers : Option Addr) (cAskers : Nat) (x' : Nat → Value), a' = bH 101 x' [(0, .pointer (some ⟨gc, 0, none⟩)), (2, .pointer (some ⟨g_0_0, 0, none⟩)), (3, .pointer (some ⟨g_1_1, 0, none⟩))] ∧ St w F0 [hR aP 70 (.slice BSlots E.aM.length cSlots) E.aM, hR aH 181 (.slice BQueue E.Queue.length cQueue) E.Queue, hR aQ 155 (.slice BAskers E.aG.length cAskers) E.aG, hB g_1_1 77 #[.int .i64 (E.Kind), .int .i64 (E.Script), .slice BSlots E.aM.length cSlots, .int .i64 (E.State), .int .i64 (E.Value.Kind), .int .i64 (E.Value.N), .slice BQueue E.Queue.length cQueue, .slice BAskers E.aG.length cAskers, .int .i64 (E.bD), .int .i64 (E.Pos), .int .i64 (E.Count), .int .i64 (E.bJ)], bF gc 157 A bs.length cb, hB g_0_0 77 #[.int .i64 (0), .int .i64 (0), .slice none 0 0, .int .i64 (0), .int .i64 (0), .int .i64 (0), .slice none 0 0, .slice none 0 0, .int .i64 (0), .int .i64 (0), .int .i64 (0), .int .i64 (0)]] W' ∧ (E.aM.length ≤ 8) ∧ (bV bT E.Queue ≤ 30) ∧ (E.aG.length ≤ 2)) ?_ ?_
          ·refine jO (b := b331) rfl (fun hc341 => ?_) (fun hc341 => ?_)
           ·refine wp_seq ?_
            refine aN [0, 1, 2, 3, 4] rfl ?_
            refine aA ?_
            refine aB rfl (aF rfl) rfl rfl ?_
            refine aA ?_
            obtain ⟨F344, hs345, hF346, hfr347⟩ := St.frame (l0 := [bF gc 157 A bs.length cb]) (l := [hR aP 70 (.slice BSlots E.aM.length cSlots) E.aM, hR aH 181 (.slice BQueue E.Queue.length cQueue) E.Queue, hR aQ 155 (.slice BAskers E.aG.length cAskers) E.aG, hB g_1_1 77 #[.int .i64 (E.Kind), .int .i64 (E.Script), .slice BSlots E.aM.length cSlots, .int .i64 (E.State), .int .i64 (E.Value.Kind), .int .i64 (E.Value.N), .slice BQueue E.Queue.length cQueue, .slice BAskers E.aG.length cAskers, .int .i64 (E.bD), .int .i64 (E.Pos), .int .i64 (E.Count), .int .i64 (E.bJ)], hB g_0_0 77 #[.int .i64 (0), .int .i64 (0), .slice none 0 0, .int .i64 (0), .int .i64 (0), .int .i64 (0), .slice none 0 0, .slice none 0 0, .int .i64 (0), .int .i64 (0), .int .i64 (0), .int .i64 (0)]]) H340
            refine bC rfl Try.call130 (vs := #[.pointer (some ⟨gc, 0, none⟩)]) rfl rfl rfl (sent_s _ _ _ _ _ _ (CV.step hV H340.1 hF346) hn hs345) ?_
            rintro e350 W349 ⟨m342, cs343, rfl, hsent, Hn348⟩; refine ⟨_, rfl, ?_⟩
            have H351 : St w F0 [hM aH m342 cs343, bF gc 157 A bs.length cb, hR aP 70 (.slice BSlots E.aM.length cSlots) E.aM, hR aH 181 (.slice BQueue E.Queue.length cQueue) E.Queue, hR aQ 155 (.slice BAskers E.aG.length cAskers) E.aG, hB g_1_1 77 #[.int .i64 (E.Kind), .int .i64 (E.Script), .slice BSlots E.aM.length cSlots, .int .i64 (E.State), .int .i64 (E.Value.Kind), .int .i64 (E.Value.N), .slice BQueue E.Queue.length cQueue, .slice BAskers E.aG.length cAskers, .int .i64 (E.bD), .int .i64 (E.Pos), .int .i64 (E.Count), .int .i64 (E.bJ)], hB g_0_0 77 #[.int .i64 (0), .int .i64 (0), .slice none 0 0, .int .i64 (0), .int .i64 (0), .int .i64 (0), .slice none 0 0, .slice none 0 0, .int .i64 (0), .int .i64 (0), .int .i64 (0), .int .i64 (0)]] W349 := hfr347 (_ :: [_]) _ Hn348; clear H340
            refine aA ?_
            refine dD rfl Try.runUnderlying65 Try.sizeOf181 kD Try.zeroValue181 rfl (eY (H351.kn 0 rfl)) rfl rfl H351 ?_
            intro g_11_2 W352 hu353 Ha354; clear H351; clear hu353
            refine aA ?_
            refine aB rfl (aU jX rfl) rfl rfl ?_
            have H356 : St w F0 [hR aH 181 (.slice (some ⟨g_11_2, 0, none⟩) 1 1) ([m342]), bF gc 157 A bs.length cb, hR aP 70 (.slice BSlots E.aM.length cSlots) E.aM, hR aH 181 (.slice BQueue E.Queue.length cQueue) E.Queue, hR aQ 155 (.slice BAskers E.aG.length cAskers) E.aG, hB g_1_1 77 #[.int .i64 (E.Kind), .int .i64 (E.Script), .slice BSlots E.aM.length cSlots, .int .i64 (E.State), .int .i64 (E.Value.Kind), .int .i64 (E.Value.N), .slice BQueue E.Queue.length cQueue, .slice BAskers E.aG.length cAskers, .int .i64 (E.bD), .int .i64 (E.Pos), .int .i64 (E.Count), .int .i64 (E.bJ)], hB g_0_0 77 #[.int .i64 (0), .int .i64 (0), .slice none 0 0, .int .i64 (0), .int .i64 (0), .int .i64 (0), .slice none 0 0, .slice none 0 0, .int .i64 (0), .int .i64 (0), .int .i64 (0), .int .i64 (0)]] W352 := Ha354.iG (eY (Ha354.kn 1 rfl)); clear Ha354
            refine aA ?_
            have H360 : St w F0 [hB g_1_1 77 #[.int .i64 (E.Kind), .int .i64 (E.Script), .slice BSlots E.aM.length cSlots, .int .i64 (E.State), .int .i64 (E.Value.Kind), .int .i64 (E.Value.N), .slice BQueue E.Queue.length cQueue, .slice BAskers E.aG.length cAskers, .int .i64 (E.bD), .int .i64 (E.Pos), .int .i64 (E.Count), .int .i64 (E.bJ)], hR aH 181 (.slice (some ⟨g_11_2, 0, none⟩) 1 1) ([m342]), bF gc 157 A bs.length cb, hR aP 70 (.slice BSlots E.aM.length cSlots) E.aM, hR aH 181 (.slice BQueue E.Queue.length cQueue) E.Queue, hR aQ 155 (.slice BAskers E.aG.length cAskers) E.aG, hB g_0_0 77 #[.int .i64 (0), .int .i64 (0), .slice none 0 0, .int .i64 (0), .int .i64 (0), .int .i64 (0), .slice none 0 0, .slice none 0 0, .int .i64 (0), .int .i64 (0), .int .i64 (0), .int .i64 (0)]] W352 := H356.pick [5, 0, 1, 2, 3, 4, 6] kD rfl; clear H356
            refine bR rfl Try.sizeOf65 rfl rfl rfl (Nat.le_of_ble_eq_true rfl) (by simp [Value.cells, Value.oneCell']) H360 ?_
            intro W357 hu358 Ha359; clear H360; clear hu358
            refine aI ?_
            refine aK ?_
            refine aN [0, 1, 2, 3] rfl ?_
            refine aA ?_
            refine aB rfl (dS (vs := [(0, .int .i64 (1)), (1, .int .i64 (2))]) (cells := #[.int .i64 (1), .int .i64 (2)]) rfl kR) rfl rfl ?_
            refine aA ?_
            refine dD rfl Try.runUnderlying75 Try.sizeOf155 kD Try.zeroValue155 rfl rfl rfl rfl Ha359 ?_
            intro g_12_1 W362 hu363 Ha364; clear Ha359; clear hu363
            refine aA ?_
            refine aB rfl (aU jY rfl) rfl rfl ?_
            have H366 : St w F0 [hM aQ (⟨1, 2⟩ : GAsker) [.int .i64 (1), .int .i64 (2)], hB g_12_1 155 #[.int .i64 (1), .int .i64 (2)], hB g_1_1 77 #[.int .i64 (E.Kind), .int .i64 (E.Script), .slice BSlots E.aM.length cSlots, .int .i64 (E.State), .int .i64 (E.Value.Kind), .int .i64 (E.Value.N), .slice (some ⟨g_11_2, 0, none⟩) 1 1, .slice BAskers E.aG.length cAskers, .int .i64 (E.bD), .int .i64 (E.Pos), .int .i64 (E.Count), .int .i64 (E.bJ)], hR aH 181 (.slice (some ⟨g_11_2, 0, none⟩) 1 1) ([m342]), bF gc 157 A bs.length cb, hR aP 70 (.slice BSlots E.aM.length cSlots) E.aM, hR aH 181 (.slice BQueue E.Queue.length cQueue) E.Queue, hR aQ 155 (.slice BAskers E.aG.length cAskers) E.aG, hB g_0_0 77 #[.int .i64 (0), .int .i64 (0), .slice none 0 0, .int .i64 (0), .int .i64 (0), .int .i64 (0), .slice none 0 0, .slice none 0 0, .int .i64 (0), .int .i64 (0), .int .i64 (0), .int .i64 (0)]] W362 := Ha364.add0 (q := hM aQ (⟨1, 2⟩ : GAsker) [.int .i64 (1), .int .i64 (2)]) (iC _ No (⟨1, 2⟩ : GAsker)); clear Ha364
            have H367 : St w F0 [hB g_12_1 155 #[.int .i64 (1), .int .i64 (2)], hM aQ (⟨1, 2⟩ : GAsker) [.int .i64 (1), .int .i64 (2)], hB g_1_1 77 #[.int .i64 (E.Kind), .int .i64 (E.Script), .slice BSlots E.aM.length cSlots, .int .i64 (E.State), .int .i64 (E.Value.Kind), .int .i64 (E.Value.N), .slice (some ⟨g_11_2, 0, none⟩) 1 1, .slice BAskers E.aG.length cAskers, .int .i64 (E.bD), .int .i64 (E.Pos), .int .i64 (E.Count), .int .i64 (E.bJ)], hR aH 181 (.slice (some ⟨g_11_2, 0, none⟩) 1 1) ([m342]), bF gc 157 A bs.length cb, hR aP 70 (.slice BSlots E.aM.length cSlots) E.aM, hR aH 181 (.slice BQueue E.Queue.length cQueue) E.Queue, hR aQ 155 (.slice BAskers E.aG.length cAskers) E.aG, hB g_0_0 77 #[.int .i64 (0), .int .i64 (0), .slice none 0 0, .int .i64 (0), .int .i64 (0), .int .i64 (0), .slice none 0 0, .slice none 0 0, .int .i64 (0), .int .i64 (0), .int .i64 (0), .int .i64 (0)]] W362 := H366.pick [1, 0, 2, 3, 4, 5, 6, 7, 8] kD rfl; clear H366
            have H368 : St w F0 [hR aQ 155 (.slice (some ⟨g_12_1, 0, none⟩) 1 1) ([(⟨1, 2⟩ : GAsker)]), hB g_1_1 77 #[.int .i64 (E.Kind), .int .i64 (E.Script), .slice BSlots E.aM.length cSlots, .int .i64 (E.State), .int .i64 (E.Value.Kind), .int .i64 (E.Value.N), .slice (some ⟨g_11_2, 0, none⟩) 1 1, .slice BAskers E.aG.length cAskers, .int .i64 (E.bD), .int .i64 (E.Pos), .int .i64 (E.Count), .int .i64 (E.bJ)], hR aH 181 (.slice (some ⟨g_11_2, 0, none⟩) 1 1) ([m342]), bF gc 157 A bs.length cb, hR aP 70 (.slice BSlots E.aM.length cSlots) E.aM, hR aH 181 (.slice BQueue E.Queue.length cQueue) E.Queue, hR aQ 155 (.slice BAskers E.aG.length cAskers) E.aG, hB g_0_0 77 #[.int .i64 (0), .int .i64 (0), .slice none 0 0, .int .i64 (0), .int .i64 (0), .int .i64 (0), .slice none 0 0, .slice none 0 0, .int .i64 (0), .int .i64 (0), .int .i64 (0), .int .i64 (0)]] W362 := H367.iG rfl; clear H367
            refine aA ?_
            have H372 : St w F0 [hB g_1_1 77 #[.int .i64 (E.Kind), .int .i64 (E.Script), .slice BSlots E.aM.length cSlots, .int .i64 (E.State), .int .i64 (E.Value.Kind), .int .i64 (E.Value.N), .slice (some ⟨g_11_2, 0, none⟩) 1 1, .slice BAskers E.aG.length cAskers, .int .i64 (E.bD), .int .i64 (E.Pos), .int .i64 (E.Count), .int .i64 (E.bJ)], hR aQ 155 (.slice (some ⟨g_12_1, 0, none⟩) 1 1) ([(⟨1, 2⟩ : GAsker)]), hR aH 181 (.slice (some ⟨g_11_2, 0, none⟩) 1 1) ([m342]), bF gc 157 A bs.length cb, hR aP 70 (.slice BSlots E.aM.length cSlots) E.aM, hR aH 181 (.slice BQueue E.Queue.length cQueue) E.Queue, hR aQ 155 (.slice BAskers E.aG.length cAskers) E.aG, hB g_0_0 77 #[.int .i64 (0), .int .i64 (0), .slice none 0 0, .int .i64 (0), .int .i64 (0), .int .i64 (0), .slice none 0 0, .slice none 0 0, .int .i64 (0), .int .i64 (0), .int .i64 (0), .int .i64 (0)]] W362 := H368.pick [1, 0, 2, 3, 4, 5, 6, 7] kD rfl; clear H368
            refine bR rfl Try.sizeOf75 rfl rfl rfl (Nat.le_of_ble_eq_true rfl) (by simp [Value.cells, Value.oneCell']) H372 ?_
            intro W369 hu370 Ha371; clear H372; clear hu370
            refine aI ?_
            exact (aZ [(0, .pointer (some ⟨gc, 0, none⟩)), (2, .pointer (some ⟨g_0_0, 0, none⟩)), (3, .pointer (some ⟨g_1_1, 0, none⟩))] rfl).elim fun x' hx => ⟨(⟨E.Kind, E.Script, E.aM, E.State, E.Value, [m342], [(⟨1, 2⟩ : GAsker)], E.bD, E.Pos, E.Count, E.bJ⟩ : GEntity), BSlots, cSlots, (some ⟨g_11_2, 0, none⟩), 1, (some ⟨g_12_1, 0, none⟩), 1, x', hx, Ha371.pick [4, 2, 1, 0, 3, 7] kD rfl, (by first | exact hE1 | exact hLq | exact Nat.le_of_ble_eq_true rfl), (by first | exact hE2 | exact eT _ hsent | exact Nat.le_of_ble_eq_true rfl), (by first | exact hE3 | exact hE3 | exact Nat.le_of_ble_eq_true rfl)⟩
           ·refine wp_skip ?_
            exact (aZ [(0, .pointer (some ⟨gc, 0, none⟩)), (2, .pointer (some ⟨g_0_0, 0, none⟩)), (3, .pointer (some ⟨g_1_1, 0, none⟩))] rfl).elim fun x' hx => ⟨E, BSlots, cSlots, BQueue, cQueue, BAskers, cAskers, x', hx, H340.pick [1, 2, 3, 4, 0, 5] kD rfl, (by first | exact hE1 | exact hLq | exact Nat.le_of_ble_eq_true rfl), (by first | exact hE2 | exact eT _ hsent | exact Nat.le_of_ble_eq_true rfl), (by first | exact hE3 | exact hE3 | exact Nat.le_of_ble_eq_true rfl)⟩
          ·rintro _ W375 ⟨E, BSlots, cSlots, BQueue, cQueue, BAskers, cAskers, x376, rfl, H374, hE1, hE2, hE3⟩
           refine eP ?_
           exact (aZ [(0, .pointer (some ⟨gc, 0, none⟩)), (2, .pointer (some ⟨g_0_0, 0, none⟩)), (3, .pointer (some ⟨g_1_1, 0, none⟩))] rfl).elim fun x' hx => ⟨E, BSlots, cSlots, BQueue, cQueue, BAskers, cAskers, x', hx, H374, (by first | exact hE1 | exact hLq | exact Nat.le_of_ble_eq_true rfl), (by first | exact hE2 | exact eT _ hsent | exact Nat.le_of_ble_eq_true rfl), (by first | exact hE3 | exact hE3 | exact Nat.le_of_ble_eq_true rfl)⟩
         ·refine aA ?_
          refine aB rfl (bZ hg328 (bS rfl rfl)) rfl rfl ?_
          refine aA ?_
          refine aB rfl (aF rfl) rfl rfl ?_
          refine aA ?_
          refine aD rfl rfl rfl rfl rfl rfl rfl ?_
          refine aA ?_
          refine aD rfl rfl rfl rfl rfl rfl rfl ?_
          refine aA ?_
          refine aB rfl (aX (v := .bool (false)) (b := false) rfl rfl rfl rfl) rfl rfl ?_
          refine aI ?_
          refine aK ?_
          refine eU (fun a' W' => ∃ (E : GEntity) (BSlots : Option Addr) (cSlots : Nat) (BQueue : Option Addr) (cQueue : Nat) (BAskers : Option Addr) (cAskers : Nat) (x' : Nat → Value), a' = bH 101 x' [(0, .pointer (some ⟨gc, 0, none⟩)), (2, .pointer (some ⟨g_0_0, 0, none⟩)), (3, .pointer (some ⟨g_1_1, 0, none⟩))] ∧ St w F0 [hR aP 70 (.slice BSlots E.aM.length cSlots) E.aM, hR aH 181 (.slice BQueue E.Queue.length cQueue) E.Queue, hR aQ 155 (.slice BAskers E.aG.length cAskers) E.aG, hB g_1_1 77 #[.int .i64 (E.Kind), .int .i64 (E.Script), .slice BSlots E.aM.length cSlots, .int .i64 (E.State), .int .i64 (E.Value.Kind), .int .i64 (E.Value.N), .slice BQueue E.Queue.length cQueue, .slice BAskers E.aG.length cAskers, .int .i64 (E.bD), .int .i64 (E.Pos), .int .i64 (E.Count), .int .i64 (E.bJ)], bF gc 157 A bs.length cb, hB g_0_0 77 #[.int .i64 (0), .int .i64 (0), .slice none 0 0, .int .i64 (0), .int .i64 (0), .int .i64 (0), .slice none 0 0, .slice none 0 0, .int .i64 (0), .int .i64 (0), .int .i64 (0), .int .i64 (0)]] W' ∧ (E.aM.length ≤ 8) ∧ (bV bT E.Queue ≤ 30) ∧ (E.aG.length ≤ 2)) ?_ ?_
          ·refine fA rfl ?_
           refine wp_skip ?_
           exact (aZ [(0, .pointer (some ⟨gc, 0, none⟩)), (2, .pointer (some ⟨g_0_0, 0, none⟩)), (3, .pointer (some ⟨g_1_1, 0, none⟩))] rfl).elim fun x' hx => ⟨E, BSlots, cSlots, BQueue, cQueue, BAskers, cAskers, x', hx, H325, (by first | exact hE1 | exact hLq | exact Nat.le_of_ble_eq_true rfl), (by first | exact hE2 | exact eT _ hsent | exact Nat.le_of_ble_eq_true rfl), (by first | exact hE3 | exact hE3 | exact Nat.le_of_ble_eq_true rfl)⟩
          ·rintro _ W378 ⟨E, BSlots, cSlots, BQueue, cQueue, BAskers, cAskers, x379, rfl, H377, hE1, hE2, hE3⟩
           refine eP ?_
           exact (aZ [(0, .pointer (some ⟨gc, 0, none⟩)), (2, .pointer (some ⟨g_0_0, 0, none⟩)), (3, .pointer (some ⟨g_1_1, 0, none⟩))] rfl).elim fun x' hx => ⟨E, BSlots, cSlots, BQueue, cQueue, BAskers, cAskers, x', hx, H377, (by first | exact hE1 | exact hLq | exact Nat.le_of_ble_eq_true rfl), (by first | exact hE2 | exact eT _ hsent | exact Nat.le_of_ble_eq_true rfl), (by first | exact hE3 | exact hE3 | exact Nat.le_of_ble_eq_true rfl)⟩
    ·refine aA ?_
     refine aB rfl (bZ hg119 (bS rfl rfl)) rfl rfl ?_
     refine aA ?_
     refine aB rfl (aF rfl) rfl rfl ?_
     refine aA ?_
     refine bL rfl rfl rfl rfl (fun _ ho380 => ?_)
     refine aB ho380 (aU fV rfl) rfl rfl ?_
     refine aA ?_
     refine bL rfl rfl rfl rfl (fun _ ho381 => ?_)
     refine aB ho381 (bB (k := 3) (v := .int .i64 ((1 + q103))) Try.isAgg3 rfl (Ha116.blk 0 rfl) rfl) rfl rfl ?_
     by_cases hg382 : ((1 + q103) : Int) = 4
     ·refine aA ?_
      refine bL rfl rfl rfl rfl (fun _ ho383 => ?_)
      refine aB ho383 (bX hg382 (bS rfl rfl)) rfl rfl ?_
      refine aA ?_
      refine aB rfl (aX (v := .bool (true)) (b := false) rfl rfl rfl rfl) rfl rfl ?_
      refine aI ?_
      refine aK ?_
      refine eU (fun a' W' => ∃ (E : GEntity) (BSlots : Option Addr) (cSlots : Nat) (BQueue : Option Addr) (cQueue : Nat) (BAskers : Option Addr) (cAskers : Nat) (x' : Nat → Value), a' = bH 101 x' [(0, .pointer (some ⟨gc, 0, none⟩)), (2, .pointer (some ⟨g_0_0, 0, none⟩)), (3, .pointer (some ⟨g_1_1, 0, none⟩))] ∧ St w F0 [hR aP 70 (.slice BSlots E.aM.length cSlots) E.aM, hR aH 181 (.slice BQueue E.Queue.length cQueue) E.Queue, hR aQ 155 (.slice BAskers E.aG.length cAskers) E.aG, hB g_1_1 77 #[.int .i64 (E.Kind), .int .i64 (E.Script), .slice BSlots E.aM.length cSlots, .int .i64 (E.State), .int .i64 (E.Value.Kind), .int .i64 (E.Value.N), .slice BQueue E.Queue.length cQueue, .slice BAskers E.aG.length cAskers, .int .i64 (E.bD), .int .i64 (E.Pos), .int .i64 (E.Count), .int .i64 (E.bJ)], bF gc 157 A bs.length cb, hB g_0_0 77 #[.int .i64 (0), .int .i64 (0), .slice none 0 0, .int .i64 (0), .int .i64 (0), .int .i64 (0), .slice none 0 0, .slice none 0 0, .int .i64 (0), .int .i64 (0), .int .i64 (0), .int .i64 (0)]] W' ∧ (E.aM.length ≤ 8) ∧ (bV bT E.Queue ≤ 30) ∧ (E.aG.length ≤ 2)) ?_ ?_
      ·refine fK rfl ?_
       refine aN [0, 1, 2, 3, 4] rfl ?_
       refine aA ?_
       refine aB rfl (aF rfl) rfl rfl ?_
       refine aA ?_
       have H386 : St w F0 [bF gc 157 A bs.length cb, hB g_1_1 77 #[.int .i64 (prm.Kind), .int .i64 (prm.Script), .slice B_3_0_2 prm.aM.length c_3_0_2, .int .i64 ((1 + q103)), .int .i64 (prm.Value.Kind), .int .i64 (prm.Value.N), .slice B_3_0_6 prm.Queue.length c_3_0_6, .slice B_3_0_7 prm.aG.length c_3_0_7, .int .i64 (prm.bD), .int .i64 (prm.Pos), .int .i64 (prm.Count), .int .i64 (prm.bJ)], hR aP 70 (.slice B_3_0_2 prm.aM.length c_3_0_2) prm.aM, hR aH 181 (.slice B_3_0_6 prm.Queue.length c_3_0_6) prm.Queue, hR aQ 155 (.slice B_3_0_7 prm.aG.length c_3_0_7) prm.aG, hB g_0_0 77 #[.int .i64 (0), .int .i64 (0), .slice none 0 0, .int .i64 (0), .int .i64 (0), .int .i64 (0), .slice none 0 0, .slice none 0 0, .int .i64 (0), .int .i64 (0), .int .i64 (0), .int .i64 (0)]] W114 := Ha116.pick [1, 0, 2, 3, 4, 5] kD rfl; clear Ha116
       obtain ⟨F387, hs388, hF389, hfr390⟩ := St.frame (l0 := [bF gc 157 A bs.length cb]) (l := [hB g_1_1 77 #[.int .i64 (prm.Kind), .int .i64 (prm.Script), .slice B_3_0_2 prm.aM.length c_3_0_2, .int .i64 ((1 + q103)), .int .i64 (prm.Value.Kind), .int .i64 (prm.Value.N), .slice B_3_0_6 prm.Queue.length c_3_0_6, .slice B_3_0_7 prm.aG.length c_3_0_7, .int .i64 (prm.bD), .int .i64 (prm.Pos), .int .i64 (prm.Count), .int .i64 (prm.bJ)], hR aP 70 (.slice B_3_0_2 prm.aM.length c_3_0_2) prm.aM, hR aH 181 (.slice B_3_0_6 prm.Queue.length c_3_0_6) prm.Queue, hR aQ 155 (.slice B_3_0_7 prm.aG.length c_3_0_7) prm.aG, hB g_0_0 77 #[.int .i64 (0), .int .i64 (0), .slice none 0 0, .int .i64 (0), .int .i64 (0), .int .i64 (0), .slice none 0 0, .slice none 0 0, .int .i64 (0), .int .i64 (0), .int .i64 (0), .int .i64 (0)]]) H386
       refine bC rfl Try.call44 (vs := #[.pointer (some ⟨gc, 0, none⟩), .int .i64 (9)]) rfl rfl rfl (dN 9 _ _ _ _ _ _ (CV.step hV H386.1 hF389) hn hs388) ?_
       rintro e393 W392 ⟨q384, rfl, hq385, Hn391⟩; refine ⟨_, rfl, ?_⟩
       have H394 := hfr390 _ _ Hn391; clear H386
       refine aA ?_
       refine bC rfl Try.call122 (vs := #[.int .i64 (q384)]) rfl rfl rfl (jS q384 _) ?_
       rintro e399 W398 ⟨k395, v396, rfl, hu397⟩; refine ⟨_, rfl, ?_⟩
       have H400 := H394.no hu397; clear H394
       refine aA ?_
       refine aB rfl (aU kI rfl) rfl rfl ?_
       refine aA ?_
       have H404 : St w F0 [hB g_1_1 77 #[.int .i64 (prm.Kind), .int .i64 (prm.Script), .slice B_3_0_2 prm.aM.length c_3_0_2, .int .i64 ((1 + q103)), .int .i64 (prm.Value.Kind), .int .i64 (prm.Value.N), .slice B_3_0_6 prm.Queue.length c_3_0_6, .slice B_3_0_7 prm.aG.length c_3_0_7, .int .i64 (prm.bD), .int .i64 (prm.Pos), .int .i64 (prm.Count), .int .i64 (prm.bJ)], bF gc 157 A bs.length cb, hR aP 70 (.slice B_3_0_2 prm.aM.length c_3_0_2) prm.aM, hR aH 181 (.slice B_3_0_6 prm.Queue.length c_3_0_6) prm.Queue, hR aQ 155 (.slice B_3_0_7 prm.aG.length c_3_0_7) prm.aG, hB g_0_0 77 #[.int .i64 (0), .int .i64 (0), .slice none 0 0, .int .i64 (0), .int .i64 (0), .int .i64 (0), .slice none 0 0, .slice none 0 0, .int .i64 (0), .int .i64 (0), .int .i64 (0), .int .i64 (0)]] W398 := H400.pick [1, 0, 2, 3, 4, 5] kD rfl; clear H400
       refine bR rfl Try.sizeOf70 rfl rfl rfl (Nat.le_of_ble_eq_true rfl) (by simp [Value.cells, Value.oneCell']) H404 ?_
       intro W401 hu402 Ha403; clear H404; clear hu402
       refine aI ?_
       exact (aZ [(0, .pointer (some ⟨gc, 0, none⟩)), (2, .pointer (some ⟨g_0_0, 0, none⟩)), (3, .pointer (some ⟨g_1_1, 0, none⟩))] rfl).elim fun x' hx => ⟨(⟨prm.Kind, prm.Script, prm.aM, (1 + q103), (⟨k395, v396⟩ : GValue), prm.Queue, prm.aG, prm.bD, prm.Pos, prm.Count, prm.bJ⟩ : GEntity), B_3_0_2, c_3_0_2, B_3_0_6, c_3_0_6, B_3_0_7, c_3_0_7, x', hx, Ha403.pick [2, 3, 4, 0, 1, 5] kD rfl, (by first | exact hE1 | exact hLq | exact Nat.le_of_ble_eq_true rfl), (by first | exact hE2 | exact eT _ hsent | exact Nat.le_of_ble_eq_true rfl), (by first | exact hE3 | exact hE3 | exact Nat.le_of_ble_eq_true rfl)⟩
      ·rintro _ W407 ⟨E, BSlots, cSlots, BQueue, cQueue, BAskers, cAskers, x408, rfl, H406, hE1, hE2, hE3⟩
       refine aK ?_
       refine wp_seq ?_
       refine wp_seq ?_
       refine aN [0, 1, 2, 3, 4, 5, 6, 7] rfl ?_
       refine aA ?_
       refine aB rfl (aU fV rfl) rfl rfl ?_
       refine aA ?_
       refine aB rfl (bB (k := 3) (v := .int .i64 (E.State)) Try.isAgg3 rfl (H406.blk 3 rfl) rfl) rfl rfl ?_
       by_cases hg409 : (E.State : Int) = 3
       ·refine aA ?_
        refine aB rfl (bX hg409 (bS rfl rfl)) rfl rfl ?_
        refine aA ?_
        refine aB rfl (aF rfl) rfl rfl ?_
        refine aA ?_
        refine aD rfl rfl rfl rfl rfl rfl rfl ?_
        refine aA ?_
        refine aD rfl rfl rfl rfl rfl rfl rfl ?_
        refine aA ?_
        refine aD rfl rfl rfl rfl rfl rfl rfl ?_
        refine aA ?_
        refine aB rfl (aX (v := .bool (true)) (b := true) rfl rfl rfl rfl) rfl rfl ?_
        refine aI ?_
        refine aK ?_
        refine eU (fun a' W' => ∃ (E : GEntity) (BSlots : Option Addr) (cSlots : Nat) (BQueue : Option Addr) (cQueue : Nat) (BAskers : Option Addr) (cAskers : Nat) (x' : Nat → Value), a' = bH 101 x' [(0, .pointer (some ⟨gc, 0, none⟩)), (2, .pointer (some ⟨g_0_0, 0, none⟩)), (3, .pointer (some ⟨g_1_1, 0, none⟩))] ∧ St w F0 [hR aP 70 (.slice BSlots E.aM.length cSlots) E.aM, hR aH 181 (.slice BQueue E.Queue.length cQueue) E.Queue, hR aQ 155 (.slice BAskers E.aG.length cAskers) E.aG, hB g_1_1 77 #[.int .i64 (E.Kind), .int .i64 (E.Script), .slice BSlots E.aM.length cSlots, .int .i64 (E.State), .int .i64 (E.Value.Kind), .int .i64 (E.Value.N), .slice BQueue E.Queue.length cQueue, .slice BAskers E.aG.length cAskers, .int .i64 (E.bD), .int .i64 (E.Pos), .int .i64 (E.Count), .int .i64 (E.bJ)], bF gc 157 A bs.length cb, hB g_0_0 77 #[.int .i64 (0), .int .i64 (0), .slice none 0 0, .int .i64 (0), .int .i64 (0), .int .i64 (0), .slice none 0 0, .slice none 0 0, .int .i64 (0), .int .i64 (0), .int .i64 (0), .int .i64 (0)]] W' ∧ (E.aM.length ≤ 8) ∧ (bV bT E.Queue ≤ 30) ∧ (E.aG.length ≤ 2)) ?_ ?_
        ·refine fK rfl ?_
         refine wp_seq ?_
         refine aN [0, 1, 2, 3, 4] rfl ?_
         refine aA ?_
         refine aB rfl (aF rfl) rfl rfl ?_
         refine aA ?_
         have H412 : St w F0 [bF gc 157 A bs.length cb, hR aP 70 (.slice BSlots E.aM.length cSlots) E.aM, hR aH 181 (.slice BQueue E.Queue.length cQueue) E.Queue, hR aQ 155 (.slice BAskers E.aG.length cAskers) E.aG, hB g_1_1 77 #[.int .i64 (E.Kind), .int .i64 (E.Script), .slice BSlots E.aM.length cSlots, .int .i64 (E.State), .int .i64 (E.Value.Kind), .int .i64 (E.Value.N), .slice BQueue E.Queue.length cQueue, .slice BAskers E.aG.length cAskers, .int .i64 (E.bD), .int .i64 (E.Pos), .int .i64 (E.Count), .int .i64 (E.bJ)], hB g_0_0 77 #[.int .i64 (0), .int .i64 (0), .slice none 0 0, .int .i64 (0), .int .i64 (0), .int .i64 (0), .slice none 0 0, .slice none 0 0, .int .i64 (0), .int .i64 (0), .int .i64 (0), .int .i64 (0)]] W407 := H406.pick [4, 0, 1, 2, 3, 5] kD rfl; clear H406
         obtain ⟨F413, hs414, hF415, hfr416⟩ := St.frame (l0 := [bF gc 157 A bs.length cb]) (l := [hR aP 70 (.slice BSlots E.aM.length cSlots) E.aM, hR aH 181 (.slice BQueue E.Queue.length cQueue) E.Queue, hR aQ 155 (.slice BAskers E.aG.length cAskers) E.aG, hB g_1_1 77 #[.int .i64 (E.Kind), .int .i64 (E.Script), .slice BSlots E.aM.length cSlots, .int .i64 (E.State), .int .i64 (E.Value.Kind), .int .i64 (E.Value.N), .slice BQueue E.Queue.length cQueue, .slice BAskers E.aG.length cAskers, .int .i64 (E.bD), .int .i64 (E.Pos), .int .i64 (E.Count), .int .i64 (E.bJ)], hB g_0_0 77 #[.int .i64 (0), .int .i64 (0), .slice none 0 0, .int .i64 (0), .int .i64 (0), .int .i64 (0), .slice none 0 0, .slice none 0 0, .int .i64 (0), .int .i64 (0), .int .i64 (0), .int .i64 (0)]]) H412
         refine bC rfl Try.call44 (vs := #[.pointer (some ⟨gc, 0, none⟩), .int .i64 (3)]) rfl rfl rfl (dN 3 _ _ _ _ _ _ (CV.step hV H412.1 hF415) hn hs414) ?_
         rintro e419 W418 ⟨q410, rfl, hq411, Hn417⟩; refine ⟨_, rfl, ?_⟩
         have H420 := hfr416 _ _ Hn417; clear H412
         refine aA ?_
         refine aB rfl (gV rfl rfl kO) rfl rfl ?_
         refine aA ?_
         refine aB rfl (aU jZ rfl) rfl rfl ?_
         refine aA ?_
         have H424 : St w F0 [hB g_1_1 77 #[.int .i64 (E.Kind), .int .i64 (E.Script), .slice BSlots E.aM.length cSlots, .int .i64 (E.State), .int .i64 (E.Value.Kind), .int .i64 (E.Value.N), .slice BQueue E.Queue.length cQueue, .slice BAskers E.aG.length cAskers, .int .i64 (E.bD), .int .i64 (E.Pos), .int .i64 (E.Count), .int .i64 (E.bJ)], bF gc 157 A bs.length cb, hR aP 70 (.slice BSlots E.aM.length cSlots) E.aM, hR aH 181 (.slice BQueue E.Queue.length cQueue) E.Queue, hR aQ 155 (.slice BAskers E.aG.length cAskers) E.aG, hB g_0_0 77 #[.int .i64 (0), .int .i64 (0), .slice none 0 0, .int .i64 (0), .int .i64 (0), .int .i64 (0), .slice none 0 0, .slice none 0 0, .int .i64 (0), .int .i64 (0), .int .i64 (0), .int .i64 (0)]] W418 := H420.pick [4, 0, 1, 2, 3, 5] kD rfl; clear H420
         refine bR rfl Try.sizeOf3 rfl rfl rfl (Nat.le_of_ble_eq_true rfl) (by simp [Value.cells, Value.oneCell']) H424 ?_
         intro W421 hu422 Ha423; clear H424; clear hu422
         refine aI ?_
         refine aK ?_
         refine aN [0, 1, 2, 3, 4] rfl ?_
         refine aA ?_
         refine aB rfl (aF rfl) rfl rfl ?_
         refine aA ?_
         have H428 : St w F0 [bF gc 157 A bs.length cb, hB g_1_1 77 #[.int .i64 (E.Kind), .int .i64 (E.Script), .slice BSlots E.aM.length cSlots, .int .i64 (E.State), .int .i64 (E.Value.Kind), .int .i64 (E.Value.N), .slice BQueue E.Queue.length cQueue, .slice BAskers E.aG.length cAskers, .int .i64 ((1 + q410)), .int .i64 (E.Pos), .int .i64 (E.Count), .int .i64 (E.bJ)], hR aP 70 (.slice BSlots E.aM.length cSlots) E.aM, hR aH 181 (.slice BQueue E.Queue.length cQueue) E.Queue, hR aQ 155 (.slice BAskers E.aG.length cAskers) E.aG, hB g_0_0 77 #[.int .i64 (0), .int .i64 (0), .slice none 0 0, .int .i64 (0), .int .i64 (0), .int .i64 (0), .slice none 0 0, .slice none 0 0, .int .i64 (0), .int .i64 (0), .int .i64 (0), .int .i64 (0)]] W421 := Ha423.pick [1, 0, 2, 3, 4, 5] kD rfl; clear Ha423
         obtain ⟨F429, hs430, hF431, hfr432⟩ := St.frame (l0 := [bF gc 157 A bs.length cb]) (l := [hB g_1_1 77 #[.int .i64 (E.Kind), .int .i64 (E.Script), .slice BSlots E.aM.length cSlots, .int .i64 (E.State), .int .i64 (E.Value.Kind), .int .i64 (E.Value.N), .slice BQueue E.Queue.length cQueue, .slice BAskers E.aG.length cAskers, .int .i64 ((1 + q410)), .int .i64 (E.Pos), .int .i64 (E.Count), .int .i64 (E.bJ)], hR aP 70 (.slice BSlots E.aM.length cSlots) E.aM, hR aH 181 (.slice BQueue E.Queue.length cQueue) E.Queue, hR aQ 155 (.slice BAskers E.aG.length cAskers) E.aG, hB g_0_0 77 #[.int .i64 (0), .int .i64 (0), .slice none 0 0, .int .i64 (0), .int .i64 (0), .int .i64 (0), .slice none 0 0, .slice none 0 0, .int .i64 (0), .int .i64 (0), .int .i64 (0), .int .i64 (0)]]) H428
         refine bC rfl Try.call44 (vs := #[.pointer (some ⟨gc, 0, none⟩), .int .i64 (5)]) rfl rfl rfl (dN 5 _ _ _ _ _ _ (CV.step hV H428.1 hF431) hn hs430) ?_
         rintro e435 W434 ⟨q426, rfl, hq427, Hn433⟩; refine ⟨_, rfl, ?_⟩
         have H436 := hfr432 _ _ Hn433; clear H428
         refine aA ?_
         refine aB rfl (gV rfl rfl kO) rfl rfl ?_
         refine aA ?_
         refine aB rfl (aU kT rfl) rfl rfl ?_
         refine aA ?_
         have H440 : St w F0 [hB g_1_1 77 #[.int .i64 (E.Kind), .int .i64 (E.Script), .slice BSlots E.aM.length cSlots, .int .i64 (E.State), .int .i64 (E.Value.Kind), .int .i64 (E.Value.N), .slice BQueue E.Queue.length cQueue, .slice BAskers E.aG.length cAskers, .int .i64 ((1 + q410)), .int .i64 (E.Pos), .int .i64 (E.Count), .int .i64 (E.bJ)], bF gc 157 A bs.length cb, hR aP 70 (.slice BSlots E.aM.length cSlots) E.aM, hR aH 181 (.slice BQueue E.Queue.length cQueue) E.Queue, hR aQ 155 (.slice BAskers E.aG.length cAskers) E.aG, hB g_0_0 77 #[.int .i64 (0), .int .i64 (0), .slice none 0 0, .int .i64 (0), .int .i64 (0), .int .i64 (0), .slice none 0 0, .slice none 0 0, .int .i64 (0), .int .i64 (0), .int .i64 (0), .int .i64 (0)]] W434 := H436.pick [1, 0, 2, 3, 4, 5] kD rfl; clear H436
         refine bR rfl Try.sizeOf3 rfl rfl rfl (Nat.le_of_ble_eq_true rfl) (by simp [Value.cells, Value.oneCell']) H440 ?_
         intro W437 hu438 Ha439; clear H440; clear hu438
         refine aI ?_
         exact (aZ [(0, .pointer (some ⟨gc, 0, none⟩)), (2, .pointer (some ⟨g_0_0, 0, none⟩)), (3, .pointer (some ⟨g_1_1, 0, none⟩))] rfl).elim fun x' hx => ⟨(⟨E.Kind, E.Script, E.aM, E.State, E.Value, E.Queue, E.aG, (1 + q410), (1 + q426), E.Count, E.bJ⟩ : GEntity), BSlots, cSlots, BQueue, cQueue, BAskers, cAskers, x', hx, Ha439.pick [2, 3, 4, 0, 1, 5] kD rfl, (by first | exact hE1 | exact hLq | exact Nat.le_of_ble_eq_true rfl), (by first | exact hE2 | exact eT _ hsent | exact Nat.le_of_ble_eq_true rfl), (by first | exact hE3 | exact hE3 | exact Nat.le_of_ble_eq_true rfl)⟩
        ·rintro _ W443 ⟨E, BSlots, cSlots, BQueue, cQueue, BAskers, cAskers, x444, rfl, H442, hE1, hE2, hE3⟩
         refine aK ?_
         refine wp_seq ?_
         refine aN [0, 1, 2, 3, 4, 5, 6] rfl ?_
         refine aA ?_
         refine aB rfl (aU fV rfl) rfl rfl ?_
         refine aA ?_
         refine aB rfl (bB (k := 3) (v := .int .i64 (E.State)) Try.isAgg3 rfl (H442.blk 3 rfl) rfl) rfl rfl ?_
         by_cases hg445 : (E.State : Int) = 1
         ·refine aA ?_
          refine aB rfl (bX hg445 (bS rfl rfl)) rfl rfl ?_
          refine aA ?_
          refine aB rfl (aF rfl) rfl rfl ?_
          refine aA ?_
          refine bL rfl rfl rfl rfl (fun _ ho446 => ?_)
          refine aB ho446 (aF rfl) rfl rfl ?_
          refine aA ?_
          refine bL rfl rfl rfl rfl (fun _ ho447 => ?_)
          have H449 : St w F0 [bF gc 157 A bs.length cb, hR aP 70 (.slice BSlots E.aM.length cSlots) E.aM, hR aH 181 (.slice BQueue E.Queue.length cQueue) E.Queue, hR aQ 155 (.slice BAskers E.aG.length cAskers) E.aG, hB g_1_1 77 #[.int .i64 (E.Kind), .int .i64 (E.Script), .slice BSlots E.aM.length cSlots, .int .i64 (E.State), .int .i64 (E.Value.Kind), .int .i64 (E.Value.N), .slice BQueue E.Queue.length cQueue, .slice BAskers E.aG.length cAskers, .int .i64 (E.bD), .int .i64 (E.Pos), .int .i64 (E.Count), .int .i64 (E.bJ)], hB g_0_0 77 #[.int .i64 (0), .int .i64 (0), .slice none 0 0, .int .i64 (0), .int .i64 (0), .int .i64 (0), .slice none 0 0, .slice none 0 0, .int .i64 (0), .int .i64 (0), .int .i64 (0), .int .i64 (0)]] W443 := H442.pick [4, 0, 1, 2, 3, 5] kD rfl; clear H442
          obtain ⟨F450, hs451, hF452, hfr453⟩ := St.frame (l0 := [bF gc 157 A bs.length cb]) (l := [hR aP 70 (.slice BSlots E.aM.length cSlots) E.aM, hR aH 181 (.slice BQueue E.Queue.length cQueue) E.Queue, hR aQ 155 (.slice BAskers E.aG.length cAskers) E.aG, hB g_1_1 77 #[.int .i64 (E.Kind), .int .i64 (E.Script), .slice BSlots E.aM.length cSlots, .int .i64 (E.State), .int .i64 (E.Value.Kind), .int .i64 (E.Value.N), .slice BQueue E.Queue.length cQueue, .slice BAskers E.aG.length cAskers, .int .i64 (E.bD), .int .i64 (E.Pos), .int .i64 (E.Count), .int .i64 (E.bJ)], hB g_0_0 77 #[.int .i64 (0), .int .i64 (0), .slice none 0 0, .int .i64 (0), .int .i64 (0), .int .i64 (0), .slice none 0 0, .slice none 0 0, .int .i64 (0), .int .i64 (0), .int .i64 (0), .int .i64 (0)]]) H449
          refine bC ho447 Try.call43 (vs := #[.pointer (some ⟨gc, 0, none⟩), .int .i64 (2)]) rfl rfl rfl (jR 2 _ _ _ _ _ _ (CV.step hV H449.1 hF452) hn hs451) ?_
          rintro e456 W455 ⟨b448, rfl, Hn454⟩; refine ⟨_, rfl, ?_⟩
          have H457 := hfr453 _ _ Hn454; clear H449
          refine aA ?_
          refine aB rfl (aX (v := .bool (b448)) (b := true) rfl rfl rfl rfl) rfl rfl ?_
          refine aI ?_
          refine aK ?_
          refine eU (fun a' W' => ∃ (E : GEntity) (BSlots : Option Addr) (cSlots : Nat) (BQueue : Option Addr) (cQueue : Nat) (BAskers : Option Addr) (cAskers : Nat) (x' : Nat → Value), a' = bH 101 x' [(0, .pointer (some ⟨gc, 0, none⟩)), (2, .pointer (some ⟨g_0_0, 0, none⟩)), (3, .pointer (some ⟨g_1_1, 0, none⟩))] ∧ St w F0 [hR aP 70 (.slice BSlots E.aM.length cSlots) E.aM, hR aH 181 (.slice BQueue E.Queue.length cQueue) E.Queue, hR aQ 155 (.slice BAskers E.aG.length cAskers) E.aG, hB g_1_1 77 #[.int .i64 (E.Kind), .int .i64 (E.Script), .slice BSlots E.aM.length cSlots, .int .i64 (E.State), .int .i64 (E.Value.Kind), .int .i64 (E.Value.N), .slice BQueue E.Queue.length cQueue, .slice BAskers E.aG.length cAskers, .int .i64 (E.bD), .int .i64 (E.Pos), .int .i64 (E.Count), .int .i64 (E.bJ)], bF gc 157 A bs.length cb, hB g_0_0 77 #[.int .i64 (0), .int .i64 (0), .slice none 0 0, .int .i64 (0), .int .i64 (0), .int .i64 (0), .slice none 0 0, .slice none 0 0, .int .i64 (0), .int .i64 (0), .int .i64 (0), .int .i64 (0)]] W' ∧ (E.aM.length ≤ 8) ∧ (bV bT E.Queue ≤ 30) ∧ (E.aG.length ≤ 2)) ?_ ?_
          ·refine jO (b := b448) rfl (fun hc458 => ?_) (fun hc458 => ?_)
           ·refine wp_seq ?_
            refine aN [0, 1, 2, 3, 4] rfl ?_
            refine aA ?_
            refine aB rfl (aF rfl) rfl rfl ?_
            refine aA ?_
            obtain ⟨F461, hs462, hF463, hfr464⟩ := St.frame (l0 := [bF gc 157 A bs.length cb]) (l := [hR aP 70 (.slice BSlots E.aM.length cSlots) E.aM, hR aH 181 (.slice BQueue E.Queue.length cQueue) E.Queue, hR aQ 155 (.slice BAskers E.aG.length cAskers) E.aG, hB g_1_1 77 #[.int .i64 (E.Kind), .int .i64 (E.Script), .slice BSlots E.aM.length cSlots, .int .i64 (E.State), .int .i64 (E.Value.Kind), .int .i64 (E.Value.N), .slice BQueue E.Queue.length cQueue, .slice BAskers E.aG.length cAskers, .int .i64 (E.bD), .int .i64 (E.Pos), .int .i64 (E.Count), .int .i64 (E.bJ)], hB g_0_0 77 #[.int .i64 (0), .int .i64 (0), .slice none 0 0, .int .i64 (0), .int .i64 (0), .int .i64 (0), .slice none 0 0, .slice none 0 0, .int .i64 (0), .int .i64 (0), .int .i64 (0), .int .i64 (0)]]) H457
            refine bC rfl Try.call130 (vs := #[.pointer (some ⟨gc, 0, none⟩)]) rfl rfl rfl (sent_s _ _ _ _ _ _ (CV.step hV H457.1 hF463) hn hs462) ?_
            rintro e467 W466 ⟨m459, cs460, rfl, hsent, Hn465⟩; refine ⟨_, rfl, ?_⟩
            have H468 : St w F0 [hM aH m459 cs460, bF gc 157 A bs.length cb, hR aP 70 (.slice BSlots E.aM.length cSlots) E.aM, hR aH 181 (.slice BQueue E.Queue.length cQueue) E.Queue, hR aQ 155 (.slice BAskers E.aG.length cAskers) E.aG, hB g_1_1 77 #[.int .i64 (E.Kind), .int .i64 (E.Script), .slice BSlots E.aM.length cSlots, .int .i64 (E.State), .int .i64 (E.Value.Kind), .int .i64 (E.Value.N), .slice BQueue E.Queue.length cQueue, .slice BAskers E.aG.length cAskers, .int .i64 (E.bD), .int .i64 (E.Pos), .int .i64 (E.Count), .int .i64 (E.bJ)], hB g_0_0 77 #[.int .i64 (0), .int .i64 (0), .slice none 0 0, .int .i64 (0), .int .i64 (0), .int .i64 (0), .slice none 0 0, .slice none 0 0, .int .i64 (0), .int .i64 (0), .int .i64 (0), .int .i64 (0)]] W466 := hfr464 (_ :: [_]) _ Hn465; clear H457
            refine aA ?_
            refine dD rfl Try.runUnderlying65 Try.sizeOf181 kD Try.zeroValue181 rfl (eY (H468.kn 0 rfl)) rfl rfl H468 ?_
            intro g_11_2 W469 hu470 Ha471; clear H468; clear hu470
            refine aA ?_
            refine aB rfl (aU jX rfl) rfl rfl ?_
            have H473 : St w F0 [hR aH 181 (.slice (some ⟨g_11_2, 0, none⟩) 1 1) ([m459]), bF gc 157 A bs.length cb, hR aP 70 (.slice BSlots E.aM.length cSlots) E.aM, hR aH 181 (.slice BQueue E.Queue.length cQueue) E.Queue, hR aQ 155 (.slice BAskers E.aG.length cAskers) E.aG, hB g_1_1 77 #[.int .i64 (E.Kind), .int .i64 (E.Script), .slice BSlots E.aM.length cSlots, .int .i64 (E.State), .int .i64 (E.Value.Kind), .int .i64 (E.Value.N), .slice BQueue E.Queue.length cQueue, .slice BAskers E.aG.length cAskers, .int .i64 (E.bD), .int .i64 (E.Pos), .int .i64 (E.Count), .int .i64 (E.bJ)], hB g_0_0 77 #[.int .i64 (0), .int .i64 (0), .slice none 0 0, .int .i64 (0), .int .i64 (0), .int .i64 (0), .slice none 0 0, .slice none 0 0, .int .i64 (0), .int .i64 (0), .int .i64 (0), .int .i64 (0)]] W469 := Ha471.iG (eY (Ha471.kn 1 rfl)); clear Ha471
            refine aA ?_
            have H477 : St w F0 [hB g_1_1 77 #[.int .i64 (E.Kind), .int .i64 (E.Script), .slice BSlots E.aM.length cSlots, .int .i64 (E.State), .int .i64 (E.Value.Kind), .int .i64 (E.Value.N), .slice BQueue E.Queue.length cQueue, .slice BAskers E.aG.length cAskers, .int .i64 (E.bD), .int .i64 (E.Pos), .int .i64 (E.Count), .int .i64 (E.bJ)], hR aH 181 (.slice (some ⟨g_11_2, 0, none⟩) 1 1) ([m459]), bF gc 157 A bs.length cb, hR aP 70 (.slice BSlots E.aM.length cSlots) E.aM, hR aH 181 (.slice BQueue E.Queue.length cQueue) E.Queue, hR aQ 155 (.slice BAskers E.aG.length cAskers) E.aG, hB g_0_0 77 #[.int .i64 (0), .int .i64 (0), .slice none 0 0, .int .i64 (0), .int .i64 (0), .int .i64 (0), .slice none 0 0, .slice none 0 0, .int .i64 (0), .int .i64 (0), .int .i64 (0), .int .i64 (0)]] W469 := H473.pick [5, 0, 1, 2, 3, 4, 6] kD rfl; clear H473
            refine bR rfl Try.sizeOf65 rfl rfl rfl (Nat.le_of_ble_eq_true rfl) (by simp [Value.cells, Value.oneCell']) H477 ?_
            intro W474 hu475 Ha476; clear H477; clear hu475
            refine aI ?_
            refine aK ?_
            refine aN [0, 1, 2, 3] rfl ?_
            refine aA ?_
            refine aB rfl (dS (vs := [(0, .int .i64 (1)), (1, .int .i64 (2))]) (cells := #[.int .i64 (1), .int .i64 (2)]) rfl kR) rfl rfl ?_
            refine aA ?_
            refine dD rfl Try.runUnderlying75 Try.sizeOf155 kD Try.zeroValue155 rfl rfl rfl rfl Ha476 ?_
            intro g_12_1 W479 hu480 Ha481; clear Ha476; clear hu480
            refine aA ?_
            refine aB rfl (aU jY rfl) rfl rfl ?_
            have H483 : St w F0 [hM aQ (⟨1, 2⟩ : GAsker) [.int .i64 (1), .int .i64 (2)], hB g_12_1 155 #[.int .i64 (1), .int .i64 (2)], hB g_1_1 77 #[.int .i64 (E.Kind), .int .i64 (E.Script), .slice BSlots E.aM.length cSlots, .int .i64 (E.State), .int .i64 (E.Value.Kind), .int .i64 (E.Value.N), .slice (some ⟨g_11_2, 0, none⟩) 1 1, .slice BAskers E.aG.length cAskers, .int .i64 (E.bD), .int .i64 (E.Pos), .int .i64 (E.Count), .int .i64 (E.bJ)], hR aH 181 (.slice (some ⟨g_11_2, 0, none⟩) 1 1) ([m459]), bF gc 157 A bs.length cb, hR aP 70 (.slice BSlots E.aM.length cSlots) E.aM, hR aH 181 (.slice BQueue E.Queue.length cQueue) E.Queue, hR aQ 155 (.slice BAskers E.aG.length cAskers) E.aG, hB g_0_0 77 #[.int .i64 (0), .int .i64 (0), .slice none 0 0, .int .i64 (0), .int .i64 (0), .int .i64 (0), .slice none 0 0, .slice none 0 0, .int .i64 (0), .int .i64 (0), .int .i64 (0), .int .i64 (0)]] W479 := Ha481.add0 (q := hM aQ (⟨1, 2⟩ : GAsker) [.int .i64 (1), .int .i64 (2)]) (iC _ No (⟨1, 2⟩ : GAsker)); clear Ha481
            have H484 : St w F0 [hB g_12_1 155 #[.int .i64 (1), .int .i64 (2)], hM aQ (⟨1, 2⟩ : GAsker) [.int .i64 (1), .int .i64 (2)], hB g_1_1 77 #[.int .i64 (E.Kind), .int .i64 (E.Script), .slice BSlots E.aM.length cSlots, .int .i64 (E.State), .int .i64 (E.Value.Kind), .int .i64 (E.Value.N), .slice (some ⟨g_11_2, 0, none⟩) 1 1, .slice BAskers E.aG.length cAskers, .int .i64 (E.bD), .int .i64 (E.Pos), .int .i64 (E.Count), .int .i64 (E.bJ)], hR aH 181 (.slice (some ⟨g_11_2, 0, none⟩) 1 1) ([m459]), bF gc 157 A bs.length cb, hR aP 70 (.slice BSlots E.aM.length cSlots) E.aM, hR aH 181 (.slice BQueue E.Queue.length cQueue) E.Queue, hR aQ 155 (.slice BAskers E.aG.length cAskers) E.aG, hB g_0_0 77 #[.int .i64 (0), .int .i64 (0), .slice none 0 0, .int .i64 (0), .int .i64 (0), .int .i64 (0), .slice none 0 0, .slice none 0 0, .int .i64 (0), .int .i64 (0), .int .i64 (0), .int .i64 (0)]] W479 := H483.pick [1, 0, 2, 3, 4, 5, 6, 7, 8] kD rfl; clear H483
            have H485 : St w F0 [hR aQ 155 (.slice (some ⟨g_12_1, 0, none⟩) 1 1) ([(⟨1, 2⟩ : GAsker)]), hB g_1_1 77 #[.int .i64 (E.Kind), .int .i64 (E.Script), .slice BSlots E.aM.length cSlots, .int .i64 (E.State), .int .i64 (E.Value.Kind), .int .i64 (E.Value.N), .slice (some ⟨g_11_2, 0, none⟩) 1 1, .slice BAskers E.aG.length cAskers, .int .i64 (E.bD), .int .i64 (E.Pos), .int .i64 (E.Count), .int .i64 (E.bJ)], hR aH 181 (.slice (some ⟨g_11_2, 0, none⟩) 1 1) ([m459]), bF gc 157 A bs.length cb, hR aP 70 (.slice BSlots E.aM.length cSlots) E.aM, hR aH 181 (.slice BQueue E.Queue.length cQueue) E.Queue, hR aQ 155 (.slice BAskers E.aG.length cAskers) E.aG, hB g_0_0 77 #[.int .i64 (0), .int .i64 (0), .slice none 0 0, .int .i64 (0), .int .i64 (0), .int .i64 (0), .slice none 0 0, .slice none 0 0, .int .i64 (0), .int .i64 (0), .int .i64 (0), .int .i64 (0)]] W479 := H484.iG rfl; clear H484
            refine aA ?_
            have H489 : St w F0 [hB g_1_1 77 #[.int .i64 (E.Kind), .int .i64 (E.Script), .slice BSlots E.aM.length cSlots, .int .i64 (E.State), .int .i64 (E.Value.Kind), .int .i64 (E.Value.N), .slice (some ⟨g_11_2, 0, none⟩) 1 1, .slice BAskers E.aG.length cAskers, .int .i64 (E.bD), .int .i64 (E.Pos), .int .i64 (E.Count), .int .i64 (E.bJ)], hR aQ 155 (.slice (some ⟨g_12_1, 0, none⟩) 1 1) ([(⟨1, 2⟩ : GAsker)]), hR aH 181 (.slice (some ⟨g_11_2, 0, none⟩) 1 1) ([m459]), bF gc 157 A bs.length cb, hR aP 70 (.slice BSlots E.aM.length cSlots) E.aM, hR aH 181 (.slice BQueue E.Queue.length cQueue) E.Queue, hR aQ 155 (.slice BAskers E.aG.length cAskers) E.aG, hB g_0_0 77 #[.int .i64 (0), .int .i64 (0), .slice none 0 0, .int .i64 (0), .int .i64 (0), .int .i64 (0), .slice none 0 0, .slice none 0 0, .int .i64 (0), .int .i64 (0), .int .i64 (0), .int .i64 (0)]] W479 := H485.pick [1, 0, 2, 3, 4, 5, 6, 7] kD rfl; clear H485
            refine bR rfl Try.sizeOf75 rfl rfl rfl (Nat.le_of_ble_eq_true rfl) (by simp [Value.cells, Value.oneCell']) H489 ?_
            intro W486 hu487 Ha488; clear H489; clear hu487
            refine aI ?_
            exact (aZ [(0, .pointer (some ⟨gc, 0, none⟩)), (2, .pointer (some ⟨g_0_0, 0, none⟩)), (3, .pointer (some ⟨g_1_1, 0, none⟩))] rfl).elim fun x' hx => ⟨(⟨E.Kind, E.Script, E.aM, E.State, E.Value, [m459], [(⟨1, 2⟩ : GAsker)], E.bD, E.Pos, E.Count, E.bJ⟩ : GEntity), BSlots, cSlots, (some ⟨g_11_2, 0, none⟩), 1, (some ⟨g_12_1, 0, none⟩), 1, x', hx, Ha488.pick [4, 2, 1, 0, 3, 7] kD rfl, (by first | exact hE1 | exact hLq | exact Nat.le_of_ble_eq_true rfl), (by first | exact hE2 | exact eT _ hsent | exact Nat.le_of_ble_eq_true rfl), (by first | exact hE3 | exact hE3 | exact Nat.le_of_ble_eq_true rfl)⟩
           ·refine wp_skip ?_
            exact (aZ [(0, .pointer (some ⟨gc, 0, none⟩)), (2, .pointer (some ⟨g_0_0, 0, none⟩)), (3, .pointer (some ⟨g_1_1, 0, none⟩))] rfl).elim fun x' hx => ⟨E, BSlots, cSlots, BQueue, cQueue, BAskers, cAskers, x', hx, H457.pick [1, 2, 3, 4, 0, 5] kD rfl, (by first | exact hE1 | exact hLq | exact Nat.le_of_ble_eq_true rfl), (by first | exact hE2 | exact eT _ hsent | exact Nat.le_of_ble_eq_true rfl), (by first | exact hE3 | exact hE3 | exact Nat.le_of_ble_eq_true rfl)⟩
          ·rintro _ W492 ⟨E, BSlots, cSlots, BQueue, cQueue, BAskers, cAskers, x493, rfl, H491, hE1, hE2, hE3⟩
           refine eP ?_
           exact (aZ [(0, .pointer (some ⟨gc, 0, none⟩)), (2, .pointer (some ⟨g_0_0, 0, none⟩)), (3, .pointer (some ⟨g_1_1, 0, none⟩))] rfl).elim fun x' hx => ⟨E, BSlots, cSlots, BQueue, cQueue, BAskers, cAskers, x', hx, H491, (by first | exact hE1 | exact hLq | exact Nat.le_of_ble_eq_true rfl), (by first | exact hE2 | exact eT _ hsent | exact Nat.le_of_ble_eq_true rfl), (by first | exact hE3 | exact hE3 | exact Nat.le_of_ble_eq_true rfl)⟩
         ·refine aA ?_
          refine aB rfl (bZ hg445 (bS rfl rfl)) rfl rfl ?_
          refine aA ?_
          refine aB rfl (aF rfl) rfl rfl ?_
          refine aA ?_
          refine aD rfl rfl rfl rfl rfl rfl rfl ?_
          refine aA ?_
          refine aD rfl rfl rfl rfl rfl rfl rfl ?_
          refine aA ?_
          refine aB rfl (aX (v := .bool (false)) (b := false) rfl rfl rfl rfl) rfl rfl ?_
          refine aI ?_
          refine aK ?_
          refine eU (fun a' W' => ∃ (E : GEntity) (BSlots : Option Addr) (cSlots : Nat) (BQueue : Option Addr) (cQueue : Nat) (BAskers : Option Addr) (cAskers : Nat) (x' : Nat → Value), a' = bH 101 x' [(0, .pointer (some ⟨gc, 0, none⟩)), (2, .pointer (some ⟨g_0_0, 0, none⟩)), (3, .pointer (some ⟨g_1_1, 0, none⟩))] ∧ St w F0 [hR aP 70 (.slice BSlots E.aM.length cSlots) E.aM, hR aH 181 (.slice BQueue E.Queue.length cQueue) E.Queue, hR aQ 155 (.slice BAskers E.aG.length cAskers) E.aG, hB g_1_1 77 #[.int .i64 (E.Kind), .int .i64 (E.Script), .slice BSlots E.aM.length cSlots, .int .i64 (E.State), .int .i64 (E.Value.Kind), .int .i64 (E.Value.N), .slice BQueue E.Queue.length cQueue, .slice BAskers E.aG.length cAskers, .int .i64 (E.bD), .int .i64 (E.Pos), .int .i64 (E.Count), .int .i64 (E.bJ)], bF gc 157 A bs.length cb, hB g_0_0 77 #[.int .i64 (0), .int .i64 (0), .slice none 0 0, .int .i64 (0), .int .i64 (0), .int .i64 (0), .slice none 0 0, .slice none 0 0, .int .i64 (0), .int .i64 (0), .int .i64 (0), .int .i64 (0)]] W' ∧ (E.aM.length ≤ 8) ∧ (bV bT E.Queue ≤ 30) ∧ (E.aG.length ≤ 2)) ?_ ?_
          ·refine fA rfl ?_
           refine wp_skip ?_
           exact (aZ [(0, .pointer (some ⟨gc, 0, none⟩)), (2, .pointer (some ⟨g_0_0, 0, none⟩)), (3, .pointer (some ⟨g_1_1, 0, none⟩))] rfl).elim fun x' hx => ⟨E, BSlots, cSlots, BQueue, cQueue, BAskers, cAskers, x', hx, H442, (by first | exact hE1 | exact hLq | exact Nat.le_of_ble_eq_true rfl), (by first | exact hE2 | exact eT _ hsent | exact Nat.le_of_ble_eq_true rfl), (by first | exact hE3 | exact hE3 | exact Nat.le_of_ble_eq_true rfl)⟩
          ·rintro _ W495 ⟨E, BSlots, cSlots, BQueue, cQueue, BAskers, cAskers, x496, rfl, H494, hE1, hE2, hE3⟩
           refine eP ?_
           exact (aZ [(0, .pointer (some ⟨gc, 0, none⟩)), (2, .pointer (some ⟨g_0_0, 0, none⟩)), (3, .pointer (some ⟨g_1_1, 0, none⟩))] rfl).elim fun x' hx => ⟨E, BSlots, cSlots, BQueue, cQueue, BAskers, cAskers, x', hx, H494, (by first | exact hE1 | exact hLq | exact Nat.le_of_ble_eq_true rfl), (by first | exact hE2 | exact eT _ hsent | exact Nat.le_of_ble_eq_true rfl), (by first | exact hE3 | exact hE3 | exact Nat.le_of_ble_eq_true rfl)⟩
       ·refine aA ?_
        refine aB rfl (bZ hg409 (bS rfl rfl)) rfl rfl ?_
        refine aA ?_
        refine aB rfl (aF rfl) rfl rfl ?_
        refine aA ?_
        refine bL rfl rfl rfl rfl (fun _ ho497 => ?_)
        refine aB ho497 (aU fV rfl) rfl rfl ?_
        refine aA ?_
        refine bL rfl rfl rfl rfl (fun _ ho498 => ?_)
        refine aB ho498 (bB (k := 3) (v := .int .i64 (E.State)) Try.isAgg3 rfl (H406.blk 3 rfl) rfl) rfl rfl ?_
        by_cases hg499 : (E.State : Int) = 4
        ·refine aA ?_
         refine bL rfl rfl rfl rfl (fun _ ho500 => ?_)
         refine aB ho500 (bX hg499 (bS rfl rfl)) rfl rfl ?_
         refine aA ?_
         refine aB rfl (aX (v := .bool (true)) (b := false) rfl rfl rfl rfl) rfl rfl ?_
         refine aI ?_
         refine aK ?_
         refine eU (fun a' W' => ∃ (E : GEntity) (BSlots : Option Addr) (cSlots : Nat) (BQueue : Option Addr) (cQueue : Nat) (BAskers : Option Addr) (cAskers : Nat) (x' : Nat → Value), a' = bH 101 x' [(0, .pointer (some ⟨gc, 0, none⟩)), (2, .pointer (some ⟨g_0_0, 0, none⟩)), (3, .pointer (some ⟨g_1_1, 0, none⟩))] ∧ St w F0 [hR aP 70 (.slice BSlots E.aM.length cSlots) E.aM, hR aH 181 (.slice BQueue E.Queue.length cQueue) E.Queue, hR aQ 155 (.slice BAskers E.aG.length cAskers) E.aG, hB g_1_1 77 #[.int .i64 (E.Kind), .int .i64 (E.Script), .slice BSlots E.aM.length cSlots, .int .i64 (E.State), .int .i64 (E.Value.Kind), .int .i64 (E.Value.N), .slice BQueue E.Queue.length cQueue, .slice BAskers E.aG.length cAskers, .int .i64 (E.bD), .int .i64 (E.Pos), .int .i64 (E.Count), .int .i64 (E.bJ)], bF gc 157 A bs.length cb, hB g_0_0 77 #[.int .i64 (0), .int .i64 (0), .slice none 0 0, .int .i64 (0), .int .i64 (0), .int .i64 (0), .slice none 0 0, .slice none 0 0, .int .i64 (0), .int .i64 (0), .int .i64 (0), .int .i64 (0)]] W' ∧ (E.aM.length ≤ 8) ∧ (bV bT E.Queue ≤ 30) ∧ (E.aG.length ≤ 2)) ?_ ?_
         ·refine fK rfl ?_
          refine wp_seq ?_
          refine aN [0, 1, 2, 3, 4] rfl ?_
          refine aA ?_
          refine aB rfl (aF rfl) rfl rfl ?_
          refine aA ?_
          have H503 : St w F0 [bF gc 157 A bs.length cb, hR aP 70 (.slice BSlots E.aM.length cSlots) E.aM, hR aH 181 (.slice BQueue E.Queue.length cQueue) E.Queue, hR aQ 155 (.slice BAskers E.aG.length cAskers) E.aG, hB g_1_1 77 #[.int .i64 (E.Kind), .int .i64 (E.Script), .slice BSlots E.aM.length cSlots, .int .i64 (E.State), .int .i64 (E.Value.Kind), .int .i64 (E.Value.N), .slice BQueue E.Queue.length cQueue, .slice BAskers E.aG.length cAskers, .int .i64 (E.bD), .int .i64 (E.Pos), .int .i64 (E.Count), .int .i64 (E.bJ)], hB g_0_0 77 #[.int .i64 (0), .int .i64 (0), .slice none 0 0, .int .i64 (0), .int .i64 (0), .int .i64 (0), .slice none 0 0, .slice none 0 0, .int .i64 (0), .int .i64 (0), .int .i64 (0), .int .i64 (0)]] W407 := H406.pick [4, 0, 1, 2, 3, 5] kD rfl; clear H406
          obtain ⟨F504, hs505, hF506, hfr507⟩ := St.frame (l0 := [bF gc 157 A bs.length cb]) (l := [hR aP 70 (.slice BSlots E.aM.length cSlots) E.aM, hR aH 181 (.slice BQueue E.Queue.length cQueue) E.Queue, hR aQ 155 (.slice BAskers E.aG.length cAskers) E.aG, hB g_1_1 77 #[.int .i64 (E.Kind), .int .i64 (E.Script), .slice BSlots E.aM.length cSlots, .int .i64 (E.State), .int .i64 (E.Value.Kind), .int .i64 (E.Value.N), .slice BQueue E.Queue.length cQueue, .slice BAskers E.aG.length cAskers, .int .i64 (E.bD), .int .i64 (E.Pos), .int .i64 (E.Count), .int .i64 (E.bJ)], hB g_0_0 77 #[.int .i64 (0), .int .i64 (0), .slice none 0 0, .int .i64 (0), .int .i64 (0), .int .i64 (0), .slice none 0 0, .slice none 0 0, .int .i64 (0), .int .i64 (0), .int .i64 (0), .int .i64 (0)]]) H503
          refine bC rfl Try.call44 (vs := #[.pointer (some ⟨gc, 0, none⟩), .int .i64 (3)]) rfl rfl rfl (dN 3 _ _ _ _ _ _ (CV.step hV H503.1 hF506) hn hs505) ?_
          rintro e510 W509 ⟨q501, rfl, hq502, Hn508⟩; refine ⟨_, rfl, ?_⟩
          have H511 := hfr507 _ _ Hn508; clear H503
          refine aA ?_
          refine aB rfl (gV rfl rfl kO) rfl rfl ?_
          refine aA ?_
          refine aB rfl (aU jZ rfl) rfl rfl ?_
          refine aA ?_
          have H515 : St w F0 [hB g_1_1 77 #[.int .i64 (E.Kind), .int .i64 (E.Script), .slice BSlots E.aM.length cSlots, .int .i64 (E.State), .int .i64 (E.Value.Kind), .int .i64 (E.Value.N), .slice BQueue E.Queue.length cQueue, .slice BAskers E.aG.length cAskers, .int .i64 (E.bD), .int .i64 (E.Pos), .int .i64 (E.Count), .int .i64 (E.bJ)], bF gc 157 A bs.length cb, hR aP 70 (.slice BSlots E.aM.length cSlots) E.aM, hR aH 181 (.slice BQueue E.Queue.length cQueue) E.Queue, hR aQ 155 (.slice BAskers E.aG.length cAskers) E.aG, hB g_0_0 77 #[.int .i64 (0), .int .i64 (0), .slice none 0 0, .int .i64 (0), .int .i64 (0), .int .i64 (0), .slice none 0 0, .slice none 0 0, .int .i64 (0), .int .i64 (0), .int .i64 (0), .int .i64 (0)]] W509 := H511.pick [4, 0, 1, 2, 3, 5] kD rfl; clear H511
          refine bR rfl Try.sizeOf3 rfl rfl rfl (Nat.le_of_ble_eq_true rfl) (by simp [Value.cells, Value.oneCell']) H515 ?_
          intro W512 hu513 Ha514; clear H515; clear hu513
          refine aI ?_
          refine aK ?_
          refine aN [0, 1, 2, 3, 4] rfl ?_
          refine aA ?_
          refine aB rfl (aF rfl) rfl rfl ?_
          refine aA ?_
          have H519 : St w F0 [bF gc 157 A bs.length cb, hB g_1_1 77 #[.int .i64 (E.Kind), .int .i64 (E.Script), .slice BSlots E.aM.length cSlots, .int .i64 (E.State), .int .i64 (E.Value.Kind), .int .i64 (E.Value.N), .slice BQueue E.Queue.length cQueue, .slice BAskers E.aG.length cAskers, .int .i64 ((1 + q501)), .int .i64 (E.Pos), .int .i64 (E.Count), .int .i64 (E.bJ)], hR aP 70 (.slice BSlots E.aM.length cSlots) E.aM, hR aH 181 (.slice BQueue E.Queue.length cQueue) E.Queue, hR aQ 155 (.slice BAskers E.aG.length cAskers) E.aG, hB g_0_0 77 #[.int .i64 (0), .int .i64 (0), .slice none 0 0, .int .i64 (0), .int .i64 (0), .int .i64 (0), .slice none 0 0, .slice none 0 0, .int .i64 (0), .int .i64 (0), .int .i64 (0), .int .i64 (0)]] W512 := Ha514.pick [1, 0, 2, 3, 4, 5] kD rfl; clear Ha514
          obtain ⟨F520, hs521, hF522, hfr523⟩ := St.frame (l0 := [bF gc 157 A bs.length cb]) (l := [hB g_1_1 77 #[.int .i64 (E.Kind), .int .i64 (E.Script), .slice BSlots E.aM.length cSlots, .int .i64 (E.State), .int .i64 (E.Value.Kind), .int .i64 (E.Value.N), .slice BQueue E.Queue.length cQueue, .slice BAskers E.aG.length cAskers, .int .i64 ((1 + q501)), .int .i64 (E.Pos), .int .i64 (E.Count), .int .i64 (E.bJ)], hR aP 70 (.slice BSlots E.aM.length cSlots) E.aM, hR aH 181 (.slice BQueue E.Queue.length cQueue) E.Queue, hR aQ 155 (.slice BAskers E.aG.length cAskers) E.aG, hB g_0_0 77 #[.int .i64 (0), .int .i64 (0), .slice none 0 0, .int .i64 (0), .int .i64 (0), .int .i64 (0), .slice none 0 0, .slice none 0 0, .int .i64 (0), .int .i64 (0), .int .i64 (0), .int .i64 (0)]]) H519
          refine bC rfl Try.call44 (vs := #[.pointer (some ⟨gc, 0, none⟩), .int .i64 (5)]) rfl rfl rfl (dN 5 _ _ _ _ _ _ (CV.step hV H519.1 hF522) hn hs521) ?_
          rintro e526 W525 ⟨q517, rfl, hq518, Hn524⟩; refine ⟨_, rfl, ?_⟩
          have H527 := hfr523 _ _ Hn524; clear H519
          refine aA ?_
          refine aB rfl (gV rfl rfl kO) rfl rfl ?_
          refine aA ?_
          refine aB rfl (aU kT rfl) rfl rfl ?_
          refine aA ?_
          have H531 : St w F0 [hB g_1_1 77 #[.int .i64 (E.Kind), .int .i64 (E.Script), .slice BSlots E.aM.length cSlots, .int .i64 (E.State), .int .i64 (E.Value.Kind), .int .i64 (E.Value.N), .slice BQueue E.Queue.length cQueue, .slice BAskers E.aG.length cAskers, .int .i64 ((1 + q501)), .int .i64 (E.Pos), .int .i64 (E.Count), .int .i64 (E.bJ)], bF gc 157 A bs.length cb, hR aP 70 (.slice BSlots E.aM.length cSlots) E.aM, hR aH 181 (.slice BQueue E.Queue.length cQueue) E.Queue, hR aQ 155 (.slice BAskers E.aG.length cAskers) E.aG, hB g_0_0 77 #[.int .i64 (0), .int .i64 (0), .slice none 0 0, .int .i64 (0), .int .i64 (0), .int .i64 (0), .slice none 0 0, .slice none 0 0, .int .i64 (0), .int .i64 (0), .int .i64 (0), .int .i64 (0)]] W525 := H527.pick [1, 0, 2, 3, 4, 5] kD rfl; clear H527
          refine bR rfl Try.sizeOf3 rfl rfl rfl (Nat.le_of_ble_eq_true rfl) (by simp [Value.cells, Value.oneCell']) H531 ?_
          intro W528 hu529 Ha530; clear H531; clear hu529
          refine aI ?_
          exact (aZ [(0, .pointer (some ⟨gc, 0, none⟩)), (2, .pointer (some ⟨g_0_0, 0, none⟩)), (3, .pointer (some ⟨g_1_1, 0, none⟩))] rfl).elim fun x' hx => ⟨(⟨E.Kind, E.Script, E.aM, E.State, E.Value, E.Queue, E.aG, (1 + q501), (1 + q517), E.Count, E.bJ⟩ : GEntity), BSlots, cSlots, BQueue, cQueue, BAskers, cAskers, x', hx, Ha530.pick [2, 3, 4, 0, 1, 5] kD rfl, (by first | exact hE1 | exact hLq | exact Nat.le_of_ble_eq_true rfl), (by first | exact hE2 | exact eT _ hsent | exact Nat.le_of_ble_eq_true rfl), (by first | exact hE3 | exact hE3 | exact Nat.le_of_ble_eq_true rfl)⟩
         ·rintro _ W534 ⟨E, BSlots, cSlots, BQueue, cQueue, BAskers, cAskers, x535, rfl, H533, hE1, hE2, hE3⟩
          refine aK ?_
          refine wp_seq ?_
          refine aN [0, 1, 2, 3, 4, 5, 6] rfl ?_
          refine aA ?_
          refine aB rfl (aU fV rfl) rfl rfl ?_
          refine aA ?_
          refine aB rfl (bB (k := 3) (v := .int .i64 (E.State)) Try.isAgg3 rfl (H533.blk 3 rfl) rfl) rfl rfl ?_
          by_cases hg536 : (E.State : Int) = 1
          ·refine aA ?_
           refine aB rfl (bX hg536 (bS rfl rfl)) rfl rfl ?_
           refine aA ?_
           refine aB rfl (aF rfl) rfl rfl ?_
           refine aA ?_
           refine bL rfl rfl rfl rfl (fun _ ho537 => ?_)
           refine aB ho537 (aF rfl) rfl rfl ?_
           refine aA ?_
           refine bL rfl rfl rfl rfl (fun _ ho538 => ?_)
           have H540 : St w F0 [bF gc 157 A bs.length cb, hR aP 70 (.slice BSlots E.aM.length cSlots) E.aM, hR aH 181 (.slice BQueue E.Queue.length cQueue) E.Queue, hR aQ 155 (.slice BAskers E.aG.length cAskers) E.aG, hB g_1_1 77 #[.int .i64 (E.Kind), .int .i64 (E.Script), .slice BSlots E.aM.length cSlots, .int .i64 (E.State), .int .i64 (E.Value.Kind), .int .i64 (E.Value.N), .slice BQueue E.Queue.length cQueue, .slice BAskers E.aG.length cAskers, .int .i64 (E.bD), .int .i64 (E.Pos), .int .i64 (E.Count), .int .i64 (E.bJ)], hB g_0_0 77 #[.int .i64 (0), .int .i64 (0), .slice none 0 0, .int .i64 (0), .int .i64 (0), .int .i64 (0), .slice none 0 0, .slice none 0 0, .int .i64 (0), .int .i64 (0), .int .i64 (0), .int .i64 (0)]] W534 := H533.pick [4, 0, 1, 2, 3, 5] kD rfl; clear H533
           obtain ⟨F541, hs542, hF543, hfr544⟩ := St.frame (l0 := [bF gc 157 A bs.length cb]) (l := [hR aP 70 (.slice BSlots E.aM.length cSlots) E.aM, hR aH 181 (.slice BQueue E.Queue.length cQueue) E.Queue, hR aQ 155 (.slice BAskers E.aG.length cAskers) E.aG, hB g_1_1 77 #[.int .i64 (E.Kind), .int .i64 (E.Script), .slice BSlots E.aM.length cSlots, .int .i64 (E.State), .int .i64 (E.Value.Kind), .int .i64 (E.Value.N), .slice BQueue E.Queue.length cQueue, .slice BAskers E.aG.length cAskers, .int .i64 (E.bD), .int .i64 (E.Pos), .int .i64 (E.Count), .int .i64 (E.bJ)], hB g_0_0 77 #[.int .i64 (0), .int .i64 (0), .slice none 0 0, .int .i64 (0), .int .i64 (0), .int .i64 (0), .slice none 0 0, .slice none 0 0, .int .i64 (0), .int .i64 (0), .int .i64 (0), .int .i64 (0)]]) H540
           refine bC ho538 Try.call43 (vs := #[.pointer (some ⟨gc, 0, none⟩), .int .i64 (2)]) rfl rfl rfl (jR 2 _ _ _ _ _ _ (CV.step hV H540.1 hF543) hn hs542) ?_
           rintro e547 W546 ⟨b539, rfl, Hn545⟩; refine ⟨_, rfl, ?_⟩
           have H548 := hfr544 _ _ Hn545; clear H540
           refine aA ?_
           refine aB rfl (aX (v := .bool (b539)) (b := true) rfl rfl rfl rfl) rfl rfl ?_
           refine aI ?_
           refine aK ?_
           refine eU (fun a' W' => ∃ (E : GEntity) (BSlots : Option Addr) (cSlots : Nat) (BQueue : Option Addr) (cQueue : Nat) (BAskers : Option Addr) (cAskers : Nat) (x' : Nat → Value), a' = bH 101 x' [(0, .pointer (some ⟨gc, 0, none⟩)), (2, .pointer (some ⟨g_0_0, 0, none⟩)), (3, .pointer (some ⟨g_1_1, 0, none⟩))] ∧ St w F0 [hR aP 70 (.slice BSlots E.aM.length cSlots) E.aM, hR aH 181 (.slice BQueue E.Queue.length cQueue) E.Queue, hR aQ 155 (.slice BAskers E.aG.length cAskers) E.aG, hB g_1_1 77 #[.int .i64 (E.Kind), .int .i64 (E.Script), .slice BSlots E.aM.length cSlots, .int .i64 (E.State), .int .i64 (E.Value.Kind), .int .i64 (E.Value.N), .slice BQueue E.Queue.length cQueue, .slice BAskers E.aG.length cAskers, .int .i64 (E.bD), .int .i64 (E.Pos), .int .i64 (E.Count), .int .i64 (E.bJ)], bF gc 157 A bs.length cb, hB g_0_0 77 #[.int .i64 (0), .int .i64 (0), .slice none 0 0, .int .i64 (0), .int .i64 (0), .int .i64 (0), .slice none 0 0, .slice none 0 0, .int .i64 (0), .int .i64 (0), .int .i64 (0), .int .i64 (0)]] W' ∧ (E.aM.length ≤ 8) ∧ (bV bT E.Queue ≤ 30) ∧ (E.aG.length ≤ 2)) ?_ ?_
           ·refine jO (b := b539) rfl (fun hc549 => ?_) (fun hc549 => ?_)
            ·refine wp_seq ?_
             refine aN [0, 1, 2, 3, 4] rfl ?_
             refine aA ?_
             refine aB rfl (aF rfl) rfl rfl ?_
             refine aA ?_
             obtain ⟨F552, hs553, hF554, hfr555⟩ := St.frame (l0 := [bF gc 157 A bs.length cb]) (l := [hR aP 70 (.slice BSlots E.aM.length cSlots) E.aM, hR aH 181 (.slice BQueue E.Queue.length cQueue) E.Queue, hR aQ 155 (.slice BAskers E.aG.length cAskers) E.aG, hB g_1_1 77 #[.int .i64 (E.Kind), .int .i64 (E.Script), .slice BSlots E.aM.length cSlots, .int .i64 (E.State), .int .i64 (E.Value.Kind), .int .i64 (E.Value.N), .slice BQueue E.Queue.length cQueue, .slice BAskers E.aG.length cAskers, .int .i64 (E.bD), .int .i64 (E.Pos), .int .i64 (E.Count), .int .i64 (E.bJ)], hB g_0_0 77 #[.int .i64 (0), .int .i64 (0), .slice none 0 0, .int .i64 (0), .int .i64 (0), .int .i64 (0), .slice none 0 0, .slice none 0 0, .int .i64 (0), .int .i64 (0), .int .i64 (0), .int .i64 (0)]]) H548
             refine bC rfl Try.call130 (vs := #[.pointer (some ⟨gc, 0, none⟩)]) rfl rfl rfl (sent_s _ _ _ _ _ _ (CV.step hV H548.1 hF554) hn hs553) ?_
             rintro e558 W557 ⟨m550, cs551, rfl, hsent, Hn556⟩; refine ⟨_, rfl, ?_⟩
             have H559 : St w F0 [hM aH m550 cs551, bF gc 157 A bs.length cb, hR aP 70 (.slice BSlots E.aM.length cSlots) E.aM, hR aH 181 (.slice BQueue E.Queue.length cQueue) E.Queue, hR aQ 155 (.slice BAskers E.aG.length cAskers) E.aG, hB g_1_1 77 #[.int .i64 (E.Kind), .int .i64 (E.Script), .slice BSlots E.aM.length cSlots, .int .i64 (E.State), .int .i64 (E.Value.Kind), .int .i64 (E.Value.N), .slice BQueue E.Queue.length cQueue, .slice BAskers E.aG.length cAskers, .int .i64 (E.bD), .int .i64 (E.Pos), .int .i64 (E.Count), .int .i64 (E.bJ)], hB g_0_0 77 #[.int .i64 (0), .int .i64 (0), .slice none 0 0, .int .i64 (0), .int .i64 (0), .int .i64 (0), .slice none 0 0, .slice none 0 0, .int .i64 (0), .int .i64 (0), .int .i64 (0), .int .i64 (0)]] W557 := hfr555 (_ :: [_]) _ Hn556; clear H548
             refine aA ?_
             refine dD rfl Try.runUnderlying65 Try.sizeOf181 kD Try.zeroValue181 rfl (eY (H559.kn 0 rfl)) rfl rfl H559 ?_
             intro g_11_2 W560 hu561 Ha562; clear H559; clear hu561
             refine aA ?_
             refine aB rfl (aU jX rfl) rfl rfl ?_
             have H564 : St w F0 [hR aH 181 (.slice (some ⟨g_11_2, 0, none⟩) 1 1) ([m550]), bF gc 157 A bs.length cb, hR aP 70 (.slice BSlots E.aM.length cSlots) E.aM, hR aH 181 (.slice BQueue E.Queue.length cQueue) E.Queue, hR aQ 155 (.slice BAskers E.aG.length cAskers) E.aG, hB g_1_1 77 #[.int .i64 (E.Kind), .int .i64 (E.Script), .slice BSlots E.aM.length cSlots, .int .i64 (E.State), .int .i64 (E.Value.Kind), .int .i64 (E.Value.N), .slice BQueue E.Queue.length cQueue, .slice BAskers E.aG.length cAskers, .int .i64 (E.bD), .int .i64 (E.Pos), .int .i64 (E.Count), .int .i64 (E.bJ)], hB g_0_0 77 #[.int .i64 (0), .int .i64 (0), .slice none 0 0, .int .i64 (0), .int .i64 (0), .int .i64 (0), .slice none 0 0, .slice none 0 0, .int .i64 (0), .int .i64 (0), .int .i64 (0), .int .i64 (0)]] W560 := Ha562.iG (eY (Ha562.kn 1 rfl)); clear Ha562
             refine aA ?_
             have H568 : St w F0 [hB g_1_1 77 #[.int .i64 (E.Kind), .int .i64 (E.Script), .slice BSlots E.aM.length cSlots, .int .i64 (E.State), .int .i64 (E.Value.Kind), .int .i64 (E.Value.N), .slice BQueue E.Queue.length cQueue, .slice BAskers E.aG.length cAskers, .int .i64 (E.bD), .int .i64 (E.Pos), .int .i64 (E.Count), .int .i64 (E.bJ)], hR aH 181 (.slice (some ⟨g_11_2, 0, none⟩) 1 1) ([m550]), bF gc 157 A bs.length cb, hR aP 70 (.slice BSlots E.aM.length cSlots) E.aM, hR aH 181 (.slice BQueue E.Queue.length cQueue) E.Queue, hR aQ 155 (.slice BAskers E.aG.length cAskers) E.aG, hB g_0_0 77 #[.int .i64 (0), .int .i64 (0), .slice none 0 0, .int .i64 (0), .int .i64 (0), .int .i64 (0), .slice none 0 0, .slice none 0 0, .int .i64 (0), .int .i64 (0), .int .i64 (0), .int .i64 (0)]] W560 := H564.pick [5, 0, 1, 2, 3, 4, 6] kD rfl; clear H564
             refine bR rfl Try.sizeOf65 rfl rfl rfl (Nat.le_of_ble_eq_true rfl) (by simp [Value.cells, Value.oneCell']) H568 ?_
             intro W565 hu566 Ha567; clear H568; clear hu566
             refine aI ?_
             refine aK ?_
             refine aN [0, 1, 2, 3] rfl ?_
             refine aA ?_
             refine aB rfl (dS (vs := [(0, .int .i64 (1)), (1, .int .i64 (2))]) (cells := #[.int .i64 (1), .int .i64 (2)]) rfl kR) rfl rfl ?_
             refine aA ?_
             refine dD rfl Try.runUnderlying75 Try.sizeOf155 kD Try.zeroValue155 rfl rfl rfl rfl Ha567 ?_
             intro g_12_1 W570 hu571 Ha572; clear Ha567; clear hu571
             refine aA ?_
             refine aB rfl (aU jY rfl) rfl rfl ?_
             have H574 : St w F0 [hM aQ (⟨1, 2⟩ : GAsker) [.int .i64 (1), .int .i64 (2)], hB g_12_1 155 #[.int .i64 (1), .int .i64 (2)], hB g_1_1 77 #[.int .i64 (E.Kind), .int .i64 (E.Script), .slice BSlots E.aM.length cSlots, .int .i64 (E.State), .int .i64 (E.Value.Kind), .int .i64 (E.Value.N), .slice (some ⟨g_11_2, 0, none⟩) 1 1, .slice BAskers E.aG.length cAskers, .int .i64 (E.bD), .int .i64 (E.Pos), .int .i64 (E.Count), .int .i64 (E.bJ)], hR aH 181 (.slice (some ⟨g_11_2, 0, none⟩) 1 1) ([m550]), bF gc 157 A bs.length cb, hR aP 70 (.slice BSlots E.aM.length cSlots) E.aM, hR aH 181 (.slice BQueue E.Queue.length cQueue) E.Queue, hR aQ 155 (.slice BAskers E.aG.length cAskers) E.aG, hB g_0_0 77 #[.int .i64 (0), .int .i64 (0), .slice none 0 0, .int .i64 (0), .int .i64 (0), .int .i64 (0), .slice none 0 0, .slice none 0 0, .int .i64 (0), .int .i64 (0), .int .i64 (0), .int .i64 (0)]] W570 := Ha572.add0 (q := hM aQ (⟨1, 2⟩ : GAsker) [.int .i64 (1), .int .i64 (2)]) (iC _ No (⟨1, 2⟩ : GAsker)); clear Ha572
             have H575 : St w F0 [hB g_12_1 155 #[.int .i64 (1), .int .i64 (2)], hM aQ (⟨1, 2⟩ : GAsker) [.int .i64 (1), .int .i64 (2)], hB g_1_1 77 #[.int .i64 (E.Kind), .int .i64 (E.Script), .slice BSlots E.aM.length cSlots, .int .i64 (E.State), .int .i64 (E.Value.Kind), .int .i64 (E.Value.N), .slice (some ⟨g_11_2, 0, none⟩) 1 1, .slice BAskers E.aG.length cAskers, .int .i64 (E.bD), .int .i64 (E.Pos), .int .i64 (E.Count), .int .i64 (E.bJ)], hR aH 181 (.slice (some ⟨g_11_2, 0, none⟩) 1 1) ([m550]), bF gc 157 A bs.length cb, hR aP 70 (.slice BSlots E.aM.length cSlots) E.aM, hR aH 181 (.slice BQueue E.Queue.length cQueue) E.Queue, hR aQ 155 (.slice BAskers E.aG.length cAskers) E.aG, hB g_0_0 77 #[.int .i64 (0), .int .i64 (0), .slice none 0 0, .int .i64 (0), .int .i64 (0), .int .i64 (0), .slice none 0 0, .slice none 0 0, .int .i64 (0), .int .i64 (0), .int .i64 (0), .int .i64 (0)]] W570 := H574.pick [1, 0, 2, 3, 4, 5, 6, 7, 8] kD rfl; clear H574
             have H576 : St w F0 [hR aQ 155 (.slice (some ⟨g_12_1, 0, none⟩) 1 1) ([(⟨1, 2⟩ : GAsker)]), hB g_1_1 77 #[.int .i64 (E.Kind), .int .i64 (E.Script), .slice BSlots E.aM.length cSlots, .int .i64 (E.State), .int .i64 (E.Value.Kind), .int .i64 (E.Value.N), .slice (some ⟨g_11_2, 0, none⟩) 1 1, .slice BAskers E.aG.length cAskers, .int .i64 (E.bD), .int .i64 (E.Pos), .int .i64 (E.Count), .int .i64 (E.bJ)], hR aH 181 (.slice (some ⟨g_11_2, 0, none⟩) 1 1) ([m550]), bF gc 157 A bs.length cb, hR aP 70 (.slice BSlots E.aM.length cSlots) E.aM, hR aH 181 (.slice BQueue E.Queue.length cQueue) E.Queue, hR aQ 155 (.slice BAskers E.aG.length cAskers) E.aG, hB g_0_0 77 #[.int .i64 (0), .int .i64 (0), .slice none 0 0, .int .i64 (0), .int .i64 (0), .int .i64 (0), .slice none 0 0, .slice none 0 0, .int .i64 (0), .int .i64 (0), .int .i64 (0), .int .i64 (0)]] W570 := H575.iG rfl; clear H575
             refine aA ?_
             have H580 : St w F0 [hB g_1_1 77 #[.int .i64 (E.Kind), .int .i64 (E.Script), .slice BSlots E.aM.length cSlots, .int .i64 (E.State), .int .i64 (E.Value.Kind), .int .i64 (E.Value.N), .slice (some ⟨g_11_2, 0, none⟩) 1 1, .slice BAskers E.aG.length cAskers, .int .i64 (E.bD), .int .i64 (E.Pos), .int .i64 (E.Count), .int .i64 (E.bJ)], hR aQ 155 (.slice (some ⟨g_12_1, 0, none⟩) 1 1) ([(⟨1, 2⟩ : GAsker)]), hR aH 181 (.slice (some ⟨g_11_2, 0, none⟩) 1 1) ([m550]), bF gc 157 A bs.length cb, hR aP 70 (.slice BSlots E.aM.length cSlots) E.aM, hR aH 181 (.slice BQueue E.Queue.length cQueue) E.Queue, hR aQ 155 (.slice BAskers E.aG.length cAskers) E.aG, hB g_0_0 77 #[.int .i64 (0), .int .i64 (0), .slice none 0 0, .int .i64 (0), .int .i64 (0), .int .i64 (0), .slice none 0 0, .slice none 0 0, .int .i64 (0), .int .i64 (0), .int .i64 (0), .int .i64 (0)]] W570 := H576.pick [1, 0, 2, 3, 4, 5, 6, 7] kD rfl; clear H576
             refine bR rfl Try.sizeOf75 rfl rfl rfl (Nat.le_of_ble_eq_true rfl) (by simp [Value.cells, Value.oneCell']) H580 ?_
             intro W577 hu578 Ha579; clear H580; clear hu578
             refine aI ?_
             exact (aZ [(0, .pointer (some ⟨gc, 0, none⟩)), (2, .pointer (some ⟨g_0_0, 0, none⟩)), (3, .pointer (some ⟨g_1_1, 0, none⟩))] rfl).elim fun x' hx => ⟨(⟨E.Kind, E.Script, E.aM, E.State, E.Value, [m550], [(⟨1, 2⟩ : GAsker)], E.bD, E.Pos, E.Count, E.bJ⟩ : GEntity), BSlots, cSlots, (some ⟨g_11_2, 0, none⟩), 1, (some ⟨g_12_1, 0, none⟩), 1, x', hx, Ha579.pick [4, 2, 1, 0, 3, 7] kD rfl, (by first | exact hE1 | exact hLq | exact Nat.le_of_ble_eq_true rfl), (by first | exact hE2 | exact eT _ hsent | exact Nat.le_of_ble_eq_true rfl), (by first | exact hE3 | exact hE3 | exact Nat.le_of_ble_eq_true rfl)⟩
            ·refine wp_skip ?_
             exact (aZ [(0, .pointer (some ⟨gc, 0, none⟩)), (2, .pointer (some ⟨g_0_0, 0, none⟩)), (3, .pointer (some ⟨g_1_1, 0, none⟩))] rfl).elim fun x' hx => ⟨E, BSlots, cSlots, BQueue, cQueue, BAskers, cAskers, x', hx, H548.pick [1, 2, 3, 4, 0, 5] kD rfl, (by first | exact hE1 | exact hLq | exact Nat.le_of_ble_eq_true rfl), (by first | exact hE2 | exact eT _ hsent | exact Nat.le_of_ble_eq_true rfl), (by first | exact hE3 | exact hE3 | exact Nat.le_of_ble_eq_true rfl)⟩
           ·rintro _ W583 ⟨E, BSlots, cSlots, BQueue, cQueue, BAskers, cAskers, x584, rfl, H582, hE1, hE2, hE3⟩
            refine eP ?_
            exact (aZ [(0, .pointer (some ⟨gc, 0, none⟩)), (2, .pointer (some ⟨g_0_0, 0, none⟩)), (3, .pointer (some ⟨g_1_1, 0, none⟩))] rfl).elim fun x' hx => ⟨E, BSlots, cSlots, BQueue, cQueue, BAskers, cAskers, x', hx, H582, (by first | exact hE1 | exact hLq | exact Nat.le_of_ble_eq_true rfl), (by first | exact hE2 | exact eT _ hsent | exact Nat.le_of_ble_eq_true rfl), (by first | exact hE3 | exact hE3 | exact Nat.le_of_ble_eq_true rfl)⟩
          ·refine aA ?_
           refine aB rfl (bZ hg536 (bS rfl rfl)) rfl rfl ?_
           refine aA ?_
           refine aB rfl (aF rfl) rfl rfl ?_
           refine aA ?_
           refine aD rfl rfl rfl rfl rfl rfl rfl ?_
           refine aA ?_
           refine aD rfl rfl rfl rfl rfl rfl rfl ?_
           refine aA ?_
           refine aB rfl (aX (v := .bool (false)) (b := false) rfl rfl rfl rfl) rfl rfl ?_
           refine aI ?_
           refine aK ?_
           refine eU (fun a' W' => ∃ (E : GEntity) (BSlots : Option Addr) (cSlots : Nat) (BQueue : Option Addr) (cQueue : Nat) (BAskers : Option Addr) (cAskers : Nat) (x' : Nat → Value), a' = bH 101 x' [(0, .pointer (some ⟨gc, 0, none⟩)), (2, .pointer (some ⟨g_0_0, 0, none⟩)), (3, .pointer (some ⟨g_1_1, 0, none⟩))] ∧ St w F0 [hR aP 70 (.slice BSlots E.aM.length cSlots) E.aM, hR aH 181 (.slice BQueue E.Queue.length cQueue) E.Queue, hR aQ 155 (.slice BAskers E.aG.length cAskers) E.aG, hB g_1_1 77 #[.int .i64 (E.Kind), .int .i64 (E.Script), .slice BSlots E.aM.length cSlots, .int .i64 (E.State), .int .i64 (E.Value.Kind), .int .i64 (E.Value.N), .slice BQueue E.Queue.length cQueue, .slice BAskers E.aG.length cAskers, .int .i64 (E.bD), .int .i64 (E.Pos), .int .i64 (E.Count), .int .i64 (E.bJ)], bF gc 157 A bs.length cb, hB g_0_0 77 #[.int .i64 (0), .int .i64 (0), .slice none 0 0, .int .i64 (0), .int .i64 (0), .int .i64 (0), .slice none 0 0, .slice none 0 0, .int .i64 (0), .int .i64 (0), .int .i64 (0), .int .i64 (0)]] W' ∧ (E.aM.length ≤ 8) ∧ (bV bT E.Queue ≤ 30) ∧ (E.aG.length ≤ 2)) ?_ ?_
           ·refine fA rfl ?_
            refine wp_skip ?_
            exact (aZ [(0, .pointer (some ⟨gc, 0, none⟩)), (2, .pointer (some ⟨g_0_0, 0, none⟩)), (3, .pointer (some ⟨g_1_1, 0, none⟩))] rfl).elim fun x' hx => ⟨E, BSlots, cSlots, BQueue, cQueue, BAskers, cAskers, x', hx, H533, (by first | exact hE1 | exact hLq | exact Nat.le_of_ble_eq_true rfl), (by first | exact hE2 | exact eT _ hsent | exact Nat.le_of_ble_eq_true rfl), (by first | exact hE3 | exact hE3 | exact Nat.le_of_ble_eq_true rfl)⟩
           ·rintro _ W586 ⟨E, BSlots, cSlots, BQueue, cQueue, BAskers, cAskers, x587, rfl, H585, hE1, hE2, hE3⟩
            refine eP ?_
            exact (aZ [(0, .pointer (some ⟨gc, 0, none⟩)), (2, .pointer (some ⟨g_0_0, 0, none⟩)), (3, .pointer (some ⟨g_1_1, 0, none⟩))] rfl).elim fun x' hx => ⟨E, BSlots, cSlots, BQueue, cQueue, BAskers, cAskers, x', hx, H585, (by first | exact hE1 | exact hLq | exact Nat.le_of_ble_eq_true rfl), (by first | exact hE2 | exact eT _ hsent | exact Nat.le_of_ble_eq_true rfl), (by first | exact hE3 | exact hE3 | exact Nat.le_of_ble_eq_true rfl)⟩
        ·refine aA ?_
         refine bL rfl rfl rfl rfl (fun _ ho588 => ?_)
         refine aB ho588 (bZ hg499 (bS rfl rfl)) rfl rfl ?_
         refine aA ?_
         refine aB rfl (aX (v := .bool (false)) (b := false) rfl rfl rfl rfl) rfl rfl ?_
         refine aI ?_
         refine aK ?_
         refine eU (fun a' W' => ∃ (E : GEntity) (BSlots : Option Addr) (cSlots : Nat) (BQueue : Option Addr) (cQueue : Nat) (BAskers : Option Addr) (cAskers : Nat) (x' : Nat → Value), a' = bH 101 x' [(0, .pointer (some ⟨gc, 0, none⟩)), (2, .pointer (some ⟨g_0_0, 0, none⟩)), (3, .pointer (some ⟨g_1_1, 0, none⟩))] ∧ St w F0 [hR aP 70 (.slice BSlots E.aM.length cSlots) E.aM, hR aH 181 (.slice BQueue E.Queue.length cQueue) E.Queue, hR aQ 155 (.slice BAskers E.aG.length cAskers) E.aG, hB g_1_1 77 #[.int .i64 (E.Kind), .int .i64 (E.Script), .slice BSlots E.aM.length cSlots, .int .i64 (E.State), .int .i64 (E.Value.Kind), .int .i64 (E.Value.N), .slice BQueue E.Queue.length cQueue, .slice BAskers E.aG.length cAskers, .int .i64 (E.bD), .int .i64 (E.Pos), .int .i64 (E.Count), .int .i64 (E.bJ)], bF gc 157 A bs.length cb, hB g_0_0 77 #[.int .i64 (0), .int .i64 (0), .slice none 0 0, .int .i64 (0), .int .i64 (0), .int .i64 (0), .slice none 0 0, .slice none 0 0, .int .i64 (0), .int .i64 (0), .int .i64 (0), .int .i64 (0)]] W' ∧ (E.aM.length ≤ 8) ∧ (bV bT E.Queue ≤ 30) ∧ (E.aG.length ≤ 2)) ?_ ?_
         ·refine fA rfl ?_
          refine wp_skip ?_
          exact (aZ [(0, .pointer (some ⟨gc, 0, none⟩)), (2, .pointer (some ⟨g_0_0, 0, none⟩)), (3, .pointer (some ⟨g_1_1, 0, none⟩))] rfl).elim fun x' hx => ⟨E, BSlots, cSlots, BQueue, cQueue, BAskers, cAskers, x', hx, H406, (by first | exact hE1 | exact hLq | exact Nat.le_of_ble_eq_true rfl), (by first | exact hE2 | exact eT _ hsent | exact Nat.le_of_ble_eq_true rfl), (by first | exact hE3 | exact hE3 | exact Nat.le_of_ble_eq_true rfl)⟩
         ·rintro _ W590 ⟨E, BSlots, cSlots, BQueue, cQueue, BAskers, cAskers, x591, rfl, H589, hE1, hE2, hE3⟩
          refine aK ?_
          refine wp_seq ?_
          refine aN [0, 1, 2, 3, 4, 5, 6] rfl ?_
          refine aA ?_
          refine aB rfl (aU fV rfl) rfl rfl ?_
          refine aA ?_
          refine aB rfl (bB (k := 3) (v := .int .i64 (E.State)) Try.isAgg3 rfl (H589.blk 3 rfl) rfl) rfl rfl ?_
          by_cases hg592 : (E.State : Int) = 1
          ·refine aA ?_
           refine aB rfl (bX hg592 (bS rfl rfl)) rfl rfl ?_
           refine aA ?_
           refine aB rfl (aF rfl) rfl rfl ?_
           refine aA ?_
           refine bL rfl rfl rfl rfl (fun _ ho593 => ?_)
           refine aB ho593 (aF rfl) rfl rfl ?_
           refine aA ?_
           refine bL rfl rfl rfl rfl (fun _ ho594 => ?_)
           have H596 : St w F0 [bF gc 157 A bs.length cb, hR aP 70 (.slice BSlots E.aM.length cSlots) E.aM, hR aH 181 (.slice BQueue E.Queue.length cQueue) E.Queue, hR aQ 155 (.slice BAskers E.aG.length cAskers) E.aG, hB g_1_1 77 #[.int .i64 (E.Kind), .int .i64 (E.Script), .slice BSlots E.aM.length cSlots, .int .i64 (E.State), .int .i64 (E.Value.Kind), .int .i64 (E.Value.N), .slice BQueue E.Queue.length cQueue, .slice BAskers E.aG.length cAskers, .int .i64 (E.bD), .int .i64 (E.Pos), .int .i64 (E.Count), .int .i64 (E.bJ)], hB g_0_0 77 #[.int .i64 (0), .int .i64 (0), .slice none 0 0, .int .i64 (0), .int .i64 (0), .int .i64 (0), .slice none 0 0, .slice none 0 0, .int .i64 (0), .int .i64 (0), .int .i64 (0), .int .i64 (0)]] W590 := H589.pick [4, 0, 1, 2, 3, 5] kD rfl; clear H589
           obtain ⟨F597, hs598, hF599, hfr600⟩ := St.frame (l0 := [bF gc 157 A bs.length cb]) (l := [hR aP 70 (.slice BSlots E.aM.length cSlots) E.aM, hR aH 181 (.slice BQueue E.Queue.length cQueue) E.Queue, hR aQ 155 (.slice BAskers E.aG.length cAskers) E.aG, hB g_1_1 77 #[.int .i64 (E.Kind), .int .i64 (E.Script), .slice BSlots E.aM.length cSlots, .int .i64 (E.State), .int .i64 (E.Value.Kind), .int .i64 (E.Value.N), .slice BQueue E.Queue.length cQueue, .slice BAskers E.aG.length cAskers, .int .i64 (E.bD), .int .i64 (E.Pos), .int .i64 (E.Count), .int .i64 (E.bJ)], hB g_0_0 77 #[.int .i64 (0), .int .i64 (0), .slice none 0 0, .int .i64 (0), .int .i64 (0), .int .i64 (0), .slice none 0 0, .slice none 0 0, .int .i64 (0), .int .i64 (0), .int .i64 (0), .int .i64 (0)]]) H596
           refine bC ho594 Try.call43 (vs := #[.pointer (some ⟨gc, 0, none⟩), .int .i64 (2)]) rfl rfl rfl (jR 2 _ _ _ _ _ _ (CV.step hV H596.1 hF599) hn hs598) ?_
           rintro e603 W602 ⟨b595, rfl, Hn601⟩; refine ⟨_, rfl, ?_⟩
           have H604 := hfr600 _ _ Hn601; clear H596
           refine aA ?_
           refine aB rfl (aX (v := .bool (b595)) (b := true) rfl rfl rfl rfl) rfl rfl ?_
           refine aI ?_
           refine aK ?_
           refine eU (fun a' W' => ∃ (E : GEntity) (BSlots : Option Addr) (cSlots : Nat) (BQueue : Option Addr) (cQueue : Nat) (BAskers : Option Addr) (cAskers : Nat) (x' : Nat → Value), a' = bH 101 x' [(0, .pointer (some ⟨gc, 0, none⟩)), (2, .pointer (some ⟨g_0_0, 0, none⟩)), (3, .pointer (some ⟨g_1_1, 0, none⟩))] ∧ St w F0 [hR aP 70 (.slice BSlots E.aM.length cSlots) E.aM, hR aH 181 (.slice BQueue E.Queue.length cQueue) E.Queue, hR aQ 155 (.slice BAskers E.aG.length cAskers) E.aG, hB g_1_1 77 #[.int .i64 (E.Kind), .int .i64 (E.Script), .slice BSlots E.aM.length cSlots, .int .i64 (E.State), .int .i64 (E.Value.Kind), .int .i64 (E.Value.N), .slice BQueue E.Queue.length cQueue, .slice BAskers E.aG.length cAskers, .int .i64 (E.bD), .int .i64 (E.Pos), .int .i64 (E.Count), .int .i64 (E.bJ)], bF gc 157 A bs.length cb, hB g_0_0 77 #[.int .i64 (0), .int .i64 (0), .slice none 0 0, .int .i64 (0), .int .i64 (0), .int .i64 (0), .slice none 0 0, .slice none 0 0, .int .i64 (0), .int .i64 (0), .int .i64 (0), .int .i64 (0)]] W' ∧ (E.aM.length ≤ 8) ∧ (bV bT E.Queue ≤ 30) ∧ (E.aG.length ≤ 2)) ?_ ?_
           ·refine jO (b := b595) rfl (fun hc605 => ?_) (fun hc605 => ?_)
            ·refine wp_seq ?_
             refine aN [0, 1, 2, 3, 4] rfl ?_
             refine aA ?_
             refine aB rfl (aF rfl) rfl rfl ?_
             refine aA ?_
             obtain ⟨F608, hs609, hF610, hfr611⟩ := St.frame (l0 := [bF gc 157 A bs.length cb]) (l := [hR aP 70 (.slice BSlots E.aM.length cSlots) E.aM, hR aH 181 (.slice BQueue E.Queue.length cQueue) E.Queue, hR aQ 155 (.slice BAskers E.aG.length cAskers) E.aG, hB g_1_1 77 #[.int .i64 (E.Kind), .int .i64 (E.Script), .slice BSlots E.aM.length cSlots, .int .i64 (E.State), .int .i64 (E.Value.Kind), .int .i64 (E.Value.N), .slice BQueue E.Queue.length cQueue, .slice BAskers E.aG.length cAskers, .int .i64 (E.bD), .int .i64 (E.Pos), .int .i64 (E.Count), .int .i64 (E.bJ)], hB g_0_0 77 #[.int .i64 (0), .int .i64 (0), .slice none 0 0, .int .i64 (0), .int .i64 (0), .int .i64 (0), .slice none 0 0, .slice none 0 0, .int .i64 (0), .int .i64 (0), .int .i64 (0), .int .i64 (0)]]) H604
             refine bC rfl Try.call130 (vs := #[.pointer (some ⟨gc, 0, none⟩)]) rfl rfl rfl (sent_s _ _ _ _ _ _ (CV.step hV H604.1 hF610) hn hs609) ?_
             rintro e614 W613 ⟨m606, cs607, rfl, hsent, Hn612⟩; refine ⟨_, rfl, ?_⟩
             have H615 : St w F0 [hM aH m606 cs607, bF gc 157 A bs.length cb, hR aP 70 (.slice BSlots E.aM.length cSlots) E.aM, hR aH 181 (.slice BQueue E.Queue.length cQueue) E.Queue, hR aQ 155 (.slice BAskers E.aG.length cAskers) E.aG, hB g_1_1 77 #[.int .i64 (E.Kind), .int .i64 (E.Script), .slice BSlots E.aM.length cSlots, .int .i64 (E.State), .int .i64 (E.Value.Kind), .int .i64 (E.Value.N), .slice BQueue E.Queue.length cQueue, .slice BAskers E.aG.length cAskers, .int .i64 (E.bD), .int .i64 (E.Pos), .int .i64 (E.Count), .int .i64 (E.bJ)], hB g_0_0 77 #[.int .i64 (0), .int .i64 (0), .slice none 0 0, .int .i64 (0), .int .i64 (0), .int .i64 (0), .slice none 0 0, .slice none 0 0, .int .i64 (0), .int .i64 (0), .int .i64 (0), .int .i64 (0)]] W613 := hfr611 (_ :: [_]) _ Hn612; clear H604
             refine aA ?_
             refine dD rfl Try.runUnderlying65 Try.sizeOf181 kD Try.zeroValue181 rfl (eY (H615.kn 0 rfl)) rfl rfl H615 ?_
             intro g_11_2 W616 hu617 Ha618; clear H615; clear hu617
             refine aA ?_
             refine aB rfl (aU jX rfl) rfl rfl ?_
             have H620 : St w F0 [hR aH 181 (.slice (some ⟨g_11_2, 0, none⟩) 1 1) ([m606]), bF gc 157 A bs.length cb, hR aP 70 (.slice BSlots E.aM.length cSlots) E.aM, hR aH 181 (.slice BQueue E.Queue.length cQueue) E.Queue, hR aQ 155 (.slice BAskers E.aG.length cAskers) E.aG, hB g_1_1 77 #[.int .i64 (E.Kind), .int .i64 (E.Script), .slice BSlots E.aM.length cSlots, .int .i64 (E.State), .int .i64 (E.Value.Kind), .int .i64 (E.Value.N), .slice BQueue E.Queue.length cQueue, .slice BAskers E.aG.length cAskers, .int .i64 (E.bD), .int .i64 (E.Pos), .int .i64 (E.Count), .int .i64 (E.bJ)], hB g_0_0 77 #[.int .i64 (0), .int .i64 (0), .slice none 0 0, .int .i64 (0), .int .i64 (0), .int .i64 (0), .slice none 0 0, .slice none 0 0, .int .i64 (0), .int .i64 (0), .int .i64 (0), .int .i64 (0)]] W616 := Ha618.iG (eY (Ha618.kn 1 rfl)); clear Ha618
             refine aA ?_
             have H624 : St w F0 [hB g_1_1 77 #[.int .i64 (E.Kind), .int .i64 (E.Script), .slice BSlots E.aM.length cSlots, .int .i64 (E.State), .int .i64 (E.Value.Kind), .int .i64 (E.Value.N), .slice BQueue E.Queue.length cQueue, .slice BAskers E.aG.length cAskers, .int .i64 (E.bD), .int .i64 (E.Pos), .int .i64 (E.Count), .int .i64 (E.bJ)], hR aH 181 (.slice (some ⟨g_11_2, 0, none⟩) 1 1) ([m606]), bF gc 157 A bs.length cb, hR aP 70 (.slice BSlots E.aM.length cSlots) E.aM, hR aH 181 (.slice BQueue E.Queue.length cQueue) E.Queue, hR aQ 155 (.slice BAskers E.aG.length cAskers) E.aG, hB g_0_0 77 #[.int .i64 (0), .int .i64 (0), .slice none 0 0, .int .i64 (0), .int .i64 (0), .int .i64 (0), .slice none 0 0, .slice none 0 0, .int .i64 (0), .int .i64 (0), .int .i64 (0), .int .i64 (0)]] W616 := H620.pick [5, 0, 1, 2, 3, 4, 6] kD rfl; clear H620
             refine bR rfl Try.sizeOf65 rfl rfl rfl (Nat.le_of_ble_eq_true rfl) (by simp [Value.cells, Value.oneCell']) H624 ?_
             intro W621 hu622 Ha623; clear H624; clear hu622
             refine aI ?_
             refine aK ?_
             refine aN [0, 1, 2, 3] rfl ?_
             refine aA ?_
             refine aB rfl (dS (vs := [(0, .int .i64 (1)), (1, .int .i64 (2))]) (cells := #[.int .i64 (1), .int .i64 (2)]) rfl kR) rfl rfl ?_
             refine aA ?_
             refine dD rfl Try.runUnderlying75 Try.sizeOf155 kD Try.zeroValue155 rfl rfl rfl rfl Ha623 ?_
             intro g_12_1 W626 hu627 Ha628; clear Ha623; clear hu627
             refine aA ?_
             refine aB rfl (aU jY rfl) rfl rfl ?_
             have H630 : St w F0 [hM aQ (⟨1, 2⟩ : GAsker) [.int .i64 (1), .int .i64 (2)], hB g_12_1 155 #[.int .i64 (1), .int .i64 (2)], hB g_1_1 77 #[.int .i64 (E.Kind), .int .i64 (E.Script), .slice BSlots E.aM.length cSlots, .int .i64 (E.State), .int .i64 (E.Value.Kind), .int .i64 (E.Value.N), .slice (some ⟨g_11_2, 0, none⟩) 1 1, .slice BAskers E.aG.length cAskers, .int .i64 (E.bD), .int .i64 (E.Pos), .int .i64 (E.Count), .int .i64 (E.bJ)], hR aH 181 (.slice (some ⟨g_11_2, 0, none⟩) 1 1) ([m606]), bF gc 157 A bs.length cb, hR aP 70 (.slice BSlots E.aM.length cSlots) E.aM, hR aH 181 (.slice BQueue E.Queue.length cQueue) E.Queue, hR aQ 155 (.slice BAskers E.aG.length cAskers) E.aG, hB g_0_0 77 #[.int .i64 (0), .int .i64 (0), .slice none 0 0, .int .i64 (0), .int .i64 (0), .int .i64 (0), .slice none 0 0, .slice none 0 0, .int .i64 (0), .int .i64 (0), .int .i64 (0), .int .i64 (0)]] W626 := Ha628.add0 (q := hM aQ (⟨1, 2⟩ : GAsker) [.int .i64 (1), .int .i64 (2)]) (iC _ No (⟨1, 2⟩ : GAsker)); clear Ha628
             have H631 : St w F0 [hB g_12_1 155 #[.int .i64 (1), .int .i64 (2)], hM aQ (⟨1, 2⟩ : GAsker) [.int .i64 (1), .int .i64 (2)], hB g_1_1 77 #[.int .i64 (E.Kind), .int .i64 (E.Script), .slice BSlots E.aM.length cSlots, .int .i64 (E.State), .int .i64 (E.Value.Kind), .int .i64 (E.Value.N), .slice (some ⟨g_11_2, 0, none⟩) 1 1, .slice BAskers E.aG.length cAskers, .int .i64 (E.bD), .int .i64 (E.Pos), .int .i64 (E.Count), .int .i64 (E.bJ)], hR aH 181 (.slice (some ⟨g_11_2, 0, none⟩) 1 1) ([m606]), bF gc 157 A bs.length cb, hR aP 70 (.slice BSlots E.aM.length cSlots) E.aM, hR aH 181 (.slice BQueue E.Queue.length cQueue) E.Queue, hR aQ 155 (.slice BAskers E.aG.length cAskers) E.aG, hB g_0_0 77 #[.int .i64 (0), .int .i64 (0), .slice none 0 0, .int .i64 (0), .int .i64 (0), .int .i64 (0), .slice none 0 0, .slice none 0 0, .int .i64 (0), .int .i64 (0), .int .i64 (0), .int .i64 (0)]] W626 := H630.pick [1, 0, 2, 3, 4, 5, 6, 7, 8] kD rfl; clear H630
             have H632 : St w F0 [hR aQ 155 (.slice (some ⟨g_12_1, 0, none⟩) 1 1) ([(⟨1, 2⟩ : GAsker)]), hB g_1_1 77 #[.int .i64 (E.Kind), .int .i64 (E.Script), .slice BSlots E.aM.length cSlots, .int .i64 (E.State), .int .i64 (E.Value.Kind), .int .i64 (E.Value.N), .slice (some ⟨g_11_2, 0, none⟩) 1 1, .slice BAskers E.aG.length cAskers, .int .i64 (E.bD), .int .i64 (E.Pos), .int .i64 (E.Count), .int .i64 (E.bJ)], hR aH 181 (.slice (some ⟨g_11_2, 0, none⟩) 1 1) ([m606]), bF gc 157 A bs.length cb, hR aP 70 (.slice BSlots E.aM.length cSlots) E.aM, hR aH 181 (.slice BQueue E.Queue.length cQueue) E.Queue, hR aQ 155 (.slice BAskers E.aG.length cAskers) E.aG, hB g_0_0 77 #[.int .i64 (0), .int .i64 (0), .slice none 0 0, .int .i64 (0), .int .i64 (0), .int .i64 (0), .slice none 0 0, .slice none 0 0, .int .i64 (0), .int .i64 (0), .int .i64 (0), .int .i64 (0)]] W626 := H631.iG rfl; clear H631
             refine aA ?_
             have H636 : St w F0 [hB g_1_1 77 #[.int .i64 (E.Kind), .int .i64 (E.Script), .slice BSlots E.aM.length cSlots, .int .i64 (E.State), .int .i64 (E.Value.Kind), .int .i64 (E.Value.N), .slice (some ⟨g_11_2, 0, none⟩) 1 1, .slice BAskers E.aG.length cAskers, .int .i64 (E.bD), .int .i64 (E.Pos), .int .i64 (E.Count), .int .i64 (E.bJ)], hR aQ 155 (.slice (some ⟨g_12_1, 0, none⟩) 1 1) ([(⟨1, 2⟩ : GAsker)]), hR aH 181 (.slice (some ⟨g_11_2, 0, none⟩) 1 1) ([m606]), bF gc 157 A bs.length cb, hR aP 70 (.slice BSlots E.aM.length cSlots) E.aM, hR aH 181 (.slice BQueue E.Queue.length cQueue) E.Queue, hR aQ 155 (.slice BAskers E.aG.length cAskers) E.aG, hB g_0_0 77 #[.int .i64 (0), .int .i64 (0), .slice none 0 0, .int .i64 (0), .int .i64 (0), .int .i64 (0), .slice none 0 0, .slice none 0 0, .int .i64 (0), .int .i64 (0), .int .i64 (0), .int .i64 (0)]] W626 := H632.pick [1, 0, 2, 3, 4, 5, 6, 7] kD rfl; clear H632
             refine bR rfl Try.sizeOf75 rfl rfl rfl (Nat.le_of_ble_eq_true rfl) (by simp [Value.cells, Value.oneCell']) H636 ?_
             intro W633 hu634 Ha635; clear H636; clear hu634
             refine aI ?_
             exact (aZ [(0, .pointer (some ⟨gc, 0, none⟩)), (2, .pointer (some ⟨g_0_0, 0, none⟩)), (3, .pointer (some ⟨g_1_1, 0, none⟩))] rfl).elim fun x' hx => ⟨(⟨E.Kind, E.Script, E.aM, E.State, E.Value, [m606], [(⟨1, 2⟩ : GAsker)], E.bD, E.Pos, E.Count, E.bJ⟩ : GEntity), BSlots, cSlots, (some ⟨g_11_2, 0, none⟩), 1, (some ⟨g_12_1, 0, none⟩), 1, x', hx, Ha635.pick [4, 2, 1, 0, 3, 7] kD rfl, (by first | exact hE1 | exact hLq | exact Nat.le_of_ble_eq_true rfl), (by first | exact hE2 | exact eT _ hsent | exact Nat.le_of_ble_eq_true rfl), (by first | exact hE3 | exact hE3 | exact Nat.le_of_ble_eq_true rfl)⟩
            ·refine wp_skip ?_
             exact (aZ [(0, .pointer (some ⟨gc, 0, none⟩)), (2, .pointer (some ⟨g_0_0, 0, none⟩)), (3, .pointer (some ⟨g_1_1, 0, none⟩))] rfl).elim fun x' hx => ⟨E, BSlots, cSlots, BQueue, cQueue, BAskers, cAskers, x', hx, H604.pick [1, 2, 3, 4, 0, 5] kD rfl, (by first | exact hE1 | exact hLq | exact Nat.le_of_ble_eq_true rfl), (by first | exact hE2 | exact eT _ hsent | exact Nat.le_of_ble_eq_true rfl), (by first | exact hE3 | exact hE3 | exact Nat.le_of_ble_eq_true rfl)⟩
           ·rintro _ W639 ⟨E, BSlots, cSlots, BQueue, cQueue, BAskers, cAskers, x640, rfl, H638, hE1, hE2, hE3⟩
            refine eP ?_
            exact (aZ [(0, .pointer (some ⟨gc, 0, none⟩)), (2, .pointer (some ⟨g_0_0, 0, none⟩)), (3, .pointer (some ⟨g_1_1, 0, none⟩))] rfl).elim fun x' hx => ⟨E, BSlots, cSlots, BQueue, cQueue, BAskers, cAskers, x', hx, H638, (by first | exact hE1 | exact hLq | exact Nat.le_of_ble_eq_true rfl), (by first | exact hE2 | exact eT _ hsent | exact Nat.le_of_ble_eq_true rfl), (by first | exact hE3 | exact hE3 | exact Nat.le_of_ble_eq_true rfl)⟩
          ·refine aA ?_
           refine aB rfl (bZ hg592 (bS rfl rfl)) rfl rfl ?_
           refine aA ?_
           refine aB rfl (aF rfl) rfl rfl ?_
           refine aA ?_
           refine aD rfl rfl rfl rfl rfl rfl rfl ?_
           refine aA ?_
           refine aD rfl rfl rfl rfl rfl rfl rfl ?_
           refine aA ?_
           refine aB rfl (aX (v := .bool (false)) (b := false) rfl rfl rfl rfl) rfl rfl ?_
           refine aI ?_
           refine aK ?_
           refine eU (fun a' W' => ∃ (E : GEntity) (BSlots : Option Addr) (cSlots : Nat) (BQueue : Option Addr) (cQueue : Nat) (BAskers : Option Addr) (cAskers : Nat) (x' : Nat → Value), a' = bH 101 x' [(0, .pointer (some ⟨gc, 0, none⟩)), (2, .pointer (some ⟨g_0_0, 0, none⟩)), (3, .pointer (some ⟨g_1_1, 0, none⟩))] ∧ St w F0 [hR aP 70 (.slice BSlots E.aM.length cSlots) E.aM, hR aH 181 (.slice BQueue E.Queue.length cQueue) E.Queue, hR aQ 155 (.slice BAskers E.aG.length cAskers) E.aG, hB g_1_1 77 #[.int .i64 (E.Kind), .int .i64 (E.Script), .slice BSlots E.aM.length cSlots, .int .i64 (E.State), .int .i64 (E.Value.Kind), .int .i64 (E.Value.N), .slice BQueue E.Queue.length cQueue, .slice BAskers E.aG.length cAskers, .int .i64 (E.bD), .int .i64 (E.Pos), .int .i64 (E.Count), .int .i64 (E.bJ)], bF gc 157 A bs.length cb, hB g_0_0 77 #[.int .i64 (0), .int .i64 (0), .slice none 0 0, .int .i64 (0), .int .i64 (0), .int .i64 (0), .slice none 0 0, .slice none 0 0, .int .i64 (0), .int .i64 (0), .int .i64 (0), .int .i64 (0)]] W' ∧ (E.aM.length ≤ 8) ∧ (bV bT E.Queue ≤ 30) ∧ (E.aG.length ≤ 2)) ?_ ?_
           ·refine fA rfl ?_
            refine wp_skip ?_
            exact (aZ [(0, .pointer (some ⟨gc, 0, none⟩)), (2, .pointer (some ⟨g_0_0, 0, none⟩)), (3, .pointer (some ⟨g_1_1, 0, none⟩))] rfl).elim fun x' hx => ⟨E, BSlots, cSlots, BQueue, cQueue, BAskers, cAskers, x', hx, H589, (by first | exact hE1 | exact hLq | exact Nat.le_of_ble_eq_true rfl), (by first | exact hE2 | exact eT _ hsent | exact Nat.le_of_ble_eq_true rfl), (by first | exact hE3 | exact hE3 | exact Nat.le_of_ble_eq_true rfl)⟩
           ·rintro _ W642 ⟨E, BSlots, cSlots, BQueue, cQueue, BAskers, cAskers, x643, rfl, H641, hE1, hE2, hE3⟩
            refine eP ?_
            exact (aZ [(0, .pointer (some ⟨gc, 0, none⟩)), (2, .pointer (some ⟨g_0_0, 0, none⟩)), (3, .pointer (some ⟨g_1_1, 0, none⟩))] rfl).elim fun x' hx => ⟨E, BSlots, cSlots, BQueue, cQueue, BAskers, cAskers, x', hx, H641, (by first | exact hE1 | exact hLq | exact Nat.le_of_ble_eq_true rfl), (by first | exact hE2 | exact eT _ hsent | exact Nat.le_of_ble_eq_true rfl), (by first | exact hE3 | exact hE3 | exact Nat.le_of_ble_eq_true rfl)⟩
     ·refine aA ?_
      refine bL rfl rfl rfl rfl (fun _ ho644 => ?_)
      refine aB ho644 (bZ hg382 (bS rfl rfl)) rfl rfl ?_
      refine aA ?_
      refine aB rfl (aX (v := .bool (false)) (b := false) rfl rfl rfl rfl) rfl rfl ?_
      refine aI ?_
      refine aK ?_
      refine eU (fun a' W' => ∃ (E : GEntity) (BSlots : Option Addr) (cSlots : Nat) (BQueue : Option Addr) (cQueue : Nat) (BAskers : Option Addr) (cAskers : Nat) (x' : Nat → Value), a' = bH 101 x' [(0, .pointer (some ⟨gc, 0, none⟩)), (2, .pointer (some ⟨g_0_0, 0, none⟩)), (3, .pointer (some ⟨g_1_1, 0, none⟩))] ∧ St w F0 [hR aP 70 (.slice BSlots E.aM.length cSlots) E.aM, hR aH 181 (.slice BQueue E.Queue.length cQueue) E.Queue, hR aQ 155 (.slice BAskers E.aG.length cAskers) E.aG, hB g_1_1 77 #[.int .i64 (E.Kind), .int .i64 (E.Script), .slice BSlots E.aM.length cSlots, .int .i64 (E.State), .int .i64 (E.Value.Kind), .int .i64 (E.Value.N), .slice BQueue E.Queue.length cQueue, .slice BAskers E.aG.length cAskers, .int .i64 (E.bD), .int .i64 (E.Pos), .int .i64 (E.Count), .int .i64 (E.bJ)], bF gc 157 A bs.length cb, hB g_0_0 77 #[.int .i64 (0), .int .i64 (0), .slice none 0 0, .int .i64 (0), .int .i64 (0), .int .i64 (0), .slice none 0 0, .slice none 0 0, .int .i64 (0), .int .i64 (0), .int .i64 (0), .int .i64 (0)]] W' ∧ (E.aM.length ≤ 8) ∧ (bV bT E.Queue ≤ 30) ∧ (E.aG.length ≤ 2)) ?_ ?_
      ·refine fA rfl ?_
       refine wp_skip ?_
       exact (aZ [(0, .pointer (some ⟨gc, 0, none⟩)), (2, .pointer (some ⟨g_0_0, 0, none⟩)), (3, .pointer (some ⟨g_1_1, 0, none⟩))] rfl).elim fun x' hx => ⟨(⟨prm.Kind, prm.Script, prm.aM, (1 + q103), prm.Value, prm.Queue, prm.aG, prm.bD, prm.Pos, prm.Count, prm.bJ⟩ : GEntity), B_3_0_2, c_3_0_2, B_3_0_6, c_3_0_6, B_3_0_7, c_3_0_7, x', hx, Ha116.pick [2, 3, 4, 0, 1, 5] kD rfl, (by first | exact hE1 | exact hLq | exact Nat.le_of_ble_eq_true rfl), (by first | exact hE2 | exact eT _ hsent | exact Nat.le_of_ble_eq_true rfl), (by first | exact hE3 | exact hE3 | exact Nat.le_of_ble_eq_true rfl)⟩
      ·rintro _ W646 ⟨E, BSlots, cSlots, BQueue, cQueue, BAskers, cAskers, x647, rfl, H645, hE1, hE2, hE3⟩
       refine aK ?_
       refine wp_seq ?_
       refine wp_seq ?_
       refine aN [0, 1, 2, 3, 4, 5, 6, 7] rfl ?_
       refine aA ?_
       refine aB rfl (aU fV rfl) rfl rfl ?_
       refine aA ?_
       refine aB rfl (bB (k := 3) (v := .int .i64 (E.State)) Try.isAgg3 rfl (H645.blk 3 rfl) rfl) rfl rfl ?_
       by_cases hg648 : (E.State : Int) = 3
       ·refine aA ?_
        refine aB rfl (bX hg648 (bS rfl rfl)) rfl rfl ?_
        refine aA ?_
        refine aB rfl (aF rfl) rfl rfl ?_
        refine aA ?_
        refine aD rfl rfl rfl rfl rfl rfl rfl ?_
        refine aA ?_
        refine aD rfl rfl rfl rfl rfl rfl rfl ?_
        refine aA ?_
        refine aD rfl rfl rfl rfl rfl rfl rfl ?_
        refine aA ?_
        refine aB rfl (aX (v := .bool (true)) (b := true) rfl rfl rfl rfl) rfl rfl ?_
        refine aI ?_
        refine aK ?_
        refine eU (fun a' W' => ∃ (E : GEntity) (BSlots : Option Addr) (cSlots : Nat) (BQueue : Option Addr) (cQueue : Nat) (BAskers : Option Addr) (cAskers : Nat) (x' : Nat → Value), a' = bH 101 x' [(0, .pointer (some ⟨gc, 0, none⟩)), (2, .pointer (some ⟨g_0_0, 0, none⟩)), (3, .pointer (some ⟨g_1_1, 0, none⟩))] ∧ St w F0 [hR aP 70 (.slice BSlots E.aM.length cSlots) E.aM, hR aH 181 (.slice BQueue E.Queue.length cQueue) E.Queue, hR aQ 155 (.slice BAskers E.aG.length cAskers) E.aG, hB g_1_1 77 #[.int .i64 (E.Kind), .int .i64 (E.Script), .slice BSlots E.aM.length cSlots, .int .i64 (E.State), .int .i64 (E.Value.Kind), .int .i64 (E.Value.N), .slice BQueue E.Queue.length cQueue, .slice BAskers E.aG.length cAskers, .int .i64 (E.bD), .int .i64 (E.Pos), .int .i64 (E.Count), .int .i64 (E.bJ)], bF gc 157 A bs.length cb, hB g_0_0 77 #[.int .i64 (0), .int .i64 (0), .slice none 0 0, .int .i64 (0), .int .i64 (0), .int .i64 (0), .slice none 0 0, .slice none 0 0, .int .i64 (0), .int .i64 (0), .int .i64 (0), .int .i64 (0)]] W' ∧ (E.aM.length ≤ 8) ∧ (bV bT E.Queue ≤ 30) ∧ (E.aG.length ≤ 2)) ?_ ?_
        ·refine fK rfl ?_
         refine wp_seq ?_
         refine aN [0, 1, 2, 3, 4] rfl ?_
         refine aA ?_
         refine aB rfl (aF rfl) rfl rfl ?_
         refine aA ?_
         have H651 : St w F0 [bF gc 157 A bs.length cb, hR aP 70 (.slice BSlots E.aM.length cSlots) E.aM, hR aH 181 (.slice BQueue E.Queue.length cQueue) E.Queue, hR aQ 155 (.slice BAskers E.aG.length cAskers) E.aG, hB g_1_1 77 #[.int .i64 (E.Kind), .int .i64 (E.Script), .slice BSlots E.aM.length cSlots, .int .i64 (E.State), .int .i64 (E.Value.Kind), .int .i64 (E.Value.N), .slice BQueue E.Queue.length cQueue, .slice BAskers E.aG.length cAskers, .int .i64 (E.bD), .int .i64 (E.Pos), .int .i64 (E.Count), .int .i64 (E.bJ)], hB g_0_0 77 #[.int .i64 (0), .int .i64 (0), .slice none 0 0, .int .i64 (0), .int .i64 (0), .int .i64 (0), .slice none 0 0, .slice none 0 0, .int .i64 (0), .int .i64 (0), .int .i64 (0), .int .i64 (0)]] W646 := H645.pick [4, 0, 1, 2, 3, 5] kD rfl; clear H645
         obtain ⟨F652, hs653, hF654, hfr655⟩ := St.frame (l0 := [bF gc 157 A bs.length cb]) (l := [hR aP 70 (.slice BSlots E.aM.length cSlots) E.aM, hR aH 181 (.slice BQueue E.Queue.length cQueue) E.Queue, hR aQ 155 (.slice BAskers E.aG.length cAskers) E.aG, hB g_1_1 77 #[.int .i64 (E.Kind), .int .i64 (E.Script), .slice BSlots E.aM.length cSlots, .int .i64 (E.State), .int .i64 (E.Value.Kind), .int .i64 (E.Value.N), .slice BQueue E.Queue.length cQueue, .slice BAskers E.aG.length cAskers, .int .i64 (E.bD), .int .i64 (E.Pos), .int .i64 (E.Count), .int .i64 (E.bJ)], hB g_0_0 77 #[.int .i64 (0), .int .i64 (0), .slice none 0 0, .int .i64 (0), .int .i64 (0), .int .i64 (0), .slice none 0 0, .slice none 0 0, .int .i64 (0), .int .i64 (0), .int .i64 (0), .int .i64 (0)]]) H651
         refine bC rfl Try.call44 (vs := #[.pointer (some ⟨gc, 0, none⟩), .int .i64 (3)]) rfl rfl rfl (dN 3 _ _ _ _ _ _ (CV.step hV H651.1 hF654) hn hs653) ?_
         rintro e658 W657 ⟨q649, rfl, hq650, Hn656⟩; refine ⟨_, rfl, ?_⟩
         have H659 := hfr655 _ _ Hn656; clear H651
         refine aA ?_
         refine aB rfl (gV rfl rfl kO) rfl rfl ?_
         refine aA ?_
         refine aB rfl (aU jZ rfl) rfl rfl ?_
         refine aA ?_
         have H663 : St w F0 [hB g_1_1 77 #[.int .i64 (E.Kind), .int .i64 (E.Script), .slice BSlots E.aM.length cSlots, .int .i64 (E.State), .int .i64 (E.Value.Kind), .int .i64 (E.Value.N), .slice BQueue E.Queue.length cQueue, .slice BAskers E.aG.length cAskers, .int .i64 (E.bD), .int .i64 (E.Pos), .int .i64 (E.Count), .int .i64 (E.bJ)], bF gc 157 A bs.length cb, hR aP 70 (.slice BSlots E.aM.length cSlots) E.aM, hR aH 181 (.slice BQueue E.Queue.length cQueue) E.Queue, hR aQ 155 (.slice BAskers E.aG.length cAskers) E.aG, hB g_0_0 77 #[.int .i64 (0), .int .i64 (0), .slice none 0 0, .int .i64 (0), .int .i64 (0), .int .i64 (0), .slice none 0 0, .slice none 0 0, .int .i64 (0), .int .i64 (0), .int .i64 (0), .int .i64 (0)]] W657 := H659.pick [4, 0, 1, 2, 3, 5] kD rfl; clear H659
         refine bR rfl Try.sizeOf3 rfl rfl rfl (Nat.le_of_ble_eq_true rfl) (by simp [Value.cells, Value.oneCell']) H663 ?_
         intro W660 hu661 Ha662; clear H663; clear hu661
         refine aI ?_
         refine aK ?_
         refine aN [0, 1, 2, 3, 4] rfl ?_
         refine aA ?_
         refine aB rfl (aF rfl) rfl rfl ?_
         refine aA ?_
         have H667 : St w F0 [bF gc 157 A bs.length cb, hB g_1_1 77 #[.int .i64 (E.Kind), .int .i64 (E.Script), .slice BSlots E.aM.length cSlots, .int .i64 (E.State), .int .i64 (E.Value.Kind), .int .i64 (E.Value.N), .slice BQueue E.Queue.length cQueue, .slice BAskers E.aG.length cAskers, .int .i64 ((1 + q649)), .int .i64 (E.Pos), .int .i64 (E.Count), .int .i64 (E.bJ)], hR aP 70 (.slice BSlots E.aM.length cSlots) E.aM, hR aH 181 (.slice BQueue E.Queue.length cQueue) E.Queue, hR aQ 155 (.slice BAskers E.aG.length cAskers) E.aG, hB g_0_0 77 #[.int .i64 (0), .int .i64 (0), .slice none 0 0, .int .i64 (0), .int .i64 (0), .int .i64 (0), .slice none 0 0, .slice none 0 0, .int .i64 (0), .int .i64 (0), .int .i64 (0), .int .i64 (0)]] W660 := Ha662.pick [1, 0, 2, 3, 4, 5] kD rfl; clear Ha662
         obtain ⟨F668, hs669, hF670, hfr671⟩ := St.frame (l0 := [bF gc 157 A bs.length cb]) (l := [hB g_1_1 77 #[.int .i64 (E.Kind), .int .i64 (E.Script), .slice BSlots E.aM.length cSlots, .int .i64 (E.State), .int .i64 (E.Value.Kind), .int .i64 (E.Value.N), .slice BQueue E.Queue.length cQueue, .slice BAskers E.aG.length cAskers, .int .i64 ((1 + q649)), .int .i64 (E.Pos), .int .i64 (E.Count), .int .i64 (E.bJ)], hR aP 70 (.slice BSlots E.aM.length cSlots) E.aM, hR aH 181 (.slice BQueue E.Queue.length cQueue) E.Queue, hR aQ 155 (.slice BAskers E.aG.length cAskers) E.aG, hB g_0_0 77 #[.int .i64 (0), .int .i64 (0), .slice none 0 0, .int .i64 (0), .int .i64 (0), .int .i64 (0), .slice none 0 0, .slice none 0 0, .int .i64 (0), .int .i64 (0), .int .i64 (0), .int .i64 (0)]]) H667
         refine bC rfl Try.call44 (vs := #[.pointer (some ⟨gc, 0, none⟩), .int .i64 (5)]) rfl rfl rfl (dN 5 _ _ _ _ _ _ (CV.step hV H667.1 hF670) hn hs669) ?_
         rintro e674 W673 ⟨q665, rfl, hq666, Hn672⟩; refine ⟨_, rfl, ?_⟩
         have H675 := hfr671 _ _ Hn672; clear H667
         refine aA ?_
         refine aB rfl (gV rfl rfl kO) rfl rfl ?_
         refine aA ?_
         refine aB rfl (aU kT rfl) rfl rfl ?_
         refine aA ?_
         have H679 : St w F0 [hB g_1_1 77 #[.int .i64 (E.Kind), .int .i64 (E.Script), .slice BSlots E.aM.length cSlots, .int .i64 (E.State), .int .i64 (E.Value.Kind), .int .i64 (E.Value.N), .slice BQueue E.Queue.length cQueue, .slice BAskers E.aG.length cAskers, .int .i64 ((1 + q649)), .int .i64 (E.Pos), .int .i64 (E.Count), .int .i64 (E.bJ)], bF gc 157 A bs.length cb, hR aP 70 (.slice BSlots E.aM.length cSlots) E.aM, hR aH 181 (.slice BQueue E.Queue.length cQueue) E.Queue, hR aQ 155 (.slice BAskers E.aG.length cAskers) E.aG, hB g_0_0 77 #[.int .i64 (0), .int .i64 (0), .slice none 0 0, .int .i64 (0), .int .i64 (0), .int .i64 (0), .slice none 0 0, .slice none 0 0, .int .i64 (0), .int .i64 (0), .int .i64 (0), .int .i64 (0)]] W673 := H675.pick [1, 0, 2, 3, 4, 5] kD rfl; clear H675
         refine bR rfl Try.sizeOf3 rfl rfl rfl (Nat.le_of_ble_eq_true rfl) (by simp [Value.cells, Value.oneCell']) H679 ?_
         intro W676 hu677 Ha678; clear H679; clear hu677
         refine aI ?_
         exact (aZ [(0, .pointer (some ⟨gc, 0, none⟩)), (2, .pointer (some ⟨g_0_0, 0, none⟩)), (3, .pointer (some ⟨g_1_1, 0, none⟩))] rfl).elim fun x' hx => ⟨(⟨E.Kind, E.Script, E.aM, E.State, E.Value, E.Queue, E.aG, (1 + q649), (1 + q665), E.Count, E.bJ⟩ : GEntity), BSlots, cSlots, BQueue, cQueue, BAskers, cAskers, x', hx, Ha678.pick [2, 3, 4, 0, 1, 5] kD rfl, (by first | exact hE1 | exact hLq | exact Nat.le_of_ble_eq_true rfl), (by first | exact hE2 | exact eT _ hsent | exact Nat.le_of_ble_eq_true rfl), (by first | exact hE3 | exact hE3 | exact Nat.le_of_ble_eq_true rfl)⟩
        ·rintro _ W682 ⟨E, BSlots, cSlots, BQueue, cQueue, BAskers, cAskers, x683, rfl, H681, hE1, hE2, hE3⟩
         refine aK ?_
         refine wp_seq ?_
         refine aN [0, 1, 2, 3, 4, 5, 6] rfl ?_
         refine aA ?_
         refine aB rfl (aU fV rfl) rfl rfl ?_
         refine aA ?_
         refine aB rfl (bB (k := 3) (v := .int .i64 (E.State)) Try.isAgg3 rfl (H681.blk 3 rfl) rfl) rfl rfl ?_
         by_cases hg684 : (E.State : Int) = 1
         ·refine aA ?_
          refine aB rfl (bX hg684 (bS rfl rfl)) rfl rfl ?_
          refine aA ?_
          refine aB rfl (aF rfl) rfl rfl ?_
          refine aA ?_
          refine bL rfl rfl rfl rfl (fun _ ho685 => ?_)
          refine aB ho685 (aF rfl) rfl rfl ?_
          refine aA ?_
          refine bL rfl rfl rfl rfl (fun _ ho686 => ?_)
          have H688 : St w F0 [bF gc 157 A bs.length cb, hR aP 70 (.slice BSlots E.aM.length cSlots) E.aM, hR aH 181 (.slice BQueue E.Queue.length cQueue) E.Queue, hR aQ 155 (.slice BAskers E.aG.length cAskers) E.aG, hB g_1_1 77 #[.int .i64 (E.Kind), .int .i64 (E.Script), .slice BSlots E.aM.length cSlots, .int .i64 (E.State), .int .i64 (E.Value.Kind), .int .i64 (E.Value.N), .slice BQueue E.Queue.length cQueue, .slice BAskers E.aG.length cAskers, .int .i64 (E.bD), .int .i64 (E.Pos), .int .i64 (E.Count), .int .i64 (E.bJ)], hB g_0_0 77 #[.int .i64 (0), .int .i64 (0), .slice none 0 0, .int .i64 (0), .int .i64 (0), .int .i64 (0), .slice none 0 0, .slice none 0 0, .int .i64 (0), .int .i64 (0), .int .i64 (0), .int .i64 (0)]] W682 := H681.pick [4, 0, 1, 2, 3, 5] kD rfl; clear H681
          obtain ⟨F689, hs690, hF691, hfr692⟩ := St.frame (l0 := [bF gc 157 A bs.length cb]) (l := [hR aP 70 (.slice BSlots E.aM.length cSlots) E.aM, hR aH 181 (.slice BQueue E.Queue.length cQueue) E.Queue, hR aQ 155 (.slice BAskers E.aG.length cAskers) E.aG, hB g_1_1 77 #[.int .i64 (E.Kind), .int .i64 (E.Script), .slice BSlots E.aM.length cSlots, .int .i64 (E.State), .int .i64 (E.Value.Kind), .int .i64 (E.Value.N), .slice BQueue E.Queue.length cQueue, .slice BAskers E.aG.length cAskers, .int .i64 (E.bD), .int .i64 (E.Pos), .int .i64 (E.Count), .int .i64 (E.bJ)], hB g_0_0 77 #[.int .i64 (0), .int .i64 (0), .slice none 0 0, .int .i64 (0), .int .i64 (0), .int .i64 (0), .slice none 0 0, .slice none 0 0, .int .i64 (0), .int .i64 (0), .int .i64 (0), .int .i64 (0)]]) H688
          refine bC ho686 Try.call43 (vs := #[.pointer (some ⟨gc, 0, none⟩), .int .i64 (2)]) rfl rfl rfl (jR 2 _ _ _ _ _ _ (CV.step hV H688.1 hF691) hn hs690) ?_
          rintro e695 W694 ⟨b687, rfl, Hn693⟩; refine ⟨_, rfl, ?_⟩
          have H696 := hfr692 _ _ Hn693; clear H688
          refine aA ?_
          refine aB rfl (aX (v := .bool (b687)) (b := true) rfl rfl rfl rfl) rfl rfl ?_
          refine aI ?_
          refine aK ?_
          refine eU (fun a' W' => ∃ (E : GEntity) (BSlots : Option Addr) (cSlots : Nat) (BQueue : Option Addr) (cQueue : Nat) (BAskers : Option Addr) (cAskers : Nat) (x' : Nat → Value), a' = bH 101 x' [(0, .pointer (some ⟨gc, 0, none⟩)), (2, .pointer (some ⟨g_0_0, 0, none⟩)), (3, .pointer (some ⟨g_1_1, 0, none⟩))] ∧ St w F0 [hR aP 70 (.slice BSlots E.aM.length cSlots) E.aM, hR aH 181 (.slice BQueue E.Queue.length cQueue) E.Queue, hR aQ 155 (.slice BAskers E.aG.length cAskers) E.aG, hB g_1_1 77 #[.int .i64 (E.Kind), .int .i64 (E.Script), .slice BSlots E.aM.length cSlots, .int .i64 (E.State), .int .i64 (E.Value.Kind), .int .i64 (E.Value.N), .slice BQueue E.Queue.length cQueue, .slice BAskers E.aG.length cAskers, .int .i64 (E.bD), .int .i64 (E.Pos), .int .i64 (E.Count), .int .i64 (E.bJ)], bF gc 157 A bs.length cb, hB g_0_0 77 #[.int .i64 (0), .int .i64 (0), .slice none 0 0, .int .i64 (0), .int .i64 (0), .int .i64 (0), .slice none 0 0, .slice none 0 0, .int .i64 (0), .int .i64 (0), .int .i64 (0), .int .i64 (0)]] W' ∧ (E.aM.length ≤ 8) ∧ (bV bT E.Queue ≤ 30) ∧ (E.aG.length ≤ 2)) ?_ ?_
          ·refine jO (b := b687) rfl (fun hc697 => ?_) (fun hc697 => ?_)
           ·refine wp_seq ?_
            refine aN [0, 1, 2, 3, 4] rfl ?_
            refine aA ?_
            refine aB rfl (aF rfl) rfl rfl ?_
            refine aA ?_
            obtain ⟨F700, hs701, hF702, hfr703⟩ := St.frame (l0 := [bF gc 157 A bs.length cb]) (l := [hR aP 70 (.slice BSlots E.aM.length cSlots) E.aM, hR aH 181 (.slice BQueue E.Queue.length cQueue) E.Queue, hR aQ 155 (.slice BAskers E.aG.length cAskers) E.aG, hB g_1_1 77 #[.int .i64 (E.Kind), .int .i64 (E.Script), .slice BSlots E.aM.length cSlots, .int .i64 (E.State), .int .i64 (E.Value.Kind), .int .i64 (E.Value.N), .slice BQueue E.Queue.length cQueue, .slice BAskers E.aG.length cAskers, .int .i64 (E.bD), .int .i64 (E.Pos), .int .i64 (E.Count), .int .i64 (E.bJ)], hB g_0_0 77 #[.int .i64 (0), .int .i64 (0), .slice none 0 0, .int .i64 (0), .int .i64 (0), .int .i64 (0), .slice none 0 0, .slice none 0 0, .int .i64 (0), .int .i64 (0), .int .i64 (0), .int .i64 (0)]]) H696
            refine bC rfl Try.call130 (vs := #[.pointer (some ⟨gc, 0, none⟩)]) rfl rfl rfl (sent_s _ _ _ _ _ _ (CV.step hV H696.1 hF702) hn hs701) ?_
            rintro e706 W705 ⟨m698, cs699, rfl, hsent, Hn704⟩; refine ⟨_, rfl, ?_⟩
            have H707 : St w F0 [hM aH m698 cs699, bF gc 157 A bs.length cb, hR aP 70 (.slice BSlots E.aM.length cSlots) E.aM, hR aH 181 (.slice BQueue E.Queue.length cQueue) E.Queue, hR aQ 155 (.slice BAskers E.aG.length cAskers) E.aG, hB g_1_1 77 #[.int .i64 (E.Kind), .int .i64 (E.Script), .slice BSlots E.aM.length cSlots, .int .i64 (E.State), .int .i64 (E.Value.Kind), .int .i64 (E.Value.N), .slice BQueue E.Queue.length cQueue, .slice BAskers E.aG.length cAskers, .int .i64 (E.bD), .int .i64 (E.Pos), .int .i64 (E.Count), .int .i64 (E.bJ)], hB g_0_0 77 #[.int .i64 (0), .int .i64 (0), .slice none 0 0, .int .i64 (0), .int .i64 (0), .int .i64 (0), .slice none 0 0, .slice none 0 0, .int .i64 (0), .int .i64 (0), .int .i64 (0), .int .i64 (0)]] W705 := hfr703 (_ :: [_]) _ Hn704; clear H696
            refine aA ?_
            refine dD rfl Try.runUnderlying65 Try.sizeOf181 kD Try.zeroValue181 rfl (eY (H707.kn 0 rfl)) rfl rfl H707 ?_
            intro g_11_2 W708 hu709 Ha710; clear H707; clear hu709
            refine aA ?_
            refine aB rfl (aU jX rfl) rfl rfl ?_
            have H712 : St w F0 [hR aH 181 (.slice (some ⟨g_11_2, 0, none⟩) 1 1) ([m698]), bF gc 157 A bs.length cb, hR aP 70 (.slice BSlots E.aM.length cSlots) E.aM, hR aH 181 (.slice BQueue E.Queue.length cQueue) E.Queue, hR aQ 155 (.slice BAskers E.aG.length cAskers) E.aG, hB g_1_1 77 #[.int .i64 (E.Kind), .int .i64 (E.Script), .slice BSlots E.aM.length cSlots, .int .i64 (E.State), .int .i64 (E.Value.Kind), .int .i64 (E.Value.N), .slice BQueue E.Queue.length cQueue, .slice BAskers E.aG.length cAskers, .int .i64 (E.bD), .int .i64 (E.Pos), .int .i64 (E.Count), .int .i64 (E.bJ)], hB g_0_0 77 #[.int .i64 (0), .int .i64 (0), .slice none 0 0, .int .i64 (0), .int .i64 (0), .int .i64 (0), .slice none 0 0, .slice none 0 0, .int .i64 (0), .int .i64 (0), .int .i64 (0), .int .i64 (0)]] W708 := Ha710.iG (eY (Ha710.kn 1 rfl)); clear Ha710
            refine aA ?_
            have H716 : St w F0 [hB g_1_1 77 #[.int .i64 (E.Kind), .int .i64 (E.Script), .slice BSlots E.aM.length cSlots, .int .i64 (E.State), .int .i64 (E.Value.Kind), .int .i64 (E.Value.N), .slice BQueue E.Queue.length cQueue, .slice BAskers E.aG.length cAskers, .int .i64 (E.bD), .int .i64 (E.Pos), .int .i64 (E.Count), .int .i64 (E.bJ)], hR aH 181 (.slice (some ⟨g_11_2, 0, none⟩) 1 1) ([m698]), bF gc 157 A bs.length cb, hR aP 70 (.slice BSlots E.aM.length cSlots) E.aM, hR aH 181 (.slice BQueue E.Queue.length cQueue) E.Queue, hR aQ 155 (.slice BAskers E.aG.length cAskers) E.aG, hB g_0_0 77 #[.int .i64 (0), .int .i64 (0), .slice none 0 0, .int .i64 (0), .int .i64 (0), .int .i64 (0), .slice none 0 0, .slice none 0 0, .int .i64 (0), .int .i64 (0), .int .i64 (0), .int .i64 (0)]] W708 := H712.pick [5, 0, 1, 2, 3, 4, 6] kD rfl; clear H712
            refine bR rfl Try.sizeOf65 rfl rfl rfl (Nat.le_of_ble_eq_true rfl) (by simp [Value.cells, Value.oneCell']) H716 ?_
            intro W713 hu714 Ha715; clear H716; clear hu714
            refine aI ?_
            refine aK ?_
            refine aN [0, 1, 2, 3] rfl ?_
            refine aA ?_
            refine aB rfl (dS (vs := [(0, .int .i64 (1)), (1, .int .i64 (2))]) (cells := #[.int .i64 (1), .int .i64 (2)]) rfl kR) rfl rfl ?_
            refine aA ?_
            refine dD rfl Try.runUnderlying75 Try.sizeOf155 kD Try.zeroValue155 rfl rfl rfl rfl Ha715 ?_
            intro g_12_1 W718 hu719 Ha720; clear Ha715; clear hu719
            refine aA ?_
            refine aB rfl (aU jY rfl) rfl rfl ?_
            have H722 : St w F0 [hM aQ (⟨1, 2⟩ : GAsker) [.int .i64 (1), .int .i64 (2)], hB g_12_1 155 #[.int .i64 (1), .int .i64 (2)], hB g_1_1 77 #[.int .i64 (E.Kind), .int .i64 (E.Script), .slice BSlots E.aM.length cSlots, .int .i64 (E.State), .int .i64 (E.Value.Kind), .int .i64 (E.Value.N), .slice (some ⟨g_11_2, 0, none⟩) 1 1, .slice BAskers E.aG.length cAskers, .int .i64 (E.bD), .int .i64 (E.Pos), .int .i64 (E.Count), .int .i64 (E.bJ)], hR aH 181 (.slice (some ⟨g_11_2, 0, none⟩) 1 1) ([m698]), bF gc 157 A bs.length cb, hR aP 70 (.slice BSlots E.aM.length cSlots) E.aM, hR aH 181 (.slice BQueue E.Queue.length cQueue) E.Queue, hR aQ 155 (.slice BAskers E.aG.length cAskers) E.aG, hB g_0_0 77 #[.int .i64 (0), .int .i64 (0), .slice none 0 0, .int .i64 (0), .int .i64 (0), .int .i64 (0), .slice none 0 0, .slice none 0 0, .int .i64 (0), .int .i64 (0), .int .i64 (0), .int .i64 (0)]] W718 := Ha720.add0 (q := hM aQ (⟨1, 2⟩ : GAsker) [.int .i64 (1), .int .i64 (2)]) (iC _ No (⟨1, 2⟩ : GAsker)); clear Ha720
            have H723 : St w F0 [hB g_12_1 155 #[.int .i64 (1), .int .i64 (2)], hM aQ (⟨1, 2⟩ : GAsker) [.int .i64 (1), .int .i64 (2)], hB g_1_1 77 #[.int .i64 (E.Kind), .int .i64 (E.Script), .slice BSlots E.aM.length cSlots, .int .i64 (E.State), .int .i64 (E.Value.Kind), .int .i64 (E.Value.N), .slice (some ⟨g_11_2, 0, none⟩) 1 1, .slice BAskers E.aG.length cAskers, .int .i64 (E.bD), .int .i64 (E.Pos), .int .i64 (E.Count), .int .i64 (E.bJ)], hR aH 181 (.slice (some ⟨g_11_2, 0, none⟩) 1 1) ([m698]), bF gc 157 A bs.length cb, hR aP 70 (.slice BSlots E.aM.length cSlots) E.aM, hR aH 181 (.slice BQueue E.Queue.length cQueue) E.Queue, hR aQ 155 (.slice BAskers E.aG.length cAskers) E.aG, hB g_0_0 77 #[.int .i64 (0), .int .i64 (0), .slice none 0 0, .int .i64 (0), .int .i64 (0), .int .i64 (0), .slice none 0 0, .slice none 0 0, .int .i64 (0), .int .i64 (0), .int .i64 (0), .int .i64 (0)]] W718 := H722.pick [1, 0, 2, 3, 4, 5, 6, 7, 8] kD rfl; clear H722
            have H724 : St w F0 [hR aQ 155 (.slice (some ⟨g_12_1, 0, none⟩) 1 1) ([(⟨1, 2⟩ : GAsker)]), hB g_1_1 77 #[.int .i64 (E.Kind), .int .i64 (E.Script), .slice BSlots E.aM.length cSlots, .int .i64 (E.State), .int .i64 (E.Value.Kind), .int .i64 (E.Value.N), .slice (some ⟨g_11_2, 0, none⟩) 1 1, .slice BAskers E.aG.length cAskers, .int .i64 (E.bD), .int .i64 (E.Pos), .int .i64 (E.Count), .int .i64 (E.bJ)], hR aH 181 (.slice (some ⟨g_11_2, 0, none⟩) 1 1) ([m698]), bF gc 157 A bs.length cb, hR aP 70 (.slice BSlots E.aM.length cSlots) E.aM, hR aH 181 (.slice BQueue E.Queue.length cQueue) E.Queue, hR aQ 155 (.slice BAskers E.aG.length cAskers) E.aG, hB g_0_0 77 #[.int .i64 (0), .int .i64 (0), .slice none 0 0, .int .i64 (0), .int .i64 (0), .int .i64 (0), .slice none 0 0, .slice none 0 0, .int .i64 (0), .int .i64 (0), .int .i64 (0), .int .i64 (0)]] W718 := H723.iG rfl; clear H723
            refine aA ?_
            have H728 : St w F0 [hB g_1_1 77 #[.int .i64 (E.Kind), .int .i64 (E.Script), .slice BSlots E.aM.length cSlots, .int .i64 (E.State), .int .i64 (E.Value.Kind), .int .i64 (E.Value.N), .slice (some ⟨g_11_2, 0, none⟩) 1 1, .slice BAskers E.aG.length cAskers, .int .i64 (E.bD), .int .i64 (E.Pos), .int .i64 (E.Count), .int .i64 (E.bJ)], hR aQ 155 (.slice (some ⟨g_12_1, 0, none⟩) 1 1) ([(⟨1, 2⟩ : GAsker)]), hR aH 181 (.slice (some ⟨g_11_2, 0, none⟩) 1 1) ([m698]), bF gc 157 A bs.length cb, hR aP 70 (.slice BSlots E.aM.length cSlots) E.aM, hR aH 181 (.slice BQueue E.Queue.length cQueue) E.Queue, hR aQ 155 (.slice BAskers E.aG.length cAskers) E.aG, hB g_0_0 77 #[.int .i64 (0), .int .i64 (0), .slice none 0 0, .int .i64 (0), .int .i64 (0), .int .i64 (0), .slice none 0 0, .slice none 0 0, .int .i64 (0), .int .i64 (0), .int .i64 (0), .int .i64 (0)]] W718 := H724.pick [1, 0, 2, 3, 4, 5, 6, 7] kD rfl; clear H724
            refine bR rfl Try.sizeOf75 rfl rfl rfl (Nat.le_of_ble_eq_true rfl) (by simp [Value.cells, Value.oneCell']) H728 ?_
            intro W725 hu726 Ha727; clear H728; clear hu726
            refine aI ?_
            exact (aZ [(0, .pointer (some ⟨gc, 0, none⟩)), (2, .pointer (some ⟨g_0_0, 0, none⟩)), (3, .pointer (some ⟨g_1_1, 0, none⟩))] rfl).elim fun x' hx => ⟨(⟨E.Kind, E.Script, E.aM, E.State, E.Value, [m698], [(⟨1, 2⟩ : GAsker)], E.bD, E.Pos, E.Count, E.bJ⟩ : GEntity), BSlots, cSlots, (some ⟨g_11_2, 0, none⟩), 1, (some ⟨g_12_1, 0, none⟩), 1, x', hx, Ha727.pick [4, 2, 1, 0, 3, 7] kD rfl, (by first | exact hE1 | exact hLq | exact Nat.le_of_ble_eq_true rfl), (by first | exact hE2 | exact eT _ hsent | exact Nat.le_of_ble_eq_true rfl), (by first | exact hE3 | exact hE3 | exact Nat.le_of_ble_eq_true rfl)⟩
           ·refine wp_skip ?_
            exact (aZ [(0, .pointer (some ⟨gc, 0, none⟩)), (2, .pointer (some ⟨g_0_0, 0, none⟩)), (3, .pointer (some ⟨g_1_1, 0, none⟩))] rfl).elim fun x' hx => ⟨E, BSlots, cSlots, BQueue, cQueue, BAskers, cAskers, x', hx, H696.pick [1, 2, 3, 4, 0, 5] kD rfl, (by first | exact hE1 | exact hLq | exact Nat.le_of_ble_eq_true rfl), (by first | exact hE2 | exact eT _ hsent | exact Nat.le_of_ble_eq_true rfl), (by first | exact hE3 | exact hE3 | exact Nat.le_of_ble_eq_true rfl)⟩
          ·rintro _ W731 ⟨E, BSlots, cSlots, BQueue, cQueue, BAskers, cAskers, x732, rfl, H730, hE1, hE2, hE3⟩
           refine eP ?_
           exact (aZ [(0, .pointer (some ⟨gc, 0, none⟩)), (2, .pointer (some ⟨g_0_0, 0, none⟩)), (3, .pointer (some ⟨g_1_1, 0, none⟩))] rfl).elim fun x' hx => ⟨E, BSlots, cSlots, BQueue, cQueue, BAskers, cAskers, x', hx, H730, (by first | exact hE1 | exact hLq | exact Nat.le_of_ble_eq_true rfl), (by first | exact hE2 | exact eT _ hsent | exact Nat.le_of_ble_eq_true rfl), (by first | exact hE3 | exact hE3 | exact Nat.le_of_ble_eq_true rfl)⟩
         ·refine aA ?_
          refine aB rfl (bZ hg684 (bS rfl rfl)) rfl rfl ?_
          refine aA ?_
          refine aB rfl (aF rfl) rfl rfl ?_
          refine aA ?_
          refine aD rfl rfl rfl rfl rfl rfl rfl ?_
          refine aA ?_
          refine aD rfl rfl rfl rfl rfl rfl rfl ?_
          refine aA ?_
          refine aB rfl (aX (v := .bool (false)) (b := false) rfl rfl rfl rfl) rfl rfl ?_
          refine aI ?_
          refine aK ?_
          refine eU (fun a' W' => ∃ (E : GEntity) (BSlots : Option Addr) (cSlots : Nat) (BQueue : Option Addr) (cQueue : Nat) (BAskers : Option Addr) (cAskers : Nat) (x' : Nat → Value), a' = bH 101 x' [(0, .pointer (some ⟨gc, 0, none⟩)), (2, .pointer (some ⟨g_0_0, 0, none⟩)), (3, .pointer (some ⟨g_1_1, 0, none⟩))] ∧ St w F0 [hR aP 70 (.slice BSlots E.aM.length cSlots) E.aM, hR aH 181 (.slice BQueue E.Queue.length cQueue) E.Queue, hR aQ 155 (.slice BAskers E.aG.length cAskers) E.aG, hB g_1_1 77 #[.int .i64 (E.Kind), .int .i64 (E.Script), .slice BSlots E.aM.length cSlots, .int .i64 (E.State), .int .i64 (E.Value.Kind), .int .i64 (E.Value.N), .slice BQueue E.Queue.length cQueue, .slice BAskers E.aG.length cAskers, .int .i64 (E.bD), .int .i64 (E.Pos), .int .i64 (E.Count), .int .i64 (E.bJ)], bF gc 157 A bs.length cb, hB g_0_0 77 #[.int .i64 (0), .int .i64 (0), .slice none 0 0, .int .i64 (0), .int .i64 (0), .int .i64 (0), .slice none 0 0, .slice none 0 0, .int .i64 (0), .int .i64 (0), .int .i64 (0), .int .i64 (0)]] W' ∧ (E.aM.length ≤ 8) ∧ (bV bT E.Queue ≤ 30) ∧ (E.aG.length ≤ 2)) ?_ ?_
          ·refine fA rfl ?_
           refine wp_skip ?_
           exact (aZ [(0, .pointer (some ⟨gc, 0, none⟩)), (2, .pointer (some ⟨g_0_0, 0, none⟩)), (3, .pointer (some ⟨g_1_1, 0, none⟩))] rfl).elim fun x' hx => ⟨E, BSlots, cSlots, BQueue, cQueue, BAskers, cAskers, x', hx, H681, (by first | exact hE1 | exact hLq | exact Nat.le_of_ble_eq_true rfl), (by first | exact hE2 | exact eT _ hsent | exact Nat.le_of_ble_eq_true rfl), (by first | exact hE3 | exact hE3 | exact Nat.le_of_ble_eq_true rfl)⟩
          ·rintro _ W734 ⟨E, BSlots, cSlots, BQueue, cQueue, BAskers, cAskers, x735, rfl, H733, hE1, hE2, hE3⟩
           refine eP ?_
           exact (aZ [(0, .pointer (some ⟨gc, 0, none⟩)), (2, .pointer (some ⟨g_0_0, 0, none⟩)), (3, .pointer (some ⟨g_1_1, 0, none⟩))] rfl).elim fun x' hx => ⟨E, BSlots, cSlots, BQueue, cQueue, BAskers, cAskers, x', hx, H733, (by first | exact hE1 | exact hLq | exact Nat.le_of_ble_eq_true rfl), (by first | exact hE2 | exact eT _ hsent | exact Nat.le_of_ble_eq_true rfl), (by first | exact hE3 | exact hE3 | exact Nat.le_of_ble_eq_true rfl)⟩
       ·refine aA ?_
        refine aB rfl (bZ hg648 (bS rfl rfl)) rfl rfl ?_
        refine aA ?_
        refine aB rfl (aF rfl) rfl rfl ?_
        refine aA ?_
        refine bL rfl rfl rfl rfl (fun _ ho736 => ?_)
        refine aB ho736 (aU fV rfl) rfl rfl ?_
        refine aA ?_
        refine bL rfl rfl rfl rfl (fun _ ho737 => ?_)
        refine aB ho737 (bB (k := 3) (v := .int .i64 (E.State)) Try.isAgg3 rfl (H645.blk 3 rfl) rfl) rfl rfl ?_
        by_cases hg738 : (E.State : Int) = 4
        ·refine aA ?_
         refine bL rfl rfl rfl rfl (fun _ ho739 => ?_)
         refine aB ho739 (bX hg738 (bS rfl rfl)) rfl rfl ?_
         refine aA ?_
         refine aB rfl (aX (v := .bool (true)) (b := false) rfl rfl rfl rfl) rfl rfl ?_
         refine aI ?_
         refine aK ?_
         refine eU (fun a' W' => ∃ (E : GEntity) (BSlots : Option Addr) (cSlots : Nat) (BQueue : Option Addr) (cQueue : Nat) (BAskers : Option Addr) (cAskers : Nat) (x' : Nat → Value), a' = bH 101 x' [(0, .pointer (some ⟨gc, 0, none⟩)), (2, .pointer (some ⟨g_0_0, 0, none⟩)), (3, .pointer (some ⟨g_1_1, 0, none⟩))] ∧ St w F0 [hR aP 70 (.slice BSlots E.aM.length cSlots) E.aM, hR aH 181 (.slice BQueue E.Queue.length cQueue) E.Queue, hR aQ 155 (.slice BAskers E.aG.length cAskers) E.aG, hB g_1_1 77 #[.int .i64 (E.Kind), .int .i64 (E.Script), .slice BSlots E.aM.length cSlots, .int .i64 (E.State), .int .i64 (E.Value.Kind), .int .i64 (E.Value.N), .slice BQueue E.Queue.length cQueue, .slice BAskers E.aG.length cAskers, .int .i64 (E.bD), .int .i64 (E.Pos), .int .i64 (E.Count), .int .i64 (E.bJ)], bF gc 157 A bs.length cb, hB g_0_0 77 #[.int .i64 (0), .int .i64 (0), .slice none 0 0, .int .i64 (0), .int .i64 (0), .int .i64 (0), .slice none 0 0, .slice none 0 0, .int .i64 (0), .int .i64 (0), .int .i64 (0), .int .i64 (0)]] W' ∧ (E.aM.length ≤ 8) ∧ (bV bT E.Queue ≤ 30) ∧ (E.aG.length ≤ 2)) ?_ ?_
         ·refine fK rfl ?_
          refine wp_seq ?_
          refine aN [0, 1, 2, 3, 4] rfl ?_
          refine aA ?_
          refine aB rfl (aF rfl) rfl rfl ?_
          refine aA ?_
          have H742 : St w F0 [bF gc 157 A bs.length cb, hR aP 70 (.slice BSlots E.aM.length cSlots) E.aM, hR aH 181 (.slice BQueue E.Queue.length cQueue) E.Queue, hR aQ 155 (.slice BAskers E.aG.length cAskers) E.aG, hB g_1_1 77 #[.int .i64 (E.Kind), .int .i64 (E.Script), .slice BSlots E.aM.length cSlots, .int .i64 (E.State), .int .i64 (E.Value.Kind), .int .i64 (E.Value.N), .slice BQueue E.Queue.length cQueue, .slice BAskers E.aG.length cAskers, .int .i64 (E.bD), .int .i64 (E.Pos), .int .i64 (E.Count), .int .i64 (E.bJ)], hB g_0_0 77 #[.int .i64 (0), .int .i64 (0), .slice none 0 0, .int .i64 (0), .int .i64 (0), .int .i64 (0), .slice none 0 0, .slice none 0 0, .int .i64 (0), .int .i64 (0), .int .i64 (0), .int .i64 (0)]] W646 := H645.pick [4, 0, 1, 2, 3, 5] kD rfl; clear H645
          obtain ⟨F743, hs744, hF745, hfr746⟩ := St.frame (l0 := [bF gc 157 A bs.length cb]) (l := [hR aP 70 (.slice BSlots E.aM.length cSlots) E.aM, hR aH 181 (.slice BQueue E.Queue.length cQueue) E.Queue, hR aQ 155 (.slice BAskers E.aG.length cAskers) E.aG, hB g_1_1 77 #[.int .i64 (E.Kind), .int .i64 (E.Script), .slice BSlots E.aM.length cSlots, .int .i64 (E.State), .int .i64 (E.Value.Kind), .int .i64 (E.Value.N), .slice BQueue E.Queue.length cQueue, .slice BAskers E.aG.length cAskers, .int .i64 (E.bD), .int .i64 (E.Pos), .int .i64 (E.Count), .int .i64 (E.bJ)], hB g_0_0 77 #[.int .i64 (0), .int .i64 (0), .slice none 0 0, .int .i64 (0), .int .i64 (0), .int .i64 (0), .slice none 0 0, .slice none 0 0, .int .i64 (0), .int .i64 (0), .int .i64 (0), .int .i64 (0)]]) H742
          refine bC rfl Try.call44 (vs := #[.pointer (some ⟨gc, 0, none⟩), .int .i64 (3)]) rfl rfl rfl (dN 3 _ _ _ _ _ _ (CV.step hV H742.1 hF745) hn hs744) ?_
          rintro e749 W748 ⟨q740, rfl, hq741, Hn747⟩; refine ⟨_, rfl, ?_⟩
          have H750 := hfr746 _ _ Hn747; clear H742
          refine aA ?_
          refine aB rfl (gV rfl rfl kO) rfl rfl ?_
          refine aA ?_
          refine aB rfl (aU jZ rfl) rfl rfl ?_
          refine aA ?_
          have H754 : St w F0 [hB g_1_1 77 #[.int .i64 (E.Kind), .int .i64 (E.Script), .slice BSlots E.aM.length cSlots, .int .i64 (E.State), .int .i64 (E.Value.Kind), .int .i64 (E.Value.N), .slice BQueue E.Queue.length cQueue, .slice BAskers E.aG.length cAskers, .int .i64 (E.bD), .int .i64 (E.Pos), .int .i64 (E.Count), .int .i64 (E.bJ)], bF gc 157 A bs.length cb, hR aP 70 (.slice BSlots E.aM.length cSlots) E.aM, hR aH 181 (.slice BQueue E.Queue.length cQueue) E.Queue, hR aQ 155 (.slice BAskers E.aG.length cAskers) E.aG, hB g_0_0 77 #[.int .i64 (0), .int .i64 (0), .slice none 0 0, .int .i64 (0), .int .i64 (0), .int .i64 (0), .slice none 0 0, .slice none 0 0, .int .i64 (0), .int .i64 (0), .int .i64 (0), .int .i64 (0)]] W748 := H750.pick [4, 0, 1, 2, 3, 5] kD rfl; clear H750
          refine bR rfl Try.sizeOf3 rfl rfl rfl (Nat.le_of_ble_eq_true rfl) (by simp [Value.cells, Value.oneCell']) H754 ?_
          intro W751 hu752 Ha753; clear H754; clear hu752
          refine aI ?_
          refine aK ?_
          refine aN [0, 1, 2, 3, 4] rfl ?_
          refine aA ?_
          refine aB rfl (aF rfl) rfl rfl ?_
          refine aA ?_
          have H758 : St w F0 [bF gc 157 A bs.length cb, hB g_1_1 77 #[.int .i64 (E.Kind), .int .i64 (E.Script), .slice BSlots E.aM.length cSlots, .int .i64 (E.State), .int .i64 (E.Value.Kind), .int .i64 (E.Value.N), .slice BQueue E.Queue.length cQueue, .slice BAskers E.aG.length cAskers, .int .i64 ((1 + q740)), .int .i64 (E.Pos), .int .i64 (E.Count), .int .i64 (E.bJ)], hR aP 70 (.slice BSlots E.aM.length cSlots) E.aM, hR aH 181 (.slice BQueue E.Queue.length cQueue) E.Queue, hR aQ 155 (.slice BAskers E.aG.length cAskers) E.aG, hB g_0_0 77 #[.int .i64 (0), .int .i64 (0), .slice none 0 0, .int .i64 (0), .int .i64 (0), .int .i64 (0), .slice none 0 0, .slice none 0 0, .int .i64 (0), .int .i64 (0), .int .i64 (0), .int .i64 (0)]] W751 := Ha753.pick [1, 0, 2, 3, 4, 5] kD rfl; clear Ha753
          obtain ⟨F759, hs760, hF761, hfr762⟩ := St.frame (l0 := [bF gc 157 A bs.length cb]) (l := [hB g_1_1 77 #[.int .i64 (E.Kind), .int .i64 (E.Script), .slice BSlots E.aM.length cSlots, .int .i64 (E.State), .int .i64 (E.Value.Kind), .int .i64 (E.Value.N), .slice BQueue E.Queue.length cQueue, .slice BAskers E.aG.length cAskers, .int .i64 ((1 + q740)), .int .i64 (E.Pos), .int .i64 (E.Count), .int .i64 (E.bJ)], hR aP 70 (.slice BSlots E.aM.length cSlots) E.aM, hR aH 181 (.slice BQueue E.Queue.length cQueue) E.Queue, hR aQ 155 (.slice BAskers E.aG.length cAskers) E.aG, hB g_0_0 77 #[.int .i64 (0), .int .i64 (0), .slice none 0 0, .int .i64 (0), .int .i64 (0), .int .i64 (0), .slice none 0 0, .slice none 0 0, .int .i64 (0), .int .i64 (0), .int .i64 (0), .int .i64 (0)]]) H758
          refine bC rfl Try.call44 (vs := #[.pointer (some ⟨gc, 0, none⟩), .int .i64 (5)]) rfl rfl rfl (dN 5 _ _ _ _ _ _ (CV.step hV H758.1 hF761) hn hs760) ?_
          rintro e765 W764 ⟨q756, rfl, hq757, Hn763⟩; refine ⟨_, rfl, ?_⟩
          have H766 := hfr762 _ _ Hn763; clear H758
          refine aA ?_
          refine aB rfl (gV rfl rfl kO) rfl rfl ?_
          refine aA ?_
          refine aB rfl (aU kT rfl) rfl rfl ?_
          refine aA ?_
          have H770 : St w F0 [hB g_1_1 77 #[.int .i64 (E.Kind), .int .i64 (E.Script), .slice BSlots E.aM.length cSlots, .int .i64 (E.State), .int .i64 (E.Value.Kind), .int .i64 (E.Value.N), .slice BQueue E.Queue.length cQueue, .slice BAskers E.aG.length cAskers, .int .i64 ((1 + q740)), .int .i64 (E.Pos), .int .i64 (E.Count), .int .i64 (E.bJ)], bF gc 157 A bs.length cb, hR aP 70 (.slice BSlots E.aM.length cSlots) E.aM, hR aH 181 (.slice BQueue E.Queue.length cQueue) E.Queue, hR aQ 155 (.slice BAskers E.aG.length cAskers) E.aG, hB g_0_0 77 #[.int .i64 (0), .int .i64 (0), .slice none 0 0, .int .i64 (0), .int .i64 (0), .int .i64 (0), .slice none 0 0, .slice none 0 0, .int .i64 (0), .int .i64 (0), .int .i64 (0), .int .i64 (0)]] W764 := H766.pick [1, 0, 2, 3, 4, 5] kD rfl; clear H766
          refine bR rfl Try.sizeOf3 rfl rfl rfl (Nat.le_of_ble_eq_true rfl) (by simp [Value.cells, Value.oneCell']) H770 ?_
          intro W767 hu768 Ha769; clear H770; clear hu768
          refine aI ?_
          exact (aZ [(0, .pointer (some ⟨gc, 0, none⟩)), (2, .pointer (some ⟨g_0_0, 0, none⟩)), (3, .pointer (some ⟨g_1_1, 0, none⟩))] rfl).elim fun x' hx => ⟨(⟨E.Kind, E.Script, E.aM, E.State, E.Value, E.Queue, E.aG, (1 + q740), (1 + q756), E.Count, E.bJ⟩ : GEntity), BSlots, cSlots, BQueue, cQueue, BAskers, cAskers, x', hx, Ha769.pick [2, 3, 4, 0, 1, 5] kD rfl, (by first | exact hE1 | exact hLq | exact Nat.le_of_ble_eq_true rfl), (by first | exact hE2 | exact eT _ hsent | exact Nat.le_of_ble_eq_true rfl), (by first | exact hE3 | exact hE3 | exact Nat.le_of_ble_eq_true rfl)⟩
         ·rintro _ W773 ⟨E, BSlots, cSlots, BQueue, cQueue, BAskers, cAskers, x774, rfl, H772, hE1, hE2, hE3⟩
          refine aK ?_
          refine wp_seq ?_
          refine aN [0, 1, 2, 3, 4, 5, 6] rfl ?_
          refine aA ?_
          refine aB rfl (aU fV rfl) rfl rfl ?_
          refine aA ?_
          refine aB rfl (bB (k := 3) (v := .int .i64 (E.State)) Try.isAgg3 rfl (H772.blk 3 rfl) rfl) rfl rfl ?_
          by_cases hg775 : (E.State : Int) = 1
          ·refine aA ?_
           refine aB rfl (bX hg775 (bS rfl rfl)) rfl rfl ?_
           refine aA ?_
           refine aB rfl (aF rfl) rfl rfl ?_
           refine aA ?_
           refine bL rfl rfl rfl rfl (fun _ ho776 => ?_)
           refine aB ho776 (aF rfl) rfl rfl ?_
           refine aA ?_
           refine bL rfl rfl rfl rfl (fun _ ho777 => ?_)
           have H779 : St w F0 [bF gc 157 A bs.length cb, hR aP 70 (.slice BSlots E.aM.length cSlots) E.aM, hR aH 181 (.slice BQueue E.Queue.length cQueue) E.Queue, hR aQ 155 (.slice BAskers E.aG.length cAskers) E.aG, hB g_1_1 77 #[.int .i64 (E.Kind), .int .i64 (E.Script), .slice BSlots E.aM.length cSlots, .int .i64 (E.State), .int .i64 (E.Value.Kind), .int .i64 (E.Value.N), .slice BQueue E.Queue.length cQueue, .slice BAskers E.aG.length cAskers, .int .i64 (E.bD), .int .i64 (E.Pos), .int .i64 (E.Count), .int .i64 (E.bJ)], hB g_0_0 77 #[.int .i64 (0), .int .i64 (0), .slice none 0 0, .int .i64 (0), .int .i64 (0), .int .i64 (0), .slice none 0 0, .slice none 0 0, .int .i64 (0), .int .i64 (0), .int .i64 (0), .int .i64 (0)]] W773 := H772.pick [4, 0, 1, 2, 3, 5] kD rfl; clear H772
           obtain ⟨F780, hs781, hF782, hfr783⟩ := St.frame (l0 := [bF gc 157 A bs.length cb]) (l := [hR aP 70 (.slice BSlots E.aM.length cSlots) E.aM, hR aH 181 (.slice BQueue E.Queue.length cQueue) E.Queue, hR aQ 155 (.slice BAskers E.aG.length cAskers) E.aG, hB g_1_1 77 #[.int .i64 (E.Kind), .int .i64 (E.Script), .slice BSlots E.aM.length cSlots, .int .i64 (E.State), .int .i64 (E.Value.Kind), .int .i64 (E.Value.N), .slice BQueue E.Queue.length cQueue, .slice BAskers E.aG.length cAskers, .int .i64 (E.bD), .int .i64 (E.Pos), .int .i64 (E.Count), .int .i64 (E.bJ)], hB g_0_0 77 #[.int .i64 (0), .int .i64 (0), .slice none 0 0, .int .i64 (0), .int .i64 (0), .int .i64 (0), .slice none 0 0, .slice none 0 0, .int .i64 (0), .int .i64 (0), .int .i64 (0), .int .i64 (0)]]) H779
           refine bC ho777 Try.call43 (vs := #[.pointer (some ⟨gc, 0, none⟩), .int .i64 (2)]) rfl rfl rfl (jR 2 _ _ _ _ _ _ (CV.step hV H779.1 hF782) hn hs781) ?_
           rintro e786 W785 ⟨b778, rfl, Hn784⟩; refine ⟨_, rfl, ?_⟩
           have H787 := hfr783 _ _ Hn784; clear H779
           refine aA ?_
           refine aB rfl (aX (v := .bool (b778)) (b := true) rfl rfl rfl rfl) rfl rfl ?_
           refine aI ?_
           refine aK ?_
           refine eU (fun a' W' => ∃ (E : GEntity) (BSlots : Option Addr) (cSlots : Nat) (BQueue : Option Addr) (cQueue : Nat) (BAskers : Option Addr) (cAskers : Nat) (x' : Nat → Value), a' = bH 101 x' [(0, .pointer (some ⟨gc, 0, none⟩)), (2, .pointer (some ⟨g_0_0, 0, none⟩)), (3, .pointer (some ⟨g_1_1, 0, none⟩))] ∧ St w F0 [hR aP 70 (.slice BSlots E.aM.length cSlots) E.aM, hR aH 181 (.slice BQueue E.Queue.length cQueue) E.Queue, hR aQ 155 (.slice BAskers E.aG.length cAskers) E.aG, hB g_1_1 77 #[.int .i64 (E.Kind), .int .i64 (E.Script), .slice BSlots E.aM.length cSlots, .int .i64 (E.State), .int .i64 (E.Value.Kind), .int .i64 (E.Value.N), .slice BQueue E.Queue.length cQueue, .slice BAskers E.aG.length cAskers, .int .i64 (E.bD), .int .i64 (E.Pos), .int .i64 (E.Count), .int .i64 (E.bJ)], bF gc 157 A bs.length cb, hB g_0_0 77 #[.int .i64 (0), .int .i64 (0), .slice none 0 0, .int .i64 (0), .int .i64 (0), .int .i64 (0), .slice none 0 0, .slice none 0 0, .int .i64 (0), .int .i64 (0), .int .i64 (0), .int .i64 (0)]] W' ∧ (E.aM.length ≤ 8) ∧ (bV bT E.Queue ≤ 30) ∧ (E.aG.length ≤ 2)) ?_ ?_
           ·refine jO (b := b778) rfl (fun hc788 => ?_) (fun hc788 => ?_)
            ·refine wp_seq ?_
             refine aN [0, 1, 2, 3, 4] rfl ?_
             refine aA ?_
             refine aB rfl (aF rfl) rfl rfl ?_
             refine aA ?_
             obtain ⟨F791, hs792, hF793, hfr794⟩ := St.frame (l0 := [bF gc 157 A bs.length cb]) (l := [hR aP 70 (.slice BSlots E.aM.length cSlots) E.aM, hR aH 181 (.slice BQueue E.Queue.length cQueue) E.Queue, hR aQ 155 (.slice BAskers E.aG.length cAskers) E.aG, hB g_1_1 77 #[.int .i64 (E.Kind), .int .i64 (E.Script), .slice BSlots E.aM.length cSlots, .int .i64 (E.State), .int .i64 (E.Value.Kind), .int .i64 (E.Value.N), .slice BQueue E.Queue.length cQueue, .slice BAskers E.aG.length cAskers, .int .i64 (E.bD), .int .i64 (E.Pos), .int .i64 (E.Count), .int .i64 (E.bJ)], hB g_0_0 77 #[.int .i64 (0), .int .i64 (0), .slice none 0 0, .int .i64 (0), .int .i64 (0), .int .i64 (0), .slice none 0 0, .slice none 0 0, .int .i64 (0), .int .i64 (0), .int .i64 (0), .int .i64 (0)]]) H787
             refine bC rfl Try.call130 (vs := #[.pointer (some ⟨gc, 0, none⟩)]) rfl rfl rfl (sent_s _ _ _ _ _ _ (CV.step hV H787.1 hF793) hn hs792) ?_
             rintro e797 W796 ⟨m789, cs790, rfl, hsent, Hn795⟩; refine ⟨_, rfl, ?_⟩
             have H798 : St w F0 [hM aH m789 cs790, bF gc 157 A bs.length cb, hR aP 70 (.slice BSlots E.aM.length cSlots) E.aM, hR aH 181 (.slice BQueue E.Queue.length cQueue) E.Queue, hR aQ 155 (.slice BAskers E.aG.length cAskers) E.aG, hB g_1_1 77 #[.int .i64 (E.Kind), .int .i64 (E.Script), .slice BSlots E.aM.length cSlots, .int .i64 (E.State), .int .i64 (E.Value.Kind), .int .i64 (E.Value.N), .slice BQueue E.Queue.length cQueue, .slice BAskers E.aG.length cAskers, .int .i64 (E.bD), .int .i64 (E.Pos), .int .i64 (E.Count), .int .i64 (E.bJ)], hB g_0_0 77 #[.int .i64 (0), .int .i64 (0), .slice none 0 0, .int .i64 (0), .int .i64 (0), .int .i64 (0), .slice none 0 0, .slice none 0 0, .int .i64 (0), .int .i64 (0), .int .i64 (0), .int .i64 (0)]] W796 := hfr794 (_ :: [_]) _ Hn795; clear H787
             refine aA ?_
             refine dD rfl Try.runUnderlying65 Try.sizeOf181 kD Try.zeroValue181 rfl (eY (H798.kn 0 rfl)) rfl rfl H798 ?_
             intro g_11_2 W799 hu800 Ha801; clear H798; clear hu800
             refine aA ?_
             refine aB rfl (aU jX rfl) rfl rfl ?_
             have H803 : St w F0 [hR aH 181 (.slice (some ⟨g_11_2, 0, none⟩) 1 1) ([m789]), bF gc 157 A bs.length cb, hR aP 70 (.slice BSlots E.aM.length cSlots) E.aM, hR aH 181 (.slice BQueue E.Queue.length cQueue) E.Queue, hR aQ 155 (.slice BAskers E.aG.length cAskers) E.aG, hB g_1_1 77 #[.int .i64 (E.Kind), .int .i64 (E.Script), .slice BSlots E.aM.length cSlots, .int .i64 (E.State), .int .i64 (E.Value.Kind), .int .i64 (E.Value.N), .slice BQueue E.Queue.length cQueue, .slice BAskers E.aG.length cAskers, .int .i64 (E.bD), .int .i64 (E.Pos), .int .i64 (E.Count), .int .i64 (E.bJ)], hB g_0_0 77 #[.int .i64 (0), .int .i64 (0), .slice none 0 0, .int .i64 (0), .int .i64 (0), .int .i64 (0), .slice none 0 0, .slice none 0 0, .int .i64 (0), .int .i64 (0), .int .i64 (0), .int .i64 (0)]] W799 := Ha801.iG (eY (Ha801.kn 1 rfl)); clear Ha801
             refine aA ?_
             have H807 : St w F0 [hB g_1_1 77 #[.int .i64 (E.Kind), .int .i64 (E.Script), .slice BSlots E.aM.length cSlots, .int .i64 (E.State), .int .i64 (E.Value.Kind), .int .i64 (E.Value.N), .slice BQueue E.Queue.length cQueue, .slice BAskers E.aG.length cAskers, .int .i64 (E.bD), .int .i64 (E.Pos), .int .i64 (E.Count), .int .i64 (E.bJ)], hR aH 181 (.slice (some ⟨g_11_2, 0, none⟩) 1 1) ([m789]), bF gc 157 A bs.length cb, hR aP 70 (.slice BSlots E.aM.length cSlots) E.aM, hR aH 181 (.slice BQueue E.Queue.length cQueue) E.Queue, hR aQ 155 (.slice BAskers E.aG.length cAskers) E.aG, hB g_0_0 77 #[.int .i64 (0), .int .i64 (0), .slice none 0 0, .int .i64 (0), .int .i64 (0), .int .i64 (0), .slice none 0 0, .slice none 0 0, .int .i64 (0), .int .i64 (0), .int .i64 (0), .int .i64 (0)]] W799 := H803.pick [5, 0, 1, 2, 3, 4, 6] kD rfl; clear H803
             refine bR rfl Try.sizeOf65 rfl rfl rfl (Nat.le_of_ble_eq_true rfl) (by simp [Value.cells, Value.oneCell']) H807 ?_
             intro W804 hu805 Ha806; clear H807; clear hu805
             refine aI ?_
             refine aK ?_
             refine aN [0, 1, 2, 3] rfl ?_
             refine aA ?_
             refine aB rfl (dS (vs := [(0, .int .i64 (1)), (1, .int .i64 (2))]) (cells := #[.int .i64 (1), .int .i64 (2)]) rfl kR) rfl rfl ?_
             refine aA ?_
             refine dD rfl Try.runUnderlying75 Try.sizeOf155 kD Try.zeroValue155 rfl rfl rfl rfl Ha806 ?_
             intro g_12_1 W809 hu810 Ha811; clear Ha806; clear hu810
             refine aA ?_
             refine aB rfl (aU jY rfl) rfl rfl ?_
             have H813 : St w F0 [hM aQ (⟨1, 2⟩ : GAsker) [.int .i64 (1), .int .i64 (2)], hB g_12_1 155 #[.int .i64 (1), .int .i64 (2)], hB g_1_1 77 #[.int .i64 (E.Kind), .int .i64 (E.Script), .slice BSlots E.aM.length cSlots, .int .i64 (E.State), .int .i64 (E.Value.Kind), .int .i64 (E.Value.N), .slice (some ⟨g_11_2, 0, none⟩) 1 1, .slice BAskers E.aG.length cAskers, .int .i64 (E.bD), .int .i64 (E.Pos), .int .i64 (E.Count), .int .i64 (E.bJ)], hR aH 181 (.slice (some ⟨g_11_2, 0, none⟩) 1 1) ([m789]), bF gc 157 A bs.length cb, hR aP 70 (.slice BSlots E.aM.length cSlots) E.aM, hR aH 181 (.slice BQueue E.Queue.length cQueue) E.Queue, hR aQ 155 (.slice BAskers E.aG.length cAskers) E.aG, hB g_0_0 77 #[.int .i64 (0), .int .i64 (0), .slice none 0 0, .int .i64 (0), .int .i64 (0), .int .i64 (0), .slice none 0 0, .slice none 0 0, .int .i64 (0), .int .i64 (0), .int .i64 (0), .int .i64 (0)]] W809 := Ha811.add0 (q := hM aQ (⟨1, 2⟩ : GAsker) [.int .i64 (1), .int .i64 (2)]) (iC _ No (⟨1, 2⟩ : GAsker)); clear Ha811
             have H814 : St w F0 [hB g_12_1 155 #[.int .i64 (1), .int .i64 (2)], hM aQ (⟨1, 2⟩ : GAsker) [.int .i64 (1), .int .i64 (2)], hB g_1_1 77 #[.int .i64 (E.Kind), .int .i64 (E.Script), .slice BSlots E.aM.length cSlots, .int .i64 (E.State), .int .i64 (E.Value.Kind), .int .i64 (E.Value.N), .slice (some ⟨g_11_2, 0, none⟩) 1 1, .slice BAskers E.aG.length cAskers, .int .i64 (E.bD), .int .i64 (E.Pos), .int .i64 (E.Count), .int .i64 (E.bJ)], hR aH 181 (.slice (some ⟨g_11_2, 0, none⟩) 1 1) ([m789]), bF gc 157 A bs.length cb, hR aP 70 (.slice BSlots E.aM.length cSlots) E.aM, hR aH 181 (.slice BQueue E.Queue.length cQueue) E.Queue, hR aQ 155 (.slice BAskers E.aG.length cAskers) E.aG, hB g_0_0 77 #[.int .i64 (0), .int .i64 (0), .slice none 0 0, .int .i64 (0), .int .i64 (0), .int .i64 (0), .slice none 0 0, .slice none 0 0, .int .i64 (0), .int .i64 (0), .int .i64 (0), .int .i64 (0)]] W809 := H813.pick [1, 0, 2, 3, 4, 5, 6, 7, 8] kD rfl; clear H813
             have H815 : St w F0 [hR aQ 155 (.slice (some ⟨g_12_1, 0, none⟩) 1 1) ([(⟨1, 2⟩ : GAsker)]), hB g_1_1 77 #[.int .i64 (E.Kind), .int .i64 (E.Script), .slice BSlots E.aM.length cSlots, .int .i64 (E.State), .int .i64 (E.Value.Kind), .int .i64 (E.Value.N), .slice (some ⟨g_11_2, 0, none⟩) 1 1, .slice BAskers E.aG.length cAskers, .int .i64 (E.bD), .int .i64 (E.Pos), .int .i64 (E.Count), .int .i64 (E.bJ)], hR aH 181 (.slice (some ⟨g_11_2, 0, none⟩) 1 1) ([m789]), bF gc 157 A bs.length cb, hR aP 70 (.slice BSlots E.aM.length cSlots) E.aM, hR aH 181 (.slice BQueue E.Queue.length cQueue) E.Queue, hR aQ 155 (.slice BAskers E.aG.length cAskers) E.aG, hB g_0_0 77 #[.int .i64 (0), .int .i64 (0), .slice none 0 0, .int .i64 (0), .int .i64 (0), .int .i64 (0), .slice none 0 0, .slice none 0 0, .int .i64 (0), .int .i64 (0), .int .i64 (0), .int .i64 (0)]] W809 := H814.iG rfl; clear H814
             refine aA ?_
             have H819 : St w F0 [hB g_1_1 77 #[.int .i64 (E.Kind), .int .i64 (E.Script), .slice BSlots E.aM.length cSlots, .int .i64 (E.State), .int .i64 (E.Value.Kind), .int .i64 (E.Value.N), .slice (some ⟨g_11_2, 0, none⟩) 1 1, .slice BAskers E.aG.length cAskers, .int .i64 (E.bD), .int .i64 (E.Pos), .int .i64 (E.Count), .int .i64 (E.bJ)], hR aQ 155 (.slice (some ⟨g_12_1, 0, none⟩) 1 1) ([(⟨1, 2⟩ : GAsker)]), hR aH 181 (.slice (some ⟨g_11_2, 0, none⟩) 1 1) ([m789]), bF gc 157 A bs.length cb, hR aP 70 (.slice BSlots E.aM.length cSlots) E.aM, hR aH 181 (.slice BQueue E.Queue.length cQueue) E.Queue, hR aQ 155 (.slice BAskers E.aG.length cAskers) E.aG, hB g_0_0 77 #[.int .i64 (0), .int .i64 (0), .slice none 0 0, .int .i64 (0), .int .i64 (0), .int .i64 (0), .slice none 0 0, .slice none 0 0, .int .i64 (0), .int .i64 (0), .int .i64 (0), .int .i64 (0)]] W809 := H815.pick [1, 0, 2, 3, 4, 5, 6, 7] kD rfl; clear H815
             refine bR rfl Try.sizeOf75 rfl rfl rfl (Nat.le_of_ble_eq_true rfl) (by simp [Value.cells, Value.oneCell']) H819 ?_
             intro W816 hu817 Ha818; clear H819; clear hu817
             refine aI ?_
             exact (aZ [(0, .pointer (some ⟨gc, 0, none⟩)), (2, .pointer (some ⟨g_0_0, 0, none⟩)), (3, .pointer (some ⟨g_1_1, 0, none⟩))] rfl).elim fun x' hx => ⟨(⟨E.Kind, E.Script, E.aM, E.State, E.Value, [m789], [(⟨1, 2⟩ : GAsker)], E.bD, E.Pos, E.Count, E.bJ⟩ : GEntity), BSlots, cSlots, (some ⟨g_11_2, 0, none⟩), 1, (some ⟨g_12_1, 0, none⟩), 1, x', hx, Ha818.pick [4, 2, 1, 0, 3, 7] kD rfl, (by first | exact hE1 | exact hLq | exact Nat.le_of_ble_eq_true rfl), (by first | exact hE2 | exact eT _ hsent | exact Nat.le_of_ble_eq_true rfl), (by first | exact hE3 | exact hE3 | exact Nat.le_of_ble_eq_true rfl)⟩
            ·refine wp_skip ?_
             exact (aZ [(0, .pointer (some ⟨gc, 0, none⟩)), (2, .pointer (some ⟨g_0_0, 0, none⟩)), (3, .pointer (some ⟨g_1_1, 0, none⟩))] rfl).elim fun x' hx => ⟨E, BSlots, cSlots, BQueue, cQueue, BAskers, cAskers, x', hx, H787.pick [1, 2, 3, 4, 0, 5] kD rfl, (by first | exact hE1 | exact hLq | exact Nat.le_of_ble_eq_true rfl), (by first | exact hE2 | exact eT _ hsent | exact Nat.le_of_ble_eq_true rfl), (by first | exact hE3 | exact hE3 | exact Nat.le_of_ble_eq_true rfl)⟩
           ·rintro _ W822 ⟨E, BSlots, cSlots, BQueue, cQueue, BAskers, cAskers, x823, rfl, H821, hE1, hE2, hE3⟩
            refine eP ?_
            exact (aZ [(0, .pointer (some ⟨gc, 0, none⟩)), (2, .pointer (some ⟨g_0_0, 0, none⟩)), (3, .pointer (some ⟨g_1_1, 0, none⟩))] rfl).elim fun x' hx => ⟨E, BSlots, cSlots, BQueue, cQueue, BAskers, cAskers, x', hx, H821, (by first | exact hE1 | exact hLq | exact Nat.le_of_ble_eq_true rfl), (by first | exact hE2 | exact eT _ hsent | exact Nat.le_of_ble_eq_true rfl), (by first | exact hE3 | exact hE3 | exact Nat.le_of_ble_eq_true rfl)⟩
          ·refine aA ?_
           refine aB rfl (bZ hg775 (bS rfl rfl)) rfl rfl ?_
           refine aA ?_
           refine aB rfl (aF rfl) rfl rfl ?_
           refine aA ?_
           refine aD rfl rfl rfl rfl rfl rfl rfl ?_
           refine aA ?_
           refine aD rfl rfl rfl rfl rfl rfl rfl ?_
           refine aA ?_
           refine aB rfl (aX (v := .bool (false)) (b := false) rfl rfl rfl rfl) rfl rfl ?_
           refine aI ?_
           refine aK ?_
           refine eU (fun a' W' => ∃ (E : GEntity) (BSlots : Option Addr) (cSlots : Nat) (BQueue : Option Addr) (cQueue : Nat) (BAskers : Option Addr) (cAskers : Nat) (x' : Nat → Value), a' = bH 101 x' [(0, .pointer (some ⟨gc, 0, none⟩)), (2, .pointer (some ⟨g_0_0, 0, none⟩)), (3, .pointer (some ⟨g_1_1, 0, none⟩))] ∧ St w F0 [hR aP 70 (.slice BSlots E.aM.length cSlots) E.aM, hR aH 181 (.slice BQueue E.Queue.length cQueue) E.Queue, hR aQ 155 (.slice BAskers E.aG.length cAskers) E.aG, hB g_1_1 77 #[.int .i64 (E.Kind), .int .i64 (E.Script), .slice BSlots E.aM.length cSlots, .int .i64 (E.State), .int .i64 (E.Value.Kind), .int .i64 (E.Value.N), .slice BQueue E.Queue.length cQueue, .slice BAskers E.aG.length cAskers, .int .i64 (E.bD), .int .i64 (E.Pos), .int .i64 (E.Count), .int .i64 (E.bJ)], bF gc 157 A bs.length cb, hB g_0_0 77 #[.int .i64 (0), .int .i64 (0), .slice none 0 0, .int .i64 (0), .int .i64 (0), .int .i64 (0), .slice none 0 0, .slice none 0 0, .int .i64 (0), .int .i64 (0), .int .i64 (0), .int .i64 (0)]] W' ∧ (E.aM.length ≤ 8) ∧ (bV bT E.Queue ≤ 30) ∧ (E.aG.length ≤ 2)) ?_ ?_
           ·refine fA rfl ?_
            refine wp_skip ?_
            exact (aZ [(0, .pointer (some ⟨gc, 0, none⟩)), (2, .pointer (some ⟨g_0_0, 0, none⟩)), (3, .pointer (some ⟨g_1_1, 0, none⟩))] rfl).elim fun x' hx => ⟨E, BSlots, cSlots, BQueue, cQueue, BAskers, cAskers, x', hx, H772, (by first | exact hE1 | exact hLq | exact Nat.le_of_ble_eq_true rfl), (by first | exact hE2 | exact eT _ hsent | exact Nat.le_of_ble_eq_true rfl), (by first | exact hE3 | exact hE3 | exact Nat.le_of_ble_eq_true rfl)⟩
           ·rintro _ W825 ⟨E, BSlots, cSlots, BQueue, cQueue, BAskers, cAskers, x826, rfl, H824, hE1, hE2, hE3⟩
            refine eP ?_
            exact (aZ [(0, .pointer (some ⟨gc, 0, none⟩)), (2, .pointer (some ⟨g_0_0, 0, none⟩)), (3, .pointer (some ⟨g_1_1, 0, none⟩))] rfl).elim fun x' hx => ⟨E, BSlots, cSlots, BQueue, cQueue, BAskers, cAskers, x', hx, H824, (by first | exact hE1 | exact hLq | exact Nat.le_of_ble_eq_true rfl), (by first | exact hE2 | exact eT _ hsent | exact Nat.le_of_ble_eq_true rfl), (by first | exact hE3 | exact hE3 | exact Nat.le_of_ble_eq_true rfl)⟩
        ·refine aA ?_
         refine bL rfl rfl rfl rfl (fun _ ho827 => ?_)
         refine aB ho827 (bZ hg738 (bS rfl rfl)) rfl rfl ?_
         refine aA ?_
         refine aB rfl (aX (v := .bool (false)) (b := false) rfl rfl rfl rfl) rfl rfl ?_
         refine aI ?_
         refine aK ?_
         refine eU (fun a' W' => ∃ (E : GEntity) (BSlots : Option Addr) (cSlots : Nat) (BQueue : Option Addr) (cQueue : Nat) (BAskers : Option Addr) (cAskers : Nat) (x' : Nat → Value), a' = bH 101 x' [(0, .pointer (some ⟨gc, 0, none⟩)), (2, .pointer (some ⟨g_0_0, 0, none⟩)), (3, .pointer (some ⟨g_1_1, 0, none⟩))] ∧ St w F0 [hR aP 70 (.slice BSlots E.aM.length cSlots) E.aM, hR aH 181 (.slice BQueue E.Queue.length cQueue) E.Queue, hR aQ 155 (.slice BAskers E.aG.length cAskers) E.aG, hB g_1_1 77 #[.int .i64 (E.Kind), .int .i64 (E.Script), .slice BSlots E.aM.length cSlots, .int .i64 (E.State), .int .i64 (E.Value.Kind), .int .i64 (E.Value.N), .slice BQueue E.Queue.length cQueue, .slice BAskers E.aG.length cAskers, .int .i64 (E.bD), .int .i64 (E.Pos), .int .i64 (E.Count), .int .i64 (E.bJ)], bF gc 157 A bs.length cb, hB g_0_0 77 #[.int .i64 (0), .int .i64 (0), .slice none 0 0, .int .i64 (0), .int .i64 (0), .int .i64 (0), .slice none 0 0, .slice none 0 0, .int .i64 (0), .int .i64 (0), .int .i64 (0), .int .i64 (0)]] W' ∧ (E.aM.length ≤ 8) ∧ (bV bT E.Queue ≤ 30) ∧ (E.aG.length ≤ 2)) ?_ ?_
         ·refine fA rfl ?_
          refine wp_skip ?_
          exact (aZ [(0, .pointer (some ⟨gc, 0, none⟩)), (2, .pointer (some ⟨g_0_0, 0, none⟩)), (3, .pointer (some ⟨g_1_1, 0, none⟩))] rfl).elim fun x' hx => ⟨E, BSlots, cSlots, BQueue, cQueue, BAskers, cAskers, x', hx, H645, (by first | exact hE1 | exact hLq | exact Nat.le_of_ble_eq_true rfl), (by first | exact hE2 | exact eT _ hsent | exact Nat.le_of_ble_eq_true rfl), (by first | exact hE3 | exact hE3 | exact Nat.le_of_ble_eq_true rfl)⟩
         ·rintro _ W829 ⟨E, BSlots, cSlots, BQueue, cQueue, BAskers, cAskers, x830, rfl, H828, hE1, hE2, hE3⟩
          refine aK ?_
          refine wp_seq ?_
          refine aN [0, 1, 2, 3, 4, 5, 6] rfl ?_
          refine aA ?_
          refine aB rfl (aU fV rfl) rfl rfl ?_
          refine aA ?_
          refine aB rfl (bB (k := 3) (v := .int .i64 (E.State)) Try.isAgg3 rfl (H828.blk 3 rfl) rfl) rfl rfl ?_
          by_cases hg831 : (E.State : Int) = 1
          ·refine aA ?_
           refine aB rfl (bX hg831 (bS rfl rfl)) rfl rfl ?_
           refine aA ?_
           refine aB rfl (aF rfl) rfl rfl ?_
           refine aA ?_
           refine bL rfl rfl rfl rfl (fun _ ho832 => ?_)
           refine aB ho832 (aF rfl) rfl rfl ?_
           refine aA ?_
           refine bL rfl rfl rfl rfl (fun _ ho833 => ?_)
           have H835 : St w F0 [bF gc 157 A bs.length cb, hR aP 70 (.slice BSlots E.aM.length cSlots) E.aM, hR aH 181 (.slice BQueue E.Queue.length cQueue) E.Queue, hR aQ 155 (.slice BAskers E.aG.length cAskers) E.aG, hB g_1_1 77 #[.int .i64 (E.Kind), .int .i64 (E.Script), .slice BSlots E.aM.length cSlots, .int .i64 (E.State), .int .i64 (E.Value.Kind), .int .i64 (E.Value.N), .slice BQueue E.Queue.length cQueue, .slice BAskers E.aG.length cAskers, .int .i64 (E.bD), .int .i64 (E.Pos), .int .i64 (E.Count), .int .i64 (E.bJ)], hB g_0_0 77 #[.int .i64 (0), .int .i64 (0), .slice none 0 0, .int .i64 (0), .int .i64 (0), .int .i64 (0), .slice none 0 0, .slice none 0 0, .int .i64 (0), .int .i64 (0), .int .i64 (0), .int .i64 (0)]] W829 := H828.pick [4, 0, 1, 2, 3, 5] kD rfl; clear H828
           obtain ⟨F836, hs837, hF838, hfr839⟩ := St.frame (l0 := [bF gc 157 A bs.length cb]) (l := [hR aP 70 (.slice BSlots E.aM.length cSlots) E.aM, hR aH 181 (.slice BQueue E.Queue.length cQueue) E.Queue, hR aQ 155 (.slice BAskers E.aG.length cAskers) E.aG, hB g_1_1 77 #[.int .i64 (E.Kind), .int .i64 (E.Script), .slice BSlots E.aM.length cSlots, .int .i64 (E.State), .int .i64 (E.Value.Kind), .int .i64 (E.Value.N), .slice BQueue E.Queue.length cQueue, .slice BAskers E.aG.length cAskers, .int .i64 (E.bD), .int .i64 (E.Pos), .int .i64 (E.Count), .int .i64 (E.bJ)], hB g_0_0 77 #[.int .i64 (0), .int .i64 (0), .slice none 0 0, .int .i64 (0), .int .i64 (0), .int .i64 (0), .slice none 0 0, .slice none 0 0, .int .i64 (0), .int .i64 (0), .int .i64 (0), .int .i64 (0)]]) H835
           refine bC ho833 Try.call43 (vs := #[.pointer (some ⟨gc, 0, none⟩), .int .i64 (2)]) rfl rfl rfl (jR 2 _ _ _ _ _ _ (CV.step hV H835.1 hF838) hn hs837) ?_
           rintro e842 W841 ⟨b834, rfl, Hn840⟩; refine ⟨_, rfl, ?_⟩
           have H843 := hfr839 _ _ Hn840; clear H835
           refine aA ?_
           refine aB rfl (aX (v := .bool (b834)) (b := true) rfl rfl rfl rfl) rfl rfl ?_
           refine aI ?_
           refine aK ?_
           refine eU (fun a' W' => ∃ (E : GEntity) (BSlots : Option Addr) (cSlots : Nat) (BQueue : Option Addr) (cQueue : Nat) (BAskers : Option Addr) (cAskers : Nat) (x' : Nat → Value), a' = bH 101 x' [(0, .pointer (some ⟨gc, 0, none⟩)), (2, .pointer (some ⟨g_0_0, 0, none⟩)), (3, .pointer (some ⟨g_1_1, 0, none⟩))] ∧ St w F0 [hR aP 70 (.slice BSlots E.aM.length cSlots) E.aM, hR aH 181 (.slice BQueue E.Queue.length cQueue) E.Queue, hR aQ 155 (.slice BAskers E.aG.length cAskers) E.aG, hB g_1_1 77 #[.int .i64 (E.Kind), .int .i64 (E.Script), .slice BSlots E.aM.length cSlots, .int .i64 (E.State), .int .i64 (E.Value.Kind), .int .i64 (E.Value.N), .slice BQueue E.Queue.length cQueue, .slice BAskers E.aG.length cAskers, .int .i64 (E.bD), .int .i64 (E.Pos), .int .i64 (E.Count), .int .i64 (E.bJ)], bF gc 157 A bs.length cb, hB g_0_0 77 #[.int .i64 (0), .int .i64 (0), .slice none 0 0, .int .i64 (0), .int .i64 (0), .int .i64 (0), .slice none 0 0, .slice none 0 0, .int .i64 (0), .int .i64 (0), .int .i64 (0), .int .i64 (0)]] W' ∧ (E.aM.length ≤ 8) ∧ (bV bT E.Queue ≤ 30) ∧ (E.aG.length ≤ 2)) ?_ ?_
           ·refine jO (b := b834) rfl (fun hc844 => ?_) (fun hc844 => ?_)
            ·refine wp_seq ?_
             refine aN [0, 1, 2, 3, 4] rfl ?_
             refine aA ?_
             refine aB rfl (aF rfl) rfl rfl ?_
             refine aA ?_
             obtain ⟨F847, hs848, hF849, hfr850⟩ := St.frame (l0 := [bF gc 157 A bs.length cb]) (l := [hR aP 70 (.slice BSlots E.aM.length cSlots) E.aM, hR aH 181 (.slice BQueue E.Queue.length cQueue) E.Queue, hR aQ 155 (.slice BAskers E.aG.length cAskers) E.aG, hB g_1_1 77 #[.int .i64 (E.Kind), .int .i64 (E.Script), .slice BSlots E.aM.length cSlots, .int .i64 (E.State), .int .i64 (E.Value.Kind), .int .i64 (E.Value.N), .slice BQueue E.Queue.length cQueue, .slice BAskers E.aG.length cAskers, .int .i64 (E.bD), .int .i64 (E.Pos), .int .i64 (E.Count), .int .i64 (E.bJ)], hB g_0_0 77 #[.int .i64 (0), .int .i64 (0), .slice none 0 0, .int .i64 (0), .int .i64 (0), .int .i64 (0), .slice none 0 0, .slice none 0 0, .int .i64 (0), .int .i64 (0), .int .i64 (0), .int .i64 (0)]]) H843
             refine bC rfl Try.call130 (vs := #[.pointer (some ⟨gc, 0, none⟩)]) rfl rfl rfl (sent_s _ _ _ _ _ _ (CV.step hV H843.1 hF849) hn hs848) ?_
             rintro e853 W852 ⟨m845, cs846, rfl, hsent, Hn851⟩; refine ⟨_, rfl, ?_⟩
             have H854 : St w F0 [hM aH m845 cs846, bF gc 157 A bs.length cb, hR aP 70 (.slice BSlots E.aM.length cSlots) E.aM, hR aH 181 (.slice BQueue E.Queue.length cQueue) E.Queue, hR aQ 155 (.slice BAskers E.aG.length cAskers) E.aG, hB g_1_1 77 #[.int .i64 (E.Kind), .int .i64 (E.Script), .slice BSlots E.aM.length cSlots, .int .i64 (E.State), .int .i64 (E.Value.Kind), .int .i64 (E.Value.N), .slice BQueue E.Queue.length cQueue, .slice BAskers E.aG.length cAskers, .int .i64 (E.bD), .int .i64 (E.Pos), .int .i64 (E.Count), .int .i64 (E.bJ)], hB g_0_0 77 #[.int .i64 (0), .int .i64 (0), .slice none 0 0, .int .i64 (0), .int .i64 (0), .int .i64 (0), .slice none 0 0, .slice none 0 0, .int .i64 (0), .int .i64 (0), .int .i64 (0), .int .i64 (0)]] W852 := hfr850 (_ :: [_]) _ Hn851; clear H843
             refine aA ?_
             refine dD rfl Try.runUnderlying65 Try.sizeOf181 kD Try.zeroValue181 rfl (eY (H854.kn 0 rfl)) rfl rfl H854 ?_
             intro g_11_2 W855 hu856 Ha857; clear H854; clear hu856
             refine aA ?_
             refine aB rfl (aU jX rfl) rfl rfl ?_
             have H859 : St w F0 [hR aH 181 (.slice (some ⟨g_11_2, 0, none⟩) 1 1) ([m845]), bF gc 157 A bs.length cb, hR aP 70 (.slice BSlots E.aM.length cSlots) E.aM, hR aH 181 (.slice BQueue E.Queue.length cQueue) E.Queue, hR aQ 155 (.slice BAskers E.aG.length cAskers) E.aG, hB g_1_1 77 #[.int .i64 (E.Kind), .int .i64 (E.Script), .slice BSlots E.aM.length cSlots, .int .i64 (E.State), .int .i64 (E.Value.Kind), .int .i64 (E.Value.N), .slice BQueue E.Queue.length cQueue, .slice BAskers E.aG.length cAskers, .int .i64 (E.bD), .int .i64 (E.Pos), .int .i64 (E.Count), .int .i64 (E.bJ)], hB g_0_0 77 #[.int .i64 (0), .int .i64 (0), .slice none 0 0, .int .i64 (0), .int .i64 (0), .int .i64 (0), .slice none 0 0, .slice none 0 0, .int .i64 (0), .int .i64 (0), .int .i64 (0), .int .i64 (0)]] W855 := Ha857.iG (eY (Ha857.kn 1 rfl)); clear Ha857
             refine aA ?_
             have H863 : St w F0 [hB g_1_1 77 #[.int .i64 (E.Kind), .int .i64 (E.Script), .slice BSlots E.aM.length cSlots, .int .i64 (E.State), .int .i64 (E.Value.Kind), .int .i64 (E.Value.N), .slice BQueue E.Queue.length cQueue, .slice BAskers E.aG.length cAskers, .int .i64 (E.bD), .int .i64 (E.Pos), .int .i64 (E.Count), .int .i64 (E.bJ)], hR aH 181 (.slice (some ⟨g_11_2, 0, none⟩) 1 1) ([m845]), bF gc 157 A bs.length cb, hR aP 70 (.slice BSlots E.aM.length cSlots) E.aM, hR aH 181 (.slice BQueue E.Queue.length cQueue) E.Queue, hR aQ 155 (.slice BAskers E.aG.length cAskers) E.aG, hB g_0_0 77 #[.int .i64 (0), .int .i64 (0), .slice none 0 0, .int .i64 (0), .int .i64 (0), .int .i64 (0), .slice none 0 0, .slice none 0 0, .int .i64 (0), .int .i64 (0), .int .i64 (0), .int .i64 (0)]] W855 := H859.pick [5, 0, 1, 2, 3, 4, 6] kD rfl; clear H859
             refine bR rfl Try.sizeOf65 rfl rfl rfl (Nat.le_of_ble_eq_true rfl) (by simp [Value.cells, Value.oneCell']) H863 ?_
             intro W860 hu861 Ha862; clear H863; clear hu861
             refine aI ?_
             refine aK ?_
             refine aN [0, 1, 2, 3] rfl ?_
             refine aA ?_
             refine aB rfl (dS (vs := [(0, .int .i64 (1)), (1, .int .i64 (2))]) (cells := #[.int .i64 (1), .int .i64 (2)]) rfl kR) rfl rfl ?_
             refine aA ?_
             refine dD rfl Try.runUnderlying75 Try.sizeOf155 kD Try.zeroValue155 rfl rfl rfl rfl Ha862 ?_
             intro g_12_1 W865 hu866 Ha867; clear Ha862; clear hu866
             refine aA ?_
             refine aB rfl (aU jY rfl) rfl rfl ?_
             have H869 : St w F0 [hM aQ (⟨1, 2⟩ : GAsker) [.int .i64 (1), .int .i64 (2)], hB g_12_1 155 #[.int .i64 (1), .int .i64 (2)], hB g_1_1 77 #[.int .i64 (E.Kind), .int .i64 (E.Script), .slice BSlots E.aM.length cSlots, .int .i64 (E.State), .int .i64 (E.Value.Kind), .int .i64 (E.Value.N), .slice (some ⟨g_11_2, 0, none⟩) 1 1, .slice BAskers E.aG.length cAskers, .int .i64 (E.bD), .int .i64 (E.Pos), .int .i64 (E.Count), .int .i64 (E.bJ)], hR aH 181 (.slice (some ⟨g_11_2, 0, none⟩) 1 1) ([m845]), bF gc 157 A bs.length cb, hR aP 70 (.slice BSlots E.aM.length cSlots) E.aM, hR aH 181 (.slice BQueue E.Queue.length cQueue) E.Queue, hR aQ 155 (.slice BAskers E.aG.length cAskers) E.aG, hB g_0_0 77 #[.int .i64 (0), .int .i64 (0), .slice none 0 0, .int .i64 (0), .int .i64 (0), .int .i64 (0), .slice none 0 0, .slice none 0 0, .int .i64 (0), .int .i64 (0), .int .i64 (0), .int .i64 (0)]] W865 := Ha867.add0 (q := hM aQ (⟨1, 2⟩ : GAsker) [.int .i64 (1), .int .i64 (2)]) (iC _ No (⟨1, 2⟩ : GAsker)); clear Ha867
             have H870 : St w F0 [hB g_12_1 155 #[.int .i64 (1), .int .i64 (2)], hM aQ (⟨1, 2⟩ : GAsker) [.int .i64 (1), .int .i64 (2)], hB g_1_1 77 #[.int .i64 (E.Kind), .int .i64 (E.Script), .slice BSlots E.aM.length cSlots, .int .i64 (E.State), .int .i64 (E.Value.Kind), .int .i64 (E.Value.N), .slice (some ⟨g_11_2, 0, none⟩) 1 1, .slice BAskers E.aG.length cAskers, .int .i64 (E.bD), .int .i64 (E.Pos), .int .i64 (E.Count), .int .i64 (E.bJ)], hR aH 181 (.slice (some ⟨g_11_2, 0, none⟩) 1 1) ([m845]), bF gc 157 A bs.length cb, hR aP 70 (.slice BSlots E.aM.length cSlots) E.aM, hR aH 181 (.slice BQueue E.Queue.length cQueue) E.Queue, hR aQ 155 (.slice BAskers E.aG.length cAskers) E.aG, hB g_0_0 77 #[.int .i64 (0), .int .i64 (0), .slice none 0 0, .int .i64 (0), .int .i64 (0), .int .i64 (0), .slice none 0 0, .slice none 0 0, .int .i64 (0), .int .i64 (0), .int .i64 (0), .int .i64 (0)]] W865 := H869.pick [1, 0, 2, 3, 4, 5, 6, 7, 8] kD rfl; clear H869
             have H871 : St w F0 [hR aQ 155 (.slice (some ⟨g_12_1, 0, none⟩) 1 1) ([(⟨1, 2⟩ : GAsker)]), hB g_1_1 77 #[.int .i64 (E.Kind), .int .i64 (E.Script), .slice BSlots E.aM.length cSlots, .int .i64 (E.State), .int .i64 (E.Value.Kind), .int .i64 (E.Value.N), .slice (some ⟨g_11_2, 0, none⟩) 1 1, .slice BAskers E.aG.length cAskers, .int .i64 (E.bD), .int .i64 (E.Pos), .int .i64 (E.Count), .int .i64 (E.bJ)], hR aH 181 (.slice (some ⟨g_11_2, 0, none⟩) 1 1) ([m845]), bF gc 157 A bs.length cb, hR aP 70 (.slice BSlots E.aM.length cSlots) E.aM, hR aH 181 (.slice BQueue E.Queue.length cQueue) E.Queue, hR aQ 155 (.slice BAskers E.aG.length cAskers) E.aG, hB g_0_0 77 #[.int .i64 (0), .int .i64 (0), .slice none 0 0, .int .i64 (0), .int .i64 (0), .int .i64 (0), .slice none 0 0, .slice none 0 0, .int .i64 (0), .int .i64 (0), .int .i64 (0), .int .i64 (0)]] W865 := H870.iG rfl; clear H870
             refine aA ?_
             have H875 : St w F0 [hB g_1_1 77 #[.int .i64 (E.Kind), .int .i64 (E.Script), .slice BSlots E.aM.length cSlots, .int .i64 (E.State), .int .i64 (E.Value.Kind), .int .i64 (E.Value.N), .slice (some ⟨g_11_2, 0, none⟩) 1 1, .slice BAskers E.aG.length cAskers, .int .i64 (E.bD), .int .i64 (E.Pos), .int .i64 (E.Count), .int .i64 (E.bJ)], hR aQ 155 (.slice (some ⟨g_12_1, 0, none⟩) 1 1) ([(⟨1, 2⟩ : GAsker)]), hR aH 181 (.slice (some ⟨g_11_2, 0, none⟩) 1 1) ([m845]), bF gc 157 A bs.length cb, hR aP 70 (.slice BSlots E.aM.length cSlots) E.aM, hR aH 181 (.slice BQueue E.Queue.length cQueue) E.Queue, hR aQ 155 (.slice BAskers E.aG.length cAskers) E.aG, hB g_0_0 77 #[.int .i64 (0), .int .i64 (0), .slice none 0 0, .int .i64 (0), .int .i64 (0), .int .i64 (0), .slice none 0 0, .slice none 0 0, .int .i64 (0), .int .i64 (0), .int .i64 (0), .int .i64 (0)]] W865 := H871.pick [1, 0, 2, 3, 4, 5, 6, 7] kD rfl; clear H871
             refine bR rfl Try.sizeOf75 rfl rfl rfl (Nat.le_of_ble_eq_true rfl) (by simp [Value.cells, Value.oneCell']) H875 ?_
             intro W872 hu873 Ha874; clear H875; clear hu873
             refine aI ?_
             exact (aZ [(0, .pointer (some ⟨gc, 0, none⟩)), (2, .pointer (some ⟨g_0_0, 0, none⟩)), (3, .pointer (some ⟨g_1_1, 0, none⟩))] rfl).elim fun x' hx => ⟨(⟨E.Kind, E.Script, E.aM, E.State, E.Value, [m845], [(⟨1, 2⟩ : GAsker)], E.bD, E.Pos, E.Count, E.bJ⟩ : GEntity), BSlots, cSlots, (some ⟨g_11_2, 0, none⟩), 1, (some ⟨g_12_1, 0, none⟩), 1, x', hx, Ha874.pick [4, 2, 1, 0, 3, 7] kD rfl, (by first | exact hE1 | exact hLq | exact Nat.le_of_ble_eq_true rfl), (by first | exact hE2 | exact eT _ hsent | exact Nat.le_of_ble_eq_true rfl), (by first | exact hE3 | exact hE3 | exact Nat.le_of_ble_eq_true rfl)⟩
            ·refine wp_skip ?_
             exact (aZ [(0, .pointer (some ⟨gc, 0, none⟩)), (2, .pointer (some ⟨g_0_0, 0, none⟩)), (3, .pointer (some ⟨g_1_1, 0, none⟩))] rfl).elim fun x' hx => ⟨E, BSlots, cSlots, BQueue, cQueue, BAskers, cAskers, x', hx, H843.pick [1, 2, 3, 4, 0, 5] kD rfl, (by first | exact hE1 | exact hLq | exact Nat.le_of_ble_eq_true rfl), (by first | exact hE2 | exact eT _ hsent | exact Nat.le_of_ble_eq_true rfl), (by first | exact hE3 | exact hE3 | exact Nat.le_of_ble_eq_true rfl)⟩
           ·rintro _ W878 ⟨E, BSlots, cSlots, BQueue, cQueue, BAskers, cAskers, x879, rfl, H877, hE1, hE2, hE3⟩
            refine eP ?_
            exact (aZ [(0, .pointer (some ⟨gc, 0, none⟩)), (2, .pointer (some ⟨g_0_0, 0, none⟩)), (3, .pointer (some ⟨g_1_1, 0, none⟩))] rfl).elim fun x' hx => ⟨E, BSlots, cSlots, BQueue, cQueue, BAskers, cAskers, x', hx, H877, (by first | exact hE1 | exact hLq | exact Nat.le_of_ble_eq_true rfl), (by first | exact hE2 | exact eT _ hsent | exact Nat.le_of_ble_eq_true rfl), (by first | exact hE3 | exact hE3 | exact Nat.le_of_ble_eq_true rfl)⟩
          ·refine aA ?_
           refine aB rfl (bZ hg831 (bS rfl rfl)) rfl rfl ?_
           refine aA ?_
           refine aB rfl (aF rfl) rfl rfl ?_
           refine aA ?_
           refine aD rfl rfl rfl rfl rfl rfl rfl ?_
           refine aA ?_
           refine aD rfl rfl rfl rfl rfl rfl rfl ?_
           refine aA ?_
           refine aB rfl (aX (v := .bool (false)) (b := false) rfl rfl rfl rfl) rfl rfl ?_
           refine aI ?_
           refine aK ?_
           refine eU (fun a' W' => ∃ (E : GEntity) (BSlots : Option Addr) (cSlots : Nat) (BQueue : Option Addr) (cQueue : Nat) (BAskers : Option Addr) (cAskers : Nat) (x' : Nat → Value), a' = bH 101 x' [(0, .pointer (some ⟨gc, 0, none⟩)), (2, .pointer (some ⟨g_0_0, 0, none⟩)), (3, .pointer (some ⟨g_1_1, 0, none⟩))] ∧ St w F0 [hR aP 70 (.slice BSlots E.aM.length cSlots) E.aM, hR aH 181 (.slice BQueue E.Queue.length cQueue) E.Queue, hR aQ 155 (.slice BAskers E.aG.length cAskers) E.aG, hB g_1_1 77 #[.int .i64 (E.Kind), .int .i64 (E.Script), .slice BSlots E.aM.length cSlots, .int .i64 (E.State), .int .i64 (E.Value.Kind), .int .i64 (E.Value.N), .slice BQueue E.Queue.length cQueue, .slice BAskers E.aG.length cAskers, .int .i64 (E.bD), .int .i64 (E.Pos), .int .i64 (E.Count), .int .i64 (E.bJ)], bF gc 157 A bs.length cb, hB g_0_0 77 #[.int .i64 (0), .int .i64 (0), .slice none 0 0, .int .i64 (0), .int .i64 (0), .int .i64 (0), .slice none 0 0, .slice none 0 0, .int .i64 (0), .int .i64 (0), .int .i64 (0), .int .i64 (0)]] W' ∧ (E.aM.length ≤ 8) ∧ (bV bT E.Queue ≤ 30) ∧ (E.aG.length ≤ 2)) ?_ ?_
           ·refine fA rfl ?_
            refine wp_skip ?_
            exact (aZ [(0, .pointer (some ⟨gc, 0, none⟩)), (2, .pointer (some ⟨g_0_0, 0, none⟩)), (3, .pointer (some ⟨g_1_1, 0, none⟩))] rfl).elim fun x' hx => ⟨E, BSlots, cSlots, BQueue, cQueue, BAskers, cAskers, x', hx, H828, (by first | exact hE1 | exact hLq | exact Nat.le_of_ble_eq_true rfl), (by first | exact hE2 | exact eT _ hsent | exact Nat.le_of_ble_eq_true rfl), (by first | exact hE3 | exact hE3 | exact Nat.le_of_ble_eq_true rfl)⟩
           ·rintro _ W881 ⟨E, BSlots, cSlots, BQueue, cQueue, BAskers, cAskers, x882, rfl, H880, hE1, hE2, hE3⟩
            refine eP ?_
            exact (aZ [(0, .pointer (some ⟨gc, 0, none⟩)), (2, .pointer (some ⟨g_0_0, 0, none⟩)), (3, .pointer (some ⟨g_1_1, 0, none⟩))] rfl).elim fun x' hx => ⟨E, BSlots, cSlots, BQueue, cQueue, BAskers, cAskers, x', hx, H880, (by first | exact hE1 | exact hLq | exact Nat.le_of_ble_eq_true rfl), (by first | exact hE2 | exact eT _ hsent | exact Nat.le_of_ble_eq_true rfl), (by first | exact hE3 | exact hE3 | exact Nat.le_of_ble_eq_true rfl)⟩
 ·rintro _ W884 ⟨E, BSlots, cSlots, BQueue, cQueue, BAskers, cAskers, x885, rfl, H883, hE1, hE2, hE3⟩
  refine aK ?_
  refine wp_seq ?_
  refine wp_seq ?_
  refine aN [0, 1] rfl ?_
  refine aA ?_
  refine aB rfl (aF rfl) rfl rfl ?_
  refine aA ?_
  have H888 : St w F0 [bF gc 157 A bs.length cb, hR aP 70 (.slice BSlots E.aM.length cSlots) E.aM, hR aH 181 (.slice BQueue E.Queue.length cQueue) E.Queue, hR aQ 155 (.slice BAskers E.aG.length cAskers) E.aG, hB g_1_1 77 #[.int .i64 (E.Kind), .int .i64 (E.Script), .slice BSlots E.aM.length cSlots, .int .i64 (E.State), .int .i64 (E.Value.Kind), .int .i64 (E.Value.N), .slice BQueue E.Queue.length cQueue, .slice BAskers E.aG.length cAskers, .int .i64 (E.bD), .int .i64 (E.Pos), .int .i64 (E.Count), .int .i64 (E.bJ)], hB g_0_0 77 #[.int .i64 (0), .int .i64 (0), .slice none 0 0, .int .i64 (0), .int .i64 (0), .int .i64 (0), .slice none 0 0, .slice none 0 0, .int .i64 (0), .int .i64 (0), .int .i64 (0), .int .i64 (0)]] W884 := H883.pick [4, 0, 1, 2, 3, 5] kD rfl; clear H883
  obtain ⟨F889, hs890, hF891, hfr892⟩ := St.frame (l0 := [bF gc 157 A bs.length cb]) (l := [hR aP 70 (.slice BSlots E.aM.length cSlots) E.aM, hR aH 181 (.slice BQueue E.Queue.length cQueue) E.Queue, hR aQ 155 (.slice BAskers E.aG.length cAskers) E.aG, hB g_1_1 77 #[.int .i64 (E.Kind), .int .i64 (E.Script), .slice BSlots E.aM.length cSlots, .int .i64 (E.State), .int .i64 (E.Value.Kind), .int .i64 (E.Value.N), .slice BQueue E.Queue.length cQueue, .slice BAskers E.aG.length cAskers, .int .i64 (E.bD), .int .i64 (E.Pos), .int .i64 (E.Count), .int .i64 (E.bJ)], hB g_0_0 77 #[.int .i64 (0), .int .i64 (0), .slice none 0 0, .int .i64 (0), .int .i64 (0), .int .i64 (0), .slice none 0 0, .slice none 0 0, .int .i64 (0), .int .i64 (0), .int .i64 (0), .int .i64 (0)]]) H888
  refine bC rfl Try.call44 (vs := #[.pointer (some ⟨gc, 0, none⟩), .int .i64 (10)]) rfl rfl rfl (dN 10 _ _ _ _ _ _ (CV.step hV H888.1 hF891) hn hs890) ?_
  rintro e895 W894 ⟨q886, rfl, hq887, Hn893⟩; refine ⟨_, rfl, ?_⟩
  have H896 := hfr892 _ _ Hn893; clear H888
  refine aI ?_
  refine aK ?_
  refine eU (fun a' W' => ∃ (E : GEntity) (BSlots : Option Addr) (cSlots : Nat) (BQueue : Option Addr) (cQueue : Nat) (BAskers : Option Addr) (cAskers : Nat) (x' : Nat → Value), a' = bH 101 x' [(0, .pointer (some ⟨gc, 0, none⟩)), (2, .pointer (some ⟨g_0_0, 0, none⟩)), (3, .pointer (some ⟨g_1_1, 0, none⟩))] ∧ St w F0 [hR aP 70 (.slice BSlots E.aM.length cSlots) E.aM, hR aH 181 (.slice BQueue E.Queue.length cQueue) E.Queue, hR aQ 155 (.slice BAskers E.aG.length cAskers) E.aG, hB g_1_1 77 #[.int .i64 (E.Kind), .int .i64 (E.Script), .slice BSlots E.aM.length cSlots, .int .i64 (E.State), .int .i64 (E.Value.Kind), .int .i64 (E.Value.N), .slice BQueue E.Queue.length cQueue, .slice BAskers E.aG.length cAskers, .int .i64 (E.bD), .int .i64 (E.Pos), .int .i64 (E.Count), .int .i64 (E.bJ)], bF gc 157 A bs.length cb, hB g_0_0 77 #[.int .i64 (0), .int .i64 (0), .slice none 0 0, .int .i64 (0), .int .i64 (0), .int .i64 (0), .slice none 0 0, .slice none 0 0, .int .i64 (0), .int .i64 (0), .int .i64 (0), .int .i64 (0)]] W' ∧ (E.aM.length ≤ 8) ∧ (bV bT E.Queue ≤ 30) ∧ (E.aG.length ≤ 2)) ?_ ?_
  ·refine wp_block ?_
   refine wp_seq ?_
   refine aN [0, 1] rfl ?_
   refine aA ?_
   refine aB rfl (bS rfl rfl) rfl rfl ?_
   refine aA ?_
   refine aB rfl (aR rfl) rfl rfl ?_
   refine aI ?_
   refine aK ?_
   refine dB rfl (fun hc897 => ?_) (fun hc897 => ?_)
   ·refine aN [0, 1, 2, 3, 4] rfl ?_
    refine aA ?_
    refine aB rfl (aF rfl) rfl rfl ?_
    refine aA ?_
    refine jU (vs := [(0, .int .i64 (-1)), (1, .int .i64 (5)), (2, .int .i64 (999999)), (3, .int .i64 (1000000))]) (cells := #[.int .i64 (-1), .int .i64 (5), .int .i64 (999999), .int .i64 (1000000)]) rfl Try.runUnderlying82 Try.sizeOf3 Try.zeroValue3 rfl kD kD kR rfl rfl H896 ?_
    intro g_19_1 W898 hu899 Ha900; clear H896
    have Hb901 := St.boxSc (xs := ([-1, 5, 999999, 1000000] : List Int)) (h1 := fun _ => rfl) Ha900 rfl kD rfl; clear hu899
    refine aA ?_
    have H904 : St w F0 [bF gc 157 A bs.length cb, hR Kn.int 3 (.slice (some ⟨g_19_1, 0, none⟩) 4 4) ([-1, 5, 999999, 1000000] : List Int), hR aP 70 (.slice BSlots E.aM.length cSlots) E.aM, hR aH 181 (.slice BQueue E.Queue.length cQueue) E.Queue, hR aQ 155 (.slice BAskers E.aG.length cAskers) E.aG, hB g_1_1 77 #[.int .i64 (E.Kind), .int .i64 (E.Script), .slice BSlots E.aM.length cSlots, .int .i64 (E.State), .int .i64 (E.Value.Kind), .int .i64 (E.Value.N), .slice BQueue E.Queue.length cQueue, .slice BAskers E.aG.length cAskers, .int .i64 (E.bD), .int .i64 (E.Pos), .int .i64 (E.Count), .int .i64 (E.bJ)], hB g_0_0 77 #[.int .i64 (0), .int .i64 (0), .slice none 0 0, .int .i64 (0), .int .i64 (0), .int .i64 (0), .slice none 0 0, .slice none 0 0, .int .i64 (0), .int .i64 (0), .int .i64 (0), .int .i64 (0)]] W898 := Hb901.pick [1, 0, 2, 3, 4, 5, 6] kD rfl; clear Hb901
    obtain ⟨F905, hs906, hF907, hfr908⟩ := St.frame (l0 := [bF gc 157 A bs.length cb, hR Kn.int 3 (.slice (some ⟨g_19_1, 0, none⟩) 4 4) ([-1, 5, 999999, 1000000] : List Int)]) (l := [hR aP 70 (.slice BSlots E.aM.length cSlots) E.aM, hR aH 181 (.slice BQueue E.Queue.length cQueue) E.Queue, hR aQ 155 (.slice BAskers E.aG.length cAskers) E.aG, hB g_1_1 77 #[.int .i64 (E.Kind), .int .i64 (E.Script), .slice BSlots E.aM.length cSlots, .int .i64 (E.State), .int .i64 (E.Value.Kind), .int .i64 (E.Value.N), .slice BQueue E.Queue.length cQueue, .slice BAskers E.aG.length cAskers, .int .i64 (E.bD), .int .i64 (E.Pos), .int .i64 (E.Count), .int .i64 (E.bJ)], hB g_0_0 77 #[.int .i64 (0), .int .i64 (0), .slice none 0 0, .int .i64 (0), .int .i64 (0), .int .i64 (0), .slice none 0 0, .slice none 0 0, .int .i64 (0), .int .i64 (0), .int .i64 (0), .int .i64 (0)]]) H904
    refine bC rfl Try.call113 (vs := #[.pointer (some ⟨gc, 0, none⟩), .slice (some ⟨g_19_1, 0, none⟩) 4 4]) rfl rfl rfl (int_s ([-1, 5, 999999, 1000000] : List Int) _ _ kD _ _ _ _ _ _ (CV.step hV H904.1 hF907) hn hs906) ?_
    rintro e911 W910 ⟨s902, rfl, hs903, Hn909⟩; refine ⟨_, rfl, ?_⟩
    have H912 := hfr908 _ _ Hn909; clear H904
    refine aA ?_
    refine aB rfl (aU fa_77_10 rfl) rfl rfl ?_
    refine aA ?_
    have H916 : St w F0 [hB g_1_1 77 #[.int .i64 (E.Kind), .int .i64 (E.Script), .slice BSlots E.aM.length cSlots, .int .i64 (E.State), .int .i64 (E.Value.Kind), .int .i64 (E.Value.N), .slice BQueue E.Queue.length cQueue, .slice BAskers E.aG.length cAskers, .int .i64 (E.bD), .int .i64 (E.Pos), .int .i64 (E.Count), .int .i64 (E.bJ)], bF gc 157 A bs.length cb, hR Kn.int 3 (.slice (some ⟨g_19_1, 0, none⟩) 4 4) ([-1, 5, 999999, 1000000] : List Int), hR aP 70 (.slice BSlots E.aM.length cSlots) E.aM, hR aH 181 (.slice BQueue E.Queue.length cQueue) E.Queue, hR aQ 155 (.slice BAskers E.aG.length cAskers) E.aG, hB g_0_0 77 #[.int .i64 (0), .int .i64 (0), .slice none 0 0, .int .i64 (0), .int .i64 (0), .int .i64 (0), .slice none 0 0, .slice none 0 0, .int .i64 (0), .int .i64 (0), .int .i64 (0), .int .i64 (0)]] W910 := H912.pick [5, 0, 1, 2, 3, 4, 6] kD rfl; clear H912
    refine bR rfl Try.sizeOf3 rfl rfl rfl (Nat.le_of_ble_eq_true rfl) (by simp [Value.cells, Value.oneCell']) H916 ?_
    intro W913 hu914 Ha915; clear H916; clear hu914
    refine aI ?_
    refine eP ?_
    exact (aZ [(0, .pointer (some ⟨gc, 0, none⟩)), (2, .pointer (some ⟨g_0_0, 0, none⟩)), (3, .pointer (some ⟨g_1_1, 0, none⟩))] rfl).elim fun x' hx => ⟨(⟨E.Kind, E.Script, E.aM, E.State, E.Value, E.Queue, E.aG, E.bD, E.Pos, E.Count, s902⟩ : GEntity), BSlots, cSlots, BQueue, cQueue, BAskers, cAskers, x', hx, Ha915.pick [3, 4, 5, 0, 1, 6] kD rfl, (by first | exact hE1 | exact hLq | exact Nat.le_of_ble_eq_true rfl), (by first | exact hE2 | exact eT _ hsent | exact Nat.le_of_ble_eq_true rfl), (by first | exact hE3 | exact hE3 | exact Nat.le_of_ble_eq_true rfl)⟩
   ·refine wp_seq ?_
    refine aN [0, 1] rfl ?_
    refine aA ?_
    refine aB rfl (bS rfl rfl) rfl rfl ?_
    refine aA ?_
    refine aB rfl (aR rfl) rfl rfl ?_
    refine aI ?_
    refine aK ?_
    refine dB rfl (fun hc918 => ?_) (fun hc918 => ?_)
    ·refine aN [0, 1, 2, 3, 4] rfl ?_
     refine aA ?_
     refine aB rfl (aF rfl) rfl rfl ?_
     refine aA ?_
     refine jU (vs := [(0, .int .i64 (0)), (1, .int .i64 (1)), (2, .int .i64 (2))]) (cells := #[.int .i64 (0), .int .i64 (1), .int .i64 (2)]) rfl Try.runUnderlying82 Try.sizeOf3 Try.zeroValue3 rfl kD kD kR rfl rfl H896 ?_
     intro g_21_1 W919 hu920 Ha921; clear H896
     have Hb922 := St.boxSc (xs := ([0, 1, 2] : List Int)) (h1 := fun _ => rfl) Ha921 rfl kD rfl; clear hu920
     refine aA ?_
     have H925 : St w F0 [bF gc 157 A bs.length cb, hR Kn.int 3 (.slice (some ⟨g_21_1, 0, none⟩) 3 3) ([0, 1, 2] : List Int), hR aP 70 (.slice BSlots E.aM.length cSlots) E.aM, hR aH 181 (.slice BQueue E.Queue.length cQueue) E.Queue, hR aQ 155 (.slice BAskers E.aG.length cAskers) E.aG, hB g_1_1 77 #[.int .i64 (E.Kind), .int .i64 (E.Script), .slice BSlots E.aM.length cSlots, .int .i64 (E.State), .int .i64 (E.Value.Kind), .int .i64 (E.Value.N), .slice BQueue E.Queue.length cQueue, .slice BAskers E.aG.length cAskers, .int .i64 (E.bD), .int .i64 (E.Pos), .int .i64 (E.Count), .int .i64 (E.bJ)], hB g_0_0 77 #[.int .i64 (0), .int .i64 (0), .slice none 0 0, .int .i64 (0), .int .i64 (0), .int .i64 (0), .slice none 0 0, .slice none 0 0, .int .i64 (0), .int .i64 (0), .int .i64 (0), .int .i64 (0)]] W919 := Hb922.pick [1, 0, 2, 3, 4, 5, 6] kD rfl; clear Hb922
     obtain ⟨F926, hs927, hF928, hfr929⟩ := St.frame (l0 := [bF gc 157 A bs.length cb, hR Kn.int 3 (.slice (some ⟨g_21_1, 0, none⟩) 3 3) ([0, 1, 2] : List Int)]) (l := [hR aP 70 (.slice BSlots E.aM.length cSlots) E.aM, hR aH 181 (.slice BQueue E.Queue.length cQueue) E.Queue, hR aQ 155 (.slice BAskers E.aG.length cAskers) E.aG, hB g_1_1 77 #[.int .i64 (E.Kind), .int .i64 (E.Script), .slice BSlots E.aM.length cSlots, .int .i64 (E.State), .int .i64 (E.Value.Kind), .int .i64 (E.Value.N), .slice BQueue E.Queue.length cQueue, .slice BAskers E.aG.length cAskers, .int .i64 (E.bD), .int .i64 (E.Pos), .int .i64 (E.Count), .int .i64 (E.bJ)], hB g_0_0 77 #[.int .i64 (0), .int .i64 (0), .slice none 0 0, .int .i64 (0), .int .i64 (0), .int .i64 (0), .slice none 0 0, .slice none 0 0, .int .i64 (0), .int .i64 (0), .int .i64 (0), .int .i64 (0)]]) H925
     refine bC rfl Try.call113 (vs := #[.pointer (some ⟨gc, 0, none⟩), .slice (some ⟨g_21_1, 0, none⟩) 3 3]) rfl rfl rfl (int_s ([0, 1, 2] : List Int) _ _ kD _ _ _ _ _ _ (CV.step hV H925.1 hF928) hn hs927) ?_
     rintro e932 W931 ⟨s923, rfl, hs924, Hn930⟩; refine ⟨_, rfl, ?_⟩
     have H933 := hfr929 _ _ Hn930; clear H925
     refine aA ?_
     refine aB rfl (aU fa_77_9 rfl) rfl rfl ?_
     refine aA ?_
     have H937 : St w F0 [hB g_1_1 77 #[.int .i64 (E.Kind), .int .i64 (E.Script), .slice BSlots E.aM.length cSlots, .int .i64 (E.State), .int .i64 (E.Value.Kind), .int .i64 (E.Value.N), .slice BQueue E.Queue.length cQueue, .slice BAskers E.aG.length cAskers, .int .i64 (E.bD), .int .i64 (E.Pos), .int .i64 (E.Count), .int .i64 (E.bJ)], bF gc 157 A bs.length cb, hR Kn.int 3 (.slice (some ⟨g_21_1, 0, none⟩) 3 3) ([0, 1, 2] : List Int), hR aP 70 (.slice BSlots E.aM.length cSlots) E.aM, hR aH 181 (.slice BQueue E.Queue.length cQueue) E.Queue, hR aQ 155 (.slice BAskers E.aG.length cAskers) E.aG, hB g_0_0 77 #[.int .i64 (0), .int .i64 (0), .slice none 0 0, .int .i64 (0), .int .i64 (0), .int .i64 (0), .slice none 0 0, .slice none 0 0, .int .i64 (0), .int .i64 (0), .int .i64 (0), .int .i64 (0)]] W931 := H933.pick [5, 0, 1, 2, 3, 4, 6] kD rfl; clear H933
     refine bR rfl Try.sizeOf3 rfl rfl rfl (Nat.le_of_ble_eq_true rfl) (by simp [Value.cells, Value.oneCell']) H937 ?_
     intro W934 hu935 Ha936; clear H937; clear hu935
     refine aI ?_
     refine eP ?_
     exact (aZ [(0, .pointer (some ⟨gc, 0, none⟩)), (2, .pointer (some ⟨g_0_0, 0, none⟩)), (3, .pointer (some ⟨g_1_1, 0, none⟩))] rfl).elim fun x' hx => ⟨(⟨E.Kind, E.Script, E.aM, E.State, E.Value, E.Queue, E.aG, E.bD, E.Pos, s923, E.bJ⟩ : GEntity), BSlots, cSlots, BQueue, cQueue, BAskers, cAskers, x', hx, Ha936.pick [3, 4, 5, 0, 1, 6] kD rfl, (by first | exact hE1 | exact hLq | exact Nat.le_of_ble_eq_true rfl), (by first | exact hE2 | exact eT _ hsent | exact Nat.le_of_ble_eq_true rfl), (by first | exact hE3 | exact hE3 | exact Nat.le_of_ble_eq_true rfl)⟩
    ·refine wp_seq ?_
     refine aN [0, 1] rfl ?_
     refine aA ?_
     refine aB rfl (bS rfl rfl) rfl rfl ?_
     refine aA ?_
     refine aB rfl (aR rfl) rfl rfl ?_
     refine aI ?_
     refine aK ?_
     refine dB rfl (fun hc939 => ?_) (fun hc939 => ?_)
     ·refine aN [0, 1, 2, 3] rfl ?_
      refine aA ?_
      refine aB rfl (aF rfl) rfl rfl ?_
      refine aA ?_
      obtain ⟨F942, hs943, hF944, hfr945⟩ := St.frame (l0 := [bF gc 157 A bs.length cb]) (l := [hR aP 70 (.slice BSlots E.aM.length cSlots) E.aM, hR aH 181 (.slice BQueue E.Queue.length cQueue) E.Queue, hR aQ 155 (.slice BAskers E.aG.length cAskers) E.aG, hB g_1_1 77 #[.int .i64 (E.Kind), .int .i64 (E.Script), .slice BSlots E.aM.length cSlots, .int .i64 (E.State), .int .i64 (E.Value.Kind), .int .i64 (E.Value.N), .slice BQueue E.Queue.length cQueue, .slice BAskers E.aG.length cAskers, .int .i64 (E.bD), .int .i64 (E.Pos), .int .i64 (E.Count), .int .i64 (E.bJ)], hB g_0_0 77 #[.int .i64 (0), .int .i64 (0), .slice none 0 0, .int .i64 (0), .int .i64 (0), .int .i64 (0), .slice none 0 0, .slice none 0 0, .int .i64 (0), .int .i64 (0), .int .i64 (0), .int .i64 (0)]]) H896
      refine bC rfl Try.call81 (vs := #[.pointer (some ⟨gc, 0, none⟩)]) rfl rfl rfl (value_s _ _ _ _ _ _ (CV.step hV H896.1 hF944) hn hs943) ?_
      rintro e948 W947 ⟨k940, v941, rfl, Hn946⟩; refine ⟨_, rfl, ?_⟩
      have H949 := hfr945 _ _ Hn946; clear H896
      refine aA ?_
      refine aB rfl (aU kI rfl) rfl rfl ?_
      refine aA ?_
      have H953 : St w F0 [hB g_1_1 77 #[.int .i64 (E.Kind), .int .i64 (E.Script), .slice BSlots E.aM.length cSlots, .int .i64 (E.State), .int .i64 (E.Value.Kind), .int .i64 (E.Value.N), .slice BQueue E.Queue.length cQueue, .slice BAskers E.aG.length cAskers, .int .i64 (E.bD), .int .i64 (E.Pos), .int .i64 (E.Count), .int .i64 (E.bJ)], bF gc 157 A bs.length cb, hR aP 70 (.slice BSlots E.aM.length cSlots) E.aM, hR aH 181 (.slice BQueue E.Queue.length cQueue) E.Queue, hR aQ 155 (.slice BAskers E.aG.length cAskers) E.aG, hB g_0_0 77 #[.int .i64 (0), .int .i64 (0), .slice none 0 0, .int .i64 (0), .int .i64 (0), .int .i64 (0), .slice none 0 0, .slice none 0 0, .int .i64 (0), .int .i64 (0), .int .i64 (0), .int .i64 (0)]] W947 := H949.pick [4, 0, 1, 2, 3, 5] kD rfl; clear H949
      refine bR rfl Try.sizeOf70 rfl rfl rfl (Nat.le_of_ble_eq_true rfl) (by simp [Value.cells, Value.oneCell']) H953 ?_
      intro W950 hu951 Ha952; clear H953; clear hu951
      refine aI ?_
      refine eP ?_
      exact (aZ [(0, .pointer (some ⟨gc, 0, none⟩)), (2, .pointer (some ⟨g_0_0, 0, none⟩)), (3, .pointer (some ⟨g_1_1, 0, none⟩))] rfl).elim fun x' hx => ⟨(⟨E.Kind, E.Script, E.aM, E.State, (⟨k940, v941⟩ : GValue), E.Queue, E.aG, E.bD, E.Pos, E.Count, E.bJ⟩ : GEntity), BSlots, cSlots, BQueue, cQueue, BAskers, cAskers, x', hx, Ha952.pick [2, 3, 4, 0, 1, 5] kD rfl, (by first | exact hE1 | exact hLq | exact Nat.le_of_ble_eq_true rfl), (by first | exact hE2 | exact eT _ hsent | exact Nat.le_of_ble_eq_true rfl), (by first | exact hE3 | exact hE3 | exact Nat.le_of_ble_eq_true rfl)⟩
     ·refine wp_seq ?_
      refine aN [0, 1] rfl ?_
      refine aA ?_
      refine aB rfl (bS rfl rfl) rfl rfl ?_
      refine aA ?_
      refine aB rfl (aR rfl) rfl rfl ?_
      refine aI ?_
      refine aK ?_
      refine dB rfl (fun hc955 => ?_) (fun hc955 => ?_)
      ·refine aN [0, 1, 2, 3] rfl ?_
       refine aA ?_
       refine aB rfl (aF rfl) rfl rfl ?_
       refine aA ?_
       obtain ⟨F958, hs959, hF960, hfr961⟩ := St.frame (l0 := [bF gc 157 A bs.length cb]) (l := [hR aP 70 (.slice BSlots E.aM.length cSlots) E.aM, hR aH 181 (.slice BQueue E.Queue.length cQueue) E.Queue, hR aQ 155 (.slice BAskers E.aG.length cAskers) E.aG, hB g_1_1 77 #[.int .i64 (E.Kind), .int .i64 (E.Script), .slice BSlots E.aM.length cSlots, .int .i64 (E.State), .int .i64 (E.Value.Kind), .int .i64 (E.Value.N), .slice BQueue E.Queue.length cQueue, .slice BAskers E.aG.length cAskers, .int .i64 (E.bD), .int .i64 (E.Pos), .int .i64 (E.Count), .int .i64 (E.bJ)], hB g_0_0 77 #[.int .i64 (0), .int .i64 (0), .slice none 0 0, .int .i64 (0), .int .i64 (0), .int .i64 (0), .slice none 0 0, .slice none 0 0, .int .i64 (0), .int .i64 (0), .int .i64 (0), .int .i64 (0)]]) H896
       refine bC rfl Try.call44 (vs := #[.pointer (some ⟨gc, 0, none⟩), .int .i64 (5)]) rfl rfl rfl (dN 5 _ _ _ _ _ _ (CV.step hV H896.1 hF960) hn hs959) ?_
       rintro e964 W963 ⟨q956, rfl, hq957, Hn962⟩; refine ⟨_, rfl, ?_⟩
       have H965 := hfr961 _ _ Hn962; clear H896
       refine aA ?_
       refine aB rfl (aU fa_77_0 rfl) rfl rfl ?_
       refine aA ?_
       have H969 : St w F0 [hB g_1_1 77 #[.int .i64 (E.Kind), .int .i64 (E.Script), .slice BSlots E.aM.length cSlots, .int .i64 (E.State), .int .i64 (E.Value.Kind), .int .i64 (E.Value.N), .slice BQueue E.Queue.length cQueue, .slice BAskers E.aG.length cAskers, .int .i64 (E.bD), .int .i64 (E.Pos), .int .i64 (E.Count), .int .i64 (E.bJ)], bF gc 157 A bs.length cb, hR aP 70 (.slice BSlots E.aM.length cSlots) E.aM, hR aH 181 (.slice BQueue E.Queue.length cQueue) E.Queue, hR aQ 155 (.slice BAskers E.aG.length cAskers) E.aG, hB g_0_0 77 #[.int .i64 (0), .int .i64 (0), .slice none 0 0, .int .i64 (0), .int .i64 (0), .int .i64 (0), .slice none 0 0, .slice none 0 0, .int .i64 (0), .int .i64 (0), .int .i64 (0), .int .i64 (0)]] W963 := H965.pick [4, 0, 1, 2, 3, 5] kD rfl; clear H965
       refine bR rfl Try.sizeOf3 rfl rfl rfl (Nat.le_of_ble_eq_true rfl) (by simp [Value.cells, Value.oneCell']) H969 ?_
       intro W966 hu967 Ha968; clear H969; clear hu967
       refine aI ?_
       refine eP ?_
       exact (aZ [(0, .pointer (some ⟨gc, 0, none⟩)), (2, .pointer (some ⟨g_0_0, 0, none⟩)), (3, .pointer (some ⟨g_1_1, 0, none⟩))] rfl).elim fun x' hx => ⟨(⟨q956, E.Script, E.aM, E.State, E.Value, E.Queue, E.aG, E.bD, E.Pos, E.Count, E.bJ⟩ : GEntity), BSlots, cSlots, BQueue, cQueue, BAskers, cAskers, x', hx, Ha968.pick [2, 3, 4, 0, 1, 5] kD rfl, (by first | exact hE1 | exact hLq | exact Nat.le_of_ble_eq_true rfl), (by first | exact hE2 | exact eT _ hsent | exact Nat.le_of_ble_eq_true rfl), (by first | exact hE3 | exact hE3 | exact Nat.le_of_ble_eq_true rfl)⟩
      ·refine wp_seq ?_
       refine aN [0, 1] rfl ?_
       refine aA ?_
       refine aB rfl (bS rfl rfl) rfl rfl ?_
       refine aA ?_
       refine aB rfl (aR rfl) rfl rfl ?_
       refine aI ?_
       refine aK ?_
       refine dB rfl (fun hc971 => ?_) (fun hc971 => ?_)
       ·refine aN [0, 1, 2, 3, 4] rfl ?_
        refine aA ?_
        refine aB rfl (aF rfl) rfl rfl ?_
        refine aA ?_
        refine jU (vs := [(0, .int .i64 (0)), (1, .int .i64 (-1)), (2, .int .i64 (2))]) (cells := #[.int .i64 (0), .int .i64 (-1), .int .i64 (2)]) rfl Try.runUnderlying82 Try.sizeOf3 Try.zeroValue3 rfl kD kD kR rfl rfl H896 ?_
        intro g_27_1 W972 hu973 Ha974; clear H896
        have Hb975 := St.boxSc (xs := ([0, -1, 2] : List Int)) (h1 := fun _ => rfl) Ha974 rfl kD rfl; clear hu973
        refine aA ?_
        have H978 : St w F0 [bF gc 157 A bs.length cb, hR Kn.int 3 (.slice (some ⟨g_27_1, 0, none⟩) 3 3) ([0, -1, 2] : List Int), hR aP 70 (.slice BSlots E.aM.length cSlots) E.aM, hR aH 181 (.slice BQueue E.Queue.length cQueue) E.Queue, hR aQ 155 (.slice BAskers E.aG.length cAskers) E.aG, hB g_1_1 77 #[.int .i64 (E.Kind), .int .i64 (E.Script), .slice BSlots E.aM.length cSlots, .int .i64 (E.State), .int .i64 (E.Value.Kind), .int .i64 (E.Value.N), .slice BQueue E.Queue.length cQueue, .slice BAskers E.aG.length cAskers, .int .i64 (E.bD), .int .i64 (E.Pos), .int .i64 (E.Count), .int .i64 (E.bJ)], hB g_0_0 77 #[.int .i64 (0), .int .i64 (0), .slice none 0 0, .int .i64 (0), .int .i64 (0), .int .i64 (0), .slice none 0 0, .slice none 0 0, .int .i64 (0), .int .i64 (0), .int .i64 (0), .int .i64 (0)]] W972 := Hb975.pick [1, 0, 2, 3, 4, 5, 6] kD rfl; clear Hb975
        obtain ⟨F979, hs980, hF981, hfr982⟩ := St.frame (l0 := [bF gc 157 A bs.length cb, hR Kn.int 3 (.slice (some ⟨g_27_1, 0, none⟩) 3 3) ([0, -1, 2] : List Int)]) (l := [hR aP 70 (.slice BSlots E.aM.length cSlots) E.aM, hR aH 181 (.slice BQueue E.Queue.length cQueue) E.Queue, hR aQ 155 (.slice BAskers E.aG.length cAskers) E.aG, hB g_1_1 77 #[.int .i64 (E.Kind), .int .i64 (E.Script), .slice BSlots E.aM.length cSlots, .int .i64 (E.State), .int .i64 (E.Value.Kind), .int .i64 (E.Value.N), .slice BQueue E.Queue.length cQueue, .slice BAskers E.aG.length cAskers, .int .i64 (E.bD), .int .i64 (E.Pos), .int .i64 (E.Count), .int .i64 (E.bJ)], hB g_0_0 77 #[.int .i64 (0), .int .i64 (0), .slice none 0 0, .int .i64 (0), .int .i64 (0), .int .i64 (0), .slice none 0 0, .slice none 0 0, .int .i64 (0), .int .i64 (0), .int .i64 (0), .int .i64 (0)]]) H978
        refine bC rfl Try.call113 (vs := #[.pointer (some ⟨gc, 0, none⟩), .slice (some ⟨g_27_1, 0, none⟩) 3 3]) rfl rfl rfl (int_s ([0, -1, 2] : List Int) _ _ kD _ _ _ _ _ _ (CV.step hV H978.1 hF981) hn hs980) ?_
        rintro e985 W984 ⟨s976, rfl, hs977, Hn983⟩; refine ⟨_, rfl, ?_⟩
        have H986 := hfr982 _ _ Hn983; clear H978
        refine aA ?_
        refine aB rfl (aU jZ rfl) rfl rfl ?_
        refine aA ?_
        have H990 : St w F0 [hB g_1_1 77 #[.int .i64 (E.Kind), .int .i64 (E.Script), .slice BSlots E.aM.length cSlots, .int .i64 (E.State), .int .i64 (E.Value.Kind), .int .i64 (E.Value.N), .slice BQueue E.Queue.length cQueue, .slice BAskers E.aG.length cAskers, .int .i64 (E.bD), .int .i64 (E.Pos), .int .i64 (E.Count), .int .i64 (E.bJ)], bF gc 157 A bs.length cb, hR Kn.int 3 (.slice (some ⟨g_27_1, 0, none⟩) 3 3) ([0, -1, 2] : List Int), hR aP 70 (.slice BSlots E.aM.length cSlots) E.aM, hR aH 181 (.slice BQueue E.Queue.length cQueue) E.Queue, hR aQ 155 (.slice BAskers E.aG.length cAskers) E.aG, hB g_0_0 77 #[.int .i64 (0), .int .i64 (0), .slice none 0 0, .int .i64 (0), .int .i64 (0), .int .i64 (0), .slice none 0 0, .slice none 0 0, .int .i64 (0), .int .i64 (0), .int .i64 (0), .int .i64 (0)]] W984 := H986.pick [5, 0, 1, 2, 3, 4, 6] kD rfl; clear H986
        refine bR rfl Try.sizeOf3 rfl rfl rfl (Nat.le_of_ble_eq_true rfl) (by simp [Value.cells, Value.oneCell']) H990 ?_
        intro W987 hu988 Ha989; clear H990; clear hu988
        refine aI ?_
        refine eP ?_
        exact (aZ [(0, .pointer (some ⟨gc, 0, none⟩)), (2, .pointer (some ⟨g_0_0, 0, none⟩)), (3, .pointer (some ⟨g_1_1, 0, none⟩))] rfl).elim fun x' hx => ⟨(⟨E.Kind, E.Script, E.aM, E.State, E.Value, E.Queue, E.aG, s976, E.Pos, E.Count, E.bJ⟩ : GEntity), BSlots, cSlots, BQueue, cQueue, BAskers, cAskers, x', hx, Ha989.pick [3, 4, 5, 0, 1, 6] kD rfl, (by first | exact hE1 | exact hLq | exact Nat.le_of_ble_eq_true rfl), (by first | exact hE2 | exact eT _ hsent | exact Nat.le_of_ble_eq_true rfl), (by first | exact hE3 | exact hE3 | exact Nat.le_of_ble_eq_true rfl)⟩
       ·refine wp_skip ?_
        refine eP ?_
        exact (aZ [(0, .pointer (some ⟨gc, 0, none⟩)), (2, .pointer (some ⟨g_0_0, 0, none⟩)), (3, .pointer (some ⟨g_1_1, 0, none⟩))] rfl).elim fun x' hx => ⟨E, BSlots, cSlots, BQueue, cQueue, BAskers, cAskers, x', hx, H896.pick [1, 2, 3, 4, 0, 5] kD rfl, (by first | exact hE1 | exact hLq | exact Nat.le_of_ble_eq_true rfl), (by first | exact hE2 | exact eT _ hsent | exact Nat.le_of_ble_eq_true rfl), (by first | exact hE3 | exact hE3 | exact Nat.le_of_ble_eq_true rfl)⟩
  ·rintro _ W993 ⟨E, BSlots, cSlots, BQueue, cQueue, BAskers, cAskers, x994, rfl, H992, hE1, hE2, hE3⟩
   refine aK ?_
   refine wp_seq ?_
   refine aN [0, 1] rfl ?_
   refine aA ?_
   refine aB rfl (bN Try.isAgg77 Try.sizeOf77 rfl (H992.blk 3 rfl) rfl) rfl rfl ?_
   refine aA ?_
   have H998 : St w F0 [hB g_0_0 77 #[.int .i64 (0), .int .i64 (0), .slice none 0 0, .int .i64 (0), .int .i64 (0), .int .i64 (0), .slice none 0 0, .slice none 0 0, .int .i64 (0), .int .i64 (0), .int .i64 (0), .int .i64 (0)], hR aP 70 (.slice BSlots E.aM.length cSlots) E.aM, hR aH 181 (.slice BQueue E.Queue.length cQueue) E.Queue, hR aQ 155 (.slice BAskers E.aG.length cAskers) E.aG, hB g_1_1 77 #[.int .i64 (E.Kind), .int .i64 (E.Script), .slice BSlots E.aM.length cSlots, .int .i64 (E.State), .int .i64 (E.Value.Kind), .int .i64 (E.Value.N), .slice BQueue E.Queue.length cQueue, .slice BAskers E.aG.length cAskers, .int .i64 (E.bD), .int .i64 (E.Pos), .int .i64 (E.Count), .int .i64 (E.bJ)], bF gc 157 A bs.length cb] W993 := H992.pick [5, 0, 1, 2, 3, 4] kD rfl; clear H992
   refine bG rfl Try.sizeOf77 rfl rfl rfl rfl kS H998 ?_
   intro W995 hu996 Ha997; clear H998; clear hu996
   refine aI ?_
   refine aK ?_
   refine wp_ret ?_
   refine dI (.inl rfl) Try.results85 Try.isAgg77 Try.sizeOf77 rfl (Ha997.blk 0 rfl) rfl ?_
   have H1000 : St w F0 [hR aP 70 (.slice BSlots E.aM.length cSlots) E.aM, hR aH 181 (.slice BQueue E.Queue.length cQueue) E.Queue, hR aQ 155 (.slice BAskers E.aG.length cAskers) E.aG, hB g_0_0 77 #[.int .i64 (E.Kind), .int .i64 (E.Script), .slice BSlots E.aM.length cSlots, .int .i64 (E.State), .int .i64 (E.Value.Kind), .int .i64 (E.Value.N), .slice BQueue E.Queue.length cQueue, .slice BAskers E.aG.length cAskers, .int .i64 (E.bD), .int .i64 (E.Pos), .int .i64 (E.Count), .int .i64 (E.bJ)], hB g_1_1 77 #[.int .i64 (E.Kind), .int .i64 (E.Script), .slice BSlots E.aM.length cSlots, .int .i64 (E.State), .int .i64 (E.Value.Kind), .int .i64 (E.Value.N), .slice BQueue E.Queue.length cQueue, .slice BAskers E.aG.length cAskers, .int .i64 (E.bD), .int .i64 (E.Pos), .int .i64 (E.Count), .int .i64 (E.bJ)], bF gc 157 A bs.length cb] W995 := Ha997.pick [1, 2, 3, 0, 4, 5] kD rfl; clear Ha997
   have H1001 : St w F0 [hM aL E [.int .i64 (E.Kind), .int .i64 (E.Script), .slice BSlots E.aM.length cSlots, .int .i64 (E.State), .int .i64 (E.Value.Kind), .int .i64 (E.Value.N), .slice BQueue E.Queue.length cQueue, .slice BAskers E.aG.length cAskers, .int .i64 (E.bD), .int .i64 (E.Pos), .int .i64 (E.Count), .int .i64 (E.bJ)], hB g_0_0 77 #[.int .i64 (E.Kind), .int .i64 (E.Script), .slice BSlots E.aM.length cSlots, .int .i64 (E.State), .int .i64 (E.Value.Kind), .int .i64 (E.Value.N), .slice BQueue E.Queue.length cQueue, .slice BAskers E.aG.length cAskers, .int .i64 (E.bD), .int .i64 (E.Pos), .int .i64 (E.Count), .int .i64 (E.bJ)], hB g_1_1 77 #[.int .i64 (E.Kind), .int .i64 (E.Script), .slice BSlots E.aM.length cSlots, .int .i64 (E.State), .int .i64 (E.Value.Kind), .int .i64 (E.Value.N), .slice BQueue E.Queue.length cQueue, .slice BAskers E.aG.length cAskers, .int .i64 (E.bD), .int .i64 (E.Pos), .int .i64 (E.Count), .int .i64 (E.bJ)], bF gc 157 A bs.length cb] W995 := H1000.swap (l0 := [hR aP 70 (.slice BSlots E.aM.length cSlots) E.aM, hR aH 181 (.slice BQueue E.Queue.length cQueue) E.Queue, hR aQ 155 (.slice BAskers E.aG.length cAskers) E.aG]) (l' := [hM aL E [.int .i64 (E.Kind), .int .i64 (E.Script), .slice BSlots E.aM.length cSlots, .int .i64 (E.State), .int .i64 (E.Value.Kind), .int .i64 (E.Value.N), .slice BQueue E.Queue.length cQueue, .slice BAskers E.aG.length cAskers, .int .i64 (E.bD), .int .i64 (E.Pos), .int .i64 (E.Count), .int .i64 (E.bJ)]]) (fun _ h => Star.one (gD (x := E) h)); clear H1000
   exact ⟨E, _, rfl, entsz E hE1 hE2 hE3, H1001.pick [0, 3] kD rfl⟩
end Go.Proofs.YtdfipdpeilegpaaFam
