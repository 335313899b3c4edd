/- What the row needs, packed. No conditions beyond those that each law names. -/
import Derived.Test.YtdfipdpeilegpaaZfs4
import Derived.Test.YtdfipdpeilegpaaProg
import Derived.Test.YtdfipdpeilegpaaZfs1
import Derived.WalkKit
import Derived.KernelRfl
import Derived.RowKit3
import Derived.Deep.LoopGhost
import Derived.Deep.QuietTactic
import Derived.BigQuiet
import Derived.StillTailTactics
import Derived.Deep.RegionHeld3
import Derived.Test.YtdfipdpeilegpaaZfs3
import Derived.Deep.Slices
import Derived.ChangeArms
import Derived.WideShapes
namespace Go.Proofs.YtdfipdpeilegpaaFam
open Go.ChangeShapes Go.WideShapes Go.RowKit Go.Proofs.YtdfipdpeilegpaaSep Go.Proofs.YtdfipdpeilegpaaT Go.Proofs.YtdfipdpeilegpaaK
set_option linter.unusedVariables false
set_option linter.unusedSimpArgs false
attribute [local irreducible] wpOps wpOp
set_option maxHeartbeats 4000000
set_option maxRecDepth 100000
theorem method_s (nm : ByteArray) (bs : List Int) (gc cb : Nat) (A : Option Addr) (F0 : Nat → Prop) (w : World) (hV : CV A bs F0 w) (hn : bs.length ≤ 1048576) (h : Star [aV gc 157 A bs.length cb] w F0) : Calls Try.prog 112 #[.pointer (some ⟨gc, 0, none⟩), .string nm] w (fun e' w' => ∃ m cs, e' = .returned (.agg (List.toArray cs)) ∧ aX m ≤ nm.size + 200 ∧ St w F0 [hM aL m cs, aV gc 157 A bs.length cb] w') := by
 refine enter 34 [(0, .pointer (some ⟨gc, 0, none⟩)), (1, .string (nm))] Try.func112 rfl kR ?_
 intro xj
 have H1 : St w F0 [aV gc 157 A bs.length cb] w := St.enterF h
 refine wp_seq ?_
 refine aI [0] rfl ?_
 refine aA ?_
 refine dD rfl Try.zeroValue51 rfl rfl H1 ?_
 intro g_0_0 W2 hu3 Ha4; clear H1; clear hu3
 refine aF ?_
 refine aH ?_
 refine wp_seq ?_
 refine aI [0, 1, 2, 3] rfl ?_
 refine aA ?_
 refine aB rfl (aC rfl) rfl rfl ?_
 refine aA ?_
 refine aB rfl (bB (vs := [(0, .string (nm))]) (cells := #[.string (nm), .slice none 0 0]) rfl kR) rfl rfl ?_
 refine aA ?_
 refine dD rfl Try.zeroValue51 rfl rfl Ha4 ?_
 intro g_1_2 W6 hu7 Ha8; clear Ha4; clear hu7
 refine aA ?_
 refine aU rfl Try.sizeOf51 rfl rfl rfl rfl kS Ha8 ?_
 intro W10 hu11 Ha12; clear Ha8; clear hu11
 refine aF ?_
 refine aH ?_
 refine wp_seq ?_
 refine wp_seq ?_
 refine aI [0, 1, 2, 3] rfl ?_
 refine aA ?_
 refine aB rfl (aC rfl) rfl rfl ?_
 refine aA ?_
 have H17 : St w F0 [aV gc 157 A bs.length cb, hB g_1_2 51 #[.string (nm), .slice none 0 0], hB g_0_0 51 #[.string (⟨#[]⟩), .slice none 0 0]] W10 := Ha12.pick [2, 0, 1] kD rfl; clear Ha12
 obtain ⟨F18, hs19, hF20, hfr21⟩ := St.frame (l0 := [aV gc 157 A bs.length cb]) (l := [hB g_1_2 51 #[.string (nm), .slice none 0 0], hB g_0_0 51 #[.string (⟨#[]⟩), .slice none 0 0]]) H17
 refine aK rfl Try.call44 (vs := #[.pointer (some ⟨gc, 0, none⟩), .int .i64 (6)]) rfl rfl rfl (cB 6 _ _ _ _ _ _ (CV.step hV H17.1 hF20) hn hs19) ?_
 rintro e24 W23 ⟨q14, rfl, hq15, Hn22⟩; refine ⟨_, rfl, ?_⟩
 have H25 := hfr21 _ _ Hn22; clear H17
 obtain ⟨n16, rfl⟩ : ∃ z : Nat, q14 = z := ⟨q14.toNat, by omega⟩
 refine aA ?_
 refine aB rfl (rn_int (q := ((n16 + 1 : Nat) : Int)) kO (rn_add rfl rfl kO)) rfl rfl ?_
 refine aA ?_
 refine aB rfl (aG rfl) rfl rfl ?_
 refine aF ?_
 refine aH ?_
 refine wp_block ?_
 have H26 : St w F0 [hR bF 118 (.slice none 0 0) ([]), aV gc 157 A bs.length cb, hB g_1_2 51 #[.string (nm), .slice none 0 0], hB g_0_0 51 #[.string (⟨#[]⟩), .slice none 0 0]] W23 := H25.add0 (q := hR bF 118 (.slice none 0 0) []) R_nil; clear H25
 refine wp_loop_ghost (fun r a' W' => ∃ (d : Nat) (L : List GInstr) (AL : Option Addr) (cL : Nat) (x' : Nat → Value), a' = bC 34 x' [(0, .pointer (some ⟨gc, 0, none⟩)), (4, .pointer (some ⟨g_0_0, 0, none⟩)), (5, .pointer (some ⟨g_1_2, 0, none⟩)), (6, .int .i64 (((d : Nat) : Int)))] ∧ (d = r) ∧ (L.length + d ≤ 8) ∧ (bZ cK L + 10 * d ≤ 100) ∧ St w F0 [hR bF 118 (.slice AL L.length cL) L, aV gc 157 A bs.length cb, hB g_1_2 51 #[.string (nm), .slice AL L.length cL], hB g_0_0 51 #[.string (⟨#[]⟩), .slice none 0 0]] W') (n16 + 1) ?_ ?_
 ·exact (bJ [(0, .pointer (some ⟨gc, 0, none⟩)), (4, .pointer (some ⟨g_0_0, 0, none⟩)), (5, .pointer (some ⟨g_1_2, 0, none⟩)), (6, .int .i64 (((n16 + 1 : Nat) : Int)))] rfl).elim fun x' hx => ⟨(n16 + 1), [], none, 0, x', hx, rfl, (show 0 + _ ≤ _ by omega), (show 0 + _ ≤ _ by omega), H26⟩
 ·rintro r27 _ W28 ⟨d, L, AL, cL, x29, rfl, hd, hL, hLz, H30⟩; clear H26
  refine wp_seq ?_
  refine wp_seq ?_
  refine aI [0, 1] rfl ?_
  refine aA ?_
  refine aB rfl (aC rfl) rfl rfl ?_
  refine aA ?_
  refine aB rfl (rn_gtr rfl rfl) rfl rfl ?_
  refine aF ?_
  refine aH ?_
  refine aW rfl (fun hc31 => ?_) (fun hc31 => ?_)
  ·refine wp_skip ?_
   refine aH ?_
   refine wp_seq ?_
   refine wp_block ?_
   refine dF (fun W' => Blk W' g_1_2 51 #[.string (nm), .slice AL L.length cL]) 7 kR ?_
   have H32 := H30.drew; clear H30
   have hS33 : Blk W28.drew g_1_2 51 #[.string (nm), .slice AL L.length cL] := H32.blk 2 rfl
   refine aP (i := 0) rfl kR kR kR kR kR (fun _ _ _ h => h) rfl rfl hS33 (fun W' hs' => aN dZ rfl) ?_
   refine aP (i := 1) rfl kR kR kR kR kR (fun _ _ _ h => h) rfl rfl hS33 (fun W' hs' => aS (k := 1) (v := .slice AL L.length cL) Try.isAgg49 rfl hs' rfl) ?_
   refine aP (i := 2) rfl kR kR kR kR kR (fun _ _ _ h => h) rfl rfl hS33 (fun W' hs' => aC rfl) ?_
   refine bH (i := 3) kR ?_
   have H41 : St w F0 [aV gc 157 A bs.length cb, hR bF 118 (.slice AL L.length cL) L, hB g_1_2 51 #[.string (nm), .slice AL L.length cL], hB g_0_0 51 #[.string (⟨#[]⟩), .slice none 0 0]] W28.drew := H32.pick [1, 0, 2, 3] kD rfl; clear H32
   obtain ⟨F42, hs43, hF44, hfr45⟩ := St.frame (l0 := [aV gc 157 A bs.length cb]) (l := [hR bF 118 (.slice AL L.length cL) L, hB g_1_2 51 #[.string (nm), .slice AL L.length cL], hB g_0_0 51 #[.string (⟨#[]⟩), .slice none 0 0]]) H41
   refine aK rfl Try.call143 (vs := #[.pointer (some ⟨gc, 0, none⟩)]) rfl rfl rfl (instr_s _ _ _ _ _ _ (CV.step hV H41.1 hF44) hn hs43) ?_
   rintro e48 W47 ⟨i34, i35, i36, i37, i38, s39, rfl, hs40, Hn46⟩; refine ⟨_, rfl, ?_⟩
   have H49 := hfr45 _ _ Hn46; clear H41
   have hS50 := H49.blk 2 rfl; refine ⟨fun _ => hS50, ?_⟩
   refine bH (i := 4) kR ?_
   refine gW rfl Try.runUnderlying49 Try.sizeOf118 kD Try.zeroValue118 rfl rfl rfl rfl H49 ?_
   intro g_5_4 W51 hu52 Ha53; clear H49; clear hu52
   have hS55 := Ha53.blk 3 rfl; refine ⟨fun _ => hS55, ?_⟩
   refine bH (i := 5) kR ?_
   have H58 : St w F0 [hR bF 118 (.slice AL L.length cL) L, hB g_5_4 118 #[.int .i64 (i34), .int .i64 (i35), .int .i64 (i36), .int .i64 (i37), .int .i64 (i38), .string (s39)], aV gc 157 A bs.length cb, hB g_1_2 51 #[.string (nm), .slice AL L.length cL], hB g_0_0 51 #[.string (⟨#[]⟩), .slice none 0 0]] W51 := Ha53.pick [2, 0, 1, 3, 4] kD rfl; clear Ha53
   refine op_append1f' (xs := L) (p := (⟨i34, i35, i36, i37, i38, s39⟩ : GInstr)) (n' := (L ++ [(⟨i34, i35, i36, i37, i38, s39⟩ : GInstr)]).length) (ys := (L ++ [(⟨i34, i35, i36, i37, i38, s39⟩ : GInstr)])) rfl Try.underlying49 gG rfl kD kD rfl rfl (ki_Instr_mk _ No (⟨i34, i35, i36, i37, i38, s39⟩ : GInstr)) (by show (L.length + 1) * _ ≤ _; omega) (by rw [List.length_append]; rfl) rfl rfl rfl H58 ?_
   intro B_5_5 c_5_5 W56 Ha57; clear H58
   have hS60 := Ha57.blk 2 rfl; refine ⟨fun _ => hS60, ?_⟩
   refine aP (i := 6) rfl kR kR kR kR kR (fun _ _ _ h => h) rfl rfl hS60 (fun W' hs' => aN dZ rfl) ?_
   refine bH (i := 7) kR ?_
   have H64 : St w F0 [hB g_1_2 51 #[.string (nm), .slice AL L.length cL], hR bF 118 (.slice B_5_5 ((L ++ [(⟨i34, i35, i36, i37, i38, s39⟩ : GInstr)]).length) c_5_5) (L ++ [(⟨i34, i35, i36, i37, i38, s39⟩ : GInstr)]), aV gc 157 A bs.length cb, hB g_0_0 51 #[.string (⟨#[]⟩), .slice none 0 0]] W56 := Ha57.pick [2, 0, 1, 3] kD rfl; clear Ha57
   refine fQ rfl Try.sizeOf49 rfl rfl rfl (Nat.le_of_ble_eq_true rfl) (by simp [Value.cells, Value.oneCell']) H64 ?_
   intro W61 hu62 Ha63; clear H64; clear hu62
   refine ⟨fun h => absS kR h, ?_⟩
   refine dA kR ?_ _
   refine dR ?_
   refine aH ?_
   refine aI [0, 1, 2] rfl ?_
   refine aA ?_
   refine aB rfl (aC rfl) rfl rfl ?_
   refine aA ?_
   refine aB rfl (rn_int (q := ((d - 1 : Nat) : Int)) kO (rn_sub rfl rfl kO)) rfl rfl ?_
   refine aA ?_
   refine aB rfl (aG rfl) rfl rfl ?_
   refine aF ?_
   refine aH ?_
   have hz := szA cK L (⟨i34, i35, i36, i37, i38, s39⟩ : GInstr)
   have hz2 : cK (⟨i34, i35, i36, i37, i38, s39⟩ : GInstr) ≤ 8 := hs40
   exact (bJ [(0, .pointer (some ⟨gc, 0, none⟩)), (4, .pointer (some ⟨g_0_0, 0, none⟩)), (5, .pointer (some ⟨g_1_2, 0, none⟩)), (6, .int .i64 (((d - 1 : Nat) : Int)))] rfl).elim fun x' hx => ⟨r27 - 1, kO, d - 1, (L ++ [(⟨i34, i35, i36, i37, i38, s39⟩ : GInstr)]), B_5_5, c_5_5, x', hx, kO, (by rw [List.length_append]; show L.length + 1 + _ ≤ _; omega), kO, Ha63.pick [1, 2, 0, 3] kD rfl⟩
  ·refine wp_exit ?_
   refine dH ?_
   refine dH ?_
   refine inB_x ?_
   refine aH ?_
   refine wp_seq ?_
   refine wp_seq ?_
   refine aI [0, 1] rfl ?_
   refine aA ?_
   refine aB rfl (aC rfl) rfl rfl ?_
   refine aA ?_
   have H67 : St w F0 [aV gc 157 A bs.length cb, hR bF 118 (.slice AL L.length cL) L, hB g_1_2 51 #[.string (nm), .slice AL L.length cL], hB g_0_0 51 #[.string (⟨#[]⟩), .slice none 0 0]] W28 := H30.pick [1, 0, 2, 3] kD rfl; clear H30
   obtain ⟨F68, hs69, hF70, hfr71⟩ := St.frame (l0 := [aV gc 157 A bs.length cb]) (l := [hR bF 118 (.slice AL L.length cL) L, hB g_1_2 51 #[.string (nm), .slice AL L.length cL], hB g_0_0 51 #[.string (⟨#[]⟩), .slice none 0 0]]) H67
   refine aK rfl Try.call43 (vs := #[.pointer (some ⟨gc, 0, none⟩), .int .i64 (2)]) rfl rfl rfl (once_s 2 _ _ _ _ _ _ (CV.step hV H67.1 hF70) hn hs69) ?_
   rintro e74 W73 ⟨b66, rfl, Hn72⟩; refine ⟨_, rfl, ?_⟩
   have H75 := hfr71 _ _ Hn72; clear H67
   refine aF ?_
   refine aH ?_
   refine fC (b := b66) rfl (fun hc76 => ?_) (fun hc76 => ?_)
   ·refine dF (fun W' => Blk W' g_1_2 51 #[.string (nm), .slice AL L.length cL]) 8 kR ?_
    have H77 := H75.drew; clear H75
    have hS78 : Blk W73.drew g_1_2 51 #[.string (nm), .slice AL L.length cL] := H77.blk 2 rfl
    refine aP (i := 0) rfl kR kR kR kR kR (fun _ _ _ h => h) rfl rfl hS78 (fun W' hs' => aN dZ rfl) ?_
    refine aP (i := 1) rfl kR kR kR kR kR (fun _ _ _ h => h) rfl rfl hS78 (fun W' hs' => aS (k := 1) (v := .slice AL L.length cL) Try.isAgg49 rfl hs' rfl) ?_
    refine aP (i := 2) rfl kR kR kR kR kR (fun _ _ _ h => h) rfl rfl hS78 (fun W' hs' => aC rfl) ?_
    refine bH (i := 3) kR ?_
    obtain ⟨F81, hs82, hF83, hfr84⟩ := St.frame (l0 := [aV gc 157 A bs.length cb]) (l := [hR bF 118 (.slice AL L.length cL) L, hB g_1_2 51 #[.string (nm), .slice AL L.length cL], hB g_0_0 51 #[.string (⟨#[]⟩), .slice none 0 0]]) H77
    refine aK rfl Try.call44 (vs := #[.pointer (some ⟨gc, 0, none⟩), .int .i64 (3)]) rfl rfl rfl (cB 3 _ _ _ _ _ _ (CV.step hV H77.1 hF83) hn hs82) ?_
    rintro e87 W86 ⟨q79, rfl, hq80, Hn85⟩; refine ⟨_, rfl, ?_⟩
    have H88 := hfr84 _ _ Hn85; clear H77
    have hS89 := H88.blk 2 rfl; refine ⟨fun _ => hS89, ?_⟩
    refine aP (i := 4) rfl kR kR kR kR kR (fun _ _ _ h => h) rfl rfl hS89 (fun W' hs' => bB (vs := [(0, .int .i64 (10)), (1, .int .i64 (q79))]) (cells := #[.int .i64 (10), .int .i64 (q79), .int .i64 (0), .int .i64 (0), .int .i64 (0), .string (⟨#[]⟩)]) rfl kR) ?_
    refine bH (i := 5) kR ?_
    refine gW rfl Try.runUnderlying49 Try.sizeOf118 kD Try.zeroValue118 rfl rfl rfl rfl H88 ?_
    intro g_7_5 W90 hu91 Ha92; clear H88; clear hu91
    have hS94 := Ha92.blk 3 rfl; refine ⟨fun _ => hS94, ?_⟩
    refine bH (i := 6) kR ?_
    have H97 : St w F0 [hR bF 118 (.slice AL L.length cL) L, hB g_7_5 118 #[.int .i64 (10), .int .i64 (q79), .int .i64 (0), .int .i64 (0), .int .i64 (0), .string (⟨#[]⟩)], aV gc 157 A bs.length cb, hB g_1_2 51 #[.string (nm), .slice AL L.length cL], hB g_0_0 51 #[.string (⟨#[]⟩), .slice none 0 0]] W90 := Ha92.pick [2, 0, 1, 3, 4] kD rfl; clear Ha92
    refine op_append1f' (xs := L) (p := (⟨10, q79, 0, 0, 0, ⟨#[]⟩⟩ : GInstr)) (n' := (L ++ [(⟨10, q79, 0, 0, 0, ⟨#[]⟩⟩ : GInstr)]).length) (ys := (L ++ [(⟨10, q79, 0, 0, 0, ⟨#[]⟩⟩ : GInstr)])) rfl Try.underlying49 gG rfl kD kD rfl rfl (ki_Instr_mk _ No (⟨10, q79, 0, 0, 0, ⟨#[]⟩⟩ : GInstr)) (by show (L.length + 1) * _ ≤ _; omega) (by rw [List.length_append]; rfl) rfl rfl rfl H97 ?_
    intro B_7_6 c_7_6 W95 Ha96; clear H97
    have hS99 := Ha96.blk 2 rfl; refine ⟨fun _ => hS99, ?_⟩
    refine aP (i := 7) rfl kR kR kR kR kR (fun _ _ _ h => h) rfl rfl hS99 (fun W' hs' => aN dZ rfl) ?_
    refine bH (i := 8) kR ?_
    have H103 : St w F0 [hB g_1_2 51 #[.string (nm), .slice AL L.length cL], hR bF 118 (.slice B_7_6 ((L ++ [(⟨10, q79, 0, 0, 0, ⟨#[]⟩⟩ : GInstr)]).length) c_7_6) (L ++ [(⟨10, q79, 0, 0, 0, ⟨#[]⟩⟩ : GInstr)]), aV gc 157 A bs.length cb, hB g_0_0 51 #[.string (⟨#[]⟩), .slice none 0 0]] W95 := Ha96.pick [2, 0, 1, 3] kD rfl; clear Ha96
    refine fQ rfl Try.sizeOf49 rfl rfl rfl (Nat.le_of_ble_eq_true rfl) (by simp [Value.cells, Value.oneCell']) H103 ?_
    intro W100 hu101 Ha102; clear H103; clear hu101
    refine ⟨fun h => absS kR h, ?_⟩
    refine dA kR ?_ _
    have H105 : St w F0 [hB g_1_2 51 #[.string (nm), .slice B_7_6 ((L ++ [(⟨10, q79, 0, 0, 0, ⟨#[]⟩⟩ : GInstr)]).length) c_7_6], hR bF 118 (.slice B_7_6 ((L ++ [(⟨10, q79, 0, 0, 0, ⟨#[]⟩⟩ : GInstr)]).length) c_7_6) (L ++ [(⟨10, q79, 0, 0, 0, ⟨#[]⟩⟩ : GInstr)]), aV gc 157 A bs.length cb, hB g_0_0 51 #[.string (⟨#[]⟩), .slice none 0 0]] W100 := Ha102; clear Ha102
    refine aH ?_
    refine wp_seq ?_
    refine aI [0, 1] rfl ?_
    refine aA ?_
    refine aB rfl (bL Try.isAgg51 Try.sizeOf51 rfl (H105.blk 0 rfl) rfl) rfl rfl ?_
    refine aA ?_
    have H109 : St w F0 [hB g_0_0 51 #[.string (⟨#[]⟩), .slice none 0 0], hB g_1_2 51 #[.string (nm), .slice B_7_6 ((L ++ [(⟨10, q79, 0, 0, 0, ⟨#[]⟩⟩ : GInstr)]).length) c_7_6], hR bF 118 (.slice B_7_6 ((L ++ [(⟨10, q79, 0, 0, 0, ⟨#[]⟩⟩ : GInstr)]).length) c_7_6) (L ++ [(⟨10, q79, 0, 0, 0, ⟨#[]⟩⟩ : GInstr)]), aV gc 157 A bs.length cb] W100 := H105.pick [3, 0, 1, 2] kD rfl; clear H105
    refine aU rfl Try.sizeOf51 rfl rfl rfl rfl kS H109 ?_
    intro W106 hu107 Ha108; clear H109; clear hu107
    refine aF ?_
    refine aH ?_
    refine wp_ret ?_
    refine bA (.inl rfl) Try.results112 Try.isAgg51 Try.sizeOf51 rfl (Ha108.blk 0 rfl) rfl ?_
    have H111 : St w F0 [hR bF 118 (.slice B_7_6 ((L ++ [(⟨10, q79, 0, 0, 0, ⟨#[]⟩⟩ : GInstr)]).length) c_7_6) (L ++ [(⟨10, q79, 0, 0, 0, ⟨#[]⟩⟩ : GInstr)]), hB g_0_0 51 #[.string (nm), .slice B_7_6 ((L ++ [(⟨10, q79, 0, 0, 0, ⟨#[]⟩⟩ : GInstr)]).length) c_7_6], hB g_1_2 51 #[.string (nm), .slice B_7_6 ((L ++ [(⟨10, q79, 0, 0, 0, ⟨#[]⟩⟩ : GInstr)]).length) c_7_6], aV gc 157 A bs.length cb] W106 := Ha108.pick [2, 0, 1, 3] kD rfl; clear Ha108
    have H112 : St w F0 [hM aL (⟨nm, (L ++ [(⟨10, q79, 0, 0, 0, ⟨#[]⟩⟩ : GInstr)])⟩ : GMethod) [.string (nm), .slice B_7_6 ((L ++ [(⟨10, q79, 0, 0, 0, ⟨#[]⟩⟩ : GInstr)]).length) c_7_6], hB g_0_0 51 #[.string (nm), .slice B_7_6 ((L ++ [(⟨10, q79, 0, 0, 0, ⟨#[]⟩⟩ : GInstr)]).length) c_7_6], hB g_1_2 51 #[.string (nm), .slice B_7_6 ((L ++ [(⟨10, q79, 0, 0, 0, ⟨#[]⟩⟩ : GInstr)]).length) c_7_6], aV gc 157 A bs.length cb] W106 := H111.swap (l0 := [hR bF 118 (.slice B_7_6 ((L ++ [(⟨10, q79, 0, 0, 0, ⟨#[]⟩⟩ : GInstr)]).length) c_7_6) (L ++ [(⟨10, q79, 0, 0, 0, ⟨#[]⟩⟩ : GInstr)])]) (l' := [hM aL (⟨nm, (L ++ [(⟨10, q79, 0, 0, 0, ⟨#[]⟩⟩ : GInstr)])⟩ : GMethod) [.string (nm), .slice B_7_6 ((L ++ [(⟨10, q79, 0, 0, 0, ⟨#[]⟩⟩ : GInstr)]).length) c_7_6]]) (fun _ h => Star.one (dY (x := (⟨nm, (L ++ [(⟨10, q79, 0, 0, 0, ⟨#[]⟩⟩ : GInstr)])⟩ : GMethod)) h)); clear H111
    have es : aX (⟨nm, (L ++ [(⟨10, q79, 0, 0, 0, ⟨#[]⟩⟩ : GInstr)])⟩ : GMethod) = nm.size + bZ cK (L ++ [(⟨10, q79, 0, 0, 0, ⟨#[]⟩⟩ : GInstr)]) := rfl
    have hz := szA cK L (⟨10, q79, 0, 0, 0, ⟨#[]⟩⟩ : GInstr)
    have hz2 : cK (⟨10, q79, 0, 0, 0, ⟨#[]⟩⟩ : GInstr) = 0 := rfl
    exact ⟨(⟨nm, (L ++ [(⟨10, q79, 0, 0, 0, ⟨#[]⟩⟩ : GInstr)])⟩ : GMethod), _, rfl, by omega, H112.pick [0, 3] kD rfl⟩
   ·refine wp_skip ?_
    refine aH ?_
    refine wp_seq ?_
    refine aI [0, 1] rfl ?_
    refine aA ?_
    refine aB rfl (bL Try.isAgg51 Try.sizeOf51 rfl (H75.blk 2 rfl) rfl) rfl rfl ?_
    refine aA ?_
    have H116 : St w F0 [hB g_0_0 51 #[.string (⟨#[]⟩), .slice none 0 0], aV gc 157 A bs.length cb, hR bF 118 (.slice AL L.length cL) L, hB g_1_2 51 #[.string (nm), .slice AL L.length cL]] W73 := H75.pick [3, 0, 1, 2] kD rfl; clear H75
    refine aU rfl Try.sizeOf51 rfl rfl rfl rfl kS H116 ?_
    intro W113 hu114 Ha115; clear H116; clear hu114
    refine aF ?_
    refine aH ?_
    refine wp_ret ?_
    refine bA (.inl rfl) Try.results112 Try.isAgg51 Try.sizeOf51 rfl (Ha115.blk 0 rfl) rfl ?_
    have H118 : St w F0 [hR bF 118 (.slice AL L.length cL) L, hB g_0_0 51 #[.string (nm), .slice AL L.length cL], aV gc 157 A bs.length cb, hB g_1_2 51 #[.string (nm), .slice AL L.length cL]] W113 := Ha115.pick [2, 0, 1, 3] kD rfl; clear Ha115
    have H119 : St w F0 [hM aL (⟨nm, L⟩ : GMethod) [.string (nm), .slice AL L.length cL], hB g_0_0 51 #[.string (nm), .slice AL L.length cL], aV gc 157 A bs.length cb, hB g_1_2 51 #[.string (nm), .slice AL L.length cL]] W113 := H118.swap (l0 := [hR bF 118 (.slice AL L.length cL) L]) (l' := [hM aL (⟨nm, L⟩ : GMethod) [.string (nm), .slice AL L.length cL]]) (fun _ h => Star.one (dY (x := (⟨nm, L⟩ : GMethod)) h)); clear H118
    have es : aX (⟨nm, L⟩ : GMethod) = nm.size + bZ cK L := rfl
    exact ⟨(⟨nm, L⟩ : GMethod), _, rfl, by omega, H119.pick [0, 2] kD rfl⟩
theorem iA (nm : ByteArray) (bs : List Int) (gc cb : Nat) (A : Option Addr) (F0 : Nat → Prop) (w : World) (hV : CV A bs F0 w) (hn : bs.length ≤ 1048576) (h : Star [aV gc 157 A bs.length cb] w F0) : Calls Try.prog 68 #[.pointer (some ⟨gc, 0, none⟩), .string nm] w (fun e' w' => ∃ m cs, e' = .returned (.agg (List.toArray cs)) ∧ aZ m ≤ nm.size + 900 ∧ St w F0 [hM aO m cs, aV gc 157 A bs.length cb] w') := by
 refine enter 29 [(0, .pointer (some ⟨gc, 0, none⟩)), (1, .string (nm))] Try.func68 rfl kR ?_
 intro xj
 have H1 : St w F0 [aV gc 157 A bs.length cb] w := St.enterF h
 refine wp_seq ?_
 refine aI [0] rfl ?_
 refine aA ?_
 refine dD rfl Try.zeroValue56 rfl rfl H1 ?_
 intro g_0_0 W2 hu3 Ha4; clear H1; clear hu3
 refine aF ?_
 refine aH ?_
 refine wp_seq ?_
 refine aI [0, 1, 2, 3] rfl ?_
 refine aA ?_
 refine aB rfl (aC rfl) rfl rfl ?_
 refine aA ?_
 refine aB rfl (bB (vs := [(0, .string (nm))]) (cells := #[.string (nm), .slice none 0 0]) rfl kR) rfl rfl ?_
 refine aA ?_
 refine dD rfl Try.zeroValue56 rfl rfl Ha4 ?_
 intro g_1_2 W6 hu7 Ha8; clear Ha4; clear hu7
 refine aA ?_
 refine aU rfl Try.sizeOf56 rfl rfl rfl rfl kS Ha8 ?_
 intro W10 hu11 Ha12; clear Ha8; clear hu11
 refine aF ?_
 refine aH ?_
 refine wp_seq ?_
 refine wp_seq ?_
 refine aI [0, 1, 2] rfl ?_
 refine aA ?_
 refine bT (vs := [(0, .string (⟨#[103, 101, 116]⟩)), (1, .string (⟨#[115, 101, 116]⟩)), (2, .string (⟨#[97, 100, 100]⟩)), (3, .string (⟨#[103, 111]⟩))]) (cells := #[.string (⟨#[103, 101, 116]⟩), .string (⟨#[115, 101, 116]⟩), .string (⟨#[97, 100, 100]⟩), .string (⟨#[103, 111]⟩)]) rfl Try.runUnderlying166 Try.sizeOf9 Try.zeroValue9 rfl kD kD kR rfl rfl Ha12 ?_
 intro g_2_0 W14 hu15 Ha16; clear Ha12
 have Hb17 := St.eT (xs := ([⟨#[103, 101, 116]⟩, ⟨#[115, 101, 116]⟩, ⟨#[97, 100, 100]⟩, ⟨#[103, 111]⟩] : List ByteArray)) (h1 := fun _ => rfl) Ha16 rfl kD rfl; clear hu15
 refine aA ?_
 refine aB rfl (dG Try.runUnderlying166 rfl) rfl rfl ?_
 refine aA ?_
 refine aB rfl (aC rfl) rfl rfl ?_
 refine aF ?_
 refine aH ?_
 refine wp_block ?_
 have H18 : St w F0 [hR aL 51 (.slice none 0 0) ([]), hR Kn.string 9 (.slice (some ⟨g_2_0, 0, none⟩) 4 4) ([⟨#[103, 101, 116]⟩, ⟨#[115, 101, 116]⟩, ⟨#[97, 100, 100]⟩, ⟨#[103, 111]⟩] : List ByteArray), hB g_1_2 56 #[.string (nm), .slice none 0 0], hB g_0_0 56 #[.string (⟨#[]⟩), .slice none 0 0], aV gc 157 A bs.length cb] W14 := Hb17.add0 (q := hR aL 51 (.slice none 0 0) []) R_nil; clear Hb17
 refine wp_loop_ghost (fun r a' W' => ∃ (i : Nat) (L : List GMethod) (AL : Option Addr) (cL : Nat) (x' : Nat → Value), a' = bC 29 x' [(0, .pointer (some ⟨gc, 0, none⟩)), (4, .pointer (some ⟨g_0_0, 0, none⟩)), (5, .pointer (some ⟨g_1_2, 0, none⟩)), (10, .slice (some ⟨g_2_0, 0, none⟩) 4 4), (11, .int .i64 (4)), (12, .int .i64 (((i : Nat) : Int)))] ∧ (i + r = 4) ∧ (bZ aX L ≤ 220 * i) ∧ St w F0 [hR aL 51 (.slice AL L.length cL) L, hR Kn.string 9 (.slice (some ⟨g_2_0, 0, none⟩) 4 4) ([⟨#[103, 101, 116]⟩, ⟨#[115, 101, 116]⟩, ⟨#[97, 100, 100]⟩, ⟨#[103, 111]⟩] : List ByteArray), hB g_1_2 56 #[.string (nm), .slice AL L.length cL], hB g_0_0 56 #[.string (⟨#[]⟩), .slice none 0 0], aV gc 157 A bs.length cb] W') 4 ?_ ?_
 ·exact (bJ [(0, .pointer (some ⟨gc, 0, none⟩)), (4, .pointer (some ⟨g_0_0, 0, none⟩)), (5, .pointer (some ⟨g_1_2, 0, none⟩)), (10, .slice (some ⟨g_2_0, 0, none⟩) 4 4), (11, .int .i64 (4)), (12, .int .i64 (((0 : Nat) : Int)))] rfl).elim fun x' hx => ⟨0, [], none, 0, x', hx, kO, (show 0 + 0 ≤ _ by omega), H18⟩
 ·rintro r19 _ W20 ⟨i, L, AL, cL, x21, rfl, hi, hLz, H22⟩; clear H18
  refine wp_seq ?_
  refine aI [0] rfl ?_
  refine aA ?_
  refine aB rfl (eY rfl rfl) rfl rfl ?_
  refine aF ?_
  refine aH ?_
  refine wp_seq ?_
  refine aW rfl (fun hc23 => ?_) (fun hc23 => ?_)
  ·have hlt : i < 4 := by omega
   have hlz : L.length ≤ 2000 := by unfold bZ at hLz; omega
   refine wp_skip ?_
   refine aH ?_
   refine wp_seq ?_
   refine wp_block ?_
   refine wp_seq ?_
   have hlq : i < (([⟨#[103, 101, 116]⟩, ⟨#[115, 101, 116]⟩, ⟨#[97, 100, 100]⟩, ⟨#[103, 111]⟩] : List ByteArray)).length := hlt
   obtain ⟨ade, cse, hAe, hKe, hce⟩ := eD (H22.rowC 1 rfl) i hlq
   obtain rfl : cse = [.string (([⟨#[103, 101, 116]⟩, ⟨#[115, 101, 116]⟩, ⟨#[97, 100, 100]⟩, ⟨#[103, 111]⟩] : List ByteArray)[i])] := hKe
   refine aI [0, 1, 2] rfl ?_
   refine aA ?_
   refine aB rfl (bW (k := i) Try.runUnderlying166 Try.sizeOf9 rfl rfl hAe hlt) rfl rfl ?_
   refine aA ?_
   refine aB rfl (iB (v := .string (([⟨#[103, 101, 116]⟩, ⟨#[115, 101, 116]⟩, ⟨#[97, 100, 100]⟩, ⟨#[103, 111]⟩] : List ByteArray)[i])) Try.isAgg9 rfl (Cat.cell0 hce rfl)) rfl rfl ?_
   refine aA ?_
   refine aB rfl (aG rfl) rfl rfl ?_
   refine aF ?_
   refine aH ?_
   refine wp_seq ?_
   refine aI [0, 1, 2] rfl ?_
   refine aA ?_
   refine aB rfl (aC rfl) rfl rfl ?_
   refine aA ?_
   have H25 : St w F0 [aV gc 157 A bs.length cb, hR aL 51 (.slice AL L.length cL) L, hR Kn.string 9 (.slice (some ⟨g_2_0, 0, none⟩) 4 4) ([⟨#[103, 101, 116]⟩, ⟨#[115, 101, 116]⟩, ⟨#[97, 100, 100]⟩, ⟨#[103, 111]⟩] : List ByteArray), hB g_1_2 56 #[.string (nm), .slice AL L.length cL], hB g_0_0 56 #[.string (⟨#[]⟩), .slice none 0 0]] W20 := H22.pick [4, 0, 1, 2, 3] kD rfl; clear H22
   obtain ⟨F26, hs27, hF28, hfr29⟩ := St.frame (l0 := [aV gc 157 A bs.length cb]) (l := [hR aL 51 (.slice AL L.length cL) L, hR Kn.string 9 (.slice (some ⟨g_2_0, 0, none⟩) 4 4) ([⟨#[103, 101, 116]⟩, ⟨#[115, 101, 116]⟩, ⟨#[97, 100, 100]⟩, ⟨#[103, 111]⟩] : List ByteArray), hB g_1_2 56 #[.string (nm), .slice AL L.length cL], hB g_0_0 56 #[.string (⟨#[]⟩), .slice none 0 0]]) H25
   refine aK rfl Try.call43 (vs := #[.pointer (some ⟨gc, 0, none⟩), .int .i64 (3)]) rfl rfl rfl (once_s 3 _ _ _ _ _ _ (CV.step hV H25.1 hF28) hn hs27) ?_
   rintro e32 W31 ⟨b24, rfl, Hn30⟩; refine ⟨_, rfl, ?_⟩
   have H33 := hfr29 _ _ Hn30; clear H25
   refine aA ?_
   refine aB rfl (eX rfl) rfl rfl ?_
   refine aF ?_
   refine aH ?_
   refine fC (b := !(b24)) rfl (fun hc34 => ?_) (fun hc34 => ?_)
   ·refine dF (fun W' => Blk W' g_1_2 56 #[.string (nm), .slice AL L.length cL]) 8 kR ?_
    have H35 := H33.drew; clear H33
    have hS36 : Blk W31.drew g_1_2 56 #[.string (nm), .slice AL L.length cL] := H35.blk 3 rfl
    refine aP (i := 0) rfl kR kR kR kR kR (fun _ _ _ h => h) rfl rfl hS36 (fun W' hs' => aN dN rfl) ?_
    refine aP (i := 1) rfl kR kR kR kR kR (fun _ _ _ h => h) rfl rfl hS36 (fun W' hs' => aS (k := 1) (v := .slice AL L.length cL) Try.isAgg54 rfl hs' rfl) ?_
    refine aP (i := 2) rfl kR kR kR kR kR (fun _ _ _ h => h) rfl rfl hS36 (fun W' hs' => aC rfl) ?_
    refine aP (i := 3) rfl kR kR kR kR kR (fun _ _ _ h => h) rfl rfl hS36 (fun W' hs' => aC rfl) ?_
    refine bH (i := 4) kR ?_
    obtain ⟨F40, hs41, hF42, hfr43⟩ := St.frame (l0 := [aV gc 157 A bs.length cb]) (l := [hR aL 51 (.slice AL L.length cL) L, hR Kn.string 9 (.slice (some ⟨g_2_0, 0, none⟩) 4 4) ([⟨#[103, 101, 116]⟩, ⟨#[115, 101, 116]⟩, ⟨#[97, 100, 100]⟩, ⟨#[103, 111]⟩] : List ByteArray), hB g_1_2 56 #[.string (nm), .slice AL L.length cL], hB g_0_0 56 #[.string (⟨#[]⟩), .slice none 0 0]]) H35
    refine aK rfl Try.call112 (vs := #[.pointer (some ⟨gc, 0, none⟩), .string (([⟨#[103, 101, 116]⟩, ⟨#[115, 101, 116]⟩, ⟨#[97, 100, 100]⟩, ⟨#[103, 111]⟩] : List ByteArray)[i])]) rfl rfl rfl (method_s (([⟨#[103, 101, 116]⟩, ⟨#[115, 101, 116]⟩, ⟨#[97, 100, 100]⟩, ⟨#[103, 111]⟩] : List ByteArray)[i]) _ _ _ _ _ _ (CV.step hV H35.1 hF42) hn hs41) ?_
    rintro e48 W47 ⟨m37, cs38, rfl, hm39, Hn44⟩; refine ⟨_, rfl, ?_⟩
    have H49 : St w F0 [hM aL m37 cs38, aV gc 157 A bs.length cb, hR aL 51 (.slice AL L.length cL) L, hR Kn.string 9 (.slice (some ⟨g_2_0, 0, none⟩) 4 4) ([⟨#[103, 101, 116]⟩, ⟨#[115, 101, 116]⟩, ⟨#[97, 100, 100]⟩, ⟨#[103, 111]⟩] : List ByteArray), hB g_1_2 56 #[.string (nm), .slice AL L.length cL], hB g_0_0 56 #[.string (⟨#[]⟩), .slice none 0 0]] W47 := hfr43 (_ :: [_]) _ Hn44; clear H35
    have hm39x : aX m37 ≤ 8 + 200 := Nat.le_trans hm39 (Nat.add_le_add_right (eZ (List.getElem_mem hlq) kD) _)
    have e50 : aX m37 = m37.Name.size + bZ cK m37.Code := rfl
    have e51 : bZ cK m37.Code = m37.Code.length + sumS cK m37.Code := rfl
    have hS52 := H49.blk 4 rfl; refine ⟨fun _ => hS52, ?_⟩
    refine bH (i := 5) kR ?_
    refine gW rfl Try.runUnderlying54 Try.sizeOf51 kD Try.zeroValue51 rfl (cO (H49.kn 0 rfl)) rfl rfl H49 ?_
    intro g_6_5 W53 hu54 Ha55; clear H49; clear hu54
    have hS57 := Ha55.blk 5 rfl; refine ⟨fun _ => hS57, ?_⟩
    refine bH (i := 6) kR ?_
    have H60 : St w F0 [hR aL 51 (.slice AL L.length cL) L, hB g_6_5 51 (List.toArray cs38), hM aL m37 cs38, aV gc 157 A bs.length cb, hR Kn.string 9 (.slice (some ⟨g_2_0, 0, none⟩) 4 4) ([⟨#[103, 101, 116]⟩, ⟨#[115, 101, 116]⟩, ⟨#[97, 100, 100]⟩, ⟨#[103, 111]⟩] : List ByteArray), hB g_1_2 56 #[.string (nm), .slice AL L.length cL], hB g_0_0 56 #[.string (⟨#[]⟩), .slice none 0 0]] W53 := Ha55.pick [3, 0, 1, 2, 4, 5, 6] kD rfl; clear Ha55
    refine gY (xs := L) (p := m37) (n' := (L ++ [m37]).length) (ys := (L ++ [m37])) rfl Try.underlying54 fV rfl kD kD rfl rfl (by show (L.length + 1) * _ ≤ _; omega) (by rw [List.length_append]; rfl) rfl rfl rfl H60 ?_
    intro B_6_6 c_6_6 W58 Ha59; clear H60
    have hS62 := Ha59.blk 3 rfl; refine ⟨fun _ => hS62, ?_⟩
    refine aP (i := 7) rfl kR kR kR kR kR (fun _ _ _ h => h) rfl rfl hS62 (fun W' hs' => aN dN rfl) ?_
    refine bH (i := 8) kR ?_
    have H66 : St w F0 [hB g_1_2 56 #[.string (nm), .slice AL L.length cL], hR aL 51 (.slice B_6_6 ((L ++ [m37]).length) c_6_6) (L ++ [m37]), aV gc 157 A bs.length cb, hR Kn.string 9 (.slice (some ⟨g_2_0, 0, none⟩) 4 4) ([⟨#[103, 101, 116]⟩, ⟨#[115, 101, 116]⟩, ⟨#[97, 100, 100]⟩, ⟨#[103, 111]⟩] : List ByteArray), hB g_0_0 56 #[.string (⟨#[]⟩), .slice none 0 0]] W58 := Ha59.pick [3, 0, 1, 2, 4] kD rfl; clear Ha59
    refine fQ rfl Try.sizeOf54 rfl rfl rfl (Nat.le_of_ble_eq_true rfl) (by simp [Value.cells, Value.oneCell']) H66 ?_
    intro W63 hu64 Ha65; clear H66; clear hu64
    refine ⟨fun h => absS kR h, ?_⟩
    refine dA kR ?_ _
    refine dR ?_
    refine aH ?_
    refine aI [0, 1] rfl ?_
    refine aA ?_
    refine aB rfl (fJ (k := i) rfl rfl kO) rfl rfl ?_
    refine aA ?_
    refine aB rfl (aC rfl) rfl rfl ?_
    refine aF ?_
    refine aH ?_
    have hz := szA aX L m37
    exact (bJ [(0, .pointer (some ⟨gc, 0, none⟩)), (4, .pointer (some ⟨g_0_0, 0, none⟩)), (5, .pointer (some ⟨g_1_2, 0, none⟩)), (10, .slice (some ⟨g_2_0, 0, none⟩) 4 4), (11, .int .i64 (4)), (12, .int .i64 (((i + 1 : Nat) : Int)))] rfl).elim fun x' hx => ⟨r19 - 1, kO, i + 1, (L ++ [m37]), B_6_6, c_6_6, x', hx, kO, kO, Ha65.pick [1, 3, 0, 4, 2] kD rfl⟩
   ·refine wp_skip ?_
    refine dR ?_
    refine aH ?_
    refine aI [0, 1] rfl ?_
    refine aA ?_
    refine aB rfl (fJ (k := i) rfl rfl kO) rfl rfl ?_
    refine aA ?_
    refine aB rfl (aC rfl) rfl rfl ?_
    refine aF ?_
    refine aH ?_
    exact (bJ [(0, .pointer (some ⟨gc, 0, none⟩)), (4, .pointer (some ⟨g_0_0, 0, none⟩)), (5, .pointer (some ⟨g_1_2, 0, none⟩)), (10, .slice (some ⟨g_2_0, 0, none⟩) 4 4), (11, .int .i64 (4)), (12, .int .i64 (((i + 1 : Nat) : Int)))] rfl).elim fun x' hx => ⟨r19 - 1, kO, i + 1, L, AL, cL, x', hx, kO, kO, H33.pick [1, 2, 3, 4, 0] kD rfl⟩
  ·refine wp_exit ?_
   refine dH ?_
   refine dH ?_
   refine inB_x ?_
   refine aH ?_
   refine wp_seq ?_
   refine aI [0, 1] rfl ?_
   refine aA ?_
   refine aB rfl (bL Try.isAgg56 Try.sizeOf56 rfl (H22.blk 2 rfl) rfl) rfl rfl ?_
   refine aA ?_
   have H71 : St w F0 [hB g_0_0 56 #[.string (⟨#[]⟩), .slice none 0 0], hR aL 51 (.slice AL L.length cL) L, hR Kn.string 9 (.slice (some ⟨g_2_0, 0, none⟩) 4 4) ([⟨#[103, 101, 116]⟩, ⟨#[115, 101, 116]⟩, ⟨#[97, 100, 100]⟩, ⟨#[103, 111]⟩] : List ByteArray), hB g_1_2 56 #[.string (nm), .slice AL L.length cL], aV gc 157 A bs.length cb] W20 := H22.pick [3, 0, 1, 2, 4] kD rfl; clear H22
   refine aU rfl Try.sizeOf56 rfl rfl rfl rfl kS H71 ?_
   intro W68 hu69 Ha70; clear H71; clear hu69
   refine aF ?_
   refine aH ?_
   refine wp_ret ?_
   refine bA (.inl rfl) Try.results68 Try.isAgg56 Try.sizeOf56 rfl (Ha70.blk 0 rfl) rfl ?_
   have H73 : St w F0 [hR aL 51 (.slice AL L.length cL) L, hB g_0_0 56 #[.string (nm), .slice AL L.length cL], hR Kn.string 9 (.slice (some ⟨g_2_0, 0, none⟩) 4 4) ([⟨#[103, 101, 116]⟩, ⟨#[115, 101, 116]⟩, ⟨#[97, 100, 100]⟩, ⟨#[103, 111]⟩] : List ByteArray), hB g_1_2 56 #[.string (nm), .slice AL L.length cL], aV gc 157 A bs.length cb] W68 := Ha70.pick [1, 0, 2, 3, 4] kD rfl; clear Ha70
   have H74 : St w F0 [hM aO (⟨nm, L⟩ : GScript) [.string (nm), .slice AL L.length cL], hB g_0_0 56 #[.string (nm), .slice AL L.length cL], hR Kn.string 9 (.slice (some ⟨g_2_0, 0, none⟩) 4 4) ([⟨#[103, 101, 116]⟩, ⟨#[115, 101, 116]⟩, ⟨#[97, 100, 100]⟩, ⟨#[103, 111]⟩] : List ByteArray), hB g_1_2 56 #[.string (nm), .slice AL L.length cL], aV gc 157 A bs.length cb] W68 := H73.swap (l0 := [hR aL 51 (.slice AL L.length cL) L]) (l' := [hM aO (⟨nm, L⟩ : GScript) [.string (nm), .slice AL L.length cL]]) (fun _ h => Star.one (cZ (x := (⟨nm, L⟩ : GScript)) h)); clear H73
   have es : aZ (⟨nm, L⟩ : GScript) = nm.size + bZ aX L := rfl
   exact ⟨(⟨nm, L⟩ : GScript), _, rfl, by omega, H74.pick [0, 4] kD rfl⟩
theorem any_s  (bs : List Int) (gc cb : Nat) (A : Option Addr) (F0 : Nat → Prop) (w : World) (hV : CV A bs F0 w) (hn : bs.length ≤ 1048576) (h : Star [aV gc 157 A bs.length cb] w F0) : Calls Try.prog 66 #[.pointer (some ⟨gc, 0, none⟩)] w (fun e' w' => ∃ m cs, e' = .returned (.agg (List.toArray cs)) ∧ aZ m ≤ 2000 ∧ St w F0 [hM aO m cs, aV gc 157 A bs.length cb] w') := by
 refine enter 50 [(0, .pointer (some ⟨gc, 0, none⟩))] Try.func66 rfl kR ?_
 intro xj
 have H1 : St w F0 [aV gc 157 A bs.length cb] w := St.enterF h
 refine wp_seq ?_
 refine aI [0] rfl ?_
 refine aA ?_
 refine dD rfl Try.zeroValue56 rfl rfl H1 ?_
 intro g_0_0 W2 hu3 Ha4; clear H1; clear hu3
 refine aF ?_
 refine aH ?_
 refine wp_seq ?_
 refine aI [0, 1, 2, 3, 4, 5, 6] rfl ?_
 refine aA ?_
 refine aB rfl (aC rfl) rfl rfl ?_
 refine aA ?_
 refine aB rfl (aC rfl) rfl rfl ?_
 refine aA ?_
 refine bT (vs := [(0, .string (⟨#[99, 101, 108, 108]⟩)), (1, .string (⟨#[112, 114, 111, 120, 121]⟩)), (2, .string (⟨#[109, 97, 107, 101, 114]⟩))]) (cells := #[.string (⟨#[99, 101, 108, 108]⟩), .string (⟨#[112, 114, 111, 120, 121]⟩), .string (⟨#[109, 97, 107, 101, 114]⟩)]) rfl Try.runUnderlying166 Try.sizeOf9 Try.zeroValue9 rfl kD kD kR rfl rfl Ha4 ?_
 intro g_1_2 W6 hu7 Ha8; clear Ha4
 have Hb9 := St.eT (xs := ([⟨#[99, 101, 108, 108]⟩, ⟨#[112, 114, 111, 120, 121]⟩, ⟨#[109, 97, 107, 101, 114]⟩] : List ByteArray)) (h1 := fun _ => rfl) Ha8 rfl kD rfl; clear hu7
 refine aA ?_
 have H12 : St w F0 [aV gc 157 A bs.length cb, hR Kn.string 9 (.slice (some ⟨g_1_2, 0, none⟩) 3 3) ([⟨#[99, 101, 108, 108]⟩, ⟨#[112, 114, 111, 120, 121]⟩, ⟨#[109, 97, 107, 101, 114]⟩] : List ByteArray), hB g_0_0 56 #[.string (⟨#[]⟩), .slice none 0 0]] W6 := Hb9.pick [2, 0, 1] kD rfl; clear Hb9
 obtain ⟨F13, hs14, hF15, hfr16⟩ := St.frame (l0 := [aV gc 157 A bs.length cb, hR Kn.string 9 (.slice (some ⟨g_1_2, 0, none⟩) 3 3) ([⟨#[99, 101, 108, 108]⟩, ⟨#[112, 114, 111, 120, 121]⟩, ⟨#[109, 97, 107, 101, 114]⟩] : List ByteArray)]) (l := [hB g_0_0 56 #[.string (⟨#[]⟩), .slice none 0 0]]) H12
 refine aK rfl Try.call110 (vs := #[.pointer (some ⟨gc, 0, none⟩), .slice (some ⟨g_1_2, 0, none⟩) 3 3]) rfl rfl rfl (gV ([⟨#[99, 101, 108, 108]⟩, ⟨#[112, 114, 111, 120, 121]⟩, ⟨#[109, 97, 107, 101, 114]⟩] : List ByteArray) _ _ kD _ _ _ _ _ _ (CV.step hV H12.1 hF15) hn hs14) ?_
 rintro e19 W18 ⟨s10, rfl, hs11, Hn17⟩; refine ⟨_, rfl, ?_⟩
 have H20 := hfr16 _ _ Hn17; clear H12
 refine aA ?_
 obtain ⟨F24, hs25, hF26, hfr27⟩ := St.frame (l0 := [aV gc 157 A bs.length cb]) (l := [hR Kn.string 9 (.slice (some ⟨g_1_2, 0, none⟩) 3 3) ([⟨#[99, 101, 108, 108]⟩, ⟨#[112, 114, 111, 120, 121]⟩, ⟨#[109, 97, 107, 101, 114]⟩] : List ByteArray), hB g_0_0 56 #[.string (⟨#[]⟩), .slice none 0 0]]) H20
 refine aK rfl Try.call68 (vs := #[.pointer (some ⟨gc, 0, none⟩), .string (s10)]) rfl rfl rfl (iA s10 _ _ _ _ _ _ (CV.step hV H20.1 hF26) hn hs25) ?_
 rintro e32 W31 ⟨m21, cs22, rfl, hm23, Hn28⟩; refine ⟨_, rfl, ?_⟩
 have H33 : St w F0 [hM aO m21 cs22, aV gc 157 A bs.length cb, hR Kn.string 9 (.slice (some ⟨g_1_2, 0, none⟩) 3 3) ([⟨#[99, 101, 108, 108]⟩, ⟨#[112, 114, 111, 120, 121]⟩, ⟨#[109, 97, 107, 101, 114]⟩] : List ByteArray), hB g_0_0 56 #[.string (⟨#[]⟩), .slice none 0 0]] W31 := hfr27 (_ :: [_]) _ Hn28; clear H20
 have hm23x : aZ m21 ≤ 8 + 900 := Nat.le_trans hm23 (Nat.add_le_add_right (eZ hs11 kD) _)
 have e34 : aZ m21 = m21.Name.size + bZ aX m21.Methods := rfl
 have e35 : bZ aX m21.Methods = m21.Methods.length + sumS aX m21.Methods := rfl
 obtain ⟨F36, hM37, hb38⟩ := H33.unM
 obtain ⟨B29, c30, rfl, hst39⟩ := dX hM37
 have H40 : St w F0 [hR aL 51 (.slice B29 m21.Methods.length c30) m21.Methods, aV gc 157 A bs.length cb, hR Kn.string 9 (.slice (some ⟨g_1_2, 0, none⟩) 3 3) ([⟨#[99, 101, 108, 108]⟩, ⟨#[112, 114, 111, 120, 121]⟩, ⟨#[109, 97, 107, 101, 114]⟩] : List ByteArray), hB g_0_0 56 #[.string (⟨#[]⟩), .slice none 0 0]] W31 := hb38 _ hst39; clear H33
 refine aA ?_
 refine dD rfl Try.zeroValue56 rfl rfl H40 ?_
 intro g_1_5 W41 hu42 Ha43; clear H40; clear hu42
 refine aA ?_
 refine aU rfl Try.sizeOf56 rfl rfl rfl rfl kS Ha43 ?_
 intro W45 hu46 Ha47; clear Ha43; clear hu46
 refine aF ?_
 refine aH ?_
 refine wp_seq ?_
 refine wp_seq ?_
 refine aI [0, 1] rfl ?_
 refine aA ?_
 refine aB rfl (aC rfl) rfl rfl ?_
 refine aA ?_
 have H51 : St w F0 [aV gc 157 A bs.length cb, hB g_1_5 56 #[.string (m21.Name), .slice B29 m21.Methods.length c30], hR aL 51 (.slice B29 m21.Methods.length c30) m21.Methods, hR Kn.string 9 (.slice (some ⟨g_1_2, 0, none⟩) 3 3) ([⟨#[99, 101, 108, 108]⟩, ⟨#[112, 114, 111, 120, 121]⟩, ⟨#[109, 97, 107, 101, 114]⟩] : List ByteArray), hB g_0_0 56 #[.string (⟨#[]⟩), .slice none 0 0]] W45 := Ha47.pick [2, 0, 1, 3, 4] kD rfl; clear Ha47
 obtain ⟨F52, hs53, hF54, hfr55⟩ := St.frame (l0 := [aV gc 157 A bs.length cb]) (l := [hB g_1_5 56 #[.string (m21.Name), .slice B29 m21.Methods.length c30], hR aL 51 (.slice B29 m21.Methods.length c30) m21.Methods, hR Kn.string 9 (.slice (some ⟨g_1_2, 0, none⟩) 3 3) ([⟨#[99, 101, 108, 108]⟩, ⟨#[112, 114, 111, 120, 121]⟩, ⟨#[109, 97, 107, 101, 114]⟩] : List ByteArray), hB g_0_0 56 #[.string (⟨#[]⟩), .slice none 0 0]]) H51
 refine aK rfl Try.call44 (vs := #[.pointer (some ⟨gc, 0, none⟩), .int .i64 (10)]) rfl rfl rfl (cB 10 _ _ _ _ _ _ (CV.step hV H51.1 hF54) hn hs53) ?_
 rintro e58 W57 ⟨q49, rfl, hq50, Hn56⟩; refine ⟨_, rfl, ?_⟩
 have H59 := hfr55 _ _ Hn56; clear H51
 refine aF ?_
 refine aH ?_
 refine wp_block ?_
 refine wp_seq ?_
 refine aI [0, 1] rfl ?_
 refine aA ?_
 refine aB rfl (bD rfl rfl) rfl rfl ?_
 refine aA ?_
 refine aB rfl (aG rfl) rfl rfl ?_
 refine aF ?_
 refine aH ?_
 refine aW rfl (fun hc60 => ?_) (fun hc60 => ?_)
 ·refine aI [0, 1, 2, 3, 4] rfl ?_
  refine aA ?_
  refine aB rfl (aC rfl) rfl rfl ?_
  refine aA ?_
  refine bT (vs := [(0, .string (⟨#[]⟩)), (1, .string (⟨#[65]⟩)), (2, .string (⟨#[97, 98, 99, 100, 101, 102, 103]⟩))]) (cells := #[.string (⟨#[]⟩), .string (⟨#[65]⟩), .string (⟨#[97, 98, 99, 100, 101, 102, 103]⟩)]) rfl Try.runUnderlying166 Try.sizeOf9 Try.zeroValue9 rfl kD kD kR rfl rfl H59 ?_
  intro g_4_1 W61 hu62 Ha63; clear H59
  have Hb64 := St.eT (xs := ([⟨#[]⟩, ⟨#[65]⟩, ⟨#[97, 98, 99, 100, 101, 102, 103]⟩] : List ByteArray)) (h1 := fun _ => rfl) Ha63 rfl kD rfl; clear hu62
  refine aA ?_
  have H67 : St w F0 [aV gc 157 A bs.length cb, hR Kn.string 9 (.slice (some ⟨g_4_1, 0, none⟩) 3 3) ([⟨#[]⟩, ⟨#[65]⟩, ⟨#[97, 98, 99, 100, 101, 102, 103]⟩] : List ByteArray), hB g_1_5 56 #[.string (m21.Name), .slice B29 m21.Methods.length c30], hR aL 51 (.slice B29 m21.Methods.length c30) m21.Methods, hR Kn.string 9 (.slice (some ⟨g_1_2, 0, none⟩) 3 3) ([⟨#[99, 101, 108, 108]⟩, ⟨#[112, 114, 111, 120, 121]⟩, ⟨#[109, 97, 107, 101, 114]⟩] : List ByteArray), hB g_0_0 56 #[.string (⟨#[]⟩), .slice none 0 0]] W61 := Hb64.pick [1, 0, 2, 3, 4, 5] kD rfl; clear Hb64
  obtain ⟨F68, hs69, hF70, hfr71⟩ := St.frame (l0 := [aV gc 157 A bs.length cb, hR Kn.string 9 (.slice (some ⟨g_4_1, 0, none⟩) 3 3) ([⟨#[]⟩, ⟨#[65]⟩, ⟨#[97, 98, 99, 100, 101, 102, 103]⟩] : List ByteArray)]) (l := [hB g_1_5 56 #[.string (m21.Name), .slice B29 m21.Methods.length c30], hR aL 51 (.slice B29 m21.Methods.length c30) m21.Methods, hR Kn.string 9 (.slice (some ⟨g_1_2, 0, none⟩) 3 3) ([⟨#[99, 101, 108, 108]⟩, ⟨#[112, 114, 111, 120, 121]⟩, ⟨#[109, 97, 107, 101, 114]⟩] : List ByteArray), hB g_0_0 56 #[.string (⟨#[]⟩), .slice none 0 0]]) H67
  refine aK rfl Try.call110 (vs := #[.pointer (some ⟨gc, 0, none⟩), .slice (some ⟨g_4_1, 0, none⟩) 3 3]) rfl rfl rfl (gV ([⟨#[]⟩, ⟨#[65]⟩, ⟨#[97, 98, 99, 100, 101, 102, 103]⟩] : List ByteArray) _ _ kD _ _ _ _ _ _ (CV.step hV H67.1 hF70) hn hs69) ?_
  rintro e74 W73 ⟨s65, rfl, hs66, Hn72⟩; refine ⟨_, rfl, ?_⟩
  have H75 := hfr71 _ _ Hn72; clear H67
  refine aA ?_
  refine aB rfl (aN gN rfl) rfl rfl ?_
  refine aA ?_
  have H79 : St w F0 [hB g_1_5 56 #[.string (m21.Name), .slice B29 m21.Methods.length c30], aV gc 157 A bs.length cb, hR Kn.string 9 (.slice (some ⟨g_4_1, 0, none⟩) 3 3) ([⟨#[]⟩, ⟨#[65]⟩, ⟨#[97, 98, 99, 100, 101, 102, 103]⟩] : List ByteArray), hR aL 51 (.slice B29 m21.Methods.length c30) m21.Methods, hR Kn.string 9 (.slice (some ⟨g_1_2, 0, none⟩) 3 3) ([⟨#[99, 101, 108, 108]⟩, ⟨#[112, 114, 111, 120, 121]⟩, ⟨#[109, 97, 107, 101, 114]⟩] : List ByteArray), hB g_0_0 56 #[.string (⟨#[]⟩), .slice none 0 0]] W73 := H75.pick [2, 0, 1, 3, 4, 5] kD rfl; clear H75
  refine fQ rfl Try.sizeOf9 rfl rfl rfl (Nat.le_of_ble_eq_true rfl) (by simp [Value.cells, Value.oneCell']) H79 ?_
  intro W76 hu77 Ha78; clear H79; clear hu77
  refine aF ?_
  have H81 : St w F0 [hB g_1_5 56 #[.string (s65), .slice B29 m21.Methods.length c30], aV gc 157 A bs.length cb, hR Kn.string 9 (.slice (some ⟨g_4_1, 0, none⟩) 3 3) ([⟨#[]⟩, ⟨#[65]⟩, ⟨#[97, 98, 99, 100, 101, 102, 103]⟩] : List ByteArray), hR aL 51 (.slice B29 m21.Methods.length c30) m21.Methods, hR Kn.string 9 (.slice (some ⟨g_1_2, 0, none⟩) 3 3) ([⟨#[99, 101, 108, 108]⟩, ⟨#[112, 114, 111, 120, 121]⟩, ⟨#[109, 97, 107, 101, 114]⟩] : List ByteArray), hB g_0_0 56 #[.string (⟨#[]⟩), .slice none 0 0]] W76 := Ha78; clear Ha78
  refine dR ?_
  refine aH ?_
  refine wp_seq ?_
  refine aI [0, 1] rfl ?_
  refine aA ?_
  refine aB rfl (bL Try.isAgg56 Try.sizeOf56 rfl (H81.blk 0 rfl) rfl) rfl rfl ?_
  refine aA ?_
  have H85 : St w F0 [hB g_0_0 56 #[.string (⟨#[]⟩), .slice none 0 0], hB g_1_5 56 #[.string (s65), .slice B29 m21.Methods.length c30], aV gc 157 A bs.length cb, hR Kn.string 9 (.slice (some ⟨g_4_1, 0, none⟩) 3 3) ([⟨#[]⟩, ⟨#[65]⟩, ⟨#[97, 98, 99, 100, 101, 102, 103]⟩] : List ByteArray), hR aL 51 (.slice B29 m21.Methods.length c30) m21.Methods, hR Kn.string 9 (.slice (some ⟨g_1_2, 0, none⟩) 3 3) ([⟨#[99, 101, 108, 108]⟩, ⟨#[112, 114, 111, 120, 121]⟩, ⟨#[109, 97, 107, 101, 114]⟩] : List ByteArray)] W76 := H81.pick [5, 0, 1, 2, 3, 4] kD rfl; clear H81
  refine aU rfl Try.sizeOf56 rfl rfl rfl rfl kS H85 ?_
  intro W82 hu83 Ha84; clear H85; clear hu83
  refine aF ?_
  refine aH ?_
  refine wp_ret ?_
  refine bA (.inl rfl) Try.results66 Try.isAgg56 Try.sizeOf56 rfl (Ha84.blk 0 rfl) rfl ?_
  have H87 : St w F0 [hR aL 51 (.slice B29 m21.Methods.length c30) m21.Methods, hB g_0_0 56 #[.string (s65), .slice B29 m21.Methods.length c30], hB g_1_5 56 #[.string (s65), .slice B29 m21.Methods.length c30], aV gc 157 A bs.length cb, hR Kn.string 9 (.slice (some ⟨g_4_1, 0, none⟩) 3 3) ([⟨#[]⟩, ⟨#[65]⟩, ⟨#[97, 98, 99, 100, 101, 102, 103]⟩] : List ByteArray), hR Kn.string 9 (.slice (some ⟨g_1_2, 0, none⟩) 3 3) ([⟨#[99, 101, 108, 108]⟩, ⟨#[112, 114, 111, 120, 121]⟩, ⟨#[109, 97, 107, 101, 114]⟩] : List ByteArray)] W82 := Ha84.pick [4, 0, 1, 2, 3, 5] kD rfl; clear Ha84
  have H88 : St w F0 [hM aO (⟨s65, m21.Methods⟩ : GScript) [.string (s65), .slice B29 m21.Methods.length c30], hB g_0_0 56 #[.string (s65), .slice B29 m21.Methods.length c30], hB g_1_5 56 #[.string (s65), .slice B29 m21.Methods.length c30], aV gc 157 A bs.length cb, hR Kn.string 9 (.slice (some ⟨g_4_1, 0, none⟩) 3 3) ([⟨#[]⟩, ⟨#[65]⟩, ⟨#[97, 98, 99, 100, 101, 102, 103]⟩] : List ByteArray), hR Kn.string 9 (.slice (some ⟨g_1_2, 0, none⟩) 3 3) ([⟨#[99, 101, 108, 108]⟩, ⟨#[112, 114, 111, 120, 121]⟩, ⟨#[109, 97, 107, 101, 114]⟩] : List ByteArray)] W82 := H87.swap (l0 := [hR aL 51 (.slice B29 m21.Methods.length c30) m21.Methods]) (l' := [hM aO (⟨s65, m21.Methods⟩ : GScript) [.string (s65), .slice B29 m21.Methods.length c30]]) (fun _ h => Star.one (cZ (x := (⟨s65, m21.Methods⟩ : GScript)) h)); clear H87
  have es : aZ (⟨s65, m21.Methods⟩ : GScript) = (s65).size + bZ aX m21.Methods := rfl
  have hns : (s65).size ≤ 8 := (eZ hs66 kD)
  exact ⟨(⟨s65, m21.Methods⟩ : GScript), _, rfl, by omega, H88.pick [0, 3] kD rfl⟩
 ·refine wp_seq ?_
  refine aI [0, 1] rfl ?_
  refine aA ?_
  refine aB rfl (bD rfl rfl) rfl rfl ?_
  refine aA ?_
  refine aB rfl (aG rfl) rfl rfl ?_
  refine aF ?_
  refine aH ?_
  refine aW rfl (fun hc89 => ?_) (fun hc89 => ?_)
  ·refine dF (fun W' => Blk W' g_1_5 56 #[.string (m21.Name), .slice B29 m21.Methods.length c30]) 7 kR ?_
   have H90 := H59.drew; clear H59
   have hS91 : Blk W57.drew g_1_5 56 #[.string (m21.Name), .slice B29 m21.Methods.length c30] := H90.blk 1 rfl
   refine aP (i := 0) rfl kR kR kR kR kR (fun _ _ _ h => h) rfl rfl hS91 (fun W' hs' => aN dN rfl) ?_
   refine aP (i := 1) rfl kR kR kR kR kR (fun _ _ _ h => h) rfl rfl hS91 (fun W' hs' => aS (k := 1) (v := .slice B29 m21.Methods.length c30) Try.isAgg54 rfl hs' rfl) ?_
   refine aP (i := 2) rfl kR kR kR kR kR (fun _ _ _ h => h) rfl rfl hS91 (fun W' hs' => aC rfl) ?_
   refine bH (i := 3) kR ?_
   obtain ⟨F95, hs96, hF97, hfr98⟩ := St.frame (l0 := [aV gc 157 A bs.length cb]) (l := [hB g_1_5 56 #[.string (m21.Name), .slice B29 m21.Methods.length c30], hR aL 51 (.slice B29 m21.Methods.length c30) m21.Methods, hR Kn.string 9 (.slice (some ⟨g_1_2, 0, none⟩) 3 3) ([⟨#[99, 101, 108, 108]⟩, ⟨#[112, 114, 111, 120, 121]⟩, ⟨#[109, 97, 107, 101, 114]⟩] : List ByteArray), hB g_0_0 56 #[.string (⟨#[]⟩), .slice none 0 0]]) H90
   refine aK rfl Try.call112 (vs := #[.pointer (some ⟨gc, 0, none⟩), .string (⟨#[103, 101, 116]⟩)]) rfl rfl rfl (method_s ⟨#[103, 101, 116]⟩ _ _ _ _ _ _ (CV.step hV H90.1 hF97) hn hs96) ?_
   rintro e103 W102 ⟨m92, cs93, rfl, hm94, Hn99⟩; refine ⟨_, rfl, ?_⟩
   have H104 : St w F0 [hM aL m92 cs93, aV gc 157 A bs.length cb, hB g_1_5 56 #[.string (m21.Name), .slice B29 m21.Methods.length c30], hR aL 51 (.slice B29 m21.Methods.length c30) m21.Methods, hR Kn.string 9 (.slice (some ⟨g_1_2, 0, none⟩) 3 3) ([⟨#[99, 101, 108, 108]⟩, ⟨#[112, 114, 111, 120, 121]⟩, ⟨#[109, 97, 107, 101, 114]⟩] : List ByteArray), hB g_0_0 56 #[.string (⟨#[]⟩), .slice none 0 0]] W102 := hfr98 (_ :: [_]) _ Hn99; clear H90
   have hm94x : aX m92 ≤ 8 + 200 := Nat.le_trans hm94 (Nat.add_le_add_right (Nat.le_of_ble_eq_true rfl) _)
   have e105 : aX m92 = m92.Name.size + bZ cK m92.Code := rfl
   have e106 : bZ cK m92.Code = m92.Code.length + sumS cK m92.Code := rfl
   have hS107 := H104.blk 2 rfl; refine ⟨fun _ => hS107, ?_⟩
   refine bH (i := 4) kR ?_
   refine gW rfl Try.runUnderlying54 Try.sizeOf51 kD Try.zeroValue51 rfl (cO (H104.kn 0 rfl)) rfl rfl H104 ?_
   intro g_6_4 W108 hu109 Ha110; clear H104; clear hu109
   have hS112 := Ha110.blk 3 rfl; refine ⟨fun _ => hS112, ?_⟩
   refine bH (i := 5) kR ?_
   have H115 : St w F0 [hR aL 51 (.slice B29 m21.Methods.length c30) m21.Methods, hB g_6_4 51 (List.toArray cs93), hM aL m92 cs93, aV gc 157 A bs.length cb, hB g_1_5 56 #[.string (m21.Name), .slice B29 m21.Methods.length c30], hR Kn.string 9 (.slice (some ⟨g_1_2, 0, none⟩) 3 3) ([⟨#[99, 101, 108, 108]⟩, ⟨#[112, 114, 111, 120, 121]⟩, ⟨#[109, 97, 107, 101, 114]⟩] : List ByteArray), hB g_0_0 56 #[.string (⟨#[]⟩), .slice none 0 0]] W108 := Ha110.pick [4, 0, 1, 2, 3, 5, 6] kD rfl; clear Ha110
   refine gY (xs := m21.Methods) (p := m92) (n' := (m21.Methods ++ [m92]).length) (ys := (m21.Methods ++ [m92])) rfl Try.underlying54 fV rfl kD kD rfl rfl (by show (m21.Methods.length + _) * _ ≤ _; first | omega | (simp only [List.length_cons, List.length_nil]; omega)) (by rw [List.length_append]; rfl) rfl rfl rfl H115 ?_
   intro B_6_5 c_6_5 W113 Ha114; clear H115
   have hS117 := Ha114.blk 2 rfl; refine ⟨fun _ => hS117, ?_⟩
   refine aP (i := 6) rfl kR kR kR kR kR (fun _ _ _ h => h) rfl rfl hS117 (fun W' hs' => aN dN rfl) ?_
   refine bH (i := 7) kR ?_
   have H121 : St w F0 [hB g_1_5 56 #[.string (m21.Name), .slice B29 m21.Methods.length c30], hR aL 51 (.slice B_6_5 ((m21.Methods ++ [m92]).length) c_6_5) (m21.Methods ++ [m92]), aV gc 157 A bs.length cb, hR Kn.string 9 (.slice (some ⟨g_1_2, 0, none⟩) 3 3) ([⟨#[99, 101, 108, 108]⟩, ⟨#[112, 114, 111, 120, 121]⟩, ⟨#[109, 97, 107, 101, 114]⟩] : List ByteArray), hB g_0_0 56 #[.string (⟨#[]⟩), .slice none 0 0]] W113 := Ha114.pick [2, 0, 1, 3, 4] kD rfl; clear Ha114
   refine fQ rfl Try.sizeOf54 rfl rfl rfl (Nat.le_of_ble_eq_true rfl) (by simp [Value.cells, Value.oneCell']) H121 ?_
   intro W118 hu119 Ha120; clear H121; clear hu119
   refine ⟨fun h => absS kR h, ?_⟩
   refine dA kR ?_ _
   have H123 : St w F0 [hB g_1_5 56 #[.string (m21.Name), .slice B_6_5 ((m21.Methods ++ [m92]).length) c_6_5], hR aL 51 (.slice B_6_5 ((m21.Methods ++ [m92]).length) c_6_5) (m21.Methods ++ [m92]), aV gc 157 A bs.length cb, hR Kn.string 9 (.slice (some ⟨g_1_2, 0, none⟩) 3 3) ([⟨#[99, 101, 108, 108]⟩, ⟨#[112, 114, 111, 120, 121]⟩, ⟨#[109, 97, 107, 101, 114]⟩] : List ByteArray), hB g_0_0 56 #[.string (⟨#[]⟩), .slice none 0 0]] W118 := Ha120; clear Ha120
   refine dR ?_
   refine aH ?_
   refine wp_seq ?_
   refine aI [0, 1] rfl ?_
   refine aA ?_
   refine aB rfl (bL Try.isAgg56 Try.sizeOf56 rfl (H123.blk 0 rfl) rfl) rfl rfl ?_
   refine aA ?_
   have H127 : St w F0 [hB g_0_0 56 #[.string (⟨#[]⟩), .slice none 0 0], hB g_1_5 56 #[.string (m21.Name), .slice B_6_5 ((m21.Methods ++ [m92]).length) c_6_5], hR aL 51 (.slice B_6_5 ((m21.Methods ++ [m92]).length) c_6_5) (m21.Methods ++ [m92]), aV gc 157 A bs.length cb, hR Kn.string 9 (.slice (some ⟨g_1_2, 0, none⟩) 3 3) ([⟨#[99, 101, 108, 108]⟩, ⟨#[112, 114, 111, 120, 121]⟩, ⟨#[109, 97, 107, 101, 114]⟩] : List ByteArray)] W118 := H123.pick [4, 0, 1, 2, 3] kD rfl; clear H123
   refine aU rfl Try.sizeOf56 rfl rfl rfl rfl kS H127 ?_
   intro W124 hu125 Ha126; clear H127; clear hu125
   refine aF ?_
   refine aH ?_
   refine wp_ret ?_
   refine bA (.inl rfl) Try.results66 Try.isAgg56 Try.sizeOf56 rfl (Ha126.blk 0 rfl) rfl ?_
   have H129 : St w F0 [hR aL 51 (.slice B_6_5 ((m21.Methods ++ [m92]).length) c_6_5) (m21.Methods ++ [m92]), hB g_0_0 56 #[.string (m21.Name), .slice B_6_5 ((m21.Methods ++ [m92]).length) c_6_5], hB g_1_5 56 #[.string (m21.Name), .slice B_6_5 ((m21.Methods ++ [m92]).length) c_6_5], aV gc 157 A bs.length cb, hR Kn.string 9 (.slice (some ⟨g_1_2, 0, none⟩) 3 3) ([⟨#[99, 101, 108, 108]⟩, ⟨#[112, 114, 111, 120, 121]⟩, ⟨#[109, 97, 107, 101, 114]⟩] : List ByteArray)] W124 := Ha126.pick [2, 0, 1, 3, 4] kD rfl; clear Ha126
   have H130 : St w F0 [hM aO (⟨m21.Name, (m21.Methods ++ [m92])⟩ : GScript) [.string (m21.Name), .slice B_6_5 ((m21.Methods ++ [m92]).length) c_6_5], hB g_0_0 56 #[.string (m21.Name), .slice B_6_5 ((m21.Methods ++ [m92]).length) c_6_5], hB g_1_5 56 #[.string (m21.Name), .slice B_6_5 ((m21.Methods ++ [m92]).length) c_6_5], aV gc 157 A bs.length cb, hR Kn.string 9 (.slice (some ⟨g_1_2, 0, none⟩) 3 3) ([⟨#[99, 101, 108, 108]⟩, ⟨#[112, 114, 111, 120, 121]⟩, ⟨#[109, 97, 107, 101, 114]⟩] : List ByteArray)] W124 := H129.swap (l0 := [hR aL 51 (.slice B_6_5 ((m21.Methods ++ [m92]).length) c_6_5) (m21.Methods ++ [m92])]) (l' := [hM aO (⟨m21.Name, (m21.Methods ++ [m92])⟩ : GScript) [.string (m21.Name), .slice B_6_5 ((m21.Methods ++ [m92]).length) c_6_5]]) (fun _ h => Star.one (cZ (x := (⟨m21.Name, (m21.Methods ++ [m92])⟩ : GScript)) h)); clear H129
   have es : aZ (⟨m21.Name, (m21.Methods ++ [m92])⟩ : GScript) = (m21.Name).size + bZ aX (m21.Methods ++ [m92]) := rfl
   have hz := szB aX m21.Methods [m92]
   have hz2 : bZ aX [m92] = 1 + (aX m92 + 0) := rfl
   exact ⟨(⟨m21.Name, (m21.Methods ++ [m92])⟩ : GScript), _, rfl, by omega, H130.pick [0, 3] kD rfl⟩
  ·refine wp_seq ?_
   refine aI [0, 1] rfl ?_
   refine aA ?_
   refine aB rfl (bD rfl rfl) rfl rfl ?_
   refine aA ?_
   refine aB rfl (aG rfl) rfl rfl ?_
   refine aF ?_
   refine aH ?_
   refine aW rfl (fun hc131 => ?_) (fun hc131 => ?_)
   ·refine dF (fun W' => Blk W' g_1_5 56 #[.string (m21.Name), .slice B29 m21.Methods.length c30]) 9 kR ?_
    have H132 := H59.drew; clear H59
    have hS133 : Blk W57.drew g_1_5 56 #[.string (m21.Name), .slice B29 m21.Methods.length c30] := H132.blk 1 rfl
    refine aP (i := 0) rfl kR kR kR kR kR (fun _ _ _ h => h) rfl rfl hS133 (fun W' hs' => aN dN rfl) ?_
    refine aP (i := 1) rfl kR kR kR kR kR (fun _ _ _ h => h) rfl rfl hS133 (fun W' hs' => aS (k := 1) (v := .slice B29 m21.Methods.length c30) Try.isAgg54 rfl hs' rfl) ?_
    refine aP (i := 2) rfl kR kR kR kR kR (fun _ _ _ h => h) rfl rfl hS133 (fun W' hs' => aC rfl) ?_
    refine aP (i := 4) rfl kR kR kR kR kR (fun _ _ _ h => h) rfl rfl hS133 (fun W' hs' => aC rfl) ?_
    refine bH (i := 3) kR ?_
    obtain ⟨F137, hs138, hF139, hfr140⟩ := St.frame (l0 := [aV gc 157 A bs.length cb]) (l := [hB g_1_5 56 #[.string (m21.Name), .slice B29 m21.Methods.length c30], hR aL 51 (.slice B29 m21.Methods.length c30) m21.Methods, hR Kn.string 9 (.slice (some ⟨g_1_2, 0, none⟩) 3 3) ([⟨#[99, 101, 108, 108]⟩, ⟨#[112, 114, 111, 120, 121]⟩, ⟨#[109, 97, 107, 101, 114]⟩] : List ByteArray), hB g_0_0 56 #[.string (⟨#[]⟩), .slice none 0 0]]) H132
    refine aK rfl Try.call112 (vs := #[.pointer (some ⟨gc, 0, none⟩), .string (⟨#[109, 97, 107, 101]⟩)]) rfl rfl rfl (method_s ⟨#[109, 97, 107, 101]⟩ _ _ _ _ _ _ (CV.step hV H132.1 hF139) hn hs138) ?_
    rintro e145 W144 ⟨m134, cs135, rfl, hm136, Hn141⟩; refine ⟨_, rfl, ?_⟩
    have H146 : St w F0 [hM aL m134 cs135, aV gc 157 A bs.length cb, hB g_1_5 56 #[.string (m21.Name), .slice B29 m21.Methods.length c30], hR aL 51 (.slice B29 m21.Methods.length c30) m21.Methods, hR Kn.string 9 (.slice (some ⟨g_1_2, 0, none⟩) 3 3) ([⟨#[99, 101, 108, 108]⟩, ⟨#[112, 114, 111, 120, 121]⟩, ⟨#[109, 97, 107, 101, 114]⟩] : List ByteArray), hB g_0_0 56 #[.string (⟨#[]⟩), .slice none 0 0]] W144 := hfr140 (_ :: [_]) _ Hn141; clear H132
    have hm136x : aX m134 ≤ 8 + 200 := Nat.le_trans hm136 (Nat.add_le_add_right (Nat.le_of_ble_eq_true rfl) _)
    have e147 : aX m134 = m134.Name.size + bZ cK m134.Code := rfl
    have e148 : bZ cK m134.Code = m134.Code.length + sumS cK m134.Code := rfl
    obtain ⟨F149, hM150, hb151⟩ := H146.unM
    obtain ⟨B142, c143, rfl, hst152⟩ := gU hM150
    have H153 : St w F0 [hR bF 118 (.slice B142 m134.Code.length c143) m134.Code, aV gc 157 A bs.length cb, hB g_1_5 56 #[.string (m21.Name), .slice B29 m21.Methods.length c30], hR aL 51 (.slice B29 m21.Methods.length c30) m21.Methods, hR Kn.string 9 (.slice (some ⟨g_1_2, 0, none⟩) 3 3) ([⟨#[99, 101, 108, 108]⟩, ⟨#[112, 114, 111, 120, 121]⟩, ⟨#[109, 97, 107, 101, 114]⟩] : List ByteArray), hB g_0_0 56 #[.string (⟨#[]⟩), .slice none 0 0]] W144 := hb151 _ hst152; clear H146
    have hS154 := H153.blk 2 rfl; refine ⟨fun _ => hS154, ?_⟩
    refine bH (i := 5) kR ?_
    have H158 : St w F0 [aV gc 157 A bs.length cb, hR bF 118 (.slice B142 m134.Code.length c143) m134.Code, hB g_1_5 56 #[.string (m21.Name), .slice B29 m21.Methods.length c30], hR aL 51 (.slice B29 m21.Methods.length c30) m21.Methods, hR Kn.string 9 (.slice (some ⟨g_1_2, 0, none⟩) 3 3) ([⟨#[99, 101, 108, 108]⟩, ⟨#[112, 114, 111, 120, 121]⟩, ⟨#[109, 97, 107, 101, 114]⟩] : List ByteArray), hB g_0_0 56 #[.string (⟨#[]⟩), .slice none 0 0]] W144 := H153.pick [1, 0, 2, 3, 4, 5] kD rfl; clear H153
    obtain ⟨F159, hs160, hF161, hfr162⟩ := St.frame (l0 := [aV gc 157 A bs.length cb]) (l := [hR bF 118 (.slice B142 m134.Code.length c143) m134.Code, hB g_1_5 56 #[.string (m21.Name), .slice B29 m21.Methods.length c30], hR aL 51 (.slice B29 m21.Methods.length c30) m21.Methods, hR Kn.string 9 (.slice (some ⟨g_1_2, 0, none⟩) 3 3) ([⟨#[99, 101, 108, 108]⟩, ⟨#[112, 114, 111, 120, 121]⟩, ⟨#[109, 97, 107, 101, 114]⟩] : List ByteArray), hB g_0_0 56 #[.string (⟨#[]⟩), .slice none 0 0]]) H158
    refine aK rfl Try.call112 (vs := #[.pointer (some ⟨gc, 0, none⟩), .string (⟨#[120]⟩)]) rfl rfl rfl (method_s ⟨#[120]⟩ _ _ _ _ _ _ (CV.step hV H158.1 hF161) hn hs160) ?_
    rintro e167 W166 ⟨m155, cs156, rfl, hm157, Hn163⟩; refine ⟨_, rfl, ?_⟩
    have H168 : St w F0 [hM aL m155 cs156, aV gc 157 A bs.length cb, hR bF 118 (.slice B142 m134.Code.length c143) m134.Code, hB g_1_5 56 #[.string (m21.Name), .slice B29 m21.Methods.length c30], hR aL 51 (.slice B29 m21.Methods.length c30) m21.Methods, hR Kn.string 9 (.slice (some ⟨g_1_2, 0, none⟩) 3 3) ([⟨#[99, 101, 108, 108]⟩, ⟨#[112, 114, 111, 120, 121]⟩, ⟨#[109, 97, 107, 101, 114]⟩] : List ByteArray), hB g_0_0 56 #[.string (⟨#[]⟩), .slice none 0 0]] W166 := hfr162 (_ :: [_]) _ Hn163; clear H158
    have hm157x : aX m155 ≤ 8 + 200 := Nat.le_trans hm157 (Nat.add_le_add_right (Nat.le_of_ble_eq_true rfl) _)
    have e169 : aX m155 = m155.Name.size + bZ cK m155.Code := rfl
    have e170 : bZ cK m155.Code = m155.Code.length + sumS cK m155.Code := rfl
    obtain ⟨F171, hM172, hb173⟩ := H168.unM
    obtain ⟨B164, c165, rfl, hst174⟩ := gU hM172
    have H175 : St w F0 [hR bF 118 (.slice B164 m155.Code.length c165) m155.Code, aV gc 157 A bs.length cb, hR bF 118 (.slice B142 m134.Code.length c143) m134.Code, hB g_1_5 56 #[.string (m21.Name), .slice B29 m21.Methods.length c30], hR aL 51 (.slice B29 m21.Methods.length c30) m21.Methods, hR Kn.string 9 (.slice (some ⟨g_1_2, 0, none⟩) 3 3) ([⟨#[99, 101, 108, 108]⟩, ⟨#[112, 114, 111, 120, 121]⟩, ⟨#[109, 97, 107, 101, 114]⟩] : List ByteArray), hB g_0_0 56 #[.string (⟨#[]⟩), .slice none 0 0]] W166 := hb173 _ hst174; clear H168
    have hS176 := H175.blk 3 rfl; refine ⟨fun _ => hS176, ?_⟩
    refine bH (i := 6) kR ?_
    refine bT (vs := [(0, .agg #[.string (m134.Name), .slice B142 m134.Code.length c143]), (1, .agg #[.string (m155.Name), .slice B164 m155.Code.length c165])]) (cells := #[.string (m134.Name), .slice B142 m134.Code.length c143, .string (m155.Name), .slice B164 m155.Code.length c165]) rfl Try.runUnderlying54 Try.sizeOf51 Try.zeroValue51 rfl kD kD kR rfl rfl H175 ?_
    intro g_8_6 W177 hu178 Ha179; clear H175
    have H180 : St w F0 [hR bF 118 (.slice B142 m134.Code.length c143) m134.Code, hB g_8_6 51 #[.string (m134.Name), .slice B142 m134.Code.length c143, .string (m155.Name), .slice B164 m155.Code.length c165], hR bF 118 (.slice B164 m155.Code.length c165) m155.Code, aV gc 157 A bs.length cb, hB g_1_5 56 #[.string (m21.Name), .slice B29 m21.Methods.length c30], hR aL 51 (.slice B29 m21.Methods.length c30) m21.Methods, hR Kn.string 9 (.slice (some ⟨g_1_2, 0, none⟩) 3 3) ([⟨#[99, 101, 108, 108]⟩, ⟨#[112, 114, 111, 120, 121]⟩, ⟨#[109, 97, 107, 101, 114]⟩] : List ByteArray), hB g_0_0 56 #[.string (⟨#[]⟩), .slice none 0 0]] W177 := Ha179.pick [3, 0, 1, 2, 4, 5, 6, 7] kD rfl; clear Ha179
    have H181 : St w F0 [hM aL m134 [.string (m134.Name), .slice B142 m134.Code.length c143], hB g_8_6 51 #[.string (m134.Name), .slice B142 m134.Code.length c143, .string (m155.Name), .slice B164 m155.Code.length c165], hR bF 118 (.slice B164 m155.Code.length c165) m155.Code, aV gc 157 A bs.length cb, hB g_1_5 56 #[.string (m21.Name), .slice B29 m21.Methods.length c30], hR aL 51 (.slice B29 m21.Methods.length c30) m21.Methods, hR Kn.string 9 (.slice (some ⟨g_1_2, 0, none⟩) 3 3) ([⟨#[99, 101, 108, 108]⟩, ⟨#[112, 114, 111, 120, 121]⟩, ⟨#[109, 97, 107, 101, 114]⟩] : List ByteArray), hB g_0_0 56 #[.string (⟨#[]⟩), .slice none 0 0]] W177 := H180.swap (l0 := [hR bF 118 (.slice B142 m134.Code.length c143) m134.Code]) (l' := [hM aL m134 [.string (m134.Name), .slice B142 m134.Code.length c143]]) (fun _ h => Star.one (dY (x := m134) h)); clear H180
    have H182 : St w F0 [hR bF 118 (.slice B164 m155.Code.length c165) m155.Code, hM aL m134 [.string (m134.Name), .slice B142 m134.Code.length c143], hB g_8_6 51 #[.string (m134.Name), .slice B142 m134.Code.length c143, .string (m155.Name), .slice B164 m155.Code.length c165], aV gc 157 A bs.length cb, hB g_1_5 56 #[.string (m21.Name), .slice B29 m21.Methods.length c30], hR aL 51 (.slice B29 m21.Methods.length c30) m21.Methods, hR Kn.string 9 (.slice (some ⟨g_1_2, 0, none⟩) 3 3) ([⟨#[99, 101, 108, 108]⟩, ⟨#[112, 114, 111, 120, 121]⟩, ⟨#[109, 97, 107, 101, 114]⟩] : List ByteArray), hB g_0_0 56 #[.string (⟨#[]⟩), .slice none 0 0]] W177 := H181.pick [2, 0, 1, 3, 4, 5, 6, 7] kD rfl; clear H181
    have H183 : St w F0 [hM aL m155 [.string (m155.Name), .slice B164 m155.Code.length c165], hM aL m134 [.string (m134.Name), .slice B142 m134.Code.length c143], hB g_8_6 51 #[.string (m134.Name), .slice B142 m134.Code.length c143, .string (m155.Name), .slice B164 m155.Code.length c165], aV gc 157 A bs.length cb, hB g_1_5 56 #[.string (m21.Name), .slice B29 m21.Methods.length c30], hR aL 51 (.slice B29 m21.Methods.length c30) m21.Methods, hR Kn.string 9 (.slice (some ⟨g_1_2, 0, none⟩) 3 3) ([⟨#[99, 101, 108, 108]⟩, ⟨#[112, 114, 111, 120, 121]⟩, ⟨#[109, 97, 107, 101, 114]⟩] : List ByteArray), hB g_0_0 56 #[.string (⟨#[]⟩), .slice none 0 0]] W177 := H182.swap (l0 := [hR bF 118 (.slice B164 m155.Code.length c165) m155.Code]) (l' := [hM aL m155 [.string (m155.Name), .slice B164 m155.Code.length c165]]) (fun _ h => Star.one (dY (x := m155) h)); clear H182
    have H184 : St w F0 [hB g_8_6 51 #[.string (m134.Name), .slice B142 m134.Code.length c143, .string (m155.Name), .slice B164 m155.Code.length c165], hM aL m134 [.string (m134.Name), .slice B142 m134.Code.length c143], hM aL m155 [.string (m155.Name), .slice B164 m155.Code.length c165], aV gc 157 A bs.length cb, hB g_1_5 56 #[.string (m21.Name), .slice B29 m21.Methods.length c30], hR aL 51 (.slice B29 m21.Methods.length c30) m21.Methods, hR Kn.string 9 (.slice (some ⟨g_1_2, 0, none⟩) 3 3) ([⟨#[99, 101, 108, 108]⟩, ⟨#[112, 114, 111, 120, 121]⟩, ⟨#[109, 97, 107, 101, 114]⟩] : List ByteArray), hB g_0_0 56 #[.string (⟨#[]⟩), .slice none 0 0]] W177 := H183.pick [2, 1, 0, 3, 4, 5, 6, 7] kD rfl; clear H183
    have Hb185 := St.lit (dk := aL) [(m134, [.string (m134.Name), .slice B142 m134.Code.length c143]), (m155, [.string (m155.Name), .slice B164 m155.Code.length c165])] H184 (by intro z hz; simp only [List.map_cons, List.map_nil, List.mem_cons, List.not_mem_nil, or_false] at hz; rcases hz with rfl | rfl <;> rfl) rfl (Nat.le_of_ble_eq_true rfl)
    have H186 : St w F0 [hR aL 51 (.slice (some ⟨g_8_6, 0, none⟩) ([m134, m155].length) 2) ([m134, m155]), aV gc 157 A bs.length cb, hB g_1_5 56 #[.string (m21.Name), .slice B29 m21.Methods.length c30], hR aL 51 (.slice B29 m21.Methods.length c30) m21.Methods, hR Kn.string 9 (.slice (some ⟨g_1_2, 0, none⟩) 3 3) ([⟨#[99, 101, 108, 108]⟩, ⟨#[112, 114, 111, 120, 121]⟩, ⟨#[109, 97, 107, 101, 114]⟩] : List ByteArray), hB g_0_0 56 #[.string (⟨#[]⟩), .slice none 0 0]] W177 := Hb185; clear Hb185; clear hu178
    have hS187 := H186.blk 2 rfl; refine ⟨fun _ => hS187, ?_⟩
    refine bH (i := 7) kR ?_
    have H190 : St w F0 [hR aL 51 (.slice B29 m21.Methods.length c30) m21.Methods, hR aL 51 (.slice (some ⟨g_8_6, 0, none⟩) ([m134, m155].length) 2) ([m134, m155]), aV gc 157 A bs.length cb, hB g_1_5 56 #[.string (m21.Name), .slice B29 m21.Methods.length c30], hR Kn.string 9 (.slice (some ⟨g_1_2, 0, none⟩) 3 3) ([⟨#[99, 101, 108, 108]⟩, ⟨#[112, 114, 111, 120, 121]⟩, ⟨#[109, 97, 107, 101, 114]⟩] : List ByteArray), hB g_0_0 56 #[.string (⟨#[]⟩), .slice none 0 0]] W177 := H186.pick [3, 0, 1, 2, 4, 5] kD rfl; clear H186
    refine op_appendR' (xs := m21.Methods) (ys := [m134, m155]) (n' := (m21.Methods ++ [m134, m155]).length) (zs := (m21.Methods ++ [m134, m155])) rfl Try.underlying54 fV rfl kD kD rfl rfl (by show (m21.Methods.length + _) * _ ≤ _; first | omega | (simp only [List.length_cons, List.length_nil]; omega)) (List.length_append ..).symm rfl rfl rfl H190 ?_
    intro B_8_7 c_8_7 W188 Ha189; clear H190
    have hS192 := Ha189.blk 2 rfl; refine ⟨fun _ => hS192, ?_⟩
    refine aP (i := 8) rfl kR kR kR kR kR (fun _ _ _ h => h) rfl rfl hS192 (fun W' hs' => aN dN rfl) ?_
    refine bH (i := 9) kR ?_
    have H196 : St w F0 [hB g_1_5 56 #[.string (m21.Name), .slice B29 m21.Methods.length c30], hR aL 51 (.slice B_8_7 ((m21.Methods ++ [m134, m155]).length) c_8_7) (m21.Methods ++ [m134, m155]), aV gc 157 A bs.length cb, hR Kn.string 9 (.slice (some ⟨g_1_2, 0, none⟩) 3 3) ([⟨#[99, 101, 108, 108]⟩, ⟨#[112, 114, 111, 120, 121]⟩, ⟨#[109, 97, 107, 101, 114]⟩] : List ByteArray), hB g_0_0 56 #[.string (⟨#[]⟩), .slice none 0 0]] W188 := Ha189.pick [2, 0, 1, 3, 4] kD rfl; clear Ha189
    refine fQ rfl Try.sizeOf54 rfl rfl rfl (Nat.le_of_ble_eq_true rfl) (by simp [Value.cells, Value.oneCell']) H196 ?_
    intro W193 hu194 Ha195; clear H196; clear hu194
    refine ⟨fun h => absS kR h, ?_⟩
    refine dA kR ?_ _
    have H198 : St w F0 [hB g_1_5 56 #[.string (m21.Name), .slice B_8_7 ((m21.Methods ++ [m134, m155]).length) c_8_7], hR aL 51 (.slice B_8_7 ((m21.Methods ++ [m134, m155]).length) c_8_7) (m21.Methods ++ [m134, m155]), aV gc 157 A bs.length cb, hR Kn.string 9 (.slice (some ⟨g_1_2, 0, none⟩) 3 3) ([⟨#[99, 101, 108, 108]⟩, ⟨#[112, 114, 111, 120, 121]⟩, ⟨#[109, 97, 107, 101, 114]⟩] : List ByteArray), hB g_0_0 56 #[.string (⟨#[]⟩), .slice none 0 0]] W193 := Ha195; clear Ha195
    refine dR ?_
    refine aH ?_
    refine wp_seq ?_
    refine aI [0, 1] rfl ?_
    refine aA ?_
    refine aB rfl (bL Try.isAgg56 Try.sizeOf56 rfl (H198.blk 0 rfl) rfl) rfl rfl ?_
    refine aA ?_
    have H202 : St w F0 [hB g_0_0 56 #[.string (⟨#[]⟩), .slice none 0 0], hB g_1_5 56 #[.string (m21.Name), .slice B_8_7 ((m21.Methods ++ [m134, m155]).length) c_8_7], hR aL 51 (.slice B_8_7 ((m21.Methods ++ [m134, m155]).length) c_8_7) (m21.Methods ++ [m134, m155]), aV gc 157 A bs.length cb, hR Kn.string 9 (.slice (some ⟨g_1_2, 0, none⟩) 3 3) ([⟨#[99, 101, 108, 108]⟩, ⟨#[112, 114, 111, 120, 121]⟩, ⟨#[109, 97, 107, 101, 114]⟩] : List ByteArray)] W193 := H198.pick [4, 0, 1, 2, 3] kD rfl; clear H198
    refine aU rfl Try.sizeOf56 rfl rfl rfl rfl kS H202 ?_
    intro W199 hu200 Ha201; clear H202; clear hu200
    refine aF ?_
    refine aH ?_
    refine wp_ret ?_
    refine bA (.inl rfl) Try.results66 Try.isAgg56 Try.sizeOf56 rfl (Ha201.blk 0 rfl) rfl ?_
    have H204 : St w F0 [hR aL 51 (.slice B_8_7 ((m21.Methods ++ [m134, m155]).length) c_8_7) (m21.Methods ++ [m134, m155]), hB g_0_0 56 #[.string (m21.Name), .slice B_8_7 ((m21.Methods ++ [m134, m155]).length) c_8_7], hB g_1_5 56 #[.string (m21.Name), .slice B_8_7 ((m21.Methods ++ [m134, m155]).length) c_8_7], aV gc 157 A bs.length cb, hR Kn.string 9 (.slice (some ⟨g_1_2, 0, none⟩) 3 3) ([⟨#[99, 101, 108, 108]⟩, ⟨#[112, 114, 111, 120, 121]⟩, ⟨#[109, 97, 107, 101, 114]⟩] : List ByteArray)] W199 := Ha201.pick [2, 0, 1, 3, 4] kD rfl; clear Ha201
    have H205 : St w F0 [hM aO (⟨m21.Name, (m21.Methods ++ [m134, m155])⟩ : GScript) [.string (m21.Name), .slice B_8_7 ((m21.Methods ++ [m134, m155]).length) c_8_7], hB g_0_0 56 #[.string (m21.Name), .slice B_8_7 ((m21.Methods ++ [m134, m155]).length) c_8_7], hB g_1_5 56 #[.string (m21.Name), .slice B_8_7 ((m21.Methods ++ [m134, m155]).length) c_8_7], aV gc 157 A bs.length cb, hR Kn.string 9 (.slice (some ⟨g_1_2, 0, none⟩) 3 3) ([⟨#[99, 101, 108, 108]⟩, ⟨#[112, 114, 111, 120, 121]⟩, ⟨#[109, 97, 107, 101, 114]⟩] : List ByteArray)] W199 := H204.swap (l0 := [hR aL 51 (.slice B_8_7 ((m21.Methods ++ [m134, m155]).length) c_8_7) (m21.Methods ++ [m134, m155])]) (l' := [hM aO (⟨m21.Name, (m21.Methods ++ [m134, m155])⟩ : GScript) [.string (m21.Name), .slice B_8_7 ((m21.Methods ++ [m134, m155]).length) c_8_7]]) (fun _ h => Star.one (cZ (x := (⟨m21.Name, (m21.Methods ++ [m134, m155])⟩ : GScript)) h)); clear H204
    have es : aZ (⟨m21.Name, (m21.Methods ++ [m134, m155])⟩ : GScript) = (m21.Name).size + bZ aX (m21.Methods ++ [m134, m155]) := rfl
    have hz := szB aX m21.Methods [m134, m155]
    have hz2 : bZ aX [m134, m155] = 2 + (aX m134 + (aX m155 + 0)) := rfl
    exact ⟨(⟨m21.Name, (m21.Methods ++ [m134, m155])⟩ : GScript), _, rfl, by omega, H205.pick [0, 3] kD rfl⟩
   ·refine wp_seq ?_
    refine aI [0, 1] rfl ?_
    refine aA ?_
    refine aB rfl (bD rfl rfl) rfl rfl ?_
    refine aA ?_
    refine aB rfl (aG rfl) rfl rfl ?_
    refine aF ?_
    refine aH ?_
    refine aW rfl (fun hc206 => ?_) (fun hc206 => ?_)
    ·refine dF (fun W' => Blk W' g_1_5 56 #[.string (m21.Name), .slice B29 m21.Methods.length c30]) 10 kR ?_
     have H207 := H59.drew; clear H59
     have hS208 : Blk W57.drew g_1_5 56 #[.string (m21.Name), .slice B29 m21.Methods.length c30] := H207.blk 1 rfl
     refine aP (i := 0) rfl kR kR kR kR kR (fun _ _ _ h => h) rfl rfl hS208 (fun W' hs' => aN dN rfl) ?_
     refine aP (i := 1) rfl kR kR kR kR kR (fun _ _ _ h => h) rfl rfl hS208 (fun W' hs' => aS (k := 1) (v := .slice B29 m21.Methods.length c30) Try.isAgg54 rfl hs' rfl) ?_
     refine aP (i := 2) rfl kR kR kR kR kR (fun _ _ _ h => h) rfl rfl hS208 (fun W' hs' => aC rfl) ?_
     refine bH (i := 3) kR ?_
     refine bT (vs := [(0, .int .i64 (0)), (1, .int .i64 (1)), (2, .int .i64 (13))]) (cells := #[.int .i64 (0), .int .i64 (1), .int .i64 (13)]) rfl Try.runUnderlying82 Try.sizeOf3 Try.zeroValue3 rfl kD kD kR rfl rfl H207 ?_
     intro g_10_3 W209 hu210 Ha211; clear H207
     have Hb212 := St.eT (xs := ([0, 1, 13] : List Int)) (h1 := fun _ => rfl) Ha211 rfl kD rfl; clear hu210
     have hS213 := Hb212.blk 2 rfl; refine ⟨fun _ => hS213, ?_⟩
     refine bH (i := 4) kR ?_
     have H216 : St w F0 [aV gc 157 A bs.length cb, hR Kn.int 3 (.slice (some ⟨g_10_3, 0, none⟩) 3 3) ([0, 1, 13] : List Int), hB g_1_5 56 #[.string (m21.Name), .slice B29 m21.Methods.length c30], hR aL 51 (.slice B29 m21.Methods.length c30) m21.Methods, hR Kn.string 9 (.slice (some ⟨g_1_2, 0, none⟩) 3 3) ([⟨#[99, 101, 108, 108]⟩, ⟨#[112, 114, 111, 120, 121]⟩, ⟨#[109, 97, 107, 101, 114]⟩] : List ByteArray), hB g_0_0 56 #[.string (⟨#[]⟩), .slice none 0 0]] W209 := Hb212.pick [1, 0, 2, 3, 4, 5] kD rfl; clear Hb212
     obtain ⟨F217, hs218, hF219, hfr220⟩ := St.frame (l0 := [aV gc 157 A bs.length cb, hR Kn.int 3 (.slice (some ⟨g_10_3, 0, none⟩) 3 3) ([0, 1, 13] : List Int)]) (l := [hB g_1_5 56 #[.string (m21.Name), .slice B29 m21.Methods.length c30], hR aL 51 (.slice B29 m21.Methods.length c30) m21.Methods, hR Kn.string 9 (.slice (some ⟨g_1_2, 0, none⟩) 3 3) ([⟨#[99, 101, 108, 108]⟩, ⟨#[112, 114, 111, 120, 121]⟩, ⟨#[109, 97, 107, 101, 114]⟩] : List ByteArray), hB g_0_0 56 #[.string (⟨#[]⟩), .slice none 0 0]]) H216
     refine aK rfl Try.call113 (vs := #[.pointer (some ⟨gc, 0, none⟩), .slice (some ⟨g_10_3, 0, none⟩) 3 3]) rfl rfl rfl (int_s ([0, 1, 13] : List Int) _ _ kD _ _ _ _ _ _ (CV.step hV H216.1 hF219) hn hs218) ?_
     rintro e223 W222 ⟨s214, rfl, hs215, Hn221⟩; refine ⟨_, rfl, ?_⟩
     have H224 := hfr220 _ _ Hn221; clear H216
     obtain ⟨mz, rfl, hmz⟩ : ∃ z : Nat, s214 = z ∧ z ≤ 13 := by simp at hs215; exact ⟨s214.toNat, by omega, by omega⟩
     have hS225 := H224.blk 2 rfl; refine ⟨fun _ => hS225, ?_⟩
     refine bH (i := 5) kR ?_
     refine op_makeL (dk := bF) (zx := bX) rfl Try.underlying49 gG rfl kD (fun _ => ki_Instr_mk _ No bX) kD rfl rfl kO rfl rfl H224 ?_
     intro g_10_5 W226 hu227 Ha228; clear H224; clear hu227
     have hS230 := Ha228.blk 3 rfl; refine ⟨fun _ => hS230, ?_⟩
     refine aP (i := 6) rfl kR kR kR kR kR (fun _ _ _ h => h) rfl rfl hS230 (fun W' hs' => bB (vs := [(0, .string (⟨#[109]⟩)), (1, .slice (some ⟨g_10_5, 0, none⟩) ((List.replicate mz bX).length) mz)]) (cells := #[.string (⟨#[109]⟩), .slice (some ⟨g_10_5, 0, none⟩) ((List.replicate mz bX).length) mz]) rfl kR) ?_
     refine bH (i := 7) kR ?_
     refine gW rfl Try.runUnderlying54 Try.sizeOf51 kD Try.zeroValue51 rfl rfl rfl rfl Ha228 ?_
     intro g_10_7 W231 hu232 Ha233; clear Ha228; clear hu232
     have hS235 := Ha233.blk 4 rfl; refine ⟨fun _ => hS235, ?_⟩
     refine bH (i := 8) kR ?_
     have H238 : St w F0 [hR bF 118 (.slice (some ⟨g_10_5, 0, none⟩) ((List.replicate mz bX).length) mz) (List.replicate mz bX), hB g_10_7 51 #[.string (⟨#[109]⟩), .slice (some ⟨g_10_5, 0, none⟩) ((List.replicate mz bX).length) mz], aV gc 157 A bs.length cb, hR Kn.int 3 (.slice (some ⟨g_10_3, 0, none⟩) 3 3) ([0, 1, 13] : List Int), hB g_1_5 56 #[.string (m21.Name), .slice B29 m21.Methods.length c30], hR aL 51 (.slice B29 m21.Methods.length c30) m21.Methods, hR Kn.string 9 (.slice (some ⟨g_1_2, 0, none⟩) 3 3) ([⟨#[99, 101, 108, 108]⟩, ⟨#[112, 114, 111, 120, 121]⟩, ⟨#[109, 97, 107, 101, 114]⟩] : List ByteArray), hB g_0_0 56 #[.string (⟨#[]⟩), .slice none 0 0]] W231 := Ha233.pick [1, 0, 2, 3, 4, 5, 6, 7] kD rfl; clear Ha233
     have H239 : St w F0 [hM aL (⟨⟨#[109]⟩, (List.replicate mz bX)⟩ : GMethod) [.string (⟨#[109]⟩), .slice (some ⟨g_10_5, 0, none⟩) ((List.replicate mz bX).length) mz], hB g_10_7 51 #[.string (⟨#[109]⟩), .slice (some ⟨g_10_5, 0, none⟩) ((List.replicate mz bX).length) mz], aV gc 157 A bs.length cb, hR Kn.int 3 (.slice (some ⟨g_10_3, 0, none⟩) 3 3) ([0, 1, 13] : List Int), hB g_1_5 56 #[.string (m21.Name), .slice B29 m21.Methods.length c30], hR aL 51 (.slice B29 m21.Methods.length c30) m21.Methods, hR Kn.string 9 (.slice (some ⟨g_1_2, 0, none⟩) 3 3) ([⟨#[99, 101, 108, 108]⟩, ⟨#[112, 114, 111, 120, 121]⟩, ⟨#[109, 97, 107, 101, 114]⟩] : List ByteArray), hB g_0_0 56 #[.string (⟨#[]⟩), .slice none 0 0]] W231 := H238.swap (l0 := [hR bF 118 (.slice (some ⟨g_10_5, 0, none⟩) ((List.replicate mz bX).length) mz) (List.replicate mz bX)]) (l' := [hM aL (⟨⟨#[109]⟩, (List.replicate mz bX)⟩ : GMethod) [.string (⟨#[109]⟩), .slice (some ⟨g_10_5, 0, none⟩) ((List.replicate mz bX).length) mz]]) (fun _ h => Star.one (dY (x := (⟨⟨#[109]⟩, (List.replicate mz bX)⟩ : GMethod)) h)); clear H238
     have H240 : St w F0 [hR aL 51 (.slice B29 m21.Methods.length c30) m21.Methods, hB g_10_7 51 #[.string (⟨#[109]⟩), .slice (some ⟨g_10_5, 0, none⟩) ((List.replicate mz bX).length) mz], hM aL (⟨⟨#[109]⟩, (List.replicate mz bX)⟩ : GMethod) [.string (⟨#[109]⟩), .slice (some ⟨g_10_5, 0, none⟩) ((List.replicate mz bX).length) mz], aV gc 157 A bs.length cb, hR Kn.int 3 (.slice (some ⟨g_10_3, 0, none⟩) 3 3) ([0, 1, 13] : List Int), hB g_1_5 56 #[.string (m21.Name), .slice B29 m21.Methods.length c30], hR Kn.string 9 (.slice (some ⟨g_1_2, 0, none⟩) 3 3) ([⟨#[99, 101, 108, 108]⟩, ⟨#[112, 114, 111, 120, 121]⟩, ⟨#[109, 97, 107, 101, 114]⟩] : List ByteArray), hB g_0_0 56 #[.string (⟨#[]⟩), .slice none 0 0]] W231 := H239.pick [5, 1, 0, 2, 3, 4, 6, 7] kD rfl; clear H239
     refine gY (xs := m21.Methods) (p := (⟨⟨#[109]⟩, (List.replicate mz bX)⟩ : GMethod)) (n' := (m21.Methods ++ [(⟨⟨#[109]⟩, (List.replicate mz bX)⟩ : GMethod)]).length) (ys := (m21.Methods ++ [(⟨⟨#[109]⟩, (List.replicate mz bX)⟩ : GMethod)])) rfl Try.underlying54 fV rfl kD kD rfl rfl (by show (m21.Methods.length + _) * _ ≤ _; first | omega | (simp only [List.length_cons, List.length_nil]; omega)) (by rw [List.length_append]; rfl) rfl rfl rfl H240 ?_
     intro B_10_8 c_10_8 W236 Ha237; clear H240
     have hS242 := Ha237.blk 3 rfl; refine ⟨fun _ => hS242, ?_⟩
     refine aP (i := 9) rfl kR kR kR kR kR (fun _ _ _ h => h) rfl rfl hS242 (fun W' hs' => aN dN rfl) ?_
     refine bH (i := 10) kR ?_
     have H246 : St w F0 [hB g_1_5 56 #[.string (m21.Name), .slice B29 m21.Methods.length c30], hR aL 51 (.slice B_10_8 ((m21.Methods ++ [(⟨⟨#[109]⟩, (List.replicate mz bX)⟩ : GMethod)]).length) c_10_8) (m21.Methods ++ [(⟨⟨#[109]⟩, (List.replicate mz bX)⟩ : GMethod)]), aV gc 157 A bs.length cb, hR Kn.int 3 (.slice (some ⟨g_10_3, 0, none⟩) 3 3) ([0, 1, 13] : List Int), hR Kn.string 9 (.slice (some ⟨g_1_2, 0, none⟩) 3 3) ([⟨#[99, 101, 108, 108]⟩, ⟨#[112, 114, 111, 120, 121]⟩, ⟨#[109, 97, 107, 101, 114]⟩] : List ByteArray), hB g_0_0 56 #[.string (⟨#[]⟩), .slice none 0 0]] W236 := Ha237.pick [3, 0, 1, 2, 4, 5] kD rfl; clear Ha237
     refine fQ rfl Try.sizeOf54 rfl rfl rfl (Nat.le_of_ble_eq_true rfl) (by simp [Value.cells, Value.oneCell']) H246 ?_
     intro W243 hu244 Ha245; clear H246; clear hu244
     refine ⟨fun h => absS kR h, ?_⟩
     refine dA kR ?_ _
     have H248 : St w F0 [hB g_1_5 56 #[.string (m21.Name), .slice B_10_8 ((m21.Methods ++ [(⟨⟨#[109]⟩, (List.replicate mz bX)⟩ : GMethod)]).length) c_10_8], hR aL 51 (.slice B_10_8 ((m21.Methods ++ [(⟨⟨#[109]⟩, (List.replicate mz bX)⟩ : GMethod)]).length) c_10_8) (m21.Methods ++ [(⟨⟨#[109]⟩, (List.replicate mz bX)⟩ : GMethod)]), aV gc 157 A bs.length cb, hR Kn.int 3 (.slice (some ⟨g_10_3, 0, none⟩) 3 3) ([0, 1, 13] : List Int), hR Kn.string 9 (.slice (some ⟨g_1_2, 0, none⟩) 3 3) ([⟨#[99, 101, 108, 108]⟩, ⟨#[112, 114, 111, 120, 121]⟩, ⟨#[109, 97, 107, 101, 114]⟩] : List ByteArray), hB g_0_0 56 #[.string (⟨#[]⟩), .slice none 0 0]] W243 := Ha245; clear Ha245
     refine dR ?_
     refine aH ?_
     refine wp_seq ?_
     refine aI [0, 1] rfl ?_
     refine aA ?_
     refine aB rfl (bL Try.isAgg56 Try.sizeOf56 rfl (H248.blk 0 rfl) rfl) rfl rfl ?_
     refine aA ?_
     have H252 : St w F0 [hB g_0_0 56 #[.string (⟨#[]⟩), .slice none 0 0], hB g_1_5 56 #[.string (m21.Name), .slice B_10_8 ((m21.Methods ++ [(⟨⟨#[109]⟩, (List.replicate mz bX)⟩ : GMethod)]).length) c_10_8], hR aL 51 (.slice B_10_8 ((m21.Methods ++ [(⟨⟨#[109]⟩, (List.replicate mz bX)⟩ : GMethod)]).length) c_10_8) (m21.Methods ++ [(⟨⟨#[109]⟩, (List.replicate mz bX)⟩ : GMethod)]), aV gc 157 A bs.length cb, hR Kn.int 3 (.slice (some ⟨g_10_3, 0, none⟩) 3 3) ([0, 1, 13] : List Int), hR Kn.string 9 (.slice (some ⟨g_1_2, 0, none⟩) 3 3) ([⟨#[99, 101, 108, 108]⟩, ⟨#[112, 114, 111, 120, 121]⟩, ⟨#[109, 97, 107, 101, 114]⟩] : List ByteArray)] W243 := H248.pick [5, 0, 1, 2, 3, 4] kD rfl; clear H248
     refine aU rfl Try.sizeOf56 rfl rfl rfl rfl kS H252 ?_
     intro W249 hu250 Ha251; clear H252; clear hu250
     refine aF ?_
     refine aH ?_
     refine wp_ret ?_
     refine bA (.inl rfl) Try.results66 Try.isAgg56 Try.sizeOf56 rfl (Ha251.blk 0 rfl) rfl ?_
     have H254 : St w F0 [hR aL 51 (.slice B_10_8 ((m21.Methods ++ [(⟨⟨#[109]⟩, (List.replicate mz bX)⟩ : GMethod)]).length) c_10_8) (m21.Methods ++ [(⟨⟨#[109]⟩, (List.replicate mz bX)⟩ : GMethod)]), hB g_0_0 56 #[.string (m21.Name), .slice B_10_8 ((m21.Methods ++ [(⟨⟨#[109]⟩, (List.replicate mz bX)⟩ : GMethod)]).length) c_10_8], hB g_1_5 56 #[.string (m21.Name), .slice B_10_8 ((m21.Methods ++ [(⟨⟨#[109]⟩, (List.replicate mz bX)⟩ : GMethod)]).length) c_10_8], aV gc 157 A bs.length cb, hR Kn.int 3 (.slice (some ⟨g_10_3, 0, none⟩) 3 3) ([0, 1, 13] : List Int), hR Kn.string 9 (.slice (some ⟨g_1_2, 0, none⟩) 3 3) ([⟨#[99, 101, 108, 108]⟩, ⟨#[112, 114, 111, 120, 121]⟩, ⟨#[109, 97, 107, 101, 114]⟩] : List ByteArray)] W249 := Ha251.pick [2, 0, 1, 3, 4, 5] kD rfl; clear Ha251
     have H255 : St w F0 [hM aO (⟨m21.Name, (m21.Methods ++ [(⟨⟨#[109]⟩, (List.replicate mz bX)⟩ : GMethod)])⟩ : GScript) [.string (m21.Name), .slice B_10_8 ((m21.Methods ++ [(⟨⟨#[109]⟩, (List.replicate mz bX)⟩ : GMethod)]).length) c_10_8], hB g_0_0 56 #[.string (m21.Name), .slice B_10_8 ((m21.Methods ++ [(⟨⟨#[109]⟩, (List.replicate mz bX)⟩ : GMethod)]).length) c_10_8], hB g_1_5 56 #[.string (m21.Name), .slice B_10_8 ((m21.Methods ++ [(⟨⟨#[109]⟩, (List.replicate mz bX)⟩ : GMethod)]).length) c_10_8], aV gc 157 A bs.length cb, hR Kn.int 3 (.slice (some ⟨g_10_3, 0, none⟩) 3 3) ([0, 1, 13] : List Int), hR Kn.string 9 (.slice (some ⟨g_1_2, 0, none⟩) 3 3) ([⟨#[99, 101, 108, 108]⟩, ⟨#[112, 114, 111, 120, 121]⟩, ⟨#[109, 97, 107, 101, 114]⟩] : List ByteArray)] W249 := H254.swap (l0 := [hR aL 51 (.slice B_10_8 ((m21.Methods ++ [(⟨⟨#[109]⟩, (List.replicate mz bX)⟩ : GMethod)]).length) c_10_8) (m21.Methods ++ [(⟨⟨#[109]⟩, (List.replicate mz bX)⟩ : GMethod)])]) (l' := [hM aO (⟨m21.Name, (m21.Methods ++ [(⟨⟨#[109]⟩, (List.replicate mz bX)⟩ : GMethod)])⟩ : GScript) [.string (m21.Name), .slice B_10_8 ((m21.Methods ++ [(⟨⟨#[109]⟩, (List.replicate mz bX)⟩ : GMethod)]).length) c_10_8]]) (fun _ h => Star.one (cZ (x := (⟨m21.Name, (m21.Methods ++ [(⟨⟨#[109]⟩, (List.replicate mz bX)⟩ : GMethod)])⟩ : GScript)) h)); clear H254
     have es : aZ (⟨m21.Name, (m21.Methods ++ [(⟨⟨#[109]⟩, (List.replicate mz bX)⟩ : GMethod)])⟩ : GScript) = (m21.Name).size + bZ aX (m21.Methods ++ [(⟨⟨#[109]⟩, (List.replicate mz bX)⟩ : GMethod)]) := rfl
     have hz := szB aX m21.Methods [(⟨⟨#[109]⟩, (List.replicate mz bX)⟩ : GMethod)]
     have hz2 : bZ aX [(⟨⟨#[109]⟩, (List.replicate mz bX)⟩ : GMethod)] = 1 + (aX (⟨⟨#[109]⟩, (List.replicate mz bX)⟩ : GMethod) + 0) := rfl
     have hz3 : aX (⟨⟨#[109]⟩, (List.replicate mz bX)⟩ : GMethod) = 1 + bZ cK (List.replicate mz bX) := rfl
     have hz4 := rep_sz mz
     exact ⟨(⟨m21.Name, (m21.Methods ++ [(⟨⟨#[109]⟩, (List.replicate mz bX)⟩ : GMethod)])⟩ : GScript), _, rfl, by omega, H255.pick [0, 3] kD rfl⟩
    ·refine wp_skip ?_
     refine dR ?_
     refine aH ?_
     refine wp_seq ?_
     refine aI [0, 1] rfl ?_
     refine aA ?_
     refine aB rfl (bL Try.isAgg56 Try.sizeOf56 rfl (H59.blk 1 rfl) rfl) rfl rfl ?_
     refine aA ?_
     have H259 : St w F0 [hB g_0_0 56 #[.string (⟨#[]⟩), .slice none 0 0], aV gc 157 A bs.length cb, hB g_1_5 56 #[.string (m21.Name), .slice B29 m21.Methods.length c30], hR aL 51 (.slice B29 m21.Methods.length c30) m21.Methods, hR Kn.string 9 (.slice (some ⟨g_1_2, 0, none⟩) 3 3) ([⟨#[99, 101, 108, 108]⟩, ⟨#[112, 114, 111, 120, 121]⟩, ⟨#[109, 97, 107, 101, 114]⟩] : List ByteArray)] W57 := H59.pick [4, 0, 1, 2, 3] kD rfl; clear H59
     refine aU rfl Try.sizeOf56 rfl rfl rfl rfl kS H259 ?_
     intro W256 hu257 Ha258; clear H259; clear hu257
     refine aF ?_
     refine aH ?_
     refine wp_ret ?_
     refine bA (.inl rfl) Try.results66 Try.isAgg56 Try.sizeOf56 rfl (Ha258.blk 0 rfl) rfl ?_
     have H261 : St w F0 [hR aL 51 (.slice B29 m21.Methods.length c30) m21.Methods, hB g_0_0 56 #[.string (m21.Name), .slice B29 m21.Methods.length c30], aV gc 157 A bs.length cb, hB g_1_5 56 #[.string (m21.Name), .slice B29 m21.Methods.length c30], hR Kn.string 9 (.slice (some ⟨g_1_2, 0, none⟩) 3 3) ([⟨#[99, 101, 108, 108]⟩, ⟨#[112, 114, 111, 120, 121]⟩, ⟨#[109, 97, 107, 101, 114]⟩] : List ByteArray)] W256 := Ha258.pick [3, 0, 1, 2, 4] kD rfl; clear Ha258
     have H262 : St w F0 [hM aO m21 [.string (m21.Name), .slice B29 m21.Methods.length c30], hB g_0_0 56 #[.string (m21.Name), .slice B29 m21.Methods.length c30], aV gc 157 A bs.length cb, hB g_1_5 56 #[.string (m21.Name), .slice B29 m21.Methods.length c30], hR Kn.string 9 (.slice (some ⟨g_1_2, 0, none⟩) 3 3) ([⟨#[99, 101, 108, 108]⟩, ⟨#[112, 114, 111, 120, 121]⟩, ⟨#[109, 97, 107, 101, 114]⟩] : List ByteArray)] W256 := H261.swap (l0 := [hR aL 51 (.slice B29 m21.Methods.length c30) m21.Methods]) (l' := [hM aO m21 [.string (m21.Name), .slice B29 m21.Methods.length c30]]) (fun _ h => Star.one (cZ (x := m21) h)); clear H261
     exact ⟨m21, _, rfl, by omega, H262.pick [0, 2] kD rfl⟩
theorem library_s  (bs : List Int) (gc cb : Nat) (A : Option Addr) (F0 : Nat → Prop) (w : World) (hV : CV A bs F0 w) (hn : bs.length ≤ 1048576) (h : Star [aV gc 157 A bs.length cb] w F0) : Calls Try.prog 62 #[.pointer (some ⟨gc, 0, none⟩)] w (fun e' w' => ∃ B X c, e' = .returned (.slice B X.length c) ∧ bZ aZ X ≤ 3000 ∧ St w F0 [hR aO 56 (.slice B X.length c) X, aV gc 157 A bs.length cb] w') := by
 refine enter 10 [(0, .pointer (some ⟨gc, 0, none⟩))] Try.func62 rfl kR ?_
 intro xj
 have H1 : St w F0 [aV gc 157 A bs.length cb] w := St.enterF h
 refine wp_seq ?_
 refine aI [0] rfl ?_
 refine aA ?_
 refine aB rfl (aG rfl) rfl rfl ?_
 refine aF ?_
 refine aH ?_
 refine wp_seq ?_
 refine aI [0, 1, 2, 3, 4, 5, 6, 7] rfl ?_
 refine aA ?_
 refine aB rfl (aC rfl) rfl rfl ?_
 refine aA ?_
 obtain ⟨F5, hs6, hF7, hfr8⟩ := St.frame (l0 := [aV gc 157 A bs.length cb]) (l := []) H1
 refine aK rfl Try.call68 (vs := #[.pointer (some ⟨gc, 0, none⟩), .string (⟨#[99, 101, 108, 108]⟩)]) rfl rfl rfl (iA ⟨#[99, 101, 108, 108]⟩ _ _ _ _ _ _ (CV.step hV H1.1 hF7) hn hs6) ?_
 rintro e13 W12 ⟨m2, cs3, rfl, hm4, Hn9⟩; refine ⟨_, rfl, ?_⟩
 have H14 : St w F0 [hM aO m2 cs3, aV gc 157 A bs.length cb] W12 := hfr8 (_ :: [_]) _ Hn9; clear H1
 have hm4x : aZ m2 ≤ 8 + 900 := Nat.le_trans hm4 (Nat.add_le_add_right (Nat.le_of_ble_eq_true rfl) _)
 have e15 : aZ m2 = m2.Name.size + bZ aX m2.Methods := rfl
 have e16 : bZ aX m2.Methods = m2.Methods.length + sumS aX m2.Methods := rfl
 obtain ⟨F17, hM18, hb19⟩ := H14.unM
 obtain ⟨B10, c11, rfl, hst20⟩ := dX hM18
 have H21 : St w F0 [hR aL 51 (.slice B10 m2.Methods.length c11) m2.Methods, aV gc 157 A bs.length cb] W12 := hb19 _ hst20; clear H14
 refine aA ?_
 refine aB rfl (aC rfl) rfl rfl ?_
 refine aA ?_
 have H25 : St w F0 [aV gc 157 A bs.length cb, hR aL 51 (.slice B10 m2.Methods.length c11) m2.Methods] W12 := H21.pick [1, 0] kD rfl; clear H21
 obtain ⟨F26, hs27, hF28, hfr29⟩ := St.frame (l0 := [aV gc 157 A bs.length cb]) (l := [hR aL 51 (.slice B10 m2.Methods.length c11) m2.Methods]) H25
 refine aK rfl Try.call68 (vs := #[.pointer (some ⟨gc, 0, none⟩), .string (⟨#[112, 114, 111, 120, 121]⟩)]) rfl rfl rfl (iA ⟨#[112, 114, 111, 120, 121]⟩ _ _ _ _ _ _ (CV.step hV H25.1 hF28) hn hs27) ?_
 rintro e34 W33 ⟨m22, cs23, rfl, hm24, Hn30⟩; refine ⟨_, rfl, ?_⟩
 have H35 : St w F0 [hM aO m22 cs23, aV gc 157 A bs.length cb, hR aL 51 (.slice B10 m2.Methods.length c11) m2.Methods] W33 := hfr29 (_ :: [_]) _ Hn30; clear H25
 have hm24x : aZ m22 ≤ 8 + 900 := Nat.le_trans hm24 (Nat.add_le_add_right (Nat.le_of_ble_eq_true rfl) _)
 have e36 : aZ m22 = m22.Name.size + bZ aX m22.Methods := rfl
 have e37 : bZ aX m22.Methods = m22.Methods.length + sumS aX m22.Methods := rfl
 obtain ⟨F38, hM39, hb40⟩ := H35.unM
 obtain ⟨B31, c32, rfl, hst41⟩ := dX hM39
 have H42 : St w F0 [hR aL 51 (.slice B31 m22.Methods.length c32) m22.Methods, aV gc 157 A bs.length cb, hR aL 51 (.slice B10 m2.Methods.length c11) m2.Methods] W33 := hb40 _ hst41; clear H35
 refine aA ?_
 refine aB rfl (aC rfl) rfl rfl ?_
 refine aA ?_
 have H46 : St w F0 [aV gc 157 A bs.length cb, hR aL 51 (.slice B31 m22.Methods.length c32) m22.Methods, hR aL 51 (.slice B10 m2.Methods.length c11) m2.Methods] W33 := H42.pick [1, 0, 2] kD rfl; clear H42
 obtain ⟨F47, hs48, hF49, hfr50⟩ := St.frame (l0 := [aV gc 157 A bs.length cb]) (l := [hR aL 51 (.slice B31 m22.Methods.length c32) m22.Methods, hR aL 51 (.slice B10 m2.Methods.length c11) m2.Methods]) H46
 refine aK rfl Try.call68 (vs := #[.pointer (some ⟨gc, 0, none⟩), .string (⟨#[109, 97, 107, 101, 114]⟩)]) rfl rfl rfl (iA ⟨#[109, 97, 107, 101, 114]⟩ _ _ _ _ _ _ (CV.step hV H46.1 hF49) hn hs48) ?_
 rintro e55 W54 ⟨m43, cs44, rfl, hm45, Hn51⟩; refine ⟨_, rfl, ?_⟩
 have H56 : St w F0 [hM aO m43 cs44, aV gc 157 A bs.length cb, hR aL 51 (.slice B31 m22.Methods.length c32) m22.Methods, hR aL 51 (.slice B10 m2.Methods.length c11) m2.Methods] W54 := hfr50 (_ :: [_]) _ Hn51; clear H46
 have hm45x : aZ m43 ≤ 8 + 900 := Nat.le_trans hm45 (Nat.add_le_add_right (Nat.le_of_ble_eq_true rfl) _)
 have e57 : aZ m43 = m43.Name.size + bZ aX m43.Methods := rfl
 have e58 : bZ aX m43.Methods = m43.Methods.length + sumS aX m43.Methods := rfl
 obtain ⟨F59, hM60, hb61⟩ := H56.unM
 obtain ⟨B52, c53, rfl, hst62⟩ := dX hM60
 have H63 : St w F0 [hR aL 51 (.slice B52 m43.Methods.length c53) m43.Methods, aV gc 157 A bs.length cb, hR aL 51 (.slice B31 m22.Methods.length c32) m22.Methods, hR aL 51 (.slice B10 m2.Methods.length c11) m2.Methods] W54 := hb61 _ hst62; clear H56
 refine aA ?_
 refine bT (vs := [(0, .agg #[.string (m2.Name), .slice B10 m2.Methods.length c11]), (1, .agg #[.string (m22.Name), .slice B31 m22.Methods.length c32]), (2, .agg #[.string (m43.Name), .slice B52 m43.Methods.length c53])]) (cells := #[.string (m2.Name), .slice B10 m2.Methods.length c11, .string (m22.Name), .slice B31 m22.Methods.length c32, .string (m43.Name), .slice B52 m43.Methods.length c53]) rfl Try.runUnderlying46 Try.sizeOf56 Try.zeroValue56 rfl kD kD kR rfl rfl H63 ?_
 intro g_1_6 W64 hu65 Ha66; clear H63
 have H67 : St w F0 [hR aL 51 (.slice B10 m2.Methods.length c11) m2.Methods, hB g_1_6 56 #[.string (m2.Name), .slice B10 m2.Methods.length c11, .string (m22.Name), .slice B31 m22.Methods.length c32, .string (m43.Name), .slice B52 m43.Methods.length c53], hR aL 51 (.slice B52 m43.Methods.length c53) m43.Methods, aV gc 157 A bs.length cb, hR aL 51 (.slice B31 m22.Methods.length c32) m22.Methods] W64 := Ha66.pick [4, 0, 1, 2, 3] kD rfl; clear Ha66
 have H68 : St w F0 [hM aO m2 [.string (m2.Name), .slice B10 m2.Methods.length c11], hB g_1_6 56 #[.string (m2.Name), .slice B10 m2.Methods.length c11, .string (m22.Name), .slice B31 m22.Methods.length c32, .string (m43.Name), .slice B52 m43.Methods.length c53], hR aL 51 (.slice B52 m43.Methods.length c53) m43.Methods, aV gc 157 A bs.length cb, hR aL 51 (.slice B31 m22.Methods.length c32) m22.Methods] W64 := H67.swap (l0 := [hR aL 51 (.slice B10 m2.Methods.length c11) m2.Methods]) (l' := [hM aO m2 [.string (m2.Name), .slice B10 m2.Methods.length c11]]) (fun _ h => Star.one (cZ (x := m2) h)); clear H67
 have H69 : St w F0 [hR aL 51 (.slice B31 m22.Methods.length c32) m22.Methods, hM aO m2 [.string (m2.Name), .slice B10 m2.Methods.length c11], hB g_1_6 56 #[.string (m2.Name), .slice B10 m2.Methods.length c11, .string (m22.Name), .slice B31 m22.Methods.length c32, .string (m43.Name), .slice B52 m43.Methods.length c53], hR aL 51 (.slice B52 m43.Methods.length c53) m43.Methods, aV gc 157 A bs.length cb] W64 := H68.pick [4, 0, 1, 2, 3] kD rfl; clear H68
 have H70 : St w F0 [hM aO m22 [.string (m22.Name), .slice B31 m22.Methods.length c32], hM aO m2 [.string (m2.Name), .slice B10 m2.Methods.length c11], hB g_1_6 56 #[.string (m2.Name), .slice B10 m2.Methods.length c11, .string (m22.Name), .slice B31 m22.Methods.length c32, .string (m43.Name), .slice B52 m43.Methods.length c53], hR aL 51 (.slice B52 m43.Methods.length c53) m43.Methods, aV gc 157 A bs.length cb] W64 := H69.swap (l0 := [hR aL 51 (.slice B31 m22.Methods.length c32) m22.Methods]) (l' := [hM aO m22 [.string (m22.Name), .slice B31 m22.Methods.length c32]]) (fun _ h => Star.one (cZ (x := m22) h)); clear H69
 have H71 : St w F0 [hR aL 51 (.slice B52 m43.Methods.length c53) m43.Methods, hM aO m22 [.string (m22.Name), .slice B31 m22.Methods.length c32], hM aO m2 [.string (m2.Name), .slice B10 m2.Methods.length c11], hB g_1_6 56 #[.string (m2.Name), .slice B10 m2.Methods.length c11, .string (m22.Name), .slice B31 m22.Methods.length c32, .string (m43.Name), .slice B52 m43.Methods.length c53], aV gc 157 A bs.length cb] W64 := H70.pick [3, 0, 1, 2, 4] kD rfl; clear H70
 have H72 : St w F0 [hM aO m43 [.string (m43.Name), .slice B52 m43.Methods.length c53], hM aO m22 [.string (m22.Name), .slice B31 m22.Methods.length c32], hM aO m2 [.string (m2.Name), .slice B10 m2.Methods.length c11], hB g_1_6 56 #[.string (m2.Name), .slice B10 m2.Methods.length c11, .string (m22.Name), .slice B31 m22.Methods.length c32, .string (m43.Name), .slice B52 m43.Methods.length c53], aV gc 157 A bs.length cb] W64 := H71.swap (l0 := [hR aL 51 (.slice B52 m43.Methods.length c53) m43.Methods]) (l' := [hM aO m43 [.string (m43.Name), .slice B52 m43.Methods.length c53]]) (fun _ h => Star.one (cZ (x := m43) h)); clear H71
 have H73 : St w F0 [hB g_1_6 56 #[.string (m2.Name), .slice B10 m2.Methods.length c11, .string (m22.Name), .slice B31 m22.Methods.length c32, .string (m43.Name), .slice B52 m43.Methods.length c53], hM aO m2 [.string (m2.Name), .slice B10 m2.Methods.length c11], hM aO m22 [.string (m22.Name), .slice B31 m22.Methods.length c32], hM aO m43 [.string (m43.Name), .slice B52 m43.Methods.length c53], aV gc 157 A bs.length cb] W64 := H72.pick [3, 2, 1, 0, 4] kD rfl; clear H72
 have Hb74 := St.lit (dk := aO) [(m2, [.string (m2.Name), .slice B10 m2.Methods.length c11]), (m22, [.string (m22.Name), .slice B31 m22.Methods.length c32]), (m43, [.string (m43.Name), .slice B52 m43.Methods.length c53])] H73 (by intro z hz; simp only [List.map_cons, List.map_nil, List.mem_cons, List.not_mem_nil, or_false] at hz; rcases hz with rfl | rfl | rfl <;> rfl) rfl (Nat.le_of_ble_eq_true rfl)
 have H75 : St w F0 [hR aO 56 (.slice (some ⟨g_1_6, 0, none⟩) ([m2, m22, m43].length) 3) ([m2, m22, m43]), aV gc 157 A bs.length cb] W64 := Hb74; clear Hb74; clear hu65
 refine aA ?_
 refine aB rfl (aG rfl) rfl rfl ?_
 refine aF ?_
 refine aH ?_
 refine wp_ret ?_
 refine aM (.inl rfl) Try.results62 rfl ?_
 have hz2 : bZ aZ [m2, m22, m43] = 3 + (aZ m2 + (aZ m22 + (aZ m43 + 0))) := rfl
 exact ⟨_, [m2, m22, m43], _, rfl, by omega, H75.pick [0, 1] kD rfl⟩
end Go.Proofs.YtdfipdpeilegpaaFam
namespace Go.Proofs.YtdfipdpeilegpaaFam
open Go.RowKit Go.Proofs.YtdfipdpeilegpaaSep Go.Proofs.YtdfipdpeilegpaaT Go.Proofs.YtdfipdpeilegpaaK
set_option linter.unusedVariables false
set_option linter.unusedSimpArgs false
set_option maxHeartbeats 1000000
set_option maxRecDepth 100000
theorem flat_Instr : Flat bF := by
 unfold bF
 repeat' first | apply flat_iso | apply flat_pair | apply flat_scalar
theorem clone_Instr (l : List GInstr) (A : Option Addr) (c : Nat) (w : World) (h : C bF w A l) (hn : l.length ≤ 4194304) : Calls Try.prog 111 #[.slice A l.length c] w (RetRow bF 118 l w) := by
 have HC := Sd.mk (CM_of_flat flat_Instr h)
 have eqn := fun (w : World) a n c n' c' => Lib.run_eql_slice_nil (P := Try.prog) w 49 118 a n c n' c' Try.underlying49
 clear h
 go_enter Try.func111, Try.ntmps111
 rcases A with _ | ad
 ·have h0 : l = [] := by
   cases l with
   | nil => rfl
   | cons x l => obtain ⟨ad, q, _⟩ := HC.out.2 (by simp); cases q
  subst h0
  go_wp2
  go_ret
  exact ⟨_, rfl, R_nil, Upd.refl _ _⟩
 ·go_wp2_with (first | (at_builtin; refine R_appAny (d := bF) (e := 118) (ys := l) (xs := []) (F := New w) rfl _ _ 49 _ _ rfl Try.underlying49 gG rfl kD kD (some ad) c (fun _ => No) rfl rfl (R_empty w) (CM_upd (Upd.alloc (Upd.refl _ _) _) HC.out) (fun _ _ q => q.elim) (fun _ _ _ q => q.elim) (by simp; omega) ?_) | fail)
  intro v1 w1 hR hU
  have hR' := Sd.mk hR
  have HU := Sd.mk (((Upd.refl No w).alloc (.cells #[] 118)).trans hU (fun _ _ q => q) (fun b hb q => absurd hb (by simp only [New] at q; omega)))
  clear hR hU
  go_wp2
  go_ret
  exact ⟨_, rfl, R_mono (fun b q => by rcases q with q | ⟨j, _, q⟩ | q <;> simp [New, No] at q ⊢ <;> omega) hR'.out, HU.out⟩
end Go.Proofs.YtdfipdpeilegpaaFam
namespace Go.Proofs.YtdfipdpeilegpaaFam
open Go.ChangeShapes Go.WideShapes Go.RowKit Go.Proofs.YtdfipdpeilegpaaSep Go.Proofs.YtdfipdpeilegpaaT Go.Proofs.YtdfipdpeilegpaaK
set_option linter.unusedVariables false
set_option linter.unusedSimpArgs false
attribute [local irreducible] wpOps wpOp
set_option maxHeartbeats 4000000
set_option maxRecDepth 100000
def RetAB {α : Type} (d : Kn α) (x : α) (b : Bool) (w : World) (e : Ending) (w' : World) : Prop := ∃ cs, e = .returned (.tuple #[.agg cs.toArray, .bool b]) ∧ d.M w' (New w) x cs ∧ Upd No w w'
def metO (l : List GScript) (s : Int) (nm : ByteArray) : Option GMethod := if 0 ≤ s then (l[s.toNat]?).bind (fun c => c.Methods.find? (fun m => m.Name.toList == nm.toList)) else none
def dO (l : List GScript) (s : Int) (nm : ByteArray) : GMethod := (metO l s nm).getD zMethod
def metB (l : List GScript) (s : Int) (nm : ByteArray) : Bool := (metO l s nm).isSome
theorem metO_in (l : List GScript) (k : Nat) (nm : ByteArray) (h : k < l.length) : metO l (k : Int) nm = l[k].Methods.find? (fun m => m.Name.toList == nm.toList) := by
 unfold metO
 rw [if_pos kO, Int.toNat_natCast, List.getElem?_eq_getElem h]
 rfl
theorem metO_out (l : List GScript) (s : Int) (nm : ByteArray) (h : ¬ (0 ≤ s ∧ s ≤ (l.length : Int) - 1)) : metO l s nm = none := by
 unfold metO
 split
 ·rw [List.getElem?_eq_none kO]
  rfl
 ·rfl
theorem metM_bd (l : List GScript) (s : Int) (nm : ByteArray) (h : bZ aZ l ≤ 1048576) : aX (dO l s nm) ≤ 4194304 := by
 unfold dO
 cases e : metO l s nm with
 | none => exact (by decide : aX zMethod ≤ 4194304)
 | some m =>
  simp only [Option.getD_some]
  unfold metO at e
  split at e
  ·obtain ⟨c, hc, hm⟩ := Option.bind_eq_some_iff.1 e
   obtain ⟨hi, rfl⟩ := List.getElem?_eq_some_iff.1 hc
   have hmem := List.mem_of_find?_eq_some hm
   obtain ⟨j, hj, rfl⟩ := List.mem_iff_getElem.1 hmem
   have h1 := gL aZ l _ hi
   have h2 := gL aX (l[s.toNat].Methods) j hj
   have h3 : aZ l[s.toNat] = l[s.toNat].Name.size + bZ aX l[s.toNat].Methods := rfl
   unfold bZ at h h3
   omega
  ·cases e
theorem l6CopyMethod_s (x : GMethod) (cs : List Value) (w : World) (h : aL.K w x cs) (hs : aX x ≤ 4194304) : Calls Try.prog 65 #[.agg cs.toArray] w (RetAgg aL x w) := by
 obtain ⟨Ax1, cx1, rfl, hlx1, hCx1⟩ := dI h
 have s_Code : bZ cK x.Code ≤ 4194304 := by unfold aX at hs; omega
 have n_Code : x.Code.length ≤ 4194304 := by unfold bZ at s_Code; omega
 refine enter 10 [(0, .agg #[.string (x.Name), .slice Ax1 x.Code.length cx1])] Try.func65 rfl kR ?_
 intro xj
 have H1 : St w No [] w := St.enter
 refine wp_seq ?_
 refine aI [0, 1] rfl ?_
 refine aA ?_
 refine eG rfl rfl rfl rfl H1 ?_
 intro g_0_0 W2 hu3 Ha4; clear H1; clear hu3
 refine aA ?_
 refine dD rfl Try.zeroValue51 rfl rfl Ha4 ?_
 intro g_0_1 W6 hu7 Ha8; clear Ha4; clear hu7
 refine aF ?_
 refine aH ?_
 refine wp_seq ?_
 refine dF (fun W' => Blk W' g_0_0 51 #[.string (x.Name), .slice Ax1 x.Code.length cx1]) 8 kR ?_
 have H10 := Ha8.drew; clear Ha8
 have hS11 : Blk W6.drew g_0_0 51 #[.string (x.Name), .slice Ax1 x.Code.length cx1] := H10.blk 1 rfl
 refine aP (i := 0) rfl kR kR kR kR kR (fun _ _ _ h => h) rfl rfl hS11 (fun W' hs' => aN gB rfl) ?_
 refine aP (i := 1) rfl kR kR kR kR kR (fun _ _ _ h => h) rfl rfl hS11 (fun W' hs' => aS (k := 0) (v := .string (x.Name)) Try.isAgg9 rfl hs' rfl) ?_
 refine aP (i := 3) rfl kR kR kR kR kR (fun _ _ _ h => h) rfl rfl hS11 (fun W' hs' => aN dZ rfl) ?_
 refine aP (i := 4) rfl kR kR kR kR kR (fun _ _ _ h => h) rfl rfl hS11 (fun W' hs' => aS (k := 1) (v := .slice Ax1 x.Code.length cx1) Try.isAgg49 rfl hs' rfl) ?_
 refine bH (i := 2) kR ?_
 refine op_slice0 (dk := bF) rfl Try.runUnderlying49 Try.sizeOf118 rfl rfl H10 ?_
 intro A_1_2 W12 hu13 Ha14; clear H10; clear hu13
 have hS16 := Ha14.blk 2 rfl; refine ⟨fun _ => hS16, ?_⟩
 refine bH (i := 5) kR ?_
 refine op_appendN' (xs := []) (ys := x.Code) (n' := x.Code.length) (zs := x.Code) rfl Try.underlying49 gG rfl kD kD flat_Instr rfl rfl (dW Ha14.1 hCx1) (by simp; omega) (by simp) (List.nil_append _) rfl rfl Ha14 ?_
 intro B_1_5 c_1_5 W17 Ha18; clear Ha14
 have hS20 := Ha18.blk 2 rfl; refine ⟨fun _ => hS20, ?_⟩
 refine aP (i := 6) rfl kR kR kR kR kR (fun _ _ _ h => h) rfl rfl hS20 (fun W' hs' => bB (vs := [(0, .string (x.Name)), (1, .slice B_1_5 x.Code.length c_1_5)]) (cells := #[.string (x.Name), .slice B_1_5 x.Code.length c_1_5]) rfl kR) ?_
 refine bH (i := 7) kR ?_
 have H24 : St w No [hB g_0_1 51 #[.string (⟨#[]⟩), .slice none 0 0], hR bF 118 (.slice B_1_5 x.Code.length c_1_5) x.Code, hB g_0_0 51 #[.string (x.Name), .slice Ax1 x.Code.length cx1]] W17 := Ha18.pick [1, 0, 2] kD rfl; clear Ha18
 refine aU rfl Try.sizeOf51 rfl rfl rfl rfl kS H24 ?_
 intro W21 hu22 Ha23; clear H24; clear hu22
 have hS26 := Ha23.blk 2 rfl; refine ⟨fun _ => hS26, ?_⟩
 refine dA kR ?_ _
 refine aH ?_
 refine wp_ret ?_
 refine bA (.inl rfl) Try.results65 Try.isAgg51 Try.sizeOf51 rfl (Ha23.blk 0 rfl) rfl ?_
 exact ⟨_, rfl, dY (Ha23.pick [1] kD rfl).star, Ha23.1⟩
theorem copied_Method (x : GMethod) (cs : List Value) (w : World) (h : aL.K w x cs) (hs : aX x ≤ 4194304) : Calls Try.prog 64 #[.agg cs.toArray] w (RetAgg aL x w) := by
 obtain ⟨Ax1, cx1, rfl, hlx1, hCx1⟩ := dI h
 have s_Code : bZ cK x.Code ≤ 4194304 := by unfold aX at hs; omega
 have n_Code : x.Code.length ≤ 4194304 := by unfold bZ at s_Code; omega
 refine enter 9 [(0, .agg #[.string (x.Name), .slice Ax1 x.Code.length cx1])] Try.func64 rfl kR ?_
 intro xj
 have H1 : St w No [] w := St.enter
 refine wp_seq ?_
 refine aI [0, 1] rfl ?_
 refine aA ?_
 refine eG rfl rfl rfl rfl H1 ?_
 intro g_0_0 W2 hu3 Ha4; clear H1; clear hu3
 refine aA ?_
 refine dD rfl Try.zeroValue51 rfl rfl Ha4 ?_
 intro g_0_1 W6 hu7 Ha8; clear Ha4; clear hu7
 refine aF ?_
 refine aH ?_
 refine wp_seq ?_
 refine dF (fun W' => Blk W' g_0_0 51 #[.string (x.Name), .slice Ax1 x.Code.length cx1]) 7 kR ?_
 have H10 := Ha8.drew; clear Ha8
 have hS11 : Blk W6.drew g_0_0 51 #[.string (x.Name), .slice Ax1 x.Code.length cx1] := H10.blk 1 rfl
 refine aP (i := 0) rfl kR kR kR kR kR (fun _ _ _ h => h) rfl rfl hS11 (fun W' hs' => aN gB rfl) ?_
 refine aP (i := 1) rfl kR kR kR kR kR (fun _ _ _ h => h) rfl rfl hS11 (fun W' hs' => aS (k := 0) (v := .string (x.Name)) Try.isAgg9 rfl hs' rfl) ?_
 refine aP (i := 2) rfl kR kR kR kR kR (fun _ _ _ h => h) rfl rfl hS11 (fun W' hs' => aN dZ rfl) ?_
 refine aP (i := 3) rfl kR kR kR kR kR (fun _ _ _ h => h) rfl rfl hS11 (fun W' hs' => aS (k := 1) (v := .slice Ax1 x.Code.length cx1) Try.isAgg49 rfl hs' rfl) ?_
 refine bH (i := 4) kR ?_
 refine aK rfl Try.call111 (vs := #[.slice Ax1 x.Code.length cx1]) rfl rfl rfl (clone_Instr x.Code _ _ _ (dW H10.1 hCx1) n_Code) ?_
 rintro e16 W15 ⟨v12, rfl, hR13, hu14⟩; refine ⟨_, rfl, ?_⟩
 obtain ⟨B_1_4, c_1_4, rfl⟩ := R_slice hR13
 have H17 := H10.new (q := hR bF 118 (.slice B_1_4 x.Code.length c_1_4) x.Code) hu14 hR13; clear H10
 have hS18 := H17.blk 2 rfl; refine ⟨fun _ => hS18, ?_⟩
 refine aP (i := 5) rfl kR kR kR kR kR (fun _ _ _ h => h) rfl rfl hS18 (fun W' hs' => bB (vs := [(0, .string (x.Name)), (1, .slice B_1_4 x.Code.length c_1_4)]) (cells := #[.string (x.Name), .slice B_1_4 x.Code.length c_1_4]) rfl kR) ?_
 refine bH (i := 6) kR ?_
 have H22 : St w No [hB g_0_1 51 #[.string (⟨#[]⟩), .slice none 0 0], hR bF 118 (.slice B_1_4 x.Code.length c_1_4) x.Code, hB g_0_0 51 #[.string (x.Name), .slice Ax1 x.Code.length cx1]] W15 := H17.pick [1, 0, 2] kD rfl; clear H17
 refine aU rfl Try.sizeOf51 rfl rfl rfl rfl kS H22 ?_
 intro W19 hu20 Ha21; clear H22; clear hu20
 have hS24 := Ha21.blk 2 rfl; refine ⟨fun _ => hS24, ?_⟩
 refine dA kR ?_ _
 refine aH ?_
 refine wp_ret ?_
 refine bA (.inl rfl) Try.results64 Try.isAgg51 Try.sizeOf51 rfl (Ha21.blk 0 rfl) rfl ?_
 exact ⟨_, rfl, dY (Ha21.pick [1] kD rfl).star, Ha21.1⟩
theorem l6Copy_s (x : GScript) (cs : List Value) (w : World) (h : aO.K w x cs) (hs : aZ x ≤ 4194304) : Calls Try.prog 67 #[.agg cs.toArray] w (RetAgg aO x w) := by
 obtain ⟨Ax1, cx1, rfl, hlx1, hCx1⟩ := dP h
 have s_Methods : bZ aX x.Methods ≤ 4194304 := by unfold aZ at hs; omega
 have n_Methods : x.Methods.length ≤ 4194304 := by unfold bZ at s_Methods; omega
 refine enter 27 [(0, .agg #[.string (x.Name), .slice Ax1 x.Methods.length cx1])] Try.func67 rfl kR ?_
 intro xj
 have H1 : St w No [] w := St.enter
 refine wp_seq ?_
 refine aI [0, 1] rfl ?_
 refine aA ?_
 refine eG rfl rfl rfl rfl H1 ?_
 intro g_0_0 W2 hu3 Ha4; clear H1; clear hu3
 refine aA ?_
 refine dD rfl Try.zeroValue56 rfl rfl Ha4 ?_
 intro g_0_1 W6 hu7 Ha8; clear Ha4; clear hu7
 refine aF ?_
 refine aH ?_
 refine wp_seq ?_
 refine aI [0, 1, 2, 3, 4] rfl ?_
 refine aA ?_
 refine aB rfl (aN gN rfl) rfl rfl ?_
 refine aA ?_
 refine aB rfl (aS (k := 0) (v := .string (x.Name)) Try.isAgg9 rfl (Ha8.blk 1 rfl) rfl) rfl rfl ?_
 refine aA ?_
 refine aB rfl (bB (vs := [(0, .string (x.Name))]) (cells := #[.string (x.Name), .slice none 0 0]) rfl kR) rfl rfl ?_
 refine aA ?_
 refine dD rfl Try.zeroValue56 rfl rfl Ha8 ?_
 intro g_1_3 W10 hu11 Ha12; clear Ha8; clear hu11
 refine aA ?_
 refine aU rfl Try.sizeOf56 rfl rfl rfl rfl kS Ha12 ?_
 intro W14 hu15 Ha16; clear Ha12; clear hu15
 refine aF ?_
 refine aH ?_
 refine wp_seq ?_
 refine wp_seq ?_
 refine aI [0] rfl ?_
 refine aA ?_
 refine aB rfl (aG rfl) rfl rfl ?_
 refine aF ?_
 refine aH ?_
 refine wp_block ?_
 have H18 : St w No [hR aL 51 (.slice none 0 0) ([]), hB g_1_3 56 #[.string (x.Name), .slice none 0 0], hB g_0_1 56 #[.string (⟨#[]⟩), .slice none 0 0], hB g_0_0 56 #[.string (x.Name), .slice Ax1 x.Methods.length cx1]] W14 := Ha16.add0 (q := hR aL 51 (.slice none 0 0) []) R_nil; clear Ha16
 refine wp_loop_ghost (fun r a' W' => ∃ (i1 : Nat) (A_1 : Option Addr) (c_1 : Nat) (x' : Nat → Value), a' = bC 27 x' [(1, .pointer (some ⟨g_0_0, 0, none⟩)), (2, .pointer (some ⟨g_0_1, 0, none⟩)), (3, .pointer (some ⟨g_1_3, 0, none⟩)), (4, .int .i64 (((i1 : Nat) : Int)))] ∧ (i1 + r = x.Methods.length) ∧ St w No [hR aL 51 (.slice A_1 i1 c_1) (x.Methods.take i1), hB g_1_3 56 #[.string (x.Name), .slice A_1 i1 c_1], hB g_0_1 56 #[.string (⟨#[]⟩), .slice none 0 0], hB g_0_0 56 #[.string (x.Name), .slice Ax1 x.Methods.length cx1]] W') x.Methods.length ?_ ?_
 ·exact (bJ [(1, .pointer (some ⟨g_0_0, 0, none⟩)), (2, .pointer (some ⟨g_0_1, 0, none⟩)), (3, .pointer (some ⟨g_1_3, 0, none⟩)), (4, .int .i64 (((0 : Nat) : Int)))] rfl).elim fun x' hx => ⟨0, none, 0, x', hx, kO, H18⟩
 ·rintro r19 _ W20 ⟨i1, A_1, c_1, x21, rfl, hi1, H22⟩; clear H18
  refine wp_seq ?_
  refine wp_seq ?_
  refine aI [0, 1, 2, 3, 4] rfl ?_
  refine aA ?_
  refine aB rfl (aC rfl) rfl rfl ?_
  refine aA ?_
  refine aB rfl (aN dN rfl) rfl rfl ?_
  refine aA ?_
  refine aB rfl (aS (k := 1) (v := .slice Ax1 x.Methods.length cx1) Try.isAgg54 rfl (H22.blk 3 rfl) rfl) rfl rfl ?_
  refine aA ?_
  refine aB rfl (dG Try.runUnderlying54 rfl) rfl rfl ?_
  refine aA ?_
  refine aB rfl (eY rfl rfl) rfl rfl ?_
  refine aF ?_
  refine aH ?_
  refine aW rfl (fun hc23 => ?_) (fun hc23 => ?_)
  ·have hlt1 : i1 < x.Methods.length := by omega
   obtain ⟨ade24, cse24, hAe24, hKe24, hce24⟩ := eD hCx1 i1 hlt1
   have hle24 := cO hKe24
   have hoe24 := dJ hKe24
   have hsi1 : aX x.Methods[i1] ≤ 4194304 := by have h1 := gL aX x.Methods i1 hlt1; have h2 := s_Methods; unfold bZ at h2; omega
   refine wp_skip ?_
   refine aH ?_
   refine wp_seq ?_
   refine wp_block ?_
   refine dF (fun W' => Blk W' g_1_3 56 #[.string (x.Name), .slice A_1 i1 c_1] ∧ Blk W' g_0_0 56 #[.string (x.Name), .slice Ax1 x.Methods.length cx1] ∧ Cat W' (Addr.add ade24 (i1 * 2)) cse24) 11 kR ?_
   have H25 := H22.drew; clear H22
   have hS26 : Blk W20.drew g_1_3 56 #[.string (x.Name), .slice A_1 i1 c_1] ∧ Blk W20.drew g_0_0 56 #[.string (x.Name), .slice Ax1 x.Methods.length cx1] ∧ Cat W20.drew (Addr.add ade24 (i1 * 2)) cse24 := ⟨H25.blk 1 rfl, H25.blk 3 rfl, (Cat.upd hce24 H25.1)⟩
   refine aP (i := 0) rfl kR kR kR kR kR (fun _ _ _ h => h) rfl rfl hS26 (fun W' hs' => aN dN rfl) ?_
   refine aP (i := 1) rfl kR kR kR kR kR (fun _ _ _ h => h) rfl rfl hS26 (fun W' hs' => aS (k := 1) (v := .slice A_1 i1 c_1) Try.isAgg54 rfl hs'.1 rfl) ?_
   refine aP (i := 2) rfl kR kR kR kR kR (fun _ _ _ h => h) rfl rfl hS26 (fun W' hs' => aN dN rfl) ?_
   refine aP (i := 3) rfl kR kR kR kR kR (fun _ _ _ h => h) rfl rfl hS26 (fun W' hs' => aS (k := 1) (v := .slice Ax1 x.Methods.length cx1) Try.isAgg54 rfl hs'.2.1 rfl) ?_
   refine aP (i := 4) rfl kR kR kR kR kR (fun _ _ _ h => h) rfl rfl hS26 (fun W' hs' => aC rfl) ?_
   refine aP (i := 5) rfl kR kR kR kR kR (fun _ _ _ h => h) rfl rfl hS26 (fun W' hs' => bW (k := i1) Try.runUnderlying54 Try.sizeOf51 rfl rfl hAe24 hlt1) ?_
   refine aP (i := 6) rfl kR kR kR kR kR (fun _ _ _ h => h) rfl rfl hS26 (fun W' hs' => eF Try.isAgg51 Try.sizeOf51 rfl hs'.2.2 hle24) ?_
   refine bH (i := 7) kR ?_
   refine aK rfl Try.call65 (vs := #[.agg (List.toArray cse24)]) rfl rfl rfl (l6CopyMethod_s x.Methods[i1] _ _ (K_upd H25.1 hKe24) hsi1) ?_
   rintro e30 W29 ⟨cs_5_7, rfl, hM27, hu28⟩; refine ⟨_, rfl, ?_⟩
   have H33 := H25.new (q := hM aL (x.Methods[i1]) cs_5_7) hu28 hM27; clear H25
   have hS34 := And.intro (H33.blk 2 rfl) (And.intro (H33.blk 4 rfl) ((Cat.upd hce24 H33.1))); refine ⟨fun _ => hS34, ?_⟩
   refine bH (i := 8) kR ?_
   refine gW rfl Try.runUnderlying54 Try.sizeOf51 kD Try.zeroValue51 rfl (cO (H33.kn 0 rfl)) rfl rfl H33 ?_
   intro g_5_8 W35 hu36 Ha37; clear H33; clear hu36
   have hS39 := And.intro (Ha37.blk 3 rfl) (And.intro (Ha37.blk 5 rfl) ((Cat.upd hce24 Ha37.1))); refine ⟨fun _ => hS39, ?_⟩
   refine bH (i := 9) kR ?_
   have H42 : St w No [hR aL 51 (.slice A_1 i1 c_1) (x.Methods.take i1), hB g_5_8 51 (List.toArray cs_5_7), hM aL (x.Methods[i1]) cs_5_7, hB g_1_3 56 #[.string (x.Name), .slice A_1 i1 c_1], hB g_0_1 56 #[.string (⟨#[]⟩), .slice none 0 0], hB g_0_0 56 #[.string (x.Name), .slice Ax1 x.Methods.length cx1]] W35 := Ha37.pick [2, 0, 1, 3, 4, 5] kD rfl; clear Ha37
   refine gY (xs := (x.Methods.take i1)) (p := x.Methods[i1]) (n' := (i1 + 1)) (ys := (x.Methods.take (i1 + 1))) rfl Try.underlying54 fV rfl kD kD rfl rfl (by rw [List.length_take, Nat.min_eq_left kO]; omega) (by rw [List.length_take, Nat.min_eq_left kO]) (List.take_succ_eq_append_getElem hlt1).symm rfl rfl H42 ?_
   intro B_5_9 c_5_9 W40 Ha41; clear H42
   have hS44 := And.intro (Ha41.blk 1 rfl) (And.intro (Ha41.blk 3 rfl) ((Cat.upd hce24 Ha41.1))); refine ⟨fun _ => hS44, ?_⟩
   refine aP (i := 10) rfl kR kR kR kR kR (fun _ _ _ h => h) rfl rfl hS44 (fun W' hs' => aN dN rfl) ?_
   refine bH (i := 11) kR ?_
   have H48 : St w No [hB g_1_3 56 #[.string (x.Name), .slice A_1 i1 c_1], hR aL 51 (.slice B_5_9 (i1 + 1) c_5_9) (x.Methods.take (i1 + 1)), hB g_0_1 56 #[.string (⟨#[]⟩), .slice none 0 0], hB g_0_0 56 #[.string (x.Name), .slice Ax1 x.Methods.length cx1]] W40 := Ha41.pick [1, 0, 2, 3] kD rfl; clear Ha41
   refine fQ rfl Try.sizeOf54 rfl rfl rfl (Nat.le_of_ble_eq_true rfl) (by simp [Value.cells, Value.oneCell']) H48 ?_
   intro W45 hu46 Ha47; clear H48; clear hu46
   refine ⟨fun h => absS kR h, ?_⟩
   refine dA kR ?_ _
   refine dR ?_
   refine aH ?_
   refine aI [0, 1, 2] rfl ?_
   refine aA ?_
   refine aB rfl (aC rfl) rfl rfl ?_
   refine aA ?_
   refine aB rfl (fJ (k := i1) rfl rfl kO) rfl rfl ?_
   refine aA ?_
   refine aB rfl (aG rfl) rfl rfl ?_
   refine aF ?_
   refine aH ?_
   exact (bJ [(1, .pointer (some ⟨g_0_0, 0, none⟩)), (2, .pointer (some ⟨g_0_1, 0, none⟩)), (3, .pointer (some ⟨g_1_3, 0, none⟩)), (4, .int .i64 (((i1 + 1 : Nat) : Int)))] rfl).elim fun x' hx => ⟨r19 - 1, kO, i1 + 1, B_5_9, c_5_9, x', hx, kO, Ha47.pick [1, 0, 2, 3] kD rfl⟩
  ·obtain rfl : i1 = x.Methods.length := by omega
   rw [List.take_length] at H22
   have H50 : St w No [hR aL 51 (.slice A_1 x.Methods.length c_1) x.Methods, hB g_1_3 56 #[.string (x.Name), .slice A_1 x.Methods.length c_1], hB g_0_1 56 #[.string (⟨#[]⟩), .slice none 0 0], hB g_0_0 56 #[.string (x.Name), .slice Ax1 x.Methods.length cx1]] W20 := H22; clear H22
   refine wp_exit ?_
   refine dH ?_
   refine dH ?_
   refine inB_x ?_
   refine aH ?_
   refine wp_seq ?_
   refine aI [0, 1] rfl ?_
   refine aA ?_
   refine aB rfl (bL Try.isAgg56 Try.sizeOf56 rfl (H50.blk 1 rfl) rfl) rfl rfl ?_
   refine aA ?_
   have H54 : St w No [hB g_0_1 56 #[.string (⟨#[]⟩), .slice none 0 0], hR aL 51 (.slice A_1 x.Methods.length c_1) x.Methods, hB g_1_3 56 #[.string (x.Name), .slice A_1 x.Methods.length c_1], hB g_0_0 56 #[.string (x.Name), .slice Ax1 x.Methods.length cx1]] W20 := H50.pick [2, 0, 1, 3] kD rfl; clear H50
   refine aU rfl Try.sizeOf56 rfl rfl rfl rfl kS H54 ?_
   intro W51 hu52 Ha53; clear H54; clear hu52
   refine aF ?_
   refine aH ?_
   refine wp_ret ?_
   refine bA (.inl rfl) Try.results67 Try.isAgg56 Try.sizeOf56 rfl (Ha53.blk 0 rfl) rfl ?_
   exact ⟨_, rfl, cZ (Ha53.pick [1] kD rfl).star, Ha53.1⟩
theorem methodOf_s_out (l : List GScript) (A : Option Addr) (c : Nat) (s : Int) (nm : ByteArray) (w : World) (h : C aO w A l) (hs : bZ aZ l ≤ 4194304) (ho : ¬ (0 ≤ s ∧ s ≤ (l.length : Int) - 1)) : Calls Try.prog 21 #[.slice A l.length c, .int .i64 s, .string nm] w (RetAB aL (dO l s nm) (metB l s nm) w) := by
 have hn : l.length ≤ 4194304 := by unfold bZ at hs; omega
 refine enter 47 [(0, .slice A l.length c), (1, .int .i64 (s)), (2, .string (nm))] Try.func21 rfl kR ?_
 intro xj
 have H1 : St w No [] w := St.enter
 refine wp_seq ?_
 refine aI [0, 1] rfl ?_
 refine aA ?_
 refine dD rfl Try.zeroValue51 rfl rfl H1 ?_
 intro g_0_0 W2 hu3 Ha4; clear H1; clear hu3
 refine aA ?_
 refine aB rfl (aG rfl) rfl rfl ?_
 refine aF ?_
 refine aH ?_
 refine wp_seq ?_
 refine wp_seq ?_
 refine aI [0, 1, 2, 3, 4, 5] rfl ?_
 refine aA ?_
 refine aB rfl (aC rfl) rfl rfl ?_
 refine aA ?_
 refine aB rfl (aC rfl) rfl rfl ?_
 refine aA ?_
 refine aB rfl (dG Try.runUnderlying46 rfl) rfl rfl ?_
 refine aA ?_
 refine aB rfl (rn_sub rfl rfl kO) rfl rfl ?_
 refine aA ?_
 refine aK rfl Try.call61 (vs := #[.int .i64 (s), .int .i64 (0), .int .i64 (((l.length : Nat) - 1))]) rfl rfl rfl (l1In_s_f s 0 ((l.length : Nat) - 1) _ kO) ?_
 rintro e8 W7 ⟨rfl, hu6⟩; refine ⟨_, rfl, ?_⟩
 have H9 := Ha4.no hu6; clear Ha4
 refine aA ?_
 refine aB rfl (eX rfl) rfl rfl ?_
 refine aF ?_
 refine aH ?_
 refine fI rfl ?_
 refine wp_seq ?_
 refine aI [0, 1, 2] rfl ?_
 refine aA ?_
 refine aB rfl (bB (vs := []) (cells := #[.string (⟨#[]⟩), .slice none 0 0]) rfl kR) rfl rfl ?_
 refine aA ?_
 refine aU rfl Try.sizeOf51 rfl rfl rfl rfl kS H9 ?_
 intro W10 hu11 Ha12; clear H9; clear hu11
 refine aA ?_
 refine aB rfl (aG rfl) rfl rfl ?_
 refine aF ?_
 refine aH ?_
 refine wp_ret ?_
 refine aR ?_
 have e1 := metO_out l s nm ho
 refine fH (.inl rfl) Try.results21 Try.isAgg51 Try.sizeOf51 rfl rfl (Ha12.blk 0 rfl) rfl ?_
 refine ⟨[.string (⟨#[]⟩), .slice none 0 0], by simp only [metB, e1]; rfl, ?_, Ha12.1⟩
 simp only [dO, e1]
 exact aL.fP (fun _ q => q.elim) (gP _)
theorem methodOf_s_in (l : List GScript) (A : Option Addr) (c : Nat) (k : Nat) (nm : ByteArray) (w : World) (h : C aO w A l) (hs : bZ aZ l ≤ 4194304) (hk : k < l.length) : Calls Try.prog 21 #[.slice A l.length c, .int .i64 (k : Int), .string nm] w (RetAB aL (dO l k nm) (metB l k nm) w) := by
 have hn : l.length ≤ 4194304 := by unfold bZ at hs; omega
 have hsk : aZ l[k] ≤ 4194304 := by have h1 := gL aZ l k hk; unfold bZ at hs; omega
 have hsm : bZ aX l[k].Methods ≤ 4194304 := by unfold aZ at hsk; omega
 have hnm : l[k].Methods.length ≤ 4194304 := by unfold bZ at hsm; omega
 have hm := metO_in l k nm hk
 refine enter 47 [(0, .slice A l.length c), (1, .int .i64 (((k : Nat) : Int))), (2, .string (nm))] Try.func21 rfl kR ?_
 intro xj
 have H1 : St w No [] w := St.enter
 obtain ⟨ade2, cse2, hAe2, hKe2, hce2⟩ := eD h k hk
 have hle2 := bG hKe2
 have hoe2 := dK hKe2
 obtain ⟨Aade2_1, cade2_1, rfl, hlade2_1, hCade2_1⟩ := dP hKe2
 refine wp_seq ?_
 refine aI [0, 1] rfl ?_
 refine aA ?_
 refine dD rfl Try.zeroValue51 rfl rfl H1 ?_
 intro g_0_0 W3 hu4 Ha5; clear H1; clear hu4
 refine aA ?_
 refine aB rfl (aG rfl) rfl rfl ?_
 refine aF ?_
 refine aH ?_
 refine wp_seq ?_
 refine wp_seq ?_
 refine aI [0, 1, 2, 3, 4, 5] rfl ?_
 refine aA ?_
 refine aB rfl (aC rfl) rfl rfl ?_
 refine aA ?_
 refine aB rfl (aC rfl) rfl rfl ?_
 refine aA ?_
 refine aB rfl (dG Try.runUnderlying46 rfl) rfl rfl ?_
 refine aA ?_
 refine aB rfl (rn_sub rfl rfl kO) rfl rfl ?_
 refine aA ?_
 refine aK rfl Try.call61 (vs := #[.int .i64 (((k : Nat) : Int)), .int .i64 (0), .int .i64 (((l.length : Nat) - 1))]) rfl rfl rfl (l1In_s_t ((k : Nat) : Int) 0 ((l.length : Nat) - 1) _ kO) ?_
 rintro e9 W8 ⟨rfl, hu7⟩; refine ⟨_, rfl, ?_⟩
 have H10 := Ha5.no hu7; clear Ha5
 refine aA ?_
 refine aB rfl (eX rfl) rfl rfl ?_
 refine aF ?_
 refine aH ?_
 refine gI rfl ?_
 refine wp_skip ?_
 refine aH ?_
 refine wp_seq ?_
 refine wp_seq ?_
 refine aI [0] rfl ?_
 refine aA ?_
 refine aB rfl (aG rfl) rfl rfl ?_
 refine aF ?_
 refine aH ?_
 refine wp_block ?_
 refine wp_loop_ghost (fun r a' W' => ∃ (i1 : Nat) (x' : Nat → Value), a' = bC 47 x' [(0, .slice A l.length c), (1, .int .i64 (((k : Nat) : Int))), (2, .string (nm)), (6, .pointer (some ⟨g_0_0, 0, none⟩)), (8, .int .i64 (((i1 : Nat) : Int)))] ∧ (i1 + r = l[k].Methods.length) ∧ (l[k].Methods.find? (fun m : GMethod => m.Name.toList == nm.toList) = (l[k].Methods.drop i1).find? (fun m : GMethod => m.Name.toList == nm.toList)) ∧ St w No [hB g_0_0 51 #[.string (⟨#[]⟩), .slice none 0 0]] W') (l[k].Methods.length) ?_ ?_
 ·exact (bJ [(0, .slice A l.length c), (1, .int .i64 (((k : Nat) : Int))), (2, .string (nm)), (6, .pointer (some ⟨g_0_0, 0, none⟩)), (8, .int .i64 (((0 : Nat) : Int)))] rfl).elim fun x' hx => ⟨0, x', hx, kO, (by rw [List.drop_zero]), H10⟩
 ·rintro r11 _ W12 ⟨i1, x13, rfl, hi1, hf1, H14⟩; clear H10
  refine wp_seq ?_
  refine wp_seq ?_
  refine aI [0, 1, 2, 3, 4, 5, 6, 7] rfl ?_
  refine aA ?_
  refine aB rfl (aC rfl) rfl rfl ?_
  refine aA ?_
  refine aB rfl (aC rfl) rfl rfl ?_
  refine aA ?_
  refine aB rfl (aC rfl) rfl rfl ?_
  refine aA ?_
  refine aB rfl (bW (k := k) Try.runUnderlying46 Try.sizeOf56 rfl rfl hAe2 hk) rfl rfl ?_
  refine aA ?_
  refine aB rfl (aN dN rfl) rfl rfl ?_
  refine aA ?_
  refine aB rfl (fT (v := .slice Aade2_1 (l[k].Methods.length) cade2_1) Try.isAgg54 rfl (Cat.upd hce2 H14.1) rfl) rfl rfl ?_
  refine aA ?_
  refine aB rfl (dG Try.runUnderlying54 rfl) rfl rfl ?_
  refine aA ?_
  refine aB rfl (eY rfl rfl) rfl rfl ?_
  refine aF ?_
  refine aH ?_
  refine aW rfl (fun hc15 => ?_) (fun hc15 => ?_)
  ·have hlt1 : i1 < l[k].Methods.length := by omega
   obtain ⟨ade16, cse16, hAe16, hKe16, hce16⟩ := eD hCade2_1 i1 hlt1
   have hle16 := cO hKe16
   have hoe16 := dJ hKe16
   obtain ⟨Aade16_1, cade16_1, rfl, hlade16_1, hCade16_1⟩ := dI hKe16
   have hsi1 : aX l[k].Methods[i1] ≤ 4194304 := by have h1 := gL aX l[k].Methods i1 hlt1; unfold bZ at hsm; omega
   refine wp_skip ?_
   refine aH ?_
   refine wp_seq ?_
   refine wp_block ?_
   refine wp_seq ?_
   refine aI [0, 1, 2, 3, 4, 5, 6, 7, 8, 9, 10] rfl ?_
   refine aA ?_
   refine aB rfl (aC rfl) rfl rfl ?_
   refine aA ?_
   refine aB rfl (aC rfl) rfl rfl ?_
   refine aA ?_
   refine aB rfl (bW (k := k) Try.runUnderlying46 Try.sizeOf56 rfl rfl hAe2 hk) rfl rfl ?_
   refine aA ?_
   refine aB rfl (aN dN rfl) rfl rfl ?_
   refine aA ?_
   refine aB rfl (fT (v := .slice Aade2_1 (l[k].Methods.length) cade2_1) Try.isAgg54 rfl (Cat.upd hce2 H14.1) rfl) rfl rfl ?_
   refine aA ?_
   refine aB rfl (aC rfl) rfl rfl ?_
   refine aA ?_
   refine aB rfl (bW (k := i1) Try.runUnderlying54 Try.sizeOf51 rfl rfl hAe16 hlt1) rfl rfl ?_
   refine aA ?_
   refine aB rfl (aN gB rfl) rfl rfl ?_
   refine aA ?_
   refine aB rfl (fT (v := .string (l[k].Methods[i1].Name)) Try.isAgg9 rfl (Cat.upd hce16 H14.1) rfl) rfl rfl ?_
   refine aA ?_
   refine aB rfl (aC rfl) rfl rfl ?_
   refine aA ?_
   refine aB rfl (dQ rfl rfl) rfl rfl ?_
   refine aF ?_
   refine aH ?_
   refine fC (b := (l[k].Methods[i1].Name).toList == nm.toList) rfl (fun hc17 => ?_) (fun hc17 => ?_)
   ·refine wp_seq ?_
    refine aI [0, 1, 2, 3, 4, 5, 6, 7, 8, 9, 10] rfl ?_
    refine aA ?_
    refine aB rfl (aC rfl) rfl rfl ?_
    refine aA ?_
    refine aB rfl (aC rfl) rfl rfl ?_
    refine aA ?_
    refine aB rfl (bW (k := k) Try.runUnderlying46 Try.sizeOf56 rfl rfl hAe2 hk) rfl rfl ?_
    refine aA ?_
    refine aB rfl (aN dN rfl) rfl rfl ?_
    refine aA ?_
    refine aB rfl (fT (v := .slice Aade2_1 (l[k].Methods.length) cade2_1) Try.isAgg54 rfl (Cat.upd hce2 H14.1) rfl) rfl rfl ?_
    refine aA ?_
    refine aB rfl (aC rfl) rfl rfl ?_
    refine aA ?_
    refine aB rfl (bW (k := i1) Try.runUnderlying54 Try.sizeOf51 rfl rfl hAe16 hlt1) rfl rfl ?_
    refine aA ?_
    refine aB rfl (eF Try.isAgg51 Try.sizeOf51 rfl (Cat.upd hce16 H14.1) rfl) rfl rfl ?_
    refine aA ?_
    refine aK rfl Try.call65 (vs := #[.agg #[.string (l[k].Methods[i1].Name), .slice Aade16_1 (l[k].Methods[i1].Code.length) cade16_1]]) rfl rfl rfl (l6CopyMethod_s l[k].Methods[i1] _ _ (K_upd H14.1 hKe16) hsi1) ?_
    rintro e21 W20 ⟨cs_7_8, rfl, hM18, hu19⟩; refine ⟨_, rfl, ?_⟩
    have H24 := H14.new (q := hM aL (l[k].Methods[i1]) cs_7_8) hu19 hM18; clear H14
    refine aA ?_
    have H28 : St w No [hB g_0_0 51 #[.string (⟨#[]⟩), .slice none 0 0], hM aL (l[k].Methods[i1]) cs_7_8] W20 := H24.pick [1, 0] kD rfl; clear H24
    refine aU rfl Try.sizeOf51 rfl rfl (cO (H28.kn 1 rfl)) rfl (dJ (H28.kn 1 rfl)) H28 ?_
    intro W25 hu26 Ha27; clear H28; clear hu26
    refine aA ?_
    refine aB rfl (aG rfl) rfl rfl ?_
    refine aF ?_
    refine aH ?_
    refine wp_ret ?_
    refine aY ?_
    refine aR ?_
    refine aR ?_
    refine aY ?_
    refine aR ?_
    have e1 := hm.trans (hf1.trans (find_yes (fun m : GMethod => m.Name.toList == nm.toList) l[k].Methods i1 hlt1 hc17))
    refine fH (.inl rfl) Try.results21 Try.isAgg51 Try.sizeOf51 rfl rfl (Ha27.blk 0 rfl) (cO (Ha27.kn 1 rfl)) ?_
    have hq := (Ha27.pick [1] kD rfl : St w No [hM aL (l[k].Methods[i1]) cs_7_8] W25).fin1
    exact ⟨cs_7_8, by simp only [metB, e1]; rfl, by simp only [dO, e1]; exact hq.1, hq.2⟩
   ·refine wp_skip ?_
    refine dR ?_
    refine aH ?_
    refine aI [0, 1, 2] rfl ?_
    refine aA ?_
    refine aB rfl (aC rfl) rfl rfl ?_
    refine aA ?_
    refine aB rfl (fJ (k := i1) rfl rfl kO) rfl rfl ?_
    refine aA ?_
    refine aB rfl (aG rfl) rfl rfl ?_
    refine aF ?_
    refine aH ?_
    exact (bJ [(0, .slice A l.length c), (1, .int .i64 (((k : Nat) : Int))), (2, .string (nm)), (6, .pointer (some ⟨g_0_0, 0, none⟩)), (8, .int .i64 (((i1 + 1 : Nat) : Int)))] rfl).elim fun x' hx => ⟨r11 - 1, kO, i1 + 1, x', hx, kO, (hf1.trans (find_no (fun m : GMethod => m.Name.toList == nm.toList) l[k].Methods i1 hlt1 hc17)), H14⟩
  ·have hge1 : l[k].Methods.length ≤ i1 := by omega
   refine wp_exit ?_
   refine dH ?_
   refine dH ?_
   refine inB_x ?_
   refine aH ?_
   refine wp_seq ?_
   refine aI [0, 1, 2] rfl ?_
   refine aA ?_
   refine aB rfl (bB (vs := []) (cells := #[.string (⟨#[]⟩), .slice none 0 0]) rfl kR) rfl rfl ?_
   refine aA ?_
   refine aU rfl Try.sizeOf51 rfl rfl rfl rfl kS H14 ?_
   intro W30 hu31 Ha32; clear H14; clear hu31
   refine aA ?_
   refine aB rfl (aG rfl) rfl rfl ?_
   refine aF ?_
   refine aH ?_
   refine wp_ret ?_
   have e1 := hm.trans (hf1.trans (find_end (fun m : GMethod => m.Name.toList == nm.toList) l[k].Methods _ hge1))
   refine fH (.inl rfl) Try.results21 Try.isAgg51 Try.sizeOf51 rfl rfl (Ha32.blk 0 rfl) rfl ?_
   refine ⟨[.string (⟨#[]⟩), .slice none 0 0], by simp only [metB, e1]; rfl, ?_, Ha32.1⟩
   simp only [dO, e1]
   exact aL.fP (fun _ q => q.elim) (gP _)
theorem methodOf_s (l : List GScript) (A : Option Addr) (c : Nat) (s : Int) (nm : ByteArray) (w : World) (h : C aO w A l) (hs : bZ aZ l ≤ 4194304) : Calls Try.prog 21 #[.slice A l.length c, .int .i64 s, .string nm] w (RetAB aL (dO l s nm) (metB l s nm) w) := by
 by_cases ho : 0 ≤ s ∧ s ≤ (l.length : Int) - 1
 ·obtain ⟨k, rfl⟩ : ∃ k : Nat, s = k := ⟨s.toNat, by omega⟩
  exact methodOf_s_in l A c k nm w h hs kO
 ·exact methodOf_s_out l A c s nm w h hs ho
theorem methodOf_i_out (l : List GScript) (A : Option Addr) (c : Nat) (s : Int) (nm : ByteArray) (w : World) (h : C aO w A l) (hs : bZ aZ l ≤ 4194304) (ho : ¬ (0 ≤ s ∧ s ≤ (l.length : Int) - 1)) : Calls Try.prog 20 #[.slice A l.length c, .int .i64 s, .string nm] w (RetAB aL (dO l s nm) (metB l s nm) w) := by
 have hn : l.length ≤ 4194304 := by unfold bZ at hs; omega
 refine enter 35 [(0, .slice A l.length c), (1, .int .i64 (s)), (2, .string (nm))] Try.func20 rfl kR ?_
 intro xj
 have H1 : St w No [] w := St.enter
 refine wp_seq ?_
 refine aI [0, 1] rfl ?_
 refine aA ?_
 refine dD rfl Try.zeroValue51 rfl rfl H1 ?_
 intro g_0_0 W2 hu3 Ha4; clear H1; clear hu3
 refine aA ?_
 refine aB rfl (aG rfl) rfl rfl ?_
 refine aF ?_
 refine aH ?_
 refine wp_seq ?_
 refine wp_seq ?_
 refine aI [0, 1, 2, 3, 4, 5] rfl ?_
 refine aA ?_
 refine aB rfl (aC rfl) rfl rfl ?_
 refine aA ?_
 refine aB rfl (aC rfl) rfl rfl ?_
 refine aA ?_
 refine aB rfl (dG Try.runUnderlying46 rfl) rfl rfl ?_
 refine aA ?_
 refine aB rfl (rn_sub rfl rfl kO) rfl rfl ?_
 refine aA ?_
 refine aK rfl Try.call60 (vs := #[.int .i64 (s), .int .i64 (0), .int .i64 (((l.length : Nat) - 1))]) rfl rfl rfl (in_i_f s 0 ((l.length : Nat) - 1) _ kO) ?_
 rintro e8 W7 ⟨rfl, hu6⟩; refine ⟨_, rfl, ?_⟩
 have H9 := Ha4.no hu6; clear Ha4
 refine aA ?_
 refine aB rfl (eX rfl) rfl rfl ?_
 refine aF ?_
 refine aH ?_
 refine fI rfl ?_
 refine wp_seq ?_
 refine aI [0, 1, 2] rfl ?_
 refine aA ?_
 refine aB rfl (bB (vs := []) (cells := #[.string (⟨#[]⟩), .slice none 0 0]) rfl kR) rfl rfl ?_
 refine aA ?_
 refine aU rfl Try.sizeOf51 rfl rfl rfl rfl kS H9 ?_
 intro W10 hu11 Ha12; clear H9; clear hu11
 refine aA ?_
 refine aB rfl (aG rfl) rfl rfl ?_
 refine aF ?_
 refine aH ?_
 refine wp_ret ?_
 refine aR ?_
 have e1 := metO_out l s nm ho
 refine fH (.inl rfl) Try.results20 Try.isAgg51 Try.sizeOf51 rfl rfl (Ha12.blk 0 rfl) rfl ?_
 refine ⟨[.string (⟨#[]⟩), .slice none 0 0], by simp only [metB, e1]; rfl, ?_, Ha12.1⟩
 simp only [dO, e1]
 exact aL.fP (fun _ q => q.elim) (gP _)
theorem methodOf_i_in (l : List GScript) (A : Option Addr) (c : Nat) (k : Nat) (nm : ByteArray) (w : World) (h : C aO w A l) (hs : bZ aZ l ≤ 4194304) (hk : k < l.length) : Calls Try.prog 20 #[.slice A l.length c, .int .i64 (k : Int), .string nm] w (RetAB aL (dO l k nm) (metB l k nm) w) := by
 have hn : l.length ≤ 4194304 := by unfold bZ at hs; omega
 have hsk : aZ l[k] ≤ 4194304 := by have h1 := gL aZ l k hk; unfold bZ at hs; omega
 have hsm : bZ aX l[k].Methods ≤ 4194304 := by unfold aZ at hsk; omega
 have hnm : l[k].Methods.length ≤ 4194304 := by unfold bZ at hsm; omega
 have hm := metO_in l k nm hk
 refine enter 35 [(0, .slice A l.length c), (1, .int .i64 (((k : Nat) : Int))), (2, .string (nm))] Try.func20 rfl kR ?_
 intro xj
 have H1 : St w No [] w := St.enter
 obtain ⟨ade2, cse2, hAe2, hKe2, hce2⟩ := eD h k hk
 have hle2 := bG hKe2
 have hoe2 := dK hKe2
 obtain ⟨Aade2_1, cade2_1, rfl, hlade2_1, hCade2_1⟩ := dP hKe2
 refine wp_seq ?_
 refine aI [0, 1] rfl ?_
 refine aA ?_
 refine dD rfl Try.zeroValue51 rfl rfl H1 ?_
 intro g_0_0 W3 hu4 Ha5; clear H1; clear hu4
 refine aA ?_
 refine aB rfl (aG rfl) rfl rfl ?_
 refine aF ?_
 refine aH ?_
 refine wp_seq ?_
 refine wp_seq ?_
 refine aI [0, 1, 2, 3, 4, 5] rfl ?_
 refine aA ?_
 refine aB rfl (aC rfl) rfl rfl ?_
 refine aA ?_
 refine aB rfl (aC rfl) rfl rfl ?_
 refine aA ?_
 refine aB rfl (dG Try.runUnderlying46 rfl) rfl rfl ?_
 refine aA ?_
 refine aB rfl (rn_sub rfl rfl kO) rfl rfl ?_
 refine aA ?_
 refine aK rfl Try.call60 (vs := #[.int .i64 (((k : Nat) : Int)), .int .i64 (0), .int .i64 (((l.length : Nat) - 1))]) rfl rfl rfl (in_i_t ((k : Nat) : Int) 0 ((l.length : Nat) - 1) _ kO) ?_
 rintro e9 W8 ⟨rfl, hu7⟩; refine ⟨_, rfl, ?_⟩
 have H10 := Ha5.no hu7; clear Ha5
 refine aA ?_
 refine aB rfl (eX rfl) rfl rfl ?_
 refine aF ?_
 refine aH ?_
 refine gI rfl ?_
 refine wp_skip ?_
 refine aH ?_
 refine wp_seq ?_
 refine wp_seq ?_
 refine aI [0, 1, 2, 3, 4, 5, 6] rfl ?_
 refine aA ?_
 refine aB rfl (aC rfl) rfl rfl ?_
 refine aA ?_
 refine aB rfl (aC rfl) rfl rfl ?_
 refine aA ?_
 refine aB rfl (bW (k := k) Try.runUnderlying46 Try.sizeOf56 rfl rfl hAe2 hk) rfl rfl ?_
 refine aA ?_
 refine aB rfl (aN dN rfl) rfl rfl ?_
 refine aA ?_
 refine aB rfl (fT (v := .slice Aade2_1 (l[k].Methods.length) cade2_1) Try.isAgg54 rfl (Cat.upd hce2 H10.1) rfl) rfl rfl ?_
 refine aA ?_
 refine aB rfl (dG Try.runUnderlying54 rfl) rfl rfl ?_
 refine aA ?_
 refine aB rfl (aC rfl) rfl rfl ?_
 refine aF ?_
 refine aH ?_
 refine wp_block ?_
 refine wp_loop_ghost (fun r a' W' => ∃ (i1 : Nat) (x' : Nat → Value), a' = bC 35 x' [(2, .string (nm)), (6, .pointer (some ⟨g_0_0, 0, none⟩)), (21, .slice Aade2_1 (l[k].Methods.length) cade2_1), (22, .int .i64 ((l[k].Methods.length : Nat))), (23, .int .i64 (((i1 : Nat) : Int)))] ∧ (i1 + r = l[k].Methods.length) ∧ (l[k].Methods.find? (fun m : GMethod => m.Name.toList == nm.toList) = (l[k].Methods.drop i1).find? (fun m : GMethod => m.Name.toList == nm.toList)) ∧ St w No [hB g_0_0 51 #[.string (⟨#[]⟩), .slice none 0 0]] W') (l[k].Methods.length) ?_ ?_
 ·exact (bJ [(2, .string (nm)), (6, .pointer (some ⟨g_0_0, 0, none⟩)), (21, .slice Aade2_1 (l[k].Methods.length) cade2_1), (22, .int .i64 ((l[k].Methods.length : Nat))), (23, .int .i64 (((0 : Nat) : Int)))] rfl).elim fun x' hx => ⟨0, x', hx, kO, (by rw [List.drop_zero]), H10⟩
 ·rintro r11 _ W12 ⟨i1, x13, rfl, hi1, hf1, H14⟩; clear H10
  refine wp_seq ?_
  refine aI [0] rfl ?_
  refine aA ?_
  refine aB rfl (eY rfl rfl) rfl rfl ?_
  refine aF ?_
  refine aH ?_
  refine wp_seq ?_
  refine aW rfl (fun hc15 => ?_) (fun hc15 => ?_)
  ·have hlt1 : i1 < l[k].Methods.length := by omega
   obtain ⟨ade16, cse16, hAe16, hKe16, hce16⟩ := eD hCade2_1 i1 hlt1
   have hle16 := cO hKe16
   have hoe16 := dJ hKe16
   obtain ⟨Aade16_1, cade16_1, rfl, hlade16_1, hCade16_1⟩ := dI hKe16
   have hsi1 : aX l[k].Methods[i1] ≤ 4194304 := by have h1 := gL aX l[k].Methods i1 hlt1; unfold bZ at hsm; omega
   refine wp_skip ?_
   refine aH ?_
   refine wp_seq ?_
   refine wp_block ?_
   refine wp_seq ?_
   refine aI [0, 1, 2, 3] rfl ?_
   refine aA ?_
   refine aB rfl (bW (k := i1) Try.runUnderlying54 Try.sizeOf51 rfl rfl hAe16 hlt1) rfl rfl ?_
   refine aA ?_
   refine aB rfl (eF Try.isAgg51 Try.sizeOf51 rfl (Cat.upd hce16 H14.1) rfl) rfl rfl ?_
   refine aA ?_
   refine dD rfl Try.zeroValue51 rfl rfl H14 ?_
   intro g_5_2 W17 hu18 Ha19; clear H14; clear hu18
   refine aA ?_
   refine aU rfl Try.sizeOf51 rfl rfl rfl rfl kS Ha19 ?_
   intro W21 hu22 Ha23; clear Ha19; clear hu22
   refine aF ?_
   refine aH ?_
   refine wp_seq ?_
   refine aI [0, 1, 2, 3] rfl ?_
   refine aA ?_
   refine aB rfl (aN gB rfl) rfl rfl ?_
   refine aA ?_
   refine aB rfl (aS (k := 0) (v := .string (l[k].Methods[i1].Name)) Try.isAgg9 rfl (Ha23.blk 0 rfl) rfl) rfl rfl ?_
   refine aA ?_
   refine aB rfl (aC rfl) rfl rfl ?_
   refine aA ?_
   refine aB rfl (dQ rfl rfl) rfl rfl ?_
   refine aF ?_
   refine aH ?_
   refine fC (b := (l[k].Methods[i1].Name).toList == nm.toList) rfl (fun hc25 => ?_) (fun hc25 => ?_)
   ·refine wp_seq ?_
    refine aI [0, 1, 2, 3] rfl ?_
    refine aA ?_
    refine aB rfl (bL Try.isAgg51 Try.sizeOf51 rfl (Ha23.blk 0 rfl) rfl) rfl rfl ?_
    refine aA ?_
    refine aK rfl Try.call64 (vs := #[.agg #[.string (l[k].Methods[i1].Name), .slice Aade16_1 (l[k].Methods[i1].Code.length) cade16_1]]) rfl rfl rfl (copied_Method l[k].Methods[i1] _ _ (eB _ (l[k].Methods[i1]) hlade16_1 (dW Ha23.1 hCade16_1)) hsi1) ?_
    rintro e29 W28 ⟨cs_7_1, rfl, hM26, hu27⟩; refine ⟨_, rfl, ?_⟩
    have H32 := Ha23.new (q := hM aL (l[k].Methods[i1]) cs_7_1) hu27 hM26; clear Ha23
    refine aA ?_
    have H36 : St w No [hB g_0_0 51 #[.string (⟨#[]⟩), .slice none 0 0], hM aL (l[k].Methods[i1]) cs_7_1, hB g_5_2 51 #[.string (l[k].Methods[i1].Name), .slice Aade16_1 (l[k].Methods[i1].Code.length) cade16_1]] W28 := H32.pick [2, 0, 1] kD rfl; clear H32
    refine aU rfl Try.sizeOf51 rfl rfl (cO (H36.kn 1 rfl)) rfl (dJ (H36.kn 1 rfl)) H36 ?_
    intro W33 hu34 Ha35; clear H36; clear hu34
    refine aA ?_
    refine aB rfl (aG rfl) rfl rfl ?_
    refine aF ?_
    refine aH ?_
    refine wp_ret ?_
    refine aY ?_
    refine aR ?_
    refine aR ?_
    refine aY ?_
    refine aR ?_
    have e1 := hm.trans (hf1.trans (find_yes (fun m : GMethod => m.Name.toList == nm.toList) l[k].Methods i1 hlt1 hc25))
    refine fH (.inl rfl) Try.results20 Try.isAgg51 Try.sizeOf51 rfl rfl (Ha35.blk 0 rfl) (cO (Ha35.kn 1 rfl)) ?_
    have hq := (Ha35.pick [1] kD rfl : St w No [hM aL (l[k].Methods[i1]) cs_7_1] W33).fin1
    exact ⟨cs_7_1, by simp only [metB, e1]; rfl, by simp only [dO, e1]; exact hq.1, hq.2⟩
   ·refine wp_skip ?_
    refine dR ?_
    refine aH ?_
    refine aI [0, 1] rfl ?_
    refine aA ?_
    refine aB rfl (fJ (k := i1) rfl rfl kO) rfl rfl ?_
    refine aA ?_
    refine aB rfl (aC rfl) rfl rfl ?_
    refine aF ?_
    refine aH ?_
    exact (bJ [(2, .string (nm)), (6, .pointer (some ⟨g_0_0, 0, none⟩)), (21, .slice Aade2_1 (l[k].Methods.length) cade2_1), (22, .int .i64 ((l[k].Methods.length : Nat))), (23, .int .i64 (((i1 + 1 : Nat) : Int)))] rfl).elim fun x' hx => ⟨r11 - 1, kO, i1 + 1, x', hx, kO, (hf1.trans (find_no (fun m : GMethod => m.Name.toList == nm.toList) l[k].Methods i1 hlt1 hc25)), Ha23.pick [1] kD rfl⟩
  ·have hge1 : l[k].Methods.length ≤ i1 := by omega
   refine wp_exit ?_
   refine dH ?_
   refine dH ?_
   refine inB_x ?_
   refine aH ?_
   refine wp_seq ?_
   refine aI [0, 1, 2] rfl ?_
   refine aA ?_
   refine aB rfl (bB (vs := []) (cells := #[.string (⟨#[]⟩), .slice none 0 0]) rfl kR) rfl rfl ?_
   refine aA ?_
   refine aU rfl Try.sizeOf51 rfl rfl rfl rfl kS H14 ?_
   intro W38 hu39 Ha40; clear H14; clear hu39
   refine aA ?_
   refine aB rfl (aG rfl) rfl rfl ?_
   refine aF ?_
   refine aH ?_
   refine wp_ret ?_
   have e1 := hm.trans (hf1.trans (find_end (fun m : GMethod => m.Name.toList == nm.toList) l[k].Methods _ hge1))
   refine fH (.inl rfl) Try.results20 Try.isAgg51 Try.sizeOf51 rfl rfl (Ha40.blk 0 rfl) rfl ?_
   refine ⟨[.string (⟨#[]⟩), .slice none 0 0], by simp only [metB, e1]; rfl, ?_, Ha40.1⟩
   simp only [dO, e1]
   exact aL.fP (fun _ q => q.elim) (gP _)
theorem methodOf_i (l : List GScript) (A : Option Addr) (c : Nat) (s : Int) (nm : ByteArray) (w : World) (h : C aO w A l) (hs : bZ aZ l ≤ 4194304) : Calls Try.prog 20 #[.slice A l.length c, .int .i64 s, .string nm] w (RetAB aL (dO l s nm) (metB l s nm) w) := by
 by_cases ho : 0 ≤ s ∧ s ≤ (l.length : Int) - 1
 ·obtain ⟨k, rfl⟩ : ∃ k : Nat, s = k := ⟨s.toNat, by omega⟩
  exact methodOf_i_in l A c k nm w h hs kO
 ·exact methodOf_i_out l A c s nm w h hs ho
section
variable {P : Program} {n : Nat} {x : Nat → Value} {live : List (Nat × Value)} {W : World}
theorem post_cc {fn : Func} {e : Exit} {p t g tb m p2 t2 g2 tb2 m2 : Nat} {cs cs2 : Array Value} {R : Ending → World → Prop} (he : e = .ret ∨ e = .normal) (hr : fn.results = #[.cell p t, .cell p2 t2]) (hA : ∀ w, (isAgg t).run P w = .ok true w) (hS : ∀ w, (sizeOf t).run P w = .ok m w) (hA2 : ∀ w, (isAgg t2).run P w = .ok true w) (hS2 : ∀ w, (sizeOf t2).run P w = .ok m2 w) (hx : evl n live (.tmp p) = some (.pointer (some ⟨g, 0, none⟩))) (hx2 : evl n live (.tmp p2) = some (.pointer (some ⟨g2, 0, none⟩))) (hb : Blk W g tb cs) (hm : cs.size = m) (hb2 : Blk W g2 tb2 cs2) (hm2 : cs2.size = m2) (h : R (.returned (.tuple #[.agg cs, .agg cs2])) W) : bodyPost P fn R e (bC n x live) W := by
 have e2 : (bC n x live).tmps.getD p undef = .pointer (some ⟨g, 0, none⟩) := bN (y := .tmp p) hx
 have e3 : (bC n x live).tmps.getD p2 undef = .pointer (some ⟨g2, 0, none⟩) := bN (y := .tmp p2) hx2
 have hl := run_cell hA hS hb hm
 have hl2 := run_cell hA2 hS2 hb2 hm2
 have hrun : (results fn (bC n x live).tmps).run P W = .ok (.tuple #[.agg cs, .agg cs2]) W := by
  simp only [results, hr]
  simp at e2 e3
  simp [e2, e3, asAddr, hl, hl2]
 rcases he with rfl | rfl <;> exact ⟨rfl, _, hrun, h⟩
theorem post_3t {fn : Func} {e : Exit} {i j k : Nat} {v v2 v3 : Value} {R : Ending → World → Prop} (he : e = .ret ∨ e = .normal) (hr : fn.results = #[.tmp i, .tmp j, .tmp k]) (hx : evl n live (.tmp i) = some v) (hy : evl n live (.tmp j) = some v2) (hz : evl n live (.tmp k) = some v3) (h : R (.returned (.tuple #[v, v2, v3])) W) : bodyPost P fn R e (bC n x live) W := by
 have e2 : (bC n x live).tmps.getD i undef = v := bN (y := .tmp i) hx
 have e3 : (bC n x live).tmps.getD j undef = v2 := bN (y := .tmp j) hy
 have e4 : (bC n x live).tmps.getD k undef = v3 := bN (y := .tmp k) hz
 have hrun : (results fn (bC n x live).tmps).run P W = .ok (.tuple #[v, v2, v3]) W := by
  simp only [results, hr]
  simp at e2 e3 e4
  simp [e2, e3, e4]
 rcases he with rfl | rfl <;> exact ⟨rfl, _, hrun, h⟩
end
theorem drawMet_s (bs : List Int) (cb : Nat) (A : Option Addr) (w : World) (hC : C Kn.u8 w A bs) (hn : bs.length ≤ 1048576) : Calls Try.prog 19 #[.slice A bs.length cb] w (fun e' w' => ∃ B X c s nm, e' = .returned (.tuple #[.slice B X.length c, .int .i64 s, .string nm]) ∧ bZ aZ X ≤ 3000 ∧ Star [hR aO 56 (.slice B X.length c) X] w' (New w) ∧ Upd No w w') := by
 refine enter 17 [(0, .slice A bs.length cb)] Try.func19 rfl kR ?_
 intro xj
 have H1 : St w No [] w := St.enter
 have hV : CV A bs No w := CV.of hC
 refine wp_seq ?_
 refine aI [0, 1, 2] rfl ?_
 refine aA ?_
 refine aB rfl (aG rfl) rfl rfl ?_
 refine aA ?_
 refine aB rfl (aG rfl) rfl rfl ?_
 refine aA ?_
 refine aB rfl (aG rfl) rfl rfl ?_
 refine aF ?_
 refine aH ?_
 refine wp_seq ?_
 refine aI [0, 1, 2] rfl ?_
 refine aA ?_
 refine aB rfl (aC rfl) rfl rfl ?_
 refine aA ?_
 refine aK rfl Try.call41 (vs := #[.slice A bs.length cb]) rfl rfl rfl (new_s bs cb A _ (dW H1.1 hC) hn) ?_
 rintro e4 W3 ⟨gc, rfl, hq2⟩; refine ⟨_, rfl, ?_⟩
 have H5 := H1.news hq2.1 hq2.star; clear H1
 refine aA ?_
 refine aB rfl (aG rfl) rfl rfl ?_
 refine aF ?_
 refine aH ?_
 refine wp_seq ?_
 refine aI [0, 1, 2] rfl ?_
 refine aA ?_
 refine aB rfl (aC rfl) rfl rfl ?_
 refine aA ?_
 obtain ⟨F10, hs11, hF12, hfr13⟩ := St.frame (l0 := [aV gc 157 A bs.length cb]) (l := []) H5
 refine aK rfl Try.call62 (vs := #[.pointer (some ⟨gc, 0, none⟩)]) rfl rfl rfl (library_s _ _ _ _ _ _ (CV.step hV H5.1 hF12) hn hs11) ?_
 rintro e16 W15 ⟨B6, X7, c8, rfl, hX9, Hn14⟩; refine ⟨_, rfl, ?_⟩
 have H17 : St w No [hR aO 56 (.slice B6 X7.length c8) X7, aV gc 157 A bs.length cb] W15 := hfr13 (_ :: [_]) _ Hn14; clear H5
 refine aA ?_
 refine aB rfl (aG rfl) rfl rfl ?_
 refine aF ?_
 refine aH ?_
 refine wp_seq ?_
 refine aI [0, 1, 2, 3, 4, 5, 6, 7, 8] rfl ?_
 refine aA ?_
 refine aB rfl (aC rfl) rfl rfl ?_
 refine aA ?_
 refine aB rfl (aC rfl) rfl rfl ?_
 refine aA ?_
 have H20 : St w No [aV gc 157 A bs.length cb, hR aO 56 (.slice B6 X7.length c8) X7] W15 := H17.pick [1, 0] kD rfl; clear H17
 obtain ⟨F21, hs22, hF23, hfr24⟩ := St.frame (l0 := [aV gc 157 A bs.length cb]) (l := [hR aO 56 (.slice B6 X7.length c8) X7]) H20
 refine aK rfl Try.call44 (vs := #[.pointer (some ⟨gc, 0, none⟩), .int .i64 (5)]) rfl rfl rfl (cB 5 _ _ _ _ _ _ (CV.step hV H20.1 hF23) hn hs22) ?_
 rintro e27 W26 ⟨q18, rfl, hq19, Hn25⟩; refine ⟨_, rfl, ?_⟩
 have H28 := hfr24 _ _ Hn25; clear H20
 refine aA ?_
 refine aB rfl (rn_sub rfl rfl kO) rfl rfl ?_
 refine aA ?_
 refine aB rfl (aC rfl) rfl rfl ?_
 refine aA ?_
 obtain ⟨F31, hs32, hF33, hfr34⟩ := St.frame (l0 := [aV gc 157 A bs.length cb]) (l := [hR aO 56 (.slice B6 X7.length c8) X7]) H28
 refine aK rfl Try.call63 (vs := #[.pointer (some ⟨gc, 0, none⟩)]) rfl rfl rfl (fZ _ _ _ _ _ _ (CV.step hV H28.1 hF33) hn hs32) ?_
 rintro e37 W36 ⟨s29, rfl, hs30, Hn35⟩; refine ⟨_, rfl, ?_⟩
 have H38 := hfr34 _ _ Hn35; clear H28
 refine aA ?_
 refine aB rfl (aG rfl) rfl rfl ?_
 refine aA ?_
 refine aB rfl (aG rfl) rfl rfl ?_
 refine aA ?_
 refine aB rfl (aG rfl) rfl rfl ?_
 refine aF ?_
 refine aH ?_
 refine wp_ret ?_
 refine post_3t (.inl rfl) Try.results19 rfl rfl rfl ?_
 exact ⟨_, _, _, _, _, rfl, hX9, (H38.pick [1] kD rfl).star, H38.1⟩
theorem drawEqs_s (bs : List Int) (cb : Nat) (A : Option Addr) (w : World) (hC : C Kn.u8 w A bs) (hn : bs.length ≤ 1048576) : Calls Try.prog 22 #[.slice A bs.length cb] w (fun e' w' => ∃ x cx y cy, e' = .returned (.tuple #[.agg (List.toArray cx), .agg (List.toArray cy)]) ∧ (aZ x ≤ 2000 ∧ aZ y ≤ 2000) ∧ Star [hM aO x cx, hM aO y cy] w' (New w) ∧ Upd No w w') := by
 refine enter 18 [(0, .slice A bs.length cb)] Try.func22 rfl kR ?_
 intro xj
 have H1 : St w No [] w := St.enter
 have hV : CV A bs No w := CV.of hC
 refine wp_seq ?_
 refine aI [0, 1] rfl ?_
 refine aA ?_
 refine dD rfl Try.zeroValue56 rfl rfl H1 ?_
 intro g_0_0 W2 hu3 Ha4; clear H1; clear hu3
 refine aA ?_
 refine dD rfl Try.zeroValue56 rfl rfl Ha4 ?_
 intro g_0_1 W6 hu7 Ha8; clear Ha4; clear hu7
 refine aF ?_
 refine aH ?_
 refine wp_seq ?_
 refine aI [0, 1, 2] rfl ?_
 refine aA ?_
 refine aB rfl (aC rfl) rfl rfl ?_
 refine aA ?_
 refine aK rfl Try.call41 (vs := #[.slice A bs.length cb]) rfl rfl rfl (new_s bs cb A _ (dW Ha8.1 hC) hn) ?_
 rintro e12 W11 ⟨gc, rfl, hq10⟩; refine ⟨_, rfl, ?_⟩
 have H13 := Ha8.news hq10.1 hq10.star; clear Ha8
 refine aA ?_
 refine aB rfl (aG rfl) rfl rfl ?_
 refine aF ?_
 refine aH ?_
 refine wp_seq ?_
 refine aI [0, 1, 2, 3] rfl ?_
 refine aA ?_
 refine aB rfl (aC rfl) rfl rfl ?_
 refine aA ?_
 obtain ⟨F17, hs18, hF19, hfr20⟩ := St.frame (l0 := [aV gc 157 A bs.length cb]) (l := [hB g_0_1 56 #[.string (⟨#[]⟩), .slice none 0 0], hB g_0_0 56 #[.string (⟨#[]⟩), .slice none 0 0]]) H13
 refine aK rfl Try.call66 (vs := #[.pointer (some ⟨gc, 0, none⟩)]) rfl rfl rfl (any_s _ _ _ _ _ _ (CV.step hV H13.1 hF19) hn hs18) ?_
 rintro e25 W24 ⟨m14, cs15, rfl, hm16, Hn21⟩; refine ⟨_, rfl, ?_⟩
 have H26 : St w No [hM aO m14 cs15, aV gc 157 A bs.length cb, hB g_0_1 56 #[.string (⟨#[]⟩), .slice none 0 0], hB g_0_0 56 #[.string (⟨#[]⟩), .slice none 0 0]] W24 := hfr20 (_ :: [_]) _ Hn21; clear H13
 have e27 : aZ m14 = m14.Name.size + bZ aX m14.Methods := rfl
 have e28 : bZ aX m14.Methods = m14.Methods.length + sumS aX m14.Methods := rfl
 refine aA ?_
 refine dD rfl Try.zeroValue56 rfl rfl H26 ?_
 intro g_2_2 W29 hu30 Ha31; clear H26; clear hu30
 refine aA ?_
 refine aU rfl Try.sizeOf56 rfl rfl (bG (Ha31.kn 1 rfl)) rfl (dK (Ha31.kn 1 rfl)) Ha31 ?_
 intro W33 hu34 Ha35; clear Ha31; clear hu34
 refine aF ?_
 refine aH ?_
 refine wp_seq ?_
 refine wp_seq ?_
 refine aI [0, 1] rfl ?_
 refine aA ?_
 refine aB rfl (aC rfl) rfl rfl ?_
 refine aA ?_
 have H38 : St w No [aV gc 157 A bs.length cb, hB g_2_2 56 (List.toArray cs15), hM aO m14 cs15, hB g_0_1 56 #[.string (⟨#[]⟩), .slice none 0 0], hB g_0_0 56 #[.string (⟨#[]⟩), .slice none 0 0]] W33 := Ha35.pick [2, 0, 1, 3, 4] kD rfl; clear Ha35
 obtain ⟨F39, hs40, hF41, hfr42⟩ := St.frame (l0 := [aV gc 157 A bs.length cb]) (l := [hB g_2_2 56 (List.toArray cs15), hM aO m14 cs15, hB g_0_1 56 #[.string (⟨#[]⟩), .slice none 0 0], hB g_0_0 56 #[.string (⟨#[]⟩), .slice none 0 0]]) H38
 refine aK rfl Try.call43 (vs := #[.pointer (some ⟨gc, 0, none⟩), .int .i64 (2)]) rfl rfl rfl (once_s 2 _ _ _ _ _ _ (CV.step hV H38.1 hF41) hn hs40) ?_
 rintro e45 W44 ⟨b37, rfl, Hn43⟩; refine ⟨_, rfl, ?_⟩
 have H46 := hfr42 _ _ Hn43; clear H38
 refine aF ?_
 refine aH ?_
 refine fC (b := b37) rfl (fun hc47 => ?_) (fun hc47 => ?_)
 ·refine wp_seq ?_
  refine dF (fun W' => Blk W' g_2_2 56 (List.toArray cs15)) 5 kR ?_
  have H48 := H46.drew; clear H46
  have hS49 : Blk W44.drew g_2_2 56 (List.toArray cs15) := H48.blk 1 rfl
  refine aP (i := 0) rfl kR kR kR kR kR (fun _ _ _ h => h) rfl rfl hS49 (fun W' hs' => bL Try.isAgg56 Try.sizeOf56 rfl hs' (bG (H48.kn 2 rfl))) ?_
  refine aP (i := 1) rfl kR kR kR kR kR (fun _ _ _ h => h) rfl rfl hS49 (fun W' hs' => bL Try.isAgg56 Try.sizeOf56 rfl hs' (bG (H48.kn 2 rfl))) ?_
  refine bH (i := 2) kR ?_
  refine aK rfl Try.call67 (vs := #[.agg (List.toArray cs15)]) rfl rfl rfl (l6Copy_s m14 _ _ (H48.kn 2 rfl) kO) ?_
  rintro e53 W52 ⟨cs_4_2, rfl, hM50, hu51⟩; refine ⟨_, rfl, ?_⟩
  have H56 := H48.new (q := hM aO m14 cs_4_2) hu51 hM50; clear H48
  have hS57 := H56.blk 2 rfl; refine ⟨fun _ => hS57, ?_⟩
  refine bH (i := 3) kR ?_
  have H61 : St w No [hB g_0_0 56 #[.string (⟨#[]⟩), .slice none 0 0], hM aO m14 cs_4_2, aV gc 157 A bs.length cb, hB g_2_2 56 (List.toArray cs15), hM aO m14 cs15, hB g_0_1 56 #[.string (⟨#[]⟩), .slice none 0 0]] W52 := H56.pick [5, 0, 1, 2, 3, 4] kD rfl; clear H56
  refine aU rfl Try.sizeOf56 rfl rfl (bG (H61.kn 4 rfl)) rfl (dK (H61.kn 4 rfl)) H61 ?_
  intro W58 hu59 Ha60; clear H61; clear hu59
  have hS63 := Ha60.blk 3 rfl; refine ⟨fun _ => hS63, ?_⟩
  refine bH (i := 4) kR ?_
  have H67 : St w No [hB g_0_1 56 #[.string (⟨#[]⟩), .slice none 0 0], hB g_0_0 56 (List.toArray cs15), hM aO m14 cs_4_2, aV gc 157 A bs.length cb, hB g_2_2 56 (List.toArray cs15), hM aO m14 cs15] W58 := Ha60.pick [5, 0, 1, 2, 3, 4] kD rfl; clear Ha60
  refine aU rfl Try.sizeOf56 rfl rfl (bG (H67.kn 2 rfl)) rfl (dK (H67.kn 2 rfl)) H67 ?_
  intro W64 hu65 Ha66; clear H67; clear hu65
  have hS69 := Ha66.blk 4 rfl; refine ⟨fun _ => hS69, ?_⟩
  refine dA kR ?_ _
  refine aH ?_
  refine wp_ret ?_
  refine aR ?_
  refine post_cc (.inl rfl) Try.results22 Try.isAgg56 Try.sizeOf56 Try.isAgg56 Try.sizeOf56 rfl rfl (Ha66.blk 1 rfl) (bG (Ha66.kn 5 rfl)) (Ha66.blk 0 rfl) (bG (Ha66.kn 2 rfl)) ?_
  exact ⟨m14, _, m14, _, rfl, ⟨by omega, by omega⟩, (Ha66.pick [5, 2] kD rfl).star, Ha66.1⟩
 ·refine wp_skip ?_
  refine aH ?_
  refine wp_seq ?_
  refine dF (fun W' => Blk W' g_2_2 56 (List.toArray cs15)) 5 kR ?_
  have H70 := H46.drew; clear H46
  have hS71 : Blk W44.drew g_2_2 56 (List.toArray cs15) := H70.blk 1 rfl
  refine aP (i := 0) rfl kR kR kR kR kR (fun _ _ _ h => h) rfl rfl hS71 (fun W' hs' => bL Try.isAgg56 Try.sizeOf56 rfl hs' (bG (H70.kn 2 rfl))) ?_
  refine aP (i := 1) rfl kR kR kR kR kR (fun _ _ _ h => h) rfl rfl hS71 (fun W' hs' => aC rfl) ?_
  refine bH (i := 2) kR ?_
  obtain ⟨F75, hs76, hF77, hfr78⟩ := St.frame (l0 := [aV gc 157 A bs.length cb]) (l := [hB g_2_2 56 (List.toArray cs15), hM aO m14 cs15, hB g_0_1 56 #[.string (⟨#[]⟩), .slice none 0 0], hB g_0_0 56 #[.string (⟨#[]⟩), .slice none 0 0]]) H70
  refine aK rfl Try.call66 (vs := #[.pointer (some ⟨gc, 0, none⟩)]) rfl rfl rfl (any_s _ _ _ _ _ _ (CV.step hV H70.1 hF77) hn hs76) ?_
  rintro e83 W82 ⟨m72, cs73, rfl, hm74, Hn79⟩; refine ⟨_, rfl, ?_⟩
  have H84 : St w No [hM aO m72 cs73, aV gc 157 A bs.length cb, hB g_2_2 56 (List.toArray cs15), hM aO m14 cs15, hB g_0_1 56 #[.string (⟨#[]⟩), .slice none 0 0], hB g_0_0 56 #[.string (⟨#[]⟩), .slice none 0 0]] W82 := hfr78 (_ :: [_]) _ Hn79; clear H70
  have e85 : aZ m72 = m72.Name.size + bZ aX m72.Methods := rfl
  have e86 : bZ aX m72.Methods = m72.Methods.length + sumS aX m72.Methods := rfl
  have hS87 := H84.blk 2 rfl; refine ⟨fun _ => hS87, ?_⟩
  refine bH (i := 3) kR ?_
  have H91 : St w No [hB g_0_0 56 #[.string (⟨#[]⟩), .slice none 0 0], hM aO m72 cs73, aV gc 157 A bs.length cb, hB g_2_2 56 (List.toArray cs15), hM aO m14 cs15, hB g_0_1 56 #[.string (⟨#[]⟩), .slice none 0 0]] W82 := H84.pick [5, 0, 1, 2, 3, 4] kD rfl; clear H84
  refine aU rfl Try.sizeOf56 rfl rfl (bG (H91.kn 4 rfl)) rfl (dK (H91.kn 4 rfl)) H91 ?_
  intro W88 hu89 Ha90; clear H91; clear hu89
  have hS93 := Ha90.blk 3 rfl; refine ⟨fun _ => hS93, ?_⟩
  refine bH (i := 4) kR ?_
  have H97 : St w No [hB g_0_1 56 #[.string (⟨#[]⟩), .slice none 0 0], hB g_0_0 56 (List.toArray cs15), hM aO m72 cs73, aV gc 157 A bs.length cb, hB g_2_2 56 (List.toArray cs15), hM aO m14 cs15] W88 := Ha90.pick [5, 0, 1, 2, 3, 4] kD rfl; clear Ha90
  refine aU rfl Try.sizeOf56 rfl rfl (bG (H97.kn 2 rfl)) rfl (dK (H97.kn 2 rfl)) H97 ?_
  intro W94 hu95 Ha96; clear H97; clear hu95
  have hS99 := Ha96.blk 4 rfl; refine ⟨fun _ => hS99, ?_⟩
  refine dA kR ?_ _
  refine aH ?_
  refine wp_ret ?_
  refine post_cc (.inl rfl) Try.results22 Try.isAgg56 Try.sizeOf56 Try.isAgg56 Try.sizeOf56 rfl rfl (Ha96.blk 1 rfl) (bG (Ha96.kn 5 rfl)) (Ha96.blk 0 rfl) (bG (Ha96.kn 2 rfl)) ?_
  exact ⟨m14, _, m72, _, rfl, ⟨by omega, by omega⟩, (Ha96.pick [5, 2] kD rfl).star, Ha96.1⟩
theorem drawLib_s (bs : List Int) (cb : Nat) (A : Option Addr) (w : World) (hC : C Kn.u8 w A bs) (hn : bs.length ≤ 1048576) : Calls Try.prog 23 #[.slice A bs.length cb] w (fun e' w' => ∃ B X c, e' = .returned (.slice B X.length c) ∧ bZ aZ X ≤ 14000 ∧ Star [hR aO 56 (.slice B X.length c) X] w' (New w) ∧ Upd No w w') := by
 refine enter 32 [(0, .slice A bs.length cb)] Try.func23 rfl kR ?_
 intro xj
 have H1 : St w No [] w := St.enter
 have hV : CV A bs No w := CV.of hC
 refine wp_seq ?_
 refine aI [0] rfl ?_
 refine aA ?_
 refine aB rfl (aG rfl) rfl rfl ?_
 refine aF ?_
 refine aH ?_
 refine wp_seq ?_
 refine aI [0, 1, 2] rfl ?_
 refine aA ?_
 refine aB rfl (aC rfl) rfl rfl ?_
 refine aA ?_
 refine aK rfl Try.call41 (vs := #[.slice A bs.length cb]) rfl rfl rfl (new_s bs cb A _ (dW H1.1 hC) hn) ?_
 rintro e4 W3 ⟨gc, rfl, hq2⟩; refine ⟨_, rfl, ?_⟩
 have H5 := H1.news hq2.1 hq2.star; clear H1
 refine aA ?_
 refine aB rfl (aG rfl) rfl rfl ?_
 refine aF ?_
 refine aH ?_
 refine wp_seq ?_
 refine aI [0, 1, 2] rfl ?_
 refine aA ?_
 refine aB rfl (aC rfl) rfl rfl ?_
 refine aA ?_
 obtain ⟨F10, hs11, hF12, hfr13⟩ := St.frame (l0 := [aV gc 157 A bs.length cb]) (l := []) H5
 refine aK rfl Try.call62 (vs := #[.pointer (some ⟨gc, 0, none⟩)]) rfl rfl rfl (library_s _ _ _ _ _ _ (CV.step hV H5.1 hF12) hn hs11) ?_
 rintro e16 W15 ⟨B6, X7, c8, rfl, hX9, Hn14⟩; refine ⟨_, rfl, ?_⟩
 have H17 : St w No [hR aO 56 (.slice B6 X7.length c8) X7, aV gc 157 A bs.length cb] W15 := hfr13 (_ :: [_]) _ Hn14; clear H5
 refine aA ?_
 refine aB rfl (aG rfl) rfl rfl ?_
 refine aF ?_
 refine aH ?_
 refine wp_seq ?_
 refine wp_seq ?_
 refine aI [0, 1] rfl ?_
 refine aA ?_
 refine aB rfl (aC rfl) rfl rfl ?_
 refine aA ?_
 have H20 : St w No [aV gc 157 A bs.length cb, hR aO 56 (.slice B6 X7.length c8) X7] W15 := H17.pick [1, 0] kD rfl; clear H17
 obtain ⟨F21, hs22, hF23, hfr24⟩ := St.frame (l0 := [aV gc 157 A bs.length cb]) (l := [hR aO 56 (.slice B6 X7.length c8) X7]) H20
 refine aK rfl Try.call44 (vs := #[.pointer (some ⟨gc, 0, none⟩), .int .i64 (6)]) rfl rfl rfl (cB 6 _ _ _ _ _ _ (CV.step hV H20.1 hF23) hn hs22) ?_
 rintro e27 W26 ⟨q18, rfl, hq19, Hn25⟩; refine ⟨_, rfl, ?_⟩
 have H28 := hfr24 _ _ Hn25; clear H20
 refine aF ?_
 refine aH ?_
 refine wp_block ?_
 refine wp_seq ?_
 refine aI [0, 1] rfl ?_
 refine aA ?_
 refine aB rfl (bD rfl rfl) rfl rfl ?_
 refine aA ?_
 refine aB rfl (aG rfl) rfl rfl ?_
 refine aF ?_
 refine aH ?_
 refine aW rfl (fun hc29 => ?_) (fun hc29 => ?_)
 ·refine aI [0, 1, 2, 3, 4, 5] rfl ?_
  refine aA ?_
  refine aB rfl (aC rfl) rfl rfl ?_
  refine aA ?_
  refine aB rfl (aC rfl) rfl rfl ?_
  refine aA ?_
  obtain ⟨F33, hs34, hF35, hfr36⟩ := St.frame (l0 := [aV gc 157 A bs.length cb]) (l := [hR aO 56 (.slice B6 X7.length c8) X7]) H28
  refine aK rfl Try.call66 (vs := #[.pointer (some ⟨gc, 0, none⟩)]) rfl rfl rfl (any_s _ _ _ _ _ _ (CV.step hV H28.1 hF35) hn hs34) ?_
  rintro e41 W40 ⟨m30, cs31, rfl, hm32, Hn37⟩; refine ⟨_, rfl, ?_⟩
  have H42 : St w No [hM aO m30 cs31, aV gc 157 A bs.length cb, hR aO 56 (.slice B6 X7.length c8) X7] W40 := hfr36 (_ :: [_]) _ Hn37; clear H28
  have e43 : aZ m30 = m30.Name.size + bZ aX m30.Methods := rfl
  have e44 : bZ aX m30.Methods = m30.Methods.length + sumS aX m30.Methods := rfl
  refine aA ?_
  refine gW rfl Try.runUnderlying46 Try.sizeOf56 kD Try.zeroValue56 rfl (bG (H42.kn 0 rfl)) rfl rfl H42 ?_
  intro g_5_3 W45 hu46 Ha47; clear H42; clear hu46
  refine aA ?_
  have H51 : St w No [hR aO 56 (.slice B6 X7.length c8) X7, hB g_5_3 56 (List.toArray cs31), hM aO m30 cs31, aV gc 157 A bs.length cb] W45 := Ha47.pick [3, 0, 1, 2] kD rfl; clear Ha47
  refine gY (xs := X7) (p := m30) (n' := (X7 ++ [m30]).length) (ys := (X7 ++ [m30])) rfl Try.underlying46 ki_Script_info rfl kD kD rfl rfl (by show (X7.length + _) * _ ≤ _; have h := hX9; unfold bZ at h; first | omega | (simp only [List.length_cons, List.length_nil]; omega)) (by rw [List.length_append]; rfl) rfl rfl rfl H51 ?_
  intro B_5_4 c_5_4 W49 Ha50; clear H51
  refine aA ?_
  refine aB rfl (aG rfl) rfl rfl ?_
  refine aF ?_
  refine dR ?_
  refine aH ?_
  refine wp_seq ?_
  refine aI [0, 1] rfl ?_
  refine aA ?_
  refine aB rfl (aC rfl) rfl rfl ?_
  refine aA ?_
  refine aB rfl (aG rfl) rfl rfl ?_
  refine aF ?_
  refine aH ?_
  refine wp_ret ?_
  refine aM (.inl rfl) Try.results23 rfl ?_
  have hz := szB aZ X7 [m30]
  have hz2 : bZ aZ [m30] = 1 + (aZ m30 + 0) := rfl
  exact ⟨_, (X7 ++ [m30]), _, rfl, by omega, (Ha50.pick [0] kD rfl).star, Ha50.1⟩
 ·refine wp_seq ?_
  refine aI [0, 1] rfl ?_
  refine aA ?_
  refine aB rfl (bD rfl rfl) rfl rfl ?_
  refine aA ?_
  refine aB rfl (aG rfl) rfl rfl ?_
  refine aF ?_
  refine aH ?_
  refine aW rfl (fun hc53 => ?_) (fun hc53 => ?_)
  ·refine aI [0, 1, 2, 3, 4, 5, 6, 7, 8, 9, 10, 11] rfl ?_
   refine aA ?_
   refine aB rfl (aC rfl) rfl rfl ?_
   refine aA ?_
   refine aB rfl (aC rfl) rfl rfl ?_
   refine aA ?_
   obtain ⟨F57, hs58, hF59, hfr60⟩ := St.frame (l0 := [aV gc 157 A bs.length cb]) (l := [hR aO 56 (.slice B6 X7.length c8) X7]) H28
   refine aK rfl Try.call68 (vs := #[.pointer (some ⟨gc, 0, none⟩), .string (⟨#[97]⟩)]) rfl rfl rfl (iA ⟨#[97]⟩ _ _ _ _ _ _ (CV.step hV H28.1 hF59) hn hs58) ?_
   rintro e65 W64 ⟨m54, cs55, rfl, hm56, Hn61⟩; refine ⟨_, rfl, ?_⟩
   have H66 : St w No [hM aO m54 cs55, aV gc 157 A bs.length cb, hR aO 56 (.slice B6 X7.length c8) X7] W64 := hfr60 (_ :: [_]) _ Hn61; clear H28
   have hm56x : aZ m54 ≤ 8 + 900 := Nat.le_trans hm56 (Nat.add_le_add_right (Nat.le_of_ble_eq_true rfl) _)
   have e67 : aZ m54 = m54.Name.size + bZ aX m54.Methods := rfl
   have e68 : bZ aX m54.Methods = m54.Methods.length + sumS aX m54.Methods := rfl
   obtain ⟨F69, hM70, hb71⟩ := H66.unM
   obtain ⟨B62, c63, rfl, hst72⟩ := dX hM70
   have H73 : St w No [hR aL 51 (.slice B62 m54.Methods.length c63) m54.Methods, aV gc 157 A bs.length cb, hR aO 56 (.slice B6 X7.length c8) X7] W64 := hb71 _ hst72; clear H66
   refine aA ?_
   refine aB rfl (aC rfl) rfl rfl ?_
   refine aA ?_
   have H77 : St w No [aV gc 157 A bs.length cb, hR aL 51 (.slice B62 m54.Methods.length c63) m54.Methods, hR aO 56 (.slice B6 X7.length c8) X7] W64 := H73.pick [1, 0, 2] kD rfl; clear H73
   obtain ⟨F78, hs79, hF80, hfr81⟩ := St.frame (l0 := [aV gc 157 A bs.length cb]) (l := [hR aL 51 (.slice B62 m54.Methods.length c63) m54.Methods, hR aO 56 (.slice B6 X7.length c8) X7]) H77
   refine aK rfl Try.call68 (vs := #[.pointer (some ⟨gc, 0, none⟩), .string (⟨#[98]⟩)]) rfl rfl rfl (iA ⟨#[98]⟩ _ _ _ _ _ _ (CV.step hV H77.1 hF80) hn hs79) ?_
   rintro e86 W85 ⟨m74, cs75, rfl, hm76, Hn82⟩; refine ⟨_, rfl, ?_⟩
   have H87 : St w No [hM aO m74 cs75, aV gc 157 A bs.length cb, hR aL 51 (.slice B62 m54.Methods.length c63) m54.Methods, hR aO 56 (.slice B6 X7.length c8) X7] W85 := hfr81 (_ :: [_]) _ Hn82; clear H77
   have hm76x : aZ m74 ≤ 8 + 900 := Nat.le_trans hm76 (Nat.add_le_add_right (Nat.le_of_ble_eq_true rfl) _)
   have e88 : aZ m74 = m74.Name.size + bZ aX m74.Methods := rfl
   have e89 : bZ aX m74.Methods = m74.Methods.length + sumS aX m74.Methods := rfl
   obtain ⟨F90, hM91, hb92⟩ := H87.unM
   obtain ⟨B83, c84, rfl, hst93⟩ := dX hM91
   have H94 : St w No [hR aL 51 (.slice B83 m74.Methods.length c84) m74.Methods, aV gc 157 A bs.length cb, hR aL 51 (.slice B62 m54.Methods.length c63) m54.Methods, hR aO 56 (.slice B6 X7.length c8) X7] W85 := hb92 _ hst93; clear H87
   refine aA ?_
   refine aB rfl (aC rfl) rfl rfl ?_
   refine aA ?_
   have H98 : St w No [aV gc 157 A bs.length cb, hR aL 51 (.slice B83 m74.Methods.length c84) m74.Methods, hR aL 51 (.slice B62 m54.Methods.length c63) m54.Methods, hR aO 56 (.slice B6 X7.length c8) X7] W85 := H94.pick [1, 0, 2, 3] kD rfl; clear H94
   obtain ⟨F99, hs100, hF101, hfr102⟩ := St.frame (l0 := [aV gc 157 A bs.length cb]) (l := [hR aL 51 (.slice B83 m74.Methods.length c84) m74.Methods, hR aL 51 (.slice B62 m54.Methods.length c63) m54.Methods, hR aO 56 (.slice B6 X7.length c8) X7]) H98
   refine aK rfl Try.call68 (vs := #[.pointer (some ⟨gc, 0, none⟩), .string (⟨#[99]⟩)]) rfl rfl rfl (iA ⟨#[99]⟩ _ _ _ _ _ _ (CV.step hV H98.1 hF101) hn hs100) ?_
   rintro e107 W106 ⟨m95, cs96, rfl, hm97, Hn103⟩; refine ⟨_, rfl, ?_⟩
   have H108 : St w No [hM aO m95 cs96, aV gc 157 A bs.length cb, hR aL 51 (.slice B83 m74.Methods.length c84) m74.Methods, hR aL 51 (.slice B62 m54.Methods.length c63) m54.Methods, hR aO 56 (.slice B6 X7.length c8) X7] W106 := hfr102 (_ :: [_]) _ Hn103; clear H98
   have hm97x : aZ m95 ≤ 8 + 900 := Nat.le_trans hm97 (Nat.add_le_add_right (Nat.le_of_ble_eq_true rfl) _)
   have e109 : aZ m95 = m95.Name.size + bZ aX m95.Methods := rfl
   have e110 : bZ aX m95.Methods = m95.Methods.length + sumS aX m95.Methods := rfl
   obtain ⟨F111, hM112, hb113⟩ := H108.unM
   obtain ⟨B104, c105, rfl, hst114⟩ := dX hM112
   have H115 : St w No [hR aL 51 (.slice B104 m95.Methods.length c105) m95.Methods, aV gc 157 A bs.length cb, hR aL 51 (.slice B83 m74.Methods.length c84) m74.Methods, hR aL 51 (.slice B62 m54.Methods.length c63) m54.Methods, hR aO 56 (.slice B6 X7.length c8) X7] W106 := hb113 _ hst114; clear H108
   refine aA ?_
   refine aB rfl (aC rfl) rfl rfl ?_
   refine aA ?_
   have H119 : St w No [aV gc 157 A bs.length cb, hR aL 51 (.slice B104 m95.Methods.length c105) m95.Methods, hR aL 51 (.slice B83 m74.Methods.length c84) m74.Methods, hR aL 51 (.slice B62 m54.Methods.length c63) m54.Methods, hR aO 56 (.slice B6 X7.length c8) X7] W106 := H115.pick [1, 0, 2, 3, 4] kD rfl; clear H115
   obtain ⟨F120, hs121, hF122, hfr123⟩ := St.frame (l0 := [aV gc 157 A bs.length cb]) (l := [hR aL 51 (.slice B104 m95.Methods.length c105) m95.Methods, hR aL 51 (.slice B83 m74.Methods.length c84) m74.Methods, hR aL 51 (.slice B62 m54.Methods.length c63) m54.Methods, hR aO 56 (.slice B6 X7.length c8) X7]) H119
   refine aK rfl Try.call68 (vs := #[.pointer (some ⟨gc, 0, none⟩), .string (⟨#[100]⟩)]) rfl rfl rfl (iA ⟨#[100]⟩ _ _ _ _ _ _ (CV.step hV H119.1 hF122) hn hs121) ?_
   rintro e128 W127 ⟨m116, cs117, rfl, hm118, Hn124⟩; refine ⟨_, rfl, ?_⟩
   have H129 : St w No [hM aO m116 cs117, aV gc 157 A bs.length cb, hR aL 51 (.slice B104 m95.Methods.length c105) m95.Methods, hR aL 51 (.slice B83 m74.Methods.length c84) m74.Methods, hR aL 51 (.slice B62 m54.Methods.length c63) m54.Methods, hR aO 56 (.slice B6 X7.length c8) X7] W127 := hfr123 (_ :: [_]) _ Hn124; clear H119
   have hm118x : aZ m116 ≤ 8 + 900 := Nat.le_trans hm118 (Nat.add_le_add_right (Nat.le_of_ble_eq_true rfl) _)
   have e130 : aZ m116 = m116.Name.size + bZ aX m116.Methods := rfl
   have e131 : bZ aX m116.Methods = m116.Methods.length + sumS aX m116.Methods := rfl
   obtain ⟨F132, hM133, hb134⟩ := H129.unM
   obtain ⟨B125, c126, rfl, hst135⟩ := dX hM133
   have H136 : St w No [hR aL 51 (.slice B125 m116.Methods.length c126) m116.Methods, aV gc 157 A bs.length cb, hR aL 51 (.slice B104 m95.Methods.length c105) m95.Methods, hR aL 51 (.slice B83 m74.Methods.length c84) m74.Methods, hR aL 51 (.slice B62 m54.Methods.length c63) m54.Methods, hR aO 56 (.slice B6 X7.length c8) X7] W127 := hb134 _ hst135; clear H129
   refine aA ?_
   refine bT (vs := [(0, .agg #[.string (m54.Name), .slice B62 m54.Methods.length c63]), (1, .agg #[.string (m74.Name), .slice B83 m74.Methods.length c84]), (2, .agg #[.string (m95.Name), .slice B104 m95.Methods.length c105]), (3, .agg #[.string (m116.Name), .slice B125 m116.Methods.length c126])]) (cells := #[.string (m54.Name), .slice B62 m54.Methods.length c63, .string (m74.Name), .slice B83 m74.Methods.length c84, .string (m95.Name), .slice B104 m95.Methods.length c105, .string (m116.Name), .slice B125 m116.Methods.length c126]) rfl Try.runUnderlying46 Try.sizeOf56 Try.zeroValue56 rfl kD kD kR rfl rfl H136 ?_
   intro g_7_9 W137 hu138 Ha139; clear H136
   have H140 : St w No [hR aL 51 (.slice B62 m54.Methods.length c63) m54.Methods, hB g_7_9 56 #[.string (m54.Name), .slice B62 m54.Methods.length c63, .string (m74.Name), .slice B83 m74.Methods.length c84, .string (m95.Name), .slice B104 m95.Methods.length c105, .string (m116.Name), .slice B125 m116.Methods.length c126], hR aL 51 (.slice B125 m116.Methods.length c126) m116.Methods, aV gc 157 A bs.length cb, hR aL 51 (.slice B104 m95.Methods.length c105) m95.Methods, hR aL 51 (.slice B83 m74.Methods.length c84) m74.Methods, hR aO 56 (.slice B6 X7.length c8) X7] W137 := Ha139.pick [5, 0, 1, 2, 3, 4, 6] kD rfl; clear Ha139
   have H141 : St w No [hM aO m54 [.string (m54.Name), .slice B62 m54.Methods.length c63], hB g_7_9 56 #[.string (m54.Name), .slice B62 m54.Methods.length c63, .string (m74.Name), .slice B83 m74.Methods.length c84, .string (m95.Name), .slice B104 m95.Methods.length c105, .string (m116.Name), .slice B125 m116.Methods.length c126], hR aL 51 (.slice B125 m116.Methods.length c126) m116.Methods, aV gc 157 A bs.length cb, hR aL 51 (.slice B104 m95.Methods.length c105) m95.Methods, hR aL 51 (.slice B83 m74.Methods.length c84) m74.Methods, hR aO 56 (.slice B6 X7.length c8) X7] W137 := H140.swap (l0 := [hR aL 51 (.slice B62 m54.Methods.length c63) m54.Methods]) (l' := [hM aO m54 [.string (m54.Name), .slice B62 m54.Methods.length c63]]) (fun _ h => Star.one (cZ (x := m54) h)); clear H140
   have H142 : St w No [hR aL 51 (.slice B83 m74.Methods.length c84) m74.Methods, hM aO m54 [.string (m54.Name), .slice B62 m54.Methods.length c63], hB g_7_9 56 #[.string (m54.Name), .slice B62 m54.Methods.length c63, .string (m74.Name), .slice B83 m74.Methods.length c84, .string (m95.Name), .slice B104 m95.Methods.length c105, .string (m116.Name), .slice B125 m116.Methods.length c126], hR aL 51 (.slice B125 m116.Methods.length c126) m116.Methods, aV gc 157 A bs.length cb, hR aL 51 (.slice B104 m95.Methods.length c105) m95.Methods, hR aO 56 (.slice B6 X7.length c8) X7] W137 := H141.pick [5, 0, 1, 2, 3, 4, 6] kD rfl; clear H141
   have H143 : St w No [hM aO m74 [.string (m74.Name), .slice B83 m74.Methods.length c84], hM aO m54 [.string (m54.Name), .slice B62 m54.Methods.length c63], hB g_7_9 56 #[.string (m54.Name), .slice B62 m54.Methods.length c63, .string (m74.Name), .slice B83 m74.Methods.length c84, .string (m95.Name), .slice B104 m95.Methods.length c105, .string (m116.Name), .slice B125 m116.Methods.length c126], hR aL 51 (.slice B125 m116.Methods.length c126) m116.Methods, aV gc 157 A bs.length cb, hR aL 51 (.slice B104 m95.Methods.length c105) m95.Methods, hR aO 56 (.slice B6 X7.length c8) X7] W137 := H142.swap (l0 := [hR aL 51 (.slice B83 m74.Methods.length c84) m74.Methods]) (l' := [hM aO m74 [.string (m74.Name), .slice B83 m74.Methods.length c84]]) (fun _ h => Star.one (cZ (x := m74) h)); clear H142
   have H144 : St w No [hR aL 51 (.slice B104 m95.Methods.length c105) m95.Methods, hM aO m74 [.string (m74.Name), .slice B83 m74.Methods.length c84], hM aO m54 [.string (m54.Name), .slice B62 m54.Methods.length c63], hB g_7_9 56 #[.string (m54.Name), .slice B62 m54.Methods.length c63, .string (m74.Name), .slice B83 m74.Methods.length c84, .string (m95.Name), .slice B104 m95.Methods.length c105, .string (m116.Name), .slice B125 m116.Methods.length c126], hR aL 51 (.slice B125 m116.Methods.length c126) m116.Methods, aV gc 157 A bs.length cb, hR aO 56 (.slice B6 X7.length c8) X7] W137 := H143.pick [5, 0, 1, 2, 3, 4, 6] kD rfl; clear H143
   have H145 : St w No [hM aO m95 [.string (m95.Name), .slice B104 m95.Methods.length c105], hM aO m74 [.string (m74.Name), .slice B83 m74.Methods.length c84], hM aO m54 [.string (m54.Name), .slice B62 m54.Methods.length c63], hB g_7_9 56 #[.string (m54.Name), .slice B62 m54.Methods.length c63, .string (m74.Name), .slice B83 m74.Methods.length c84, .string (m95.Name), .slice B104 m95.Methods.length c105, .string (m116.Name), .slice B125 m116.Methods.length c126], hR aL 51 (.slice B125 m116.Methods.length c126) m116.Methods, aV gc 157 A bs.length cb, hR aO 56 (.slice B6 X7.length c8) X7] W137 := H144.swap (l0 := [hR aL 51 (.slice B104 m95.Methods.length c105) m95.Methods]) (l' := [hM aO m95 [.string (m95.Name), .slice B104 m95.Methods.length c105]]) (fun _ h => Star.one (cZ (x := m95) h)); clear H144
   have H146 : St w No [hR aL 51 (.slice B125 m116.Methods.length c126) m116.Methods, hM aO m95 [.string (m95.Name), .slice B104 m95.Methods.length c105], hM aO m74 [.string (m74.Name), .slice B83 m74.Methods.length c84], hM aO m54 [.string (m54.Name), .slice B62 m54.Methods.length c63], hB g_7_9 56 #[.string (m54.Name), .slice B62 m54.Methods.length c63, .string (m74.Name), .slice B83 m74.Methods.length c84, .string (m95.Name), .slice B104 m95.Methods.length c105, .string (m116.Name), .slice B125 m116.Methods.length c126], aV gc 157 A bs.length cb, hR aO 56 (.slice B6 X7.length c8) X7] W137 := H145.pick [4, 0, 1, 2, 3, 5, 6] kD rfl; clear H145
   have H147 : St w No [hM aO m116 [.string (m116.Name), .slice B125 m116.Methods.length c126], hM aO m95 [.string (m95.Name), .slice B104 m95.Methods.length c105], hM aO m74 [.string (m74.Name), .slice B83 m74.Methods.length c84], hM aO m54 [.string (m54.Name), .slice B62 m54.Methods.length c63], hB g_7_9 56 #[.string (m54.Name), .slice B62 m54.Methods.length c63, .string (m74.Name), .slice B83 m74.Methods.length c84, .string (m95.Name), .slice B104 m95.Methods.length c105, .string (m116.Name), .slice B125 m116.Methods.length c126], aV gc 157 A bs.length cb, hR aO 56 (.slice B6 X7.length c8) X7] W137 := H146.swap (l0 := [hR aL 51 (.slice B125 m116.Methods.length c126) m116.Methods]) (l' := [hM aO m116 [.string (m116.Name), .slice B125 m116.Methods.length c126]]) (fun _ h => Star.one (cZ (x := m116) h)); clear H146
   have H148 : St w No [hB g_7_9 56 #[.string (m54.Name), .slice B62 m54.Methods.length c63, .string (m74.Name), .slice B83 m74.Methods.length c84, .string (m95.Name), .slice B104 m95.Methods.length c105, .string (m116.Name), .slice B125 m116.Methods.length c126], hM aO m54 [.string (m54.Name), .slice B62 m54.Methods.length c63], hM aO m74 [.string (m74.Name), .slice B83 m74.Methods.length c84], hM aO m95 [.string (m95.Name), .slice B104 m95.Methods.length c105], hM aO m116 [.string (m116.Name), .slice B125 m116.Methods.length c126], aV gc 157 A bs.length cb, hR aO 56 (.slice B6 X7.length c8) X7] W137 := H147.pick [4, 3, 2, 1, 0, 5, 6] kD rfl; clear H147
   have Hb149 := St.lit (dk := aO) [(m54, [.string (m54.Name), .slice B62 m54.Methods.length c63]), (m74, [.string (m74.Name), .slice B83 m74.Methods.length c84]), (m95, [.string (m95.Name), .slice B104 m95.Methods.length c105]), (m116, [.string (m116.Name), .slice B125 m116.Methods.length c126])] H148 (by intro z hz; simp only [List.map_cons, List.map_nil, List.mem_cons, List.not_mem_nil, or_false] at hz; rcases hz with rfl | rfl | rfl | rfl <;> rfl) rfl (Nat.le_of_ble_eq_true rfl)
   have H150 : St w No [hR aO 56 (.slice (some ⟨g_7_9, 0, none⟩) ([m54, m74, m95, m116].length) 4) ([m54, m74, m95, m116]), aV gc 157 A bs.length cb, hR aO 56 (.slice B6 X7.length c8) X7] W137 := Hb149; clear Hb149; clear hu138
   refine aA ?_
   have H153 : St w No [hR aO 56 (.slice B6 X7.length c8) X7, hR aO 56 (.slice (some ⟨g_7_9, 0, none⟩) ([m54, m74, m95, m116].length) 4) ([m54, m74, m95, m116]), aV gc 157 A bs.length cb] W137 := H150.pick [2, 0, 1] kD rfl; clear H150
   refine op_appendR' (xs := X7) (ys := [m54, m74, m95, m116]) (n' := (X7 ++ [m54, m74, m95, m116]).length) (zs := (X7 ++ [m54, m74, m95, m116])) rfl Try.underlying46 ki_Script_info rfl kD kD rfl rfl (by show (X7.length + _) * _ ≤ _; have h := hX9; unfold bZ at h; first | omega | (simp only [List.length_cons, List.length_nil]; omega)) (List.length_append ..).symm rfl rfl rfl H153 ?_
   intro B_7_10 c_7_10 W151 Ha152; clear H153
   refine aA ?_
   refine aB rfl (aG rfl) rfl rfl ?_
   refine aF ?_
   refine dR ?_
   refine aH ?_
   refine wp_seq ?_
   refine aI [0, 1] rfl ?_
   refine aA ?_
   refine aB rfl (aC rfl) rfl rfl ?_
   refine aA ?_
   refine aB rfl (aG rfl) rfl rfl ?_
   refine aF ?_
   refine aH ?_
   refine wp_ret ?_
   refine aM (.inl rfl) Try.results23 rfl ?_
   have hz := szB aZ X7 [m54, m74, m95, m116]
   have hz2 : bZ aZ [m54, m74, m95, m116] = 4 + (aZ m54 + (aZ m74 + (aZ m95 + (aZ m116 + 0)))) := rfl
   exact ⟨_, (X7 ++ [m54, m74, m95, m116]), _, rfl, by omega, (Ha152.pick [0] kD rfl).star, Ha152.1⟩
  ·refine wp_skip ?_
   refine dR ?_
   refine aH ?_
   refine wp_seq ?_
   refine aI [0, 1] rfl ?_
   refine aA ?_
   refine aB rfl (aC rfl) rfl rfl ?_
   refine aA ?_
   refine aB rfl (aG rfl) rfl rfl ?_
   refine aF ?_
   refine aH ?_
   refine wp_ret ?_
   refine aM (.inl rfl) Try.results23 rfl ?_
   exact ⟨_, X7, _, rfl, by omega, (H28.pick [1] kD rfl).star, H28.1⟩
theorem eqI_Instr (l k : List GInstr) (A A' : Option Addr) (c c' : Nat) (w : World) (h : C bF w A l) (h' : C bF w A' k) : Calls Try.prog 71 #[.slice A l.length c, .slice A' k.length c'] w (bY (eqlS bE l k) w) := by
 have nx := h.1
 refine enter 26 [(0, .slice A l.length c), (1, .slice A' k.length c')] Try.func71 rfl kR ?_
 intro xj
 have H1 : St w No [] w := St.enter
 refine wp_seq ?_
 refine aI [0] rfl ?_
 refine aA ?_
 refine aB rfl (aG rfl) rfl rfl ?_
 refine aF ?_
 refine aH ?_
 refine wp_seq ?_
 refine wp_seq ?_
 refine aI [0, 1, 2, 3, 4] rfl ?_
 refine aA ?_
 refine aB rfl (aC rfl) rfl rfl ?_
 refine aA ?_
 refine aB rfl (dG Try.runUnderlying49 rfl) rfl rfl ?_
 refine aA ?_
 refine aB rfl (aC rfl) rfl rfl ?_
 refine aA ?_
 refine aB rfl (dG Try.runUnderlying49 rfl) rfl rfl ?_
 by_cases hg2 : ¬ ((l.length : Nat) : Int) = (k.length : Nat)
 ·refine aA ?_
  refine aB rfl (bQ hg2 (gM rfl rfl)) rfl rfl ?_
  refine aF ?_
  refine aH ?_
  refine fI rfl ?_
  refine wp_seq ?_
  refine aI [0] rfl ?_
  refine aA ?_
  refine aB rfl (aG rfl) rfl rfl ?_
  refine aF ?_
  refine aH ?_
  refine wp_ret ?_
  refine aR ?_
  have hz3 : ∀ f, eqlS f l k = false := fun f => eqlS_len f l k kO
  have hr4 : eqlS bE l k = false := by simp [hz3]
  refine aM (.inl rfl) Try.results71 rfl ?_
  rw [hr4]
  exact ⟨rfl, H1.1⟩
 ·refine aA ?_
  refine aB rfl (bS hg2 (gM rfl rfl)) rfl rfl ?_
  refine aF ?_
  refine aH ?_
  refine gI rfl ?_
  refine wp_skip ?_
  refine aH ?_
  refine wp_seq ?_
  refine wp_seq ?_
  refine aI [0, 1, 2] rfl ?_
  refine aA ?_
  refine aB rfl (aC rfl) rfl rfl ?_
  refine aA ?_
  refine aB rfl (dG Try.runUnderlying49 rfl) rfl rfl ?_
  refine aA ?_
  refine aB rfl (aC rfl) rfl rfl ?_
  refine aF ?_
  refine aH ?_
  refine wp_block ?_
  refine wp_loop_ghost (fun r a' W' => ∃ (i1 : Nat) (x' : Nat → Value), a' = bC 26 x' [(0, .slice A l.length c), (1, .slice A' k.length c'), (12, .int .i64 ((l.length : Nat))), (13, .int .i64 (((i1 : Nat) : Int)))] ∧ (i1 + r = l.length) ∧ (eqlS bE l k = eqlS bE (l.drop i1) (k.drop i1)) ∧ St w No [] W') l.length ?_ ?_
  ·exact (bJ [(0, .slice A l.length c), (1, .slice A' k.length c'), (12, .int .i64 ((l.length : Nat))), (13, .int .i64 (((0 : Nat) : Int)))] rfl).elim fun x' hx => ⟨0, x', hx, kO, rfl, H1⟩
  ·rintro r5 _ W6 ⟨i1, x7, rfl, hi1, hf1, H8⟩; clear H1
   refine wp_seq ?_
   refine aI [0] rfl ?_
   refine aA ?_
   refine aB rfl (eY rfl rfl) rfl rfl ?_
   refine aF ?_
   refine aH ?_
   refine wp_seq ?_
   refine aW rfl (fun hc9 => ?_) (fun hc9 => ?_)
   ·have hlt1 : i1 < l.length := by omega
    have hlu1 : i1 < k.length := by omega
    obtain ⟨ade10, cse10, hAe10, hKe10, hce10⟩ := eD h i1 hlt1
    have hle10 := gQ hKe10
    have hoe10 := gT hKe10
    obtain ⟨ade11, cse11, hAe11, hKe11, hce11⟩ := eD h' i1 hlu1
    have hle11 := gQ hKe11
    have hoe11 := gT hKe11
    obtain rfl := fD hKe10
    obtain rfl := fD hKe11
    refine wp_skip ?_
    refine aH ?_
    refine wp_seq ?_
    refine wp_block ?_
    refine wp_seq ?_
    refine aI [0, 1] rfl ?_
    refine aA ?_
    refine aB rfl (aC rfl) rfl rfl ?_
    refine aA ?_
    refine aB rfl (aG rfl) rfl rfl ?_
    refine aF ?_
    refine aH ?_
    refine wp_seq ?_
    by_cases hg12 : (bE (l[i1]) (k[i1])) = true
    ·refine dF (fun W' => Cat W' (Addr.add ade10 (i1 * 6)) [.int .i64 (l[i1].Op), .int .i64 (l[i1].A), .int .i64 (l[i1].B), .int .i64 (l[i1].C), .int .i64 (l[i1].D), .string (l[i1].Name)] ∧ Cat W' (Addr.add ade11 (i1 * 6)) [.int .i64 (k[i1].Op), .int .i64 (k[i1].A), .int .i64 (k[i1].B), .int .i64 (k[i1].C), .int .i64 (k[i1].D), .string (k[i1].Name)]) 9 kR ?_
     have H13 := H8.drew; clear H8
     have hS14 : Cat W6.drew (Addr.add ade10 (i1 * 6)) [.int .i64 (l[i1].Op), .int .i64 (l[i1].A), .int .i64 (l[i1].B), .int .i64 (l[i1].C), .int .i64 (l[i1].D), .string (l[i1].Name)] ∧ Cat W6.drew (Addr.add ade11 (i1 * 6)) [.int .i64 (k[i1].Op), .int .i64 (k[i1].A), .int .i64 (k[i1].B), .int .i64 (k[i1].C), .int .i64 (k[i1].D), .string (k[i1].Name)] := ⟨(Cat.upd hce10 H13.1), (Cat.upd hce11 H13.1)⟩
     refine aP (i := 0) rfl kR kR kR kR kR (fun _ _ _ h => h) rfl rfl hS14 (fun W' hs' => aC rfl) ?_
     refine aP (i := 1) rfl kR kR kR kR kR (fun _ _ _ h => h) rfl rfl hS14 (fun W' hs' => aC rfl) ?_
     refine aP (i := 2) rfl kR kR kR kR kR (fun _ _ _ h => h) rfl rfl hS14 (fun W' hs' => bW (k := i1) Try.runUnderlying49 Try.sizeOf118 rfl rfl hAe10 hlt1) ?_
     refine aP (i := 3) rfl kR kR kR kR kR (fun _ _ _ h => h) rfl rfl hS14 (fun W' hs' => eF Try.isAgg118 Try.sizeOf118 rfl hs'.1 rfl) ?_
     refine aP (i := 4) rfl kR kR kR kR kR (fun _ _ _ h => h) rfl rfl hS14 (fun W' hs' => aC rfl) ?_
     refine aP (i := 5) rfl kR kR kR kR kR (fun _ _ _ h => h) rfl rfl hS14 (fun W' hs' => aC rfl) ?_
     refine aP (i := 6) rfl kR kR kR kR kR (fun _ _ _ h => h) rfl rfl hS14 (fun W' hs' => bW (k := i1) Try.runUnderlying49 Try.sizeOf118 rfl rfl hAe11 hlu1) ?_
     refine aP (i := 7) rfl kR kR kR kR kR (fun _ _ _ h => h) rfl rfl hS14 (fun W' hs' => eF Try.isAgg118 Try.sizeOf118 rfl hs'.2 rfl) ?_
     refine aP (i := 8) rfl kR kR kR kR kR (fun _ _ _ h => h) rfl rfl hS14 (fun W' hs' => bM (b := !(bE (l[i1]) (k[i1]))) (by rw [hg12]) (rn_neqA Try.eqGuardType118 rfl rfl (dB (l[i1]) (k[i1]) _ 9998))) ?_
     refine dA kR ?_ _
     refine aH ?_
     refine gI rfl ?_
     refine wp_skip ?_
     refine dR ?_
     refine aH ?_
     refine aI [0, 1] rfl ?_
     refine aA ?_
     refine aB rfl (fJ (k := i1) rfl rfl kO) rfl rfl ?_
     refine aA ?_
     refine aB rfl (aC rfl) rfl rfl ?_
     refine aF ?_
     refine aH ?_
     exact (bJ [(0, .slice A l.length c), (1, .slice A' k.length c'), (12, .int .i64 ((l.length : Nat))), (13, .int .i64 (((i1 + 1 : Nat) : Int)))] rfl).elim fun x' hx => ⟨r5 - 1, kO, i1 + 1, x', hx, kO, (hf1.trans (eqlS_yes bE l k i1 hlt1 hlu1 hg12)), H13⟩
    ·refine dF (fun W' => Cat W' (Addr.add ade10 (i1 * 6)) [.int .i64 (l[i1].Op), .int .i64 (l[i1].A), .int .i64 (l[i1].B), .int .i64 (l[i1].C), .int .i64 (l[i1].D), .string (l[i1].Name)] ∧ Cat W' (Addr.add ade11 (i1 * 6)) [.int .i64 (k[i1].Op), .int .i64 (k[i1].A), .int .i64 (k[i1].B), .int .i64 (k[i1].C), .int .i64 (k[i1].D), .string (k[i1].Name)]) 9 kR ?_
     have H15 := H8.drew; clear H8
     have hS16 : Cat W6.drew (Addr.add ade10 (i1 * 6)) [.int .i64 (l[i1].Op), .int .i64 (l[i1].A), .int .i64 (l[i1].B), .int .i64 (l[i1].C), .int .i64 (l[i1].D), .string (l[i1].Name)] ∧ Cat W6.drew (Addr.add ade11 (i1 * 6)) [.int .i64 (k[i1].Op), .int .i64 (k[i1].A), .int .i64 (k[i1].B), .int .i64 (k[i1].C), .int .i64 (k[i1].D), .string (k[i1].Name)] := ⟨(Cat.upd hce10 H15.1), (Cat.upd hce11 H15.1)⟩
     refine aP (i := 0) rfl kR kR kR kR kR (fun _ _ _ h => h) rfl rfl hS16 (fun W' hs' => aC rfl) ?_
     refine aP (i := 1) rfl kR kR kR kR kR (fun _ _ _ h => h) rfl rfl hS16 (fun W' hs' => aC rfl) ?_
     refine aP (i := 2) rfl kR kR kR kR kR (fun _ _ _ h => h) rfl rfl hS16 (fun W' hs' => bW (k := i1) Try.runUnderlying49 Try.sizeOf118 rfl rfl hAe10 hlt1) ?_
     refine aP (i := 3) rfl kR kR kR kR kR (fun _ _ _ h => h) rfl rfl hS16 (fun W' hs' => eF Try.isAgg118 Try.sizeOf118 rfl hs'.1 rfl) ?_
     refine aP (i := 4) rfl kR kR kR kR kR (fun _ _ _ h => h) rfl rfl hS16 (fun W' hs' => aC rfl) ?_
     refine aP (i := 5) rfl kR kR kR kR kR (fun _ _ _ h => h) rfl rfl hS16 (fun W' hs' => aC rfl) ?_
     refine aP (i := 6) rfl kR kR kR kR kR (fun _ _ _ h => h) rfl rfl hS16 (fun W' hs' => bW (k := i1) Try.runUnderlying49 Try.sizeOf118 rfl rfl hAe11 hlu1) ?_
     refine aP (i := 7) rfl kR kR kR kR kR (fun _ _ _ h => h) rfl rfl hS16 (fun W' hs' => eF Try.isAgg118 Try.sizeOf118 rfl hs'.2 rfl) ?_
     refine aP (i := 8) rfl kR kR kR kR kR (fun _ _ _ h => h) rfl rfl hS16 (fun W' hs' => bM (b := !(bE (l[i1]) (k[i1]))) (by rw [(eq_false_of_ne_true hg12)]) (rn_neqA Try.eqGuardType118 rfl rfl (dB (l[i1]) (k[i1]) _ 9998))) ?_
     refine dA kR ?_ _
     refine aH ?_
     refine fI rfl ?_
     refine wp_seq ?_
     refine aI [0] rfl ?_
     refine aA ?_
     refine aB rfl (aG rfl) rfl rfl ?_
     refine aF ?_
     refine aH ?_
     refine wp_ret ?_
     refine aY ?_
     refine aR ?_
     refine aR ?_
     refine aY ?_
     refine aR ?_
     have hz17 : eqlS bE l k = false := hf1.trans (eqlS_no bE l k i1 hlt1 hlu1 (eq_false_of_ne_true hg12))
     have hr18 : eqlS bE l k = false := by simp [hg12, hz17]
     refine aM (.inl rfl) Try.results71 rfl ?_
     rw [hr18]
     exact ⟨rfl, H15.1⟩
   ·have hd1 : eqlS bE l k = true := hf1.trans (eqlS_end bE l k i1 kO kO)
    refine wp_exit ?_
    refine dH ?_
    refine dH ?_
    refine inB_x ?_
    refine aH ?_
    refine wp_seq ?_
    refine aI [0] rfl ?_
    refine aA ?_
    refine aB rfl (aG rfl) rfl rfl ?_
    refine aF ?_
    refine aH ?_
    refine wp_ret ?_
    have hr19 : eqlS bE l k = true := by simp [hd1]
    refine aM (.inl rfl) Try.results71 rfl ?_
    rw [hr19]
    exact ⟨rfl, H8.1⟩
theorem eqc_Method (x y : GMethod) (cx cy : List Value) (w : World) (h : aL.K w x cx) (h' : aL.K w y cy) : Calls Try.prog 70 #[.agg cx.toArray, .agg cy.toArray] w (bY (bV x y) w) := by
 obtain ⟨Ax1, cx1, rfl, hlx1, hCx1⟩ := dI h
 obtain ⟨Ay1, cy1, rfl, hly1, hCy1⟩ := dI h'
 have nx1 := hCx1.1
 refine enter 17 [(0, .agg #[.string (x.Name), .slice Ax1 x.Code.length cx1]), (1, .agg #[.string (y.Name), .slice Ay1 y.Code.length cy1])] Try.func70 rfl kR ?_
 intro xj
 have H1 : St w No [] w := St.enter
 refine wp_seq ?_
 refine aI [0, 1, 2] rfl ?_
 refine aA ?_
 refine eG rfl rfl rfl rfl H1 ?_
 intro g_0_0 W2 hu3 Ha4; clear H1; clear hu3
 refine aA ?_
 refine eG rfl rfl rfl rfl Ha4 ?_
 intro g_0_1 W6 hu7 Ha8; clear Ha4; clear hu7
 refine aA ?_
 refine aB rfl (aG rfl) rfl rfl ?_
 refine aF ?_
 refine aH ?_
 refine wp_seq ?_
 refine aI [0, 1, 2, 3, 4, 5, 6, 7, 8, 9, 10, 11, 12] rfl ?_
 refine aA ?_
 refine aB rfl (aN gB rfl) rfl rfl ?_
 refine aA ?_
 refine aB rfl (aS (k := 0) (v := .string (x.Name)) Try.isAgg9 rfl (Ha8.blk 1 rfl) rfl) rfl rfl ?_
 refine aA ?_
 refine aB rfl (aN gB rfl) rfl rfl ?_
 refine aA ?_
 refine aB rfl (aS (k := 0) (v := .string (y.Name)) Try.isAgg9 rfl (Ha8.blk 0 rfl) rfl) rfl rfl ?_
 by_cases hg10 : (x.Name.toList == y.Name.toList) = true
 ·refine aA ?_
  refine aB rfl (bM (b := x.Name.toList == y.Name.toList) hg10 (dQ rfl rfl)) rfl rfl ?_
  refine aA ?_
  refine aB rfl (aC rfl) rfl rfl ?_
  refine aA ?_
  refine aT rfl rfl rfl rfl (fun _ ho11 => ?_)
  refine aB ho11 (aN dZ rfl) rfl rfl ?_
  refine aA ?_
  refine aT rfl rfl rfl rfl (fun _ ho12 => ?_)
  refine aB ho12 (aS (k := 1) (v := .slice Ax1 x.Code.length cx1) Try.isAgg49 rfl (Ha8.blk 1 rfl) rfl) rfl rfl ?_
  refine aA ?_
  refine aT rfl rfl rfl rfl (fun _ ho13 => ?_)
  refine aB ho13 (aN dZ rfl) rfl rfl ?_
  refine aA ?_
  refine aT rfl rfl rfl rfl (fun _ ho14 => ?_)
  refine aB ho14 (aS (k := 1) (v := .slice Ay1 y.Code.length cy1) Try.isAgg49 rfl (Ha8.blk 0 rfl) rfl) rfl rfl ?_
  by_cases hg15 : (eqlS bE x.Code y.Code) = true
  ·refine aA ?_
   refine aT rfl rfl rfl rfl (fun _ ho16 => ?_)
   refine aK ho16 Try.call71 (vs := #[.slice Ax1 x.Code.length cx1, .slice Ay1 y.Code.length cy1]) rfl rfl rfl (bI (eqI_Instr x.Code y.Code _ _ _ _ _ (dW Ha8.1 hCx1) (dW Ha8.1 hCy1)) hg15) ?_
   rintro e19 W18 ⟨rfl, hu17⟩; refine ⟨_, rfl, ?_⟩
   have H20 := Ha8.no hu17; clear Ha8
   refine aA ?_
   refine aB rfl (aJ (v := .bool (true)) (b := true) rfl rfl rfl rfl) rfl rfl ?_
   refine aA ?_
   refine aB rfl (aG rfl) rfl rfl ?_
   refine aF ?_
   refine aH ?_
   refine wp_ret ?_
   have hr21 : bV x y = true := by simp [bV, hg10, hg15]
   refine aM (.inl rfl) Try.results70 rfl ?_
   rw [hr21]
   exact ⟨rfl, H20.1⟩
  ·refine aA ?_
   refine aT rfl rfl rfl rfl (fun _ ho22 => ?_)
   refine aK ho22 Try.call71 (vs := #[.slice Ax1 x.Code.length cx1, .slice Ay1 y.Code.length cy1]) rfl rfl rfl (bI (eqI_Instr x.Code y.Code _ _ _ _ _ (dW Ha8.1 hCx1) (dW Ha8.1 hCy1)) (eq_false_of_ne_true hg15)) ?_
   rintro e25 W24 ⟨rfl, hu23⟩; refine ⟨_, rfl, ?_⟩
   have H26 := Ha8.no hu23; clear Ha8
   refine aA ?_
   refine aB rfl (aJ (v := .bool (false)) (b := true) rfl rfl rfl rfl) rfl rfl ?_
   refine aA ?_
   refine aB rfl (aG rfl) rfl rfl ?_
   refine aF ?_
   refine aH ?_
   refine wp_ret ?_
   have hr27 : bV x y = false := by simp [bV, hg10, hg15]
   refine aM (.inl rfl) Try.results70 rfl ?_
   rw [hr27]
   exact ⟨rfl, H26.1⟩
 ·refine aA ?_
  refine aB rfl (bM (b := x.Name.toList == y.Name.toList) (eq_false_of_ne_true hg10) (dQ rfl rfl)) rfl rfl ?_
  refine aA ?_
  refine aB rfl (aC rfl) rfl rfl ?_
  refine aA ?_
  refine aD rfl rfl rfl rfl rfl rfl rfl ?_
  refine aA ?_
  refine aD rfl rfl rfl rfl rfl rfl rfl ?_
  refine aA ?_
  refine aD rfl rfl rfl rfl rfl rfl rfl ?_
  refine aA ?_
  refine aD rfl rfl rfl rfl rfl rfl rfl ?_
  refine aA ?_
  refine aD rfl rfl rfl rfl rfl rfl rfl ?_
  refine aA ?_
  refine aB rfl (aJ (v := .bool (false)) (b := false) rfl rfl rfl rfl) rfl rfl ?_
  refine aA ?_
  refine aB rfl (aG rfl) rfl rfl ?_
  refine aF ?_
  refine aH ?_
  refine wp_ret ?_
  have hr28 : bV x y = false := by simp [bV, hg10]
  refine aM (.inl rfl) Try.results70 rfl ?_
  rw [hr28]
  exact ⟨rfl, Ha8.1⟩
theorem eqF_Method (l k : List GMethod) (A A' : Option Addr) (c c' : Nat) (w : World) (h : C aL w A l) (h' : C aL w A' k) : Calls Try.prog 69 #[.slice A l.length c, .slice A' k.length c', .func (.func 70) #[] #[]] w (bY (eqlS bV l k) w) := by
 have nx := h.1
 refine enter 32 [(0, .slice A l.length c), (1, .slice A' k.length c'), (2, .func (.func 70) #[] #[])] Try.func69 rfl kR ?_
 intro xj
 have H1 : St w No [] w := St.enter
 refine wp_seq ?_
 refine aI [0] rfl ?_
 refine aA ?_
 refine aB rfl (aG rfl) rfl rfl ?_
 refine aF ?_
 refine aH ?_
 refine wp_seq ?_
 refine wp_seq ?_
 refine aI [0, 1, 2, 3, 4] rfl ?_
 refine aA ?_
 refine aB rfl (aC rfl) rfl rfl ?_
 refine aA ?_
 refine aB rfl (dG Try.runUnderlying54 rfl) rfl rfl ?_
 refine aA ?_
 refine aB rfl (aC rfl) rfl rfl ?_
 refine aA ?_
 refine aB rfl (dG Try.runUnderlying54 rfl) rfl rfl ?_
 by_cases hg2 : ¬ ((l.length : Nat) : Int) = (k.length : Nat)
 ·refine aA ?_
  refine aB rfl (bQ hg2 (gM rfl rfl)) rfl rfl ?_
  refine aF ?_
  refine aH ?_
  refine fI rfl ?_
  refine wp_seq ?_
  refine aI [0] rfl ?_
  refine aA ?_
  refine aB rfl (aG rfl) rfl rfl ?_
  refine aF ?_
  refine aH ?_
  refine wp_ret ?_
  refine aR ?_
  have hz3 : ∀ f, eqlS f l k = false := fun f => eqlS_len f l k kO
  have hr4 : eqlS bV l k = false := by simp [hz3]
  refine aM (.inl rfl) Try.results69 rfl ?_
  rw [hr4]
  exact ⟨rfl, H1.1⟩
 ·refine aA ?_
  refine aB rfl (bS hg2 (gM rfl rfl)) rfl rfl ?_
  refine aF ?_
  refine aH ?_
  refine gI rfl ?_
  refine wp_skip ?_
  refine aH ?_
  refine wp_seq ?_
  refine wp_seq ?_
  refine aI [0, 1, 2] rfl ?_
  refine aA ?_
  refine aB rfl (aC rfl) rfl rfl ?_
  refine aA ?_
  refine aB rfl (dG Try.runUnderlying54 rfl) rfl rfl ?_
  refine aA ?_
  refine aB rfl (aC rfl) rfl rfl ?_
  refine aF ?_
  refine aH ?_
  refine wp_block ?_
  refine wp_loop_ghost (fun r a' W' => ∃ (i1 : Nat) (x' : Nat → Value), a' = bC 32 x' [(1, .slice A' k.length c'), (2, .func (.func 70) #[] #[]), (15, .slice A l.length c), (16, .int .i64 ((l.length : Nat))), (17, .int .i64 (((i1 : Nat) : Int)))] ∧ (i1 + r = l.length) ∧ (eqlS bV l k = eqlS bV (l.drop i1) (k.drop i1)) ∧ St w No [] W') l.length ?_ ?_
  ·exact (bJ [(1, .slice A' k.length c'), (2, .func (.func 70) #[] #[]), (15, .slice A l.length c), (16, .int .i64 ((l.length : Nat))), (17, .int .i64 (((0 : Nat) : Int)))] rfl).elim fun x' hx => ⟨0, x', hx, kO, rfl, H1⟩
  ·rintro r5 _ W6 ⟨i1, x7, rfl, hi1, hf1, H8⟩; clear H1
   refine wp_seq ?_
   refine aI [0] rfl ?_
   refine aA ?_
   refine aB rfl (eY rfl rfl) rfl rfl ?_
   refine aF ?_
   refine aH ?_
   refine wp_seq ?_
   refine aW rfl (fun hc9 => ?_) (fun hc9 => ?_)
   ·have hlt1 : i1 < l.length := by omega
    have hlu1 : i1 < k.length := by omega
    obtain ⟨ade10, cse10, hAe10, hKe10, hce10⟩ := eD h i1 hlt1
    have hle10 := cO hKe10
    have hoe10 := dJ hKe10
    obtain ⟨ade11, cse11, hAe11, hKe11, hce11⟩ := eD h' i1 hlu1
    have hle11 := cO hKe11
    have hoe11 := dJ hKe11
    refine wp_skip ?_
    refine aH ?_
    refine wp_seq ?_
    refine wp_block ?_
    refine wp_seq ?_
    refine aI [0, 1, 2, 3, 4, 5] rfl ?_
    refine aA ?_
    refine aB rfl (aC rfl) rfl rfl ?_
    refine aA ?_
    refine aB rfl (bW (k := i1) Try.runUnderlying54 Try.sizeOf51 rfl rfl hAe10 hlt1) rfl rfl ?_
    refine aA ?_
    refine aB rfl (eF Try.isAgg51 Try.sizeOf51 rfl (Cat.upd hce10 H8.1) hle10) rfl rfl ?_
    refine aA ?_
    refine dD rfl Try.zeroValue51 rfl rfl H8 ?_
    intro g_5_3 W12 hu13 Ha14; clear H8; clear hu13
    refine aA ?_
    refine aB rfl (aG rfl) rfl rfl ?_
    refine aA ?_
    refine aU rfl Try.sizeOf51 rfl rfl hle10 rfl hoe10 Ha14 ?_
    intro W16 hu17 Ha18; clear Ha14; clear hu17
    refine aF ?_
    refine aH ?_
    refine wp_seq ?_
    refine aI [0, 1, 2, 3, 4, 5] rfl ?_
    refine aA ?_
    refine aB rfl (aC rfl) rfl rfl ?_
    refine aA ?_
    refine aB rfl (aC rfl) rfl rfl ?_
    refine aA ?_
    refine aB rfl (bW (k := i1) Try.runUnderlying54 Try.sizeOf51 rfl rfl hAe11 hlu1) rfl rfl ?_
    refine aA ?_
    refine aB rfl (eF Try.isAgg51 Try.sizeOf51 rfl (Cat.upd hce11 Ha18.1) hle11) rfl rfl ?_
    refine aA ?_
    refine dD rfl Try.zeroValue51 rfl rfl Ha18 ?_
    intro g_6_4 W20 hu21 Ha22; clear Ha18; clear hu21
    refine aA ?_
    refine aU rfl Try.sizeOf51 rfl rfl hle11 rfl hoe11 Ha22 ?_
    intro W24 hu25 Ha26; clear Ha22; clear hu25
    refine aF ?_
    refine aH ?_
    refine wp_seq ?_
    refine aI [0, 1, 2, 3, 4] rfl ?_
    refine aA ?_
    refine aB rfl (aC rfl) rfl rfl ?_
    refine aA ?_
    refine aB rfl (bL Try.isAgg51 Try.sizeOf51 rfl (Ha26.blk 1 rfl) hle10) rfl rfl ?_
    refine aA ?_
    refine aB rfl (bL Try.isAgg51 Try.sizeOf51 rfl (Ha26.blk 0 rfl) hle11) rfl rfl ?_
    by_cases hg28 : bV (l[i1]) (k[i1]) = true
    ·refine aA ?_
     refine op_callF rfl rfl Try.call70 (vs := #[.agg (List.toArray cse10), .agg (List.toArray cse11)]) rfl rfl rfl (bI (eqc_Method (l[i1]) (k[i1]) _ _ _ (K_upd Ha26.1 hKe10) (K_upd Ha26.1 hKe11)) hg28) ?_
     rintro e31 W30 ⟨rfl, hu29⟩; refine ⟨_, rfl, ?_⟩
     have H32 := Ha26.no hu29; clear Ha26
     refine aA ?_
     refine aB rfl (eX rfl) rfl rfl ?_
     refine aF ?_
     refine aH ?_
     refine gI rfl ?_
     refine wp_skip ?_
     refine dR ?_
     refine aH ?_
     refine aI [0, 1] rfl ?_
     refine aA ?_
     refine aB rfl (fJ (k := i1) rfl rfl kO) rfl rfl ?_
     refine aA ?_
     refine aB rfl (aC rfl) rfl rfl ?_
     refine aF ?_
     refine aH ?_
     exact (bJ [(1, .slice A' k.length c'), (2, .func (.func 70) #[] #[]), (15, .slice A l.length c), (16, .int .i64 ((l.length : Nat))), (17, .int .i64 (((i1 + 1 : Nat) : Int)))] rfl).elim fun x' hx => ⟨r5 - 1, kO, i1 + 1, x', hx, kO, (hf1.trans (eqlS_yes bV l k i1 hlt1 hlu1 hg28)), H32.pick [] kD rfl⟩
    ·refine aA ?_
     refine op_callF rfl rfl Try.call70 (vs := #[.agg (List.toArray cse10), .agg (List.toArray cse11)]) rfl rfl rfl (bI (eqc_Method (l[i1]) (k[i1]) _ _ _ (K_upd Ha26.1 hKe10) (K_upd Ha26.1 hKe11)) (eq_false_of_ne_true hg28)) ?_
     rintro e35 W34 ⟨rfl, hu33⟩; refine ⟨_, rfl, ?_⟩
     have H36 := Ha26.no hu33; clear Ha26
     refine aA ?_
     refine aB rfl (eX rfl) rfl rfl ?_
     refine aF ?_
     refine aH ?_
     refine fI rfl ?_
     refine wp_seq ?_
     refine aI [0] rfl ?_
     refine aA ?_
     refine aB rfl (aG rfl) rfl rfl ?_
     refine aF ?_
     refine aH ?_
     refine wp_ret ?_
     refine aY ?_
     refine aR ?_
     refine aR ?_
     refine aY ?_
     refine aR ?_
     have hz37 : eqlS bV l k = false := hf1.trans (eqlS_no bV l k i1 hlt1 hlu1 (eq_false_of_ne_true hg28))
     have hr38 : eqlS bV l k = false := by simp [hg28, hz37]
     refine aM (.inl rfl) Try.results69 rfl ?_
     rw [hr38]
     exact ⟨rfl, H36.1⟩
   ·have hd1 : eqlS bV l k = true := hf1.trans (eqlS_end bV l k i1 kO kO)
    refine wp_exit ?_
    refine dH ?_
    refine dH ?_
    refine inB_x ?_
    refine aH ?_
    refine wp_seq ?_
    refine aI [0] rfl ?_
    refine aA ?_
    refine aB rfl (aG rfl) rfl rfl ?_
    refine aF ?_
    refine aH ?_
    refine wp_ret ?_
    have hr39 : eqlS bV l k = true := by simp [hd1]
    refine aM (.inl rfl) Try.results69 rfl ?_
    rw [hr39]
    exact ⟨rfl, H8.1⟩
theorem fA (x y : GScript) (cx cy : List Value) (w : World) (h : aO.K w x cx) (h' : aO.K w y cy) : Calls Try.prog 26 #[.agg cx.toArray, .agg cy.toArray] w (bY (dM x y) w) := by
 obtain ⟨Ax1, cx1, rfl, hlx1, hCx1⟩ := dP h
 obtain ⟨Ay1, cy1, rfl, hly1, hCy1⟩ := dP h'
 have nx1 := hCx1.1
 refine enter 17 [(0, .agg #[.string (x.Name), .slice Ax1 x.Methods.length cx1]), (1, .agg #[.string (y.Name), .slice Ay1 y.Methods.length cy1])] Try.func26 rfl kR ?_
 intro xj
 have H1 : St w No [] w := St.enter
 refine wp_seq ?_
 refine aI [0, 1, 2] rfl ?_
 refine aA ?_
 refine eG rfl rfl rfl rfl H1 ?_
 intro g_0_0 W2 hu3 Ha4; clear H1; clear hu3
 refine aA ?_
 refine eG rfl rfl rfl rfl Ha4 ?_
 intro g_0_1 W6 hu7 Ha8; clear Ha4; clear hu7
 refine aA ?_
 refine aB rfl (aG rfl) rfl rfl ?_
 refine aF ?_
 refine aH ?_
 refine wp_seq ?_
 refine aI [0, 1, 2, 3, 4, 5, 6, 7, 8, 9, 10, 11, 12] rfl ?_
 refine aA ?_
 refine aB rfl (aN gN rfl) rfl rfl ?_
 refine aA ?_
 refine aB rfl (aS (k := 0) (v := .string (x.Name)) Try.isAgg9 rfl (Ha8.blk 1 rfl) rfl) rfl rfl ?_
 refine aA ?_
 refine aB rfl (aN gN rfl) rfl rfl ?_
 refine aA ?_
 refine aB rfl (aS (k := 0) (v := .string (y.Name)) Try.isAgg9 rfl (Ha8.blk 0 rfl) rfl) rfl rfl ?_
 by_cases hg10 : (x.Name.toList == y.Name.toList) = true
 ·refine aA ?_
  refine aB rfl (bM (b := x.Name.toList == y.Name.toList) hg10 (dQ rfl rfl)) rfl rfl ?_
  refine aA ?_
  refine aB rfl (aC rfl) rfl rfl ?_
  refine aA ?_
  refine aT rfl rfl rfl rfl (fun _ ho11 => ?_)
  refine aB ho11 (aN dN rfl) rfl rfl ?_
  refine aA ?_
  refine aT rfl rfl rfl rfl (fun _ ho12 => ?_)
  refine aB ho12 (aS (k := 1) (v := .slice Ax1 x.Methods.length cx1) Try.isAgg54 rfl (Ha8.blk 1 rfl) rfl) rfl rfl ?_
  refine aA ?_
  refine aT rfl rfl rfl rfl (fun _ ho13 => ?_)
  refine aB ho13 (aN dN rfl) rfl rfl ?_
  refine aA ?_
  refine aT rfl rfl rfl rfl (fun _ ho14 => ?_)
  refine aB ho14 (aS (k := 1) (v := .slice Ay1 y.Methods.length cy1) Try.isAgg54 rfl (Ha8.blk 0 rfl) rfl) rfl rfl ?_
  by_cases hg15 : (eqlS bV x.Methods y.Methods) = true
  ·refine aA ?_
   refine aT rfl rfl rfl rfl (fun _ ho16 => ?_)
   refine aK ho16 Try.call69 (vs := #[.slice Ax1 x.Methods.length cx1, .slice Ay1 y.Methods.length cy1, .func (.func 70) #[] #[]]) rfl rfl rfl (bI (eqF_Method x.Methods y.Methods _ _ _ _ _ (dW Ha8.1 hCx1) (dW Ha8.1 hCy1)) hg15) ?_
   rintro e19 W18 ⟨rfl, hu17⟩; refine ⟨_, rfl, ?_⟩
   have H20 := Ha8.no hu17; clear Ha8
   refine aA ?_
   refine aB rfl (aJ (v := .bool (true)) (b := true) rfl rfl rfl rfl) rfl rfl ?_
   refine aA ?_
   refine aB rfl (aG rfl) rfl rfl ?_
   refine aF ?_
   refine aH ?_
   refine wp_ret ?_
   have hr21 : dM x y = true := by simp [dM, hg10, hg15]
   refine aM (.inl rfl) Try.results26 rfl ?_
   rw [hr21]
   exact ⟨rfl, H20.1⟩
  ·refine aA ?_
   refine aT rfl rfl rfl rfl (fun _ ho22 => ?_)
   refine aK ho22 Try.call69 (vs := #[.slice Ax1 x.Methods.length cx1, .slice Ay1 y.Methods.length cy1, .func (.func 70) #[] #[]]) rfl rfl rfl (bI (eqF_Method x.Methods y.Methods _ _ _ _ _ (dW Ha8.1 hCx1) (dW Ha8.1 hCy1)) (eq_false_of_ne_true hg15)) ?_
   rintro e25 W24 ⟨rfl, hu23⟩; refine ⟨_, rfl, ?_⟩
   have H26 := Ha8.no hu23; clear Ha8
   refine aA ?_
   refine aB rfl (aJ (v := .bool (false)) (b := true) rfl rfl rfl rfl) rfl rfl ?_
   refine aA ?_
   refine aB rfl (aG rfl) rfl rfl ?_
   refine aF ?_
   refine aH ?_
   refine wp_ret ?_
   have hr27 : dM x y = false := by simp [dM, hg10, hg15]
   refine aM (.inl rfl) Try.results26 rfl ?_
   rw [hr27]
   exact ⟨rfl, H26.1⟩
 ·refine aA ?_
  refine aB rfl (bM (b := x.Name.toList == y.Name.toList) (eq_false_of_ne_true hg10) (dQ rfl rfl)) rfl rfl ?_
  refine aA ?_
  refine aB rfl (aC rfl) rfl rfl ?_
  refine aA ?_
  refine aD rfl rfl rfl rfl rfl rfl rfl ?_
  refine aA ?_
  refine aD rfl rfl rfl rfl rfl rfl rfl ?_
  refine aA ?_
  refine aD rfl rfl rfl rfl rfl rfl rfl ?_
  refine aA ?_
  refine aD rfl rfl rfl rfl rfl rfl rfl ?_
  refine aA ?_
  refine aD rfl rfl rfl rfl rfl rfl rfl ?_
  refine aA ?_
  refine aB rfl (aJ (v := .bool (false)) (b := false) rfl rfl rfl rfl) rfl rfl ?_
  refine aA ?_
  refine aB rfl (aG rfl) rfl rfl ?_
  refine aF ?_
  refine aH ?_
  refine wp_ret ?_
  have hr28 : dM x y = false := by simp [dM, hg10]
  refine aM (.inl rfl) Try.results26 rfl ?_
  rw [hr28]
  exact ⟨rfl, Ha8.1⟩
theorem met_name {l : List GScript} {s : Int} {nm : ByteArray} (h : metB l s nm = true) : ((dO l s nm).Name.toList == nm.toList) = true := by
 unfold metB at h
 unfold dO
 obtain ⟨m, hm⟩ := Option.isSome_iff_exists.1 h
 rw [hm, Option.getD_some]
 unfold metO at hm
 split at hm
 ·obtain ⟨c, _, h2⟩ := Option.bind_eq_some_iff.1 hm
  exact List.find?_some (p := fun m : GMethod => m.Name.toList == nm.toList) h2
 ·cases hm
theorem eqlS_symm {α : Type} (f : α → α → Bool) (hf : ∀ x y, f x y = f y x) : ∀ l k : List α, eqlS f l k = eqlS f k l
 | [], [] => rfl
 | x :: l, y :: k => by simp [eqlS, hf x y, eqlS_symm f hf l k]
 | [], _ :: _ => rfl
 | _ :: _, [] => rfl
theorem gJ {α : Type} [BEq α] [LawfulBEq α] (a b : α) : (a == b) = (b == a) := by
 by_cases h : a = b
 ·rw [h]
 ·rw [beq_eq_false_iff_ne.2 h, beq_eq_false_iff_ne.2 (fun e => h e.symm)]
theorem eqb_Instr_symm (x y : GInstr) : bE x y = bE y x := by simp only [bE, gJ x.Op, gJ x.A, gJ x.B, gJ x.C, gJ x.D, gJ x.Name.toList]
theorem eqb_Method_symm (x y : GMethod) : bV x y = bV y x := by simp only [bV, gJ x.Name.toList, eqlS_symm bE eqb_Instr_symm x.Code]
theorem eqb_Script_symm (x y : GScript) : dM x y = dM y x := by simp only [dM, gJ x.Name.toList, eqlS_symm bV eqb_Method_symm x.Methods]
theorem eqb_Instr_rfl (x : GInstr) : bE x x = true := by simp [bE]
theorem eqb_Method_rfl (x : GMethod) : bV x x = true := by simp [bV, eqlS_rfl, eqb_Instr_rfl]
theorem eqb_Script_rfl (x : GScript) : dM x x = true := by simp [dM, eqlS_rfl, eqb_Method_rfl]
theorem met_len (l : List GScript) (s : Int) (nm : ByteArray) (h : bZ aZ l ≤ 3000) : (dO l s nm).Code.length ≤ 4194304 := by
 have q := metM_bd l s nm kO
 unfold aX bZ at q
 omega
theorem big_s (A : Option Addr) (n c : Nat) (w : World) : Calls Try.prog 6 #[.slice A n c] w (bY (decide ((1048576 : Int) < (n : Nat))) w) := by
 refine enter 6 [(0, .slice A n c)] Try.func6 rfl kR ?_
 intro xj
 have H1 : St w No [] w := St.enter
 refine wp_seq ?_
 refine aI [0] rfl ?_
 refine aA ?_
 refine aB rfl (aG rfl) rfl rfl ?_
 refine aF ?_
 refine aH ?_
 refine wp_seq ?_
 refine aI [0, 1, 2, 3] rfl ?_
 refine aA ?_
 refine aB rfl (aC rfl) rfl rfl ?_
 refine aA ?_
 refine aB rfl (dG Try.runUnderlying22 rfl) rfl rfl ?_
 refine aA ?_
 refine aB rfl (rn_gtr rfl rfl) rfl rfl ?_
 refine aA ?_
 refine aB rfl (aG rfl) rfl rfl ?_
 refine aF ?_
 refine aH ?_
 refine wp_ret ?_
 refine aM (.inl rfl) Try.results6 rfl ?_
 exact ⟨rfl, H1.1⟩
theorem law_FnScripts (w : World) (bs : List Int) (A : Option Addr) (cb : Nat) (hC : C Kn.u8 w A bs) (hlc : bs.length ≤ cb) (hG : bs.length ≤ 9223372036854775807 ∧ ∀ y ∈ bs, (Lit.int .u8 y).wf = true) : Calls Try.prog 4 #[.slice A bs.length cb] w (bY true w) := by
 refine enter 87 [(0, .slice A bs.length cb)] Try.func4 rfl kR ?_
 intro xj
 have H1 : St w No [] w := St.enter
 refine wp_seq ?_
 refine aI [0] rfl ?_
 refine aA ?_
 refine aB rfl (aG rfl) rfl rfl ?_
 refine aF ?_
 refine aH ?_
 refine wp_seq ?_
 refine wp_seq ?_
 refine aI [0, 1] rfl ?_
 refine aA ?_
 refine aB rfl (aC rfl) rfl rfl ?_
 refine aA ?_
 refine aK rfl Try.call6 (vs := #[.slice A bs.length cb]) rfl rfl rfl (big_s _ _ _ _) ?_
 rintro e4 W3 ⟨rfl, hu2⟩; refine ⟨_, rfl, ?_⟩
 have H5 := H1.no hu2; clear H1
 refine aF ?_
 refine aH ?_
 refine aW rfl (fun hc6 => ?_) (fun hc6 => ?_)
 ·refine wp_seq ?_
  refine aI [0] rfl ?_
  refine aA ?_
  refine aB rfl (aG rfl) rfl rfl ?_
  refine aF ?_
  refine aH ?_
  refine wp_ret ?_
  refine aR ?_
  refine aM (.inl rfl) Try.results4 rfl ?_
  exact ⟨rfl, H5.1⟩
 ·have hn : bs.length ≤ 1048576 := by omega
  refine wp_skip ?_
  refine aH ?_
  refine wp_seq ?_
  refine aI [0, 1, 2, 3, 4, 5, 6, 7, 8] rfl ?_
  refine aA ?_
  refine aB rfl (aC rfl) rfl rfl ?_
  refine aA ?_
  refine aK rfl Try.call19 (vs := #[.slice A bs.length cb]) rfl rfl rfl (drawMet_s bs cb A _ (dW H5.1 hC) hn) ?_
  rintro e10 W9 ⟨BX, X, cX, s0, nm, rfl, hX, hst7, hu8⟩; refine ⟨_, rfl, ?_⟩
  have H11 := H5.news hu8 hst7; clear H5
  refine aA ?_
  refine aB rfl (aC rfl) rfl rfl ?_
  refine aA ?_
  refine aB rfl (fB (v := .slice BX X.length cX) rfl rfl) rfl rfl ?_
  refine aA ?_
  refine aB rfl (fB (v := .int .i64 (s0)) rfl rfl) rfl rfl ?_
  refine aA ?_
  refine aB rfl (fB (v := .string (nm)) rfl rfl) rfl rfl ?_
  refine aA ?_
  refine aB rfl (aG rfl) rfl rfl ?_
  refine aA ?_
  refine aB rfl (aG rfl) rfl rfl ?_
  refine aA ?_
  refine aB rfl (aG rfl) rfl rfl ?_
  refine aF ?_
  refine aH ?_
  refine wp_seq ?_
  refine aI [0, 1, 2, 3, 4, 5, 6, 7, 8, 9] rfl ?_
  refine aA ?_
  refine aB rfl (aC rfl) rfl rfl ?_
  refine aA ?_
  refine aB rfl (aC rfl) rfl rfl ?_
  refine aA ?_
  refine aB rfl (aC rfl) rfl rfl ?_
  refine aA ?_
  refine aK rfl Try.call20 (vs := #[.slice BX X.length cX, .int .i64 (s0), .string (nm)]) rfl rfl rfl (methodOf_i X _ _ s0 nm _ (H11.rowC 0 rfl) (Nat.le_trans hX kD)) ?_
  rintro e15 W14 ⟨cs_4_3, rfl, hM12, hu13⟩; refine ⟨_, rfl, ?_⟩
  have H16 := H11.new (q := hM aL (dO X s0 nm) cs_4_3) hu13 hM12; clear H11
  refine aA ?_
  refine aB rfl (aC rfl) rfl rfl ?_
  refine aA ?_
  refine aB rfl (fB (v := .agg (List.toArray cs_4_3)) rfl rfl) rfl rfl ?_
  refine aA ?_
  refine aB rfl (fB (v := .bool (metB X s0 nm)) rfl rfl) rfl rfl ?_
  refine aA ?_
  refine dD rfl Try.zeroValue51 rfl rfl H16 ?_
  intro g_4_7 W17 hu18 Ha19; clear H16; clear hu18
  refine aA ?_
  refine aU rfl Try.sizeOf51 rfl rfl (cO (Ha19.kn 1 rfl)) rfl (dJ (Ha19.kn 1 rfl)) Ha19 ?_
  intro W21 hu22 Ha23; clear Ha19; clear hu22
  refine aA ?_
  refine aB rfl (aG rfl) rfl rfl ?_
  refine aF ?_
  refine aH ?_
  refine wp_seq ?_
  refine aI [0, 1, 2, 3, 4, 5, 6, 7, 8, 9] rfl ?_
  refine aA ?_
  refine aB rfl (aC rfl) rfl rfl ?_
  refine aA ?_
  refine aB rfl (aC rfl) rfl rfl ?_
  refine aA ?_
  refine aB rfl (aC rfl) rfl rfl ?_
  refine aA ?_
  refine aK rfl Try.call21 (vs := #[.slice BX X.length cX, .int .i64 (s0), .string (nm)]) rfl rfl rfl (methodOf_s X _ _ s0 nm _ (Ha23.rowC 2 rfl) (Nat.le_trans hX kD)) ?_
  rintro e28 W27 ⟨cs_5_3, rfl, hM25, hu26⟩; refine ⟨_, rfl, ?_⟩
  have H29 := Ha23.new (q := hM aL (dO X s0 nm) cs_5_3) hu26 hM25; clear Ha23
  refine aA ?_
  refine aB rfl (aC rfl) rfl rfl ?_
  refine aA ?_
  refine aB rfl (fB (v := .agg (List.toArray cs_5_3)) rfl rfl) rfl rfl ?_
  refine aA ?_
  refine aB rfl (fB (v := .bool (metB X s0 nm)) rfl rfl) rfl rfl ?_
  refine aA ?_
  refine dD rfl Try.zeroValue51 rfl rfl H29 ?_
  intro g_5_7 W30 hu31 Ha32; clear H29; clear hu31
  refine aA ?_
  refine aU rfl Try.sizeOf51 rfl rfl (cO (Ha32.kn 1 rfl)) rfl (dJ (Ha32.kn 1 rfl)) Ha32 ?_
  intro W34 hu35 Ha36; clear Ha32; clear hu35
  refine aA ?_
  refine aB rfl (aG rfl) rfl rfl ?_
  refine aF ?_
  refine aH ?_
  refine wp_seq ?_
  refine aI [0, 1, 2, 3, 4, 5, 6, 7, 8] rfl ?_
  refine aA ?_
  refine aB rfl (aC rfl) rfl rfl ?_
  refine aA ?_
  refine aK rfl Try.call22 (vs := #[.slice A bs.length cb]) rfl rfl rfl (drawEqs_s bs cb A _ (dW Ha36.1 hC) hn) ?_
  rintro e41 W40 ⟨p, cp, q, cq, rfl, ⟨hp, hq⟩, hst38, hu39⟩; refine ⟨_, rfl, ?_⟩
  have H42 := Ha36.news hu39 hst38; clear Ha36
  refine aA ?_
  refine aB rfl (aC rfl) rfl rfl ?_
  refine aA ?_
  refine aB rfl (fB (v := .agg (List.toArray cp)) rfl rfl) rfl rfl ?_
  refine aA ?_
  refine aB rfl (fB (v := .agg (List.toArray cq)) rfl rfl) rfl rfl ?_
  refine aA ?_
  refine dD rfl Try.zeroValue56 rfl rfl H42 ?_
  intro g_6_5 W43 hu44 Ha45; clear H42; clear hu44
  refine aA ?_
  refine dD rfl Try.zeroValue56 rfl rfl Ha45 ?_
  intro g_6_6 W47 hu48 Ha49; clear Ha45; clear hu48
  refine aA ?_
  have H54 : St w No [hB g_6_5 56 #[.string (⟨#[]⟩), .slice none 0 0], hB g_6_6 56 #[.string (⟨#[]⟩), .slice none 0 0], hM aO p cp, hM aO q cq, hB g_5_7 51 (List.toArray cs_5_3), hM aL (dO X s0 nm) cs_5_3, hB g_4_7 51 (List.toArray cs_4_3), hM aL (dO X s0 nm) cs_4_3, hR aO 56 (.slice BX X.length cX) X] W47 := Ha49.pick [1, 0, 2, 3, 4, 5, 6, 7, 8] kD rfl; clear Ha49
  refine aU rfl Try.sizeOf56 rfl rfl (bG (H54.kn 2 rfl)) rfl (dK (H54.kn 2 rfl)) H54 ?_
  intro W51 hu52 Ha53; clear H54; clear hu52
  refine aA ?_
  have H59 : St w No [hB g_6_6 56 #[.string (⟨#[]⟩), .slice none 0 0], hB g_6_5 56 (List.toArray cp), hM aO p cp, hM aO q cq, hB g_5_7 51 (List.toArray cs_5_3), hM aL (dO X s0 nm) cs_5_3, hB g_4_7 51 (List.toArray cs_4_3), hM aL (dO X s0 nm) cs_4_3, hR aO 56 (.slice BX X.length cX) X] W51 := Ha53.pick [1, 0, 2, 3, 4, 5, 6, 7, 8] kD rfl; clear Ha53
  refine aU rfl Try.sizeOf56 rfl rfl (bG (H59.kn 3 rfl)) rfl (dK (H59.kn 3 rfl)) H59 ?_
  intro W56 hu57 Ha58; clear H59; clear hu57
  refine aF ?_
  refine aH ?_
  refine wp_seq ?_
  refine aI [0, 1, 2] rfl ?_
  refine aA ?_
  refine aB rfl (aC rfl) rfl rfl ?_
  refine aA ?_
  refine aK rfl Try.call23 (vs := #[.slice A bs.length cb]) rfl rfl rfl (drawLib_s bs cb A _ (dW Ha58.1 hC) hn) ?_
  rintro e64 W63 ⟨BY, Y, cY, rfl, hY, hst61, hu62⟩; refine ⟨_, rfl, ?_⟩
  have H65 := Ha58.news hu62 hst61; clear Ha58
  refine aA ?_
  refine aB rfl (aG rfl) rfl rfl ?_
  refine aF ?_
  refine aH ?_
  refine wp_seq ?_
  refine wp_seq ?_
  by_cases hMB : metB X s0 nm = true
  ·rw [hMB]
   have H66 : St w No [hM aL (dO X s0 nm) cs_4_3, hR aO 56 (.slice BY Y.length cY) Y, hB g_6_6 56 (List.toArray cq), hB g_6_5 56 (List.toArray cp), hM aO p cp, hM aO q cq, hB g_5_7 51 (List.toArray cs_5_3), hM aL (dO X s0 nm) cs_5_3, hB g_4_7 51 (List.toArray cs_4_3), hR aO 56 (.slice BX X.length cX) X] W63 := H65.pick [8, 0, 1, 2, 3, 4, 5, 6, 7, 9] kD rfl; clear H65
   obtain ⟨F67, hM68, hb69⟩ := H66.unM
   obtain ⟨B71, c72, rfl, hst70⟩ := gU hM68
   have H73 : St w No [hR bF 118 (.slice B71 ((dO X s0 nm).Code.length) c72) ((dO X s0 nm).Code), hR aO 56 (.slice BY Y.length cY) Y, hB g_6_6 56 (List.toArray cq), hB g_6_5 56 (List.toArray cp), hM aO p cp, hM aO q cq, hB g_5_7 51 (List.toArray cs_5_3), hM aL (dO X s0 nm) cs_5_3, hB g_4_7 51 #[.string ((dO X s0 nm).Name), .slice B71 ((dO X s0 nm).Code.length) c72], hR aO 56 (.slice BX X.length cX) X] W63 := hb69 _ hst70; clear H66
   refine dF (fun W' => Blk W' g_4_7 51 #[.string ((dO X s0 nm).Name), .slice B71 ((dO X s0 nm).Code.length) c72]) 19 kR ?_
   have H74 := H73.drew; clear H73
   have hS75 : Blk W63.drew g_4_7 51 #[.string ((dO X s0 nm).Name), .slice B71 ((dO X s0 nm).Code.length) c72] := H74.blk 8 rfl
   refine aP (i := 0) rfl kR kR kR kR kR (fun _ _ _ h => h) rfl rfl hS75 (fun W' hs' => aC rfl) ?_
   refine aP (i := 1) rfl kR kR kR kR kR (fun _ _ _ h => h) rfl rfl hS75 (fun W' hs' => aC rfl) ?_
   refine aP (i := 2) rfl kR kR kR kR kR (fun _ _ _ h => h) rfl rfl hS75 (fun W' hs' => rn_neqB Try.runUnderlying4 rfl rfl) ?_
   refine aP (i := 3) rfl kR kR kR kR kR (fun _ _ _ h => h) rfl rfl hS75 (fun W' hs' => aC rfl) ?_
   refine bK (i := 4) rfl rfl rfl rfl kR kR kR kR kR (fun _ _ _ h => h) rfl rfl hS75 (fun W' hs' => aC rfl) ?_
   refine bK (i := 5) rfl rfl rfl rfl kR kR kR kR kR (fun _ _ _ h => h) rfl rfl hS75 (fun W' hs' => aC rfl) ?_
   refine bK (i := 6) rfl rfl rfl rfl kR kR kR kR kR (fun _ _ _ h => h) rfl rfl hS75 (fun W' hs' => aN gB rfl) ?_
   refine bK (i := 7) rfl rfl rfl rfl kR kR kR kR kR (fun _ _ _ h => h) rfl rfl hS75 (fun W' hs' => aS (k := 0) (v := .string ((dO X s0 nm).Name)) Try.isAgg9 rfl hs' rfl) ?_
   refine bK (i := 8) rfl rfl rfl rfl kR kR kR kR kR (fun _ _ _ h => h) rfl rfl hS75 (fun W' hs' => aC rfl) ?_
   refine bK (i := 9) rfl rfl rfl rfl kR kR kR kR kR (fun _ _ _ h => h) rfl rfl hS75 (fun W' hs' => bM (b := !(((dO X s0 nm).Name).toList == nm.toList)) (by rw [(met_name hMB)]) (rn_strneq rfl rfl)) ?_
   refine bK (i := 10) rfl rfl rfl rfl kR kR kR kR kR (fun _ _ _ h => h) rfl rfl hS75 (fun W' hs' => aJ (v := .bool (false)) (b := true) rfl rfl rfl rfl) ?_
   refine aP (i := 11) rfl kR kR kR kR kR (fun _ _ _ h => h) rfl rfl hS75 (fun W' hs' => aJ (v := .bool (false)) (b := false) rfl rfl rfl rfl) ?_
   refine aP (i := 12) rfl kR kR kR kR kR (fun _ _ _ h => h) rfl rfl hS75 (fun W' hs' => aC rfl) ?_
   refine bK (i := 13) rfl rfl rfl rfl kR kR kR kR kR (fun _ _ _ h => h) rfl rfl hS75 (fun W' hs' => bL Try.isAgg51 Try.sizeOf51 rfl hs' rfl) ?_
   refine bK (i := 15) rfl rfl rfl rfl kR kR kR kR kR (fun _ _ _ h => h) rfl rfl hS75 (fun W' hs' => bL Try.isAgg51 Try.sizeOf51 rfl hs' rfl) ?_
   refine bH (i := 14) kR ?_
   refine aT rfl rfl rfl rfl (fun _ ho76 => ?_)
   refine aK ho76 Try.call24 (vs := #[.agg #[.string ((dO X s0 nm).Name), .slice B71 ((dO X s0 nm).Code.length) c72]]) rfl rfl rfl (ends_i (dO X s0 nm) _ _ (eB _ (dO X s0 nm) (H74.rowLe 0 rfl).1 (H74.rowC 0 rfl)) (met_len _ _ _ hX)) ?_
   rintro e79 W78 ⟨rfl, hu77⟩; refine ⟨_, rfl, ?_⟩
   have H80 := H74.no hu77; clear H74
   have hS81 := H80.blk 8 rfl; refine ⟨fun _ => hS81, ?_⟩
   refine bH (i := 16) kR ?_
   refine aT rfl rfl rfl rfl (fun _ ho82 => ?_)
   refine aK ho82 Try.call25 (vs := #[.agg #[.string ((dO X s0 nm).Name), .slice B71 ((dO X s0 nm).Code.length) c72]]) rfl rfl rfl (ends_s (dO X s0 nm) _ _ (eB _ (dO X s0 nm) (H80.rowLe 0 rfl).1 (H80.rowC 0 rfl)) (met_len _ _ _ hX)) ?_
   rintro e85 W84 ⟨rfl, hu83⟩; refine ⟨_, rfl, ?_⟩
   have H86 := H80.no hu83; clear H80
   have hS87 := H86.blk 8 rfl; refine ⟨fun _ => hS87, ?_⟩
   refine bK (i := 17) rfl rfl rfl rfl kR kR kR kR kR (fun _ _ _ h => h) rfl rfl hS87 (fun W' hs' => rn_neqB Try.runUnderlying4 rfl rfl) ?_
   refine aP (i := 18) rfl kR kR kR kR kR (fun _ _ _ h => h) rfl rfl hS87 (fun W' hs' => aJ (v := .bool (false)) (b := false) rfl rfl rfl rfl) ?_
   refine dA kR ?_ _
   refine aH ?_
   refine gI rfl ?_
   refine wp_skip ?_
   refine aH ?_
   refine wp_seq ?_
   refine dF (fun W' => Blk W' g_6_5 56 (List.toArray cp) ∧ Blk W' g_6_6 56 (List.toArray cq)) 27 kR ?_
   have H88 := H86.drew; clear H86
   have hS89 : Blk W84.drew g_6_5 56 (List.toArray cp) ∧ Blk W84.drew g_6_6 56 (List.toArray cq) := ⟨H88.blk 3 rfl, H88.blk 2 rfl⟩
   refine aP (i := 0) rfl kR kR kR kR kR (fun _ _ _ h => h) rfl rfl hS89 (fun W' hs' => bL Try.isAgg56 Try.sizeOf56 rfl hs'.1 (bG (H88.kn 4 rfl))) ?_
   refine aP (i := 1) rfl kR kR kR kR kR (fun _ _ _ h => h) rfl rfl hS89 (fun W' hs' => bL Try.isAgg56 Try.sizeOf56 rfl hs'.2 (bG (H88.kn 5 rfl))) ?_
   refine aP (i := 3) rfl kR kR kR kR kR (fun _ _ _ h => h) rfl rfl hS89 (fun W' hs' => bL Try.isAgg56 Try.sizeOf56 rfl hs'.2 (bG (H88.kn 5 rfl))) ?_
   refine aP (i := 4) rfl kR kR kR kR kR (fun _ _ _ h => h) rfl rfl hS89 (fun W' hs' => bL Try.isAgg56 Try.sizeOf56 rfl hs'.1 (bG (H88.kn 4 rfl))) ?_
   refine bH (i := 2) kR ?_
   refine aK rfl Try.call26 (vs := #[.agg (List.toArray cp), .agg (List.toArray cq)]) rfl rfl rfl (fA p q _ _ _ (H88.kn 4 rfl) (H88.kn 5 rfl)) ?_
   rintro e92 W91 ⟨rfl, hu90⟩; refine ⟨_, rfl, ?_⟩
   have H93 := H88.no hu90; clear H88
   have hS94 := And.intro (H93.blk 3 rfl) (H93.blk 2 rfl); refine ⟨fun _ => hS94, ?_⟩
   refine bH (i := 5) kR ?_
   refine aK rfl Try.call26 (vs := #[.agg (List.toArray cq), .agg (List.toArray cp)]) rfl rfl rfl (bI (fA q p _ _ _ (H93.kn 5 rfl) (H93.kn 4 rfl)) (eqb_Script_symm _ _)) ?_
   rintro e97 W96 ⟨rfl, hu95⟩; refine ⟨_, rfl, ?_⟩
   have H98 := H93.no hu95; clear H93
   have hS99 := And.intro (H98.blk 3 rfl) (H98.blk 2 rfl); refine ⟨fun _ => hS99, ?_⟩
   refine aP (i := 6) rfl kR kR kR kR kR (fun _ _ _ h => h) rfl rfl hS99 (fun W' hs' => bM (b := (dM p q) == (dM p q)) (beq_self_eq_true _) (rn_eqlB Try.underlying4 rfl rfl)) ?_
   refine aP (i := 7) rfl kR kR kR kR kR (fun _ _ _ h => h) rfl rfl hS99 (fun W' hs' => aC rfl) ?_
   refine bK (i := 8) rfl rfl rfl rfl kR kR kR kR kR (fun _ _ _ h => h) rfl rfl hS99 (fun W' hs' => bL Try.isAgg56 Try.sizeOf56 rfl hs'.1 (bG (H98.kn 4 rfl))) ?_
   refine bK (i := 9) rfl rfl rfl rfl kR kR kR kR kR (fun _ _ _ h => h) rfl rfl hS99 (fun W' hs' => bL Try.isAgg56 Try.sizeOf56 rfl hs'.1 (bG (H98.kn 4 rfl))) ?_
   refine bH (i := 10) kR ?_
   refine aT rfl rfl rfl rfl (fun _ ho100 => ?_)
   refine aK ho100 Try.call26 (vs := #[.agg (List.toArray cp), .agg (List.toArray cp)]) rfl rfl rfl (bI (fA p p _ _ _ (H98.kn 4 rfl) (H98.kn 4 rfl)) (eqb_Script_rfl _)) ?_
   rintro e103 W102 ⟨rfl, hu101⟩; refine ⟨_, rfl, ?_⟩
   have H104 := H98.no hu101; clear H98
   have hS105 := And.intro (H104.blk 3 rfl) (H104.blk 2 rfl); refine ⟨fun _ => hS105, ?_⟩
   refine aP (i := 11) rfl kR kR kR kR kR (fun _ _ _ h => h) rfl rfl hS105 (fun W' hs' => aJ (v := .bool (true)) (b := true) rfl rfl rfl rfl) ?_
   refine aP (i := 12) rfl kR kR kR kR kR (fun _ _ _ h => h) rfl rfl hS105 (fun W' hs' => aC rfl) ?_
   refine bK (i := 13) rfl rfl rfl rfl kR kR kR kR kR (fun _ _ _ h => h) rfl rfl hS105 (fun W' hs' => aC rfl) ?_
   refine bK (i := 15) rfl rfl rfl rfl kR kR kR kR kR (fun _ _ _ h => h) rfl rfl hS105 (fun W' hs' => aC rfl) ?_
   refine bH (i := 14) kR ?_
   refine aT rfl rfl rfl rfl (fun _ ho106 => ?_)
   refine aK ho106 Try.call27 (vs := #[.slice BY Y.length cY]) rfl rfl rfl (isLibrary_I Y _ _ _ (H104.rowC 1 rfl) (H104.rowLe 1 rfl).1 (Nat.le_trans hY kD)) ?_
   rintro e109 W108 ⟨rfl, hu107⟩; refine ⟨_, rfl, ?_⟩
   have H110 := H104.no hu107; clear H104
   have hS111 := And.intro (H110.blk 3 rfl) (H110.blk 2 rfl); refine ⟨fun _ => hS111, ?_⟩
   refine bH (i := 16) kR ?_
   refine aT rfl rfl rfl rfl (fun _ ho112 => ?_)
   refine aK ho112 Try.call28 (vs := #[.slice BY Y.length cY]) rfl rfl rfl (isLibrary_s Y _ _ _ (H110.rowC 1 rfl) (Nat.le_trans hY kD)) ?_
   rintro e115 W114 ⟨rfl, hu113⟩; refine ⟨_, rfl, ?_⟩
   have H116 := H110.no hu113; clear H110
   have hS117 := And.intro (H116.blk 3 rfl) (H116.blk 2 rfl); refine ⟨fun _ => hS117, ?_⟩
   refine bK (i := 17) rfl rfl rfl rfl kR kR kR kR kR (fun _ _ _ h => h) rfl rfl hS117 (fun W' hs' => bM (b := (libB Y) == (libB Y)) (beq_self_eq_true _) (rn_eqlB Try.underlying4 rfl rfl)) ?_
   refine aP (i := 18) rfl kR kR kR kR kR (fun _ _ _ h => h) rfl rfl hS117 (fun W' hs' => aJ (v := .bool (true)) (b := true) rfl rfl rfl rfl) ?_
   refine aP (i := 19) rfl kR kR kR kR kR (fun _ _ _ h => h) rfl rfl hS117 (fun W' hs' => aC rfl) ?_
   refine bK (i := 20) rfl rfl rfl rfl kR kR kR kR kR (fun _ _ _ h => h) rfl rfl hS117 (fun W' hs' => bL Try.isAgg56 Try.sizeOf56 rfl hs'.1 (bG (H116.kn 4 rfl))) ?_
   refine bK (i := 22) rfl rfl rfl rfl kR kR kR kR kR (fun _ _ _ h => h) rfl rfl hS117 (fun W' hs' => bL Try.isAgg56 Try.sizeOf56 rfl hs'.1 (bG (H116.kn 4 rfl))) ?_
   refine bH (i := 21) kR ?_
   refine aT rfl rfl rfl rfl (fun _ ho118 => ?_)
   refine aK ho118 Try.call29 (vs := #[.agg (List.toArray cp)]) rfl rfl rfl (isScript_I p _ _ (H116.kn 4 rfl) (Nat.le_trans hp kD)) ?_
   rintro e121 W120 ⟨rfl, hu119⟩; refine ⟨_, rfl, ?_⟩
   have H122 := H116.no hu119; clear H116
   have hS123 := And.intro (H122.blk 3 rfl) (H122.blk 2 rfl); refine ⟨fun _ => hS123, ?_⟩
   refine bH (i := 23) kR ?_
   refine aT rfl rfl rfl rfl (fun _ ho124 => ?_)
   refine aK ho124 Try.call30 (vs := #[.agg (List.toArray cp)]) rfl rfl rfl (isScript_s p _ _ (H122.kn 4 rfl) (Nat.le_trans hp kD)) ?_
   rintro e127 W126 ⟨rfl, hu125⟩; refine ⟨_, rfl, ?_⟩
   have H128 := H122.no hu125; clear H122
   have hS129 := And.intro (H128.blk 3 rfl) (H128.blk 2 rfl); refine ⟨fun _ => hS129, ?_⟩
   refine bK (i := 24) rfl rfl rfl rfl kR kR kR kR kR (fun _ _ _ h => h) rfl rfl hS129 (fun W' hs' => bM (b := (eP p) == (eP p)) (beq_self_eq_true _) (rn_eqlB Try.underlying4 rfl rfl)) ?_
   refine aP (i := 25) rfl kR kR kR kR kR (fun _ _ _ h => h) rfl rfl hS129 (fun W' hs' => aJ (v := .bool (true)) (b := true) rfl rfl rfl rfl) ?_
   refine aP (i := 26) rfl kR kR kR kR kR (fun _ _ _ h => h) rfl rfl hS129 (fun W' hs' => aG rfl) ?_
   refine dA kR ?_ _
   refine aH ?_
   refine wp_ret ?_
   refine aM (.inl rfl) Try.results4 rfl ?_
   exact ⟨rfl, H128.1⟩
  ·rw [eq_false_of_ne_true hMB]
   have H130 : St w No [hM aL (dO X s0 nm) cs_4_3, hR aO 56 (.slice BY Y.length cY) Y, hB g_6_6 56 (List.toArray cq), hB g_6_5 56 (List.toArray cp), hM aO p cp, hM aO q cq, hB g_5_7 51 (List.toArray cs_5_3), hM aL (dO X s0 nm) cs_5_3, hB g_4_7 51 (List.toArray cs_4_3), hR aO 56 (.slice BX X.length cX) X] W63 := H65.pick [8, 0, 1, 2, 3, 4, 5, 6, 7, 9] kD rfl; clear H65
   obtain ⟨F131, hM132, hb133⟩ := H130.unM
   obtain ⟨B135, c136, rfl, hst134⟩ := gU hM132
   have H137 : St w No [hR bF 118 (.slice B135 ((dO X s0 nm).Code.length) c136) ((dO X s0 nm).Code), hR aO 56 (.slice BY Y.length cY) Y, hB g_6_6 56 (List.toArray cq), hB g_6_5 56 (List.toArray cp), hM aO p cp, hM aO q cq, hB g_5_7 51 (List.toArray cs_5_3), hM aL (dO X s0 nm) cs_5_3, hB g_4_7 51 #[.string ((dO X s0 nm).Name), .slice B135 ((dO X s0 nm).Code.length) c136], hR aO 56 (.slice BX X.length cX) X] W63 := hb133 _ hst134; clear H130
   refine dF (fun W' => Blk W' g_4_7 51 #[.string ((dO X s0 nm).Name), .slice B135 ((dO X s0 nm).Code.length) c136]) 19 kR ?_
   have H138 := H137.drew; clear H137
   have hS139 : Blk W63.drew g_4_7 51 #[.string ((dO X s0 nm).Name), .slice B135 ((dO X s0 nm).Code.length) c136] := H138.blk 8 rfl
   refine aP (i := 0) rfl kR kR kR kR kR (fun _ _ _ h => h) rfl rfl hS139 (fun W' hs' => aC rfl) ?_
   refine aP (i := 1) rfl kR kR kR kR kR (fun _ _ _ h => h) rfl rfl hS139 (fun W' hs' => aC rfl) ?_
   refine aP (i := 2) rfl kR kR kR kR kR (fun _ _ _ h => h) rfl rfl hS139 (fun W' hs' => rn_neqB Try.runUnderlying4 rfl rfl) ?_
   refine aP (i := 3) rfl kR kR kR kR kR (fun _ _ _ h => h) rfl rfl hS139 (fun W' hs' => aC rfl) ?_
   refine bK (i := 4) rfl rfl rfl rfl kR kR kR kR kR (fun _ _ _ h => h) rfl rfl hS139 (fun W' hs' => aC rfl) ?_
   refine bK (i := 5) rfl rfl rfl rfl kR kR kR kR kR (fun _ _ _ h => h) rfl rfl hS139 (fun W' hs' => aC rfl) ?_
   refine eO (i := 6) rfl rfl rfl rfl rfl kR kR kR kR kR (fun _ _ _ h => h) rfl rfl hS139 ?_
   refine eO (i := 7) rfl rfl rfl rfl rfl kR kR kR kR kR (fun _ _ _ h => h) rfl rfl hS139 ?_
   refine eO (i := 8) rfl rfl rfl rfl rfl kR kR kR kR kR (fun _ _ _ h => h) rfl rfl hS139 ?_
   refine eO (i := 9) rfl rfl rfl rfl rfl kR kR kR kR kR (fun _ _ _ h => h) rfl rfl hS139 ?_
   refine bK (i := 10) rfl rfl rfl rfl kR kR kR kR kR (fun _ _ _ h => h) rfl rfl hS139 (fun W' hs' => aJ (v := .bool (false)) (b := false) rfl rfl rfl rfl) ?_
   refine aP (i := 11) rfl kR kR kR kR kR (fun _ _ _ h => h) rfl rfl hS139 (fun W' hs' => aJ (v := .bool (false)) (b := false) rfl rfl rfl rfl) ?_
   refine aP (i := 12) rfl kR kR kR kR kR (fun _ _ _ h => h) rfl rfl hS139 (fun W' hs' => aC rfl) ?_
   refine bK (i := 13) rfl rfl rfl rfl kR kR kR kR kR (fun _ _ _ h => h) rfl rfl hS139 (fun W' hs' => bL Try.isAgg51 Try.sizeOf51 rfl hs' rfl) ?_
   refine bK (i := 15) rfl rfl rfl rfl kR kR kR kR kR (fun _ _ _ h => h) rfl rfl hS139 (fun W' hs' => bL Try.isAgg51 Try.sizeOf51 rfl hs' rfl) ?_
   refine bH (i := 14) kR ?_
   refine aT rfl rfl rfl rfl (fun _ ho140 => ?_)
   refine aK ho140 Try.call24 (vs := #[.agg #[.string ((dO X s0 nm).Name), .slice B135 ((dO X s0 nm).Code.length) c136]]) rfl rfl rfl (ends_i (dO X s0 nm) _ _ (eB _ (dO X s0 nm) (H138.rowLe 0 rfl).1 (H138.rowC 0 rfl)) (met_len _ _ _ hX)) ?_
   rintro e143 W142 ⟨rfl, hu141⟩; refine ⟨_, rfl, ?_⟩
   have H144 := H138.no hu141; clear H138
   have hS145 := H144.blk 8 rfl; refine ⟨fun _ => hS145, ?_⟩
   refine bH (i := 16) kR ?_
   refine aT rfl rfl rfl rfl (fun _ ho146 => ?_)
   refine aK ho146 Try.call25 (vs := #[.agg #[.string ((dO X s0 nm).Name), .slice B135 ((dO X s0 nm).Code.length) c136]]) rfl rfl rfl (ends_s (dO X s0 nm) _ _ (eB _ (dO X s0 nm) (H144.rowLe 0 rfl).1 (H144.rowC 0 rfl)) (met_len _ _ _ hX)) ?_
   rintro e149 W148 ⟨rfl, hu147⟩; refine ⟨_, rfl, ?_⟩
   have H150 := H144.no hu147; clear H144
   have hS151 := H150.blk 8 rfl; refine ⟨fun _ => hS151, ?_⟩
   refine bK (i := 17) rfl rfl rfl rfl kR kR kR kR kR (fun _ _ _ h => h) rfl rfl hS151 (fun W' hs' => rn_neqB Try.runUnderlying4 rfl rfl) ?_
   refine aP (i := 18) rfl kR kR kR kR kR (fun _ _ _ h => h) rfl rfl hS151 (fun W' hs' => aJ (v := .bool (false)) (b := false) rfl rfl rfl rfl) ?_
   refine dA kR ?_ _
   refine aH ?_
   refine gI rfl ?_
   refine wp_skip ?_
   refine aH ?_
   refine wp_seq ?_
   refine dF (fun W' => Blk W' g_6_5 56 (List.toArray cp) ∧ Blk W' g_6_6 56 (List.toArray cq)) 27 kR ?_
   have H152 := H150.drew; clear H150
   have hS153 : Blk W148.drew g_6_5 56 (List.toArray cp) ∧ Blk W148.drew g_6_6 56 (List.toArray cq) := ⟨H152.blk 3 rfl, H152.blk 2 rfl⟩
   refine aP (i := 0) rfl kR kR kR kR kR (fun _ _ _ h => h) rfl rfl hS153 (fun W' hs' => bL Try.isAgg56 Try.sizeOf56 rfl hs'.1 (bG (H152.kn 4 rfl))) ?_
   refine aP (i := 1) rfl kR kR kR kR kR (fun _ _ _ h => h) rfl rfl hS153 (fun W' hs' => bL Try.isAgg56 Try.sizeOf56 rfl hs'.2 (bG (H152.kn 5 rfl))) ?_
   refine aP (i := 3) rfl kR kR kR kR kR (fun _ _ _ h => h) rfl rfl hS153 (fun W' hs' => bL Try.isAgg56 Try.sizeOf56 rfl hs'.2 (bG (H152.kn 5 rfl))) ?_
   refine aP (i := 4) rfl kR kR kR kR kR (fun _ _ _ h => h) rfl rfl hS153 (fun W' hs' => bL Try.isAgg56 Try.sizeOf56 rfl hs'.1 (bG (H152.kn 4 rfl))) ?_
   refine bH (i := 2) kR ?_
   refine aK rfl Try.call26 (vs := #[.agg (List.toArray cp), .agg (List.toArray cq)]) rfl rfl rfl (fA p q _ _ _ (H152.kn 4 rfl) (H152.kn 5 rfl)) ?_
   rintro e156 W155 ⟨rfl, hu154⟩; refine ⟨_, rfl, ?_⟩
   have H157 := H152.no hu154; clear H152
   have hS158 := And.intro (H157.blk 3 rfl) (H157.blk 2 rfl); refine ⟨fun _ => hS158, ?_⟩
   refine bH (i := 5) kR ?_
   refine aK rfl Try.call26 (vs := #[.agg (List.toArray cq), .agg (List.toArray cp)]) rfl rfl rfl (bI (fA q p _ _ _ (H157.kn 5 rfl) (H157.kn 4 rfl)) (eqb_Script_symm _ _)) ?_
   rintro e161 W160 ⟨rfl, hu159⟩; refine ⟨_, rfl, ?_⟩
   have H162 := H157.no hu159; clear H157
   have hS163 := And.intro (H162.blk 3 rfl) (H162.blk 2 rfl); refine ⟨fun _ => hS163, ?_⟩
   refine aP (i := 6) rfl kR kR kR kR kR (fun _ _ _ h => h) rfl rfl hS163 (fun W' hs' => bM (b := (dM p q) == (dM p q)) (beq_self_eq_true _) (rn_eqlB Try.underlying4 rfl rfl)) ?_
   refine aP (i := 7) rfl kR kR kR kR kR (fun _ _ _ h => h) rfl rfl hS163 (fun W' hs' => aC rfl) ?_
   refine bK (i := 8) rfl rfl rfl rfl kR kR kR kR kR (fun _ _ _ h => h) rfl rfl hS163 (fun W' hs' => bL Try.isAgg56 Try.sizeOf56 rfl hs'.1 (bG (H162.kn 4 rfl))) ?_
   refine bK (i := 9) rfl rfl rfl rfl kR kR kR kR kR (fun _ _ _ h => h) rfl rfl hS163 (fun W' hs' => bL Try.isAgg56 Try.sizeOf56 rfl hs'.1 (bG (H162.kn 4 rfl))) ?_
   refine bH (i := 10) kR ?_
   refine aT rfl rfl rfl rfl (fun _ ho164 => ?_)
   refine aK ho164 Try.call26 (vs := #[.agg (List.toArray cp), .agg (List.toArray cp)]) rfl rfl rfl (bI (fA p p _ _ _ (H162.kn 4 rfl) (H162.kn 4 rfl)) (eqb_Script_rfl _)) ?_
   rintro e167 W166 ⟨rfl, hu165⟩; refine ⟨_, rfl, ?_⟩
   have H168 := H162.no hu165; clear H162
   have hS169 := And.intro (H168.blk 3 rfl) (H168.blk 2 rfl); refine ⟨fun _ => hS169, ?_⟩
   refine aP (i := 11) rfl kR kR kR kR kR (fun _ _ _ h => h) rfl rfl hS169 (fun W' hs' => aJ (v := .bool (true)) (b := true) rfl rfl rfl rfl) ?_
   refine aP (i := 12) rfl kR kR kR kR kR (fun _ _ _ h => h) rfl rfl hS169 (fun W' hs' => aC rfl) ?_
   refine bK (i := 13) rfl rfl rfl rfl kR kR kR kR kR (fun _ _ _ h => h) rfl rfl hS169 (fun W' hs' => aC rfl) ?_
   refine bK (i := 15) rfl rfl rfl rfl kR kR kR kR kR (fun _ _ _ h => h) rfl rfl hS169 (fun W' hs' => aC rfl) ?_
   refine bH (i := 14) kR ?_
   refine aT rfl rfl rfl rfl (fun _ ho170 => ?_)
   refine aK ho170 Try.call27 (vs := #[.slice BY Y.length cY]) rfl rfl rfl (isLibrary_I Y _ _ _ (H168.rowC 1 rfl) (H168.rowLe 1 rfl).1 (Nat.le_trans hY kD)) ?_
   rintro e173 W172 ⟨rfl, hu171⟩; refine ⟨_, rfl, ?_⟩
   have H174 := H168.no hu171; clear H168
   have hS175 := And.intro (H174.blk 3 rfl) (H174.blk 2 rfl); refine ⟨fun _ => hS175, ?_⟩
   refine bH (i := 16) kR ?_
   refine aT rfl rfl rfl rfl (fun _ ho176 => ?_)
   refine aK ho176 Try.call28 (vs := #[.slice BY Y.length cY]) rfl rfl rfl (isLibrary_s Y _ _ _ (H174.rowC 1 rfl) (Nat.le_trans hY kD)) ?_
   rintro e179 W178 ⟨rfl, hu177⟩; refine ⟨_, rfl, ?_⟩
   have H180 := H174.no hu177; clear H174
   have hS181 := And.intro (H180.blk 3 rfl) (H180.blk 2 rfl); refine ⟨fun _ => hS181, ?_⟩
   refine bK (i := 17) rfl rfl rfl rfl kR kR kR kR kR (fun _ _ _ h => h) rfl rfl hS181 (fun W' hs' => bM (b := (libB Y) == (libB Y)) (beq_self_eq_true _) (rn_eqlB Try.underlying4 rfl rfl)) ?_
   refine aP (i := 18) rfl kR kR kR kR kR (fun _ _ _ h => h) rfl rfl hS181 (fun W' hs' => aJ (v := .bool (true)) (b := true) rfl rfl rfl rfl) ?_
   refine aP (i := 19) rfl kR kR kR kR kR (fun _ _ _ h => h) rfl rfl hS181 (fun W' hs' => aC rfl) ?_
   refine bK (i := 20) rfl rfl rfl rfl kR kR kR kR kR (fun _ _ _ h => h) rfl rfl hS181 (fun W' hs' => bL Try.isAgg56 Try.sizeOf56 rfl hs'.1 (bG (H180.kn 4 rfl))) ?_
   refine bK (i := 22) rfl rfl rfl rfl kR kR kR kR kR (fun _ _ _ h => h) rfl rfl hS181 (fun W' hs' => bL Try.isAgg56 Try.sizeOf56 rfl hs'.1 (bG (H180.kn 4 rfl))) ?_
   refine bH (i := 21) kR ?_
   refine aT rfl rfl rfl rfl (fun _ ho182 => ?_)
   refine aK ho182 Try.call29 (vs := #[.agg (List.toArray cp)]) rfl rfl rfl (isScript_I p _ _ (H180.kn 4 rfl) (Nat.le_trans hp kD)) ?_
   rintro e185 W184 ⟨rfl, hu183⟩; refine ⟨_, rfl, ?_⟩
   have H186 := H180.no hu183; clear H180
   have hS187 := And.intro (H186.blk 3 rfl) (H186.blk 2 rfl); refine ⟨fun _ => hS187, ?_⟩
   refine bH (i := 23) kR ?_
   refine aT rfl rfl rfl rfl (fun _ ho188 => ?_)
   refine aK ho188 Try.call30 (vs := #[.agg (List.toArray cp)]) rfl rfl rfl (isScript_s p _ _ (H186.kn 4 rfl) (Nat.le_trans hp kD)) ?_
   rintro e191 W190 ⟨rfl, hu189⟩; refine ⟨_, rfl, ?_⟩
   have H192 := H186.no hu189; clear H186
   have hS193 := And.intro (H192.blk 3 rfl) (H192.blk 2 rfl); refine ⟨fun _ => hS193, ?_⟩
   refine bK (i := 24) rfl rfl rfl rfl kR kR kR kR kR (fun _ _ _ h => h) rfl rfl hS193 (fun W' hs' => bM (b := (eP p) == (eP p)) (beq_self_eq_true _) (rn_eqlB Try.underlying4 rfl rfl)) ?_
   refine aP (i := 25) rfl kR kR kR kR kR (fun _ _ _ h => h) rfl rfl hS193 (fun W' hs' => aJ (v := .bool (true)) (b := true) rfl rfl rfl rfl) ?_
   refine aP (i := 26) rfl kR kR kR kR kR (fun _ _ _ h => h) rfl rfl hS193 (fun W' hs' => aG rfl) ?_
   refine dA kR ?_ _
   refine aH ?_
   refine wp_ret ?_
   refine aM (.inl rfl) Try.results4 rfl ?_
   exact ⟨rfl, H192.1⟩
end Go.Proofs.YtdfipdpeilegpaaFam
namespace Go.Proofs.YtdfipdpeilegpaaOpen
open Go.ChangeShapes Go.WideShapes Go.Proofs.YtdfipdpeilegpaaSep
structure Opens {α : Type} (P : Program) (t : TypeId) (d : Kn α) (G : α → Prop) : Prop where
 out : ∀ {H : Type} (enc : TypeId × Value → H) (w : World) (base : Nat) (spare : Nat → Bool) (held : Bool) (fuel : Nat) (cs : List Value) (x : DataW H × List MemPlace),
  DataW.trod enc P w base spare held fuel t cs = some x → ∃ v, d.K w v cs ∧ G v
structure OpensFs {α : Type} (P : Program) (fs : List Field) (off : Nat) (d : Kn α) (G : α → Prop) : Prop where
 out : ∀ {H : Type} (enc : TypeId × Value → H) (w : World) (base : Nat) (spare : Nat → Bool) (held : Bool) (fuel : Nat) (cs : List Value), cs.length = off + d.sz →
  (∀ f ∈ fs, ∃ x, DataW.trod enc P w base spare held fuel f.type ((cs.drop f.offset).take (P.cellsOf f.type)) = some x) → ∃ v, d.K w v (cs.drop off) ∧ G v
section
variable {P : Program} {t e : TypeId}
theorem opens_slice {α : Type} {d : Kn α} {G : α → Prop} (z : α) (ht : P.underlying t = some (.slice e)) (hc : P.cellsOf e = d.sz) (he : Opens P e d G) :
 Opens P t (Kn.slice e d) (fun l => l.length ≤ 9223372036854775807 ∧ ∀ x ∈ l, G x) := by
 refine ⟨?_⟩
 intro H enc w base spare held fuel cs x h
 rcases Go.Deep.open_slice ht h with ⟨rfl, _⟩ | ⟨a, len, cap, m, n, D, Pl, rfl, _, hl, hm, hmm, _, hx⟩
 ·exact ⟨[], ⟨none, 0, rfl, Nat.le_refl _, by simp, fun h => absurd h (Nat.lt_irrefl 0)⟩, by simp, by simp⟩
 have hle : len ≤ m := by rw [hmm]; split <;> omega
 have hm' : cap ≤ 9223372036854775807 := by simpa [maxLen] using hm
 haveI : Inhabited α := ⟨z⟩
 obtain ⟨V, hV⟩ := Go.Deep.choose_lt (α := α) (n := len) (p := fun i v => ∃ cs', w.cells? base (a.add (i * P.cellsOf e)) (P.cellsOf e) = some cs' ∧ d.K w v cs' ∧ G v) (fun i hi => by
  obtain ⟨cs', h1, h2⟩ := hx i kO
  obtain ⟨v, hk, hg⟩ := he.out enc w base spare held n cs' _ h2
  exact ⟨v, cs', h1, hk, hg⟩)
 have hlen : ((List.range len).map V).length = len := by simp
 refine ⟨(List.range len).map V, ⟨some a, cap, by rw [hlen], by rw [hlen]; exact hl, by rw [hlen]; omega, fun _ => ⟨a, rfl, fun j p hj => ?_⟩⟩, by rw [hlen]; omega, ?_⟩
 ·obtain ⟨hj1, hj2⟩ := List.getElem?_eq_some_iff.1 hj
  have hj3 : j < len := by rw [hlen] at hj1; exact hj1
  have hp : V j = p := by simpa using hj2
  subst hp
  obtain ⟨cs', h1, hk, _⟩ := hV j hj3
  rw [hc] at h1
  obtain ⟨_, h2, h3⟩ := World.cells?_some h1
  refine ⟨cs', hk, fun i u hu => ?_⟩
  have hi : i < d.sz := by rw [← h2]; exact (List.getElem?_eq_some_iff.1 hu).1
  have := h3 i hi
  rw [hu, Go.Deep.add_add] at this
  exact this
 ·intro x hx
  obtain ⟨j, hj, rfl⟩ := List.mem_map.1 hx
  obtain ⟨_, _, _, hg⟩ := hV j (List.mem_range.1 hj)
  exact hg
theorem arg_slice {H : Type} {enc : TypeId × Value → H} {w : World} {base : Nat} {spare : Nat → Bool} {held : Bool} {α : Type} {d : Kn α} {G : List α → Prop} {a : Option Addr} {len cap : Nat} {dd : DataW H} {ps : List MemPlace}
 (h : Opens P t (Kn.slice e d) G) (hd : DataW.Trod enc P w base spare held t (.slice a len cap) dd ps) :
 ∃ l : List α, len = l.length ∧ l.length ≤ cap ∧ C d w a l ∧ G l := by
 obtain ⟨fuel, hf⟩ := hd
 obtain ⟨l, ⟨A, c, he, hl, hC⟩, hg⟩ := h.out enc w base spare held fuel _ _ hf
 simp [Value.cells] at he
 obtain ⟨rfl, rfl, rfl⟩ := he
 exact ⟨l, rfl, hl, hC, hg⟩
end
theorem opens_u8 {P : Program} {t : TypeId} (ht : P.underlying t = some (.int .u8)) : Opens P t Kn.u8 (fun n => (Lit.int .u8 n).wf = true) := by
 refine ⟨?_⟩
 intro H enc w base spare held fuel cs x h
 obtain ⟨n, rfl, _, hw⟩ := DataW.trod_int ht h
 exact ⟨n, rfl, hw⟩
end Go.Proofs.YtdfipdpeilegpaaOpen
