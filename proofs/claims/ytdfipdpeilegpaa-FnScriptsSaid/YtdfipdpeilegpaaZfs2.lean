/- What the row needs, packed. No conditions beyond those that each law names. -/
import Derived.Test.YtdfipdpeilegpaaZfs1
import Derived.Test.YtdfipdpeilegpaaProg
import Derived.WalkKit
import Derived.KernelRfl
import Derived.RowKit3
import Derived.Deep.LoopGhost
import Derived.Deep.QuietTactic
import Derived.BigQuiet
import Derived.StillTailTactics
import Derived.Deep.RegionHeld3
namespace Go.Proofs.YtdfipdpeilegpaaFam
open Go.ChangeShapes Go.WideShapes Go.RowKit Go.Proofs.YtdfipdpeilegpaaSep Go.Proofs.YtdfipdpeilegpaaT Go.Proofs.YtdfipdpeilegpaaK
set_option linter.unusedVariables false
set_option linter.unusedSimpArgs false
attribute [local irreducible] wpOps wpOp
set_option maxHeartbeats 4000000
set_option maxRecDepth 100000
theorem isInstr_s (x : GInstr) (cs : List Value) (w : World) (h : bF.K w x cs) (hs : x.Name.size ≤ 1048576) : Calls Try.prog 119 #[.agg cs.toArray] w (bY (inst x) w) := by
 obtain rfl := fD h
 refine enter 161 [(0, .agg #[.int .i64 (x.Op), .int .i64 (x.A), .int .i64 (x.B), .int .i64 (x.C), .int .i64 (x.D), .string (x.Name)])] Try.func119 rfl kR ?_
 intro xj
 have H1 : St w No [] w := St.enter
 refine wp_seq ?_
 refine aI [0, 1] rfl ?_
 refine aA ?_
 refine eG rfl rfl rfl rfl H1 ?_
 intro g_0_0 W2 hu3 Ha4; clear H1; clear hu3
 refine aA ?_
 refine aB rfl (aG rfl) rfl rfl ?_
 refine aF ?_
 refine aH ?_
 refine wp_seq ?_
 refine reg_cut (fun a' W' => ∃ (b0 : Bool) (x' : Nat → Value), a' = bC 161 x' [(1, .pointer (some ⟨g_0_0, 0, none⟩)), (2, .bool (false)), (3, .bool (b0))] ∧ St w No [hB g_0_0 118 #[.int .i64 (x.Op), .int .i64 (x.A), .int .i64 (x.B), .int .i64 (x.C), .int .i64 (x.D), .string (x.Name)]] W' ∧ (b0 = z0B x)) ?_ ?_
 ·refine aI [0, 1, 2, 3, 4, 5, 6, 7, 8, 9, 10, 11, 12, 13] rfl ?_
  refine aA ?_
  refine aB rfl (aN eU rfl) rfl rfl ?_
  refine aA ?_
  refine aB rfl (aS (k := 3) (v := .int .i64 (x.C)) Try.isAgg3 rfl (Ha4.blk 0 rfl) rfl) rfl rfl ?_
  by_cases hg6 : (x.C : Int) = 0
  ·refine aA ?_
   refine aB rfl (bQ hg6 (bD rfl rfl)) rfl rfl ?_
   refine aA ?_
   refine aB rfl (aC rfl) rfl rfl ?_
   refine aA ?_
   refine aT rfl rfl rfl rfl (fun _ ho7 => ?_)
   refine aB ho7 (aN fE rfl) rfl rfl ?_
   refine aA ?_
   refine aT rfl rfl rfl rfl (fun _ ho8 => ?_)
   refine aB ho8 (aS (k := 4) (v := .int .i64 (x.D)) Try.isAgg3 rfl (Ha4.blk 0 rfl) rfl) rfl rfl ?_
   by_cases hg9 : (x.D : Int) = 0
   ·refine aA ?_
    refine aT rfl rfl rfl rfl (fun _ ho10 => ?_)
    refine aB ho10 (bQ hg9 (bD rfl rfl)) rfl rfl ?_
    refine aA ?_
    refine aB rfl (aJ (v := .bool (true)) (b := true) rfl rfl rfl rfl) rfl rfl ?_
    refine aA ?_
    refine aB rfl (aC rfl) rfl rfl ?_
    refine aA ?_
    refine aT rfl rfl rfl rfl (fun _ ho11 => ?_)
    refine aB ho11 (aN fU rfl) rfl rfl ?_
    refine aA ?_
    refine aT rfl rfl rfl rfl (fun _ ho12 => ?_)
    refine aB ho12 (aS (k := 5) (v := .string (x.Name)) Try.isAgg9 rfl (Ha4.blk 0 rfl) rfl) rfl rfl ?_
    by_cases hg13 : (x.Name.toList == (⟨#[]⟩ : ByteArray).toList) = true
    ·have hg13n := hg13
     rw [aQ] at hg13n
     refine aA ?_
     refine aT rfl rfl rfl rfl (fun _ ho14 => ?_)
     refine aB ho14 (bM (b := x.Name.toList == (⟨#[]⟩ : ByteArray).toList) hg13 (dQ rfl rfl)) rfl rfl ?_
     refine aA ?_
     refine aB rfl (aJ (v := .bool (true)) (b := true) rfl rfl rfl rfl) rfl rfl ?_
     refine aA ?_
     refine aB rfl (aG rfl) rfl rfl ?_
     refine aF ?_
     exact (bJ [(1, .pointer (some ⟨g_0_0, 0, none⟩)), (2, .bool (false)), (3, .bool (true))] rfl).elim fun x' hx => ⟨true, x', hx, Ha4, (by symm; first | (simp [z0B, aQ, hg6, hg9, hg13n]; done) | (exfalso; omega))⟩
    ·have hg13n := hg13
     rw [aQ] at hg13n
     refine aA ?_
     refine aT rfl rfl rfl rfl (fun _ ho15 => ?_)
     refine aB ho15 (bM (b := x.Name.toList == (⟨#[]⟩ : ByteArray).toList) (eq_false_of_ne_true hg13) (dQ rfl rfl)) rfl rfl ?_
     refine aA ?_
     refine aB rfl (aJ (v := .bool (false)) (b := true) rfl rfl rfl rfl) rfl rfl ?_
     refine aA ?_
     refine aB rfl (aG rfl) rfl rfl ?_
     refine aF ?_
     exact (bJ [(1, .pointer (some ⟨g_0_0, 0, none⟩)), (2, .bool (false)), (3, .bool (false))] rfl).elim fun x' hx => ⟨false, x', hx, Ha4, (by symm; first | (simp [z0B, aQ, hg6, hg9, hg13n]; done) | (exfalso; omega))⟩
   ·refine aA ?_
    refine aT rfl rfl rfl rfl (fun _ ho16 => ?_)
    refine aB ho16 (bS hg9 (bD rfl rfl)) rfl rfl ?_
    refine aA ?_
    refine aB rfl (aJ (v := .bool (false)) (b := true) rfl rfl rfl rfl) rfl rfl ?_
    refine aA ?_
    refine aB rfl (aC rfl) rfl rfl ?_
    refine aA ?_
    refine aD rfl rfl rfl rfl rfl rfl rfl ?_
    refine aA ?_
    refine aD rfl rfl rfl rfl rfl rfl rfl ?_
    refine aA ?_
    refine aD rfl rfl rfl rfl rfl rfl rfl ?_
    refine aA ?_
    refine aB rfl (aJ (v := .bool (false)) (b := false) rfl rfl rfl rfl) rfl rfl ?_
    refine aA ?_
    refine aB rfl (aG rfl) rfl rfl ?_
    refine aF ?_
    exact (bJ [(1, .pointer (some ⟨g_0_0, 0, none⟩)), (2, .bool (false)), (3, .bool (false))] rfl).elim fun x' hx => ⟨false, x', hx, Ha4, (by symm; first | (simp [z0B, aQ, hg6, hg9]; done) | (exfalso; omega))⟩
  ·refine aA ?_
   refine aB rfl (bS hg6 (bD rfl rfl)) rfl rfl ?_
   refine aA ?_
   refine aB rfl (aC rfl) rfl rfl ?_
   refine aA ?_
   refine aD rfl rfl rfl rfl rfl rfl rfl ?_
   refine aA ?_
   refine aD rfl rfl rfl rfl rfl rfl rfl ?_
   refine aA ?_
   refine aD rfl rfl rfl rfl rfl rfl rfl ?_
   refine aA ?_
   refine aB rfl (aJ (v := .bool (false)) (b := false) rfl rfl rfl rfl) rfl rfl ?_
   refine aA ?_
   refine aB rfl (aC rfl) rfl rfl ?_
   refine aA ?_
   refine aD rfl rfl rfl rfl rfl rfl rfl ?_
   refine aA ?_
   refine aD rfl rfl rfl rfl rfl rfl rfl ?_
   refine aA ?_
   refine aD rfl rfl rfl rfl rfl rfl rfl ?_
   refine aA ?_
   refine aB rfl (aJ (v := .bool (false)) (b := false) rfl rfl rfl rfl) rfl rfl ?_
   refine aA ?_
   refine aB rfl (aG rfl) rfl rfl ?_
   refine aF ?_
   exact (bJ [(1, .pointer (some ⟨g_0_0, 0, none⟩)), (2, .bool (false)), (3, .bool (false))] rfl).elim fun x' hx => ⟨false, x', hx, Ha4, (by symm; first | (simp [z0B, aQ, hg6]; done) | (exfalso; omega))⟩
 ·rintro _ W18 ⟨b0, x19, rfl, H17, hb0⟩
  refine aH ?_
  refine wp_seq ?_
  refine wp_seq ?_
  refine aI [0, 1] rfl ?_
  refine aA ?_
  refine aB rfl (aN eH rfl) rfl rfl ?_
  refine aA ?_
  refine aB rfl (aS (k := 0) (v := .int .i64 (x.Op)) Try.isAgg3 rfl (H17.blk 0 rfl) rfl) rfl rfl ?_
  refine aF ?_
  refine aH ?_
  refine wp_block ?_
  refine wp_seq ?_
  refine aI [0, 1] rfl ?_
  refine aA ?_
  refine aB rfl (bD rfl rfl) rfl rfl ?_
  refine aA ?_
  refine aB rfl (aG rfl) rfl rfl ?_
  refine aF ?_
  refine aH ?_
  refine aW rfl (fun hc20 => ?_) (fun hc20 => ?_)
  ·refine wp_seq ?_
   refine aI [0, 1, 2, 3, 4, 5, 6, 7, 8, 9, 10, 11] rfl ?_
   by_cases hg21 : b0 = true
   ·refine aA ?_
    refine aB rfl (bM (b := b0) hg21 (aC rfl)) rfl rfl ?_
    refine aA ?_
    refine aB rfl (aC rfl) rfl rfl ?_
    refine aA ?_
    refine aT rfl rfl rfl rfl (fun _ ho22 => ?_)
    refine aB ho22 (aN bP rfl) rfl rfl ?_
    refine aA ?_
    refine aT rfl rfl rfl rfl (fun _ ho23 => ?_)
    refine aB ho23 (aS (k := 1) (v := .int .i64 (x.A)) Try.isAgg3 rfl (H17.blk 0 rfl) rfl) rfl rfl ?_
    by_cases hg24 : (rgB x.A) = true
    ·refine aA ?_
     refine aT rfl rfl rfl rfl (fun _ ho25 => ?_)
     refine aK ho25 Try.call150 (vs := #[.int .i64 (x.A)]) rfl rfl rfl (bI (bO x.A _) hg24) ?_
     rintro e28 W27 ⟨rfl, hu26⟩; refine ⟨_, rfl, ?_⟩
     have H29 := H17.no hu26; clear H17
     refine aA ?_
     refine aB rfl (aJ (v := .bool (true)) (b := true) rfl rfl rfl rfl) rfl rfl ?_
     refine aA ?_
     refine aB rfl (aC rfl) rfl rfl ?_
     refine aA ?_
     refine aT rfl rfl rfl rfl (fun _ ho30 => ?_)
     refine aB ho30 (aN bU rfl) rfl rfl ?_
     refine aA ?_
     refine aT rfl rfl rfl rfl (fun _ ho31 => ?_)
     refine aB ho31 (aS (k := 2) (v := .int .i64 (x.B)) Try.isAgg3 rfl (H29.blk 0 rfl) rfl) rfl rfl ?_
     by_cases hg32 : (inB x.B 0 999999) = true
     ·refine aA ?_
      refine aT rfl rfl rfl rfl (fun _ ho33 => ?_)
      refine aK ho33 Try.call61 (vs := #[.int .i64 (x.B), .int .i64 (0), .int .i64 (999999)]) rfl rfl rfl (bI (fK x.B 0 999999 _) hg32) ?_
      rintro e36 W35 ⟨rfl, hu34⟩; refine ⟨_, rfl, ?_⟩
      have H37 := H29.no hu34; clear H29
      refine aA ?_
      refine aB rfl (aJ (v := .bool (true)) (b := true) rfl rfl rfl rfl) rfl rfl ?_
      refine aA ?_
      refine aB rfl (aG rfl) rfl rfl ?_
      refine aF ?_
      refine aH ?_
      refine wp_ret ?_
      refine aY ?_
      refine aR ?_
      refine aM (.inl rfl) Try.results119 rfl ?_
      have hr38 : inst x = true := by first | (simp [inst, aQ, ← hb0, hc20, hg21, hg24, hg32]; done) | (exfalso; omega) | done
      rw [hr38]
      exact ⟨rfl, H37.1⟩
     ·refine aA ?_
      refine aT rfl rfl rfl rfl (fun _ ho39 => ?_)
      refine aK ho39 Try.call61 (vs := #[.int .i64 (x.B), .int .i64 (0), .int .i64 (999999)]) rfl rfl rfl (bI (fK x.B 0 999999 _) (eq_false_of_ne_true hg32)) ?_
      rintro e42 W41 ⟨rfl, hu40⟩; refine ⟨_, rfl, ?_⟩
      have H43 := H29.no hu40; clear H29
      refine aA ?_
      refine aB rfl (aJ (v := .bool (false)) (b := true) rfl rfl rfl rfl) rfl rfl ?_
      refine aA ?_
      refine aB rfl (aG rfl) rfl rfl ?_
      refine aF ?_
      refine aH ?_
      refine wp_ret ?_
      refine aY ?_
      refine aR ?_
      refine aM (.inl rfl) Try.results119 rfl ?_
      have hr44 : inst x = false := by first | (simp [inst, aQ, ← hb0, hc20, hg21, hg24, hg32]; done) | (exfalso; omega) | done
      rw [hr44]
      exact ⟨rfl, H43.1⟩
    ·refine aA ?_
     refine aT rfl rfl rfl rfl (fun _ ho45 => ?_)
     refine aK ho45 Try.call150 (vs := #[.int .i64 (x.A)]) rfl rfl rfl (bI (bO x.A _) (eq_false_of_ne_true hg24)) ?_
     rintro e48 W47 ⟨rfl, hu46⟩; refine ⟨_, rfl, ?_⟩
     have H49 := H17.no hu46; clear H17
     refine aA ?_
     refine aB rfl (aJ (v := .bool (false)) (b := true) rfl rfl rfl rfl) rfl rfl ?_
     refine aA ?_
     refine aB rfl (aC rfl) rfl rfl ?_
     refine aA ?_
     refine aD rfl rfl rfl rfl rfl rfl rfl ?_
     refine aA ?_
     refine aD rfl rfl rfl rfl rfl rfl rfl ?_
     refine aA ?_
     refine aD rfl rfl rfl rfl rfl rfl rfl ?_
     refine aA ?_
     refine aB rfl (aJ (v := .bool (false)) (b := false) rfl rfl rfl rfl) rfl rfl ?_
     refine aA ?_
     refine aB rfl (aG rfl) rfl rfl ?_
     refine aF ?_
     refine aH ?_
     refine wp_ret ?_
     refine aY ?_
     refine aR ?_
     refine aM (.inl rfl) Try.results119 rfl ?_
     have hr50 : inst x = false := by first | (simp [inst, aQ, ← hb0, hc20, hg21, hg24]; done) | (exfalso; omega) | done
     rw [hr50]
     exact ⟨rfl, H49.1⟩
   ·refine aA ?_
    refine aB rfl (bM (b := b0) (eq_false_of_ne_true hg21) (aC rfl)) rfl rfl ?_
    refine aA ?_
    refine aB rfl (aC rfl) rfl rfl ?_
    refine aA ?_
    refine aD rfl rfl rfl rfl rfl rfl rfl ?_
    refine aA ?_
    refine aD rfl rfl rfl rfl rfl rfl rfl ?_
    refine aA ?_
    refine aD rfl rfl rfl rfl rfl rfl rfl ?_
    refine aA ?_
    refine aB rfl (aJ (v := .bool (false)) (b := false) rfl rfl rfl rfl) rfl rfl ?_
    refine aA ?_
    refine aB rfl (aC rfl) rfl rfl ?_
    refine aA ?_
    refine aD rfl rfl rfl rfl rfl rfl rfl ?_
    refine aA ?_
    refine aD rfl rfl rfl rfl rfl rfl rfl ?_
    refine aA ?_
    refine aD rfl rfl rfl rfl rfl rfl rfl ?_
    refine aA ?_
    refine aB rfl (aJ (v := .bool (false)) (b := false) rfl rfl rfl rfl) rfl rfl ?_
    refine aA ?_
    refine aB rfl (aG rfl) rfl rfl ?_
    refine aF ?_
    refine aH ?_
    refine wp_ret ?_
    refine aY ?_
    refine aR ?_
    refine aM (.inl rfl) Try.results119 rfl ?_
    have hr51 : inst x = false := by first | (simp [inst, aQ, ← hb0, hc20, hg21]; done) | (exfalso; omega) | done
    rw [hr51]
    exact ⟨rfl, H17.1⟩
  ·refine wp_seq ?_
   refine aI [0, 1] rfl ?_
   refine aA ?_
   refine aB rfl (bD rfl rfl) rfl rfl ?_
   refine aA ?_
   refine aB rfl (aG rfl) rfl rfl ?_
   refine aF ?_
   refine aH ?_
   refine aW rfl (fun hc52 => ?_) (fun hc52 => ?_)
   ·refine wp_seq ?_
    refine aI [0, 1, 2, 3, 4, 5, 6, 7, 8, 9, 10, 11] rfl ?_
    by_cases hg53 : b0 = true
    ·refine aA ?_
     refine aB rfl (bM (b := b0) hg53 (aC rfl)) rfl rfl ?_
     refine aA ?_
     refine aB rfl (aC rfl) rfl rfl ?_
     refine aA ?_
     refine aT rfl rfl rfl rfl (fun _ ho54 => ?_)
     refine aB ho54 (aN bP rfl) rfl rfl ?_
     refine aA ?_
     refine aT rfl rfl rfl rfl (fun _ ho55 => ?_)
     refine aB ho55 (aS (k := 1) (v := .int .i64 (x.A)) Try.isAgg3 rfl (H17.blk 0 rfl) rfl) rfl rfl ?_
     by_cases hg56 : (rgB x.A) = true
     ·refine aA ?_
      refine aT rfl rfl rfl rfl (fun _ ho57 => ?_)
      refine aK ho57 Try.call150 (vs := #[.int .i64 (x.A)]) rfl rfl rfl (bI (bO x.A _) hg56) ?_
      rintro e60 W59 ⟨rfl, hu58⟩; refine ⟨_, rfl, ?_⟩
      have H61 := H17.no hu58; clear H17
      refine aA ?_
      refine aB rfl (aJ (v := .bool (true)) (b := true) rfl rfl rfl rfl) rfl rfl ?_
      refine aA ?_
      refine aB rfl (aC rfl) rfl rfl ?_
      refine aA ?_
      refine aT rfl rfl rfl rfl (fun _ ho62 => ?_)
      refine aB ho62 (aN bU rfl) rfl rfl ?_
      refine aA ?_
      refine aT rfl rfl rfl rfl (fun _ ho63 => ?_)
      refine aB ho63 (aS (k := 2) (v := .int .i64 (x.B)) Try.isAgg3 rfl (H61.blk 0 rfl) rfl) rfl rfl ?_
      by_cases hg64 : (inB x.B 0 1) = true
      ·refine aA ?_
       refine aT rfl rfl rfl rfl (fun _ ho65 => ?_)
       refine aK ho65 Try.call61 (vs := #[.int .i64 (x.B), .int .i64 (0), .int .i64 (1)]) rfl rfl rfl (bI (fK x.B 0 1 _) hg64) ?_
       rintro e68 W67 ⟨rfl, hu66⟩; refine ⟨_, rfl, ?_⟩
       have H69 := H61.no hu66; clear H61
       refine aA ?_
       refine aB rfl (aJ (v := .bool (true)) (b := true) rfl rfl rfl rfl) rfl rfl ?_
       refine aA ?_
       refine aB rfl (aG rfl) rfl rfl ?_
       refine aF ?_
       refine aH ?_
       refine wp_ret ?_
       refine aY ?_
       refine aR ?_
       refine aM (.inl rfl) Try.results119 rfl ?_
       have hr70 : inst x = true := by first | (simp [inst, aQ, ← hb0, hc20, hc52, hg53, hg56, hg64]; done) | (exfalso; omega) | done
       rw [hr70]
       exact ⟨rfl, H69.1⟩
      ·refine aA ?_
       refine aT rfl rfl rfl rfl (fun _ ho71 => ?_)
       refine aK ho71 Try.call61 (vs := #[.int .i64 (x.B), .int .i64 (0), .int .i64 (1)]) rfl rfl rfl (bI (fK x.B 0 1 _) (eq_false_of_ne_true hg64)) ?_
       rintro e74 W73 ⟨rfl, hu72⟩; refine ⟨_, rfl, ?_⟩
       have H75 := H61.no hu72; clear H61
       refine aA ?_
       refine aB rfl (aJ (v := .bool (false)) (b := true) rfl rfl rfl rfl) rfl rfl ?_
       refine aA ?_
       refine aB rfl (aG rfl) rfl rfl ?_
       refine aF ?_
       refine aH ?_
       refine wp_ret ?_
       refine aY ?_
       refine aR ?_
       refine aM (.inl rfl) Try.results119 rfl ?_
       have hr76 : inst x = false := by first | (simp [inst, aQ, ← hb0, hc20, hc52, hg53, hg56, hg64]; done) | (exfalso; omega) | done
       rw [hr76]
       exact ⟨rfl, H75.1⟩
     ·refine aA ?_
      refine aT rfl rfl rfl rfl (fun _ ho77 => ?_)
      refine aK ho77 Try.call150 (vs := #[.int .i64 (x.A)]) rfl rfl rfl (bI (bO x.A _) (eq_false_of_ne_true hg56)) ?_
      rintro e80 W79 ⟨rfl, hu78⟩; refine ⟨_, rfl, ?_⟩
      have H81 := H17.no hu78; clear H17
      refine aA ?_
      refine aB rfl (aJ (v := .bool (false)) (b := true) rfl rfl rfl rfl) rfl rfl ?_
      refine aA ?_
      refine aB rfl (aC rfl) rfl rfl ?_
      refine aA ?_
      refine aD rfl rfl rfl rfl rfl rfl rfl ?_
      refine aA ?_
      refine aD rfl rfl rfl rfl rfl rfl rfl ?_
      refine aA ?_
      refine aD rfl rfl rfl rfl rfl rfl rfl ?_
      refine aA ?_
      refine aB rfl (aJ (v := .bool (false)) (b := false) rfl rfl rfl rfl) rfl rfl ?_
      refine aA ?_
      refine aB rfl (aG rfl) rfl rfl ?_
      refine aF ?_
      refine aH ?_
      refine wp_ret ?_
      refine aY ?_
      refine aR ?_
      refine aM (.inl rfl) Try.results119 rfl ?_
      have hr82 : inst x = false := by first | (simp [inst, aQ, ← hb0, hc20, hc52, hg53, hg56]; done) | (exfalso; omega) | done
      rw [hr82]
      exact ⟨rfl, H81.1⟩
    ·refine aA ?_
     refine aB rfl (bM (b := b0) (eq_false_of_ne_true hg53) (aC rfl)) rfl rfl ?_
     refine aA ?_
     refine aB rfl (aC rfl) rfl rfl ?_
     refine aA ?_
     refine aD rfl rfl rfl rfl rfl rfl rfl ?_
     refine aA ?_
     refine aD rfl rfl rfl rfl rfl rfl rfl ?_
     refine aA ?_
     refine aD rfl rfl rfl rfl rfl rfl rfl ?_
     refine aA ?_
     refine aB rfl (aJ (v := .bool (false)) (b := false) rfl rfl rfl rfl) rfl rfl ?_
     refine aA ?_
     refine aB rfl (aC rfl) rfl rfl ?_
     refine aA ?_
     refine aD rfl rfl rfl rfl rfl rfl rfl ?_
     refine aA ?_
     refine aD rfl rfl rfl rfl rfl rfl rfl ?_
     refine aA ?_
     refine aD rfl rfl rfl rfl rfl rfl rfl ?_
     refine aA ?_
     refine aB rfl (aJ (v := .bool (false)) (b := false) rfl rfl rfl rfl) rfl rfl ?_
     refine aA ?_
     refine aB rfl (aG rfl) rfl rfl ?_
     refine aF ?_
     refine aH ?_
     refine wp_ret ?_
     refine aY ?_
     refine aR ?_
     refine aM (.inl rfl) Try.results119 rfl ?_
     have hr83 : inst x = false := by first | (simp [inst, aQ, ← hb0, hc20, hc52, hg53]; done) | (exfalso; omega) | done
     rw [hr83]
     exact ⟨rfl, H17.1⟩
   ·refine wp_seq ?_
    refine aI [0, 1] rfl ?_
    refine aA ?_
    refine aB rfl (bD rfl rfl) rfl rfl ?_
    refine aA ?_
    refine aB rfl (aG rfl) rfl rfl ?_
    refine aF ?_
    refine aH ?_
    refine aW rfl (fun hc84 => ?_) (fun hc84 => ?_)
    ·refine wp_seq ?_
     refine aI [0, 1, 2, 3, 4, 5, 6, 7, 8, 9, 10, 11] rfl ?_
     by_cases hg85 : b0 = true
     ·refine aA ?_
      refine aB rfl (bM (b := b0) hg85 (aC rfl)) rfl rfl ?_
      refine aA ?_
      refine aB rfl (aC rfl) rfl rfl ?_
      refine aA ?_
      refine aT rfl rfl rfl rfl (fun _ ho86 => ?_)
      refine aB ho86 (aN bP rfl) rfl rfl ?_
      refine aA ?_
      refine aT rfl rfl rfl rfl (fun _ ho87 => ?_)
      refine aB ho87 (aS (k := 1) (v := .int .i64 (x.A)) Try.isAgg3 rfl (H17.blk 0 rfl) rfl) rfl rfl ?_
      by_cases hg88 : (rgB x.A) = true
      ·refine aA ?_
       refine aT rfl rfl rfl rfl (fun _ ho89 => ?_)
       refine aK ho89 Try.call150 (vs := #[.int .i64 (x.A)]) rfl rfl rfl (bI (bO x.A _) hg88) ?_
       rintro e92 W91 ⟨rfl, hu90⟩; refine ⟨_, rfl, ?_⟩
       have H93 := H17.no hu90; clear H17
       refine aA ?_
       refine aB rfl (aJ (v := .bool (true)) (b := true) rfl rfl rfl rfl) rfl rfl ?_
       refine aA ?_
       refine aB rfl (aC rfl) rfl rfl ?_
       refine aA ?_
       refine aT rfl rfl rfl rfl (fun _ ho94 => ?_)
       refine aB ho94 (aN bU rfl) rfl rfl ?_
       refine aA ?_
       refine aT rfl rfl rfl rfl (fun _ ho95 => ?_)
       refine aB ho95 (aS (k := 2) (v := .int .i64 (x.B)) Try.isAgg3 rfl (H93.blk 0 rfl) rfl) rfl rfl ?_
       by_cases hg96 : (inB x.B 0 2) = true
       ·refine aA ?_
        refine aT rfl rfl rfl rfl (fun _ ho97 => ?_)
        refine aK ho97 Try.call61 (vs := #[.int .i64 (x.B), .int .i64 (0), .int .i64 (2)]) rfl rfl rfl (bI (fK x.B 0 2 _) hg96) ?_
        rintro e100 W99 ⟨rfl, hu98⟩; refine ⟨_, rfl, ?_⟩
        have H101 := H93.no hu98; clear H93
        refine aA ?_
        refine aB rfl (aJ (v := .bool (true)) (b := true) rfl rfl rfl rfl) rfl rfl ?_
        refine aA ?_
        refine aB rfl (aG rfl) rfl rfl ?_
        refine aF ?_
        refine aH ?_
        refine wp_ret ?_
        refine aY ?_
        refine aR ?_
        refine aM (.inl rfl) Try.results119 rfl ?_
        have hr102 : inst x = true := by first | (simp [inst, aQ, ← hb0, hc20, hc52, hc84, hg85, hg88, hg96]; done) | (exfalso; omega) | done
        rw [hr102]
        exact ⟨rfl, H101.1⟩
       ·refine aA ?_
        refine aT rfl rfl rfl rfl (fun _ ho103 => ?_)
        refine aK ho103 Try.call61 (vs := #[.int .i64 (x.B), .int .i64 (0), .int .i64 (2)]) rfl rfl rfl (bI (fK x.B 0 2 _) (eq_false_of_ne_true hg96)) ?_
        rintro e106 W105 ⟨rfl, hu104⟩; refine ⟨_, rfl, ?_⟩
        have H107 := H93.no hu104; clear H93
        refine aA ?_
        refine aB rfl (aJ (v := .bool (false)) (b := true) rfl rfl rfl rfl) rfl rfl ?_
        refine aA ?_
        refine aB rfl (aG rfl) rfl rfl ?_
        refine aF ?_
        refine aH ?_
        refine wp_ret ?_
        refine aY ?_
        refine aR ?_
        refine aM (.inl rfl) Try.results119 rfl ?_
        have hr108 : inst x = false := by first | (simp [inst, aQ, ← hb0, hc20, hc52, hc84, hg85, hg88, hg96]; done) | (exfalso; omega) | done
        rw [hr108]
        exact ⟨rfl, H107.1⟩
      ·refine aA ?_
       refine aT rfl rfl rfl rfl (fun _ ho109 => ?_)
       refine aK ho109 Try.call150 (vs := #[.int .i64 (x.A)]) rfl rfl rfl (bI (bO x.A _) (eq_false_of_ne_true hg88)) ?_
       rintro e112 W111 ⟨rfl, hu110⟩; refine ⟨_, rfl, ?_⟩
       have H113 := H17.no hu110; clear H17
       refine aA ?_
       refine aB rfl (aJ (v := .bool (false)) (b := true) rfl rfl rfl rfl) rfl rfl ?_
       refine aA ?_
       refine aB rfl (aC rfl) rfl rfl ?_
       refine aA ?_
       refine aD rfl rfl rfl rfl rfl rfl rfl ?_
       refine aA ?_
       refine aD rfl rfl rfl rfl rfl rfl rfl ?_
       refine aA ?_
       refine aD rfl rfl rfl rfl rfl rfl rfl ?_
       refine aA ?_
       refine aB rfl (aJ (v := .bool (false)) (b := false) rfl rfl rfl rfl) rfl rfl ?_
       refine aA ?_
       refine aB rfl (aG rfl) rfl rfl ?_
       refine aF ?_
       refine aH ?_
       refine wp_ret ?_
       refine aY ?_
       refine aR ?_
       refine aM (.inl rfl) Try.results119 rfl ?_
       have hr114 : inst x = false := by first | (simp [inst, aQ, ← hb0, hc20, hc52, hc84, hg85, hg88]; done) | (exfalso; omega) | done
       rw [hr114]
       exact ⟨rfl, H113.1⟩
     ·refine aA ?_
      refine aB rfl (bM (b := b0) (eq_false_of_ne_true hg85) (aC rfl)) rfl rfl ?_
      refine aA ?_
      refine aB rfl (aC rfl) rfl rfl ?_
      refine aA ?_
      refine aD rfl rfl rfl rfl rfl rfl rfl ?_
      refine aA ?_
      refine aD rfl rfl rfl rfl rfl rfl rfl ?_
      refine aA ?_
      refine aD rfl rfl rfl rfl rfl rfl rfl ?_
      refine aA ?_
      refine aB rfl (aJ (v := .bool (false)) (b := false) rfl rfl rfl rfl) rfl rfl ?_
      refine aA ?_
      refine aB rfl (aC rfl) rfl rfl ?_
      refine aA ?_
      refine aD rfl rfl rfl rfl rfl rfl rfl ?_
      refine aA ?_
      refine aD rfl rfl rfl rfl rfl rfl rfl ?_
      refine aA ?_
      refine aD rfl rfl rfl rfl rfl rfl rfl ?_
      refine aA ?_
      refine aB rfl (aJ (v := .bool (false)) (b := false) rfl rfl rfl rfl) rfl rfl ?_
      refine aA ?_
      refine aB rfl (aG rfl) rfl rfl ?_
      refine aF ?_
      refine aH ?_
      refine wp_ret ?_
      refine aY ?_
      refine aR ?_
      refine aM (.inl rfl) Try.results119 rfl ?_
      have hr115 : inst x = false := by first | (simp [inst, aQ, ← hb0, hc20, hc52, hc84, hg85]; done) | (exfalso; omega) | done
      rw [hr115]
      exact ⟨rfl, H17.1⟩
    ·refine wp_seq ?_
     refine wp_seq ?_
     refine aI [0, 1] rfl ?_
     refine aA ?_
     refine aB rfl (bD rfl rfl) rfl rfl ?_
     refine aA ?_
     refine aB rfl (aG rfl) rfl rfl ?_
     refine aF ?_
     refine aH ?_
     refine aW rfl (fun hc116 => ?_) (fun hc116 => ?_)
     ·refine wp_skip ?_
      refine aH ?_
      refine aW rfl (fun hc117 => ?_) (fun hc117 => ?_)
      ·refine wp_seq ?_
       refine aI [0, 1, 2, 3, 4, 5, 6, 7, 8, 9, 10, 11] rfl ?_
       by_cases hg118 : b0 = true
       ·refine aA ?_
        refine aB rfl (bM (b := b0) hg118 (aC rfl)) rfl rfl ?_
        refine aA ?_
        refine aB rfl (aC rfl) rfl rfl ?_
        refine aA ?_
        refine aT rfl rfl rfl rfl (fun _ ho119 => ?_)
        refine aB ho119 (aN bP rfl) rfl rfl ?_
        refine aA ?_
        refine aT rfl rfl rfl rfl (fun _ ho120 => ?_)
        refine aB ho120 (aS (k := 1) (v := .int .i64 (x.A)) Try.isAgg3 rfl (H17.blk 0 rfl) rfl) rfl rfl ?_
        by_cases hg121 : (rgB x.A) = true
        ·refine aA ?_
         refine aT rfl rfl rfl rfl (fun _ ho122 => ?_)
         refine aK ho122 Try.call150 (vs := #[.int .i64 (x.A)]) rfl rfl rfl (bI (bO x.A _) hg121) ?_
         rintro e125 W124 ⟨rfl, hu123⟩; refine ⟨_, rfl, ?_⟩
         have H126 := H17.no hu123; clear H17
         refine aA ?_
         refine aB rfl (aJ (v := .bool (true)) (b := true) rfl rfl rfl rfl) rfl rfl ?_
         refine aA ?_
         refine aB rfl (aC rfl) rfl rfl ?_
         refine aA ?_
         refine aT rfl rfl rfl rfl (fun _ ho127 => ?_)
         refine aB ho127 (aN bU rfl) rfl rfl ?_
         refine aA ?_
         refine aT rfl rfl rfl rfl (fun _ ho128 => ?_)
         refine aB ho128 (aS (k := 2) (v := .int .i64 (x.B)) Try.isAgg3 rfl (H126.blk 0 rfl) rfl) rfl rfl ?_
         by_cases hg129 : (x.B : Int) = 0
         ·refine aA ?_
          refine aT rfl rfl rfl rfl (fun _ ho130 => ?_)
          refine aB ho130 (bQ hg129 (bD rfl rfl)) rfl rfl ?_
          refine aA ?_
          refine aB rfl (aJ (v := .bool (true)) (b := true) rfl rfl rfl rfl) rfl rfl ?_
          refine aA ?_
          refine aB rfl (aG rfl) rfl rfl ?_
          refine aF ?_
          refine aH ?_
          refine wp_ret ?_
          refine aY ?_
          refine aR ?_
          refine aM (.inl rfl) Try.results119 rfl ?_
          have hr131 : inst x = true := by first | (simp [inst, aQ, ← hb0, hc20, hc52, hc84, hc116, hc117, hg118, hg121, hg129]; done) | (exfalso; omega) | done
          rw [hr131]
          exact ⟨rfl, H126.1⟩
         ·refine aA ?_
          refine aT rfl rfl rfl rfl (fun _ ho132 => ?_)
          refine aB ho132 (bS hg129 (bD rfl rfl)) rfl rfl ?_
          refine aA ?_
          refine aB rfl (aJ (v := .bool (false)) (b := true) rfl rfl rfl rfl) rfl rfl ?_
          refine aA ?_
          refine aB rfl (aG rfl) rfl rfl ?_
          refine aF ?_
          refine aH ?_
          refine wp_ret ?_
          refine aY ?_
          refine aR ?_
          refine aM (.inl rfl) Try.results119 rfl ?_
          have hr133 : inst x = false := by first | (simp [inst, aQ, ← hb0, hc20, hc52, hc84, hc116, hc117, hg118, hg121, hg129]; done) | (exfalso; omega) | done
          rw [hr133]
          exact ⟨rfl, H126.1⟩
        ·refine aA ?_
         refine aT rfl rfl rfl rfl (fun _ ho134 => ?_)
         refine aK ho134 Try.call150 (vs := #[.int .i64 (x.A)]) rfl rfl rfl (bI (bO x.A _) (eq_false_of_ne_true hg121)) ?_
         rintro e137 W136 ⟨rfl, hu135⟩; refine ⟨_, rfl, ?_⟩
         have H138 := H17.no hu135; clear H17
         refine aA ?_
         refine aB rfl (aJ (v := .bool (false)) (b := true) rfl rfl rfl rfl) rfl rfl ?_
         refine aA ?_
         refine aB rfl (aC rfl) rfl rfl ?_
         refine aA ?_
         refine aD rfl rfl rfl rfl rfl rfl rfl ?_
         refine aA ?_
         refine aD rfl rfl rfl rfl rfl rfl rfl ?_
         refine aA ?_
         refine aD rfl rfl rfl rfl rfl rfl rfl ?_
         refine aA ?_
         refine aB rfl (aJ (v := .bool (false)) (b := false) rfl rfl rfl rfl) rfl rfl ?_
         refine aA ?_
         refine aB rfl (aG rfl) rfl rfl ?_
         refine aF ?_
         refine aH ?_
         refine wp_ret ?_
         refine aY ?_
         refine aR ?_
         refine aM (.inl rfl) Try.results119 rfl ?_
         have hr139 : inst x = false := by first | (simp [inst, aQ, ← hb0, hc20, hc52, hc84, hc116, hc117, hg118, hg121]; done) | (exfalso; omega) | done
         rw [hr139]
         exact ⟨rfl, H138.1⟩
       ·refine aA ?_
        refine aB rfl (bM (b := b0) (eq_false_of_ne_true hg118) (aC rfl)) rfl rfl ?_
        refine aA ?_
        refine aB rfl (aC rfl) rfl rfl ?_
        refine aA ?_
        refine aD rfl rfl rfl rfl rfl rfl rfl ?_
        refine aA ?_
        refine aD rfl rfl rfl rfl rfl rfl rfl ?_
        refine aA ?_
        refine aD rfl rfl rfl rfl rfl rfl rfl ?_
        refine aA ?_
        refine aB rfl (aJ (v := .bool (false)) (b := false) rfl rfl rfl rfl) rfl rfl ?_
        refine aA ?_
        refine aB rfl (aC rfl) rfl rfl ?_
        refine aA ?_
        refine aD rfl rfl rfl rfl rfl rfl rfl ?_
        refine aA ?_
        refine aD rfl rfl rfl rfl rfl rfl rfl ?_
        refine aA ?_
        refine aD rfl rfl rfl rfl rfl rfl rfl ?_
        refine aA ?_
        refine aB rfl (aJ (v := .bool (false)) (b := false) rfl rfl rfl rfl) rfl rfl ?_
        refine aA ?_
        refine aB rfl (aG rfl) rfl rfl ?_
        refine aF ?_
        refine aH ?_
        refine wp_ret ?_
        refine aY ?_
        refine aR ?_
        refine aM (.inl rfl) Try.results119 rfl ?_
        have hr140 : inst x = false := by first | (simp [inst, aQ, ← hb0, hc20, hc52, hc84, hc116, hc117, hg118]; done) | (exfalso; omega) | done
        rw [hr140]
        exact ⟨rfl, H17.1⟩
      ·refine wp_seq ?_
       refine aI [0, 1] rfl ?_
       refine aA ?_
       refine aB rfl (bD rfl rfl) rfl rfl ?_
       refine aA ?_
       refine aB rfl (aG rfl) rfl rfl ?_
       refine aF ?_
       refine aH ?_
       refine aW rfl (fun hc141 => ?_) (fun hc141 => ?_)
       ·refine wp_seq ?_
        refine aI [0, 1, 2, 3, 4, 5, 6, 7, 8, 9, 10, 11, 12, 13, 14, 15, 16, 17, 18, 19, 20, 21, 22, 23] rfl ?_
        refine aA ?_
        refine aB rfl (aN bP rfl) rfl rfl ?_
        refine aA ?_
        refine aB rfl (aS (k := 1) (v := .int .i64 (x.A)) Try.isAgg3 rfl (H17.blk 0 rfl) rfl) rfl rfl ?_
        by_cases hg142 : (rgB x.A) = true
        ·refine aA ?_
         refine aK rfl Try.call150 (vs := #[.int .i64 (x.A)]) rfl rfl rfl (bI (bO x.A _) hg142) ?_
         rintro e145 W144 ⟨rfl, hu143⟩; refine ⟨_, rfl, ?_⟩
         have H146 := H17.no hu143; clear H17
         refine aA ?_
         refine aB rfl (aC rfl) rfl rfl ?_
         refine aA ?_
         refine aT rfl rfl rfl rfl (fun _ ho147 => ?_)
         refine aB ho147 (aN bU rfl) rfl rfl ?_
         refine aA ?_
         refine aT rfl rfl rfl rfl (fun _ ho148 => ?_)
         refine aB ho148 (aS (k := 2) (v := .int .i64 (x.B)) Try.isAgg3 rfl (H146.blk 0 rfl) rfl) rfl rfl ?_
         by_cases hg149 : (rgB x.B) = true
         ·refine aA ?_
          refine aT rfl rfl rfl rfl (fun _ ho150 => ?_)
          refine aK ho150 Try.call150 (vs := #[.int .i64 (x.B)]) rfl rfl rfl (bI (bO x.B _) hg149) ?_
          rintro e153 W152 ⟨rfl, hu151⟩; refine ⟨_, rfl, ?_⟩
          have H154 := H146.no hu151; clear H146
          refine aA ?_
          refine aB rfl (aJ (v := .bool (true)) (b := true) rfl rfl rfl rfl) rfl rfl ?_
          refine aA ?_
          refine aB rfl (aC rfl) rfl rfl ?_
          refine aA ?_
          refine aT rfl rfl rfl rfl (fun _ ho155 => ?_)
          refine aB ho155 (aN eU rfl) rfl rfl ?_
          refine aA ?_
          refine aT rfl rfl rfl rfl (fun _ ho156 => ?_)
          refine aB ho156 (aS (k := 3) (v := .int .i64 (x.C)) Try.isAgg3 rfl (H154.blk 0 rfl) rfl) rfl rfl ?_
          by_cases hg157 : (rgB x.C) = true
          ·refine aA ?_
           refine aT rfl rfl rfl rfl (fun _ ho158 => ?_)
           refine aK ho158 Try.call150 (vs := #[.int .i64 (x.C)]) rfl rfl rfl (bI (bO x.C _) hg157) ?_
           rintro e161 W160 ⟨rfl, hu159⟩; refine ⟨_, rfl, ?_⟩
           have H162 := H154.no hu159; clear H154
           refine aA ?_
           refine aB rfl (aJ (v := .bool (true)) (b := true) rfl rfl rfl rfl) rfl rfl ?_
           refine aA ?_
           refine aB rfl (aC rfl) rfl rfl ?_
           refine aA ?_
           refine aT rfl rfl rfl rfl (fun _ ho163 => ?_)
           refine aB ho163 (aN fE rfl) rfl rfl ?_
           refine aA ?_
           refine aT rfl rfl rfl rfl (fun _ ho164 => ?_)
           refine aB ho164 (aS (k := 4) (v := .int .i64 (x.D)) Try.isAgg3 rfl (H162.blk 0 rfl) rfl) rfl rfl ?_
           by_cases hg165 : (x.D : Int) = 0
           ·refine aA ?_
            refine aT rfl rfl rfl rfl (fun _ ho166 => ?_)
            refine aB ho166 (bQ hg165 (bD rfl rfl)) rfl rfl ?_
            refine aA ?_
            refine aB rfl (aJ (v := .bool (true)) (b := true) rfl rfl rfl rfl) rfl rfl ?_
            refine aA ?_
            refine aB rfl (aC rfl) rfl rfl ?_
            refine aA ?_
            refine aT rfl rfl rfl rfl (fun _ ho167 => ?_)
            refine aB ho167 (aN fU rfl) rfl rfl ?_
            refine aA ?_
            refine aT rfl rfl rfl rfl (fun _ ho168 => ?_)
            refine aB ho168 (aS (k := 5) (v := .string (x.Name)) Try.isAgg9 rfl (H162.blk 0 rfl) rfl) rfl rfl ?_
            by_cases hg169 : (x.Name.toList == (⟨#[]⟩ : ByteArray).toList) = true
            ·have hg169n := hg169
             rw [aQ] at hg169n
             refine aA ?_
             refine aT rfl rfl rfl rfl (fun _ ho170 => ?_)
             refine aB ho170 (bM (b := x.Name.toList == (⟨#[]⟩ : ByteArray).toList) hg169 (dQ rfl rfl)) rfl rfl ?_
             refine aA ?_
             refine aB rfl (aJ (v := .bool (true)) (b := true) rfl rfl rfl rfl) rfl rfl ?_
             refine aA ?_
             refine aB rfl (aG rfl) rfl rfl ?_
             refine aF ?_
             refine aH ?_
             refine wp_ret ?_
             refine aY ?_
             refine aR ?_
             refine aM (.inl rfl) Try.results119 rfl ?_
             have hr171 : inst x = true := by first | (simp [inst, aQ, ← hb0, hc20, hc52, hc84, hc116, hc117, hc141, hg142, hg149, hg157, hg165, hg169n]; done) | (exfalso; omega) | (have q := hg169n; revert q; (simp [inst, aQ, hc20, hc52, hc84, hc116, hc117, hc141, hg142, hg149, hg157, hg165] <;> (intros; simp_all)); done)
             rw [hr171]
             exact ⟨rfl, H162.1⟩
            ·have hg169n := hg169
             rw [aQ] at hg169n
             refine aA ?_
             refine aT rfl rfl rfl rfl (fun _ ho172 => ?_)
             refine aB ho172 (bM (b := x.Name.toList == (⟨#[]⟩ : ByteArray).toList) (eq_false_of_ne_true hg169) (dQ rfl rfl)) rfl rfl ?_
             refine aA ?_
             refine aB rfl (aJ (v := .bool (false)) (b := true) rfl rfl rfl rfl) rfl rfl ?_
             refine aA ?_
             refine aB rfl (aG rfl) rfl rfl ?_
             refine aF ?_
             refine aH ?_
             refine wp_ret ?_
             refine aY ?_
             refine aR ?_
             refine aM (.inl rfl) Try.results119 rfl ?_
             have hr173 : inst x = false := by first | (simp [inst, aQ, ← hb0, hc20, hc52, hc84, hc116, hc117, hc141, hg142, hg149, hg157, hg165, hg169n]; done) | (exfalso; omega) | (have q := hg169n; revert q; (simp [inst, aQ, hc20, hc52, hc84, hc116, hc117, hc141, hg142, hg149, hg157, hg165] <;> (intros; simp_all)); done)
             rw [hr173]
             exact ⟨rfl, H162.1⟩
           ·refine aA ?_
            refine aT rfl rfl rfl rfl (fun _ ho174 => ?_)
            refine aB ho174 (bS hg165 (bD rfl rfl)) rfl rfl ?_
            refine aA ?_
            refine aB rfl (aJ (v := .bool (false)) (b := true) rfl rfl rfl rfl) rfl rfl ?_
            refine aA ?_
            refine aB rfl (aC rfl) rfl rfl ?_
            refine aA ?_
            refine aD rfl rfl rfl rfl rfl rfl rfl ?_
            refine aA ?_
            refine aD rfl rfl rfl rfl rfl rfl rfl ?_
            refine aA ?_
            refine aD rfl rfl rfl rfl rfl rfl rfl ?_
            refine aA ?_
            refine aB rfl (aJ (v := .bool (false)) (b := false) rfl rfl rfl rfl) rfl rfl ?_
            refine aA ?_
            refine aB rfl (aG rfl) rfl rfl ?_
            refine aF ?_
            refine aH ?_
            refine wp_ret ?_
            refine aY ?_
            refine aR ?_
            refine aM (.inl rfl) Try.results119 rfl ?_
            have hr175 : inst x = false := by first | (simp [inst, aQ, ← hb0, hc20, hc52, hc84, hc116, hc117, hc141, hg142, hg149, hg157, hg165]; done) | (exfalso; omega) | done
            rw [hr175]
            exact ⟨rfl, H162.1⟩
          ·refine aA ?_
           refine aT rfl rfl rfl rfl (fun _ ho176 => ?_)
           refine aK ho176 Try.call150 (vs := #[.int .i64 (x.C)]) rfl rfl rfl (bI (bO x.C _) (eq_false_of_ne_true hg157)) ?_
           rintro e179 W178 ⟨rfl, hu177⟩; refine ⟨_, rfl, ?_⟩
           have H180 := H154.no hu177; clear H154
           refine aA ?_
           refine aB rfl (aJ (v := .bool (false)) (b := true) rfl rfl rfl rfl) rfl rfl ?_
           refine aA ?_
           refine aB rfl (aC rfl) rfl rfl ?_
           refine aA ?_
           refine aD rfl rfl rfl rfl rfl rfl rfl ?_
           refine aA ?_
           refine aD rfl rfl rfl rfl rfl rfl rfl ?_
           refine aA ?_
           refine aD rfl rfl rfl rfl rfl rfl rfl ?_
           refine aA ?_
           refine aB rfl (aJ (v := .bool (false)) (b := false) rfl rfl rfl rfl) rfl rfl ?_
           refine aA ?_
           refine aB rfl (aC rfl) rfl rfl ?_
           refine aA ?_
           refine aD rfl rfl rfl rfl rfl rfl rfl ?_
           refine aA ?_
           refine aD rfl rfl rfl rfl rfl rfl rfl ?_
           refine aA ?_
           refine aD rfl rfl rfl rfl rfl rfl rfl ?_
           refine aA ?_
           refine aB rfl (aJ (v := .bool (false)) (b := false) rfl rfl rfl rfl) rfl rfl ?_
           refine aA ?_
           refine aB rfl (aG rfl) rfl rfl ?_
           refine aF ?_
           refine aH ?_
           refine wp_ret ?_
           refine aY ?_
           refine aR ?_
           refine aM (.inl rfl) Try.results119 rfl ?_
           have hr181 : inst x = false := by first | (simp [inst, aQ, ← hb0, hc20, hc52, hc84, hc116, hc117, hc141, hg142, hg149, hg157]; done) | (exfalso; omega) | done
           rw [hr181]
           exact ⟨rfl, H180.1⟩
         ·refine aA ?_
          refine aT rfl rfl rfl rfl (fun _ ho182 => ?_)
          refine aK ho182 Try.call150 (vs := #[.int .i64 (x.B)]) rfl rfl rfl (bI (bO x.B _) (eq_false_of_ne_true hg149)) ?_
          rintro e185 W184 ⟨rfl, hu183⟩; refine ⟨_, rfl, ?_⟩
          have H186 := H146.no hu183; clear H146
          refine aA ?_
          refine aB rfl (aJ (v := .bool (false)) (b := true) rfl rfl rfl rfl) rfl rfl ?_
          refine aA ?_
          refine aB rfl (aC rfl) rfl rfl ?_
          refine aA ?_
          refine aD rfl rfl rfl rfl rfl rfl rfl ?_
          refine aA ?_
          refine aD rfl rfl rfl rfl rfl rfl rfl ?_
          refine aA ?_
          refine aD rfl rfl rfl rfl rfl rfl rfl ?_
          refine aA ?_
          refine aB rfl (aJ (v := .bool (false)) (b := false) rfl rfl rfl rfl) rfl rfl ?_
          refine aA ?_
          refine aB rfl (aC rfl) rfl rfl ?_
          refine aA ?_
          refine aD rfl rfl rfl rfl rfl rfl rfl ?_
          refine aA ?_
          refine aD rfl rfl rfl rfl rfl rfl rfl ?_
          refine aA ?_
          refine aD rfl rfl rfl rfl rfl rfl rfl ?_
          refine aA ?_
          refine aB rfl (aJ (v := .bool (false)) (b := false) rfl rfl rfl rfl) rfl rfl ?_
          refine aA ?_
          refine aB rfl (aC rfl) rfl rfl ?_
          refine aA ?_
          refine aD rfl rfl rfl rfl rfl rfl rfl ?_
          refine aA ?_
          refine aD rfl rfl rfl rfl rfl rfl rfl ?_
          refine aA ?_
          refine aD rfl rfl rfl rfl rfl rfl rfl ?_
          refine aA ?_
          refine aB rfl (aJ (v := .bool (false)) (b := false) rfl rfl rfl rfl) rfl rfl ?_
          refine aA ?_
          refine aB rfl (aG rfl) rfl rfl ?_
          refine aF ?_
          refine aH ?_
          refine wp_ret ?_
          refine aY ?_
          refine aR ?_
          refine aM (.inl rfl) Try.results119 rfl ?_
          have hr187 : inst x = false := by first | (simp [inst, aQ, ← hb0, hc20, hc52, hc84, hc116, hc117, hc141, hg142, hg149]; done) | (exfalso; omega) | done
          rw [hr187]
          exact ⟨rfl, H186.1⟩
        ·refine aA ?_
         refine aK rfl Try.call150 (vs := #[.int .i64 (x.A)]) rfl rfl rfl (bI (bO x.A _) (eq_false_of_ne_true hg142)) ?_
         rintro e190 W189 ⟨rfl, hu188⟩; refine ⟨_, rfl, ?_⟩
         have H191 := H17.no hu188; clear H17
         refine aA ?_
         refine aB rfl (aC rfl) rfl rfl ?_
         refine aA ?_
         refine aD rfl rfl rfl rfl rfl rfl rfl ?_
         refine aA ?_
         refine aD rfl rfl rfl rfl rfl rfl rfl ?_
         refine aA ?_
         refine aD rfl rfl rfl rfl rfl rfl rfl ?_
         refine aA ?_
         refine aB rfl (aJ (v := .bool (false)) (b := false) rfl rfl rfl rfl) rfl rfl ?_
         refine aA ?_
         refine aB rfl (aC rfl) rfl rfl ?_
         refine aA ?_
         refine aD rfl rfl rfl rfl rfl rfl rfl ?_
         refine aA ?_
         refine aD rfl rfl rfl rfl rfl rfl rfl ?_
         refine aA ?_
         refine aD rfl rfl rfl rfl rfl rfl rfl ?_
         refine aA ?_
         refine aB rfl (aJ (v := .bool (false)) (b := false) rfl rfl rfl rfl) rfl rfl ?_
         refine aA ?_
         refine aB rfl (aC rfl) rfl rfl ?_
         refine aA ?_
         refine aD rfl rfl rfl rfl rfl rfl rfl ?_
         refine aA ?_
         refine aD rfl rfl rfl rfl rfl rfl rfl ?_
         refine aA ?_
         refine aD rfl rfl rfl rfl rfl rfl rfl ?_
         refine aA ?_
         refine aB rfl (aJ (v := .bool (false)) (b := false) rfl rfl rfl rfl) rfl rfl ?_
         refine aA ?_
         refine aB rfl (aC rfl) rfl rfl ?_
         refine aA ?_
         refine aD rfl rfl rfl rfl rfl rfl rfl ?_
         refine aA ?_
         refine aD rfl rfl rfl rfl rfl rfl rfl ?_
         refine aA ?_
         refine aD rfl rfl rfl rfl rfl rfl rfl ?_
         refine aA ?_
         refine aB rfl (aJ (v := .bool (false)) (b := false) rfl rfl rfl rfl) rfl rfl ?_
         refine aA ?_
         refine aB rfl (aG rfl) rfl rfl ?_
         refine aF ?_
         refine aH ?_
         refine wp_ret ?_
         refine aY ?_
         refine aR ?_
         refine aM (.inl rfl) Try.results119 rfl ?_
         have hr192 : inst x = false := by first | (simp [inst, aQ, ← hb0, hc20, hc52, hc84, hc116, hc117, hc141, hg142]; done) | (exfalso; omega) | done
         rw [hr192]
         exact ⟨rfl, H191.1⟩
       ·refine wp_seq ?_
        refine aI [0, 1] rfl ?_
        refine aA ?_
        refine aB rfl (bD rfl rfl) rfl rfl ?_
        refine aA ?_
        refine aB rfl (aG rfl) rfl rfl ?_
        refine aF ?_
        refine aH ?_
        refine aW rfl (fun hc193 => ?_) (fun hc193 => ?_)
        ·refine wp_seq ?_
         refine aI [0, 1, 2, 3, 4, 5, 6, 7, 8, 9, 10, 11, 12, 13, 14, 15, 16, 17] rfl ?_
         refine aA ?_
         refine aB rfl (aN bP rfl) rfl rfl ?_
         refine aA ?_
         refine aB rfl (aS (k := 1) (v := .int .i64 (x.A)) Try.isAgg3 rfl (H17.blk 0 rfl) rfl) rfl rfl ?_
         by_cases hg194 : (rgB x.A) = true
         ·refine aA ?_
          refine aK rfl Try.call150 (vs := #[.int .i64 (x.A)]) rfl rfl rfl (bI (bO x.A _) hg194) ?_
          rintro e197 W196 ⟨rfl, hu195⟩; refine ⟨_, rfl, ?_⟩
          have H198 := H17.no hu195; clear H17
          refine aA ?_
          refine aB rfl (aC rfl) rfl rfl ?_
          refine aA ?_
          refine aT rfl rfl rfl rfl (fun _ ho199 => ?_)
          refine aB ho199 (aN bU rfl) rfl rfl ?_
          refine aA ?_
          refine aT rfl rfl rfl rfl (fun _ ho200 => ?_)
          refine aB ho200 (aS (k := 2) (v := .int .i64 (x.B)) Try.isAgg3 rfl (H198.blk 0 rfl) rfl) rfl rfl ?_
          by_cases hg201 : (rgB x.B) = true
          ·refine aA ?_
           refine aT rfl rfl rfl rfl (fun _ ho202 => ?_)
           refine aK ho202 Try.call150 (vs := #[.int .i64 (x.B)]) rfl rfl rfl (bI (bO x.B _) hg201) ?_
           rintro e205 W204 ⟨rfl, hu203⟩; refine ⟨_, rfl, ?_⟩
           have H206 := H198.no hu203; clear H198
           refine aA ?_
           refine aB rfl (aJ (v := .bool (true)) (b := true) rfl rfl rfl rfl) rfl rfl ?_
           refine aA ?_
           refine aB rfl (aC rfl) rfl rfl ?_
           refine aA ?_
           refine aT rfl rfl rfl rfl (fun _ ho207 => ?_)
           refine aB ho207 (bL Try.isAgg118 Try.sizeOf118 rfl (H206.blk 0 rfl) rfl) rfl rfl ?_
           by_cases hg208 : (prB x.C x.D) = true
           ·refine aA ?_
            refine aT rfl rfl rfl rfl (fun _ ho209 => ?_)
            refine aK ho209 Try.call151 (vs := #[.agg #[.int .i64 (x.Op), .int .i64 (x.A), .int .i64 (x.B), .int .i64 (x.C), .int .i64 (x.D), .string (x.Name)]]) rfl rfl rfl (bI (two_s x _ _ (dV _ x)) hg208) ?_
            rintro e212 W211 ⟨rfl, hu210⟩; refine ⟨_, rfl, ?_⟩
            have H213 := H206.no hu210; clear H206
            refine aA ?_
            refine aB rfl (aJ (v := .bool (true)) (b := true) rfl rfl rfl rfl) rfl rfl ?_
            refine aA ?_
            refine aB rfl (aC rfl) rfl rfl ?_
            refine aA ?_
            refine aT rfl rfl rfl rfl (fun _ ho214 => ?_)
            refine aB ho214 (aN fU rfl) rfl rfl ?_
            refine aA ?_
            refine aT rfl rfl rfl rfl (fun _ ho215 => ?_)
            refine aB ho215 (aS (k := 5) (v := .string (x.Name)) Try.isAgg9 rfl (H213.blk 0 rfl) rfl) rfl rfl ?_
            by_cases hg216 : (nmB x.Name) = true
            ·refine aA ?_
             refine aT rfl rfl rfl rfl (fun _ ho217 => ?_)
             refine aK ho217 Try.call76 (vs := #[.string (x.Name)]) rfl rfl rfl (bI (fG x.Name _ hs) hg216) ?_
             rintro e220 W219 ⟨rfl, hu218⟩; refine ⟨_, rfl, ?_⟩
             have H221 := H213.no hu218; clear H213
             refine aA ?_
             refine aB rfl (aJ (v := .bool (true)) (b := true) rfl rfl rfl rfl) rfl rfl ?_
             refine aA ?_
             refine aB rfl (aG rfl) rfl rfl ?_
             refine aF ?_
             refine aH ?_
             refine wp_ret ?_
             refine aY ?_
             refine aR ?_
             refine aM (.inl rfl) Try.results119 rfl ?_
             have hr222 : inst x = true := by first | (simp [inst, aQ, ← hb0, hc20, hc52, hc84, hc116, hc117, hc141, hc193, hg194, hg201, hg208, hg216]; done) | (exfalso; omega) | done
             rw [hr222]
             exact ⟨rfl, H221.1⟩
            ·refine aA ?_
             refine aT rfl rfl rfl rfl (fun _ ho223 => ?_)
             refine aK ho223 Try.call76 (vs := #[.string (x.Name)]) rfl rfl rfl (bI (fG x.Name _ hs) (eq_false_of_ne_true hg216)) ?_
             rintro e226 W225 ⟨rfl, hu224⟩; refine ⟨_, rfl, ?_⟩
             have H227 := H213.no hu224; clear H213
             refine aA ?_
             refine aB rfl (aJ (v := .bool (false)) (b := true) rfl rfl rfl rfl) rfl rfl ?_
             refine aA ?_
             refine aB rfl (aG rfl) rfl rfl ?_
             refine aF ?_
             refine aH ?_
             refine wp_ret ?_
             refine aY ?_
             refine aR ?_
             refine aM (.inl rfl) Try.results119 rfl ?_
             have hr228 : inst x = false := by first | (simp [inst, aQ, ← hb0, hc20, hc52, hc84, hc116, hc117, hc141, hc193, hg194, hg201, hg208, hg216]; done) | (exfalso; omega) | done
             rw [hr228]
             exact ⟨rfl, H227.1⟩
           ·refine aA ?_
            refine aT rfl rfl rfl rfl (fun _ ho229 => ?_)
            refine aK ho229 Try.call151 (vs := #[.agg #[.int .i64 (x.Op), .int .i64 (x.A), .int .i64 (x.B), .int .i64 (x.C), .int .i64 (x.D), .string (x.Name)]]) rfl rfl rfl (bI (two_s x _ _ (dV _ x)) (eq_false_of_ne_true hg208)) ?_
            rintro e232 W231 ⟨rfl, hu230⟩; refine ⟨_, rfl, ?_⟩
            have H233 := H206.no hu230; clear H206
            refine aA ?_
            refine aB rfl (aJ (v := .bool (false)) (b := true) rfl rfl rfl rfl) rfl rfl ?_
            refine aA ?_
            refine aB rfl (aC rfl) rfl rfl ?_
            refine aA ?_
            refine aD rfl rfl rfl rfl rfl rfl rfl ?_
            refine aA ?_
            refine aD rfl rfl rfl rfl rfl rfl rfl ?_
            refine aA ?_
            refine aD rfl rfl rfl rfl rfl rfl rfl ?_
            refine aA ?_
            refine aB rfl (aJ (v := .bool (false)) (b := false) rfl rfl rfl rfl) rfl rfl ?_
            refine aA ?_
            refine aB rfl (aG rfl) rfl rfl ?_
            refine aF ?_
            refine aH ?_
            refine wp_ret ?_
            refine aY ?_
            refine aR ?_
            refine aM (.inl rfl) Try.results119 rfl ?_
            have hr234 : inst x = false := by first | (simp [inst, aQ, ← hb0, hc20, hc52, hc84, hc116, hc117, hc141, hc193, hg194, hg201, hg208]; done) | (exfalso; omega) | done
            rw [hr234]
            exact ⟨rfl, H233.1⟩
          ·refine aA ?_
           refine aT rfl rfl rfl rfl (fun _ ho235 => ?_)
           refine aK ho235 Try.call150 (vs := #[.int .i64 (x.B)]) rfl rfl rfl (bI (bO x.B _) (eq_false_of_ne_true hg201)) ?_
           rintro e238 W237 ⟨rfl, hu236⟩; refine ⟨_, rfl, ?_⟩
           have H239 := H198.no hu236; clear H198
           refine aA ?_
           refine aB rfl (aJ (v := .bool (false)) (b := true) rfl rfl rfl rfl) rfl rfl ?_
           refine aA ?_
           refine aB rfl (aC rfl) rfl rfl ?_
           refine aA ?_
           refine aD rfl rfl rfl rfl rfl rfl rfl ?_
           refine aA ?_
           refine aD rfl rfl rfl rfl rfl rfl rfl ?_
           refine aA ?_
           refine aB rfl (aJ (v := .bool (false)) (b := false) rfl rfl rfl rfl) rfl rfl ?_
           refine aA ?_
           refine aB rfl (aC rfl) rfl rfl ?_
           refine aA ?_
           refine aD rfl rfl rfl rfl rfl rfl rfl ?_
           refine aA ?_
           refine aD rfl rfl rfl rfl rfl rfl rfl ?_
           refine aA ?_
           refine aD rfl rfl rfl rfl rfl rfl rfl ?_
           refine aA ?_
           refine aB rfl (aJ (v := .bool (false)) (b := false) rfl rfl rfl rfl) rfl rfl ?_
           refine aA ?_
           refine aB rfl (aG rfl) rfl rfl ?_
           refine aF ?_
           refine aH ?_
           refine wp_ret ?_
           refine aY ?_
           refine aR ?_
           refine aM (.inl rfl) Try.results119 rfl ?_
           have hr240 : inst x = false := by first | (simp [inst, aQ, ← hb0, hc20, hc52, hc84, hc116, hc117, hc141, hc193, hg194, hg201]; done) | (exfalso; omega) | done
           rw [hr240]
           exact ⟨rfl, H239.1⟩
         ·refine aA ?_
          refine aK rfl Try.call150 (vs := #[.int .i64 (x.A)]) rfl rfl rfl (bI (bO x.A _) (eq_false_of_ne_true hg194)) ?_
          rintro e243 W242 ⟨rfl, hu241⟩; refine ⟨_, rfl, ?_⟩
          have H244 := H17.no hu241; clear H17
          refine aA ?_
          refine aB rfl (aC rfl) rfl rfl ?_
          refine aA ?_
          refine aD rfl rfl rfl rfl rfl rfl rfl ?_
          refine aA ?_
          refine aD rfl rfl rfl rfl rfl rfl rfl ?_
          refine aA ?_
          refine aD rfl rfl rfl rfl rfl rfl rfl ?_
          refine aA ?_
          refine aB rfl (aJ (v := .bool (false)) (b := false) rfl rfl rfl rfl) rfl rfl ?_
          refine aA ?_
          refine aB rfl (aC rfl) rfl rfl ?_
          refine aA ?_
          refine aD rfl rfl rfl rfl rfl rfl rfl ?_
          refine aA ?_
          refine aD rfl rfl rfl rfl rfl rfl rfl ?_
          refine aA ?_
          refine aB rfl (aJ (v := .bool (false)) (b := false) rfl rfl rfl rfl) rfl rfl ?_
          refine aA ?_
          refine aB rfl (aC rfl) rfl rfl ?_
          refine aA ?_
          refine aD rfl rfl rfl rfl rfl rfl rfl ?_
          refine aA ?_
          refine aD rfl rfl rfl rfl rfl rfl rfl ?_
          refine aA ?_
          refine aD rfl rfl rfl rfl rfl rfl rfl ?_
          refine aA ?_
          refine aB rfl (aJ (v := .bool (false)) (b := false) rfl rfl rfl rfl) rfl rfl ?_
          refine aA ?_
          refine aB rfl (aG rfl) rfl rfl ?_
          refine aF ?_
          refine aH ?_
          refine wp_ret ?_
          refine aY ?_
          refine aR ?_
          refine aM (.inl rfl) Try.results119 rfl ?_
          have hr245 : inst x = false := by first | (simp [inst, aQ, ← hb0, hc20, hc52, hc84, hc116, hc117, hc141, hc193, hg194]; done) | (exfalso; omega) | done
          rw [hr245]
          exact ⟨rfl, H244.1⟩
        ·refine wp_seq ?_
         refine aI [0, 1] rfl ?_
         refine aA ?_
         refine aB rfl (bD rfl rfl) rfl rfl ?_
         refine aA ?_
         refine aB rfl (aG rfl) rfl rfl ?_
         refine aF ?_
         refine aH ?_
         refine aW rfl (fun hc246 => ?_) (fun hc246 => ?_)
         ·refine wp_seq ?_
          refine aI [0, 1, 2, 3, 4, 5, 6, 7, 8, 9, 10, 11, 12, 13, 14, 15, 16, 17] rfl ?_
          refine aA ?_
          refine aB rfl (aN bP rfl) rfl rfl ?_
          refine aA ?_
          refine aB rfl (aS (k := 1) (v := .int .i64 (x.A)) Try.isAgg3 rfl (H17.blk 0 rfl) rfl) rfl rfl ?_
          by_cases hg247 : (rgB x.A) = true
          ·refine aA ?_
           refine aK rfl Try.call150 (vs := #[.int .i64 (x.A)]) rfl rfl rfl (bI (bO x.A _) hg247) ?_
           rintro e250 W249 ⟨rfl, hu248⟩; refine ⟨_, rfl, ?_⟩
           have H251 := H17.no hu248; clear H17
           refine aA ?_
           refine aB rfl (aC rfl) rfl rfl ?_
           refine aA ?_
           refine aT rfl rfl rfl rfl (fun _ ho252 => ?_)
           refine aB ho252 (aN bU rfl) rfl rfl ?_
           refine aA ?_
           refine aT rfl rfl rfl rfl (fun _ ho253 => ?_)
           refine aB ho253 (aS (k := 2) (v := .int .i64 (x.B)) Try.isAgg3 rfl (H251.blk 0 rfl) rfl) rfl rfl ?_
           by_cases hg254 : (x.B : Int) = 0
           ·refine aA ?_
            refine aT rfl rfl rfl rfl (fun _ ho255 => ?_)
            refine aB ho255 (bQ hg254 (bD rfl rfl)) rfl rfl ?_
            refine aA ?_
            refine aB rfl (aJ (v := .bool (true)) (b := true) rfl rfl rfl rfl) rfl rfl ?_
            refine aA ?_
            refine aB rfl (aC rfl) rfl rfl ?_
            refine aA ?_
            refine aT rfl rfl rfl rfl (fun _ ho256 => ?_)
            refine aB ho256 (bL Try.isAgg118 Try.sizeOf118 rfl (H251.blk 0 rfl) rfl) rfl rfl ?_
            by_cases hg257 : (prB x.C x.D) = true
            ·refine aA ?_
             refine aT rfl rfl rfl rfl (fun _ ho258 => ?_)
             refine aK ho258 Try.call151 (vs := #[.agg #[.int .i64 (x.Op), .int .i64 (x.A), .int .i64 (x.B), .int .i64 (x.C), .int .i64 (x.D), .string (x.Name)]]) rfl rfl rfl (bI (two_s x _ _ (dV _ x)) hg257) ?_
             rintro e261 W260 ⟨rfl, hu259⟩; refine ⟨_, rfl, ?_⟩
             have H262 := H251.no hu259; clear H251
             refine aA ?_
             refine aB rfl (aJ (v := .bool (true)) (b := true) rfl rfl rfl rfl) rfl rfl ?_
             refine aA ?_
             refine aB rfl (aC rfl) rfl rfl ?_
             refine aA ?_
             refine aT rfl rfl rfl rfl (fun _ ho263 => ?_)
             refine aB ho263 (aN fU rfl) rfl rfl ?_
             refine aA ?_
             refine aT rfl rfl rfl rfl (fun _ ho264 => ?_)
             refine aB ho264 (aS (k := 5) (v := .string (x.Name)) Try.isAgg9 rfl (H262.blk 0 rfl) rfl) rfl rfl ?_
             by_cases hg265 : (nmB x.Name) = true
             ·refine aA ?_
              refine aT rfl rfl rfl rfl (fun _ ho266 => ?_)
              refine aK ho266 Try.call76 (vs := #[.string (x.Name)]) rfl rfl rfl (bI (fG x.Name _ hs) hg265) ?_
              rintro e269 W268 ⟨rfl, hu267⟩; refine ⟨_, rfl, ?_⟩
              have H270 := H262.no hu267; clear H262
              refine aA ?_
              refine aB rfl (aJ (v := .bool (true)) (b := true) rfl rfl rfl rfl) rfl rfl ?_
              refine aA ?_
              refine aB rfl (aG rfl) rfl rfl ?_
              refine aF ?_
              refine aH ?_
              refine wp_ret ?_
              refine aY ?_
              refine aR ?_
              refine aM (.inl rfl) Try.results119 rfl ?_
              have hr271 : inst x = true := by first | (simp [inst, aQ, ← hb0, hc20, hc52, hc84, hc116, hc117, hc141, hc193, hc246, hg247, hg254, hg257, hg265]; done) | (exfalso; omega) | done
              rw [hr271]
              exact ⟨rfl, H270.1⟩
             ·refine aA ?_
              refine aT rfl rfl rfl rfl (fun _ ho272 => ?_)
              refine aK ho272 Try.call76 (vs := #[.string (x.Name)]) rfl rfl rfl (bI (fG x.Name _ hs) (eq_false_of_ne_true hg265)) ?_
              rintro e275 W274 ⟨rfl, hu273⟩; refine ⟨_, rfl, ?_⟩
              have H276 := H262.no hu273; clear H262
              refine aA ?_
              refine aB rfl (aJ (v := .bool (false)) (b := true) rfl rfl rfl rfl) rfl rfl ?_
              refine aA ?_
              refine aB rfl (aG rfl) rfl rfl ?_
              refine aF ?_
              refine aH ?_
              refine wp_ret ?_
              refine aY ?_
              refine aR ?_
              refine aM (.inl rfl) Try.results119 rfl ?_
              have hr277 : inst x = false := by first | (simp [inst, aQ, ← hb0, hc20, hc52, hc84, hc116, hc117, hc141, hc193, hc246, hg247, hg254, hg257, hg265]; done) | (exfalso; omega) | done
              rw [hr277]
              exact ⟨rfl, H276.1⟩
            ·refine aA ?_
             refine aT rfl rfl rfl rfl (fun _ ho278 => ?_)
             refine aK ho278 Try.call151 (vs := #[.agg #[.int .i64 (x.Op), .int .i64 (x.A), .int .i64 (x.B), .int .i64 (x.C), .int .i64 (x.D), .string (x.Name)]]) rfl rfl rfl (bI (two_s x _ _ (dV _ x)) (eq_false_of_ne_true hg257)) ?_
             rintro e281 W280 ⟨rfl, hu279⟩; refine ⟨_, rfl, ?_⟩
             have H282 := H251.no hu279; clear H251
             refine aA ?_
             refine aB rfl (aJ (v := .bool (false)) (b := true) rfl rfl rfl rfl) rfl rfl ?_
             refine aA ?_
             refine aB rfl (aC rfl) rfl rfl ?_
             refine aA ?_
             refine aD rfl rfl rfl rfl rfl rfl rfl ?_
             refine aA ?_
             refine aD rfl rfl rfl rfl rfl rfl rfl ?_
             refine aA ?_
             refine aD rfl rfl rfl rfl rfl rfl rfl ?_
             refine aA ?_
             refine aB rfl (aJ (v := .bool (false)) (b := false) rfl rfl rfl rfl) rfl rfl ?_
             refine aA ?_
             refine aB rfl (aG rfl) rfl rfl ?_
             refine aF ?_
             refine aH ?_
             refine wp_ret ?_
             refine aY ?_
             refine aR ?_
             refine aM (.inl rfl) Try.results119 rfl ?_
             have hr283 : inst x = false := by first | (simp [inst, aQ, ← hb0, hc20, hc52, hc84, hc116, hc117, hc141, hc193, hc246, hg247, hg254, hg257]; done) | (exfalso; omega) | done
             rw [hr283]
             exact ⟨rfl, H282.1⟩
           ·refine aA ?_
            refine aT rfl rfl rfl rfl (fun _ ho284 => ?_)
            refine aB ho284 (bS hg254 (bD rfl rfl)) rfl rfl ?_
            refine aA ?_
            refine aB rfl (aJ (v := .bool (false)) (b := true) rfl rfl rfl rfl) rfl rfl ?_
            refine aA ?_
            refine aB rfl (aC rfl) rfl rfl ?_
            refine aA ?_
            refine aD rfl rfl rfl rfl rfl rfl rfl ?_
            refine aA ?_
            refine aD rfl rfl rfl rfl rfl rfl rfl ?_
            refine aA ?_
            refine aB rfl (aJ (v := .bool (false)) (b := false) rfl rfl rfl rfl) rfl rfl ?_
            refine aA ?_
            refine aB rfl (aC rfl) rfl rfl ?_
            refine aA ?_
            refine aD rfl rfl rfl rfl rfl rfl rfl ?_
            refine aA ?_
            refine aD rfl rfl rfl rfl rfl rfl rfl ?_
            refine aA ?_
            refine aD rfl rfl rfl rfl rfl rfl rfl ?_
            refine aA ?_
            refine aB rfl (aJ (v := .bool (false)) (b := false) rfl rfl rfl rfl) rfl rfl ?_
            refine aA ?_
            refine aB rfl (aG rfl) rfl rfl ?_
            refine aF ?_
            refine aH ?_
            refine wp_ret ?_
            refine aY ?_
            refine aR ?_
            refine aM (.inl rfl) Try.results119 rfl ?_
            have hr285 : inst x = false := by first | (simp [inst, aQ, ← hb0, hc20, hc52, hc84, hc116, hc117, hc141, hc193, hc246, hg247, hg254]; done) | (exfalso; omega) | done
            rw [hr285]
            exact ⟨rfl, H251.1⟩
          ·refine aA ?_
           refine aK rfl Try.call150 (vs := #[.int .i64 (x.A)]) rfl rfl rfl (bI (bO x.A _) (eq_false_of_ne_true hg247)) ?_
           rintro e288 W287 ⟨rfl, hu286⟩; refine ⟨_, rfl, ?_⟩
           have H289 := H17.no hu286; clear H17
           refine aA ?_
           refine aB rfl (aC rfl) rfl rfl ?_
           refine aA ?_
           refine aD rfl rfl rfl rfl rfl rfl rfl ?_
           refine aA ?_
           refine aD rfl rfl rfl rfl rfl rfl rfl ?_
           refine aA ?_
           refine aD rfl rfl rfl rfl rfl rfl rfl ?_
           refine aA ?_
           refine aB rfl (aJ (v := .bool (false)) (b := false) rfl rfl rfl rfl) rfl rfl ?_
           refine aA ?_
           refine aB rfl (aC rfl) rfl rfl ?_
           refine aA ?_
           refine aD rfl rfl rfl rfl rfl rfl rfl ?_
           refine aA ?_
           refine aD rfl rfl rfl rfl rfl rfl rfl ?_
           refine aA ?_
           refine aB rfl (aJ (v := .bool (false)) (b := false) rfl rfl rfl rfl) rfl rfl ?_
           refine aA ?_
           refine aB rfl (aC rfl) rfl rfl ?_
           refine aA ?_
           refine aD rfl rfl rfl rfl rfl rfl rfl ?_
           refine aA ?_
           refine aD rfl rfl rfl rfl rfl rfl rfl ?_
           refine aA ?_
           refine aD rfl rfl rfl rfl rfl rfl rfl ?_
           refine aA ?_
           refine aB rfl (aJ (v := .bool (false)) (b := false) rfl rfl rfl rfl) rfl rfl ?_
           refine aA ?_
           refine aB rfl (aG rfl) rfl rfl ?_
           refine aF ?_
           refine aH ?_
           refine wp_ret ?_
           refine aY ?_
           refine aR ?_
           refine aM (.inl rfl) Try.results119 rfl ?_
           have hr290 : inst x = false := by first | (simp [inst, aQ, ← hb0, hc20, hc52, hc84, hc116, hc117, hc141, hc193, hc246, hg247]; done) | (exfalso; omega) | done
           rw [hr290]
           exact ⟨rfl, H289.1⟩
         ·refine wp_seq ?_
          refine aI [0, 1] rfl ?_
          refine aA ?_
          refine aB rfl (bD rfl rfl) rfl rfl ?_
          refine aA ?_
          refine aB rfl (aG rfl) rfl rfl ?_
          refine aF ?_
          refine aH ?_
          refine aW rfl (fun hc291 => ?_) (fun hc291 => ?_)
          ·refine wp_seq ?_
           refine aI [0, 1, 2, 3, 4, 5, 6, 7, 8, 9, 10, 11] rfl ?_
           by_cases hg292 : b0 = true
           ·refine aA ?_
            refine aB rfl (bM (b := b0) hg292 (aC rfl)) rfl rfl ?_
            refine aA ?_
            refine aB rfl (aC rfl) rfl rfl ?_
            refine aA ?_
            refine aT rfl rfl rfl rfl (fun _ ho293 => ?_)
            refine aB ho293 (aN bP rfl) rfl rfl ?_
            refine aA ?_
            refine aT rfl rfl rfl rfl (fun _ ho294 => ?_)
            refine aB ho294 (aS (k := 1) (v := .int .i64 (x.A)) Try.isAgg3 rfl (H17.blk 0 rfl) rfl) rfl rfl ?_
            by_cases hg295 : (inB x.A 0 2) = true
            ·refine aA ?_
             refine aT rfl rfl rfl rfl (fun _ ho296 => ?_)
             refine aK ho296 Try.call61 (vs := #[.int .i64 (x.A), .int .i64 (0), .int .i64 (2)]) rfl rfl rfl (bI (fK x.A 0 2 _) hg295) ?_
             rintro e299 W298 ⟨rfl, hu297⟩; refine ⟨_, rfl, ?_⟩
             have H300 := H17.no hu297; clear H17
             refine aA ?_
             refine aB rfl (aJ (v := .bool (true)) (b := true) rfl rfl rfl rfl) rfl rfl ?_
             refine aA ?_
             refine aB rfl (aC rfl) rfl rfl ?_
             refine aA ?_
             refine aT rfl rfl rfl rfl (fun _ ho301 => ?_)
             refine aB ho301 (aN bU rfl) rfl rfl ?_
             refine aA ?_
             refine aT rfl rfl rfl rfl (fun _ ho302 => ?_)
             refine aB ho302 (aS (k := 2) (v := .int .i64 (x.B)) Try.isAgg3 rfl (H300.blk 0 rfl) rfl) rfl rfl ?_
             by_cases hg303 : (rgB x.B) = true
             ·refine aA ?_
              refine aT rfl rfl rfl rfl (fun _ ho304 => ?_)
              refine aK ho304 Try.call150 (vs := #[.int .i64 (x.B)]) rfl rfl rfl (bI (bO x.B _) hg303) ?_
              rintro e307 W306 ⟨rfl, hu305⟩; refine ⟨_, rfl, ?_⟩
              have H308 := H300.no hu305; clear H300
              refine aA ?_
              refine aB rfl (aJ (v := .bool (true)) (b := true) rfl rfl rfl rfl) rfl rfl ?_
              refine aA ?_
              refine aB rfl (aG rfl) rfl rfl ?_
              refine aF ?_
              refine aH ?_
              refine wp_ret ?_
              refine aY ?_
              refine aR ?_
              refine aM (.inl rfl) Try.results119 rfl ?_
              have hr309 : inst x = true := by first | (simp [inst, aQ, ← hb0, hc20, hc52, hc84, hc116, hc117, hc141, hc193, hc246, hc291, hg292, hg295, hg303]; done) | (exfalso; omega) | done
              rw [hr309]
              exact ⟨rfl, H308.1⟩
             ·refine aA ?_
              refine aT rfl rfl rfl rfl (fun _ ho310 => ?_)
              refine aK ho310 Try.call150 (vs := #[.int .i64 (x.B)]) rfl rfl rfl (bI (bO x.B _) (eq_false_of_ne_true hg303)) ?_
              rintro e313 W312 ⟨rfl, hu311⟩; refine ⟨_, rfl, ?_⟩
              have H314 := H300.no hu311; clear H300
              refine aA ?_
              refine aB rfl (aJ (v := .bool (false)) (b := true) rfl rfl rfl rfl) rfl rfl ?_
              refine aA ?_
              refine aB rfl (aG rfl) rfl rfl ?_
              refine aF ?_
              refine aH ?_
              refine wp_ret ?_
              refine aY ?_
              refine aR ?_
              refine aM (.inl rfl) Try.results119 rfl ?_
              have hr315 : inst x = false := by first | (simp [inst, aQ, ← hb0, hc20, hc52, hc84, hc116, hc117, hc141, hc193, hc246, hc291, hg292, hg295, hg303]; done) | (exfalso; omega) | done
              rw [hr315]
              exact ⟨rfl, H314.1⟩
            ·refine aA ?_
             refine aT rfl rfl rfl rfl (fun _ ho316 => ?_)
             refine aK ho316 Try.call61 (vs := #[.int .i64 (x.A), .int .i64 (0), .int .i64 (2)]) rfl rfl rfl (bI (fK x.A 0 2 _) (eq_false_of_ne_true hg295)) ?_
             rintro e319 W318 ⟨rfl, hu317⟩; refine ⟨_, rfl, ?_⟩
             have H320 := H17.no hu317; clear H17
             refine aA ?_
             refine aB rfl (aJ (v := .bool (false)) (b := true) rfl rfl rfl rfl) rfl rfl ?_
             refine aA ?_
             refine aB rfl (aC rfl) rfl rfl ?_
             refine aA ?_
             refine aD rfl rfl rfl rfl rfl rfl rfl ?_
             refine aA ?_
             refine aD rfl rfl rfl rfl rfl rfl rfl ?_
             refine aA ?_
             refine aD rfl rfl rfl rfl rfl rfl rfl ?_
             refine aA ?_
             refine aB rfl (aJ (v := .bool (false)) (b := false) rfl rfl rfl rfl) rfl rfl ?_
             refine aA ?_
             refine aB rfl (aG rfl) rfl rfl ?_
             refine aF ?_
             refine aH ?_
             refine wp_ret ?_
             refine aY ?_
             refine aR ?_
             refine aM (.inl rfl) Try.results119 rfl ?_
             have hr321 : inst x = false := by first | (simp [inst, aQ, ← hb0, hc20, hc52, hc84, hc116, hc117, hc141, hc193, hc246, hc291, hg292, hg295]; done) | (exfalso; omega) | done
             rw [hr321]
             exact ⟨rfl, H320.1⟩
           ·refine aA ?_
            refine aB rfl (bM (b := b0) (eq_false_of_ne_true hg292) (aC rfl)) rfl rfl ?_
            refine aA ?_
            refine aB rfl (aC rfl) rfl rfl ?_
            refine aA ?_
            refine aD rfl rfl rfl rfl rfl rfl rfl ?_
            refine aA ?_
            refine aD rfl rfl rfl rfl rfl rfl rfl ?_
            refine aA ?_
            refine aD rfl rfl rfl rfl rfl rfl rfl ?_
            refine aA ?_
            refine aB rfl (aJ (v := .bool (false)) (b := false) rfl rfl rfl rfl) rfl rfl ?_
            refine aA ?_
            refine aB rfl (aC rfl) rfl rfl ?_
            refine aA ?_
            refine aD rfl rfl rfl rfl rfl rfl rfl ?_
            refine aA ?_
            refine aD rfl rfl rfl rfl rfl rfl rfl ?_
            refine aA ?_
            refine aD rfl rfl rfl rfl rfl rfl rfl ?_
            refine aA ?_
            refine aB rfl (aJ (v := .bool (false)) (b := false) rfl rfl rfl rfl) rfl rfl ?_
            refine aA ?_
            refine aB rfl (aG rfl) rfl rfl ?_
            refine aF ?_
            refine aH ?_
            refine wp_ret ?_
            refine aY ?_
            refine aR ?_
            refine aM (.inl rfl) Try.results119 rfl ?_
            have hr322 : inst x = false := by first | (simp [inst, aQ, ← hb0, hc20, hc52, hc84, hc116, hc117, hc141, hc193, hc246, hc291, hg292]; done) | (exfalso; omega) | done
            rw [hr322]
            exact ⟨rfl, H17.1⟩
          ·refine wp_seq ?_
           refine aI [0, 1] rfl ?_
           refine aA ?_
           refine aB rfl (bD rfl rfl) rfl rfl ?_
           refine aA ?_
           refine aB rfl (aG rfl) rfl rfl ?_
           refine aF ?_
           refine aH ?_
           refine aW rfl (fun hc323 => ?_) (fun hc323 => ?_)
           ·refine wp_seq ?_
            refine aI [0, 1, 2, 3, 4, 5, 6, 7, 8, 9, 10, 11] rfl ?_
            by_cases hg324 : b0 = true
            ·refine aA ?_
             refine aB rfl (bM (b := b0) hg324 (aC rfl)) rfl rfl ?_
             refine aA ?_
             refine aB rfl (aC rfl) rfl rfl ?_
             refine aA ?_
             refine aT rfl rfl rfl rfl (fun _ ho325 => ?_)
             refine aB ho325 (aN bP rfl) rfl rfl ?_
             refine aA ?_
             refine aT rfl rfl rfl rfl (fun _ ho326 => ?_)
             refine aB ho326 (aS (k := 1) (v := .int .i64 (x.A)) Try.isAgg3 rfl (H17.blk 0 rfl) rfl) rfl rfl ?_
             by_cases hg327 : (rgB x.A) = true
             ·refine aA ?_
              refine aT rfl rfl rfl rfl (fun _ ho328 => ?_)
              refine aK ho328 Try.call150 (vs := #[.int .i64 (x.A)]) rfl rfl rfl (bI (bO x.A _) hg327) ?_
              rintro e331 W330 ⟨rfl, hu329⟩; refine ⟨_, rfl, ?_⟩
              have H332 := H17.no hu329; clear H17
              refine aA ?_
              refine aB rfl (aJ (v := .bool (true)) (b := true) rfl rfl rfl rfl) rfl rfl ?_
              refine aA ?_
              refine aB rfl (aC rfl) rfl rfl ?_
              refine aA ?_
              refine aT rfl rfl rfl rfl (fun _ ho333 => ?_)
              refine aB ho333 (aN bU rfl) rfl rfl ?_
              refine aA ?_
              refine aT rfl rfl rfl rfl (fun _ ho334 => ?_)
              refine aB ho334 (aS (k := 2) (v := .int .i64 (x.B)) Try.isAgg3 rfl (H332.blk 0 rfl) rfl) rfl rfl ?_
              by_cases hg335 : (inB x.B 1 12) = true
              ·refine aA ?_
               refine aT rfl rfl rfl rfl (fun _ ho336 => ?_)
               refine aK ho336 Try.call61 (vs := #[.int .i64 (x.B), .int .i64 (1), .int .i64 (12)]) rfl rfl rfl (bI (fK x.B 1 12 _) hg335) ?_
               rintro e339 W338 ⟨rfl, hu337⟩; refine ⟨_, rfl, ?_⟩
               have H340 := H332.no hu337; clear H332
               refine aA ?_
               refine aB rfl (aJ (v := .bool (true)) (b := true) rfl rfl rfl rfl) rfl rfl ?_
               refine aA ?_
               refine aB rfl (aG rfl) rfl rfl ?_
               refine aF ?_
               refine aH ?_
               refine wp_ret ?_
               refine aY ?_
               refine aR ?_
               refine aM (.inl rfl) Try.results119 rfl ?_
               have hr341 : inst x = true := by first | (simp [inst, aQ, ← hb0, hc20, hc52, hc84, hc116, hc117, hc141, hc193, hc246, hc291, hc323, hg324, hg327, hg335]; done) | (exfalso; omega) | done
               rw [hr341]
               exact ⟨rfl, H340.1⟩
              ·refine aA ?_
               refine aT rfl rfl rfl rfl (fun _ ho342 => ?_)
               refine aK ho342 Try.call61 (vs := #[.int .i64 (x.B), .int .i64 (1), .int .i64 (12)]) rfl rfl rfl (bI (fK x.B 1 12 _) (eq_false_of_ne_true hg335)) ?_
               rintro e345 W344 ⟨rfl, hu343⟩; refine ⟨_, rfl, ?_⟩
               have H346 := H332.no hu343; clear H332
               refine aA ?_
               refine aB rfl (aJ (v := .bool (false)) (b := true) rfl rfl rfl rfl) rfl rfl ?_
               refine aA ?_
               refine aB rfl (aG rfl) rfl rfl ?_
               refine aF ?_
               refine aH ?_
               refine wp_ret ?_
               refine aY ?_
               refine aR ?_
               refine aM (.inl rfl) Try.results119 rfl ?_
               have hr347 : inst x = false := by first | (simp [inst, aQ, ← hb0, hc20, hc52, hc84, hc116, hc117, hc141, hc193, hc246, hc291, hc323, hg324, hg327, hg335]; done) | (exfalso; omega) | done
               rw [hr347]
               exact ⟨rfl, H346.1⟩
             ·refine aA ?_
              refine aT rfl rfl rfl rfl (fun _ ho348 => ?_)
              refine aK ho348 Try.call150 (vs := #[.int .i64 (x.A)]) rfl rfl rfl (bI (bO x.A _) (eq_false_of_ne_true hg327)) ?_
              rintro e351 W350 ⟨rfl, hu349⟩; refine ⟨_, rfl, ?_⟩
              have H352 := H17.no hu349; clear H17
              refine aA ?_
              refine aB rfl (aJ (v := .bool (false)) (b := true) rfl rfl rfl rfl) rfl rfl ?_
              refine aA ?_
              refine aB rfl (aC rfl) rfl rfl ?_
              refine aA ?_
              refine aD rfl rfl rfl rfl rfl rfl rfl ?_
              refine aA ?_
              refine aD rfl rfl rfl rfl rfl rfl rfl ?_
              refine aA ?_
              refine aD rfl rfl rfl rfl rfl rfl rfl ?_
              refine aA ?_
              refine aB rfl (aJ (v := .bool (false)) (b := false) rfl rfl rfl rfl) rfl rfl ?_
              refine aA ?_
              refine aB rfl (aG rfl) rfl rfl ?_
              refine aF ?_
              refine aH ?_
              refine wp_ret ?_
              refine aY ?_
              refine aR ?_
              refine aM (.inl rfl) Try.results119 rfl ?_
              have hr353 : inst x = false := by first | (simp [inst, aQ, ← hb0, hc20, hc52, hc84, hc116, hc117, hc141, hc193, hc246, hc291, hc323, hg324, hg327]; done) | (exfalso; omega) | done
              rw [hr353]
              exact ⟨rfl, H352.1⟩
            ·refine aA ?_
             refine aB rfl (bM (b := b0) (eq_false_of_ne_true hg324) (aC rfl)) rfl rfl ?_
             refine aA ?_
             refine aB rfl (aC rfl) rfl rfl ?_
             refine aA ?_
             refine aD rfl rfl rfl rfl rfl rfl rfl ?_
             refine aA ?_
             refine aD rfl rfl rfl rfl rfl rfl rfl ?_
             refine aA ?_
             refine aD rfl rfl rfl rfl rfl rfl rfl ?_
             refine aA ?_
             refine aB rfl (aJ (v := .bool (false)) (b := false) rfl rfl rfl rfl) rfl rfl ?_
             refine aA ?_
             refine aB rfl (aC rfl) rfl rfl ?_
             refine aA ?_
             refine aD rfl rfl rfl rfl rfl rfl rfl ?_
             refine aA ?_
             refine aD rfl rfl rfl rfl rfl rfl rfl ?_
             refine aA ?_
             refine aD rfl rfl rfl rfl rfl rfl rfl ?_
             refine aA ?_
             refine aB rfl (aJ (v := .bool (false)) (b := false) rfl rfl rfl rfl) rfl rfl ?_
             refine aA ?_
             refine aB rfl (aG rfl) rfl rfl ?_
             refine aF ?_
             refine aH ?_
             refine wp_ret ?_
             refine aY ?_
             refine aR ?_
             refine aM (.inl rfl) Try.results119 rfl ?_
             have hr354 : inst x = false := by first | (simp [inst, aQ, ← hb0, hc20, hc52, hc84, hc116, hc117, hc141, hc193, hc246, hc291, hc323, hg324]; done) | (exfalso; omega) | done
             rw [hr354]
             exact ⟨rfl, H17.1⟩
           ·refine wp_skip ?_
            refine dR ?_
            refine aH ?_
            refine wp_seq ?_
            refine aI [0] rfl ?_
            refine aA ?_
            refine aB rfl (aG rfl) rfl rfl ?_
            refine aF ?_
            refine aH ?_
            refine wp_ret ?_
            refine aM (.inl rfl) Try.results119 rfl ?_
            have hr355 : inst x = false := by first | (simp [inst, aQ, ← hb0, hc20, hc52, hc84, hc116, hc117, hc141, hc193, hc246, hc291, hc323]; done) | (exfalso; omega) | done
            rw [hr355]
            exact ⟨rfl, H17.1⟩
     ·refine aI [0, 1] rfl ?_
      refine aA ?_
      refine aB rfl (bD rfl rfl) rfl rfl ?_
      refine aA ?_
      refine aB rfl (aG rfl) rfl rfl ?_
      refine aF ?_
      refine aH ?_
      refine aW rfl (fun hc356 => ?_) (fun hc356 => ?_)
      ·refine wp_seq ?_
       refine aI [0, 1, 2, 3, 4, 5, 6, 7, 8, 9, 10, 11] rfl ?_
       by_cases hg357 : b0 = true
       ·refine aA ?_
        refine aB rfl (bM (b := b0) hg357 (aC rfl)) rfl rfl ?_
        refine aA ?_
        refine aB rfl (aC rfl) rfl rfl ?_
        refine aA ?_
        refine aT rfl rfl rfl rfl (fun _ ho358 => ?_)
        refine aB ho358 (aN bP rfl) rfl rfl ?_
        refine aA ?_
        refine aT rfl rfl rfl rfl (fun _ ho359 => ?_)
        refine aB ho359 (aS (k := 1) (v := .int .i64 (x.A)) Try.isAgg3 rfl (H17.blk 0 rfl) rfl) rfl rfl ?_
        by_cases hg360 : (rgB x.A) = true
        ·refine aA ?_
         refine aT rfl rfl rfl rfl (fun _ ho361 => ?_)
         refine aK ho361 Try.call150 (vs := #[.int .i64 (x.A)]) rfl rfl rfl (bI (bO x.A _) hg360) ?_
         rintro e364 W363 ⟨rfl, hu362⟩; refine ⟨_, rfl, ?_⟩
         have H365 := H17.no hu362; clear H17
         refine aA ?_
         refine aB rfl (aJ (v := .bool (true)) (b := true) rfl rfl rfl rfl) rfl rfl ?_
         refine aA ?_
         refine aB rfl (aC rfl) rfl rfl ?_
         refine aA ?_
         refine aT rfl rfl rfl rfl (fun _ ho366 => ?_)
         refine aB ho366 (aN bU rfl) rfl rfl ?_
         refine aA ?_
         refine aT rfl rfl rfl rfl (fun _ ho367 => ?_)
         refine aB ho367 (aS (k := 2) (v := .int .i64 (x.B)) Try.isAgg3 rfl (H365.blk 0 rfl) rfl) rfl rfl ?_
         by_cases hg368 : (x.B : Int) = 0
         ·refine aA ?_
          refine aT rfl rfl rfl rfl (fun _ ho369 => ?_)
          refine aB ho369 (bQ hg368 (bD rfl rfl)) rfl rfl ?_
          refine aA ?_
          refine aB rfl (aJ (v := .bool (true)) (b := true) rfl rfl rfl rfl) rfl rfl ?_
          refine aA ?_
          refine aB rfl (aG rfl) rfl rfl ?_
          refine aF ?_
          refine aH ?_
          refine wp_ret ?_
          refine aY ?_
          refine aR ?_
          refine aM (.inl rfl) Try.results119 rfl ?_
          have hr370 : inst x = true := by first | (simp [inst, aQ, ← hb0, hc20, hc52, hc84, hc116, hc356, hg357, hg360, hg368]; done) | (exfalso; omega) | done
          rw [hr370]
          exact ⟨rfl, H365.1⟩
         ·refine aA ?_
          refine aT rfl rfl rfl rfl (fun _ ho371 => ?_)
          refine aB ho371 (bS hg368 (bD rfl rfl)) rfl rfl ?_
          refine aA ?_
          refine aB rfl (aJ (v := .bool (false)) (b := true) rfl rfl rfl rfl) rfl rfl ?_
          refine aA ?_
          refine aB rfl (aG rfl) rfl rfl ?_
          refine aF ?_
          refine aH ?_
          refine wp_ret ?_
          refine aY ?_
          refine aR ?_
          refine aM (.inl rfl) Try.results119 rfl ?_
          have hr372 : inst x = false := by first | (simp [inst, aQ, ← hb0, hc20, hc52, hc84, hc116, hc356, hg357, hg360, hg368]; done) | (exfalso; omega) | done
          rw [hr372]
          exact ⟨rfl, H365.1⟩
        ·refine aA ?_
         refine aT rfl rfl rfl rfl (fun _ ho373 => ?_)
         refine aK ho373 Try.call150 (vs := #[.int .i64 (x.A)]) rfl rfl rfl (bI (bO x.A _) (eq_false_of_ne_true hg360)) ?_
         rintro e376 W375 ⟨rfl, hu374⟩; refine ⟨_, rfl, ?_⟩
         have H377 := H17.no hu374; clear H17
         refine aA ?_
         refine aB rfl (aJ (v := .bool (false)) (b := true) rfl rfl rfl rfl) rfl rfl ?_
         refine aA ?_
         refine aB rfl (aC rfl) rfl rfl ?_
         refine aA ?_
         refine aD rfl rfl rfl rfl rfl rfl rfl ?_
         refine aA ?_
         refine aD rfl rfl rfl rfl rfl rfl rfl ?_
         refine aA ?_
         refine aD rfl rfl rfl rfl rfl rfl rfl ?_
         refine aA ?_
         refine aB rfl (aJ (v := .bool (false)) (b := false) rfl rfl rfl rfl) rfl rfl ?_
         refine aA ?_
         refine aB rfl (aG rfl) rfl rfl ?_
         refine aF ?_
         refine aH ?_
         refine wp_ret ?_
         refine aY ?_
         refine aR ?_
         refine aM (.inl rfl) Try.results119 rfl ?_
         have hr378 : inst x = false := by first | (simp [inst, aQ, ← hb0, hc20, hc52, hc84, hc116, hc356, hg357, hg360]; done) | (exfalso; omega) | done
         rw [hr378]
         exact ⟨rfl, H377.1⟩
       ·refine aA ?_
        refine aB rfl (bM (b := b0) (eq_false_of_ne_true hg357) (aC rfl)) rfl rfl ?_
        refine aA ?_
        refine aB rfl (aC rfl) rfl rfl ?_
        refine aA ?_
        refine aD rfl rfl rfl rfl rfl rfl rfl ?_
        refine aA ?_
        refine aD rfl rfl rfl rfl rfl rfl rfl ?_
        refine aA ?_
        refine aD rfl rfl rfl rfl rfl rfl rfl ?_
        refine aA ?_
        refine aB rfl (aJ (v := .bool (false)) (b := false) rfl rfl rfl rfl) rfl rfl ?_
        refine aA ?_
        refine aB rfl (aC rfl) rfl rfl ?_
        refine aA ?_
        refine aD rfl rfl rfl rfl rfl rfl rfl ?_
        refine aA ?_
        refine aD rfl rfl rfl rfl rfl rfl rfl ?_
        refine aA ?_
        refine aD rfl rfl rfl rfl rfl rfl rfl ?_
        refine aA ?_
        refine aB rfl (aJ (v := .bool (false)) (b := false) rfl rfl rfl rfl) rfl rfl ?_
        refine aA ?_
        refine aB rfl (aG rfl) rfl rfl ?_
        refine aF ?_
        refine aH ?_
        refine wp_ret ?_
        refine aY ?_
        refine aR ?_
        refine aM (.inl rfl) Try.results119 rfl ?_
        have hr379 : inst x = false := by first | (simp [inst, aQ, ← hb0, hc20, hc52, hc84, hc116, hc356, hg357]; done) | (exfalso; omega) | done
        rw [hr379]
        exact ⟨rfl, H17.1⟩
      ·refine wp_seq ?_
       refine aI [0, 1] rfl ?_
       refine aA ?_
       refine aB rfl (bD rfl rfl) rfl rfl ?_
       refine aA ?_
       refine aB rfl (aG rfl) rfl rfl ?_
       refine aF ?_
       refine aH ?_
       refine aW rfl (fun hc380 => ?_) (fun hc380 => ?_)
       ·refine wp_seq ?_
        refine aI [0, 1, 2, 3, 4, 5, 6, 7, 8, 9, 10, 11, 12, 13, 14, 15, 16, 17, 18, 19, 20, 21, 22, 23] rfl ?_
        refine aA ?_
        refine aB rfl (aN bP rfl) rfl rfl ?_
        refine aA ?_
        refine aB rfl (aS (k := 1) (v := .int .i64 (x.A)) Try.isAgg3 rfl (H17.blk 0 rfl) rfl) rfl rfl ?_
        by_cases hg381 : (rgB x.A) = true
        ·refine aA ?_
         refine aK rfl Try.call150 (vs := #[.int .i64 (x.A)]) rfl rfl rfl (bI (bO x.A _) hg381) ?_
         rintro e384 W383 ⟨rfl, hu382⟩; refine ⟨_, rfl, ?_⟩
         have H385 := H17.no hu382; clear H17
         refine aA ?_
         refine aB rfl (aC rfl) rfl rfl ?_
         refine aA ?_
         refine aT rfl rfl rfl rfl (fun _ ho386 => ?_)
         refine aB ho386 (aN bU rfl) rfl rfl ?_
         refine aA ?_
         refine aT rfl rfl rfl rfl (fun _ ho387 => ?_)
         refine aB ho387 (aS (k := 2) (v := .int .i64 (x.B)) Try.isAgg3 rfl (H385.blk 0 rfl) rfl) rfl rfl ?_
         by_cases hg388 : (rgB x.B) = true
         ·refine aA ?_
          refine aT rfl rfl rfl rfl (fun _ ho389 => ?_)
          refine aK ho389 Try.call150 (vs := #[.int .i64 (x.B)]) rfl rfl rfl (bI (bO x.B _) hg388) ?_
          rintro e392 W391 ⟨rfl, hu390⟩; refine ⟨_, rfl, ?_⟩
          have H393 := H385.no hu390; clear H385
          refine aA ?_
          refine aB rfl (aJ (v := .bool (true)) (b := true) rfl rfl rfl rfl) rfl rfl ?_
          refine aA ?_
          refine aB rfl (aC rfl) rfl rfl ?_
          refine aA ?_
          refine aT rfl rfl rfl rfl (fun _ ho394 => ?_)
          refine aB ho394 (aN eU rfl) rfl rfl ?_
          refine aA ?_
          refine aT rfl rfl rfl rfl (fun _ ho395 => ?_)
          refine aB ho395 (aS (k := 3) (v := .int .i64 (x.C)) Try.isAgg3 rfl (H393.blk 0 rfl) rfl) rfl rfl ?_
          by_cases hg396 : (rgB x.C) = true
          ·refine aA ?_
           refine aT rfl rfl rfl rfl (fun _ ho397 => ?_)
           refine aK ho397 Try.call150 (vs := #[.int .i64 (x.C)]) rfl rfl rfl (bI (bO x.C _) hg396) ?_
           rintro e400 W399 ⟨rfl, hu398⟩; refine ⟨_, rfl, ?_⟩
           have H401 := H393.no hu398; clear H393
           refine aA ?_
           refine aB rfl (aJ (v := .bool (true)) (b := true) rfl rfl rfl rfl) rfl rfl ?_
           refine aA ?_
           refine aB rfl (aC rfl) rfl rfl ?_
           refine aA ?_
           refine aT rfl rfl rfl rfl (fun _ ho402 => ?_)
           refine aB ho402 (aN fE rfl) rfl rfl ?_
           refine aA ?_
           refine aT rfl rfl rfl rfl (fun _ ho403 => ?_)
           refine aB ho403 (aS (k := 4) (v := .int .i64 (x.D)) Try.isAgg3 rfl (H401.blk 0 rfl) rfl) rfl rfl ?_
           by_cases hg404 : (x.D : Int) = 0
           ·refine aA ?_
            refine aT rfl rfl rfl rfl (fun _ ho405 => ?_)
            refine aB ho405 (bQ hg404 (bD rfl rfl)) rfl rfl ?_
            refine aA ?_
            refine aB rfl (aJ (v := .bool (true)) (b := true) rfl rfl rfl rfl) rfl rfl ?_
            refine aA ?_
            refine aB rfl (aC rfl) rfl rfl ?_
            refine aA ?_
            refine aT rfl rfl rfl rfl (fun _ ho406 => ?_)
            refine aB ho406 (aN fU rfl) rfl rfl ?_
            refine aA ?_
            refine aT rfl rfl rfl rfl (fun _ ho407 => ?_)
            refine aB ho407 (aS (k := 5) (v := .string (x.Name)) Try.isAgg9 rfl (H401.blk 0 rfl) rfl) rfl rfl ?_
            by_cases hg408 : (x.Name.toList == (⟨#[]⟩ : ByteArray).toList) = true
            ·have hg408n := hg408
             rw [aQ] at hg408n
             refine aA ?_
             refine aT rfl rfl rfl rfl (fun _ ho409 => ?_)
             refine aB ho409 (bM (b := x.Name.toList == (⟨#[]⟩ : ByteArray).toList) hg408 (dQ rfl rfl)) rfl rfl ?_
             refine aA ?_
             refine aB rfl (aJ (v := .bool (true)) (b := true) rfl rfl rfl rfl) rfl rfl ?_
             refine aA ?_
             refine aB rfl (aG rfl) rfl rfl ?_
             refine aF ?_
             refine aH ?_
             refine wp_ret ?_
             refine aY ?_
             refine aR ?_
             refine aM (.inl rfl) Try.results119 rfl ?_
             have hr410 : inst x = true := by first | (simp [inst, aQ, ← hb0, hc20, hc52, hc84, hc116, hc356, hc380, hg381, hg388, hg396, hg404, hg408n]; done) | (exfalso; omega) | (have q := hg408n; revert q; (simp [inst, aQ, hc20, hc52, hc84, hc116, hc356, hc380, hg381, hg388, hg396, hg404] <;> (intros; simp_all)); done)
             rw [hr410]
             exact ⟨rfl, H401.1⟩
            ·have hg408n := hg408
             rw [aQ] at hg408n
             refine aA ?_
             refine aT rfl rfl rfl rfl (fun _ ho411 => ?_)
             refine aB ho411 (bM (b := x.Name.toList == (⟨#[]⟩ : ByteArray).toList) (eq_false_of_ne_true hg408) (dQ rfl rfl)) rfl rfl ?_
             refine aA ?_
             refine aB rfl (aJ (v := .bool (false)) (b := true) rfl rfl rfl rfl) rfl rfl ?_
             refine aA ?_
             refine aB rfl (aG rfl) rfl rfl ?_
             refine aF ?_
             refine aH ?_
             refine wp_ret ?_
             refine aY ?_
             refine aR ?_
             refine aM (.inl rfl) Try.results119 rfl ?_
             have hr412 : inst x = false := by first | (simp [inst, aQ, ← hb0, hc20, hc52, hc84, hc116, hc356, hc380, hg381, hg388, hg396, hg404, hg408n]; done) | (exfalso; omega) | (have q := hg408n; revert q; (simp [inst, aQ, hc20, hc52, hc84, hc116, hc356, hc380, hg381, hg388, hg396, hg404] <;> (intros; simp_all)); done)
             rw [hr412]
             exact ⟨rfl, H401.1⟩
           ·refine aA ?_
            refine aT rfl rfl rfl rfl (fun _ ho413 => ?_)
            refine aB ho413 (bS hg404 (bD rfl rfl)) rfl rfl ?_
            refine aA ?_
            refine aB rfl (aJ (v := .bool (false)) (b := true) rfl rfl rfl rfl) rfl rfl ?_
            refine aA ?_
            refine aB rfl (aC rfl) rfl rfl ?_
            refine aA ?_
            refine aD rfl rfl rfl rfl rfl rfl rfl ?_
            refine aA ?_
            refine aD rfl rfl rfl rfl rfl rfl rfl ?_
            refine aA ?_
            refine aD rfl rfl rfl rfl rfl rfl rfl ?_
            refine aA ?_
            refine aB rfl (aJ (v := .bool (false)) (b := false) rfl rfl rfl rfl) rfl rfl ?_
            refine aA ?_
            refine aB rfl (aG rfl) rfl rfl ?_
            refine aF ?_
            refine aH ?_
            refine wp_ret ?_
            refine aY ?_
            refine aR ?_
            refine aM (.inl rfl) Try.results119 rfl ?_
            have hr414 : inst x = false := by first | (simp [inst, aQ, ← hb0, hc20, hc52, hc84, hc116, hc356, hc380, hg381, hg388, hg396, hg404]; done) | (exfalso; omega) | done
            rw [hr414]
            exact ⟨rfl, H401.1⟩
          ·refine aA ?_
           refine aT rfl rfl rfl rfl (fun _ ho415 => ?_)
           refine aK ho415 Try.call150 (vs := #[.int .i64 (x.C)]) rfl rfl rfl (bI (bO x.C _) (eq_false_of_ne_true hg396)) ?_
           rintro e418 W417 ⟨rfl, hu416⟩; refine ⟨_, rfl, ?_⟩
           have H419 := H393.no hu416; clear H393
           refine aA ?_
           refine aB rfl (aJ (v := .bool (false)) (b := true) rfl rfl rfl rfl) rfl rfl ?_
           refine aA ?_
           refine aB rfl (aC rfl) rfl rfl ?_
           refine aA ?_
           refine aD rfl rfl rfl rfl rfl rfl rfl ?_
           refine aA ?_
           refine aD rfl rfl rfl rfl rfl rfl rfl ?_
           refine aA ?_
           refine aD rfl rfl rfl rfl rfl rfl rfl ?_
           refine aA ?_
           refine aB rfl (aJ (v := .bool (false)) (b := false) rfl rfl rfl rfl) rfl rfl ?_
           refine aA ?_
           refine aB rfl (aC rfl) rfl rfl ?_
           refine aA ?_
           refine aD rfl rfl rfl rfl rfl rfl rfl ?_
           refine aA ?_
           refine aD rfl rfl rfl rfl rfl rfl rfl ?_
           refine aA ?_
           refine aD rfl rfl rfl rfl rfl rfl rfl ?_
           refine aA ?_
           refine aB rfl (aJ (v := .bool (false)) (b := false) rfl rfl rfl rfl) rfl rfl ?_
           refine aA ?_
           refine aB rfl (aG rfl) rfl rfl ?_
           refine aF ?_
           refine aH ?_
           refine wp_ret ?_
           refine aY ?_
           refine aR ?_
           refine aM (.inl rfl) Try.results119 rfl ?_
           have hr420 : inst x = false := by first | (simp [inst, aQ, ← hb0, hc20, hc52, hc84, hc116, hc356, hc380, hg381, hg388, hg396]; done) | (exfalso; omega) | done
           rw [hr420]
           exact ⟨rfl, H419.1⟩
         ·refine aA ?_
          refine aT rfl rfl rfl rfl (fun _ ho421 => ?_)
          refine aK ho421 Try.call150 (vs := #[.int .i64 (x.B)]) rfl rfl rfl (bI (bO x.B _) (eq_false_of_ne_true hg388)) ?_
          rintro e424 W423 ⟨rfl, hu422⟩; refine ⟨_, rfl, ?_⟩
          have H425 := H385.no hu422; clear H385
          refine aA ?_
          refine aB rfl (aJ (v := .bool (false)) (b := true) rfl rfl rfl rfl) rfl rfl ?_
          refine aA ?_
          refine aB rfl (aC rfl) rfl rfl ?_
          refine aA ?_
          refine aD rfl rfl rfl rfl rfl rfl rfl ?_
          refine aA ?_
          refine aD rfl rfl rfl rfl rfl rfl rfl ?_
          refine aA ?_
          refine aD rfl rfl rfl rfl rfl rfl rfl ?_
          refine aA ?_
          refine aB rfl (aJ (v := .bool (false)) (b := false) rfl rfl rfl rfl) rfl rfl ?_
          refine aA ?_
          refine aB rfl (aC rfl) rfl rfl ?_
          refine aA ?_
          refine aD rfl rfl rfl rfl rfl rfl rfl ?_
          refine aA ?_
          refine aD rfl rfl rfl rfl rfl rfl rfl ?_
          refine aA ?_
          refine aD rfl rfl rfl rfl rfl rfl rfl ?_
          refine aA ?_
          refine aB rfl (aJ (v := .bool (false)) (b := false) rfl rfl rfl rfl) rfl rfl ?_
          refine aA ?_
          refine aB rfl (aC rfl) rfl rfl ?_
          refine aA ?_
          refine aD rfl rfl rfl rfl rfl rfl rfl ?_
          refine aA ?_
          refine aD rfl rfl rfl rfl rfl rfl rfl ?_
          refine aA ?_
          refine aD rfl rfl rfl rfl rfl rfl rfl ?_
          refine aA ?_
          refine aB rfl (aJ (v := .bool (false)) (b := false) rfl rfl rfl rfl) rfl rfl ?_
          refine aA ?_
          refine aB rfl (aG rfl) rfl rfl ?_
          refine aF ?_
          refine aH ?_
          refine wp_ret ?_
          refine aY ?_
          refine aR ?_
          refine aM (.inl rfl) Try.results119 rfl ?_
          have hr426 : inst x = false := by first | (simp [inst, aQ, ← hb0, hc20, hc52, hc84, hc116, hc356, hc380, hg381, hg388]; done) | (exfalso; omega) | done
          rw [hr426]
          exact ⟨rfl, H425.1⟩
        ·refine aA ?_
         refine aK rfl Try.call150 (vs := #[.int .i64 (x.A)]) rfl rfl rfl (bI (bO x.A _) (eq_false_of_ne_true hg381)) ?_
         rintro e429 W428 ⟨rfl, hu427⟩; refine ⟨_, rfl, ?_⟩
         have H430 := H17.no hu427; clear H17
         refine aA ?_
         refine aB rfl (aC rfl) rfl rfl ?_
         refine aA ?_
         refine aD rfl rfl rfl rfl rfl rfl rfl ?_
         refine aA ?_
         refine aD rfl rfl rfl rfl rfl rfl rfl ?_
         refine aA ?_
         refine aD rfl rfl rfl rfl rfl rfl rfl ?_
         refine aA ?_
         refine aB rfl (aJ (v := .bool (false)) (b := false) rfl rfl rfl rfl) rfl rfl ?_
         refine aA ?_
         refine aB rfl (aC rfl) rfl rfl ?_
         refine aA ?_
         refine aD rfl rfl rfl rfl rfl rfl rfl ?_
         refine aA ?_
         refine aD rfl rfl rfl rfl rfl rfl rfl ?_
         refine aA ?_
         refine aD rfl rfl rfl rfl rfl rfl rfl ?_
         refine aA ?_
         refine aB rfl (aJ (v := .bool (false)) (b := false) rfl rfl rfl rfl) rfl rfl ?_
         refine aA ?_
         refine aB rfl (aC rfl) rfl rfl ?_
         refine aA ?_
         refine aD rfl rfl rfl rfl rfl rfl rfl ?_
         refine aA ?_
         refine aD rfl rfl rfl rfl rfl rfl rfl ?_
         refine aA ?_
         refine aD rfl rfl rfl rfl rfl rfl rfl ?_
         refine aA ?_
         refine aB rfl (aJ (v := .bool (false)) (b := false) rfl rfl rfl rfl) rfl rfl ?_
         refine aA ?_
         refine aB rfl (aC rfl) rfl rfl ?_
         refine aA ?_
         refine aD rfl rfl rfl rfl rfl rfl rfl ?_
         refine aA ?_
         refine aD rfl rfl rfl rfl rfl rfl rfl ?_
         refine aA ?_
         refine aD rfl rfl rfl rfl rfl rfl rfl ?_
         refine aA ?_
         refine aB rfl (aJ (v := .bool (false)) (b := false) rfl rfl rfl rfl) rfl rfl ?_
         refine aA ?_
         refine aB rfl (aG rfl) rfl rfl ?_
         refine aF ?_
         refine aH ?_
         refine wp_ret ?_
         refine aY ?_
         refine aR ?_
         refine aM (.inl rfl) Try.results119 rfl ?_
         have hr431 : inst x = false := by first | (simp [inst, aQ, ← hb0, hc20, hc52, hc84, hc116, hc356, hc380, hg381]; done) | (exfalso; omega) | done
         rw [hr431]
         exact ⟨rfl, H430.1⟩
       ·refine wp_seq ?_
        refine aI [0, 1] rfl ?_
        refine aA ?_
        refine aB rfl (bD rfl rfl) rfl rfl ?_
        refine aA ?_
        refine aB rfl (aG rfl) rfl rfl ?_
        refine aF ?_
        refine aH ?_
        refine aW rfl (fun hc432 => ?_) (fun hc432 => ?_)
        ·refine wp_seq ?_
         refine aI [0, 1, 2, 3, 4, 5, 6, 7, 8, 9, 10, 11, 12, 13, 14, 15, 16, 17] rfl ?_
         refine aA ?_
         refine aB rfl (aN bP rfl) rfl rfl ?_
         refine aA ?_
         refine aB rfl (aS (k := 1) (v := .int .i64 (x.A)) Try.isAgg3 rfl (H17.blk 0 rfl) rfl) rfl rfl ?_
         by_cases hg433 : (rgB x.A) = true
         ·refine aA ?_
          refine aK rfl Try.call150 (vs := #[.int .i64 (x.A)]) rfl rfl rfl (bI (bO x.A _) hg433) ?_
          rintro e436 W435 ⟨rfl, hu434⟩; refine ⟨_, rfl, ?_⟩
          have H437 := H17.no hu434; clear H17
          refine aA ?_
          refine aB rfl (aC rfl) rfl rfl ?_
          refine aA ?_
          refine aT rfl rfl rfl rfl (fun _ ho438 => ?_)
          refine aB ho438 (aN bU rfl) rfl rfl ?_
          refine aA ?_
          refine aT rfl rfl rfl rfl (fun _ ho439 => ?_)
          refine aB ho439 (aS (k := 2) (v := .int .i64 (x.B)) Try.isAgg3 rfl (H437.blk 0 rfl) rfl) rfl rfl ?_
          by_cases hg440 : (rgB x.B) = true
          ·refine aA ?_
           refine aT rfl rfl rfl rfl (fun _ ho441 => ?_)
           refine aK ho441 Try.call150 (vs := #[.int .i64 (x.B)]) rfl rfl rfl (bI (bO x.B _) hg440) ?_
           rintro e444 W443 ⟨rfl, hu442⟩; refine ⟨_, rfl, ?_⟩
           have H445 := H437.no hu442; clear H437
           refine aA ?_
           refine aB rfl (aJ (v := .bool (true)) (b := true) rfl rfl rfl rfl) rfl rfl ?_
           refine aA ?_
           refine aB rfl (aC rfl) rfl rfl ?_
           refine aA ?_
           refine aT rfl rfl rfl rfl (fun _ ho446 => ?_)
           refine aB ho446 (bL Try.isAgg118 Try.sizeOf118 rfl (H445.blk 0 rfl) rfl) rfl rfl ?_
           by_cases hg447 : (prB x.C x.D) = true
           ·refine aA ?_
            refine aT rfl rfl rfl rfl (fun _ ho448 => ?_)
            refine aK ho448 Try.call151 (vs := #[.agg #[.int .i64 (x.Op), .int .i64 (x.A), .int .i64 (x.B), .int .i64 (x.C), .int .i64 (x.D), .string (x.Name)]]) rfl rfl rfl (bI (two_s x _ _ (dV _ x)) hg447) ?_
            rintro e451 W450 ⟨rfl, hu449⟩; refine ⟨_, rfl, ?_⟩
            have H452 := H445.no hu449; clear H445
            refine aA ?_
            refine aB rfl (aJ (v := .bool (true)) (b := true) rfl rfl rfl rfl) rfl rfl ?_
            refine aA ?_
            refine aB rfl (aC rfl) rfl rfl ?_
            refine aA ?_
            refine aT rfl rfl rfl rfl (fun _ ho453 => ?_)
            refine aB ho453 (aN fU rfl) rfl rfl ?_
            refine aA ?_
            refine aT rfl rfl rfl rfl (fun _ ho454 => ?_)
            refine aB ho454 (aS (k := 5) (v := .string (x.Name)) Try.isAgg9 rfl (H452.blk 0 rfl) rfl) rfl rfl ?_
            by_cases hg455 : (nmB x.Name) = true
            ·refine aA ?_
             refine aT rfl rfl rfl rfl (fun _ ho456 => ?_)
             refine aK ho456 Try.call76 (vs := #[.string (x.Name)]) rfl rfl rfl (bI (fG x.Name _ hs) hg455) ?_
             rintro e459 W458 ⟨rfl, hu457⟩; refine ⟨_, rfl, ?_⟩
             have H460 := H452.no hu457; clear H452
             refine aA ?_
             refine aB rfl (aJ (v := .bool (true)) (b := true) rfl rfl rfl rfl) rfl rfl ?_
             refine aA ?_
             refine aB rfl (aG rfl) rfl rfl ?_
             refine aF ?_
             refine aH ?_
             refine wp_ret ?_
             refine aY ?_
             refine aR ?_
             refine aM (.inl rfl) Try.results119 rfl ?_
             have hr461 : inst x = true := by first | (simp [inst, aQ, ← hb0, hc20, hc52, hc84, hc116, hc356, hc380, hc432, hg433, hg440, hg447, hg455]; done) | (exfalso; omega) | done
             rw [hr461]
             exact ⟨rfl, H460.1⟩
            ·refine aA ?_
             refine aT rfl rfl rfl rfl (fun _ ho462 => ?_)
             refine aK ho462 Try.call76 (vs := #[.string (x.Name)]) rfl rfl rfl (bI (fG x.Name _ hs) (eq_false_of_ne_true hg455)) ?_
             rintro e465 W464 ⟨rfl, hu463⟩; refine ⟨_, rfl, ?_⟩
             have H466 := H452.no hu463; clear H452
             refine aA ?_
             refine aB rfl (aJ (v := .bool (false)) (b := true) rfl rfl rfl rfl) rfl rfl ?_
             refine aA ?_
             refine aB rfl (aG rfl) rfl rfl ?_
             refine aF ?_
             refine aH ?_
             refine wp_ret ?_
             refine aY ?_
             refine aR ?_
             refine aM (.inl rfl) Try.results119 rfl ?_
             have hr467 : inst x = false := by first | (simp [inst, aQ, ← hb0, hc20, hc52, hc84, hc116, hc356, hc380, hc432, hg433, hg440, hg447, hg455]; done) | (exfalso; omega) | done
             rw [hr467]
             exact ⟨rfl, H466.1⟩
           ·refine aA ?_
            refine aT rfl rfl rfl rfl (fun _ ho468 => ?_)
            refine aK ho468 Try.call151 (vs := #[.agg #[.int .i64 (x.Op), .int .i64 (x.A), .int .i64 (x.B), .int .i64 (x.C), .int .i64 (x.D), .string (x.Name)]]) rfl rfl rfl (bI (two_s x _ _ (dV _ x)) (eq_false_of_ne_true hg447)) ?_
            rintro e471 W470 ⟨rfl, hu469⟩; refine ⟨_, rfl, ?_⟩
            have H472 := H445.no hu469; clear H445
            refine aA ?_
            refine aB rfl (aJ (v := .bool (false)) (b := true) rfl rfl rfl rfl) rfl rfl ?_
            refine aA ?_
            refine aB rfl (aC rfl) rfl rfl ?_
            refine aA ?_
            refine aD rfl rfl rfl rfl rfl rfl rfl ?_
            refine aA ?_
            refine aD rfl rfl rfl rfl rfl rfl rfl ?_
            refine aA ?_
            refine aD rfl rfl rfl rfl rfl rfl rfl ?_
            refine aA ?_
            refine aB rfl (aJ (v := .bool (false)) (b := false) rfl rfl rfl rfl) rfl rfl ?_
            refine aA ?_
            refine aB rfl (aG rfl) rfl rfl ?_
            refine aF ?_
            refine aH ?_
            refine wp_ret ?_
            refine aY ?_
            refine aR ?_
            refine aM (.inl rfl) Try.results119 rfl ?_
            have hr473 : inst x = false := by first | (simp [inst, aQ, ← hb0, hc20, hc52, hc84, hc116, hc356, hc380, hc432, hg433, hg440, hg447]; done) | (exfalso; omega) | done
            rw [hr473]
            exact ⟨rfl, H472.1⟩
          ·refine aA ?_
           refine aT rfl rfl rfl rfl (fun _ ho474 => ?_)
           refine aK ho474 Try.call150 (vs := #[.int .i64 (x.B)]) rfl rfl rfl (bI (bO x.B _) (eq_false_of_ne_true hg440)) ?_
           rintro e477 W476 ⟨rfl, hu475⟩; refine ⟨_, rfl, ?_⟩
           have H478 := H437.no hu475; clear H437
           refine aA ?_
           refine aB rfl (aJ (v := .bool (false)) (b := true) rfl rfl rfl rfl) rfl rfl ?_
           refine aA ?_
           refine aB rfl (aC rfl) rfl rfl ?_
           refine aA ?_
           refine aD rfl rfl rfl rfl rfl rfl rfl ?_
           refine aA ?_
           refine aD rfl rfl rfl rfl rfl rfl rfl ?_
           refine aA ?_
           refine aB rfl (aJ (v := .bool (false)) (b := false) rfl rfl rfl rfl) rfl rfl ?_
           refine aA ?_
           refine aB rfl (aC rfl) rfl rfl ?_
           refine aA ?_
           refine aD rfl rfl rfl rfl rfl rfl rfl ?_
           refine aA ?_
           refine aD rfl rfl rfl rfl rfl rfl rfl ?_
           refine aA ?_
           refine aD rfl rfl rfl rfl rfl rfl rfl ?_
           refine aA ?_
           refine aB rfl (aJ (v := .bool (false)) (b := false) rfl rfl rfl rfl) rfl rfl ?_
           refine aA ?_
           refine aB rfl (aG rfl) rfl rfl ?_
           refine aF ?_
           refine aH ?_
           refine wp_ret ?_
           refine aY ?_
           refine aR ?_
           refine aM (.inl rfl) Try.results119 rfl ?_
           have hr479 : inst x = false := by first | (simp [inst, aQ, ← hb0, hc20, hc52, hc84, hc116, hc356, hc380, hc432, hg433, hg440]; done) | (exfalso; omega) | done
           rw [hr479]
           exact ⟨rfl, H478.1⟩
         ·refine aA ?_
          refine aK rfl Try.call150 (vs := #[.int .i64 (x.A)]) rfl rfl rfl (bI (bO x.A _) (eq_false_of_ne_true hg433)) ?_
          rintro e482 W481 ⟨rfl, hu480⟩; refine ⟨_, rfl, ?_⟩
          have H483 := H17.no hu480; clear H17
          refine aA ?_
          refine aB rfl (aC rfl) rfl rfl ?_
          refine aA ?_
          refine aD rfl rfl rfl rfl rfl rfl rfl ?_
          refine aA ?_
          refine aD rfl rfl rfl rfl rfl rfl rfl ?_
          refine aA ?_
          refine aD rfl rfl rfl rfl rfl rfl rfl ?_
          refine aA ?_
          refine aB rfl (aJ (v := .bool (false)) (b := false) rfl rfl rfl rfl) rfl rfl ?_
          refine aA ?_
          refine aB rfl (aC rfl) rfl rfl ?_
          refine aA ?_
          refine aD rfl rfl rfl rfl rfl rfl rfl ?_
          refine aA ?_
          refine aD rfl rfl rfl rfl rfl rfl rfl ?_
          refine aA ?_
          refine aB rfl (aJ (v := .bool (false)) (b := false) rfl rfl rfl rfl) rfl rfl ?_
          refine aA ?_
          refine aB rfl (aC rfl) rfl rfl ?_
          refine aA ?_
          refine aD rfl rfl rfl rfl rfl rfl rfl ?_
          refine aA ?_
          refine aD rfl rfl rfl rfl rfl rfl rfl ?_
          refine aA ?_
          refine aD rfl rfl rfl rfl rfl rfl rfl ?_
          refine aA ?_
          refine aB rfl (aJ (v := .bool (false)) (b := false) rfl rfl rfl rfl) rfl rfl ?_
          refine aA ?_
          refine aB rfl (aG rfl) rfl rfl ?_
          refine aF ?_
          refine aH ?_
          refine wp_ret ?_
          refine aY ?_
          refine aR ?_
          refine aM (.inl rfl) Try.results119 rfl ?_
          have hr484 : inst x = false := by first | (simp [inst, aQ, ← hb0, hc20, hc52, hc84, hc116, hc356, hc380, hc432, hg433]; done) | (exfalso; omega) | done
          rw [hr484]
          exact ⟨rfl, H483.1⟩
        ·refine wp_seq ?_
         refine aI [0, 1] rfl ?_
         refine aA ?_
         refine aB rfl (bD rfl rfl) rfl rfl ?_
         refine aA ?_
         refine aB rfl (aG rfl) rfl rfl ?_
         refine aF ?_
         refine aH ?_
         refine aW rfl (fun hc485 => ?_) (fun hc485 => ?_)
         ·refine wp_seq ?_
          refine aI [0, 1, 2, 3, 4, 5, 6, 7, 8, 9, 10, 11, 12, 13, 14, 15, 16, 17] rfl ?_
          refine aA ?_
          refine aB rfl (aN bP rfl) rfl rfl ?_
          refine aA ?_
          refine aB rfl (aS (k := 1) (v := .int .i64 (x.A)) Try.isAgg3 rfl (H17.blk 0 rfl) rfl) rfl rfl ?_
          by_cases hg486 : (rgB x.A) = true
          ·refine aA ?_
           refine aK rfl Try.call150 (vs := #[.int .i64 (x.A)]) rfl rfl rfl (bI (bO x.A _) hg486) ?_
           rintro e489 W488 ⟨rfl, hu487⟩; refine ⟨_, rfl, ?_⟩
           have H490 := H17.no hu487; clear H17
           refine aA ?_
           refine aB rfl (aC rfl) rfl rfl ?_
           refine aA ?_
           refine aT rfl rfl rfl rfl (fun _ ho491 => ?_)
           refine aB ho491 (aN bU rfl) rfl rfl ?_
           refine aA ?_
           refine aT rfl rfl rfl rfl (fun _ ho492 => ?_)
           refine aB ho492 (aS (k := 2) (v := .int .i64 (x.B)) Try.isAgg3 rfl (H490.blk 0 rfl) rfl) rfl rfl ?_
           by_cases hg493 : (x.B : Int) = 0
           ·refine aA ?_
            refine aT rfl rfl rfl rfl (fun _ ho494 => ?_)
            refine aB ho494 (bQ hg493 (bD rfl rfl)) rfl rfl ?_
            refine aA ?_
            refine aB rfl (aJ (v := .bool (true)) (b := true) rfl rfl rfl rfl) rfl rfl ?_
            refine aA ?_
            refine aB rfl (aC rfl) rfl rfl ?_
            refine aA ?_
            refine aT rfl rfl rfl rfl (fun _ ho495 => ?_)
            refine aB ho495 (bL Try.isAgg118 Try.sizeOf118 rfl (H490.blk 0 rfl) rfl) rfl rfl ?_
            by_cases hg496 : (prB x.C x.D) = true
            ·refine aA ?_
             refine aT rfl rfl rfl rfl (fun _ ho497 => ?_)
             refine aK ho497 Try.call151 (vs := #[.agg #[.int .i64 (x.Op), .int .i64 (x.A), .int .i64 (x.B), .int .i64 (x.C), .int .i64 (x.D), .string (x.Name)]]) rfl rfl rfl (bI (two_s x _ _ (dV _ x)) hg496) ?_
             rintro e500 W499 ⟨rfl, hu498⟩; refine ⟨_, rfl, ?_⟩
             have H501 := H490.no hu498; clear H490
             refine aA ?_
             refine aB rfl (aJ (v := .bool (true)) (b := true) rfl rfl rfl rfl) rfl rfl ?_
             refine aA ?_
             refine aB rfl (aC rfl) rfl rfl ?_
             refine aA ?_
             refine aT rfl rfl rfl rfl (fun _ ho502 => ?_)
             refine aB ho502 (aN fU rfl) rfl rfl ?_
             refine aA ?_
             refine aT rfl rfl rfl rfl (fun _ ho503 => ?_)
             refine aB ho503 (aS (k := 5) (v := .string (x.Name)) Try.isAgg9 rfl (H501.blk 0 rfl) rfl) rfl rfl ?_
             by_cases hg504 : (nmB x.Name) = true
             ·refine aA ?_
              refine aT rfl rfl rfl rfl (fun _ ho505 => ?_)
              refine aK ho505 Try.call76 (vs := #[.string (x.Name)]) rfl rfl rfl (bI (fG x.Name _ hs) hg504) ?_
              rintro e508 W507 ⟨rfl, hu506⟩; refine ⟨_, rfl, ?_⟩
              have H509 := H501.no hu506; clear H501
              refine aA ?_
              refine aB rfl (aJ (v := .bool (true)) (b := true) rfl rfl rfl rfl) rfl rfl ?_
              refine aA ?_
              refine aB rfl (aG rfl) rfl rfl ?_
              refine aF ?_
              refine aH ?_
              refine wp_ret ?_
              refine aY ?_
              refine aR ?_
              refine aM (.inl rfl) Try.results119 rfl ?_
              have hr510 : inst x = true := by first | (simp [inst, aQ, ← hb0, hc20, hc52, hc84, hc116, hc356, hc380, hc432, hc485, hg486, hg493, hg496, hg504]; done) | (exfalso; omega) | done
              rw [hr510]
              exact ⟨rfl, H509.1⟩
             ·refine aA ?_
              refine aT rfl rfl rfl rfl (fun _ ho511 => ?_)
              refine aK ho511 Try.call76 (vs := #[.string (x.Name)]) rfl rfl rfl (bI (fG x.Name _ hs) (eq_false_of_ne_true hg504)) ?_
              rintro e514 W513 ⟨rfl, hu512⟩; refine ⟨_, rfl, ?_⟩
              have H515 := H501.no hu512; clear H501
              refine aA ?_
              refine aB rfl (aJ (v := .bool (false)) (b := true) rfl rfl rfl rfl) rfl rfl ?_
              refine aA ?_
              refine aB rfl (aG rfl) rfl rfl ?_
              refine aF ?_
              refine aH ?_
              refine wp_ret ?_
              refine aY ?_
              refine aR ?_
              refine aM (.inl rfl) Try.results119 rfl ?_
              have hr516 : inst x = false := by first | (simp [inst, aQ, ← hb0, hc20, hc52, hc84, hc116, hc356, hc380, hc432, hc485, hg486, hg493, hg496, hg504]; done) | (exfalso; omega) | done
              rw [hr516]
              exact ⟨rfl, H515.1⟩
            ·refine aA ?_
             refine aT rfl rfl rfl rfl (fun _ ho517 => ?_)
             refine aK ho517 Try.call151 (vs := #[.agg #[.int .i64 (x.Op), .int .i64 (x.A), .int .i64 (x.B), .int .i64 (x.C), .int .i64 (x.D), .string (x.Name)]]) rfl rfl rfl (bI (two_s x _ _ (dV _ x)) (eq_false_of_ne_true hg496)) ?_
             rintro e520 W519 ⟨rfl, hu518⟩; refine ⟨_, rfl, ?_⟩
             have H521 := H490.no hu518; clear H490
             refine aA ?_
             refine aB rfl (aJ (v := .bool (false)) (b := true) rfl rfl rfl rfl) rfl rfl ?_
             refine aA ?_
             refine aB rfl (aC rfl) rfl rfl ?_
             refine aA ?_
             refine aD rfl rfl rfl rfl rfl rfl rfl ?_
             refine aA ?_
             refine aD rfl rfl rfl rfl rfl rfl rfl ?_
             refine aA ?_
             refine aD rfl rfl rfl rfl rfl rfl rfl ?_
             refine aA ?_
             refine aB rfl (aJ (v := .bool (false)) (b := false) rfl rfl rfl rfl) rfl rfl ?_
             refine aA ?_
             refine aB rfl (aG rfl) rfl rfl ?_
             refine aF ?_
             refine aH ?_
             refine wp_ret ?_
             refine aY ?_
             refine aR ?_
             refine aM (.inl rfl) Try.results119 rfl ?_
             have hr522 : inst x = false := by first | (simp [inst, aQ, ← hb0, hc20, hc52, hc84, hc116, hc356, hc380, hc432, hc485, hg486, hg493, hg496]; done) | (exfalso; omega) | done
             rw [hr522]
             exact ⟨rfl, H521.1⟩
           ·refine aA ?_
            refine aT rfl rfl rfl rfl (fun _ ho523 => ?_)
            refine aB ho523 (bS hg493 (bD rfl rfl)) rfl rfl ?_
            refine aA ?_
            refine aB rfl (aJ (v := .bool (false)) (b := true) rfl rfl rfl rfl) rfl rfl ?_
            refine aA ?_
            refine aB rfl (aC rfl) rfl rfl ?_
            refine aA ?_
            refine aD rfl rfl rfl rfl rfl rfl rfl ?_
            refine aA ?_
            refine aD rfl rfl rfl rfl rfl rfl rfl ?_
            refine aA ?_
            refine aB rfl (aJ (v := .bool (false)) (b := false) rfl rfl rfl rfl) rfl rfl ?_
            refine aA ?_
            refine aB rfl (aC rfl) rfl rfl ?_
            refine aA ?_
            refine aD rfl rfl rfl rfl rfl rfl rfl ?_
            refine aA ?_
            refine aD rfl rfl rfl rfl rfl rfl rfl ?_
            refine aA ?_
            refine aD rfl rfl rfl rfl rfl rfl rfl ?_
            refine aA ?_
            refine aB rfl (aJ (v := .bool (false)) (b := false) rfl rfl rfl rfl) rfl rfl ?_
            refine aA ?_
            refine aB rfl (aG rfl) rfl rfl ?_
            refine aF ?_
            refine aH ?_
            refine wp_ret ?_
            refine aY ?_
            refine aR ?_
            refine aM (.inl rfl) Try.results119 rfl ?_
            have hr524 : inst x = false := by first | (simp [inst, aQ, ← hb0, hc20, hc52, hc84, hc116, hc356, hc380, hc432, hc485, hg486, hg493]; done) | (exfalso; omega) | done
            rw [hr524]
            exact ⟨rfl, H490.1⟩
          ·refine aA ?_
           refine aK rfl Try.call150 (vs := #[.int .i64 (x.A)]) rfl rfl rfl (bI (bO x.A _) (eq_false_of_ne_true hg486)) ?_
           rintro e527 W526 ⟨rfl, hu525⟩; refine ⟨_, rfl, ?_⟩
           have H528 := H17.no hu525; clear H17
           refine aA ?_
           refine aB rfl (aC rfl) rfl rfl ?_
           refine aA ?_
           refine aD rfl rfl rfl rfl rfl rfl rfl ?_
           refine aA ?_
           refine aD rfl rfl rfl rfl rfl rfl rfl ?_
           refine aA ?_
           refine aD rfl rfl rfl rfl rfl rfl rfl ?_
           refine aA ?_
           refine aB rfl (aJ (v := .bool (false)) (b := false) rfl rfl rfl rfl) rfl rfl ?_
           refine aA ?_
           refine aB rfl (aC rfl) rfl rfl ?_
           refine aA ?_
           refine aD rfl rfl rfl rfl rfl rfl rfl ?_
           refine aA ?_
           refine aD rfl rfl rfl rfl rfl rfl rfl ?_
           refine aA ?_
           refine aB rfl (aJ (v := .bool (false)) (b := false) rfl rfl rfl rfl) rfl rfl ?_
           refine aA ?_
           refine aB rfl (aC rfl) rfl rfl ?_
           refine aA ?_
           refine aD rfl rfl rfl rfl rfl rfl rfl ?_
           refine aA ?_
           refine aD rfl rfl rfl rfl rfl rfl rfl ?_
           refine aA ?_
           refine aD rfl rfl rfl rfl rfl rfl rfl ?_
           refine aA ?_
           refine aB rfl (aJ (v := .bool (false)) (b := false) rfl rfl rfl rfl) rfl rfl ?_
           refine aA ?_
           refine aB rfl (aG rfl) rfl rfl ?_
           refine aF ?_
           refine aH ?_
           refine wp_ret ?_
           refine aY ?_
           refine aR ?_
           refine aM (.inl rfl) Try.results119 rfl ?_
           have hr529 : inst x = false := by first | (simp [inst, aQ, ← hb0, hc20, hc52, hc84, hc116, hc356, hc380, hc432, hc485, hg486]; done) | (exfalso; omega) | done
           rw [hr529]
           exact ⟨rfl, H528.1⟩
         ·refine wp_seq ?_
          refine aI [0, 1] rfl ?_
          refine aA ?_
          refine aB rfl (bD rfl rfl) rfl rfl ?_
          refine aA ?_
          refine aB rfl (aG rfl) rfl rfl ?_
          refine aF ?_
          refine aH ?_
          refine aW rfl (fun hc530 => ?_) (fun hc530 => ?_)
          ·refine wp_seq ?_
           refine aI [0, 1, 2, 3, 4, 5, 6, 7, 8, 9, 10, 11] rfl ?_
           by_cases hg531 : b0 = true
           ·refine aA ?_
            refine aB rfl (bM (b := b0) hg531 (aC rfl)) rfl rfl ?_
            refine aA ?_
            refine aB rfl (aC rfl) rfl rfl ?_
            refine aA ?_
            refine aT rfl rfl rfl rfl (fun _ ho532 => ?_)
            refine aB ho532 (aN bP rfl) rfl rfl ?_
            refine aA ?_
            refine aT rfl rfl rfl rfl (fun _ ho533 => ?_)
            refine aB ho533 (aS (k := 1) (v := .int .i64 (x.A)) Try.isAgg3 rfl (H17.blk 0 rfl) rfl) rfl rfl ?_
            by_cases hg534 : (inB x.A 0 2) = true
            ·refine aA ?_
             refine aT rfl rfl rfl rfl (fun _ ho535 => ?_)
             refine aK ho535 Try.call61 (vs := #[.int .i64 (x.A), .int .i64 (0), .int .i64 (2)]) rfl rfl rfl (bI (fK x.A 0 2 _) hg534) ?_
             rintro e538 W537 ⟨rfl, hu536⟩; refine ⟨_, rfl, ?_⟩
             have H539 := H17.no hu536; clear H17
             refine aA ?_
             refine aB rfl (aJ (v := .bool (true)) (b := true) rfl rfl rfl rfl) rfl rfl ?_
             refine aA ?_
             refine aB rfl (aC rfl) rfl rfl ?_
             refine aA ?_
             refine aT rfl rfl rfl rfl (fun _ ho540 => ?_)
             refine aB ho540 (aN bU rfl) rfl rfl ?_
             refine aA ?_
             refine aT rfl rfl rfl rfl (fun _ ho541 => ?_)
             refine aB ho541 (aS (k := 2) (v := .int .i64 (x.B)) Try.isAgg3 rfl (H539.blk 0 rfl) rfl) rfl rfl ?_
             by_cases hg542 : (rgB x.B) = true
             ·refine aA ?_
              refine aT rfl rfl rfl rfl (fun _ ho543 => ?_)
              refine aK ho543 Try.call150 (vs := #[.int .i64 (x.B)]) rfl rfl rfl (bI (bO x.B _) hg542) ?_
              rintro e546 W545 ⟨rfl, hu544⟩; refine ⟨_, rfl, ?_⟩
              have H547 := H539.no hu544; clear H539
              refine aA ?_
              refine aB rfl (aJ (v := .bool (true)) (b := true) rfl rfl rfl rfl) rfl rfl ?_
              refine aA ?_
              refine aB rfl (aG rfl) rfl rfl ?_
              refine aF ?_
              refine aH ?_
              refine wp_ret ?_
              refine aY ?_
              refine aR ?_
              refine aM (.inl rfl) Try.results119 rfl ?_
              have hr548 : inst x = true := by first | (simp [inst, aQ, ← hb0, hc20, hc52, hc84, hc116, hc356, hc380, hc432, hc485, hc530, hg531, hg534, hg542]; done) | (exfalso; omega) | done
              rw [hr548]
              exact ⟨rfl, H547.1⟩
             ·refine aA ?_
              refine aT rfl rfl rfl rfl (fun _ ho549 => ?_)
              refine aK ho549 Try.call150 (vs := #[.int .i64 (x.B)]) rfl rfl rfl (bI (bO x.B _) (eq_false_of_ne_true hg542)) ?_
              rintro e552 W551 ⟨rfl, hu550⟩; refine ⟨_, rfl, ?_⟩
              have H553 := H539.no hu550; clear H539
              refine aA ?_
              refine aB rfl (aJ (v := .bool (false)) (b := true) rfl rfl rfl rfl) rfl rfl ?_
              refine aA ?_
              refine aB rfl (aG rfl) rfl rfl ?_
              refine aF ?_
              refine aH ?_
              refine wp_ret ?_
              refine aY ?_
              refine aR ?_
              refine aM (.inl rfl) Try.results119 rfl ?_
              have hr554 : inst x = false := by first | (simp [inst, aQ, ← hb0, hc20, hc52, hc84, hc116, hc356, hc380, hc432, hc485, hc530, hg531, hg534, hg542]; done) | (exfalso; omega) | done
              rw [hr554]
              exact ⟨rfl, H553.1⟩
            ·refine aA ?_
             refine aT rfl rfl rfl rfl (fun _ ho555 => ?_)
             refine aK ho555 Try.call61 (vs := #[.int .i64 (x.A), .int .i64 (0), .int .i64 (2)]) rfl rfl rfl (bI (fK x.A 0 2 _) (eq_false_of_ne_true hg534)) ?_
             rintro e558 W557 ⟨rfl, hu556⟩; refine ⟨_, rfl, ?_⟩
             have H559 := H17.no hu556; clear H17
             refine aA ?_
             refine aB rfl (aJ (v := .bool (false)) (b := true) rfl rfl rfl rfl) rfl rfl ?_
             refine aA ?_
             refine aB rfl (aC rfl) rfl rfl ?_
             refine aA ?_
             refine aD rfl rfl rfl rfl rfl rfl rfl ?_
             refine aA ?_
             refine aD rfl rfl rfl rfl rfl rfl rfl ?_
             refine aA ?_
             refine aD rfl rfl rfl rfl rfl rfl rfl ?_
             refine aA ?_
             refine aB rfl (aJ (v := .bool (false)) (b := false) rfl rfl rfl rfl) rfl rfl ?_
             refine aA ?_
             refine aB rfl (aG rfl) rfl rfl ?_
             refine aF ?_
             refine aH ?_
             refine wp_ret ?_
             refine aY ?_
             refine aR ?_
             refine aM (.inl rfl) Try.results119 rfl ?_
             have hr560 : inst x = false := by first | (simp [inst, aQ, ← hb0, hc20, hc52, hc84, hc116, hc356, hc380, hc432, hc485, hc530, hg531, hg534]; done) | (exfalso; omega) | done
             rw [hr560]
             exact ⟨rfl, H559.1⟩
           ·refine aA ?_
            refine aB rfl (bM (b := b0) (eq_false_of_ne_true hg531) (aC rfl)) rfl rfl ?_
            refine aA ?_
            refine aB rfl (aC rfl) rfl rfl ?_
            refine aA ?_
            refine aD rfl rfl rfl rfl rfl rfl rfl ?_
            refine aA ?_
            refine aD rfl rfl rfl rfl rfl rfl rfl ?_
            refine aA ?_
            refine aD rfl rfl rfl rfl rfl rfl rfl ?_
            refine aA ?_
            refine aB rfl (aJ (v := .bool (false)) (b := false) rfl rfl rfl rfl) rfl rfl ?_
            refine aA ?_
            refine aB rfl (aC rfl) rfl rfl ?_
            refine aA ?_
            refine aD rfl rfl rfl rfl rfl rfl rfl ?_
            refine aA ?_
            refine aD rfl rfl rfl rfl rfl rfl rfl ?_
            refine aA ?_
            refine aD rfl rfl rfl rfl rfl rfl rfl ?_
            refine aA ?_
            refine aB rfl (aJ (v := .bool (false)) (b := false) rfl rfl rfl rfl) rfl rfl ?_
            refine aA ?_
            refine aB rfl (aG rfl) rfl rfl ?_
            refine aF ?_
            refine aH ?_
            refine wp_ret ?_
            refine aY ?_
            refine aR ?_
            refine aM (.inl rfl) Try.results119 rfl ?_
            have hr561 : inst x = false := by first | (simp [inst, aQ, ← hb0, hc20, hc52, hc84, hc116, hc356, hc380, hc432, hc485, hc530, hg531]; done) | (exfalso; omega) | done
            rw [hr561]
            exact ⟨rfl, H17.1⟩
          ·refine wp_seq ?_
           refine aI [0, 1] rfl ?_
           refine aA ?_
           refine aB rfl (bD rfl rfl) rfl rfl ?_
           refine aA ?_
           refine aB rfl (aG rfl) rfl rfl ?_
           refine aF ?_
           refine aH ?_
           refine aW rfl (fun hc562 => ?_) (fun hc562 => ?_)
           ·refine wp_seq ?_
            refine aI [0, 1, 2, 3, 4, 5, 6, 7, 8, 9, 10, 11] rfl ?_
            by_cases hg563 : b0 = true
            ·refine aA ?_
             refine aB rfl (bM (b := b0) hg563 (aC rfl)) rfl rfl ?_
             refine aA ?_
             refine aB rfl (aC rfl) rfl rfl ?_
             refine aA ?_
             refine aT rfl rfl rfl rfl (fun _ ho564 => ?_)
             refine aB ho564 (aN bP rfl) rfl rfl ?_
             refine aA ?_
             refine aT rfl rfl rfl rfl (fun _ ho565 => ?_)
             refine aB ho565 (aS (k := 1) (v := .int .i64 (x.A)) Try.isAgg3 rfl (H17.blk 0 rfl) rfl) rfl rfl ?_
             by_cases hg566 : (rgB x.A) = true
             ·refine aA ?_
              refine aT rfl rfl rfl rfl (fun _ ho567 => ?_)
              refine aK ho567 Try.call150 (vs := #[.int .i64 (x.A)]) rfl rfl rfl (bI (bO x.A _) hg566) ?_
              rintro e570 W569 ⟨rfl, hu568⟩; refine ⟨_, rfl, ?_⟩
              have H571 := H17.no hu568; clear H17
              refine aA ?_
              refine aB rfl (aJ (v := .bool (true)) (b := true) rfl rfl rfl rfl) rfl rfl ?_
              refine aA ?_
              refine aB rfl (aC rfl) rfl rfl ?_
              refine aA ?_
              refine aT rfl rfl rfl rfl (fun _ ho572 => ?_)
              refine aB ho572 (aN bU rfl) rfl rfl ?_
              refine aA ?_
              refine aT rfl rfl rfl rfl (fun _ ho573 => ?_)
              refine aB ho573 (aS (k := 2) (v := .int .i64 (x.B)) Try.isAgg3 rfl (H571.blk 0 rfl) rfl) rfl rfl ?_
              by_cases hg574 : (inB x.B 1 12) = true
              ·refine aA ?_
               refine aT rfl rfl rfl rfl (fun _ ho575 => ?_)
               refine aK ho575 Try.call61 (vs := #[.int .i64 (x.B), .int .i64 (1), .int .i64 (12)]) rfl rfl rfl (bI (fK x.B 1 12 _) hg574) ?_
               rintro e578 W577 ⟨rfl, hu576⟩; refine ⟨_, rfl, ?_⟩
               have H579 := H571.no hu576; clear H571
               refine aA ?_
               refine aB rfl (aJ (v := .bool (true)) (b := true) rfl rfl rfl rfl) rfl rfl ?_
               refine aA ?_
               refine aB rfl (aG rfl) rfl rfl ?_
               refine aF ?_
               refine aH ?_
               refine wp_ret ?_
               refine aY ?_
               refine aR ?_
               refine aM (.inl rfl) Try.results119 rfl ?_
               have hr580 : inst x = true := by first | (simp [inst, aQ, ← hb0, hc20, hc52, hc84, hc116, hc356, hc380, hc432, hc485, hc530, hc562, hg563, hg566, hg574]; done) | (exfalso; omega) | done
               rw [hr580]
               exact ⟨rfl, H579.1⟩
              ·refine aA ?_
               refine aT rfl rfl rfl rfl (fun _ ho581 => ?_)
               refine aK ho581 Try.call61 (vs := #[.int .i64 (x.B), .int .i64 (1), .int .i64 (12)]) rfl rfl rfl (bI (fK x.B 1 12 _) (eq_false_of_ne_true hg574)) ?_
               rintro e584 W583 ⟨rfl, hu582⟩; refine ⟨_, rfl, ?_⟩
               have H585 := H571.no hu582; clear H571
               refine aA ?_
               refine aB rfl (aJ (v := .bool (false)) (b := true) rfl rfl rfl rfl) rfl rfl ?_
               refine aA ?_
               refine aB rfl (aG rfl) rfl rfl ?_
               refine aF ?_
               refine aH ?_
               refine wp_ret ?_
               refine aY ?_
               refine aR ?_
               refine aM (.inl rfl) Try.results119 rfl ?_
               have hr586 : inst x = false := by first | (simp [inst, aQ, ← hb0, hc20, hc52, hc84, hc116, hc356, hc380, hc432, hc485, hc530, hc562, hg563, hg566, hg574]; done) | (exfalso; omega) | done
               rw [hr586]
               exact ⟨rfl, H585.1⟩
             ·refine aA ?_
              refine aT rfl rfl rfl rfl (fun _ ho587 => ?_)
              refine aK ho587 Try.call150 (vs := #[.int .i64 (x.A)]) rfl rfl rfl (bI (bO x.A _) (eq_false_of_ne_true hg566)) ?_
              rintro e590 W589 ⟨rfl, hu588⟩; refine ⟨_, rfl, ?_⟩
              have H591 := H17.no hu588; clear H17
              refine aA ?_
              refine aB rfl (aJ (v := .bool (false)) (b := true) rfl rfl rfl rfl) rfl rfl ?_
              refine aA ?_
              refine aB rfl (aC rfl) rfl rfl ?_
              refine aA ?_
              refine aD rfl rfl rfl rfl rfl rfl rfl ?_
              refine aA ?_
              refine aD rfl rfl rfl rfl rfl rfl rfl ?_
              refine aA ?_
              refine aD rfl rfl rfl rfl rfl rfl rfl ?_
              refine aA ?_
              refine aB rfl (aJ (v := .bool (false)) (b := false) rfl rfl rfl rfl) rfl rfl ?_
              refine aA ?_
              refine aB rfl (aG rfl) rfl rfl ?_
              refine aF ?_
              refine aH ?_
              refine wp_ret ?_
              refine aY ?_
              refine aR ?_
              refine aM (.inl rfl) Try.results119 rfl ?_
              have hr592 : inst x = false := by first | (simp [inst, aQ, ← hb0, hc20, hc52, hc84, hc116, hc356, hc380, hc432, hc485, hc530, hc562, hg563, hg566]; done) | (exfalso; omega) | done
              rw [hr592]
              exact ⟨rfl, H591.1⟩
            ·refine aA ?_
             refine aB rfl (bM (b := b0) (eq_false_of_ne_true hg563) (aC rfl)) rfl rfl ?_
             refine aA ?_
             refine aB rfl (aC rfl) rfl rfl ?_
             refine aA ?_
             refine aD rfl rfl rfl rfl rfl rfl rfl ?_
             refine aA ?_
             refine aD rfl rfl rfl rfl rfl rfl rfl ?_
             refine aA ?_
             refine aD rfl rfl rfl rfl rfl rfl rfl ?_
             refine aA ?_
             refine aB rfl (aJ (v := .bool (false)) (b := false) rfl rfl rfl rfl) rfl rfl ?_
             refine aA ?_
             refine aB rfl (aC rfl) rfl rfl ?_
             refine aA ?_
             refine aD rfl rfl rfl rfl rfl rfl rfl ?_
             refine aA ?_
             refine aD rfl rfl rfl rfl rfl rfl rfl ?_
             refine aA ?_
             refine aD rfl rfl rfl rfl rfl rfl rfl ?_
             refine aA ?_
             refine aB rfl (aJ (v := .bool (false)) (b := false) rfl rfl rfl rfl) rfl rfl ?_
             refine aA ?_
             refine aB rfl (aG rfl) rfl rfl ?_
             refine aF ?_
             refine aH ?_
             refine wp_ret ?_
             refine aY ?_
             refine aR ?_
             refine aM (.inl rfl) Try.results119 rfl ?_
             have hr593 : inst x = false := by first | (simp [inst, aQ, ← hb0, hc20, hc52, hc84, hc116, hc356, hc380, hc432, hc485, hc530, hc562, hg563]; done) | (exfalso; omega) | done
             rw [hr593]
             exact ⟨rfl, H17.1⟩
           ·refine wp_skip ?_
            refine dR ?_
            refine aH ?_
            refine wp_seq ?_
            refine aI [0] rfl ?_
            refine aA ?_
            refine aB rfl (aG rfl) rfl rfl ?_
            refine aF ?_
            refine aH ?_
            refine wp_ret ?_
            refine aM (.inl rfl) Try.results119 rfl ?_
            have hr594 : inst x = false := by first | (simp [inst, aQ, ← hb0, hc20, hc52, hc84, hc116, hc356, hc380, hc432, hc485, hc530, hc562]; done) | (exfalso; omega) | done
            rw [hr594]
            exact ⟨rfl, H17.1⟩
theorem isInstr_i (x : GInstr) (cs : List Value) (w : World) (h : bF.K w x cs) : Calls Try.prog 148 #[.agg cs.toArray] w (bY (inst x) w) := by
 obtain rfl := fD h
 refine enter 197 [(0, .agg #[.int .i64 (x.Op), .int .i64 (x.A), .int .i64 (x.B), .int .i64 (x.C), .int .i64 (x.D), .string (x.Name)])] Try.func148 rfl kR ?_
 intro xj
 have H1 : St w No [] w := St.enter
 refine wp_seq ?_
 refine aI [0, 1] rfl ?_
 refine aA ?_
 refine eG rfl rfl rfl rfl H1 ?_
 intro g_0_0 W2 hu3 Ha4; clear H1; clear hu3
 refine aA ?_
 refine aB rfl (aG rfl) rfl rfl ?_
 refine aF ?_
 refine aH ?_
 refine wp_seq ?_
 refine wp_seq ?_
 refine aI [0, 1] rfl ?_
 refine aA ?_
 refine aB rfl (aN eH rfl) rfl rfl ?_
 refine aA ?_
 refine aB rfl (aS (k := 0) (v := .int .i64 (x.Op)) Try.isAgg3 rfl (Ha4.blk 0 rfl) rfl) rfl rfl ?_
 refine aF ?_
 refine aH ?_
 refine wp_block ?_
 refine wp_seq ?_
 refine aI [0, 1] rfl ?_
 refine aA ?_
 refine aB rfl (bD rfl rfl) rfl rfl ?_
 refine aA ?_
 refine aB rfl (aG rfl) rfl rfl ?_
 refine aF ?_
 refine aH ?_
 refine aW rfl (fun hc6 => ?_) (fun hc6 => ?_)
 ·refine wp_seq ?_
  refine aI [0, 1, 2, 3, 4, 5, 6, 7, 8, 9, 10, 11, 12, 13, 14, 15, 16, 17, 18, 19] rfl ?_
  refine aA ?_
  refine aB rfl (bL Try.isAgg118 Try.sizeOf118 rfl (Ha4.blk 0 rfl) rfl) rfl rfl ?_
  refine aA ?_
  refine aB rfl (aN eH rfl) rfl rfl ?_
  refine aA ?_
  refine aB rfl (aS (k := 0) (v := .int .i64 (x.Op)) Try.isAgg3 rfl (Ha4.blk 0 rfl) rfl) rfl rfl ?_
  refine aA ?_
  refine aB rfl (aN bP rfl) rfl rfl ?_
  refine aA ?_
  refine aB rfl (aS (k := 1) (v := .int .i64 (x.A)) Try.isAgg3 rfl (Ha4.blk 0 rfl) rfl) rfl rfl ?_
  refine aA ?_
  refine aB rfl (aN bU rfl) rfl rfl ?_
  refine aA ?_
  refine aB rfl (aS (k := 2) (v := .int .i64 (x.B)) Try.isAgg3 rfl (Ha4.blk 0 rfl) rfl) rfl rfl ?_
  refine aA ?_
  refine aB rfl (bB (vs := [(0, .int .i64 (x.Op)), (1, .int .i64 (x.A)), (2, .int .i64 (x.B))]) (cells := #[.int .i64 (x.Op), .int .i64 (x.A), .int .i64 (x.B), .int .i64 (0), .int .i64 (0), .string (⟨#[]⟩)]) rfl kR) rfl rfl ?_
  by_cases hg7 : (bE x (⟨x.Op, x.A, x.B, 0, 0, ⟨#[]⟩⟩ : GInstr)) = true
  ·have hg7n := hg7
   rw [zq3 x] at hg7n
   refine aA ?_
   refine aB rfl (bM (b := bE x (⟨x.Op, x.A, x.B, 0, 0, ⟨#[]⟩⟩ : GInstr)) hg7 (dS Try.eqGuardType118 rfl rfl (dB x (⟨x.Op, x.A, x.B, 0, 0, ⟨#[]⟩⟩ : GInstr) _ 9998))) rfl rfl ?_
   refine aA ?_
   refine aB rfl (aC rfl) rfl rfl ?_
   refine aA ?_
   refine aT rfl rfl rfl rfl (fun _ ho8 => ?_)
   refine aB ho8 (aN bP rfl) rfl rfl ?_
   refine aA ?_
   refine aT rfl rfl rfl rfl (fun _ ho9 => ?_)
   refine aB ho9 (aS (k := 1) (v := .int .i64 (x.A)) Try.isAgg3 rfl (Ha4.blk 0 rfl) rfl) rfl rfl ?_
   by_cases hg10 : (rgB x.A) = true
   ·refine aA ?_
    refine aT rfl rfl rfl rfl (fun _ ho11 => ?_)
    refine aK ho11 Try.call165 (vs := #[.int .i64 (x.A)]) rfl rfl rfl (bI (bR x.A _) hg10) ?_
    rintro e14 W13 ⟨rfl, hu12⟩; refine ⟨_, rfl, ?_⟩
    have H15 := Ha4.no hu12; clear Ha4
    refine aA ?_
    refine aB rfl (aJ (v := .bool (true)) (b := true) rfl rfl rfl rfl) rfl rfl ?_
    refine aA ?_
    refine aB rfl (aC rfl) rfl rfl ?_
    refine aA ?_
    refine aT rfl rfl rfl rfl (fun _ ho16 => ?_)
    refine aB ho16 (aN bU rfl) rfl rfl ?_
    refine aA ?_
    refine aT rfl rfl rfl rfl (fun _ ho17 => ?_)
    refine aB ho17 (aS (k := 2) (v := .int .i64 (x.B)) Try.isAgg3 rfl (H15.blk 0 rfl) rfl) rfl rfl ?_
    by_cases hg18 : (inB x.B 0 999999) = true
    ·refine aA ?_
     refine aT rfl rfl rfl rfl (fun _ ho19 => ?_)
     refine aK ho19 Try.call60 (vs := #[.int .i64 (x.B), .int .i64 (0), .int .i64 (999999)]) rfl rfl rfl (bI (in_i x.B 0 999999 _) hg18) ?_
     rintro e22 W21 ⟨rfl, hu20⟩; refine ⟨_, rfl, ?_⟩
     have H23 := H15.no hu20; clear H15
     refine aA ?_
     refine aB rfl (aJ (v := .bool (true)) (b := true) rfl rfl rfl rfl) rfl rfl ?_
     refine aA ?_
     refine aB rfl (aG rfl) rfl rfl ?_
     refine aF ?_
     refine aH ?_
     refine wp_ret ?_
     refine aY ?_
     refine aR ?_
     refine aM (.inl rfl) Try.results148 rfl ?_
     have hr24 : inst x = true := by first | (simp [inst, aQ, hc6, hg7n, hg10, hg18]; done) | (exfalso; omega) | (have q := hg7n; revert q; (simp [inst, aQ, hc6, hg10, hg18] <;> (intros; simp_all)); done)
     rw [hr24]
     exact ⟨rfl, H23.1⟩
    ·refine aA ?_
     refine aT rfl rfl rfl rfl (fun _ ho25 => ?_)
     refine aK ho25 Try.call60 (vs := #[.int .i64 (x.B), .int .i64 (0), .int .i64 (999999)]) rfl rfl rfl (bI (in_i x.B 0 999999 _) (eq_false_of_ne_true hg18)) ?_
     rintro e28 W27 ⟨rfl, hu26⟩; refine ⟨_, rfl, ?_⟩
     have H29 := H15.no hu26; clear H15
     refine aA ?_
     refine aB rfl (aJ (v := .bool (false)) (b := true) rfl rfl rfl rfl) rfl rfl ?_
     refine aA ?_
     refine aB rfl (aG rfl) rfl rfl ?_
     refine aF ?_
     refine aH ?_
     refine wp_ret ?_
     refine aY ?_
     refine aR ?_
     refine aM (.inl rfl) Try.results148 rfl ?_
     have hr30 : inst x = false := by first | (simp [inst, aQ, hc6, hg7n, hg10, hg18]; done) | (exfalso; omega) | (have q := hg7n; revert q; (simp [inst, aQ, hc6, hg10, hg18] <;> (intros; simp_all)); done)
     rw [hr30]
     exact ⟨rfl, H29.1⟩
   ·refine aA ?_
    refine aT rfl rfl rfl rfl (fun _ ho31 => ?_)
    refine aK ho31 Try.call165 (vs := #[.int .i64 (x.A)]) rfl rfl rfl (bI (bR x.A _) (eq_false_of_ne_true hg10)) ?_
    rintro e34 W33 ⟨rfl, hu32⟩; refine ⟨_, rfl, ?_⟩
    have H35 := Ha4.no hu32; clear Ha4
    refine aA ?_
    refine aB rfl (aJ (v := .bool (false)) (b := true) rfl rfl rfl rfl) rfl rfl ?_
    refine aA ?_
    refine aB rfl (aC rfl) rfl rfl ?_
    refine aA ?_
    refine aD rfl rfl rfl rfl rfl rfl rfl ?_
    refine aA ?_
    refine aD rfl rfl rfl rfl rfl rfl rfl ?_
    refine aA ?_
    refine aD rfl rfl rfl rfl rfl rfl rfl ?_
    refine aA ?_
    refine aB rfl (aJ (v := .bool (false)) (b := false) rfl rfl rfl rfl) rfl rfl ?_
    refine aA ?_
    refine aB rfl (aG rfl) rfl rfl ?_
    refine aF ?_
    refine aH ?_
    refine wp_ret ?_
    refine aY ?_
    refine aR ?_
    refine aM (.inl rfl) Try.results148 rfl ?_
    have hr36 : inst x = false := by first | (simp [inst, aQ, hc6, hg7n, hg10]; done) | (exfalso; omega) | (have q := hg7n; revert q; (simp [inst, aQ, hc6, hg10] <;> (intros; simp_all)); done)
    rw [hr36]
    exact ⟨rfl, H35.1⟩
  ·have hg7n := hg7
   rw [zq3 x] at hg7n
   refine aA ?_
   refine aB rfl (bM (b := bE x (⟨x.Op, x.A, x.B, 0, 0, ⟨#[]⟩⟩ : GInstr)) (eq_false_of_ne_true hg7) (dS Try.eqGuardType118 rfl rfl (dB x (⟨x.Op, x.A, x.B, 0, 0, ⟨#[]⟩⟩ : GInstr) _ 9998))) rfl rfl ?_
   refine aA ?_
   refine aB rfl (aC rfl) rfl rfl ?_
   refine aA ?_
   refine aD rfl rfl rfl rfl rfl rfl rfl ?_
   refine aA ?_
   refine aD rfl rfl rfl rfl rfl rfl rfl ?_
   refine aA ?_
   refine aD rfl rfl rfl rfl rfl rfl rfl ?_
   refine aA ?_
   refine aB rfl (aJ (v := .bool (false)) (b := false) rfl rfl rfl rfl) rfl rfl ?_
   refine aA ?_
   refine aB rfl (aC rfl) rfl rfl ?_
   refine aA ?_
   refine aD rfl rfl rfl rfl rfl rfl rfl ?_
   refine aA ?_
   refine aD rfl rfl rfl rfl rfl rfl rfl ?_
   refine aA ?_
   refine aD rfl rfl rfl rfl rfl rfl rfl ?_
   refine aA ?_
   refine aB rfl (aJ (v := .bool (false)) (b := false) rfl rfl rfl rfl) rfl rfl ?_
   refine aA ?_
   refine aB rfl (aG rfl) rfl rfl ?_
   refine aF ?_
   refine aH ?_
   refine wp_ret ?_
   refine aY ?_
   refine aR ?_
   refine aM (.inl rfl) Try.results148 rfl ?_
   have hr37 : inst x = false := by first | (simp [inst, aQ, hc6, hg7n]; done) | (exfalso; omega) | (have q := hg7n; revert q; (simp [inst, aQ, hc6] <;> (intros; simp_all)); done)
   rw [hr37]
   exact ⟨rfl, Ha4.1⟩
 ·refine wp_seq ?_
  refine aI [0, 1] rfl ?_
  refine aA ?_
  refine aB rfl (bD rfl rfl) rfl rfl ?_
  refine aA ?_
  refine aB rfl (aG rfl) rfl rfl ?_
  refine aF ?_
  refine aH ?_
  refine aW rfl (fun hc38 => ?_) (fun hc38 => ?_)
  ·refine wp_seq ?_
   refine aI [0, 1, 2, 3, 4, 5, 6, 7, 8, 9, 10, 11, 12, 13, 14, 15, 16, 17, 18, 19] rfl ?_
   refine aA ?_
   refine aB rfl (bL Try.isAgg118 Try.sizeOf118 rfl (Ha4.blk 0 rfl) rfl) rfl rfl ?_
   refine aA ?_
   refine aB rfl (aN eH rfl) rfl rfl ?_
   refine aA ?_
   refine aB rfl (aS (k := 0) (v := .int .i64 (x.Op)) Try.isAgg3 rfl (Ha4.blk 0 rfl) rfl) rfl rfl ?_
   refine aA ?_
   refine aB rfl (aN bP rfl) rfl rfl ?_
   refine aA ?_
   refine aB rfl (aS (k := 1) (v := .int .i64 (x.A)) Try.isAgg3 rfl (Ha4.blk 0 rfl) rfl) rfl rfl ?_
   refine aA ?_
   refine aB rfl (aN bU rfl) rfl rfl ?_
   refine aA ?_
   refine aB rfl (aS (k := 2) (v := .int .i64 (x.B)) Try.isAgg3 rfl (Ha4.blk 0 rfl) rfl) rfl rfl ?_
   refine aA ?_
   refine aB rfl (bB (vs := [(0, .int .i64 (x.Op)), (1, .int .i64 (x.A)), (2, .int .i64 (x.B))]) (cells := #[.int .i64 (x.Op), .int .i64 (x.A), .int .i64 (x.B), .int .i64 (0), .int .i64 (0), .string (⟨#[]⟩)]) rfl kR) rfl rfl ?_
   by_cases hg39 : (bE x (⟨x.Op, x.A, x.B, 0, 0, ⟨#[]⟩⟩ : GInstr)) = true
   ·have hg39n := hg39
    rw [zq3 x] at hg39n
    refine aA ?_
    refine aB rfl (bM (b := bE x (⟨x.Op, x.A, x.B, 0, 0, ⟨#[]⟩⟩ : GInstr)) hg39 (dS Try.eqGuardType118 rfl rfl (dB x (⟨x.Op, x.A, x.B, 0, 0, ⟨#[]⟩⟩ : GInstr) _ 9998))) rfl rfl ?_
    refine aA ?_
    refine aB rfl (aC rfl) rfl rfl ?_
    refine aA ?_
    refine aT rfl rfl rfl rfl (fun _ ho40 => ?_)
    refine aB ho40 (aN bP rfl) rfl rfl ?_
    refine aA ?_
    refine aT rfl rfl rfl rfl (fun _ ho41 => ?_)
    refine aB ho41 (aS (k := 1) (v := .int .i64 (x.A)) Try.isAgg3 rfl (Ha4.blk 0 rfl) rfl) rfl rfl ?_
    by_cases hg42 : (rgB x.A) = true
    ·refine aA ?_
     refine aT rfl rfl rfl rfl (fun _ ho43 => ?_)
     refine aK ho43 Try.call165 (vs := #[.int .i64 (x.A)]) rfl rfl rfl (bI (bR x.A _) hg42) ?_
     rintro e46 W45 ⟨rfl, hu44⟩; refine ⟨_, rfl, ?_⟩
     have H47 := Ha4.no hu44; clear Ha4
     refine aA ?_
     refine aB rfl (aJ (v := .bool (true)) (b := true) rfl rfl rfl rfl) rfl rfl ?_
     refine aA ?_
     refine aB rfl (aC rfl) rfl rfl ?_
     refine aA ?_
     refine aT rfl rfl rfl rfl (fun _ ho48 => ?_)
     refine aB ho48 (aN bU rfl) rfl rfl ?_
     refine aA ?_
     refine aT rfl rfl rfl rfl (fun _ ho49 => ?_)
     refine aB ho49 (aS (k := 2) (v := .int .i64 (x.B)) Try.isAgg3 rfl (H47.blk 0 rfl) rfl) rfl rfl ?_
     by_cases hg50 : (inB x.B 0 1) = true
     ·refine aA ?_
      refine aT rfl rfl rfl rfl (fun _ ho51 => ?_)
      refine aK ho51 Try.call60 (vs := #[.int .i64 (x.B), .int .i64 (0), .int .i64 (1)]) rfl rfl rfl (bI (in_i x.B 0 1 _) hg50) ?_
      rintro e54 W53 ⟨rfl, hu52⟩; refine ⟨_, rfl, ?_⟩
      have H55 := H47.no hu52; clear H47
      refine aA ?_
      refine aB rfl (aJ (v := .bool (true)) (b := true) rfl rfl rfl rfl) rfl rfl ?_
      refine aA ?_
      refine aB rfl (aG rfl) rfl rfl ?_
      refine aF ?_
      refine aH ?_
      refine wp_ret ?_
      refine aY ?_
      refine aR ?_
      refine aM (.inl rfl) Try.results148 rfl ?_
      have hr56 : inst x = true := by first | (simp [inst, aQ, hc6, hc38, hg39n, hg42, hg50]; done) | (exfalso; omega) | (have q := hg39n; revert q; (simp [inst, aQ, hc6, hc38, hg42, hg50] <;> (intros; simp_all)); done)
      rw [hr56]
      exact ⟨rfl, H55.1⟩
     ·refine aA ?_
      refine aT rfl rfl rfl rfl (fun _ ho57 => ?_)
      refine aK ho57 Try.call60 (vs := #[.int .i64 (x.B), .int .i64 (0), .int .i64 (1)]) rfl rfl rfl (bI (in_i x.B 0 1 _) (eq_false_of_ne_true hg50)) ?_
      rintro e60 W59 ⟨rfl, hu58⟩; refine ⟨_, rfl, ?_⟩
      have H61 := H47.no hu58; clear H47
      refine aA ?_
      refine aB rfl (aJ (v := .bool (false)) (b := true) rfl rfl rfl rfl) rfl rfl ?_
      refine aA ?_
      refine aB rfl (aG rfl) rfl rfl ?_
      refine aF ?_
      refine aH ?_
      refine wp_ret ?_
      refine aY ?_
      refine aR ?_
      refine aM (.inl rfl) Try.results148 rfl ?_
      have hr62 : inst x = false := by first | (simp [inst, aQ, hc6, hc38, hg39n, hg42, hg50]; done) | (exfalso; omega) | (have q := hg39n; revert q; (simp [inst, aQ, hc6, hc38, hg42, hg50] <;> (intros; simp_all)); done)
      rw [hr62]
      exact ⟨rfl, H61.1⟩
    ·refine aA ?_
     refine aT rfl rfl rfl rfl (fun _ ho63 => ?_)
     refine aK ho63 Try.call165 (vs := #[.int .i64 (x.A)]) rfl rfl rfl (bI (bR x.A _) (eq_false_of_ne_true hg42)) ?_
     rintro e66 W65 ⟨rfl, hu64⟩; refine ⟨_, rfl, ?_⟩
     have H67 := Ha4.no hu64; clear Ha4
     refine aA ?_
     refine aB rfl (aJ (v := .bool (false)) (b := true) rfl rfl rfl rfl) rfl rfl ?_
     refine aA ?_
     refine aB rfl (aC rfl) rfl rfl ?_
     refine aA ?_
     refine aD rfl rfl rfl rfl rfl rfl rfl ?_
     refine aA ?_
     refine aD rfl rfl rfl rfl rfl rfl rfl ?_
     refine aA ?_
     refine aD rfl rfl rfl rfl rfl rfl rfl ?_
     refine aA ?_
     refine aB rfl (aJ (v := .bool (false)) (b := false) rfl rfl rfl rfl) rfl rfl ?_
     refine aA ?_
     refine aB rfl (aG rfl) rfl rfl ?_
     refine aF ?_
     refine aH ?_
     refine wp_ret ?_
     refine aY ?_
     refine aR ?_
     refine aM (.inl rfl) Try.results148 rfl ?_
     have hr68 : inst x = false := by first | (simp [inst, aQ, hc6, hc38, hg39n, hg42]; done) | (exfalso; omega) | (have q := hg39n; revert q; (simp [inst, aQ, hc6, hc38, hg42] <;> (intros; simp_all)); done)
     rw [hr68]
     exact ⟨rfl, H67.1⟩
   ·have hg39n := hg39
    rw [zq3 x] at hg39n
    refine aA ?_
    refine aB rfl (bM (b := bE x (⟨x.Op, x.A, x.B, 0, 0, ⟨#[]⟩⟩ : GInstr)) (eq_false_of_ne_true hg39) (dS Try.eqGuardType118 rfl rfl (dB x (⟨x.Op, x.A, x.B, 0, 0, ⟨#[]⟩⟩ : GInstr) _ 9998))) rfl rfl ?_
    refine aA ?_
    refine aB rfl (aC rfl) rfl rfl ?_
    refine aA ?_
    refine aD rfl rfl rfl rfl rfl rfl rfl ?_
    refine aA ?_
    refine aD rfl rfl rfl rfl rfl rfl rfl ?_
    refine aA ?_
    refine aD rfl rfl rfl rfl rfl rfl rfl ?_
    refine aA ?_
    refine aB rfl (aJ (v := .bool (false)) (b := false) rfl rfl rfl rfl) rfl rfl ?_
    refine aA ?_
    refine aB rfl (aC rfl) rfl rfl ?_
    refine aA ?_
    refine aD rfl rfl rfl rfl rfl rfl rfl ?_
    refine aA ?_
    refine aD rfl rfl rfl rfl rfl rfl rfl ?_
    refine aA ?_
    refine aD rfl rfl rfl rfl rfl rfl rfl ?_
    refine aA ?_
    refine aB rfl (aJ (v := .bool (false)) (b := false) rfl rfl rfl rfl) rfl rfl ?_
    refine aA ?_
    refine aB rfl (aG rfl) rfl rfl ?_
    refine aF ?_
    refine aH ?_
    refine wp_ret ?_
    refine aY ?_
    refine aR ?_
    refine aM (.inl rfl) Try.results148 rfl ?_
    have hr69 : inst x = false := by first | (simp [inst, aQ, hc6, hc38, hg39n]; done) | (exfalso; omega) | (have q := hg39n; revert q; (simp [inst, aQ, hc6, hc38] <;> (intros; simp_all)); done)
    rw [hr69]
    exact ⟨rfl, Ha4.1⟩
  ·refine wp_seq ?_
   refine aI [0, 1] rfl ?_
   refine aA ?_
   refine aB rfl (bD rfl rfl) rfl rfl ?_
   refine aA ?_
   refine aB rfl (aG rfl) rfl rfl ?_
   refine aF ?_
   refine aH ?_
   refine aW rfl (fun hc70 => ?_) (fun hc70 => ?_)
   ·refine wp_seq ?_
    refine aI [0, 1, 2, 3, 4, 5, 6, 7, 8, 9, 10, 11, 12, 13, 14, 15, 16, 17, 18, 19] rfl ?_
    refine aA ?_
    refine aB rfl (bL Try.isAgg118 Try.sizeOf118 rfl (Ha4.blk 0 rfl) rfl) rfl rfl ?_
    refine aA ?_
    refine aB rfl (aN eH rfl) rfl rfl ?_
    refine aA ?_
    refine aB rfl (aS (k := 0) (v := .int .i64 (x.Op)) Try.isAgg3 rfl (Ha4.blk 0 rfl) rfl) rfl rfl ?_
    refine aA ?_
    refine aB rfl (aN bP rfl) rfl rfl ?_
    refine aA ?_
    refine aB rfl (aS (k := 1) (v := .int .i64 (x.A)) Try.isAgg3 rfl (Ha4.blk 0 rfl) rfl) rfl rfl ?_
    refine aA ?_
    refine aB rfl (aN bU rfl) rfl rfl ?_
    refine aA ?_
    refine aB rfl (aS (k := 2) (v := .int .i64 (x.B)) Try.isAgg3 rfl (Ha4.blk 0 rfl) rfl) rfl rfl ?_
    refine aA ?_
    refine aB rfl (bB (vs := [(0, .int .i64 (x.Op)), (1, .int .i64 (x.A)), (2, .int .i64 (x.B))]) (cells := #[.int .i64 (x.Op), .int .i64 (x.A), .int .i64 (x.B), .int .i64 (0), .int .i64 (0), .string (⟨#[]⟩)]) rfl kR) rfl rfl ?_
    by_cases hg71 : (bE x (⟨x.Op, x.A, x.B, 0, 0, ⟨#[]⟩⟩ : GInstr)) = true
    ·have hg71n := hg71
     rw [zq3 x] at hg71n
     refine aA ?_
     refine aB rfl (bM (b := bE x (⟨x.Op, x.A, x.B, 0, 0, ⟨#[]⟩⟩ : GInstr)) hg71 (dS Try.eqGuardType118 rfl rfl (dB x (⟨x.Op, x.A, x.B, 0, 0, ⟨#[]⟩⟩ : GInstr) _ 9998))) rfl rfl ?_
     refine aA ?_
     refine aB rfl (aC rfl) rfl rfl ?_
     refine aA ?_
     refine aT rfl rfl rfl rfl (fun _ ho72 => ?_)
     refine aB ho72 (aN bP rfl) rfl rfl ?_
     refine aA ?_
     refine aT rfl rfl rfl rfl (fun _ ho73 => ?_)
     refine aB ho73 (aS (k := 1) (v := .int .i64 (x.A)) Try.isAgg3 rfl (Ha4.blk 0 rfl) rfl) rfl rfl ?_
     by_cases hg74 : (rgB x.A) = true
     ·refine aA ?_
      refine aT rfl rfl rfl rfl (fun _ ho75 => ?_)
      refine aK ho75 Try.call165 (vs := #[.int .i64 (x.A)]) rfl rfl rfl (bI (bR x.A _) hg74) ?_
      rintro e78 W77 ⟨rfl, hu76⟩; refine ⟨_, rfl, ?_⟩
      have H79 := Ha4.no hu76; clear Ha4
      refine aA ?_
      refine aB rfl (aJ (v := .bool (true)) (b := true) rfl rfl rfl rfl) rfl rfl ?_
      refine aA ?_
      refine aB rfl (aC rfl) rfl rfl ?_
      refine aA ?_
      refine aT rfl rfl rfl rfl (fun _ ho80 => ?_)
      refine aB ho80 (aN bU rfl) rfl rfl ?_
      refine aA ?_
      refine aT rfl rfl rfl rfl (fun _ ho81 => ?_)
      refine aB ho81 (aS (k := 2) (v := .int .i64 (x.B)) Try.isAgg3 rfl (H79.blk 0 rfl) rfl) rfl rfl ?_
      by_cases hg82 : (inB x.B 0 2) = true
      ·refine aA ?_
       refine aT rfl rfl rfl rfl (fun _ ho83 => ?_)
       refine aK ho83 Try.call60 (vs := #[.int .i64 (x.B), .int .i64 (0), .int .i64 (2)]) rfl rfl rfl (bI (in_i x.B 0 2 _) hg82) ?_
       rintro e86 W85 ⟨rfl, hu84⟩; refine ⟨_, rfl, ?_⟩
       have H87 := H79.no hu84; clear H79
       refine aA ?_
       refine aB rfl (aJ (v := .bool (true)) (b := true) rfl rfl rfl rfl) rfl rfl ?_
       refine aA ?_
       refine aB rfl (aG rfl) rfl rfl ?_
       refine aF ?_
       refine aH ?_
       refine wp_ret ?_
       refine aY ?_
       refine aR ?_
       refine aM (.inl rfl) Try.results148 rfl ?_
       have hr88 : inst x = true := by first | (simp [inst, aQ, hc6, hc38, hc70, hg71n, hg74, hg82]; done) | (exfalso; omega) | (have q := hg71n; revert q; (simp [inst, aQ, hc6, hc38, hc70, hg74, hg82] <;> (intros; simp_all)); done)
       rw [hr88]
       exact ⟨rfl, H87.1⟩
      ·refine aA ?_
       refine aT rfl rfl rfl rfl (fun _ ho89 => ?_)
       refine aK ho89 Try.call60 (vs := #[.int .i64 (x.B), .int .i64 (0), .int .i64 (2)]) rfl rfl rfl (bI (in_i x.B 0 2 _) (eq_false_of_ne_true hg82)) ?_
       rintro e92 W91 ⟨rfl, hu90⟩; refine ⟨_, rfl, ?_⟩
       have H93 := H79.no hu90; clear H79
       refine aA ?_
       refine aB rfl (aJ (v := .bool (false)) (b := true) rfl rfl rfl rfl) rfl rfl ?_
       refine aA ?_
       refine aB rfl (aG rfl) rfl rfl ?_
       refine aF ?_
       refine aH ?_
       refine wp_ret ?_
       refine aY ?_
       refine aR ?_
       refine aM (.inl rfl) Try.results148 rfl ?_
       have hr94 : inst x = false := by first | (simp [inst, aQ, hc6, hc38, hc70, hg71n, hg74, hg82]; done) | (exfalso; omega) | (have q := hg71n; revert q; (simp [inst, aQ, hc6, hc38, hc70, hg74, hg82] <;> (intros; simp_all)); done)
       rw [hr94]
       exact ⟨rfl, H93.1⟩
     ·refine aA ?_
      refine aT rfl rfl rfl rfl (fun _ ho95 => ?_)
      refine aK ho95 Try.call165 (vs := #[.int .i64 (x.A)]) rfl rfl rfl (bI (bR x.A _) (eq_false_of_ne_true hg74)) ?_
      rintro e98 W97 ⟨rfl, hu96⟩; refine ⟨_, rfl, ?_⟩
      have H99 := Ha4.no hu96; clear Ha4
      refine aA ?_
      refine aB rfl (aJ (v := .bool (false)) (b := true) rfl rfl rfl rfl) rfl rfl ?_
      refine aA ?_
      refine aB rfl (aC rfl) rfl rfl ?_
      refine aA ?_
      refine aD rfl rfl rfl rfl rfl rfl rfl ?_
      refine aA ?_
      refine aD rfl rfl rfl rfl rfl rfl rfl ?_
      refine aA ?_
      refine aD rfl rfl rfl rfl rfl rfl rfl ?_
      refine aA ?_
      refine aB rfl (aJ (v := .bool (false)) (b := false) rfl rfl rfl rfl) rfl rfl ?_
      refine aA ?_
      refine aB rfl (aG rfl) rfl rfl ?_
      refine aF ?_
      refine aH ?_
      refine wp_ret ?_
      refine aY ?_
      refine aR ?_
      refine aM (.inl rfl) Try.results148 rfl ?_
      have hr100 : inst x = false := by first | (simp [inst, aQ, hc6, hc38, hc70, hg71n, hg74]; done) | (exfalso; omega) | (have q := hg71n; revert q; (simp [inst, aQ, hc6, hc38, hc70, hg74] <;> (intros; simp_all)); done)
      rw [hr100]
      exact ⟨rfl, H99.1⟩
    ·have hg71n := hg71
     rw [zq3 x] at hg71n
     refine aA ?_
     refine aB rfl (bM (b := bE x (⟨x.Op, x.A, x.B, 0, 0, ⟨#[]⟩⟩ : GInstr)) (eq_false_of_ne_true hg71) (dS Try.eqGuardType118 rfl rfl (dB x (⟨x.Op, x.A, x.B, 0, 0, ⟨#[]⟩⟩ : GInstr) _ 9998))) rfl rfl ?_
     refine aA ?_
     refine aB rfl (aC rfl) rfl rfl ?_
     refine aA ?_
     refine aD rfl rfl rfl rfl rfl rfl rfl ?_
     refine aA ?_
     refine aD rfl rfl rfl rfl rfl rfl rfl ?_
     refine aA ?_
     refine aD rfl rfl rfl rfl rfl rfl rfl ?_
     refine aA ?_
     refine aB rfl (aJ (v := .bool (false)) (b := false) rfl rfl rfl rfl) rfl rfl ?_
     refine aA ?_
     refine aB rfl (aC rfl) rfl rfl ?_
     refine aA ?_
     refine aD rfl rfl rfl rfl rfl rfl rfl ?_
     refine aA ?_
     refine aD rfl rfl rfl rfl rfl rfl rfl ?_
     refine aA ?_
     refine aD rfl rfl rfl rfl rfl rfl rfl ?_
     refine aA ?_
     refine aB rfl (aJ (v := .bool (false)) (b := false) rfl rfl rfl rfl) rfl rfl ?_
     refine aA ?_
     refine aB rfl (aG rfl) rfl rfl ?_
     refine aF ?_
     refine aH ?_
     refine wp_ret ?_
     refine aY ?_
     refine aR ?_
     refine aM (.inl rfl) Try.results148 rfl ?_
     have hr101 : inst x = false := by first | (simp [inst, aQ, hc6, hc38, hc70, hg71n]; done) | (exfalso; omega) | (have q := hg71n; revert q; (simp [inst, aQ, hc6, hc38, hc70] <;> (intros; simp_all)); done)
     rw [hr101]
     exact ⟨rfl, Ha4.1⟩
   ·refine wp_seq ?_
    refine wp_seq ?_
    refine aI [0, 1] rfl ?_
    refine aA ?_
    refine aB rfl (bD rfl rfl) rfl rfl ?_
    refine aA ?_
    refine aB rfl (aG rfl) rfl rfl ?_
    refine aF ?_
    refine aH ?_
    refine aW rfl (fun hc102 => ?_) (fun hc102 => ?_)
    ·refine wp_skip ?_
     refine aH ?_
     refine aW rfl (fun hc103 => ?_) (fun hc103 => ?_)
     ·refine wp_seq ?_
      refine aI [0, 1, 2, 3, 4, 5, 6, 7, 8, 9, 10, 11, 12] rfl ?_
      refine aA ?_
      refine aB rfl (bL Try.isAgg118 Try.sizeOf118 rfl (Ha4.blk 0 rfl) rfl) rfl rfl ?_
      refine aA ?_
      refine aB rfl (aN eH rfl) rfl rfl ?_
      refine aA ?_
      refine aB rfl (aS (k := 0) (v := .int .i64 (x.Op)) Try.isAgg3 rfl (Ha4.blk 0 rfl) rfl) rfl rfl ?_
      refine aA ?_
      refine aB rfl (aN bP rfl) rfl rfl ?_
      refine aA ?_
      refine aB rfl (aS (k := 1) (v := .int .i64 (x.A)) Try.isAgg3 rfl (Ha4.blk 0 rfl) rfl) rfl rfl ?_
      refine aA ?_
      refine aB rfl (bB (vs := [(0, .int .i64 (x.Op)), (1, .int .i64 (x.A))]) (cells := #[.int .i64 (x.Op), .int .i64 (x.A), .int .i64 (0), .int .i64 (0), .int .i64 (0), .string (⟨#[]⟩)]) rfl kR) rfl rfl ?_
      by_cases hg104 : (bE x (⟨x.Op, x.A, 0, 0, 0, ⟨#[]⟩⟩ : GInstr)) = true
      ·have hg104n := hg104
       rw [zq2 x] at hg104n
       refine aA ?_
       refine aB rfl (bM (b := bE x (⟨x.Op, x.A, 0, 0, 0, ⟨#[]⟩⟩ : GInstr)) hg104 (dS Try.eqGuardType118 rfl rfl (dB x (⟨x.Op, x.A, 0, 0, 0, ⟨#[]⟩⟩ : GInstr) _ 9998))) rfl rfl ?_
       refine aA ?_
       refine aB rfl (aC rfl) rfl rfl ?_
       refine aA ?_
       refine aT rfl rfl rfl rfl (fun _ ho105 => ?_)
       refine aB ho105 (aN bP rfl) rfl rfl ?_
       refine aA ?_
       refine aT rfl rfl rfl rfl (fun _ ho106 => ?_)
       refine aB ho106 (aS (k := 1) (v := .int .i64 (x.A)) Try.isAgg3 rfl (Ha4.blk 0 rfl) rfl) rfl rfl ?_
       by_cases hg107 : (rgB x.A) = true
       ·refine aA ?_
        refine aT rfl rfl rfl rfl (fun _ ho108 => ?_)
        refine aK ho108 Try.call165 (vs := #[.int .i64 (x.A)]) rfl rfl rfl (bI (bR x.A _) hg107) ?_
        rintro e111 W110 ⟨rfl, hu109⟩; refine ⟨_, rfl, ?_⟩
        have H112 := Ha4.no hu109; clear Ha4
        refine aA ?_
        refine aB rfl (aJ (v := .bool (true)) (b := true) rfl rfl rfl rfl) rfl rfl ?_
        refine aA ?_
        refine aB rfl (aG rfl) rfl rfl ?_
        refine aF ?_
        refine aH ?_
        refine wp_ret ?_
        refine aY ?_
        refine aR ?_
        refine aM (.inl rfl) Try.results148 rfl ?_
        have hr113 : inst x = true := by first | (simp [inst, aQ, hc6, hc38, hc70, hc102, hc103, hg104n, hg107]; done) | (exfalso; omega) | (have q := hg104n; revert q; (simp [inst, aQ, hc6, hc38, hc70, hc102, hc103, hg107] <;> (intros; simp_all)); done)
        rw [hr113]
        exact ⟨rfl, H112.1⟩
       ·refine aA ?_
        refine aT rfl rfl rfl rfl (fun _ ho114 => ?_)
        refine aK ho114 Try.call165 (vs := #[.int .i64 (x.A)]) rfl rfl rfl (bI (bR x.A _) (eq_false_of_ne_true hg107)) ?_
        rintro e117 W116 ⟨rfl, hu115⟩; refine ⟨_, rfl, ?_⟩
        have H118 := Ha4.no hu115; clear Ha4
        refine aA ?_
        refine aB rfl (aJ (v := .bool (false)) (b := true) rfl rfl rfl rfl) rfl rfl ?_
        refine aA ?_
        refine aB rfl (aG rfl) rfl rfl ?_
        refine aF ?_
        refine aH ?_
        refine wp_ret ?_
        refine aY ?_
        refine aR ?_
        refine aM (.inl rfl) Try.results148 rfl ?_
        have hr119 : inst x = false := by first | (simp [inst, aQ, hc6, hc38, hc70, hc102, hc103, hg104n, hg107]; done) | (exfalso; omega) | (have q := hg104n; revert q; (simp [inst, aQ, hc6, hc38, hc70, hc102, hc103, hg107] <;> (intros; simp_all)); done)
        rw [hr119]
        exact ⟨rfl, H118.1⟩
      ·have hg104n := hg104
       rw [zq2 x] at hg104n
       refine aA ?_
       refine aB rfl (bM (b := bE x (⟨x.Op, x.A, 0, 0, 0, ⟨#[]⟩⟩ : GInstr)) (eq_false_of_ne_true hg104) (dS Try.eqGuardType118 rfl rfl (dB x (⟨x.Op, x.A, 0, 0, 0, ⟨#[]⟩⟩ : GInstr) _ 9998))) rfl rfl ?_
       refine aA ?_
       refine aB rfl (aC rfl) rfl rfl ?_
       refine aA ?_
       refine aD rfl rfl rfl rfl rfl rfl rfl ?_
       refine aA ?_
       refine aD rfl rfl rfl rfl rfl rfl rfl ?_
       refine aA ?_
       refine aD rfl rfl rfl rfl rfl rfl rfl ?_
       refine aA ?_
       refine aB rfl (aJ (v := .bool (false)) (b := false) rfl rfl rfl rfl) rfl rfl ?_
       refine aA ?_
       refine aB rfl (aG rfl) rfl rfl ?_
       refine aF ?_
       refine aH ?_
       refine wp_ret ?_
       refine aY ?_
       refine aR ?_
       refine aM (.inl rfl) Try.results148 rfl ?_
       have hr120 : inst x = false := by first | (simp [inst, aQ, hc6, hc38, hc70, hc102, hc103, hg104n]; done) | (exfalso; omega) | (have q := hg104n; revert q; (simp [inst, aQ, hc6, hc38, hc70, hc102, hc103] <;> (intros; simp_all)); done)
       rw [hr120]
       exact ⟨rfl, Ha4.1⟩
     ·refine wp_seq ?_
      refine aI [0, 1] rfl ?_
      refine aA ?_
      refine aB rfl (bD rfl rfl) rfl rfl ?_
      refine aA ?_
      refine aB rfl (aG rfl) rfl rfl ?_
      refine aF ?_
      refine aH ?_
      refine aW rfl (fun hc121 => ?_) (fun hc121 => ?_)
      ·refine wp_seq ?_
       refine aI [0, 1, 2, 3, 4, 5, 6, 7, 8, 9, 10, 11, 12, 13, 14, 15, 16, 17, 18, 19, 20, 21, 22, 23, 24, 25, 26] rfl ?_
       refine aA ?_
       refine aB rfl (bL Try.isAgg118 Try.sizeOf118 rfl (Ha4.blk 0 rfl) rfl) rfl rfl ?_
       refine aA ?_
       refine aB rfl (aN eH rfl) rfl rfl ?_
       refine aA ?_
       refine aB rfl (aS (k := 0) (v := .int .i64 (x.Op)) Try.isAgg3 rfl (Ha4.blk 0 rfl) rfl) rfl rfl ?_
       refine aA ?_
       refine aB rfl (aN bP rfl) rfl rfl ?_
       refine aA ?_
       refine aB rfl (aS (k := 1) (v := .int .i64 (x.A)) Try.isAgg3 rfl (Ha4.blk 0 rfl) rfl) rfl rfl ?_
       refine aA ?_
       refine aB rfl (aN bU rfl) rfl rfl ?_
       refine aA ?_
       refine aB rfl (aS (k := 2) (v := .int .i64 (x.B)) Try.isAgg3 rfl (Ha4.blk 0 rfl) rfl) rfl rfl ?_
       refine aA ?_
       refine aB rfl (aN eU rfl) rfl rfl ?_
       refine aA ?_
       refine aB rfl (aS (k := 3) (v := .int .i64 (x.C)) Try.isAgg3 rfl (Ha4.blk 0 rfl) rfl) rfl rfl ?_
       refine aA ?_
       refine aB rfl (bB (vs := [(0, .int .i64 (x.Op)), (1, .int .i64 (x.A)), (2, .int .i64 (x.B)), (3, .int .i64 (x.C))]) (cells := #[.int .i64 (x.Op), .int .i64 (x.A), .int .i64 (x.B), .int .i64 (x.C), .int .i64 (0), .string (⟨#[]⟩)]) rfl kR) rfl rfl ?_
       by_cases hg122 : (bE x (⟨x.Op, x.A, x.B, x.C, 0, ⟨#[]⟩⟩ : GInstr)) = true
       ·have hg122n := hg122
        rw [zq4 x] at hg122n
        refine aA ?_
        refine aB rfl (bM (b := bE x (⟨x.Op, x.A, x.B, x.C, 0, ⟨#[]⟩⟩ : GInstr)) hg122 (dS Try.eqGuardType118 rfl rfl (dB x (⟨x.Op, x.A, x.B, x.C, 0, ⟨#[]⟩⟩ : GInstr) _ 9998))) rfl rfl ?_
        refine aA ?_
        refine aB rfl (aC rfl) rfl rfl ?_
        refine aA ?_
        refine aT rfl rfl rfl rfl (fun _ ho123 => ?_)
        refine aB ho123 (aN bP rfl) rfl rfl ?_
        refine aA ?_
        refine aT rfl rfl rfl rfl (fun _ ho124 => ?_)
        refine aB ho124 (aS (k := 1) (v := .int .i64 (x.A)) Try.isAgg3 rfl (Ha4.blk 0 rfl) rfl) rfl rfl ?_
        by_cases hg125 : (rgB x.A) = true
        ·refine aA ?_
         refine aT rfl rfl rfl rfl (fun _ ho126 => ?_)
         refine aK ho126 Try.call165 (vs := #[.int .i64 (x.A)]) rfl rfl rfl (bI (bR x.A _) hg125) ?_
         rintro e129 W128 ⟨rfl, hu127⟩; refine ⟨_, rfl, ?_⟩
         have H130 := Ha4.no hu127; clear Ha4
         refine aA ?_
         refine aB rfl (aJ (v := .bool (true)) (b := true) rfl rfl rfl rfl) rfl rfl ?_
         refine aA ?_
         refine aB rfl (aC rfl) rfl rfl ?_
         refine aA ?_
         refine aT rfl rfl rfl rfl (fun _ ho131 => ?_)
         refine aB ho131 (aN bU rfl) rfl rfl ?_
         refine aA ?_
         refine aT rfl rfl rfl rfl (fun _ ho132 => ?_)
         refine aB ho132 (aS (k := 2) (v := .int .i64 (x.B)) Try.isAgg3 rfl (H130.blk 0 rfl) rfl) rfl rfl ?_
         by_cases hg133 : (rgB x.B) = true
         ·refine aA ?_
          refine aT rfl rfl rfl rfl (fun _ ho134 => ?_)
          refine aK ho134 Try.call165 (vs := #[.int .i64 (x.B)]) rfl rfl rfl (bI (bR x.B _) hg133) ?_
          rintro e137 W136 ⟨rfl, hu135⟩; refine ⟨_, rfl, ?_⟩
          have H138 := H130.no hu135; clear H130
          refine aA ?_
          refine aB rfl (aJ (v := .bool (true)) (b := true) rfl rfl rfl rfl) rfl rfl ?_
          refine aA ?_
          refine aB rfl (aC rfl) rfl rfl ?_
          refine aA ?_
          refine aT rfl rfl rfl rfl (fun _ ho139 => ?_)
          refine aB ho139 (aN eU rfl) rfl rfl ?_
          refine aA ?_
          refine aT rfl rfl rfl rfl (fun _ ho140 => ?_)
          refine aB ho140 (aS (k := 3) (v := .int .i64 (x.C)) Try.isAgg3 rfl (H138.blk 0 rfl) rfl) rfl rfl ?_
          by_cases hg141 : (rgB x.C) = true
          ·refine aA ?_
           refine aT rfl rfl rfl rfl (fun _ ho142 => ?_)
           refine aK ho142 Try.call165 (vs := #[.int .i64 (x.C)]) rfl rfl rfl (bI (bR x.C _) hg141) ?_
           rintro e145 W144 ⟨rfl, hu143⟩; refine ⟨_, rfl, ?_⟩
           have H146 := H138.no hu143; clear H138
           refine aA ?_
           refine aB rfl (aJ (v := .bool (true)) (b := true) rfl rfl rfl rfl) rfl rfl ?_
           refine aA ?_
           refine aB rfl (aG rfl) rfl rfl ?_
           refine aF ?_
           refine aH ?_
           refine wp_ret ?_
           refine aY ?_
           refine aR ?_
           refine aM (.inl rfl) Try.results148 rfl ?_
           have hr147 : inst x = true := by first | (simp [inst, aQ, hc6, hc38, hc70, hc102, hc103, hc121, hg122n, hg125, hg133, hg141]; done) | (exfalso; omega) | (have q := hg122n; revert q; (simp [inst, aQ, hc6, hc38, hc70, hc102, hc103, hc121, hg125, hg133, hg141] <;> (intros; simp_all)); done)
           rw [hr147]
           exact ⟨rfl, H146.1⟩
          ·refine aA ?_
           refine aT rfl rfl rfl rfl (fun _ ho148 => ?_)
           refine aK ho148 Try.call165 (vs := #[.int .i64 (x.C)]) rfl rfl rfl (bI (bR x.C _) (eq_false_of_ne_true hg141)) ?_
           rintro e151 W150 ⟨rfl, hu149⟩; refine ⟨_, rfl, ?_⟩
           have H152 := H138.no hu149; clear H138
           refine aA ?_
           refine aB rfl (aJ (v := .bool (false)) (b := true) rfl rfl rfl rfl) rfl rfl ?_
           refine aA ?_
           refine aB rfl (aG rfl) rfl rfl ?_
           refine aF ?_
           refine aH ?_
           refine wp_ret ?_
           refine aY ?_
           refine aR ?_
           refine aM (.inl rfl) Try.results148 rfl ?_
           have hr153 : inst x = false := by first | (simp [inst, aQ, hc6, hc38, hc70, hc102, hc103, hc121, hg122n, hg125, hg133, hg141]; done) | (exfalso; omega) | (have q := hg122n; revert q; (simp [inst, aQ, hc6, hc38, hc70, hc102, hc103, hc121, hg125, hg133, hg141] <;> (intros; simp_all)); done)
           rw [hr153]
           exact ⟨rfl, H152.1⟩
         ·refine aA ?_
          refine aT rfl rfl rfl rfl (fun _ ho154 => ?_)
          refine aK ho154 Try.call165 (vs := #[.int .i64 (x.B)]) rfl rfl rfl (bI (bR x.B _) (eq_false_of_ne_true hg133)) ?_
          rintro e157 W156 ⟨rfl, hu155⟩; refine ⟨_, rfl, ?_⟩
          have H158 := H130.no hu155; clear H130
          refine aA ?_
          refine aB rfl (aJ (v := .bool (false)) (b := true) rfl rfl rfl rfl) rfl rfl ?_
          refine aA ?_
          refine aB rfl (aC rfl) rfl rfl ?_
          refine aA ?_
          refine aD rfl rfl rfl rfl rfl rfl rfl ?_
          refine aA ?_
          refine aD rfl rfl rfl rfl rfl rfl rfl ?_
          refine aA ?_
          refine aD rfl rfl rfl rfl rfl rfl rfl ?_
          refine aA ?_
          refine aB rfl (aJ (v := .bool (false)) (b := false) rfl rfl rfl rfl) rfl rfl ?_
          refine aA ?_
          refine aB rfl (aG rfl) rfl rfl ?_
          refine aF ?_
          refine aH ?_
          refine wp_ret ?_
          refine aY ?_
          refine aR ?_
          refine aM (.inl rfl) Try.results148 rfl ?_
          have hr159 : inst x = false := by first | (simp [inst, aQ, hc6, hc38, hc70, hc102, hc103, hc121, hg122n, hg125, hg133]; done) | (exfalso; omega) | (have q := hg122n; revert q; (simp [inst, aQ, hc6, hc38, hc70, hc102, hc103, hc121, hg125, hg133] <;> (intros; simp_all)); done)
          rw [hr159]
          exact ⟨rfl, H158.1⟩
        ·refine aA ?_
         refine aT rfl rfl rfl rfl (fun _ ho160 => ?_)
         refine aK ho160 Try.call165 (vs := #[.int .i64 (x.A)]) rfl rfl rfl (bI (bR x.A _) (eq_false_of_ne_true hg125)) ?_
         rintro e163 W162 ⟨rfl, hu161⟩; refine ⟨_, rfl, ?_⟩
         have H164 := Ha4.no hu161; clear Ha4
         refine aA ?_
         refine aB rfl (aJ (v := .bool (false)) (b := true) rfl rfl rfl rfl) rfl rfl ?_
         refine aA ?_
         refine aB rfl (aC rfl) rfl rfl ?_
         refine aA ?_
         refine aD rfl rfl rfl rfl rfl rfl rfl ?_
         refine aA ?_
         refine aD rfl rfl rfl rfl rfl rfl rfl ?_
         refine aA ?_
         refine aD rfl rfl rfl rfl rfl rfl rfl ?_
         refine aA ?_
         refine aB rfl (aJ (v := .bool (false)) (b := false) rfl rfl rfl rfl) rfl rfl ?_
         refine aA ?_
         refine aB rfl (aC rfl) rfl rfl ?_
         refine aA ?_
         refine aD rfl rfl rfl rfl rfl rfl rfl ?_
         refine aA ?_
         refine aD rfl rfl rfl rfl rfl rfl rfl ?_
         refine aA ?_
         refine aD rfl rfl rfl rfl rfl rfl rfl ?_
         refine aA ?_
         refine aB rfl (aJ (v := .bool (false)) (b := false) rfl rfl rfl rfl) rfl rfl ?_
         refine aA ?_
         refine aB rfl (aG rfl) rfl rfl ?_
         refine aF ?_
         refine aH ?_
         refine wp_ret ?_
         refine aY ?_
         refine aR ?_
         refine aM (.inl rfl) Try.results148 rfl ?_
         have hr165 : inst x = false := by first | (simp [inst, aQ, hc6, hc38, hc70, hc102, hc103, hc121, hg122n, hg125]; done) | (exfalso; omega) | (have q := hg122n; revert q; (simp [inst, aQ, hc6, hc38, hc70, hc102, hc103, hc121, hg125] <;> (intros; simp_all)); done)
         rw [hr165]
         exact ⟨rfl, H164.1⟩
       ·have hg122n := hg122
        rw [zq4 x] at hg122n
        refine aA ?_
        refine aB rfl (bM (b := bE x (⟨x.Op, x.A, x.B, x.C, 0, ⟨#[]⟩⟩ : GInstr)) (eq_false_of_ne_true hg122) (dS Try.eqGuardType118 rfl rfl (dB x (⟨x.Op, x.A, x.B, x.C, 0, ⟨#[]⟩⟩ : GInstr) _ 9998))) rfl rfl ?_
        refine aA ?_
        refine aB rfl (aC rfl) rfl rfl ?_
        refine aA ?_
        refine aD rfl rfl rfl rfl rfl rfl rfl ?_
        refine aA ?_
        refine aD rfl rfl rfl rfl rfl rfl rfl ?_
        refine aA ?_
        refine aD rfl rfl rfl rfl rfl rfl rfl ?_
        refine aA ?_
        refine aB rfl (aJ (v := .bool (false)) (b := false) rfl rfl rfl rfl) rfl rfl ?_
        refine aA ?_
        refine aB rfl (aC rfl) rfl rfl ?_
        refine aA ?_
        refine aD rfl rfl rfl rfl rfl rfl rfl ?_
        refine aA ?_
        refine aD rfl rfl rfl rfl rfl rfl rfl ?_
        refine aA ?_
        refine aD rfl rfl rfl rfl rfl rfl rfl ?_
        refine aA ?_
        refine aB rfl (aJ (v := .bool (false)) (b := false) rfl rfl rfl rfl) rfl rfl ?_
        refine aA ?_
        refine aB rfl (aC rfl) rfl rfl ?_
        refine aA ?_
        refine aD rfl rfl rfl rfl rfl rfl rfl ?_
        refine aA ?_
        refine aD rfl rfl rfl rfl rfl rfl rfl ?_
        refine aA ?_
        refine aD rfl rfl rfl rfl rfl rfl rfl ?_
        refine aA ?_
        refine aB rfl (aJ (v := .bool (false)) (b := false) rfl rfl rfl rfl) rfl rfl ?_
        refine aA ?_
        refine aB rfl (aG rfl) rfl rfl ?_
        refine aF ?_
        refine aH ?_
        refine wp_ret ?_
        refine aY ?_
        refine aR ?_
        refine aM (.inl rfl) Try.results148 rfl ?_
        have hr166 : inst x = false := by first | (simp [inst, aQ, hc6, hc38, hc70, hc102, hc103, hc121, hg122n]; done) | (exfalso; omega) | (have q := hg122n; revert q; (simp [inst, aQ, hc6, hc38, hc70, hc102, hc103, hc121] <;> (intros; simp_all)); done)
        rw [hr166]
        exact ⟨rfl, Ha4.1⟩
      ·refine wp_seq ?_
       refine aI [0, 1] rfl ?_
       refine aA ?_
       refine aB rfl (bD rfl rfl) rfl rfl ?_
       refine aA ?_
       refine aB rfl (aG rfl) rfl rfl ?_
       refine aF ?_
       refine aH ?_
       refine aW rfl (fun hc167 => ?_) (fun hc167 => ?_)
       ·refine wp_seq ?_
        refine aI [0, 1, 2, 3, 4, 5, 6, 7, 8, 9, 10, 11, 12, 13, 14, 15, 16, 17, 18, 19, 20] rfl ?_
        refine aA ?_
        refine aB rfl (aN bP rfl) rfl rfl ?_
        refine aA ?_
        refine aB rfl (aS (k := 1) (v := .int .i64 (x.A)) Try.isAgg3 rfl (Ha4.blk 0 rfl) rfl) rfl rfl ?_
        by_cases hg168 : (rgB x.A) = true
        ·refine aA ?_
         refine aK rfl Try.call165 (vs := #[.int .i64 (x.A)]) rfl rfl rfl (bI (bR x.A _) hg168) ?_
         rintro e171 W170 ⟨rfl, hu169⟩; refine ⟨_, rfl, ?_⟩
         have H172 := Ha4.no hu169; clear Ha4
         refine aA ?_
         refine aB rfl (aC rfl) rfl rfl ?_
         refine aA ?_
         refine aT rfl rfl rfl rfl (fun _ ho173 => ?_)
         refine aB ho173 (aN bU rfl) rfl rfl ?_
         refine aA ?_
         refine aT rfl rfl rfl rfl (fun _ ho174 => ?_)
         refine aB ho174 (aS (k := 2) (v := .int .i64 (x.B)) Try.isAgg3 rfl (H172.blk 0 rfl) rfl) rfl rfl ?_
         by_cases hg175 : (rgB x.B) = true
         ·refine aA ?_
          refine aT rfl rfl rfl rfl (fun _ ho176 => ?_)
          refine aK ho176 Try.call165 (vs := #[.int .i64 (x.B)]) rfl rfl rfl (bI (bR x.B _) hg175) ?_
          rintro e179 W178 ⟨rfl, hu177⟩; refine ⟨_, rfl, ?_⟩
          have H180 := H172.no hu177; clear H172
          refine aA ?_
          refine aB rfl (aJ (v := .bool (true)) (b := true) rfl rfl rfl rfl) rfl rfl ?_
          refine aA ?_
          refine aB rfl (aC rfl) rfl rfl ?_
          refine aA ?_
          refine aT rfl rfl rfl rfl (fun _ ho181 => ?_)
          refine aB ho181 (aN eU rfl) rfl rfl ?_
          refine aA ?_
          refine aT rfl rfl rfl rfl (fun _ ho182 => ?_)
          refine aB ho182 (aS (k := 3) (v := .int .i64 (x.C)) Try.isAgg3 rfl (H180.blk 0 rfl) rfl) rfl rfl ?_
          refine aA ?_
          refine aT rfl rfl rfl rfl (fun _ ho183 => ?_)
          refine aB ho183 (aN fE rfl) rfl rfl ?_
          refine aA ?_
          refine aT rfl rfl rfl rfl (fun _ ho184 => ?_)
          refine aB ho184 (aS (k := 4) (v := .int .i64 (x.D)) Try.isAgg3 rfl (H180.blk 0 rfl) rfl) rfl rfl ?_
          by_cases hg185 : (prB x.C x.D) = true
          ·refine aA ?_
           refine aT rfl rfl rfl rfl (fun _ ho186 => ?_)
           refine aK ho186 Try.call166 (vs := #[.int .i64 (x.C), .int .i64 (x.D)]) rfl rfl rfl (bI (gZ x.C x.D _) hg185) ?_
           rintro e189 W188 ⟨rfl, hu187⟩; refine ⟨_, rfl, ?_⟩
           have H190 := H180.no hu187; clear H180
           refine aA ?_
           refine aB rfl (aJ (v := .bool (true)) (b := true) rfl rfl rfl rfl) rfl rfl ?_
           refine aA ?_
           refine aB rfl (aC rfl) rfl rfl ?_
           refine aA ?_
           refine aT rfl rfl rfl rfl (fun _ ho191 => ?_)
           refine aB ho191 (aN fU rfl) rfl rfl ?_
           refine aA ?_
           refine aT rfl rfl rfl rfl (fun _ ho192 => ?_)
           refine aB ho192 (aS (k := 5) (v := .string (x.Name)) Try.isAgg9 rfl (H190.blk 0 rfl) rfl) rfl rfl ?_
           by_cases hg193 : (nmB x.Name) = true
           ·refine aA ?_
            refine aT rfl rfl rfl rfl (fun _ ho194 => ?_)
            refine aK ho194 Try.call115 (vs := #[.string (x.Name)]) rfl rfl rfl (bI (fF x.Name _) hg193) ?_
            rintro e197 W196 ⟨rfl, hu195⟩; refine ⟨_, rfl, ?_⟩
            have H198 := H190.no hu195; clear H190
            refine aA ?_
            refine aB rfl (aJ (v := .bool (true)) (b := true) rfl rfl rfl rfl) rfl rfl ?_
            refine aA ?_
            refine aB rfl (aG rfl) rfl rfl ?_
            refine aF ?_
            refine aH ?_
            refine wp_ret ?_
            refine aY ?_
            refine aR ?_
            refine aM (.inl rfl) Try.results148 rfl ?_
            have hr199 : inst x = true := by first | (simp [inst, aQ, hc6, hc38, hc70, hc102, hc103, hc121, hc167, hg168, hg175, hg185, hg193]; done) | (exfalso; omega) | done
            rw [hr199]
            exact ⟨rfl, H198.1⟩
           ·refine aA ?_
            refine aT rfl rfl rfl rfl (fun _ ho200 => ?_)
            refine aK ho200 Try.call115 (vs := #[.string (x.Name)]) rfl rfl rfl (bI (fF x.Name _) (eq_false_of_ne_true hg193)) ?_
            rintro e203 W202 ⟨rfl, hu201⟩; refine ⟨_, rfl, ?_⟩
            have H204 := H190.no hu201; clear H190
            refine aA ?_
            refine aB rfl (aJ (v := .bool (false)) (b := true) rfl rfl rfl rfl) rfl rfl ?_
            refine aA ?_
            refine aB rfl (aG rfl) rfl rfl ?_
            refine aF ?_
            refine aH ?_
            refine wp_ret ?_
            refine aY ?_
            refine aR ?_
            refine aM (.inl rfl) Try.results148 rfl ?_
            have hr205 : inst x = false := by first | (simp [inst, aQ, hc6, hc38, hc70, hc102, hc103, hc121, hc167, hg168, hg175, hg185, hg193]; done) | (exfalso; omega) | done
            rw [hr205]
            exact ⟨rfl, H204.1⟩
          ·refine aA ?_
           refine aT rfl rfl rfl rfl (fun _ ho206 => ?_)
           refine aK ho206 Try.call166 (vs := #[.int .i64 (x.C), .int .i64 (x.D)]) rfl rfl rfl (bI (gZ x.C x.D _) (eq_false_of_ne_true hg185)) ?_
           rintro e209 W208 ⟨rfl, hu207⟩; refine ⟨_, rfl, ?_⟩
           have H210 := H180.no hu207; clear H180
           refine aA ?_
           refine aB rfl (aJ (v := .bool (false)) (b := true) rfl rfl rfl rfl) rfl rfl ?_
           refine aA ?_
           refine aB rfl (aC rfl) rfl rfl ?_
           refine aA ?_
           refine aD rfl rfl rfl rfl rfl rfl rfl ?_
           refine aA ?_
           refine aD rfl rfl rfl rfl rfl rfl rfl ?_
           refine aA ?_
           refine aD rfl rfl rfl rfl rfl rfl rfl ?_
           refine aA ?_
           refine aB rfl (aJ (v := .bool (false)) (b := false) rfl rfl rfl rfl) rfl rfl ?_
           refine aA ?_
           refine aB rfl (aG rfl) rfl rfl ?_
           refine aF ?_
           refine aH ?_
           refine wp_ret ?_
           refine aY ?_
           refine aR ?_
           refine aM (.inl rfl) Try.results148 rfl ?_
           have hr211 : inst x = false := by first | (simp [inst, aQ, hc6, hc38, hc70, hc102, hc103, hc121, hc167, hg168, hg175, hg185]; done) | (exfalso; omega) | done
           rw [hr211]
           exact ⟨rfl, H210.1⟩
         ·refine aA ?_
          refine aT rfl rfl rfl rfl (fun _ ho212 => ?_)
          refine aK ho212 Try.call165 (vs := #[.int .i64 (x.B)]) rfl rfl rfl (bI (bR x.B _) (eq_false_of_ne_true hg175)) ?_
          rintro e215 W214 ⟨rfl, hu213⟩; refine ⟨_, rfl, ?_⟩
          have H216 := H172.no hu213; clear H172
          refine aA ?_
          refine aB rfl (aJ (v := .bool (false)) (b := true) rfl rfl rfl rfl) rfl rfl ?_
          refine aA ?_
          refine aB rfl (aC rfl) rfl rfl ?_
          refine aA ?_
          refine aD rfl rfl rfl rfl rfl rfl rfl ?_
          refine aA ?_
          refine aD rfl rfl rfl rfl rfl rfl rfl ?_
          refine aA ?_
          refine aD rfl rfl rfl rfl rfl rfl rfl ?_
          refine aA ?_
          refine aD rfl rfl rfl rfl rfl rfl rfl ?_
          refine aA ?_
          refine aD rfl rfl rfl rfl rfl rfl rfl ?_
          refine aA ?_
          refine aB rfl (aJ (v := .bool (false)) (b := false) rfl rfl rfl rfl) rfl rfl ?_
          refine aA ?_
          refine aB rfl (aC rfl) rfl rfl ?_
          refine aA ?_
          refine aD rfl rfl rfl rfl rfl rfl rfl ?_
          refine aA ?_
          refine aD rfl rfl rfl rfl rfl rfl rfl ?_
          refine aA ?_
          refine aD rfl rfl rfl rfl rfl rfl rfl ?_
          refine aA ?_
          refine aB rfl (aJ (v := .bool (false)) (b := false) rfl rfl rfl rfl) rfl rfl ?_
          refine aA ?_
          refine aB rfl (aG rfl) rfl rfl ?_
          refine aF ?_
          refine aH ?_
          refine wp_ret ?_
          refine aY ?_
          refine aR ?_
          refine aM (.inl rfl) Try.results148 rfl ?_
          have hr217 : inst x = false := by first | (simp [inst, aQ, hc6, hc38, hc70, hc102, hc103, hc121, hc167, hg168, hg175]; done) | (exfalso; omega) | done
          rw [hr217]
          exact ⟨rfl, H216.1⟩
        ·refine aA ?_
         refine aK rfl Try.call165 (vs := #[.int .i64 (x.A)]) rfl rfl rfl (bI (bR x.A _) (eq_false_of_ne_true hg168)) ?_
         rintro e220 W219 ⟨rfl, hu218⟩; refine ⟨_, rfl, ?_⟩
         have H221 := Ha4.no hu218; clear Ha4
         refine aA ?_
         refine aB rfl (aC rfl) rfl rfl ?_
         refine aA ?_
         refine aD rfl rfl rfl rfl rfl rfl rfl ?_
         refine aA ?_
         refine aD rfl rfl rfl rfl rfl rfl rfl ?_
         refine aA ?_
         refine aD rfl rfl rfl rfl rfl rfl rfl ?_
         refine aA ?_
         refine aB rfl (aJ (v := .bool (false)) (b := false) rfl rfl rfl rfl) rfl rfl ?_
         refine aA ?_
         refine aB rfl (aC rfl) rfl rfl ?_
         refine aA ?_
         refine aD rfl rfl rfl rfl rfl rfl rfl ?_
         refine aA ?_
         refine aD rfl rfl rfl rfl rfl rfl rfl ?_
         refine aA ?_
         refine aD rfl rfl rfl rfl rfl rfl rfl ?_
         refine aA ?_
         refine aD rfl rfl rfl rfl rfl rfl rfl ?_
         refine aA ?_
         refine aD rfl rfl rfl rfl rfl rfl rfl ?_
         refine aA ?_
         refine aB rfl (aJ (v := .bool (false)) (b := false) rfl rfl rfl rfl) rfl rfl ?_
         refine aA ?_
         refine aB rfl (aC rfl) rfl rfl ?_
         refine aA ?_
         refine aD rfl rfl rfl rfl rfl rfl rfl ?_
         refine aA ?_
         refine aD rfl rfl rfl rfl rfl rfl rfl ?_
         refine aA ?_
         refine aD rfl rfl rfl rfl rfl rfl rfl ?_
         refine aA ?_
         refine aB rfl (aJ (v := .bool (false)) (b := false) rfl rfl rfl rfl) rfl rfl ?_
         refine aA ?_
         refine aB rfl (aG rfl) rfl rfl ?_
         refine aF ?_
         refine aH ?_
         refine wp_ret ?_
         refine aY ?_
         refine aR ?_
         refine aM (.inl rfl) Try.results148 rfl ?_
         have hr222 : inst x = false := by first | (simp [inst, aQ, hc6, hc38, hc70, hc102, hc103, hc121, hc167, hg168]; done) | (exfalso; omega) | done
         rw [hr222]
         exact ⟨rfl, H221.1⟩
       ·refine wp_seq ?_
        refine aI [0, 1] rfl ?_
        refine aA ?_
        refine aB rfl (bD rfl rfl) rfl rfl ?_
        refine aA ?_
        refine aB rfl (aG rfl) rfl rfl ?_
        refine aF ?_
        refine aH ?_
        refine aW rfl (fun hc223 => ?_) (fun hc223 => ?_)
        ·refine wp_seq ?_
         refine aI [0, 1, 2, 3, 4, 5, 6, 7, 8, 9, 10, 11, 12, 13, 14, 15, 16, 17, 18, 19, 20] rfl ?_
         refine aA ?_
         refine aB rfl (aN bP rfl) rfl rfl ?_
         refine aA ?_
         refine aB rfl (aS (k := 1) (v := .int .i64 (x.A)) Try.isAgg3 rfl (Ha4.blk 0 rfl) rfl) rfl rfl ?_
         by_cases hg224 : (rgB x.A) = true
         ·refine aA ?_
          refine aK rfl Try.call165 (vs := #[.int .i64 (x.A)]) rfl rfl rfl (bI (bR x.A _) hg224) ?_
          rintro e227 W226 ⟨rfl, hu225⟩; refine ⟨_, rfl, ?_⟩
          have H228 := Ha4.no hu225; clear Ha4
          refine aA ?_
          refine aB rfl (aC rfl) rfl rfl ?_
          refine aA ?_
          refine aT rfl rfl rfl rfl (fun _ ho229 => ?_)
          refine aB ho229 (aN bU rfl) rfl rfl ?_
          refine aA ?_
          refine aT rfl rfl rfl rfl (fun _ ho230 => ?_)
          refine aB ho230 (aS (k := 2) (v := .int .i64 (x.B)) Try.isAgg3 rfl (H228.blk 0 rfl) rfl) rfl rfl ?_
          by_cases hg231 : (x.B : Int) = 0
          ·refine aA ?_
           refine aT rfl rfl rfl rfl (fun _ ho232 => ?_)
           refine aB ho232 (bQ hg231 (bD rfl rfl)) rfl rfl ?_
           refine aA ?_
           refine aB rfl (aJ (v := .bool (true)) (b := true) rfl rfl rfl rfl) rfl rfl ?_
           refine aA ?_
           refine aB rfl (aC rfl) rfl rfl ?_
           refine aA ?_
           refine aT rfl rfl rfl rfl (fun _ ho233 => ?_)
           refine aB ho233 (aN eU rfl) rfl rfl ?_
           refine aA ?_
           refine aT rfl rfl rfl rfl (fun _ ho234 => ?_)
           refine aB ho234 (aS (k := 3) (v := .int .i64 (x.C)) Try.isAgg3 rfl (H228.blk 0 rfl) rfl) rfl rfl ?_
           refine aA ?_
           refine aT rfl rfl rfl rfl (fun _ ho235 => ?_)
           refine aB ho235 (aN fE rfl) rfl rfl ?_
           refine aA ?_
           refine aT rfl rfl rfl rfl (fun _ ho236 => ?_)
           refine aB ho236 (aS (k := 4) (v := .int .i64 (x.D)) Try.isAgg3 rfl (H228.blk 0 rfl) rfl) rfl rfl ?_
           by_cases hg237 : (prB x.C x.D) = true
           ·refine aA ?_
            refine aT rfl rfl rfl rfl (fun _ ho238 => ?_)
            refine aK ho238 Try.call166 (vs := #[.int .i64 (x.C), .int .i64 (x.D)]) rfl rfl rfl (bI (gZ x.C x.D _) hg237) ?_
            rintro e241 W240 ⟨rfl, hu239⟩; refine ⟨_, rfl, ?_⟩
            have H242 := H228.no hu239; clear H228
            refine aA ?_
            refine aB rfl (aJ (v := .bool (true)) (b := true) rfl rfl rfl rfl) rfl rfl ?_
            refine aA ?_
            refine aB rfl (aC rfl) rfl rfl ?_
            refine aA ?_
            refine aT rfl rfl rfl rfl (fun _ ho243 => ?_)
            refine aB ho243 (aN fU rfl) rfl rfl ?_
            refine aA ?_
            refine aT rfl rfl rfl rfl (fun _ ho244 => ?_)
            refine aB ho244 (aS (k := 5) (v := .string (x.Name)) Try.isAgg9 rfl (H242.blk 0 rfl) rfl) rfl rfl ?_
            by_cases hg245 : (nmB x.Name) = true
            ·refine aA ?_
             refine aT rfl rfl rfl rfl (fun _ ho246 => ?_)
             refine aK ho246 Try.call115 (vs := #[.string (x.Name)]) rfl rfl rfl (bI (fF x.Name _) hg245) ?_
             rintro e249 W248 ⟨rfl, hu247⟩; refine ⟨_, rfl, ?_⟩
             have H250 := H242.no hu247; clear H242
             refine aA ?_
             refine aB rfl (aJ (v := .bool (true)) (b := true) rfl rfl rfl rfl) rfl rfl ?_
             refine aA ?_
             refine aB rfl (aG rfl) rfl rfl ?_
             refine aF ?_
             refine aH ?_
             refine wp_ret ?_
             refine aY ?_
             refine aR ?_
             refine aM (.inl rfl) Try.results148 rfl ?_
             have hr251 : inst x = true := by first | (simp [inst, aQ, hc6, hc38, hc70, hc102, hc103, hc121, hc167, hc223, hg224, hg231, hg237, hg245]; done) | (exfalso; omega) | done
             rw [hr251]
             exact ⟨rfl, H250.1⟩
            ·refine aA ?_
             refine aT rfl rfl rfl rfl (fun _ ho252 => ?_)
             refine aK ho252 Try.call115 (vs := #[.string (x.Name)]) rfl rfl rfl (bI (fF x.Name _) (eq_false_of_ne_true hg245)) ?_
             rintro e255 W254 ⟨rfl, hu253⟩; refine ⟨_, rfl, ?_⟩
             have H256 := H242.no hu253; clear H242
             refine aA ?_
             refine aB rfl (aJ (v := .bool (false)) (b := true) rfl rfl rfl rfl) rfl rfl ?_
             refine aA ?_
             refine aB rfl (aG rfl) rfl rfl ?_
             refine aF ?_
             refine aH ?_
             refine wp_ret ?_
             refine aY ?_
             refine aR ?_
             refine aM (.inl rfl) Try.results148 rfl ?_
             have hr257 : inst x = false := by first | (simp [inst, aQ, hc6, hc38, hc70, hc102, hc103, hc121, hc167, hc223, hg224, hg231, hg237, hg245]; done) | (exfalso; omega) | done
             rw [hr257]
             exact ⟨rfl, H256.1⟩
           ·refine aA ?_
            refine aT rfl rfl rfl rfl (fun _ ho258 => ?_)
            refine aK ho258 Try.call166 (vs := #[.int .i64 (x.C), .int .i64 (x.D)]) rfl rfl rfl (bI (gZ x.C x.D _) (eq_false_of_ne_true hg237)) ?_
            rintro e261 W260 ⟨rfl, hu259⟩; refine ⟨_, rfl, ?_⟩
            have H262 := H228.no hu259; clear H228
            refine aA ?_
            refine aB rfl (aJ (v := .bool (false)) (b := true) rfl rfl rfl rfl) rfl rfl ?_
            refine aA ?_
            refine aB rfl (aC rfl) rfl rfl ?_
            refine aA ?_
            refine aD rfl rfl rfl rfl rfl rfl rfl ?_
            refine aA ?_
            refine aD rfl rfl rfl rfl rfl rfl rfl ?_
            refine aA ?_
            refine aD rfl rfl rfl rfl rfl rfl rfl ?_
            refine aA ?_
            refine aB rfl (aJ (v := .bool (false)) (b := false) rfl rfl rfl rfl) rfl rfl ?_
            refine aA ?_
            refine aB rfl (aG rfl) rfl rfl ?_
            refine aF ?_
            refine aH ?_
            refine wp_ret ?_
            refine aY ?_
            refine aR ?_
            refine aM (.inl rfl) Try.results148 rfl ?_
            have hr263 : inst x = false := by first | (simp [inst, aQ, hc6, hc38, hc70, hc102, hc103, hc121, hc167, hc223, hg224, hg231, hg237]; done) | (exfalso; omega) | done
            rw [hr263]
            exact ⟨rfl, H262.1⟩
          ·refine aA ?_
           refine aT rfl rfl rfl rfl (fun _ ho264 => ?_)
           refine aB ho264 (bS hg231 (bD rfl rfl)) rfl rfl ?_
           refine aA ?_
           refine aB rfl (aJ (v := .bool (false)) (b := true) rfl rfl rfl rfl) rfl rfl ?_
           refine aA ?_
           refine aB rfl (aC rfl) rfl rfl ?_
           refine aA ?_
           refine aD rfl rfl rfl rfl rfl rfl rfl ?_
           refine aA ?_
           refine aD rfl rfl rfl rfl rfl rfl rfl ?_
           refine aA ?_
           refine aD rfl rfl rfl rfl rfl rfl rfl ?_
           refine aA ?_
           refine aD rfl rfl rfl rfl rfl rfl rfl ?_
           refine aA ?_
           refine aD rfl rfl rfl rfl rfl rfl rfl ?_
           refine aA ?_
           refine aB rfl (aJ (v := .bool (false)) (b := false) rfl rfl rfl rfl) rfl rfl ?_
           refine aA ?_
           refine aB rfl (aC rfl) rfl rfl ?_
           refine aA ?_
           refine aD rfl rfl rfl rfl rfl rfl rfl ?_
           refine aA ?_
           refine aD rfl rfl rfl rfl rfl rfl rfl ?_
           refine aA ?_
           refine aD rfl rfl rfl rfl rfl rfl rfl ?_
           refine aA ?_
           refine aB rfl (aJ (v := .bool (false)) (b := false) rfl rfl rfl rfl) rfl rfl ?_
           refine aA ?_
           refine aB rfl (aG rfl) rfl rfl ?_
           refine aF ?_
           refine aH ?_
           refine wp_ret ?_
           refine aY ?_
           refine aR ?_
           refine aM (.inl rfl) Try.results148 rfl ?_
           have hr265 : inst x = false := by first | (simp [inst, aQ, hc6, hc38, hc70, hc102, hc103, hc121, hc167, hc223, hg224, hg231]; done) | (exfalso; omega) | done
           rw [hr265]
           exact ⟨rfl, H228.1⟩
         ·refine aA ?_
          refine aK rfl Try.call165 (vs := #[.int .i64 (x.A)]) rfl rfl rfl (bI (bR x.A _) (eq_false_of_ne_true hg224)) ?_
          rintro e268 W267 ⟨rfl, hu266⟩; refine ⟨_, rfl, ?_⟩
          have H269 := Ha4.no hu266; clear Ha4
          refine aA ?_
          refine aB rfl (aC rfl) rfl rfl ?_
          refine aA ?_
          refine aD rfl rfl rfl rfl rfl rfl rfl ?_
          refine aA ?_
          refine aD rfl rfl rfl rfl rfl rfl rfl ?_
          refine aA ?_
          refine aD rfl rfl rfl rfl rfl rfl rfl ?_
          refine aA ?_
          refine aB rfl (aJ (v := .bool (false)) (b := false) rfl rfl rfl rfl) rfl rfl ?_
          refine aA ?_
          refine aB rfl (aC rfl) rfl rfl ?_
          refine aA ?_
          refine aD rfl rfl rfl rfl rfl rfl rfl ?_
          refine aA ?_
          refine aD rfl rfl rfl rfl rfl rfl rfl ?_
          refine aA ?_
          refine aD rfl rfl rfl rfl rfl rfl rfl ?_
          refine aA ?_
          refine aD rfl rfl rfl rfl rfl rfl rfl ?_
          refine aA ?_
          refine aD rfl rfl rfl rfl rfl rfl rfl ?_
          refine aA ?_
          refine aB rfl (aJ (v := .bool (false)) (b := false) rfl rfl rfl rfl) rfl rfl ?_
          refine aA ?_
          refine aB rfl (aC rfl) rfl rfl ?_
          refine aA ?_
          refine aD rfl rfl rfl rfl rfl rfl rfl ?_
          refine aA ?_
          refine aD rfl rfl rfl rfl rfl rfl rfl ?_
          refine aA ?_
          refine aD rfl rfl rfl rfl rfl rfl rfl ?_
          refine aA ?_
          refine aB rfl (aJ (v := .bool (false)) (b := false) rfl rfl rfl rfl) rfl rfl ?_
          refine aA ?_
          refine aB rfl (aG rfl) rfl rfl ?_
          refine aF ?_
          refine aH ?_
          refine wp_ret ?_
          refine aY ?_
          refine aR ?_
          refine aM (.inl rfl) Try.results148 rfl ?_
          have hr270 : inst x = false := by first | (simp [inst, aQ, hc6, hc38, hc70, hc102, hc103, hc121, hc167, hc223, hg224]; done) | (exfalso; omega) | done
          rw [hr270]
          exact ⟨rfl, H269.1⟩
        ·refine wp_seq ?_
         refine aI [0, 1] rfl ?_
         refine aA ?_
         refine aB rfl (bD rfl rfl) rfl rfl ?_
         refine aA ?_
         refine aB rfl (aG rfl) rfl rfl ?_
         refine aF ?_
         refine aH ?_
         refine aW rfl (fun hc271 => ?_) (fun hc271 => ?_)
         ·refine wp_seq ?_
          refine aI [0, 1, 2, 3, 4, 5, 6, 7, 8, 9, 10, 11, 12, 13, 14, 15, 16, 17, 18, 19] rfl ?_
          refine aA ?_
          refine aB rfl (bL Try.isAgg118 Try.sizeOf118 rfl (Ha4.blk 0 rfl) rfl) rfl rfl ?_
          refine aA ?_
          refine aB rfl (aN eH rfl) rfl rfl ?_
          refine aA ?_
          refine aB rfl (aS (k := 0) (v := .int .i64 (x.Op)) Try.isAgg3 rfl (Ha4.blk 0 rfl) rfl) rfl rfl ?_
          refine aA ?_
          refine aB rfl (aN bP rfl) rfl rfl ?_
          refine aA ?_
          refine aB rfl (aS (k := 1) (v := .int .i64 (x.A)) Try.isAgg3 rfl (Ha4.blk 0 rfl) rfl) rfl rfl ?_
          refine aA ?_
          refine aB rfl (aN bU rfl) rfl rfl ?_
          refine aA ?_
          refine aB rfl (aS (k := 2) (v := .int .i64 (x.B)) Try.isAgg3 rfl (Ha4.blk 0 rfl) rfl) rfl rfl ?_
          refine aA ?_
          refine aB rfl (bB (vs := [(0, .int .i64 (x.Op)), (1, .int .i64 (x.A)), (2, .int .i64 (x.B))]) (cells := #[.int .i64 (x.Op), .int .i64 (x.A), .int .i64 (x.B), .int .i64 (0), .int .i64 (0), .string (⟨#[]⟩)]) rfl kR) rfl rfl ?_
          by_cases hg272 : (bE x (⟨x.Op, x.A, x.B, 0, 0, ⟨#[]⟩⟩ : GInstr)) = true
          ·have hg272n := hg272
           rw [zq3 x] at hg272n
           refine aA ?_
           refine aB rfl (bM (b := bE x (⟨x.Op, x.A, x.B, 0, 0, ⟨#[]⟩⟩ : GInstr)) hg272 (dS Try.eqGuardType118 rfl rfl (dB x (⟨x.Op, x.A, x.B, 0, 0, ⟨#[]⟩⟩ : GInstr) _ 9998))) rfl rfl ?_
           refine aA ?_
           refine aB rfl (aC rfl) rfl rfl ?_
           refine aA ?_
           refine aT rfl rfl rfl rfl (fun _ ho273 => ?_)
           refine aB ho273 (aN bP rfl) rfl rfl ?_
           refine aA ?_
           refine aT rfl rfl rfl rfl (fun _ ho274 => ?_)
           refine aB ho274 (aS (k := 1) (v := .int .i64 (x.A)) Try.isAgg3 rfl (Ha4.blk 0 rfl) rfl) rfl rfl ?_
           by_cases hg275 : (inB x.A 0 2) = true
           ·refine aA ?_
            refine aT rfl rfl rfl rfl (fun _ ho276 => ?_)
            refine aK ho276 Try.call60 (vs := #[.int .i64 (x.A), .int .i64 (0), .int .i64 (2)]) rfl rfl rfl (bI (in_i x.A 0 2 _) hg275) ?_
            rintro e279 W278 ⟨rfl, hu277⟩; refine ⟨_, rfl, ?_⟩
            have H280 := Ha4.no hu277; clear Ha4
            refine aA ?_
            refine aB rfl (aJ (v := .bool (true)) (b := true) rfl rfl rfl rfl) rfl rfl ?_
            refine aA ?_
            refine aB rfl (aC rfl) rfl rfl ?_
            refine aA ?_
            refine aT rfl rfl rfl rfl (fun _ ho281 => ?_)
            refine aB ho281 (aN bU rfl) rfl rfl ?_
            refine aA ?_
            refine aT rfl rfl rfl rfl (fun _ ho282 => ?_)
            refine aB ho282 (aS (k := 2) (v := .int .i64 (x.B)) Try.isAgg3 rfl (H280.blk 0 rfl) rfl) rfl rfl ?_
            by_cases hg283 : (rgB x.B) = true
            ·refine aA ?_
             refine aT rfl rfl rfl rfl (fun _ ho284 => ?_)
             refine aK ho284 Try.call165 (vs := #[.int .i64 (x.B)]) rfl rfl rfl (bI (bR x.B _) hg283) ?_
             rintro e287 W286 ⟨rfl, hu285⟩; refine ⟨_, rfl, ?_⟩
             have H288 := H280.no hu285; clear H280
             refine aA ?_
             refine aB rfl (aJ (v := .bool (true)) (b := true) rfl rfl rfl rfl) rfl rfl ?_
             refine aA ?_
             refine aB rfl (aG rfl) rfl rfl ?_
             refine aF ?_
             refine aH ?_
             refine wp_ret ?_
             refine aY ?_
             refine aR ?_
             refine aM (.inl rfl) Try.results148 rfl ?_
             have hr289 : inst x = true := by first | (simp [inst, aQ, hc6, hc38, hc70, hc102, hc103, hc121, hc167, hc223, hc271, hg272n, hg275, hg283]; done) | (exfalso; omega) | (have q := hg272n; revert q; (simp [inst, aQ, hc6, hc38, hc70, hc102, hc103, hc121, hc167, hc223, hc271, hg275, hg283] <;> (intros; simp_all)); done)
             rw [hr289]
             exact ⟨rfl, H288.1⟩
            ·refine aA ?_
             refine aT rfl rfl rfl rfl (fun _ ho290 => ?_)
             refine aK ho290 Try.call165 (vs := #[.int .i64 (x.B)]) rfl rfl rfl (bI (bR x.B _) (eq_false_of_ne_true hg283)) ?_
             rintro e293 W292 ⟨rfl, hu291⟩; refine ⟨_, rfl, ?_⟩
             have H294 := H280.no hu291; clear H280
             refine aA ?_
             refine aB rfl (aJ (v := .bool (false)) (b := true) rfl rfl rfl rfl) rfl rfl ?_
             refine aA ?_
             refine aB rfl (aG rfl) rfl rfl ?_
             refine aF ?_
             refine aH ?_
             refine wp_ret ?_
             refine aY ?_
             refine aR ?_
             refine aM (.inl rfl) Try.results148 rfl ?_
             have hr295 : inst x = false := by first | (simp [inst, aQ, hc6, hc38, hc70, hc102, hc103, hc121, hc167, hc223, hc271, hg272n, hg275, hg283]; done) | (exfalso; omega) | (have q := hg272n; revert q; (simp [inst, aQ, hc6, hc38, hc70, hc102, hc103, hc121, hc167, hc223, hc271, hg275, hg283] <;> (intros; simp_all)); done)
             rw [hr295]
             exact ⟨rfl, H294.1⟩
           ·refine aA ?_
            refine aT rfl rfl rfl rfl (fun _ ho296 => ?_)
            refine aK ho296 Try.call60 (vs := #[.int .i64 (x.A), .int .i64 (0), .int .i64 (2)]) rfl rfl rfl (bI (in_i x.A 0 2 _) (eq_false_of_ne_true hg275)) ?_
            rintro e299 W298 ⟨rfl, hu297⟩; refine ⟨_, rfl, ?_⟩
            have H300 := Ha4.no hu297; clear Ha4
            refine aA ?_
            refine aB rfl (aJ (v := .bool (false)) (b := true) rfl rfl rfl rfl) rfl rfl ?_
            refine aA ?_
            refine aB rfl (aC rfl) rfl rfl ?_
            refine aA ?_
            refine aD rfl rfl rfl rfl rfl rfl rfl ?_
            refine aA ?_
            refine aD rfl rfl rfl rfl rfl rfl rfl ?_
            refine aA ?_
            refine aD rfl rfl rfl rfl rfl rfl rfl ?_
            refine aA ?_
            refine aB rfl (aJ (v := .bool (false)) (b := false) rfl rfl rfl rfl) rfl rfl ?_
            refine aA ?_
            refine aB rfl (aG rfl) rfl rfl ?_
            refine aF ?_
            refine aH ?_
            refine wp_ret ?_
            refine aY ?_
            refine aR ?_
            refine aM (.inl rfl) Try.results148 rfl ?_
            have hr301 : inst x = false := by first | (simp [inst, aQ, hc6, hc38, hc70, hc102, hc103, hc121, hc167, hc223, hc271, hg272n, hg275]; done) | (exfalso; omega) | (have q := hg272n; revert q; (simp [inst, aQ, hc6, hc38, hc70, hc102, hc103, hc121, hc167, hc223, hc271, hg275] <;> (intros; simp_all)); done)
            rw [hr301]
            exact ⟨rfl, H300.1⟩
          ·have hg272n := hg272
           rw [zq3 x] at hg272n
           refine aA ?_
           refine aB rfl (bM (b := bE x (⟨x.Op, x.A, x.B, 0, 0, ⟨#[]⟩⟩ : GInstr)) (eq_false_of_ne_true hg272) (dS Try.eqGuardType118 rfl rfl (dB x (⟨x.Op, x.A, x.B, 0, 0, ⟨#[]⟩⟩ : GInstr) _ 9998))) rfl rfl ?_
           refine aA ?_
           refine aB rfl (aC rfl) rfl rfl ?_
           refine aA ?_
           refine aD rfl rfl rfl rfl rfl rfl rfl ?_
           refine aA ?_
           refine aD rfl rfl rfl rfl rfl rfl rfl ?_
           refine aA ?_
           refine aD rfl rfl rfl rfl rfl rfl rfl ?_
           refine aA ?_
           refine aB rfl (aJ (v := .bool (false)) (b := false) rfl rfl rfl rfl) rfl rfl ?_
           refine aA ?_
           refine aB rfl (aC rfl) rfl rfl ?_
           refine aA ?_
           refine aD rfl rfl rfl rfl rfl rfl rfl ?_
           refine aA ?_
           refine aD rfl rfl rfl rfl rfl rfl rfl ?_
           refine aA ?_
           refine aD rfl rfl rfl rfl rfl rfl rfl ?_
           refine aA ?_
           refine aB rfl (aJ (v := .bool (false)) (b := false) rfl rfl rfl rfl) rfl rfl ?_
           refine aA ?_
           refine aB rfl (aG rfl) rfl rfl ?_
           refine aF ?_
           refine aH ?_
           refine wp_ret ?_
           refine aY ?_
           refine aR ?_
           refine aM (.inl rfl) Try.results148 rfl ?_
           have hr302 : inst x = false := by first | (simp [inst, aQ, hc6, hc38, hc70, hc102, hc103, hc121, hc167, hc223, hc271, hg272n]; done) | (exfalso; omega) | (have q := hg272n; revert q; (simp [inst, aQ, hc6, hc38, hc70, hc102, hc103, hc121, hc167, hc223, hc271] <;> (intros; simp_all)); done)
           rw [hr302]
           exact ⟨rfl, Ha4.1⟩
         ·refine wp_seq ?_
          refine aI [0, 1] rfl ?_
          refine aA ?_
          refine aB rfl (bD rfl rfl) rfl rfl ?_
          refine aA ?_
          refine aB rfl (aG rfl) rfl rfl ?_
          refine aF ?_
          refine aH ?_
          refine aW rfl (fun hc303 => ?_) (fun hc303 => ?_)
          ·refine wp_seq ?_
           refine aI [0, 1, 2, 3, 4, 5, 6, 7, 8, 9, 10, 11, 12, 13, 14, 15, 16, 17, 18, 19] rfl ?_
           refine aA ?_
           refine aB rfl (bL Try.isAgg118 Try.sizeOf118 rfl (Ha4.blk 0 rfl) rfl) rfl rfl ?_
           refine aA ?_
           refine aB rfl (aN eH rfl) rfl rfl ?_
           refine aA ?_
           refine aB rfl (aS (k := 0) (v := .int .i64 (x.Op)) Try.isAgg3 rfl (Ha4.blk 0 rfl) rfl) rfl rfl ?_
           refine aA ?_
           refine aB rfl (aN bP rfl) rfl rfl ?_
           refine aA ?_
           refine aB rfl (aS (k := 1) (v := .int .i64 (x.A)) Try.isAgg3 rfl (Ha4.blk 0 rfl) rfl) rfl rfl ?_
           refine aA ?_
           refine aB rfl (aN bU rfl) rfl rfl ?_
           refine aA ?_
           refine aB rfl (aS (k := 2) (v := .int .i64 (x.B)) Try.isAgg3 rfl (Ha4.blk 0 rfl) rfl) rfl rfl ?_
           refine aA ?_
           refine aB rfl (bB (vs := [(0, .int .i64 (x.Op)), (1, .int .i64 (x.A)), (2, .int .i64 (x.B))]) (cells := #[.int .i64 (x.Op), .int .i64 (x.A), .int .i64 (x.B), .int .i64 (0), .int .i64 (0), .string (⟨#[]⟩)]) rfl kR) rfl rfl ?_
           by_cases hg304 : (bE x (⟨x.Op, x.A, x.B, 0, 0, ⟨#[]⟩⟩ : GInstr)) = true
           ·have hg304n := hg304
            rw [zq3 x] at hg304n
            refine aA ?_
            refine aB rfl (bM (b := bE x (⟨x.Op, x.A, x.B, 0, 0, ⟨#[]⟩⟩ : GInstr)) hg304 (dS Try.eqGuardType118 rfl rfl (dB x (⟨x.Op, x.A, x.B, 0, 0, ⟨#[]⟩⟩ : GInstr) _ 9998))) rfl rfl ?_
            refine aA ?_
            refine aB rfl (aC rfl) rfl rfl ?_
            refine aA ?_
            refine aT rfl rfl rfl rfl (fun _ ho305 => ?_)
            refine aB ho305 (aN bP rfl) rfl rfl ?_
            refine aA ?_
            refine aT rfl rfl rfl rfl (fun _ ho306 => ?_)
            refine aB ho306 (aS (k := 1) (v := .int .i64 (x.A)) Try.isAgg3 rfl (Ha4.blk 0 rfl) rfl) rfl rfl ?_
            by_cases hg307 : (rgB x.A) = true
            ·refine aA ?_
             refine aT rfl rfl rfl rfl (fun _ ho308 => ?_)
             refine aK ho308 Try.call165 (vs := #[.int .i64 (x.A)]) rfl rfl rfl (bI (bR x.A _) hg307) ?_
             rintro e311 W310 ⟨rfl, hu309⟩; refine ⟨_, rfl, ?_⟩
             have H312 := Ha4.no hu309; clear Ha4
             refine aA ?_
             refine aB rfl (aJ (v := .bool (true)) (b := true) rfl rfl rfl rfl) rfl rfl ?_
             refine aA ?_
             refine aB rfl (aC rfl) rfl rfl ?_
             refine aA ?_
             refine aT rfl rfl rfl rfl (fun _ ho313 => ?_)
             refine aB ho313 (aN bU rfl) rfl rfl ?_
             refine aA ?_
             refine aT rfl rfl rfl rfl (fun _ ho314 => ?_)
             refine aB ho314 (aS (k := 2) (v := .int .i64 (x.B)) Try.isAgg3 rfl (H312.blk 0 rfl) rfl) rfl rfl ?_
             by_cases hg315 : (inB x.B 1 12) = true
             ·refine aA ?_
              refine aT rfl rfl rfl rfl (fun _ ho316 => ?_)
              refine aK ho316 Try.call60 (vs := #[.int .i64 (x.B), .int .i64 (1), .int .i64 (12)]) rfl rfl rfl (bI (in_i x.B 1 12 _) hg315) ?_
              rintro e319 W318 ⟨rfl, hu317⟩; refine ⟨_, rfl, ?_⟩
              have H320 := H312.no hu317; clear H312
              refine aA ?_
              refine aB rfl (aJ (v := .bool (true)) (b := true) rfl rfl rfl rfl) rfl rfl ?_
              refine aA ?_
              refine aB rfl (aG rfl) rfl rfl ?_
              refine aF ?_
              refine aH ?_
              refine wp_ret ?_
              refine aY ?_
              refine aR ?_
              refine aM (.inl rfl) Try.results148 rfl ?_
              have hr321 : inst x = true := by first | (simp [inst, aQ, hc6, hc38, hc70, hc102, hc103, hc121, hc167, hc223, hc271, hc303, hg304n, hg307, hg315]; done) | (exfalso; omega) | (have q := hg304n; revert q; (simp [inst, aQ, hc6, hc38, hc70, hc102, hc103, hc121, hc167, hc223, hc271, hc303, hg307, hg315] <;> (intros; simp_all)); done)
              rw [hr321]
              exact ⟨rfl, H320.1⟩
             ·refine aA ?_
              refine aT rfl rfl rfl rfl (fun _ ho322 => ?_)
              refine aK ho322 Try.call60 (vs := #[.int .i64 (x.B), .int .i64 (1), .int .i64 (12)]) rfl rfl rfl (bI (in_i x.B 1 12 _) (eq_false_of_ne_true hg315)) ?_
              rintro e325 W324 ⟨rfl, hu323⟩; refine ⟨_, rfl, ?_⟩
              have H326 := H312.no hu323; clear H312
              refine aA ?_
              refine aB rfl (aJ (v := .bool (false)) (b := true) rfl rfl rfl rfl) rfl rfl ?_
              refine aA ?_
              refine aB rfl (aG rfl) rfl rfl ?_
              refine aF ?_
              refine aH ?_
              refine wp_ret ?_
              refine aY ?_
              refine aR ?_
              refine aM (.inl rfl) Try.results148 rfl ?_
              have hr327 : inst x = false := by first | (simp [inst, aQ, hc6, hc38, hc70, hc102, hc103, hc121, hc167, hc223, hc271, hc303, hg304n, hg307, hg315]; done) | (exfalso; omega) | (have q := hg304n; revert q; (simp [inst, aQ, hc6, hc38, hc70, hc102, hc103, hc121, hc167, hc223, hc271, hc303, hg307, hg315] <;> (intros; simp_all)); done)
              rw [hr327]
              exact ⟨rfl, H326.1⟩
            ·refine aA ?_
             refine aT rfl rfl rfl rfl (fun _ ho328 => ?_)
             refine aK ho328 Try.call165 (vs := #[.int .i64 (x.A)]) rfl rfl rfl (bI (bR x.A _) (eq_false_of_ne_true hg307)) ?_
             rintro e331 W330 ⟨rfl, hu329⟩; refine ⟨_, rfl, ?_⟩
             have H332 := Ha4.no hu329; clear Ha4
             refine aA ?_
             refine aB rfl (aJ (v := .bool (false)) (b := true) rfl rfl rfl rfl) rfl rfl ?_
             refine aA ?_
             refine aB rfl (aC rfl) rfl rfl ?_
             refine aA ?_
             refine aD rfl rfl rfl rfl rfl rfl rfl ?_
             refine aA ?_
             refine aD rfl rfl rfl rfl rfl rfl rfl ?_
             refine aA ?_
             refine aD rfl rfl rfl rfl rfl rfl rfl ?_
             refine aA ?_
             refine aB rfl (aJ (v := .bool (false)) (b := false) rfl rfl rfl rfl) rfl rfl ?_
             refine aA ?_
             refine aB rfl (aG rfl) rfl rfl ?_
             refine aF ?_
             refine aH ?_
             refine wp_ret ?_
             refine aY ?_
             refine aR ?_
             refine aM (.inl rfl) Try.results148 rfl ?_
             have hr333 : inst x = false := by first | (simp [inst, aQ, hc6, hc38, hc70, hc102, hc103, hc121, hc167, hc223, hc271, hc303, hg304n, hg307]; done) | (exfalso; omega) | (have q := hg304n; revert q; (simp [inst, aQ, hc6, hc38, hc70, hc102, hc103, hc121, hc167, hc223, hc271, hc303, hg307] <;> (intros; simp_all)); done)
             rw [hr333]
             exact ⟨rfl, H332.1⟩
           ·have hg304n := hg304
            rw [zq3 x] at hg304n
            refine aA ?_
            refine aB rfl (bM (b := bE x (⟨x.Op, x.A, x.B, 0, 0, ⟨#[]⟩⟩ : GInstr)) (eq_false_of_ne_true hg304) (dS Try.eqGuardType118 rfl rfl (dB x (⟨x.Op, x.A, x.B, 0, 0, ⟨#[]⟩⟩ : GInstr) _ 9998))) rfl rfl ?_
            refine aA ?_
            refine aB rfl (aC rfl) rfl rfl ?_
            refine aA ?_
            refine aD rfl rfl rfl rfl rfl rfl rfl ?_
            refine aA ?_
            refine aD rfl rfl rfl rfl rfl rfl rfl ?_
            refine aA ?_
            refine aD rfl rfl rfl rfl rfl rfl rfl ?_
            refine aA ?_
            refine aB rfl (aJ (v := .bool (false)) (b := false) rfl rfl rfl rfl) rfl rfl ?_
            refine aA ?_
            refine aB rfl (aC rfl) rfl rfl ?_
            refine aA ?_
            refine aD rfl rfl rfl rfl rfl rfl rfl ?_
            refine aA ?_
            refine aD rfl rfl rfl rfl rfl rfl rfl ?_
            refine aA ?_
            refine aD rfl rfl rfl rfl rfl rfl rfl ?_
            refine aA ?_
            refine aB rfl (aJ (v := .bool (false)) (b := false) rfl rfl rfl rfl) rfl rfl ?_
            refine aA ?_
            refine aB rfl (aG rfl) rfl rfl ?_
            refine aF ?_
            refine aH ?_
            refine wp_ret ?_
            refine aY ?_
            refine aR ?_
            refine aM (.inl rfl) Try.results148 rfl ?_
            have hr334 : inst x = false := by first | (simp [inst, aQ, hc6, hc38, hc70, hc102, hc103, hc121, hc167, hc223, hc271, hc303, hg304n]; done) | (exfalso; omega) | (have q := hg304n; revert q; (simp [inst, aQ, hc6, hc38, hc70, hc102, hc103, hc121, hc167, hc223, hc271, hc303] <;> (intros; simp_all)); done)
            rw [hr334]
            exact ⟨rfl, Ha4.1⟩
          ·refine wp_skip ?_
           refine dR ?_
           refine aH ?_
           refine wp_seq ?_
           refine aI [0] rfl ?_
           refine aA ?_
           refine aB rfl (aG rfl) rfl rfl ?_
           refine aF ?_
           refine aH ?_
           refine wp_ret ?_
           refine aM (.inl rfl) Try.results148 rfl ?_
           have hr335 : inst x = false := by first | (simp [inst, aQ, hc6, hc38, hc70, hc102, hc103, hc121, hc167, hc223, hc271, hc303]; done) | (exfalso; omega) | done
           rw [hr335]
           exact ⟨rfl, Ha4.1⟩
    ·refine aI [0, 1] rfl ?_
     refine aA ?_
     refine aB rfl (bD rfl rfl) rfl rfl ?_
     refine aA ?_
     refine aB rfl (aG rfl) rfl rfl ?_
     refine aF ?_
     refine aH ?_
     refine aW rfl (fun hc336 => ?_) (fun hc336 => ?_)
     ·refine wp_seq ?_
      refine aI [0, 1, 2, 3, 4, 5, 6, 7, 8, 9, 10, 11, 12] rfl ?_
      refine aA ?_
      refine aB rfl (bL Try.isAgg118 Try.sizeOf118 rfl (Ha4.blk 0 rfl) rfl) rfl rfl ?_
      refine aA ?_
      refine aB rfl (aN eH rfl) rfl rfl ?_
      refine aA ?_
      refine aB rfl (aS (k := 0) (v := .int .i64 (x.Op)) Try.isAgg3 rfl (Ha4.blk 0 rfl) rfl) rfl rfl ?_
      refine aA ?_
      refine aB rfl (aN bP rfl) rfl rfl ?_
      refine aA ?_
      refine aB rfl (aS (k := 1) (v := .int .i64 (x.A)) Try.isAgg3 rfl (Ha4.blk 0 rfl) rfl) rfl rfl ?_
      refine aA ?_
      refine aB rfl (bB (vs := [(0, .int .i64 (x.Op)), (1, .int .i64 (x.A))]) (cells := #[.int .i64 (x.Op), .int .i64 (x.A), .int .i64 (0), .int .i64 (0), .int .i64 (0), .string (⟨#[]⟩)]) rfl kR) rfl rfl ?_
      by_cases hg337 : (bE x (⟨x.Op, x.A, 0, 0, 0, ⟨#[]⟩⟩ : GInstr)) = true
      ·have hg337n := hg337
       rw [zq2 x] at hg337n
       refine aA ?_
       refine aB rfl (bM (b := bE x (⟨x.Op, x.A, 0, 0, 0, ⟨#[]⟩⟩ : GInstr)) hg337 (dS Try.eqGuardType118 rfl rfl (dB x (⟨x.Op, x.A, 0, 0, 0, ⟨#[]⟩⟩ : GInstr) _ 9998))) rfl rfl ?_
       refine aA ?_
       refine aB rfl (aC rfl) rfl rfl ?_
       refine aA ?_
       refine aT rfl rfl rfl rfl (fun _ ho338 => ?_)
       refine aB ho338 (aN bP rfl) rfl rfl ?_
       refine aA ?_
       refine aT rfl rfl rfl rfl (fun _ ho339 => ?_)
       refine aB ho339 (aS (k := 1) (v := .int .i64 (x.A)) Try.isAgg3 rfl (Ha4.blk 0 rfl) rfl) rfl rfl ?_
       by_cases hg340 : (rgB x.A) = true
       ·refine aA ?_
        refine aT rfl rfl rfl rfl (fun _ ho341 => ?_)
        refine aK ho341 Try.call165 (vs := #[.int .i64 (x.A)]) rfl rfl rfl (bI (bR x.A _) hg340) ?_
        rintro e344 W343 ⟨rfl, hu342⟩; refine ⟨_, rfl, ?_⟩
        have H345 := Ha4.no hu342; clear Ha4
        refine aA ?_
        refine aB rfl (aJ (v := .bool (true)) (b := true) rfl rfl rfl rfl) rfl rfl ?_
        refine aA ?_
        refine aB rfl (aG rfl) rfl rfl ?_
        refine aF ?_
        refine aH ?_
        refine wp_ret ?_
        refine aY ?_
        refine aR ?_
        refine aM (.inl rfl) Try.results148 rfl ?_
        have hr346 : inst x = true := by first | (simp [inst, aQ, hc6, hc38, hc70, hc102, hc336, hg337n, hg340]; done) | (exfalso; omega) | (have q := hg337n; revert q; (simp [inst, aQ, hc6, hc38, hc70, hc102, hc336, hg340] <;> (intros; simp_all)); done)
        rw [hr346]
        exact ⟨rfl, H345.1⟩
       ·refine aA ?_
        refine aT rfl rfl rfl rfl (fun _ ho347 => ?_)
        refine aK ho347 Try.call165 (vs := #[.int .i64 (x.A)]) rfl rfl rfl (bI (bR x.A _) (eq_false_of_ne_true hg340)) ?_
        rintro e350 W349 ⟨rfl, hu348⟩; refine ⟨_, rfl, ?_⟩
        have H351 := Ha4.no hu348; clear Ha4
        refine aA ?_
        refine aB rfl (aJ (v := .bool (false)) (b := true) rfl rfl rfl rfl) rfl rfl ?_
        refine aA ?_
        refine aB rfl (aG rfl) rfl rfl ?_
        refine aF ?_
        refine aH ?_
        refine wp_ret ?_
        refine aY ?_
        refine aR ?_
        refine aM (.inl rfl) Try.results148 rfl ?_
        have hr352 : inst x = false := by first | (simp [inst, aQ, hc6, hc38, hc70, hc102, hc336, hg337n, hg340]; done) | (exfalso; omega) | (have q := hg337n; revert q; (simp [inst, aQ, hc6, hc38, hc70, hc102, hc336, hg340] <;> (intros; simp_all)); done)
        rw [hr352]
        exact ⟨rfl, H351.1⟩
      ·have hg337n := hg337
       rw [zq2 x] at hg337n
       refine aA ?_
       refine aB rfl (bM (b := bE x (⟨x.Op, x.A, 0, 0, 0, ⟨#[]⟩⟩ : GInstr)) (eq_false_of_ne_true hg337) (dS Try.eqGuardType118 rfl rfl (dB x (⟨x.Op, x.A, 0, 0, 0, ⟨#[]⟩⟩ : GInstr) _ 9998))) rfl rfl ?_
       refine aA ?_
       refine aB rfl (aC rfl) rfl rfl ?_
       refine aA ?_
       refine aD rfl rfl rfl rfl rfl rfl rfl ?_
       refine aA ?_
       refine aD rfl rfl rfl rfl rfl rfl rfl ?_
       refine aA ?_
       refine aD rfl rfl rfl rfl rfl rfl rfl ?_
       refine aA ?_
       refine aB rfl (aJ (v := .bool (false)) (b := false) rfl rfl rfl rfl) rfl rfl ?_
       refine aA ?_
       refine aB rfl (aG rfl) rfl rfl ?_
       refine aF ?_
       refine aH ?_
       refine wp_ret ?_
       refine aY ?_
       refine aR ?_
       refine aM (.inl rfl) Try.results148 rfl ?_
       have hr353 : inst x = false := by first | (simp [inst, aQ, hc6, hc38, hc70, hc102, hc336, hg337n]; done) | (exfalso; omega) | (have q := hg337n; revert q; (simp [inst, aQ, hc6, hc38, hc70, hc102, hc336] <;> (intros; simp_all)); done)
       rw [hr353]
       exact ⟨rfl, Ha4.1⟩
     ·refine wp_seq ?_
      refine aI [0, 1] rfl ?_
      refine aA ?_
      refine aB rfl (bD rfl rfl) rfl rfl ?_
      refine aA ?_
      refine aB rfl (aG rfl) rfl rfl ?_
      refine aF ?_
      refine aH ?_
      refine aW rfl (fun hc354 => ?_) (fun hc354 => ?_)
      ·refine wp_seq ?_
       refine aI [0, 1, 2, 3, 4, 5, 6, 7, 8, 9, 10, 11, 12, 13, 14, 15, 16, 17, 18, 19, 20, 21, 22, 23, 24, 25, 26] rfl ?_
       refine aA ?_
       refine aB rfl (bL Try.isAgg118 Try.sizeOf118 rfl (Ha4.blk 0 rfl) rfl) rfl rfl ?_
       refine aA ?_
       refine aB rfl (aN eH rfl) rfl rfl ?_
       refine aA ?_
       refine aB rfl (aS (k := 0) (v := .int .i64 (x.Op)) Try.isAgg3 rfl (Ha4.blk 0 rfl) rfl) rfl rfl ?_
       refine aA ?_
       refine aB rfl (aN bP rfl) rfl rfl ?_
       refine aA ?_
       refine aB rfl (aS (k := 1) (v := .int .i64 (x.A)) Try.isAgg3 rfl (Ha4.blk 0 rfl) rfl) rfl rfl ?_
       refine aA ?_
       refine aB rfl (aN bU rfl) rfl rfl ?_
       refine aA ?_
       refine aB rfl (aS (k := 2) (v := .int .i64 (x.B)) Try.isAgg3 rfl (Ha4.blk 0 rfl) rfl) rfl rfl ?_
       refine aA ?_
       refine aB rfl (aN eU rfl) rfl rfl ?_
       refine aA ?_
       refine aB rfl (aS (k := 3) (v := .int .i64 (x.C)) Try.isAgg3 rfl (Ha4.blk 0 rfl) rfl) rfl rfl ?_
       refine aA ?_
       refine aB rfl (bB (vs := [(0, .int .i64 (x.Op)), (1, .int .i64 (x.A)), (2, .int .i64 (x.B)), (3, .int .i64 (x.C))]) (cells := #[.int .i64 (x.Op), .int .i64 (x.A), .int .i64 (x.B), .int .i64 (x.C), .int .i64 (0), .string (⟨#[]⟩)]) rfl kR) rfl rfl ?_
       by_cases hg355 : (bE x (⟨x.Op, x.A, x.B, x.C, 0, ⟨#[]⟩⟩ : GInstr)) = true
       ·have hg355n := hg355
        rw [zq4 x] at hg355n
        refine aA ?_
        refine aB rfl (bM (b := bE x (⟨x.Op, x.A, x.B, x.C, 0, ⟨#[]⟩⟩ : GInstr)) hg355 (dS Try.eqGuardType118 rfl rfl (dB x (⟨x.Op, x.A, x.B, x.C, 0, ⟨#[]⟩⟩ : GInstr) _ 9998))) rfl rfl ?_
        refine aA ?_
        refine aB rfl (aC rfl) rfl rfl ?_
        refine aA ?_
        refine aT rfl rfl rfl rfl (fun _ ho356 => ?_)
        refine aB ho356 (aN bP rfl) rfl rfl ?_
        refine aA ?_
        refine aT rfl rfl rfl rfl (fun _ ho357 => ?_)
        refine aB ho357 (aS (k := 1) (v := .int .i64 (x.A)) Try.isAgg3 rfl (Ha4.blk 0 rfl) rfl) rfl rfl ?_
        by_cases hg358 : (rgB x.A) = true
        ·refine aA ?_
         refine aT rfl rfl rfl rfl (fun _ ho359 => ?_)
         refine aK ho359 Try.call165 (vs := #[.int .i64 (x.A)]) rfl rfl rfl (bI (bR x.A _) hg358) ?_
         rintro e362 W361 ⟨rfl, hu360⟩; refine ⟨_, rfl, ?_⟩
         have H363 := Ha4.no hu360; clear Ha4
         refine aA ?_
         refine aB rfl (aJ (v := .bool (true)) (b := true) rfl rfl rfl rfl) rfl rfl ?_
         refine aA ?_
         refine aB rfl (aC rfl) rfl rfl ?_
         refine aA ?_
         refine aT rfl rfl rfl rfl (fun _ ho364 => ?_)
         refine aB ho364 (aN bU rfl) rfl rfl ?_
         refine aA ?_
         refine aT rfl rfl rfl rfl (fun _ ho365 => ?_)
         refine aB ho365 (aS (k := 2) (v := .int .i64 (x.B)) Try.isAgg3 rfl (H363.blk 0 rfl) rfl) rfl rfl ?_
         by_cases hg366 : (rgB x.B) = true
         ·refine aA ?_
          refine aT rfl rfl rfl rfl (fun _ ho367 => ?_)
          refine aK ho367 Try.call165 (vs := #[.int .i64 (x.B)]) rfl rfl rfl (bI (bR x.B _) hg366) ?_
          rintro e370 W369 ⟨rfl, hu368⟩; refine ⟨_, rfl, ?_⟩
          have H371 := H363.no hu368; clear H363
          refine aA ?_
          refine aB rfl (aJ (v := .bool (true)) (b := true) rfl rfl rfl rfl) rfl rfl ?_
          refine aA ?_
          refine aB rfl (aC rfl) rfl rfl ?_
          refine aA ?_
          refine aT rfl rfl rfl rfl (fun _ ho372 => ?_)
          refine aB ho372 (aN eU rfl) rfl rfl ?_
          refine aA ?_
          refine aT rfl rfl rfl rfl (fun _ ho373 => ?_)
          refine aB ho373 (aS (k := 3) (v := .int .i64 (x.C)) Try.isAgg3 rfl (H371.blk 0 rfl) rfl) rfl rfl ?_
          by_cases hg374 : (rgB x.C) = true
          ·refine aA ?_
           refine aT rfl rfl rfl rfl (fun _ ho375 => ?_)
           refine aK ho375 Try.call165 (vs := #[.int .i64 (x.C)]) rfl rfl rfl (bI (bR x.C _) hg374) ?_
           rintro e378 W377 ⟨rfl, hu376⟩; refine ⟨_, rfl, ?_⟩
           have H379 := H371.no hu376; clear H371
           refine aA ?_
           refine aB rfl (aJ (v := .bool (true)) (b := true) rfl rfl rfl rfl) rfl rfl ?_
           refine aA ?_
           refine aB rfl (aG rfl) rfl rfl ?_
           refine aF ?_
           refine aH ?_
           refine wp_ret ?_
           refine aY ?_
           refine aR ?_
           refine aM (.inl rfl) Try.results148 rfl ?_
           have hr380 : inst x = true := by first | (simp [inst, aQ, hc6, hc38, hc70, hc102, hc336, hc354, hg355n, hg358, hg366, hg374]; done) | (exfalso; omega) | (have q := hg355n; revert q; (simp [inst, aQ, hc6, hc38, hc70, hc102, hc336, hc354, hg358, hg366, hg374] <;> (intros; simp_all)); done)
           rw [hr380]
           exact ⟨rfl, H379.1⟩
          ·refine aA ?_
           refine aT rfl rfl rfl rfl (fun _ ho381 => ?_)
           refine aK ho381 Try.call165 (vs := #[.int .i64 (x.C)]) rfl rfl rfl (bI (bR x.C _) (eq_false_of_ne_true hg374)) ?_
           rintro e384 W383 ⟨rfl, hu382⟩; refine ⟨_, rfl, ?_⟩
           have H385 := H371.no hu382; clear H371
           refine aA ?_
           refine aB rfl (aJ (v := .bool (false)) (b := true) rfl rfl rfl rfl) rfl rfl ?_
           refine aA ?_
           refine aB rfl (aG rfl) rfl rfl ?_
           refine aF ?_
           refine aH ?_
           refine wp_ret ?_
           refine aY ?_
           refine aR ?_
           refine aM (.inl rfl) Try.results148 rfl ?_
           have hr386 : inst x = false := by first | (simp [inst, aQ, hc6, hc38, hc70, hc102, hc336, hc354, hg355n, hg358, hg366, hg374]; done) | (exfalso; omega) | (have q := hg355n; revert q; (simp [inst, aQ, hc6, hc38, hc70, hc102, hc336, hc354, hg358, hg366, hg374] <;> (intros; simp_all)); done)
           rw [hr386]
           exact ⟨rfl, H385.1⟩
         ·refine aA ?_
          refine aT rfl rfl rfl rfl (fun _ ho387 => ?_)
          refine aK ho387 Try.call165 (vs := #[.int .i64 (x.B)]) rfl rfl rfl (bI (bR x.B _) (eq_false_of_ne_true hg366)) ?_
          rintro e390 W389 ⟨rfl, hu388⟩; refine ⟨_, rfl, ?_⟩
          have H391 := H363.no hu388; clear H363
          refine aA ?_
          refine aB rfl (aJ (v := .bool (false)) (b := true) rfl rfl rfl rfl) rfl rfl ?_
          refine aA ?_
          refine aB rfl (aC rfl) rfl rfl ?_
          refine aA ?_
          refine aD rfl rfl rfl rfl rfl rfl rfl ?_
          refine aA ?_
          refine aD rfl rfl rfl rfl rfl rfl rfl ?_
          refine aA ?_
          refine aD rfl rfl rfl rfl rfl rfl rfl ?_
          refine aA ?_
          refine aB rfl (aJ (v := .bool (false)) (b := false) rfl rfl rfl rfl) rfl rfl ?_
          refine aA ?_
          refine aB rfl (aG rfl) rfl rfl ?_
          refine aF ?_
          refine aH ?_
          refine wp_ret ?_
          refine aY ?_
          refine aR ?_
          refine aM (.inl rfl) Try.results148 rfl ?_
          have hr392 : inst x = false := by first | (simp [inst, aQ, hc6, hc38, hc70, hc102, hc336, hc354, hg355n, hg358, hg366]; done) | (exfalso; omega) | (have q := hg355n; revert q; (simp [inst, aQ, hc6, hc38, hc70, hc102, hc336, hc354, hg358, hg366] <;> (intros; simp_all)); done)
          rw [hr392]
          exact ⟨rfl, H391.1⟩
        ·refine aA ?_
         refine aT rfl rfl rfl rfl (fun _ ho393 => ?_)
         refine aK ho393 Try.call165 (vs := #[.int .i64 (x.A)]) rfl rfl rfl (bI (bR x.A _) (eq_false_of_ne_true hg358)) ?_
         rintro e396 W395 ⟨rfl, hu394⟩; refine ⟨_, rfl, ?_⟩
         have H397 := Ha4.no hu394; clear Ha4
         refine aA ?_
         refine aB rfl (aJ (v := .bool (false)) (b := true) rfl rfl rfl rfl) rfl rfl ?_
         refine aA ?_
         refine aB rfl (aC rfl) rfl rfl ?_
         refine aA ?_
         refine aD rfl rfl rfl rfl rfl rfl rfl ?_
         refine aA ?_
         refine aD rfl rfl rfl rfl rfl rfl rfl ?_
         refine aA ?_
         refine aD rfl rfl rfl rfl rfl rfl rfl ?_
         refine aA ?_
         refine aB rfl (aJ (v := .bool (false)) (b := false) rfl rfl rfl rfl) rfl rfl ?_
         refine aA ?_
         refine aB rfl (aC rfl) rfl rfl ?_
         refine aA ?_
         refine aD rfl rfl rfl rfl rfl rfl rfl ?_
         refine aA ?_
         refine aD rfl rfl rfl rfl rfl rfl rfl ?_
         refine aA ?_
         refine aD rfl rfl rfl rfl rfl rfl rfl ?_
         refine aA ?_
         refine aB rfl (aJ (v := .bool (false)) (b := false) rfl rfl rfl rfl) rfl rfl ?_
         refine aA ?_
         refine aB rfl (aG rfl) rfl rfl ?_
         refine aF ?_
         refine aH ?_
         refine wp_ret ?_
         refine aY ?_
         refine aR ?_
         refine aM (.inl rfl) Try.results148 rfl ?_
         have hr398 : inst x = false := by first | (simp [inst, aQ, hc6, hc38, hc70, hc102, hc336, hc354, hg355n, hg358]; done) | (exfalso; omega) | (have q := hg355n; revert q; (simp [inst, aQ, hc6, hc38, hc70, hc102, hc336, hc354, hg358] <;> (intros; simp_all)); done)
         rw [hr398]
         exact ⟨rfl, H397.1⟩
       ·have hg355n := hg355
        rw [zq4 x] at hg355n
        refine aA ?_
        refine aB rfl (bM (b := bE x (⟨x.Op, x.A, x.B, x.C, 0, ⟨#[]⟩⟩ : GInstr)) (eq_false_of_ne_true hg355) (dS Try.eqGuardType118 rfl rfl (dB x (⟨x.Op, x.A, x.B, x.C, 0, ⟨#[]⟩⟩ : GInstr) _ 9998))) rfl rfl ?_
        refine aA ?_
        refine aB rfl (aC rfl) rfl rfl ?_
        refine aA ?_
        refine aD rfl rfl rfl rfl rfl rfl rfl ?_
        refine aA ?_
        refine aD rfl rfl rfl rfl rfl rfl rfl ?_
        refine aA ?_
        refine aD rfl rfl rfl rfl rfl rfl rfl ?_
        refine aA ?_
        refine aB rfl (aJ (v := .bool (false)) (b := false) rfl rfl rfl rfl) rfl rfl ?_
        refine aA ?_
        refine aB rfl (aC rfl) rfl rfl ?_
        refine aA ?_
        refine aD rfl rfl rfl rfl rfl rfl rfl ?_
        refine aA ?_
        refine aD rfl rfl rfl rfl rfl rfl rfl ?_
        refine aA ?_
        refine aD rfl rfl rfl rfl rfl rfl rfl ?_
        refine aA ?_
        refine aB rfl (aJ (v := .bool (false)) (b := false) rfl rfl rfl rfl) rfl rfl ?_
        refine aA ?_
        refine aB rfl (aC rfl) rfl rfl ?_
        refine aA ?_
        refine aD rfl rfl rfl rfl rfl rfl rfl ?_
        refine aA ?_
        refine aD rfl rfl rfl rfl rfl rfl rfl ?_
        refine aA ?_
        refine aD rfl rfl rfl rfl rfl rfl rfl ?_
        refine aA ?_
        refine aB rfl (aJ (v := .bool (false)) (b := false) rfl rfl rfl rfl) rfl rfl ?_
        refine aA ?_
        refine aB rfl (aG rfl) rfl rfl ?_
        refine aF ?_
        refine aH ?_
        refine wp_ret ?_
        refine aY ?_
        refine aR ?_
        refine aM (.inl rfl) Try.results148 rfl ?_
        have hr399 : inst x = false := by first | (simp [inst, aQ, hc6, hc38, hc70, hc102, hc336, hc354, hg355n]; done) | (exfalso; omega) | (have q := hg355n; revert q; (simp [inst, aQ, hc6, hc38, hc70, hc102, hc336, hc354] <;> (intros; simp_all)); done)
        rw [hr399]
        exact ⟨rfl, Ha4.1⟩
      ·refine wp_seq ?_
       refine aI [0, 1] rfl ?_
       refine aA ?_
       refine aB rfl (bD rfl rfl) rfl rfl ?_
       refine aA ?_
       refine aB rfl (aG rfl) rfl rfl ?_
       refine aF ?_
       refine aH ?_
       refine aW rfl (fun hc400 => ?_) (fun hc400 => ?_)
       ·refine wp_seq ?_
        refine aI [0, 1, 2, 3, 4, 5, 6, 7, 8, 9, 10, 11, 12, 13, 14, 15, 16, 17, 18, 19, 20] rfl ?_
        refine aA ?_
        refine aB rfl (aN bP rfl) rfl rfl ?_
        refine aA ?_
        refine aB rfl (aS (k := 1) (v := .int .i64 (x.A)) Try.isAgg3 rfl (Ha4.blk 0 rfl) rfl) rfl rfl ?_
        by_cases hg401 : (rgB x.A) = true
        ·refine aA ?_
         refine aK rfl Try.call165 (vs := #[.int .i64 (x.A)]) rfl rfl rfl (bI (bR x.A _) hg401) ?_
         rintro e404 W403 ⟨rfl, hu402⟩; refine ⟨_, rfl, ?_⟩
         have H405 := Ha4.no hu402; clear Ha4
         refine aA ?_
         refine aB rfl (aC rfl) rfl rfl ?_
         refine aA ?_
         refine aT rfl rfl rfl rfl (fun _ ho406 => ?_)
         refine aB ho406 (aN bU rfl) rfl rfl ?_
         refine aA ?_
         refine aT rfl rfl rfl rfl (fun _ ho407 => ?_)
         refine aB ho407 (aS (k := 2) (v := .int .i64 (x.B)) Try.isAgg3 rfl (H405.blk 0 rfl) rfl) rfl rfl ?_
         by_cases hg408 : (rgB x.B) = true
         ·refine aA ?_
          refine aT rfl rfl rfl rfl (fun _ ho409 => ?_)
          refine aK ho409 Try.call165 (vs := #[.int .i64 (x.B)]) rfl rfl rfl (bI (bR x.B _) hg408) ?_
          rintro e412 W411 ⟨rfl, hu410⟩; refine ⟨_, rfl, ?_⟩
          have H413 := H405.no hu410; clear H405
          refine aA ?_
          refine aB rfl (aJ (v := .bool (true)) (b := true) rfl rfl rfl rfl) rfl rfl ?_
          refine aA ?_
          refine aB rfl (aC rfl) rfl rfl ?_
          refine aA ?_
          refine aT rfl rfl rfl rfl (fun _ ho414 => ?_)
          refine aB ho414 (aN eU rfl) rfl rfl ?_
          refine aA ?_
          refine aT rfl rfl rfl rfl (fun _ ho415 => ?_)
          refine aB ho415 (aS (k := 3) (v := .int .i64 (x.C)) Try.isAgg3 rfl (H413.blk 0 rfl) rfl) rfl rfl ?_
          refine aA ?_
          refine aT rfl rfl rfl rfl (fun _ ho416 => ?_)
          refine aB ho416 (aN fE rfl) rfl rfl ?_
          refine aA ?_
          refine aT rfl rfl rfl rfl (fun _ ho417 => ?_)
          refine aB ho417 (aS (k := 4) (v := .int .i64 (x.D)) Try.isAgg3 rfl (H413.blk 0 rfl) rfl) rfl rfl ?_
          by_cases hg418 : (prB x.C x.D) = true
          ·refine aA ?_
           refine aT rfl rfl rfl rfl (fun _ ho419 => ?_)
           refine aK ho419 Try.call166 (vs := #[.int .i64 (x.C), .int .i64 (x.D)]) rfl rfl rfl (bI (gZ x.C x.D _) hg418) ?_
           rintro e422 W421 ⟨rfl, hu420⟩; refine ⟨_, rfl, ?_⟩
           have H423 := H413.no hu420; clear H413
           refine aA ?_
           refine aB rfl (aJ (v := .bool (true)) (b := true) rfl rfl rfl rfl) rfl rfl ?_
           refine aA ?_
           refine aB rfl (aC rfl) rfl rfl ?_
           refine aA ?_
           refine aT rfl rfl rfl rfl (fun _ ho424 => ?_)
           refine aB ho424 (aN fU rfl) rfl rfl ?_
           refine aA ?_
           refine aT rfl rfl rfl rfl (fun _ ho425 => ?_)
           refine aB ho425 (aS (k := 5) (v := .string (x.Name)) Try.isAgg9 rfl (H423.blk 0 rfl) rfl) rfl rfl ?_
           by_cases hg426 : (nmB x.Name) = true
           ·refine aA ?_
            refine aT rfl rfl rfl rfl (fun _ ho427 => ?_)
            refine aK ho427 Try.call115 (vs := #[.string (x.Name)]) rfl rfl rfl (bI (fF x.Name _) hg426) ?_
            rintro e430 W429 ⟨rfl, hu428⟩; refine ⟨_, rfl, ?_⟩
            have H431 := H423.no hu428; clear H423
            refine aA ?_
            refine aB rfl (aJ (v := .bool (true)) (b := true) rfl rfl rfl rfl) rfl rfl ?_
            refine aA ?_
            refine aB rfl (aG rfl) rfl rfl ?_
            refine aF ?_
            refine aH ?_
            refine wp_ret ?_
            refine aY ?_
            refine aR ?_
            refine aM (.inl rfl) Try.results148 rfl ?_
            have hr432 : inst x = true := by first | (simp [inst, aQ, hc6, hc38, hc70, hc102, hc336, hc354, hc400, hg401, hg408, hg418, hg426]; done) | (exfalso; omega) | done
            rw [hr432]
            exact ⟨rfl, H431.1⟩
           ·refine aA ?_
            refine aT rfl rfl rfl rfl (fun _ ho433 => ?_)
            refine aK ho433 Try.call115 (vs := #[.string (x.Name)]) rfl rfl rfl (bI (fF x.Name _) (eq_false_of_ne_true hg426)) ?_
            rintro e436 W435 ⟨rfl, hu434⟩; refine ⟨_, rfl, ?_⟩
            have H437 := H423.no hu434; clear H423
            refine aA ?_
            refine aB rfl (aJ (v := .bool (false)) (b := true) rfl rfl rfl rfl) rfl rfl ?_
            refine aA ?_
            refine aB rfl (aG rfl) rfl rfl ?_
            refine aF ?_
            refine aH ?_
            refine wp_ret ?_
            refine aY ?_
            refine aR ?_
            refine aM (.inl rfl) Try.results148 rfl ?_
            have hr438 : inst x = false := by first | (simp [inst, aQ, hc6, hc38, hc70, hc102, hc336, hc354, hc400, hg401, hg408, hg418, hg426]; done) | (exfalso; omega) | done
            rw [hr438]
            exact ⟨rfl, H437.1⟩
          ·refine aA ?_
           refine aT rfl rfl rfl rfl (fun _ ho439 => ?_)
           refine aK ho439 Try.call166 (vs := #[.int .i64 (x.C), .int .i64 (x.D)]) rfl rfl rfl (bI (gZ x.C x.D _) (eq_false_of_ne_true hg418)) ?_
           rintro e442 W441 ⟨rfl, hu440⟩; refine ⟨_, rfl, ?_⟩
           have H443 := H413.no hu440; clear H413
           refine aA ?_
           refine aB rfl (aJ (v := .bool (false)) (b := true) rfl rfl rfl rfl) rfl rfl ?_
           refine aA ?_
           refine aB rfl (aC rfl) rfl rfl ?_
           refine aA ?_
           refine aD rfl rfl rfl rfl rfl rfl rfl ?_
           refine aA ?_
           refine aD rfl rfl rfl rfl rfl rfl rfl ?_
           refine aA ?_
           refine aD rfl rfl rfl rfl rfl rfl rfl ?_
           refine aA ?_
           refine aB rfl (aJ (v := .bool (false)) (b := false) rfl rfl rfl rfl) rfl rfl ?_
           refine aA ?_
           refine aB rfl (aG rfl) rfl rfl ?_
           refine aF ?_
           refine aH ?_
           refine wp_ret ?_
           refine aY ?_
           refine aR ?_
           refine aM (.inl rfl) Try.results148 rfl ?_
           have hr444 : inst x = false := by first | (simp [inst, aQ, hc6, hc38, hc70, hc102, hc336, hc354, hc400, hg401, hg408, hg418]; done) | (exfalso; omega) | done
           rw [hr444]
           exact ⟨rfl, H443.1⟩
         ·refine aA ?_
          refine aT rfl rfl rfl rfl (fun _ ho445 => ?_)
          refine aK ho445 Try.call165 (vs := #[.int .i64 (x.B)]) rfl rfl rfl (bI (bR x.B _) (eq_false_of_ne_true hg408)) ?_
          rintro e448 W447 ⟨rfl, hu446⟩; refine ⟨_, rfl, ?_⟩
          have H449 := H405.no hu446; clear H405
          refine aA ?_
          refine aB rfl (aJ (v := .bool (false)) (b := true) rfl rfl rfl rfl) rfl rfl ?_
          refine aA ?_
          refine aB rfl (aC rfl) rfl rfl ?_
          refine aA ?_
          refine aD rfl rfl rfl rfl rfl rfl rfl ?_
          refine aA ?_
          refine aD rfl rfl rfl rfl rfl rfl rfl ?_
          refine aA ?_
          refine aD rfl rfl rfl rfl rfl rfl rfl ?_
          refine aA ?_
          refine aD rfl rfl rfl rfl rfl rfl rfl ?_
          refine aA ?_
          refine aD rfl rfl rfl rfl rfl rfl rfl ?_
          refine aA ?_
          refine aB rfl (aJ (v := .bool (false)) (b := false) rfl rfl rfl rfl) rfl rfl ?_
          refine aA ?_
          refine aB rfl (aC rfl) rfl rfl ?_
          refine aA ?_
          refine aD rfl rfl rfl rfl rfl rfl rfl ?_
          refine aA ?_
          refine aD rfl rfl rfl rfl rfl rfl rfl ?_
          refine aA ?_
          refine aD rfl rfl rfl rfl rfl rfl rfl ?_
          refine aA ?_
          refine aB rfl (aJ (v := .bool (false)) (b := false) rfl rfl rfl rfl) rfl rfl ?_
          refine aA ?_
          refine aB rfl (aG rfl) rfl rfl ?_
          refine aF ?_
          refine aH ?_
          refine wp_ret ?_
          refine aY ?_
          refine aR ?_
          refine aM (.inl rfl) Try.results148 rfl ?_
          have hr450 : inst x = false := by first | (simp [inst, aQ, hc6, hc38, hc70, hc102, hc336, hc354, hc400, hg401, hg408]; done) | (exfalso; omega) | done
          rw [hr450]
          exact ⟨rfl, H449.1⟩
        ·refine aA ?_
         refine aK rfl Try.call165 (vs := #[.int .i64 (x.A)]) rfl rfl rfl (bI (bR x.A _) (eq_false_of_ne_true hg401)) ?_
         rintro e453 W452 ⟨rfl, hu451⟩; refine ⟨_, rfl, ?_⟩
         have H454 := Ha4.no hu451; clear Ha4
         refine aA ?_
         refine aB rfl (aC rfl) rfl rfl ?_
         refine aA ?_
         refine aD rfl rfl rfl rfl rfl rfl rfl ?_
         refine aA ?_
         refine aD rfl rfl rfl rfl rfl rfl rfl ?_
         refine aA ?_
         refine aD rfl rfl rfl rfl rfl rfl rfl ?_
         refine aA ?_
         refine aB rfl (aJ (v := .bool (false)) (b := false) rfl rfl rfl rfl) rfl rfl ?_
         refine aA ?_
         refine aB rfl (aC rfl) rfl rfl ?_
         refine aA ?_
         refine aD rfl rfl rfl rfl rfl rfl rfl ?_
         refine aA ?_
         refine aD rfl rfl rfl rfl rfl rfl rfl ?_
         refine aA ?_
         refine aD rfl rfl rfl rfl rfl rfl rfl ?_
         refine aA ?_
         refine aD rfl rfl rfl rfl rfl rfl rfl ?_
         refine aA ?_
         refine aD rfl rfl rfl rfl rfl rfl rfl ?_
         refine aA ?_
         refine aB rfl (aJ (v := .bool (false)) (b := false) rfl rfl rfl rfl) rfl rfl ?_
         refine aA ?_
         refine aB rfl (aC rfl) rfl rfl ?_
         refine aA ?_
         refine aD rfl rfl rfl rfl rfl rfl rfl ?_
         refine aA ?_
         refine aD rfl rfl rfl rfl rfl rfl rfl ?_
         refine aA ?_
         refine aD rfl rfl rfl rfl rfl rfl rfl ?_
         refine aA ?_
         refine aB rfl (aJ (v := .bool (false)) (b := false) rfl rfl rfl rfl) rfl rfl ?_
         refine aA ?_
         refine aB rfl (aG rfl) rfl rfl ?_
         refine aF ?_
         refine aH ?_
         refine wp_ret ?_
         refine aY ?_
         refine aR ?_
         refine aM (.inl rfl) Try.results148 rfl ?_
         have hr455 : inst x = false := by first | (simp [inst, aQ, hc6, hc38, hc70, hc102, hc336, hc354, hc400, hg401]; done) | (exfalso; omega) | done
         rw [hr455]
         exact ⟨rfl, H454.1⟩
       ·refine wp_seq ?_
        refine aI [0, 1] rfl ?_
        refine aA ?_
        refine aB rfl (bD rfl rfl) rfl rfl ?_
        refine aA ?_
        refine aB rfl (aG rfl) rfl rfl ?_
        refine aF ?_
        refine aH ?_
        refine aW rfl (fun hc456 => ?_) (fun hc456 => ?_)
        ·refine wp_seq ?_
         refine aI [0, 1, 2, 3, 4, 5, 6, 7, 8, 9, 10, 11, 12, 13, 14, 15, 16, 17, 18, 19, 20] rfl ?_
         refine aA ?_
         refine aB rfl (aN bP rfl) rfl rfl ?_
         refine aA ?_
         refine aB rfl (aS (k := 1) (v := .int .i64 (x.A)) Try.isAgg3 rfl (Ha4.blk 0 rfl) rfl) rfl rfl ?_
         by_cases hg457 : (rgB x.A) = true
         ·refine aA ?_
          refine aK rfl Try.call165 (vs := #[.int .i64 (x.A)]) rfl rfl rfl (bI (bR x.A _) hg457) ?_
          rintro e460 W459 ⟨rfl, hu458⟩; refine ⟨_, rfl, ?_⟩
          have H461 := Ha4.no hu458; clear Ha4
          refine aA ?_
          refine aB rfl (aC rfl) rfl rfl ?_
          refine aA ?_
          refine aT rfl rfl rfl rfl (fun _ ho462 => ?_)
          refine aB ho462 (aN bU rfl) rfl rfl ?_
          refine aA ?_
          refine aT rfl rfl rfl rfl (fun _ ho463 => ?_)
          refine aB ho463 (aS (k := 2) (v := .int .i64 (x.B)) Try.isAgg3 rfl (H461.blk 0 rfl) rfl) rfl rfl ?_
          by_cases hg464 : (x.B : Int) = 0
          ·refine aA ?_
           refine aT rfl rfl rfl rfl (fun _ ho465 => ?_)
           refine aB ho465 (bQ hg464 (bD rfl rfl)) rfl rfl ?_
           refine aA ?_
           refine aB rfl (aJ (v := .bool (true)) (b := true) rfl rfl rfl rfl) rfl rfl ?_
           refine aA ?_
           refine aB rfl (aC rfl) rfl rfl ?_
           refine aA ?_
           refine aT rfl rfl rfl rfl (fun _ ho466 => ?_)
           refine aB ho466 (aN eU rfl) rfl rfl ?_
           refine aA ?_
           refine aT rfl rfl rfl rfl (fun _ ho467 => ?_)
           refine aB ho467 (aS (k := 3) (v := .int .i64 (x.C)) Try.isAgg3 rfl (H461.blk 0 rfl) rfl) rfl rfl ?_
           refine aA ?_
           refine aT rfl rfl rfl rfl (fun _ ho468 => ?_)
           refine aB ho468 (aN fE rfl) rfl rfl ?_
           refine aA ?_
           refine aT rfl rfl rfl rfl (fun _ ho469 => ?_)
           refine aB ho469 (aS (k := 4) (v := .int .i64 (x.D)) Try.isAgg3 rfl (H461.blk 0 rfl) rfl) rfl rfl ?_
           by_cases hg470 : (prB x.C x.D) = true
           ·refine aA ?_
            refine aT rfl rfl rfl rfl (fun _ ho471 => ?_)
            refine aK ho471 Try.call166 (vs := #[.int .i64 (x.C), .int .i64 (x.D)]) rfl rfl rfl (bI (gZ x.C x.D _) hg470) ?_
            rintro e474 W473 ⟨rfl, hu472⟩; refine ⟨_, rfl, ?_⟩
            have H475 := H461.no hu472; clear H461
            refine aA ?_
            refine aB rfl (aJ (v := .bool (true)) (b := true) rfl rfl rfl rfl) rfl rfl ?_
            refine aA ?_
            refine aB rfl (aC rfl) rfl rfl ?_
            refine aA ?_
            refine aT rfl rfl rfl rfl (fun _ ho476 => ?_)
            refine aB ho476 (aN fU rfl) rfl rfl ?_
            refine aA ?_
            refine aT rfl rfl rfl rfl (fun _ ho477 => ?_)
            refine aB ho477 (aS (k := 5) (v := .string (x.Name)) Try.isAgg9 rfl (H475.blk 0 rfl) rfl) rfl rfl ?_
            by_cases hg478 : (nmB x.Name) = true
            ·refine aA ?_
             refine aT rfl rfl rfl rfl (fun _ ho479 => ?_)
             refine aK ho479 Try.call115 (vs := #[.string (x.Name)]) rfl rfl rfl (bI (fF x.Name _) hg478) ?_
             rintro e482 W481 ⟨rfl, hu480⟩; refine ⟨_, rfl, ?_⟩
             have H483 := H475.no hu480; clear H475
             refine aA ?_
             refine aB rfl (aJ (v := .bool (true)) (b := true) rfl rfl rfl rfl) rfl rfl ?_
             refine aA ?_
             refine aB rfl (aG rfl) rfl rfl ?_
             refine aF ?_
             refine aH ?_
             refine wp_ret ?_
             refine aY ?_
             refine aR ?_
             refine aM (.inl rfl) Try.results148 rfl ?_
             have hr484 : inst x = true := by first | (simp [inst, aQ, hc6, hc38, hc70, hc102, hc336, hc354, hc400, hc456, hg457, hg464, hg470, hg478]; done) | (exfalso; omega) | done
             rw [hr484]
             exact ⟨rfl, H483.1⟩
            ·refine aA ?_
             refine aT rfl rfl rfl rfl (fun _ ho485 => ?_)
             refine aK ho485 Try.call115 (vs := #[.string (x.Name)]) rfl rfl rfl (bI (fF x.Name _) (eq_false_of_ne_true hg478)) ?_
             rintro e488 W487 ⟨rfl, hu486⟩; refine ⟨_, rfl, ?_⟩
             have H489 := H475.no hu486; clear H475
             refine aA ?_
             refine aB rfl (aJ (v := .bool (false)) (b := true) rfl rfl rfl rfl) rfl rfl ?_
             refine aA ?_
             refine aB rfl (aG rfl) rfl rfl ?_
             refine aF ?_
             refine aH ?_
             refine wp_ret ?_
             refine aY ?_
             refine aR ?_
             refine aM (.inl rfl) Try.results148 rfl ?_
             have hr490 : inst x = false := by first | (simp [inst, aQ, hc6, hc38, hc70, hc102, hc336, hc354, hc400, hc456, hg457, hg464, hg470, hg478]; done) | (exfalso; omega) | done
             rw [hr490]
             exact ⟨rfl, H489.1⟩
           ·refine aA ?_
            refine aT rfl rfl rfl rfl (fun _ ho491 => ?_)
            refine aK ho491 Try.call166 (vs := #[.int .i64 (x.C), .int .i64 (x.D)]) rfl rfl rfl (bI (gZ x.C x.D _) (eq_false_of_ne_true hg470)) ?_
            rintro e494 W493 ⟨rfl, hu492⟩; refine ⟨_, rfl, ?_⟩
            have H495 := H461.no hu492; clear H461
            refine aA ?_
            refine aB rfl (aJ (v := .bool (false)) (b := true) rfl rfl rfl rfl) rfl rfl ?_
            refine aA ?_
            refine aB rfl (aC rfl) rfl rfl ?_
            refine aA ?_
            refine aD rfl rfl rfl rfl rfl rfl rfl ?_
            refine aA ?_
            refine aD rfl rfl rfl rfl rfl rfl rfl ?_
            refine aA ?_
            refine aD rfl rfl rfl rfl rfl rfl rfl ?_
            refine aA ?_
            refine aB rfl (aJ (v := .bool (false)) (b := false) rfl rfl rfl rfl) rfl rfl ?_
            refine aA ?_
            refine aB rfl (aG rfl) rfl rfl ?_
            refine aF ?_
            refine aH ?_
            refine wp_ret ?_
            refine aY ?_
            refine aR ?_
            refine aM (.inl rfl) Try.results148 rfl ?_
            have hr496 : inst x = false := by first | (simp [inst, aQ, hc6, hc38, hc70, hc102, hc336, hc354, hc400, hc456, hg457, hg464, hg470]; done) | (exfalso; omega) | done
            rw [hr496]
            exact ⟨rfl, H495.1⟩
          ·refine aA ?_
           refine aT rfl rfl rfl rfl (fun _ ho497 => ?_)
           refine aB ho497 (bS hg464 (bD rfl rfl)) rfl rfl ?_
           refine aA ?_
           refine aB rfl (aJ (v := .bool (false)) (b := true) rfl rfl rfl rfl) rfl rfl ?_
           refine aA ?_
           refine aB rfl (aC rfl) rfl rfl ?_
           refine aA ?_
           refine aD rfl rfl rfl rfl rfl rfl rfl ?_
           refine aA ?_
           refine aD rfl rfl rfl rfl rfl rfl rfl ?_
           refine aA ?_
           refine aD rfl rfl rfl rfl rfl rfl rfl ?_
           refine aA ?_
           refine aD rfl rfl rfl rfl rfl rfl rfl ?_
           refine aA ?_
           refine aD rfl rfl rfl rfl rfl rfl rfl ?_
           refine aA ?_
           refine aB rfl (aJ (v := .bool (false)) (b := false) rfl rfl rfl rfl) rfl rfl ?_
           refine aA ?_
           refine aB rfl (aC rfl) rfl rfl ?_
           refine aA ?_
           refine aD rfl rfl rfl rfl rfl rfl rfl ?_
           refine aA ?_
           refine aD rfl rfl rfl rfl rfl rfl rfl ?_
           refine aA ?_
           refine aD rfl rfl rfl rfl rfl rfl rfl ?_
           refine aA ?_
           refine aB rfl (aJ (v := .bool (false)) (b := false) rfl rfl rfl rfl) rfl rfl ?_
           refine aA ?_
           refine aB rfl (aG rfl) rfl rfl ?_
           refine aF ?_
           refine aH ?_
           refine wp_ret ?_
           refine aY ?_
           refine aR ?_
           refine aM (.inl rfl) Try.results148 rfl ?_
           have hr498 : inst x = false := by first | (simp [inst, aQ, hc6, hc38, hc70, hc102, hc336, hc354, hc400, hc456, hg457, hg464]; done) | (exfalso; omega) | done
           rw [hr498]
           exact ⟨rfl, H461.1⟩
         ·refine aA ?_
          refine aK rfl Try.call165 (vs := #[.int .i64 (x.A)]) rfl rfl rfl (bI (bR x.A _) (eq_false_of_ne_true hg457)) ?_
          rintro e501 W500 ⟨rfl, hu499⟩; refine ⟨_, rfl, ?_⟩
          have H502 := Ha4.no hu499; clear Ha4
          refine aA ?_
          refine aB rfl (aC rfl) rfl rfl ?_
          refine aA ?_
          refine aD rfl rfl rfl rfl rfl rfl rfl ?_
          refine aA ?_
          refine aD rfl rfl rfl rfl rfl rfl rfl ?_
          refine aA ?_
          refine aD rfl rfl rfl rfl rfl rfl rfl ?_
          refine aA ?_
          refine aB rfl (aJ (v := .bool (false)) (b := false) rfl rfl rfl rfl) rfl rfl ?_
          refine aA ?_
          refine aB rfl (aC rfl) rfl rfl ?_
          refine aA ?_
          refine aD rfl rfl rfl rfl rfl rfl rfl ?_
          refine aA ?_
          refine aD rfl rfl rfl rfl rfl rfl rfl ?_
          refine aA ?_
          refine aD rfl rfl rfl rfl rfl rfl rfl ?_
          refine aA ?_
          refine aD rfl rfl rfl rfl rfl rfl rfl ?_
          refine aA ?_
          refine aD rfl rfl rfl rfl rfl rfl rfl ?_
          refine aA ?_
          refine aB rfl (aJ (v := .bool (false)) (b := false) rfl rfl rfl rfl) rfl rfl ?_
          refine aA ?_
          refine aB rfl (aC rfl) rfl rfl ?_
          refine aA ?_
          refine aD rfl rfl rfl rfl rfl rfl rfl ?_
          refine aA ?_
          refine aD rfl rfl rfl rfl rfl rfl rfl ?_
          refine aA ?_
          refine aD rfl rfl rfl rfl rfl rfl rfl ?_
          refine aA ?_
          refine aB rfl (aJ (v := .bool (false)) (b := false) rfl rfl rfl rfl) rfl rfl ?_
          refine aA ?_
          refine aB rfl (aG rfl) rfl rfl ?_
          refine aF ?_
          refine aH ?_
          refine wp_ret ?_
          refine aY ?_
          refine aR ?_
          refine aM (.inl rfl) Try.results148 rfl ?_
          have hr503 : inst x = false := by first | (simp [inst, aQ, hc6, hc38, hc70, hc102, hc336, hc354, hc400, hc456, hg457]; done) | (exfalso; omega) | done
          rw [hr503]
          exact ⟨rfl, H502.1⟩
        ·refine wp_seq ?_
         refine aI [0, 1] rfl ?_
         refine aA ?_
         refine aB rfl (bD rfl rfl) rfl rfl ?_
         refine aA ?_
         refine aB rfl (aG rfl) rfl rfl ?_
         refine aF ?_
         refine aH ?_
         refine aW rfl (fun hc504 => ?_) (fun hc504 => ?_)
         ·refine wp_seq ?_
          refine aI [0, 1, 2, 3, 4, 5, 6, 7, 8, 9, 10, 11, 12, 13, 14, 15, 16, 17, 18, 19] rfl ?_
          refine aA ?_
          refine aB rfl (bL Try.isAgg118 Try.sizeOf118 rfl (Ha4.blk 0 rfl) rfl) rfl rfl ?_
          refine aA ?_
          refine aB rfl (aN eH rfl) rfl rfl ?_
          refine aA ?_
          refine aB rfl (aS (k := 0) (v := .int .i64 (x.Op)) Try.isAgg3 rfl (Ha4.blk 0 rfl) rfl) rfl rfl ?_
          refine aA ?_
          refine aB rfl (aN bP rfl) rfl rfl ?_
          refine aA ?_
          refine aB rfl (aS (k := 1) (v := .int .i64 (x.A)) Try.isAgg3 rfl (Ha4.blk 0 rfl) rfl) rfl rfl ?_
          refine aA ?_
          refine aB rfl (aN bU rfl) rfl rfl ?_
          refine aA ?_
          refine aB rfl (aS (k := 2) (v := .int .i64 (x.B)) Try.isAgg3 rfl (Ha4.blk 0 rfl) rfl) rfl rfl ?_
          refine aA ?_
          refine aB rfl (bB (vs := [(0, .int .i64 (x.Op)), (1, .int .i64 (x.A)), (2, .int .i64 (x.B))]) (cells := #[.int .i64 (x.Op), .int .i64 (x.A), .int .i64 (x.B), .int .i64 (0), .int .i64 (0), .string (⟨#[]⟩)]) rfl kR) rfl rfl ?_
          by_cases hg505 : (bE x (⟨x.Op, x.A, x.B, 0, 0, ⟨#[]⟩⟩ : GInstr)) = true
          ·have hg505n := hg505
           rw [zq3 x] at hg505n
           refine aA ?_
           refine aB rfl (bM (b := bE x (⟨x.Op, x.A, x.B, 0, 0, ⟨#[]⟩⟩ : GInstr)) hg505 (dS Try.eqGuardType118 rfl rfl (dB x (⟨x.Op, x.A, x.B, 0, 0, ⟨#[]⟩⟩ : GInstr) _ 9998))) rfl rfl ?_
           refine aA ?_
           refine aB rfl (aC rfl) rfl rfl ?_
           refine aA ?_
           refine aT rfl rfl rfl rfl (fun _ ho506 => ?_)
           refine aB ho506 (aN bP rfl) rfl rfl ?_
           refine aA ?_
           refine aT rfl rfl rfl rfl (fun _ ho507 => ?_)
           refine aB ho507 (aS (k := 1) (v := .int .i64 (x.A)) Try.isAgg3 rfl (Ha4.blk 0 rfl) rfl) rfl rfl ?_
           by_cases hg508 : (inB x.A 0 2) = true
           ·refine aA ?_
            refine aT rfl rfl rfl rfl (fun _ ho509 => ?_)
            refine aK ho509 Try.call60 (vs := #[.int .i64 (x.A), .int .i64 (0), .int .i64 (2)]) rfl rfl rfl (bI (in_i x.A 0 2 _) hg508) ?_
            rintro e512 W511 ⟨rfl, hu510⟩; refine ⟨_, rfl, ?_⟩
            have H513 := Ha4.no hu510; clear Ha4
            refine aA ?_
            refine aB rfl (aJ (v := .bool (true)) (b := true) rfl rfl rfl rfl) rfl rfl ?_
            refine aA ?_
            refine aB rfl (aC rfl) rfl rfl ?_
            refine aA ?_
            refine aT rfl rfl rfl rfl (fun _ ho514 => ?_)
            refine aB ho514 (aN bU rfl) rfl rfl ?_
            refine aA ?_
            refine aT rfl rfl rfl rfl (fun _ ho515 => ?_)
            refine aB ho515 (aS (k := 2) (v := .int .i64 (x.B)) Try.isAgg3 rfl (H513.blk 0 rfl) rfl) rfl rfl ?_
            by_cases hg516 : (rgB x.B) = true
            ·refine aA ?_
             refine aT rfl rfl rfl rfl (fun _ ho517 => ?_)
             refine aK ho517 Try.call165 (vs := #[.int .i64 (x.B)]) rfl rfl rfl (bI (bR x.B _) hg516) ?_
             rintro e520 W519 ⟨rfl, hu518⟩; refine ⟨_, rfl, ?_⟩
             have H521 := H513.no hu518; clear H513
             refine aA ?_
             refine aB rfl (aJ (v := .bool (true)) (b := true) rfl rfl rfl rfl) rfl rfl ?_
             refine aA ?_
             refine aB rfl (aG rfl) rfl rfl ?_
             refine aF ?_
             refine aH ?_
             refine wp_ret ?_
             refine aY ?_
             refine aR ?_
             refine aM (.inl rfl) Try.results148 rfl ?_
             have hr522 : inst x = true := by first | (simp [inst, aQ, hc6, hc38, hc70, hc102, hc336, hc354, hc400, hc456, hc504, hg505n, hg508, hg516]; done) | (exfalso; omega) | (have q := hg505n; revert q; (simp [inst, aQ, hc6, hc38, hc70, hc102, hc336, hc354, hc400, hc456, hc504, hg508, hg516] <;> (intros; simp_all)); done)
             rw [hr522]
             exact ⟨rfl, H521.1⟩
            ·refine aA ?_
             refine aT rfl rfl rfl rfl (fun _ ho523 => ?_)
             refine aK ho523 Try.call165 (vs := #[.int .i64 (x.B)]) rfl rfl rfl (bI (bR x.B _) (eq_false_of_ne_true hg516)) ?_
             rintro e526 W525 ⟨rfl, hu524⟩; refine ⟨_, rfl, ?_⟩
             have H527 := H513.no hu524; clear H513
             refine aA ?_
             refine aB rfl (aJ (v := .bool (false)) (b := true) rfl rfl rfl rfl) rfl rfl ?_
             refine aA ?_
             refine aB rfl (aG rfl) rfl rfl ?_
             refine aF ?_
             refine aH ?_
             refine wp_ret ?_
             refine aY ?_
             refine aR ?_
             refine aM (.inl rfl) Try.results148 rfl ?_
             have hr528 : inst x = false := by first | (simp [inst, aQ, hc6, hc38, hc70, hc102, hc336, hc354, hc400, hc456, hc504, hg505n, hg508, hg516]; done) | (exfalso; omega) | (have q := hg505n; revert q; (simp [inst, aQ, hc6, hc38, hc70, hc102, hc336, hc354, hc400, hc456, hc504, hg508, hg516] <;> (intros; simp_all)); done)
             rw [hr528]
             exact ⟨rfl, H527.1⟩
           ·refine aA ?_
            refine aT rfl rfl rfl rfl (fun _ ho529 => ?_)
            refine aK ho529 Try.call60 (vs := #[.int .i64 (x.A), .int .i64 (0), .int .i64 (2)]) rfl rfl rfl (bI (in_i x.A 0 2 _) (eq_false_of_ne_true hg508)) ?_
            rintro e532 W531 ⟨rfl, hu530⟩; refine ⟨_, rfl, ?_⟩
            have H533 := Ha4.no hu530; clear Ha4
            refine aA ?_
            refine aB rfl (aJ (v := .bool (false)) (b := true) rfl rfl rfl rfl) rfl rfl ?_
            refine aA ?_
            refine aB rfl (aC rfl) rfl rfl ?_
            refine aA ?_
            refine aD rfl rfl rfl rfl rfl rfl rfl ?_
            refine aA ?_
            refine aD rfl rfl rfl rfl rfl rfl rfl ?_
            refine aA ?_
            refine aD rfl rfl rfl rfl rfl rfl rfl ?_
            refine aA ?_
            refine aB rfl (aJ (v := .bool (false)) (b := false) rfl rfl rfl rfl) rfl rfl ?_
            refine aA ?_
            refine aB rfl (aG rfl) rfl rfl ?_
            refine aF ?_
            refine aH ?_
            refine wp_ret ?_
            refine aY ?_
            refine aR ?_
            refine aM (.inl rfl) Try.results148 rfl ?_
            have hr534 : inst x = false := by first | (simp [inst, aQ, hc6, hc38, hc70, hc102, hc336, hc354, hc400, hc456, hc504, hg505n, hg508]; done) | (exfalso; omega) | (have q := hg505n; revert q; (simp [inst, aQ, hc6, hc38, hc70, hc102, hc336, hc354, hc400, hc456, hc504, hg508] <;> (intros; simp_all)); done)
            rw [hr534]
            exact ⟨rfl, H533.1⟩
          ·have hg505n := hg505
           rw [zq3 x] at hg505n
           refine aA ?_
           refine aB rfl (bM (b := bE x (⟨x.Op, x.A, x.B, 0, 0, ⟨#[]⟩⟩ : GInstr)) (eq_false_of_ne_true hg505) (dS Try.eqGuardType118 rfl rfl (dB x (⟨x.Op, x.A, x.B, 0, 0, ⟨#[]⟩⟩ : GInstr) _ 9998))) rfl rfl ?_
           refine aA ?_
           refine aB rfl (aC rfl) rfl rfl ?_
           refine aA ?_
           refine aD rfl rfl rfl rfl rfl rfl rfl ?_
           refine aA ?_
           refine aD rfl rfl rfl rfl rfl rfl rfl ?_
           refine aA ?_
           refine aD rfl rfl rfl rfl rfl rfl rfl ?_
           refine aA ?_
           refine aB rfl (aJ (v := .bool (false)) (b := false) rfl rfl rfl rfl) rfl rfl ?_
           refine aA ?_
           refine aB rfl (aC rfl) rfl rfl ?_
           refine aA ?_
           refine aD rfl rfl rfl rfl rfl rfl rfl ?_
           refine aA ?_
           refine aD rfl rfl rfl rfl rfl rfl rfl ?_
           refine aA ?_
           refine aD rfl rfl rfl rfl rfl rfl rfl ?_
           refine aA ?_
           refine aB rfl (aJ (v := .bool (false)) (b := false) rfl rfl rfl rfl) rfl rfl ?_
           refine aA ?_
           refine aB rfl (aG rfl) rfl rfl ?_
           refine aF ?_
           refine aH ?_
           refine wp_ret ?_
           refine aY ?_
           refine aR ?_
           refine aM (.inl rfl) Try.results148 rfl ?_
           have hr535 : inst x = false := by first | (simp [inst, aQ, hc6, hc38, hc70, hc102, hc336, hc354, hc400, hc456, hc504, hg505n]; done) | (exfalso; omega) | (have q := hg505n; revert q; (simp [inst, aQ, hc6, hc38, hc70, hc102, hc336, hc354, hc400, hc456, hc504] <;> (intros; simp_all)); done)
           rw [hr535]
           exact ⟨rfl, Ha4.1⟩
         ·refine wp_seq ?_
          refine aI [0, 1] rfl ?_
          refine aA ?_
          refine aB rfl (bD rfl rfl) rfl rfl ?_
          refine aA ?_
          refine aB rfl (aG rfl) rfl rfl ?_
          refine aF ?_
          refine aH ?_
          refine aW rfl (fun hc536 => ?_) (fun hc536 => ?_)
          ·refine wp_seq ?_
           refine aI [0, 1, 2, 3, 4, 5, 6, 7, 8, 9, 10, 11, 12, 13, 14, 15, 16, 17, 18, 19] rfl ?_
           refine aA ?_
           refine aB rfl (bL Try.isAgg118 Try.sizeOf118 rfl (Ha4.blk 0 rfl) rfl) rfl rfl ?_
           refine aA ?_
           refine aB rfl (aN eH rfl) rfl rfl ?_
           refine aA ?_
           refine aB rfl (aS (k := 0) (v := .int .i64 (x.Op)) Try.isAgg3 rfl (Ha4.blk 0 rfl) rfl) rfl rfl ?_
           refine aA ?_
           refine aB rfl (aN bP rfl) rfl rfl ?_
           refine aA ?_
           refine aB rfl (aS (k := 1) (v := .int .i64 (x.A)) Try.isAgg3 rfl (Ha4.blk 0 rfl) rfl) rfl rfl ?_
           refine aA ?_
           refine aB rfl (aN bU rfl) rfl rfl ?_
           refine aA ?_
           refine aB rfl (aS (k := 2) (v := .int .i64 (x.B)) Try.isAgg3 rfl (Ha4.blk 0 rfl) rfl) rfl rfl ?_
           refine aA ?_
           refine aB rfl (bB (vs := [(0, .int .i64 (x.Op)), (1, .int .i64 (x.A)), (2, .int .i64 (x.B))]) (cells := #[.int .i64 (x.Op), .int .i64 (x.A), .int .i64 (x.B), .int .i64 (0), .int .i64 (0), .string (⟨#[]⟩)]) rfl kR) rfl rfl ?_
           by_cases hg537 : (bE x (⟨x.Op, x.A, x.B, 0, 0, ⟨#[]⟩⟩ : GInstr)) = true
           ·have hg537n := hg537
            rw [zq3 x] at hg537n
            refine aA ?_
            refine aB rfl (bM (b := bE x (⟨x.Op, x.A, x.B, 0, 0, ⟨#[]⟩⟩ : GInstr)) hg537 (dS Try.eqGuardType118 rfl rfl (dB x (⟨x.Op, x.A, x.B, 0, 0, ⟨#[]⟩⟩ : GInstr) _ 9998))) rfl rfl ?_
            refine aA ?_
            refine aB rfl (aC rfl) rfl rfl ?_
            refine aA ?_
            refine aT rfl rfl rfl rfl (fun _ ho538 => ?_)
            refine aB ho538 (aN bP rfl) rfl rfl ?_
            refine aA ?_
            refine aT rfl rfl rfl rfl (fun _ ho539 => ?_)
            refine aB ho539 (aS (k := 1) (v := .int .i64 (x.A)) Try.isAgg3 rfl (Ha4.blk 0 rfl) rfl) rfl rfl ?_
            by_cases hg540 : (rgB x.A) = true
            ·refine aA ?_
             refine aT rfl rfl rfl rfl (fun _ ho541 => ?_)
             refine aK ho541 Try.call165 (vs := #[.int .i64 (x.A)]) rfl rfl rfl (bI (bR x.A _) hg540) ?_
             rintro e544 W543 ⟨rfl, hu542⟩; refine ⟨_, rfl, ?_⟩
             have H545 := Ha4.no hu542; clear Ha4
             refine aA ?_
             refine aB rfl (aJ (v := .bool (true)) (b := true) rfl rfl rfl rfl) rfl rfl ?_
             refine aA ?_
             refine aB rfl (aC rfl) rfl rfl ?_
             refine aA ?_
             refine aT rfl rfl rfl rfl (fun _ ho546 => ?_)
             refine aB ho546 (aN bU rfl) rfl rfl ?_
             refine aA ?_
             refine aT rfl rfl rfl rfl (fun _ ho547 => ?_)
             refine aB ho547 (aS (k := 2) (v := .int .i64 (x.B)) Try.isAgg3 rfl (H545.blk 0 rfl) rfl) rfl rfl ?_
             by_cases hg548 : (inB x.B 1 12) = true
             ·refine aA ?_
              refine aT rfl rfl rfl rfl (fun _ ho549 => ?_)
              refine aK ho549 Try.call60 (vs := #[.int .i64 (x.B), .int .i64 (1), .int .i64 (12)]) rfl rfl rfl (bI (in_i x.B 1 12 _) hg548) ?_
              rintro e552 W551 ⟨rfl, hu550⟩; refine ⟨_, rfl, ?_⟩
              have H553 := H545.no hu550; clear H545
              refine aA ?_
              refine aB rfl (aJ (v := .bool (true)) (b := true) rfl rfl rfl rfl) rfl rfl ?_
              refine aA ?_
              refine aB rfl (aG rfl) rfl rfl ?_
              refine aF ?_
              refine aH ?_
              refine wp_ret ?_
              refine aY ?_
              refine aR ?_
              refine aM (.inl rfl) Try.results148 rfl ?_
              have hr554 : inst x = true := by first | (simp [inst, aQ, hc6, hc38, hc70, hc102, hc336, hc354, hc400, hc456, hc504, hc536, hg537n, hg540, hg548]; done) | (exfalso; omega) | (have q := hg537n; revert q; (simp [inst, aQ, hc6, hc38, hc70, hc102, hc336, hc354, hc400, hc456, hc504, hc536, hg540, hg548] <;> (intros; simp_all)); done)
              rw [hr554]
              exact ⟨rfl, H553.1⟩
             ·refine aA ?_
              refine aT rfl rfl rfl rfl (fun _ ho555 => ?_)
              refine aK ho555 Try.call60 (vs := #[.int .i64 (x.B), .int .i64 (1), .int .i64 (12)]) rfl rfl rfl (bI (in_i x.B 1 12 _) (eq_false_of_ne_true hg548)) ?_
              rintro e558 W557 ⟨rfl, hu556⟩; refine ⟨_, rfl, ?_⟩
              have H559 := H545.no hu556; clear H545
              refine aA ?_
              refine aB rfl (aJ (v := .bool (false)) (b := true) rfl rfl rfl rfl) rfl rfl ?_
              refine aA ?_
              refine aB rfl (aG rfl) rfl rfl ?_
              refine aF ?_
              refine aH ?_
              refine wp_ret ?_
              refine aY ?_
              refine aR ?_
              refine aM (.inl rfl) Try.results148 rfl ?_
              have hr560 : inst x = false := by first | (simp [inst, aQ, hc6, hc38, hc70, hc102, hc336, hc354, hc400, hc456, hc504, hc536, hg537n, hg540, hg548]; done) | (exfalso; omega) | (have q := hg537n; revert q; (simp [inst, aQ, hc6, hc38, hc70, hc102, hc336, hc354, hc400, hc456, hc504, hc536, hg540, hg548] <;> (intros; simp_all)); done)
              rw [hr560]
              exact ⟨rfl, H559.1⟩
            ·refine aA ?_
             refine aT rfl rfl rfl rfl (fun _ ho561 => ?_)
             refine aK ho561 Try.call165 (vs := #[.int .i64 (x.A)]) rfl rfl rfl (bI (bR x.A _) (eq_false_of_ne_true hg540)) ?_
             rintro e564 W563 ⟨rfl, hu562⟩; refine ⟨_, rfl, ?_⟩
             have H565 := Ha4.no hu562; clear Ha4
             refine aA ?_
             refine aB rfl (aJ (v := .bool (false)) (b := true) rfl rfl rfl rfl) rfl rfl ?_
             refine aA ?_
             refine aB rfl (aC rfl) rfl rfl ?_
             refine aA ?_
             refine aD rfl rfl rfl rfl rfl rfl rfl ?_
             refine aA ?_
             refine aD rfl rfl rfl rfl rfl rfl rfl ?_
             refine aA ?_
             refine aD rfl rfl rfl rfl rfl rfl rfl ?_
             refine aA ?_
             refine aB rfl (aJ (v := .bool (false)) (b := false) rfl rfl rfl rfl) rfl rfl ?_
             refine aA ?_
             refine aB rfl (aG rfl) rfl rfl ?_
             refine aF ?_
             refine aH ?_
             refine wp_ret ?_
             refine aY ?_
             refine aR ?_
             refine aM (.inl rfl) Try.results148 rfl ?_
             have hr566 : inst x = false := by first | (simp [inst, aQ, hc6, hc38, hc70, hc102, hc336, hc354, hc400, hc456, hc504, hc536, hg537n, hg540]; done) | (exfalso; omega) | (have q := hg537n; revert q; (simp [inst, aQ, hc6, hc38, hc70, hc102, hc336, hc354, hc400, hc456, hc504, hc536, hg540] <;> (intros; simp_all)); done)
             rw [hr566]
             exact ⟨rfl, H565.1⟩
           ·have hg537n := hg537
            rw [zq3 x] at hg537n
            refine aA ?_
            refine aB rfl (bM (b := bE x (⟨x.Op, x.A, x.B, 0, 0, ⟨#[]⟩⟩ : GInstr)) (eq_false_of_ne_true hg537) (dS Try.eqGuardType118 rfl rfl (dB x (⟨x.Op, x.A, x.B, 0, 0, ⟨#[]⟩⟩ : GInstr) _ 9998))) rfl rfl ?_
            refine aA ?_
            refine aB rfl (aC rfl) rfl rfl ?_
            refine aA ?_
            refine aD rfl rfl rfl rfl rfl rfl rfl ?_
            refine aA ?_
            refine aD rfl rfl rfl rfl rfl rfl rfl ?_
            refine aA ?_
            refine aD rfl rfl rfl rfl rfl rfl rfl ?_
            refine aA ?_
            refine aB rfl (aJ (v := .bool (false)) (b := false) rfl rfl rfl rfl) rfl rfl ?_
            refine aA ?_
            refine aB rfl (aC rfl) rfl rfl ?_
            refine aA ?_
            refine aD rfl rfl rfl rfl rfl rfl rfl ?_
            refine aA ?_
            refine aD rfl rfl rfl rfl rfl rfl rfl ?_
            refine aA ?_
            refine aD rfl rfl rfl rfl rfl rfl rfl ?_
            refine aA ?_
            refine aB rfl (aJ (v := .bool (false)) (b := false) rfl rfl rfl rfl) rfl rfl ?_
            refine aA ?_
            refine aB rfl (aG rfl) rfl rfl ?_
            refine aF ?_
            refine aH ?_
            refine wp_ret ?_
            refine aY ?_
            refine aR ?_
            refine aM (.inl rfl) Try.results148 rfl ?_
            have hr567 : inst x = false := by first | (simp [inst, aQ, hc6, hc38, hc70, hc102, hc336, hc354, hc400, hc456, hc504, hc536, hg537n]; done) | (exfalso; omega) | (have q := hg537n; revert q; (simp [inst, aQ, hc6, hc38, hc70, hc102, hc336, hc354, hc400, hc456, hc504, hc536] <;> (intros; simp_all)); done)
            rw [hr567]
            exact ⟨rfl, Ha4.1⟩
          ·refine wp_skip ?_
           refine dR ?_
           refine aH ?_
           refine wp_seq ?_
           refine aI [0] rfl ?_
           refine aA ?_
           refine aB rfl (aG rfl) rfl rfl ?_
           refine aF ?_
           refine aH ?_
           refine wp_ret ?_
           refine aM (.inl rfl) Try.results148 rfl ?_
           have hr568 : inst x = false := by first | (simp [inst, aQ, hc6, hc38, hc70, hc102, hc336, hc354, hc400, hc456, hc504, hc536]; done) | (exfalso; omega) | done
           rw [hr568]
           exact ⟨rfl, Ha4.1⟩
end Go.Proofs.YtdfipdpeilegpaaFam
namespace Go.Proofs.YtdfipdpeilegpaaFam
open Go.RowKit Go.Proofs.YtdfipdpeilegpaaSep Go.Proofs.YtdfipdpeilegpaaT Go.Proofs.YtdfipdpeilegpaaK
set_option linter.unusedVariables false
set_option linter.unusedSimpArgs false
set_option maxHeartbeats 1000000
set_option maxRecDepth 100000
theorem inF_idx (p : GInstr → Bool) (l : List GInstr) (A : Option Addr) (c : Nat) (w : World) (h : C bF w A l) (hf : ∀ (x : GInstr) (cs : List Value) (w' : World), Upd No w w' → bF.K w' x cs → Calls Try.prog 147 #[.agg cs.toArray] w' (bY (p x) w')) : Calls Try.prog 164 #[.slice A l.length c, .func (.func 147) #[] #[]] w (RetInt (fidx p 0 l) w) := by
 have hn := h.1
 have H := Sd.mk h
 have HF := Sd.mk hf
 clear h hf
 go_enter Try.func164, Try.ntmps164
 go_wp2_with fail
 go_loopg [8] l.length (fun r v wr => ∃ i : Nat, i + r = l.length ∧ v = .int .i64 i ∧ Sd (fidx p 0 l = fidx p i (l.drop i)) ∧ Sd (Upd No w wr))
 case atStart => exact ⟨0, by omega, rfl, ⟨rfl⟩, ⟨Upd.refl _ _⟩⟩
 case round =>
  obtain ⟨i, hi, rfl, HE, HU⟩ := hrel
  by_cases hlt : i < l.length
  ·obtain ⟨ad, rfl, a0, a1, a2, a3, a4, a5⟩ := ki_Instr_at (dW HU.out H.out) i hlt
   go_wp2_with fail
   with_reducible refine (HF.out l[i] _ _ HU.out (dV _ _)).mono ?_
   rintro e w1 ⟨rfl, hu⟩
   have HU1 := Sd.mk (HU.out.then hu)
   clear hu HU
   have hy := Sd.mk (fidx_yes p l i hlt)
   have hno := Sd.mk (fidx_no p l i hlt)
   cases hb : p l[i]
   ·have HBB := Sd.mk hb
    clear hb
    go_wp2_with fail
    go_roundg (gk - 1)
    case measure => omega
    case rel => exact ⟨i + 1, by omega, by go_num, ⟨HE.out.trans (hno.out HBB.out)⟩, HU1⟩
   ·have HBB := Sd.mk hb
    clear hb
    go_wp2_with fail
    go_ret
    exact ⟨ret_int (by rw [HE.out, hy.out HBB.out]), HU1.out⟩
  ·go_wp2_with fail
   go_ret
   exact ⟨ret_int (by rw [HE.out, fidx_end p l i kO]), HU.out⟩
theorem inF_has (p : GInstr → Bool) (l : List GInstr) (A : Option Addr) (c : Nat) (w : World) (h : C bF w A l) (hf : ∀ (x : GInstr) (cs : List Value) (w' : World), Upd No w w' → bF.K w' x cs → Calls Try.prog 147 #[.agg cs.toArray] w' (bY (p x) w')) : Calls Try.prog 146 #[.slice A l.length c, .func (.func 147) #[] #[]] w (bY (l.any p) w) := by
 have H := Sd.mk h
 have HF := Sd.mk hf
 clear h hf
 go_enter Try.func146, Try.ntmps146
 go_wp2_with fail
 with_reducible refine (inF_idx p l _ _ _ ?hc ?hf).mono ?_
 case hc => exact H.out
 case hf => exact HF.out
 rintro e w1 ⟨rfl, hu⟩
 have HX := Sd.mk (fidx_any p l 0 (Int.le_refl 0))
 have HU := Sd.mk hu
 clear hu
 go_wp2_with fail
 go_ret
 exact ⟨ret_bool HX.out, HU.out⟩
end Go.Proofs.YtdfipdpeilegpaaFam
namespace Go.Proofs.YtdfipdpeilegpaaFam
open Go.ChangeShapes Go.WideShapes Go.RowKit Go.Proofs.YtdfipdpeilegpaaSep Go.Proofs.YtdfipdpeilegpaaT Go.Proofs.YtdfipdpeilegpaaK
set_option linter.unusedVariables false
set_option linter.unusedSimpArgs false
attribute [local irreducible] wpOps wpOp
set_option maxHeartbeats 4000000
set_option maxRecDepth 100000
def gD (x : GMethod) : Bool := nmB x.Name && decide (x.Code.length ≤ 12) && x.Code.all inst
theorem not_any {α : Type} (p q : α → Bool) (h : ∀ x, q x = !p x) (l : List α) : l.any q = !l.all p := by
 induction l with
 | nil => rfl
 | cons x r ih => rw [List.any_cons, List.all_cons, ih, h]; cases p x <;> cases r.all p <;> rfl
theorem isMethod_s (x : GMethod) (cs : List Value) (w : World) (h : aL.K w x cs) (hs : aX x ≤ 1048576) : Calls Try.prog 75 #[.agg cs.toArray] w (bY (gD x) w) := by
 obtain ⟨Ax1, cx1, rfl, hlx1, hCx1⟩ := dI h
 refine enter 27 [(0, .agg #[.string (x.Name), .slice Ax1 x.Code.length cx1])] Try.func75 rfl kR ?_
 intro xj
 have H1 : St w No [] w := St.enter
 have hnm : x.Name.size ≤ 1048576 := by unfold aX at hs; omega
 have hcl : x.Code.length ≤ 1048576 := by unfold aX bZ at hs; omega
 refine wp_seq ?_
 refine aI [0, 1] rfl ?_
 refine aA ?_
 refine eG rfl rfl rfl rfl H1 ?_
 intro g_0_0 W2 hu3 Ha4; clear H1; clear hu3
 refine aA ?_
 refine aB rfl (aG rfl) rfl rfl ?_
 refine aF ?_
 refine aH ?_
 refine wp_seq ?_
 refine wp_seq ?_
 refine aI [0] rfl ?_
 refine aA ?_
 refine aB rfl (aG rfl) rfl rfl ?_
 refine aF ?_
 refine aH ?_
 refine wp_block ?_
 refine wp_loop_ghost (fun r a' W' => ∃ (i1 : Nat) (x' : Nat → Value), a' = bC 27 x' [(1, .pointer (some ⟨g_0_0, 0, none⟩)), (3, .int .i64 (((i1 : Nat) : Int)))] ∧ (i1 + r = x.Code.length) ∧ (x.Code.all inst = (x.Code.drop i1).all inst) ∧ St w No [hB g_0_0 51 #[.string (x.Name), .slice Ax1 x.Code.length cx1]] W') x.Code.length ?_ ?_
 ·exact (bJ [(1, .pointer (some ⟨g_0_0, 0, none⟩)), (3, .int .i64 (((0 : Nat) : Int)))] rfl).elim fun x' hx => ⟨0, x', hx, kO, (by rw [List.drop_zero]), Ha4⟩
 ·rintro r6 _ W7 ⟨i1, x8, rfl, hi1, hf1, H9⟩; clear Ha4
  refine wp_seq ?_
  refine wp_seq ?_
  refine aI [0, 1, 2, 3, 4] rfl ?_
  refine aA ?_
  refine aB rfl (aC rfl) rfl rfl ?_
  refine aA ?_
  refine aB rfl (aN dZ rfl) rfl rfl ?_
  refine aA ?_
  refine aB rfl (aS (k := 1) (v := .slice Ax1 x.Code.length cx1) Try.isAgg49 rfl (H9.blk 0 rfl) rfl) rfl rfl ?_
  refine aA ?_
  refine aB rfl (dG Try.runUnderlying49 rfl) rfl rfl ?_
  refine aA ?_
  refine aB rfl (eY rfl rfl) rfl rfl ?_
  refine aF ?_
  refine aH ?_
  refine aW rfl (fun hc10 => ?_) (fun hc10 => ?_)
  ·have hlt1 : i1 < x.Code.length := by omega
   obtain ⟨ade11, cse11, hAe11, hKe11, hce11⟩ := eD hCx1 i1 hlt1
   have hle11 := gQ hKe11
   have hoe11 := gT hKe11
   have hni : x.Code[i1].Name.size ≤ 1048576 := by have h1 := gL cK x.Code i1 hlt1; have h2 : cK x.Code[i1] = x.Code[i1].Name.size := rfl; unfold aX bZ at hs; omega
   refine wp_skip ?_
   refine aH ?_
   refine wp_seq ?_
   refine wp_block ?_
   refine wp_seq ?_
   refine aI [0, 1, 2, 3, 4, 5, 6] rfl ?_
   refine aA ?_
   refine aB rfl (aN dZ rfl) rfl rfl ?_
   refine aA ?_
   refine aB rfl (aS (k := 1) (v := .slice Ax1 x.Code.length cx1) Try.isAgg49 rfl (H9.blk 0 rfl) rfl) rfl rfl ?_
   refine aA ?_
   refine aB rfl (aC rfl) rfl rfl ?_
   refine aA ?_
   refine aB rfl (bW (k := i1) Try.runUnderlying49 Try.sizeOf118 rfl rfl hAe11 hlt1) rfl rfl ?_
   refine aA ?_
   refine aB rfl (eF Try.isAgg118 Try.sizeOf118 rfl (Cat.upd hce11 H9.1) hle11) rfl rfl ?_
   refine aA ?_
   refine aK rfl Try.call119 (vs := #[.agg (List.toArray cse11)]) rfl rfl rfl (isInstr_s (x.Code[i1]) _ _ (K_upd H9.1 hKe11) hni) ?_
   rintro e14 W13 ⟨rfl, hu12⟩; refine ⟨_, rfl, ?_⟩
   have H15 := H9.no hu12; clear H9
   refine aA ?_
   refine aB rfl (eX rfl) rfl rfl ?_
   refine aF ?_
   refine aH ?_
   refine fC (b := !(inst (x.Code[i1]))) rfl (fun hc16 => ?_) (fun hc16 => ?_)
   ·refine wp_seq ?_
    refine aI [0] rfl ?_
    refine aA ?_
    refine aB rfl (aG rfl) rfl rfl ?_
    refine aF ?_
    refine aH ?_
    refine wp_ret ?_
    refine aY ?_
    refine aR ?_
    refine aR ?_
    refine aY ?_
    refine aR ?_
    refine aM (.inl rfl) Try.results75 rfl ?_
    have hr : gD x = false := by rw [gD, hf1, gX inst x.Code i1 hlt1 (by simpa using hc16), Bool.and_false]
    rw [hr]
    exact ⟨rfl, H15.1⟩
   ·refine wp_skip ?_
    refine dR ?_
    refine aH ?_
    refine aI [0, 1, 2] rfl ?_
    refine aA ?_
    refine aB rfl (aC rfl) rfl rfl ?_
    refine aA ?_
    refine aB rfl (fJ (k := i1) rfl rfl kO) rfl rfl ?_
    refine aA ?_
    refine aB rfl (aG rfl) rfl rfl ?_
    refine aF ?_
    refine aH ?_
    exact (bJ [(1, .pointer (some ⟨g_0_0, 0, none⟩)), (3, .int .i64 (((i1 + 1 : Nat) : Int)))] rfl).elim fun x' hx => ⟨r6 - 1, kO, i1 + 1, x', hx, kO, (hf1.trans (all_yes inst x.Code i1 hlt1 (by simpa using hc16))), H15⟩
  ·have hge1 : x.Code.length ≤ i1 := by omega
   refine wp_exit ?_
   refine dH ?_
   refine dH ?_
   refine inB_x ?_
   refine aH ?_
   refine wp_seq ?_
   refine aI [0, 1, 2, 3, 4, 5, 6, 7, 8, 9] rfl ?_
   refine aA ?_
   refine aB rfl (aN gB rfl) rfl rfl ?_
   refine aA ?_
   refine aB rfl (aS (k := 0) (v := .string (x.Name)) Try.isAgg9 rfl (H9.blk 0 rfl) rfl) rfl rfl ?_
   by_cases hg17 : (nmB x.Name) = true
   ·refine aA ?_
    refine aK rfl Try.call76 (vs := #[.string (x.Name)]) rfl rfl rfl (bI (fG x.Name _ hnm) hg17) ?_
    rintro e20 W19 ⟨rfl, hu18⟩; refine ⟨_, rfl, ?_⟩
    have H21 := H9.no hu18; clear H9
    refine aA ?_
    refine aB rfl (aC rfl) rfl rfl ?_
    refine aA ?_
    refine aT rfl rfl rfl rfl (fun _ ho22 => ?_)
    refine aB ho22 (aN dZ rfl) rfl rfl ?_
    refine aA ?_
    refine aT rfl rfl rfl rfl (fun _ ho23 => ?_)
    refine aB ho23 (aS (k := 1) (v := .slice Ax1 x.Code.length cx1) Try.isAgg49 rfl (H21.blk 0 rfl) rfl) rfl rfl ?_
    refine aA ?_
    refine aT rfl rfl rfl rfl (fun _ ho24 => ?_)
    refine aB ho24 (dG Try.runUnderlying49 rfl) rfl rfl ?_
    by_cases hg25 : ((x.Code.length : Nat) : Int) ≤ 12
    ·refine aA ?_
     refine aT rfl rfl rfl rfl (fun _ ho26 => ?_)
     refine aB ho26 (bQ hg25 (gF rfl rfl)) rfl rfl ?_
     refine aA ?_
     refine aB rfl (aJ (v := .bool (true)) (b := true) rfl rfl rfl rfl) rfl rfl ?_
     refine aA ?_
     refine aB rfl (aG rfl) rfl rfl ?_
     refine aF ?_
     refine aH ?_
     refine wp_ret ?_
     refine aM (.inl rfl) Try.results75 rfl ?_
     have hr : gD x = decide ((x.Code.length : Nat) ≤ (12 : Int)) := by rw [gD, hf1, all_end inst x.Code i1 hge1, hg17, Bool.and_true, Bool.true_and]; exact decide_eq_decide.2 kO
     rw [hr]
     exact ⟨by rw [decide_eq_true (by assumption)], H21.1⟩
    ·refine aA ?_
     refine aT rfl rfl rfl rfl (fun _ ho27 => ?_)
     refine aB ho27 (bS hg25 (gF rfl rfl)) rfl rfl ?_
     refine aA ?_
     refine aB rfl (aJ (v := .bool (false)) (b := true) rfl rfl rfl rfl) rfl rfl ?_
     refine aA ?_
     refine aB rfl (aG rfl) rfl rfl ?_
     refine aF ?_
     refine aH ?_
     refine wp_ret ?_
     refine aM (.inl rfl) Try.results75 rfl ?_
     have hr : gD x = false := by rw [gD, decide_eq_false (show ¬ x.Code.length ≤ 12 by omega), Bool.and_false]; rfl
     rw [hr]
     exact ⟨rfl, H21.1⟩
   ·refine aA ?_
    refine aK rfl Try.call76 (vs := #[.string (x.Name)]) rfl rfl rfl (bI (fG x.Name _ hnm) (eq_false_of_ne_true hg17)) ?_
    rintro e30 W29 ⟨rfl, hu28⟩; refine ⟨_, rfl, ?_⟩
    have H31 := H9.no hu28; clear H9
    refine aA ?_
    refine aB rfl (aC rfl) rfl rfl ?_
    refine aA ?_
    refine aD rfl rfl rfl rfl rfl rfl rfl ?_
    refine aA ?_
    refine aD rfl rfl rfl rfl rfl rfl rfl ?_
    refine aA ?_
    refine aD rfl rfl rfl rfl rfl rfl rfl ?_
    refine aA ?_
    refine aD rfl rfl rfl rfl rfl rfl rfl ?_
    refine aA ?_
    refine aB rfl (aJ (v := .bool (false)) (b := false) rfl rfl rfl rfl) rfl rfl ?_
    refine aA ?_
    refine aB rfl (aG rfl) rfl rfl ?_
    refine aF ?_
    refine aH ?_
    refine wp_ret ?_
    refine aM (.inl rfl) Try.results75 rfl ?_
    have hr : gD x = false := by rw [gD, eq_false_of_ne_true hg17]; rfl
    rw [hr]
    exact ⟨rfl, H31.1⟩
theorem inF_clo (x : GInstr) (cs : List Value) (w : World) (h : bF.K w x cs) : Calls Try.prog 147 #[.agg cs.toArray] w (bY (!inst x) w) := by
 obtain rfl := fD h
 refine enter 6 [(0, .agg #[.int .i64 (x.Op), .int .i64 (x.A), .int .i64 (x.B), .int .i64 (x.C), .int .i64 (x.D), .string (x.Name)])] Try.func147 rfl kR ?_
 intro xj
 have H1 : St w No [] w := St.enter
 refine wp_seq ?_
 refine aI [0, 1] rfl ?_
 refine aA ?_
 refine eG rfl rfl rfl rfl H1 ?_
 intro g_0_0 W2 hu3 Ha4; clear H1; clear hu3
 refine aA ?_
 refine aB rfl (aG rfl) rfl rfl ?_
 refine aF ?_
 refine aH ?_
 refine wp_seq ?_
 refine aI [0, 1, 2, 3] rfl ?_
 refine aA ?_
 refine aB rfl (bL Try.isAgg118 Try.sizeOf118 rfl (Ha4.blk 0 rfl) rfl) rfl rfl ?_
 refine aA ?_
 refine aK rfl Try.call148 (vs := #[.agg #[.int .i64 (x.Op), .int .i64 (x.A), .int .i64 (x.B), .int .i64 (x.C), .int .i64 (x.D), .string (x.Name)]]) rfl rfl rfl (isInstr_i x _ _ (dV _ x)) ?_
 rintro e8 W7 ⟨rfl, hu6⟩; refine ⟨_, rfl, ?_⟩
 have H9 := Ha4.no hu6; clear Ha4
 refine aA ?_
 refine aB rfl (eX rfl) rfl rfl ?_
 refine aA ?_
 refine aB rfl (aG rfl) rfl rfl ?_
 refine aF ?_
 refine aH ?_
 refine wp_ret ?_
 refine aM (.inl rfl) Try.results147 rfl ?_
 exact ⟨rfl, H9.1⟩
theorem isMethod_i (x : GMethod) (cs : List Value) (w : World) (h : aL.K w x cs) : Calls Try.prog 116 #[.agg cs.toArray] w (bY (gD x) w) := by
 obtain ⟨Ax1, cx1, rfl, hlx1, hCx1⟩ := dI h
 refine enter 18 [(0, .agg #[.string (x.Name), .slice Ax1 x.Code.length cx1])] Try.func116 rfl kR ?_
 intro xj
 have H1 : St w No [] w := St.enter
 refine wp_seq ?_
 refine aI [0, 1] rfl ?_
 refine aA ?_
 refine eG rfl rfl rfl rfl H1 ?_
 intro g_0_0 W2 hu3 Ha4; clear H1; clear hu3
 refine aA ?_
 refine aB rfl (aG rfl) rfl rfl ?_
 refine aF ?_
 refine aH ?_
 refine wp_seq ?_
 refine aI [0, 1, 2, 3, 4, 5, 6, 7, 8, 9, 10, 11, 12, 13, 14, 15] rfl ?_
 refine aA ?_
 refine aB rfl (aN gB rfl) rfl rfl ?_
 refine aA ?_
 refine aB rfl (aS (k := 0) (v := .string (x.Name)) Try.isAgg9 rfl (Ha4.blk 0 rfl) rfl) rfl rfl ?_
 by_cases hg6 : (nmB x.Name) = true
 ·refine aA ?_
  refine aK rfl Try.call115 (vs := #[.string (x.Name)]) rfl rfl rfl (bI (fF x.Name _) hg6) ?_
  rintro e9 W8 ⟨rfl, hu7⟩; refine ⟨_, rfl, ?_⟩
  have H10 := Ha4.no hu7; clear Ha4
  refine aA ?_
  refine aB rfl (aC rfl) rfl rfl ?_
  refine aA ?_
  refine aT rfl rfl rfl rfl (fun _ ho11 => ?_)
  refine aB ho11 (aN dZ rfl) rfl rfl ?_
  refine aA ?_
  refine aT rfl rfl rfl rfl (fun _ ho12 => ?_)
  refine aB ho12 (aS (k := 1) (v := .slice Ax1 x.Code.length cx1) Try.isAgg49 rfl (H10.blk 0 rfl) rfl) rfl rfl ?_
  refine aA ?_
  refine aT rfl rfl rfl rfl (fun _ ho13 => ?_)
  refine aB ho13 (dG Try.runUnderlying49 rfl) rfl rfl ?_
  by_cases hg14 : ((x.Code.length : Nat) : Int) ≤ 12
  ·refine aA ?_
   refine aT rfl rfl rfl rfl (fun _ ho15 => ?_)
   refine aB ho15 (bQ hg14 (gF rfl rfl)) rfl rfl ?_
   refine aA ?_
   refine aB rfl (aJ (v := .bool (true)) (b := true) rfl rfl rfl rfl) rfl rfl ?_
   refine aA ?_
   refine aB rfl (aC rfl) rfl rfl ?_
   refine aA ?_
   refine aT rfl rfl rfl rfl (fun _ ho16 => ?_)
   refine aB ho16 (aN dZ rfl) rfl rfl ?_
   refine aA ?_
   refine aT rfl rfl rfl rfl (fun _ ho17 => ?_)
   refine aB ho17 (aS (k := 1) (v := .slice Ax1 x.Code.length cx1) Try.isAgg49 rfl (H10.blk 0 rfl) rfl) rfl rfl ?_
   refine aA ?_
   refine aT rfl rfl rfl rfl (fun _ ho18 => ?_)
   refine aK ho18 Try.call146 (vs := #[.slice Ax1 x.Code.length cx1, .func (.func 147) #[] #[]]) rfl rfl rfl (inF_has (fun z => !inst z) x.Code _ _ _ (dW H10.1 hCx1) (fun z cz w' hu hK => inF_clo z cz w' hK)) ?_
   rintro e21 W20 ⟨rfl, hu19⟩; refine ⟨_, rfl, ?_⟩
   have H22 := H10.no hu19; clear H10
   refine aA ?_
   refine aT rfl rfl rfl rfl (fun _ ho23 => ?_)
   refine aB ho23 (eX rfl) rfl rfl ?_
   refine aA ?_
   refine aB rfl (aJ (v := .bool (!(x.Code.any (fun z => !inst z)))) (b := true) rfl rfl rfl rfl) rfl rfl ?_
   refine aA ?_
   refine aB rfl (aG rfl) rfl rfl ?_
   refine aF ?_
   refine aH ?_
   refine wp_ret ?_
   refine aM (.inl rfl) Try.results116 rfl ?_
   have hr : gD x = !x.Code.any (fun z => !inst z) := by rw [gD, hg6, decide_eq_true (show x.Code.length ≤ 12 by omega), Bool.true_and, Bool.true_and, not_any inst (fun z => !inst z) (fun _ => rfl), Bool.not_not]
   rw [hr]
   exact ⟨rfl, H22.1⟩
  ·refine aA ?_
   refine aT rfl rfl rfl rfl (fun _ ho24 => ?_)
   refine aB ho24 (bS hg14 (gF rfl rfl)) rfl rfl ?_
   refine aA ?_
   refine aB rfl (aJ (v := .bool (false)) (b := true) rfl rfl rfl rfl) rfl rfl ?_
   refine aA ?_
   refine aB rfl (aC rfl) rfl rfl ?_
   refine aA ?_
   refine aD rfl rfl rfl rfl rfl rfl rfl ?_
   refine aA ?_
   refine aD rfl rfl rfl rfl rfl rfl rfl ?_
   refine aA ?_
   refine aD rfl rfl rfl rfl rfl rfl rfl ?_
   refine aA ?_
   refine aD rfl rfl rfl rfl rfl rfl rfl ?_
   refine aA ?_
   refine aB rfl (aJ (v := .bool (false)) (b := false) rfl rfl rfl rfl) rfl rfl ?_
   refine aA ?_
   refine aB rfl (aG rfl) rfl rfl ?_
   refine aF ?_
   refine aH ?_
   refine wp_ret ?_
   refine aM (.inl rfl) Try.results116 rfl ?_
   have hr : gD x = false := by rw [gD, decide_eq_false (show ¬ x.Code.length ≤ 12 by omega), Bool.and_false]; rfl
   rw [hr]
   exact ⟨rfl, H10.1⟩
 ·refine aA ?_
  refine aK rfl Try.call115 (vs := #[.string (x.Name)]) rfl rfl rfl (bI (fF x.Name _) (eq_false_of_ne_true hg6)) ?_
  rintro e27 W26 ⟨rfl, hu25⟩; refine ⟨_, rfl, ?_⟩
  have H28 := Ha4.no hu25; clear Ha4
  refine aA ?_
  refine aB rfl (aC rfl) rfl rfl ?_
  refine aA ?_
  refine aD rfl rfl rfl rfl rfl rfl rfl ?_
  refine aA ?_
  refine aD rfl rfl rfl rfl rfl rfl rfl ?_
  refine aA ?_
  refine aD rfl rfl rfl rfl rfl rfl rfl ?_
  refine aA ?_
  refine aD rfl rfl rfl rfl rfl rfl rfl ?_
  refine aA ?_
  refine aB rfl (aJ (v := .bool (false)) (b := false) rfl rfl rfl rfl) rfl rfl ?_
  refine aA ?_
  refine aB rfl (aC rfl) rfl rfl ?_
  refine aA ?_
  refine aD rfl rfl rfl rfl rfl rfl rfl ?_
  refine aA ?_
  refine aD rfl rfl rfl rfl rfl rfl rfl ?_
  refine aA ?_
  refine aD rfl rfl rfl rfl rfl rfl rfl ?_
  refine aA ?_
  refine aD rfl rfl rfl rfl rfl rfl rfl ?_
  refine aA ?_
  refine aB rfl (aJ (v := .bool (false)) (b := false) rfl rfl rfl rfl) rfl rfl ?_
  refine aA ?_
  refine aB rfl (aG rfl) rfl rfl ?_
  refine aF ?_
  refine aH ?_
  refine wp_ret ?_
  refine aM (.inl rfl) Try.results116 rfl ?_
  have hr : gD x = false := by rw [gD, eq_false_of_ne_true hg6]; rfl
  rw [hr]
  exact ⟨rfl, H28.1⟩
end Go.Proofs.YtdfipdpeilegpaaFam
