/- What the row needs, packed. No conditions beyond those that each law names. -/
import Derived.Test.YtfnedoiplblldaaGreatZtw3
import Derived.Test.YtfnedoiplblldaaGreatProg
import Derived.Test.YtfnedoiplblldaaGreatZtw1
namespace Go.Proofs.YtfnedoiplblldaaGreatFam
open Go.ChangeShapes Go.WideShapes Go.RowKit Go.Proofs.YtfnedoiplblldaaGreatSep Go.Proofs.YtfnedoiplblldaaGreatT Go.Proofs.YtfnedoiplblldaaGreatK
set_option linter.unusedVariables false
set_option linter.unusedSimpArgs false
attribute [local irreducible] wpOps wpOp
set_option maxHeartbeats 4000000
set_option maxRecDepth 100000
def dW (l : List GEntity) : Nat → Int → Int → GValue
 | 0, _, _ => ⟨2, 0⟩
 | n + 1, k, m => if k = 1 ∧ 0 ≤ m ∧ m < (l.length : Int) then (if (l.getD m.toNat jG).Kind = 2 ∧ (l.getD m.toNat jG).State = 2 then dW l n (l.getD m.toNat jG).Value.Kind (l.getD m.toNat jG).Value.N else ⟨k, m⟩) else ⟨k, m⟩
theorem look_out (l : List GEntity) (n : Nat) (k m : Int) (h : ¬ (k = 1 ∧ 0 ≤ m ∧ m < (l.length : Int))) : dW l (n + 1) k m = ⟨k, m⟩ := by
 rw [dW, if_neg h]
theorem look_stop (l : List GEntity) (n : Nat) (q : Nat) (hq : q < l.length) (h : ¬ (l[q].Kind = 2 ∧ l[q].State = 2)) : dW l (n + 1) 1 (q : Int) = ⟨1, (q : Int)⟩ := by
 have hd : l.getD q jG = l[q] := by simp [List.getD, hq]
 rw [dW, if_pos ⟨rfl, by omega, by omega⟩, Int.toNat_natCast, hd, if_neg h]
theorem look_next (l : List GEntity) (n : Nat) (q : Nat) (hq : q < l.length) (h : l[q].Kind = 2 ∧ l[q].State = 2) : dW l (n + 1) 1 (q : Int) = dW l n l[q].Value.Kind l[q].Value.N := by
 have hd : l.getD q jG = l[q] := by simp [List.getD, hq]
 rw [dW, if_pos ⟨rfl, by omega, by omega⟩, Int.toNat_natCast, hd, if_pos h]
theorem brokenValue_s (w : World) : Calls Tryz.prog 220 #[] w (fun e w' => e = .returned (.agg #[.int .i64 2, .int .i64 0]) ∧ Upd No w w') := by
 refine enter 2 [] Tryz.func220 rfl kR ?_
 intro xj
 have H1 : St w No [] w := St.enter
 refine wp_seq ?_
 refine aS [0] rfl ?_
 refine aB ?_
 refine bA rfl Tryz.zeroValue95 rfl rfl H1 ?_
 intro g_0_0 W2 hu3 Ha4; clear H1; clear hu3
 refine aN ?_
 refine aM ?_
 refine wp_seq ?_
 refine aS [0, 1] rfl ?_
 refine aB ?_
 refine aC rfl (fJ (vs := [(0, .int .i64 (2))]) (cells := #[.int .i64 (2), .int .i64 (0)]) rfl kR) rfl rfl ?_
 refine aB ?_
 refine aR rfl Tryz.sizeOf95 rfl rfl rfl rfl kS Ha4 ?_
 intro W6 hu7 Ha8; clear Ha4; clear hu7
 refine aN ?_
 refine aM ?_
 refine wp_ret ?_
 refine eP (.inl rfl) Tryz.results220 Tryz.isAgg95 Tryz.sizeOf95 rfl (Ha8.blk 0 rfl) rfl ?_
 exact ⟨rfl, Ha8.1⟩
theorem brokenValue_i (w : World) : Calls Tryz.prog 221 #[] w (fun e w' => e = .returned (.agg #[.int .i64 2, .int .i64 0]) ∧ Upd No w w') := by
 refine enter 2 [] Tryz.func221 rfl kR ?_
 intro xj
 have H1 : St w No [] w := St.enter
 refine wp_seq ?_
 refine aS [0] rfl ?_
 refine aB ?_
 refine bA rfl Tryz.zeroValue95 rfl rfl H1 ?_
 intro g_0_0 W2 hu3 Ha4; clear H1; clear hu3
 refine aN ?_
 refine aM ?_
 refine wp_seq ?_
 refine aS [0, 1] rfl ?_
 refine aB ?_
 refine aC rfl (fJ (vs := [(0, .int .i64 (2))]) (cells := #[.int .i64 (2), .int .i64 (0)]) rfl kR) rfl rfl ?_
 refine aB ?_
 refine aR rfl Tryz.sizeOf95 rfl rfl rfl rfl kS Ha4 ?_
 intro W6 hu7 Ha8; clear Ha4; clear hu7
 refine aN ?_
 refine aM ?_
 refine wp_ret ?_
 refine eP (.inl rfl) Tryz.results221 Tryz.isAgg95 Tryz.sizeOf95 rfl (Ha8.blk 0 rfl) rfl ?_
 exact ⟨rfl, Ha8.1⟩
theorem look_s (x : GVat) (k0 n0 : Int) (cs : List Value) (hl : x.aA.length ≤ 4194304) (w : World) (h : aG.K w x cs) : Calls Tryz.prog 186 #[.agg cs.toArray, .agg #[.int .i64 k0, .int .i64 n0]] w (fun e w' => e = .returned (.agg #[.int .i64 (dW x.aA (x.aA.length + 1) k0 n0).Kind, .int .i64 (dW x.aA (x.aA.length + 1) k0 n0).N]) ∧ Upd No w w') := by
 obtain ⟨Ax1, cx1, Ax2, cx2, Ax3, cx3, Ax4, cx4, rfl, hlx1, hCx1, hlx2, hCx2, hlx3, hCx3, hlx4, hCx4⟩ := kJ h
 refine enter 46 [(0, .agg #[.int .i64 (x.Id), .slice Ax1 x.aA.length cx1, .slice Ax2 x.Loop.length cx2, .slice Ax3 x.aD.length cx3, .slice Ax4 x.Out.length cx4]), (1, .agg #[.int .i64 (k0), .int .i64 (n0)])] Tryz.func186 rfl kR ?_
 intro xj
 have H1 : St w No [] w := St.enter
 refine wp_seq ?_
 refine aS [0, 1, 2] rfl ?_
 refine aB ?_
 refine gG rfl rfl rfl rfl H1 ?_
 intro g_0_0 W2 hu3 Ha4; clear H1; clear hu3
 refine aB ?_
 refine gG rfl rfl rfl rfl Ha4 ?_
 intro g_0_1 W6 hu7 Ha8; clear Ha4; clear hu7
 refine aB ?_
 refine bA rfl Tryz.zeroValue95 rfl rfl Ha8 ?_
 intro g_0_2 W10 hu11 Ha12; clear Ha8; clear hu11
 refine aN ?_
 refine aM ?_
 refine wp_seq ?_
 refine wp_seq ?_
 refine aS [0] rfl ?_
 refine aB ?_
 refine aC rfl (aW rfl) rfl rfl ?_
 refine aN ?_
 refine aM ?_
 refine wp_block ?_
 refine wp_loop_ghost (fun r a' W' => ∃ (i1 : Nat) (vk : Int) (vn : Int) (x' : Nat → Value), a' = bO 46 x' [(2, .pointer (some ⟨g_0_0, 0, none⟩)), (3, .pointer (some ⟨g_0_1, 0, none⟩)), (4, .pointer (some ⟨g_0_2, 0, none⟩)), (5, .int .i64 (((i1 : Nat) : Int)))] ∧ (i1 + r = x.aA.length + 1) ∧ (dW x.aA (x.aA.length + 1) k0 n0 = dW x.aA (x.aA.length + 1 - i1) vk vn) ∧ St w No [hB g_0_2 95 #[.int .i64 (0), .int .i64 (0)], hB g_0_1 95 #[.int .i64 (vk), .int .i64 (vn)], hB g_0_0 68 #[.int .i64 (x.Id), .slice Ax1 x.aA.length cx1, .slice Ax2 x.Loop.length cx2, .slice Ax3 x.aD.length cx3, .slice Ax4 x.Out.length cx4]] W') (x.aA.length + 1) ?_ ?_
 ·exact (aZ [(2, .pointer (some ⟨g_0_0, 0, none⟩)), (3, .pointer (some ⟨g_0_1, 0, none⟩)), (4, .pointer (some ⟨g_0_2, 0, none⟩)), (5, .int .i64 (((0 : Nat) : Int)))] rfl).elim fun x' hx => ⟨0, k0, n0, x', hx, kO, rfl, Ha12⟩
 ·rintro r14 _ W15 ⟨i1, vk, vn, x16, rfl, hi1, hf1, H17⟩; clear Ha12
  refine wp_seq ?_
  refine wp_seq ?_
  refine aS [0, 1, 2, 3, 4] rfl ?_
  refine aB ?_
  refine aC rfl (aK rfl) rfl rfl ?_
  refine aB ?_
  refine aC rfl (bB iY rfl) rfl rfl ?_
  refine aB ?_
  refine aC rfl (bG (k := 1) (v := .slice Ax1 x.aA.length cx1) Tryz.isAgg63 rfl (H17.blk 2 rfl) rfl) rfl rfl ?_
  refine aB ?_
  refine aC rfl (jY Tryz.runUnderlying63 rfl) rfl rfl ?_
  refine aB ?_
  refine aC rfl (rn_leq rfl rfl) rfl rfl ?_
  refine aN ?_
  refine aM ?_
  refine gU rfl (fun hc18 => ?_) (fun hc18 => ?_)
  ·have hlt1 : i1 ≤ x.aA.length := by omega
   obtain ⟨fu, hfu⟩ : ∃ fu, x.aA.length + 1 - i1 = fu + 1 := ⟨x.aA.length - i1, by omega⟩
   rw [hfu] at hf1
   refine wp_skip ?_
   refine aM ?_
   refine wp_seq ?_
   refine wp_block ?_
   refine wp_seq ?_
   refine wp_seq ?_
   refine aS [0, 1, 2, 3, 4, 5, 6, 7, 8, 9, 10, 11, 12] rfl ?_
   refine aB ?_
   refine aC rfl (bB jM rfl) rfl rfl ?_
   refine aB ?_
   refine aC rfl (bG (k := 0) (v := .int .i64 (vk)) Tryz.isAgg3 rfl (H17.blk 1 rfl) rfl) rfl rfl ?_
   by_cases hg19 : ¬ (vk : Int) = 1
   ·refine aB ?_
    refine aC rfl (gH hg19 (iR rfl rfl)) rfl rfl ?_
    refine aB ?_
    refine aC rfl (aK rfl) rfl rfl ?_
    refine aB ?_
    refine bX rfl rfl rfl rfl rfl rfl rfl ?_
    refine aB ?_
    refine bX rfl rfl rfl rfl rfl rfl rfl ?_
    refine aB ?_
    refine bX rfl rfl rfl rfl rfl rfl rfl ?_
    refine aB ?_
    refine bX rfl rfl rfl rfl rfl rfl rfl ?_
    refine aB ?_
    refine bX rfl rfl rfl rfl rfl rfl rfl ?_
    refine aB ?_
    refine bX rfl rfl rfl rfl rfl rfl rfl ?_
    refine aB ?_
    refine bX rfl rfl rfl rfl rfl rfl rfl ?_
    refine aB ?_
    refine bX rfl rfl rfl rfl rfl rfl rfl ?_
    refine aB ?_
    refine aC rfl (dS (v := .bool (true)) (b := true) rfl rfl rfl rfl) rfl rfl ?_
    refine aN ?_
    refine aM ?_
    refine jB rfl ?_
    refine wp_seq ?_
    refine aS [0, 1] rfl ?_
    refine aB ?_
    refine aC rfl (bI Tryz.isAgg95 Tryz.sizeOf95 rfl (H17.blk 1 rfl) rfl) rfl rfl ?_
    refine aB ?_
    refine aR rfl Tryz.sizeOf95 rfl rfl rfl rfl kS H17 ?_
    intro W20 hu21 Ha22; clear H17; clear hu21
    refine aN ?_
    refine aM ?_
    refine wp_ret ?_
    refine eB ?_
    refine kQ ?_
    refine eB ?_
    refine eB ?_
    refine kQ ?_
    refine eB ?_
    have hr : dW x.aA (x.aA.length + 1) k0 n0 = ⟨vk, vn⟩ := hf1.trans (look_out x.aA fu vk vn kO)
    refine eP (.inl rfl) Tryz.results186 Tryz.isAgg95 Tryz.sizeOf95 rfl (Ha22.blk 0 rfl) rfl ?_
    rw [hr]
    exact ⟨rfl, Ha22.1⟩
   ·refine aB ?_
    refine aC rfl (fB hg19 (iR rfl rfl)) rfl rfl ?_
    refine aB ?_
    refine aC rfl (aK rfl) rfl rfl ?_
    refine aB ?_
    refine eO rfl rfl rfl rfl (fun _ ho24 => ?_)
    refine aC ho24 (bB iZ rfl) rfl rfl ?_
    refine aB ?_
    refine eO rfl rfl rfl rfl (fun _ ho25 => ?_)
    refine aC ho25 (bG (k := 1) (v := .int .i64 (vn)) Tryz.isAgg3 rfl (H17.blk 1 rfl) rfl) rfl rfl ?_
    refine aB ?_
    refine eO rfl rfl rfl rfl (fun _ ho26 => ?_)
    refine aC ho26 (bB iY rfl) rfl rfl ?_
    refine aB ?_
    refine eO rfl rfl rfl rfl (fun _ ho27 => ?_)
    refine aC ho27 (bG (k := 1) (v := .slice Ax1 x.aA.length cx1) Tryz.isAgg63 rfl (H17.blk 2 rfl) rfl) rfl rfl ?_
    refine aB ?_
    refine eO rfl rfl rfl rfl (fun _ ho28 => ?_)
    refine aC ho28 (jY Tryz.runUnderlying63 rfl) rfl rfl ?_
    refine aB ?_
    refine eO rfl rfl rfl rfl (fun _ ho29 => ?_)
    refine aC ho29 (rn_sub rfl rfl kO) rfl rfl ?_
    by_cases hg30 : (decide (0 ≤ vn ∧ vn ≤ ((x.aA.length : Nat) - 1))) = true
    ·refine aB ?_
     refine eO rfl rfl rfl rfl (fun _ ho31 => ?_)
     refine aV ho31 Tryz.call115 (vs := #[.int .i64 (vn), .int .i64 (0), .int .i64 (((x.aA.length : Nat) - 1))]) rfl rfl rfl (retb (l1In_s vn 0 ((x.aA.length : Nat) - 1) _) hg30) ?_
     rintro e34 W33 ⟨rfl, hu32⟩; refine ⟨_, rfl, ?_⟩
     have H35 := H17.no hu32; clear H17
     refine aB ?_
     refine eO rfl rfl rfl rfl (fun _ ho36 => ?_)
     refine aC ho36 (iP rfl) rfl rfl ?_
     refine aB ?_
     refine aC rfl (dS (v := .bool (false)) (b := false) rfl rfl rfl rfl) rfl rfl ?_
     refine aN ?_
     refine aM ?_
     refine fO rfl ?_
     refine wp_skip ?_
     refine aM ?_
     refine wp_seq ?_
     have hin := of_decide_eq_true hg30
     obtain ⟨kq, rfl⟩ : ∃ kq : Nat, vn = kq := ⟨vn.toNat, by omega⟩
     have hkq : kq < x.aA.length := by omega
     obtain rfl : vk = 1 := by omega
     obtain ⟨ade37, cse37, hAe37, hKe37, hce37⟩ := lS hCx1 kq hkq
     have hle37 := lK hKe37
     have hoe37 := oM hKe37
     obtain ⟨Aade37_2, cade37_2, Aade37_6, cade37_6, Aade37_7, cade37_7, rfl, hlade37_2, hCade37_2, hlade37_6, hCade37_6, hlade37_7, hCade37_7⟩ := jU hKe37
     refine aS [0, 1, 2, 3, 4, 5, 6, 7] rfl ?_
     refine aB ?_
     refine aC rfl (bB iY rfl) rfl rfl ?_
     refine aB ?_
     refine aC rfl (bG (k := 1) (v := .slice Ax1 x.aA.length cx1) Tryz.isAgg63 rfl (H35.blk 2 rfl) rfl) rfl rfl ?_
     refine aB ?_
     refine aC rfl (bB iZ rfl) rfl rfl ?_
     refine aB ?_
     refine aC rfl (bG (k := 1) (v := .int .i64 (((kq : Nat) : Int))) Tryz.isAgg3 rfl (H35.blk 1 rfl) rfl) rfl rfl ?_
     refine aB ?_
     refine aC rfl (fD (k := kq) Tryz.runUnderlying63 Tryz.sizeOf171 rfl rfl hAe37 hkq) rfl rfl ?_
     refine aB ?_
     refine aC rfl (jF Tryz.isAgg171 Tryz.sizeOf171 rfl (Cat.upd hce37 H35.1) rfl) rfl rfl ?_
     refine aB ?_
     refine bA rfl Tryz.zeroValue171 rfl rfl H35 ?_
     intro g_6_6 W38 hu39 Ha40; clear H35; clear hu39
     refine aB ?_
     refine aR rfl Tryz.sizeOf171 rfl rfl rfl rfl kS Ha40 ?_
     intro W42 hu43 Ha44; clear Ha40; clear hu43
     refine aN ?_
     refine aM ?_
     refine wp_seq ?_
     refine wp_seq ?_
     refine aS [0, 1, 2, 3, 4, 5, 6, 7] rfl ?_
     refine aB ?_
     refine aC rfl (bB fa_171_0 rfl) rfl rfl ?_
     refine aB ?_
     refine aC rfl (bG (k := 0) (v := .int .i64 (x.aA[kq].Kind)) Tryz.isAgg3 rfl (Ha44.blk 0 rfl) rfl) rfl rfl ?_
     by_cases hg46 : ¬ ((x.aA[kq].Kind) : Int) = 2
     ·refine aB ?_
      refine aC rfl (gH hg46 (iR rfl rfl)) rfl rfl ?_
      refine aB ?_
      refine aC rfl (aK rfl) rfl rfl ?_
      refine aB ?_
      refine bX rfl rfl rfl rfl rfl rfl rfl ?_
      refine aB ?_
      refine bX rfl rfl rfl rfl rfl rfl rfl ?_
      refine aB ?_
      refine bX rfl rfl rfl rfl rfl rfl rfl ?_
      refine aB ?_
      refine aC rfl (dS (v := .bool (true)) (b := true) rfl rfl rfl rfl) rfl rfl ?_
      refine aN ?_
      refine aM ?_
      refine jB rfl ?_
      refine wp_seq ?_
      refine aS [0, 1] rfl ?_
      refine aB ?_
      refine aC rfl (bI Tryz.isAgg95 Tryz.sizeOf95 rfl (Ha44.blk 2 rfl) rfl) rfl rfl ?_
      refine aB ?_
      have H50 : St w No [hB g_0_2 95 #[.int .i64 (0), .int .i64 (0)], hB g_6_6 171 #[.int .i64 (x.aA[kq].Kind), .int .i64 (x.aA[kq].Script), .slice Aade37_2 (x.aA[kq].dP.length) cade37_2, .int .i64 (x.aA[kq].State), .int .i64 (x.aA[kq].Value.Kind), .int .i64 (x.aA[kq].Value.N), .slice Aade37_6 (x.aA[kq].Queue.length) cade37_6, .slice Aade37_7 (x.aA[kq].bS.length) cade37_7, .int .i64 (x.aA[kq].bT), .int .i64 (x.aA[kq].Pos), .int .i64 (x.aA[kq].Count), .int .i64 (x.aA[kq].iN)], hB g_0_1 95 #[.int .i64 (1), .int .i64 (((kq : Nat) : Int))], hB g_0_0 68 #[.int .i64 (x.Id), .slice Ax1 x.aA.length cx1, .slice Ax2 x.Loop.length cx2, .slice Ax3 x.aD.length cx3, .slice Ax4 x.Out.length cx4]] W42 := Ha44.pick [1, 0, 2, 3] kD rfl; clear Ha44
      refine aR rfl Tryz.sizeOf95 rfl rfl rfl rfl kS H50 ?_
      intro W47 hu48 Ha49; clear H50; clear hu48
      refine aN ?_
      refine aM ?_
      refine wp_ret ?_
      refine eB ?_
      refine kQ ?_
      refine eB ?_
      refine eB ?_
      refine kQ ?_
      refine eB ?_
      have hr : dW x.aA (x.aA.length + 1) k0 n0 = ⟨1, ((kq : Nat) : Int)⟩ := hf1.trans (look_stop x.aA fu kq hkq kO)
      refine eP (.inl rfl) Tryz.results186 Tryz.isAgg95 Tryz.sizeOf95 rfl (Ha49.blk 0 rfl) rfl ?_
      rw [hr]
      exact ⟨rfl, Ha49.1⟩
     ·refine aB ?_
      refine aC rfl (fB hg46 (iR rfl rfl)) rfl rfl ?_
      refine aB ?_
      refine aC rfl (aK rfl) rfl rfl ?_
      refine aB ?_
      refine eO rfl rfl rfl rfl (fun _ ho52 => ?_)
      refine aC ho52 (bB fa_171_3 rfl) rfl rfl ?_
      refine aB ?_
      refine eO rfl rfl rfl rfl (fun _ ho53 => ?_)
      refine aC ho53 (bG (k := 3) (v := .int .i64 (x.aA[kq].State)) Tryz.isAgg3 rfl (Ha44.blk 0 rfl) rfl) rfl rfl ?_
      by_cases hg54 : ¬ ((x.aA[kq].State) : Int) = 2
      ·refine aB ?_
       refine eO rfl rfl rfl rfl (fun _ ho55 => ?_)
       refine aC ho55 (gH hg54 (iR rfl rfl)) rfl rfl ?_
       refine aB ?_
       refine aC rfl (dS (v := .bool (true)) (b := false) rfl rfl rfl rfl) rfl rfl ?_
       refine aN ?_
       refine aM ?_
       refine jB rfl ?_
       refine wp_seq ?_
       refine aS [0, 1] rfl ?_
       refine aB ?_
       refine aC rfl (bI Tryz.isAgg95 Tryz.sizeOf95 rfl (Ha44.blk 2 rfl) rfl) rfl rfl ?_
       refine aB ?_
       have H59 : St w No [hB g_0_2 95 #[.int .i64 (0), .int .i64 (0)], hB g_6_6 171 #[.int .i64 (x.aA[kq].Kind), .int .i64 (x.aA[kq].Script), .slice Aade37_2 (x.aA[kq].dP.length) cade37_2, .int .i64 (x.aA[kq].State), .int .i64 (x.aA[kq].Value.Kind), .int .i64 (x.aA[kq].Value.N), .slice Aade37_6 (x.aA[kq].Queue.length) cade37_6, .slice Aade37_7 (x.aA[kq].bS.length) cade37_7, .int .i64 (x.aA[kq].bT), .int .i64 (x.aA[kq].Pos), .int .i64 (x.aA[kq].Count), .int .i64 (x.aA[kq].iN)], hB g_0_1 95 #[.int .i64 (1), .int .i64 (((kq : Nat) : Int))], hB g_0_0 68 #[.int .i64 (x.Id), .slice Ax1 x.aA.length cx1, .slice Ax2 x.Loop.length cx2, .slice Ax3 x.aD.length cx3, .slice Ax4 x.Out.length cx4]] W42 := Ha44.pick [1, 0, 2, 3] kD rfl; clear Ha44
       refine aR rfl Tryz.sizeOf95 rfl rfl rfl rfl kS H59 ?_
       intro W56 hu57 Ha58; clear H59; clear hu57
       refine aN ?_
       refine aM ?_
       refine wp_ret ?_
       refine eB ?_
       refine kQ ?_
       refine eB ?_
       refine eB ?_
       refine kQ ?_
       refine eB ?_
       have hr : dW x.aA (x.aA.length + 1) k0 n0 = ⟨1, ((kq : Nat) : Int)⟩ := hf1.trans (look_stop x.aA fu kq hkq kO)
       refine eP (.inl rfl) Tryz.results186 Tryz.isAgg95 Tryz.sizeOf95 rfl (Ha58.blk 0 rfl) rfl ?_
       rw [hr]
       exact ⟨rfl, Ha58.1⟩
      ·refine aB ?_
       refine eO rfl rfl rfl rfl (fun _ ho61 => ?_)
       refine aC ho61 (fB hg54 (iR rfl rfl)) rfl rfl ?_
       refine aB ?_
       refine aC rfl (dS (v := .bool (false)) (b := false) rfl rfl rfl rfl) rfl rfl ?_
       refine aN ?_
       refine aM ?_
       refine fO rfl ?_
       refine wp_skip ?_
       refine aM ?_
       have hk2 : x.aA[kq].Kind = 2 := by omega
       have hs2 : x.aA[kq].State = 2 := by omega
       refine aS [0, 1, 2] rfl ?_
       refine aB ?_
       refine aC rfl (bB fa_171_4 rfl) rfl rfl ?_
       refine aB ?_
       refine aC rfl (rn_loadS (sub := #[.int .i64 (x.aA[kq].Value.Kind), .int .i64 (x.aA[kq].Value.N)]) Tryz.isAgg95 Tryz.sizeOf95 rfl (Ha44.blk 0 rfl) rfl rfl) rfl rfl ?_
       refine aB ?_
       have H65 : St w No [hB g_0_1 95 #[.int .i64 (1), .int .i64 (((kq : Nat) : Int))], hB g_6_6 171 #[.int .i64 (x.aA[kq].Kind), .int .i64 (x.aA[kq].Script), .slice Aade37_2 (x.aA[kq].dP.length) cade37_2, .int .i64 (x.aA[kq].State), .int .i64 (x.aA[kq].Value.Kind), .int .i64 (x.aA[kq].Value.N), .slice Aade37_6 (x.aA[kq].Queue.length) cade37_6, .slice Aade37_7 (x.aA[kq].bS.length) cade37_7, .int .i64 (x.aA[kq].bT), .int .i64 (x.aA[kq].Pos), .int .i64 (x.aA[kq].Count), .int .i64 (x.aA[kq].iN)], hB g_0_2 95 #[.int .i64 (0), .int .i64 (0)], hB g_0_0 68 #[.int .i64 (x.Id), .slice Ax1 x.aA.length cx1, .slice Ax2 x.Loop.length cx2, .slice Ax3 x.aD.length cx3, .slice Ax4 x.Out.length cx4]] W42 := Ha44.pick [2, 0, 1, 3] kD rfl; clear Ha44
       refine aR rfl Tryz.sizeOf95 rfl rfl rfl rfl kS H65 ?_
       intro W62 hu63 Ha64; clear H65; clear hu63
       refine aN ?_
       refine inB_n ?_
       refine aM ?_
       refine aS [0, 1, 2] rfl ?_
       refine aB ?_
       refine aC rfl (aK rfl) rfl rfl ?_
       refine aB ?_
       refine aC rfl (lT (k := i1) rfl rfl kO) rfl rfl ?_
       refine aB ?_
       refine aC rfl (aW rfl) rfl rfl ?_
       refine aN ?_
       refine aM ?_
       exact (aZ [(2, .pointer (some ⟨g_0_0, 0, none⟩)), (3, .pointer (some ⟨g_0_1, 0, none⟩)), (4, .pointer (some ⟨g_0_2, 0, none⟩)), (5, .int .i64 (((i1 + 1 : Nat) : Int)))] rfl).elim fun x' hx => ⟨r14 - 1, kO, i1 + 1, (x.aA[kq].Value.Kind), (x.aA[kq].Value.N), x', hx, kO, (by rw [hf1, look_next x.aA fu kq hkq ⟨hk2, hs2⟩, show x.aA.length + 1 - (i1 + 1) = fu by omega]), Ha64.pick [2, 0, 3] kD rfl⟩
    ·refine aB ?_
     refine eO rfl rfl rfl rfl (fun _ ho67 => ?_)
     refine aV ho67 Tryz.call115 (vs := #[.int .i64 (vn), .int .i64 (0), .int .i64 (((x.aA.length : Nat) - 1))]) rfl rfl rfl (retb (l1In_s vn 0 ((x.aA.length : Nat) - 1) _) (eq_false_of_ne_true hg30)) ?_
     rintro e70 W69 ⟨rfl, hu68⟩; refine ⟨_, rfl, ?_⟩
     have H71 := H17.no hu68; clear H17
     refine aB ?_
     refine eO rfl rfl rfl rfl (fun _ ho72 => ?_)
     refine aC ho72 (iP rfl) rfl rfl ?_
     refine aB ?_
     refine aC rfl (dS (v := .bool (true)) (b := false) rfl rfl rfl rfl) rfl rfl ?_
     refine aN ?_
     refine aM ?_
     refine jB rfl ?_
     refine wp_seq ?_
     refine aS [0, 1] rfl ?_
     refine aB ?_
     refine aC rfl (bI Tryz.isAgg95 Tryz.sizeOf95 rfl (H71.blk 1 rfl) rfl) rfl rfl ?_
     refine aB ?_
     refine aR rfl Tryz.sizeOf95 rfl rfl rfl rfl kS H71 ?_
     intro W73 hu74 Ha75; clear H71; clear hu74
     refine aN ?_
     refine aM ?_
     refine wp_ret ?_
     refine eB ?_
     refine kQ ?_
     refine eB ?_
     refine eB ?_
     refine kQ ?_
     refine eB ?_
     have hr : dW x.aA (x.aA.length + 1) k0 n0 = ⟨vk, vn⟩ := hf1.trans (look_out x.aA fu vk vn (by intro hq; exact hg30 (decide_eq_true kO)))
     refine eP (.inl rfl) Tryz.results186 Tryz.isAgg95 Tryz.sizeOf95 rfl (Ha75.blk 0 rfl) rfl ?_
     rw [hr]
     exact ⟨rfl, Ha75.1⟩
  ·have hge1 : x.aA.length + 1 ≤ i1 := by omega
   have hz : x.aA.length + 1 - i1 = 0 := by omega
   rw [hz] at hf1
   refine wp_exit ?_
   refine iF ?_
   refine iF ?_
   refine inB_x ?_
   refine aM ?_
   refine wp_seq ?_
   refine aS [0, 1] rfl ?_
   refine aB ?_
   refine aV rfl Tryz.call220 (vs := #[]) rfl rfl rfl (brokenValue_s _) ?_
   rintro e79 W78 ⟨rfl, hu77⟩; refine ⟨_, rfl, ?_⟩
   have H80 := H17.no hu77; clear H17
   refine aB ?_
   refine aR rfl Tryz.sizeOf95 rfl rfl rfl rfl kS H80 ?_
   intro W81 hu82 Ha83; clear H80; clear hu82
   refine aN ?_
   refine aM ?_
   refine wp_ret ?_
   have hr : dW x.aA (x.aA.length + 1) k0 n0 = ⟨2, 0⟩ := hf1
   refine eP (.inl rfl) Tryz.results186 Tryz.isAgg95 Tryz.sizeOf95 rfl (Ha83.blk 0 rfl) rfl ?_
   rw [hr]
   exact ⟨rfl, Ha83.1⟩
theorem entity_yes (le : List GEntity) (g cE : Nat) (AE : Option Addr) (u0 u2 u3 u4 : Value) (F0 : Nat → Prop) (w : World) (h : Star [hB g 68 #[u0, .slice AE le.length cE, u2, u3, u4], hR aJ 171 (.slice AE le.length cE) le] w F0) (hne : le.length ≤ 4194304) (kq : Nat) (hkq : kq < le.length) : Calls Tryz.prog 189 #[.pointer (some ⟨g, 0, none⟩), .int .i64 (kq : Nat)] w (fun e' w' => ∃ a, AE = some a ∧ e' = .returned (.pointer (some (Addr.add a (kq * 12)))) ∧ St w F0 [hB g 68 #[u0, .slice AE le.length cE, u2, u3, u4], hR aJ 171 (.slice AE le.length cE) le] w') := by
 refine enter 20 [(0, .pointer (some ⟨g, 0, none⟩)), (1, .int .i64 (((kq : Nat) : Int)))] Tryz.func189 rfl kR ?_
 intro xj
 have H1 : St w F0 [hB g 68 #[u0, .slice AE le.length cE, u2, u3, u4], hR aJ 171 (.slice AE le.length cE) le] w := St.kP h
 refine wp_seq ?_
 refine aS [0] rfl ?_
 refine aB ?_
 refine aC rfl (aW rfl) rfl rfl ?_
 refine aN ?_
 refine aM ?_
 refine wp_seq ?_
 refine wp_seq ?_
 refine aS [0, 1, 2, 3, 4, 5, 6, 7, 8] rfl ?_
 refine aB ?_
 refine aC rfl (aK rfl) rfl rfl ?_
 refine aB ?_
 refine aC rfl (aK rfl) rfl rfl ?_
 refine aB ?_
 refine aC rfl (dB rfl) rfl rfl ?_
 refine aB ?_
 refine aC rfl (bB iY rfl) rfl rfl ?_
 refine aB ?_
 refine aC rfl (bG (k := 1) (v := .slice AE le.length cE) Tryz.isAgg63 rfl (H1.blk 0 rfl) rfl) rfl rfl ?_
 refine aB ?_
 refine aC rfl (jY Tryz.runUnderlying63 rfl) rfl rfl ?_
 refine aB ?_
 refine aC rfl (rn_sub rfl rfl kO) rfl rfl ?_
 refine aB ?_
 refine aV rfl Tryz.call119 (vs := #[.int .i64 (((kq : Nat) : Int)), .int .i64 (0), .int .i64 (((le.length : Nat) - 1))]) rfl rfl rfl (in_i_t ((kq : Nat) : Int) 0 ((le.length : Nat) - 1) _ kO) ?_
 rintro e4 W3 ⟨rfl, hu2⟩; refine ⟨_, rfl, ?_⟩
 have H5 := H1.no hu2; clear H1
 refine aB ?_
 refine aC rfl (iP rfl) rfl rfl ?_
 refine aN ?_
 refine aM ?_
 refine fO rfl ?_
 refine wp_skip ?_
 refine aM ?_
 refine wp_seq ?_
 obtain ⟨ad, cse, hA, hKe, hce⟩ := lS (H5.fC 1 rfl) kq hkq
 refine aS [0, 1, 2, 3, 4, 5, 6] rfl ?_
 refine aB ?_
 refine aC rfl (aK rfl) rfl rfl ?_
 refine aB ?_
 refine aC rfl (dB rfl) rfl rfl ?_
 refine aB ?_
 refine aC rfl (bB iY rfl) rfl rfl ?_
 refine aB ?_
 refine aC rfl (bG (k := 1) (v := .slice AE le.length cE) Tryz.isAgg63 rfl (H5.blk 0 rfl) rfl) rfl rfl ?_
 refine aB ?_
 refine aC rfl (aK rfl) rfl rfl ?_
 refine aB ?_
 refine aC rfl (fD (k := kq) Tryz.runUnderlying63 Tryz.sizeOf171 rfl rfl hA hkq) rfl rfl ?_
 refine aB ?_
 refine aC rfl (aW rfl) rfl rfl ?_
 refine aN ?_
 refine aM ?_
 refine wp_ret ?_
 refine eY (.inl rfl) Tryz.results189 rfl ?_
 exact ⟨_, hA, rfl, H5.pick [0, 1] kD rfl⟩
theorem entity_no (le : List GEntity) (g cE : Nat) (AE : Option Addr) (u0 u2 u3 u4 : Value) (F0 : Nat → Prop) (w : World) (h : Star [hB g 68 #[u0, .slice AE le.length cE, u2, u3, u4], hR aJ 171 (.slice AE le.length cE) le] w F0) (hne : le.length ≤ 4194304) (m : Int) (hm : ¬ (0 ≤ m ∧ m < (le.length : Int))) : Calls Tryz.prog 189 #[.pointer (some ⟨g, 0, none⟩), .int .i64 m] w (fun e' w' => e' = .returned (.pointer none) ∧ St w F0 [hB g 68 #[u0, .slice AE le.length cE, u2, u3, u4], hR aJ 171 (.slice AE le.length cE) le] w') := by
 refine enter 20 [(0, .pointer (some ⟨g, 0, none⟩)), (1, .int .i64 (m))] Tryz.func189 rfl kR ?_
 intro xj
 have H1 : St w F0 [hB g 68 #[u0, .slice AE le.length cE, u2, u3, u4], hR aJ 171 (.slice AE le.length cE) le] w := St.kP h
 refine wp_seq ?_
 refine aS [0] rfl ?_
 refine aB ?_
 refine aC rfl (aW rfl) rfl rfl ?_
 refine aN ?_
 refine aM ?_
 refine wp_seq ?_
 refine wp_seq ?_
 refine aS [0, 1, 2, 3, 4, 5, 6, 7, 8] rfl ?_
 refine aB ?_
 refine aC rfl (aK rfl) rfl rfl ?_
 refine aB ?_
 refine aC rfl (aK rfl) rfl rfl ?_
 refine aB ?_
 refine aC rfl (dB rfl) rfl rfl ?_
 refine aB ?_
 refine aC rfl (bB iY rfl) rfl rfl ?_
 refine aB ?_
 refine aC rfl (bG (k := 1) (v := .slice AE le.length cE) Tryz.isAgg63 rfl (H1.blk 0 rfl) rfl) rfl rfl ?_
 refine aB ?_
 refine aC rfl (jY Tryz.runUnderlying63 rfl) rfl rfl ?_
 refine aB ?_
 refine aC rfl (rn_sub rfl rfl kO) rfl rfl ?_
 refine aB ?_
 refine aV rfl Tryz.call119 (vs := #[.int .i64 (m), .int .i64 (0), .int .i64 (((le.length : Nat) - 1))]) rfl rfl rfl (in_i_f m 0 ((le.length : Nat) - 1) _ kO) ?_
 rintro e4 W3 ⟨rfl, hu2⟩; refine ⟨_, rfl, ?_⟩
 have H5 := H1.no hu2; clear H1
 refine aB ?_
 refine aC rfl (iP rfl) rfl rfl ?_
 refine aN ?_
 refine aM ?_
 refine jB rfl ?_
 refine wp_seq ?_
 refine aS [0] rfl ?_
 refine aB ?_
 refine aC rfl (aW rfl) rfl rfl ?_
 refine aN ?_
 refine aM ?_
 refine wp_ret ?_
 refine eB ?_
 refine eY (.inl rfl) Tryz.results189 rfl ?_
 exact ⟨rfl, H5.pick [0, 1] kD rfl⟩
theorem look_i (le : List GEntity) (k0 n0 : Int) (g cE : Nat) (AE : Option Addr) (u0 u2 u3 u4 : Value) (F0 : Nat → Prop) (w : World) (h : Star [hB g 68 #[u0, .slice AE le.length cE, u2, u3, u4], hR aJ 171 (.slice AE le.length cE) le] w F0) (hne : le.length ≤ 4194304) : Calls Tryz.prog 187 #[.pointer (some ⟨g, 0, none⟩), .agg #[.int .i64 k0, .int .i64 n0]] w (fun e' w' => e' = .returned (.agg #[.int .i64 (dW le (le.length + 1) k0 n0).Kind, .int .i64 (dW le (le.length + 1) k0 n0).N]) ∧ St w F0 [hB g 68 #[u0, .slice AE le.length cE, u2, u3, u4], hR aJ 171 (.slice AE le.length cE) le] w') := by
 refine enter 45 [(0, .pointer (some ⟨g, 0, none⟩)), (1, .agg #[.int .i64 (k0), .int .i64 (n0)])] Tryz.func187 rfl kR ?_
 intro xj
 have H1 : St w F0 [hB g 68 #[u0, .slice AE le.length cE, u2, u3, u4], hR aJ 171 (.slice AE le.length cE) le] w := St.kP h
 refine wp_seq ?_
 refine aS [0, 1] rfl ?_
 refine aB ?_
 refine gG rfl rfl rfl rfl H1 ?_
 intro g_0_0 W2 hu3 Ha4; clear H1; clear hu3
 refine aB ?_
 refine bA rfl Tryz.zeroValue95 rfl rfl Ha4 ?_
 intro g_0_1 W6 hu7 Ha8; clear Ha4; clear hu7
 refine aN ?_
 refine aM ?_
 refine wp_seq ?_
 refine wp_seq ?_
 refine aS [0, 1, 2, 3, 4, 5, 6] rfl ?_
 refine aB ?_
 refine aC rfl (aK rfl) rfl rfl ?_
 refine aB ?_
 refine aC rfl (dB rfl) rfl rfl ?_
 refine aB ?_
 refine aC rfl (bB iY rfl) rfl rfl ?_
 refine aB ?_
 refine aC rfl (bG (k := 1) (v := .slice AE le.length cE) Tryz.isAgg63 rfl (Ha8.blk 2 rfl) rfl) rfl rfl ?_
 refine aB ?_
 refine aC rfl (jY Tryz.runUnderlying63 rfl) rfl rfl ?_
 refine aB ?_
 refine aC rfl (lT (k := le.length) rfl rfl kO) rfl rfl ?_
 refine aB ?_
 refine aC rfl (aK rfl) rfl rfl ?_
 refine aN ?_
 refine aM ?_
 refine wp_block ?_
 refine wp_loop_ghost (fun r a' W' => ∃ (i1 : Nat) (vk : Int) (vn : Int) (x' : Nat → Value), a' = bO 45 x' [(0, .pointer (some ⟨g, 0, none⟩)), (3, .pointer (some ⟨g_0_0, 0, none⟩)), (4, .pointer (some ⟨g_0_1, 0, none⟩)), (11, .int .i64 (((le.length + 1 : Nat) : Int))), (12, .int .i64 (((i1 : Nat) : Int)))] ∧ (i1 + r = le.length + 1) ∧ (dW le (le.length + 1) k0 n0 = dW le (le.length + 1 - i1) vk vn) ∧ St w F0 [hB g_0_1 95 #[.int .i64 (0), .int .i64 (0)], hB g_0_0 95 #[.int .i64 (vk), .int .i64 (vn)], hB g 68 #[u0, .slice AE le.length cE, u2, u3, u4], hR aJ 171 (.slice AE le.length cE) le] W') (le.length + 1) ?_ ?_
 ·exact (aZ [(0, .pointer (some ⟨g, 0, none⟩)), (3, .pointer (some ⟨g_0_0, 0, none⟩)), (4, .pointer (some ⟨g_0_1, 0, none⟩)), (11, .int .i64 (((le.length + 1 : Nat) : Int))), (12, .int .i64 (((0 : Nat) : Int)))] rfl).elim fun x' hx => ⟨0, k0, n0, x', hx, kO, rfl, Ha8⟩
 ·rintro r10 _ W11 ⟨i1, vk, vn, x12, rfl, hi1, hf1, H13⟩; clear Ha8
  refine wp_seq ?_
  refine aS [0] rfl ?_
  refine aB ?_
  refine aC rfl (iW rfl rfl) rfl rfl ?_
  refine aN ?_
  refine aM ?_
  refine wp_seq ?_
  refine gU rfl (fun hc14 => ?_) (fun hc14 => ?_)
  ·have hlt1 : i1 ≤ le.length := by omega
   obtain ⟨fu, hfu⟩ : ∃ fu, le.length + 1 - i1 = fu + 1 := ⟨le.length - i1, by omega⟩
   rw [hfu] at hf1
   refine wp_skip ?_
   refine aM ?_
   refine wp_seq ?_
   refine wp_block ?_
   refine wp_seq ?_
   refine wp_seq ?_
   refine aS [0, 1, 2] rfl ?_
   refine aB ?_
   refine aC rfl (bB jM rfl) rfl rfl ?_
   refine aB ?_
   refine aC rfl (bG (k := 0) (v := .int .i64 (vk)) Tryz.isAgg3 rfl (H13.blk 1 rfl) rfl) rfl rfl ?_
   refine aB ?_
   refine aC rfl (iR rfl rfl) rfl rfl ?_
   refine aN ?_
   refine aM ?_
   refine gU rfl (fun hc15 => ?_) (fun hc15 => ?_)
   ·refine wp_seq ?_
    refine aS [0, 1] rfl ?_
    refine aB ?_
    refine aC rfl (bI Tryz.isAgg95 Tryz.sizeOf95 rfl (H13.blk 1 rfl) rfl) rfl rfl ?_
    refine aB ?_
    refine aR rfl Tryz.sizeOf95 rfl rfl rfl rfl kS H13 ?_
    intro W16 hu17 Ha18; clear H13; clear hu17
    refine aN ?_
    refine aM ?_
    refine wp_ret ?_
    refine eB ?_
    refine kQ ?_
    refine eB ?_
    refine eB ?_
    refine kQ ?_
    refine eB ?_
    have hr : dW le (le.length + 1) k0 n0 = ⟨vk, vn⟩ := hf1.trans (look_out le fu vk vn kO)
    refine eP (.inl rfl) Tryz.results187 Tryz.isAgg95 Tryz.sizeOf95 rfl (Ha18.blk 0 rfl) rfl ?_
    rw [hr]
    exact ⟨rfl, Ha18.pick [2, 3] kD rfl⟩
   ·refine wp_skip ?_
    refine aM ?_
    refine wp_seq ?_
    obtain rfl : vk = 1 := by omega
    refine aS [0, 1, 2, 3, 4] rfl ?_
    refine aB ?_
    refine aC rfl (aK rfl) rfl rfl ?_
    refine aB ?_
    refine aC rfl (bB iZ rfl) rfl rfl ?_
    refine aB ?_
    refine aC rfl (bG (k := 1) (v := .int .i64 (vn)) Tryz.isAgg3 rfl (H13.blk 1 rfl) rfl) rfl rfl ?_
    by_cases hg20 : 0 ≤ vn ∧ vn < (le.length : Int)
    ·refine aB ?_
     obtain ⟨kq, rfl⟩ : ∃ kq : Nat, vn = kq := ⟨vn.toNat, by omega⟩
     have hkq : kq < le.length := by omega
     have H21 : St w F0 [hB g 68 #[u0, .slice AE le.length cE, u2, u3, u4], hR aJ 171 (.slice AE le.length cE) le, hB g_0_1 95 #[.int .i64 (0), .int .i64 (0)], hB g_0_0 95 #[.int .i64 (1), .int .i64 (((kq : Nat) : Int))]] W11 := H13.pick [2, 3, 0, 1] kD rfl; clear H13
     obtain ⟨F22, hs23, _, hfr24⟩ := St.frame (l0 := [hB g 68 #[u0, .slice AE le.length cE, u2, u3, u4], hR aJ 171 (.slice AE le.length cE) le]) (l := [hB g_0_1 95 #[.int .i64 (0), .int .i64 (0)], hB g_0_0 95 #[.int .i64 (1), .int .i64 (((kq : Nat) : Int))]]) H21
     refine aV rfl Tryz.call189 (vs := #[.pointer (some ⟨g, 0, none⟩), .int .i64 (((kq : Nat) : Int))]) rfl rfl rfl (entity_yes le _ _ _ _ _ _ _ _ _ hs23 hne kq hkq) ?_
     rintro e27 W26 ⟨al, rfl, rfl, Hn25⟩; refine ⟨_, rfl, ?_⟩
     have H28 := hfr24 _ _ Hn25; clear H21
     obtain ⟨cse, hKe, hce⟩ := C_elemA (H28.fC 1 rfl) kq hkq
     obtain ⟨Aal_2, cal_2, Aal_6, cal_6, Aal_7, cal_7, rfl, hlal_2, hCal_2, hlal_6, hCal_6, hlal_7, hCal_7⟩ := jU hKe
     refine aB ?_
     refine aC rfl (aW rfl) rfl rfl ?_
     refine aN ?_
     refine aM ?_
     refine wp_seq ?_
     refine wp_seq ?_
     refine aS [0, 1, 2, 3, 4, 5, 6, 7, 8, 9, 10, 11, 12, 13, 14, 15] rfl ?_
     refine aB ?_
     refine aC rfl (aK rfl) rfl rfl ?_
     refine aB ?_
     refine aC rfl (rn_eqlNilF Tryz.runUnderlying259 rfl rfl) rfl rfl ?_
     refine aB ?_
     refine aC rfl (aK rfl) rfl rfl ?_
     refine aB ?_
     refine eO rfl rfl rfl rfl (fun _ ho29 => ?_)
     refine aC ho29 (aK rfl) rfl rfl ?_
     refine aB ?_
     refine eO rfl rfl rfl rfl (fun _ ho30 => ?_)
     refine aC ho30 (dB rfl) rfl rfl ?_
     refine aB ?_
     refine eO rfl rfl rfl rfl (fun _ ho31 => ?_)
     refine aC ho31 (bB fa_171_0 rfl) rfl rfl ?_
     refine aB ?_
     refine eO rfl rfl rfl rfl (fun _ ho32 => ?_)
     refine aC ho32 (gI (v := .int .i64 (le[kq].Kind)) Tryz.isAgg3 rfl hce rfl) rfl rfl ?_
     by_cases hg33 : ¬ ((le[kq].Kind) : Int) = 2
     ·refine aB ?_
      refine eO rfl rfl rfl rfl (fun _ ho34 => ?_)
      refine aC ho34 (gH hg33 (iR rfl rfl)) rfl rfl ?_
      refine aB ?_
      refine aC rfl (dS (v := .bool (true)) (b := false) rfl rfl rfl rfl) rfl rfl ?_
      refine aB ?_
      refine aC rfl (aK rfl) rfl rfl ?_
      refine aB ?_
      refine bX rfl rfl rfl rfl rfl rfl rfl ?_
      refine aB ?_
      refine bX rfl rfl rfl rfl rfl rfl rfl ?_
      refine aB ?_
      refine bX rfl rfl rfl rfl rfl rfl rfl ?_
      refine aB ?_
      refine bX rfl rfl rfl rfl rfl rfl rfl ?_
      refine aB ?_
      refine bX rfl rfl rfl rfl rfl rfl rfl ?_
      refine aB ?_
      refine aC rfl (dS (v := .bool (true)) (b := true) rfl rfl rfl rfl) rfl rfl ?_
      refine aN ?_
      refine aM ?_
      refine jB rfl ?_
      refine wp_seq ?_
      refine aS [0, 1] rfl ?_
      refine aB ?_
      refine aC rfl (bI Tryz.isAgg95 Tryz.sizeOf95 rfl (H28.blk 3 rfl) rfl) rfl rfl ?_
      refine aB ?_
      have H38 : St w F0 [hB g_0_1 95 #[.int .i64 (0), .int .i64 (0)], hB g 68 #[u0, .slice (some al) le.length cE, u2, u3, u4], hR aJ 171 (.slice (some al) le.length cE) le, hB g_0_0 95 #[.int .i64 (1), .int .i64 (((kq : Nat) : Int))]] W26 := H28.pick [2, 0, 1, 3] kD rfl; clear H28
      refine aR rfl Tryz.sizeOf95 rfl rfl rfl rfl kS H38 ?_
      intro W35 hu36 Ha37; clear H38; clear hu36
      refine aN ?_
      refine aM ?_
      refine wp_ret ?_
      refine eB ?_
      refine kQ ?_
      refine eB ?_
      refine eB ?_
      refine kQ ?_
      refine eB ?_
      have hr : dW le (le.length + 1) k0 n0 = ⟨1, ((kq : Nat) : Int)⟩ := hf1.trans (look_stop le fu kq hkq kO)
      refine eP (.inl rfl) Tryz.results187 Tryz.isAgg95 Tryz.sizeOf95 rfl (Ha37.blk 0 rfl) rfl ?_
      rw [hr]
      exact ⟨rfl, Ha37.pick [1, 2] kD rfl⟩
     ·refine aB ?_
      refine eO rfl rfl rfl rfl (fun _ ho40 => ?_)
      refine aC ho40 (fB hg33 (iR rfl rfl)) rfl rfl ?_
      refine aB ?_
      refine aC rfl (dS (v := .bool (false)) (b := false) rfl rfl rfl rfl) rfl rfl ?_
      refine aB ?_
      refine aC rfl (aK rfl) rfl rfl ?_
      refine aB ?_
      refine eO rfl rfl rfl rfl (fun _ ho41 => ?_)
      refine aC ho41 (aK rfl) rfl rfl ?_
      refine aB ?_
      refine eO rfl rfl rfl rfl (fun _ ho42 => ?_)
      refine aC ho42 (dB rfl) rfl rfl ?_
      refine aB ?_
      refine eO rfl rfl rfl rfl (fun _ ho43 => ?_)
      refine aC ho43 (bB fa_171_3 rfl) rfl rfl ?_
      refine aB ?_
      refine eO rfl rfl rfl rfl (fun _ ho44 => ?_)
      refine aC ho44 (gI (v := .int .i64 (le[kq].State)) Tryz.isAgg3 rfl hce rfl) rfl rfl ?_
      by_cases hg45 : ¬ ((le[kq].State) : Int) = 2
      ·refine aB ?_
       refine eO rfl rfl rfl rfl (fun _ ho46 => ?_)
       refine aC ho46 (gH hg45 (iR rfl rfl)) rfl rfl ?_
       refine aB ?_
       refine aC rfl (dS (v := .bool (true)) (b := false) rfl rfl rfl rfl) rfl rfl ?_
       refine aN ?_
       refine aM ?_
       refine jB rfl ?_
       refine wp_seq ?_
       refine aS [0, 1] rfl ?_
       refine aB ?_
       refine aC rfl (bI Tryz.isAgg95 Tryz.sizeOf95 rfl (H28.blk 3 rfl) rfl) rfl rfl ?_
       refine aB ?_
       have H50 : St w F0 [hB g_0_1 95 #[.int .i64 (0), .int .i64 (0)], hB g 68 #[u0, .slice (some al) le.length cE, u2, u3, u4], hR aJ 171 (.slice (some al) le.length cE) le, hB g_0_0 95 #[.int .i64 (1), .int .i64 (((kq : Nat) : Int))]] W26 := H28.pick [2, 0, 1, 3] kD rfl; clear H28
       refine aR rfl Tryz.sizeOf95 rfl rfl rfl rfl kS H50 ?_
       intro W47 hu48 Ha49; clear H50; clear hu48
       refine aN ?_
       refine aM ?_
       refine wp_ret ?_
       refine eB ?_
       refine kQ ?_
       refine eB ?_
       refine eB ?_
       refine kQ ?_
       refine eB ?_
       have hr : dW le (le.length + 1) k0 n0 = ⟨1, ((kq : Nat) : Int)⟩ := hf1.trans (look_stop le fu kq hkq kO)
       refine eP (.inl rfl) Tryz.results187 Tryz.isAgg95 Tryz.sizeOf95 rfl (Ha49.blk 0 rfl) rfl ?_
       rw [hr]
       exact ⟨rfl, Ha49.pick [1, 2] kD rfl⟩
      ·refine aB ?_
       refine eO rfl rfl rfl rfl (fun _ ho52 => ?_)
       refine aC ho52 (fB hg45 (iR rfl rfl)) rfl rfl ?_
       refine aB ?_
       refine aC rfl (dS (v := .bool (false)) (b := false) rfl rfl rfl rfl) rfl rfl ?_
       refine aN ?_
       refine aM ?_
       refine fO rfl ?_
       refine wp_skip ?_
       refine aM ?_
       have hk2 : le[kq].Kind = 2 := by omega
       have hs2 : le[kq].State = 2 := by omega
       refine aS [0, 1, 2, 3, 4] rfl ?_
       refine aB ?_
       refine aC rfl (aK rfl) rfl rfl ?_
       refine aB ?_
       refine aC rfl (dB rfl) rfl rfl ?_
       refine aB ?_
       refine aC rfl (bB fa_171_4 rfl) rfl rfl ?_
       refine aB ?_
       refine aC rfl (rn_loadES (sub := [.int .i64 (le[kq].Value.Kind), .int .i64 (le[kq].Value.N)]) Tryz.isAgg95 Tryz.sizeOf95 rfl hce rfl rfl) rfl rfl ?_
       refine aB ?_
       have H56 : St w F0 [hB g_0_0 95 #[.int .i64 (1), .int .i64 (((kq : Nat) : Int))], hB g 68 #[u0, .slice (some al) le.length cE, u2, u3, u4], hR aJ 171 (.slice (some al) le.length cE) le, hB g_0_1 95 #[.int .i64 (0), .int .i64 (0)]] W26 := H28.pick [3, 0, 1, 2] kD rfl; clear H28
       refine aR rfl Tryz.sizeOf95 rfl rfl rfl rfl kS H56 ?_
       intro W53 hu54 Ha55; clear H56; clear hu54
       refine aN ?_
       refine inB_n ?_
       refine aM ?_
       refine aS [0, 1] rfl ?_
       refine aB ?_
       refine aC rfl (lT (k := i1) rfl rfl kO) rfl rfl ?_
       refine aB ?_
       refine aC rfl (aK rfl) rfl rfl ?_
       refine aN ?_
       refine aM ?_
       exact (aZ [(0, .pointer (some ⟨g, 0, none⟩)), (3, .pointer (some ⟨g_0_0, 0, none⟩)), (4, .pointer (some ⟨g_0_1, 0, none⟩)), (11, .int .i64 (((le.length + 1 : Nat) : Int))), (12, .int .i64 (((i1 + 1 : Nat) : Int)))] rfl).elim fun x' hx => ⟨r10 - 1, kO, i1 + 1, (le[kq].Value.Kind), (le[kq].Value.N), x', hx, kO, (by rw [hf1, look_next le fu kq hkq ⟨hk2, hs2⟩, show le.length + 1 - (i1 + 1) = fu by omega]), Ha55.pick [3, 0, 1, 2] kD rfl⟩
    ·refine aB ?_
     have H58 : St w F0 [hB g 68 #[u0, .slice AE le.length cE, u2, u3, u4], hR aJ 171 (.slice AE le.length cE) le, hB g_0_1 95 #[.int .i64 (0), .int .i64 (0)], hB g_0_0 95 #[.int .i64 (1), .int .i64 (vn)]] W11 := H13.pick [2, 3, 0, 1] kD rfl; clear H13
     obtain ⟨F59, hs60, _, hfr61⟩ := St.frame (l0 := [hB g 68 #[u0, .slice AE le.length cE, u2, u3, u4], hR aJ 171 (.slice AE le.length cE) le]) (l := [hB g_0_1 95 #[.int .i64 (0), .int .i64 (0)], hB g_0_0 95 #[.int .i64 (1), .int .i64 (vn)]]) H58
     refine aV rfl Tryz.call189 (vs := #[.pointer (some ⟨g, 0, none⟩), .int .i64 (vn)]) rfl rfl rfl (entity_no le _ _ _ _ _ _ _ _ _ hs60 hne vn hg20) ?_
     rintro e64 W63 ⟨rfl, Hn62⟩; refine ⟨_, rfl, ?_⟩
     have H65 := hfr61 _ _ Hn62; clear H58
     refine aB ?_
     refine aC rfl (aW rfl) rfl rfl ?_
     refine aN ?_
     refine aM ?_
     refine wp_seq ?_
     refine wp_seq ?_
     refine aS [0, 1, 2, 3, 4, 5, 6, 7, 8, 9, 10, 11, 12, 13, 14, 15] rfl ?_
     refine aB ?_
     refine aC rfl (aK rfl) rfl rfl ?_
     refine aB ?_
     refine aC rfl (rn_eqlNilT Tryz.runUnderlying259 rfl rfl) rfl rfl ?_
     refine aB ?_
     refine aC rfl (aK rfl) rfl rfl ?_
     refine aB ?_
     refine bX rfl rfl rfl rfl rfl rfl rfl ?_
     refine aB ?_
     refine bX rfl rfl rfl rfl rfl rfl rfl ?_
     refine aB ?_
     refine bX rfl rfl rfl rfl rfl rfl rfl ?_
     refine aB ?_
     refine bX rfl rfl rfl rfl rfl rfl rfl ?_
     refine aB ?_
     refine bX rfl rfl rfl rfl rfl rfl rfl ?_
     refine aB ?_
     refine aC rfl (dS (v := .bool (true)) (b := true) rfl rfl rfl rfl) rfl rfl ?_
     refine aB ?_
     refine aC rfl (aK rfl) rfl rfl ?_
     refine aB ?_
     refine bX rfl rfl rfl rfl rfl rfl rfl ?_
     refine aB ?_
     refine bX rfl rfl rfl rfl rfl rfl rfl ?_
     refine aB ?_
     refine bX rfl rfl rfl rfl rfl rfl rfl ?_
     refine aB ?_
     refine bX rfl rfl rfl rfl rfl rfl rfl ?_
     refine aB ?_
     refine bX rfl rfl rfl rfl rfl rfl rfl ?_
     refine aB ?_
     refine aC rfl (dS (v := .bool (true)) (b := true) rfl rfl rfl rfl) rfl rfl ?_
     refine aN ?_
     refine aM ?_
     refine jB rfl ?_
     refine wp_seq ?_
     refine aS [0, 1] rfl ?_
     refine aB ?_
     refine aC rfl (bI Tryz.isAgg95 Tryz.sizeOf95 rfl (H65.blk 3 rfl) rfl) rfl rfl ?_
     refine aB ?_
     have H69 : St w F0 [hB g_0_1 95 #[.int .i64 (0), .int .i64 (0)], hB g 68 #[u0, .slice AE le.length cE, u2, u3, u4], hR aJ 171 (.slice AE le.length cE) le, hB g_0_0 95 #[.int .i64 (1), .int .i64 (vn)]] W63 := H65.pick [2, 0, 1, 3] kD rfl; clear H65
     refine aR rfl Tryz.sizeOf95 rfl rfl rfl rfl kS H69 ?_
     intro W66 hu67 Ha68; clear H69; clear hu67
     refine aN ?_
     refine aM ?_
     refine wp_ret ?_
     refine eB ?_
     refine kQ ?_
     refine eB ?_
     refine eB ?_
     refine kQ ?_
     refine eB ?_
     have hr : dW le (le.length + 1) k0 n0 = ⟨1, vn⟩ := hf1.trans (look_out le fu 1 vn kO)
     refine eP (.inl rfl) Tryz.results187 Tryz.isAgg95 Tryz.sizeOf95 rfl (Ha68.blk 0 rfl) rfl ?_
     rw [hr]
     exact ⟨rfl, Ha68.pick [1, 2] kD rfl⟩
  ·have hge1 : le.length + 1 ≤ i1 := by omega
   have hz : le.length + 1 - i1 = 0 := by omega
   rw [hz] at hf1
   refine wp_exit ?_
   refine iF ?_
   refine iF ?_
   refine inB_x ?_
   refine aM ?_
   refine wp_seq ?_
   refine aS [0, 1] rfl ?_
   refine aB ?_
   refine aV rfl Tryz.call221 (vs := #[]) rfl rfl rfl (brokenValue_i _) ?_
   rintro e73 W72 ⟨rfl, hu71⟩; refine ⟨_, rfl, ?_⟩
   have H74 := H13.no hu71; clear H13
   refine aB ?_
   refine aR rfl Tryz.sizeOf95 rfl rfl rfl rfl kS H74 ?_
   intro W75 hu76 Ha77; clear H74; clear hu76
   refine aN ?_
   refine aM ?_
   refine wp_ret ?_
   have hr : dW le (le.length + 1) k0 n0 = ⟨2, 0⟩ := hf1
   refine eP (.inl rfl) Tryz.results187 Tryz.isAgg95 Tryz.sizeOf95 rfl (Ha77.blk 0 rfl) rfl ?_
   rw [hr]
   exact ⟨rfl, Ha77.pick [2, 3] kD rfl⟩
theorem of_e (l : List GExport) (n : Int) (g cap kk c0 : Nat) (xs : List GLink) (A0 : Option Addr) (v0 v1 v3 v4 v5 v6 : Value) (F0 : Nat → Prop) (w : World) (h : Star [hE aO 178 g cap kk [v0, v1, .slice A0 (l).length c0, v3, v4, v5, v6] xs, hR bC 256 (.slice A0 (l).length c0) (l)] w F0) (q : Int) (hq : fidx (exP n) 0 l = q) : Calls Tryz.prog 200 #[.pointer (some (Addr.add ⟨g, 0, none⟩ (kk * 7))), .int .i64 n] w (fun e' w' => e' = .returned (.int .i64 q) ∧ St w F0 [hE aO 178 g cap kk [v0, v1, .slice A0 (l).length c0, v3, v4, v5, v6] xs, hR bC 256 (.slice A0 (l).length c0) (l)] w') := by
 refine enter 11 [(0, .pointer (some (Addr.add ⟨g, 0, none⟩ (kk * 7)))), (1, .int .i64 (n))] Tryz.func200 rfl kR ?_
 intro xj
 have H1 : St w F0 [hE aO 178 g cap kk [v0, v1, .slice A0 l.length c0, v3, v4, v5, v6] xs, hR bC 256 (.slice A0 l.length c0) l] w := St.kP h
 refine wp_seq ?_
 refine aS [0, 1] rfl ?_
 refine aB ?_
 refine gG rfl rfl rfl rfl H1 ?_
 intro g_0_0 W2 hu3 Ha4; clear H1; clear hu3
 refine aB ?_
 refine aC rfl (aW rfl) rfl rfl ?_
 refine aN ?_
 refine aM ?_
 refine wp_seq ?_
 refine aS [0, 1, 2, 3, 4, 5, 6] rfl ?_
 refine aB ?_
 refine aC rfl (aK rfl) rfl rfl ?_
 refine aB ?_
 refine aC rfl (dB rfl) rfl rfl ?_
 refine aB ?_
 refine aC rfl (bB kG rfl) rfl rfl ?_
 refine aB ?_
 refine aC rfl (gI (v := .slice A0 l.length c0) Tryz.isAgg175 rfl (Ha4.catE 1 rfl) rfl) rfl rfl ?_
 refine aB ?_
 refine aC rfl (nZ (us := #[]) (vs := #[.pointer (some ⟨g_0_0, 0, none⟩)]) rfl rfl) rfl rfl ?_
 refine aB ?_
 refine aV rfl Tryz.call224 (vs := #[.slice A0 l.length c0, .func (.func 225) #[] #[.pointer (some ⟨g_0_0, 0, none⟩)]]) rfl rfl rfl (exF_idx (.pointer (some ⟨g_0_0, 0, none⟩)) (exP n) l _ _ _ (Ha4.fC 2 rfl) (fun x cs w' hu hK => exF_clo x cs n _ w' hK (hu.read ((Ha4.blk 0 rfl).at 0 rfl)))) ?_
 rintro e8 W7 ⟨rfl, hu6⟩; refine ⟨_, rfl, ?_⟩
 have H9 := Ha4.no hu6; clear Ha4
 refine aB ?_
 refine aC rfl (aW rfl) rfl rfl ?_
 refine aN ?_
 refine aM ?_
 refine wp_ret ?_
 refine eY (.inl rfl) Tryz.results200 rfl ?_
 exact ⟨congrArg (fun z => Ending.returned (Value.int IntKind.i64 z)) hq, H9.pick [1, 2] kD rfl⟩
theorem pute_old (l : List GExport) (n nx : Int) (g cap kk c0 : Nat) (xs : List GLink) (A0 : Option Addr) (v0 v1 v4 v5 v6 : Value) (F0 : Nat → Prop) (w : World) (h : Star [hE aO 178 g cap kk [v0, v1, .slice A0 (l).length c0, .int .i64 (nx), v4, v5, v6] xs, hR bC 256 (.slice A0 (l).length c0) (l)] w F0) (hn : l.length ≤ 4194304) (k : Nat) (hk : k < l.length) (hf : fidx (exP n) 0 l = (k : Int)) : Calls Tryz.prog 149 #[.pointer (some (Addr.add ⟨g, 0, none⟩ (kk * 7))), .int .i64 n] w (fun e' w' => ∃ A c, e' = .returned (.int .i64 (pxN n l nx)) ∧ St w F0 [hE aO 178 g cap kk [v0, v1, .slice A (pxL n l nx).length c, .int .i64 (pxX n l nx), v4, v5, v6] xs, hR bC 256 (.slice A (pxL n l nx).length c) (pxL n l nx)] w') := by
 refine enter 56 [(0, .pointer (some (Addr.add ⟨g, 0, none⟩ (kk * 7)))), (1, .int .i64 (n))] Tryz.func149 rfl kR ?_
 intro xj
 have H1 : St w F0 [hE aO 178 g cap kk [v0, v1, .slice A0 l.length c0, .int .i64 (nx), v4, v5, v6] xs, hR bC 256 (.slice A0 l.length c0) l] w := St.kP h
 refine wp_seq ?_
 refine aS [0] rfl ?_
 refine aB ?_
 refine aC rfl (aW rfl) rfl rfl ?_
 refine aN ?_
 refine aM ?_
 refine wp_seq ?_
 refine wp_seq ?_
 refine aS [0, 1, 2, 3] rfl ?_
 refine aB ?_
 refine aC rfl (aK rfl) rfl rfl ?_
 refine aB ?_
 refine aC rfl (aK rfl) rfl rfl ?_
 refine aB ?_
 obtain ⟨F2, hs3, _, hfr4⟩ := St.frame (l0 := [hE aO 178 g cap kk [v0, v1, .slice A0 l.length c0, .int .i64 (nx), v4, v5, v6] xs, hR bC 256 (.slice A0 l.length c0) l]) (l := []) H1
 refine aV rfl Tryz.call200 (vs := #[.pointer (some (Addr.add ⟨g, 0, none⟩ (kk * 7))), .int .i64 (n)]) rfl rfl rfl (of_e l n _ _ _ _ _ _ _ _ _ _ _ _ _ _ hs3 ((k : Nat) : Int) hf) ?_
 rintro e7 W6 ⟨rfl, Hn5⟩; refine ⟨_, rfl, ?_⟩
 have H8 := hfr4 _ _ Hn5; clear H1
 refine aB ?_
 refine aC rfl (aW rfl) rfl rfl ?_
 refine aN ?_
 refine aM ?_
 refine wp_seq ?_
 refine aS [0, 1] rfl ?_
 refine aB ?_
 refine aC rfl (aK rfl) rfl rfl ?_
 refine aB ?_
 refine aC rfl (gH (p := (0 : Int) ≤ ((k : Nat) : Int)) kO (rn_geq (p := ((k : Nat) : Int)) (q := 0) rfl rfl)) rfl rfl ?_
 refine aN ?_
 refine aM ?_
 refine jB rfl ?_
 refine wp_seq ?_
 have H9 : St w F0 [hR bC 256 (.slice A0 l.length c0) l, hE aO 178 g cap kk [v0, v1, .slice A0 l.length c0, .int .i64 (nx), v4, v5, v6] xs] W6 := H8.pick [1, 0] kD rfl; clear H8
 obtain ⟨gf10, rfl⟩ := H9.openS (q := k) hk
 obtain ⟨ce11, hn12, H13⟩ := H9.openG (q := k) hk; clear H9
 have H14 : St w F0 [hE bC 256 gf10 c0 k ce11 l, hM bC (l[k]) ce11, hE aO 178 g cap kk [v0, v1, .slice (some ⟨gf10, 0, none⟩) l.length c0, .int .i64 (nx), v4, v5, v6] xs] W6 := H13; clear H13
 obtain rfl := jV (H14.kn 1 rfl)
 have H15 : St w F0 [hE bC 256 gf10 c0 k [.int .i64 ((l[k]).Pos), .int .i64 ((l[k]).Entity), .int .i64 ((l[k]).Count)] l, hE aO 178 g cap kk [v0, v1, .slice (some ⟨gf10, 0, none⟩) l.length c0, .int .i64 (nx), v4, v5, v6] xs] W6 := H14.pick [0, 2] kD rfl; clear H14
 refine aS [0, 1, 2, 3, 4, 5, 6, 7, 8, 9, 10, 11] rfl ?_
 refine aB ?_
 refine aC rfl (aK rfl) rfl rfl ?_
 refine aB ?_
 refine aC rfl (dB rfl) rfl rfl ?_
 refine aB ?_
 refine aC rfl (bB kG rfl) rfl rfl ?_
 refine aB ?_
 refine aC rfl (gI (v := .slice (some ⟨gf10, 0, none⟩) l.length c0) Tryz.isAgg175 rfl (H15.catE 1 rfl) rfl) rfl rfl ?_
 refine aB ?_
 refine aC rfl (aK rfl) rfl rfl ?_
 refine aB ?_
 refine aC rfl (fD (k := k) Tryz.runUnderlying175 Tryz.sizeOf256 rfl rfl rfl (Nat.lt_of_lt_of_eq hk hn12.symm)) rfl rfl ?_
 refine aB ?_
 refine aC rfl (bB fa_256_2 rfl) rfl rfl ?_
 refine aB ?_
 refine aC rfl (gI (v := .int .i64 ((l[k]).Count)) Tryz.isAgg3 rfl (H15.catE 0 rfl) rfl) rfl rfl ?_
 refine aB ?_
 refine aC rfl (rn_addW rfl rfl) rfl rfl ?_
 refine aB ?_
 refine aC rfl (fD (k := k) Tryz.runUnderlying175 Tryz.sizeOf256 rfl rfl rfl (Nat.lt_of_lt_of_eq hk hn12.symm)) rfl rfl ?_
 refine aB ?_
 refine aC rfl (bB fa_256_2 rfl) rfl rfl ?_
 refine aB ?_
 refine nK (dk := bC) (k := 2) (ce' := [.int .i64 ((l[k]).Pos), .int .i64 ((l[k]).Entity), .int .i64 (IntKind.i64.wrap (((l[k]).Count) + 1))]) rfl Tryz.sizeOf3 rfl rfl rfl rfl (Nat.le_of_ble_eq_true rfl) (by simp [Value.cells, Value.oneCell']) rfl H15 ?_
 intro W16 hu17 Ha18; clear H15; clear hu17
 refine aN ?_
 refine aM ?_
 refine wp_seq ?_
 refine aS [0, 1, 2, 3, 4, 5, 6, 7, 8] rfl ?_
 refine aB ?_
 refine aC rfl (aK rfl) rfl rfl ?_
 refine aB ?_
 refine aC rfl (dB rfl) rfl rfl ?_
 refine aB ?_
 refine aC rfl (bB kG rfl) rfl rfl ?_
 refine aB ?_
 refine aC rfl (gI (v := .slice (some ⟨gf10, 0, none⟩) l.length c0) Tryz.isAgg175 rfl (Ha18.catE 1 rfl) rfl) rfl rfl ?_
 refine aB ?_
 refine aC rfl (aK rfl) rfl rfl ?_
 refine aB ?_
 refine aC rfl (fD (k := k) Tryz.runUnderlying175 Tryz.sizeOf256 rfl rfl rfl (Nat.lt_of_lt_of_eq hk hn12.symm)) rfl rfl ?_
 refine aB ?_
 refine aC rfl (bB fa_256_0 rfl) rfl rfl ?_
 refine aB ?_
 refine aC rfl (gI (v := .int .i64 ((l[k]).Pos)) Tryz.isAgg3 rfl (Ha18.catE 0 rfl) rfl) rfl rfl ?_
 refine aB ?_
 refine aC rfl (aW rfl) rfl rfl ?_
 refine aN ?_
 have H20 : St w F0 [hM bC (exUp l[k]) [.int .i64 ((l[k]).Pos), .int .i64 ((l[k]).Entity), .int .i64 (IntKind.i64.wrap (((l[k]).Count) + 1))], hE bC 256 gf10 c0 k [.int .i64 ((l[k]).Pos), .int .i64 ((l[k]).Entity), .int .i64 (IntKind.i64.wrap (((l[k]).Count) + 1))] l, hE aO 178 g cap kk [v0, v1, .slice (some ⟨gf10, 0, none⟩) l.length c0, .int .i64 (nx), v4, v5, v6] xs] W16 := Ha18.add0 (q := hM bC (exUp l[k]) [.int .i64 ((l[k]).Pos), .int .i64 ((l[k]).Entity), .int .i64 (IntKind.i64.wrap (((l[k]).Count) + 1))]) (jH _ No (exUp l[k])); clear Ha18
 have H21 : St w F0 [hE bC 256 gf10 c0 k [.int .i64 ((l[k]).Pos), .int .i64 ((l[k]).Entity), .int .i64 (IntKind.i64.wrap (((l[k]).Count) + 1))] l, hM bC (exUp l[k]) [.int .i64 ((l[k]).Pos), .int .i64 ((l[k]).Entity), .int .i64 (IntKind.i64.wrap (((l[k]).Count) + 1))], hE aO 178 g cap kk [v0, v1, .slice (some ⟨gf10, 0, none⟩) l.length c0, .int .i64 (nx), v4, v5, v6] xs] W16 := H20.pick [1, 0, 2] kD rfl; clear H20
 have H22 : St w F0 [hR bC 256 (.slice (some ⟨gf10, 0, none⟩) l.length c0) (l.set k (exUp l[k])), hE aO 178 g cap kk [v0, v1, .slice (some ⟨gf10, 0, none⟩) l.length c0, .int .i64 (nx), v4, v5, v6] xs] W16 := H21.closeG rfl (by rw [List.length_set]); clear H21
 refine aM ?_
 refine wp_ret ?_
 refine eB ?_
 obtain ⟨e1, e2, e3⟩ := px_yes n l nx k hk hf
 refine eY (.inl rfl) Tryz.results149 rfl ?_
 rw [e1, e2, e3]
 rw [List.length_set]
 exact ⟨(some ⟨gf10, 0, none⟩), c0, rfl, H22.pick [1, 0] kD rfl⟩
theorem pute_new (l : List GExport) (n nx : Int) (g cap kk c0 : Nat) (xs : List GLink) (A0 : Option Addr) (v0 v1 v4 v5 v6 : Value) (F0 : Nat → Prop) (w : World) (h : Star [hE aO 178 g cap kk [v0, v1, .slice A0 (l).length c0, .int .i64 (nx), v4, v5, v6] xs, hR bC 256 (.slice A0 (l).length c0) (l)] w F0) (hn : l.length ≤ 4194304) (hf : fidx (exP n) 0 l = -1) : Calls Tryz.prog 149 #[.pointer (some (Addr.add ⟨g, 0, none⟩ (kk * 7))), .int .i64 n] w (fun e' w' => ∃ A c, e' = .returned (.int .i64 (pxN n l nx)) ∧ St w F0 [hE aO 178 g cap kk [v0, v1, .slice A (pxL n l nx).length c, .int .i64 (pxX n l nx), v4, v5, v6] xs, hR bC 256 (.slice A (pxL n l nx).length c) (pxL n l nx)] w') := by
 refine enter 56 [(0, .pointer (some (Addr.add ⟨g, 0, none⟩ (kk * 7)))), (1, .int .i64 (n))] Tryz.func149 rfl kR ?_
 intro xj
 have H1 : St w F0 [hE aO 178 g cap kk [v0, v1, .slice A0 l.length c0, .int .i64 (nx), v4, v5, v6] xs, hR bC 256 (.slice A0 l.length c0) l] w := St.kP h
 refine wp_seq ?_
 refine aS [0] rfl ?_
 refine aB ?_
 refine aC rfl (aW rfl) rfl rfl ?_
 refine aN ?_
 refine aM ?_
 refine wp_seq ?_
 refine wp_seq ?_
 refine aS [0, 1, 2, 3] rfl ?_
 refine aB ?_
 refine aC rfl (aK rfl) rfl rfl ?_
 refine aB ?_
 refine aC rfl (aK rfl) rfl rfl ?_
 refine aB ?_
 obtain ⟨F2, hs3, _, hfr4⟩ := St.frame (l0 := [hE aO 178 g cap kk [v0, v1, .slice A0 l.length c0, .int .i64 (nx), v4, v5, v6] xs, hR bC 256 (.slice A0 l.length c0) l]) (l := []) H1
 refine aV rfl Tryz.call200 (vs := #[.pointer (some (Addr.add ⟨g, 0, none⟩ (kk * 7))), .int .i64 (n)]) rfl rfl rfl (of_e l n _ _ _ _ _ _ _ _ _ _ _ _ _ _ hs3 (-1) hf) ?_
 rintro e7 W6 ⟨rfl, Hn5⟩; refine ⟨_, rfl, ?_⟩
 have H8 := hfr4 _ _ Hn5; clear H1
 refine aB ?_
 refine aC rfl (aW rfl) rfl rfl ?_
 refine aN ?_
 refine aM ?_
 refine wp_seq ?_
 refine aS [0, 1] rfl ?_
 refine aB ?_
 refine aC rfl (aK rfl) rfl rfl ?_
 refine aB ?_
 refine aC rfl (fB (p := (0 : Int) ≤ (-1)) kO (rn_geq (p := (-1)) (q := 0) rfl rfl)) rfl rfl ?_
 refine aN ?_
 refine aM ?_
 refine fO rfl ?_
 refine wp_skip ?_
 refine aM ?_
 refine wp_seq ?_
 refine aS [0, 1, 2, 3, 4, 5, 6, 7] rfl ?_
 refine aB ?_
 refine aC rfl (aK rfl) rfl rfl ?_
 refine aB ?_
 refine aC rfl (dB rfl) rfl rfl ?_
 refine aB ?_
 refine aC rfl (bB nA rfl) rfl rfl ?_
 refine aB ?_
 refine aC rfl (gI (v := .int .i64 (nx)) Tryz.isAgg3 rfl (H8.catE 0 rfl) rfl) rfl rfl ?_
 refine aB ?_
 refine aC rfl (rn_addW rfl rfl) rfl rfl ?_
 refine aB ?_
 refine aC rfl (dB rfl) rfl rfl ?_
 refine aB ?_
 refine aC rfl (bB nA rfl) rfl rfl ?_
 refine aB ?_
 refine nK (dk := aO) (k := 3) (ce' := [v0, v1, .slice A0 l.length c0, .int .i64 (IntKind.i64.wrap (nx + 1)), v4, v5, v6]) rfl Tryz.sizeOf3 rfl rfl rfl rfl (Nat.le_of_ble_eq_true rfl) (by simp [Value.cells, Value.oneCell']) rfl H8 ?_
 intro W9 hu10 Ha11; clear H8; clear hu10
 refine aN ?_
 refine aM ?_
 refine wp_seq ?_
 refine eH (fun W' => Cat W' (Addr.add ⟨g, 0, none⟩ (kk * 7)) [v0, v1, .slice A0 l.length c0, .int .i64 (IntKind.i64.wrap (nx + 1)), v4, v5, v6]) 15 kR ?_
 have H13 := Ha11.drew; clear Ha11
 have hS14 : Cat W9.drew (Addr.add ⟨g, 0, none⟩ (kk * 7)) [v0, v1, .slice A0 l.length c0, .int .i64 (IntKind.i64.wrap (nx + 1)), v4, v5, v6] := (H13.catE 0 rfl)
 refine aF (i := 0) rfl kR kR kR kR kR (fun _ _ _ h => h) rfl rfl hS14 (fun W' hs' => aK rfl) ?_
 refine aF (i := 1) rfl kR kR kR kR kR (fun _ _ _ h => h) rfl rfl hS14 (fun W' hs' => aK rfl) ?_
 refine aF (i := 2) rfl kR kR kR kR kR (fun _ _ _ h => h) rfl rfl hS14 (fun W' hs' => dB rfl) ?_
 refine aF (i := 3) rfl kR kR kR kR kR (fun _ _ _ h => h) rfl rfl hS14 (fun W' hs' => bB kG rfl) ?_
 refine aF (i := 4) rfl kR kR kR kR kR (fun _ _ _ h => h) rfl rfl hS14 (fun W' hs' => gI (v := .slice A0 l.length c0) Tryz.isAgg175 rfl hs' rfl) ?_
 refine aF (i := 5) rfl kR kR kR kR kR (fun _ _ _ h => h) rfl rfl hS14 (fun W' hs' => aK rfl) ?_
 refine aF (i := 6) rfl kR kR kR kR kR (fun _ _ _ h => h) rfl rfl hS14 (fun W' hs' => dB rfl) ?_
 refine aF (i := 7) rfl kR kR kR kR kR (fun _ _ _ h => h) rfl rfl hS14 (fun W' hs' => bB nA rfl) ?_
 refine aF (i := 8) rfl kR kR kR kR kR (fun _ _ _ h => h) rfl rfl hS14 (fun W' hs' => gI (v := .int .i64 (IntKind.i64.wrap (nx + 1))) Tryz.isAgg3 rfl hs' rfl) ?_
 refine aF (i := 9) rfl kR kR kR kR kR (fun _ _ _ h => h) rfl rfl hS14 (fun W' hs' => aK rfl) ?_
 refine aF (i := 10) rfl kR kR kR kR kR (fun _ _ _ h => h) rfl rfl hS14 (fun W' hs' => fJ (vs := [(0, .int .i64 (IntKind.i64.wrap (nx + 1))), (1, .int .i64 (n)), (2, .int .i64 (1))]) (cells := #[.int .i64 (IntKind.i64.wrap (nx + 1)), .int .i64 (n), .int .i64 (1)]) rfl kR) ?_
 refine aL (i := 11) kR ?_
 refine kK rfl Tryz.runUnderlying175 Tryz.sizeOf256 kD Tryz.zeroValue256 rfl rfl rfl rfl H13 ?_
 intro g_6_11 W15 hu16 Ha17; clear H13; clear hu16
 have hS19 := (Ha17.catE 1 rfl); refine ⟨fun _ => hS19, ?_⟩
 refine aL (i := 12) kR ?_
 have H22 : St w F0 [hR bC 256 (.slice A0 l.length c0) l, hB g_6_11 256 #[.int .i64 (IntKind.i64.wrap (nx + 1)), .int .i64 (n), .int .i64 (1)], hE aO 178 g cap kk [v0, v1, .slice A0 l.length c0, .int .i64 (IntKind.i64.wrap (nx + 1)), v4, v5, v6] xs] W15 := Ha17.pick [2, 0, 1] kD rfl; clear Ha17
 refine nG (xs := l) (p := (⟨IntKind.i64.wrap (nx + 1), n, 1⟩ : GExport)) (n' := (l.length + 1)) (ys := (l ++ [(⟨IntKind.i64.wrap (nx + 1), n, 1⟩ : GExport)])) rfl Tryz.underlying175 kX rfl kD kD rfl rfl (jH _ No (⟨IntKind.i64.wrap (nx + 1), n, 1⟩ : GExport)) kO rfl rfl rfl rfl H22 ?_
 intro B_6_12 c_6_12 W20 Ha21; clear H22
 have hS24 := (Ha21.catE 1 rfl); refine ⟨fun _ => hS24, ?_⟩
 refine aL (i := 13) kR ?_
 refine aC rfl (dB rfl) rfl rfl ?_
 have hS25 := (Ha21.catE 1 rfl); refine ⟨fun _ => hS25, ?_⟩
 refine aF (i := 14) rfl kR kR kR kR kR (fun _ _ _ h => h) rfl rfl hS25 (fun W' hs' => bB kG rfl) ?_
 refine aL (i := 15) kR ?_
 have H29 : St w F0 [hE aO 178 g cap kk [v0, v1, .slice A0 l.length c0, .int .i64 (IntKind.i64.wrap (nx + 1)), v4, v5, v6] xs, hR bC 256 (.slice B_6_12 (l.length + 1) c_6_12) (l ++ [(⟨IntKind.i64.wrap (nx + 1), n, 1⟩ : GExport)])] W20 := Ha21.pick [1, 0] kD rfl; clear Ha21
 refine nK (dk := aO) (k := 2) (ce' := [v0, v1, .slice B_6_12 (l.length + 1) c_6_12, .int .i64 (IntKind.i64.wrap (nx + 1)), v4, v5, v6]) rfl Tryz.sizeOf175 rfl rfl rfl rfl (Nat.le_of_ble_eq_true rfl) (by simp [Value.cells, Value.oneCell']) rfl H29 ?_
 intro W26 hu27 Ha28; clear H29; clear hu27
 refine ⟨fun h => absS kR h, ?_⟩
 refine bD kR ?_ _
 refine aM ?_
 refine wp_seq ?_
 refine aS [0, 1, 2, 3, 4] rfl ?_
 refine aB ?_
 refine aC rfl (aK rfl) rfl rfl ?_
 refine aB ?_
 refine aC rfl (dB rfl) rfl rfl ?_
 refine aB ?_
 refine aC rfl (bB nA rfl) rfl rfl ?_
 refine aB ?_
 refine aC rfl (gI (v := .int .i64 (IntKind.i64.wrap (nx + 1))) Tryz.isAgg3 rfl (Ha28.catE 0 rfl) rfl) rfl rfl ?_
 refine aB ?_
 refine aC rfl (aW rfl) rfl rfl ?_
 refine aN ?_
 refine aM ?_
 refine wp_ret ?_
 obtain ⟨e1, e2, e3⟩ := px_no n l nx hf
 refine eY (.inl rfl) Tryz.results149 rfl ?_
 rw [e1, e2, e3]
 rw [List.length_append]
 exact ⟨B_6_12, c_6_12, rfl, Ha28.pick [0, 1] kD rfl⟩
theorem pute_i (l : List GExport) (n nx : Int) (g cap kk c0 : Nat) (xs : List GLink) (A0 : Option Addr) (v0 v1 v4 v5 v6 : Value) (F0 : Nat → Prop) (w : World) (h : Star [hE aO 178 g cap kk [v0, v1, .slice A0 (l).length c0, .int .i64 (nx), v4, v5, v6] xs, hR bC 256 (.slice A0 (l).length c0) (l)] w F0) (hn : l.length ≤ 4194304) : Calls Tryz.prog 149 #[.pointer (some (Addr.add ⟨g, 0, none⟩ (kk * 7))), .int .i64 n] w (fun e' w' => ∃ A c, e' = .returned (.int .i64 (pxN n l nx)) ∧ St w F0 [hE aO 178 g cap kk [v0, v1, .slice A (pxL n l nx).length c, .int .i64 (pxX n l nx), v4, v5, v6] xs, hR bC 256 (.slice A (pxL n l nx).length c) (pxL n l nx)] w') := by
 rcases fidx_case (exP n) l with hf | ⟨k, hk, hf⟩
 ·exact pute_new l n nx g cap kk c0 xs A0 v0 v1 v4 v5 v6 F0 w h hn hf
 ·exact pute_old l n nx g cap kk c0 xs A0 v0 v1 v4 v5 v6 F0 w h hn k hk hf
def isI (k m : Int) : Bool := decide (k = 0) && decide (0 ≤ m ∧ m ≤ 999999)
def twB (le : List GEntity) (ll : List GLink) (p k m : Int) : Bool := decide (k = 1 ∧ 0 ≤ m ∧ m < (le.length : Int)) && ll.any (upP p)
def twC (le : List GEntity) (p m : Int) : Bool := decide ((le.getD m.toNat jG).Kind = 3) && decide ((le.getD m.toNat jG).bT = p)
def twK (ll : List GLink) (p : Int) : GLink := ll.getD (fidx (peP p) 0 ll).toNat (zL 0)
def twW (le : List GEntity) (ll : List GLink) (p : Int) (u : GValue) : GWire := if isI u.Kind u.N = true then ⟨0, u.N⟩ else if twB le ll p u.Kind u.N = true then (if twC le p u.N = true then ⟨2, (le.getD u.N.toNat jG).Pos⟩ else ⟨1, pxN u.N (twK ll p).aH (twK ll p).Next⟩) else ⟨3, 0⟩
def twL (le : List GEntity) (ll : List GLink) (p : Int) (u : GValue) : List GLink := if isI u.Kind u.N = true then ll else if twB le ll p u.Kind u.N = true then (if twC le p u.N = true then ll else ll.set (fidx (peP p) 0 ll).toNat (pxV u.N (twK ll p))) else ll
theorem tw_int (le : List GEntity) (ll : List GLink) (p k m : Int) (h : isI k m = true) : twW le ll p ⟨k, m⟩ = ⟨0, m⟩ ∧ twL le ll p ⟨k, m⟩ = ll := by
 unfold twW twL
 simp only [h, if_true, and_self]
theorem tw_bad (le : List GEntity) (ll : List GLink) (p k m : Int) (h : isI k m = false) (h2 : ¬ ((k = 1 ∧ 0 ≤ m ∧ m < (le.length : Int)) ∧ ll.any (upP p) = true)) : twW le ll p ⟨k, m⟩ = ⟨3, 0⟩ ∧ twL le ll p ⟨k, m⟩ = ll := by
 have h3 : twB le ll p k m = false := by
  unfold twB
  cases e : ll.any (upP p)
  ·rw [Bool.and_false]
  ·rw [Bool.and_true]
   exact decide_eq_false (fun q => h2 ⟨q, e⟩)
 unfold twW twL
 simp only [h, h3, Bool.false_eq_true, if_false, and_self]
theorem tw_in (le : List GEntity) (ll : List GLink) (p : Int) (q : Nat) (hq : q < le.length) (hu : ll.any (upP p) = true) : isI 1 (q : Int) = false ∧ twB le ll p 1 (q : Int) = true ∧ le.getD (q : Int).toNat jG = le[q] := by
 refine ⟨rfl, ?_, by simp [List.getD, hq]⟩
 unfold twB
 rw [hu, Bool.and_true]
 exact decide_eq_true ⟨rfl, by omega, by omega⟩
theorem tw_back (le : List GEntity) (ll : List GLink) (p : Int) (q : Nat) (hq : q < le.length) (hu : ll.any (upP p) = true) (h : le[q].Kind = 3 ∧ le[q].bT = p) : twW le ll p ⟨1, (q : Int)⟩ = ⟨2, le[q].Pos⟩ ∧ twL le ll p ⟨1, (q : Int)⟩ = ll := by
 obtain ⟨a, b, c⟩ := tw_in le ll p q hq hu
 have d : twC le p (q : Int) = true := by
  unfold twC
  rw [c, decide_eq_true h.1, decide_eq_true h.2]
  rfl
 unfold twW twL
 simp only [a, b, c, d, Bool.false_eq_true, if_false, if_true, and_self]
theorem tw_put (le : List GEntity) (ll : List GLink) (p : Int) (q : Nat) (hq : q < le.length) (hu : ll.any (upP p) = true) (h : ¬ (le[q].Kind = 3 ∧ le[q].bT = p)) (k : Nat) (hk : k < ll.length) (hf : fidx (peP p) 0 ll = (k : Int)) : twW le ll p ⟨1, (q : Int)⟩ = ⟨1, pxN (q : Int) ll[k].aH ll[k].Next⟩ ∧ twL le ll p ⟨1, (q : Int)⟩ = ll.set k (pxV (q : Int) ll[k]) := by
 obtain ⟨a, b, c⟩ := tw_in le ll p q hq hu
 have d : twC le p (q : Int) = false := by
  unfold twC
  rw [c]
  by_cases h1 : le[q].Kind = 3
  ·rw [decide_eq_true h1, decide_eq_false (fun h2 => h ⟨h1, h2⟩)]
   rfl
  ·rw [decide_eq_false h1]
   rfl
 have e : twK ll p = ll[k] := by
  unfold twK
  rw [hf, Int.toNat_natCast]
  simp [List.getD, hk]
 unfold twW twL
 simp only [a, b, d, e, hf, Int.toNat_natCast, Bool.false_eq_true, if_false, if_true, and_self]
theorem look_q (le : List GEntity) (k0 n0 uk un : Int) (g cE : Nat) (AE : Option Addr) (u0 u2 u3 u4 : Value) (F0 : Nat → Prop) (w : World) (h : Star [hB g 68 #[u0, .slice AE le.length cE, u2, u3, u4], hR aJ 171 (.slice AE le.length cE) le] w F0) (hne : le.length ≤ 4194304) (hlk : dW le (le.length + 1) k0 n0 = ⟨uk, un⟩) : Calls Tryz.prog 187 #[.pointer (some ⟨g, 0, none⟩), .agg #[.int .i64 k0, .int .i64 n0]] w (fun e' w' => e' = .returned (.agg #[.int .i64 uk, .int .i64 un]) ∧ St w F0 [hB g 68 #[u0, .slice AE le.length cE, u2, u3, u4], hR aJ 171 (.slice AE le.length cE) le] w') := by
 have q := look_i le k0 n0 g cE AE u0 u2 u3 u4 F0 w h hne
 rw [hlk] at q
 exact q
theorem isInt_i (k m : Int) (w : World) : Calls Tryz.prog 188 #[.agg #[.int .i64 k, .int .i64 m]] w (eX (isI k m) w) := by
 refine enter 11 [(0, .agg #[.int .i64 (k), .int .i64 (m)])] Tryz.func188 rfl kR ?_
 intro xj
 have H1 : St w No [] w := St.enter
 refine wp_seq ?_
 refine aS [0, 1] rfl ?_
 refine aB ?_
 refine gG rfl rfl rfl rfl H1 ?_
 intro g_0_0 W2 hu3 Ha4; clear H1; clear hu3
 refine aB ?_
 refine aC rfl (aW rfl) rfl rfl ?_
 refine aN ?_
 refine aM ?_
 refine wp_seq ?_
 refine aS [0, 1, 2, 3, 4, 5, 6, 7, 8] rfl ?_
 refine aB ?_
 refine aC rfl (bB jM rfl) rfl rfl ?_
 refine aB ?_
 refine aC rfl (bG (k := 0) (v := .int .i64 (k)) Tryz.isAgg3 rfl (Ha4.blk 0 rfl) rfl) rfl rfl ?_
 by_cases hg6 : (k : Int) = 0
 ·refine aB ?_
  refine aC rfl (gH hg6 (iQ rfl rfl)) rfl rfl ?_
  refine aB ?_
  refine aC rfl (aK rfl) rfl rfl ?_
  refine aB ?_
  refine eO rfl rfl rfl rfl (fun _ ho7 => ?_)
  refine aC ho7 (bB iZ rfl) rfl rfl ?_
  refine aB ?_
  refine eO rfl rfl rfl rfl (fun _ ho8 => ?_)
  refine aC ho8 (bG (k := 1) (v := .int .i64 (m)) Tryz.isAgg3 rfl (Ha4.blk 0 rfl) rfl) rfl rfl ?_
  by_cases hg9 : (decide (0 ≤ m ∧ m ≤ 999999)) = true
  ·refine aB ?_
   refine eO rfl rfl rfl rfl (fun _ ho10 => ?_)
   refine aV ho10 Tryz.call119 (vs := #[.int .i64 (m), .int .i64 (0), .int .i64 (999999)]) rfl rfl rfl (retb (in_i m 0 999999 _) hg9) ?_
   rintro e13 W12 ⟨rfl, hu11⟩; refine ⟨_, rfl, ?_⟩
   have H14 := Ha4.no hu11; clear Ha4
   refine aB ?_
   refine aC rfl (dS (v := .bool (true)) (b := true) rfl rfl rfl rfl) rfl rfl ?_
   refine aB ?_
   refine aC rfl (aW rfl) rfl rfl ?_
   refine aN ?_
   refine aM ?_
   refine wp_ret ?_
   refine eY (.inl rfl) Tryz.results188 rfl ?_
   exact ⟨congrArg (fun z => Ending.returned (Value.bool z)) (by simp_all [isI]), H14.1⟩
  ·refine aB ?_
   refine eO rfl rfl rfl rfl (fun _ ho15 => ?_)
   refine aV ho15 Tryz.call119 (vs := #[.int .i64 (m), .int .i64 (0), .int .i64 (999999)]) rfl rfl rfl (retb (in_i m 0 999999 _) (eq_false_of_ne_true hg9)) ?_
   rintro e18 W17 ⟨rfl, hu16⟩; refine ⟨_, rfl, ?_⟩
   have H19 := Ha4.no hu16; clear Ha4
   refine aB ?_
   refine aC rfl (dS (v := .bool (false)) (b := true) rfl rfl rfl rfl) rfl rfl ?_
   refine aB ?_
   refine aC rfl (aW rfl) rfl rfl ?_
   refine aN ?_
   refine aM ?_
   refine wp_ret ?_
   refine eY (.inl rfl) Tryz.results188 rfl ?_
   exact ⟨congrArg (fun z => Ending.returned (Value.bool z)) (by simp_all [isI]), H19.1⟩
 ·refine aB ?_
  refine aC rfl (fB hg6 (iQ rfl rfl)) rfl rfl ?_
  refine aB ?_
  refine aC rfl (aK rfl) rfl rfl ?_
  refine aB ?_
  refine bX rfl rfl rfl rfl rfl rfl rfl ?_
  refine aB ?_
  refine bX rfl rfl rfl rfl rfl rfl rfl ?_
  refine aB ?_
  refine bX rfl rfl rfl rfl rfl rfl rfl ?_
  refine aB ?_
  refine aC rfl (dS (v := .bool (false)) (b := false) rfl rfl rfl rfl) rfl rfl ?_
  refine aB ?_
  refine aC rfl (aW rfl) rfl rfl ?_
  refine aN ?_
  refine aM ?_
  refine wp_ret ?_
  refine eY (.inl rfl) Tryz.results188 rfl ?_
  exact ⟨congrArg (fun z => Ending.returned (Value.bool z)) (by simp_all [isI]), Ha4.1⟩
theorem toWire_no (le : List GEntity) (ll : List GLink) (p k0 n0 uk un : Int) (g cE cL : Nat) (AE AL : Option Addr) (u0 u2 u4 : Value) (F0 : Nat → Prop) (w : World) (h : Star [hB g 68 #[u0, .slice AE le.length cE, u2, .slice AL (ll).length cL, u4], hR aJ 171 (.slice AE le.length cE) le, hR aO 178 (.slice AL (ll).length cL) (ll)] w F0) (hne : le.length ≤ 4194304) (hbl : ∀ (q : Nat) (h : q < ll.length), ll[q].aH.length ≤ 4194304) (hlk : dW le (le.length + 1) k0 n0 = ⟨uk, un⟩) (hup : ll.any (upP p) = false) : Calls Tryz.prog 130 #[.pointer (some ⟨g, 0, none⟩), .int .i64 p, .agg #[.int .i64 k0, .int .i64 n0]] w (fun e' w' => ∃ A c, e' = .returned (.agg #[.int .i64 (twW le ll p ⟨uk, un⟩).Kind, .int .i64 (twW le ll p ⟨uk, un⟩).N]) ∧ St w F0 [hB g 68 #[u0, .slice AE le.length cE, u2, .slice A (twL le ll p ⟨uk, un⟩).length c, u4], hR aJ 171 (.slice AE le.length cE) le, hR aO 178 (.slice A (twL le ll p ⟨uk, un⟩).length c) (twL le ll p ⟨uk, un⟩)] w') := by
 refine enter 61 [(0, .pointer (some ⟨g, 0, none⟩)), (1, .int .i64 (p)), (2, .agg #[.int .i64 (k0), .int .i64 (n0)])] Tryz.func130 rfl kR ?_
 intro xj
 have H1 : St w F0 [hB g 68 #[u0, .slice AE le.length cE, u2, .slice AL ll.length cL, u4], hR aJ 171 (.slice AE le.length cE) le, hR aO 178 (.slice AL ll.length cL) ll] w := St.kP h
 refine wp_seq ?_
 refine aS [0, 1] rfl ?_
 refine aB ?_
 refine gG rfl rfl rfl rfl H1 ?_
 intro g_0_0 W2 hu3 Ha4; clear H1; clear hu3
 refine aB ?_
 refine bA rfl Tryz.zeroValue72 rfl rfl Ha4 ?_
 intro g_0_1 W6 hu7 Ha8; clear Ha4; clear hu7
 refine aN ?_
 refine aM ?_
 refine wp_seq ?_
 refine aS [0, 1, 2, 3, 4, 5, 6, 7, 8] rfl ?_
 refine aB ?_
 refine aC rfl (aK rfl) rfl rfl ?_
 refine aB ?_
 refine aC rfl (bI Tryz.isAgg95 Tryz.sizeOf95 rfl (Ha8.blk 1 rfl) rfl) rfl rfl ?_
 refine aB ?_
 have H10 : St w F0 [hB g 68 #[u0, .slice AE le.length cE, u2, .slice AL ll.length cL, u4], hR aJ 171 (.slice AE le.length cE) le, hB g_0_1 72 #[.int .i64 (0), .int .i64 (0)], hB g_0_0 95 #[.int .i64 (k0), .int .i64 (n0)], hR aO 178 (.slice AL ll.length cL) ll] W6 := Ha8.pick [2, 3, 0, 1, 4] kD rfl; clear Ha8
 obtain ⟨F11, hs12, _, hfr13⟩ := St.frame (l0 := [hB g 68 #[u0, .slice AE le.length cE, u2, .slice AL ll.length cL, u4], hR aJ 171 (.slice AE le.length cE) le]) (l := [hB g_0_1 72 #[.int .i64 (0), .int .i64 (0)], hB g_0_0 95 #[.int .i64 (k0), .int .i64 (n0)], hR aO 178 (.slice AL ll.length cL) ll]) H10
 refine aV rfl Tryz.call187 (vs := #[.pointer (some ⟨g, 0, none⟩), .agg #[.int .i64 (k0), .int .i64 (n0)]]) rfl rfl rfl (look_q le k0 n0 uk un _ _ _ _ _ _ _ _ _ hs12 hne hlk) ?_
 rintro e16 W15 ⟨rfl, Hn14⟩; refine ⟨_, rfl, ?_⟩
 have H17 := hfr13 _ _ Hn14; clear H10
 refine aB ?_
 refine aC rfl (aK rfl) rfl rfl ?_
 refine aB ?_
 refine aC rfl (aK rfl) rfl rfl ?_
 refine aB ?_
 have H18 : St w F0 [hB g 68 #[u0, .slice AE le.length cE, u2, .slice AL ll.length cL, u4], hR aO 178 (.slice AL ll.length cL) ll, hR aJ 171 (.slice AE le.length cE) le, hB g_0_1 72 #[.int .i64 (0), .int .i64 (0)], hB g_0_0 95 #[.int .i64 (k0), .int .i64 (n0)]] W15 := H17.pick [0, 4, 1, 2, 3] kD rfl; clear H17
 obtain ⟨F19, hs20, _, hfr21⟩ := St.frame (l0 := [hB g 68 #[u0, .slice AE le.length cE, u2, .slice AL ll.length cL, u4], hR aO 178 (.slice AL ll.length cL) ll]) (l := [hR aJ 171 (.slice AE le.length cE) le, hB g_0_1 72 #[.int .i64 (0), .int .i64 (0)], hB g_0_0 95 #[.int .i64 (k0), .int .i64 (n0)]]) H18
 refine aV rfl Tryz.call167 (vs := #[.pointer (some ⟨g, 0, none⟩), .int .i64 (p)]) rfl rfl rfl (link_no ll p _ _ _ _ _ _ _ _ _ hs20 hup) ?_
 rintro e24 W23 ⟨rfl, Hn22⟩; refine ⟨_, rfl, ?_⟩
 have H25 := hfr21 _ _ Hn22; clear H18
 refine aB ?_
 refine bA rfl Tryz.zeroValue95 rfl rfl H25 ?_
 intro g_1_6 W26 hu27 Ha28; clear H25; clear hu27
 refine aB ?_
 refine aR rfl Tryz.sizeOf95 rfl rfl rfl rfl kS Ha28 ?_
 intro W30 hu31 Ha32; clear Ha28; clear hu31
 refine aB ?_
 refine aC rfl (aW rfl) rfl rfl ?_
 refine aN ?_
 refine aM ?_
 refine wp_seq ?_
 refine wp_seq ?_
 refine aS [0, 1] rfl ?_
 refine aB ?_
 refine aC rfl (bI Tryz.isAgg95 Tryz.sizeOf95 rfl (Ha32.blk 0 rfl) rfl) rfl rfl ?_
 refine aB ?_
 refine aV rfl Tryz.call188 (vs := #[.agg #[.int .i64 (uk), .int .i64 (un)]]) rfl rfl rfl (isInt_i uk un _) ?_
 rintro e36 W35 ⟨rfl, hu34⟩; refine ⟨_, rfl, ?_⟩
 have H37 := Ha32.no hu34; clear Ha32
 refine aN ?_
 refine aM ?_
 refine cond_b (b := isI uk un) rfl (fun hc38 => ?_) (fun hc38 => ?_)
 ·refine wp_seq ?_
  refine aS [0, 1, 2, 3] rfl ?_
  refine aB ?_
  refine aC rfl (bB iZ rfl) rfl rfl ?_
  refine aB ?_
  refine aC rfl (bG (k := 1) (v := .int .i64 (un)) Tryz.isAgg3 rfl (H37.blk 0 rfl) rfl) rfl rfl ?_
  refine aB ?_
  refine aC rfl (fJ (vs := [(0, .int .i64 (0)), (1, .int .i64 (un))]) (cells := #[.int .i64 (0), .int .i64 (un)]) rfl kR) rfl rfl ?_
  refine aB ?_
  have H42 : St w F0 [hB g_0_1 72 #[.int .i64 (0), .int .i64 (0)], hB g_1_6 95 #[.int .i64 (uk), .int .i64 (un)], hB g 68 #[u0, .slice AE le.length cE, u2, .slice AL ll.length cL, u4], hR aO 178 (.slice AL ll.length cL) ll, hR aJ 171 (.slice AE le.length cE) le, hB g_0_0 95 #[.int .i64 (k0), .int .i64 (n0)]] W35 := H37.pick [4, 0, 1, 2, 3, 5] kD rfl; clear H37
  refine aR rfl Tryz.sizeOf72 rfl rfl rfl rfl kS H42 ?_
  intro W39 hu40 Ha41; clear H42; clear hu40
  refine aN ?_
  refine aM ?_
  refine wp_ret ?_
  refine eB ?_
  obtain ⟨e1, e2⟩ := tw_int le ll p uk un hc38
  refine eP (.inl rfl) Tryz.results130 Tryz.isAgg72 Tryz.sizeOf72 rfl (Ha41.blk 0 rfl) rfl ?_
  rw [e1, e2]
  exact ⟨AL, cL, rfl, Ha41.pick [2, 4, 3] kD rfl⟩
 ·refine wp_skip ?_
  refine aM ?_
  refine wp_seq ?_
  refine wp_seq ?_
  refine aS [0, 1, 2, 3, 4, 5, 6] rfl ?_
  refine aB ?_
  refine aC rfl (bB jM rfl) rfl rfl ?_
  refine aB ?_
  refine aC rfl (bG (k := 0) (v := .int .i64 (uk)) Tryz.isAgg3 rfl (H37.blk 0 rfl) rfl) rfl rfl ?_
  by_cases hg44 : ¬ (uk : Int) = 1
  ·refine aB ?_
   refine aC rfl (gH hg44 (iR rfl rfl)) rfl rfl ?_
   refine aB ?_
   refine aC rfl (aK rfl) rfl rfl ?_
   refine aB ?_
   refine bX rfl rfl rfl rfl rfl rfl rfl ?_
   refine aB ?_
   refine bX rfl rfl rfl rfl rfl rfl rfl ?_
   refine aB ?_
   refine aC rfl (dS (v := .bool (true)) (b := true) rfl rfl rfl rfl) rfl rfl ?_
   refine aN ?_
   refine aM ?_
   refine jB rfl ?_
   refine wp_seq ?_
   refine aS [0, 1] rfl ?_
   refine aB ?_
   refine aC rfl (fJ (vs := [(0, .int .i64 (3))]) (cells := #[.int .i64 (3), .int .i64 (0)]) rfl kR) rfl rfl ?_
   refine aB ?_
   have H48 : St w F0 [hB g_0_1 72 #[.int .i64 (0), .int .i64 (0)], hB g_1_6 95 #[.int .i64 (uk), .int .i64 (un)], hB g 68 #[u0, .slice AE le.length cE, u2, .slice AL ll.length cL, u4], hR aO 178 (.slice AL ll.length cL) ll, hR aJ 171 (.slice AE le.length cE) le, hB g_0_0 95 #[.int .i64 (k0), .int .i64 (n0)]] W35 := H37.pick [4, 0, 1, 2, 3, 5] kD rfl; clear H37
   refine aR rfl Tryz.sizeOf72 rfl rfl rfl rfl kS H48 ?_
   intro W45 hu46 Ha47; clear H48; clear hu46
   refine aN ?_
   refine aM ?_
   refine wp_ret ?_
   refine eB ?_
   obtain ⟨e1, e2⟩ := tw_bad le ll p uk un hc38 (by rintro ⟨q1, q2⟩; first | omega | (rw [hup] at q2; cases q2))
   refine eP (.inl rfl) Tryz.results130 Tryz.isAgg72 Tryz.sizeOf72 rfl (Ha47.blk 0 rfl) rfl ?_
   rw [e1, e2]
   exact ⟨AL, cL, rfl, Ha47.pick [2, 4, 3] kD rfl⟩
  ·refine aB ?_
   refine aC rfl (fB hg44 (iR rfl rfl)) rfl rfl ?_
   refine aB ?_
   refine aC rfl (aK rfl) rfl rfl ?_
   refine aB ?_
   refine eO rfl rfl rfl rfl (fun _ ho50 => ?_)
   refine aC ho50 (aK rfl) rfl rfl ?_
   refine aB ?_
   refine eO rfl rfl rfl rfl (fun _ ho51 => ?_)
   refine aC ho51 (rn_eqlNilT Tryz.runUnderlying241 rfl rfl) rfl rfl ?_
   refine aB ?_
   refine aC rfl (dS (v := .bool (true)) (b := false) rfl rfl rfl rfl) rfl rfl ?_
   refine aN ?_
   refine aM ?_
   refine jB rfl ?_
   refine wp_seq ?_
   refine aS [0, 1] rfl ?_
   refine aB ?_
   refine aC rfl (fJ (vs := [(0, .int .i64 (3))]) (cells := #[.int .i64 (3), .int .i64 (0)]) rfl kR) rfl rfl ?_
   refine aB ?_
   have H55 : St w F0 [hB g_0_1 72 #[.int .i64 (0), .int .i64 (0)], hB g_1_6 95 #[.int .i64 (uk), .int .i64 (un)], hB g 68 #[u0, .slice AE le.length cE, u2, .slice AL ll.length cL, u4], hR aO 178 (.slice AL ll.length cL) ll, hR aJ 171 (.slice AE le.length cE) le, hB g_0_0 95 #[.int .i64 (k0), .int .i64 (n0)]] W35 := H37.pick [4, 0, 1, 2, 3, 5] kD rfl; clear H37
   refine aR rfl Tryz.sizeOf72 rfl rfl rfl rfl kS H55 ?_
   intro W52 hu53 Ha54; clear H55; clear hu53
   refine aN ?_
   refine aM ?_
   refine wp_ret ?_
   refine eB ?_
   obtain ⟨e1, e2⟩ := tw_bad le ll p uk un hc38 (by rintro ⟨q1, q2⟩; first | omega | (rw [hup] at q2; cases q2))
   refine eP (.inl rfl) Tryz.results130 Tryz.isAgg72 Tryz.sizeOf72 rfl (Ha54.blk 0 rfl) rfl ?_
   rw [e1, e2]
   exact ⟨AL, cL, rfl, Ha54.pick [2, 4, 3] kD rfl⟩
theorem toWire_yes (le : List GEntity) (ll : List GLink) (p k0 n0 uk un : Int) (g cE cL : Nat) (AE AL : Option Addr) (u0 u2 u4 : Value) (F0 : Nat → Prop) (w : World) (h : Star [hB g 68 #[u0, .slice AE le.length cE, u2, .slice AL (ll).length cL, u4], hR aJ 171 (.slice AE le.length cE) le, hR aO 178 (.slice AL (ll).length cL) (ll)] w F0) (hne : le.length ≤ 4194304) (hbl : ∀ (q : Nat) (h : q < ll.length), ll[q].aH.length ≤ 4194304) (hlk : dW le (le.length + 1) k0 n0 = ⟨uk, un⟩) (hup : ll.any (upP p) = true) (k : Nat) (hk : k < ll.length) (hf : fidx (peP p) 0 ll = (k : Int)) : Calls Tryz.prog 130 #[.pointer (some ⟨g, 0, none⟩), .int .i64 p, .agg #[.int .i64 k0, .int .i64 n0]] w (fun e' w' => ∃ A c, e' = .returned (.agg #[.int .i64 (twW le ll p ⟨uk, un⟩).Kind, .int .i64 (twW le ll p ⟨uk, un⟩).N]) ∧ St w F0 [hB g 68 #[u0, .slice AE le.length cE, u2, .slice A (twL le ll p ⟨uk, un⟩).length c, u4], hR aJ 171 (.slice AE le.length cE) le, hR aO 178 (.slice A (twL le ll p ⟨uk, un⟩).length c) (twL le ll p ⟨uk, un⟩)] w') := by
 refine enter 61 [(0, .pointer (some ⟨g, 0, none⟩)), (1, .int .i64 (p)), (2, .agg #[.int .i64 (k0), .int .i64 (n0)])] Tryz.func130 rfl kR ?_
 intro xj
 have H1 : St w F0 [hB g 68 #[u0, .slice AE le.length cE, u2, .slice AL ll.length cL, u4], hR aJ 171 (.slice AE le.length cE) le, hR aO 178 (.slice AL ll.length cL) ll] w := St.kP h
 have H2 : St w F0 [hR aO 178 (.slice AL ll.length cL) ll, hB g 68 #[u0, .slice AE le.length cE, u2, .slice AL ll.length cL, u4], hR aJ 171 (.slice AE le.length cE) le] w := H1.pick [2, 0, 1] kD rfl; clear H1
 obtain ⟨gl, rfl⟩ := H2.openS (q := k) hk
 refine wp_seq ?_
 refine aS [0, 1] rfl ?_
 refine aB ?_
 refine gG rfl rfl rfl rfl H2 ?_
 intro g_0_0 W3 hu4 Ha5; clear H2; clear hu4
 refine aB ?_
 refine bA rfl Tryz.zeroValue72 rfl rfl Ha5 ?_
 intro g_0_1 W7 hu8 Ha9; clear Ha5; clear hu8
 refine aN ?_
 refine aM ?_
 refine wp_seq ?_
 refine aS [0, 1, 2, 3, 4, 5, 6, 7, 8] rfl ?_
 refine aB ?_
 refine aC rfl (aK rfl) rfl rfl ?_
 refine aB ?_
 refine aC rfl (bI Tryz.isAgg95 Tryz.sizeOf95 rfl (Ha9.blk 1 rfl) rfl) rfl rfl ?_
 refine aB ?_
 have H11 : St w F0 [hB g 68 #[u0, .slice AE le.length cE, u2, .slice (some ⟨gl, 0, none⟩) ll.length cL, u4], hR aJ 171 (.slice AE le.length cE) le, hB g_0_1 72 #[.int .i64 (0), .int .i64 (0)], hB g_0_0 95 #[.int .i64 (k0), .int .i64 (n0)], hR aO 178 (.slice (some ⟨gl, 0, none⟩) ll.length cL) ll] W7 := Ha9.pick [3, 4, 0, 1, 2] kD rfl; clear Ha9
 obtain ⟨F12, hs13, _, hfr14⟩ := St.frame (l0 := [hB g 68 #[u0, .slice AE le.length cE, u2, .slice (some ⟨gl, 0, none⟩) ll.length cL, u4], hR aJ 171 (.slice AE le.length cE) le]) (l := [hB g_0_1 72 #[.int .i64 (0), .int .i64 (0)], hB g_0_0 95 #[.int .i64 (k0), .int .i64 (n0)], hR aO 178 (.slice (some ⟨gl, 0, none⟩) ll.length cL) ll]) H11
 refine aV rfl Tryz.call187 (vs := #[.pointer (some ⟨g, 0, none⟩), .agg #[.int .i64 (k0), .int .i64 (n0)]]) rfl rfl rfl (look_q le k0 n0 uk un _ _ _ _ _ _ _ _ _ hs13 hne hlk) ?_
 rintro e17 W16 ⟨rfl, Hn15⟩; refine ⟨_, rfl, ?_⟩
 have H18 := hfr14 _ _ Hn15; clear H11
 refine aB ?_
 refine aC rfl (aK rfl) rfl rfl ?_
 refine aB ?_
 refine aC rfl (aK rfl) rfl rfl ?_
 refine aB ?_
 have H19 : St w F0 [hB g 68 #[u0, .slice AE le.length cE, u2, .slice (some ⟨gl, 0, none⟩) ll.length cL, u4], hR aO 178 (.slice (some ⟨gl, 0, none⟩) ll.length cL) ll, hR aJ 171 (.slice AE le.length cE) le, hB g_0_1 72 #[.int .i64 (0), .int .i64 (0)], hB g_0_0 95 #[.int .i64 (k0), .int .i64 (n0)]] W16 := H18.pick [0, 4, 1, 2, 3] kD rfl; clear H18
 obtain ⟨F20, hs21, _, hfr22⟩ := St.frame (l0 := [hB g 68 #[u0, .slice AE le.length cE, u2, .slice (some ⟨gl, 0, none⟩) ll.length cL, u4], hR aO 178 (.slice (some ⟨gl, 0, none⟩) ll.length cL) ll]) (l := [hR aJ 171 (.slice AE le.length cE) le, hB g_0_1 72 #[.int .i64 (0), .int .i64 (0)], hB g_0_0 95 #[.int .i64 (k0), .int .i64 (n0)]]) H19
 refine aV rfl Tryz.call167 (vs := #[.pointer (some ⟨g, 0, none⟩), .int .i64 (p)]) rfl rfl rfl (link_yes ll p _ _ _ _ _ _ _ _ _ hs21 hup k hk hf) ?_
 rintro e25 W24 ⟨all, hall, rfl, Hn23⟩; refine ⟨_, rfl, ?_⟩
 cases hall
 have H26 := hfr22 _ _ Hn23; clear H19
 refine aB ?_
 refine bA rfl Tryz.zeroValue95 rfl rfl H26 ?_
 intro g_1_6 W27 hu28 Ha29; clear H26; clear hu28
 refine aB ?_
 refine aR rfl Tryz.sizeOf95 rfl rfl rfl rfl kS Ha29 ?_
 intro W31 hu32 Ha33; clear Ha29; clear hu32
 refine aB ?_
 refine aC rfl (aW rfl) rfl rfl ?_
 refine aN ?_
 refine aM ?_
 refine wp_seq ?_
 refine wp_seq ?_
 refine aS [0, 1] rfl ?_
 refine aB ?_
 refine aC rfl (bI Tryz.isAgg95 Tryz.sizeOf95 rfl (Ha33.blk 0 rfl) rfl) rfl rfl ?_
 refine aB ?_
 refine aV rfl Tryz.call188 (vs := #[.agg #[.int .i64 (uk), .int .i64 (un)]]) rfl rfl rfl (isInt_i uk un _) ?_
 rintro e37 W36 ⟨rfl, hu35⟩; refine ⟨_, rfl, ?_⟩
 have H38 := Ha33.no hu35; clear Ha33
 refine aN ?_
 refine aM ?_
 refine cond_b (b := isI uk un) rfl (fun hc39 => ?_) (fun hc39 => ?_)
 ·refine wp_seq ?_
  refine aS [0, 1, 2, 3] rfl ?_
  refine aB ?_
  refine aC rfl (bB iZ rfl) rfl rfl ?_
  refine aB ?_
  refine aC rfl (bG (k := 1) (v := .int .i64 (un)) Tryz.isAgg3 rfl (H38.blk 0 rfl) rfl) rfl rfl ?_
  refine aB ?_
  refine aC rfl (fJ (vs := [(0, .int .i64 (0)), (1, .int .i64 (un))]) (cells := #[.int .i64 (0), .int .i64 (un)]) rfl kR) rfl rfl ?_
  refine aB ?_
  have H43 : St w F0 [hB g_0_1 72 #[.int .i64 (0), .int .i64 (0)], hB g_1_6 95 #[.int .i64 (uk), .int .i64 (un)], hB g 68 #[u0, .slice AE le.length cE, u2, .slice (some ⟨gl, 0, none⟩) ll.length cL, u4], hR aO 178 (.slice (some ⟨gl, 0, none⟩) ll.length cL) ll, hR aJ 171 (.slice AE le.length cE) le, hB g_0_0 95 #[.int .i64 (k0), .int .i64 (n0)]] W36 := H38.pick [4, 0, 1, 2, 3, 5] kD rfl; clear H38
  refine aR rfl Tryz.sizeOf72 rfl rfl rfl rfl kS H43 ?_
  intro W40 hu41 Ha42; clear H43; clear hu41
  refine aN ?_
  refine aM ?_
  refine wp_ret ?_
  refine eB ?_
  obtain ⟨e1, e2⟩ := tw_int le ll p uk un hc39
  refine eP (.inl rfl) Tryz.results130 Tryz.isAgg72 Tryz.sizeOf72 rfl (Ha42.blk 0 rfl) rfl ?_
  rw [e1, e2]
  exact ⟨(some ⟨gl, 0, none⟩), cL, rfl, Ha42.pick [2, 4, 3] kD rfl⟩
 ·refine wp_skip ?_
  refine aM ?_
  refine wp_seq ?_
  refine wp_seq ?_
  refine aS [0, 1, 2, 3, 4, 5, 6] rfl ?_
  refine aB ?_
  refine aC rfl (bB jM rfl) rfl rfl ?_
  refine aB ?_
  refine aC rfl (bG (k := 0) (v := .int .i64 (uk)) Tryz.isAgg3 rfl (H38.blk 0 rfl) rfl) rfl rfl ?_
  by_cases hg45 : ¬ (uk : Int) = 1
  ·refine aB ?_
   refine aC rfl (gH hg45 (iR rfl rfl)) rfl rfl ?_
   refine aB ?_
   refine aC rfl (aK rfl) rfl rfl ?_
   refine aB ?_
   refine bX rfl rfl rfl rfl rfl rfl rfl ?_
   refine aB ?_
   refine bX rfl rfl rfl rfl rfl rfl rfl ?_
   refine aB ?_
   refine aC rfl (dS (v := .bool (true)) (b := true) rfl rfl rfl rfl) rfl rfl ?_
   refine aN ?_
   refine aM ?_
   refine jB rfl ?_
   refine wp_seq ?_
   refine aS [0, 1] rfl ?_
   refine aB ?_
   refine aC rfl (fJ (vs := [(0, .int .i64 (3))]) (cells := #[.int .i64 (3), .int .i64 (0)]) rfl kR) rfl rfl ?_
   refine aB ?_
   have H49 : St w F0 [hB g_0_1 72 #[.int .i64 (0), .int .i64 (0)], hB g_1_6 95 #[.int .i64 (uk), .int .i64 (un)], hB g 68 #[u0, .slice AE le.length cE, u2, .slice (some ⟨gl, 0, none⟩) ll.length cL, u4], hR aO 178 (.slice (some ⟨gl, 0, none⟩) ll.length cL) ll, hR aJ 171 (.slice AE le.length cE) le, hB g_0_0 95 #[.int .i64 (k0), .int .i64 (n0)]] W36 := H38.pick [4, 0, 1, 2, 3, 5] kD rfl; clear H38
   refine aR rfl Tryz.sizeOf72 rfl rfl rfl rfl kS H49 ?_
   intro W46 hu47 Ha48; clear H49; clear hu47
   refine aN ?_
   refine aM ?_
   refine wp_ret ?_
   refine eB ?_
   obtain ⟨e1, e2⟩ := tw_bad le ll p uk un hc39 (by rintro ⟨q1, q2⟩; first | omega | (rw [hup] at q2; cases q2))
   refine eP (.inl rfl) Tryz.results130 Tryz.isAgg72 Tryz.sizeOf72 rfl (Ha48.blk 0 rfl) rfl ?_
   rw [e1, e2]
   exact ⟨(some ⟨gl, 0, none⟩), cL, rfl, Ha48.pick [2, 4, 3] kD rfl⟩
  ·refine aB ?_
   refine aC rfl (fB hg45 (iR rfl rfl)) rfl rfl ?_
   refine aB ?_
   refine aC rfl (aK rfl) rfl rfl ?_
   refine aB ?_
   refine eO rfl rfl rfl rfl (fun _ ho51 => ?_)
   refine aC ho51 (aK rfl) rfl rfl ?_
   refine aB ?_
   refine eO rfl rfl rfl rfl (fun _ ho52 => ?_)
   refine aC ho52 (rn_eqlNilF Tryz.runUnderlying241 rfl rfl) rfl rfl ?_
   refine aB ?_
   refine aC rfl (dS (v := .bool (false)) (b := false) rfl rfl rfl rfl) rfl rfl ?_
   refine aN ?_
   refine aM ?_
   refine fO rfl ?_
   refine wp_skip ?_
   refine aM ?_
   refine wp_seq ?_
   obtain rfl : uk = 1 := by omega
   refine aS [0, 1, 2, 3, 4] rfl ?_
   refine aB ?_
   refine aC rfl (aK rfl) rfl rfl ?_
   refine aB ?_
   refine aC rfl (bB iZ rfl) rfl rfl ?_
   refine aB ?_
   refine aC rfl (bG (k := 1) (v := .int .i64 (un)) Tryz.isAgg3 rfl (H38.blk 0 rfl) rfl) rfl rfl ?_
   by_cases hg53 : 0 ≤ un ∧ un < (le.length : Int)
   ·refine aB ?_
    obtain ⟨kq, rfl⟩ : ∃ kq : Nat, un = kq := ⟨un.toNat, by omega⟩
    have hkq : kq < le.length := by omega
    have H54 : St w F0 [hB g 68 #[u0, .slice AE le.length cE, u2, .slice (some ⟨gl, 0, none⟩) ll.length cL, u4], hR aJ 171 (.slice AE le.length cE) le, hB g_1_6 95 #[.int .i64 (1), .int .i64 (((kq : Nat) : Int))], hR aO 178 (.slice (some ⟨gl, 0, none⟩) ll.length cL) ll, hB g_0_1 72 #[.int .i64 (0), .int .i64 (0)], hB g_0_0 95 #[.int .i64 (k0), .int .i64 (n0)]] W36 := H38.pick [1, 3, 0, 2, 4, 5] kD rfl; clear H38
    obtain ⟨F55, hs56, _, hfr57⟩ := St.frame (l0 := [hB g 68 #[u0, .slice AE le.length cE, u2, .slice (some ⟨gl, 0, none⟩) ll.length cL, u4], hR aJ 171 (.slice AE le.length cE) le]) (l := [hB g_1_6 95 #[.int .i64 (1), .int .i64 (((kq : Nat) : Int))], hR aO 178 (.slice (some ⟨gl, 0, none⟩) ll.length cL) ll, hB g_0_1 72 #[.int .i64 (0), .int .i64 (0)], hB g_0_0 95 #[.int .i64 (k0), .int .i64 (n0)]]) H54
    refine aV rfl Tryz.call189 (vs := #[.pointer (some ⟨g, 0, none⟩), .int .i64 (((kq : Nat) : Int))]) rfl rfl rfl (entity_yes le _ _ _ _ _ _ _ _ _ hs56 hne kq hkq) ?_
    rintro e60 W59 ⟨al, rfl, rfl, Hn58⟩; refine ⟨_, rfl, ?_⟩
    have H61 := hfr57 _ _ Hn58; clear H54
    obtain ⟨cse, hKe, hce⟩ := C_elemA (H61.fC 1 rfl) kq hkq
    obtain ⟨Aal_2, cal_2, Aal_6, cal_6, Aal_7, cal_7, rfl, hlal_2, hCal_2, hlal_6, hCal_6, hlal_7, hCal_7⟩ := jU hKe
    refine aB ?_
    refine aC rfl (aW rfl) rfl rfl ?_
    refine aN ?_
    refine aM ?_
    refine wp_seq ?_
    refine wp_block ?_
    refine wp_seq ?_
    refine aS [0, 1, 2] rfl ?_
    refine aB ?_
    refine aC rfl (aK rfl) rfl rfl ?_
    refine aB ?_
    refine aC rfl (rn_eqlNilF Tryz.runUnderlying259 rfl rfl) rfl rfl ?_
    refine aB ?_
    refine aC rfl (aW rfl) rfl rfl ?_
    refine aN ?_
    refine aM ?_
    refine fO rfl ?_
    refine wp_seq ?_
    refine aS [0, 1, 2, 3, 4, 5, 6, 7, 8, 9, 10, 11, 12, 13] rfl ?_
    refine aB ?_
    refine aC rfl (aK rfl) rfl rfl ?_
    refine aB ?_
    refine aC rfl (dB rfl) rfl rfl ?_
    refine aB ?_
    refine aC rfl (bB fa_171_0 rfl) rfl rfl ?_
    refine aB ?_
    refine aC rfl (gI (v := .int .i64 (le[kq].Kind)) Tryz.isAgg3 rfl hce rfl) rfl rfl ?_
    by_cases hg62 : ((le[kq].Kind) : Int) = 3
    ·refine aB ?_
     refine aC rfl (gH hg62 (iQ rfl rfl)) rfl rfl ?_
     refine aB ?_
     refine aC rfl (aK rfl) rfl rfl ?_
     refine aB ?_
     refine eO rfl rfl rfl rfl (fun _ ho63 => ?_)
     refine aC ho63 (aK rfl) rfl rfl ?_
     refine aB ?_
     refine eO rfl rfl rfl rfl (fun _ ho64 => ?_)
     refine aC ho64 (dB rfl) rfl rfl ?_
     refine aB ?_
     refine eO rfl rfl rfl rfl (fun _ ho65 => ?_)
     refine aC ho65 (bB fa_171_7 rfl) rfl rfl ?_
     refine aB ?_
     refine eO rfl rfl rfl rfl (fun _ ho66 => ?_)
     refine aC ho66 (gI (v := .int .i64 (le[kq].bT)) Tryz.isAgg3 rfl hce rfl) rfl rfl ?_
     refine aB ?_
     refine eO rfl rfl rfl rfl (fun _ ho67 => ?_)
     refine aC ho67 (aK rfl) rfl rfl ?_
     by_cases hg68 : ((le[kq].bT) : Int) = p
     ·refine aB ?_
      refine eO rfl rfl rfl rfl (fun _ ho69 => ?_)
      refine aC ho69 (gH hg68 (iQ rfl rfl)) rfl rfl ?_
      refine aB ?_
      refine aC rfl (dS (v := .bool (true)) (b := true) rfl rfl rfl rfl) rfl rfl ?_
      refine aB ?_
      refine aC rfl (aW rfl) rfl rfl ?_
      refine aN ?_
      refine aM ?_
      refine jB rfl ?_
      refine wp_seq ?_
      refine aS [0, 1, 2, 3, 4, 5] rfl ?_
      refine aB ?_
      refine aC rfl (aK rfl) rfl rfl ?_
      refine aB ?_
      refine aC rfl (dB rfl) rfl rfl ?_
      refine aB ?_
      refine aC rfl (bB fa_171_8 rfl) rfl rfl ?_
      refine aB ?_
      refine aC rfl (gI (v := .int .i64 (le[kq].Pos)) Tryz.isAgg3 rfl hce rfl) rfl rfl ?_
      refine aB ?_
      refine aC rfl (fJ (vs := [(0, .int .i64 (2)), (1, .int .i64 (le[kq].Pos))]) (cells := #[.int .i64 (2), .int .i64 (le[kq].Pos)]) rfl kR) rfl rfl ?_
      refine aB ?_
      have H73 : St w F0 [hB g_0_1 72 #[.int .i64 (0), .int .i64 (0)], hB g 68 #[u0, .slice (some al) le.length cE, u2, .slice (some ⟨gl, 0, none⟩) ll.length cL, u4], hR aJ 171 (.slice (some al) le.length cE) le, hB g_1_6 95 #[.int .i64 (1), .int .i64 (((kq : Nat) : Int))], hR aO 178 (.slice (some ⟨gl, 0, none⟩) ll.length cL) ll, hB g_0_0 95 #[.int .i64 (k0), .int .i64 (n0)]] W59 := H61.pick [4, 0, 1, 2, 3, 5] kD rfl; clear H61
      refine aR rfl Tryz.sizeOf72 rfl rfl rfl rfl kS H73 ?_
      intro W70 hu71 Ha72; clear H73; clear hu71
      refine aN ?_
      refine aM ?_
      refine wp_ret ?_
      refine kQ ?_
      refine eB ?_
      obtain ⟨e1, e2⟩ := tw_back le ll p kq hkq hup kO
      refine eP (.inl rfl) Tryz.results130 Tryz.isAgg72 Tryz.sizeOf72 rfl (Ha72.blk 0 rfl) rfl ?_
      rw [e1, e2]
      exact ⟨(some ⟨gl, 0, none⟩), cL, rfl, Ha72.pick [1, 2, 4] kD rfl⟩
     ·refine aB ?_
      refine eO rfl rfl rfl rfl (fun _ ho75 => ?_)
      refine aC ho75 (fB hg68 (iQ rfl rfl)) rfl rfl ?_
      refine aB ?_
      refine aC rfl (dS (v := .bool (false)) (b := true) rfl rfl rfl rfl) rfl rfl ?_
      refine aB ?_
      refine aC rfl (aW rfl) rfl rfl ?_
      refine aN ?_
      refine aM ?_
      refine fO rfl ?_
      refine wp_skip ?_
      refine inB_n ?_
      refine aM ?_
      refine wp_seq ?_
      have H76 : St w F0 [hR aO 178 (.slice (some ⟨gl, 0, none⟩) ll.length cL) ll, hB g 68 #[u0, .slice (some al) le.length cE, u2, .slice (some ⟨gl, 0, none⟩) ll.length cL, u4], hR aJ 171 (.slice (some al) le.length cE) le, hB g_1_6 95 #[.int .i64 (1), .int .i64 (((kq : Nat) : Int))], hB g_0_1 72 #[.int .i64 (0), .int .i64 (0)], hB g_0_0 95 #[.int .i64 (k0), .int .i64 (n0)]] W59 := H61.pick [3, 0, 1, 2, 4, 5] kD rfl; clear H61
      obtain ⟨ce77, hn78, H79⟩ := H76.openG (q := k) hk; clear H76
      have H80 : St w F0 [hE aO 178 gl cL k ce77 ll, hM aO (ll[k]) ce77, hB g 68 #[u0, .slice (some al) le.length cE, u2, .slice (some ⟨gl, 0, none⟩) ll.length cL, u4], hR aJ 171 (.slice (some al) le.length cE) le, hB g_1_6 95 #[.int .i64 (1), .int .i64 (((kq : Nat) : Int))], hB g_0_1 72 #[.int .i64 (0), .int .i64 (0)], hB g_0_0 95 #[.int .i64 (k0), .int .i64 (n0)]] W59 := H79; clear H79
      have H91 : St w F0 [hM aO (ll[k]) ce77, hE aO 178 gl cL k ce77 ll, hB g 68 #[u0, .slice (some al) le.length cE, u2, .slice (some ⟨gl, 0, none⟩) ll.length cL, u4], hR aJ 171 (.slice (some al) le.length cE) le, hB g_1_6 95 #[.int .i64 (1), .int .i64 (((kq : Nat) : Int))], hB g_0_1 72 #[.int .i64 (0), .int .i64 (0)], hB g_0_0 95 #[.int .i64 (k0), .int .i64 (n0)]] W59 := H80.pick [1, 0, 2, 3, 4, 5, 6] kD rfl; clear H80
      obtain ⟨F81, hM82, hb83⟩ := H91.unM
      obtain ⟨B85, c86, B87, c88, B89, c90, rfl, hst84⟩ := iT hM82
      have H92 : St w F0 [hR bC 256 (.slice B85 ((ll[k]).aH.length) c86) ((ll[k]).aH), hR aU 289 (.slice B87 ((ll[k]).aI.length) c88) ((ll[k]).aI), hR aU 289 (.slice B89 ((ll[k]).aQ.length) c90) ((ll[k]).aQ), hE aO 178 gl cL k [.int .i64 ((ll[k]).bT), .bool ((ll[k]).Up), .slice B85 ((ll[k]).aH.length) c86, .int .i64 ((ll[k]).Next), .slice B87 ((ll[k]).aI.length) c88, .int .i64 ((ll[k]).bZ), .slice B89 ((ll[k]).aQ.length) c90] ll, hB g 68 #[u0, .slice (some al) le.length cE, u2, .slice (some ⟨gl, 0, none⟩) ll.length cL, u4], hR aJ 171 (.slice (some al) le.length cE) le, hB g_1_6 95 #[.int .i64 (1), .int .i64 (((kq : Nat) : Int))], hB g_0_1 72 #[.int .i64 (0), .int .i64 (0)], hB g_0_0 95 #[.int .i64 (k0), .int .i64 (n0)]] W59 := hb83 _ hst84; clear H91
      have hbk := hbl k hk
      refine aS [0, 1, 2, 3, 4, 5] rfl ?_
      refine aB ?_
      refine aC rfl (aK rfl) rfl rfl ?_
      refine aB ?_
      refine aC rfl (bB iZ rfl) rfl rfl ?_
      refine aB ?_
      refine aC rfl (bG (k := 1) (v := .int .i64 (((kq : Nat) : Int))) Tryz.isAgg3 rfl (H92.blk 6 rfl) rfl) rfl rfl ?_
      refine aB ?_
      have H93 : St w F0 [hE aO 178 gl cL k [.int .i64 ((ll[k]).bT), .bool ((ll[k]).Up), .slice B85 ((ll[k]).aH.length) c86, .int .i64 ((ll[k]).Next), .slice B87 ((ll[k]).aI.length) c88, .int .i64 ((ll[k]).bZ), .slice B89 ((ll[k]).aQ.length) c90] ll, hR bC 256 (.slice B85 ((ll[k]).aH.length) c86) ((ll[k]).aH), hR aU 289 (.slice B87 ((ll[k]).aI.length) c88) ((ll[k]).aI), hR aU 289 (.slice B89 ((ll[k]).aQ.length) c90) ((ll[k]).aQ), hB g 68 #[u0, .slice (some al) le.length cE, u2, .slice (some ⟨gl, 0, none⟩) ll.length cL, u4], hR aJ 171 (.slice (some al) le.length cE) le, hB g_1_6 95 #[.int .i64 (1), .int .i64 (((kq : Nat) : Int))], hB g_0_1 72 #[.int .i64 (0), .int .i64 (0)], hB g_0_0 95 #[.int .i64 (k0), .int .i64 (n0)]] W59 := H92.pick [3, 0, 1, 2, 4, 5, 6, 7, 8] kD rfl; clear H92
      obtain ⟨F94, hs95, _, hfr96⟩ := St.frame (l0 := [hE aO 178 gl cL k [.int .i64 ((ll[k]).bT), .bool ((ll[k]).Up), .slice B85 ((ll[k]).aH.length) c86, .int .i64 ((ll[k]).Next), .slice B87 ((ll[k]).aI.length) c88, .int .i64 ((ll[k]).bZ), .slice B89 ((ll[k]).aQ.length) c90] ll, hR bC 256 (.slice B85 ((ll[k]).aH.length) c86) ((ll[k]).aH)]) (l := [hR aU 289 (.slice B87 ((ll[k]).aI.length) c88) ((ll[k]).aI), hR aU 289 (.slice B89 ((ll[k]).aQ.length) c90) ((ll[k]).aQ), hB g 68 #[u0, .slice (some al) le.length cE, u2, .slice (some ⟨gl, 0, none⟩) ll.length cL, u4], hR aJ 171 (.slice (some al) le.length cE) le, hB g_1_6 95 #[.int .i64 (1), .int .i64 (((kq : Nat) : Int))], hB g_0_1 72 #[.int .i64 (0), .int .i64 (0)], hB g_0_0 95 #[.int .i64 (k0), .int .i64 (n0)]]) H93
      refine aV rfl Tryz.call149 (vs := #[.pointer (some (Addr.add ⟨gl, 0, none⟩ (k * 7))), .int .i64 (((kq : Nat) : Int))]) rfl rfl rfl (pute_i ((ll[k]).aH) ((kq : Nat) : Int) ((ll[k]).Next) _ _ _ _ _ _ _ _ _ _ _ _ _ hs95 hbk) ?_
      rintro e99 W98 ⟨A_11_3, c_11_3, rfl, Hn97⟩; refine ⟨_, rfl, ?_⟩
      have H100 := hfr96 _ _ Hn97; clear H93
      refine aB ?_
      refine aC rfl (fJ (vs := [(0, .int .i64 (1)), (1, .int .i64 (pxN ((kq : Nat) : Int) ((ll[k]).aH) ((ll[k]).Next)))]) (cells := #[.int .i64 (1), .int .i64 (pxN ((kq : Nat) : Int) ((ll[k]).aH) ((ll[k]).Next))]) rfl kR) rfl rfl ?_
      refine aB ?_
      have H104 : St w F0 [hB g_0_1 72 #[.int .i64 (0), .int .i64 (0)], hE aO 178 gl cL k [.int .i64 ((ll[k]).bT), .bool ((ll[k]).Up), .slice A_11_3 ((pxL ((kq : Nat) : Int) ((ll[k]).aH) ((ll[k]).Next)).length) c_11_3, .int .i64 (pxX ((kq : Nat) : Int) ((ll[k]).aH) ((ll[k]).Next)), .slice B87 ((ll[k]).aI.length) c88, .int .i64 ((ll[k]).bZ), .slice B89 ((ll[k]).aQ.length) c90] ll, hR bC 256 (.slice A_11_3 ((pxL ((kq : Nat) : Int) ((ll[k]).aH) ((ll[k]).Next)).length) c_11_3) (pxL ((kq : Nat) : Int) ((ll[k]).aH) ((ll[k]).Next)), hR aU 289 (.slice B87 ((ll[k]).aI.length) c88) ((ll[k]).aI), hR aU 289 (.slice B89 ((ll[k]).aQ.length) c90) ((ll[k]).aQ), hB g 68 #[u0, .slice (some al) le.length cE, u2, .slice (some ⟨gl, 0, none⟩) ll.length cL, u4], hR aJ 171 (.slice (some al) le.length cE) le, hB g_1_6 95 #[.int .i64 (1), .int .i64 (((kq : Nat) : Int))], hB g_0_0 95 #[.int .i64 (k0), .int .i64 (n0)]] W98 := H100.pick [7, 0, 1, 2, 3, 4, 5, 6, 8] kD rfl; clear H100
      refine aR rfl Tryz.sizeOf72 rfl rfl rfl rfl kS H104 ?_
      intro W101 hu102 Ha103; clear H104; clear hu102
      refine aN ?_
      have H106 : St w F0 [hR bC 256 (.slice A_11_3 ((pxL ((kq : Nat) : Int) ((ll[k]).aH) ((ll[k]).Next)).length) c_11_3) (pxL ((kq : Nat) : Int) ((ll[k]).aH) ((ll[k]).Next)), hR aU 289 (.slice B87 ((ll[k]).aI.length) c88) ((ll[k]).aI), hR aU 289 (.slice B89 ((ll[k]).aQ.length) c90) ((ll[k]).aQ), hB g_0_1 72 #[.int .i64 (1), .int .i64 (pxN ((kq : Nat) : Int) ((ll[k]).aH) ((ll[k]).Next))], hE aO 178 gl cL k [.int .i64 ((ll[k]).bT), .bool ((ll[k]).Up), .slice A_11_3 ((pxL ((kq : Nat) : Int) ((ll[k]).aH) ((ll[k]).Next)).length) c_11_3, .int .i64 (pxX ((kq : Nat) : Int) ((ll[k]).aH) ((ll[k]).Next)), .slice B87 ((ll[k]).aI.length) c88, .int .i64 ((ll[k]).bZ), .slice B89 ((ll[k]).aQ.length) c90] ll, hB g 68 #[u0, .slice (some al) le.length cE, u2, .slice (some ⟨gl, 0, none⟩) ll.length cL, u4], hR aJ 171 (.slice (some al) le.length cE) le, hB g_1_6 95 #[.int .i64 (1), .int .i64 (((kq : Nat) : Int))], hB g_0_0 95 #[.int .i64 (k0), .int .i64 (n0)]] W101 := Ha103.pick [2, 3, 4, 0, 1, 5, 6, 7, 8] kD rfl; clear Ha103
      have H107 : St w F0 [hM aO (pxV ((kq : Nat) : Int) ll[k]) [.int .i64 ((ll[k]).bT), .bool ((ll[k]).Up), .slice A_11_3 ((pxL ((kq : Nat) : Int) ((ll[k]).aH) ((ll[k]).Next)).length) c_11_3, .int .i64 (pxX ((kq : Nat) : Int) ((ll[k]).aH) ((ll[k]).Next)), .slice B87 ((ll[k]).aI.length) c88, .int .i64 ((ll[k]).bZ), .slice B89 ((ll[k]).aQ.length) c90], hB g_0_1 72 #[.int .i64 (1), .int .i64 (pxN ((kq : Nat) : Int) ((ll[k]).aH) ((ll[k]).Next))], hE aO 178 gl cL k [.int .i64 ((ll[k]).bT), .bool ((ll[k]).Up), .slice A_11_3 ((pxL ((kq : Nat) : Int) ((ll[k]).aH) ((ll[k]).Next)).length) c_11_3, .int .i64 (pxX ((kq : Nat) : Int) ((ll[k]).aH) ((ll[k]).Next)), .slice B87 ((ll[k]).aI.length) c88, .int .i64 ((ll[k]).bZ), .slice B89 ((ll[k]).aQ.length) c90] ll, hB g 68 #[u0, .slice (some al) le.length cE, u2, .slice (some ⟨gl, 0, none⟩) ll.length cL, u4], hR aJ 171 (.slice (some al) le.length cE) le, hB g_1_6 95 #[.int .i64 (1), .int .i64 (((kq : Nat) : Int))], hB g_0_0 95 #[.int .i64 (k0), .int .i64 (n0)]] W101 := H106.swap (l0 := [hR bC 256 (.slice A_11_3 ((pxL ((kq : Nat) : Int) ((ll[k]).aH) ((ll[k]).Next)).length) c_11_3) (pxL ((kq : Nat) : Int) ((ll[k]).aH) ((ll[k]).Next)), hR aU 289 (.slice B87 ((ll[k]).aI.length) c88) ((ll[k]).aI), hR aU 289 (.slice B89 ((ll[k]).aQ.length) c90) ((ll[k]).aQ)]) (l' := [hM aO (pxV ((kq : Nat) : Int) ll[k]) [.int .i64 ((ll[k]).bT), .bool ((ll[k]).Up), .slice A_11_3 ((pxL ((kq : Nat) : Int) ((ll[k]).aH) ((ll[k]).Next)).length) c_11_3, .int .i64 (pxX ((kq : Nat) : Int) ((ll[k]).aH) ((ll[k]).Next)), .slice B87 ((ll[k]).aI.length) c88, .int .i64 ((ll[k]).bZ), .slice B89 ((ll[k]).aQ.length) c90]]) (fun _ h => Star.one (lM (x := (pxV ((kq : Nat) : Int) ll[k])) h)); clear H106
      have H108 : St w F0 [hE aO 178 gl cL k [.int .i64 ((ll[k]).bT), .bool ((ll[k]).Up), .slice A_11_3 ((pxL ((kq : Nat) : Int) ((ll[k]).aH) ((ll[k]).Next)).length) c_11_3, .int .i64 (pxX ((kq : Nat) : Int) ((ll[k]).aH) ((ll[k]).Next)), .slice B87 ((ll[k]).aI.length) c88, .int .i64 ((ll[k]).bZ), .slice B89 ((ll[k]).aQ.length) c90] ll, hM aO (pxV ((kq : Nat) : Int) ll[k]) [.int .i64 ((ll[k]).bT), .bool ((ll[k]).Up), .slice A_11_3 ((pxL ((kq : Nat) : Int) ((ll[k]).aH) ((ll[k]).Next)).length) c_11_3, .int .i64 (pxX ((kq : Nat) : Int) ((ll[k]).aH) ((ll[k]).Next)), .slice B87 ((ll[k]).aI.length) c88, .int .i64 ((ll[k]).bZ), .slice B89 ((ll[k]).aQ.length) c90], hB g_0_1 72 #[.int .i64 (1), .int .i64 (pxN ((kq : Nat) : Int) ((ll[k]).aH) ((ll[k]).Next))], hB g 68 #[u0, .slice (some al) le.length cE, u2, .slice (some ⟨gl, 0, none⟩) ll.length cL, u4], hR aJ 171 (.slice (some al) le.length cE) le, hB g_1_6 95 #[.int .i64 (1), .int .i64 (((kq : Nat) : Int))], hB g_0_0 95 #[.int .i64 (k0), .int .i64 (n0)]] W101 := H107.pick [2, 0, 1, 3, 4, 5, 6] kD rfl; clear H107
      have H109 : St w F0 [hR aO 178 (.slice (some ⟨gl, 0, none⟩) ll.length cL) (ll.set k (pxV ((kq : Nat) : Int) ll[k])), hB g_0_1 72 #[.int .i64 (1), .int .i64 (pxN ((kq : Nat) : Int) ((ll[k]).aH) ((ll[k]).Next))], hB g 68 #[u0, .slice (some al) le.length cE, u2, .slice (some ⟨gl, 0, none⟩) ll.length cL, u4], hR aJ 171 (.slice (some al) le.length cE) le, hB g_1_6 95 #[.int .i64 (1), .int .i64 (((kq : Nat) : Int))], hB g_0_0 95 #[.int .i64 (k0), .int .i64 (n0)]] W101 := H108.closeG rfl (List.length_set ..).symm; clear H108
      refine aM ?_
      refine wp_ret ?_
      obtain ⟨e1, e2⟩ := tw_put le ll p kq hkq hup kO k hk hf
      refine eP (.inl rfl) Tryz.results130 Tryz.isAgg72 Tryz.sizeOf72 rfl (H109.blk 1 rfl) rfl ?_
      rw [e1, e2]
      rw [List.length_set]
      exact ⟨(some ⟨gl, 0, none⟩), cL, rfl, H109.pick [2, 3, 0] kD rfl⟩
    ·refine aB ?_
     refine aC rfl (fB hg62 (iQ rfl rfl)) rfl rfl ?_
     refine aB ?_
     refine aC rfl (aK rfl) rfl rfl ?_
     refine aB ?_
     refine bX rfl rfl rfl rfl rfl rfl rfl ?_
     refine aB ?_
     refine bX rfl rfl rfl rfl rfl rfl rfl ?_
     refine aB ?_
     refine bX rfl rfl rfl rfl rfl rfl rfl ?_
     refine aB ?_
     refine bX rfl rfl rfl rfl rfl rfl rfl ?_
     refine aB ?_
     refine bX rfl rfl rfl rfl rfl rfl rfl ?_
     refine aB ?_
     refine bX rfl rfl rfl rfl rfl rfl rfl ?_
     refine aB ?_
     refine aC rfl (dS (v := .bool (false)) (b := false) rfl rfl rfl rfl) rfl rfl ?_
     refine aB ?_
     refine aC rfl (aW rfl) rfl rfl ?_
     refine aN ?_
     refine aM ?_
     refine fO rfl ?_
     refine wp_skip ?_
     refine inB_n ?_
     refine aM ?_
     refine wp_seq ?_
     have H110 : St w F0 [hR aO 178 (.slice (some ⟨gl, 0, none⟩) ll.length cL) ll, hB g 68 #[u0, .slice (some al) le.length cE, u2, .slice (some ⟨gl, 0, none⟩) ll.length cL, u4], hR aJ 171 (.slice (some al) le.length cE) le, hB g_1_6 95 #[.int .i64 (1), .int .i64 (((kq : Nat) : Int))], hB g_0_1 72 #[.int .i64 (0), .int .i64 (0)], hB g_0_0 95 #[.int .i64 (k0), .int .i64 (n0)]] W59 := H61.pick [3, 0, 1, 2, 4, 5] kD rfl; clear H61
     obtain ⟨ce111, hn112, H113⟩ := H110.openG (q := k) hk; clear H110
     have H114 : St w F0 [hE aO 178 gl cL k ce111 ll, hM aO (ll[k]) ce111, hB g 68 #[u0, .slice (some al) le.length cE, u2, .slice (some ⟨gl, 0, none⟩) ll.length cL, u4], hR aJ 171 (.slice (some al) le.length cE) le, hB g_1_6 95 #[.int .i64 (1), .int .i64 (((kq : Nat) : Int))], hB g_0_1 72 #[.int .i64 (0), .int .i64 (0)], hB g_0_0 95 #[.int .i64 (k0), .int .i64 (n0)]] W59 := H113; clear H113
     have H125 : St w F0 [hM aO (ll[k]) ce111, hE aO 178 gl cL k ce111 ll, hB g 68 #[u0, .slice (some al) le.length cE, u2, .slice (some ⟨gl, 0, none⟩) ll.length cL, u4], hR aJ 171 (.slice (some al) le.length cE) le, hB g_1_6 95 #[.int .i64 (1), .int .i64 (((kq : Nat) : Int))], hB g_0_1 72 #[.int .i64 (0), .int .i64 (0)], hB g_0_0 95 #[.int .i64 (k0), .int .i64 (n0)]] W59 := H114.pick [1, 0, 2, 3, 4, 5, 6] kD rfl; clear H114
     obtain ⟨F115, hM116, hb117⟩ := H125.unM
     obtain ⟨B119, c120, B121, c122, B123, c124, rfl, hst118⟩ := iT hM116
     have H126 : St w F0 [hR bC 256 (.slice B119 ((ll[k]).aH.length) c120) ((ll[k]).aH), hR aU 289 (.slice B121 ((ll[k]).aI.length) c122) ((ll[k]).aI), hR aU 289 (.slice B123 ((ll[k]).aQ.length) c124) ((ll[k]).aQ), hE aO 178 gl cL k [.int .i64 ((ll[k]).bT), .bool ((ll[k]).Up), .slice B119 ((ll[k]).aH.length) c120, .int .i64 ((ll[k]).Next), .slice B121 ((ll[k]).aI.length) c122, .int .i64 ((ll[k]).bZ), .slice B123 ((ll[k]).aQ.length) c124] ll, hB g 68 #[u0, .slice (some al) le.length cE, u2, .slice (some ⟨gl, 0, none⟩) ll.length cL, u4], hR aJ 171 (.slice (some al) le.length cE) le, hB g_1_6 95 #[.int .i64 (1), .int .i64 (((kq : Nat) : Int))], hB g_0_1 72 #[.int .i64 (0), .int .i64 (0)], hB g_0_0 95 #[.int .i64 (k0), .int .i64 (n0)]] W59 := hb117 _ hst118; clear H125
     have hbk := hbl k hk
     refine aS [0, 1, 2, 3, 4, 5] rfl ?_
     refine aB ?_
     refine aC rfl (aK rfl) rfl rfl ?_
     refine aB ?_
     refine aC rfl (bB iZ rfl) rfl rfl ?_
     refine aB ?_
     refine aC rfl (bG (k := 1) (v := .int .i64 (((kq : Nat) : Int))) Tryz.isAgg3 rfl (H126.blk 6 rfl) rfl) rfl rfl ?_
     refine aB ?_
     have H127 : St w F0 [hE aO 178 gl cL k [.int .i64 ((ll[k]).bT), .bool ((ll[k]).Up), .slice B119 ((ll[k]).aH.length) c120, .int .i64 ((ll[k]).Next), .slice B121 ((ll[k]).aI.length) c122, .int .i64 ((ll[k]).bZ), .slice B123 ((ll[k]).aQ.length) c124] ll, hR bC 256 (.slice B119 ((ll[k]).aH.length) c120) ((ll[k]).aH), hR aU 289 (.slice B121 ((ll[k]).aI.length) c122) ((ll[k]).aI), hR aU 289 (.slice B123 ((ll[k]).aQ.length) c124) ((ll[k]).aQ), hB g 68 #[u0, .slice (some al) le.length cE, u2, .slice (some ⟨gl, 0, none⟩) ll.length cL, u4], hR aJ 171 (.slice (some al) le.length cE) le, hB g_1_6 95 #[.int .i64 (1), .int .i64 (((kq : Nat) : Int))], hB g_0_1 72 #[.int .i64 (0), .int .i64 (0)], hB g_0_0 95 #[.int .i64 (k0), .int .i64 (n0)]] W59 := H126.pick [3, 0, 1, 2, 4, 5, 6, 7, 8] kD rfl; clear H126
     obtain ⟨F128, hs129, _, hfr130⟩ := St.frame (l0 := [hE aO 178 gl cL k [.int .i64 ((ll[k]).bT), .bool ((ll[k]).Up), .slice B119 ((ll[k]).aH.length) c120, .int .i64 ((ll[k]).Next), .slice B121 ((ll[k]).aI.length) c122, .int .i64 ((ll[k]).bZ), .slice B123 ((ll[k]).aQ.length) c124] ll, hR bC 256 (.slice B119 ((ll[k]).aH.length) c120) ((ll[k]).aH)]) (l := [hR aU 289 (.slice B121 ((ll[k]).aI.length) c122) ((ll[k]).aI), hR aU 289 (.slice B123 ((ll[k]).aQ.length) c124) ((ll[k]).aQ), hB g 68 #[u0, .slice (some al) le.length cE, u2, .slice (some ⟨gl, 0, none⟩) ll.length cL, u4], hR aJ 171 (.slice (some al) le.length cE) le, hB g_1_6 95 #[.int .i64 (1), .int .i64 (((kq : Nat) : Int))], hB g_0_1 72 #[.int .i64 (0), .int .i64 (0)], hB g_0_0 95 #[.int .i64 (k0), .int .i64 (n0)]]) H127
     refine aV rfl Tryz.call149 (vs := #[.pointer (some (Addr.add ⟨gl, 0, none⟩ (k * 7))), .int .i64 (((kq : Nat) : Int))]) rfl rfl rfl (pute_i ((ll[k]).aH) ((kq : Nat) : Int) ((ll[k]).Next) _ _ _ _ _ _ _ _ _ _ _ _ _ hs129 hbk) ?_
     rintro e133 W132 ⟨A_11_3, c_11_3, rfl, Hn131⟩; refine ⟨_, rfl, ?_⟩
     have H134 := hfr130 _ _ Hn131; clear H127
     refine aB ?_
     refine aC rfl (fJ (vs := [(0, .int .i64 (1)), (1, .int .i64 (pxN ((kq : Nat) : Int) ((ll[k]).aH) ((ll[k]).Next)))]) (cells := #[.int .i64 (1), .int .i64 (pxN ((kq : Nat) : Int) ((ll[k]).aH) ((ll[k]).Next))]) rfl kR) rfl rfl ?_
     refine aB ?_
     have H138 : St w F0 [hB g_0_1 72 #[.int .i64 (0), .int .i64 (0)], hE aO 178 gl cL k [.int .i64 ((ll[k]).bT), .bool ((ll[k]).Up), .slice A_11_3 ((pxL ((kq : Nat) : Int) ((ll[k]).aH) ((ll[k]).Next)).length) c_11_3, .int .i64 (pxX ((kq : Nat) : Int) ((ll[k]).aH) ((ll[k]).Next)), .slice B121 ((ll[k]).aI.length) c122, .int .i64 ((ll[k]).bZ), .slice B123 ((ll[k]).aQ.length) c124] ll, hR bC 256 (.slice A_11_3 ((pxL ((kq : Nat) : Int) ((ll[k]).aH) ((ll[k]).Next)).length) c_11_3) (pxL ((kq : Nat) : Int) ((ll[k]).aH) ((ll[k]).Next)), hR aU 289 (.slice B121 ((ll[k]).aI.length) c122) ((ll[k]).aI), hR aU 289 (.slice B123 ((ll[k]).aQ.length) c124) ((ll[k]).aQ), hB g 68 #[u0, .slice (some al) le.length cE, u2, .slice (some ⟨gl, 0, none⟩) ll.length cL, u4], hR aJ 171 (.slice (some al) le.length cE) le, hB g_1_6 95 #[.int .i64 (1), .int .i64 (((kq : Nat) : Int))], hB g_0_0 95 #[.int .i64 (k0), .int .i64 (n0)]] W132 := H134.pick [7, 0, 1, 2, 3, 4, 5, 6, 8] kD rfl; clear H134
     refine aR rfl Tryz.sizeOf72 rfl rfl rfl rfl kS H138 ?_
     intro W135 hu136 Ha137; clear H138; clear hu136
     refine aN ?_
     have H140 : St w F0 [hR bC 256 (.slice A_11_3 ((pxL ((kq : Nat) : Int) ((ll[k]).aH) ((ll[k]).Next)).length) c_11_3) (pxL ((kq : Nat) : Int) ((ll[k]).aH) ((ll[k]).Next)), hR aU 289 (.slice B121 ((ll[k]).aI.length) c122) ((ll[k]).aI), hR aU 289 (.slice B123 ((ll[k]).aQ.length) c124) ((ll[k]).aQ), hB g_0_1 72 #[.int .i64 (1), .int .i64 (pxN ((kq : Nat) : Int) ((ll[k]).aH) ((ll[k]).Next))], hE aO 178 gl cL k [.int .i64 ((ll[k]).bT), .bool ((ll[k]).Up), .slice A_11_3 ((pxL ((kq : Nat) : Int) ((ll[k]).aH) ((ll[k]).Next)).length) c_11_3, .int .i64 (pxX ((kq : Nat) : Int) ((ll[k]).aH) ((ll[k]).Next)), .slice B121 ((ll[k]).aI.length) c122, .int .i64 ((ll[k]).bZ), .slice B123 ((ll[k]).aQ.length) c124] ll, hB g 68 #[u0, .slice (some al) le.length cE, u2, .slice (some ⟨gl, 0, none⟩) ll.length cL, u4], hR aJ 171 (.slice (some al) le.length cE) le, hB g_1_6 95 #[.int .i64 (1), .int .i64 (((kq : Nat) : Int))], hB g_0_0 95 #[.int .i64 (k0), .int .i64 (n0)]] W135 := Ha137.pick [2, 3, 4, 0, 1, 5, 6, 7, 8] kD rfl; clear Ha137
     have H141 : St w F0 [hM aO (pxV ((kq : Nat) : Int) ll[k]) [.int .i64 ((ll[k]).bT), .bool ((ll[k]).Up), .slice A_11_3 ((pxL ((kq : Nat) : Int) ((ll[k]).aH) ((ll[k]).Next)).length) c_11_3, .int .i64 (pxX ((kq : Nat) : Int) ((ll[k]).aH) ((ll[k]).Next)), .slice B121 ((ll[k]).aI.length) c122, .int .i64 ((ll[k]).bZ), .slice B123 ((ll[k]).aQ.length) c124], hB g_0_1 72 #[.int .i64 (1), .int .i64 (pxN ((kq : Nat) : Int) ((ll[k]).aH) ((ll[k]).Next))], hE aO 178 gl cL k [.int .i64 ((ll[k]).bT), .bool ((ll[k]).Up), .slice A_11_3 ((pxL ((kq : Nat) : Int) ((ll[k]).aH) ((ll[k]).Next)).length) c_11_3, .int .i64 (pxX ((kq : Nat) : Int) ((ll[k]).aH) ((ll[k]).Next)), .slice B121 ((ll[k]).aI.length) c122, .int .i64 ((ll[k]).bZ), .slice B123 ((ll[k]).aQ.length) c124] ll, hB g 68 #[u0, .slice (some al) le.length cE, u2, .slice (some ⟨gl, 0, none⟩) ll.length cL, u4], hR aJ 171 (.slice (some al) le.length cE) le, hB g_1_6 95 #[.int .i64 (1), .int .i64 (((kq : Nat) : Int))], hB g_0_0 95 #[.int .i64 (k0), .int .i64 (n0)]] W135 := H140.swap (l0 := [hR bC 256 (.slice A_11_3 ((pxL ((kq : Nat) : Int) ((ll[k]).aH) ((ll[k]).Next)).length) c_11_3) (pxL ((kq : Nat) : Int) ((ll[k]).aH) ((ll[k]).Next)), hR aU 289 (.slice B121 ((ll[k]).aI.length) c122) ((ll[k]).aI), hR aU 289 (.slice B123 ((ll[k]).aQ.length) c124) ((ll[k]).aQ)]) (l' := [hM aO (pxV ((kq : Nat) : Int) ll[k]) [.int .i64 ((ll[k]).bT), .bool ((ll[k]).Up), .slice A_11_3 ((pxL ((kq : Nat) : Int) ((ll[k]).aH) ((ll[k]).Next)).length) c_11_3, .int .i64 (pxX ((kq : Nat) : Int) ((ll[k]).aH) ((ll[k]).Next)), .slice B121 ((ll[k]).aI.length) c122, .int .i64 ((ll[k]).bZ), .slice B123 ((ll[k]).aQ.length) c124]]) (fun _ h => Star.one (lM (x := (pxV ((kq : Nat) : Int) ll[k])) h)); clear H140
     have H142 : St w F0 [hE aO 178 gl cL k [.int .i64 ((ll[k]).bT), .bool ((ll[k]).Up), .slice A_11_3 ((pxL ((kq : Nat) : Int) ((ll[k]).aH) ((ll[k]).Next)).length) c_11_3, .int .i64 (pxX ((kq : Nat) : Int) ((ll[k]).aH) ((ll[k]).Next)), .slice B121 ((ll[k]).aI.length) c122, .int .i64 ((ll[k]).bZ), .slice B123 ((ll[k]).aQ.length) c124] ll, hM aO (pxV ((kq : Nat) : Int) ll[k]) [.int .i64 ((ll[k]).bT), .bool ((ll[k]).Up), .slice A_11_3 ((pxL ((kq : Nat) : Int) ((ll[k]).aH) ((ll[k]).Next)).length) c_11_3, .int .i64 (pxX ((kq : Nat) : Int) ((ll[k]).aH) ((ll[k]).Next)), .slice B121 ((ll[k]).aI.length) c122, .int .i64 ((ll[k]).bZ), .slice B123 ((ll[k]).aQ.length) c124], hB g_0_1 72 #[.int .i64 (1), .int .i64 (pxN ((kq : Nat) : Int) ((ll[k]).aH) ((ll[k]).Next))], hB g 68 #[u0, .slice (some al) le.length cE, u2, .slice (some ⟨gl, 0, none⟩) ll.length cL, u4], hR aJ 171 (.slice (some al) le.length cE) le, hB g_1_6 95 #[.int .i64 (1), .int .i64 (((kq : Nat) : Int))], hB g_0_0 95 #[.int .i64 (k0), .int .i64 (n0)]] W135 := H141.pick [2, 0, 1, 3, 4, 5, 6] kD rfl; clear H141
     have H143 : St w F0 [hR aO 178 (.slice (some ⟨gl, 0, none⟩) ll.length cL) (ll.set k (pxV ((kq : Nat) : Int) ll[k])), hB g_0_1 72 #[.int .i64 (1), .int .i64 (pxN ((kq : Nat) : Int) ((ll[k]).aH) ((ll[k]).Next))], hB g 68 #[u0, .slice (some al) le.length cE, u2, .slice (some ⟨gl, 0, none⟩) ll.length cL, u4], hR aJ 171 (.slice (some al) le.length cE) le, hB g_1_6 95 #[.int .i64 (1), .int .i64 (((kq : Nat) : Int))], hB g_0_0 95 #[.int .i64 (k0), .int .i64 (n0)]] W135 := H142.closeG rfl (List.length_set ..).symm; clear H142
     refine aM ?_
     refine wp_ret ?_
     obtain ⟨e1, e2⟩ := tw_put le ll p kq hkq hup kO k hk hf
     refine eP (.inl rfl) Tryz.results130 Tryz.isAgg72 Tryz.sizeOf72 rfl (H143.blk 1 rfl) rfl ?_
     rw [e1, e2]
     rw [List.length_set]
     exact ⟨(some ⟨gl, 0, none⟩), cL, rfl, H143.pick [2, 3, 0] kD rfl⟩
   ·refine aB ?_
    have H144 : St w F0 [hB g 68 #[u0, .slice AE le.length cE, u2, .slice (some ⟨gl, 0, none⟩) ll.length cL, u4], hR aJ 171 (.slice AE le.length cE) le, hB g_1_6 95 #[.int .i64 (1), .int .i64 (un)], hR aO 178 (.slice (some ⟨gl, 0, none⟩) ll.length cL) ll, hB g_0_1 72 #[.int .i64 (0), .int .i64 (0)], hB g_0_0 95 #[.int .i64 (k0), .int .i64 (n0)]] W36 := H38.pick [1, 3, 0, 2, 4, 5] kD rfl; clear H38
    obtain ⟨F145, hs146, _, hfr147⟩ := St.frame (l0 := [hB g 68 #[u0, .slice AE le.length cE, u2, .slice (some ⟨gl, 0, none⟩) ll.length cL, u4], hR aJ 171 (.slice AE le.length cE) le]) (l := [hB g_1_6 95 #[.int .i64 (1), .int .i64 (un)], hR aO 178 (.slice (some ⟨gl, 0, none⟩) ll.length cL) ll, hB g_0_1 72 #[.int .i64 (0), .int .i64 (0)], hB g_0_0 95 #[.int .i64 (k0), .int .i64 (n0)]]) H144
    refine aV rfl Tryz.call189 (vs := #[.pointer (some ⟨g, 0, none⟩), .int .i64 (un)]) rfl rfl rfl (entity_no le _ _ _ _ _ _ _ _ _ hs146 hne un hg53) ?_
    rintro e150 W149 ⟨rfl, Hn148⟩; refine ⟨_, rfl, ?_⟩
    have H151 := hfr147 _ _ Hn148; clear H144
    refine aB ?_
    refine aC rfl (aW rfl) rfl rfl ?_
    refine aN ?_
    refine aM ?_
    refine wp_seq ?_
    refine wp_block ?_
    refine wp_seq ?_
    refine aS [0, 1, 2] rfl ?_
    refine aB ?_
    refine aC rfl (aK rfl) rfl rfl ?_
    refine aB ?_
    refine aC rfl (rn_eqlNilT Tryz.runUnderlying259 rfl rfl) rfl rfl ?_
    refine aB ?_
    refine aC rfl (aW rfl) rfl rfl ?_
    refine aN ?_
    refine aM ?_
    refine jB rfl ?_
    refine wp_seq ?_
    refine aS [0, 1] rfl ?_
    refine aB ?_
    refine aC rfl (fJ (vs := [(0, .int .i64 (3))]) (cells := #[.int .i64 (3), .int .i64 (0)]) rfl kR) rfl rfl ?_
    refine aB ?_
    have H155 : St w F0 [hB g_0_1 72 #[.int .i64 (0), .int .i64 (0)], hB g 68 #[u0, .slice AE le.length cE, u2, .slice (some ⟨gl, 0, none⟩) ll.length cL, u4], hR aJ 171 (.slice AE le.length cE) le, hB g_1_6 95 #[.int .i64 (1), .int .i64 (un)], hR aO 178 (.slice (some ⟨gl, 0, none⟩) ll.length cL) ll, hB g_0_0 95 #[.int .i64 (k0), .int .i64 (n0)]] W149 := H151.pick [4, 0, 1, 2, 3, 5] kD rfl; clear H151
    refine aR rfl Tryz.sizeOf72 rfl rfl rfl rfl kS H155 ?_
    intro W152 hu153 Ha154; clear H155; clear hu153
    refine aN ?_
    refine aM ?_
    refine wp_ret ?_
    refine kQ ?_
    refine eB ?_
    obtain ⟨e1, e2⟩ := tw_bad le ll p 1 un hc39 (by rintro ⟨q1, q2⟩; exact hg53 q1.2)
    refine eP (.inl rfl) Tryz.results130 Tryz.isAgg72 Tryz.sizeOf72 rfl (Ha154.blk 0 rfl) rfl ?_
    rw [e1, e2]
    exact ⟨(some ⟨gl, 0, none⟩), cL, rfl, Ha154.pick [1, 2, 4] kD rfl⟩
end Go.Proofs.YtfnedoiplblldaaGreatFam
