/- What the row needs, packed. No conditions beyond those that each law names. -/
import Derived.Test.YtdfipdpeilegpaaZfs2
import Derived.Test.YtdfipdpeilegpaaProg
import Derived.Test.YtdfipdpeilegpaaZfs1
import Derived.WalkKit
import Derived.KernelRfl
import Derived.RowKit3
import Derived.Deep.LoopGhost
import Derived.Deep.QuietTactic
import Derived.BigQuiet
import Derived.StillTailTactics
import Derived.Deep.RegionHeld3
namespace Go.Proofs.YtdfipdpeilegpaaFam
open Go.RowKit Go.Proofs.YtdfipdpeilegpaaSep Go.Proofs.YtdfipdpeilegpaaT Go.Proofs.YtdfipdpeilegpaaK
set_option linter.unusedVariables false
set_option linter.unusedSimpArgs false
set_option maxHeartbeats 1000000
set_option maxRecDepth 100000
theorem mtF_idx (q0 : Value) (p : GMethod → Bool) (l : List GMethod) (A : Option Addr) (c : Nat) (w : World) (h : C aL w A l) (hf : ∀ (x : GMethod) (cs : List Value) (w' : World), Upd No w w' → aL.K w' x cs → Calls Try.prog 118 #[.agg cs.toArray, q0] w' (bY (p x) w')) : Calls Try.prog 149 #[.slice A l.length c, .func (.func 118) #[] #[q0]] w (RetInt (fidx p 0 l) w) := by
 have hn := h.1
 have H := Sd.mk h
 have HF := Sd.mk hf
 clear h hf
 go_enter Try.func149, Try.ntmps149
 go_wp2_with fail
 go_loopg [8] l.length (fun r v wr => ∃ i : Nat, i + r = l.length ∧ v = .int .i64 i ∧ Sd (fidx p 0 l = fidx p i (l.drop i)) ∧ Sd (Upd No w wr))
 case atStart => exact ⟨0, by omega, rfl, ⟨rfl⟩, ⟨Upd.refl _ _⟩⟩
 case round =>
  obtain ⟨i, hi, rfl, HE, HU⟩ := hrel
  by_cases hlt : i < l.length
  ·obtain ⟨ad, A1, c1, rfl, a0, a1, hl1, hC1⟩ := ki_Method_at (dW HU.out H.out) i hlt
   have HC1 := Sd.mk hC1
   clear hC1
   go_wp2_with fail
   with_reducible refine (HF.out l[i] _ _ HU.out (eB _ _ hl1 HC1.out)).mono ?_
   rintro e w1 ⟨rfl, hu⟩
   have HU1 := Sd.mk (HU.out.then hu)
   clear hu HU
   have hy := Sd.mk (fidx_yes p l i hlt)
   have hno := Sd.mk (fidx_no p l i hlt)
   cases hb : p l[i]
   ·have HBB := Sd.mk hb
    clear hb
    go_wp2_with fail
    go_roundg (gk - 1)
    case measure => omega
    case rel => exact ⟨i + 1, by omega, by go_num, ⟨HE.out.trans (hno.out HBB.out)⟩, HU1⟩
   ·have HBB := Sd.mk hb
    clear hb
    go_wp2_with fail
    go_ret
    exact ⟨ret_int (by rw [HE.out, hy.out HBB.out]), HU1.out⟩
  ·go_wp2_with fail
   go_ret
   exact ⟨ret_int (by rw [HE.out, fidx_end p l i kO]), HU.out⟩
theorem mtF_has (q0 : Value) (p : GMethod → Bool) (l : List GMethod) (A : Option Addr) (c : Nat) (w : World) (h : C aL w A l) (hf : ∀ (x : GMethod) (cs : List Value) (w' : World), Upd No w w' → aL.K w' x cs → Calls Try.prog 118 #[.agg cs.toArray, q0] w' (bY (p x) w')) : Calls Try.prog 117 #[.slice A l.length c, .func (.func 118) #[] #[q0]] w (bY (l.any p) w) := by
 have H := Sd.mk h
 have HF := Sd.mk hf
 clear h hf
 go_enter Try.func117, Try.ntmps117
 go_wp2_with fail
 with_reducible refine (mtF_idx q0 p l _ _ _ ?hc ?hf).mono ?_
 case hc => exact H.out
 case hf => exact HF.out
 rintro e w1 ⟨rfl, hu⟩
 have HX := Sd.mk (fidx_any p l 0 (Int.le_refl 0))
 have HU := Sd.mk hu
 clear hu
 go_wp2_with fail
 go_ret
 exact ⟨ret_bool HX.out, HU.out⟩
theorem scF_idx (q0 : Value) (p : GScript → Bool) (l : List GScript) (A : Option Addr) (c : Nat) (w : World) (h : C aO w A l) (hf : ∀ (x : GScript) (cs : List Value) (w' : World), Upd No w w' → aO.K w' x cs → Calls Try.prog 145 #[.agg cs.toArray, q0] w' (bY (p x) w')) : Calls Try.prog 144 #[.slice A l.length c, .func (.func 145) #[] #[q0]] w (RetInt (fidx p 0 l) w) := by
 have hn := h.1
 have H := Sd.mk h
 have HF := Sd.mk hf
 clear h hf
 go_enter Try.func144, Try.ntmps144
 go_wp2_with fail
 go_loopg [8] l.length (fun r v wr => ∃ i : Nat, i + r = l.length ∧ v = .int .i64 i ∧ Sd (fidx p 0 l = fidx p i (l.drop i)) ∧ Sd (Upd No w wr))
 case atStart => exact ⟨0, by omega, rfl, ⟨rfl⟩, ⟨Upd.refl _ _⟩⟩
 case round =>
  obtain ⟨i, hi, rfl, HE, HU⟩ := hrel
  by_cases hlt : i < l.length
  ·obtain ⟨ad, A1, c1, rfl, a0, a1, hl1, hC1⟩ := ki_Script_at (dW HU.out H.out) i hlt
   have HC1 := Sd.mk hC1
   clear hC1
   go_wp2_with fail
   with_reducible refine (HF.out l[i] _ _ HU.out (gH _ _ hl1 HC1.out)).mono ?_
   rintro e w1 ⟨rfl, hu⟩
   have HU1 := Sd.mk (HU.out.then hu)
   clear hu HU
   have hy := Sd.mk (fidx_yes p l i hlt)
   have hno := Sd.mk (fidx_no p l i hlt)
   cases hb : p l[i]
   ·have HBB := Sd.mk hb
    clear hb
    go_wp2_with fail
    go_roundg (gk - 1)
    case measure => omega
    case rel => exact ⟨i + 1, by omega, by go_num, ⟨HE.out.trans (hno.out HBB.out)⟩, HU1⟩
   ·have HBB := Sd.mk hb
    clear hb
    go_wp2_with fail
    go_ret
    exact ⟨ret_int (by rw [HE.out, hy.out HBB.out]), HU1.out⟩
  ·go_wp2_with fail
   go_ret
   exact ⟨ret_int (by rw [HE.out, fidx_end p l i kO]), HU.out⟩
end Go.Proofs.YtdfipdpeilegpaaFam
namespace Go.Proofs.YtdfipdpeilegpaaSep
open Go.ChangeShapes Go.WideShapes Go.RowKit
section
variable {P : Program} {n ty : Nat} {x : Nat → Value} {live : List (Nat × Value)} {W : World} {pos : String} {aft : Array Edge} {y z : Operand}
theorem rn_sliceH {dst : Option Nat} {t e sz k len cap : Nat} {A B : Option Addr} (ht : P.underlying t = some (.slice e)) (hS : ∀ w, (sizeOf e).run P w = .ok sz w) (hx : evl n live y = some (.slice A len cap)) (hz : evl n live z = some (.int .i64 (k : Int))) (hk : k ≤ cap) (hA : (if cap = 0 then A else A.map (·.add (0 * sz))) = B) :
 Rn P ⟨dst, .slice t y none (some z) none, ty, pos, aft, none⟩ (bC n x live) W (.slice B k cap) := by
 have he : P.elem t = e := by simp [Program.elem, ht]
 have h0 : 0 ≤ (k : Int) ∧ (k : Int) ≤ (cap : Int) := ⟨by omega, by omega⟩
 unfold Rn
 simp [execOp, bN hx, bN hz, run_sliceAt_slice (P := P) W t (.slice A len cap) none (some (.int .i64 (k : Int))) none (by rw [he]; exact ht), run_slice_h (P := P) W t A len cap (by rw [he]; exact ht) .i64 (k : Int) kO kO, he, hS, Result.andThen, sliced]
 rw [← hA]
 simp
theorem C_take {α : Type} {d : Kn α} {w : World} {A : Option Addr} {xs : List α} {k cap sz : Nat} (h : C d w A xs) : C d w (if cap = 0 then A else A.map (·.add (0 * sz))) (xs.take k) := by
 have e : (if cap = 0 then A else A.map (·.add (0 * sz))) = A := by
  split
  ·rfl
  ·cases A with
   | none => rfl
   | some a =>
    show some (a.add (0 * sz)) = some a
    rw [Nat.zero_mul]
    exact congrArg some (add_zero' a)
 rw [e]
 refine ⟨by have := h.1; rw [List.length_take]; omega, fun hp => ?_⟩
 obtain ⟨ad, rfl, q⟩ := h.2 (by rw [List.length_take] at hp; omega)
 refine ⟨ad, rfl, fun j p hj => q j p ?_⟩
 rw [List.getElem?_take] at hj
 split at hj
 ·exact hj
 ·cases hj
end
end Go.Proofs.YtdfipdpeilegpaaSep
namespace Go.Proofs.YtdfipdpeilegpaaFam
open Go.ChangeShapes Go.WideShapes Go.RowKit Go.Proofs.YtdfipdpeilegpaaSep Go.Proofs.YtdfipdpeilegpaaT Go.Proofs.YtdfipdpeilegpaaK
set_option linter.unusedVariables false
set_option linter.unusedSimpArgs false
attribute [local irreducible] wpOps wpOp
set_option maxHeartbeats 4000000
set_option maxRecDepth 100000
def nmEq (s : ByteArray) : GMethod → Bool := fun z => z.Name.toList == s.toList
def okM (L : List GMethod) (i : Nat) : Bool := gD (L.getD i zMethod) && !(L.take i).any (nmEq (L.getD i zMethod).Name)
def eP (x : GScript) : Bool := nmB x.Name && decide (x.Methods.length ≤ 4) && (List.range x.Methods.length).all (okM x.Methods)
theorem okM_at (L : List GMethod) (i : Nat) (h : i < L.length) : okM L i = (gD L[i] && !(L.take i).any (nmEq L[i].Name)) := by
 have e : L.getD i zMethod = L[i] := by simp [List.getD, h]
 unfold okM
 rw [e]
theorem rgn (n i : Nat) (h : i < (List.range n).length) : (List.range n)[i] = i := List.getElem_range h
theorem any_in {α : Type} (p : α → Bool) (l : List α) (i : Nat) (h : i < l.length) (hp : p l[i] = true) : l.any p = true := List.any_eq_true.2 ⟨l[i], List.getElem_mem h, hp⟩
theorem tk_at2 {α : Type} (L : List α) (i j : Nat) (hj : j < i) (h : j < (L.take i).length) (h2 : j < L.length) : (L.take i)[j] = L[j] := List.getElem_take
theorem mtF_clo (x : GMethod) (cs : List Value) (s : ByteArray) (g : Nat) (w : World) (h : aL.K w x cs) (hc : w.cell? (Addr.add ⟨g, 0, none⟩ 0) = some (.string s)) : Calls Try.prog 118 #[.agg cs.toArray, .pointer (some ⟨g, 0, none⟩)] w (bY (nmEq s x) w) := by
 obtain ⟨Ax1, cx1, rfl, hlx1, hCx1⟩ := dI h
 refine enter 9 [(0, .agg #[.string (x.Name), .slice Ax1 x.Code.length cx1]), (1, .pointer (some ⟨g, 0, none⟩))] Try.func118 rfl kR ?_
 intro xj
 have H1 : St w No [] w := St.enter
 refine wp_seq ?_
 refine aI [0, 1] rfl ?_
 refine aA ?_
 refine eG rfl rfl rfl rfl H1 ?_
 intro g_0_0 W2 hu3 Ha4; clear H1; clear hu3
 refine aA ?_
 refine aB rfl (aG rfl) rfl rfl ?_
 refine aF ?_
 refine aH ?_
 refine wp_seq ?_
 refine aI [0, 1, 2, 3, 4, 5] rfl ?_
 refine aA ?_
 refine aB rfl (aN gB rfl) rfl rfl ?_
 refine aA ?_
 refine aB rfl (aS (k := 0) (v := .string (x.Name)) Try.isAgg9 rfl (Ha4.blk 0 rfl) rfl) rfl rfl ?_
 refine aA ?_
 refine aB rfl (aN gB rfl) rfl rfl ?_
 refine aA ?_
 refine aB rfl (iB (v := .string (s)) Try.isAgg9 rfl (Ha4.1.read hc)) rfl rfl ?_
 refine aA ?_
 refine aB rfl (dQ rfl rfl) rfl rfl ?_
 refine aA ?_
 refine aB rfl (aG rfl) rfl rfl ?_
 refine aF ?_
 refine aH ?_
 refine wp_ret ?_
 refine aM (.inl rfl) Try.results118 rfl ?_
 exact ⟨rfl, Ha4.1⟩
theorem isScript_i (x : GScript) (cs : List Value) (w : World) (h : aO.K w x cs) (hs : aZ x ≤ 1048576) : Calls Try.prog 74 #[.agg cs.toArray] w (bY (eP x) w) := by
 obtain ⟨Ax1, cx1, rfl, hlx1, hCx1⟩ := dP h
 refine enter 35 [(0, .agg #[.string (x.Name), .slice Ax1 x.Methods.length cx1])] Try.func74 rfl kR ?_
 intro xj
 have H1 : St w No [] w := St.enter
 have hcl : x.Methods.length ≤ 1048576 := by unfold aZ bZ at hs; omega
 have hrl : (List.range x.Methods.length).length = x.Methods.length := List.length_range
 refine wp_seq ?_
 refine aI [0, 1] rfl ?_
 refine aA ?_
 refine eG rfl rfl rfl rfl H1 ?_
 intro g_0_0 W2 hu3 Ha4; clear H1; clear hu3
 refine aA ?_
 refine aB rfl (aG rfl) rfl rfl ?_
 refine aF ?_
 refine aH ?_
 refine wp_seq ?_
 refine wp_seq ?_
 refine aI [0, 1, 2, 3, 4, 5, 6, 7, 8, 9] rfl ?_
 refine aA ?_
 refine aB rfl (aN gN rfl) rfl rfl ?_
 refine aA ?_
 refine aB rfl (aS (k := 0) (v := .string (x.Name)) Try.isAgg9 rfl (Ha4.blk 0 rfl) rfl) rfl rfl ?_
 by_cases hg6 : (nmB x.Name) = true
 ·refine aA ?_
  refine aK rfl Try.call115 (vs := #[.string (x.Name)]) rfl rfl rfl (bI (fF x.Name _) hg6) ?_
  rintro e9 W8 ⟨rfl, hu7⟩; refine ⟨_, rfl, ?_⟩
  have H10 := Ha4.no hu7; clear Ha4
  refine aA ?_
  refine aB rfl (eX rfl) rfl rfl ?_
  refine aA ?_
  refine aB rfl (aC rfl) rfl rfl ?_
  refine aA ?_
  refine aT rfl rfl rfl rfl (fun _ ho11 => ?_)
  refine aB ho11 (aN dN rfl) rfl rfl ?_
  refine aA ?_
  refine aT rfl rfl rfl rfl (fun _ ho12 => ?_)
  refine aB ho12 (aS (k := 1) (v := .slice Ax1 x.Methods.length cx1) Try.isAgg54 rfl (H10.blk 0 rfl) rfl) rfl rfl ?_
  refine aA ?_
  refine aT rfl rfl rfl rfl (fun _ ho13 => ?_)
  refine aB ho13 (dG Try.runUnderlying54 rfl) rfl rfl ?_
  by_cases hg14 : (4 : Int) < (x.Methods.length : Nat)
  ·refine aA ?_
   refine aT rfl rfl rfl rfl (fun _ ho15 => ?_)
   refine aB ho15 (bQ hg14 (rn_gtr rfl rfl)) rfl rfl ?_
   refine aA ?_
   refine aB rfl (aJ (v := .bool (true)) (b := false) rfl rfl rfl rfl) rfl rfl ?_
   refine aF ?_
   refine aH ?_
   refine fI rfl ?_
   refine wp_seq ?_
   refine aI [0] rfl ?_
   refine aA ?_
   refine aB rfl (aG rfl) rfl rfl ?_
   refine aF ?_
   refine aH ?_
   refine wp_ret ?_
   refine aR ?_
   refine aM (.inl rfl) Try.results74 rfl ?_
   have hr : eP x = false := by rw [eP, decide_eq_false (show ¬ x.Methods.length ≤ 4 by omega), Bool.and_false]; rfl
   rw [hr]
   exact ⟨rfl, H10.1⟩
  ·refine aA ?_
   refine aT rfl rfl rfl rfl (fun _ ho16 => ?_)
   refine aB ho16 (bS hg14 (rn_gtr rfl rfl)) rfl rfl ?_
   refine aA ?_
   refine aB rfl (aJ (v := .bool (false)) (b := false) rfl rfl rfl rfl) rfl rfl ?_
   refine aF ?_
   refine aH ?_
   refine gI rfl ?_
   refine wp_skip ?_
   refine aH ?_
   refine wp_seq ?_
   refine wp_seq ?_
   refine aI [0, 1, 2, 3] rfl ?_
   refine aA ?_
   refine aB rfl (aN dN rfl) rfl rfl ?_
   refine aA ?_
   refine aB rfl (aS (k := 1) (v := .slice Ax1 x.Methods.length cx1) Try.isAgg54 rfl (H10.blk 0 rfl) rfl) rfl rfl ?_
   refine aA ?_
   refine aB rfl (dG Try.runUnderlying54 rfl) rfl rfl ?_
   refine aA ?_
   refine aB rfl (aC rfl) rfl rfl ?_
   refine aF ?_
   refine aH ?_
   refine wp_block ?_
   refine wp_loop_ghost (fun r a' W' => ∃ (i1 : Nat) (x' : Nat → Value), a' = bC 35 x' [(1, .pointer (some ⟨g_0_0, 0, none⟩)), (16, .slice Ax1 x.Methods.length cx1), (17, .int .i64 ((x.Methods.length : Nat))), (18, .int .i64 (((i1 : Nat) : Int)))] ∧ (i1 + r = (List.range x.Methods.length).length) ∧ ((List.range x.Methods.length).all (okM x.Methods) = ((List.range x.Methods.length).drop i1).all (okM x.Methods)) ∧ St w No [hB g_0_0 56 #[.string (x.Name), .slice Ax1 x.Methods.length cx1]] W') ((List.range x.Methods.length).length) ?_ ?_
   ·exact (bJ [(1, .pointer (some ⟨g_0_0, 0, none⟩)), (16, .slice Ax1 x.Methods.length cx1), (17, .int .i64 ((x.Methods.length : Nat))), (18, .int .i64 (((0 : Nat) : Int)))] rfl).elim fun x' hx => ⟨0, x', hx, kO, (by rw [List.drop_zero]), H10⟩
   ·rintro r17 _ W18 ⟨i1, x19, rfl, hi1, hf1, H20⟩; clear H10
    refine wp_seq ?_
    refine aI [0] rfl ?_
    refine aA ?_
    refine aB rfl (eY rfl rfl) rfl rfl ?_
    refine aF ?_
    refine aH ?_
    refine wp_seq ?_
    refine aW rfl (fun hc21 => ?_) (fun hc21 => ?_)
    ·have hlt1 : i1 < (List.range x.Methods.length).length := by omega
     have hlm : i1 < x.Methods.length := by omega
     obtain ⟨ade22, cse22, hAe22, hKe22, hce22⟩ := eD hCx1 i1 hlm
     have hle22 := cO hKe22
     have hoe22 := dJ hKe22
     obtain ⟨Aade22_1, cade22_1, rfl, hlade22_1, hCade22_1⟩ := dI hKe22
     refine wp_skip ?_
     refine aH ?_
     refine wp_seq ?_
     refine wp_block ?_
     refine wp_seq ?_
     refine aI [0, 1, 2, 3, 4, 5] rfl ?_
     refine aA ?_
     refine aB rfl (aC rfl) rfl rfl ?_
     refine aA ?_
     refine aB rfl (bW (k := i1) Try.runUnderlying54 Try.sizeOf51 rfl rfl hAe22 hlm) rfl rfl ?_
     refine aA ?_
     refine aB rfl (eF Try.isAgg51 Try.sizeOf51 rfl (Cat.upd hce22 H20.1) rfl) rfl rfl ?_
     refine aA ?_
     refine dD rfl Try.zeroValue51 rfl rfl H20 ?_
     intro g_5_3 W23 hu24 Ha25; clear H20; clear hu24
     refine aA ?_
     refine aB rfl (aG rfl) rfl rfl ?_
     refine aA ?_
     refine aU rfl Try.sizeOf51 rfl rfl rfl rfl kS Ha25 ?_
     intro W27 hu28 Ha29; clear Ha25; clear hu28
     refine aF ?_
     refine aH ?_
     refine wp_seq ?_
     refine aI [0, 1, 2, 3, 4, 5, 6, 7, 8, 9, 10] rfl ?_
     refine aA ?_
     refine aB rfl (bL Try.isAgg51 Try.sizeOf51 rfl (Ha29.blk 0 rfl) rfl) rfl rfl ?_
     by_cases hg31 : (gD x.Methods[i1]) = true
     ·refine aA ?_
      refine aK rfl Try.call116 (vs := #[.agg #[.string (x.Methods[i1].Name), .slice Aade22_1 (x.Methods[i1].Code.length) cade22_1]]) rfl rfl rfl (bI (isMethod_i (x.Methods[i1]) _ _ (eB _ (x.Methods[i1]) hlade22_1 (dW Ha29.1 hCade22_1))) hg31) ?_
      rintro e34 W33 ⟨rfl, hu32⟩; refine ⟨_, rfl, ?_⟩
      have H35 := Ha29.no hu32; clear Ha29
      refine aA ?_
      refine aB rfl (eX rfl) rfl rfl ?_
      refine aA ?_
      refine aB rfl (aC rfl) rfl rfl ?_
      refine aA ?_
      refine aT rfl rfl rfl rfl (fun _ ho36 => ?_)
      refine aB ho36 (aN dN rfl) rfl rfl ?_
      refine aA ?_
      refine aT rfl rfl rfl rfl (fun _ ho37 => ?_)
      refine aB ho37 (aS (k := 1) (v := .slice Ax1 x.Methods.length cx1) Try.isAgg54 rfl (H35.blk 1 rfl) rfl) rfl rfl ?_
      refine aA ?_
      refine aT rfl rfl rfl rfl (fun _ ho38 => ?_)
      refine aB ho38 (aC rfl) rfl rfl ?_
      obtain ⟨At, hAt, hCt⟩ : ∃ At : Option Addr, (if cx1 = 0 then Ax1 else (Ax1).map (·.add (0 * 2))) = At ∧ C aL w At (x.Methods.take i1) := ⟨_, rfl, C_take hCx1⟩
      refine aA ?_
      refine aT rfl rfl rfl rfl (fun _ ho39 => ?_)
      refine aB ho39 (rn_sliceH (k := i1) Try.underlying54 Try.sizeOf51 rfl rfl kO hAt) rfl rfl ?_
      refine aA ?_
      refine aT rfl rfl rfl rfl (fun _ ho40 => ?_)
      refine aB ho40 (rn_makeFunc (us := #[]) (vs := #[.pointer (some ⟨g_5_3, 0, none⟩)]) rfl rfl) rfl rfl ?_
      refine aA ?_
      refine aT rfl rfl rfl rfl (fun _ ho41 => ?_)
      have hti : (x.Methods.take i1).length = i1 := List.length_take_of_le kO
      have hq := mtF_has (.pointer (some ⟨g_5_3, 0, none⟩)) (nmEq x.Methods[i1].Name) (x.Methods.take i1) _ cx1 _ (dW H35.1 hCt) (fun z cz w' hu hK => mtF_clo z cz _ _ w' hK (hu.read ((H35.blk 0 rfl).at'.cell 0 rfl)))
      rw [hti] at hq
      refine aK ho41 Try.call117 (vs := #[.slice At i1 cx1, .func (.func 118) #[] #[.pointer (some ⟨g_5_3, 0, none⟩)]]) rfl rfl rfl (hq) ?_
      rintro e44 W43 ⟨rfl, hu42⟩; refine ⟨_, rfl, ?_⟩
      have H45 := H35.no hu42; clear H35
      refine aA ?_
      refine aB rfl (aJ (v := .bool ((x.Methods.take i1).any (nmEq x.Methods[i1].Name))) (b := false) rfl rfl rfl rfl) rfl rfl ?_
      refine aF ?_
      refine aH ?_
      refine fC (b := (x.Methods.take i1).any (nmEq x.Methods[i1].Name)) rfl (fun hc46 => ?_) (fun hc46 => ?_)
      ·refine wp_seq ?_
       refine aI [0] rfl ?_
       refine aA ?_
       refine aB rfl (aG rfl) rfl rfl ?_
       refine aF ?_
       refine aH ?_
       refine wp_ret ?_
       refine aY ?_
       refine aR ?_
       refine aR ?_
       refine aY ?_
       refine aR ?_
       refine aM (.inl rfl) Try.results74 rfl ?_
       have hr : eP x = false := by rw [eP, hf1, gX (okM x.Methods) (List.range x.Methods.length) i1 hlt1 (by rw [rgn, okM_at _ _ hlm, (show (x.Methods.take i1).any (nmEq x.Methods[i1].Name) = true by simpa using hc46), Bool.not_true, Bool.and_false]), Bool.and_false]
       rw [hr]
       exact ⟨rfl, H45.1⟩
      ·refine wp_skip ?_
       refine dR ?_
       refine aH ?_
       refine aI [0, 1] rfl ?_
       refine aA ?_
       refine aB rfl (fJ (k := i1) rfl rfl kO) rfl rfl ?_
       refine aA ?_
       refine aB rfl (aC rfl) rfl rfl ?_
       refine aF ?_
       refine aH ?_
       exact (bJ [(1, .pointer (some ⟨g_0_0, 0, none⟩)), (16, .slice Ax1 x.Methods.length cx1), (17, .int .i64 ((x.Methods.length : Nat))), (18, .int .i64 (((i1 + 1 : Nat) : Int)))] rfl).elim fun x' hx => ⟨r17 - 1, kO, i1 + 1, x', hx, kO, (hf1.trans (all_yes (okM x.Methods) (List.range x.Methods.length) i1 hlt1 (by rw [rgn, okM_at _ _ hlm, hg31, hc46]; rfl))), H45.pick [1] kD rfl⟩
     ·refine aA ?_
      refine aK rfl Try.call116 (vs := #[.agg #[.string (x.Methods[i1].Name), .slice Aade22_1 (x.Methods[i1].Code.length) cade22_1]]) rfl rfl rfl (bI (isMethod_i (x.Methods[i1]) _ _ (eB _ (x.Methods[i1]) hlade22_1 (dW Ha29.1 hCade22_1))) (eq_false_of_ne_true hg31)) ?_
      rintro e49 W48 ⟨rfl, hu47⟩; refine ⟨_, rfl, ?_⟩
      have H50 := Ha29.no hu47; clear Ha29
      refine aA ?_
      refine aB rfl (eX rfl) rfl rfl ?_
      refine aA ?_
      refine aB rfl (aC rfl) rfl rfl ?_
      refine aA ?_
      refine aD rfl rfl rfl rfl rfl rfl rfl ?_
      refine aA ?_
      refine aD rfl rfl rfl rfl rfl rfl rfl ?_
      refine aA ?_
      refine aD rfl rfl rfl rfl rfl rfl rfl ?_
      obtain ⟨At, hAt, hCt⟩ : ∃ At : Option Addr, (if cx1 = 0 then Ax1 else (Ax1).map (·.add (0 * 2))) = At ∧ C aL w At (x.Methods.take i1) := ⟨_, rfl, C_take hCx1⟩
      refine aA ?_
      refine aD rfl rfl rfl rfl rfl rfl rfl ?_
      refine aA ?_
      refine aD rfl rfl rfl rfl rfl rfl rfl ?_
      refine aA ?_
      refine aD rfl rfl rfl rfl rfl rfl rfl ?_
      refine aA ?_
      refine aB rfl (aJ (v := .bool (true)) (b := true) rfl rfl rfl rfl) rfl rfl ?_
      refine aF ?_
      refine aH ?_
      refine fI rfl ?_
      refine wp_seq ?_
      refine aI [0] rfl ?_
      refine aA ?_
      refine aB rfl (aG rfl) rfl rfl ?_
      refine aF ?_
      refine aH ?_
      refine wp_ret ?_
      refine aY ?_
      refine aR ?_
      refine aR ?_
      refine aY ?_
      refine aR ?_
      refine aM (.inl rfl) Try.results74 rfl ?_
      have hr : eP x = false := by rw [eP, hf1, gX (okM x.Methods) (List.range x.Methods.length) i1 hlt1 (by rw [rgn, okM_at _ _ hlm, eq_false_of_ne_true hg31]; rfl), Bool.and_false]
      rw [hr]
      exact ⟨rfl, H50.1⟩
    ·have hge1 : (List.range x.Methods.length).length ≤ i1 := by omega
     refine wp_exit ?_
     refine dH ?_
     refine dH ?_
     refine inB_x ?_
     refine aH ?_
     refine wp_seq ?_
     refine aI [0] rfl ?_
     refine aA ?_
     refine aB rfl (aG rfl) rfl rfl ?_
     refine aF ?_
     refine aH ?_
     refine wp_ret ?_
     refine aM (.inl rfl) Try.results74 rfl ?_
     have hr : eP x = true := by rw [eP, hf1, all_end (okM x.Methods) (List.range x.Methods.length) i1 hge1, hg6, decide_eq_true (show x.Methods.length ≤ 4 by omega)]; rfl
     rw [hr]
     exact ⟨rfl, H20.1⟩
 ·refine aA ?_
  refine aK rfl Try.call115 (vs := #[.string (x.Name)]) rfl rfl rfl (bI (fF x.Name _) (eq_false_of_ne_true hg6)) ?_
  rintro e53 W52 ⟨rfl, hu51⟩; refine ⟨_, rfl, ?_⟩
  have H54 := Ha4.no hu51; clear Ha4
  refine aA ?_
  refine aB rfl (eX rfl) rfl rfl ?_
  refine aA ?_
  refine aB rfl (aC rfl) rfl rfl ?_
  refine aA ?_
  refine aD rfl rfl rfl rfl rfl rfl rfl ?_
  refine aA ?_
  refine aD rfl rfl rfl rfl rfl rfl rfl ?_
  refine aA ?_
  refine aD rfl rfl rfl rfl rfl rfl rfl ?_
  refine aA ?_
  refine aD rfl rfl rfl rfl rfl rfl rfl ?_
  refine aA ?_
  refine aB rfl (aJ (v := .bool (true)) (b := true) rfl rfl rfl rfl) rfl rfl ?_
  refine aF ?_
  refine aH ?_
  refine fI rfl ?_
  refine wp_seq ?_
  refine aI [0] rfl ?_
  refine aA ?_
  refine aB rfl (aG rfl) rfl rfl ?_
  refine aF ?_
  refine aH ?_
  refine wp_ret ?_
  refine aR ?_
  refine aM (.inl rfl) Try.results74 rfl ?_
  have hr : eP x = false := by rw [eP, eq_false_of_ne_true hg6]; rfl
  rw [hr]
  exact ⟨rfl, H54.1⟩
theorem any_no {α : Type} (p : α → Bool) (l : List α) (i : Nat) (h : i < l.length) (hp : p l[i] = false) : (l.drop i).any p = (l.drop (i + 1)).any p := by
 rw [List.drop_eq_getElem_cons h, List.any_cons, hp, Bool.false_or]
theorem any_end {α : Type} (p : α → Bool) (l : List α) (i : Nat) (h : l.length ≤ i) : (l.drop i).any p = false := by
 rw [List.drop_eq_nil_of_le h]; rfl
theorem isScript_I (x : GScript) (cs : List Value) (w : World) (h : aO.K w x cs) (hs : aZ x ≤ 1048576) : Calls Try.prog 29 #[.agg cs.toArray] w (bY (eP x) w) := by
 obtain ⟨Ax1, cx1, rfl, hlx1, hCx1⟩ := dP h
 refine enter 5 [(0, .agg #[.string (x.Name), .slice Ax1 x.Methods.length cx1])] Try.func29 rfl kR ?_
 intro xj
 have H1 : St w No [] w := St.enter
 refine wp_seq ?_
 refine aI [0, 1] rfl ?_
 refine aA ?_
 refine eG rfl rfl rfl rfl H1 ?_
 intro g_0_0 W2 hu3 Ha4; clear H1; clear hu3
 refine aA ?_
 refine aB rfl (aG rfl) rfl rfl ?_
 refine aF ?_
 refine aH ?_
 refine wp_seq ?_
 refine aI [0, 1, 2] rfl ?_
 refine aA ?_
 refine aB rfl (bL Try.isAgg56 Try.sizeOf56 rfl (Ha4.blk 0 rfl) rfl) rfl rfl ?_
 refine aA ?_
 refine aK rfl Try.call74 (vs := #[.agg #[.string (x.Name), .slice Ax1 x.Methods.length cx1]]) rfl rfl rfl (isScript_i x _ _ (gH _ x hlx1 (dW Ha4.1 hCx1)) hs) ?_
 rintro e8 W7 ⟨rfl, hu6⟩; refine ⟨_, rfl, ?_⟩
 have H9 := Ha4.no hu6; clear Ha4
 refine aA ?_
 refine aB rfl (aG rfl) rfl rfl ?_
 refine aF ?_
 refine aH ?_
 refine wp_ret ?_
 refine aM (.inl rfl) Try.results29 rfl ?_
 exact ⟨rfl, H9.1⟩
theorem isScript_s (x : GScript) (cs : List Value) (w : World) (h : aO.K w x cs) (hs : aZ x ≤ 1048576) : Calls Try.prog 30 #[.agg cs.toArray] w (bY (eP x) w) := by
 obtain ⟨Ax1, cx1, rfl, hlx1, hCx1⟩ := dP h
 refine enter 46 [(0, .agg #[.string (x.Name), .slice Ax1 x.Methods.length cx1])] Try.func30 rfl kR ?_
 intro xj
 have H1 : St w No [] w := St.enter
 have hnm : x.Name.size ≤ 1048576 := by unfold aZ at hs; omega
 have hcl : x.Methods.length ≤ 1048576 := by unfold aZ bZ at hs; omega
 have hrl : (List.range x.Methods.length).length = x.Methods.length := List.length_range
 refine wp_seq ?_
 refine aI [0, 1] rfl ?_
 refine aA ?_
 refine eG rfl rfl rfl rfl H1 ?_
 intro g_0_0 W2 hu3 Ha4; clear H1; clear hu3
 refine aA ?_
 refine aB rfl (aG rfl) rfl rfl ?_
 refine aF ?_
 refine aH ?_
 refine wp_seq ?_
 refine wp_seq ?_
 refine aI [0] rfl ?_
 refine aA ?_
 refine aB rfl (aG rfl) rfl rfl ?_
 refine aF ?_
 refine aH ?_
 refine wp_block ?_
 refine wp_loop_ghost (fun r a' W' => ∃ (i1 : Nat) (x' : Nat → Value), a' = bC 46 x' [(1, .pointer (some ⟨g_0_0, 0, none⟩)), (3, .int .i64 (((i1 : Nat) : Int)))] ∧ (i1 + r = (List.range x.Methods.length).length) ∧ ((List.range x.Methods.length).all (okM x.Methods) = ((List.range x.Methods.length).drop i1).all (okM x.Methods)) ∧ St w No [hB g_0_0 56 #[.string (x.Name), .slice Ax1 x.Methods.length cx1]] W') ((List.range x.Methods.length).length) ?_ ?_
 ·exact (bJ [(1, .pointer (some ⟨g_0_0, 0, none⟩)), (3, .int .i64 (((0 : Nat) : Int)))] rfl).elim fun x' hx => ⟨0, x', hx, kO, (by rw [List.drop_zero]), Ha4⟩
 ·rintro r6 _ W7 ⟨i1, x8, rfl, hi1, hf1, H9⟩; clear Ha4
  refine wp_seq ?_
  refine wp_seq ?_
  refine aI [0, 1, 2, 3, 4] rfl ?_
  refine aA ?_
  refine aB rfl (aC rfl) rfl rfl ?_
  refine aA ?_
  refine aB rfl (aN dN rfl) rfl rfl ?_
  refine aA ?_
  refine aB rfl (aS (k := 1) (v := .slice Ax1 x.Methods.length cx1) Try.isAgg54 rfl (H9.blk 0 rfl) rfl) rfl rfl ?_
  refine aA ?_
  refine aB rfl (dG Try.runUnderlying54 rfl) rfl rfl ?_
  refine aA ?_
  refine aB rfl (eY rfl rfl) rfl rfl ?_
  refine aF ?_
  refine aH ?_
  refine aW rfl (fun hc10 => ?_) (fun hc10 => ?_)
  ·have hlt1 : i1 < (List.range x.Methods.length).length := by omega
   have hlm : i1 < x.Methods.length := by omega
   have hmi : aX x.Methods[i1] ≤ 1048576 := by have h1 := gL aX x.Methods i1 hlm; unfold aZ bZ at hs; omega
   obtain ⟨ade11, cse11, hAe11, hKe11, hce11⟩ := eD hCx1 i1 hlm
   have hle11 := cO hKe11
   have hoe11 := dJ hKe11
   obtain ⟨Aade11_1, cade11_1, rfl, hlade11_1, hCade11_1⟩ := dI hKe11
   refine wp_skip ?_
   refine aH ?_
   refine wp_seq ?_
   refine wp_block ?_
   refine wp_seq ?_
   refine wp_seq ?_
   refine aI [0, 1, 2, 3, 4, 5, 6] rfl ?_
   refine aA ?_
   refine aB rfl (aN dN rfl) rfl rfl ?_
   refine aA ?_
   refine aB rfl (aS (k := 1) (v := .slice Ax1 x.Methods.length cx1) Try.isAgg54 rfl (H9.blk 0 rfl) rfl) rfl rfl ?_
   refine aA ?_
   refine aB rfl (aC rfl) rfl rfl ?_
   refine aA ?_
   refine aB rfl (bW (k := i1) Try.runUnderlying54 Try.sizeOf51 rfl rfl hAe11 hlm) rfl rfl ?_
   refine aA ?_
   refine aB rfl (eF Try.isAgg51 Try.sizeOf51 rfl (Cat.upd hce11 H9.1) rfl) rfl rfl ?_
   refine aA ?_
   refine aK rfl Try.call75 (vs := #[.agg #[.string (x.Methods[i1].Name), .slice Aade11_1 (x.Methods[i1].Code.length) cade11_1]]) rfl rfl rfl (isMethod_s (x.Methods[i1]) _ _ (K_upd H9.1 hKe11) hmi) ?_
   rintro e14 W13 ⟨rfl, hu12⟩; refine ⟨_, rfl, ?_⟩
   have H15 := H9.no hu12; clear H9
   refine aA ?_
   refine aB rfl (eX rfl) rfl rfl ?_
   refine aF ?_
   refine aH ?_
   refine fC (b := !(gD (x.Methods[i1]))) rfl (fun hc16 => ?_) (fun hc16 => ?_)
   ·refine wp_seq ?_
    refine aI [0] rfl ?_
    refine aA ?_
    refine aB rfl (aG rfl) rfl rfl ?_
    refine aF ?_
    refine aH ?_
    refine wp_ret ?_
    refine aR ?_
    refine aY ?_
    refine aR ?_
    refine aR ?_
    refine aY ?_
    refine aR ?_
    refine aM (.inl rfl) Try.results30 rfl ?_
    have hr : eP x = false := by rw [eP, hf1, gX (okM x.Methods) (List.range x.Methods.length) i1 hlt1 (by rw [rgn, okM_at _ _ hlm, (show gD x.Methods[i1] = false by simpa using hc16)]; rfl), Bool.and_false]
    rw [hr]
    exact ⟨rfl, H15.1⟩
   ·refine wp_skip ?_
    refine aH ?_
    refine wp_seq ?_
    refine aI [0] rfl ?_
    refine aA ?_
    refine aB rfl (aG rfl) rfl rfl ?_
    refine aF ?_
    refine aH ?_
    refine wp_block ?_
    have hti : (x.Methods.take i1).length = i1 := List.length_take_of_le kO
    refine wp_loop_ghost (fun r a' W' => ∃ (i2 : Nat) (x' : Nat → Value), a' = bC 46 x' [(1, .pointer (some ⟨g_0_0, 0, none⟩)), (3, .int .i64 (((i1 : Nat) : Int))), (4, .int .i64 (((i2 : Nat) : Int)))] ∧ (i2 + r = (x.Methods.take i1).length) ∧ ((x.Methods.take i1).any (nmEq x.Methods[i1].Name) = ((x.Methods.take i1).drop i2).any (nmEq x.Methods[i1].Name)) ∧ St w No [hB g_0_0 56 #[.string (x.Name), .slice Ax1 x.Methods.length cx1]] W') ((x.Methods.take i1).length) ?_ ?_
    ·exact (bJ [(1, .pointer (some ⟨g_0_0, 0, none⟩)), (3, .int .i64 (((i1 : Nat) : Int))), (4, .int .i64 (((0 : Nat) : Int)))] rfl).elim fun x' hx => ⟨0, x', hx, kO, (by rw [List.drop_zero]), H15⟩
    ·rintro r17 _ W18 ⟨i2, x19, rfl, hi2, hf2, H20⟩; clear H15
     refine wp_seq ?_
     refine wp_seq ?_
     refine aI [0, 1, 2] rfl ?_
     refine aA ?_
     refine aB rfl (aC rfl) rfl rfl ?_
     refine aA ?_
     refine aB rfl (aC rfl) rfl rfl ?_
     refine aA ?_
     refine aB rfl (eY rfl rfl) rfl rfl ?_
     refine aF ?_
     refine aH ?_
     refine aW rfl (fun hc21 => ?_) (fun hc21 => ?_)
     ·have hlt2 : i2 < (x.Methods.take i1).length := by omega
      have hlj : i2 < i1 := by omega
      have hlj2 : i2 < x.Methods.length := by omega
      have hlj3 : i2 < (x.Methods.take i1).length := by rw [List.length_take]; omega
      obtain ⟨ade22, cse22, hAe22, hKe22, hce22⟩ := eD hCx1 i2 hlj2
      have hle22 := cO hKe22
      have hoe22 := dJ hKe22
      obtain ⟨Aade22_1, cade22_1, rfl, hlade22_1, hCade22_1⟩ := dI hKe22
      refine wp_skip ?_
      refine aH ?_
      refine wp_seq ?_
      refine wp_block ?_
      refine wp_seq ?_
      refine dF (fun W' => Blk W' g_0_0 56 #[.string (x.Name), .slice Ax1 x.Methods.length cx1] ∧ Cat W' (Addr.add ade22 (i2 * 2)) [.string (x.Methods[i2].Name), .slice Aade22_1 (x.Methods[i2].Code.length) cade22_1] ∧ Cat W' (Addr.add ade11 (i1 * 2)) [.string (x.Methods[i1].Name), .slice Aade11_1 (x.Methods[i1].Code.length) cade11_1]) 13 kR ?_
      have H23 := H20.drew; clear H20
      have hS24 : Blk W18.drew g_0_0 56 #[.string (x.Name), .slice Ax1 x.Methods.length cx1] ∧ Cat W18.drew (Addr.add ade22 (i2 * 2)) [.string (x.Methods[i2].Name), .slice Aade22_1 (x.Methods[i2].Code.length) cade22_1] ∧ Cat W18.drew (Addr.add ade11 (i1 * 2)) [.string (x.Methods[i1].Name), .slice Aade11_1 (x.Methods[i1].Code.length) cade11_1] := ⟨H23.blk 0 rfl, (Cat.upd hce22 H23.1), (Cat.upd hce11 H23.1)⟩
      refine aP (i := 0) rfl kR kR kR kR kR (fun _ _ _ h => h) rfl rfl hS24 (fun W' hs' => aN dN rfl) ?_
      refine aP (i := 1) rfl kR kR kR kR kR (fun _ _ _ h => h) rfl rfl hS24 (fun W' hs' => aS (k := 1) (v := .slice Ax1 x.Methods.length cx1) Try.isAgg54 rfl hs'.1 rfl) ?_
      refine aP (i := 2) rfl kR kR kR kR kR (fun _ _ _ h => h) rfl rfl hS24 (fun W' hs' => aC rfl) ?_
      refine aP (i := 3) rfl kR kR kR kR kR (fun _ _ _ h => h) rfl rfl hS24 (fun W' hs' => bW (k := i2) Try.runUnderlying54 Try.sizeOf51 rfl rfl hAe22 hlj2) ?_
      refine aP (i := 4) rfl kR kR kR kR kR (fun _ _ _ h => h) rfl rfl hS24 (fun W' hs' => aN gB rfl) ?_
      refine aP (i := 5) rfl kR kR kR kR kR (fun _ _ _ h => h) rfl rfl hS24 (fun W' hs' => fT (v := .string (x.Methods[i2].Name)) Try.isAgg9 rfl hs'.2.1 rfl) ?_
      refine aP (i := 6) rfl kR kR kR kR kR (fun _ _ _ h => h) rfl rfl hS24 (fun W' hs' => aN dN rfl) ?_
      refine aP (i := 7) rfl kR kR kR kR kR (fun _ _ _ h => h) rfl rfl hS24 (fun W' hs' => aS (k := 1) (v := .slice Ax1 x.Methods.length cx1) Try.isAgg54 rfl hs'.1 rfl) ?_
      refine aP (i := 8) rfl kR kR kR kR kR (fun _ _ _ h => h) rfl rfl hS24 (fun W' hs' => aC rfl) ?_
      refine aP (i := 9) rfl kR kR kR kR kR (fun _ _ _ h => h) rfl rfl hS24 (fun W' hs' => bW (k := i1) Try.runUnderlying54 Try.sizeOf51 rfl rfl hAe11 hlm) ?_
      refine aP (i := 10) rfl kR kR kR kR kR (fun _ _ _ h => h) rfl rfl hS24 (fun W' hs' => aN gB rfl) ?_
      refine aP (i := 11) rfl kR kR kR kR kR (fun _ _ _ h => h) rfl rfl hS24 (fun W' hs' => fT (v := .string (x.Methods[i1].Name)) Try.isAgg9 rfl hs'.2.2 rfl) ?_
      refine aP (i := 12) rfl kR kR kR kR kR (fun _ _ _ h => h) rfl rfl hS24 (fun W' hs' => dQ rfl rfl) ?_
      refine dA kR ?_ _
      refine aH ?_
      refine fC (b := (x.Methods[i2].Name).toList == (x.Methods[i1].Name).toList) rfl (fun hc25 => ?_) (fun hc25 => ?_)
      ·refine wp_seq ?_
       refine aI [0] rfl ?_
       refine aA ?_
       refine aB rfl (aG rfl) rfl rfl ?_
       refine aF ?_
       refine aH ?_
       refine wp_ret ?_
       refine aY ?_
       refine aR ?_
       refine aR ?_
       refine aY ?_
       refine aY ?_
       refine aR ?_
       refine aR ?_
       refine aY ?_
       refine aR ?_
       refine aM (.inl rfl) Try.results30 rfl ?_
       have hr : eP x = false := by rw [eP, hf1, gX (okM x.Methods) (List.range x.Methods.length) i1 hlt1 (by rw [rgn, okM_at _ _ hlm, any_in (nmEq x.Methods[i1].Name) (x.Methods.take i1) i2 hlj3 (by rw [tk_at2 _ _ _ hlj hlj3 hlj2]; exact hc25), Bool.not_true, Bool.and_false]), Bool.and_false]
       rw [hr]
       exact ⟨rfl, H23.1⟩
      ·refine wp_skip ?_
       refine dR ?_
       refine aH ?_
       refine aI [0, 1, 2] rfl ?_
       refine aA ?_
       refine aB rfl (aC rfl) rfl rfl ?_
       refine aA ?_
       refine aB rfl (fJ (k := i2) rfl rfl kO) rfl rfl ?_
       refine aA ?_
       refine aB rfl (aG rfl) rfl rfl ?_
       refine aF ?_
       refine aH ?_
       exact (bJ [(1, .pointer (some ⟨g_0_0, 0, none⟩)), (3, .int .i64 (((i1 : Nat) : Int))), (4, .int .i64 (((i2 + 1 : Nat) : Int)))] rfl).elim fun x' hx => ⟨r17 - 1, kO, i2 + 1, x', hx, kO, (hf2.trans (any_no (nmEq x.Methods[i1].Name) (x.Methods.take i1) i2 hlj3 (by rw [tk_at2 _ _ _ hlj hlj3 hlj2]; exact hc25))), H23⟩
     ·have hge2 : (x.Methods.take i1).length ≤ i2 := by omega
      refine wp_exit ?_
      refine dH ?_
      refine dH ?_
      refine inB_x ?_
      refine dR ?_
      refine aH ?_
      refine aI [0, 1, 2] rfl ?_
      refine aA ?_
      refine aB rfl (aC rfl) rfl rfl ?_
      refine aA ?_
      refine aB rfl (fJ (k := i1) rfl rfl kO) rfl rfl ?_
      refine aA ?_
      refine aB rfl (aG rfl) rfl rfl ?_
      refine aF ?_
      refine aH ?_
      exact (bJ [(1, .pointer (some ⟨g_0_0, 0, none⟩)), (3, .int .i64 (((i1 + 1 : Nat) : Int)))] rfl).elim fun x' hx => ⟨r6 - 1, kO, i1 + 1, x', hx, kO, (hf1.trans (all_yes (okM x.Methods) (List.range x.Methods.length) i1 hlt1 (by rw [rgn, okM_at _ _ hlm, (show gD x.Methods[i1] = true by simpa using hc16), hf2, any_end (nmEq x.Methods[i1].Name) (x.Methods.take i1) i2 hge2]; rfl))), H20⟩
  ·have hge1 : (List.range x.Methods.length).length ≤ i1 := by omega
   refine wp_exit ?_
   refine dH ?_
   refine dH ?_
   refine inB_x ?_
   refine aH ?_
   refine wp_seq ?_
   refine aI [0, 1, 2, 3, 4, 5, 6, 7, 8, 9] rfl ?_
   refine aA ?_
   refine aB rfl (aN gN rfl) rfl rfl ?_
   refine aA ?_
   refine aB rfl (aS (k := 0) (v := .string (x.Name)) Try.isAgg9 rfl (H9.blk 0 rfl) rfl) rfl rfl ?_
   by_cases hg26 : (nmB x.Name) = true
   ·refine aA ?_
    refine aK rfl Try.call76 (vs := #[.string (x.Name)]) rfl rfl rfl (bI (fG x.Name _ hnm) hg26) ?_
    rintro e29 W28 ⟨rfl, hu27⟩; refine ⟨_, rfl, ?_⟩
    have H30 := H9.no hu27; clear H9
    refine aA ?_
    refine aB rfl (aC rfl) rfl rfl ?_
    refine aA ?_
    refine aT rfl rfl rfl rfl (fun _ ho31 => ?_)
    refine aB ho31 (aN dN rfl) rfl rfl ?_
    refine aA ?_
    refine aT rfl rfl rfl rfl (fun _ ho32 => ?_)
    refine aB ho32 (aS (k := 1) (v := .slice Ax1 x.Methods.length cx1) Try.isAgg54 rfl (H30.blk 0 rfl) rfl) rfl rfl ?_
    refine aA ?_
    refine aT rfl rfl rfl rfl (fun _ ho33 => ?_)
    refine aB ho33 (dG Try.runUnderlying54 rfl) rfl rfl ?_
    by_cases hg34 : ((x.Methods.length : Nat) : Int) ≤ 4
    ·refine aA ?_
     refine aT rfl rfl rfl rfl (fun _ ho35 => ?_)
     refine aB ho35 (bQ hg34 (gF rfl rfl)) rfl rfl ?_
     refine aA ?_
     refine aB rfl (aJ (v := .bool (true)) (b := true) rfl rfl rfl rfl) rfl rfl ?_
     refine aA ?_
     refine aB rfl (aG rfl) rfl rfl ?_
     refine aF ?_
     refine aH ?_
     refine wp_ret ?_
     refine aM (.inl rfl) Try.results30 rfl ?_
     have hr : eP x = true := by rw [eP, hf1, all_end (okM x.Methods) (List.range x.Methods.length) i1 hge1, hg26, decide_eq_true (show x.Methods.length ≤ 4 by omega)]; rfl
     rw [hr]
     exact ⟨rfl, H30.1⟩
    ·refine aA ?_
     refine aT rfl rfl rfl rfl (fun _ ho36 => ?_)
     refine aB ho36 (bS hg34 (gF rfl rfl)) rfl rfl ?_
     refine aA ?_
     refine aB rfl (aJ (v := .bool (false)) (b := true) rfl rfl rfl rfl) rfl rfl ?_
     refine aA ?_
     refine aB rfl (aG rfl) rfl rfl ?_
     refine aF ?_
     refine aH ?_
     refine wp_ret ?_
     refine aM (.inl rfl) Try.results30 rfl ?_
     have hr : eP x = false := by rw [eP, decide_eq_false (show ¬ x.Methods.length ≤ 4 by omega), Bool.and_false]; rfl
     rw [hr]
     exact ⟨rfl, H30.1⟩
   ·refine aA ?_
    refine aK rfl Try.call76 (vs := #[.string (x.Name)]) rfl rfl rfl (bI (fG x.Name _ hnm) (eq_false_of_ne_true hg26)) ?_
    rintro e39 W38 ⟨rfl, hu37⟩; refine ⟨_, rfl, ?_⟩
    have H40 := H9.no hu37; clear H9
    refine aA ?_
    refine aB rfl (aC rfl) rfl rfl ?_
    refine aA ?_
    refine aD rfl rfl rfl rfl rfl rfl rfl ?_
    refine aA ?_
    refine aD rfl rfl rfl rfl rfl rfl rfl ?_
    refine aA ?_
    refine aD rfl rfl rfl rfl rfl rfl rfl ?_
    refine aA ?_
    refine aD rfl rfl rfl rfl rfl rfl rfl ?_
    refine aA ?_
    refine aB rfl (aJ (v := .bool (false)) (b := false) rfl rfl rfl rfl) rfl rfl ?_
    refine aA ?_
    refine aB rfl (aG rfl) rfl rfl ?_
    refine aF ?_
    refine aH ?_
    refine wp_ret ?_
    refine aM (.inl rfl) Try.results30 rfl ?_
    have hr : eP x = false := by rw [eP, eq_false_of_ne_true hg26]; rfl
    rw [hr]
    exact ⟨rfl, H40.1⟩
def scEq (s : ByteArray) : GScript → Bool := fun z => z.Name.toList == s.toList
theorem scF_clo (x : GScript) (cs : List Value) (s : ByteArray) (g : Nat) (w : World) (h : aO.K w x cs) (hc : w.cell? ⟨g, 0, none⟩ = some (.string s)) : Calls Try.prog 145 #[.agg cs.toArray, .pointer (some ⟨g, 0, none⟩)] w (bY (scEq s x) w) := by
 obtain ⟨Ax1, cx1, rfl, hlx1, hCx1⟩ := dP h
 refine enter 8 [(0, .agg #[.string (x.Name), .slice Ax1 x.Methods.length cx1]), (1, .pointer (some ⟨g, 0, none⟩))] Try.func145 rfl kR ?_
 intro xj
 have H1 : St w No [] w := St.enter
 refine wp_seq ?_
 refine aI [0, 1] rfl ?_
 refine aA ?_
 refine eG rfl rfl rfl rfl H1 ?_
 intro g_0_0 W2 hu3 Ha4; clear H1; clear hu3
 refine aA ?_
 refine aB rfl (aG rfl) rfl rfl ?_
 refine aF ?_
 refine aH ?_
 refine wp_seq ?_
 refine aI [0, 1, 2, 3, 4] rfl ?_
 refine aA ?_
 refine aB rfl (aN gN rfl) rfl rfl ?_
 refine aA ?_
 refine aB rfl (aS (k := 0) (v := .string (x.Name)) Try.isAgg9 rfl (Ha4.blk 0 rfl) rfl) rfl rfl ?_
 refine aA ?_
 refine aB rfl (iB (v := .string (s)) Try.isAgg9 rfl (Ha4.1.read hc)) rfl rfl ?_
 refine aA ?_
 refine aB rfl (dQ rfl rfl) rfl rfl ?_
 refine aA ?_
 refine aB rfl (aG rfl) rfl rfl ?_
 refine aF ?_
 refine aH ?_
 refine wp_ret ?_
 refine aM (.inl rfl) Try.results145 rfl ?_
 exact ⟨rfl, Ha4.1⟩
theorem findScript_i (l : List GScript) (s : ByteArray) (A : Option Addr) (c : Nat) (w : World) (hC : C aO w A l) : Calls Try.prog 114 #[.slice A l.length c, .string s] w (RetInt (fidx (scEq s) 0 l) w) := by
 refine enter 8 [(0, .slice A l.length c), (1, .string (s))] Try.func114 rfl kR ?_
 intro xj
 have H1 : St w No [] w := St.enter
 refine wp_seq ?_
 refine aI [0, 1] rfl ?_
 refine aA ?_
 refine eG rfl rfl rfl rfl H1 ?_
 intro g_0_0 W2 hu3 Ha4; clear H1; clear hu3
 refine aA ?_
 refine aB rfl (aG rfl) rfl rfl ?_
 refine aF ?_
 refine aH ?_
 refine wp_seq ?_
 refine aI [0, 1, 2, 3] rfl ?_
 refine aA ?_
 refine aB rfl (aC rfl) rfl rfl ?_
 refine aA ?_
 refine aB rfl (rn_makeFunc (us := #[]) (vs := #[.pointer (some ⟨g_0_0, 0, none⟩)]) rfl rfl) rfl rfl ?_
 refine aA ?_
 refine aK rfl Try.call144 (vs := #[.slice A l.length c, .func (.func 145) #[] #[.pointer (some ⟨g_0_0, 0, none⟩)]]) rfl rfl rfl (scF_idx (.pointer (some ⟨g_0_0, 0, none⟩)) (scEq s) l _ _ _ (dW Ha4.1 hC) (fun z cz w' hu hK => scF_clo z cz s _ w' hK (hu.read ((Ha4.blk 0 rfl).at 0 rfl)))) ?_
 rintro e8 W7 ⟨rfl, hu6⟩; refine ⟨_, rfl, ?_⟩
 have H9 := Ha4.no hu6; clear Ha4
 refine aA ?_
 refine aB rfl (aG rfl) rfl rfl ?_
 refine aF ?_
 refine aH ?_
 refine wp_ret ?_
 refine aM (.inl rfl) Try.results114 rfl ?_
 exact ⟨rfl, H9.1⟩
theorem findScript_s (l : List GScript) (s : ByteArray) (A : Option Addr) (c : Nat) (w : World) (hC : C aO w A l) (hl : l.length ≤ 1048576) : Calls Try.prog 73 #[.slice A l.length c, .string s] w (RetInt (fidx (scEq s) 0 l) w) := by
 refine enter 20 [(0, .slice A l.length c), (1, .string (s))] Try.func73 rfl kR ?_
 intro xj
 have H1 : St w No [] w := St.enter
 refine wp_seq ?_
 refine aI [0] rfl ?_
 refine aA ?_
 refine aB rfl (aG rfl) rfl rfl ?_
 refine aF ?_
 refine aH ?_
 refine wp_seq ?_
 refine wp_seq ?_
 refine aI [0] rfl ?_
 refine aA ?_
 refine aB rfl (aG rfl) rfl rfl ?_
 refine aF ?_
 refine aH ?_
 refine wp_block ?_
 refine wp_loop_ghost (fun r a' W' => ∃ (i1 : Nat) (x' : Nat → Value), a' = bC 20 x' [(0, .slice A l.length c), (1, .string (s)), (5, .int .i64 (((i1 : Nat) : Int)))] ∧ (i1 + r = l.length) ∧ (fidx (scEq s) 0 l = fidx (scEq s) ((i1 : Nat) : Int) (l.drop i1)) ∧ St w No [] W') l.length ?_ ?_
 ·exact (bJ [(0, .slice A l.length c), (1, .string (s)), (5, .int .i64 (((0 : Nat) : Int)))] rfl).elim fun x' hx => ⟨0, x', hx, kO, rfl, H1⟩
 ·rintro r2 _ W3 ⟨i1, x4, rfl, hi1, hf1, H5⟩; clear H1
  refine wp_seq ?_
  refine wp_seq ?_
  refine aI [0, 1, 2, 3] rfl ?_
  refine aA ?_
  refine aB rfl (aC rfl) rfl rfl ?_
  refine aA ?_
  refine aB rfl (aC rfl) rfl rfl ?_
  refine aA ?_
  refine aB rfl (dG Try.runUnderlying46 rfl) rfl rfl ?_
  refine aA ?_
  refine aB rfl (eY rfl rfl) rfl rfl ?_
  refine aF ?_
  refine aH ?_
  refine aW rfl (fun hc6 => ?_) (fun hc6 => ?_)
  ·have hlt1 : i1 < l.length := by omega
   obtain ⟨ade7, cse7, hAe7, hKe7, hce7⟩ := eD hC i1 hlt1
   have hle7 := bG hKe7
   have hoe7 := dK hKe7
   obtain ⟨Aade7_1, cade7_1, rfl, hlade7_1, hCade7_1⟩ := dP hKe7
   refine wp_skip ?_
   refine aH ?_
   refine wp_seq ?_
   refine wp_block ?_
   refine wp_seq ?_
   refine aI [0, 1, 2, 3, 4, 5, 6] rfl ?_
   refine aA ?_
   refine aB rfl (aC rfl) rfl rfl ?_
   refine aA ?_
   refine aB rfl (aC rfl) rfl rfl ?_
   refine aA ?_
   refine aB rfl (bW (k := i1) Try.runUnderlying46 Try.sizeOf56 rfl rfl hAe7 hlt1) rfl rfl ?_
   refine aA ?_
   refine aB rfl (aN gN rfl) rfl rfl ?_
   refine aA ?_
   refine aB rfl (fT (v := .string (l[i1].Name)) Try.isAgg9 rfl (Cat.upd hce7 H5.1) rfl) rfl rfl ?_
   refine aA ?_
   refine aB rfl (aC rfl) rfl rfl ?_
   refine aA ?_
   refine aB rfl (dQ rfl rfl) rfl rfl ?_
   refine aF ?_
   refine aH ?_
   refine fC (b := (l[i1].Name).toList == s.toList) rfl (fun hc8 => ?_) (fun hc8 => ?_)
   ·refine wp_seq ?_
    refine aI [0, 1] rfl ?_
    refine aA ?_
    refine aB rfl (aC rfl) rfl rfl ?_
    refine aA ?_
    refine aB rfl (aG rfl) rfl rfl ?_
    refine aF ?_
    refine aH ?_
    refine wp_ret ?_
    refine aY ?_
    refine aR ?_
    refine aR ?_
    refine aY ?_
    refine aR ?_
    refine aM (.inl rfl) Try.results73 rfl ?_
    rw [hf1, fidx_yes (scEq s) l i1 hlt1 hc8]
    exact ⟨rfl, H5.1⟩
   ·refine wp_skip ?_
    refine dR ?_
    refine aH ?_
    refine aI [0, 1, 2] rfl ?_
    refine aA ?_
    refine aB rfl (aC rfl) rfl rfl ?_
    refine aA ?_
    refine aB rfl (fJ (k := i1) rfl rfl kO) rfl rfl ?_
    refine aA ?_
    refine aB rfl (aG rfl) rfl rfl ?_
    refine aF ?_
    refine aH ?_
    exact (bJ [(0, .slice A l.length c), (1, .string (s)), (5, .int .i64 (((i1 + 1 : Nat) : Int)))] rfl).elim fun x' hx => ⟨r2 - 1, kO, i1 + 1, x', hx, kO, (hf1.trans (fidx_no (scEq s) l i1 hlt1 hc8)), H5⟩
  ·have hge1 : l.length ≤ i1 := by omega
   refine wp_exit ?_
   refine dH ?_
   refine dH ?_
   refine inB_x ?_
   refine aH ?_
   refine wp_seq ?_
   refine aI [0] rfl ?_
   refine aA ?_
   refine aB rfl (aG rfl) rfl rfl ?_
   refine aF ?_
   refine aH ?_
   refine wp_ret ?_
   refine aM (.inl rfl) Try.results73 rfl ?_
   rw [hf1, fidx_end (scEq s) l i1 hge1]
   exact ⟨rfl, H5.1⟩
def okS (L : List GScript) (i : Nat) : Bool := eP (L.getD i zScript) && !(L.take i).any (scEq (L.getD i zScript).Name)
def libB (l : List GScript) : Bool := decide (l.length ≤ 6) && (List.range l.length).all (okS l)
theorem okS_at (L : List GScript) (i : Nat) (h : i < L.length) : okS L i = (eP L[i] && !(L.take i).any (scEq L[i].Name)) := by
 have e : L.getD i zScript = L[i] := by simp [List.getD, h]
 unfold okS
 rw [e]
theorem fidx_first {α : Type} (p : α → Bool) : ∀ (l : List α) (i : Nat) (k : Int) (h : i < l.length), p l[i] = true → (fidx p k l = k + i ↔ (l.take i).any p = false)
 | [], _, _, h, _ => (Nat.not_lt_zero _ h).elim
 | x :: r, 0, k, _, hp => by
  have hx : p x = true := hp
  rw [show fidx p k (x :: r) = k by unfold fidx; rw [if_pos hx]]
  simp
 | x :: r, i + 1, k, h, hp => by
  have q := fidx_first p r i (k + 1) (Nat.lt_of_succ_lt_succ h) hp
  by_cases hx : p x = true
  ·rw [show fidx p k (x :: r) = k by unfold fidx; rw [if_pos hx], List.take_succ_cons, List.any_cons, hx]
   simp
   omega
  ·rw [show fidx p k (x :: r) = fidx p (k + 1) r by rw [fidx, if_neg hx], List.take_succ_cons, List.any_cons, eq_false_of_ne_true hx, Bool.false_or, ← q]
   omega
theorem scEq_self (x : GScript) : scEq x.Name x = true := by simp [scEq]
theorem isLibrary_s (l : List GScript) (A : Option Addr) (c : Nat) (w : World) (hC : C aO w A l) (hs : bZ aZ l ≤ 1048576) : Calls Try.prog 28 #[.slice A l.length c] w (bY (libB l) w) := by
 refine enter 30 [(0, .slice A l.length c)] Try.func28 rfl kR ?_
 intro xj
 have H1 : St w No [] w := St.enter
 have hcl : l.length ≤ 1048576 := by unfold bZ at hs; omega
 have hrl : (List.range l.length).length = l.length := List.length_range
 refine wp_seq ?_
 refine aI [0] rfl ?_
 refine aA ?_
 refine aB rfl (aG rfl) rfl rfl ?_
 refine aF ?_
 refine aH ?_
 refine wp_seq ?_
 refine wp_seq ?_
 refine aI [0] rfl ?_
 refine aA ?_
 refine aB rfl (aG rfl) rfl rfl ?_
 refine aF ?_
 refine aH ?_
 refine wp_block ?_
 refine wp_loop_ghost (fun r a' W' => ∃ (i1 : Nat) (x' : Nat → Value), a' = bC 30 x' [(0, .slice A l.length c), (3, .int .i64 (((i1 : Nat) : Int)))] ∧ (i1 + r = (List.range l.length).length) ∧ ((List.range l.length).all (okS l) = ((List.range l.length).drop i1).all (okS l)) ∧ St w No [] W') ((List.range l.length).length) ?_ ?_
 ·exact (bJ [(0, .slice A l.length c), (3, .int .i64 (((0 : Nat) : Int)))] rfl).elim fun x' hx => ⟨0, x', hx, kO, (by rw [List.drop_zero]), H1⟩
 ·rintro r2 _ W3 ⟨i1, x4, rfl, hi1, hf1, H5⟩; clear H1
  refine wp_seq ?_
  refine wp_seq ?_
  refine aI [0, 1, 2, 3] rfl ?_
  refine aA ?_
  refine aB rfl (aC rfl) rfl rfl ?_
  refine aA ?_
  refine aB rfl (aC rfl) rfl rfl ?_
  refine aA ?_
  refine aB rfl (dG Try.runUnderlying46 rfl) rfl rfl ?_
  refine aA ?_
  refine aB rfl (eY rfl rfl) rfl rfl ?_
  refine aF ?_
  refine aH ?_
  refine aW rfl (fun hc6 => ?_) (fun hc6 => ?_)
  ·have hlt1 : i1 < (List.range l.length).length := by omega
   have hlm : i1 < l.length := by omega
   have hmi : aZ l[i1] ≤ 1048576 := by have h1 := gL aZ l i1 hlm; unfold bZ at hs; omega
   obtain ⟨ade7, cse7, hAe7, hKe7, hce7⟩ := eD hC i1 hlm
   have hle7 := bG hKe7
   have hoe7 := dK hKe7
   obtain ⟨Aade7_1, cade7_1, rfl, hlade7_1, hCade7_1⟩ := dP hKe7
   refine wp_skip ?_
   refine aH ?_
   refine wp_seq ?_
   refine wp_block ?_
   refine wp_seq ?_
   refine aI [0, 1, 2, 3, 4, 5, 6, 7, 8, 9, 10, 11, 12, 13, 14, 15, 16] rfl ?_
   refine aA ?_
   refine aB rfl (aC rfl) rfl rfl ?_
   refine aA ?_
   refine aB rfl (aC rfl) rfl rfl ?_
   refine aA ?_
   refine aB rfl (bW (k := i1) Try.runUnderlying46 Try.sizeOf56 rfl rfl hAe7 hlm) rfl rfl ?_
   refine aA ?_
   refine aB rfl (eF Try.isAgg56 Try.sizeOf56 rfl (Cat.upd hce7 H5.1) rfl) rfl rfl ?_
   by_cases hg8 : (eP l[i1]) = true
   ·refine aA ?_
    refine aK rfl Try.call30 (vs := #[.agg #[.string (l[i1].Name), .slice Aade7_1 (l[i1].Methods.length) cade7_1]]) rfl rfl rfl (bI (isScript_s (l[i1]) _ _ (K_upd H5.1 hKe7) hmi) hg8) ?_
    rintro e11 W10 ⟨rfl, hu9⟩; refine ⟨_, rfl, ?_⟩
    have H12 := H5.no hu9; clear H5
    refine aA ?_
    refine aB rfl (eX rfl) rfl rfl ?_
    refine aA ?_
    refine aB rfl (aC rfl) rfl rfl ?_
    refine aA ?_
    refine aT rfl rfl rfl rfl (fun _ ho13 => ?_)
    refine aB ho13 (aC rfl) rfl rfl ?_
    refine aA ?_
    refine aT rfl rfl rfl rfl (fun _ ho14 => ?_)
    refine aB ho14 (aC rfl) rfl rfl ?_
    refine aA ?_
    refine aT rfl rfl rfl rfl (fun _ ho15 => ?_)
    refine aB ho15 (aC rfl) rfl rfl ?_
    refine aA ?_
    refine aT rfl rfl rfl rfl (fun _ ho16 => ?_)
    refine aB ho16 (bW (k := i1) Try.runUnderlying46 Try.sizeOf56 rfl rfl hAe7 hlm) rfl rfl ?_
    refine aA ?_
    refine aT rfl rfl rfl rfl (fun _ ho17 => ?_)
    refine aB ho17 (aN gN rfl) rfl rfl ?_
    refine aA ?_
    refine aT rfl rfl rfl rfl (fun _ ho18 => ?_)
    refine aB ho18 (fT (v := .string (l[i1].Name)) Try.isAgg9 rfl (Cat.upd hce7 H12.1) rfl) rfl rfl ?_
    refine aA ?_
    refine aT rfl rfl rfl rfl (fun _ ho19 => ?_)
    refine aK ho19 Try.call73 (vs := #[.slice A l.length c, .string (l[i1].Name)]) rfl rfl rfl (findScript_s l (l[i1].Name) _ _ _ (dW H12.1 hC) hcl) ?_
    rintro e22 W21 ⟨rfl, hu20⟩; refine ⟨_, rfl, ?_⟩
    have H23 := H12.no hu20; clear H12
    refine aA ?_
    refine aT rfl rfl rfl rfl (fun _ ho24 => ?_)
    refine aB ho24 (aC rfl) rfl rfl ?_
    by_cases hg25 : ¬ ((fidx (scEq (l[i1].Name)) 0 l) : Int) = ((i1 : Nat) : Int)
    ·refine aA ?_
     refine aT rfl rfl rfl rfl (fun _ ho26 => ?_)
     refine aB ho26 (bQ hg25 (gM rfl rfl)) rfl rfl ?_
     refine aA ?_
     refine aB rfl (aJ (v := .bool (true)) (b := false) rfl rfl rfl rfl) rfl rfl ?_
     refine aF ?_
     refine aH ?_
     refine fI rfl ?_
     refine wp_seq ?_
     refine aI [0] rfl ?_
     refine aA ?_
     refine aB rfl (aG rfl) rfl rfl ?_
     refine aF ?_
     refine aH ?_
     refine wp_ret ?_
     refine aY ?_
     refine aR ?_
     refine aR ?_
     refine aY ?_
     refine aR ?_
     refine aM (.inl rfl) Try.results28 rfl ?_
     have ha : (l.take i1).any (scEq l[i1].Name) = true := by cases e : (l.take i1).any (scEq l[i1].Name) with | true => rfl | false => exact absurd ((fidx_first (scEq l[i1].Name) l i1 0 hlm (scEq_self _)).2 e) kO
     have hr : libB l = false := by rw [libB, hf1, gX (okS l) (List.range l.length) i1 hlt1 (by rw [rgn, okS_at _ _ hlm, ha, Bool.not_true, Bool.and_false]), Bool.and_false]
     rw [hr]
     exact ⟨rfl, H23.1⟩
    ·refine aA ?_
     refine aT rfl rfl rfl rfl (fun _ ho27 => ?_)
     refine aB ho27 (bS hg25 (gM rfl rfl)) rfl rfl ?_
     refine aA ?_
     refine aB rfl (aJ (v := .bool (false)) (b := false) rfl rfl rfl rfl) rfl rfl ?_
     refine aF ?_
     refine aH ?_
     refine gI rfl ?_
     refine wp_skip ?_
     refine dR ?_
     refine aH ?_
     refine aI [0, 1, 2] rfl ?_
     refine aA ?_
     refine aB rfl (aC rfl) rfl rfl ?_
     refine aA ?_
     refine aB rfl (fJ (k := i1) rfl rfl kO) rfl rfl ?_
     refine aA ?_
     refine aB rfl (aG rfl) rfl rfl ?_
     refine aF ?_
     refine aH ?_
     exact (bJ [(0, .slice A l.length c), (3, .int .i64 (((i1 + 1 : Nat) : Int)))] rfl).elim fun x' hx => ⟨r2 - 1, kO, i1 + 1, x', hx, kO, (hf1.trans (all_yes (okS l) (List.range l.length) i1 hlt1 (by rw [rgn, okS_at _ _ hlm, hg8, (fidx_first (scEq l[i1].Name) l i1 0 hlm (scEq_self _)).1 kO]; rfl))), H23⟩
   ·refine aA ?_
    refine aK rfl Try.call30 (vs := #[.agg #[.string (l[i1].Name), .slice Aade7_1 (l[i1].Methods.length) cade7_1]]) rfl rfl rfl (bI (isScript_s (l[i1]) _ _ (K_upd H5.1 hKe7) hmi) (eq_false_of_ne_true hg8)) ?_
    rintro e30 W29 ⟨rfl, hu28⟩; refine ⟨_, rfl, ?_⟩
    have H31 := H5.no hu28; clear H5
    refine aA ?_
    refine aB rfl (eX rfl) rfl rfl ?_
    refine aA ?_
    refine aB rfl (aC rfl) rfl rfl ?_
    refine aA ?_
    refine aD rfl rfl rfl rfl rfl rfl rfl ?_
    refine aA ?_
    refine aD rfl rfl rfl rfl rfl rfl rfl ?_
    refine aA ?_
    refine aD rfl rfl rfl rfl rfl rfl rfl ?_
    refine aA ?_
    refine aD rfl rfl rfl rfl rfl rfl rfl ?_
    refine aA ?_
    refine aD rfl rfl rfl rfl rfl rfl rfl ?_
    refine aA ?_
    refine aD rfl rfl rfl rfl rfl rfl rfl ?_
    refine aA ?_
    refine aD rfl rfl rfl rfl rfl rfl rfl ?_
    refine aA ?_
    refine aD rfl rfl rfl rfl rfl rfl rfl ?_
    refine aA ?_
    refine aD rfl rfl rfl rfl rfl rfl rfl ?_
    refine aA ?_
    refine aB rfl (aJ (v := .bool (true)) (b := true) rfl rfl rfl rfl) rfl rfl ?_
    refine aF ?_
    refine aH ?_
    refine fI rfl ?_
    refine wp_seq ?_
    refine aI [0] rfl ?_
    refine aA ?_
    refine aB rfl (aG rfl) rfl rfl ?_
    refine aF ?_
    refine aH ?_
    refine wp_ret ?_
    refine aY ?_
    refine aR ?_
    refine aR ?_
    refine aY ?_
    refine aR ?_
    refine aM (.inl rfl) Try.results28 rfl ?_
    have hr : libB l = false := by rw [libB, hf1, gX (okS l) (List.range l.length) i1 hlt1 (by rw [rgn, okS_at _ _ hlm, eq_false_of_ne_true hg8]; rfl), Bool.and_false]
    rw [hr]
    exact ⟨rfl, H31.1⟩
  ·have hge1 : (List.range l.length).length ≤ i1 := by omega
   refine wp_exit ?_
   refine dH ?_
   refine dH ?_
   refine inB_x ?_
   refine aH ?_
   refine wp_seq ?_
   refine aI [0, 1, 2, 3] rfl ?_
   refine aA ?_
   refine aB rfl (aC rfl) rfl rfl ?_
   refine aA ?_
   refine aB rfl (dG Try.runUnderlying46 rfl) rfl rfl ?_
   refine aA ?_
   refine aB rfl (gF rfl rfl) rfl rfl ?_
   refine aA ?_
   refine aB rfl (aG rfl) rfl rfl ?_
   refine aF ?_
   refine aH ?_
   refine wp_ret ?_
   refine aM (.inl rfl) Try.results28 rfl ?_
   have hr : libB l = decide ((l.length : Nat) ≤ (6 : Int)) := by rw [libB, hf1, all_end (okS l) (List.range l.length) i1 hge1, Bool.and_true]; exact decide_eq_decide.2 kO
   rw [hr]
   exact ⟨rfl, H5.1⟩
theorem isLibrary_i (l : List GScript) (A : Option Addr) (c : Nat) (w : World) (hC : C aO w A l) (hlc : l.length ≤ c) (hs : bZ aZ l ≤ 1048576) : Calls Try.prog 72 #[.slice A l.length c] w (bY (libB l) w) := by
 refine enter 28 [(0, .slice A l.length c)] Try.func72 rfl kR ?_
 intro xj
 have H1 : St w No [] w := St.enter
 have hcl : l.length ≤ 1048576 := by unfold bZ at hs; omega
 have hrl : (List.range l.length).length = l.length := List.length_range
 refine wp_seq ?_
 refine aI [0] rfl ?_
 refine aA ?_
 refine aB rfl (aG rfl) rfl rfl ?_
 refine aF ?_
 refine aH ?_
 refine wp_seq ?_
 refine wp_seq ?_
 refine aI [0, 1, 2] rfl ?_
 refine aA ?_
 refine aB rfl (aC rfl) rfl rfl ?_
 refine aA ?_
 refine aB rfl (dG Try.runUnderlying46 rfl) rfl rfl ?_
 refine aA ?_
 refine aB rfl (rn_gtr rfl rfl) rfl rfl ?_
 refine aF ?_
 refine aH ?_
 refine aW rfl (fun hc2 => ?_) (fun hc2 => ?_)
 ·refine wp_seq ?_
  refine aI [0] rfl ?_
  refine aA ?_
  refine aB rfl (aG rfl) rfl rfl ?_
  refine aF ?_
  refine aH ?_
  refine wp_ret ?_
  refine aR ?_
  refine aM (.inl rfl) Try.results72 rfl ?_
  have hr : libB l = false := by rw [libB, decide_eq_false (show ¬ l.length ≤ 6 by omega)]; rfl
  rw [hr]
  exact ⟨rfl, H1.1⟩
 ·refine wp_skip ?_
  refine aH ?_
  refine wp_seq ?_
  refine wp_seq ?_
  refine aI [0, 1, 2] rfl ?_
  refine aA ?_
  refine aB rfl (aC rfl) rfl rfl ?_
  refine aA ?_
  refine aB rfl (dG Try.runUnderlying46 rfl) rfl rfl ?_
  refine aA ?_
  refine aB rfl (aC rfl) rfl rfl ?_
  refine aF ?_
  refine aH ?_
  refine wp_block ?_
  refine wp_loop_ghost (fun r a' W' => ∃ (i1 : Nat) (x' : Nat → Value), a' = bC 28 x' [(0, .slice A l.length c), (8, .slice A l.length c), (9, .int .i64 ((l.length : Nat))), (10, .int .i64 (((i1 : Nat) : Int)))] ∧ (i1 + r = (List.range l.length).length) ∧ ((List.range l.length).all (okS l) = ((List.range l.length).drop i1).all (okS l)) ∧ St w No [] W') ((List.range l.length).length) ?_ ?_
  ·exact (bJ [(0, .slice A l.length c), (8, .slice A l.length c), (9, .int .i64 ((l.length : Nat))), (10, .int .i64 (((0 : Nat) : Int)))] rfl).elim fun x' hx => ⟨0, x', hx, kO, (by rw [List.drop_zero]), H1⟩
  ·rintro r3 _ W4 ⟨i1, x5, rfl, hi1, hf1, H6⟩; clear H1
   refine wp_seq ?_
   refine aI [0] rfl ?_
   refine aA ?_
   refine aB rfl (eY rfl rfl) rfl rfl ?_
   refine aF ?_
   refine aH ?_
   refine wp_seq ?_
   refine aW rfl (fun hc7 => ?_) (fun hc7 => ?_)
   ·have hlt1 : i1 < (List.range l.length).length := by omega
    have hlm : i1 < l.length := by omega
    have hmi : aZ l[i1] ≤ 1048576 := by have h1 := gL aZ l i1 hlm; unfold bZ at hs; omega
    obtain ⟨ade8, cse8, hAe8, hKe8, hce8⟩ := eD hC i1 hlm
    have hle8 := bG hKe8
    have hoe8 := dK hKe8
    obtain ⟨Aade8_1, cade8_1, rfl, hlade8_1, hCade8_1⟩ := dP hKe8
    obtain ⟨At, hAt, hCt⟩ : ∃ At : Option Addr, (if c = 0 then A else (A).map (·.add (0 * 2))) = At ∧ C aO w At (l.take i1) := ⟨_, rfl, C_take hC⟩
    have hti : (l.take i1).length = i1 := List.length_take_of_le kO
    refine wp_skip ?_
    refine aH ?_
    refine wp_seq ?_
    refine wp_block ?_
    refine wp_seq ?_
    refine aI [0, 1, 2, 3, 4, 5] rfl ?_
    refine aA ?_
    refine aB rfl (aC rfl) rfl rfl ?_
    refine aA ?_
    refine aB rfl (bW (k := i1) Try.runUnderlying46 Try.sizeOf56 rfl rfl hAe8 hlm) rfl rfl ?_
    refine aA ?_
    refine aB rfl (eF Try.isAgg56 Try.sizeOf56 rfl (Cat.upd hce8 H6.1) rfl) rfl rfl ?_
    refine aA ?_
    refine dD rfl Try.zeroValue56 rfl rfl H6 ?_
    intro g_5_3 W9 hu10 Ha11; clear H6; clear hu10
    refine aA ?_
    refine aB rfl (aG rfl) rfl rfl ?_
    refine aA ?_
    refine aU rfl Try.sizeOf56 rfl rfl rfl rfl kS Ha11 ?_
    intro W13 hu14 Ha15; clear Ha11; clear hu14
    refine aF ?_
    refine aH ?_
    refine wp_seq ?_
    by_cases hg17 : (eP l[i1]) = true
    ·by_cases hg18 : (0 : Int) ≤ (fidx (scEq (l[i1].Name)) 0 (l.take i1))
     ·refine dF (fun W' => Blk W' g_5_3 56 #[.string (l[i1].Name), .slice Aade8_1 (l[i1].Methods.length) cade8_1]) 12 kR ?_
      have H19 := Ha15.drew; clear Ha15
      have hS20 : Blk W13.drew g_5_3 56 #[.string (l[i1].Name), .slice Aade8_1 (l[i1].Methods.length) cade8_1] := H19.blk 0 rfl
      refine aP (i := 0) rfl kR kR kR kR kR (fun _ _ _ h => h) rfl rfl hS20 (fun W' hs' => bL Try.isAgg56 Try.sizeOf56 rfl hs' rfl) ?_
      refine bH (i := 1) kR ?_
      refine aK rfl Try.call74 (vs := #[.agg #[.string (l[i1].Name), .slice Aade8_1 (l[i1].Methods.length) cade8_1]]) rfl rfl rfl (bI (isScript_i (l[i1]) _ _ (gH _ (l[i1]) hlade8_1 (dW H19.1 hCade8_1)) hmi) hg17) ?_
      rintro e23 W22 ⟨rfl, hu21⟩; refine ⟨_, rfl, ?_⟩
      have H24 := H19.no hu21; clear H19
      have hS25 := H24.blk 0 rfl; refine ⟨fun _ => hS25, ?_⟩
      refine aP (i := 2) rfl kR kR kR kR kR (fun _ _ _ h => h) rfl rfl hS25 (fun W' hs' => eX rfl) ?_
      refine aP (i := 3) rfl kR kR kR kR kR (fun _ _ _ h => h) rfl rfl hS25 (fun W' hs' => aC rfl) ?_
      refine bK (i := 4) rfl rfl rfl rfl kR kR kR kR kR (fun _ _ _ h => h) rfl rfl hS25 (fun W' hs' => aC rfl) ?_
      refine bK (i := 5) rfl rfl rfl rfl kR kR kR kR kR (fun _ _ _ h => h) rfl rfl hS25 (fun W' hs' => aC rfl) ?_
      refine bK (i := 6) rfl rfl rfl rfl kR kR kR kR kR (fun _ _ _ h => h) rfl rfl hS25 (fun W' hs' => rn_sliceH (k := i1) Try.underlying46 Try.sizeOf56 rfl rfl kO hAt) ?_
      refine bK (i := 7) rfl rfl rfl rfl kR kR kR kR kR (fun _ _ _ h => h) rfl rfl hS25 (fun W' hs' => aN gN rfl) ?_
      refine bK (i := 8) rfl rfl rfl rfl kR kR kR kR kR (fun _ _ _ h => h) rfl rfl hS25 (fun W' hs' => aS (k := 0) (v := .string (l[i1].Name)) Try.isAgg9 rfl hs' rfl) ?_
      refine bH (i := 9) kR ?_
      refine aT rfl rfl rfl rfl (fun _ ho26 => ?_)
      have hq28 := findScript_i (l.take i1) (l[i1].Name) _ c _ (dW H24.1 hCt)
      rw [hti] at hq28
      refine aK ho26 Try.call114 (vs := #[.slice At i1 c, .string (l[i1].Name)]) rfl rfl rfl (hq28) ?_
      rintro e30 W29 ⟨rfl, hu27⟩; refine ⟨_, rfl, ?_⟩
      have H31 := H24.no hu27; clear H24
      have hS32 := H31.blk 0 rfl; refine ⟨fun _ => hS32, ?_⟩
      refine bK (i := 10) rfl rfl rfl rfl kR kR kR kR kR (fun _ _ _ h => h) rfl rfl hS32 (fun W' hs' => bQ hg18 (rn_geq rfl rfl)) ?_
      refine aP (i := 11) rfl kR kR kR kR kR (fun _ _ _ h => h) rfl rfl hS32 (fun W' hs' => aJ (v := .bool (true)) (b := false) rfl rfl rfl rfl) ?_
      refine dA kR ?_ _
      refine aH ?_
      refine fI rfl ?_
      refine wp_seq ?_
      refine aI [0] rfl ?_
      refine aA ?_
      refine aB rfl (aG rfl) rfl rfl ?_
      refine aF ?_
      refine aH ?_
      refine wp_ret ?_
      refine aY ?_
      refine aR ?_
      refine aR ?_
      refine aY ?_
      refine aR ?_
      refine aM (.inl rfl) Try.results72 rfl ?_
      have hr : libB l = false := by rw [libB, hf1, gX (okS l) (List.range l.length) i1 hlt1 (by rw [rgn, okS_at _ _ hlm, ← (fidx_any (scEq l[i1].Name) (l.take i1) 0 (Int.le_refl 0)), decide_eq_true hg18, Bool.not_true, Bool.and_false]), Bool.and_false]
      rw [hr]
      exact ⟨rfl, H31.1⟩
     ·refine dF (fun W' => Blk W' g_5_3 56 #[.string (l[i1].Name), .slice Aade8_1 (l[i1].Methods.length) cade8_1]) 12 kR ?_
      have H33 := Ha15.drew; clear Ha15
      have hS34 : Blk W13.drew g_5_3 56 #[.string (l[i1].Name), .slice Aade8_1 (l[i1].Methods.length) cade8_1] := H33.blk 0 rfl
      refine aP (i := 0) rfl kR kR kR kR kR (fun _ _ _ h => h) rfl rfl hS34 (fun W' hs' => bL Try.isAgg56 Try.sizeOf56 rfl hs' rfl) ?_
      refine bH (i := 1) kR ?_
      refine aK rfl Try.call74 (vs := #[.agg #[.string (l[i1].Name), .slice Aade8_1 (l[i1].Methods.length) cade8_1]]) rfl rfl rfl (bI (isScript_i (l[i1]) _ _ (gH _ (l[i1]) hlade8_1 (dW H33.1 hCade8_1)) hmi) hg17) ?_
      rintro e37 W36 ⟨rfl, hu35⟩; refine ⟨_, rfl, ?_⟩
      have H38 := H33.no hu35; clear H33
      have hS39 := H38.blk 0 rfl; refine ⟨fun _ => hS39, ?_⟩
      refine aP (i := 2) rfl kR kR kR kR kR (fun _ _ _ h => h) rfl rfl hS39 (fun W' hs' => eX rfl) ?_
      refine aP (i := 3) rfl kR kR kR kR kR (fun _ _ _ h => h) rfl rfl hS39 (fun W' hs' => aC rfl) ?_
      refine bK (i := 4) rfl rfl rfl rfl kR kR kR kR kR (fun _ _ _ h => h) rfl rfl hS39 (fun W' hs' => aC rfl) ?_
      refine bK (i := 5) rfl rfl rfl rfl kR kR kR kR kR (fun _ _ _ h => h) rfl rfl hS39 (fun W' hs' => aC rfl) ?_
      refine bK (i := 6) rfl rfl rfl rfl kR kR kR kR kR (fun _ _ _ h => h) rfl rfl hS39 (fun W' hs' => rn_sliceH (k := i1) Try.underlying46 Try.sizeOf56 rfl rfl kO hAt) ?_
      refine bK (i := 7) rfl rfl rfl rfl kR kR kR kR kR (fun _ _ _ h => h) rfl rfl hS39 (fun W' hs' => aN gN rfl) ?_
      refine bK (i := 8) rfl rfl rfl rfl kR kR kR kR kR (fun _ _ _ h => h) rfl rfl hS39 (fun W' hs' => aS (k := 0) (v := .string (l[i1].Name)) Try.isAgg9 rfl hs' rfl) ?_
      refine bH (i := 9) kR ?_
      refine aT rfl rfl rfl rfl (fun _ ho40 => ?_)
      have hq42 := findScript_i (l.take i1) (l[i1].Name) _ c _ (dW H38.1 hCt)
      rw [hti] at hq42
      refine aK ho40 Try.call114 (vs := #[.slice At i1 c, .string (l[i1].Name)]) rfl rfl rfl (hq42) ?_
      rintro e44 W43 ⟨rfl, hu41⟩; refine ⟨_, rfl, ?_⟩
      have H45 := H38.no hu41; clear H38
      have hS46 := H45.blk 0 rfl; refine ⟨fun _ => hS46, ?_⟩
      refine bK (i := 10) rfl rfl rfl rfl kR kR kR kR kR (fun _ _ _ h => h) rfl rfl hS46 (fun W' hs' => bS hg18 (rn_geq rfl rfl)) ?_
      refine aP (i := 11) rfl kR kR kR kR kR (fun _ _ _ h => h) rfl rfl hS46 (fun W' hs' => aJ (v := .bool (false)) (b := false) rfl rfl rfl rfl) ?_
      refine dA kR ?_ _
      refine aH ?_
      refine gI rfl ?_
      refine wp_skip ?_
      refine dR ?_
      refine aH ?_
      refine aI [0, 1] rfl ?_
      refine aA ?_
      refine aB rfl (fJ (k := i1) rfl rfl kO) rfl rfl ?_
      refine aA ?_
      refine aB rfl (aC rfl) rfl rfl ?_
      refine aF ?_
      refine aH ?_
      exact (bJ [(0, .slice A l.length c), (8, .slice A l.length c), (9, .int .i64 ((l.length : Nat))), (10, .int .i64 (((i1 + 1 : Nat) : Int)))] rfl).elim fun x' hx => ⟨r3 - 1, kO, i1 + 1, x', hx, kO, (hf1.trans (all_yes (okS l) (List.range l.length) i1 hlt1 (by rw [rgn, okS_at _ _ hlm, hg17, ← (fidx_any (scEq l[i1].Name) (l.take i1) 0 (Int.le_refl 0)), decide_eq_false hg18]; rfl))), H45.pick [] kD rfl⟩
    ·refine dF (fun W' => Blk W' g_5_3 56 #[.string (l[i1].Name), .slice Aade8_1 (l[i1].Methods.length) cade8_1]) 12 kR ?_
     have H47 := Ha15.drew; clear Ha15
     have hS48 : Blk W13.drew g_5_3 56 #[.string (l[i1].Name), .slice Aade8_1 (l[i1].Methods.length) cade8_1] := H47.blk 0 rfl
     refine aP (i := 0) rfl kR kR kR kR kR (fun _ _ _ h => h) rfl rfl hS48 (fun W' hs' => bL Try.isAgg56 Try.sizeOf56 rfl hs' rfl) ?_
     refine bH (i := 1) kR ?_
     refine aK rfl Try.call74 (vs := #[.agg #[.string (l[i1].Name), .slice Aade8_1 (l[i1].Methods.length) cade8_1]]) rfl rfl rfl (bI (isScript_i (l[i1]) _ _ (gH _ (l[i1]) hlade8_1 (dW H47.1 hCade8_1)) hmi) (eq_false_of_ne_true hg17)) ?_
     rintro e51 W50 ⟨rfl, hu49⟩; refine ⟨_, rfl, ?_⟩
     have H52 := H47.no hu49; clear H47
     have hS53 := H52.blk 0 rfl; refine ⟨fun _ => hS53, ?_⟩
     refine aP (i := 2) rfl kR kR kR kR kR (fun _ _ _ h => h) rfl rfl hS53 (fun W' hs' => eX rfl) ?_
     refine aP (i := 3) rfl kR kR kR kR kR (fun _ _ _ h => h) rfl rfl hS53 (fun W' hs' => aC rfl) ?_
     refine eO (i := 4) rfl rfl rfl rfl rfl kR kR kR kR kR (fun _ _ _ h => h) rfl rfl hS53 ?_
     refine eO (i := 5) rfl rfl rfl rfl rfl kR kR kR kR kR (fun _ _ _ h => h) rfl rfl hS53 ?_
     refine eO (i := 6) rfl rfl rfl rfl rfl kR kR kR kR kR (fun _ _ _ h => h) rfl rfl hS53 ?_
     refine eO (i := 7) rfl rfl rfl rfl rfl kR kR kR kR kR (fun _ _ _ h => h) rfl rfl hS53 ?_
     refine eO (i := 8) rfl rfl rfl rfl rfl kR kR kR kR kR (fun _ _ _ h => h) rfl rfl hS53 ?_
     refine eO (i := 9) rfl rfl rfl rfl rfl kR kR kR kR kR (fun _ _ _ h => h) rfl rfl hS53 ?_
     refine eO (i := 10) rfl rfl rfl rfl rfl kR kR kR kR kR (fun _ _ _ h => h) rfl rfl hS53 ?_
     refine aP (i := 11) rfl kR kR kR kR kR (fun _ _ _ h => h) rfl rfl hS53 (fun W' hs' => aJ (v := .bool (true)) (b := true) rfl rfl rfl rfl) ?_
     refine dA kR ?_ _
     refine aH ?_
     refine fI rfl ?_
     refine wp_seq ?_
     refine aI [0] rfl ?_
     refine aA ?_
     refine aB rfl (aG rfl) rfl rfl ?_
     refine aF ?_
     refine aH ?_
     refine wp_ret ?_
     refine aY ?_
     refine aR ?_
     refine aR ?_
     refine aY ?_
     refine aR ?_
     refine aM (.inl rfl) Try.results72 rfl ?_
     have hr : libB l = false := by rw [libB, hf1, gX (okS l) (List.range l.length) i1 hlt1 (by rw [rgn, okS_at _ _ hlm, eq_false_of_ne_true hg17]; rfl), Bool.and_false]
     rw [hr]
     exact ⟨rfl, H52.1⟩
   ·have hge1 : (List.range l.length).length ≤ i1 := by omega
    refine wp_exit ?_
    refine dH ?_
    refine dH ?_
    refine inB_x ?_
    refine aH ?_
    refine wp_seq ?_
    refine aI [0] rfl ?_
    refine aA ?_
    refine aB rfl (aG rfl) rfl rfl ?_
    refine aF ?_
    refine aH ?_
    refine wp_ret ?_
    refine aM (.inl rfl) Try.results72 rfl ?_
    have hr : libB l = true := by rw [libB, hf1, all_end (okS l) (List.range l.length) i1 hge1, decide_eq_true (show l.length ≤ 6 by omega)]; rfl
    rw [hr]
    exact ⟨rfl, H6.1⟩
theorem isLibrary_I (l : List GScript) (A : Option Addr) (c : Nat) (w : World) (hC : C aO w A l) (hlc : l.length ≤ c) (hs : bZ aZ l ≤ 1048576) : Calls Try.prog 27 #[.slice A l.length c] w (bY (libB l) w) := by
 refine enter 5 [(0, .slice A l.length c)] Try.func27 rfl kR ?_
 intro xj
 have H1 : St w No [] w := St.enter
 refine wp_seq ?_
 refine aI [0] rfl ?_
 refine aA ?_
 refine aB rfl (aG rfl) rfl rfl ?_
 refine aF ?_
 refine aH ?_
 refine wp_seq ?_
 refine aI [0, 1, 2] rfl ?_
 refine aA ?_
 refine aB rfl (aC rfl) rfl rfl ?_
 refine aA ?_
 refine aK rfl Try.call72 (vs := #[.slice A l.length c]) rfl rfl rfl (isLibrary_i l _ _ _ (dW H1.1 hC) hlc hs) ?_
 rintro e4 W3 ⟨rfl, hu2⟩; refine ⟨_, rfl, ?_⟩
 have H5 := H1.no hu2; clear H1
 refine aA ?_
 refine aB rfl (aG rfl) rfl rfl ?_
 refine aF ?_
 refine aH ?_
 refine wp_ret ?_
 refine aM (.inl rfl) Try.results27 rfl ?_
 exact ⟨rfl, H5.1⟩
theorem wrap_small {p : Int} (h1 : -9223372036854775808 ≤ p) (h2 : p ≤ 9223372036854775807) : IntKind.i64.wrap p = p := by
 simp [IntKind.wrap, IntKind.signed, IntKind.bits]
 omega
theorem eZ {s : ByteArray} {l : List ByteArray} {k : Nat} (h : s ∈ l) (hl : l.all (fun z => decide (z.size ≤ k)) = true) : s.size ≤ k := of_decide_eq_true (List.all_eq_true.1 hl s h)
theorem fa_157_0 : fM Try.prog 157 0 0 := fun a W => by simp [Instr.fieldAt, Try.runUnderlying157, Instr.sureAddr, fieldPlace, Try.sizeOf22]
theorem fa_157_1 : fM Try.prog 157 1 1 := fun a W => by simp [Instr.fieldAt, Try.runUnderlying157, Instr.sureAddr, fieldPlace, Try.sizeOf3]
theorem fa_157_2 : fM Try.prog 157 2 2 := fun a W => by simp [Instr.fieldAt, Try.runUnderlying157, Instr.sureAddr, fieldPlace, Try.sizeOf3]
theorem byte_s  (bs : List Int) (gc cb : Nat) (A : Option Addr) (F0 : Nat → Prop) (w : World) (hV : CV A bs F0 w) (hn : bs.length ≤ 1048576) (h : Star [aV gc 157 A bs.length cb] w F0) : Calls Try.prog 102 #[.pointer (some ⟨gc, 0, none⟩)] w (fun e' w' => ∃ r : Int, e' = .returned (.int .i64 r) ∧ (0 ≤ r ∧ r ≤ 255) ∧ St w F0 [aV gc 157 A bs.length cb] w') := by
 refine enter 58 [(0, .pointer (some ⟨gc, 0, none⟩))] Try.func102 rfl kR ?_
 intro xj
 obtain ⟨ci, ch, hci, H0⟩ := St.openCur (St.enterF h)
 have H1 : St w F0 [hB gc 157 #[.slice A bs.length cb, .int .i64 (((ci : Nat) : Int)), .int .i64 (ch)]] w := H0
 refine wp_seq ?_
 refine aI [0] rfl ?_
 refine aA ?_
 refine aB rfl (aG rfl) rfl rfl ?_
 refine aF ?_
 refine aH ?_
 refine wp_seq ?_
 refine aI [0, 1, 2, 3, 4, 5, 6, 7, 8, 9] rfl ?_
 refine aA ?_
 refine aB rfl (aC rfl) rfl rfl ?_
 refine aA ?_
 refine aB rfl (aC rfl) rfl rfl ?_
 refine aA ?_
 refine aB rfl (d9 rfl) rfl rfl ?_
 refine aA ?_
 refine aB rfl (aN fa_157_2 rfl) rfl rfl ?_
 refine aA ?_
 refine aB rfl (aS (k := 2) (v := .int .i64 (ch)) Try.isAgg3 rfl (H1.blk 0 rfl) rfl) rfl rfl ?_
 refine aA ?_
 refine aB rfl (rn_mulW rfl rfl) rfl rfl ?_
 refine aA ?_
 refine aB rfl (rn_addW rfl rfl) rfl rfl ?_
 refine aA ?_
 refine aB rfl (d9 rfl) rfl rfl ?_
 refine aA ?_
 refine aB rfl (aN fa_157_2 rfl) rfl rfl ?_
 refine aA ?_
 refine fQ rfl Try.sizeOf3 rfl rfl rfl (Nat.le_of_ble_eq_true rfl) (by simp [Value.cells, Value.oneCell']) H1 ?_
 intro W2 hu3 Ha4; clear H1; clear hu3
 refine aF ?_
 refine aH ?_
 refine wp_seq ?_
 refine dF (fun W' => Blk W' gc 157 #[.slice A bs.length cb, .int .i64 (((ci : Nat) : Int)), .int .i64 (IntKind.i64.wrap ((IntKind.i64.wrap (ch * 6364136223846793005)) + 1442695040888963407))]) 13 kR ?_
 have H6 := Ha4.drew; clear Ha4
 have hS7 : Blk W2.drew gc 157 #[.slice A bs.length cb, .int .i64 (((ci : Nat) : Int)), .int .i64 (IntKind.i64.wrap ((IntKind.i64.wrap (ch * 6364136223846793005)) + 1442695040888963407))] := H6.blk 0 rfl
 refine aP (i := 0) rfl kR kR kR kR kR (fun _ _ _ h => h) rfl rfl hS7 (fun W' hs' => aC rfl) ?_
 refine aP (i := 1) rfl kR kR kR kR kR (fun _ _ _ h => h) rfl rfl hS7 (fun W' hs' => d9 rfl) ?_
 refine aP (i := 2) rfl kR kR kR kR kR (fun _ _ _ h => h) rfl rfl hS7 (fun W' hs' => aN fa_157_2 rfl) ?_
 refine aP (i := 3) rfl kR kR kR kR kR (fun _ _ _ h => h) rfl rfl hS7 (fun W' hs' => aS (k := 2) (v := .int .i64 (IntKind.i64.wrap ((IntKind.i64.wrap (ch * 6364136223846793005)) + 1442695040888963407))) Try.isAgg3 rfl hs' rfl) ?_
 refine aP (i := 4) rfl kR kR kR kR kR (fun _ _ _ h => h) rfl rfl hS7 (fun W' hs' => rn_shrV rfl rfl kD) ?_
 refine aP (i := 5) rfl kR kR kR kR kR (fun _ _ _ h => h) rfl rfl hS7 (fun W' hs' => aC rfl) ?_
 refine aP (i := 6) rfl kR kR kR kR kR (fun _ _ _ h => h) rfl rfl hS7 (fun W' hs' => d9 rfl) ?_
 refine aP (i := 7) rfl kR kR kR kR kR (fun _ _ _ h => h) rfl rfl hS7 (fun W' hs' => aN fa_157_2 rfl) ?_
 refine aP (i := 8) rfl kR kR kR kR kR (fun _ _ _ h => h) rfl rfl hS7 (fun W' hs' => aS (k := 2) (v := .int .i64 (IntKind.i64.wrap ((IntKind.i64.wrap (ch * 6364136223846793005)) + 1442695040888963407))) Try.isAgg3 rfl hs' rfl) ?_
 refine aP (i := 9) rfl kR kR kR kR kR (fun _ _ _ h => h) rfl rfl hS7 (fun W' hs' => rn_shrV rfl rfl kD) ?_
 refine aP (i := 10) rfl kR kR kR kR kR (fun _ _ _ h => h) rfl rfl hS7 (fun W' hs' => rn_xorV rfl rfl) ?_
 refine aP (i := 11) rfl kR kR kR kR kR (fun _ _ _ h => h) rfl rfl hS7 (fun W' hs' => rn_andV rfl rfl) ?_
 refine aP (i := 12) rfl kR kR kR kR kR (fun _ _ _ h => h) rfl rfl hS7 (fun W' hs' => aG rfl) ?_
 refine dA kR ?_ _
 refine aH ?_
 refine wp_seq ?_
 refine wp_seq ?_
 refine dF (fun W' => Blk W' gc 157 #[.slice A bs.length cb, .int .i64 (((ci : Nat) : Int)), .int .i64 (IntKind.i64.wrap ((IntKind.i64.wrap (ch * 6364136223846793005)) + 1442695040888963407))]) 10 kR ?_
 have H8 := H6.drew; clear H6
 have hS9 : Blk W2.drew.drew gc 157 #[.slice A bs.length cb, .int .i64 (((ci : Nat) : Int)), .int .i64 (IntKind.i64.wrap ((IntKind.i64.wrap (ch * 6364136223846793005)) + 1442695040888963407))] := H8.blk 0 rfl
 refine aP (i := 0) rfl kR kR kR kR kR (fun _ _ _ h => h) rfl rfl hS9 (fun W' hs' => aC rfl) ?_
 refine aP (i := 1) rfl kR kR kR kR kR (fun _ _ _ h => h) rfl rfl hS9 (fun W' hs' => d9 rfl) ?_
 refine aP (i := 2) rfl kR kR kR kR kR (fun _ _ _ h => h) rfl rfl hS9 (fun W' hs' => aN fa_157_1 rfl) ?_
 refine aP (i := 3) rfl kR kR kR kR kR (fun _ _ _ h => h) rfl rfl hS9 (fun W' hs' => aS (k := 1) (v := .int .i64 (((ci : Nat) : Int))) Try.isAgg3 rfl hs' rfl) ?_
 refine aP (i := 4) rfl kR kR kR kR kR (fun _ _ _ h => h) rfl rfl hS9 (fun W' hs' => aC rfl) ?_
 refine aP (i := 5) rfl kR kR kR kR kR (fun _ _ _ h => h) rfl rfl hS9 (fun W' hs' => d9 rfl) ?_
 refine aP (i := 6) rfl kR kR kR kR kR (fun _ _ _ h => h) rfl rfl hS9 (fun W' hs' => aN fa_157_0 rfl) ?_
 refine aP (i := 7) rfl kR kR kR kR kR (fun _ _ _ h => h) rfl rfl hS9 (fun W' hs' => aS (k := 0) (v := .slice A bs.length cb) Try.isAgg22 rfl hs' rfl) ?_
 refine aP (i := 8) rfl kR kR kR kR kR (fun _ _ _ h => h) rfl rfl hS9 (fun W' hs' => dG Try.runUnderlying22 rfl) ?_
 refine aP (i := 9) rfl kR kR kR kR kR (fun _ _ _ h => h) rfl rfl hS9 (fun W' hs' => eY rfl rfl) ?_
 refine dA kR ?_ _
 refine aH ?_
 refine aW rfl (fun hc10 => ?_) (fun hc10 => ?_)
 ·refine wp_seq ?_
  have hlt : ci < bs.length := by omega
  obtain ⟨ade, cse, hAe, hKe, hce⟩ := eD (hV _ H8.1) ci hlt
  obtain rfl : cse = [.int .u8 bs[ci]] := hKe
  refine dF (fun W' => Blk W' gc 157 #[.slice A bs.length cb, .int .i64 (((ci : Nat) : Int)), .int .i64 (IntKind.i64.wrap ((IntKind.i64.wrap (ch * 6364136223846793005)) + 1442695040888963407))] ∧ Cat W' (Addr.add ade (ci * 1)) [.int .u8 bs[ci]]) 15 kR ?_
  have H11 := H8.drew; clear H8
  have hS12 : Blk W2.drew.drew.drew gc 157 #[.slice A bs.length cb, .int .i64 (((ci : Nat) : Int)), .int .i64 (IntKind.i64.wrap ((IntKind.i64.wrap (ch * 6364136223846793005)) + 1442695040888963407))] ∧ Cat W2.drew.drew.drew (Addr.add ade (ci * 1)) [.int .u8 bs[ci]] := ⟨H11.blk 0 rfl, hce⟩
  refine aP (i := 0) rfl kR kR kR kR kR (fun _ _ _ h => h) rfl rfl hS12 (fun W' hs' => aC rfl) ?_
  refine aP (i := 1) rfl kR kR kR kR kR (fun _ _ _ h => h) rfl rfl hS12 (fun W' hs' => aC rfl) ?_
  refine aP (i := 2) rfl kR kR kR kR kR (fun _ _ _ h => h) rfl rfl hS12 (fun W' hs' => d9 rfl) ?_
  refine aP (i := 3) rfl kR kR kR kR kR (fun _ _ _ h => h) rfl rfl hS12 (fun W' hs' => aN fa_157_0 rfl) ?_
  refine aP (i := 4) rfl kR kR kR kR kR (fun _ _ _ h => h) rfl rfl hS12 (fun W' hs' => aS (k := 0) (v := .slice A bs.length cb) Try.isAgg22 rfl hs'.1 rfl) ?_
  refine aP (i := 5) rfl kR kR kR kR kR (fun _ _ _ h => h) rfl rfl hS12 (fun W' hs' => aC rfl) ?_
  refine aP (i := 6) rfl kR kR kR kR kR (fun _ _ _ h => h) rfl rfl hS12 (fun W' hs' => d9 rfl) ?_
  refine aP (i := 7) rfl kR kR kR kR kR (fun _ _ _ h => h) rfl rfl hS12 (fun W' hs' => aN fa_157_1 rfl) ?_
  refine aP (i := 8) rfl kR kR kR kR kR (fun _ _ _ h => h) rfl rfl hS12 (fun W' hs' => aS (k := 1) (v := .int .i64 (((ci : Nat) : Int))) Try.isAgg3 rfl hs'.1 rfl) ?_
  refine aP (i := 9) rfl kR kR kR kR kR (fun _ _ _ h => h) rfl rfl hS12 (fun W' hs' => bW (k := ci) Try.runUnderlying22 Try.sizeOf5 rfl rfl hAe hlt) ?_
  refine aP (i := 10) rfl kR kR kR kR kR (fun _ _ _ h => h) rfl rfl hS12 (fun W' hs' => iB (v := .int .u8 bs[ci]) Try.isAgg5 rfl (Cat.cell0 hs'.2 rfl)) ?_
  refine aP (i := 11) rfl kR kR kR kR kR (fun _ _ _ h => h) rfl rfl hS12 (fun W' hs' => rn_conv8 (by rw [Try.underlying5]; rfl) Try.underlying3 rfl) ?_
  refine aP (i := 12) rfl kR kR kR kR kR (fun _ _ _ h => h) rfl rfl hS12 (fun W' hs' => rn_addW rfl rfl) ?_
  refine aP (i := 13) rfl kR kR kR kR kR (fun _ _ _ h => h) rfl rfl hS12 (fun W' hs' => rn_andV rfl rfl) ?_
  refine aP (i := 14) rfl kR kR kR kR kR (fun _ _ _ h => h) rfl rfl hS12 (fun W' hs' => aG rfl) ?_
  refine dA kR ?_ _
  refine aH ?_
  refine aI [0, 1, 2, 3, 4, 5, 6, 7, 8] rfl ?_
  refine aA ?_
  refine aB rfl (aC rfl) rfl rfl ?_
  refine aA ?_
  refine aB rfl (aC rfl) rfl rfl ?_
  refine aA ?_
  refine aB rfl (d9 rfl) rfl rfl ?_
  refine aA ?_
  refine aB rfl (aN fa_157_1 rfl) rfl rfl ?_
  refine aA ?_
  refine aB rfl (aS (k := 1) (v := .int .i64 (((ci : Nat) : Int))) Try.isAgg3 rfl (H11.blk 0 rfl) rfl) rfl rfl ?_
  refine aA ?_
  refine aB rfl (fJ (k := ci) rfl rfl kO) rfl rfl ?_
  refine aA ?_
  refine aB rfl (d9 rfl) rfl rfl ?_
  refine aA ?_
  refine aB rfl (aN fa_157_1 rfl) rfl rfl ?_
  refine aA ?_
  refine fQ rfl Try.sizeOf3 rfl rfl rfl (Nat.le_of_ble_eq_true rfl) (by simp [Value.cells, Value.oneCell']) H11 ?_
  intro W13 hu14 Ha15; clear H11; clear hu14
  refine aF ?_
  refine aH ?_
  refine wp_seq ?_
  refine aI [0, 1] rfl ?_
  refine aA ?_
  refine aB rfl (aC rfl) rfl rfl ?_
  refine aA ?_
  refine aB rfl (aG rfl) rfl rfl ?_
  refine aF ?_
  refine aH ?_
  refine wp_ret ?_
  refine aM (.inl rfl) Try.results102 rfl ?_
  exact ⟨_, rfl, and255 _, St.closeCur (Ha15.pick [0] kD rfl) kO⟩
 ·refine wp_skip ?_
  refine aH ?_
  refine wp_seq ?_
  refine aI [0, 1] rfl ?_
  refine aA ?_
  refine aB rfl (aC rfl) rfl rfl ?_
  refine aA ?_
  refine aB rfl (aG rfl) rfl rfl ?_
  refine aF ?_
  refine aH ?_
  refine wp_ret ?_
  refine aM (.inl rfl) Try.results102 rfl ?_
  exact ⟨_, rfl, and255 _, St.closeCur (H8.pick [0] kD rfl) kO⟩
theorem cB (n : Int) (bs : List Int) (gc cb : Nat) (A : Option Addr) (F0 : Nat → Prop) (w : World) (hV : CV A bs F0 w) (hn : bs.length ≤ 1048576) (h : Star [aV gc 157 A bs.length cb] w F0) : Calls Try.prog 44 #[.pointer (some ⟨gc, 0, none⟩), .int .i64 n] w (fun e' w' => ∃ r : Int, e' = .returned (.int .i64 r) ∧ (0 ≤ r ∧ (0 < n → r < n)) ∧ St w F0 [aV gc 157 A bs.length cb] w') := by
 refine enter 31 [(0, .pointer (some ⟨gc, 0, none⟩)), (1, .int .i64 (n))] Try.func44 rfl kR ?_
 intro xj
 have H1 : St w F0 [aV gc 157 A bs.length cb] w := St.enterF h
 refine wp_seq ?_
 refine aI [0] rfl ?_
 refine aA ?_
 refine aB rfl (aG rfl) rfl rfl ?_
 refine aF ?_
 refine aH ?_
 refine wp_seq ?_
 refine wp_seq ?_
 refine aI [0, 1] rfl ?_
 refine aA ?_
 refine aB rfl (aC rfl) rfl rfl ?_
 refine aA ?_
 refine aB rfl (gF rfl rfl) rfl rfl ?_
 refine aF ?_
 refine aH ?_
 refine aW rfl (fun hc2 => ?_) (fun hc2 => ?_)
 ·refine wp_seq ?_
  refine aI [0] rfl ?_
  refine aA ?_
  refine aB rfl (aG rfl) rfl rfl ?_
  refine aF ?_
  refine aH ?_
  refine wp_ret ?_
  refine aR ?_
  refine aM (.inl rfl) Try.results44 rfl ?_
  exact ⟨_, rfl, ⟨by omega, by omega⟩, H1.pick [0] kD rfl⟩
 ·refine wp_skip ?_
  refine aH ?_
  refine wp_seq ?_
  refine wp_seq ?_
  refine aI [0, 1] rfl ?_
  refine aA ?_
  refine aB rfl (aC rfl) rfl rfl ?_
  refine aA ?_
  refine aB rfl (gF rfl rfl) rfl rfl ?_
  refine aF ?_
  refine aH ?_
  refine aW rfl (fun hc3 => ?_) (fun hc3 => ?_)
  ·refine wp_seq ?_
   refine aI [0, 1, 2, 3, 4] rfl ?_
   refine aA ?_
   refine aB rfl (aC rfl) rfl rfl ?_
   refine aA ?_
   obtain ⟨F6, hs7, hF8, hfr9⟩ := St.frame (l0 := [aV gc 157 A bs.length cb]) (l := []) H1
   refine aK rfl Try.call102 (vs := #[.pointer (some ⟨gc, 0, none⟩)]) rfl rfl rfl (byte_s _ _ _ _ _ _ (CV.step hV H1.1 hF8) hn hs7) ?_
   rintro e12 W11 ⟨q4, rfl, hq5, Hn10⟩; refine ⟨_, rfl, ?_⟩
   have H13 := hfr9 _ _ Hn10; clear H1
   refine aA ?_
   refine aB rfl (aC rfl) rfl rfl ?_
   refine aA ?_
   refine aB rfl (rn_rem rfl rfl kO) rfl rfl ?_
   refine aA ?_
   refine aB rfl (aG rfl) rfl rfl ?_
   refine aF ?_
   refine aH ?_
   refine wp_ret ?_
   refine aR ?_
   refine aM (.inl rfl) Try.results44 rfl ?_
   have htm := tmod_bd q4 n kO kO
   exact ⟨_, rfl, ⟨htm.1, fun _ => htm.2⟩, H13.pick [0] kD rfl⟩
  ·refine wp_skip ?_
   refine aH ?_
   refine wp_seq ?_
   refine aI [0, 1, 2] rfl ?_
   refine aA ?_
   refine aB rfl (aC rfl) rfl rfl ?_
   refine aA ?_
   obtain ⟨F16, hs17, hF18, hfr19⟩ := St.frame (l0 := [aV gc 157 A bs.length cb]) (l := []) H1
   refine aK rfl Try.call102 (vs := #[.pointer (some ⟨gc, 0, none⟩)]) rfl rfl rfl (byte_s _ _ _ _ _ _ (CV.step hV H1.1 hF18) hn hs17) ?_
   rintro e22 W21 ⟨q14, rfl, hq15, Hn20⟩; refine ⟨_, rfl, ?_⟩
   have H23 := hfr19 _ _ Hn20; clear H1
   refine aA ?_
   refine aB rfl (aG rfl) rfl rfl ?_
   refine aF ?_
   refine aH ?_
   refine wp_seq ?_
   refine aI [0, 1, 2] rfl ?_
   refine aA ?_
   refine aB rfl (aC rfl) rfl rfl ?_
   refine aA ?_
   obtain ⟨F26, hs27, hF28, hfr29⟩ := St.frame (l0 := [aV gc 157 A bs.length cb]) (l := []) H23
   refine aK rfl Try.call102 (vs := #[.pointer (some ⟨gc, 0, none⟩)]) rfl rfl rfl (byte_s _ _ _ _ _ _ (CV.step hV H23.1 hF28) hn hs27) ?_
   rintro e32 W31 ⟨q24, rfl, hq25, Hn30⟩; refine ⟨_, rfl, ?_⟩
   have H33 := hfr29 _ _ Hn30; clear H23
   refine aA ?_
   refine aB rfl (aG rfl) rfl rfl ?_
   refine aF ?_
   refine aH ?_
   refine wp_seq ?_
   refine aI [0, 1, 2] rfl ?_
   refine aA ?_
   refine aB rfl (aC rfl) rfl rfl ?_
   refine aA ?_
   obtain ⟨F36, hs37, hF38, hfr39⟩ := St.frame (l0 := [aV gc 157 A bs.length cb]) (l := []) H33
   refine aK rfl Try.call102 (vs := #[.pointer (some ⟨gc, 0, none⟩)]) rfl rfl rfl (byte_s _ _ _ _ _ _ (CV.step hV H33.1 hF38) hn hs37) ?_
   rintro e42 W41 ⟨q34, rfl, hq35, Hn40⟩; refine ⟨_, rfl, ?_⟩
   have H43 := hfr39 _ _ Hn40; clear H33
   refine aA ?_
   refine aB rfl (aG rfl) rfl rfl ?_
   refine aF ?_
   refine aH ?_
   refine wp_seq ?_
   refine aI [0, 1, 2, 3, 4, 5, 6, 7, 8, 9] rfl ?_
   refine aA ?_
   refine aB rfl (aC rfl) rfl rfl ?_
   refine aA ?_
   refine aB rfl (rn_int (wrap_small kO kO) (rn_mulW rfl rfl)) rfl rfl ?_
   refine aA ?_
   refine aB rfl (aC rfl) rfl rfl ?_
   refine aA ?_
   refine aB rfl (rn_int (wrap_small kO kO) (rn_mulW rfl rfl)) rfl rfl ?_
   refine aA ?_
   refine aB rfl (rn_add rfl rfl kO) rfl rfl ?_
   refine aA ?_
   refine aB rfl (aC rfl) rfl rfl ?_
   refine aA ?_
   refine aB rfl (rn_add rfl rfl kO) rfl rfl ?_
   refine aA ?_
   refine aB rfl (aC rfl) rfl rfl ?_
   refine aA ?_
   refine aB rfl (rn_rem rfl rfl kO) rfl rfl ?_
   refine aA ?_
   refine aB rfl (aG rfl) rfl rfl ?_
   refine aF ?_
   refine aH ?_
   refine wp_ret ?_
   refine aM (.inl rfl) Try.results44 rfl ?_
   have htm := tmod_bd (((q14 * 65536) + (q24 * 256)) + q34) n kO kO
   exact ⟨_, rfl, ⟨htm.1, fun _ => htm.2⟩, H43.pick [0] kD rfl⟩
theorem once_s (n : Int) (bs : List Int) (gc cb : Nat) (A : Option Addr) (F0 : Nat → Prop) (w : World) (hV : CV A bs F0 w) (hn : bs.length ≤ 1048576) (h : Star [aV gc 157 A bs.length cb] w F0) : Calls Try.prog 43 #[.pointer (some ⟨gc, 0, none⟩), .int .i64 n] w (fun e' w' => ∃ b : Bool, e' = .returned (.bool b) ∧ St w F0 [aV gc 157 A bs.length cb] w') := by
 refine enter 9 [(0, .pointer (some ⟨gc, 0, none⟩)), (1, .int .i64 (n))] Try.func43 rfl kR ?_
 intro xj
 have H1 : St w F0 [aV gc 157 A bs.length cb] w := St.enterF h
 refine wp_seq ?_
 refine aI [0] rfl ?_
 refine aA ?_
 refine aB rfl (aG rfl) rfl rfl ?_
 refine aF ?_
 refine aH ?_
 refine wp_seq ?_
 refine aI [0, 1, 2, 3, 4] rfl ?_
 refine aA ?_
 refine aB rfl (aC rfl) rfl rfl ?_
 refine aA ?_
 refine aB rfl (aC rfl) rfl rfl ?_
 refine aA ?_
 obtain ⟨F4, hs5, hF6, hfr7⟩ := St.frame (l0 := [aV gc 157 A bs.length cb]) (l := []) H1
 refine aK rfl Try.call44 (vs := #[.pointer (some ⟨gc, 0, none⟩), .int .i64 (n)]) rfl rfl rfl (cB n _ _ _ _ _ _ (CV.step hV H1.1 hF6) hn hs5) ?_
 rintro e10 W9 ⟨q2, rfl, hq3, Hn8⟩; refine ⟨_, rfl, ?_⟩
 have H11 := hfr7 _ _ Hn8; clear H1
 refine aA ?_
 refine aB rfl (bD rfl rfl) rfl rfl ?_
 refine aA ?_
 refine aB rfl (aG rfl) rfl rfl ?_
 refine aF ?_
 refine aH ?_
 refine wp_ret ?_
 refine aM (.inl rfl) Try.results43 rfl ?_
 exact ⟨_, rfl, H11.pick [0] kD rfl⟩
theorem gV (l : List ByteArray) (c : Nat) (B : Option Addr) (hl : 0 < l.length) (bs : List Int) (gc cb : Nat) (A : Option Addr) (F0 : Nat → Prop) (w : World) (hV : CV A bs F0 w) (hn : bs.length ≤ 1048576) (h : Star [aV gc 157 A bs.length cb, hR Kn.string 9 (.slice B l.length c) l] w F0) : Calls Try.prog 110 #[.pointer (some ⟨gc, 0, none⟩), .slice B l.length c] w (fun e' w' => ∃ s : ByteArray, e' = .returned (.string s) ∧ s ∈ l ∧ St w F0 [aV gc 157 A bs.length cb, hR Kn.string 9 (.slice B l.length c) l] w') := by
 refine enter 12 [(0, .pointer (some ⟨gc, 0, none⟩)), (1, .slice B l.length c)] Try.func110 rfl kR ?_
 intro xj
 have H1 : St w F0 [aV gc 157 A bs.length cb, hR Kn.string 9 (.slice B l.length c) l] w := St.enterF h
 refine wp_seq ?_
 refine aI [0] rfl ?_
 refine aA ?_
 refine aB rfl (aG rfl) rfl rfl ?_
 refine aF ?_
 refine aH ?_
 refine wp_seq ?_
 refine aI [0, 1, 2, 3, 4, 5, 6, 7] rfl ?_
 refine aA ?_
 refine aB rfl (aC rfl) rfl rfl ?_
 refine aA ?_
 refine aB rfl (aC rfl) rfl rfl ?_
 refine aA ?_
 refine aB rfl (aC rfl) rfl rfl ?_
 refine aA ?_
 refine aB rfl (dG Try.runUnderlying166 rfl) rfl rfl ?_
 refine aA ?_
 obtain ⟨F4, hs5, hF6, hfr7⟩ := St.frame (l0 := [aV gc 157 A bs.length cb]) (l := [hR Kn.string 9 (.slice B l.length c) l]) H1
 refine aK rfl Try.call44 (vs := #[.pointer (some ⟨gc, 0, none⟩), .int .i64 ((l.length : Nat))]) rfl rfl rfl (cB (l.length : Nat) _ _ _ _ _ _ (CV.step hV H1.1 hF6) hn hs5) ?_
 rintro e10 W9 ⟨q2, rfl, hq3, Hn8⟩; refine ⟨_, rfl, ?_⟩
 have H11 := hfr7 _ _ Hn8; clear H1
 obtain ⟨kq, rfl⟩ : ∃ kq : Nat, q2 = kq := ⟨q2.toNat, by omega⟩
 have hkq : kq < l.length := by omega
 obtain ⟨ade, cse, hAe, hKe, hce⟩ := eD (H11.rowC 1 rfl) kq hkq
 obtain rfl : cse = [.string (l[kq])] := hKe
 refine aA ?_
 refine aB rfl (bW (k := kq) Try.runUnderlying166 Try.sizeOf9 rfl rfl hAe hkq) rfl rfl ?_
 refine aA ?_
 refine aB rfl (iB (v := .string (l[kq])) Try.isAgg9 rfl (Cat.cell0 hce rfl)) rfl rfl ?_
 refine aA ?_
 refine aB rfl (aG rfl) rfl rfl ?_
 refine aF ?_
 refine aH ?_
 refine wp_ret ?_
 refine aM (.inl rfl) Try.results110 rfl ?_
 exact ⟨_, rfl, List.getElem_mem hkq, H11.pick [0, 1] kD rfl⟩
theorem int_s (l : List Int) (c : Nat) (B : Option Addr) (hl : 0 < l.length) (bs : List Int) (gc cb : Nat) (A : Option Addr) (F0 : Nat → Prop) (w : World) (hV : CV A bs F0 w) (hn : bs.length ≤ 1048576) (h : Star [aV gc 157 A bs.length cb, hR Kn.int 3 (.slice B l.length c) l] w F0) : Calls Try.prog 113 #[.pointer (some ⟨gc, 0, none⟩), .slice B l.length c] w (fun e' w' => ∃ s : Int, e' = .returned (.int .i64 s) ∧ s ∈ l ∧ St w F0 [aV gc 157 A bs.length cb, hR Kn.int 3 (.slice B l.length c) l] w') := by
 refine enter 12 [(0, .pointer (some ⟨gc, 0, none⟩)), (1, .slice B l.length c)] Try.func113 rfl kR ?_
 intro xj
 have H1 : St w F0 [aV gc 157 A bs.length cb, hR Kn.int 3 (.slice B l.length c) l] w := St.enterF h
 refine wp_seq ?_
 refine aI [0] rfl ?_
 refine aA ?_
 refine aB rfl (aG rfl) rfl rfl ?_
 refine aF ?_
 refine aH ?_
 refine wp_seq ?_
 refine aI [0, 1, 2, 3, 4, 5, 6, 7] rfl ?_
 refine aA ?_
 refine aB rfl (aC rfl) rfl rfl ?_
 refine aA ?_
 refine aB rfl (aC rfl) rfl rfl ?_
 refine aA ?_
 refine aB rfl (aC rfl) rfl rfl ?_
 refine aA ?_
 refine aB rfl (dG Try.runUnderlying82 rfl) rfl rfl ?_
 refine aA ?_
 obtain ⟨F4, hs5, hF6, hfr7⟩ := St.frame (l0 := [aV gc 157 A bs.length cb]) (l := [hR Kn.int 3 (.slice B l.length c) l]) H1
 refine aK rfl Try.call44 (vs := #[.pointer (some ⟨gc, 0, none⟩), .int .i64 ((l.length : Nat))]) rfl rfl rfl (cB (l.length : Nat) _ _ _ _ _ _ (CV.step hV H1.1 hF6) hn hs5) ?_
 rintro e10 W9 ⟨q2, rfl, hq3, Hn8⟩; refine ⟨_, rfl, ?_⟩
 have H11 := hfr7 _ _ Hn8; clear H1
 obtain ⟨kq, rfl⟩ : ∃ kq : Nat, q2 = kq := ⟨q2.toNat, by omega⟩
 have hkq : kq < l.length := by omega
 obtain ⟨ade, cse, hAe, hKe, hce⟩ := eD (H11.rowC 1 rfl) kq hkq
 obtain rfl : cse = [.int .i64 (l[kq])] := hKe
 refine aA ?_
 refine aB rfl (bW (k := kq) Try.runUnderlying82 Try.sizeOf3 rfl rfl hAe hkq) rfl rfl ?_
 refine aA ?_
 refine aB rfl (iB (v := .int .i64 (l[kq])) Try.isAgg3 rfl (Cat.cell0 hce rfl)) rfl rfl ?_
 refine aA ?_
 refine aB rfl (aG rfl) rfl rfl ?_
 refine aF ?_
 refine aH ?_
 refine wp_ret ?_
 refine aM (.inl rfl) Try.results113 rfl ?_
 exact ⟨_, rfl, List.getElem_mem hkq, H11.pick [0, 1] kD rfl⟩
theorem fZ  (bs : List Int) (gc cb : Nat) (A : Option Addr) (F0 : Nat → Prop) (w : World) (hV : CV A bs F0 w) (hn : bs.length ≤ 1048576) (h : Star [aV gc 157 A bs.length cb] w F0) : Calls Try.prog 63 #[.pointer (some ⟨gc, 0, none⟩)] w (fun e' w' => ∃ s : ByteArray, e' = .returned (.string s) ∧ s.size ≤ 6 ∧ St w F0 [aV gc 157 A bs.length cb] w') := by
 refine enter 6 [(0, .pointer (some ⟨gc, 0, none⟩))] Try.func63 rfl kR ?_
 intro xj
 have H1 : St w F0 [aV gc 157 A bs.length cb] w := St.enterF h
 refine wp_seq ?_
 refine aI [0] rfl ?_
 refine aA ?_
 refine aB rfl (aG rfl) rfl rfl ?_
 refine aF ?_
 refine aH ?_
 refine wp_seq ?_
 refine aI [0, 1, 2, 3] rfl ?_
 refine aA ?_
 refine aB rfl (aC rfl) rfl rfl ?_
 refine aA ?_
 refine bT (vs := [(0, .string (⟨#[103, 101, 116]⟩)), (1, .string (⟨#[115, 101, 116]⟩)), (2, .string (⟨#[97, 100, 100]⟩)), (3, .string (⟨#[109, 97, 107, 101]⟩)), (4, .string (⟨#[103, 111]⟩))]) (cells := #[.string (⟨#[103, 101, 116]⟩), .string (⟨#[115, 101, 116]⟩), .string (⟨#[97, 100, 100]⟩), .string (⟨#[109, 97, 107, 101]⟩), .string (⟨#[103, 111]⟩)]) rfl Try.runUnderlying166 Try.sizeOf9 Try.zeroValue9 rfl kD kD kR rfl rfl H1 ?_
 intro g_1_1 W2 hu3 Ha4; clear H1
 have Hb5 := St.eT (xs := ([⟨#[103, 101, 116]⟩, ⟨#[115, 101, 116]⟩, ⟨#[97, 100, 100]⟩, ⟨#[109, 97, 107, 101]⟩, ⟨#[103, 111]⟩] : List ByteArray)) (h1 := fun _ => rfl) Ha4 rfl kD rfl; clear hu3
 refine aA ?_
 have H8 : St w F0 [aV gc 157 A bs.length cb, hR Kn.string 9 (.slice (some ⟨g_1_1, 0, none⟩) 5 5) ([⟨#[103, 101, 116]⟩, ⟨#[115, 101, 116]⟩, ⟨#[97, 100, 100]⟩, ⟨#[109, 97, 107, 101]⟩, ⟨#[103, 111]⟩] : List ByteArray)] W2 := Hb5.pick [1, 0] kD rfl; clear Hb5
 obtain ⟨F9, hs10, hF11, hfr12⟩ := St.frame (l0 := [aV gc 157 A bs.length cb, hR Kn.string 9 (.slice (some ⟨g_1_1, 0, none⟩) 5 5) ([⟨#[103, 101, 116]⟩, ⟨#[115, 101, 116]⟩, ⟨#[97, 100, 100]⟩, ⟨#[109, 97, 107, 101]⟩, ⟨#[103, 111]⟩] : List ByteArray)]) (l := []) H8
 refine aK rfl Try.call110 (vs := #[.pointer (some ⟨gc, 0, none⟩), .slice (some ⟨g_1_1, 0, none⟩) 5 5]) rfl rfl rfl (gV ([⟨#[103, 101, 116]⟩, ⟨#[115, 101, 116]⟩, ⟨#[97, 100, 100]⟩, ⟨#[109, 97, 107, 101]⟩, ⟨#[103, 111]⟩] : List ByteArray) _ _ kD _ _ _ _ _ _ (CV.step hV H8.1 hF11) hn hs10) ?_
 rintro e15 W14 ⟨s6, rfl, hs7, Hn13⟩; refine ⟨_, rfl, ?_⟩
 have H16 := hfr12 _ _ Hn13; clear H8
 refine aA ?_
 refine aB rfl (aG rfl) rfl rfl ?_
 refine aF ?_
 refine aH ?_
 refine wp_ret ?_
 refine aM (.inl rfl) Try.results63 rfl ?_
 exact ⟨_, rfl, eZ hs7 kD, H16.pick [0] kD rfl⟩
theorem new_s (bs : List Int) (cb : Nat) (A : Option Addr) (w : World) (hC : C Kn.u8 w A bs) (hn : bs.length ≤ 1048576) : Calls Try.prog 41 #[.slice A bs.length cb] w (fun e' w' => ∃ gc : Nat, e' = .returned (.pointer (some ⟨gc, 0, none⟩)) ∧ St w No [aV gc 157 A bs.length cb] w') := by
 refine enter 32 [(0, .slice A bs.length cb)] Try.func41 rfl kR ?_
 intro xj
 have H1 : St w No [] w := St.enter
 refine wp_seq ?_
 refine aI [0] rfl ?_
 refine aA ?_
 refine aB rfl (aG rfl) rfl rfl ?_
 refine aF ?_
 refine aH ?_
 refine wp_seq ?_
 refine aI [0, 1, 2, 3] rfl ?_
 refine aA ?_
 refine aB rfl (aC rfl) rfl rfl ?_
 refine aA ?_
 refine aB rfl (dG Try.runUnderlying22 rfl) rfl rfl ?_
 refine aA ?_
 refine aB rfl (rn_addW rfl rfl) rfl rfl ?_
 refine aA ?_
 refine aB rfl (aG rfl) rfl rfl ?_
 refine aF ?_
 refine aH ?_
 refine wp_seq ?_
 refine wp_seq ?_
 refine aI [0] rfl ?_
 refine aA ?_
 refine aB rfl (aG rfl) rfl rfl ?_
 refine aF ?_
 refine aH ?_
 refine wp_block ?_
 refine wp_loop_ghost (fun r a' W' => ∃ (i1 : Nat) (h1 : Int) (x' : Nat → Value), a' = bC 32 x' [(0, .slice A bs.length cb), (3, .int .i64 (h1)), (4, .int .i64 (((i1 : Nat) : Int)))] ∧ (i1 + r = bs.length) ∧ St w No [] W') bs.length ?_ ?_
 ·exact (bJ [(0, .slice A bs.length cb), (3, .int .i64 (IntKind.i64.wrap (193017 + (bs.length : Nat)))), (4, .int .i64 (((0 : Nat) : Int)))] rfl).elim fun x' hx => ⟨0, (IntKind.i64.wrap (193017 + (bs.length : Nat))), x', hx, kO, H1⟩
 ·rintro r2 _ W3 ⟨i1, h1, x4, rfl, hi1, H5⟩; clear H1
  refine wp_seq ?_
  refine wp_seq ?_
  refine aI [0, 1, 2, 3, 4, 5, 6, 7] rfl ?_
  refine aA ?_
  refine aB rfl (aC rfl) rfl rfl ?_
  refine aA ?_
  refine aB rfl (aC rfl) rfl rfl ?_
  refine aA ?_
  refine aB rfl (dG Try.runUnderlying22 rfl) rfl rfl ?_
  by_cases hg6 : (((i1 : Nat) : Int) : Int) < (bs.length : Nat)
  ·refine aA ?_
   refine aB rfl (bQ hg6 (eY rfl rfl)) rfl rfl ?_
   refine aA ?_
   refine aB rfl (aC rfl) rfl rfl ?_
   refine aA ?_
   refine aT rfl rfl rfl rfl (fun _ ho7 => ?_)
   refine aB ho7 (aC rfl) rfl rfl ?_
   by_cases hg8 : (((i1 : Nat) : Int) : Int) < 4000
   ·refine aA ?_
    refine aT rfl rfl rfl rfl (fun _ ho9 => ?_)
    refine aB ho9 (bQ hg8 (eY rfl rfl)) rfl rfl ?_
    refine aA ?_
    refine aB rfl (aJ (v := .bool (true)) (b := true) rfl rfl rfl rfl) rfl rfl ?_
    refine aF ?_
    refine aH ?_
    refine fI rfl ?_
    refine wp_skip ?_
    refine aH ?_
    refine wp_seq ?_
    refine wp_block ?_
    have hlt : i1 < bs.length := by omega
    obtain ⟨ade, cse, hAe, hKe, hce⟩ := eD (dW H5.1 hC) i1 hlt
    obtain rfl : cse = [.int .u8 bs[i1]] := hKe
    refine aI [0, 1, 2, 3, 4, 5, 6, 7, 8, 9, 10] rfl ?_
    refine aA ?_
    refine aB rfl (aC rfl) rfl rfl ?_
    refine aA ?_
    refine aB rfl (rn_mulW rfl rfl) rfl rfl ?_
    refine aA ?_
    refine aB rfl (aC rfl) rfl rfl ?_
    refine aA ?_
    refine aB rfl (aC rfl) rfl rfl ?_
    refine aA ?_
    refine aB rfl (bW (k := i1) Try.runUnderlying22 Try.sizeOf5 rfl rfl hAe hlt) rfl rfl ?_
    refine aA ?_
    refine aB rfl (iB (v := .int .u8 bs[i1]) Try.isAgg5 rfl (Cat.cell0 hce rfl)) rfl rfl ?_
    refine aA ?_
    refine aB rfl (rn_conv8 (by rw [Try.underlying5]; rfl) Try.underlying3 rfl) rfl rfl ?_
    refine aA ?_
    refine aB rfl (rn_addW rfl rfl) rfl rfl ?_
    refine aA ?_
    refine aB rfl (rn_addW rfl rfl) rfl rfl ?_
    refine aA ?_
    refine aB rfl (rn_andV rfl rfl) rfl rfl ?_
    refine aA ?_
    refine aB rfl (aG rfl) rfl rfl ?_
    refine aF ?_
    refine dR ?_
    refine aH ?_
    refine aI [0, 1, 2] rfl ?_
    refine aA ?_
    refine aB rfl (aC rfl) rfl rfl ?_
    refine aA ?_
    refine aB rfl (fJ (k := i1) rfl rfl kO) rfl rfl ?_
    refine aA ?_
    refine aB rfl (aG rfl) rfl rfl ?_
    refine aF ?_
    refine aH ?_
    exact (bJ [(0, .slice A bs.length cb), (3, .int .i64 (andV (IntKind.i64.wrap ((IntKind.i64.wrap ((IntKind.i64.wrap (h1 * 137)) + (IntKind.i64.wrap (bs[i1])))) + 11)) 1073741823)), (4, .int .i64 (((i1 + 1 : Nat) : Int)))] rfl).elim fun x' hx => ⟨r2 - 1, kO, i1 + 1, (andV (IntKind.i64.wrap ((IntKind.i64.wrap ((IntKind.i64.wrap (h1 * 137)) + (IntKind.i64.wrap (bs[i1])))) + 11)) 1073741823), x', hx, kO, H5⟩
   ·refine aA ?_
    refine aT rfl rfl rfl rfl (fun _ ho10 => ?_)
    refine aB ho10 (bS hg8 (eY rfl rfl)) rfl rfl ?_
    refine aA ?_
    refine aB rfl (aJ (v := .bool (false)) (b := true) rfl rfl rfl rfl) rfl rfl ?_
    refine aF ?_
    refine aH ?_
    refine gI rfl ?_
    refine wp_exit ?_
    refine dH ?_
    refine dH ?_
    refine inB_x ?_
    refine aH ?_
    refine wp_seq ?_
    refine aI [0, 1, 2, 3, 4] rfl ?_
    refine aA ?_
    refine aB rfl (aC rfl) rfl rfl ?_
    refine aA ?_
    refine aB rfl (aC rfl) rfl rfl ?_
    refine aA ?_
    refine aB rfl (bB (vs := [(0, .slice A bs.length cb), (2, .int .i64 (h1))]) (cells := #[.slice A bs.length cb, .int .i64 (0), .int .i64 (h1)]) rfl kR) rfl rfl ?_
    refine aA ?_
    refine eG rfl rfl rfl rfl H5 ?_
    intro g_6_3 W11 hu12 Ha13; clear H5; clear hu12
    refine aA ?_
    refine aB rfl (aG rfl) rfl rfl ?_
    refine aF ?_
    refine aH ?_
    refine wp_ret ?_
    refine aM (.inl rfl) Try.results41 rfl ?_
    exact ⟨_, rfl, St.closeCur (i := 0) (Ha13.pick [0] kD rfl) (Nat.zero_le _)⟩
  ·refine aA ?_
   refine aB rfl (bS hg6 (eY rfl rfl)) rfl rfl ?_
   refine aA ?_
   refine aB rfl (aC rfl) rfl rfl ?_
   refine aA ?_
   refine aD rfl rfl rfl rfl rfl rfl rfl ?_
   refine aA ?_
   refine aD rfl rfl rfl rfl rfl rfl rfl ?_
   refine aA ?_
   refine aB rfl (aJ (v := .bool (false)) (b := false) rfl rfl rfl rfl) rfl rfl ?_
   refine aF ?_
   refine aH ?_
   refine gI rfl ?_
   refine wp_exit ?_
   refine dH ?_
   refine dH ?_
   refine inB_x ?_
   refine aH ?_
   refine wp_seq ?_
   refine aI [0, 1, 2, 3, 4] rfl ?_
   refine aA ?_
   refine aB rfl (aC rfl) rfl rfl ?_
   refine aA ?_
   refine aB rfl (aC rfl) rfl rfl ?_
   refine aA ?_
   refine aB rfl (bB (vs := [(0, .slice A bs.length cb), (2, .int .i64 (h1))]) (cells := #[.slice A bs.length cb, .int .i64 (0), .int .i64 (h1)]) rfl kR) rfl rfl ?_
   refine aA ?_
   refine eG rfl rfl rfl rfl H5 ?_
   intro g_6_3 W15 hu16 Ha17; clear H5; clear hu16
   refine aA ?_
   refine aB rfl (aG rfl) rfl rfl ?_
   refine aF ?_
   refine aH ?_
   refine wp_ret ?_
   refine aM (.inl rfl) Try.results41 rfl ?_
   exact ⟨_, rfl, St.closeCur (i := 0) (Ha17.pick [0] kD rfl) (Nat.zero_le _)⟩
end Go.Proofs.YtdfipdpeilegpaaFam
namespace Go.Proofs.YtdfipdpeilegpaaSep
open Go.ChangeShapes Go.WideShapes Go.RowKit
section
variable {α : Type} {dk : Kn α} {W w : World} {F F0 : Nat → Prop} {l : List HP} {e g : Nat}
theorem flat_piece (sz : Nat) : ∀ (L : List (List Value)) (i : Nat) (c : List Value), (∀ z ∈ L, z.length = sz) → L[i]? = some c → piece sz L.flatten i = c
 | [], _, _, _, h => by simp at h
 | c0 :: L, 0, c, hl, h => by
  obtain rfl : c0 = c := by simpa using h
  have h0 : c0.length = sz := hl c0 List.mem_cons_self
  unfold piece
  rw [Nat.zero_mul, List.drop_zero, List.flatten_cons, ← h0, List.take_left]
 | c0 :: L, i + 1, c, hl, h => by
  have h0 : c0.length = sz := hl c0 List.mem_cons_self
  have q := flat_piece sz L i c (fun z hz => hl z (List.mem_cons_of_mem _ hz)) (by simpa using h)
  rw [← q]
  unfold piece
  rw [List.flatten_cons, Nat.succ_mul, Nat.add_comm, ← List.drop_drop, ← h0, List.drop_left]
theorem flat_len (sz : Nat) : ∀ L : List (List Value), (∀ z ∈ L, z.length = sz) → L.flatten.length = L.length * sz
 | [], _ => by simp
 | c0 :: L, hl => by
  have q := flat_len sz L (fun z hz => hl z (List.mem_cons_of_mem _ hz))
  have h0 : c0.length = sz := hl c0 List.mem_cons_self
  rw [List.flatten_cons, List.length_append, q, h0, List.length_cons, Nat.succ_mul]
  omega
theorem R_lit {cs : Array Value} (ps : List (α × List Value)) (hlen : ∀ z ∈ ps.map Prod.snd, z.length = dk.sz) (hcs : cs.toList = (ps.map Prod.snd).flatten) (hn : ps.length ≤ 1048576) (h : Star (hB g e cs :: ps.map (fun p => hM dk p.1 p.2)) W F) : R dk e W F (.slice (some ⟨g, 0, none⟩) (ps.map Prod.fst).length ps.length) (ps.map Prod.fst) := by
 obtain ⟨Fs, h1, h2, h3⟩ := h
 have hB0 := h3 0 _ rfl
 obtain ⟨b1, b2⟩ := hB0
 refine .inr ⟨g, ps.length, cs, fun i b => Fs (i + 1) b, rfl, b2, h1 0 g b1, by simp, by omega, ?_, fun i b hb => ⟨h1 _ b hb, fun q => ?_⟩, fun i j b hi hj => ?_, fun i x hx => ?_⟩
 ·rw [← Array.length_toList, hcs, flat_len dk.sz _ hlen, List.length_map]
 ·have := h2 (i + 1) 0 b hb (q ▸ b1)
  omega
 ·have := h2 _ _ b hi hj
  omega
 ·rw [List.getElem?_map] at hx
  cases hp : ps[i]? with
  | none => rw [hp] at hx; cases hx
  | some p =>
   rw [hp] at hx
   obtain rfl : p.1 = x := by simpa using hx
   have q := h3 (i + 1) (hM dk p.1 p.2) (by simp [hp])
   rw [hcs, flat_piece dk.sz (ps.map Prod.snd) i p.2 hlen (by simp [hp])]
   exact q
theorem St.lit {cs : Array Value} (ps : List (α × List Value)) (H : St w F0 ((hB g e cs :: ps.map (fun p => hM dk p.1 p.2)) ++ l) W) (hlen : ∀ z ∈ ps.map Prod.snd, z.length = dk.sz) (hcs : cs.toList = (ps.map Prod.snd).flatten) (hn : ps.length ≤ 1048576) : St w F0 (hR dk e (.slice (some ⟨g, 0, none⟩) (ps.map Prod.fst).length ps.length) (ps.map Prod.fst) :: l) W :=
 St.swap (l0 := hB g e cs :: ps.map (fun p => hM dk p.1 p.2)) (l' := [hR dk e (.slice (some ⟨g, 0, none⟩) (ps.map Prod.fst).length ps.length) (ps.map Prod.fst)]) H (fun F h => Star.one (R_lit ps hlen hcs hn h))
theorem CM_of_R {A : Option Addr} {n c : Nat} {ys : List α} (h : R dk e W F (.slice A n c) ys) : ∃ Gs, CM dk W A ys Gs ∧ (∀ j b, Gs j b → F b) ∧ ∀ i j b, Gs i b → Gs j b → i = j := by
 rcases h with ⟨h, rfl⟩ | ⟨g', cap, cur, Fs, h1, h2, h3, h4, h5, h6, h7, h8, h9⟩
 ·exact ⟨fun _ _ => False, ⟨Nat.zero_le _, fun h => absurd h (Nat.lt_irrefl 0)⟩, fun _ _ q => q.elim, fun _ _ _ q => q.elim⟩
 ·cases h1
  refine ⟨Fs, ⟨by omega, fun _ => ⟨_, rfl, fun j p hj => ⟨_, h9 j p hj, fun i u hu => ?_⟩⟩⟩, fun j b hb => (h7 j b hb).1, h8⟩
  have hi : i < dk.sz := by have := (List.getElem?_eq_some_iff.1 hu).1; simp [piece] at this; omega
  have hb : Blk W g' e cur := h2
  rw [add_plain, hb.cell]
  simp only [piece, List.getElem?_take, if_pos hi, List.getElem?_drop] at hu
  simpa using hu
variable {P : Program} {ops : Array Oper} {Q : Exit → Act → World → Prop} {i d n : Nat} {x : Nat → Value} {live : List (Nat × Value)} {K : Act → World → Prop} {ty : Nat} {pos : String} {aft : Array Edge} {y z : Operand} {v : Value}
theorem op_appendR' {t bytes c n' : Nat} {z0 : Value} {xs ys zs : List α} {A : Option Addr} {dst : Option Nat}
 (ho : ops[i]? = some ⟨dst, .call { callee := .builtin .append, args := #[y, z], argTypes := #[t, t] }, ty, pos, aft, none⟩)
 (ht : P.underlying t = some (.slice e)) (hinfo : (P.info? e).map (fun i => (i.zero, i.size, i.bytes)) = some (some z0, dk.sz, bytes)) (hz : z0.cells.size = dk.sz) (hs0 : 0 < dk.sz) (hb0 : 0 < bytes)
 (hx : evl n live y = some v) (hy : evl n live z = some (.slice A ys.length c)) (hl : (xs.length + ys.length) * bytes ≤ 140737488355328) (hn : xs.length + ys.length = n') (hys : xs ++ ys = zs) (hd : dst = some d) (hdn : decide (d < n) = true)
 (H : St w F0 (hR dk e v xs :: hR dk e (.slice A ys.length c) ys :: l) W)
 (h : ∀ B c W', St w F0 (hR dk e (.slice B n' c) zs :: l) W' → K (bC n x ((d, .slice B n' c) :: live)) W') : wpOp P ops Q i K (bC n x live) W := by
 subst hn hys
 exact op_appendA (l0 := [hR dk e (.slice A ys.length c) ys]) ho ht hinfo hz hs0 hb0 hx hy hl hd hdn H (fun F hF => by
  obtain ⟨F1, F2, h1, _, i1, _, _⟩ := hF.uncons
  exact CM_of_R (R_mono i1 h1)) h
theorem op_makeL {dst : Option Nat} {t bytes m : Nat} {z0 : Value} {zx : α} (ho : ops[i]? = some ⟨dst, .makeSlice t y z, ty, pos, aft, none⟩)
 (ht : P.underlying t = some (.slice e)) (hinfo : (P.info? e).map (fun i => (i.zero, i.size, i.bytes)) = some (some z0, dk.sz, bytes)) (hz0 : z0.cells.size = dk.sz) (hs0 : 0 < dk.sz) (h0 : ∀ W, dk.M W No zx z0.cells.toList) (hb : bytes ≤ 4096)
 (hx : evl n live y = some (.int .i64 (m : Int))) (hy : evl n live z = some (.int .i64 (m : Int))) (hm : m ≤ 1048576) (hd : dst = some d) (hdn : decide (d < n) = true)
 (H : St w F0 l W) (h : ∀ g W', Upd No W W' → St w F0 (hR dk e (.slice (some ⟨g, 0, none⟩) (List.replicate m zx).length m) (List.replicate m zx) :: l) W' → K (bC n x ((d, .slice (some ⟨g, 0, none⟩) (List.replicate m zx).length m) :: live)) W') : wpOp P ops Q i K (bC n x live) W :=
 op_make ho ht hinfo hz0 hs0 h0 hb hx hy hm hd hdn H (fun g W' hu H' => by
  have h1 := h g W' hu (by rw [List.length_replicate]; exact H')
  rw [List.length_replicate] at h1
  exact h1)
end
end Go.Proofs.YtdfipdpeilegpaaSep
