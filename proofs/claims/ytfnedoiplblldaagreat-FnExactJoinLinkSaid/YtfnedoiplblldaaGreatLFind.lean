/- Searches of a row of links. No conditions beyond the sizes that the contracts name. -/
import Derived.Test.YtfnedoiplblldaaGreatProg
import Derived.Test.YtfnedoiplblldaaGreatSep2
import Derived.Test.YtfnedoiplblldaaGreatLst
import Derived.WalkKit
import Derived.KernelRfl
import Derived.RowKit3
import Derived.Deep.LoopGhost
import Derived.Deep.QuietTactic
import Derived.BigQuiet
import Derived.StillTailTactics
import Derived.Test.YtfnedoiplblldaaGreatK
import Derived.Deep.RegionHeld3
import Derived.Test.YtfnedoiplblldaaGreatFamLink
import Derived.Test.YtfnedoiplblldaaGreatLst2
import Derived.Test.YtfnedoiplblldaaGreatSep4
namespace Go.Proofs.YtfnedoiplblldaaGreatFam
open Go.RowKit Go.Proofs.YtfnedoiplblldaaGreatSep Go.Proofs.YtfnedoiplblldaaGreatT Go.Proofs.YtfnedoiplblldaaGreatK
set_option linter.unusedVariables false
set_option linter.unusedSimpArgs false
set_option maxHeartbeats 1000000 in
set_option maxRecDepth 100000 in
theorem lkU_idx (q0 : Value) (p : GLink → Bool) (l : List GLink) (A : Option Addr) (c : Nat) (w : World) (h : C ki_Link w A l) (hf : ∀ (x : GLink) (cs : List Value) (w' : World), Upd No w w' → ki_Link.K w' x cs → Calls Tryz.prog 213 #[.agg cs.toArray, q0] w' (RetBool (p x) w')) : Calls Tryz.prog 218 #[.slice A l.length c, .func (.func 213) #[] #[q0]] w (RetInt (fidx p 0 l) w) := by
  have hn := h.1
  have H := Sd.mk h
  have HF := Sd.mk hf
  clear h hf
  go_enter Tryz.func218, Tryz.ntmps218
  go_wp2_with fail
  go_loopg [8] l.length (fun r v wr => ∃ i : Nat, i + r = l.length ∧ v = .int .i64 i ∧ Sd (fidx p 0 l = fidx p i (l.drop i)) ∧ Sd (Upd No w wr))
  case atStart => exact ⟨0, by omega, rfl, ⟨rfl⟩, ⟨Upd.refl _ _⟩⟩
  case round =>
    obtain ⟨i, hi, rfl, HE, HU⟩ := hrel
    by_cases hlt : i < l.length
    · obtain ⟨ad, A2, c2, A4, c4, A6, c6, rfl, a0, a1, a2, a3, a4, a5, a6, hl2, hC2, hl4, hC4, hl6, hC6⟩ := ki_Link_at (C_upd HU.out H.out) i hlt
      have HC2 := Sd.mk hC2
      clear hC2
      have HC4 := Sd.mk hC4
      clear hC4
      have HC6 := Sd.mk hC6
      clear hC6
      go_wp2_with fail
      with_reducible refine (HF.out l[i] _ _ HU.out (ki_Link_Kmk _ _ hl2 HC2.out hl4 HC4.out hl6 HC6.out)).mono ?_
      rintro e w1 ⟨rfl, hu⟩
      have HU1 := Sd.mk (HU.out.then hu)
      clear hu HU
      have hy := Sd.mk (fidx_yes p l i hlt)
      have hno := Sd.mk (fidx_no p l i hlt)
      cases hb : p l[i]
      · have HBB := Sd.mk hb
        clear hb
        go_wp2_with fail
        go_roundg (gk - 1)
        case measure => omega
        case rel => exact ⟨i + 1, by omega, by go_num, ⟨HE.out.trans (hno.out HBB.out)⟩, HU1⟩
      · have HBB := Sd.mk hb
        clear hb
        go_wp2_with fail
        go_ret
        exact ⟨ret_int (by rw [HE.out, hy.out HBB.out]), HU1.out⟩
    · go_wp2_with fail
      go_ret
      exact ⟨ret_int (by rw [HE.out, fidx_end p l i (by omega)]), HU.out⟩
set_option maxHeartbeats 1000000 in
set_option maxRecDepth 100000 in
theorem lkU_has (q0 : Value) (p : GLink → Bool) (l : List GLink) (A : Option Addr) (c : Nat) (w : World) (h : C ki_Link w A l) (hf : ∀ (x : GLink) (cs : List Value) (w' : World), Upd No w w' → ki_Link.K w' x cs → Calls Tryz.prog 213 #[.agg cs.toArray, q0] w' (RetBool (p x) w')) : Calls Tryz.prog 212 #[.slice A l.length c, .func (.func 213) #[] #[q0]] w (RetBool (l.any p) w) := by
  have H := Sd.mk h
  have HF := Sd.mk hf
  clear h hf
  go_enter Tryz.func212, Tryz.ntmps212
  go_wp2_with fail
  with_reducible refine (lkU_idx q0 p l _ _ _ ?hc ?hf).mono ?_
  case hc => exact H.out
  case hf => exact HF.out
  rintro e w1 ⟨rfl, hu⟩
  have HX := Sd.mk (fidx_any p l 0 (Int.le_refl 0))
  have HU := Sd.mk hu
  clear hu
  go_wp2_with fail
  go_ret
  exact ⟨ret_bool HX.out, HU.out⟩
set_option maxHeartbeats 1000000 in
set_option maxRecDepth 100000 in
theorem lkP_idx (q0 : Value) (p : GLink → Bool) (l : List GLink) (A : Option Addr) (c : Nat) (w : World) (h : C ki_Link w A l) (hf : ∀ (x : GLink) (cs : List Value) (w' : World), Upd No w w' → ki_Link.K w' x cs → Calls Tryz.prog 219 #[.agg cs.toArray, q0] w' (RetBool (p x) w')) : Calls Tryz.prog 218 #[.slice A l.length c, .func (.func 219) #[] #[q0]] w (RetInt (fidx p 0 l) w) := by
  have hn := h.1
  have H := Sd.mk h
  have HF := Sd.mk hf
  clear h hf
  go_enter Tryz.func218, Tryz.ntmps218
  go_wp2_with fail
  go_loopg [8] l.length (fun r v wr => ∃ i : Nat, i + r = l.length ∧ v = .int .i64 i ∧ Sd (fidx p 0 l = fidx p i (l.drop i)) ∧ Sd (Upd No w wr))
  case atStart => exact ⟨0, by omega, rfl, ⟨rfl⟩, ⟨Upd.refl _ _⟩⟩
  case round =>
    obtain ⟨i, hi, rfl, HE, HU⟩ := hrel
    by_cases hlt : i < l.length
    · obtain ⟨ad, A2, c2, A4, c4, A6, c6, rfl, a0, a1, a2, a3, a4, a5, a6, hl2, hC2, hl4, hC4, hl6, hC6⟩ := ki_Link_at (C_upd HU.out H.out) i hlt
      have HC2 := Sd.mk hC2
      clear hC2
      have HC4 := Sd.mk hC4
      clear hC4
      have HC6 := Sd.mk hC6
      clear hC6
      go_wp2_with fail
      with_reducible refine (HF.out l[i] _ _ HU.out (ki_Link_Kmk _ _ hl2 HC2.out hl4 HC4.out hl6 HC6.out)).mono ?_
      rintro e w1 ⟨rfl, hu⟩
      have HU1 := Sd.mk (HU.out.then hu)
      clear hu HU
      have hy := Sd.mk (fidx_yes p l i hlt)
      have hno := Sd.mk (fidx_no p l i hlt)
      cases hb : p l[i]
      · have HBB := Sd.mk hb
        clear hb
        go_wp2_with fail
        go_roundg (gk - 1)
        case measure => omega
        case rel => exact ⟨i + 1, by omega, by go_num, ⟨HE.out.trans (hno.out HBB.out)⟩, HU1⟩
      · have HBB := Sd.mk hb
        clear hb
        go_wp2_with fail
        go_ret
        exact ⟨ret_int (by rw [HE.out, hy.out HBB.out]), HU1.out⟩
    · go_wp2_with fail
      go_ret
      exact ⟨ret_int (by rw [HE.out, fidx_end p l i (by omega)]), HU.out⟩
end Go.Proofs.YtfnedoiplblldaaGreatFam
