/- Scripts copied (the program). No conditions beyond the sizes that the contracts name. -/
import Derived.Test.YtfnedoiplblldaaGreatProg
import Derived.Test.YtfnedoiplblldaaGreatSep2
import Derived.Test.YtfnedoiplblldaaGreatLst
import Derived.WalkKit
import Derived.KernelRfl
import Derived.RowKit3
import Derived.Deep.LoopGhost
import Derived.Deep.QuietTactic
import Derived.BigQuiet
import Derived.StillTailTactics
import Derived.Test.YtfnedoiplblldaaGreatK
import Derived.Deep.RegionHeld3
import Derived.Deep.RegionLaw
import Derived.Deep.DeepCutAuto
import Derived.Test.YtfnedoiplblldaaGreatFamScript
import Derived.Test.YtfnedoiplblldaaGreatCp3
import Derived.Test.YtfnedoiplblldaaGreatSep5
namespace Go.Proofs.YtfnedoiplblldaaGreatFam
open Go.RowKit Go.Proofs.YtfnedoiplblldaaGreatSep Go.Proofs.YtfnedoiplblldaaGreatT Go.Proofs.YtfnedoiplblldaaGreatK
set_option linter.unusedVariables false
set_option linter.unusedSimpArgs false
set_option maxHeartbeats 2000000 in
set_option maxRecDepth 100000 in
theorem copiedScripts_i (l : List GScript) (A : Option Addr) (c : Nat) (w : World) (h : C ki_Script w A l) (hs : sznS szn_Script l ≤ 4194304) : Calls Tryz.prog 79 #[.slice A l.length c] w (RetRow ki_Script 133 l w) := by
  have hn : l.length ≤ 4194304 := by unfold sznS at hs; omega
  have H := Sd.mk h
  have HS := Sd.mk hs
  clear h hs
  go_enter Tryz.func79, Tryz.ntmps79
  go_wp2
  have hR0 : Sd (R ki_Script 133 (w.alloc (.cells #[] 133)) (New w) (.slice (some ⟨w.heap.size, 0, none⟩) 0 0) []) := ⟨R_empty w⟩
  have hU0 : Sd (Upd No w (w.alloc (.cells #[] 133))) := ⟨(Upd.refl _ _).alloc _⟩
  go_loopg [3, 12] l.length (fun r u v wr => ∃ i : Nat, i + r = l.length ∧ v = .int .i64 i ∧ Sd (R ki_Script 133 wr (New w) u (l.take i)) ∧ Sd (Upd No w wr))
  case atStart => exact ⟨0, by omega, rfl, hR0, hU0⟩
  case round =>
    clear hR0 hU0
    obtain ⟨i, hi, rfl, HR, HU⟩ := hrel
    obtain ⟨wo, rfl⟩ : ∃ z, z = wr := ⟨_, rfl⟩
    by_cases hlt : i < l.length
    · obtain ⟨ad, A1, c1, rfl, a0, a1, hl1, hC1⟩ := ki_Script_at (C_upd HU.out H.out) i hlt
      have HC1 := Sd.mk hC1
      clear hC1
      have hsi : szn_Script l[i] ≤ 4194304 := by have := sumS_at szn_Script l i hlt; have := HS.out; unfold sznS at *; omega
      have hsm : sznS szn_Method l[i].Methods ≤ 4194304 := by unfold szn_Script at hsi; omega
      have hnm : l[i].Methods.length ≤ 4194304 := by unfold sznS at hsm; omega
      have S_M := Sd.mk hsm
      clear hsi hsm
      go_wp2
      have hb0 : Sd (Blk ((wo.alloc (.cells #[.string l[i].Name, .slice A1 l[i].Methods.length c1] 133)).alloc (.cells #[.string l[i].Name, .slice none 0 0] 133)) wo.heap.size 133 #[.string l[i].Name, .slice A1 l[i].Methods.length c1]) := ⟨(Blk.new _ _ _).alloc _⟩
      have hb2 : Sd (Blk ((wo.alloc (.cells #[.string l[i].Name, .slice A1 l[i].Methods.length c1] 133)).alloc (.cells #[.string l[i].Name, .slice none 0 0] 133)) (wo.heap.size + 1) 133 #[.string l[i].Name, .slice none 0 0]) := ⟨Blk.newAt (by simp)⟩
      have HBW : Sd (Upd No wo ((wo.alloc (.cells #[.string l[i].Name, .slice A1 l[i].Methods.length c1] 133)).alloc (.cells #[.string l[i].Name, .slice none 0 0] 133))) := ⟨((Upd.refl _ _).alloc _).alloc _⟩
      generalize ((wo.alloc (.cells #[.string l[i].Name, .slice A1 l[i].Methods.length c1] 133)).alloc (.cells #[.string l[i].Name, .slice none 0 0] 133)) = ws0 at *
      have hz_0 : wo.heap.size + 1 < ws0.heap.size := hb2.out.lt
      have HRL := Sd.mk (R_lt HR.out)
      clear HR a0 a1
      obtain ⟨g0, hg0⟩ : ∃ g, g = gk := ⟨_, rfl⟩
      go_loopg [22] l[i].Methods.length (fun r v wi => ∃ (k : Nat) (u : Value), k + r = l[i].Methods.length ∧ v = .int .i64 k ∧ Sd (Blk wi (wo.heap.size + 1) 133 #[.string l[i].Name, u]) ∧ Sd (R ki_Method 210 wi (New ws0) u (l[i].Methods.take k)) ∧ Sd (Upd (fun b => b = wo.heap.size + 1) ws0 wi))
      case atStart => exact ⟨0, .slice none 0 0, by omega, rfl, hb2, ⟨R_nil⟩, ⟨Upd.refl _ _⟩⟩
      case round =>
        obtain ⟨k, u, hk, rfl, HB2, HR, HV⟩ := hrel
        obtain ⟨wi, rfl⟩ : ∃ z, z = wr := ⟨_, rfl⟩
        have HW : Sd (Upd No wo wi) := ⟨Upd.trans HBW.out HV.out (fun _ _ q => q) (fun b hb q => absurd hb (by omega))⟩
        have hzr := HV.out.size
        by_cases hlk : k < l[i].Methods.length
        · obtain ⟨ae, D1, d1, he, e0, e1, hm1, hD1⟩ := ki_Method_at (C_upd HW.out HC1.out) k hlk
          subst he
          have HD1 := Sd.mk hD1
          clear hD1
          have hsi : szn_Method l[i].Methods[k] ≤ 4194304 := by have := sumS_at szn_Method l[i].Methods k hlk; have := S_M.out; unfold sznS at *; omega
          obtain ⟨Bu, bu, hv⟩ := R_slice HR.out
          rw [List.length_take, Nat.min_eq_left (by omega)] at hv
          subst hv
          go_wp2_with fail
          refine gen_box ?_
          intro wm hB hUm
          clear e0 e1
          have m0 := hB.at 0 (v := .string l[i].Methods[k].Name) rfl
          have m1 := hB.at 1 (v := .slice D1 l[i].Methods[k].Code.length d1) rfl
          have HUm := Sd.mk hUm
          have hzm := hUm.size
          have hbl := hB.lt
          clear hB hUm
          replace HD1 := Sd.mk (C_upd HUm.out HD1.out)
          have HBo := Sd.mk (HB2.out.no HUm.out)
          have HR1 := Sd.mk (R_no HUm.out (R_lt HR.out))
          have so := HBo.out.at 1 (v := .slice Bu k bu) rfl
          have fo := HBo.out.free 1
          clear HR HB2
          go_region_law (first | (go_simp; go_at_call 147; (with_reducible refine (copied_Method l[i].Methods[k] _ _ (ki_Method_Kmk _ _ hm1 (C_upd (by repeat (with_reducible first | exact Upd.refl _ _ | apply Upd.alloc | apply Upd.drewN | apply Upd.drew)) HD1.out)) hsi).mono ?_); rintro e w1 ⟨cs, rfl, hM, hu⟩; have HM := Sd.mk (ki_Method.M_mono (F' := fun b => wm.heap.size ≤ b) (fun b q => Nat.le_trans (Upd.size ((by repeat (with_reducible first | exact Upd.refl _ _ | apply Upd.alloc | apply Upd.drewN | apply Upd.drew)) : Upd No wm _)) q) hM); obtain ⟨v1, P1, rfl, r1, -⟩ := ki_Method_M hM; obtain ⟨Bz1, bz1, rfl⟩ := R_slice r1; clear r1; have HY : Sd (Upd No wm w1) := Sd.mk (Upd.then (by repeat (with_reducible first | exact Upd.refl _ _ | apply Upd.alloc | apply Upd.drewN | apply Upd.drew)) hu); have HRA := Sd.mk (R_no HY.out HR1.out); have hz1 := HY.out.size; have HBp := Sd.mk (HBo.out.no HY.out); have so1 := HBp.out.at 1 (v := .slice Bu k bu) rfl; have fo1 := HBp.out.free 1; have sa1 := (fun ob => (HBp.out.alloc ob).at 1 (v := .slice Bu k bu) rfl); clear hu hM) | ((refine R_appStep (d := ki_Method) (e := 210) rfl _ _ 131 _ _ rfl Tryz.underlying131 ki_Method_info rfl (by decide) (by decide) l[i].Methods[k] _ _ _ rfl rfl rfl HRA.out HM.out (fun b hb q => absurd q.2 (by omega)) (by rw [List.length_take, Nat.min_eq_left (by omega)]; omega) ?_); intro v2 w2 hR hu2; rw [← List.take_succ_eq_append_getElem hlk] at hR; obtain ⟨B2, b2, hv2⟩ := R_slice hR; rw [List.length_take, Nat.min_eq_left (by omega)] at hv2; subst hv2; have HBq := Sd.mk (HBp.out.upd hu2 (fun q => absurd q.1 (by simp only [New]; omega))); have so2 := HBq.out.at 1 (v := .slice Bu k bu) rfl; have fo2 := HBq.out.free 1; have hz2 := hu2.size; have hR3 := Sd.mk (R_mono (F' := New ws0) (fun b q => (by simp only [New] at q ⊢; omega)) hR); have HX2 : Sd (Upd (fun b => b = wo.heap.size + 1) ws0 w2) := Sd.mk (HV.out.trans (Upd.trans (H := fun b => ws0.heap.size ≤ b) (HUm.out.then HY.out) hu2 (fun _ _ q => q.elim) (fun b hb q => (by have := q.1; simp only [New] at this; omega))) (fun _ _ q => q) (fun b hb q => absurd hb (by omega))); clear hR hu2))
          all_goals
            go_wp2
            go_roundg (gk - 1)
            case measure => omega
            case rel =>
              refine ⟨k + 1, .slice B2 (k + 1) b2, by omega, by go_num, ⟨?_⟩, ⟨?_⟩, ⟨?_⟩⟩
              · exact Blk.put HBq.out 1 _ rfl
              · exact R_upd (Upd.set (F := fun b => b = wo.heap.size + 1) (Upd.refl _ _) _ _ (.inr rfl)) (fun b q z => by simp only [New] at q; omega) hR3.out
              · exact Upd.set HX2.out _ _ (.inr rfl)
        · have hke : k = l[i].Methods.length := by omega
          rw [hke, List.take_length] at HR
          obtain ⟨B1, b1, hv⟩ := R_slice HR.out
          subst hv
          clear hke
          have o0 := HB2.out.at 0 (v := .string l[i].Name) rfl
          have o1 := HB2.out.at 1 (v := .slice B1 l[i].Methods.length b1) rfl
          have HRM := Sd.mk (R_lt HR.out)
          have HRA := Sd.mk (R_upd HV.out (fun b q z => by have := q.2; omega) (R_no HBW.out HRL.out))
          have hz := HU.out.size
          go_wp2_with (first | (at_builtin; refine R_appOne (d := ki_Script) (e := 133) rfl _ _ 31 _ _ rfl Tryz.underlying31 ki_Script_info rfl (by decide) (by decide) l[i] _ (fun b => New ws0 b ∧ b < wi.heap.size) _ rfl rfl rfl HRA.out (ki_Script_mk wi _ l[i] HRM.out (fun _ q => q)) (fun b hb q => by have := hb.1; have := q.2; simp only [New] at *; omega) (by rw [List.length_take, Nat.min_eq_left (by omega)]; omega) ?_) | fail)
          intro v1 w2 hR hu
          have hR' := Sd.mk (R_mono (F' := New w) (fun b q => by simp only [New] at q ⊢; omega) hR)
          have HU2 : Sd (Upd No w w2) := Sd.mk (Upd.trans (F := No) (HU.out.then HW.out) hu (fun _ _ q => q) (fun b hb q => absurd hb (by have := q.1; simp only [New] at this; omega)))
          clear hR hu
          go_wp2
          go_roundg (g0 - 1)
          case measure => omega
          case rel => exact ⟨i + 1, by omega, by go_num, hR', HU2⟩
    · go_wp2
      go_ret
      have hRR := HR.out
      rw [List.take_of_length_le (by omega)] at hRR
      exact ⟨_, rfl, hRR, HU.out⟩
end Go.Proofs.YtfnedoiplblldaaGreatFam
