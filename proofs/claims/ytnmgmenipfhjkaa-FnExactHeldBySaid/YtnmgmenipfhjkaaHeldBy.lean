/- HeldBy: what the reference and the program compute. No conditions beyond the sizes that the contracts name. -/
import Derived.Test.YtnmgmenipfhjkaaProg
import Derived.Test.YtnmgmenipfhjkaaSep2
import Derived.Test.YtnmgmenipfhjkaaLst
import Derived.WalkKit
import Derived.KernelRfl
import Derived.RowKit3
import Derived.Deep.LoopGhost
import Derived.Deep.QuietTactic
import Derived.BigQuiet
import Derived.StillTailTactics
import Derived.Test.YtnmgmenipfhjkaaK
import Derived.Deep.RegionHeld3
import Derived.Test.YtnmgmenipfhjkaaFamVat
import Derived.Test.YtnmgmenipfhjkaaLst2
import Derived.Test.YtnmgmenipfhjkaaSep4
namespace Go.Proofs.YtnmgmenipfhjkaaFam
open Go.RowKit Go.Proofs.YtnmgmenipfhjkaaSep Go.Proofs.YtnmgmenipfhjkaaT Go.Proofs.YtnmgmenipfhjkaaK
set_option linter.unusedVariables false
set_option linter.unusedSimpArgs false
def hbF (peer pos : Int) (n : Int) (e : GEntity) : Int := if e.Kind = 3 ∧ e.Peer = peer ∧ e.Pos = pos then wrap64 (n + e.Count) else n
set_option maxHeartbeats 1000000 in
set_option maxRecDepth 100000 in
theorem heldBy_s (x : GVat) (cs : List Value) (peer : Int) (pos : Int) (w : World) (h : ki_Vat.K w x cs) (hn : x.Entities.length ≤ 1048576) : Calls Try.prog 7 #[.agg cs.toArray, .int .i64 peer, .int .i64 pos] w (RetInt (x.Entities.foldl (hbF peer pos) 0) w) := by
  obtain ⟨A1, c1, A2, c2, A3, c3, A4, c4, rfl, hl1, hC1, hl2, hC2, hl3, hC3, hl4, hC4⟩ := ki_Vat_K h
  have HC1 := Sd.mk hC1
  have HC2 := Sd.mk hC2
  have HC3 := Sd.mk hC3
  have HC4 := Sd.mk hC4
  clear hC1 hC2 hC3 hC4
  have H := HC1
  clear h
  go_enter Try.func7, Try.ntmps7
  go_wp2
  refine gen_box ?_
  intro wb hB hU0
  have HBX := Sd.mk hB
  have HU0 := Sd.mk hU0
  clear hB hU0
  go_loopg [7, 8] x.Entities.length (fun r u v wr => ∃ i : Nat, i + r = x.Entities.length ∧ u = .int .i64 ((x.Entities.take i).foldl (hbF peer pos) 0) ∧ v = .int .i64 i ∧ Sd (Upd No wb wr))
  case atStart => exact ⟨0, by omega, by simp, rfl, ⟨Upd.refl _ _⟩⟩
  case round =>
    obtain ⟨i, hi, rfl, rfl, HU⟩ := hrel
    have t0 := (HBX.out.no HU.out).at 0 (v := .int .i64 x.Id) rfl
    have t1 := (HBX.out.no HU.out).at 1 (v := .slice A1 x.Entities.length c1) rfl
    have t2 := (HBX.out.no HU.out).at 2 (v := .slice A2 x.Loop.length c2) rfl
    have t3 := (HBX.out.no HU.out).at 3 (v := .slice A3 x.Links.length c3) rfl
    have t4 := (HBX.out.no HU.out).at 4 (v := .slice A4 x.Out.length c4) rfl
    by_cases hlt : i < x.Entities.length
    · obtain ⟨ad, D2, d2, D6, d6, D7, d7, rfl, a0, a1, a2, a3, a4, a5, a6, a7, a8, a9, a10, a11, hm2, hD2, hm6, hD6, hm7, hD7⟩ := ki_Entity_at (C_upd (HU0.out.then HU.out) H.out) i hlt
      have hst := Sd.mk (foldl_step (hbF peer pos) 0 x.Entities i hlt)
      generalize hq : (x.Entities.take i).foldl (hbF peer pos) 0 = q at *
      have HQ := Sd.mk hq
      clear hm2 hD2 hm6 hD6 hm7 hD7 hq
      by_cases h0 : x.Entities[i].Kind = 3
      · have e0 : (x.Entities[i].Kind == 3) = true := beq_iff_eq.2 h0
        have n0 : (x.Entities[i].Kind != 3) = false := by simp [h0]
        have H0 := Sd.mk h0
        clear h0
        by_cases h1 : x.Entities[i].Peer = peer
        · have e1 : (x.Entities[i].Peer == peer) = true := beq_iff_eq.2 h1
          have n1 : (x.Entities[i].Peer != peer) = false := by simp [h1]
          have H1 := Sd.mk h1
          clear h1
          by_cases h2 : x.Entities[i].Pos = pos
          · have e2 : (x.Entities[i].Pos == pos) = true := beq_iff_eq.2 h2
            have n2 : (x.Entities[i].Pos != pos) = false := by simp [h2]
            have H2 := Sd.mk h2
            clear h2
            have hv : Sd ((hbF peer pos) q x.Entities[i] = wrap64 (q + x.Entities[i].Count)) := ⟨by simp [hbF, H0.out, H1.out, H2.out]⟩
            go_wp2
            repeat (go_quiet (fail); try go_wp2)
            go_roundg (gk - 1)
            case measure => omega
            case rel => exact ⟨i + 1, by omega, by rw [hst.out, hv.out], by go_num, ⟨by repeat (with_reducible first | exact HU.out | apply Upd.alloc | apply Upd.drewN | apply Upd.drew)⟩⟩
          · have e2 : (x.Entities[i].Pos == pos) = false := beq_eq_false_iff_ne.2 h2
            have n2 : (x.Entities[i].Pos != pos) = true := by simp [h2]
            have H2 := Sd.mk h2
            clear h2
            have hv : Sd ((hbF peer pos) q x.Entities[i] = q) := ⟨by simp [hbF, H0.out, H1.out, H2.out]⟩
            go_wp2
            repeat (go_quiet (fail); try go_wp2)
            go_roundg (gk - 1)
            case measure => omega
            case rel => exact ⟨i + 1, by omega, by rw [hst.out, hv.out], by go_num, ⟨by repeat (with_reducible first | exact HU.out | apply Upd.alloc | apply Upd.drewN | apply Upd.drew)⟩⟩
        · have e1 : (x.Entities[i].Peer == peer) = false := beq_eq_false_iff_ne.2 h1
          have n1 : (x.Entities[i].Peer != peer) = true := by simp [h1]
          have H1 := Sd.mk h1
          clear h1
          have hv : Sd ((hbF peer pos) q x.Entities[i] = q) := ⟨by simp [hbF, H0.out, H1.out]⟩
          go_wp2
          repeat (go_quiet (fail); try go_wp2)
          go_roundg (gk - 1)
          case measure => omega
          case rel => exact ⟨i + 1, by omega, by rw [hst.out, hv.out], by go_num, ⟨by repeat (with_reducible first | exact HU.out | apply Upd.alloc | apply Upd.drewN | apply Upd.drew)⟩⟩
      · have e0 : (x.Entities[i].Kind == 3) = false := beq_eq_false_iff_ne.2 h0
        have n0 : (x.Entities[i].Kind != 3) = true := by simp [h0]
        have H0 := Sd.mk h0
        clear h0
        have hv : Sd ((hbF peer pos) q x.Entities[i] = q) := ⟨by simp [hbF, H0.out]⟩
        go_wp2
        repeat (go_quiet (fail); try go_wp2)
        go_roundg (gk - 1)
        case measure => omega
        case rel => exact ⟨i + 1, by omega, by rw [hst.out, hv.out], by go_num, ⟨by repeat (with_reducible first | exact HU.out | apply Upd.alloc | apply Upd.drewN | apply Upd.drew)⟩⟩
    · have e : x.Entities.take i = x.Entities := List.take_of_length_le (by omega)
      rw [e]
      go_wp2
      go_ret
      exact ⟨rfl, HU0.out.then HU.out⟩
set_option maxHeartbeats 1000000 in
set_option maxRecDepth 100000 in
theorem heldBy_i (x : GVat) (cs : List Value) (peer : Int) (pos : Int) (w : World) (h : ki_Vat.K w x cs) (hn : x.Entities.length ≤ 1048576) : Calls Try.prog 9 #[.agg cs.toArray, .int .i64 peer, .int .i64 pos] w (RetInt (x.Entities.foldl (hbF peer pos) 0) w) := by
  obtain ⟨A1, c1, A2, c2, A3, c3, A4, c4, rfl, hl1, hC1, hl2, hC2, hl3, hC3, hl4, hC4⟩ := ki_Vat_K h
  have HC1 := Sd.mk hC1
  have HC2 := Sd.mk hC2
  have HC3 := Sd.mk hC3
  have HC4 := Sd.mk hC4
  clear hC1 hC2 hC3 hC4
  have H := HC1
  clear h
  go_enter Try.func9, Try.ntmps9
  go_wp2
  refine gen_box ?_
  intro wb hB hU0
  have HBX := Sd.mk hB
  have HU0 := Sd.mk hU0
  clear hB hU0
  go_loopg [7, 13] x.Entities.length (fun r u v wr => ∃ i : Nat, i + r = x.Entities.length ∧ u = .int .i64 ((x.Entities.take i).foldl (hbF peer pos) 0) ∧ v = .int .i64 i ∧ Sd (Upd No wb wr))
  case atStart => exact ⟨0, by omega, by simp, rfl, ⟨Upd.refl _ _⟩⟩
  case round =>
    obtain ⟨i, hi, rfl, rfl, HU⟩ := hrel
    have t0 := (HBX.out.no HU.out).at 0 (v := .int .i64 x.Id) rfl
    have t1 := (HBX.out.no HU.out).at 1 (v := .slice A1 x.Entities.length c1) rfl
    have t2 := (HBX.out.no HU.out).at 2 (v := .slice A2 x.Loop.length c2) rfl
    have t3 := (HBX.out.no HU.out).at 3 (v := .slice A3 x.Links.length c3) rfl
    have t4 := (HBX.out.no HU.out).at 4 (v := .slice A4 x.Out.length c4) rfl
    by_cases hlt : i < x.Entities.length
    · obtain ⟨ad, D2, d2, D6, d6, D7, d7, rfl, a0, a1, a2, a3, a4, a5, a6, a7, a8, a9, a10, a11, hm2, hD2, hm6, hD6, hm7, hD7⟩ := ki_Entity_at (C_upd (HU0.out.then HU.out) H.out) i hlt
      have hst := Sd.mk (foldl_step (hbF peer pos) 0 x.Entities i hlt)
      generalize hq : (x.Entities.take i).foldl (hbF peer pos) 0 = q at *
      have HQ := Sd.mk hq
      clear hm2 hD2 hm6 hD6 hm7 hD7 hq
      by_cases h0 : x.Entities[i].Kind = 3
      · have e0 : (x.Entities[i].Kind == 3) = true := beq_iff_eq.2 h0
        have n0 : (x.Entities[i].Kind != 3) = false := by simp [h0]
        have H0 := Sd.mk h0
        clear h0
        by_cases h1 : x.Entities[i].Peer = peer
        · have e1 : (x.Entities[i].Peer == peer) = true := beq_iff_eq.2 h1
          have n1 : (x.Entities[i].Peer != peer) = false := by simp [h1]
          have H1 := Sd.mk h1
          clear h1
          by_cases h2 : x.Entities[i].Pos = pos
          · have e2 : (x.Entities[i].Pos == pos) = true := beq_iff_eq.2 h2
            have n2 : (x.Entities[i].Pos != pos) = false := by simp [h2]
            have H2 := Sd.mk h2
            clear h2
            have hv : Sd ((hbF peer pos) q x.Entities[i] = wrap64 (q + x.Entities[i].Count)) := ⟨by simp [hbF, H0.out, H1.out, H2.out]⟩
            go_wp2
            repeat (go_quiet (fail); try go_wp2)
            go_roundg (gk - 1)
            case measure => omega
            case rel => exact ⟨i + 1, by omega, by rw [hst.out, hv.out], by go_num, ⟨by repeat (with_reducible first | exact HU.out | apply Upd.alloc | apply Upd.drewN | apply Upd.drew)⟩⟩
          · have e2 : (x.Entities[i].Pos == pos) = false := beq_eq_false_iff_ne.2 h2
            have n2 : (x.Entities[i].Pos != pos) = true := by simp [h2]
            have H2 := Sd.mk h2
            clear h2
            have hv : Sd ((hbF peer pos) q x.Entities[i] = q) := ⟨by simp [hbF, H0.out, H1.out, H2.out]⟩
            go_wp2
            repeat (go_quiet (fail); try go_wp2)
            go_roundg (gk - 1)
            case measure => omega
            case rel => exact ⟨i + 1, by omega, by rw [hst.out, hv.out], by go_num, ⟨by repeat (with_reducible first | exact HU.out | apply Upd.alloc | apply Upd.drewN | apply Upd.drew)⟩⟩
        · have e1 : (x.Entities[i].Peer == peer) = false := beq_eq_false_iff_ne.2 h1
          have n1 : (x.Entities[i].Peer != peer) = true := by simp [h1]
          have H1 := Sd.mk h1
          clear h1
          have hv : Sd ((hbF peer pos) q x.Entities[i] = q) := ⟨by simp [hbF, H0.out, H1.out]⟩
          go_wp2
          repeat (go_quiet (fail); try go_wp2)
          go_roundg (gk - 1)
          case measure => omega
          case rel => exact ⟨i + 1, by omega, by rw [hst.out, hv.out], by go_num, ⟨by repeat (with_reducible first | exact HU.out | apply Upd.alloc | apply Upd.drewN | apply Upd.drew)⟩⟩
      · have e0 : (x.Entities[i].Kind == 3) = false := beq_eq_false_iff_ne.2 h0
        have n0 : (x.Entities[i].Kind != 3) = true := by simp [h0]
        have H0 := Sd.mk h0
        clear h0
        have hv : Sd ((hbF peer pos) q x.Entities[i] = q) := ⟨by simp [hbF, H0.out]⟩
        go_wp2
        repeat (go_quiet (fail); try go_wp2)
        go_roundg (gk - 1)
        case measure => omega
        case rel => exact ⟨i + 1, by omega, by rw [hst.out, hv.out], by go_num, ⟨by repeat (with_reducible first | exact HU.out | apply Upd.alloc | apply Upd.drewN | apply Upd.drew)⟩⟩
    · have e : x.Entities.take i = x.Entities := List.take_of_length_le (by omega)
      rw [e]
      go_wp2
      go_ret
      exact ⟨rfl, HU0.out.then HU.out⟩
end Go.Proofs.YtnmgmenipfhjkaaFam
