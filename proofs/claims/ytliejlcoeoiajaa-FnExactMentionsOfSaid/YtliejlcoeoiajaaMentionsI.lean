/- impl.MentionsOf. No conditions beyond the sizes that the contracts name. -/
import Derived.Test.YtliejlcoeoiajaaProg
import Derived.Test.YtliejlcoeoiajaaSep2
import Derived.Test.YtliejlcoeoiajaaLst
import Derived.WalkKit
import Derived.KernelRfl
import Derived.RowKit3
import Derived.Deep.LoopGhost
import Derived.Deep.QuietTactic
import Derived.BigQuiet
import Derived.StillTailTactics
import Derived.Test.YtliejlcoeoiajaaK
import Derived.Deep.RegionHeld3
import Derived.Deep.RegionLaw
import Derived.Test.YtliejlcoeoiajaaMentions
namespace Go.Proofs.YtliejlcoeoiajaaFam
open Go.RowKit Go.Proofs.YtliejlcoeoiajaaSep Go.Proofs.YtliejlcoeoiajaaT Go.Proofs.YtliejlcoeoiajaaK
set_option linter.unusedVariables false
set_option linter.unusedSimpArgs false
set_option maxHeartbeats 1000000 in
set_option maxRecDepth 100000 in
theorem mentionsOf_i (l : List GMessage) (pos : Int) (A : Option Addr) (c : Nat) (w : World) (h : C ki_Message w A l) (hs : sznS szn_Message l ≤ 1048576) (hba : ∀ y ∈ l, y.Args.length ≤ 1048576) : Calls Try.prog 27 #[.slice A l.length c, .int .i64 pos] w (RetInt (mT pos l) w) := by
  have hn : l.length ≤ 1048576 := by unfold sznS at hs; omega
  have hT := mT_le pos l
  have H := Sd.mk h
  clear h
  go_enter Try.func27, Try.ntmps27
  go_wp2
  go_loopg [5, 12] l.length (fun r u v wr => ∃ i : Nat, i + r = l.length ∧ u = .int .i64 (mT pos (l.take i)) ∧ v = .int .i64 i ∧ Sd (Upd No w wr))
  case atStart => exact ⟨0, by omega, by simp [mT], rfl, ⟨Upd.refl _ _⟩⟩
  case round =>
    obtain ⟨i, hi, rfl, rfl, HU⟩ := hrel
    by_cases hlt : i < l.length
    · obtain ⟨ad, A5, c5, rfl, a0, a1, a2, a3, a4, a5, a6, a7, a8, a9, a10, a11, hl5, hC5⟩ := ki_Message_at (C_upd HU.out H.out) i hlt
      have HC5 := Sd.mk hC5
      clear hC5
      have hst := Sd.mk (mT_step pos l i hlt)
      have hle := mT_take pos l (i + 1)
      have hbi := hba _ (List.getElem_mem hlt)
      have hv := Sd.mk (mC_vapp pos l[i])
      rw [hst.out, hv.out] at hle
      go_wp2_with fail
      refine gen_box ?_
      intro wm hB hUm
      have m5 := hB.at 5 (v := .slice A5 l[i].Args.length c5) rfl
      have m6 := hB.at 6 (v := .int .i64 l[i].Value.Kind) rfl
      have m7 := hB.at 7 (v := .int .i64 l[i].Value.N) rfl
      have HC6 := Sd.mk (C_upd hUm HC5.out)
      have HUm := Sd.mk (HU.out.then hUm)
      clear hB hUm HU HC5 a0 a1 a2 a3 a4 a5 a6 a7 a8 a9 a10 a11
      go_region_held3 (fun w' => w'.cell? ⟨wr.heap.size, 5, none⟩ = some (.slice A5 l[i].Args.length c5) ∧ w'.cell? ⟨wr.heap.size, 6, none⟩ = some (.int .i64 l[i].Value.Kind) ∧ w'.cell? ⟨wr.heap.size, 7, none⟩ = some (.int .i64 l[i].Value.N))
        (first | exact ⟨m5, m6, m7⟩ | exact ⟨HY.out.read m5, HY.out.read m6, HY.out.read m7⟩ | exact ⟨(HY.out.alloc _).read m5, (HY.out.alloc _).read m6, (HY.out.alloc _).read m7⟩ | exact ⟨((Upd.refl No wm).alloc _).read m5, ((Upd.refl No wm).alloc _).read m6, ((Upd.refl No wm).alloc _).read m7⟩ | exact ⟨HZ.out.read m5, HZ.out.read m6, HZ.out.read m7⟩ | (trace_state; done))
        (first
          | (go_at_call 84; (with_reducible refine (clone_Wire l[i].Args _ _ _ (C_upd (by repeat (with_reducible first | exact Upd.refl _ _ | apply Upd.alloc | apply Upd.drewN | apply Upd.drew)) HC6.out) hbi).mono ?_); rintro e w1 ⟨v5, rfl, hR5, hu⟩; obtain ⟨B5, b5, rfl⟩ := R_slice hR5; have HX := Sd.mk hu; have HY : Sd (Upd No wm w1) := Sd.mk (Upd.then (by repeat (with_reducible first | exact Upd.refl _ _ | apply Upd.alloc | apply Upd.drewN | apply Upd.drew)) hu); have HRA := Sd.mk (R_mono (F' := fun b => wm.heap.size ≤ b) (fun b q => (by simp [New] at q; omega)) hR5); have hzm := HY.out.size; clear hu hR5)
          | ((first | refine R_appStep (d := ki_Wire) (e := 42) rfl _ _ 40 _ _ rfl Try.underlying40 ki_Wire_info rfl (by decide) (by decide) l[i].Value _ No _ rfl rfl rfl HRA.out (ki_Wire_mk _ No l[i].Value) (fun b hb q => hb) (by omega) ?_ | refine R_appAtStep (d := ki_Wire) (e := 42) rfl _ _ 40 _ _ rfl Try.underlying40 ki_Wire_info rfl (by decide) (by decide) l[i].Value _ No _ rfl rfl (by repeat (with_reducible first | exact Blk.new _ _ _ | apply Blk.drew | apply Blk.drewN | apply Blk.alloc | refine Blk.no ?_ HX.out)) HRA.out (ki_Wire_mk _ No l[i].Value) (fun b hb q => hb) (by omega) ?_); intro v1 w2 hR hu2; obtain ⟨Bv, bv, rfl⟩ := R_slice hR; have HR2 := Sd.mk (R_C hR); have hl2 := R_len hR; have HZ : Sd (Upd No wm w2) := Sd.mk (HY.out.trans hu2 (fun _ _ q => q) (fun b hb q => absurd hb (by omega))); clear hR hu2))
      all_goals
        rename_i hH
        clear hH m5 m6 m7
        have hyl : (l[i].Args.length : Int) + 1 = ((l[i].Args ++ [l[i].Value]).length : Int) := by simp
        rw [hyl]
        generalize hys : l[i].Args ++ [l[i].Value] = ys at *
        have hyn : ys.length ≤ 1048577 := by omega
        have HYL := Sd.mk hyl
        have HYS := Sd.mk hys
        have HU2 := Sd.mk (HUm.out.then HZ.out)
        clear hyl hys HX HY HRA HZ HC6 hzm hl5
        have hq1 : mT pos (l.take i) ≤ mT pos l := mT_take pos l i
        have hcl : ∀ k, (ys.take k).countP (wireP pos) ≤ ys.countP (wireP pos) := fun k => (List.take_sublist _ _).countP_le
        generalize hq : mT pos (l.take i) = q at *
        have HQ := Sd.mk hq
        clear hq
        obtain ⟨g0, hg0⟩ : ∃ g, g = gk := ⟨_, rfl⟩
        go_wp2
        go_loopg [5, 24] ys.length (fun r u v wr => ∃ k : Nat, k + r = ys.length ∧ u = .int .i64 ((q + (ys.take k).countP (wireP pos) : Nat) : Int) ∧ v = .int .i64 k ∧ Sd (Upd No w2 wr))
        case atStart => exact ⟨0, by omega, by simp, rfl, ⟨Upd.refl _ _⟩⟩
        case round =>
          obtain ⟨k, hk, rfl, rfl, HV⟩ := hrel
          have hck := hcl k
          by_cases hlk : k < ys.length
          · obtain ⟨ae, rfl, d0, d1⟩ := ki_Wire_at (C_upd HV.out HR2.out) k hlk
            have hck1 := hcl (k + 1)
            have hcs := Sd.mk (cnt_step pos ys k hlk)
            rw [hcs.out] at hck1
            have ho2 := wOne_le pos ys[k]
            generalize hp : (ys.take k).countP (wireP pos) = p at *
            have HP := Sd.mk hp
            clear hp
            by_cases h1 : ys[k].Kind = 1
            · have e1 : (ys[k].Kind == 1) = true := beq_iff_eq.2 h1
              have H1 := Sd.mk h1
              clear h1
              by_cases h2 : ys[k].N = pos
              · have e2 : (ys[k].N == pos) = true := beq_iff_eq.2 h2
                have H2 := Sd.mk h2
                clear h2
                have ho : Sd (wOne pos ys[k] = 1) := ⟨by simp [wOne, wireP, e1, e2]⟩
                rw [ho.out] at hck1
                go_wp2
                repeat (go_quiet (fail); try go_wp2)
                go_roundg (gk - 1)
                case measure => omega
                case rel => exact ⟨k + 1, by omega, congrArg (Value.int .i64) (by rw [hcs.out]; rw [ho.out]; omega), by go_num, ⟨by repeat (with_reducible first | exact HV.out | apply Upd.alloc | apply Upd.drewN | apply Upd.drew)⟩⟩
              · have e2 : (ys[k].N == pos) = false := beq_eq_false_iff_ne.2 h2
                have H2 := Sd.mk h2
                clear h2
                have ho : Sd (wOne pos ys[k] = 0) := ⟨by simp [wOne, wireP, e1, e2]⟩
                go_wp2
                repeat (go_quiet (fail); try go_wp2)
                go_roundg (gk - 1)
                case measure => omega
                case rel => exact ⟨k + 1, by omega, congrArg (Value.int .i64) (by rw [hcs.out]; rw [ho.out]; omega), by go_num, ⟨by repeat (with_reducible first | exact HV.out | apply Upd.alloc | apply Upd.drewN | apply Upd.drew)⟩⟩
            · have e1 : (ys[k].Kind == 1) = false := beq_eq_false_iff_ne.2 h1
              have H1 := Sd.mk h1
              clear h1
              have ho : Sd (wOne pos ys[k] = 0) := ⟨by simp [wOne, wireP, e1]⟩
              go_wp2
              repeat (go_quiet (fail); try go_wp2)
              go_roundg (gk - 1)
              case measure => omega
              case rel => exact ⟨k + 1, by omega, congrArg (Value.int .i64) (by rw [hcs.out]; rw [ho.out]; omega), by go_num, ⟨by repeat (with_reducible first | exact HV.out | apply Upd.alloc | apply Upd.drewN | apply Upd.drew)⟩⟩
          · have hkn : ys.take k = ys := List.take_of_length_le (by omega)
            rw [hkn]
            go_wp2
            go_roundg (g0 - 1)
            case measure => omega
            case rel => exact ⟨i + 1, by omega, congrArg (Value.int .i64) (by rw [hst.out, hv.out]), by go_num, ⟨HU2.out.then HV.out⟩⟩
    · have e : l.take i = l := List.take_of_length_le (by omega)
      rw [e]
      go_wp2
      go_ret
      exact ⟨rfl, HU.out⟩
end Go.Proofs.YtliejlcoeoiajaaFam
