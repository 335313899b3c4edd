/- spec.MentionsOf. No conditions beyond the sizes that the contracts name. -/
import Derived.Test.YtliejlcoeoiajaaProg
import Derived.Test.YtliejlcoeoiajaaSep2
import Derived.Test.YtliejlcoeoiajaaLst
import Derived.WalkKit
import Derived.KernelRfl
import Derived.RowKit3
import Derived.Deep.LoopGhost
import Derived.Deep.QuietTactic
import Derived.BigQuiet
import Derived.StillTailTactics
import Derived.Test.YtliejlcoeoiajaaK
import Derived.Deep.RegionHeld3
import Derived.Test.YtliejlcoeoiajaaMentions
namespace Go.Proofs.YtliejlcoeoiajaaFam
open Go.RowKit Go.Proofs.YtliejlcoeoiajaaSep Go.Proofs.YtliejlcoeoiajaaT Go.Proofs.YtliejlcoeoiajaaK
set_option linter.unusedVariables false
set_option linter.unusedSimpArgs false
set_option maxHeartbeats 1000000 in
set_option maxRecDepth 100000 in
theorem mentionsOf_s (l : List GMessage) (pos : Int) (A : Option Addr) (c : Nat) (w : World) (h : C ki_Message w A l) (hs : sznS szn_Message l ≤ 1048576) : Calls Try.prog 26 #[.slice A l.length c, .int .i64 pos] w (RetInt (mT pos l) w) := by
  have hn : l.length ≤ 1048576 := by unfold sznS at hs; omega
  have hT := mT_le pos l
  have H := Sd.mk h
  clear h
  go_enter Try.func26, Try.ntmps26
  go_wp2
  go_loopg [5, 6] l.length (fun r u v wr => ∃ i : Nat, i + r = l.length ∧ u = .int .i64 (mT pos (l.take i)) ∧ v = .int .i64 i ∧ Sd (Upd No w wr))
  case atStart => exact ⟨0, by omega, by simp [mT], rfl, ⟨Upd.refl _ _⟩⟩
  case round =>
    obtain ⟨i, hi, rfl, rfl, HU⟩ := hrel
    by_cases hlt : i < l.length
    · obtain ⟨ad, A5, c5, rfl, a0, a1, a2, a3, a4, a5, a6, a7, a8, a9, a10, a11, hl5, hC5⟩ := ki_Message_at (C_upd HU.out H.out) i hlt
      have HC5 := Sd.mk hC5
      clear hC5
      have hst := Sd.mk (mT_step pos l i hlt)
      have hle := mT_take pos l (i + 1)
      go_wp2_with fail
      with_reducible refine (l27Wire_s l[i].Value pos _ _ (ki_Wire_Kmk _ _)).mono ?_
      rintro e w1 ⟨rfl, hu⟩
      have HU1 := Sd.mk (HU.out.then hu)
      have b5 := hu.read a5
      have HC6 := Sd.mk (C_upd hu HC5.out)
      have ho := wOne_le pos l[i].Value
      have hv := Sd.mk (mC_val pos l[i])
      have hcl : ∀ k, (l[i].Args.take k).countP (wireP pos) ≤ l[i].Args.countP (wireP pos) := fun k => (List.take_sublist _ _).countP_le
      rw [hst.out, hv.out] at hle
      clear hu HU HC5 a0 a1 a2 a3 a4 a5 a6 a7 a8 a9 a10 a11
      generalize hq : mT pos (l.take i) = q at *
      generalize ho1 : wOne pos l[i].Value = o at *
      have HQ := Sd.mk hq
      have HO := Sd.mk ho1
      clear hq ho1
      obtain ⟨g0, hg0⟩ : ∃ g, g = gk := ⟨_, rfl⟩
      go_wp2
      go_loopg [5, 7] l[i].Args.length (fun r u v wr => ∃ k : Nat, k + r = l[i].Args.length ∧ u = .int .i64 ((q + o + (l[i].Args.take k).countP (wireP pos) : Nat) : Int) ∧ v = .int .i64 k ∧ Sd (Upd No w1 wr))
      case atStart => exact ⟨0, by omega, by simp, rfl, ⟨Upd.refl _ _⟩⟩
      case round =>
        obtain ⟨k, hk, rfl, rfl, HV⟩ := hrel
        have hal := HC6.out.1
        have c5 := HV.out.read b5
        have hck := hcl k
        by_cases hlk : k < l[i].Args.length
        · obtain ⟨ae, rfl, d0, d1⟩ := ki_Wire_at (C_upd HV.out HC6.out) k hlk
          have hck1 := hcl (k + 1)
          have hcs := Sd.mk (cnt_step pos l[i].Args k hlk)
          rw [hcs.out] at hck1
          have ho2 := wOne_le pos l[i].Args[k]
          generalize hp : (l[i].Args.take k).countP (wireP pos) = p at *
          have HP := Sd.mk hp
          clear hp
          go_wp2_with fail
          with_reducible refine (l27Wire_s l[i].Args[k] pos _ _ (ki_Wire_Kmk _ _)).mono ?_
          rintro e w2 ⟨rfl, hu⟩
          have HV2 := Sd.mk (HV.out.then hu)
          clear hu d0 d1
          go_wp2
          go_roundg (gk - 1)
          case measure => omega
          case rel => exact ⟨k + 1, by omega, congrArg (Value.int .i64) (by rw [hcs.out]; omega), by go_num, HV2⟩
        · have hkn : l[i].Args.take k = l[i].Args := List.take_of_length_le (by omega)
          rw [hkn]
          have HS := Sd.mk hst.out
          go_wp2
          go_roundg (g0 - 1)
          case measure => omega
          case rel => exact ⟨i + 1, by omega, congrArg (Value.int .i64) (by rw [hst.out, hv.out]; omega), by go_num, ⟨HU1.out.then HV.out⟩⟩
    · have e : l.take i = l := List.take_of_length_le (by omega)
      rw [e]
      go_wp2
      go_ret
      exact ⟨rfl, HU.out⟩
end Go.Proofs.YtliejlcoeoiajaaFam
