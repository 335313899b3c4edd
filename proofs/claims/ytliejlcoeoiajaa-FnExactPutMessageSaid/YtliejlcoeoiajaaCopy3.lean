/- Copies of channels. No conditions beyond the sizes that the contracts name. -/
import Derived.Test.YtliejlcoeoiajaaProg
import Derived.Test.YtliejlcoeoiajaaSep2
import Derived.Test.YtliejlcoeoiajaaLst
import Derived.WalkKit
import Derived.KernelRfl
import Derived.RowKit3
import Derived.Deep.LoopGhost
import Derived.Deep.QuietTactic
import Derived.BigQuiet
import Derived.StillTailTactics
import Derived.Test.YtliejlcoeoiajaaK
import Derived.Deep.RegionHeld3
import Derived.Test.YtliejlcoeoiajaaCopy2
namespace Go.Proofs.YtliejlcoeoiajaaFam
open Go.RowKit Go.Proofs.YtliejlcoeoiajaaSep Go.Proofs.YtliejlcoeoiajaaT Go.Proofs.YtliejlcoeoiajaaK
set_option linter.unusedVariables false
set_option linter.unusedSimpArgs false
set_option maxHeartbeats 1000000 in
set_option maxRecDepth 100000 in
theorem copiedChannels_i (l : List GChannel) (A : Option Addr) (c : Nat) (w : World) (h : C ki_Channel w A l) (hn : l.length ≤ 1048576) (hb : ∀ y ∈ l, y.List.length ≤ 1048576 ∧ ∀ z ∈ y.List, z.Args.length ≤ 1048576) : Calls Try.prog 90 #[.slice A l.length c] w (RetRow ki_Channel 120 l w) := by
  have H := Sd.mk h
  clear h
  go_enter Try.func90, Try.ntmps90
  go_wp2
  have hR0 : Sd (R ki_Channel 120 (w.alloc (.cells #[] 120)) (New w) (.slice (some ⟨w.heap.size, 0, none⟩) 0 0) []) := ⟨R_empty w⟩
  have hU0 : Sd (Upd No w (w.alloc (.cells #[] 120))) := ⟨(Upd.refl _ _).alloc _⟩
  go_loopg [3, 9] l.length (fun r u v wr => ∃ i : Nat, i + r = l.length ∧ v = .int .i64 i ∧ Sd (R ki_Channel 120 wr (New w) u (l.take i)) ∧ Sd (Upd No w wr))
  case atStart => exact ⟨0, by omega, rfl, hR0, hU0⟩
  case round =>
    clear hR0 hU0
    obtain ⟨i, hi, rfl, HR, HU⟩ := hrel
    by_cases hlt : i < l.length
    · obtain ⟨ad, A2, c2, rfl, a0, a1, a2, hl2, hC2⟩ := ki_Channel_at (C_upd HU.out H.out) i hlt
      have HC2 := Sd.mk hC2
      clear hC2
      have hbi := hb _ (List.getElem_mem hlt)
      go_wp2_with fail
      with_reducible refine (copied_Channel l[i] _ _ (ki_Channel_Kmk _ _ hl2 ?hc) hbi.1 hbi.2).mono ?_
      case hc => exact C_upd (by repeat (with_reducible first | exact Upd.refl _ _ | apply Upd.alloc)) HC2.out
      rintro e w1 ⟨cs, rfl, hM, hu⟩
      obtain ⟨v2, P2, rfl, hR2, -⟩ := ki_Channel_M hM
      obtain ⟨B2, b2, rfl⟩ := R_slice hR2
      have hu' : Upd No wr w1 := Upd.then (by repeat (with_reducible first | exact Upd.refl _ _ | apply Upd.alloc)) hu
      have hz := HU.out.size
      have hz1 := hu'.size
      have HRA := Sd.mk (R_upd hu' (fun _ _ q => q) (R_lt HR.out))
      have HM := Sd.mk (ki_Channel.M_mono (F' := fun b => wr.heap.size ≤ b) (fun b hb => by simp [New] at hb; omega) hM)
      have HU1 := Sd.mk (HU.out.then hu')
      clear HR hM hu hu' HU a0 a1 a2 hR2
      go_wp2_with (first | (at_builtin; refine R_appOne (d := ki_Channel) (e := 120) rfl _ _ 39 _ _ rfl Try.underlying39 ki_Channel_info rfl (by decide) (by decide) l[i] _ _ _ rfl rfl rfl HRA.out HM.out (fun b hb q => absurd q.2 (by omega)) (by rw [List.length_take, Nat.min_eq_left (by omega)]; omega) ?_) | fail)
      intro v1 w2 hR hu
      have hR' := Sd.mk (R_mono (F' := New w) (fun b q => by simp only [New] at q ⊢; omega) hR)
      have HU2 : Sd (Upd No w w2) := Sd.mk (HU1.out.trans hu (fun _ _ q => q) (fun b hb q => absurd hb (by have := q.1; simp only [New] at this; omega)))
      clear hR hu
      go_wp2
      go_roundg (gk - 1)
      case measure => omega
      case rel => exact ⟨i + 1, by omega, by go_num, hR', HU2⟩
    · go_wp2
      go_ret
      have hRR := HR.out
      rw [List.take_of_length_le (by omega)] at hRR
      exact ⟨_, rfl, hRR, HU.out⟩
set_option maxHeartbeats 1000000 in
set_option maxRecDepth 100000 in
theorem l20Copy_s (l : List GChannel) (A : Option Addr) (c : Nat) (w : World) (h : C ki_Channel w A l) (hn : l.length ≤ 1048576) (hb : ∀ y ∈ l, y.List.length ≤ 1048576 ∧ ∀ z ∈ y.List, z.Args.length ≤ 1048576) : Calls Try.prog 93 #[.slice A l.length c] w (RetRow ki_Channel 120 l w) := by
  have H := Sd.mk h
  clear h
  go_enter Try.func93, Try.ntmps93
  go_wp2
  have hR0 : Sd (R ki_Channel 120 (w.alloc (.cells #[] 120)) (New w) (.slice (some ⟨w.heap.size, 0, none⟩) 0 0) []) := ⟨R_empty w⟩
  have hU0 : Sd (Upd No w (w.alloc (.cells #[] 120))) := ⟨(Upd.refl _ _).alloc _⟩
  go_loopg [3, 4] l.length (fun r u v wr => ∃ i : Nat, i + r = l.length ∧ v = .int .i64 i ∧ Sd (R ki_Channel 120 wr (New w) u (l.take i)) ∧ Sd (Upd No w wr))
  case atStart => exact ⟨0, by omega, rfl, hR0, hU0⟩
  case round =>
    clear hR0 hU0
    obtain ⟨i, hi, rfl, HR, HU⟩ := hrel
    by_cases hlt : i < l.length
    · obtain ⟨ad, A2, c2, rfl, a0, a1, a2, hl2, hC2⟩ := ki_Channel_at H.out i hlt
      have HC2 := Sd.mk (C_upd HU.out hC2)
      have hbi := hb _ (List.getElem_mem hlt)
      clear hC2
      have b0 := HU.out.read a0
      have b1 := HU.out.read a1
      have b2 := HU.out.read a2
      have hz := HU.out.size
      go_wp2_with fail
      go_region_held3 (fun w' => w'.cell? (ad.add (i * 3)) = some (.int .i64 l[i].From) ∧ w'.cell? ⟨(ad.add (i * 3)).block, (ad.add (i * 3)).off + 1, none⟩ = some (.int .i64 l[i].To) ∧ w'.cell? ⟨(ad.add (i * 3)).block, (ad.add (i * 3)).off + 2, none⟩ = some (.slice A2 l[i].List.length c2))
        (first | exact ⟨b0, b1, b2⟩ | exact ⟨(HU1.out).read a0, (HU1.out).read a1, (HU1.out).read a2⟩ | exact ⟨(HU1.out.alloc _).read a0, (HU1.out.alloc _).read a1, (HU1.out.alloc _).read a2⟩ | exact ⟨(HU2.out).read a0, (HU2.out).read a1, (HU2.out).read a2⟩)
        (first
          | (go_at_call 130; (with_reducible refine (l20CopyList_s l[i].List _ _ _ (C_upd (by repeat (with_reducible first | exact Upd.refl _ _ | apply Upd.alloc | apply Upd.drewN | apply Upd.drew)) HC2.out) hbi.1 hbi.2).mono ?_); rintro e w1 ⟨v2, rfl, hR2, hu⟩; obtain ⟨B2, b2, rfl⟩ := R_slice hR2; have hu' : Upd No wr w1 := Upd.then (by repeat (with_reducible first | exact Upd.refl _ _ | apply Upd.alloc | apply Upd.drewN | apply Upd.drew)) hu; have hz1 := hu'.size; have HRA := Sd.mk (R_upd hu' (fun _ _ q => q) (R_lt HR.out)); have HM := Sd.mk (ki_Channel_mk w1 (fun b => wr.heap.size ≤ b) l[i] hR2 (fun k hk => hk)); have HU1 := Sd.mk (HU.out.then hu'); clear hu hR2 hu')
          | (refine R_appStep (d := ki_Channel) (e := 120) rfl _ _ 39 _ _ rfl Try.underlying39 ki_Channel_info rfl (by decide) (by decide) l[i] _ _ _ rfl rfl rfl HRA.out HM.out (fun b hb q => absurd q.2 (by omega)) (by rw [List.length_take, Nat.min_eq_left (by omega)]; omega) ?_; intro v1 w2 hR hu2; rw [← List.take_succ_eq_append_getElem hlt] at hR; have hR' := Sd.mk (R_mono (F' := New w) (fun b q => by simp only [New] at q ⊢; omega) hR); have HU2 : Sd (Upd No w w2) := Sd.mk (HU1.out.trans hu2 (fun _ _ q => q) (fun b hb q => absurd hb (by have := q.1; simp only [New] at this; omega)))))
      all_goals
        go_wp2
        go_roundg (gk - 1)
        case measure => omega
        case rel => exact ⟨i + 1, by omega, by go_num, hR', HU2⟩
    · go_wp2
      go_ret
      have hRR := HR.out
      rw [List.take_of_length_le (by omega)] at hRR
      exact ⟨_, rfl, hRR, HU.out⟩
end Go.Proofs.YtliejlcoeoiajaaFam
