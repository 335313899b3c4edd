/- Copies of lists. No conditions beyond the sizes that the contracts name. -/
import Derived.Test.YtliejlcoeoiajaaProg
import Derived.Test.YtliejlcoeoiajaaSep2
import Derived.Test.YtliejlcoeoiajaaLst
import Derived.WalkKit
import Derived.KernelRfl
import Derived.RowKit3
import Derived.Deep.LoopGhost
import Derived.Deep.QuietTactic
import Derived.BigQuiet
import Derived.StillTailTactics
import Derived.Test.YtliejlcoeoiajaaK
import Derived.Deep.RegionHeld3
import Derived.Deep.RegionLaw
import Derived.Test.YtliejlcoeoiajaaCopy
namespace Go.Proofs.YtliejlcoeoiajaaFam
open Go.RowKit Go.Proofs.YtliejlcoeoiajaaSep Go.Proofs.YtliejlcoeoiajaaT Go.Proofs.YtliejlcoeoiajaaK
set_option linter.unusedVariables false
set_option linter.unusedSimpArgs false
set_option maxHeartbeats 1000000 in
set_option maxRecDepth 100000 in
theorem l20CopyList_s (l : List GMessage) (A : Option Addr) (c : Nat) (w : World) (h : C ki_Message w A l) (hn : l.length ≤ 1048576) (hb : ∀ y ∈ l, y.Args.length ≤ 1048576) : Calls Try.prog 130 #[.slice A l.length c] w (RetRow ki_Message 46 l w) := by
  have H := Sd.mk h
  clear h
  go_enter Try.func130, Try.ntmps130
  go_wp2
  have hR0 : Sd (R ki_Message 46 (w.alloc (.cells #[] 46)) (New w) (.slice (some ⟨w.heap.size, 0, none⟩) 0 0) []) := ⟨R_empty w⟩
  have hU0 : Sd (Upd No w (w.alloc (.cells #[] 46))) := ⟨(Upd.refl _ _).alloc _⟩
  go_loopg [3, 4] l.length (fun r u v wr => ∃ i : Nat, i + r = l.length ∧ v = .int .i64 i ∧ Sd (R ki_Message 46 wr (New w) u (l.take i)) ∧ Sd (Upd No w wr))
  case atStart => exact ⟨0, by omega, rfl, hR0, hU0⟩
  case round =>
    clear hR0 hU0
    obtain ⟨i, hi, rfl, HR, HU⟩ := hrel
    by_cases hlt : i < l.length
    · obtain ⟨ad, A5, c5, rfl, a0, a1, a2, a3, a4, a5, a6, a7, a8, a9, a10, a11, hl5, hC5⟩ := ki_Message_at (C_upd HU.out H.out) i hlt
      have HC5 := Sd.mk hC5
      clear hC5
      have hbi := hb _ (List.getElem_mem hlt)
      go_wp2_with fail
      with_reducible refine (l11Copy_s l[i] _ _ (ki_Message_Kmk _ _ hl5 HC5.out) hbi).mono ?_
      rintro e w1 ⟨cs, rfl, hM, hu⟩
      obtain ⟨v5, P5, rfl, hR5, -⟩ := ki_Message_M hM
      obtain ⟨B5, b5, rfl⟩ := R_slice hR5
      clear hR5
      have hz := HU.out.size
      have hz1 := hu.size
      have HRA := Sd.mk (R_upd hu (fun _ _ q => q) (R_lt HR.out))
      have HM := Sd.mk hM
      have HU1 := Sd.mk (HU.out.then hu)
      clear HR hM hu HU a0 a1 a2 a3 a4 a5 a6 a7 a8 a9 a10 a11
      go_wp2_with (first | (at_builtin; refine R_appOne (d := ki_Message) (e := 46) rfl _ _ 32 _ _ rfl Try.underlying32 ki_Message_info rfl (by decide) (by decide) l[i] _ _ _ rfl rfl rfl HRA.out HM.out (fun b hb q => absurd q.2 (by simp only [New] at hb; omega)) (by rw [List.length_take, Nat.min_eq_left (by omega)]; omega) ?_) | fail)
      intro v1 w2 hR hu
      have hR' := Sd.mk (R_mono (F' := New w) (fun b q => by simp only [New] at q ⊢; omega) hR)
      have HU2 : Sd (Upd No w w2) := Sd.mk (HU1.out.trans hu (fun _ _ q => q) (fun b hb q => absurd hb (by have := q.1; simp only [New] at this; omega)))
      clear hR hu
      go_wp2
      go_roundg (gk - 1)
      case measure => omega
      case rel => exact ⟨i + 1, by omega, by go_num, hR', HU2⟩
    · go_wp2
      go_ret
      have hRR := HR.out
      rw [List.take_of_length_le (by omega)] at hRR
      exact ⟨_, rfl, hRR, HU.out⟩
set_option maxHeartbeats 1000000 in
set_option maxRecDepth 100000 in
theorem copied_Channel (x : GChannel) (cs : List Value) (w : World) (h : ki_Channel.K w x cs) (hn : x.List.length ≤ 1048576) (hb : ∀ y ∈ x.List, y.Args.length ≤ 1048576) : Calls Try.prog 101 #[.agg cs.toArray] w (RetAgg ki_Channel x w) := by
  obtain ⟨A5, c5, rfl, hl5, hC5⟩ := ki_Channel_K h
  have H := Sd.mk hC5
  clear h hC5
  go_enter Try.func101, Try.ntmps101
  go_wp2
  have hr0 : Sd (R ki_Message 46 w (fun b => w.heap.size + 1 + 1 + 1 ≤ b) (.slice none 0 0) []) := ⟨R_nil⟩
  go_loopg [14] x.List.length (fun r v wr => ∃ (i : Nat) (u : Value), i + r = x.List.length ∧ v = .int .i64 i ∧ wr.cell? ⟨w.heap.size + 1 + 1, 0, none⟩ = some (.int .i64 x.From) ∧ wr.cell? ⟨w.heap.size + 1 + 1, 1, none⟩ = some (.int .i64 x.To) ∧ wr.cell? ⟨w.heap.size + 1 + 1, 2, none⟩ = some u ∧ wr.frozen? ⟨w.heap.size + 1 + 1, 2, none⟩ = false ∧
    wr.cell? ⟨w.heap.size + 1, 0, none⟩ = some (.int .i64 0) ∧ wr.cell? ⟨w.heap.size + 1, 1, none⟩ = some (.int .i64 0) ∧ wr.cell? ⟨w.heap.size + 1, 2, none⟩ = some (.slice none 0 0) ∧ wr.frozen? ⟨w.heap.size + 1, 0, none⟩ = false ∧ wr.frozen? ⟨w.heap.size + 1, 1, none⟩ = false ∧ wr.frozen? ⟨w.heap.size + 1, 2, none⟩ = false ∧
    Sd (w.heap.size + 1 + 1 + 1 ≤ wr.heap.size) ∧ Sd (R ki_Message 46 wr (fun b => w.heap.size + 1 + 1 + 1 ≤ b) u (x.List.take i)) ∧ Sd (Upd No w wr))
  case atStart => exact ⟨0, .slice none 0 0, by omega, rfl, by simp [go_sem], by simp [go_sem], by simp [go_sem], by simp [go_sem], by simp [go_sem], by simp [go_sem], by simp [go_sem], by simp [go_sem], by simp [go_sem], by simp [go_sem], ⟨by simp⟩, ⟨R_nil⟩, ⟨by repeat (with_reducible first | exact Upd.refl No _ | apply Upd.alloc)⟩⟩
  case round =>
    clear hr0
    obtain ⟨i, u, hi, rfl, b20, b21, b22, g22, b10, b11, b12, g10, g11, g12, HZ, HR, HU⟩ := hrel
    by_cases hlt : i < x.List.length
    · obtain ⟨ad, A5', c5', rfl, a0, a1, a2, a3, a4, a5, a6, a7, a8, a9, a10, a11, hl5', hC5⟩ := ki_Message_at (C_upd HU.out H.out) i hlt
      have HC5 := Sd.mk hC5
      clear hC5
      have hbi := hb _ (List.getElem_mem hlt)
      obtain ⟨Bu, bu, hv⟩ := R_slice HR.out
      rw [List.length_take, Nat.min_eq_left (by omega)] at hv
      subst hv
      go_wp2_with fail
      clear a0 a1 a2 a3 a4 a5 a6 a7 a8 a9 a10 a11
      have m0 : (wr.alloc (.cells #[.int .i64 x.List[i].Kind, .int .i64 x.List[i].Pos, .int .i64 x.List[i].Answer, .int .i64 x.List[i].Question, .string x.List[i].Name, .slice A5' x.List[i].Args.length c5', .int .i64 x.List[i].Value.Kind, .int .i64 x.List[i].Value.N, .int .i64 x.List[i].Count, .int .i64 x.List[i].Tag.Vat, .int .i64 x.List[i].Tag.Entity, .int .i64 x.List[i].Tag.Seq] 46)).cell? ⟨wr.heap.size, 0, none⟩ = some (.int .i64 x.List[i].Kind) := by simp
      have m1 : (wr.alloc (.cells #[.int .i64 x.List[i].Kind, .int .i64 x.List[i].Pos, .int .i64 x.List[i].Answer, .int .i64 x.List[i].Question, .string x.List[i].Name, .slice A5' x.List[i].Args.length c5', .int .i64 x.List[i].Value.Kind, .int .i64 x.List[i].Value.N, .int .i64 x.List[i].Count, .int .i64 x.List[i].Tag.Vat, .int .i64 x.List[i].Tag.Entity, .int .i64 x.List[i].Tag.Seq] 46)).cell? ⟨wr.heap.size, 1, none⟩ = some (.int .i64 x.List[i].Pos) := by simp
      have m2 : (wr.alloc (.cells #[.int .i64 x.List[i].Kind, .int .i64 x.List[i].Pos, .int .i64 x.List[i].Answer, .int .i64 x.List[i].Question, .string x.List[i].Name, .slice A5' x.List[i].Args.length c5', .int .i64 x.List[i].Value.Kind, .int .i64 x.List[i].Value.N, .int .i64 x.List[i].Count, .int .i64 x.List[i].Tag.Vat, .int .i64 x.List[i].Tag.Entity, .int .i64 x.List[i].Tag.Seq] 46)).cell? ⟨wr.heap.size, 2, none⟩ = some (.int .i64 x.List[i].Answer) := by simp
      have m3 : (wr.alloc (.cells #[.int .i64 x.List[i].Kind, .int .i64 x.List[i].Pos, .int .i64 x.List[i].Answer, .int .i64 x.List[i].Question, .string x.List[i].Name, .slice A5' x.List[i].Args.length c5', .int .i64 x.List[i].Value.Kind, .int .i64 x.List[i].Value.N, .int .i64 x.List[i].Count, .int .i64 x.List[i].Tag.Vat, .int .i64 x.List[i].Tag.Entity, .int .i64 x.List[i].Tag.Seq] 46)).cell? ⟨wr.heap.size, 3, none⟩ = some (.int .i64 x.List[i].Question) := by simp
      have m4 : (wr.alloc (.cells #[.int .i64 x.List[i].Kind, .int .i64 x.List[i].Pos, .int .i64 x.List[i].Answer, .int .i64 x.List[i].Question, .string x.List[i].Name, .slice A5' x.List[i].Args.length c5', .int .i64 x.List[i].Value.Kind, .int .i64 x.List[i].Value.N, .int .i64 x.List[i].Count, .int .i64 x.List[i].Tag.Vat, .int .i64 x.List[i].Tag.Entity, .int .i64 x.List[i].Tag.Seq] 46)).cell? ⟨wr.heap.size, 4, none⟩ = some (.string x.List[i].Name) := by simp
      have m5 : (wr.alloc (.cells #[.int .i64 x.List[i].Kind, .int .i64 x.List[i].Pos, .int .i64 x.List[i].Answer, .int .i64 x.List[i].Question, .string x.List[i].Name, .slice A5' x.List[i].Args.length c5', .int .i64 x.List[i].Value.Kind, .int .i64 x.List[i].Value.N, .int .i64 x.List[i].Count, .int .i64 x.List[i].Tag.Vat, .int .i64 x.List[i].Tag.Entity, .int .i64 x.List[i].Tag.Seq] 46)).cell? ⟨wr.heap.size, 5, none⟩ = some (.slice A5' x.List[i].Args.length c5') := by simp
      have m6 : (wr.alloc (.cells #[.int .i64 x.List[i].Kind, .int .i64 x.List[i].Pos, .int .i64 x.List[i].Answer, .int .i64 x.List[i].Question, .string x.List[i].Name, .slice A5' x.List[i].Args.length c5', .int .i64 x.List[i].Value.Kind, .int .i64 x.List[i].Value.N, .int .i64 x.List[i].Count, .int .i64 x.List[i].Tag.Vat, .int .i64 x.List[i].Tag.Entity, .int .i64 x.List[i].Tag.Seq] 46)).cell? ⟨wr.heap.size, 6, none⟩ = some (.int .i64 x.List[i].Value.Kind) := by simp
      have m7 : (wr.alloc (.cells #[.int .i64 x.List[i].Kind, .int .i64 x.List[i].Pos, .int .i64 x.List[i].Answer, .int .i64 x.List[i].Question, .string x.List[i].Name, .slice A5' x.List[i].Args.length c5', .int .i64 x.List[i].Value.Kind, .int .i64 x.List[i].Value.N, .int .i64 x.List[i].Count, .int .i64 x.List[i].Tag.Vat, .int .i64 x.List[i].Tag.Entity, .int .i64 x.List[i].Tag.Seq] 46)).cell? ⟨wr.heap.size, 7, none⟩ = some (.int .i64 x.List[i].Value.N) := by simp
      have m8 : (wr.alloc (.cells #[.int .i64 x.List[i].Kind, .int .i64 x.List[i].Pos, .int .i64 x.List[i].Answer, .int .i64 x.List[i].Question, .string x.List[i].Name, .slice A5' x.List[i].Args.length c5', .int .i64 x.List[i].Value.Kind, .int .i64 x.List[i].Value.N, .int .i64 x.List[i].Count, .int .i64 x.List[i].Tag.Vat, .int .i64 x.List[i].Tag.Entity, .int .i64 x.List[i].Tag.Seq] 46)).cell? ⟨wr.heap.size, 8, none⟩ = some (.int .i64 x.List[i].Count) := by simp
      have m9 : (wr.alloc (.cells #[.int .i64 x.List[i].Kind, .int .i64 x.List[i].Pos, .int .i64 x.List[i].Answer, .int .i64 x.List[i].Question, .string x.List[i].Name, .slice A5' x.List[i].Args.length c5', .int .i64 x.List[i].Value.Kind, .int .i64 x.List[i].Value.N, .int .i64 x.List[i].Count, .int .i64 x.List[i].Tag.Vat, .int .i64 x.List[i].Tag.Entity, .int .i64 x.List[i].Tag.Seq] 46)).cell? ⟨wr.heap.size, 9, none⟩ = some (.int .i64 x.List[i].Tag.Vat) := by simp
      have m10 : (wr.alloc (.cells #[.int .i64 x.List[i].Kind, .int .i64 x.List[i].Pos, .int .i64 x.List[i].Answer, .int .i64 x.List[i].Question, .string x.List[i].Name, .slice A5' x.List[i].Args.length c5', .int .i64 x.List[i].Value.Kind, .int .i64 x.List[i].Value.N, .int .i64 x.List[i].Count, .int .i64 x.List[i].Tag.Vat, .int .i64 x.List[i].Tag.Entity, .int .i64 x.List[i].Tag.Seq] 46)).cell? ⟨wr.heap.size, 10, none⟩ = some (.int .i64 x.List[i].Tag.Entity) := by simp
      have m11 : (wr.alloc (.cells #[.int .i64 x.List[i].Kind, .int .i64 x.List[i].Pos, .int .i64 x.List[i].Answer, .int .i64 x.List[i].Question, .string x.List[i].Name, .slice A5' x.List[i].Args.length c5', .int .i64 x.List[i].Value.Kind, .int .i64 x.List[i].Value.N, .int .i64 x.List[i].Count, .int .i64 x.List[i].Tag.Vat, .int .i64 x.List[i].Tag.Entity, .int .i64 x.List[i].Tag.Seq] 46)).cell? ⟨wr.heap.size, 11, none⟩ = some (.int .i64 x.List[i].Tag.Seq) := by simp
      have HU0 : Sd (Upd No wr (wr.alloc (.cells #[.int .i64 x.List[i].Kind, .int .i64 x.List[i].Pos, .int .i64 x.List[i].Answer, .int .i64 x.List[i].Question, .string x.List[i].Name, .slice A5' x.List[i].Args.length c5', .int .i64 x.List[i].Value.Kind, .int .i64 x.List[i].Value.N, .int .i64 x.List[i].Count, .int .i64 x.List[i].Tag.Vat, .int .i64 x.List[i].Tag.Entity, .int .i64 x.List[i].Tag.Seq] 46))) := ⟨(Upd.refl _ _).alloc _⟩
      generalize wr.alloc (.cells #[.int .i64 x.List[i].Kind, .int .i64 x.List[i].Pos, .int .i64 x.List[i].Answer, .int .i64 x.List[i].Question, .string x.List[i].Name, .slice A5' x.List[i].Args.length c5', .int .i64 x.List[i].Value.Kind, .int .i64 x.List[i].Value.N, .int .i64 x.List[i].Count, .int .i64 x.List[i].Tag.Vat, .int .i64 x.List[i].Tag.Entity, .int .i64 x.List[i].Tag.Seq] 46) = wm at *
      have hz := HZ.out
      have hz0 := HU0.out.size
      have s2 := HU0.out.read b22
      have cset : ∀ (ww : World) (u : Value) (o : Nat), (ww.setCell ⟨w.heap.size + 1 + 1, 2, none⟩ u).cell? ⟨wr.heap.size, o, none⟩ = ww.cell? ⟨wr.heap.size, o, none⟩ := fun ww u o => World.cell?_setCell_other _ _ _ _ (fun q => by injection q with q; have := HZ.out; omega)
      have gw := (HU0.out.frozenF (b := w.heap.size + 1 + 1) (by omega) (fun q => q) 2).trans g22
      have HC6 := Sd.mk (C_upd HU0.out HC5.out)
      have HR1 := Sd.mk (R_upd HU0.out (fun _ _ q => q) (R_lt HR.out))
      have mlt : wr.heap.size < wm.heap.size := World.block_lt_of_cell? wm _ m0
      clear HC5 HR
      go_region_law
        (first
          | (go_simp; go_at_call 92; (with_reducible refine (copied_Message x.List[i] _ _ (ki_Message_Kmk _ _ hl5' (C_upd (by repeat (with_reducible first | exact Upd.refl _ _ | apply Upd.alloc | apply Upd.drewN | apply Upd.drew)) HC6.out)) hbi).mono ?_); rintro e w1 ⟨cs, rfl, hM, hu⟩; obtain ⟨v5, P5, rfl, hR5, -⟩ := ki_Message_M hM; obtain ⟨B5, b5, rfl⟩ := R_slice hR5; have HY : Sd (Upd No wm w1) := Sd.mk (Upd.then (by repeat (with_reducible first | exact Upd.refl _ _ | apply Upd.alloc | apply Upd.drewN | apply Upd.drew)) hu); have HRA := Sd.mk (R_upd HY.out (fun _ _ q => q) HR1.out); have HM := Sd.mk (ki_Message.M_mono (F' := fun b => wm.heap.size ≤ b) (fun b hb => hb) hM); have c1 := HY.out.read s2; have hz1 := HY.out.size; have mz : wr.heap.size < w1.heap.size := (by omega); have bz : w.heap.size + 1 + 1 < w1.heap.size := (by omega); have nm : ¬ (w.heap.size + 1 + 1 + 1 ≤ wr.heap.size ∧ wr.heap.size < wr.heap.size) := (by omega); have nb : ¬ (w.heap.size + 1 + 1 + 1 ≤ w.heap.size + 1 + 1 ∧ w.heap.size + 1 + 1 < wr.heap.size) := (by omega); clear hM hR5 hu)
          | ((refine R_appStep (d := ki_Message) (e := 46) rfl _ _ 32 _ _ rfl Try.underlying32 ki_Message_info rfl (by decide) (by decide) x.List[i] _ _ _ rfl rfl rfl HRA.out HM.out (fun b hb q => absurd q.2 (by omega)) (by rw [List.length_take, Nat.min_eq_left (by omega)]; omega) ?_); intro v2 w2 hR hu2; rw [← List.take_succ_eq_append_getElem hlt] at hR; obtain ⟨B2, b2, hv2⟩ := R_slice hR; rw [List.length_take, Nat.min_eq_left (by omega)] at hv2; subst hv2; have c22 := (hu2.cellsF bz nb 2).trans (HY.out.read s2); have b1z : w.heap.size + 1 < w1.heap.size := (by omega); have nb1 : ¬ (w.heap.size + 1 + 1 + 1 ≤ w.heap.size + 1 ∧ w.heap.size + 1 < wr.heap.size) := (by omega); have RD2 := Sd.mk (fun o => (hu2.cellsF bz nb o).trans ((HY.out.cellsF (by omega) (fun q => q) o).trans (HU0.out.cellsF (by omega) (fun q => q) o))); have RD1 := Sd.mk (fun o => (hu2.cellsF b1z nb1 o).trans ((HY.out.cellsF (by omega) (fun q => q) o).trans (HU0.out.cellsF (by omega) (fun q => q) o))); have FD1 := Sd.mk (fun o => (hu2.frozenF b1z nb1 o).trans ((HY.out.frozenF (by omega) (fun q => q) o).trans (HU0.out.frozenF (by omega) (fun q => q) o))); have HU2 : Sd (Upd No w w2) := Sd.mk ((HU.out.then (HU0.out.then HY.out)).trans hu2 (fun _ _ q => q) (fun b hb q => absurd hb (by omega))); have hR3 := Sd.mk (R_mono (F' := fun b => w.heap.size + 1 + 1 + 1 ≤ b) (fun b q => by omega) hR); have hz2 := Sd.mk hu2.size; have f22 := (hu2.frozenF bz nb 2).trans ((HY.out.frozenF (by omega) (fun q => q) 2).trans gw)))
      all_goals
        clear m0 m1 m2 m3 m4 m5 m6 m7 m8 m9 m10 m11 s2
        go_wp2
        go_roundg (gk - 1)
        case measure => omega
        case rel =>
          have n2 : ¬ w.heap.size + 1 + 1 + 1 ≤ w.heap.size + 1 + 1 := by omega
          refine ⟨i + 1, _, by omega, by go_num, (World.cell?_setCell_other _ _ _ _ (by simp)).trans ((RD2.out 0).trans b20), (World.cell?_setCell_other _ _ _ _ (by simp)).trans ((RD2.out 1).trans b21), World.cell?_setCell_same _ _ _ c22, by simp [go_sem, f22], (World.cell?_setCell_other _ _ _ _ (by simp)).trans ((RD1.out 0).trans b10), (World.cell?_setCell_other _ _ _ _ (by simp)).trans ((RD1.out 1).trans b11), (World.cell?_setCell_other _ _ _ _ (by simp)).trans ((RD1.out 2).trans b12), by simp [FD1.out 0, g10], by simp [FD1.out 1, g11], by simp [FD1.out 2, g12], ⟨by simp only [World.size_setCell]; have := hz2.out; omega⟩, ⟨?_⟩, ⟨by repeat (with_reducible first | exact HU2.out | apply Upd.put2)⟩⟩
          exact R_keep hR3.out (by repeat (with_reducible first | exact Upd.refl _ _ | apply Upd.putP n2))
    · obtain rfl : i = x.List.length := by omega
      obtain ⟨Bu, bu, hv⟩ := R_slice HR.out
      rw [List.take_length] at hv HR
      subst hv
      have n1 : ¬ w.heap.size + 1 + 1 + 1 ≤ w.heap.size + 1 := by omega
      go_wp2
      refine bodyPost_ret (v := .agg #[.int .i64 x.From, .int .i64 x.To, .slice Bu x.List.length bu]) (by simp [results, Try.results101, go_sem, b10, b11, b12]) rfl ⟨_, rfl, ?_, by repeat (with_reducible first | exact HU.out | apply Upd.put1)⟩
      exact ki_Channel_mk _ _ x (R_keep HR.out (by repeat (with_reducible first | exact Upd.refl _ _ | apply Upd.putP n1))) (fun k hk => by simp only [New]; omega)
end Go.Proofs.YtliejlcoeoiajaaFam
