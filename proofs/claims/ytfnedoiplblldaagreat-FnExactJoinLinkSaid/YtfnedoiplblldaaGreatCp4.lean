/- Structs copied: the reference's sents and entities. No conditions beyond the sizes that the contracts name. -/
import Derived.Test.YtfnedoiplblldaaGreatProg
import Derived.Test.YtfnedoiplblldaaGreatSep2
import Derived.Test.YtfnedoiplblldaaGreatLst
import Derived.WalkKit
import Derived.KernelRfl
import Derived.RowKit3
import Derived.Deep.LoopGhost
import Derived.Deep.QuietTactic
import Derived.BigQuiet
import Derived.StillTailTactics
import Derived.Test.YtfnedoiplblldaaGreatK
import Derived.Deep.RegionHeld3
import Derived.Deep.RegionLaw
import Derived.Deep.DeepCutAuto
import Derived.Test.YtfnedoiplblldaaGreatCp1
import Derived.Test.YtfnedoiplblldaaGreatSep5
namespace Go.Proofs.YtfnedoiplblldaaGreatFam
open Go.RowKit Go.Proofs.YtfnedoiplblldaaGreatSep Go.Proofs.YtfnedoiplblldaaGreatT Go.Proofs.YtfnedoiplblldaaGreatK
set_option linter.unusedVariables false
set_option linter.unusedSimpArgs false
set_option maxHeartbeats 1000000 in
set_option maxRecDepth 100000 in
theorem l9CopySents_s (l : List GSent) (A : Option Addr) (c : Nat) (w : World) (h : C ki_Sent w A l) (hs : sznS szn_Sent l ≤ 4194304) : Calls Tryz.prog 157 #[.slice A l.length c] w (RetRow ki_Sent 235 l w) := by
  have hn : l.length ≤ 4194304 := by unfold sznS at hs; omega
  have H := Sd.mk h
  have HS := Sd.mk hs
  clear h hs
  go_enter Tryz.func157, Tryz.ntmps157
  go_wp2
  have hR0 : Sd (R ki_Sent 235 (w.alloc (.cells #[] 235)) (New w) (.slice (some ⟨w.heap.size, 0, none⟩) 0 0) []) := ⟨R_empty w⟩
  have hU0 : Sd (Upd No w (w.alloc (.cells #[] 235))) := ⟨(Upd.refl _ _).alloc _⟩
  go_loopg [3, 4] l.length (fun r u v wr => ∃ i : Nat, i + r = l.length ∧ v = .int .i64 i ∧ Sd (R ki_Sent 235 wr (New w) u (l.take i)) ∧ Sd (Upd No w wr))
  case atStart => exact ⟨0, by omega, rfl, hR0, hU0⟩
  case round =>
    clear hR0 hU0
    obtain ⟨i, hi, rfl, HR, HU⟩ := hrel
    by_cases hlt : i < l.length
    · obtain ⟨ad, A2, c2, rfl, a0, a1, a2, a3, a4, a5, a6, hl2, hC2⟩ := ki_Sent_at (C_upd HU.out H.out) i hlt
      have HCM := Sd.mk (CM_of_flat flat_Value hC2)
      clear hC2
      have hsi : szn_Sent l[i] ≤ 4194304 := by have := sumS_at szn_Sent l i hlt; have := HS.out; unfold sznS at *; omega
      have hna : l[i].Args.length ≤ 4194304 := by unfold szn_Sent sznS at hsi; omega
      have p2 := fun ob ob' => (((Upd.refl No wr).alloc ob).alloc ob').read a2
      have HRL := Sd.mk (R_lt HR.out)
      go_wp2_with (first | (at_builtin; refine R_appAny (d := ki_Value) (e := 95) (ys := l[i].Args) (xs := []) (F := New _) rfl _ _ 85 _ _ rfl Tryz.underlying85 ki_Value_info rfl (by decide) (by decide) A2 c2 (fun _ => No) rfl rfl (R_emptyAt _ _ (by simp)) (CM_upd (by repeat (with_reducible first | exact Upd.refl _ _ | apply Upd.alloc | apply Upd.drewN | apply Upd.drew)) HCM.out) (fun _ _ q => q.elim) (fun _ _ _ q => q.elim) (by simp; omega) ?_) | fail)
      intro vA w1 hRA hu
      obtain ⟨B2, b2, rfl⟩ := R_slice hRA
      have hz1 : wr.heap.size + 1 + 1 ≤ w1.heap.size := by have := hu.size; (try simp at this); omega
      have HRA : Sd (R ki_Value 95 w1 (fun b => wr.heap.size + 1 ≤ b) (.slice B2 l[i].Args.length b2) l[i].Args) := ⟨R_mono (fun b q => by simp [New, No] at q; omega) hRA⟩
      have cc := fun o => hu.cellsF (b := wr.heap.size) (by first | (simp; done) | (simp; omega)) (by first | (simp [New]; done) | (simp [New]; omega)) o
      have cf := fun o => hu.frozenF (b := wr.heap.size) (by first | (simp; done) | (simp; omega)) (by first | (simp [New]; done) | (simp [New]; omega)) o
      have HU1 : Sd (Upd No wr w1) := Sd.mk (Upd.trans (F := No) (by repeat (with_reducible first | exact Upd.refl _ _ | apply Upd.alloc)) hu (fun _ _ q => q) (fun b hb q => by simp [New] at q; omega))
      have HR1 := Sd.mk (R_no HU1.out HRL.out)
      clear hu hRA a0 a1 a2 a3 a4 a5 a6 p2 HR HRL
      go_wp2_with (first | (at_builtin; refine R_appOne (d := ki_Sent) (e := 235) rfl _ _ 64 _ _ rfl Tryz.underlying64 ki_Sent_info rfl (by decide) (by decide) l[i] _ (fun b => wr.heap.size + 1 ≤ b) _ (by first | rfl | simp) rfl rfl (R_upd (F := fun b => New w b ∧ b < wr.heap.size) (G := fun b => b = wr.heap.size) (by repeat (first | (with_reducible exact Upd.refl _ _) | (refine Upd.set ?_ _ _ (.inr rfl)))) (fun b q z => by omega) HR1.out) (ki_Sent_mk _ _ l[i] (R_upd (G := fun b => b = wr.heap.size) (by repeat (first | (with_reducible exact Upd.refl _ _) | (refine Upd.set ?_ _ _ (.inr rfl)))) (fun b q z => by omega) HRA.out) (fun _ q => q)) (fun b hb q => by have := q.2; omega) (by rw [List.length_take, Nat.min_eq_left (by omega)]; omega) ?_) | fail)
      intro v1 w2 hR hu
      have hz := HU.out.size
      have hR' := Sd.mk (R_mono (F' := New w) (fun b q => by rcases q with q | q | q; exact q.1; (simp only [New]; omega); ((try simp at q); simp only [New]; omega)) hR)
      have HU2 : Sd (Upd No w w2) := Sd.mk (Upd.trans (F := fun b => b = wr.heap.size) (Upd.trans (F := No) (HU.out.then HU1.out) (by repeat (first | (with_reducible exact Upd.refl _ _) | (refine Upd.set ?_ _ _ (.inr rfl)))) (fun _ _ q => q.elim) (fun _ _ q => q)) hu (fun b hb q => absurd hb (by omega)) (fun b hb q => absurd hb (by have := q.1; simp only [New] at this; omega)))
      clear hR hu
      go_wp2
      go_roundg (gk - 1)
      case measure => omega
      case rel => exact ⟨i + 1, by omega, by go_num, hR', HU2⟩
    · go_wp2
      go_ret
      have hRR := HR.out
      rw [List.take_of_length_le (by omega)] at hRR
      exact ⟨_, rfl, hRR, HU.out⟩
set_option maxHeartbeats 1000000 in
set_option maxRecDepth 100000 in
theorem l9Copy_s (x : GEntity) (cs : List Value) (w : World) (h : ki_Entity.K w x cs) (hs : szn_Entity x ≤ 4194304) : Calls Tryz.prog 158 #[.agg cs.toArray] w (RetAgg ki_Entity x w) := by
  obtain ⟨A2, c2, A6, c6, A7, c7, rfl, hl2, hC2, hl6, hC6, hl7, hC7⟩ := ki_Entity_K h
  have HC2 := Sd.mk hC2
  have HC6 := Sd.mk hC6
  have HC7 := Sd.mk hC7
  clear hC2 hC6 hC7
  clear h
  have s_Slots : sznS szn_Value x.Slots ≤ 4194304 := by unfold szn_Entity at hs; omega
  have HCM2 := Sd.mk (CM_of_flat flat_Value HC2.out)
  have n_Slots : x.Slots.length ≤ 4194304 := by unfold sznS at s_Slots; omega
  have S_Slots := Sd.mk s_Slots
  have s_Queue : sznS szn_Sent x.Queue ≤ 4194304 := by unfold szn_Entity at hs; omega
  have n_Queue : x.Queue.length ≤ 4194304 := by unfold sznS at s_Queue; omega
  have S_Queue := Sd.mk s_Queue
  have s_Askers : sznS szn_Asker x.Askers ≤ 4194304 := by unfold szn_Entity at hs; omega
  have HCM7 := Sd.mk (CM_of_flat flat_Asker HC7.out)
  have n_Askers : x.Askers.length ≤ 4194304 := by unfold sznS at s_Askers; omega
  have S_Askers := Sd.mk s_Askers
  clear hs s_Slots s_Queue s_Askers
  go_enter Tryz.func158, Tryz.ntmps158
  go_wp2_with (first | (at_builtin; refine R_appAny (d := ki_Value) (e := 95) (ys := x.Slots) (xs := []) (F := New _) rfl _ _ 85 _ _ rfl Tryz.underlying85 ki_Value_info rfl (by decide) (by decide) A2 c2 (fun _ => No) rfl rfl (R_emptyAt _ _ (by simp)) (CM_upd (by repeat (with_reducible first | exact Upd.refl No _ | apply Upd.put2 | apply Upd.put1 | apply Upd.put0 | apply Upd.alloc | apply Upd.drewN | apply Upd.drew)) HCM2.out) (fun _ _ q => q.elim) (fun _ _ _ q => q.elim) (by simp; omega) ?_) | fail)
  intro v2 w_Slots hR2 hu
  obtain ⟨B2, b2, rfl⟩ := R_slice hR2
  obtain ⟨P2, hR2', g2, l2⟩ : ∃ P : Nat → Prop, R ki_Value 95 w_Slots P (.slice B2 x.Slots.length b2) x.Slots ∧ (∀ b, P b → w.heap.size + 1 + 1 + 1 ≤ b) ∧ (∀ b, P b → b < w_Slots.heap.size) := ⟨_, R_lt (R_mono (F' := fun b => w.heap.size + 1 + 1 + 1 ≤ b) (fun b q => (by simp [New, No] at q; omega)) hR2), fun b q => q.1, fun b q => q.2⟩
  have n0_2 : ¬ P2 (w.heap.size) := fun q => (by have := g2 _ q; omega)
  have n1_2 : ¬ P2 (w.heap.size + 1) := fun q => (by have := g2 _ q; omega)
  have n2_2 : ¬ P2 (w.heap.size + 1 + 1) := fun q => (by have := g2 _ q; omega)
  have HR2 := Sd.mk hR2'
  have GP2 := Sd.mk g2
  have LT2 := Sd.mk l2
  clear hR2 hR2' g2 l2
  have HB_Slots : Sd (Upd No w w_Slots) := Sd.mk (Upd.trans (F := No) (by repeat (with_reducible first | exact Upd.refl No _ | apply Upd.put2 | apply Upd.put1 | apply Upd.put0 | apply Upd.alloc | apply Upd.drewN | apply Upd.drew)) hu (fun _ _ q => q) (fun b hb q => (by simp [New] at q; omega)))
  have cc0_Slots := fun o => hu.cellsF (b := w.heap.size) (by first | omega | (simp; done) | (simp; omega)) (by first | (simp [New]; done) | (simp [New]; omega)) o
  have cf0_Slots := fun o => hu.frozenF (b := w.heap.size) (by first | omega | (simp; done) | (simp; omega)) (by first | (simp [New]; done) | (simp [New]; omega)) o
  have cc1_Slots := fun o => hu.cellsF (b := w.heap.size + 1) (by first | omega | (simp; done) | (simp; omega)) (by first | (simp [New]; done) | (simp [New]; omega)) o
  have cf1_Slots := fun o => hu.frozenF (b := w.heap.size + 1) (by first | omega | (simp; done) | (simp; omega)) (by first | (simp [New]; done) | (simp [New]; omega)) o
  have cc2_Slots := fun o => hu.cellsF (b := w.heap.size + 1 + 1) (by first | omega | (simp; done) | (simp; omega)) (by first | (simp [New]; done) | (simp [New]; omega)) o
  have cf2_Slots := fun o => hu.frozenF (b := w.heap.size + 1 + 1) (by first | omega | (simp; done) | (simp; omega)) (by first | (simp [New]; done) | (simp [New]; omega)) o
  have ca0_Slots : ∀ p u ob o, ((w_Slots.setCell p u).alloc ob).cell? ⟨w.heap.size, o, none⟩ = (w_Slots.setCell p u).cell? ⟨w.heap.size, o, none⟩ := fun p u ob o => ((Upd.refl No _).alloc ob).cellsF (b := w.heap.size) (by have := hu.size; simp at this ⊢; omega) (fun q => q) o
  have cb0_Slots : ∀ p u ob o, ((w_Slots.setCell p u).alloc ob).frozen? ⟨w.heap.size, o, none⟩ = (w_Slots.setCell p u).frozen? ⟨w.heap.size, o, none⟩ := fun p u ob o => ((Upd.refl No _).alloc ob).frozenF (b := w.heap.size) (by have := hu.size; simp at this ⊢; omega) (fun q => q) o
  have ca1_Slots : ∀ p u ob o, ((w_Slots.setCell p u).alloc ob).cell? ⟨w.heap.size + 1, o, none⟩ = (w_Slots.setCell p u).cell? ⟨w.heap.size + 1, o, none⟩ := fun p u ob o => ((Upd.refl No _).alloc ob).cellsF (b := w.heap.size + 1) (by have := hu.size; simp at this ⊢; omega) (fun q => q) o
  have cb1_Slots : ∀ p u ob o, ((w_Slots.setCell p u).alloc ob).frozen? ⟨w.heap.size + 1, o, none⟩ = (w_Slots.setCell p u).frozen? ⟨w.heap.size + 1, o, none⟩ := fun p u ob o => ((Upd.refl No _).alloc ob).frozenF (b := w.heap.size + 1) (by have := hu.size; simp at this ⊢; omega) (fun q => q) o
  have ca2_Slots : ∀ p u ob o, ((w_Slots.setCell p u).alloc ob).cell? ⟨w.heap.size + 1 + 1, o, none⟩ = (w_Slots.setCell p u).cell? ⟨w.heap.size + 1 + 1, o, none⟩ := fun p u ob o => ((Upd.refl No _).alloc ob).cellsF (b := w.heap.size + 1 + 1) (by have := hu.size; simp at this ⊢; omega) (fun q => q) o
  have cb2_Slots : ∀ p u ob o, ((w_Slots.setCell p u).alloc ob).frozen? ⟨w.heap.size + 1 + 1, o, none⟩ = (w_Slots.setCell p u).frozen? ⟨w.heap.size + 1 + 1, o, none⟩ := fun p u ob o => ((Upd.refl No _).alloc ob).frozenF (b := w.heap.size + 1 + 1) (by have := hu.size; simp at this ⊢; omega) (fun q => q) o
  have hz_Slots : w.heap.size + 1 + 1 + 1 ≤ w_Slots.heap.size := (by have := hu.size; (try simp at this); omega)
  clear hu
  go_wp2_with fail
  with_reducible refine (l9CopySents_s x.Queue _ _ _ ?hc_Queue S_Queue.out).mono ?_
  case hc_Queue => exact C_upd (by repeat (with_reducible first | exact HB_Slots.out | apply Upd.put2 | apply Upd.put1 | apply Upd.put0 | apply Upd.alloc | apply Upd.drewN | apply Upd.drew)) HC6.out
  rintro e w_Queue ⟨v6, rfl, hR6, hu⟩
  obtain ⟨B6, b6, rfl⟩ := R_slice hR6
  obtain ⟨P6, hR6', g6, l6⟩ : ∃ P : Nat → Prop, R ki_Sent 235 w_Queue P (.slice B6 x.Queue.length b6) x.Queue ∧ (∀ b, P b → w_Slots.heap.size ≤ b) ∧ (∀ b, P b → b < w_Queue.heap.size) := ⟨_, R_lt (R_mono (F' := fun b => w_Slots.heap.size ≤ b) (fun b q => (by simp [New, No] at q; omega)) hR6), fun b q => q.1, fun b q => q.2⟩
  have n0_6 : ¬ P6 (w.heap.size) := fun q => (by have := g6 _ q; omega)
  have n1_6 : ¬ P6 (w.heap.size + 1) := fun q => (by have := g6 _ q; omega)
  have n2_6 : ¬ P6 (w.heap.size + 1 + 1) := fun q => (by have := g6 _ q; omega)
  have HR6 := Sd.mk hR6'
  have GP6 := Sd.mk g6
  have LT6 := Sd.mk l6
  clear hR6 hR6' g6 l6
  replace HR2 := Sd.mk (R_upd hu (fun b hb q => q) (R_keep HR2.out (by repeat (with_reducible first | exact Upd.refl _ _ | apply Upd.putP n0_2 | apply Upd.putP n1_2 | apply Upd.putP n2_2 | apply Upd.alloc | apply Upd.drewN | apply Upd.drew))))
  have HB_Queue : Sd (Upd No w w_Queue) := Sd.mk (Upd.then (by repeat (with_reducible first | exact HB_Slots.out | apply Upd.put2 | apply Upd.put1 | apply Upd.put0 | apply Upd.alloc | apply Upd.drewN | apply Upd.drew)) hu)
  have cc0_Queue := fun o => hu.cellsF (b := w.heap.size) (by first | omega | (simp; done) | (simp; omega)) (fun q => q) o
  have cf0_Queue := fun o => hu.frozenF (b := w.heap.size) (by first | omega | (simp; done) | (simp; omega)) (fun q => q) o
  have cc1_Queue := fun o => hu.cellsF (b := w.heap.size + 1) (by first | omega | (simp; done) | (simp; omega)) (fun q => q) o
  have cf1_Queue := fun o => hu.frozenF (b := w.heap.size + 1) (by first | omega | (simp; done) | (simp; omega)) (fun q => q) o
  have cc2_Queue := fun o => hu.cellsF (b := w.heap.size + 1 + 1) (by first | omega | (simp; done) | (simp; omega)) (fun q => q) o
  have cf2_Queue := fun o => hu.frozenF (b := w.heap.size + 1 + 1) (by first | omega | (simp; done) | (simp; omega)) (fun q => q) o
  have ca0_Queue : ∀ p u ob o, ((w_Queue.setCell p u).alloc ob).cell? ⟨w.heap.size, o, none⟩ = (w_Queue.setCell p u).cell? ⟨w.heap.size, o, none⟩ := fun p u ob o => ((Upd.refl No _).alloc ob).cellsF (b := w.heap.size) (by have := hu.size; simp at this ⊢; omega) (fun q => q) o
  have cb0_Queue : ∀ p u ob o, ((w_Queue.setCell p u).alloc ob).frozen? ⟨w.heap.size, o, none⟩ = (w_Queue.setCell p u).frozen? ⟨w.heap.size, o, none⟩ := fun p u ob o => ((Upd.refl No _).alloc ob).frozenF (b := w.heap.size) (by have := hu.size; simp at this ⊢; omega) (fun q => q) o
  have ca1_Queue : ∀ p u ob o, ((w_Queue.setCell p u).alloc ob).cell? ⟨w.heap.size + 1, o, none⟩ = (w_Queue.setCell p u).cell? ⟨w.heap.size + 1, o, none⟩ := fun p u ob o => ((Upd.refl No _).alloc ob).cellsF (b := w.heap.size + 1) (by have := hu.size; simp at this ⊢; omega) (fun q => q) o
  have cb1_Queue : ∀ p u ob o, ((w_Queue.setCell p u).alloc ob).frozen? ⟨w.heap.size + 1, o, none⟩ = (w_Queue.setCell p u).frozen? ⟨w.heap.size + 1, o, none⟩ := fun p u ob o => ((Upd.refl No _).alloc ob).frozenF (b := w.heap.size + 1) (by have := hu.size; simp at this ⊢; omega) (fun q => q) o
  have ca2_Queue : ∀ p u ob o, ((w_Queue.setCell p u).alloc ob).cell? ⟨w.heap.size + 1 + 1, o, none⟩ = (w_Queue.setCell p u).cell? ⟨w.heap.size + 1 + 1, o, none⟩ := fun p u ob o => ((Upd.refl No _).alloc ob).cellsF (b := w.heap.size + 1 + 1) (by have := hu.size; simp at this ⊢; omega) (fun q => q) o
  have cb2_Queue : ∀ p u ob o, ((w_Queue.setCell p u).alloc ob).frozen? ⟨w.heap.size + 1 + 1, o, none⟩ = (w_Queue.setCell p u).frozen? ⟨w.heap.size + 1 + 1, o, none⟩ := fun p u ob o => ((Upd.refl No _).alloc ob).frozenF (b := w.heap.size + 1 + 1) (by have := hu.size; simp at this ⊢; omega) (fun q => q) o
  have hz_Queue : w.heap.size + 1 + 1 + 1 ≤ w_Queue.heap.size := (by have := hu.size; (try simp at this); omega)
  have hm_Queue : w_Slots.heap.size ≤ w_Queue.heap.size := (by have := hu.size; (try simp at this); omega)
  clear hu
  go_wp2_with (first | (at_builtin; refine R_appAny (d := ki_Asker) (e := 285) (ys := x.Askers) (xs := []) (F := New _) rfl _ _ 169 _ _ rfl Tryz.underlying169 ki_Asker_info rfl (by decide) (by decide) A7 c7 (fun _ => No) rfl rfl (R_emptyAt _ _ (by simp)) (CM_upd (by repeat (with_reducible first | exact HB_Queue.out | apply Upd.put2 | apply Upd.put1 | apply Upd.put0 | apply Upd.alloc | apply Upd.drewN | apply Upd.drew)) HCM7.out) (fun _ _ q => q.elim) (fun _ _ _ q => q.elim) (by simp; omega) ?_) | fail)
  intro v7 w_Askers hR7 hu
  obtain ⟨B7, b7, rfl⟩ := R_slice hR7
  obtain ⟨P7, hR7', g7, l7⟩ : ∃ P : Nat → Prop, R ki_Asker 285 w_Askers P (.slice B7 x.Askers.length b7) x.Askers ∧ (∀ b, P b → w_Queue.heap.size ≤ b) ∧ (∀ b, P b → b < w_Askers.heap.size) := ⟨_, R_lt (R_mono (F' := fun b => w_Queue.heap.size ≤ b) (fun b q => (by simp [New, No] at q; omega)) hR7), fun b q => q.1, fun b q => q.2⟩
  have n0_7 : ¬ P7 (w.heap.size) := fun q => (by have := g7 _ q; omega)
  have n1_7 : ¬ P7 (w.heap.size + 1) := fun q => (by have := g7 _ q; omega)
  have n2_7 : ¬ P7 (w.heap.size + 1 + 1) := fun q => (by have := g7 _ q; omega)
  have HR7 := Sd.mk hR7'
  have GP7 := Sd.mk g7
  have LT7 := Sd.mk l7
  clear hR7 hR7' g7 l7
  replace HR2 := Sd.mk (R_upd hu (fun b hb q => (by have := LT2.out b hb; simp [New] at q; omega)) (R_keep HR2.out (by repeat (with_reducible first | exact Upd.refl _ _ | apply Upd.putP n0_2 | apply Upd.putP n1_2 | apply Upd.putP n2_2 | apply Upd.alloc | apply Upd.drewN | apply Upd.drew))))
  replace HR6 := Sd.mk (R_upd hu (fun b hb q => (by have := LT6.out b hb; simp [New] at q; omega)) (R_keep HR6.out (by repeat (with_reducible first | exact Upd.refl _ _ | apply Upd.putP n0_6 | apply Upd.putP n1_6 | apply Upd.putP n2_6 | apply Upd.alloc | apply Upd.drewN | apply Upd.drew))))
  have HB_Askers : Sd (Upd No w w_Askers) := Sd.mk (Upd.trans (F := No) (by repeat (with_reducible first | exact HB_Queue.out | apply Upd.put2 | apply Upd.put1 | apply Upd.put0 | apply Upd.alloc | apply Upd.drewN | apply Upd.drew)) hu (fun _ _ q => q) (fun b hb q => (by simp [New] at q; omega)))
  have cc0_Askers := fun o => hu.cellsF (b := w.heap.size) (by first | omega | (simp; done) | (simp; omega)) (by first | (simp [New]; done) | (simp [New]; omega)) o
  have cf0_Askers := fun o => hu.frozenF (b := w.heap.size) (by first | omega | (simp; done) | (simp; omega)) (by first | (simp [New]; done) | (simp [New]; omega)) o
  have cc1_Askers := fun o => hu.cellsF (b := w.heap.size + 1) (by first | omega | (simp; done) | (simp; omega)) (by first | (simp [New]; done) | (simp [New]; omega)) o
  have cf1_Askers := fun o => hu.frozenF (b := w.heap.size + 1) (by first | omega | (simp; done) | (simp; omega)) (by first | (simp [New]; done) | (simp [New]; omega)) o
  have cc2_Askers := fun o => hu.cellsF (b := w.heap.size + 1 + 1) (by first | omega | (simp; done) | (simp; omega)) (by first | (simp [New]; done) | (simp [New]; omega)) o
  have cf2_Askers := fun o => hu.frozenF (b := w.heap.size + 1 + 1) (by first | omega | (simp; done) | (simp; omega)) (by first | (simp [New]; done) | (simp [New]; omega)) o
  have ca0_Askers : ∀ p u ob o, ((w_Askers.setCell p u).alloc ob).cell? ⟨w.heap.size, o, none⟩ = (w_Askers.setCell p u).cell? ⟨w.heap.size, o, none⟩ := fun p u ob o => ((Upd.refl No _).alloc ob).cellsF (b := w.heap.size) (by have := hu.size; simp at this ⊢; omega) (fun q => q) o
  have cb0_Askers : ∀ p u ob o, ((w_Askers.setCell p u).alloc ob).frozen? ⟨w.heap.size, o, none⟩ = (w_Askers.setCell p u).frozen? ⟨w.heap.size, o, none⟩ := fun p u ob o => ((Upd.refl No _).alloc ob).frozenF (b := w.heap.size) (by have := hu.size; simp at this ⊢; omega) (fun q => q) o
  have ca1_Askers : ∀ p u ob o, ((w_Askers.setCell p u).alloc ob).cell? ⟨w.heap.size + 1, o, none⟩ = (w_Askers.setCell p u).cell? ⟨w.heap.size + 1, o, none⟩ := fun p u ob o => ((Upd.refl No _).alloc ob).cellsF (b := w.heap.size + 1) (by have := hu.size; simp at this ⊢; omega) (fun q => q) o
  have cb1_Askers : ∀ p u ob o, ((w_Askers.setCell p u).alloc ob).frozen? ⟨w.heap.size + 1, o, none⟩ = (w_Askers.setCell p u).frozen? ⟨w.heap.size + 1, o, none⟩ := fun p u ob o => ((Upd.refl No _).alloc ob).frozenF (b := w.heap.size + 1) (by have := hu.size; simp at this ⊢; omega) (fun q => q) o
  have ca2_Askers : ∀ p u ob o, ((w_Askers.setCell p u).alloc ob).cell? ⟨w.heap.size + 1 + 1, o, none⟩ = (w_Askers.setCell p u).cell? ⟨w.heap.size + 1 + 1, o, none⟩ := fun p u ob o => ((Upd.refl No _).alloc ob).cellsF (b := w.heap.size + 1 + 1) (by have := hu.size; simp at this ⊢; omega) (fun q => q) o
  have cb2_Askers : ∀ p u ob o, ((w_Askers.setCell p u).alloc ob).frozen? ⟨w.heap.size + 1 + 1, o, none⟩ = (w_Askers.setCell p u).frozen? ⟨w.heap.size + 1 + 1, o, none⟩ := fun p u ob o => ((Upd.refl No _).alloc ob).frozenF (b := w.heap.size + 1 + 1) (by have := hu.size; simp at this ⊢; omega) (fun q => q) o
  have hz_Askers : w.heap.size + 1 + 1 + 1 ≤ w_Askers.heap.size := (by have := hu.size; (try simp at this); omega)
  have hm_Askers : w_Queue.heap.size ≤ w_Askers.heap.size := (by have := hu.size; (try simp at this); omega)
  clear hu
  go_wp2
  refine bodyPost_ret (v := .agg #[.int .i64 x.Kind, .int .i64 x.Script, .slice B2 x.Slots.length b2, .int .i64 x.State, .int .i64 x.Value.Kind, .int .i64 x.Value.N, .slice B6 x.Queue.length b6, .slice B7 x.Askers.length b7, .int .i64 x.Peer, .int .i64 x.Pos, .int .i64 x.Count, .int .i64 x.Sent]) (by simp [results, Tryz.results158, go_sem, cc1_Slots, ca1_Slots, cc2_Slots, ca2_Slots, cc1_Queue, ca1_Queue, cc2_Queue, ca2_Queue, cc1_Askers, ca1_Askers, cc2_Askers, ca2_Askers]) rfl ⟨_, rfl, ?_, (by repeat (with_reducible first | exact HB_Askers.out | apply Upd.put2 | apply Upd.put1 | apply Upd.put0 | apply Upd.alloc | apply Upd.drewN | apply Upd.drew))⟩
  exact ki_Entity_mk _ _ x (R_keep HR2.out (by repeat (with_reducible first | exact Upd.refl _ _ | apply Upd.putP n0_2 | apply Upd.putP n1_2 | apply Upd.putP n2_2 | apply Upd.alloc | apply Upd.drewN | apply Upd.drew))) (R_keep HR6.out (by repeat (with_reducible first | exact Upd.refl _ _ | apply Upd.putP n0_6 | apply Upd.putP n1_6 | apply Upd.putP n2_6 | apply Upd.alloc | apply Upd.drewN | apply Upd.drew))) (R_keep HR7.out (by repeat (with_reducible first | exact Upd.refl _ _ | apply Upd.putP n0_7 | apply Upd.putP n1_7 | apply Upd.putP n2_7 | apply Upd.alloc | apply Upd.drewN | apply Upd.drew))) (fun k hk => by have := GP2.out k hk; simp only [New]; omega) (fun k hk => by have := GP6.out k hk; simp only [New]; omega) (fun k hk => by have := GP7.out k hk; simp only [New]; omega) (fun k hk hk' => by have h1 := LT2.out k hk; have h2 := GP6.out k hk'; omega) (fun k hk hk' => by have h1 := LT2.out k hk; have h2 := GP7.out k hk'; have := hm_Queue; omega) (fun k hk hk' => by have h1 := LT6.out k hk; have h2 := GP7.out k hk'; omega)
end Go.Proofs.YtfnedoiplblldaaGreatFam
