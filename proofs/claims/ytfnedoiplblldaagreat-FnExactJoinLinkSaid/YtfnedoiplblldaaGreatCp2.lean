/- Structs copied: entities and methods. No conditions beyond the sizes that the contracts name. -/
import Derived.Test.YtfnedoiplblldaaGreatProg
import Derived.Test.YtfnedoiplblldaaGreatSep2
import Derived.Test.YtfnedoiplblldaaGreatLst
import Derived.WalkKit
import Derived.KernelRfl
import Derived.RowKit3
import Derived.Deep.LoopGhost
import Derived.Deep.QuietTactic
import Derived.BigQuiet
import Derived.StillTailTactics
import Derived.Test.YtfnedoiplblldaaGreatK
import Derived.Deep.RegionHeld3
import Derived.Deep.RegionLaw
import Derived.Deep.DeepCutAuto
import Derived.Test.YtfnedoiplblldaaGreatCp1
namespace Go.Proofs.YtfnedoiplblldaaGreatFam
open Go.RowKit Go.Proofs.YtfnedoiplblldaaGreatSep Go.Proofs.YtfnedoiplblldaaGreatT Go.Proofs.YtfnedoiplblldaaGreatK
set_option linter.unusedVariables false
set_option linter.unusedSimpArgs false
set_option maxHeartbeats 1000000 in
set_option maxRecDepth 100000 in
theorem copiedSents_i (l : List GSent) (A : Option Addr) (c : Nat) (w : World) (h : C ki_Sent w A l) (hs : sznS szn_Sent l ≤ 4194304) : Calls Tryz.prog 164 #[.slice A l.length c] w (RetRow ki_Sent 235 l w) := by
  have hn : l.length ≤ 4194304 := by unfold sznS at hs; omega
  have H := Sd.mk h
  have HS := Sd.mk hs
  clear h hs
  go_enter Tryz.func164, Tryz.ntmps164
  go_wp2
  have hR0 : Sd (R ki_Sent 235 (w.alloc (.cells #[] 235)) (New w) (.slice (some ⟨w.heap.size, 0, none⟩) 0 0) []) := ⟨R_empty w⟩
  have hU0 : Sd (Upd No w (w.alloc (.cells #[] 235))) := ⟨(Upd.refl _ _).alloc _⟩
  go_loopg [3, 9] l.length (fun r u v wr => ∃ i : Nat, i + r = l.length ∧ v = .int .i64 i ∧ Sd (R ki_Sent 235 wr (New w) u (l.take i)) ∧ Sd (Upd No w wr))
  case atStart => exact ⟨0, by omega, rfl, hR0, hU0⟩
  case round =>
    clear hR0 hU0
    obtain ⟨i, hi, rfl, HR, HU⟩ := hrel
    by_cases hlt : i < l.length
    · obtain ⟨ad, A2, c2, rfl, a0, a1, a2, a3, a4, a5, a6, hl2, hC2⟩ := ki_Sent_at (C_upd HU.out H.out) i hlt
      have HC2 := Sd.mk hC2
      clear hC2
      have hsi : szn_Sent l[i] ≤ 4194304 := by have := sumS_at szn_Sent l i hlt; have := HS.out; unfold sznS at *; omega
      go_wp2_with fail
      with_reducible refine (copied_Sent l[i] _ _ (ki_Sent_Kmk _ _ hl2 ?hc2) hsi).mono ?_
      case hc2 => exact C_upd (by repeat (with_reducible first | exact Upd.refl _ _ | apply Upd.alloc | apply Upd.drewN | apply Upd.drew)) HC2.out
      rintro e w1 ⟨cs, rfl, hM, hu⟩
      obtain ⟨v2, P2, rfl, r2, -⟩ := ki_Sent_M hM
      obtain ⟨B2, b2, rfl⟩ := R_slice r2
      clear r2
      have hu' : Upd No wr w1 := Upd.then (by repeat (with_reducible first | exact Upd.refl _ _ | apply Upd.alloc | apply Upd.drewN | apply Upd.drew)) hu
      have hz := HU.out.size
      have hz1 := hu'.size
      have HRA := Sd.mk (R_upd hu' (fun _ _ q => q) (R_lt HR.out))
      have HM := Sd.mk (ki_Sent.M_mono (F' := fun b => wr.heap.size ≤ b) (fun b hb => by simp [New] at hb; omega) hM)
      have HU1 := Sd.mk (HU.out.then hu')
      clear HR hM hu hu' HU a0 a1 a2 a3 a4 a5 a6
      go_wp2_with (first | (at_builtin; refine R_appOne (d := ki_Sent) (e := 235) rfl _ _ 64 _ _ rfl Tryz.underlying64 ki_Sent_info rfl (by decide) (by decide) l[i] _ _ _ rfl rfl rfl HRA.out HM.out (fun b hb q => absurd q.2 (by omega)) (by rw [List.length_take, Nat.min_eq_left (by omega)]; omega) ?_) | fail)
      intro v1 w2 hR hu
      have hR' := Sd.mk (R_mono (F' := New w) (fun b q => by simp only [New] at q ⊢; omega) hR)
      have HU2 : Sd (Upd No w w2) := Sd.mk (HU1.out.trans hu (fun _ _ q => q) (fun b hb q => absurd hb (by have := q.1; simp only [New] at this; omega)))
      clear hR hu
      go_wp2
      go_roundg (gk - 1)
      case measure => omega
      case rel => exact ⟨i + 1, by omega, by go_num, hR', HU2⟩
    · go_wp2
      go_ret
      have hRR := HR.out
      rw [List.take_of_length_le (by omega)] at hRR
      exact ⟨_, rfl, hRR, HU.out⟩
set_option maxHeartbeats 1000000 in
set_option maxRecDepth 100000 in
theorem copied_Entity (x : GEntity) (cs : List Value) (w : World) (h : ki_Entity.K w x cs) (hs : szn_Entity x ≤ 4194304) : Calls Tryz.prog 165 #[.agg cs.toArray] w (RetAgg ki_Entity x w) := by
  obtain ⟨A2, c2, A6, c6, A7, c7, rfl, hl2, hC2, hl6, hC6, hl7, hC7⟩ := ki_Entity_K h
  have HC2 := Sd.mk hC2
  have HC6 := Sd.mk hC6
  have HC7 := Sd.mk hC7
  clear hC2 hC6 hC7
  clear h
  have s_Slots : sznS szn_Value x.Slots ≤ 4194304 := by unfold szn_Entity at hs; omega
  have n_Slots : x.Slots.length ≤ 4194304 := by unfold sznS at s_Slots; omega
  have S_Slots := Sd.mk s_Slots
  have s_Queue : sznS szn_Sent x.Queue ≤ 4194304 := by unfold szn_Entity at hs; omega
  have n_Queue : x.Queue.length ≤ 4194304 := by unfold sznS at s_Queue; omega
  have S_Queue := Sd.mk s_Queue
  have s_Askers : sznS szn_Asker x.Askers ≤ 4194304 := by unfold szn_Entity at hs; omega
  have n_Askers : x.Askers.length ≤ 4194304 := by unfold sznS at s_Askers; omega
  have S_Askers := Sd.mk s_Askers
  clear hs s_Slots s_Queue s_Askers
  go_enter Tryz.func165, Tryz.ntmps165
  try go_wp2_with fail
  have hb0 : Sd (Blk ((w.alloc (.cells #[.int .i64 x.Kind, .int .i64 x.Script, .slice A2 x.Slots.length c2, .int .i64 x.State, .int .i64 x.Value.Kind, .int .i64 x.Value.N, .slice A6 x.Queue.length c6, .slice A7 x.Askers.length c7, .int .i64 x.Peer, .int .i64 x.Pos, .int .i64 x.Count, .int .i64 x.Sent] 171)).alloc (.cells #[.int .i64 0, .int .i64 0, .slice none 0 0, .int .i64 0, .int .i64 0, .int .i64 0, .slice none 0 0, .slice none 0 0, .int .i64 0, .int .i64 0, .int .i64 0, .int .i64 0] 171)) w.heap.size 171 #[.int .i64 x.Kind, .int .i64 x.Script, .slice A2 x.Slots.length c2, .int .i64 x.State, .int .i64 x.Value.Kind, .int .i64 x.Value.N, .slice A6 x.Queue.length c6, .slice A7 x.Askers.length c7, .int .i64 x.Peer, .int .i64 x.Pos, .int .i64 x.Count, .int .i64 x.Sent]) := ⟨(Blk.new _ _ _).alloc _⟩
  have hb1 : Sd (Blk ((w.alloc (.cells #[.int .i64 x.Kind, .int .i64 x.Script, .slice A2 x.Slots.length c2, .int .i64 x.State, .int .i64 x.Value.Kind, .int .i64 x.Value.N, .slice A6 x.Queue.length c6, .slice A7 x.Askers.length c7, .int .i64 x.Peer, .int .i64 x.Pos, .int .i64 x.Count, .int .i64 x.Sent] 171)).alloc (.cells #[.int .i64 0, .int .i64 0, .slice none 0 0, .int .i64 0, .int .i64 0, .int .i64 0, .slice none 0 0, .slice none 0 0, .int .i64 0, .int .i64 0, .int .i64 0, .int .i64 0] 171)) (w.heap.size + 1) 171 #[.int .i64 0, .int .i64 0, .slice none 0 0, .int .i64 0, .int .i64 0, .int .i64 0, .slice none 0 0, .slice none 0 0, .int .i64 0, .int .i64 0, .int .i64 0, .int .i64 0]) := ⟨Blk.newAt (by simp)⟩
  have HBB : Sd (Upd No w ((w.alloc (.cells #[.int .i64 x.Kind, .int .i64 x.Script, .slice A2 x.Slots.length c2, .int .i64 x.State, .int .i64 x.Value.Kind, .int .i64 x.Value.N, .slice A6 x.Queue.length c6, .slice A7 x.Askers.length c7, .int .i64 x.Peer, .int .i64 x.Pos, .int .i64 x.Count, .int .i64 x.Sent] 171)).alloc (.cells #[.int .i64 0, .int .i64 0, .slice none 0 0, .int .i64 0, .int .i64 0, .int .i64 0, .slice none 0 0, .slice none 0 0, .int .i64 0, .int .i64 0, .int .i64 0, .int .i64 0] 171))) := ⟨((Upd.refl _ _).alloc _).alloc _⟩
  generalize ((w.alloc (.cells #[.int .i64 x.Kind, .int .i64 x.Script, .slice A2 x.Slots.length c2, .int .i64 x.State, .int .i64 x.Value.Kind, .int .i64 x.Value.N, .slice A6 x.Queue.length c6, .slice A7 x.Askers.length c7, .int .i64 x.Peer, .int .i64 x.Pos, .int .i64 x.Count, .int .i64 x.Sent] 171)).alloc (.cells #[.int .i64 0, .int .i64 0, .slice none 0 0, .int .i64 0, .int .i64 0, .int .i64 0, .slice none 0 0, .slice none 0 0, .int .i64 0, .int .i64 0, .int .i64 0, .int .i64 0] 171)) = wb at *
  have hzb : w.heap.size + 1 + 1 ≤ wb.heap.size := by have := hb1.out.lt; omega
  have q0_2 := hb0.out.at 2 (v := .slice A2 x.Slots.length c2) rfl
  have q0_6 := hb0.out.at 6 (v := .slice A6 x.Queue.length c6) rfl
  have q0_7 := hb0.out.at 7 (v := .slice A7 x.Askers.length c7) rfl
  have ff0 := hb0.out.free
  go_region_law (first | (go_simp; go_at_call 184; (with_reducible refine (clone_Value x.Slots _ _ _ (C_upd (by repeat (with_reducible first | exact HBB.out | apply Upd.put2 | apply Upd.put1 | apply Upd.put0 | apply Upd.alloc | apply Upd.drewN | apply Upd.drew)) HC2.out) n_Slots).mono ?_); rintro e w_Slots ⟨v2, rfl, hR2, hu⟩; have HY_Slots : Sd (Upd No wb w_Slots) := Sd.mk (Upd.then (by repeat (with_reducible first | exact Upd.refl _ _ | apply Upd.alloc | apply Upd.drewN | apply Upd.drew)) hu); have hz_Slots := HY_Slots.out.size; have hb0_Slots := Sd.mk (hb0.out.no HY_Slots.out); have hb1_Slots := Sd.mk (hb1.out.no HY_Slots.out); obtain ⟨B2, b2, rfl⟩ := R_slice hR2; have HR2 : Sd (R ki_Value 95 w_Slots (Iv wb.heap.size w_Slots.heap.size) (.slice B2 x.Slots.length b2) x.Slots) := Sd.mk (R_lt (R_mono (F' := New wb) (fun b q => Nat.le_trans (Upd.size ((by repeat (with_reducible first | exact Upd.refl _ _ | apply Upd.alloc | apply Upd.drewN | apply Upd.drew)) : Upd No wb _)) q) hR2)); have HB_Slots : Sd (Upd No w w_Slots) := Sd.mk (Upd.then HBB.out HY_Slots.out); clear hu hR2; have c2_Slots := hb0_Slots.out.at 2 (v := .slice A2 x.Slots.length c2) rfl; have c6_Slots := hb0_Slots.out.at 6 (v := .slice A6 x.Queue.length c6) rfl; have c7_Slots := hb0_Slots.out.at 7 (v := .slice A7 x.Askers.length c7) rfl; have ff_Slots := hb0_Slots.out.free) | (go_simp; go_at_call 164; (with_reducible refine (copiedSents_i x.Queue _ _ _ (C_upd (by repeat (with_reducible first | exact HB_Slots.out | apply Upd.put2 | apply Upd.put1 | apply Upd.put0 | apply Upd.alloc | apply Upd.drewN | apply Upd.drew)) HC6.out) S_Queue.out).mono ?_); rintro e w_Queue ⟨v6, rfl, hR6, hu⟩; have HY_Queue : Sd (Upd No w_Slots w_Queue) := Sd.mk (Upd.then (by repeat (with_reducible first | exact Upd.refl _ _ | apply Upd.alloc | apply Upd.drewN | apply Upd.drew)) hu); have hz_Queue := HY_Queue.out.size; have hb0_Queue := Sd.mk (hb0_Slots.out.no HY_Queue.out); have hb1_Queue := Sd.mk (hb1_Slots.out.no HY_Queue.out); obtain ⟨B6, b6, rfl⟩ := R_slice hR6; have HR6 : Sd (R ki_Sent 235 w_Queue (Iv w_Slots.heap.size w_Queue.heap.size) (.slice B6 x.Queue.length b6) x.Queue) := Sd.mk (R_lt (R_mono (F' := New w_Slots) (fun b q => Nat.le_trans (Upd.size ((by repeat (with_reducible first | exact Upd.refl _ _ | apply Upd.alloc | apply Upd.drewN | apply Upd.drew)) : Upd No w_Slots _)) q) hR6)); replace HR2 := Sd.mk (R_no HY_Queue.out HR2.out); have HB_Queue : Sd (Upd No w w_Queue) := Sd.mk (Upd.then HB_Slots.out HY_Queue.out); clear hu hR6; have c2_Queue := hb0_Queue.out.at 2 (v := .slice A2 x.Slots.length c2) rfl; have c6_Queue := hb0_Queue.out.at 6 (v := .slice A6 x.Queue.length c6) rfl; have c7_Queue := hb0_Queue.out.at 7 (v := .slice A7 x.Askers.length c7) rfl; have ff_Queue := hb0_Queue.out.free) | (go_simp; go_at_call 209; (with_reducible refine (clone_Asker x.Askers _ _ _ (C_upd (by repeat (with_reducible first | exact HB_Queue.out | apply Upd.put2 | apply Upd.put1 | apply Upd.put0 | apply Upd.alloc | apply Upd.drewN | apply Upd.drew)) HC7.out) n_Askers).mono ?_); rintro e w_Askers ⟨v7, rfl, hR7, hu⟩; have HY_Askers : Sd (Upd No w_Queue w_Askers) := Sd.mk (Upd.then (by repeat (with_reducible first | exact Upd.refl _ _ | apply Upd.alloc | apply Upd.drewN | apply Upd.drew)) hu); have hz_Askers := HY_Askers.out.size; have hb0_Askers := Sd.mk (hb0_Queue.out.no HY_Askers.out); have hb1_Askers := Sd.mk (hb1_Queue.out.no HY_Askers.out); obtain ⟨B7, b7, rfl⟩ := R_slice hR7; have HR7 : Sd (R ki_Asker 285 w_Askers (Iv w_Queue.heap.size w_Askers.heap.size) (.slice B7 x.Askers.length b7) x.Askers) := Sd.mk (R_lt (R_mono (F' := New w_Queue) (fun b q => Nat.le_trans (Upd.size ((by repeat (with_reducible first | exact Upd.refl _ _ | apply Upd.alloc | apply Upd.drewN | apply Upd.drew)) : Upd No w_Queue _)) q) hR7)); replace HR2 := Sd.mk (R_no HY_Askers.out HR2.out); replace HR6 := Sd.mk (R_no HY_Askers.out HR6.out); have HB_Askers : Sd (Upd No w w_Askers) := Sd.mk (Upd.then HB_Queue.out HY_Askers.out); clear hu hR7; have c2_Askers := hb0_Askers.out.at 2 (v := .slice A2 x.Slots.length c2) rfl; have c6_Askers := hb0_Askers.out.at 6 (v := .slice A6 x.Queue.length c6) rfl; have c7_Askers := hb0_Askers.out.at 7 (v := .slice A7 x.Askers.length c7) rfl; have ff_Askers := hb0_Askers.out.free))
  all_goals
    clear q0_2 q0_6 q0_7
    have q0_0 := hb0_Askers.out.at 0 (v := .int .i64 x.Kind) rfl
    have q0_1 := hb0_Askers.out.at 1 (v := .int .i64 x.Script) rfl
    have q0_2 := hb0_Askers.out.at 2 (v := .slice A2 x.Slots.length c2) rfl
    have q0_3 := hb0_Askers.out.at 3 (v := .int .i64 x.State) rfl
    have q0_4 := hb0_Askers.out.at 4 (v := .int .i64 x.Value.Kind) rfl
    have q0_5 := hb0_Askers.out.at 5 (v := .int .i64 x.Value.N) rfl
    have q0_6 := hb0_Askers.out.at 6 (v := .slice A6 x.Queue.length c6) rfl
    have q0_7 := hb0_Askers.out.at 7 (v := .slice A7 x.Askers.length c7) rfl
    have q0_8 := hb0_Askers.out.at 8 (v := .int .i64 x.Peer) rfl
    have q0_9 := hb0_Askers.out.at 9 (v := .int .i64 x.Pos) rfl
    have q0_10 := hb0_Askers.out.at 10 (v := .int .i64 x.Count) rfl
    have q0_11 := hb0_Askers.out.at 11 (v := .int .i64 x.Sent) rfl
    have q1_0 := hb1_Askers.out.at 0 (v := .int .i64 0) rfl
    have q1_1 := hb1_Askers.out.at 1 (v := .int .i64 0) rfl
    have q1_2 := hb1_Askers.out.at 2 (v := .slice none 0 0) rfl
    have q1_3 := hb1_Askers.out.at 3 (v := .int .i64 0) rfl
    have q1_4 := hb1_Askers.out.at 4 (v := .int .i64 0) rfl
    have q1_5 := hb1_Askers.out.at 5 (v := .int .i64 0) rfl
    have q1_6 := hb1_Askers.out.at 6 (v := .slice none 0 0) rfl
    have q1_7 := hb1_Askers.out.at 7 (v := .slice none 0 0) rfl
    have q1_8 := hb1_Askers.out.at 8 (v := .int .i64 0) rfl
    have q1_9 := hb1_Askers.out.at 9 (v := .int .i64 0) rfl
    have q1_10 := hb1_Askers.out.at 10 (v := .int .i64 0) rfl
    have q1_11 := hb1_Askers.out.at 11 (v := .int .i64 0) rfl
    have f0 := hb0_Askers.out.free
    have f1 := hb1_Askers.out.free
    go_wp2
    refine bodyPost_ret (v := .agg #[.int .i64 x.Kind, .int .i64 x.Script, .slice B2 x.Slots.length b2, .int .i64 x.State, .int .i64 x.Value.Kind, .int .i64 x.Value.N, .slice B6 x.Queue.length b6, .slice B7 x.Askers.length b7, .int .i64 x.Peer, .int .i64 x.Pos, .int .i64 x.Count, .int .i64 x.Sent]) (by simp [results, Tryz.results165, go_sem, q1_0, q1_1, q1_2, q1_3, q1_4, q1_5, q1_6, q1_7, q1_8, q1_9, q1_10, q1_11]) rfl ⟨_, rfl, ?_, ?_⟩
    · exact ki_Entity_mk _ _ x (R_upd ((by repeat (first | (with_reducible exact Upd.refl _ _) | (with_reducible refine Upd.alloc ?_ _) | (refine Upd.set ?_ _ _ (.inr (by first | exact .inl rfl | exact .inr rfl))))) : Upd (fun b => b = w.heap.size ∨ b = w.heap.size + 1) w_Askers _) (fun b q z => by simp only [Iv] at q; have := hz_Slots; have := hz_Queue; have := hz_Askers; omega) HR2.out) (R_upd ((by repeat (first | (with_reducible exact Upd.refl _ _) | (with_reducible refine Upd.alloc ?_ _) | (refine Upd.set ?_ _ _ (.inr (by first | exact .inl rfl | exact .inr rfl))))) : Upd (fun b => b = w.heap.size ∨ b = w.heap.size + 1) w_Askers _) (fun b q z => by simp only [Iv] at q; have := hz_Slots; have := hz_Queue; have := hz_Askers; omega) HR6.out) (R_upd ((by repeat (first | (with_reducible exact Upd.refl _ _) | (with_reducible refine Upd.alloc ?_ _) | (refine Upd.set ?_ _ _ (.inr (by first | exact .inl rfl | exact .inr rfl))))) : Upd (fun b => b = w.heap.size ∨ b = w.heap.size + 1) w_Askers _) (fun b q z => by simp only [Iv] at q; have := hz_Slots; have := hz_Queue; have := hz_Askers; omega) HR7.out) (fun k hk => by simp only [Iv] at hk; simp only [New]; have := hz_Slots; have := hz_Queue; have := hz_Askers; omega) (fun k hk => by simp only [Iv] at hk; simp only [New]; have := hz_Slots; have := hz_Queue; have := hz_Askers; omega) (fun k hk => by simp only [Iv] at hk; simp only [New]; have := hz_Slots; have := hz_Queue; have := hz_Askers; omega) (fun k hk hk' => by simp only [Iv] at hk hk'; have := hz_Slots; have := hz_Queue; have := hz_Askers; omega) (fun k hk hk' => by simp only [Iv] at hk hk'; have := hz_Slots; have := hz_Queue; have := hz_Askers; omega) (fun k hk hk' => by simp only [Iv] at hk hk'; have := hz_Slots; have := hz_Queue; have := hz_Askers; omega)
    · exact Upd.trans HB_Askers.out ((by repeat (first | (with_reducible exact Upd.refl _ _) | (with_reducible refine Upd.alloc ?_ _) | (refine Upd.set ?_ _ _ (.inr (by first | exact .inl rfl | exact .inr rfl))))) : Upd (fun b => b = w.heap.size ∨ b = w.heap.size + 1) w_Askers _) (fun _ _ q => q) (fun b hb q => by rcases q with q | q <;> omega)
end Go.Proofs.YtfnedoiplblldaaGreatFam
