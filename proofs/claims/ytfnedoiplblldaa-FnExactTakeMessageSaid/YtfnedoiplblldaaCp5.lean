/- Channels copied. No conditions beyond the sizes that the contracts name. -/
import Derived.Test.YtfnedoiplblldaaProg
import Derived.Test.YtfnedoiplblldaaSep2
import Derived.Test.YtfnedoiplblldaaLst
import Derived.WalkKit
import Derived.KernelRfl
import Derived.RowKit3
import Derived.Deep.LoopGhost
import Derived.Deep.QuietTactic
import Derived.BigQuiet
import Derived.StillTailTactics
import Derived.Test.YtfnedoiplblldaaK
import Derived.Deep.RegionHeld3
import Derived.Deep.RegionLaw
import Derived.Deep.DeepCutAuto
import Derived.Test.YtfnedoiplblldaaFamChannel
import Derived.Test.YtfnedoiplblldaaCp1
import Derived.Test.YtfnedoiplblldaaSep5
namespace Go.Proofs.YtfnedoiplblldaaFam
open Go.RowKit Go.Proofs.YtfnedoiplblldaaSep Go.Proofs.YtfnedoiplblldaaT Go.Proofs.YtfnedoiplblldaaK
set_option linter.unusedVariables false
set_option linter.unusedSimpArgs false
set_option maxHeartbeats 8000000 in
set_option maxRecDepth 100000 in
theorem copied_Channel (x : GChannel) (cs : List Value) (w : World) (h : ki_Channel.K w x cs) (hs : szn_Channel x ≤ 4194304) : Calls Try.prog 140 #[.agg cs.toArray] w (RetAgg ki_Channel x w) := by
  obtain ⟨A2, c2, rfl, hl2, hC2⟩ := ki_Channel_K h
  have HC2 := Sd.mk hC2
  clear hC2
  clear h
  have s_List : sznS szn_Message x.List ≤ 4194304 := by unfold szn_Channel at hs; omega
  have n_List : x.List.length ≤ 4194304 := by unfold sznS at s_List; omega
  have S_List := Sd.mk s_List
  clear hs s_List
  go_enter Try.func140, Try.ntmps140
  go_wp2
  have hb0 : Sd (Blk (((w.alloc (.cells #[.int .i64 x.From, .int .i64 x.To, .slice A2 x.List.length c2] 142)).alloc (.cells #[.int .i64 0, .int .i64 0, .slice none 0 0] 142)).alloc (.cells #[.int .i64 x.From, .int .i64 x.To, .slice none 0 0] 142)) w.heap.size 142 #[.int .i64 x.From, .int .i64 x.To, .slice A2 x.List.length c2]) := ⟨((Blk.new _ _ _).alloc _).alloc _⟩
  have hb1 : Sd (Blk (((w.alloc (.cells #[.int .i64 x.From, .int .i64 x.To, .slice A2 x.List.length c2] 142)).alloc (.cells #[.int .i64 0, .int .i64 0, .slice none 0 0] 142)).alloc (.cells #[.int .i64 x.From, .int .i64 x.To, .slice none 0 0] 142)) (w.heap.size + 1) 142 #[.int .i64 0, .int .i64 0, .slice none 0 0]) := ⟨(Blk.newAt (by simp)).alloc _⟩
  have hb2 : Sd (Blk (((w.alloc (.cells #[.int .i64 x.From, .int .i64 x.To, .slice A2 x.List.length c2] 142)).alloc (.cells #[.int .i64 0, .int .i64 0, .slice none 0 0] 142)).alloc (.cells #[.int .i64 x.From, .int .i64 x.To, .slice none 0 0] 142)) (w.heap.size + 1 + 1) 142 #[.int .i64 x.From, .int .i64 x.To, .slice none 0 0]) := ⟨Blk.newAt (by simp)⟩
  have HBW : Sd (Upd No w (((w.alloc (.cells #[.int .i64 x.From, .int .i64 x.To, .slice A2 x.List.length c2] 142)).alloc (.cells #[.int .i64 0, .int .i64 0, .slice none 0 0] 142)).alloc (.cells #[.int .i64 x.From, .int .i64 x.To, .slice none 0 0] 142))) := ⟨(((Upd.refl _ _).alloc _).alloc _).alloc _⟩
  generalize (((w.alloc (.cells #[.int .i64 x.From, .int .i64 x.To, .slice A2 x.List.length c2] 142)).alloc (.cells #[.int .i64 0, .int .i64 0, .slice none 0 0] 142)).alloc (.cells #[.int .i64 x.From, .int .i64 x.To, .slice none 0 0] 142)) = ws0 at *
  have hz_0 : w.heap.size + 1 + 1 < ws0.heap.size := hb2.out.lt
  have t0_0 := hb0.out.at 0 (v := .int .i64 x.From) rfl
  have t0_1 := hb0.out.at 1 (v := .int .i64 x.To) rfl
  have t0_2 := hb0.out.at 2 (v := .slice A2 x.List.length c2) rfl
  go_wp2
  clear t0_0 t0_1 t0_2
  go_loopg [14] x.List.length (fun r v wr0 => ∃ (i : Nat) (u0 : Value), i + r = x.List.length ∧ v = .int .i64 i ∧ Sd (Blk wr0 (w.heap.size + 1 + 1) 142 #[.int .i64 x.From, .int .i64 x.To, u0]) ∧ Sd (R ki_Message 70 wr0 (New ws0) u0 (x.List.take i)) ∧ Sd (Upd (fun b => b = (w.heap.size + 1 + 1)) ws0 wr0))
  case atStart => exact ⟨0, .slice none 0 0, by omega, rfl, hb2, ⟨R_nil⟩, ⟨Upd.refl _ _⟩⟩
  case round =>
    obtain ⟨i0, u0, hi0, rfl, HB2, HR, HU⟩ := hrel
    obtain ⟨wr0, rfl⟩ : ∃ z, z = wr := ⟨_, rfl⟩
    have HW : Sd (Upd No w wr0) := ⟨Upd.trans HBW.out HU.out (fun _ _ q => q) (fun b hb q => absurd hb (by omega))⟩
    have hzr0 := HU.out.size
    by_cases hlt : i0 < x.List.length
    · obtain ⟨ad, D5, d5, rfl, a0, a1, a2, a3, a4, a5, a6, a7, a8, a9, a10, a11, hm5, hD5⟩ := ki_Message_at (C_upd HW.out HC2.out) i0 hlt
      have HD5 := Sd.mk hD5
      clear hD5
      have hsi : szn_Message x.List[i0] ≤ 4194304 := by have := sumS_at szn_Message x.List i0 hlt; have := S_List.out; unfold sznS at *; omega
      obtain ⟨Bu, bu, hv⟩ := R_slice HR.out
      rw [List.length_take, Nat.min_eq_left (by omega)] at hv
      subst hv
      go_wp2_with fail
      refine gen_box ?_
      intro wm hB hUm
      clear a0 a1 a2 a3 a4 a5 a6 a7 a8 a9 a10 a11
      have a0 := hB.at 0 (v := .int .i64 x.List[i0].Kind) rfl
      have a1 := hB.at 1 (v := .int .i64 x.List[i0].Pos) rfl
      have a2 := hB.at 2 (v := .int .i64 x.List[i0].Answer) rfl
      have a3 := hB.at 3 (v := .int .i64 x.List[i0].Question) rfl
      have a4 := hB.at 4 (v := .string x.List[i0].Name) rfl
      have a5 := hB.at 5 (v := .slice D5 x.List[i0].Args.length d5) rfl
      have a6 := hB.at 6 (v := .int .i64 x.List[i0].Value.Kind) rfl
      have a7 := hB.at 7 (v := .int .i64 x.List[i0].Value.N) rfl
      have a8 := hB.at 8 (v := .int .i64 x.List[i0].Count) rfl
      have a9 := hB.at 9 (v := .int .i64 x.List[i0].Tag.Vat) rfl
      have a10 := hB.at 10 (v := .int .i64 x.List[i0].Tag.Entity) rfl
      have a11 := hB.at 11 (v := .int .i64 x.List[i0].Tag.Seq) rfl
      have HUm := Sd.mk hUm
      have hzm := hUm.size
      have hbl := hB.lt
      have HBe := Sd.mk hB
      clear hB hUm
      replace HD5 := Sd.mk (C_upd HUm.out HD5.out)
      have HBo := Sd.mk (HB2.out.no HUm.out)
      have HR1 := Sd.mk (R_no HUm.out (R_lt HR.out))
      have so := HBo.out.at 2 (v := .slice Bu i0 bu) rfl
      have fo := HBo.out.free 2
      clear HR HB2
      go_region_law (first | (go_simp; go_at_call 135; (with_reducible refine (copied_Message x.List[i0] _ _ (ki_Message_Kmk _ _ hm5 (C_upd (by repeat (with_reducible first | exact Upd.refl _ _ | apply Upd.alloc | apply Upd.drewN | apply Upd.drew)) HD5.out)) hsi).mono ?_); rintro e w1 ⟨cs, rfl, hM, hu⟩; have HM := Sd.mk (ki_Message.M_mono (F' := fun b => wm.heap.size ≤ b) (fun b q => Nat.le_trans (Upd.size ((by repeat (with_reducible first | exact Upd.refl _ _ | apply Upd.alloc | apply Upd.drewN | apply Upd.drew)) : Upd No wm _)) q) hM); obtain ⟨v5, P5, rfl, r5, -⟩ := ki_Message_M hM; obtain ⟨Bz5, bz5, rfl⟩ := R_slice r5; clear r5; have HY : Sd (Upd No wm w1) := Sd.mk (Upd.then (by repeat (with_reducible first | exact Upd.refl _ _ | apply Upd.alloc | apply Upd.drewN | apply Upd.drew)) hu); skip; have HRA := Sd.mk (R_no HY.out HR1.out); have hz1 := HY.out.size; have HBp := Sd.mk (HBo.out.no HY.out); have so1 := HBp.out.at 2 (v := .slice Bu i0 bu) rfl; have fo1 := HBp.out.free 2; have sa1 := (fun ob => (HBp.out.alloc ob).at 2 (v := .slice Bu i0 bu) rfl); clear hu hM) | ((refine R_appStep (d := ki_Message) (e := 70) rfl _ _ 140 _ _ rfl Try.underlying140 ki_Message_info rfl (by decide) (by decide) x.List[i0] _ _ _ rfl rfl rfl HRA.out HM.out (fun b hb q => absurd q.2 (by omega)) (by rw [List.length_take, Nat.min_eq_left (by omega)]; omega) ?_); intro v2 w2 hR hu2; rw [← List.take_succ_eq_append_getElem hlt] at hR; obtain ⟨B2, b2, hv2⟩ := R_slice hR; rw [List.length_take, Nat.min_eq_left (by omega)] at hv2; subst hv2; have HBq := Sd.mk (HBp.out.upd hu2 (fun q => absurd q.1 (by simp only [New]; omega))); have so2 := HBq.out.at 2 (v := .slice Bu i0 bu) rfl; have fo2 := HBq.out.free 2; have hz2 := hu2.size; have hR3 := Sd.mk (R_mono (F' := New ws0) (fun b q => (by simp only [New] at q ⊢; omega)) hR); have HX2 : Sd (Upd (fun b => b = (w.heap.size + 1 + 1)) ws0 w2) := Sd.mk (HU.out.trans (Upd.trans (H := fun b => ws0.heap.size ≤ b) (HUm.out.then HY.out) hu2 (fun _ _ q => q.elim) (fun b hb q => (by have := q.1; simp only [New] at this; omega))) (fun _ _ q => q) (fun b hb q => absurd hb (by omega))); clear hR hu2))
      all_goals
        go_wp2
        go_roundg (gk - 1)
        case measure => omega
        case rel =>
          refine ⟨i0 + 1, .slice B2 (i0 + 1) b2, by omega, by go_num, ⟨?_⟩, ⟨?_⟩, ⟨?_⟩⟩
          · exact Blk.put HBq.out 2 _ rfl
          · exact R_upd (Upd.set (F := fun b => b = (w.heap.size + 1 + 1)) (Upd.refl _ _) _ _ (.inr rfl)) (fun b q z => by simp only [New] at q; omega) hR3.out
          · exact Upd.set HX2.out _ _ (.inr rfl)
    · have hie : i0 = x.List.length := by omega
      rw [hie, List.take_length] at HR
      obtain ⟨B2, b2, hv⟩ := R_slice HR.out
      subst hv
      clear hie
      replace HBW := HW
      replace hb0 := Sd.mk (hb0.out.upd HU.out (by omega))
      replace hb1 := Sd.mk (hb1.out.upd HU.out (by omega))
      replace hb2 := HB2
      have HR2 : Sd (R ki_Message 70 wr0 (Iv ws0.heap.size wr0.heap.size) (.slice B2 x.List.length b2) x.List) := Sd.mk (R_lt HR.out)
      clear HR HU HB2 HW
      have t2_0 := hb2.out.at 0 (v := .int .i64 x.From) rfl
      have t2_1 := hb2.out.at 1 (v := .int .i64 x.To) rfl
      have t2_2 := hb2.out.at 2 (v := .slice B2 x.List.length b2) rfl
      have t1_0 := hb1.out.at 0 (v := .int .i64 0) rfl
      have t1_1 := hb1.out.at 1 (v := .int .i64 0) rfl
      have t1_2 := hb1.out.at 2 (v := .slice none 0 0) rfl
      have f1 := hb1.out.free
      go_wp2
      refine bodyPost_ret (v := .agg #[.int .i64 x.From, .int .i64 x.To, .slice B2 x.List.length b2]) (by simp [results, Try.results140, go_sem, t1_0, t1_1, t1_2]) rfl ⟨_, rfl, ?_, ?_⟩
      · exact ki_Channel_mk _ _ x (R_upd ((by repeat (first | (with_reducible exact Upd.refl _ _) | (refine Upd.set ?_ _ _ (.inr rfl)))) : Upd (fun b => b = (w.heap.size + 1)) wr0 _) (fun b q z => by (try simp only [Iv] at q); (try dsimp only at q); omega) HR2.out) (fun k hk => by (try simp only [Iv] at hk); (try dsimp only at hk); simp only [New]; omega)
      · exact Upd.trans HBW.out ((by repeat (first | (with_reducible exact Upd.refl _ _) | (refine Upd.set ?_ _ _ (.inr rfl)))) : Upd (fun b => b = (w.heap.size + 1)) wr0 _) (fun _ _ q => q) (fun b hb q => by omega)
set_option maxHeartbeats 1000000 in
set_option maxRecDepth 100000 in
theorem copiedChannels_i (l : List GChannel) (A : Option Addr) (c : Nat) (w : World) (h : C ki_Channel w A l) (hs : sznS szn_Channel l ≤ 4194304) : Calls Try.prog 91 #[.slice A l.length c] w (RetRow ki_Channel 142 l w) := by
  have hn : l.length ≤ 4194304 := by unfold sznS at hs; omega
  have H := Sd.mk h
  have HS := Sd.mk hs
  clear h hs
  go_enter Try.func91, Try.ntmps91
  go_wp2
  have hR0 : Sd (R ki_Channel 142 (w.alloc (.cells #[] 142)) (New w) (.slice (some ⟨w.heap.size, 0, none⟩) 0 0) []) := ⟨R_empty w⟩
  have hU0 : Sd (Upd No w (w.alloc (.cells #[] 142))) := ⟨(Upd.refl _ _).alloc _⟩
  go_loopg [3, 9] l.length (fun r u v wr => ∃ i : Nat, i + r = l.length ∧ v = .int .i64 i ∧ Sd (R ki_Channel 142 wr (New w) u (l.take i)) ∧ Sd (Upd No w wr))
  case atStart => exact ⟨0, by omega, rfl, hR0, hU0⟩
  case round =>
    clear hR0 hU0
    obtain ⟨i, hi, rfl, HR, HU⟩ := hrel
    by_cases hlt : i < l.length
    · obtain ⟨ad, A2, c2, rfl, a0, a1, a2, hl2, hC2⟩ := ki_Channel_at (C_upd HU.out H.out) i hlt
      have HC2 := Sd.mk hC2
      clear hC2
      have hsi : szn_Channel l[i] ≤ 4194304 := by have := sumS_at szn_Channel l i hlt; have := HS.out; unfold sznS at *; omega
      go_wp2_with fail
      with_reducible refine (copied_Channel l[i] _ _ (ki_Channel_Kmk _ _ hl2 ?hc2) hsi).mono ?_
      case hc2 => exact C_upd (by repeat (with_reducible first | exact Upd.refl _ _ | apply Upd.alloc | apply Upd.drewN | apply Upd.drew)) HC2.out
      rintro e w1 ⟨cs, rfl, hM, hu⟩
      obtain ⟨v2, P2, rfl, r2, -⟩ := ki_Channel_M hM
      obtain ⟨B2, b2, rfl⟩ := R_slice r2
      clear r2
      have hu' : Upd No wr w1 := Upd.then (by repeat (with_reducible first | exact Upd.refl _ _ | apply Upd.alloc | apply Upd.drewN | apply Upd.drew)) hu
      have hz := HU.out.size
      have hz1 := hu'.size
      have HRA := Sd.mk (R_upd hu' (fun _ _ q => q) (R_lt HR.out))
      have HM := Sd.mk (ki_Channel.M_mono (F' := fun b => wr.heap.size ≤ b) (fun b hb => by simp [New] at hb; omega) hM)
      have HU1 := Sd.mk (HU.out.then hu')
      clear HR hM hu hu' HU a0 a1 a2
      go_wp2_with (first | (at_builtin; refine R_appOne (d := ki_Channel) (e := 142) rfl _ _ 64 _ _ rfl Try.underlying64 ki_Channel_info rfl (by decide) (by decide) l[i] _ _ _ rfl rfl rfl HRA.out HM.out (fun b hb q => absurd q.2 (by omega)) (by rw [List.length_take, Nat.min_eq_left (by omega)]; omega) ?_) | fail)
      intro v1 w2 hR hu
      have hR' := Sd.mk (R_mono (F' := New w) (fun b q => by simp only [New] at q ⊢; omega) hR)
      have HU2 : Sd (Upd No w w2) := Sd.mk (HU1.out.trans hu (fun _ _ q => q) (fun b hb q => absurd hb (by have := q.1; simp only [New] at this; omega)))
      clear hR hu
      go_wp2
      go_roundg (gk - 1)
      case measure => omega
      case rel => exact ⟨i + 1, by omega, by go_num, hR', HU2⟩
    · go_wp2
      go_ret
      have hRR := HR.out
      rw [List.take_of_length_le (by omega)] at hRR
      exact ⟨_, rfl, hRR, HU.out⟩
set_option maxHeartbeats 1000000 in
set_option maxRecDepth 100000 in
theorem l20CopyList_s (l : List GMessage) (A : Option Addr) (c : Nat) (w : World) (h : C ki_Message w A l) (hs : sznS szn_Message l ≤ 4194304) : Calls Try.prog 88 #[.slice A l.length c] w (RetRow ki_Message 70 l w) := by
  have hn : l.length ≤ 4194304 := by unfold sznS at hs; omega
  have H := Sd.mk h
  have HS := Sd.mk hs
  clear h hs
  go_enter Try.func88, Try.ntmps88
  go_wp2
  have hR0 : Sd (R ki_Message 70 (w.alloc (.cells #[] 70)) (New w) (.slice (some ⟨w.heap.size, 0, none⟩) 0 0) []) := ⟨R_empty w⟩
  have hU0 : Sd (Upd No w (w.alloc (.cells #[] 70))) := ⟨(Upd.refl _ _).alloc _⟩
  go_loopg [3, 4] l.length (fun r u v wr => ∃ i : Nat, i + r = l.length ∧ v = .int .i64 i ∧ Sd (R ki_Message 70 wr (New w) u (l.take i)) ∧ Sd (Upd No w wr))
  case atStart => exact ⟨0, by omega, rfl, hR0, hU0⟩
  case round =>
    clear hR0 hU0
    obtain ⟨i, hi, rfl, HR, HU⟩ := hrel
    by_cases hlt : i < l.length
    · obtain ⟨ad, A5, c5, rfl, a0, a1, a2, a3, a4, a5, a6, a7, a8, a9, a10, a11, hl5, hC5⟩ := ki_Message_at (C_upd HU.out H.out) i hlt
      have HC5 := Sd.mk hC5
      clear hC5
      have hsi : szn_Message l[i] ≤ 4194304 := by have := sumS_at szn_Message l i hlt; have := HS.out; unfold sznS at *; omega
      go_wp2_with fail
      with_reducible refine (l11Copy_s l[i] _ _ (ki_Message_Kmk _ _ hl5 ?hc5) hsi).mono ?_
      case hc5 => exact C_upd (by repeat (with_reducible first | exact Upd.refl _ _ | apply Upd.alloc | apply Upd.drewN | apply Upd.drew)) HC5.out
      rintro e w1 ⟨cs, rfl, hM, hu⟩
      obtain ⟨v5, P5, rfl, r5, -⟩ := ki_Message_M hM
      obtain ⟨B5, b5, rfl⟩ := R_slice r5
      clear r5
      have hu' : Upd No wr w1 := Upd.then (by repeat (with_reducible first | exact Upd.refl _ _ | apply Upd.alloc | apply Upd.drewN | apply Upd.drew)) hu
      have hz := HU.out.size
      have hz1 := hu'.size
      have HRA := Sd.mk (R_upd hu' (fun _ _ q => q) (R_lt HR.out))
      have HM := Sd.mk (ki_Message.M_mono (F' := fun b => wr.heap.size ≤ b) (fun b hb => by simp [New] at hb; omega) hM)
      have HU1 := Sd.mk (HU.out.then hu')
      clear HR hM hu hu' HU a0 a1 a2 a3 a4 a5 a6 a7 a8 a9 a10 a11
      go_wp2_with (first | (at_builtin; refine R_appOne (d := ki_Message) (e := 70) rfl _ _ 140 _ _ rfl Try.underlying140 ki_Message_info rfl (by decide) (by decide) l[i] _ _ _ rfl rfl rfl HRA.out HM.out (fun b hb q => absurd q.2 (by omega)) (by rw [List.length_take, Nat.min_eq_left (by omega)]; omega) ?_) | fail)
      intro v1 w2 hR hu
      have hR' := Sd.mk (R_mono (F' := New w) (fun b q => by simp only [New] at q ⊢; omega) hR)
      have HU2 : Sd (Upd No w w2) := Sd.mk (HU1.out.trans hu (fun _ _ q => q) (fun b hb q => absurd hb (by have := q.1; simp only [New] at this; omega)))
      clear hR hu
      go_wp2
      go_roundg (gk - 1)
      case measure => omega
      case rel => exact ⟨i + 1, by omega, by go_num, hR', HU2⟩
    · go_wp2
      go_ret
      have hRR := HR.out
      rw [List.take_of_length_le (by omega)] at hRR
      exact ⟨_, rfl, hRR, HU.out⟩
set_option maxHeartbeats 1000000 in
set_option maxRecDepth 100000 in
theorem l20Copy_s (l : List GChannel) (A : Option Addr) (c : Nat) (w : World) (h : C ki_Channel w A l) (hs : sznS szn_Channel l ≤ 4194304) : Calls Try.prog 86 #[.slice A l.length c] w (RetRow ki_Channel 142 l w) := by
  have hn : l.length ≤ 4194304 := by unfold sznS at hs; omega
  have H := Sd.mk h
  have HS := Sd.mk hs
  clear h hs
  go_enter Try.func86, Try.ntmps86
  go_wp2
  have hR0 : Sd (R ki_Channel 142 (w.alloc (.cells #[] 142)) (New w) (.slice (some ⟨w.heap.size, 0, none⟩) 0 0) []) := ⟨R_empty w⟩
  have hU0 : Sd (Upd No w (w.alloc (.cells #[] 142))) := ⟨(Upd.refl _ _).alloc _⟩
  go_loopg [3, 4] l.length (fun r u v wr => ∃ i : Nat, i + r = l.length ∧ v = .int .i64 i ∧ Sd (R ki_Channel 142 wr (New w) u (l.take i)) ∧ Sd (Upd No w wr))
  case atStart => exact ⟨0, by omega, rfl, hR0, hU0⟩
  case round =>
    clear hR0 hU0
    obtain ⟨i, hi, rfl, HR, HU⟩ := hrel
    by_cases hlt : i < l.length
    · obtain ⟨ad, A2, c2, rfl, a0, a1, a2, hl2, hC2⟩ := ki_Channel_at H.out i hlt
      have HC2 := Sd.mk (C_upd HU.out hC2)
      have hsi : szn_Channel l[i] ≤ 4194304 := by have := sumS_at szn_Channel l i hlt; have := HS.out; unfold sznS at *; omega
      have hsl : sznS szn_Message l[i].List ≤ 4194304 := by unfold szn_Channel at hsi; omega
      have HSL := Sd.mk hsl
      clear hC2 hsi hsl
      have b0 := HU.out.read a0
      have b1 := HU.out.read a1
      have b2 := HU.out.read a2
      have hz := HU.out.size
      go_wp2_with fail
      go_region_held3 (fun w' => w'.cell? (ad.add (i * 3)) = some (.int .i64 l[i].From) ∧ w'.cell? ⟨(ad.add (i * 3)).block, (ad.add (i * 3)).off + 1, none⟩ = some (.int .i64 l[i].To) ∧ w'.cell? ⟨(ad.add (i * 3)).block, (ad.add (i * 3)).off + 2, none⟩ = some (.slice A2 l[i].List.length c2))
        (first | exact ⟨b0, b1, b2⟩ | exact ⟨(HU1.out).read a0, (HU1.out).read a1, (HU1.out).read a2⟩ | exact ⟨(HU1.out.alloc _).read a0, (HU1.out.alloc _).read a1, (HU1.out.alloc _).read a2⟩ | exact ⟨(HU2.out).read a0, (HU2.out).read a1, (HU2.out).read a2⟩)
        (first
          | (go_at_call 88; (with_reducible refine (l20CopyList_s l[i].List _ _ _ (C_upd (by repeat (with_reducible first | exact Upd.refl _ _ | apply Upd.alloc | apply Upd.drewN | apply Upd.drew)) HC2.out) HSL.out).mono ?_); rintro e w1 ⟨v2, rfl, hR2, hu⟩; obtain ⟨B2, b2, rfl⟩ := R_slice hR2; have hu' : Upd No wr w1 := Upd.then (by repeat (with_reducible first | exact Upd.refl _ _ | apply Upd.alloc | apply Upd.drewN | apply Upd.drew)) hu; have hz1 := hu'.size; have HRA := Sd.mk (R_upd hu' (fun _ _ q => q) (R_lt HR.out)); have HM := Sd.mk (ki_Channel_mk w1 (fun b => wr.heap.size ≤ b) l[i] hR2 (fun k hk => hk)); have HU1 := Sd.mk (HU.out.then hu'); clear hu hR2 hu')
          | (refine R_appStep (d := ki_Channel) (e := 142) rfl _ _ 64 _ _ rfl Try.underlying64 ki_Channel_info rfl (by decide) (by decide) l[i] _ _ _ rfl rfl rfl HRA.out HM.out (fun b hb q => absurd q.2 (by omega)) (by rw [List.length_take, Nat.min_eq_left (by omega)]; omega) ?_; intro v1 w2 hR hu2; rw [← List.take_succ_eq_append_getElem hlt] at hR; have hR' := Sd.mk (R_mono (F' := New w) (fun b q => by simp only [New] at q ⊢; omega) hR); have HU2 : Sd (Upd No w w2) := Sd.mk (HU1.out.trans hu2 (fun _ _ q => q) (fun b hb q => absurd hb (by have := q.1; simp only [New] at this; omega)))))
      all_goals
        go_wp2
        go_roundg (gk - 1)
        case measure => omega
        case rel => exact ⟨i + 1, by omega, by go_num, hR', HU2⟩
    · go_wp2
      go_ret
      have hRR := HR.out
      rw [List.take_of_length_le (by omega)] at hRR
      exact ⟨_, rfl, hRR, HU.out⟩
end Go.Proofs.YtfnedoiplblldaaFam
