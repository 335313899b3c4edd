/- The contracts of the laws' own functions over Entity: to, sz, eq, mark, held. No conditions beyond the sizes that the contracts name. -/
import Derived.Test.YtfnedoiplblldaaProg
import Derived.Test.YtfnedoiplblldaaSep2
import Derived.Test.YtfnedoiplblldaaLst
import Derived.WalkKit
import Derived.KernelRfl
import Derived.RowKit3
import Derived.Deep.LoopGhost
import Derived.Deep.QuietTactic
import Derived.BigQuiet
import Derived.StillTailTactics
import Derived.Test.YtfnedoiplblldaaK
import Derived.Deep.RegionHeld3
import Derived.Test.YtfnedoiplblldaaFamValue
import Derived.Test.YtfnedoiplblldaaFamTag
import Derived.Test.YtfnedoiplblldaaFamSent
import Derived.Test.YtfnedoiplblldaaFamAsker
import Derived.Test.YtfnedoiplblldaaFamText
namespace Go.Proofs.YtfnedoiplblldaaFam
open Go.RowKit Go.Proofs.YtfnedoiplblldaaSep Go.Proofs.YtfnedoiplblldaaT Go.Proofs.YtfnedoiplblldaaK
set_option linter.unusedVariables false
set_option linter.unusedSimpArgs false
theorem kl_Entity_Kmk (w : World) (x : GEntity) {A2 : Option Addr} {c2 : Nat} (hl2 : x.Slots.length ≤ c2) (hC2 : C kl_Value w A2 x.Slots) {A6 : Option Addr} {c6 : Nat} (hl6 : x.Queue.length ≤ c6) (hC6 : C kl_Sent w A6 x.Queue) {A7 : Option Addr} {c7 : Nat} (hl7 : x.Askers.length ≤ c7) (hC7 : C kl_Asker w A7 x.Askers) : kl_Entity.K w x [.int .i64 x.Kind, .int .i64 x.Script, .slice A2 x.Slots.length c2, .int .i64 x.State, .int .i64 x.Value.Kind, .int .i64 x.Value.N, .slice A6 x.Queue.length c6, .slice A7 x.Askers.length c7, .int .i64 x.Peer, .int .i64 x.Pos, .int .i64 x.Count, .int .i64 x.Sent] := ⟨[_], [_, _, _, _, _, _, _, _, _, _, _], rfl, rfl, ⟨[_], [_, _, _, _, _, _, _, _, _, _], rfl, rfl, ⟨[_], [_, _, _, _, _, _, _, _, _], rfl, ⟨A2, c2, rfl, hl2, hC2⟩, ⟨[_], [_, _, _, _, _, _, _, _], rfl, rfl, ⟨[_, _], [_, _, _, _, _, _], rfl, (kl_Value_Kmk w _), ⟨[_], [_, _, _, _, _], rfl, ⟨A6, c6, rfl, hl6, hC6⟩, ⟨[_], [_, _, _, _], rfl, ⟨A7, c7, rfl, hl7, hC7⟩, ⟨[_], [_, _, _], rfl, rfl, ⟨[_], [_, _], rfl, rfl, ⟨[_], [_], rfl, rfl, rfl⟩⟩⟩⟩⟩⟩⟩⟩⟩⟩
theorem ki_Entity_Kmk (w : World) (x : GEntity) {A2 : Option Addr} {c2 : Nat} (hl2 : x.Slots.length ≤ c2) (hC2 : C ki_Value w A2 x.Slots) {A6 : Option Addr} {c6 : Nat} (hl6 : x.Queue.length ≤ c6) (hC6 : C ki_Sent w A6 x.Queue) {A7 : Option Addr} {c7 : Nat} (hl7 : x.Askers.length ≤ c7) (hC7 : C ki_Asker w A7 x.Askers) : ki_Entity.K w x [.int .i64 x.Kind, .int .i64 x.Script, .slice A2 x.Slots.length c2, .int .i64 x.State, .int .i64 x.Value.Kind, .int .i64 x.Value.N, .slice A6 x.Queue.length c6, .slice A7 x.Askers.length c7, .int .i64 x.Peer, .int .i64 x.Pos, .int .i64 x.Count, .int .i64 x.Sent] := ⟨[_], [_, _, _, _, _, _, _, _, _, _, _], rfl, rfl, ⟨[_], [_, _, _, _, _, _, _, _, _, _], rfl, rfl, ⟨[_], [_, _, _, _, _, _, _, _, _], rfl, ⟨A2, c2, rfl, hl2, hC2⟩, ⟨[_], [_, _, _, _, _, _, _, _], rfl, rfl, ⟨[_, _], [_, _, _, _, _, _], rfl, (ki_Value_Kmk w _), ⟨[_], [_, _, _, _, _], rfl, ⟨A6, c6, rfl, hl6, hC6⟩, ⟨[_], [_, _, _, _], rfl, ⟨A7, c7, rfl, hl7, hC7⟩, ⟨[_], [_, _, _], rfl, rfl, ⟨[_], [_, _], rfl, rfl, ⟨[_], [_], rfl, rfl, rfl⟩⟩⟩⟩⟩⟩⟩⟩⟩⟩
set_option maxHeartbeats 1000000 in
set_option maxRecDepth 100000 in
theorem to_Entity (x : GEntity) (cs : List Value) (w : World) (h : kl_Entity.K w x cs) (hs : szn_Entity x ≤ 1048576) : Calls Try.prog 19 #[.agg cs.toArray] w (RetAgg ki_Entity x w) := by
  obtain ⟨A2, c2, A6, c6, A7, c7, rfl, hl2, hC2, hl6, hC6, hl7, hC7⟩ := kl_Entity_K h
  have HC2 := Sd.mk hC2
  have HC6 := Sd.mk hC6
  have HC7 := Sd.mk hC7
  clear hC2 hC6 hC7
  have s_Slots : sznS szn_Value x.Slots ≤ 1048576 := by unfold szn_Entity at hs; omega
  have s_Queue : sznS szn_Sent x.Queue ≤ 1048576 := by unfold szn_Entity at hs; omega
  have s_Askers : sznS szn_Asker x.Askers ≤ 1048576 := by unfold szn_Entity at hs; omega
  clear hs
  go_enter Try.func19, Try.ntmps19
  go_wp2_with fail
  with_reducible refine (toS_Value x.Slots _ _ _ ?hc_Slots s_Slots).mono ?_
  case hc_Slots => exact C_upd (by repeat (with_reducible first | exact Upd.refl _ _ | apply Upd.put2 | apply Upd.put1 | apply Upd.put0 | apply Upd.alloc | apply Upd.drewN | apply Upd.drew)) HC2.out
  rintro e w_Slots ⟨v2, rfl, hR2, hu⟩
  obtain ⟨B2, b2, rfl⟩ := R_slice hR2
  obtain ⟨P2, hR2', g2, l2⟩ := fresh_row hR2 (w.heap.size + 1 + 1 + 1) (by first | omega | (simp; done) | (simp; omega))
  have ge2 : ∀ b, P2 b → w.heap.size + 1 + 1 < b := fun b hb => by have := g2 b hb; omega
  have n1_2 : ¬ P2 (w.heap.size + 1) := fun q => by have := ge2 _ q; omega
  have n2_2 : ¬ P2 (w.heap.size + 1 + 1) := fun q => by have := ge2 _ q; omega
  have HR2 := Sd.mk hR2'
  have GE2 := Sd.mk ge2
  have LT2 := Sd.mk l2
  have GP2 := Sd.mk g2
  clear hR2 hR2' ge2 l2 g2
  have HB_Slots : Sd (Upd No w w_Slots) := Sd.mk (Upd.then (by repeat (with_reducible first | exact Upd.refl _ _ | apply Upd.put2 | apply Upd.put1 | apply Upd.put0 | apply Upd.alloc | apply Upd.drewN | apply Upd.drew)) hu)
  have cc0_Slots := fun o => hu.cellsF (b := w.heap.size) (by first | omega | (simp; done) | (simp; omega)) (fun q => q) o
  have cc1_Slots := fun o => hu.cellsF (b := w.heap.size + 1) (by first | omega | (simp; done) | (simp; omega)) (fun q => q) o
  have cf1_Slots := fun o => hu.frozenF (b := w.heap.size + 1) (by first | omega | (simp; done) | (simp; omega)) (fun q => q) o
  have cc2_Slots := fun o => hu.cellsF (b := w.heap.size + 1 + 1) (by first | omega | (simp; done) | (simp; omega)) (fun q => q) o
  have cf2_Slots := fun o => hu.frozenF (b := w.heap.size + 1 + 1) (by first | omega | (simp; done) | (simp; omega)) (fun q => q) o
  have hz_Slots : w.heap.size + 1 + 1 + 1 ≤ w_Slots.heap.size := by have := hu.size; (try simp at this); omega
  clear hu
  go_wp2_with fail
  with_reducible refine (to_Value x.Value _ _ (kl_Value_Kmk _ _) (by simp [szn_Value])).mono ?_
  rintro e w_Value ⟨cs_Value, rfl, hM, hu⟩
  obtain rfl := ki_Value_M hM
  clear hM
  have HR2 := Sd.mk (R_upd hu (fun _ _ q => q) (R_keep HR2.out (by repeat (with_reducible first | exact Upd.refl _ _ | apply Upd.putP n1_2 | apply Upd.putP n2_2 | apply Upd.alloc))))
  have HB_Value : Sd (Upd No w w_Value) := Sd.mk (Upd.then (by repeat (with_reducible first | exact HB_Slots.out | apply Upd.put2 | apply Upd.put1 | apply Upd.put0 | apply Upd.alloc | apply Upd.drewN | apply Upd.drew)) hu)
  have cc0_Value := fun o => hu.cellsF (b := w.heap.size) (by first | omega | (simp; done) | (simp; omega)) (fun q => q) o
  have cc1_Value := fun o => hu.cellsF (b := w.heap.size + 1) (by first | omega | (simp; done) | (simp; omega)) (fun q => q) o
  have cf1_Value := fun o => hu.frozenF (b := w.heap.size + 1) (by first | omega | (simp; done) | (simp; omega)) (fun q => q) o
  have cc2_Value := fun o => hu.cellsF (b := w.heap.size + 1 + 1) (by first | omega | (simp; done) | (simp; omega)) (fun q => q) o
  have cf2_Value := fun o => hu.frozenF (b := w.heap.size + 1 + 1) (by first | omega | (simp; done) | (simp; omega)) (fun q => q) o
  have hz_Value : w.heap.size + 1 + 1 + 1 ≤ w_Value.heap.size := by have := hu.size; (try simp at this); omega
  have hm_Value : w_Slots.heap.size ≤ w_Value.heap.size := by have := hu.size; (try simp at this); omega
  clear hu
  go_wp2_with fail
  with_reducible refine (toS_Sent x.Queue _ _ _ ?hc_Queue s_Queue).mono ?_
  case hc_Queue => exact C_upd (by repeat (with_reducible first | exact HB_Value.out | apply Upd.put2 | apply Upd.put1 | apply Upd.put0 | apply Upd.alloc | apply Upd.drewN | apply Upd.drew)) HC6.out
  rintro e w_Queue ⟨v6, rfl, hR6, hu⟩
  obtain ⟨B6, b6, rfl⟩ := R_slice hR6
  obtain ⟨P6, hR6', g6, l6⟩ := fresh_row hR6 (w_Value.heap.size) (by first | omega | (simp; done) | (simp; omega))
  have ge6 : ∀ b, P6 b → w.heap.size + 1 + 1 < b := fun b hb => by have := g6 b hb; have := hz_Value; omega
  have n1_6 : ¬ P6 (w.heap.size + 1) := fun q => by have := ge6 _ q; omega
  have n2_6 : ¬ P6 (w.heap.size + 1 + 1) := fun q => by have := ge6 _ q; omega
  have HR6 := Sd.mk hR6'
  have GE6 := Sd.mk ge6
  have LT6 := Sd.mk l6
  have GP6 := Sd.mk g6
  clear hR6 hR6' ge6 l6 g6
  have HR2 := Sd.mk (R_upd hu (fun _ _ q => q) (R_keep HR2.out (by repeat (with_reducible first | exact Upd.refl _ _ | apply Upd.putP n1_2 | apply Upd.putP n2_2 | apply Upd.alloc))))
  have HB_Queue : Sd (Upd No w w_Queue) := Sd.mk (Upd.then (by repeat (with_reducible first | exact HB_Value.out | apply Upd.put2 | apply Upd.put1 | apply Upd.put0 | apply Upd.alloc | apply Upd.drewN | apply Upd.drew)) hu)
  have cc0_Queue := fun o => hu.cellsF (b := w.heap.size) (by first | omega | (simp; done) | (simp; omega)) (fun q => q) o
  have cc1_Queue := fun o => hu.cellsF (b := w.heap.size + 1) (by first | omega | (simp; done) | (simp; omega)) (fun q => q) o
  have cf1_Queue := fun o => hu.frozenF (b := w.heap.size + 1) (by first | omega | (simp; done) | (simp; omega)) (fun q => q) o
  have cc2_Queue := fun o => hu.cellsF (b := w.heap.size + 1 + 1) (by first | omega | (simp; done) | (simp; omega)) (fun q => q) o
  have cf2_Queue := fun o => hu.frozenF (b := w.heap.size + 1 + 1) (by first | omega | (simp; done) | (simp; omega)) (fun q => q) o
  have hz_Queue : w.heap.size + 1 + 1 + 1 ≤ w_Queue.heap.size := by have := hu.size; (try simp at this); omega
  have hm_Queue : w_Value.heap.size ≤ w_Queue.heap.size := by have := hu.size; (try simp at this); omega
  clear hu
  go_wp2_with fail
  with_reducible refine (toS_Asker x.Askers _ _ _ ?hc_Askers s_Askers).mono ?_
  case hc_Askers => exact C_upd (by repeat (with_reducible first | exact HB_Queue.out | apply Upd.put2 | apply Upd.put1 | apply Upd.put0 | apply Upd.alloc | apply Upd.drewN | apply Upd.drew)) HC7.out
  rintro e w_Askers ⟨v7, rfl, hR7, hu⟩
  obtain ⟨B7, b7, rfl⟩ := R_slice hR7
  obtain ⟨P7, hR7', g7, l7⟩ := fresh_row hR7 (w_Queue.heap.size) (by first | omega | (simp; done) | (simp; omega))
  have ge7 : ∀ b, P7 b → w.heap.size + 1 + 1 < b := fun b hb => by have := g7 b hb; have := hz_Queue; omega
  have n1_7 : ¬ P7 (w.heap.size + 1) := fun q => by have := ge7 _ q; omega
  have n2_7 : ¬ P7 (w.heap.size + 1 + 1) := fun q => by have := ge7 _ q; omega
  have HR7 := Sd.mk hR7'
  have GE7 := Sd.mk ge7
  have LT7 := Sd.mk l7
  have GP7 := Sd.mk g7
  clear hR7 hR7' ge7 l7 g7
  have HR2 := Sd.mk (R_upd hu (fun _ _ q => q) (R_keep HR2.out (by repeat (with_reducible first | exact Upd.refl _ _ | apply Upd.putP n1_2 | apply Upd.putP n2_2 | apply Upd.alloc))))
  have HR6 := Sd.mk (R_upd hu (fun _ _ q => q) (R_keep HR6.out (by repeat (with_reducible first | exact Upd.refl _ _ | apply Upd.putP n1_6 | apply Upd.putP n2_6 | apply Upd.alloc))))
  have HB_Askers : Sd (Upd No w w_Askers) := Sd.mk (Upd.then (by repeat (with_reducible first | exact HB_Queue.out | apply Upd.put2 | apply Upd.put1 | apply Upd.put0 | apply Upd.alloc | apply Upd.drewN | apply Upd.drew)) hu)
  have cc0_Askers := fun o => hu.cellsF (b := w.heap.size) (by first | omega | (simp; done) | (simp; omega)) (fun q => q) o
  have cc1_Askers := fun o => hu.cellsF (b := w.heap.size + 1) (by first | omega | (simp; done) | (simp; omega)) (fun q => q) o
  have cf1_Askers := fun o => hu.frozenF (b := w.heap.size + 1) (by first | omega | (simp; done) | (simp; omega)) (fun q => q) o
  have cc2_Askers := fun o => hu.cellsF (b := w.heap.size + 1 + 1) (by first | omega | (simp; done) | (simp; omega)) (fun q => q) o
  have cf2_Askers := fun o => hu.frozenF (b := w.heap.size + 1 + 1) (by first | omega | (simp; done) | (simp; omega)) (fun q => q) o
  have hz_Askers : w.heap.size + 1 + 1 + 1 ≤ w_Askers.heap.size := by have := hu.size; (try simp at this); omega
  have hm_Askers : w_Queue.heap.size ≤ w_Askers.heap.size := by have := hu.size; (try simp at this); omega
  clear hu
  go_wp2
  refine bodyPost_ret (v := .agg #[.int .i64 x.Kind, .int .i64 x.Script, .slice B2 x.Slots.length b2, .int .i64 x.State, .int .i64 x.Value.Kind, .int .i64 x.Value.N, .slice B6 x.Queue.length b6, .slice B7 x.Askers.length b7, .int .i64 x.Peer, .int .i64 x.Pos, .int .i64 x.Count, .int .i64 x.Sent]) (by simp [results, Try.results19, go_sem, cc1_Slots, cc1_Value, cc1_Queue, cc1_Askers]) rfl ⟨_, rfl, ?_, (by repeat (with_reducible first | exact HB_Askers.out | apply Upd.put2 | apply Upd.put1 | apply Upd.put0 | apply Upd.alloc | apply Upd.drewN | apply Upd.drew))⟩
  exact ki_Entity_mk _ _ _ (R_keep HR2.out (by repeat (with_reducible first | exact Upd.refl _ _ | apply Upd.putP n1_2 | apply Upd.putP n2_2 | apply Upd.alloc))) (R_keep HR6.out (by repeat (with_reducible first | exact Upd.refl _ _ | apply Upd.putP n1_6 | apply Upd.putP n2_6 | apply Upd.alloc))) (R_keep HR7.out (by repeat (with_reducible first | exact Upd.refl _ _ | apply Upd.putP n1_7 | apply Upd.putP n2_7 | apply Upd.alloc))) (fun k hk => by have := GE2.out k hk; simp only [New]; omega) (fun k hk => by have := GE6.out k hk; simp only [New]; omega) (fun k hk => by have := GE7.out k hk; simp only [New]; omega) (fun k hk hk' => by have h1 := LT2.out k hk; have h2 := GP6.out k hk'; have := hm_Value; omega) (fun k hk hk' => by have h1 := LT2.out k hk; have h2 := GP7.out k hk'; have := hm_Value; have := hm_Queue; omega) (fun k hk hk' => by have h1 := LT6.out k hk; have h2 := GP7.out k hk'; omega)
set_option maxHeartbeats 1000000 in
set_option maxRecDepth 100000 in
theorem toS_Entity (l : List GEntity) (A : Option Addr) (c : Nat) (w : World) (h : C kl_Entity w A l) (hs : sznS szn_Entity l ≤ 1048576) : Calls Try.prog 70 #[.slice A l.length c] w (RetRow ki_Entity 57 l w) := by
  have hn : l.length ≤ 1048576 := by unfold sznS at hs; omega
  have hmk := run_made (P := Try.prog) _ _ _ Try.underlying23 ki_Entity_info l.length hn (by decide)
  have H := Sd.mk h
  have HS := Sd.mk hs
  clear h hs
  go_enter Try.func70, Try.ntmps70
  go_wp2
  clear hmk
  have HR : Sd (R ki_Entity 57 (w.alloc (madeObj (.agg #[.int .i64 0, .int .i64 0, .slice none 0 0, .int .i64 0, .int .i64 0, .int .i64 0, .slice none 0 0, .slice none 0 0, .int .i64 0, .int .i64 0, .int .i64 0, .int .i64 0]) (l.length * 12) 57)) (New w) (.slice (some ⟨w.heap.size, 0, none⟩) l.length l.length) (List.replicate l.length zEntity)) := Sd.mk (R_made (d := ki_Entity) (e := 57) w (.agg #[.int .i64 0, .int .i64 0, .slice none 0 0, .int .i64 0, .int .i64 0, .int .i64 0, .slice none 0 0, .slice none 0 0, .int .i64 0, .int .i64 0, .int .i64 0, .int .i64 0]) zEntity rfl (by decide) ki_Entity_zero l.length hn)
  have HU := Sd.mk ((Upd.refl No w).alloc (madeObj (.agg #[.int .i64 0, .int .i64 0, .slice none 0 0, .int .i64 0, .int .i64 0, .int .i64 0, .slice none 0 0, .slice none 0 0, .int .i64 0, .int .i64 0, .int .i64 0, .int .i64 0]) (l.length * 12) 57))
  go_loopg [4] l.length (fun k v wr => ∃ i : Nat, i + k = l.length ∧ v = .int .i64 i ∧ Sd (R ki_Entity 57 wr (New w) (.slice (some ⟨w.heap.size, 0, none⟩) l.length l.length) (upTo l (List.replicate l.length zEntity) i)) ∧ Sd (Upd No w wr))
  case atStart => exact ⟨0, by omega, rfl, ⟨by rw [upTo_zero]; exact HR.out⟩, HU⟩
  case round =>
    clear HR HU
    obtain ⟨i, hi, rfl, HR, HU⟩ := hrel
    by_cases hlt : i < l.length
    · obtain ⟨ad, A2, c2, A6, c6, A7, c7, rfl, a0, a1, a2, a3, a4, a5, a6, a7, a8, a9, a10, a11, hl2, hC2, hl6, hC6, hl7, hC7⟩ := kl_Entity_at (C_upd HU.out H.out) i hlt
      have HC2 := Sd.mk hC2
      clear hC2
      have HC6 := Sd.mk hC6
      clear hC6
      have HC7 := Sd.mk hC7
      clear hC7
      have hsi : szn_Entity l[i] ≤ 1048576 := by have := HS.out; have := sumS_at szn_Entity l i hlt; unfold sznS at *; omega
      go_wp2_with fail
      with_reducible refine (to_Entity l[i] _ _ (kl_Entity_Kmk _ _ hl2 HC2.out hl6 HC6.out hl7 HC7.out) hsi).mono ?_
      rintro e w1 ⟨cs, rfl, hM, hu⟩
      obtain ⟨v2, P2, v6, P6, v7, P7, rfl, hR2, hR6, hR7, i2, i6, i7, d2_6, d2_7, d6_7⟩ := ki_Entity_M (ki_Entity.M_lt hM)
      obtain ⟨D2, d2, rfl⟩ := R_slice hR2
      obtain ⟨D6, d6, rfl⟩ := R_slice hR6
      obtain ⟨D7, d7, rfl⟩ := R_slice hR7
      have HRowA := R_upd hu (fun _ _ q => q) (R_lt HR.out)
      have HU1 := Sd.mk (HU.out.then hu)
      have hzw := HU.out.size
      have HR2 := Sd.mk hR2
      have I2 := Sd.mk i2
      have HR6 := Sd.mk hR6
      have I6 := Sd.mk i6
      have HR7 := Sd.mk hR7
      have I7 := Sd.mk i7
      have D2_6 := Sd.mk d2_6
      have D2_7 := Sd.mk d2_7
      have D6_7 := Sd.mk d6_7
      clear HR HU hM hu hR2 i2 hR6 i6 hR7 i7 d2_6 d2_7 d6_7
      obtain ⟨g, cap, cur, ce, Fi, hv, hcap, hat, hM, hg, hFi, hFg, close⟩ := R_elem HRowA 12 l.length rfl (by rw [upTo_len (by simp) (by simp; omega)]; simp) i zEntity (by rw [upTo_at (by simp) (by simpa using hlt)]; simp)
      cases hv
      obtain ⟨y2, _, y6, _, y7, _, rfl, -⟩ := ki_Entity_M hM
      have HAT := Sd.mk hat
      have x0 := hat.cell0 _ rfl
      have x1 := hat.cell 1 _ rfl
      have x2 := hat.cell 2 _ rfl
      have x3 := hat.cell 3 _ rfl
      have x4 := hat.cell 4 _ rfl
      have x5 := hat.cell 5 _ rfl
      have x6 := hat.cell 6 _ rfl
      have x7 := hat.cell 7 _ rfl
      have x8 := hat.cell 8 _ rfl
      have x9 := hat.cell 9 _ rfl
      have x10 := hat.cell 10 _ rfl
      have x11 := hat.cell 11 _ rfl
      have f0 := hat.free (i * 12)
      have f1 := hat.free (i * 12 + 1)
      have f2 := hat.free (i * 12 + 2)
      have f3 := hat.free (i * 12 + 3)
      have f4 := hat.free (i * 12 + 4)
      have f5 := hat.free (i * 12 + 5)
      have f6 := hat.free (i * 12 + 6)
      have f7 := hat.free (i * 12 + 7)
      have f8 := hat.free (i * 12 + 8)
      have f9 := hat.free (i * 12 + 9)
      have f10 := hat.free (i * 12 + 10)
      have f11 := hat.free (i * 12 + 11)
      have CL := Sd.mk close
      clear hat close hM HRowA
      go_wp2
      have HA := (((((((((((HAT.out.set0 (by decide) (.int .i64 l[i].Kind)).set 1 (by decide) (.int .i64 l[i].Script)).set 2 (by decide) (.slice D2 l[i].Slots.length d2)).set 3 (by decide) (.int .i64 l[i].State)).set 4 (by decide) (.int .i64 l[i].Value.Kind)).set 5 (by decide) (.int .i64 l[i].Value.N)).set 6 (by decide) (.slice D6 l[i].Queue.length d6)).set 7 (by decide) (.slice D7 l[i].Askers.length d7)).set 8 (by decide) (.int .i64 l[i].Peer)).set 9 (by decide) (.int .i64 l[i].Pos)).set 10 (by decide) (.int .i64 l[i].Count)).set 11 (by decide) (.int .i64 l[i].Sent)
      have hD2 : ∀ b, P2 b → ¬ (b = w.heap.size ∨ Fi b) := by
        intro b hb q
        have h1 := (I2.out b hb).1
        simp only [New] at h1
        rcases q with rfl | q
        · exact absurd hg.2 (by omega)
        · have h2 := (hFi b q).2
          omega
      have hD6 : ∀ b, P6 b → ¬ (b = w.heap.size ∨ Fi b) := by
        intro b hb q
        have h1 := (I6.out b hb).1
        simp only [New] at h1
        rcases q with rfl | q
        · exact absurd hg.2 (by omega)
        · have h2 := (hFi b q).2
          omega
      have hD7 : ∀ b, P7 b → ¬ (b = w.heap.size ∨ Fi b) := by
        intro b hb q
        have h1 := (I7.out b hb).1
        simp only [New] at h1
        rcases q with rfl | q
        · exact absurd hg.2 (by omega)
        · have h2 := (hFi b q).2
          omega
      have HM := ki_Entity_mk _ (fun b => P2 b ∨ P6 b ∨ P7 b) l[i] (R_upd HA.upd hD2 HR2.out) (R_upd HA.upd hD6 HR6.out) (R_upd HA.upd hD7 HR7.out) (fun k hk => Or.inl hk) (fun k hk => Or.inr (Or.inl hk)) (fun k hk => Or.inr (Or.inr (hk))) D2_6.out D2_7.out D6_7.out
      have hP1 : ∀ b, (P2 b ∨ P6 b ∨ P7 b) → New wr b := by
        intro b hb
        rcases hb with hb | hb | hb
        · exact (I2.out b hb).1
        · exact (I6.out b hb).1
        · exact (I7.out b hb).1
      have HRowB := CL.out _ _ l[i] _ (New w) HA HM (fun b hb => .inr (fun q => by have h1 := hP1 b hb; have h2 := q.2; simp only [New] at h1; omega)) (fun _ q => q.1) (fun b hb => by have h1 := hP1 b hb; simp only [New] at h1 ⊢; omega)
      rw [upTo_set (by simp) (by simpa using hlt)] at HRowB
      go_roundg (gk - 1)
      case measure => omega
      case rel => exact ⟨i + 1, by omega, by go_num, ⟨HRowB⟩, ⟨by repeat (with_reducible first | exact HU1.out | apply Upd.put0)⟩⟩
    · go_wp2
      go_ret
      have HRowB := HR.out
      rw [upTo_end (by simp) (by simp; omega)] at HRowB
      exact ⟨_, rfl, HRowB, HU.out⟩
set_option maxHeartbeats 1000000 in
set_option maxRecDepth 100000 in
theorem sz_Entity (x : GEntity) (cs : List Value) (n : Int) (w : World) (h : kl_Entity.K w x cs) (hb : Bd_Entity x) (h0 : 0 ≤ n) (h1 : n ≤ 1048576) : Calls Try.prog 16 #[.agg cs.toArray, .int .i64 n] w (RetSz (szn_Entity x) n w) := by
  obtain ⟨A2, c2, A6, c6, A7, c7, rfl, hl2, hC2, hl6, hC6, hl7, hC7⟩ := kl_Entity_K h
  have HC2 := Sd.mk hC2
  have HC6 := Sd.mk hC6
  have HC7 := Sd.mk hC7
  clear hC2 hC6 hC7
  have b_Queue := hb
  unfold Bd_Entity at b_Queue
  have B_Queue := Sd.mk b_Queue
  clear b_Queue
  go_enter Try.func16, Try.ntmps16
  go_wp2_with fail
  with_reducible refine (szS_Value x.Slots _ _ _ _ ?hc_Slots (by omega) (by omega)).mono ?_
  case hc_Slots => exact C_upd (by repeat (with_reducible first | exact Upd.refl _ _ | apply Upd.put2 | apply Upd.put1 | apply Upd.put0 | apply Upd.alloc | apply Upd.drewN | apply Upd.drew)) HC2.out
  rintro e w_Slots ⟨r_Slots, rfl, hr_Slots, hu⟩
  have HB_Slots : Sd (Upd No w w_Slots) := Sd.mk (Upd.then (by repeat (with_reducible first | exact Upd.refl _ _ | apply Upd.put2 | apply Upd.put1 | apply Upd.put0 | apply Upd.alloc | apply Upd.drewN | apply Upd.drew)) hu)
  have cc0_Slots := fun o => hu.cellsF (b := w.heap.size) (by first | omega | (simp; done) | (simp; omega)) (fun q => q) o
  have hz_Slots : w.heap.size + 1 ≤ w_Slots.heap.size := by have := hu.size; (try simp at this); omega
  clear hu
  rcases hr_Slots with ⟨q_Slots, rfl⟩ | ⟨q_Slots, rfl⟩
  case inr =>
    go_wp2
    go_ret
    exact ⟨_, rfl, .inr ⟨by unfold szn_Entity; omega, rfl⟩, (by repeat (with_reducible first | exact HB_Slots.out | apply Upd.put2 | apply Upd.put1 | apply Upd.put0 | apply Upd.alloc | apply Upd.drewN | apply Upd.drew))⟩
  go_wp2_with fail
  with_reducible refine (szS_Sent x.Queue _ _ _ _ ?hc_Queue B_Queue.out (by omega) (by omega)).mono ?_
  case hc_Queue => exact C_upd (by repeat (with_reducible first | exact HB_Slots.out | apply Upd.put2 | apply Upd.put1 | apply Upd.put0 | apply Upd.alloc | apply Upd.drewN | apply Upd.drew)) HC6.out
  rintro e w_Queue ⟨r_Queue, rfl, hr_Queue, hu⟩
  have HB_Queue : Sd (Upd No w w_Queue) := Sd.mk (Upd.then (by repeat (with_reducible first | exact HB_Slots.out | apply Upd.put2 | apply Upd.put1 | apply Upd.put0 | apply Upd.alloc | apply Upd.drewN | apply Upd.drew)) hu)
  have cc0_Queue := fun o => hu.cellsF (b := w.heap.size) (by first | omega | (simp; done) | (simp; omega)) (fun q => q) o
  have hz_Queue : w.heap.size + 1 ≤ w_Queue.heap.size := by have := hu.size; (try simp at this); omega
  clear hu
  rcases hr_Queue with ⟨q_Queue, rfl⟩ | ⟨q_Queue, rfl⟩
  case inr =>
    go_wp2
    go_ret
    exact ⟨_, rfl, .inr ⟨by unfold szn_Entity; omega, rfl⟩, (by repeat (with_reducible first | exact HB_Queue.out | apply Upd.put2 | apply Upd.put1 | apply Upd.put0 | apply Upd.alloc | apply Upd.drewN | apply Upd.drew))⟩
  go_wp2_with fail
  with_reducible refine (szS_Asker x.Askers _ _ _ _ ?hc_Askers (by omega) (by omega)).mono ?_
  case hc_Askers => exact C_upd (by repeat (with_reducible first | exact HB_Queue.out | apply Upd.put2 | apply Upd.put1 | apply Upd.put0 | apply Upd.alloc | apply Upd.drewN | apply Upd.drew)) HC7.out
  rintro e w_Askers ⟨r_Askers, rfl, hr_Askers, hu⟩
  have HB_Askers : Sd (Upd No w w_Askers) := Sd.mk (Upd.then (by repeat (with_reducible first | exact HB_Queue.out | apply Upd.put2 | apply Upd.put1 | apply Upd.put0 | apply Upd.alloc | apply Upd.drewN | apply Upd.drew)) hu)
  have cc0_Askers := fun o => hu.cellsF (b := w.heap.size) (by first | omega | (simp; done) | (simp; omega)) (fun q => q) o
  have hz_Askers : w.heap.size + 1 ≤ w_Askers.heap.size := by have := hu.size; (try simp at this); omega
  clear hu
  rcases hr_Askers with ⟨q_Askers, rfl⟩ | ⟨q_Askers, rfl⟩
  case inr =>
    go_wp2
    go_ret
    exact ⟨_, rfl, .inr ⟨by unfold szn_Entity; omega, rfl⟩, (by repeat (with_reducible first | exact HB_Askers.out | apply Upd.put2 | apply Upd.put1 | apply Upd.put0 | apply Upd.alloc | apply Upd.drewN | apply Upd.drew))⟩
  go_wp2
  go_ret
  exact ⟨_, rfl, .inl ⟨by unfold szn_Entity; omega, by unfold szn_Entity; omega⟩, (by repeat (with_reducible first | exact HB_Askers.out | apply Upd.put2 | apply Upd.put1 | apply Upd.put0 | apply Upd.alloc | apply Upd.drewN | apply Upd.drew))⟩
set_option maxHeartbeats 1000000 in
set_option maxRecDepth 100000 in
theorem szS_Entity (l : List GEntity) (A : Option Addr) (c : Nat) (n : Int) (w : World) (h : C kl_Entity w A l) (hb : ∀ y ∈ l, Bd_Entity y) (h0 : 0 ≤ n) (h1 : n ≤ 1048576) : Calls Try.prog 62 #[.slice A l.length c, .int .i64 n] w (RetSz (sznS szn_Entity l) n w) := by
  have hn := h.1
  have H := Sd.mk h
  clear h
  have HBD := Sd.mk hb
  clear hb
  go_enter Try.func62, Try.ntmps62
  by_cases q0 : (l.length : Int) ≤ n
  case neg =>
    go_wp2
    go_ret
    exact ⟨_, rfl, .inr ⟨by unfold sznS; omega, rfl⟩, Upd.refl _ _⟩
  go_wp2
  go_loopg [1, 5] l.length (fun k u v wr => ∃ i : Nat, i + k = l.length ∧ (sumS szn_Entity (l.take i) : Int) ≤ n - l.length ∧ u = .int .i64 (n - l.length - sumS szn_Entity (l.take i)) ∧ v = .int .i64 i ∧ Sd (Upd No w wr))
  case atStart => exact ⟨0, by omega, by simp [sumS]; omega, by simp [sumS], rfl, ⟨Upd.refl _ _⟩⟩
  case round =>
    obtain ⟨i, hi, hle, rfl, rfl, HU⟩ := hrel
    by_cases hlt : i < l.length
    · obtain ⟨ad, A2, c2, A6, c6, A7, c7, rfl, a0, a1, a2, a3, a4, a5, a6, a7, a8, a9, a10, a11, hl2, hC2, hl6, hC6, hl7, hC7⟩ := kl_Entity_at (C_upd HU.out H.out) i hlt
      have HC2 := Sd.mk hC2
      clear hC2
      have HC6 := Sd.mk hC6
      clear hC6
      have HC7 := Sd.mk hC7
      clear hC7
      have hst := sumS_step szn_Entity l i hlt
      have HST := Sd.mk (sumS_take szn_Entity l i hlt)
      generalize hs : sumS szn_Entity (l.take i) = s at *
      have HS := Sd.mk hs
      clear hs
      go_wp2_with fail
      with_reducible refine (sz_Entity l[i] _ _ _ (kl_Entity_Kmk _ _ hl2 HC2.out hl6 HC6.out hl7 HC7.out) (HBD.out _ (List.getElem_mem hlt)) (by omega) (by omega)).mono ?_
      rintro e w1 ⟨r, rfl, hr, hu⟩
      have HU1 := Sd.mk (HU.out.then hu)
      clear hu HU
      rcases hr with ⟨q, rfl⟩ | ⟨q, rfl⟩
      · go_wp2
        go_roundg (gk - 1)
        case measure => omega
        case rel => exact ⟨i + 1, by omega, by rw [HST.out]; omega, by rw [HST.out]; exact congrArg (Value.int .i64) (by omega), by go_num, HU1⟩
      · go_wp2
        go_ret
        exact ⟨_, rfl, .inr ⟨by unfold sznS; omega, rfl⟩, HU1.out⟩
    · go_wp2
      go_ret
      have e : l.take i = l := List.take_of_length_le (by omega)
      rw [e] at hle
      exact ⟨_, rfl, .inl ⟨by unfold sznS; omega, by rw [e]; unfold sznS; omega⟩, HU.out⟩
set_option maxHeartbeats 1000000 in
set_option maxRecDepth 100000 in
theorem eq_Entity (x : GEntity) (cs cs' : List Value) (w : World) (h : ki_Entity.K w x cs) (h' : ki_Entity.K w x cs') : Calls Try.prog 21 #[.agg cs.toArray, .agg cs'.toArray] w (RetBool true w) := by
  obtain ⟨A2, c2, A6, c6, A7, c7, rfl, hl2, hC2, hl6, hC6, hl7, hC7⟩ := ki_Entity_K h
  have HC2 := Sd.mk hC2
  have HC6 := Sd.mk hC6
  have HC7 := Sd.mk hC7
  clear hC2 hC6 hC7
  obtain ⟨B2, b2, B6, b6, B7, b7, rfl, hm2, hD2, hm6, hD6, hm7, hD7⟩ := ki_Entity_K h'
  have HD2 := Sd.mk hD2
  have HD6 := Sd.mk hD6
  have HD7 := Sd.mk hD7
  clear hD2 hD6 hD7
  go_enter Try.func21, Try.ntmps21
  go_wp2_with fail
  with_reducible refine (eqS_Value x.Slots _ _ _ _ _ ?hc_Slots ?hd_Slots).mono ?_
  case hc_Slots => exact C_upd (by repeat (with_reducible first | exact Upd.refl _ _ | apply Upd.put2 | apply Upd.put1 | apply Upd.put0 | apply Upd.alloc | apply Upd.drewN | apply Upd.drew)) HC2.out
  case hd_Slots => exact C_upd (by repeat (with_reducible first | exact Upd.refl _ _ | apply Upd.put2 | apply Upd.put1 | apply Upd.put0 | apply Upd.alloc | apply Upd.drewN | apply Upd.drew)) HD2.out
  rintro e w_Slots ⟨rfl, hu⟩
  have HB_Slots : Sd (Upd No w w_Slots) := Sd.mk (Upd.then (by repeat (with_reducible first | exact Upd.refl _ _ | apply Upd.put2 | apply Upd.put1 | apply Upd.put0 | apply Upd.alloc | apply Upd.drewN | apply Upd.drew)) hu)
  have cc0_Slots := fun o => hu.cellsF (b := w.heap.size) (by first | omega | (simp; done) | (simp; omega)) (fun q => q) o
  have cc1_Slots := fun o => hu.cellsF (b := w.heap.size + 1) (by first | omega | (simp; done) | (simp; omega)) (fun q => q) o
  have hz_Slots : w.heap.size + 1 + 1 ≤ w_Slots.heap.size := by have := hu.size; (try simp at this); omega
  clear hu
  go_wp2_with fail
  with_reducible refine (eq_Value x.Value _ _ _ (ki_Value_Kmk _ _) (ki_Value_Kmk _ _)).mono ?_
  rintro e w_Value ⟨rfl, hu⟩
  have HB_Value : Sd (Upd No w w_Value) := Sd.mk (Upd.then (by repeat (with_reducible first | exact HB_Slots.out | apply Upd.put2 | apply Upd.put1 | apply Upd.put0 | apply Upd.alloc | apply Upd.drewN | apply Upd.drew)) hu)
  have cc0_Value := fun o => hu.cellsF (b := w.heap.size) (by first | omega | (simp; done) | (simp; omega)) (fun q => q) o
  have cc1_Value := fun o => hu.cellsF (b := w.heap.size + 1) (by first | omega | (simp; done) | (simp; omega)) (fun q => q) o
  have hz_Value : w.heap.size + 1 + 1 ≤ w_Value.heap.size := by have := hu.size; (try simp at this); omega
  clear hu
  go_wp2_with fail
  with_reducible refine (eqS_Sent x.Queue _ _ _ _ _ ?hc_Queue ?hd_Queue).mono ?_
  case hc_Queue => exact C_upd (by repeat (with_reducible first | exact HB_Value.out | apply Upd.put2 | apply Upd.put1 | apply Upd.put0 | apply Upd.alloc | apply Upd.drewN | apply Upd.drew)) HC6.out
  case hd_Queue => exact C_upd (by repeat (with_reducible first | exact HB_Value.out | apply Upd.put2 | apply Upd.put1 | apply Upd.put0 | apply Upd.alloc | apply Upd.drewN | apply Upd.drew)) HD6.out
  rintro e w_Queue ⟨rfl, hu⟩
  have HB_Queue : Sd (Upd No w w_Queue) := Sd.mk (Upd.then (by repeat (with_reducible first | exact HB_Value.out | apply Upd.put2 | apply Upd.put1 | apply Upd.put0 | apply Upd.alloc | apply Upd.drewN | apply Upd.drew)) hu)
  have cc0_Queue := fun o => hu.cellsF (b := w.heap.size) (by first | omega | (simp; done) | (simp; omega)) (fun q => q) o
  have cc1_Queue := fun o => hu.cellsF (b := w.heap.size + 1) (by first | omega | (simp; done) | (simp; omega)) (fun q => q) o
  have hz_Queue : w.heap.size + 1 + 1 ≤ w_Queue.heap.size := by have := hu.size; (try simp at this); omega
  clear hu
  go_wp2_with fail
  with_reducible refine (eqS_Asker x.Askers _ _ _ _ _ ?hc_Askers ?hd_Askers).mono ?_
  case hc_Askers => exact C_upd (by repeat (with_reducible first | exact HB_Queue.out | apply Upd.put2 | apply Upd.put1 | apply Upd.put0 | apply Upd.alloc | apply Upd.drewN | apply Upd.drew)) HC7.out
  case hd_Askers => exact C_upd (by repeat (with_reducible first | exact HB_Queue.out | apply Upd.put2 | apply Upd.put1 | apply Upd.put0 | apply Upd.alloc | apply Upd.drewN | apply Upd.drew)) HD7.out
  rintro e w_Askers ⟨rfl, hu⟩
  have HB_Askers : Sd (Upd No w w_Askers) := Sd.mk (Upd.then (by repeat (with_reducible first | exact HB_Queue.out | apply Upd.put2 | apply Upd.put1 | apply Upd.put0 | apply Upd.alloc | apply Upd.drewN | apply Upd.drew)) hu)
  have cc0_Askers := fun o => hu.cellsF (b := w.heap.size) (by first | omega | (simp; done) | (simp; omega)) (fun q => q) o
  have cc1_Askers := fun o => hu.cellsF (b := w.heap.size + 1) (by first | omega | (simp; done) | (simp; omega)) (fun q => q) o
  have hz_Askers : w.heap.size + 1 + 1 ≤ w_Askers.heap.size := by have := hu.size; (try simp at this); omega
  clear hu
  go_wp2
  go_ret
  exact ⟨rfl, (by repeat (with_reducible first | exact HB_Askers.out | apply Upd.put2 | apply Upd.put1 | apply Upd.put0 | apply Upd.alloc | apply Upd.drewN | apply Upd.drew))⟩
set_option maxHeartbeats 1000000 in
set_option maxRecDepth 100000 in
theorem eqS_Entity (l : List GEntity) (A A' : Option Addr) (c c' : Nat) (w : World) (h : C ki_Entity w A l) (h' : C ki_Entity w A' l) : Calls Try.prog 50 #[.slice A l.length c, .slice A' l.length c'] w (RetBool true w) := by
  have hn := h.1
  have H := Sd.mk h
  have H' := Sd.mk h'
  clear h h'
  go_enter Try.func50, Try.ntmps50
  go_wp2
  go_loopg [5] l.length (fun k v wr => ∃ i : Nat, i + k = l.length ∧ v = .int .i64 i ∧ Sd (Upd No w wr))
  case atStart => exact ⟨0, by omega, rfl, ⟨Upd.refl _ _⟩⟩
  case round =>
    obtain ⟨i, hi, rfl, HU⟩ := hrel
    by_cases hlt : i < l.length
    · obtain ⟨ad, A2, c2, A6, c6, A7, c7, rfl, a0, a1, a2, a3, a4, a5, a6, a7, a8, a9, a10, a11, hl2, hC2, hl6, hC6, hl7, hC7⟩ := ki_Entity_at (C_upd HU.out H.out) i hlt
      obtain ⟨ad', B2, b2, B6, b6, B7, b7, rfl, z0, z1, z2, z3, z4, z5, z6, z7, z8, z9, z10, z11, hm2, hD2, hm6, hD6, hm7, hD7⟩ := ki_Entity_at (C_upd HU.out H'.out) i hlt
      have HC2 := Sd.mk hC2
      have HD2 := Sd.mk hD2
      clear hC2 hD2
      have HC6 := Sd.mk hC6
      have HD6 := Sd.mk hD6
      clear hC6 hD6
      have HC7 := Sd.mk hC7
      have HD7 := Sd.mk hD7
      clear hC7 hD7
      go_wp2_with fail
      go_still_tail 8, (by kernel_rfl)
      change wpList _ _ _ _ _ wr.drew
      have HW : Sd (Upd No wr wr.drew) := ⟨(Upd.refl _ _).drew⟩
      have HU2 : Sd (Upd No w wr.drew) := ⟨HU.out.drew⟩
      generalize wr.drew = w2 at *
      go_wp2_with (go_at_call 21; (with_reducible refine (eq_Entity l[i] _ _ _ (ki_Entity_Kmk _ _ hl2 (C_upd HW.out HC2.out) hl6 (C_upd HW.out HC6.out) hl7 (C_upd HW.out HC7.out)) (ki_Entity_Kmk _ _ hm2 (C_upd HW.out HD2.out) hm6 (C_upd HW.out HD6.out) hm7 (C_upd HW.out HD7.out))).mono ?_); rintro e w' ⟨rfl, hu⟩)
      have HU3 := Sd.mk (HU2.out.then hu)
      clear HU2 hu
      go_wp2
      go_roundg (gk - 1)
      case measure => omega
      case rel => exact ⟨i + 1, by omega, by go_num, HU3⟩
    · go_wp2
      go_ret
      exact ⟨rfl, HU.out⟩
set_option maxHeartbeats 1000000 in
set_option maxRecDepth 100000 in
theorem markS_Entity (l : List GEntity) (k : Int) (F : Nat → Prop) (v : Value) (w : World) (h : R ki_Entity 57 w F v l) (hk : 0 ≤ k) (hb : k + cntS cnt_Entity l ≤ 4611686018427387904) : Calls Try.prog 54 #[v, .int .i64 k] w (Marks ki_Entity 57 F v (k + cntS cnt_Entity l) (mkS mk_Entity cnt_Entity k l) w) := by
  obtain ⟨A, c, rfl⟩ := R_slice h
  have hn := R_len h
  have H := Sd.mk h
  clear h
  go_enter Try.func54, Try.ntmps54
  go_wp2
  go_loopg [1, 5] l.length (fun r u v wr => ∃ i : Nat, i + r = l.length ∧ u = .int .i64 (k + cntS cnt_Entity (l.take i)) ∧ v = .int .i64 i ∧ Sd (R ki_Entity 57 wr F (.slice A l.length c) (upTo (mkS mk_Entity cnt_Entity k l) l i)) ∧ Sd (Upd F w wr))
  case atStart => exact ⟨0, by omega, by simp [cntS], rfl, ⟨by rw [upTo_zero]; exact H.out⟩, ⟨Upd.refl _ _⟩⟩
  case round =>
    obtain ⟨i, hi, rfl, rfl, HR, HU⟩ := hrel
    by_cases hlt : i < l.length
    · have hle := cntS_le cnt_Entity cnt_Entity_nn l i
      have hst := cntS_take cnt_Entity l i hlt
      have hle2 := cntS_le cnt_Entity cnt_Entity_nn l (i + 1)
      rw [hst] at hle2
      have HST := Sd.mk hst
      clear hst
      have HMA := Sd.mk (mkS_at mk_Entity cnt_Entity l k i hlt)
      obtain ⟨g, cap, cur, ce, Fi, hv, hcap, hat, hM, hg, hFi, hFg, close⟩ := R_elem HR.out 12 l.length rfl (upTo_len (mkS_len _ _ _ _) (by omega)) i l[i] (upTo_at (mkS_len _ _ _ _) hlt)
      cases hv
      obtain ⟨v2, P2, v6, P6, v7, P7, rfl, hR2, hR6, hR7, i2, i6, i7, d2_6, d2_7, d6_7⟩ := ki_Entity_M hM
      obtain ⟨B2, b2, rfl⟩ := R_slice hR2
      have HR2 := Sd.mk hR2
      have I2 := Sd.mk i2
      have N2 : ¬ P2 g := fun q => hFg (i2 g q)
      clear hR2 i2
      have nn2 := cntS_nn cnt_Value cnt_Value_nn l[i].Slots
      obtain ⟨B6, b6, rfl⟩ := R_slice hR6
      have HR6 := Sd.mk hR6
      have I6 := Sd.mk i6
      have N6 : ¬ P6 g := fun q => hFg (i6 g q)
      clear hR6 i6
      have nn6 := cntS_nn cnt_Sent cnt_Sent_nn l[i].Queue
      obtain ⟨B7, b7, rfl⟩ := R_slice hR7
      have HR7 := Sd.mk hR7
      have I7 := Sd.mk i7
      have N7 : ¬ P7 g := fun q => hFg (i7 g q)
      clear hR7 i7
      have nn7 := cntS_nn cnt_Asker cnt_Asker_nn l[i].Askers
      have D2_6 := Sd.mk d2_6
      clear d2_6
      have D2_7 := Sd.mk d2_7
      clear d2_7
      have D6_7 := Sd.mk d6_7
      clear d6_7
      have HCN : Sd (cnt_Entity l[i] = cnt_Entity l[i]) := ⟨rfl⟩
      simp only [cnt_Entity] at hle2
      generalize hq : k + cntS cnt_Entity (l.take i) = q at *
      have HQ := Sd.mk hq
      have hq0 : 0 ≤ q := by omega
      have hqb : q + ((((((((((((0 + 1) + 1) + cntS cnt_Value l[i].Slots) + 1) + 1) + 1) + cntS cnt_Sent l[i].Queue) + cntS cnt_Asker l[i].Askers) + 1) + 1) + 1) + 1) ≤ 4611686018427387904 := by omega
      clear hq hle hle2 hb
      generalize hcn2 : cntS cnt_Value l[i].Slots = cn2 at *
      have HC2 := Sd.mk hcn2
      clear hcn2
      generalize hcn6 : cntS cnt_Sent l[i].Queue = cn6 at *
      have HC6 := Sd.mk hcn6
      clear hcn6
      generalize hcn7 : cntS cnt_Asker l[i].Askers = cn7 at *
      have HC7 := Sd.mk hcn7
      clear hcn7
      have HAT := Sd.mk hat
      have x0_s := hat.cell0 _ rfl
      have x1_s := hat.cell 1 _ rfl
      have x2_s := hat.cell 2 _ rfl
      have x3_s := hat.cell 3 _ rfl
      have x4_s := hat.cell 4 _ rfl
      have x5_s := hat.cell 5 _ rfl
      have x6_s := hat.cell 6 _ rfl
      have x7_s := hat.cell 7 _ rfl
      have x8_s := hat.cell 8 _ rfl
      have x9_s := hat.cell 9 _ rfl
      have x10_s := hat.cell 10 _ rfl
      have x11_s := hat.cell 11 _ rfl
      have f0_s := hat.free (i * 12)
      have f1_s := hat.free (i * 12 + 1)
      have f2_s := hat.free (i * 12 + 2)
      have f3_s := hat.free (i * 12 + 3)
      have f4_s := hat.free (i * 12 + 4)
      have f5_s := hat.free (i * 12 + 5)
      have f6_s := hat.free (i * 12 + 6)
      have f7_s := hat.free (i * 12 + 7)
      have f8_s := hat.free (i * 12 + 8)
      have f9_s := hat.free (i * 12 + 9)
      have f10_s := hat.free (i * 12 + 10)
      have f11_s := hat.free (i * 12 + 11)
      have CL := Sd.mk close
      clear hat close hM HR
      go_wp2_with fail
      with_reducible refine (markS_Value l[i].Slots _ P2 _ _ ?hr_Slots (by omega) (by rw [HC2.out]; omega)).mono ?_
      case hr_Slots => exact (R_upd (G := fun b => b = g) (by repeat (with_reducible first | exact Upd.refl _ _ | apply Upd.setg)) (fun b hb hg' => N2 (hg' ▸ hb)) HR2.out)
      rintro e w_Slots ⟨rfl, hR2, hu⟩
      rw [HC2.out]
      replace HR6 := Sd.mk (R_upd hu (fun b hb hg' => D2_6.out b hg' hb) (R_upd (G := fun b => b = g) (by repeat (with_reducible first | exact Upd.refl _ _ | apply Upd.setg)) (fun b hb hg' => N6 (hg' ▸ hb)) HR6.out))
      replace HR7 := Sd.mk (R_upd hu (fun b hb hg' => D2_7.out b hg' hb) (R_upd (G := fun b => b = g) (by repeat (with_reducible first | exact Upd.refl _ _ | apply Upd.setg)) (fun b hb hg' => N7 (hg' ▸ hb)) HR7.out))
      replace HR2 := Sd.mk hR2
      replace HAT := Sd.mk (((HAT.out.set0 (by decide) (.int .i64 (q))).set 1 (by decide) (.int .i64 ((q + 1)))).call hu I2.out hFg)
      clear hR2
      clear hu x0_s f0_s x1_s f1_s x2_s f2_s x3_s f3_s x4_s f4_s x5_s f5_s x6_s f6_s x7_s f7_s x8_s f8_s x9_s f9_s x10_s f10_s x11_s f11_s
      have x0_Slots := HAT.out.cell0 _ rfl
      have x1_Slots := HAT.out.cell 1 _ rfl
      have x2_Slots := HAT.out.cell 2 _ rfl
      have x3_Slots := HAT.out.cell 3 _ rfl
      have x4_Slots := HAT.out.cell 4 _ rfl
      have x5_Slots := HAT.out.cell 5 _ rfl
      have x6_Slots := HAT.out.cell 6 _ rfl
      have x7_Slots := HAT.out.cell 7 _ rfl
      have x8_Slots := HAT.out.cell 8 _ rfl
      have x9_Slots := HAT.out.cell 9 _ rfl
      have x10_Slots := HAT.out.cell 10 _ rfl
      have x11_Slots := HAT.out.cell 11 _ rfl
      have f0_Slots := HAT.out.free (i * 12)
      have f1_Slots := HAT.out.free (i * 12 + 1)
      have f2_Slots := HAT.out.free (i * 12 + 2)
      have f3_Slots := HAT.out.free (i * 12 + 3)
      have f4_Slots := HAT.out.free (i * 12 + 4)
      have f5_Slots := HAT.out.free (i * 12 + 5)
      have f6_Slots := HAT.out.free (i * 12 + 6)
      have f7_Slots := HAT.out.free (i * 12 + 7)
      have f8_Slots := HAT.out.free (i * 12 + 8)
      have f9_Slots := HAT.out.free (i * 12 + 9)
      have f10_Slots := HAT.out.free (i * 12 + 10)
      have f11_Slots := HAT.out.free (i * 12 + 11)
      go_wp2_with fail
      with_reducible refine (markS_Sent l[i].Queue _ P6 _ _ ?hr_Queue (by omega) (by rw [HC6.out]; omega)).mono ?_
      case hr_Queue => exact (R_upd (G := fun b => b = g) (by repeat (with_reducible first | exact Upd.refl _ _ | apply Upd.setg)) (fun b hb hg' => N6 (hg' ▸ hb)) HR6.out)
      rintro e w_Queue ⟨rfl, hR6, hu⟩
      rw [HC6.out]
      replace HR2 := Sd.mk (R_upd hu (fun b hb hg' => D2_6.out b hb hg') (R_upd (G := fun b => b = g) (by repeat (with_reducible first | exact Upd.refl _ _ | apply Upd.setg)) (fun b hb hg' => N2 (hg' ▸ hb)) HR2.out))
      replace HR7 := Sd.mk (R_upd hu (fun b hb hg' => D6_7.out b hg' hb) (R_upd (G := fun b => b = g) (by repeat (with_reducible first | exact Upd.refl _ _ | apply Upd.setg)) (fun b hb hg' => N7 (hg' ▸ hb)) HR7.out))
      replace HR6 := Sd.mk hR6
      replace HAT := Sd.mk ((((HAT.out.set 3 (by decide) (.int .i64 ((((q + 1) + 1) + cn2)))).set 4 (by decide) (.int .i64 (((((q + 1) + 1) + cn2) + 1)))).set 5 (by decide) (.int .i64 ((((((q + 1) + 1) + cn2) + 1) + 1)))).call hu I6.out hFg)
      clear hR6
      clear hu x0_Slots f0_Slots x1_Slots f1_Slots x2_Slots f2_Slots x3_Slots f3_Slots x4_Slots f4_Slots x5_Slots f5_Slots x6_Slots f6_Slots x7_Slots f7_Slots x8_Slots f8_Slots x9_Slots f9_Slots x10_Slots f10_Slots x11_Slots f11_Slots
      have x0_Queue := HAT.out.cell0 _ rfl
      have x1_Queue := HAT.out.cell 1 _ rfl
      have x2_Queue := HAT.out.cell 2 _ rfl
      have x3_Queue := HAT.out.cell 3 _ rfl
      have x4_Queue := HAT.out.cell 4 _ rfl
      have x5_Queue := HAT.out.cell 5 _ rfl
      have x6_Queue := HAT.out.cell 6 _ rfl
      have x7_Queue := HAT.out.cell 7 _ rfl
      have x8_Queue := HAT.out.cell 8 _ rfl
      have x9_Queue := HAT.out.cell 9 _ rfl
      have x10_Queue := HAT.out.cell 10 _ rfl
      have x11_Queue := HAT.out.cell 11 _ rfl
      have f0_Queue := HAT.out.free (i * 12)
      have f1_Queue := HAT.out.free (i * 12 + 1)
      have f2_Queue := HAT.out.free (i * 12 + 2)
      have f3_Queue := HAT.out.free (i * 12 + 3)
      have f4_Queue := HAT.out.free (i * 12 + 4)
      have f5_Queue := HAT.out.free (i * 12 + 5)
      have f6_Queue := HAT.out.free (i * 12 + 6)
      have f7_Queue := HAT.out.free (i * 12 + 7)
      have f8_Queue := HAT.out.free (i * 12 + 8)
      have f9_Queue := HAT.out.free (i * 12 + 9)
      have f10_Queue := HAT.out.free (i * 12 + 10)
      have f11_Queue := HAT.out.free (i * 12 + 11)
      go_wp2_with fail
      with_reducible refine (markS_Asker l[i].Askers _ P7 _ _ ?hr_Askers (by omega) (by rw [HC7.out]; omega)).mono ?_
      case hr_Askers => exact (R_upd (G := fun b => b = g) (by repeat (with_reducible first | exact Upd.refl _ _ | apply Upd.setg)) (fun b hb hg' => N7 (hg' ▸ hb)) HR7.out)
      rintro e w_Askers ⟨rfl, hR7, hu⟩
      rw [HC7.out]
      replace HR2 := Sd.mk (R_upd hu (fun b hb hg' => D2_7.out b hb hg') (R_upd (G := fun b => b = g) (by repeat (with_reducible first | exact Upd.refl _ _ | apply Upd.setg)) (fun b hb hg' => N2 (hg' ▸ hb)) HR2.out))
      replace HR6 := Sd.mk (R_upd hu (fun b hb hg' => D6_7.out b hb hg') (R_upd (G := fun b => b = g) (by repeat (with_reducible first | exact Upd.refl _ _ | apply Upd.setg)) (fun b hb hg' => N6 (hg' ▸ hb)) HR6.out))
      replace HR7 := Sd.mk hR7
      replace HAT := Sd.mk (HAT.out.call hu I7.out hFg)
      clear hR7
      clear hu x0_Queue f0_Queue x1_Queue f1_Queue x2_Queue f2_Queue x3_Queue f3_Queue x4_Queue f4_Queue x5_Queue f5_Queue x6_Queue f6_Queue x7_Queue f7_Queue x8_Queue f8_Queue x9_Queue f9_Queue x10_Queue f10_Queue x11_Queue f11_Queue
      have x0_Askers := HAT.out.cell0 _ rfl
      have x1_Askers := HAT.out.cell 1 _ rfl
      have x2_Askers := HAT.out.cell 2 _ rfl
      have x3_Askers := HAT.out.cell 3 _ rfl
      have x4_Askers := HAT.out.cell 4 _ rfl
      have x5_Askers := HAT.out.cell 5 _ rfl
      have x6_Askers := HAT.out.cell 6 _ rfl
      have x7_Askers := HAT.out.cell 7 _ rfl
      have x8_Askers := HAT.out.cell 8 _ rfl
      have x9_Askers := HAT.out.cell 9 _ rfl
      have x10_Askers := HAT.out.cell 10 _ rfl
      have x11_Askers := HAT.out.cell 11 _ rfl
      have f0_Askers := HAT.out.free (i * 12)
      have f1_Askers := HAT.out.free (i * 12 + 1)
      have f2_Askers := HAT.out.free (i * 12 + 2)
      have f3_Askers := HAT.out.free (i * 12 + 3)
      have f4_Askers := HAT.out.free (i * 12 + 4)
      have f5_Askers := HAT.out.free (i * 12 + 5)
      have f6_Askers := HAT.out.free (i * 12 + 6)
      have f7_Askers := HAT.out.free (i * 12 + 7)
      have f8_Askers := HAT.out.free (i * 12 + 8)
      have f9_Askers := HAT.out.free (i * 12 + 9)
      have f10_Askers := HAT.out.free (i * 12 + 10)
      have f11_Askers := HAT.out.free (i * 12 + 11)
      go_wp2
      have HA := ((((HAT.out.set 8 (by decide) (.int .i64 (((((((((q + 1) + 1) + cn2) + 1) + 1) + 1) + cn6) + cn7)))).set 9 (by decide) (.int .i64 ((((((((((q + 1) + 1) + cn2) + 1) + 1) + 1) + cn6) + cn7) + 1)))).set 10 (by decide) (.int .i64 (((((((((((q + 1) + 1) + cn2) + 1) + 1) + 1) + cn6) + cn7) + 1) + 1)))).set 11 (by decide) (.int .i64 ((((((((((((q + 1) + 1) + cn2) + 1) + 1) + 1) + cn6) + cn7) + 1) + 1) + 1))))
      have hy : (⟨q, (q + 1), mkS mk_Value cnt_Value ((q + 1) + 1) l[i].Slots, (((q + 1) + 1) + cn2), ⟨((((q + 1) + 1) + cn2) + 1), (((((q + 1) + 1) + cn2) + 1) + 1)⟩, mkS mk_Sent cnt_Sent ((((((q + 1) + 1) + cn2) + 1) + 1) + 1) l[i].Queue, mkS mk_Asker cnt_Asker (((((((q + 1) + 1) + cn2) + 1) + 1) + 1) + cn6) l[i].Askers, ((((((((q + 1) + 1) + cn2) + 1) + 1) + 1) + cn6) + cn7), (((((((((q + 1) + 1) + cn2) + 1) + 1) + 1) + cn6) + cn7) + 1), ((((((((((q + 1) + 1) + cn2) + 1) + 1) + 1) + cn6) + cn7) + 1) + 1), (((((((((((q + 1) + 1) + cn2) + 1) + 1) + 1) + cn6) + cn7) + 1) + 1) + 1)⟩ : GEntity) = (mkS mk_Entity cnt_Entity k l)[i]'(by rw [mkS_len]; exact hlt) := by rw [HMA.out]; simp only [mk_Entity, HC2.out, HC6.out, HC7.out]
      have HRowB := CL.out _ _ (⟨q, (q + 1), mkS mk_Value cnt_Value ((q + 1) + 1) l[i].Slots, (((q + 1) + 1) + cn2), ⟨((((q + 1) + 1) + cn2) + 1), (((((q + 1) + 1) + cn2) + 1) + 1)⟩, mkS mk_Sent cnt_Sent ((((((q + 1) + 1) + cn2) + 1) + 1) + 1) l[i].Queue, mkS mk_Asker cnt_Asker (((((((q + 1) + 1) + cn2) + 1) + 1) + 1) + cn6) l[i].Askers, ((((((((q + 1) + 1) + cn2) + 1) + 1) + 1) + cn6) + cn7), (((((((((q + 1) + 1) + cn2) + 1) + 1) + 1) + cn6) + cn7) + 1), ((((((((((q + 1) + 1) + cn2) + 1) + 1) + 1) + cn6) + cn7) + 1) + 1), (((((((((((q + 1) + 1) + cn2) + 1) + 1) + 1) + cn6) + cn7) + 1) + 1) + 1)⟩ : GEntity) Fi F HA (ki_Entity_mk _ Fi (⟨q, (q + 1), mkS mk_Value cnt_Value ((q + 1) + 1) l[i].Slots, (((q + 1) + 1) + cn2), ⟨((((q + 1) + 1) + cn2) + 1), (((((q + 1) + 1) + cn2) + 1) + 1)⟩, mkS mk_Sent cnt_Sent ((((((q + 1) + 1) + cn2) + 1) + 1) + 1) l[i].Queue, mkS mk_Asker cnt_Asker (((((((q + 1) + 1) + cn2) + 1) + 1) + 1) + cn6) l[i].Askers, ((((((((q + 1) + 1) + cn2) + 1) + 1) + 1) + cn6) + cn7), (((((((((q + 1) + 1) + cn2) + 1) + 1) + 1) + cn6) + cn7) + 1), ((((((((((q + 1) + 1) + cn2) + 1) + 1) + 1) + cn6) + cn7) + 1) + 1), (((((((((((q + 1) + 1) + cn2) + 1) + 1) + 1) + cn6) + cn7) + 1) + 1) + 1)⟩ : GEntity) (R_upd (G := fun b => b = g) (by repeat (with_reducible first | exact Upd.refl _ _ | apply Upd.setg)) (fun b hb hg' => N2 (hg' ▸ hb)) HR2.out) (R_upd (G := fun b => b = g) (by repeat (with_reducible first | exact Upd.refl _ _ | apply Upd.setg)) (fun b hb hg' => N6 (hg' ▸ hb)) HR6.out) (R_upd (G := fun b => b = g) (by repeat (with_reducible first | exact Upd.refl _ _ | apply Upd.setg)) (fun b hb hg' => N7 (hg' ▸ hb)) HR7.out) I2.out I6.out I7.out D2_6.out D2_7.out D6_7.out) (fun _ hb => .inl hb) (fun _ hb => hb) hFi
      rw [hy, upTo_set (mkS_len _ _ _ _) hlt] at HRowB
      go_roundg (gk - 1)
      case measure => omega
      case rel => exact ⟨i + 1, by omega, by rw [HST.out]; simp only [cnt_Entity]; have := HQ.out; have := HC2.out; have := HC6.out; have := HC7.out; exact congrArg (Value.int .i64) (by omega), by go_num, ⟨HRowB⟩, ⟨HU.out.trans HA.upd (fun _ _ hb => hb) (fun b _ hb => by rcases hb with rfl | hb; exact hg; exact hFi b hb)⟩⟩
    · go_wp2
      go_ret
      have HRowB := HR.out
      rw [upTo_end (mkS_len _ _ _ _) (by omega)] at HRowB
      have e : l.take i = l := List.take_of_length_le (by omega)
      exact ⟨ret_int (by rw [e]), HRowB, HU.out⟩
set_option maxHeartbeats 1000000 in
set_option maxRecDepth 100000 in
theorem markv_Entity_c (x : GEntity) (k : Int) (F : Nat → Prop) (cs : List Value) (w : World) (h : ki_Entity.M w F x cs) (hk : 0 ≤ k) (hb : k + cntv_Entity x ≤ 4611686018427387904) : Calls Try.prog 22 #[.agg cs.toArray, .int .i64 k] w (MarksV ki_Entity F cs (k + cntv_Entity x) (mkv_Entity k x) w) := by
  obtain ⟨v2, P2, v6, P6, v7, P7, rfl, hR2, hR6, hR7, i2, i6, i7, d2_6, d2_7, d6_7⟩ := ki_Entity_M (ki_Entity.M_lt h)
  obtain ⟨B2, b2, rfl⟩ := R_slice hR2
  have HR2 := Sd.mk hR2
  have I2 := Sd.mk (fun b q => (i2 b q).1)
  have L2 := Sd.mk (fun b q => (i2 b q).2)
  clear hR2 i2
  have nn2 := cntS_nn cnt_Value cnt_Value_nn x.Slots
  obtain ⟨B6, b6, rfl⟩ := R_slice hR6
  have HR6 := Sd.mk hR6
  have I6 := Sd.mk (fun b q => (i6 b q).1)
  have L6 := Sd.mk (fun b q => (i6 b q).2)
  clear hR6 i6
  have nn6 := cntS_nn cnt_Sent cnt_Sent_nn x.Queue
  obtain ⟨B7, b7, rfl⟩ := R_slice hR7
  have HR7 := Sd.mk hR7
  have I7 := Sd.mk (fun b q => (i7 b q).1)
  have L7 := Sd.mk (fun b q => (i7 b q).2)
  clear hR7 i7
  have nn7 := cntS_nn cnt_Asker cnt_Asker_nn x.Askers
  have D2_6 := Sd.mk d2_6
  clear d2_6
  have D2_7 := Sd.mk d2_7
  clear d2_7
  have D6_7 := Sd.mk d6_7
  clear d6_7
  clear h
  unfold cntv_Entity at hb
  generalize hcn2 : cntS cnt_Value x.Slots = cn2 at *
  have HC2 := Sd.mk hcn2
  clear hcn2
  generalize hcn6 : cntS cnt_Sent x.Queue = cn6 at *
  have HC6 := Sd.mk hcn6
  clear hcn6
  generalize hcn7 : cntS cnt_Asker x.Askers = cn7 at *
  have HC7 := Sd.mk hcn7
  clear hcn7
  go_enter Try.func22, Try.ntmps22
  go_wp2_with fail
  with_reducible refine (markS_Value x.Slots _ P2 _ _ ?hr2 (by omega) (by rw [HC2.out]; omega)).mono ?_
  case hr2 => exact R_upd ((Upd.refl No w).alloc _) (fun _ _ q => q) HR2.out
  rintro e w_2 ⟨rfl, hR2, hu⟩
  rw [HC2.out]
  replace HR6 := Sd.mk (R_upd hu (fun b hb hg' => D2_6.out b hg' hb) (R_upd ((Upd.refl No w).alloc _) (fun _ _ q => q) HR6.out))
  replace HR7 := Sd.mk (R_upd hu (fun b hb hg' => D2_7.out b hg' hb) (R_upd ((Upd.refl No w).alloc _) (fun _ _ q => q) HR7.out))
  replace HR2 := Sd.mk hR2
  have cc_2 := fun o => hu.cellsF (b := w.heap.size) (by first | omega | (simp; done) | (simp; omega)) (fun q => absurd (L2.out _ q) (Nat.lt_irrefl _)) o
  have hz_2 : w.heap.size + 1 ≤ w_2.heap.size := by have := hu.size; (try simp at this); omega
  have HU_2 : Sd (Upd F w w_2) := Sd.mk (Upd.trans ((Upd.refl No w).alloc _) hu (fun _ _ q => q.elim) (fun b _ q => I2.out b q))
  clear hu hR2
  go_wp2_with fail
  with_reducible refine (markS_Sent x.Queue _ P6 _ _ ?hr6 (by omega) (by rw [HC6.out]; omega)).mono ?_
  case hr6 => exact HR6.out
  rintro e w_6 ⟨rfl, hR6, hu⟩
  rw [HC6.out]
  replace HR2 := Sd.mk (R_upd hu (fun b hb hg' => D2_6.out b hb hg') (HR2.out))
  replace HR7 := Sd.mk (R_upd hu (fun b hb hg' => D6_7.out b hg' hb) (HR7.out))
  replace HR6 := Sd.mk hR6
  have cc_6 := fun o => hu.cellsF (b := w.heap.size) (by first | omega | (simp; done) | (simp; omega)) (fun q => absurd (L6.out _ q) (Nat.lt_irrefl _)) o
  have hz_6 : w.heap.size + 1 ≤ w_6.heap.size := by have := hu.size; (try simp at this); omega
  have HU_6 : Sd (Upd F w w_6) := Sd.mk (HU_2.out.trans hu (fun _ _ q => q) (fun b _ q => I6.out b q))
  clear hu hR6
  go_wp2_with fail
  with_reducible refine (markS_Asker x.Askers _ P7 _ _ ?hr7 (by omega) (by rw [HC7.out]; omega)).mono ?_
  case hr7 => exact HR7.out
  rintro e w_7 ⟨rfl, hR7, hu⟩
  rw [HC7.out]
  replace HR2 := Sd.mk (R_upd hu (fun b hb hg' => D2_7.out b hb hg') (HR2.out))
  replace HR6 := Sd.mk (R_upd hu (fun b hb hg' => D6_7.out b hb hg') (HR6.out))
  replace HR7 := Sd.mk hR7
  have cc_7 := fun o => hu.cellsF (b := w.heap.size) (by first | omega | (simp; done) | (simp; omega)) (fun q => absurd (L7.out _ q) (Nat.lt_irrefl _)) o
  have hz_7 : w.heap.size + 1 ≤ w_7.heap.size := by have := hu.size; (try simp at this); omega
  have HU_7 : Sd (Upd F w w_7) := Sd.mk (HU_6.out.trans hu (fun _ _ q => q) (fun b _ q => I7.out b q))
  clear hu hR7
  have hy : (⟨x.Kind, x.Script, mkS mk_Value cnt_Value k x.Slots, x.State, ⟨x.Value.Kind, x.Value.N⟩, mkS mk_Sent cnt_Sent (k + cn2) x.Queue, mkS mk_Asker cnt_Asker ((k + cn2) + cn6) x.Askers, x.Peer, x.Pos, x.Count, x.Sent⟩ : GEntity) = mkv_Entity k x := by simp only [mkv_Entity, HC2.out, HC6.out, HC7.out]
  have hc : cntv_Entity x = (((0 + cn2) + cn6) + cn7) := by simp only [cntv_Entity, HC2.out, HC6.out, HC7.out]
  have HMM := ki_Entity_mk w_7 F (⟨x.Kind, x.Script, mkS mk_Value cnt_Value k x.Slots, x.State, ⟨x.Value.Kind, x.Value.N⟩, mkS mk_Sent cnt_Sent (k + cn2) x.Queue, mkS mk_Asker cnt_Asker ((k + cn2) + cn6) x.Askers, x.Peer, x.Pos, x.Count, x.Sent⟩ : GEntity) HR2.out HR6.out HR7.out I2.out I6.out I7.out D2_6.out D2_7.out D6_7.out
  rw [hy] at HMM
  have HMM' := Sd.mk HMM
  have Hc := Sd.mk hc
  clear HMM hy hc
  go_wp2
  go_ret
  exact ⟨ret_int (by rw [Hc.out]; omega), HMM'.out, HU_7.out⟩
set_option maxHeartbeats 1000000 in
set_option maxRecDepth 100000 in
theorem heldS_Entity (l : List GEntity) (k : Int) (A : Option Addr) (c : Nat) (w : World) (h : C ki_Entity w A (mkS mk_Entity cnt_Entity k l)) (hk : 0 ≤ k) (hb : k + cntS cnt_Entity l ≤ 4611686018427387904) : Calls Try.prog 58 #[.slice A l.length c, .int .i64 k] w (RetInt (k + cntS cnt_Entity l) w) := by
  have hn := h.1
  rw [mkS_len] at hn
  have H := Sd.mk h
  clear h
  go_enter Try.func58, Try.ntmps58
  go_wp2
  go_loopg [1, 5] l.length (fun r u v wr => ∃ i : Nat, i + r = l.length ∧ u = .int .i64 (k + cntS cnt_Entity (l.take i)) ∧ v = .int .i64 i ∧ Sd (Upd No w wr))
  case atStart => exact ⟨0, by omega, by simp [cntS], rfl, ⟨Upd.refl _ _⟩⟩
  case round =>
    obtain ⟨i, hi, rfl, rfl, HU⟩ := hrel
    by_cases hlt : i < l.length
    · have hle := cntS_le cnt_Entity cnt_Entity_nn l i
      have hst := cntS_take cnt_Entity l i hlt
      have hle2 := cntS_le cnt_Entity cnt_Entity_nn l (i + 1)
      rw [hst] at hle2
      have HST := Sd.mk hst
      clear hst
      obtain ⟨ad, A2, c2, A6, c6, A7, c7, rfl, a0, a1, a2, a3, a4, a5, a6, a7, a8, a9, a10, a11, hl2, hC2, hl6, hC6, hl7, hC7⟩ := ki_Entity_at (C_upd HU.out H.out) i (by rw [mkS_len]; exact hlt)
      rw [mkS_at mk_Entity cnt_Entity l k i hlt] at a0 a1 a2 a3 a4 a5 a6 a7 a8 a9 a10 a11 hl2 hC2 hl6 hC6 hl7 hC7
      simp only [mk_Entity, mkS_len] at a0 a1 a2 a3 a4 a5 a6 a7 a8 a9 a10 a11 hl2 hC2 hl6 hC6 hl7 hC7
      have nn2 := cntS_nn cnt_Value cnt_Value_nn l[i].Slots
      have nn6 := cntS_nn cnt_Sent cnt_Sent_nn l[i].Queue
      have nn7 := cntS_nn cnt_Asker cnt_Asker_nn l[i].Askers
      simp only [cnt_Entity] at hle2
      generalize hq : k + cntS cnt_Entity (l.take i) = q at *
      have HQ := Sd.mk hq
      have hq0 : 0 ≤ q := by omega
      have hqb : q + ((((((((((((0 + 1) + 1) + cntS cnt_Value l[i].Slots) + 1) + 1) + 1) + cntS cnt_Sent l[i].Queue) + cntS cnt_Asker l[i].Askers) + 1) + 1) + 1) + 1) ≤ 4611686018427387904 := by omega
      clear hq hle hle2 hb
      generalize hcn2 : cntS cnt_Value l[i].Slots = cn2 at *
      have HN2 := Sd.mk hcn2
      clear hcn2
      have HC2 := Sd.mk hC2
      clear hC2
      generalize hcn6 : cntS cnt_Sent l[i].Queue = cn6 at *
      have HN6 := Sd.mk hcn6
      clear hcn6
      have HC6 := Sd.mk hC6
      clear hC6
      generalize hcn7 : cntS cnt_Asker l[i].Askers = cn7 at *
      have HN7 := Sd.mk hcn7
      clear hcn7
      have HC7 := Sd.mk hC7
      clear hC7
      have HX := Sd.mk (Upd.refl No wr)
      go_wp2_with fail
      with_reducible refine (heldS_Value l[i].Slots _ _ _ _ ?hc_Slots (by omega) (by rw [HN2.out]; omega)).mono ?_
      case hc_Slots => exact HC2.out
      rintro e w_Slots ⟨rfl, hu⟩
      rw [HN2.out]
      replace a0 := hu.read a0
      replace a1 := hu.read a1
      replace a2 := hu.read a2
      replace a3 := hu.read a3
      replace a4 := hu.read a4
      replace a5 := hu.read a5
      replace a6 := hu.read a6
      replace a7 := hu.read a7
      replace a8 := hu.read a8
      replace a9 := hu.read a9
      replace a10 := hu.read a10
      replace a11 := hu.read a11
      replace HC2 := Sd.mk (C_upd hu HC2.out)
      replace HC6 := Sd.mk (C_upd hu HC6.out)
      replace HC7 := Sd.mk (C_upd hu HC7.out)
      replace HX := Sd.mk (HX.out.then hu)
      clear hu
      go_wp2_with fail
      with_reducible refine (heldS_Sent l[i].Queue _ _ _ _ ?hc_Queue (by omega) (by rw [HN6.out]; omega)).mono ?_
      case hc_Queue => exact HC6.out
      rintro e w_Queue ⟨rfl, hu⟩
      rw [HN6.out]
      replace a0 := hu.read a0
      replace a1 := hu.read a1
      replace a2 := hu.read a2
      replace a3 := hu.read a3
      replace a4 := hu.read a4
      replace a5 := hu.read a5
      replace a6 := hu.read a6
      replace a7 := hu.read a7
      replace a8 := hu.read a8
      replace a9 := hu.read a9
      replace a10 := hu.read a10
      replace a11 := hu.read a11
      replace HC2 := Sd.mk (C_upd hu HC2.out)
      replace HC6 := Sd.mk (C_upd hu HC6.out)
      replace HC7 := Sd.mk (C_upd hu HC7.out)
      replace HX := Sd.mk (HX.out.then hu)
      clear hu
      go_wp2_with fail
      with_reducible refine (heldS_Asker l[i].Askers _ _ _ _ ?hc_Askers (by omega) (by rw [HN7.out]; omega)).mono ?_
      case hc_Askers => exact HC7.out
      rintro e w_Askers ⟨rfl, hu⟩
      rw [HN7.out]
      replace a0 := hu.read a0
      replace a1 := hu.read a1
      replace a2 := hu.read a2
      replace a3 := hu.read a3
      replace a4 := hu.read a4
      replace a5 := hu.read a5
      replace a6 := hu.read a6
      replace a7 := hu.read a7
      replace a8 := hu.read a8
      replace a9 := hu.read a9
      replace a10 := hu.read a10
      replace a11 := hu.read a11
      replace HC2 := Sd.mk (C_upd hu HC2.out)
      replace HC6 := Sd.mk (C_upd hu HC6.out)
      replace HC7 := Sd.mk (C_upd hu HC7.out)
      replace HX := Sd.mk (HX.out.then hu)
      clear hu
      go_wp2
      go_roundg (gk - 1)
      case measure => omega
      case rel => exact ⟨i + 1, by omega, by rw [HST.out]; simp only [cnt_Entity]; have := HQ.out; have := HN2.out; have := HN6.out; have := HN7.out; exact congrArg (Value.int .i64) (by omega), by go_num, ⟨HU.out.then HX.out⟩⟩
    · go_wp2
      go_ret
      have e : l.take i = l := List.take_of_length_le (by omega)
      exact ⟨ret_int (by rw [e]), HU.out⟩
end Go.Proofs.YtfnedoiplblldaaFam
