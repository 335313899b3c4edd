/- The contracts of the laws' own functions over Vat: to, sz, eq, mark, held. No conditions beyond the sizes that the contracts name. -/
import Derived.Test.YtfnedoiplblldaaGreatProg
import Derived.Test.YtfnedoiplblldaaGreatSep2
import Derived.Test.YtfnedoiplblldaaGreatLst
import Derived.WalkKit
import Derived.KernelRfl
import Derived.RowKit3
import Derived.Deep.LoopGhost
import Derived.Deep.QuietTactic
import Derived.BigQuiet
import Derived.StillTailTactics
import Derived.Test.YtfnedoiplblldaaGreatK
import Derived.Deep.RegionHeld3
import Derived.Test.YtfnedoiplblldaaGreatFamValue
import Derived.Test.YtfnedoiplblldaaGreatFamTag
import Derived.Test.YtfnedoiplblldaaGreatFamSent
import Derived.Test.YtfnedoiplblldaaGreatFamAsker
import Derived.Test.YtfnedoiplblldaaGreatFamEntity
import Derived.Test.YtfnedoiplblldaaGreatFamExport
import Derived.Test.YtfnedoiplblldaaGreatFamQuestion
import Derived.Test.YtfnedoiplblldaaGreatFamLink
import Derived.Test.YtfnedoiplblldaaGreatFamWire
import Derived.Test.YtfnedoiplblldaaGreatFamMessage
import Derived.Test.YtfnedoiplblldaaGreatFamOutgoing
import Derived.Test.YtfnedoiplblldaaGreatFamText
namespace Go.Proofs.YtfnedoiplblldaaGreatFam
open Go.RowKit Go.Proofs.YtfnedoiplblldaaGreatSep Go.Proofs.YtfnedoiplblldaaGreatT Go.Proofs.YtfnedoiplblldaaGreatK
set_option linter.unusedVariables false
set_option linter.unusedSimpArgs false
theorem kl_Vat_Kmk (w : World) (x : GVat) {A1 : Option Addr} {c1 : Nat} (hl1 : x.Entities.length ≤ c1) (hC1 : C kl_Entity w A1 x.Entities) {A2 : Option Addr} {c2 : Nat} (hl2 : x.Loop.length ≤ c2) (hC2 : C kl_Sent w A2 x.Loop) {A3 : Option Addr} {c3 : Nat} (hl3 : x.Links.length ≤ c3) (hC3 : C kl_Link w A3 x.Links) {A4 : Option Addr} {c4 : Nat} (hl4 : x.Out.length ≤ c4) (hC4 : C kl_Outgoing w A4 x.Out) : kl_Vat.K w x [.int .i64 x.Id, .slice A1 x.Entities.length c1, .slice A2 x.Loop.length c2, .slice A3 x.Links.length c3, .slice A4 x.Out.length c4] := ⟨[_], [_, _, _, _], rfl, rfl, ⟨[_], [_, _, _], rfl, ⟨A1, c1, rfl, hl1, hC1⟩, ⟨[_], [_, _], rfl, ⟨A2, c2, rfl, hl2, hC2⟩, ⟨[_], [_], rfl, ⟨A3, c3, rfl, hl3, hC3⟩, ⟨A4, c4, rfl, hl4, hC4⟩⟩⟩⟩⟩
theorem ki_Vat_Kmk (w : World) (x : GVat) {A1 : Option Addr} {c1 : Nat} (hl1 : x.Entities.length ≤ c1) (hC1 : C ki_Entity w A1 x.Entities) {A2 : Option Addr} {c2 : Nat} (hl2 : x.Loop.length ≤ c2) (hC2 : C ki_Sent w A2 x.Loop) {A3 : Option Addr} {c3 : Nat} (hl3 : x.Links.length ≤ c3) (hC3 : C ki_Link w A3 x.Links) {A4 : Option Addr} {c4 : Nat} (hl4 : x.Out.length ≤ c4) (hC4 : C ki_Outgoing w A4 x.Out) : ki_Vat.K w x [.int .i64 x.Id, .slice A1 x.Entities.length c1, .slice A2 x.Loop.length c2, .slice A3 x.Links.length c3, .slice A4 x.Out.length c4] := ⟨[_], [_, _, _, _], rfl, rfl, ⟨[_], [_, _, _], rfl, ⟨A1, c1, rfl, hl1, hC1⟩, ⟨[_], [_, _], rfl, ⟨A2, c2, rfl, hl2, hC2⟩, ⟨[_], [_], rfl, ⟨A3, c3, rfl, hl3, hC3⟩, ⟨A4, c4, rfl, hl4, hC4⟩⟩⟩⟩⟩
set_option maxHeartbeats 1000000 in
set_option maxRecDepth 100000 in
theorem to_Vat (x : GVat) (cs : List Value) (w : World) (h : kl_Vat.K w x cs) (hs : szn_Vat x ≤ 1048576) : Calls Tryz.prog 27 #[.agg cs.toArray] w (RetAgg ki_Vat x w) := by
  obtain ⟨A1, c1, A2, c2, A3, c3, A4, c4, rfl, hl1, hC1, hl2, hC2, hl3, hC3, hl4, hC4⟩ := kl_Vat_K h
  have HC1 := Sd.mk hC1
  have HC2 := Sd.mk hC2
  have HC3 := Sd.mk hC3
  have HC4 := Sd.mk hC4
  clear hC1 hC2 hC3 hC4
  have s_Entities : sznS szn_Entity x.Entities ≤ 1048576 := by unfold szn_Vat at hs; omega
  have s_Loop : sznS szn_Sent x.Loop ≤ 1048576 := by unfold szn_Vat at hs; omega
  have s_Links : sznS szn_Link x.Links ≤ 1048576 := by unfold szn_Vat at hs; omega
  have s_Out : sznS szn_Outgoing x.Out ≤ 1048576 := by unfold szn_Vat at hs; omega
  clear hs
  go_enter Tryz.func27, Tryz.ntmps27
  go_wp2_with fail
  with_reducible refine (toS_Entity x.Entities _ _ _ ?hc_Entities s_Entities).mono ?_
  case hc_Entities => exact C_upd (by repeat (with_reducible first | exact Upd.refl _ _ | apply Upd.put2 | apply Upd.put1 | apply Upd.put0 | apply Upd.alloc | apply Upd.drewN | apply Upd.drew)) HC1.out
  rintro e w_Entities ⟨v1, rfl, hR1, hu⟩
  obtain ⟨B1, b1, rfl⟩ := R_slice hR1
  obtain ⟨P1, hR1', g1, l1⟩ := fresh_row hR1 (w.heap.size + 1 + 1 + 1) (by first | omega | (simp; done) | (simp; omega))
  have ge1 : ∀ b, P1 b → w.heap.size + 1 + 1 < b := fun b hb => by have := g1 b hb; omega
  have n1_1 : ¬ P1 (w.heap.size + 1) := fun q => by have := ge1 _ q; omega
  have n2_1 : ¬ P1 (w.heap.size + 1 + 1) := fun q => by have := ge1 _ q; omega
  have HR1 := Sd.mk hR1'
  have GE1 := Sd.mk ge1
  have LT1 := Sd.mk l1
  have GP1 := Sd.mk g1
  clear hR1 hR1' ge1 l1 g1
  have HB_Entities : Sd (Upd No w w_Entities) := Sd.mk (Upd.then (by repeat (with_reducible first | exact Upd.refl _ _ | apply Upd.put2 | apply Upd.put1 | apply Upd.put0 | apply Upd.alloc | apply Upd.drewN | apply Upd.drew)) hu)
  have cc0_Entities := fun o => hu.cellsF (b := w.heap.size) (by first | omega | (simp; done) | (simp; omega)) (fun q => q) o
  have cc1_Entities := fun o => hu.cellsF (b := w.heap.size + 1) (by first | omega | (simp; done) | (simp; omega)) (fun q => q) o
  have cf1_Entities := fun o => hu.frozenF (b := w.heap.size + 1) (by first | omega | (simp; done) | (simp; omega)) (fun q => q) o
  have cc2_Entities := fun o => hu.cellsF (b := w.heap.size + 1 + 1) (by first | omega | (simp; done) | (simp; omega)) (fun q => q) o
  have cf2_Entities := fun o => hu.frozenF (b := w.heap.size + 1 + 1) (by first | omega | (simp; done) | (simp; omega)) (fun q => q) o
  have hz_Entities : w.heap.size + 1 + 1 + 1 ≤ w_Entities.heap.size := by have := hu.size; (try simp at this); omega
  clear hu
  go_wp2_with fail
  with_reducible refine (toS_Sent x.Loop _ _ _ ?hc_Loop s_Loop).mono ?_
  case hc_Loop => exact C_upd (by repeat (with_reducible first | exact HB_Entities.out | apply Upd.put2 | apply Upd.put1 | apply Upd.put0 | apply Upd.alloc | apply Upd.drewN | apply Upd.drew)) HC2.out
  rintro e w_Loop ⟨v2, rfl, hR2, hu⟩
  obtain ⟨B2, b2, rfl⟩ := R_slice hR2
  obtain ⟨P2, hR2', g2, l2⟩ := fresh_row hR2 (w_Entities.heap.size) (by first | omega | (simp; done) | (simp; omega))
  have ge2 : ∀ b, P2 b → w.heap.size + 1 + 1 < b := fun b hb => by have := g2 b hb; have := hz_Entities; omega
  have n1_2 : ¬ P2 (w.heap.size + 1) := fun q => by have := ge2 _ q; omega
  have n2_2 : ¬ P2 (w.heap.size + 1 + 1) := fun q => by have := ge2 _ q; omega
  have HR2 := Sd.mk hR2'
  have GE2 := Sd.mk ge2
  have LT2 := Sd.mk l2
  have GP2 := Sd.mk g2
  clear hR2 hR2' ge2 l2 g2
  have HR1 := Sd.mk (R_upd hu (fun _ _ q => q) (R_keep HR1.out (by repeat (with_reducible first | exact Upd.refl _ _ | apply Upd.putP n1_1 | apply Upd.putP n2_1 | apply Upd.alloc))))
  have HB_Loop : Sd (Upd No w w_Loop) := Sd.mk (Upd.then (by repeat (with_reducible first | exact HB_Entities.out | apply Upd.put2 | apply Upd.put1 | apply Upd.put0 | apply Upd.alloc | apply Upd.drewN | apply Upd.drew)) hu)
  have cc0_Loop := fun o => hu.cellsF (b := w.heap.size) (by first | omega | (simp; done) | (simp; omega)) (fun q => q) o
  have cc1_Loop := fun o => hu.cellsF (b := w.heap.size + 1) (by first | omega | (simp; done) | (simp; omega)) (fun q => q) o
  have cf1_Loop := fun o => hu.frozenF (b := w.heap.size + 1) (by first | omega | (simp; done) | (simp; omega)) (fun q => q) o
  have cc2_Loop := fun o => hu.cellsF (b := w.heap.size + 1 + 1) (by first | omega | (simp; done) | (simp; omega)) (fun q => q) o
  have cf2_Loop := fun o => hu.frozenF (b := w.heap.size + 1 + 1) (by first | omega | (simp; done) | (simp; omega)) (fun q => q) o
  have hz_Loop : w.heap.size + 1 + 1 + 1 ≤ w_Loop.heap.size := by have := hu.size; (try simp at this); omega
  have hm_Loop : w_Entities.heap.size ≤ w_Loop.heap.size := by have := hu.size; (try simp at this); omega
  clear hu
  go_wp2_with fail
  with_reducible refine (toS_Link x.Links _ _ _ ?hc_Links s_Links).mono ?_
  case hc_Links => exact C_upd (by repeat (with_reducible first | exact HB_Loop.out | apply Upd.put2 | apply Upd.put1 | apply Upd.put0 | apply Upd.alloc | apply Upd.drewN | apply Upd.drew)) HC3.out
  rintro e w_Links ⟨v3, rfl, hR3, hu⟩
  obtain ⟨B3, b3, rfl⟩ := R_slice hR3
  obtain ⟨P3, hR3', g3, l3⟩ := fresh_row hR3 (w_Loop.heap.size) (by first | omega | (simp; done) | (simp; omega))
  have ge3 : ∀ b, P3 b → w.heap.size + 1 + 1 < b := fun b hb => by have := g3 b hb; have := hz_Loop; omega
  have n1_3 : ¬ P3 (w.heap.size + 1) := fun q => by have := ge3 _ q; omega
  have n2_3 : ¬ P3 (w.heap.size + 1 + 1) := fun q => by have := ge3 _ q; omega
  have HR3 := Sd.mk hR3'
  have GE3 := Sd.mk ge3
  have LT3 := Sd.mk l3
  have GP3 := Sd.mk g3
  clear hR3 hR3' ge3 l3 g3
  have HR1 := Sd.mk (R_upd hu (fun _ _ q => q) (R_keep HR1.out (by repeat (with_reducible first | exact Upd.refl _ _ | apply Upd.putP n1_1 | apply Upd.putP n2_1 | apply Upd.alloc))))
  have HR2 := Sd.mk (R_upd hu (fun _ _ q => q) (R_keep HR2.out (by repeat (with_reducible first | exact Upd.refl _ _ | apply Upd.putP n1_2 | apply Upd.putP n2_2 | apply Upd.alloc))))
  have HB_Links : Sd (Upd No w w_Links) := Sd.mk (Upd.then (by repeat (with_reducible first | exact HB_Loop.out | apply Upd.put2 | apply Upd.put1 | apply Upd.put0 | apply Upd.alloc | apply Upd.drewN | apply Upd.drew)) hu)
  have cc0_Links := fun o => hu.cellsF (b := w.heap.size) (by first | omega | (simp; done) | (simp; omega)) (fun q => q) o
  have cc1_Links := fun o => hu.cellsF (b := w.heap.size + 1) (by first | omega | (simp; done) | (simp; omega)) (fun q => q) o
  have cf1_Links := fun o => hu.frozenF (b := w.heap.size + 1) (by first | omega | (simp; done) | (simp; omega)) (fun q => q) o
  have cc2_Links := fun o => hu.cellsF (b := w.heap.size + 1 + 1) (by first | omega | (simp; done) | (simp; omega)) (fun q => q) o
  have cf2_Links := fun o => hu.frozenF (b := w.heap.size + 1 + 1) (by first | omega | (simp; done) | (simp; omega)) (fun q => q) o
  have hz_Links : w.heap.size + 1 + 1 + 1 ≤ w_Links.heap.size := by have := hu.size; (try simp at this); omega
  have hm_Links : w_Loop.heap.size ≤ w_Links.heap.size := by have := hu.size; (try simp at this); omega
  clear hu
  go_wp2_with fail
  with_reducible refine (toS_Outgoing x.Out _ _ _ ?hc_Out s_Out).mono ?_
  case hc_Out => exact C_upd (by repeat (with_reducible first | exact HB_Links.out | apply Upd.put2 | apply Upd.put1 | apply Upd.put0 | apply Upd.alloc | apply Upd.drewN | apply Upd.drew)) HC4.out
  rintro e w_Out ⟨v4, rfl, hR4, hu⟩
  obtain ⟨B4, b4, rfl⟩ := R_slice hR4
  obtain ⟨P4, hR4', g4, l4⟩ := fresh_row hR4 (w_Links.heap.size) (by first | omega | (simp; done) | (simp; omega))
  have ge4 : ∀ b, P4 b → w.heap.size + 1 + 1 < b := fun b hb => by have := g4 b hb; have := hz_Links; omega
  have n1_4 : ¬ P4 (w.heap.size + 1) := fun q => by have := ge4 _ q; omega
  have n2_4 : ¬ P4 (w.heap.size + 1 + 1) := fun q => by have := ge4 _ q; omega
  have HR4 := Sd.mk hR4'
  have GE4 := Sd.mk ge4
  have LT4 := Sd.mk l4
  have GP4 := Sd.mk g4
  clear hR4 hR4' ge4 l4 g4
  have HR1 := Sd.mk (R_upd hu (fun _ _ q => q) (R_keep HR1.out (by repeat (with_reducible first | exact Upd.refl _ _ | apply Upd.putP n1_1 | apply Upd.putP n2_1 | apply Upd.alloc))))
  have HR2 := Sd.mk (R_upd hu (fun _ _ q => q) (R_keep HR2.out (by repeat (with_reducible first | exact Upd.refl _ _ | apply Upd.putP n1_2 | apply Upd.putP n2_2 | apply Upd.alloc))))
  have HR3 := Sd.mk (R_upd hu (fun _ _ q => q) (R_keep HR3.out (by repeat (with_reducible first | exact Upd.refl _ _ | apply Upd.putP n1_3 | apply Upd.putP n2_3 | apply Upd.alloc))))
  have HB_Out : Sd (Upd No w w_Out) := Sd.mk (Upd.then (by repeat (with_reducible first | exact HB_Links.out | apply Upd.put2 | apply Upd.put1 | apply Upd.put0 | apply Upd.alloc | apply Upd.drewN | apply Upd.drew)) hu)
  have cc0_Out := fun o => hu.cellsF (b := w.heap.size) (by first | omega | (simp; done) | (simp; omega)) (fun q => q) o
  have cc1_Out := fun o => hu.cellsF (b := w.heap.size + 1) (by first | omega | (simp; done) | (simp; omega)) (fun q => q) o
  have cf1_Out := fun o => hu.frozenF (b := w.heap.size + 1) (by first | omega | (simp; done) | (simp; omega)) (fun q => q) o
  have cc2_Out := fun o => hu.cellsF (b := w.heap.size + 1 + 1) (by first | omega | (simp; done) | (simp; omega)) (fun q => q) o
  have cf2_Out := fun o => hu.frozenF (b := w.heap.size + 1 + 1) (by first | omega | (simp; done) | (simp; omega)) (fun q => q) o
  have hz_Out : w.heap.size + 1 + 1 + 1 ≤ w_Out.heap.size := by have := hu.size; (try simp at this); omega
  have hm_Out : w_Links.heap.size ≤ w_Out.heap.size := by have := hu.size; (try simp at this); omega
  clear hu
  go_wp2
  refine bodyPost_ret (v := .agg #[.int .i64 x.Id, .slice B1 x.Entities.length b1, .slice B2 x.Loop.length b2, .slice B3 x.Links.length b3, .slice B4 x.Out.length b4]) (by simp [results, Tryz.results27, go_sem, cc1_Entities, cc1_Loop, cc1_Links, cc1_Out]) rfl ⟨_, rfl, ?_, (by repeat (with_reducible first | exact HB_Out.out | apply Upd.put2 | apply Upd.put1 | apply Upd.put0 | apply Upd.alloc | apply Upd.drewN | apply Upd.drew))⟩
  exact ki_Vat_mk _ _ _ (R_keep HR1.out (by repeat (with_reducible first | exact Upd.refl _ _ | apply Upd.putP n1_1 | apply Upd.putP n2_1 | apply Upd.alloc))) (R_keep HR2.out (by repeat (with_reducible first | exact Upd.refl _ _ | apply Upd.putP n1_2 | apply Upd.putP n2_2 | apply Upd.alloc))) (R_keep HR3.out (by repeat (with_reducible first | exact Upd.refl _ _ | apply Upd.putP n1_3 | apply Upd.putP n2_3 | apply Upd.alloc))) (R_keep HR4.out (by repeat (with_reducible first | exact Upd.refl _ _ | apply Upd.putP n1_4 | apply Upd.putP n2_4 | apply Upd.alloc))) (fun k hk => by have := GE1.out k hk; simp only [New]; omega) (fun k hk => by have := GE2.out k hk; simp only [New]; omega) (fun k hk => by have := GE3.out k hk; simp only [New]; omega) (fun k hk => by have := GE4.out k hk; simp only [New]; omega) (fun k hk hk' => by have h1 := LT1.out k hk; have h2 := GP2.out k hk'; omega) (fun k hk hk' => by have h1 := LT1.out k hk; have h2 := GP3.out k hk'; have := hm_Loop; omega) (fun k hk hk' => by have h1 := LT1.out k hk; have h2 := GP4.out k hk'; have := hm_Loop; have := hm_Links; omega) (fun k hk hk' => by have h1 := LT2.out k hk; have h2 := GP3.out k hk'; omega) (fun k hk hk' => by have h1 := LT2.out k hk; have h2 := GP4.out k hk'; have := hm_Links; omega) (fun k hk hk' => by have h1 := LT3.out k hk; have h2 := GP4.out k hk'; omega)
set_option maxHeartbeats 1000000 in
set_option maxRecDepth 100000 in
theorem toS_Vat (l : List GVat) (A : Option Addr) (c : Nat) (w : World) (h : C kl_Vat w A l) (hs : sznS szn_Vat l ≤ 1048576) : Calls Tryz.prog 57 #[.slice A l.length c] w (RetRow ki_Vat 68 l w) := by
  have hn : l.length ≤ 1048576 := by unfold sznS at hs; omega
  have hmk := run_made (P := Tryz.prog) _ _ _ Tryz.underlying32 ki_Vat_info l.length hn (by decide)
  have H := Sd.mk h
  have HS := Sd.mk hs
  clear h hs
  go_enter Tryz.func57, Tryz.ntmps57
  go_wp2
  clear hmk
  have HR : Sd (R ki_Vat 68 (w.alloc (madeObj (.agg #[.int .i64 0, .slice none 0 0, .slice none 0 0, .slice none 0 0, .slice none 0 0]) (l.length * 5) 68)) (New w) (.slice (some ⟨w.heap.size, 0, none⟩) l.length l.length) (List.replicate l.length zVat)) := Sd.mk (R_made (d := ki_Vat) (e := 68) w (.agg #[.int .i64 0, .slice none 0 0, .slice none 0 0, .slice none 0 0, .slice none 0 0]) zVat rfl (by decide) ki_Vat_zero l.length hn)
  have HU := Sd.mk ((Upd.refl No w).alloc (madeObj (.agg #[.int .i64 0, .slice none 0 0, .slice none 0 0, .slice none 0 0, .slice none 0 0]) (l.length * 5) 68))
  go_loopg [4] l.length (fun k v wr => ∃ i : Nat, i + k = l.length ∧ v = .int .i64 i ∧ Sd (R ki_Vat 68 wr (New w) (.slice (some ⟨w.heap.size, 0, none⟩) l.length l.length) (upTo l (List.replicate l.length zVat) i)) ∧ Sd (Upd No w wr))
  case atStart => exact ⟨0, by omega, rfl, ⟨by rw [upTo_zero]; exact HR.out⟩, HU⟩
  case round =>
    clear HR HU
    obtain ⟨i, hi, rfl, HR, HU⟩ := hrel
    by_cases hlt : i < l.length
    · obtain ⟨ad, A1, c1, A2, c2, A3, c3, A4, c4, rfl, a0, a1, a2, a3, a4, hl1, hC1, hl2, hC2, hl3, hC3, hl4, hC4⟩ := kl_Vat_at (C_upd HU.out H.out) i hlt
      have HC1 := Sd.mk hC1
      clear hC1
      have HC2 := Sd.mk hC2
      clear hC2
      have HC3 := Sd.mk hC3
      clear hC3
      have HC4 := Sd.mk hC4
      clear hC4
      have hsi : szn_Vat l[i] ≤ 1048576 := by have := HS.out; have := sumS_at szn_Vat l i hlt; unfold sznS at *; omega
      go_wp2_with fail
      with_reducible refine (to_Vat l[i] _ _ (kl_Vat_Kmk _ _ hl1 HC1.out hl2 HC2.out hl3 HC3.out hl4 HC4.out) hsi).mono ?_
      rintro e w1 ⟨cs, rfl, hM, hu⟩
      obtain ⟨v1, P1, v2, P2, v3, P3, v4, P4, rfl, hR1, hR2, hR3, hR4, i1, i2, i3, i4, d1_2, d1_3, d1_4, d2_3, d2_4, d3_4⟩ := ki_Vat_M (ki_Vat.M_lt hM)
      obtain ⟨D1, d1, rfl⟩ := R_slice hR1
      obtain ⟨D2, d2, rfl⟩ := R_slice hR2
      obtain ⟨D3, d3, rfl⟩ := R_slice hR3
      obtain ⟨D4, d4, rfl⟩ := R_slice hR4
      have HRowA := R_upd hu (fun _ _ q => q) (R_lt HR.out)
      have HU1 := Sd.mk (HU.out.then hu)
      have hzw := HU.out.size
      have HR1 := Sd.mk hR1
      have I1 := Sd.mk i1
      have HR2 := Sd.mk hR2
      have I2 := Sd.mk i2
      have HR3 := Sd.mk hR3
      have I3 := Sd.mk i3
      have HR4 := Sd.mk hR4
      have I4 := Sd.mk i4
      have D1_2 := Sd.mk d1_2
      have D1_3 := Sd.mk d1_3
      have D1_4 := Sd.mk d1_4
      have D2_3 := Sd.mk d2_3
      have D2_4 := Sd.mk d2_4
      have D3_4 := Sd.mk d3_4
      clear HR HU hM hu hR1 i1 hR2 i2 hR3 i3 hR4 i4 d1_2 d1_3 d1_4 d2_3 d2_4 d3_4
      obtain ⟨g, cap, cur, ce, Fi, hv, hcap, hat, hM, hg, hFi, hFg, close⟩ := R_elem HRowA 5 l.length rfl (by rw [upTo_len (by simp) (by simp; omega)]; simp) i zVat (by rw [upTo_at (by simp) (by simpa using hlt)]; simp)
      cases hv
      obtain ⟨y1, _, y2, _, y3, _, y4, _, rfl, -⟩ := ki_Vat_M hM
      have HAT := Sd.mk hat
      have x0 := hat.cell0 _ rfl
      have x1 := hat.cell 1 _ rfl
      have x2 := hat.cell 2 _ rfl
      have x3 := hat.cell 3 _ rfl
      have x4 := hat.cell 4 _ rfl
      have f0 := hat.free (i * 5)
      have f1 := hat.free (i * 5 + 1)
      have f2 := hat.free (i * 5 + 2)
      have f3 := hat.free (i * 5 + 3)
      have f4 := hat.free (i * 5 + 4)
      have CL := Sd.mk close
      clear hat close hM HRowA
      go_wp2
      have HA := ((((HAT.out.set0 (by decide) (.int .i64 l[i].Id)).set 1 (by decide) (.slice D1 l[i].Entities.length d1)).set 2 (by decide) (.slice D2 l[i].Loop.length d2)).set 3 (by decide) (.slice D3 l[i].Links.length d3)).set 4 (by decide) (.slice D4 l[i].Out.length d4)
      have hD1 : ∀ b, P1 b → ¬ (b = w.heap.size ∨ Fi b) := by
        intro b hb q
        have h1 := (I1.out b hb).1
        simp only [New] at h1
        rcases q with rfl | q
        · exact absurd hg.2 (by omega)
        · have h2 := (hFi b q).2
          omega
      have hD2 : ∀ b, P2 b → ¬ (b = w.heap.size ∨ Fi b) := by
        intro b hb q
        have h1 := (I2.out b hb).1
        simp only [New] at h1
        rcases q with rfl | q
        · exact absurd hg.2 (by omega)
        · have h2 := (hFi b q).2
          omega
      have hD3 : ∀ b, P3 b → ¬ (b = w.heap.size ∨ Fi b) := by
        intro b hb q
        have h1 := (I3.out b hb).1
        simp only [New] at h1
        rcases q with rfl | q
        · exact absurd hg.2 (by omega)
        · have h2 := (hFi b q).2
          omega
      have hD4 : ∀ b, P4 b → ¬ (b = w.heap.size ∨ Fi b) := by
        intro b hb q
        have h1 := (I4.out b hb).1
        simp only [New] at h1
        rcases q with rfl | q
        · exact absurd hg.2 (by omega)
        · have h2 := (hFi b q).2
          omega
      have HM := ki_Vat_mk _ (fun b => P1 b ∨ P2 b ∨ P3 b ∨ P4 b) l[i] (R_upd HA.upd hD1 HR1.out) (R_upd HA.upd hD2 HR2.out) (R_upd HA.upd hD3 HR3.out) (R_upd HA.upd hD4 HR4.out) (fun k hk => Or.inl hk) (fun k hk => Or.inr (Or.inl hk)) (fun k hk => Or.inr (Or.inr (Or.inl hk))) (fun k hk => Or.inr (Or.inr (Or.inr (hk)))) D1_2.out D1_3.out D1_4.out D2_3.out D2_4.out D3_4.out
      have hP1 : ∀ b, (P1 b ∨ P2 b ∨ P3 b ∨ P4 b) → New wr b := by
        intro b hb
        rcases hb with hb | hb | hb | hb
        · exact (I1.out b hb).1
        · exact (I2.out b hb).1
        · exact (I3.out b hb).1
        · exact (I4.out b hb).1
      have HRowB := CL.out _ _ l[i] _ (New w) HA HM (fun b hb => .inr (fun q => by have h1 := hP1 b hb; have h2 := q.2; simp only [New] at h1; omega)) (fun _ q => q.1) (fun b hb => by have h1 := hP1 b hb; simp only [New] at h1 ⊢; omega)
      rw [upTo_set (by simp) (by simpa using hlt)] at HRowB
      go_roundg (gk - 1)
      case measure => omega
      case rel => exact ⟨i + 1, by omega, by go_num, ⟨HRowB⟩, ⟨by repeat (with_reducible first | exact HU1.out | apply Upd.put0)⟩⟩
    · go_wp2
      go_ret
      have HRowB := HR.out
      rw [upTo_end (by simp) (by simp; omega)] at HRowB
      exact ⟨_, rfl, HRowB, HU.out⟩
set_option maxHeartbeats 1000000 in
set_option maxRecDepth 100000 in
theorem sz_Vat (x : GVat) (cs : List Value) (n : Int) (w : World) (h : kl_Vat.K w x cs) (hb : Bd_Vat x) (h0 : 0 ≤ n) (h1 : n ≤ 1048576) : Calls Tryz.prog 24 #[.agg cs.toArray, .int .i64 n] w (RetSz (szn_Vat x) n w) := by
  obtain ⟨A1, c1, A2, c2, A3, c3, A4, c4, rfl, hl1, hC1, hl2, hC2, hl3, hC3, hl4, hC4⟩ := kl_Vat_K h
  have HC1 := Sd.mk hC1
  have HC2 := Sd.mk hC2
  have HC3 := Sd.mk hC3
  have HC4 := Sd.mk hC4
  clear hC1 hC2 hC3 hC4
  obtain ⟨b_Entities, b_Loop, b_Out⟩ := hb
  have B_Entities := Sd.mk b_Entities
  clear b_Entities
  have B_Loop := Sd.mk b_Loop
  clear b_Loop
  have B_Out := Sd.mk b_Out
  clear b_Out
  go_enter Tryz.func24, Tryz.ntmps24
  go_wp2_with fail
  with_reducible refine (szS_Entity x.Entities _ _ _ _ ?hc_Entities B_Entities.out (by omega) (by omega)).mono ?_
  case hc_Entities => exact C_upd (by repeat (with_reducible first | exact Upd.refl _ _ | apply Upd.put2 | apply Upd.put1 | apply Upd.put0 | apply Upd.alloc | apply Upd.drewN | apply Upd.drew)) HC1.out
  rintro e w_Entities ⟨r_Entities, rfl, hr_Entities, hu⟩
  have HB_Entities : Sd (Upd No w w_Entities) := Sd.mk (Upd.then (by repeat (with_reducible first | exact Upd.refl _ _ | apply Upd.put2 | apply Upd.put1 | apply Upd.put0 | apply Upd.alloc | apply Upd.drewN | apply Upd.drew)) hu)
  have cc0_Entities := fun o => hu.cellsF (b := w.heap.size) (by first | omega | (simp; done) | (simp; omega)) (fun q => q) o
  have hz_Entities : w.heap.size + 1 ≤ w_Entities.heap.size := by have := hu.size; (try simp at this); omega
  clear hu
  rcases hr_Entities with ⟨q_Entities, rfl⟩ | ⟨q_Entities, rfl⟩
  case inr =>
    go_wp2
    go_ret
    exact ⟨_, rfl, .inr ⟨by unfold szn_Vat; omega, rfl⟩, (by repeat (with_reducible first | exact HB_Entities.out | apply Upd.put2 | apply Upd.put1 | apply Upd.put0 | apply Upd.alloc | apply Upd.drewN | apply Upd.drew))⟩
  go_wp2_with fail
  with_reducible refine (szS_Sent x.Loop _ _ _ _ ?hc_Loop B_Loop.out (by omega) (by omega)).mono ?_
  case hc_Loop => exact C_upd (by repeat (with_reducible first | exact HB_Entities.out | apply Upd.put2 | apply Upd.put1 | apply Upd.put0 | apply Upd.alloc | apply Upd.drewN | apply Upd.drew)) HC2.out
  rintro e w_Loop ⟨r_Loop, rfl, hr_Loop, hu⟩
  have HB_Loop : Sd (Upd No w w_Loop) := Sd.mk (Upd.then (by repeat (with_reducible first | exact HB_Entities.out | apply Upd.put2 | apply Upd.put1 | apply Upd.put0 | apply Upd.alloc | apply Upd.drewN | apply Upd.drew)) hu)
  have cc0_Loop := fun o => hu.cellsF (b := w.heap.size) (by first | omega | (simp; done) | (simp; omega)) (fun q => q) o
  have hz_Loop : w.heap.size + 1 ≤ w_Loop.heap.size := by have := hu.size; (try simp at this); omega
  clear hu
  rcases hr_Loop with ⟨q_Loop, rfl⟩ | ⟨q_Loop, rfl⟩
  case inr =>
    go_wp2
    go_ret
    exact ⟨_, rfl, .inr ⟨by unfold szn_Vat; omega, rfl⟩, (by repeat (with_reducible first | exact HB_Loop.out | apply Upd.put2 | apply Upd.put1 | apply Upd.put0 | apply Upd.alloc | apply Upd.drewN | apply Upd.drew))⟩
  go_wp2_with fail
  with_reducible refine (szS_Link x.Links _ _ _ _ ?hc_Links (by omega) (by omega)).mono ?_
  case hc_Links => exact C_upd (by repeat (with_reducible first | exact HB_Loop.out | apply Upd.put2 | apply Upd.put1 | apply Upd.put0 | apply Upd.alloc | apply Upd.drewN | apply Upd.drew)) HC3.out
  rintro e w_Links ⟨r_Links, rfl, hr_Links, hu⟩
  have HB_Links : Sd (Upd No w w_Links) := Sd.mk (Upd.then (by repeat (with_reducible first | exact HB_Loop.out | apply Upd.put2 | apply Upd.put1 | apply Upd.put0 | apply Upd.alloc | apply Upd.drewN | apply Upd.drew)) hu)
  have cc0_Links := fun o => hu.cellsF (b := w.heap.size) (by first | omega | (simp; done) | (simp; omega)) (fun q => q) o
  have hz_Links : w.heap.size + 1 ≤ w_Links.heap.size := by have := hu.size; (try simp at this); omega
  clear hu
  rcases hr_Links with ⟨q_Links, rfl⟩ | ⟨q_Links, rfl⟩
  case inr =>
    go_wp2
    go_ret
    exact ⟨_, rfl, .inr ⟨by unfold szn_Vat; omega, rfl⟩, (by repeat (with_reducible first | exact HB_Links.out | apply Upd.put2 | apply Upd.put1 | apply Upd.put0 | apply Upd.alloc | apply Upd.drewN | apply Upd.drew))⟩
  go_wp2_with fail
  with_reducible refine (szS_Outgoing x.Out _ _ _ _ ?hc_Out B_Out.out (by omega) (by omega)).mono ?_
  case hc_Out => exact C_upd (by repeat (with_reducible first | exact HB_Links.out | apply Upd.put2 | apply Upd.put1 | apply Upd.put0 | apply Upd.alloc | apply Upd.drewN | apply Upd.drew)) HC4.out
  rintro e w_Out ⟨r_Out, rfl, hr_Out, hu⟩
  have HB_Out : Sd (Upd No w w_Out) := Sd.mk (Upd.then (by repeat (with_reducible first | exact HB_Links.out | apply Upd.put2 | apply Upd.put1 | apply Upd.put0 | apply Upd.alloc | apply Upd.drewN | apply Upd.drew)) hu)
  have cc0_Out := fun o => hu.cellsF (b := w.heap.size) (by first | omega | (simp; done) | (simp; omega)) (fun q => q) o
  have hz_Out : w.heap.size + 1 ≤ w_Out.heap.size := by have := hu.size; (try simp at this); omega
  clear hu
  rcases hr_Out with ⟨q_Out, rfl⟩ | ⟨q_Out, rfl⟩
  case inr =>
    go_wp2
    go_ret
    exact ⟨_, rfl, .inr ⟨by unfold szn_Vat; omega, rfl⟩, (by repeat (with_reducible first | exact HB_Out.out | apply Upd.put2 | apply Upd.put1 | apply Upd.put0 | apply Upd.alloc | apply Upd.drewN | apply Upd.drew))⟩
  go_wp2
  go_ret
  exact ⟨_, rfl, .inl ⟨by unfold szn_Vat; omega, by unfold szn_Vat; omega⟩, (by repeat (with_reducible first | exact HB_Out.out | apply Upd.put2 | apply Upd.put1 | apply Upd.put0 | apply Upd.alloc | apply Upd.drewN | apply Upd.drew))⟩
set_option maxHeartbeats 1000000 in
set_option maxRecDepth 100000 in
theorem szS_Vat (l : List GVat) (A : Option Addr) (c : Nat) (n : Int) (w : World) (h : C kl_Vat w A l) (hb : ∀ y ∈ l, Bd_Vat y) (h0 : 0 ≤ n) (h1 : n ≤ 1048576) : Calls Tryz.prog 52 #[.slice A l.length c, .int .i64 n] w (RetSz (sznS szn_Vat l) n w) := by
  have hn := h.1
  have H := Sd.mk h
  clear h
  have HBD := Sd.mk hb
  clear hb
  go_enter Tryz.func52, Tryz.ntmps52
  by_cases q0 : (l.length : Int) ≤ n
  case neg =>
    go_wp2
    go_ret
    exact ⟨_, rfl, .inr ⟨by unfold sznS; omega, rfl⟩, Upd.refl _ _⟩
  go_wp2
  go_loopg [1, 5] l.length (fun k u v wr => ∃ i : Nat, i + k = l.length ∧ (sumS szn_Vat (l.take i) : Int) ≤ n - l.length ∧ u = .int .i64 (n - l.length - sumS szn_Vat (l.take i)) ∧ v = .int .i64 i ∧ Sd (Upd No w wr))
  case atStart => exact ⟨0, by omega, by simp [sumS]; omega, by simp [sumS], rfl, ⟨Upd.refl _ _⟩⟩
  case round =>
    obtain ⟨i, hi, hle, rfl, rfl, HU⟩ := hrel
    by_cases hlt : i < l.length
    · obtain ⟨ad, A1, c1, A2, c2, A3, c3, A4, c4, rfl, a0, a1, a2, a3, a4, hl1, hC1, hl2, hC2, hl3, hC3, hl4, hC4⟩ := kl_Vat_at (C_upd HU.out H.out) i hlt
      have HC1 := Sd.mk hC1
      clear hC1
      have HC2 := Sd.mk hC2
      clear hC2
      have HC3 := Sd.mk hC3
      clear hC3
      have HC4 := Sd.mk hC4
      clear hC4
      have hst := sumS_step szn_Vat l i hlt
      have HST := Sd.mk (sumS_take szn_Vat l i hlt)
      generalize hs : sumS szn_Vat (l.take i) = s at *
      have HS := Sd.mk hs
      clear hs
      go_wp2_with fail
      with_reducible refine (sz_Vat l[i] _ _ _ (kl_Vat_Kmk _ _ hl1 HC1.out hl2 HC2.out hl3 HC3.out hl4 HC4.out) (HBD.out _ (List.getElem_mem hlt)) (by omega) (by omega)).mono ?_
      rintro e w1 ⟨r, rfl, hr, hu⟩
      have HU1 := Sd.mk (HU.out.then hu)
      clear hu HU
      rcases hr with ⟨q, rfl⟩ | ⟨q, rfl⟩
      · go_wp2
        go_roundg (gk - 1)
        case measure => omega
        case rel => exact ⟨i + 1, by omega, by rw [HST.out]; omega, by rw [HST.out]; exact congrArg (Value.int .i64) (by omega), by go_num, HU1⟩
      · go_wp2
        go_ret
        exact ⟨_, rfl, .inr ⟨by unfold sznS; omega, rfl⟩, HU1.out⟩
    · go_wp2
      go_ret
      have e : l.take i = l := List.take_of_length_le (by omega)
      rw [e] at hle
      exact ⟨_, rfl, .inl ⟨by unfold sznS; omega, by rw [e]; unfold sznS; omega⟩, HU.out⟩
set_option maxHeartbeats 1000000 in
set_option maxRecDepth 100000 in
theorem eq_Vat (x : GVat) (cs cs' : List Value) (w : World) (h : ki_Vat.K w x cs) (h' : ki_Vat.K w x cs') : Calls Tryz.prog 30 #[.agg cs.toArray, .agg cs'.toArray] w (RetBool true w) := by
  obtain ⟨A1, c1, A2, c2, A3, c3, A4, c4, rfl, hl1, hC1, hl2, hC2, hl3, hC3, hl4, hC4⟩ := ki_Vat_K h
  have HC1 := Sd.mk hC1
  have HC2 := Sd.mk hC2
  have HC3 := Sd.mk hC3
  have HC4 := Sd.mk hC4
  clear hC1 hC2 hC3 hC4
  obtain ⟨B1, b1, B2, b2, B3, b3, B4, b4, rfl, hm1, hD1, hm2, hD2, hm3, hD3, hm4, hD4⟩ := ki_Vat_K h'
  have HD1 := Sd.mk hD1
  have HD2 := Sd.mk hD2
  have HD3 := Sd.mk hD3
  have HD4 := Sd.mk hD4
  clear hD1 hD2 hD3 hD4
  go_enter Tryz.func30, Tryz.ntmps30
  go_wp2_with fail
  with_reducible refine (eqS_Entity x.Entities _ _ _ _ _ ?hc_Entities ?hd_Entities).mono ?_
  case hc_Entities => exact C_upd (by repeat (with_reducible first | exact Upd.refl _ _ | apply Upd.put2 | apply Upd.put1 | apply Upd.put0 | apply Upd.alloc | apply Upd.drewN | apply Upd.drew)) HC1.out
  case hd_Entities => exact C_upd (by repeat (with_reducible first | exact Upd.refl _ _ | apply Upd.put2 | apply Upd.put1 | apply Upd.put0 | apply Upd.alloc | apply Upd.drewN | apply Upd.drew)) HD1.out
  rintro e w_Entities ⟨rfl, hu⟩
  have HB_Entities : Sd (Upd No w w_Entities) := Sd.mk (Upd.then (by repeat (with_reducible first | exact Upd.refl _ _ | apply Upd.put2 | apply Upd.put1 | apply Upd.put0 | apply Upd.alloc | apply Upd.drewN | apply Upd.drew)) hu)
  have cc0_Entities := fun o => hu.cellsF (b := w.heap.size) (by first | omega | (simp; done) | (simp; omega)) (fun q => q) o
  have cc1_Entities := fun o => hu.cellsF (b := w.heap.size + 1) (by first | omega | (simp; done) | (simp; omega)) (fun q => q) o
  have hz_Entities : w.heap.size + 1 + 1 ≤ w_Entities.heap.size := by have := hu.size; (try simp at this); omega
  clear hu
  go_wp2_with fail
  with_reducible refine (eqS_Sent x.Loop _ _ _ _ _ ?hc_Loop ?hd_Loop).mono ?_
  case hc_Loop => exact C_upd (by repeat (with_reducible first | exact HB_Entities.out | apply Upd.put2 | apply Upd.put1 | apply Upd.put0 | apply Upd.alloc | apply Upd.drewN | apply Upd.drew)) HC2.out
  case hd_Loop => exact C_upd (by repeat (with_reducible first | exact HB_Entities.out | apply Upd.put2 | apply Upd.put1 | apply Upd.put0 | apply Upd.alloc | apply Upd.drewN | apply Upd.drew)) HD2.out
  rintro e w_Loop ⟨rfl, hu⟩
  have HB_Loop : Sd (Upd No w w_Loop) := Sd.mk (Upd.then (by repeat (with_reducible first | exact HB_Entities.out | apply Upd.put2 | apply Upd.put1 | apply Upd.put0 | apply Upd.alloc | apply Upd.drewN | apply Upd.drew)) hu)
  have cc0_Loop := fun o => hu.cellsF (b := w.heap.size) (by first | omega | (simp; done) | (simp; omega)) (fun q => q) o
  have cc1_Loop := fun o => hu.cellsF (b := w.heap.size + 1) (by first | omega | (simp; done) | (simp; omega)) (fun q => q) o
  have hz_Loop : w.heap.size + 1 + 1 ≤ w_Loop.heap.size := by have := hu.size; (try simp at this); omega
  clear hu
  go_wp2_with fail
  with_reducible refine (eqS_Link x.Links _ _ _ _ _ ?hc_Links ?hd_Links).mono ?_
  case hc_Links => exact C_upd (by repeat (with_reducible first | exact HB_Loop.out | apply Upd.put2 | apply Upd.put1 | apply Upd.put0 | apply Upd.alloc | apply Upd.drewN | apply Upd.drew)) HC3.out
  case hd_Links => exact C_upd (by repeat (with_reducible first | exact HB_Loop.out | apply Upd.put2 | apply Upd.put1 | apply Upd.put0 | apply Upd.alloc | apply Upd.drewN | apply Upd.drew)) HD3.out
  rintro e w_Links ⟨rfl, hu⟩
  have HB_Links : Sd (Upd No w w_Links) := Sd.mk (Upd.then (by repeat (with_reducible first | exact HB_Loop.out | apply Upd.put2 | apply Upd.put1 | apply Upd.put0 | apply Upd.alloc | apply Upd.drewN | apply Upd.drew)) hu)
  have cc0_Links := fun o => hu.cellsF (b := w.heap.size) (by first | omega | (simp; done) | (simp; omega)) (fun q => q) o
  have cc1_Links := fun o => hu.cellsF (b := w.heap.size + 1) (by first | omega | (simp; done) | (simp; omega)) (fun q => q) o
  have hz_Links : w.heap.size + 1 + 1 ≤ w_Links.heap.size := by have := hu.size; (try simp at this); omega
  clear hu
  go_wp2_with fail
  with_reducible refine (eqS_Outgoing x.Out _ _ _ _ _ ?hc_Out ?hd_Out).mono ?_
  case hc_Out => exact C_upd (by repeat (with_reducible first | exact HB_Links.out | apply Upd.put2 | apply Upd.put1 | apply Upd.put0 | apply Upd.alloc | apply Upd.drewN | apply Upd.drew)) HC4.out
  case hd_Out => exact C_upd (by repeat (with_reducible first | exact HB_Links.out | apply Upd.put2 | apply Upd.put1 | apply Upd.put0 | apply Upd.alloc | apply Upd.drewN | apply Upd.drew)) HD4.out
  rintro e w_Out ⟨rfl, hu⟩
  have HB_Out : Sd (Upd No w w_Out) := Sd.mk (Upd.then (by repeat (with_reducible first | exact HB_Links.out | apply Upd.put2 | apply Upd.put1 | apply Upd.put0 | apply Upd.alloc | apply Upd.drewN | apply Upd.drew)) hu)
  have cc0_Out := fun o => hu.cellsF (b := w.heap.size) (by first | omega | (simp; done) | (simp; omega)) (fun q => q) o
  have cc1_Out := fun o => hu.cellsF (b := w.heap.size + 1) (by first | omega | (simp; done) | (simp; omega)) (fun q => q) o
  have hz_Out : w.heap.size + 1 + 1 ≤ w_Out.heap.size := by have := hu.size; (try simp at this); omega
  clear hu
  go_wp2
  go_ret
  exact ⟨rfl, (by repeat (with_reducible first | exact HB_Out.out | apply Upd.put2 | apply Upd.put1 | apply Upd.put0 | apply Upd.alloc | apply Upd.drewN | apply Upd.drew))⟩
set_option maxHeartbeats 1000000 in
set_option maxRecDepth 100000 in
theorem eqS_Vat (l : List GVat) (A A' : Option Addr) (c c' : Nat) (w : World) (h : C ki_Vat w A l) (h' : C ki_Vat w A' l) : Calls Tryz.prog 62 #[.slice A l.length c, .slice A' l.length c'] w (RetBool true w) := by
  have hn := h.1
  have H := Sd.mk h
  have H' := Sd.mk h'
  clear h h'
  go_enter Tryz.func62, Tryz.ntmps62
  go_wp2
  go_loopg [5] l.length (fun k v wr => ∃ i : Nat, i + k = l.length ∧ v = .int .i64 i ∧ Sd (Upd No w wr))
  case atStart => exact ⟨0, by omega, rfl, ⟨Upd.refl _ _⟩⟩
  case round =>
    obtain ⟨i, hi, rfl, HU⟩ := hrel
    by_cases hlt : i < l.length
    · obtain ⟨ad, A1, c1, A2, c2, A3, c3, A4, c4, rfl, a0, a1, a2, a3, a4, hl1, hC1, hl2, hC2, hl3, hC3, hl4, hC4⟩ := ki_Vat_at (C_upd HU.out H.out) i hlt
      obtain ⟨ad', B1, b1, B2, b2, B3, b3, B4, b4, rfl, z0, z1, z2, z3, z4, hm1, hD1, hm2, hD2, hm3, hD3, hm4, hD4⟩ := ki_Vat_at (C_upd HU.out H'.out) i hlt
      have HC1 := Sd.mk hC1
      have HD1 := Sd.mk hD1
      clear hC1 hD1
      have HC2 := Sd.mk hC2
      have HD2 := Sd.mk hD2
      clear hC2 hD2
      have HC3 := Sd.mk hC3
      have HD3 := Sd.mk hD3
      clear hC3 hD3
      have HC4 := Sd.mk hC4
      have HD4 := Sd.mk hD4
      clear hC4 hD4
      go_wp2_with fail
      go_still_tail 8, (by kernel_rfl)
      change wpList _ _ _ _ _ wr.drew
      have HW : Sd (Upd No wr wr.drew) := ⟨(Upd.refl _ _).drew⟩
      have HU2 : Sd (Upd No w wr.drew) := ⟨HU.out.drew⟩
      generalize wr.drew = w2 at *
      go_wp2_with (go_at_call 30; (with_reducible refine (eq_Vat l[i] _ _ _ (ki_Vat_Kmk _ _ hl1 (C_upd HW.out HC1.out) hl2 (C_upd HW.out HC2.out) hl3 (C_upd HW.out HC3.out) hl4 (C_upd HW.out HC4.out)) (ki_Vat_Kmk _ _ hm1 (C_upd HW.out HD1.out) hm2 (C_upd HW.out HD2.out) hm3 (C_upd HW.out HD3.out) hm4 (C_upd HW.out HD4.out))).mono ?_); rintro e w' ⟨rfl, hu⟩)
      have HU3 := Sd.mk (HU2.out.then hu)
      clear HU2 hu
      go_wp2
      go_roundg (gk - 1)
      case measure => omega
      case rel => exact ⟨i + 1, by omega, by go_num, HU3⟩
    · go_wp2
      go_ret
      exact ⟨rfl, HU.out⟩
set_option maxHeartbeats 1000000 in
set_option maxRecDepth 100000 in
theorem markS_Vat (l : List GVat) (k : Int) (F : Nat → Prop) (v : Value) (w : World) (h : R ki_Vat 68 w F v l) (hk : 0 ≤ k) (hb : k + cntS cnt_Vat l ≤ 4611686018427387904) : Calls Tryz.prog 65 #[v, .int .i64 k] w (Marks ki_Vat 68 F v (k + cntS cnt_Vat l) (mkS mk_Vat cnt_Vat k l) w) := by
  obtain ⟨A, c, rfl⟩ := R_slice h
  have hn := R_len h
  have H := Sd.mk h
  clear h
  go_enter Tryz.func65, Tryz.ntmps65
  go_wp2
  go_loopg [1, 5] l.length (fun r u v wr => ∃ i : Nat, i + r = l.length ∧ u = .int .i64 (k + cntS cnt_Vat (l.take i)) ∧ v = .int .i64 i ∧ Sd (R ki_Vat 68 wr F (.slice A l.length c) (upTo (mkS mk_Vat cnt_Vat k l) l i)) ∧ Sd (Upd F w wr))
  case atStart => exact ⟨0, by omega, by simp [cntS], rfl, ⟨by rw [upTo_zero]; exact H.out⟩, ⟨Upd.refl _ _⟩⟩
  case round =>
    obtain ⟨i, hi, rfl, rfl, HR, HU⟩ := hrel
    by_cases hlt : i < l.length
    · have hle := cntS_le cnt_Vat cnt_Vat_nn l i
      have hst := cntS_take cnt_Vat l i hlt
      have hle2 := cntS_le cnt_Vat cnt_Vat_nn l (i + 1)
      rw [hst] at hle2
      have HST := Sd.mk hst
      clear hst
      have HMA := Sd.mk (mkS_at mk_Vat cnt_Vat l k i hlt)
      obtain ⟨g, cap, cur, ce, Fi, hv, hcap, hat, hM, hg, hFi, hFg, close⟩ := R_elem HR.out 5 l.length rfl (upTo_len (mkS_len _ _ _ _) (by omega)) i l[i] (upTo_at (mkS_len _ _ _ _) hlt)
      cases hv
      obtain ⟨v1, P1, v2, P2, v3, P3, v4, P4, rfl, hR1, hR2, hR3, hR4, i1, i2, i3, i4, d1_2, d1_3, d1_4, d2_3, d2_4, d3_4⟩ := ki_Vat_M hM
      obtain ⟨B1, b1, rfl⟩ := R_slice hR1
      have HR1 := Sd.mk hR1
      have I1 := Sd.mk i1
      have N1 : ¬ P1 g := fun q => hFg (i1 g q)
      clear hR1 i1
      have nn1 := cntS_nn cnt_Entity cnt_Entity_nn l[i].Entities
      obtain ⟨B2, b2, rfl⟩ := R_slice hR2
      have HR2 := Sd.mk hR2
      have I2 := Sd.mk i2
      have N2 : ¬ P2 g := fun q => hFg (i2 g q)
      clear hR2 i2
      have nn2 := cntS_nn cnt_Sent cnt_Sent_nn l[i].Loop
      obtain ⟨B3, b3, rfl⟩ := R_slice hR3
      have HR3 := Sd.mk hR3
      have I3 := Sd.mk i3
      have N3 : ¬ P3 g := fun q => hFg (i3 g q)
      clear hR3 i3
      have nn3 := cntS_nn cnt_Link cnt_Link_nn l[i].Links
      obtain ⟨B4, b4, rfl⟩ := R_slice hR4
      have HR4 := Sd.mk hR4
      have I4 := Sd.mk i4
      have N4 : ¬ P4 g := fun q => hFg (i4 g q)
      clear hR4 i4
      have nn4 := cntS_nn cnt_Outgoing cnt_Outgoing_nn l[i].Out
      have D1_2 := Sd.mk d1_2
      clear d1_2
      have D1_3 := Sd.mk d1_3
      clear d1_3
      have D1_4 := Sd.mk d1_4
      clear d1_4
      have D2_3 := Sd.mk d2_3
      clear d2_3
      have D2_4 := Sd.mk d2_4
      clear d2_4
      have D3_4 := Sd.mk d3_4
      clear d3_4
      have HCN : Sd (cnt_Vat l[i] = cnt_Vat l[i]) := ⟨rfl⟩
      simp only [cnt_Vat] at hle2
      generalize hq : k + cntS cnt_Vat (l.take i) = q at *
      have HQ := Sd.mk hq
      have hq0 : 0 ≤ q := by omega
      have hqb : q + (((((0 + 1) + cntS cnt_Entity l[i].Entities) + cntS cnt_Sent l[i].Loop) + cntS cnt_Link l[i].Links) + cntS cnt_Outgoing l[i].Out) ≤ 4611686018427387904 := by omega
      clear hq hle hle2 hb
      generalize hcn1 : cntS cnt_Entity l[i].Entities = cn1 at *
      have HC1 := Sd.mk hcn1
      clear hcn1
      generalize hcn2 : cntS cnt_Sent l[i].Loop = cn2 at *
      have HC2 := Sd.mk hcn2
      clear hcn2
      generalize hcn3 : cntS cnt_Link l[i].Links = cn3 at *
      have HC3 := Sd.mk hcn3
      clear hcn3
      generalize hcn4 : cntS cnt_Outgoing l[i].Out = cn4 at *
      have HC4 := Sd.mk hcn4
      clear hcn4
      have HAT := Sd.mk hat
      have x0_s := hat.cell0 _ rfl
      have x1_s := hat.cell 1 _ rfl
      have x2_s := hat.cell 2 _ rfl
      have x3_s := hat.cell 3 _ rfl
      have x4_s := hat.cell 4 _ rfl
      have f0_s := hat.free (i * 5)
      have f1_s := hat.free (i * 5 + 1)
      have f2_s := hat.free (i * 5 + 2)
      have f3_s := hat.free (i * 5 + 3)
      have f4_s := hat.free (i * 5 + 4)
      have CL := Sd.mk close
      clear hat close hM HR
      go_wp2_with fail
      with_reducible refine (markS_Entity l[i].Entities _ P1 _ _ ?hr_Entities (by omega) (by rw [HC1.out]; omega)).mono ?_
      case hr_Entities => exact (R_upd (G := fun b => b = g) (by repeat (with_reducible first | exact Upd.refl _ _ | apply Upd.setg)) (fun b hb hg' => N1 (hg' ▸ hb)) HR1.out)
      rintro e w_Entities ⟨rfl, hR1, hu⟩
      rw [HC1.out]
      replace HR2 := Sd.mk (R_upd hu (fun b hb hg' => D1_2.out b hg' hb) (R_upd (G := fun b => b = g) (by repeat (with_reducible first | exact Upd.refl _ _ | apply Upd.setg)) (fun b hb hg' => N2 (hg' ▸ hb)) HR2.out))
      replace HR3 := Sd.mk (R_upd hu (fun b hb hg' => D1_3.out b hg' hb) (R_upd (G := fun b => b = g) (by repeat (with_reducible first | exact Upd.refl _ _ | apply Upd.setg)) (fun b hb hg' => N3 (hg' ▸ hb)) HR3.out))
      replace HR4 := Sd.mk (R_upd hu (fun b hb hg' => D1_4.out b hg' hb) (R_upd (G := fun b => b = g) (by repeat (with_reducible first | exact Upd.refl _ _ | apply Upd.setg)) (fun b hb hg' => N4 (hg' ▸ hb)) HR4.out))
      replace HR1 := Sd.mk hR1
      replace HAT := Sd.mk ((HAT.out.set0 (by decide) (.int .i64 (q))).call hu I1.out hFg)
      clear hR1
      clear hu x0_s f0_s x1_s f1_s x2_s f2_s x3_s f3_s x4_s f4_s
      have x0_Entities := HAT.out.cell0 _ rfl
      have x1_Entities := HAT.out.cell 1 _ rfl
      have x2_Entities := HAT.out.cell 2 _ rfl
      have x3_Entities := HAT.out.cell 3 _ rfl
      have x4_Entities := HAT.out.cell 4 _ rfl
      have f0_Entities := HAT.out.free (i * 5)
      have f1_Entities := HAT.out.free (i * 5 + 1)
      have f2_Entities := HAT.out.free (i * 5 + 2)
      have f3_Entities := HAT.out.free (i * 5 + 3)
      have f4_Entities := HAT.out.free (i * 5 + 4)
      go_wp2_with fail
      with_reducible refine (markS_Sent l[i].Loop _ P2 _ _ ?hr_Loop (by omega) (by rw [HC2.out]; omega)).mono ?_
      case hr_Loop => exact (R_upd (G := fun b => b = g) (by repeat (with_reducible first | exact Upd.refl _ _ | apply Upd.setg)) (fun b hb hg' => N2 (hg' ▸ hb)) HR2.out)
      rintro e w_Loop ⟨rfl, hR2, hu⟩
      rw [HC2.out]
      replace HR1 := Sd.mk (R_upd hu (fun b hb hg' => D1_2.out b hb hg') (R_upd (G := fun b => b = g) (by repeat (with_reducible first | exact Upd.refl _ _ | apply Upd.setg)) (fun b hb hg' => N1 (hg' ▸ hb)) HR1.out))
      replace HR3 := Sd.mk (R_upd hu (fun b hb hg' => D2_3.out b hg' hb) (R_upd (G := fun b => b = g) (by repeat (with_reducible first | exact Upd.refl _ _ | apply Upd.setg)) (fun b hb hg' => N3 (hg' ▸ hb)) HR3.out))
      replace HR4 := Sd.mk (R_upd hu (fun b hb hg' => D2_4.out b hg' hb) (R_upd (G := fun b => b = g) (by repeat (with_reducible first | exact Upd.refl _ _ | apply Upd.setg)) (fun b hb hg' => N4 (hg' ▸ hb)) HR4.out))
      replace HR2 := Sd.mk hR2
      replace HAT := Sd.mk (HAT.out.call hu I2.out hFg)
      clear hR2
      clear hu x0_Entities f0_Entities x1_Entities f1_Entities x2_Entities f2_Entities x3_Entities f3_Entities x4_Entities f4_Entities
      have x0_Loop := HAT.out.cell0 _ rfl
      have x1_Loop := HAT.out.cell 1 _ rfl
      have x2_Loop := HAT.out.cell 2 _ rfl
      have x3_Loop := HAT.out.cell 3 _ rfl
      have x4_Loop := HAT.out.cell 4 _ rfl
      have f0_Loop := HAT.out.free (i * 5)
      have f1_Loop := HAT.out.free (i * 5 + 1)
      have f2_Loop := HAT.out.free (i * 5 + 2)
      have f3_Loop := HAT.out.free (i * 5 + 3)
      have f4_Loop := HAT.out.free (i * 5 + 4)
      go_wp2_with fail
      with_reducible refine (markS_Link l[i].Links _ P3 _ _ ?hr_Links (by omega) (by rw [HC3.out]; omega)).mono ?_
      case hr_Links => exact (R_upd (G := fun b => b = g) (by repeat (with_reducible first | exact Upd.refl _ _ | apply Upd.setg)) (fun b hb hg' => N3 (hg' ▸ hb)) HR3.out)
      rintro e w_Links ⟨rfl, hR3, hu⟩
      rw [HC3.out]
      replace HR1 := Sd.mk (R_upd hu (fun b hb hg' => D1_3.out b hb hg') (R_upd (G := fun b => b = g) (by repeat (with_reducible first | exact Upd.refl _ _ | apply Upd.setg)) (fun b hb hg' => N1 (hg' ▸ hb)) HR1.out))
      replace HR2 := Sd.mk (R_upd hu (fun b hb hg' => D2_3.out b hb hg') (R_upd (G := fun b => b = g) (by repeat (with_reducible first | exact Upd.refl _ _ | apply Upd.setg)) (fun b hb hg' => N2 (hg' ▸ hb)) HR2.out))
      replace HR4 := Sd.mk (R_upd hu (fun b hb hg' => D3_4.out b hg' hb) (R_upd (G := fun b => b = g) (by repeat (with_reducible first | exact Upd.refl _ _ | apply Upd.setg)) (fun b hb hg' => N4 (hg' ▸ hb)) HR4.out))
      replace HR3 := Sd.mk hR3
      replace HAT := Sd.mk (HAT.out.call hu I3.out hFg)
      clear hR3
      clear hu x0_Loop f0_Loop x1_Loop f1_Loop x2_Loop f2_Loop x3_Loop f3_Loop x4_Loop f4_Loop
      have x0_Links := HAT.out.cell0 _ rfl
      have x1_Links := HAT.out.cell 1 _ rfl
      have x2_Links := HAT.out.cell 2 _ rfl
      have x3_Links := HAT.out.cell 3 _ rfl
      have x4_Links := HAT.out.cell 4 _ rfl
      have f0_Links := HAT.out.free (i * 5)
      have f1_Links := HAT.out.free (i * 5 + 1)
      have f2_Links := HAT.out.free (i * 5 + 2)
      have f3_Links := HAT.out.free (i * 5 + 3)
      have f4_Links := HAT.out.free (i * 5 + 4)
      go_wp2_with fail
      with_reducible refine (markS_Outgoing l[i].Out _ P4 _ _ ?hr_Out (by omega) (by rw [HC4.out]; omega)).mono ?_
      case hr_Out => exact (R_upd (G := fun b => b = g) (by repeat (with_reducible first | exact Upd.refl _ _ | apply Upd.setg)) (fun b hb hg' => N4 (hg' ▸ hb)) HR4.out)
      rintro e w_Out ⟨rfl, hR4, hu⟩
      rw [HC4.out]
      replace HR1 := Sd.mk (R_upd hu (fun b hb hg' => D1_4.out b hb hg') (R_upd (G := fun b => b = g) (by repeat (with_reducible first | exact Upd.refl _ _ | apply Upd.setg)) (fun b hb hg' => N1 (hg' ▸ hb)) HR1.out))
      replace HR2 := Sd.mk (R_upd hu (fun b hb hg' => D2_4.out b hb hg') (R_upd (G := fun b => b = g) (by repeat (with_reducible first | exact Upd.refl _ _ | apply Upd.setg)) (fun b hb hg' => N2 (hg' ▸ hb)) HR2.out))
      replace HR3 := Sd.mk (R_upd hu (fun b hb hg' => D3_4.out b hb hg') (R_upd (G := fun b => b = g) (by repeat (with_reducible first | exact Upd.refl _ _ | apply Upd.setg)) (fun b hb hg' => N3 (hg' ▸ hb)) HR3.out))
      replace HR4 := Sd.mk hR4
      replace HAT := Sd.mk (HAT.out.call hu I4.out hFg)
      clear hR4
      clear hu x0_Links f0_Links x1_Links f1_Links x2_Links f2_Links x3_Links f3_Links x4_Links f4_Links
      have x0_Out := HAT.out.cell0 _ rfl
      have x1_Out := HAT.out.cell 1 _ rfl
      have x2_Out := HAT.out.cell 2 _ rfl
      have x3_Out := HAT.out.cell 3 _ rfl
      have x4_Out := HAT.out.cell 4 _ rfl
      have f0_Out := HAT.out.free (i * 5)
      have f1_Out := HAT.out.free (i * 5 + 1)
      have f2_Out := HAT.out.free (i * 5 + 2)
      have f3_Out := HAT.out.free (i * 5 + 3)
      have f4_Out := HAT.out.free (i * 5 + 4)
      go_wp2
      have HA := HAT.out
      have hy : (⟨q, mkS mk_Entity cnt_Entity (q + 1) l[i].Entities, mkS mk_Sent cnt_Sent ((q + 1) + cn1) l[i].Loop, mkS mk_Link cnt_Link (((q + 1) + cn1) + cn2) l[i].Links, mkS mk_Outgoing cnt_Outgoing ((((q + 1) + cn1) + cn2) + cn3) l[i].Out⟩ : GVat) = (mkS mk_Vat cnt_Vat k l)[i]'(by rw [mkS_len]; exact hlt) := by rw [HMA.out]; simp only [mk_Vat, HC1.out, HC2.out, HC3.out, HC4.out]
      have HRowB := CL.out _ _ (⟨q, mkS mk_Entity cnt_Entity (q + 1) l[i].Entities, mkS mk_Sent cnt_Sent ((q + 1) + cn1) l[i].Loop, mkS mk_Link cnt_Link (((q + 1) + cn1) + cn2) l[i].Links, mkS mk_Outgoing cnt_Outgoing ((((q + 1) + cn1) + cn2) + cn3) l[i].Out⟩ : GVat) Fi F HA (ki_Vat_mk _ Fi (⟨q, mkS mk_Entity cnt_Entity (q + 1) l[i].Entities, mkS mk_Sent cnt_Sent ((q + 1) + cn1) l[i].Loop, mkS mk_Link cnt_Link (((q + 1) + cn1) + cn2) l[i].Links, mkS mk_Outgoing cnt_Outgoing ((((q + 1) + cn1) + cn2) + cn3) l[i].Out⟩ : GVat) (R_upd (G := fun b => b = g) (by repeat (with_reducible first | exact Upd.refl _ _ | apply Upd.setg)) (fun b hb hg' => N1 (hg' ▸ hb)) HR1.out) (R_upd (G := fun b => b = g) (by repeat (with_reducible first | exact Upd.refl _ _ | apply Upd.setg)) (fun b hb hg' => N2 (hg' ▸ hb)) HR2.out) (R_upd (G := fun b => b = g) (by repeat (with_reducible first | exact Upd.refl _ _ | apply Upd.setg)) (fun b hb hg' => N3 (hg' ▸ hb)) HR3.out) (R_upd (G := fun b => b = g) (by repeat (with_reducible first | exact Upd.refl _ _ | apply Upd.setg)) (fun b hb hg' => N4 (hg' ▸ hb)) HR4.out) I1.out I2.out I3.out I4.out D1_2.out D1_3.out D1_4.out D2_3.out D2_4.out D3_4.out) (fun _ hb => .inl hb) (fun _ hb => hb) hFi
      rw [hy, upTo_set (mkS_len _ _ _ _) hlt] at HRowB
      go_roundg (gk - 1)
      case measure => omega
      case rel => exact ⟨i + 1, by omega, by rw [HST.out]; simp only [cnt_Vat]; have := HQ.out; have := HC1.out; have := HC2.out; have := HC3.out; have := HC4.out; exact congrArg (Value.int .i64) (by omega), by go_num, ⟨HRowB⟩, ⟨HU.out.trans HA.upd (fun _ _ hb => hb) (fun b _ hb => by rcases hb with rfl | hb; exact hg; exact hFi b hb)⟩⟩
    · go_wp2
      go_ret
      have HRowB := HR.out
      rw [upTo_end (mkS_len _ _ _ _) (by omega)] at HRowB
      have e : l.take i = l := List.take_of_length_le (by omega)
      exact ⟨ret_int (by rw [e]), HRowB, HU.out⟩
set_option maxHeartbeats 1000000 in
set_option maxRecDepth 100000 in
theorem markv_Vat_c (x : GVat) (k : Int) (F : Nat → Prop) (cs : List Value) (w : World) (h : ki_Vat.M w F x cs) (hk : 0 ≤ k) (hb : k + cntv_Vat x ≤ 4611686018427387904) : Calls Tryz.prog 32 #[.agg cs.toArray, .int .i64 k] w (MarksV ki_Vat F cs (k + cntv_Vat x) (mkv_Vat k x) w) := by
  obtain ⟨v1, P1, v2, P2, v3, P3, v4, P4, rfl, hR1, hR2, hR3, hR4, i1, i2, i3, i4, d1_2, d1_3, d1_4, d2_3, d2_4, d3_4⟩ := ki_Vat_M (ki_Vat.M_lt h)
  obtain ⟨B1, b1, rfl⟩ := R_slice hR1
  have HR1 := Sd.mk hR1
  have I1 := Sd.mk (fun b q => (i1 b q).1)
  have L1 := Sd.mk (fun b q => (i1 b q).2)
  clear hR1 i1
  have nn1 := cntS_nn cnt_Entity cnt_Entity_nn x.Entities
  obtain ⟨B2, b2, rfl⟩ := R_slice hR2
  have HR2 := Sd.mk hR2
  have I2 := Sd.mk (fun b q => (i2 b q).1)
  have L2 := Sd.mk (fun b q => (i2 b q).2)
  clear hR2 i2
  have nn2 := cntS_nn cnt_Sent cnt_Sent_nn x.Loop
  obtain ⟨B3, b3, rfl⟩ := R_slice hR3
  have HR3 := Sd.mk hR3
  have I3 := Sd.mk (fun b q => (i3 b q).1)
  have L3 := Sd.mk (fun b q => (i3 b q).2)
  clear hR3 i3
  have nn3 := cntS_nn cnt_Link cnt_Link_nn x.Links
  obtain ⟨B4, b4, rfl⟩ := R_slice hR4
  have HR4 := Sd.mk hR4
  have I4 := Sd.mk (fun b q => (i4 b q).1)
  have L4 := Sd.mk (fun b q => (i4 b q).2)
  clear hR4 i4
  have nn4 := cntS_nn cnt_Outgoing cnt_Outgoing_nn x.Out
  have D1_2 := Sd.mk d1_2
  clear d1_2
  have D1_3 := Sd.mk d1_3
  clear d1_3
  have D1_4 := Sd.mk d1_4
  clear d1_4
  have D2_3 := Sd.mk d2_3
  clear d2_3
  have D2_4 := Sd.mk d2_4
  clear d2_4
  have D3_4 := Sd.mk d3_4
  clear d3_4
  clear h
  unfold cntv_Vat at hb
  generalize hcn1 : cntS cnt_Entity x.Entities = cn1 at *
  have HC1 := Sd.mk hcn1
  clear hcn1
  generalize hcn2 : cntS cnt_Sent x.Loop = cn2 at *
  have HC2 := Sd.mk hcn2
  clear hcn2
  generalize hcn3 : cntS cnt_Link x.Links = cn3 at *
  have HC3 := Sd.mk hcn3
  clear hcn3
  generalize hcn4 : cntS cnt_Outgoing x.Out = cn4 at *
  have HC4 := Sd.mk hcn4
  clear hcn4
  go_enter Tryz.func32, Tryz.ntmps32
  go_wp2_with fail
  with_reducible refine (markS_Entity x.Entities _ P1 _ _ ?hr1 (by omega) (by rw [HC1.out]; omega)).mono ?_
  case hr1 => exact R_upd ((Upd.refl No w).alloc _) (fun _ _ q => q) HR1.out
  rintro e w_1 ⟨rfl, hR1, hu⟩
  rw [HC1.out]
  replace HR2 := Sd.mk (R_upd hu (fun b hb hg' => D1_2.out b hg' hb) (R_upd ((Upd.refl No w).alloc _) (fun _ _ q => q) HR2.out))
  replace HR3 := Sd.mk (R_upd hu (fun b hb hg' => D1_3.out b hg' hb) (R_upd ((Upd.refl No w).alloc _) (fun _ _ q => q) HR3.out))
  replace HR4 := Sd.mk (R_upd hu (fun b hb hg' => D1_4.out b hg' hb) (R_upd ((Upd.refl No w).alloc _) (fun _ _ q => q) HR4.out))
  replace HR1 := Sd.mk hR1
  have cc_1 := fun o => hu.cellsF (b := w.heap.size) (by first | omega | (simp; done) | (simp; omega)) (fun q => absurd (L1.out _ q) (Nat.lt_irrefl _)) o
  have hz_1 : w.heap.size + 1 ≤ w_1.heap.size := by have := hu.size; (try simp at this); omega
  have HU_1 : Sd (Upd F w w_1) := Sd.mk (Upd.trans ((Upd.refl No w).alloc _) hu (fun _ _ q => q.elim) (fun b _ q => I1.out b q))
  clear hu hR1
  go_wp2_with fail
  with_reducible refine (markS_Sent x.Loop _ P2 _ _ ?hr2 (by omega) (by rw [HC2.out]; omega)).mono ?_
  case hr2 => exact HR2.out
  rintro e w_2 ⟨rfl, hR2, hu⟩
  rw [HC2.out]
  replace HR1 := Sd.mk (R_upd hu (fun b hb hg' => D1_2.out b hb hg') (HR1.out))
  replace HR3 := Sd.mk (R_upd hu (fun b hb hg' => D2_3.out b hg' hb) (HR3.out))
  replace HR4 := Sd.mk (R_upd hu (fun b hb hg' => D2_4.out b hg' hb) (HR4.out))
  replace HR2 := Sd.mk hR2
  have cc_2 := fun o => hu.cellsF (b := w.heap.size) (by first | omega | (simp; done) | (simp; omega)) (fun q => absurd (L2.out _ q) (Nat.lt_irrefl _)) o
  have hz_2 : w.heap.size + 1 ≤ w_2.heap.size := by have := hu.size; (try simp at this); omega
  have HU_2 : Sd (Upd F w w_2) := Sd.mk (HU_1.out.trans hu (fun _ _ q => q) (fun b _ q => I2.out b q))
  clear hu hR2
  go_wp2_with fail
  with_reducible refine (markS_Link x.Links _ P3 _ _ ?hr3 (by omega) (by rw [HC3.out]; omega)).mono ?_
  case hr3 => exact HR3.out
  rintro e w_3 ⟨rfl, hR3, hu⟩
  rw [HC3.out]
  replace HR1 := Sd.mk (R_upd hu (fun b hb hg' => D1_3.out b hb hg') (HR1.out))
  replace HR2 := Sd.mk (R_upd hu (fun b hb hg' => D2_3.out b hb hg') (HR2.out))
  replace HR4 := Sd.mk (R_upd hu (fun b hb hg' => D3_4.out b hg' hb) (HR4.out))
  replace HR3 := Sd.mk hR3
  have cc_3 := fun o => hu.cellsF (b := w.heap.size) (by first | omega | (simp; done) | (simp; omega)) (fun q => absurd (L3.out _ q) (Nat.lt_irrefl _)) o
  have hz_3 : w.heap.size + 1 ≤ w_3.heap.size := by have := hu.size; (try simp at this); omega
  have HU_3 : Sd (Upd F w w_3) := Sd.mk (HU_2.out.trans hu (fun _ _ q => q) (fun b _ q => I3.out b q))
  clear hu hR3
  go_wp2_with fail
  with_reducible refine (markS_Outgoing x.Out _ P4 _ _ ?hr4 (by omega) (by rw [HC4.out]; omega)).mono ?_
  case hr4 => exact HR4.out
  rintro e w_4 ⟨rfl, hR4, hu⟩
  rw [HC4.out]
  replace HR1 := Sd.mk (R_upd hu (fun b hb hg' => D1_4.out b hb hg') (HR1.out))
  replace HR2 := Sd.mk (R_upd hu (fun b hb hg' => D2_4.out b hb hg') (HR2.out))
  replace HR3 := Sd.mk (R_upd hu (fun b hb hg' => D3_4.out b hb hg') (HR3.out))
  replace HR4 := Sd.mk hR4
  have cc_4 := fun o => hu.cellsF (b := w.heap.size) (by first | omega | (simp; done) | (simp; omega)) (fun q => absurd (L4.out _ q) (Nat.lt_irrefl _)) o
  have hz_4 : w.heap.size + 1 ≤ w_4.heap.size := by have := hu.size; (try simp at this); omega
  have HU_4 : Sd (Upd F w w_4) := Sd.mk (HU_3.out.trans hu (fun _ _ q => q) (fun b _ q => I4.out b q))
  clear hu hR4
  have hy : (⟨x.Id, mkS mk_Entity cnt_Entity k x.Entities, mkS mk_Sent cnt_Sent (k + cn1) x.Loop, mkS mk_Link cnt_Link ((k + cn1) + cn2) x.Links, mkS mk_Outgoing cnt_Outgoing (((k + cn1) + cn2) + cn3) x.Out⟩ : GVat) = mkv_Vat k x := by simp only [mkv_Vat, HC1.out, HC2.out, HC3.out, HC4.out]
  have hc : cntv_Vat x = ((((0 + cn1) + cn2) + cn3) + cn4) := by simp only [cntv_Vat, HC1.out, HC2.out, HC3.out, HC4.out]
  have HMM := ki_Vat_mk w_4 F (⟨x.Id, mkS mk_Entity cnt_Entity k x.Entities, mkS mk_Sent cnt_Sent (k + cn1) x.Loop, mkS mk_Link cnt_Link ((k + cn1) + cn2) x.Links, mkS mk_Outgoing cnt_Outgoing (((k + cn1) + cn2) + cn3) x.Out⟩ : GVat) HR1.out HR2.out HR3.out HR4.out I1.out I2.out I3.out I4.out D1_2.out D1_3.out D1_4.out D2_3.out D2_4.out D3_4.out
  rw [hy] at HMM
  have HMM' := Sd.mk HMM
  have Hc := Sd.mk hc
  clear HMM hy hc
  go_wp2
  go_ret
  exact ⟨ret_int (by rw [Hc.out]; omega), HMM'.out, HU_4.out⟩
set_option maxHeartbeats 1000000 in
set_option maxRecDepth 100000 in
theorem heldS_Vat (l : List GVat) (k : Int) (A : Option Addr) (c : Nat) (w : World) (h : C ki_Vat w A (mkS mk_Vat cnt_Vat k l)) (hk : 0 ≤ k) (hb : k + cntS cnt_Vat l ≤ 4611686018427387904) : Calls Tryz.prog 69 #[.slice A l.length c, .int .i64 k] w (RetInt (k + cntS cnt_Vat l) w) := by
  have hn := h.1
  rw [mkS_len] at hn
  have H := Sd.mk h
  clear h
  go_enter Tryz.func69, Tryz.ntmps69
  go_wp2
  go_loopg [1, 5] l.length (fun r u v wr => ∃ i : Nat, i + r = l.length ∧ u = .int .i64 (k + cntS cnt_Vat (l.take i)) ∧ v = .int .i64 i ∧ Sd (Upd No w wr))
  case atStart => exact ⟨0, by omega, by simp [cntS], rfl, ⟨Upd.refl _ _⟩⟩
  case round =>
    obtain ⟨i, hi, rfl, rfl, HU⟩ := hrel
    by_cases hlt : i < l.length
    · have hle := cntS_le cnt_Vat cnt_Vat_nn l i
      have hst := cntS_take cnt_Vat l i hlt
      have hle2 := cntS_le cnt_Vat cnt_Vat_nn l (i + 1)
      rw [hst] at hle2
      have HST := Sd.mk hst
      clear hst
      obtain ⟨ad, A1, c1, A2, c2, A3, c3, A4, c4, rfl, a0, a1, a2, a3, a4, hl1, hC1, hl2, hC2, hl3, hC3, hl4, hC4⟩ := ki_Vat_at (C_upd HU.out H.out) i (by rw [mkS_len]; exact hlt)
      rw [mkS_at mk_Vat cnt_Vat l k i hlt] at a0 a1 a2 a3 a4 hl1 hC1 hl2 hC2 hl3 hC3 hl4 hC4
      simp only [mk_Vat, mkS_len] at a0 a1 a2 a3 a4 hl1 hC1 hl2 hC2 hl3 hC3 hl4 hC4
      have nn1 := cntS_nn cnt_Entity cnt_Entity_nn l[i].Entities
      have nn2 := cntS_nn cnt_Sent cnt_Sent_nn l[i].Loop
      have nn3 := cntS_nn cnt_Link cnt_Link_nn l[i].Links
      have nn4 := cntS_nn cnt_Outgoing cnt_Outgoing_nn l[i].Out
      simp only [cnt_Vat] at hle2
      generalize hq : k + cntS cnt_Vat (l.take i) = q at *
      have HQ := Sd.mk hq
      have hq0 : 0 ≤ q := by omega
      have hqb : q + (((((0 + 1) + cntS cnt_Entity l[i].Entities) + cntS cnt_Sent l[i].Loop) + cntS cnt_Link l[i].Links) + cntS cnt_Outgoing l[i].Out) ≤ 4611686018427387904 := by omega
      clear hq hle hle2 hb
      generalize hcn1 : cntS cnt_Entity l[i].Entities = cn1 at *
      have HN1 := Sd.mk hcn1
      clear hcn1
      have HC1 := Sd.mk hC1
      clear hC1
      generalize hcn2 : cntS cnt_Sent l[i].Loop = cn2 at *
      have HN2 := Sd.mk hcn2
      clear hcn2
      have HC2 := Sd.mk hC2
      clear hC2
      generalize hcn3 : cntS cnt_Link l[i].Links = cn3 at *
      have HN3 := Sd.mk hcn3
      clear hcn3
      have HC3 := Sd.mk hC3
      clear hC3
      generalize hcn4 : cntS cnt_Outgoing l[i].Out = cn4 at *
      have HN4 := Sd.mk hcn4
      clear hcn4
      have HC4 := Sd.mk hC4
      clear hC4
      have HX := Sd.mk (Upd.refl No wr)
      go_wp2_with fail
      with_reducible refine (heldS_Entity l[i].Entities _ _ _ _ ?hc_Entities (by omega) (by rw [HN1.out]; omega)).mono ?_
      case hc_Entities => exact HC1.out
      rintro e w_Entities ⟨rfl, hu⟩
      rw [HN1.out]
      replace a0 := hu.read a0
      replace a1 := hu.read a1
      replace a2 := hu.read a2
      replace a3 := hu.read a3
      replace a4 := hu.read a4
      replace HC1 := Sd.mk (C_upd hu HC1.out)
      replace HC2 := Sd.mk (C_upd hu HC2.out)
      replace HC3 := Sd.mk (C_upd hu HC3.out)
      replace HC4 := Sd.mk (C_upd hu HC4.out)
      replace HX := Sd.mk (HX.out.then hu)
      clear hu
      go_wp2_with fail
      with_reducible refine (heldS_Sent l[i].Loop _ _ _ _ ?hc_Loop (by omega) (by rw [HN2.out]; omega)).mono ?_
      case hc_Loop => exact HC2.out
      rintro e w_Loop ⟨rfl, hu⟩
      rw [HN2.out]
      replace a0 := hu.read a0
      replace a1 := hu.read a1
      replace a2 := hu.read a2
      replace a3 := hu.read a3
      replace a4 := hu.read a4
      replace HC1 := Sd.mk (C_upd hu HC1.out)
      replace HC2 := Sd.mk (C_upd hu HC2.out)
      replace HC3 := Sd.mk (C_upd hu HC3.out)
      replace HC4 := Sd.mk (C_upd hu HC4.out)
      replace HX := Sd.mk (HX.out.then hu)
      clear hu
      go_wp2_with fail
      with_reducible refine (heldS_Link l[i].Links _ _ _ _ ?hc_Links (by omega) (by rw [HN3.out]; omega)).mono ?_
      case hc_Links => exact HC3.out
      rintro e w_Links ⟨rfl, hu⟩
      rw [HN3.out]
      replace a0 := hu.read a0
      replace a1 := hu.read a1
      replace a2 := hu.read a2
      replace a3 := hu.read a3
      replace a4 := hu.read a4
      replace HC1 := Sd.mk (C_upd hu HC1.out)
      replace HC2 := Sd.mk (C_upd hu HC2.out)
      replace HC3 := Sd.mk (C_upd hu HC3.out)
      replace HC4 := Sd.mk (C_upd hu HC4.out)
      replace HX := Sd.mk (HX.out.then hu)
      clear hu
      go_wp2_with fail
      with_reducible refine (heldS_Outgoing l[i].Out _ _ _ _ ?hc_Out (by omega) (by rw [HN4.out]; omega)).mono ?_
      case hc_Out => exact HC4.out
      rintro e w_Out ⟨rfl, hu⟩
      rw [HN4.out]
      replace a0 := hu.read a0
      replace a1 := hu.read a1
      replace a2 := hu.read a2
      replace a3 := hu.read a3
      replace a4 := hu.read a4
      replace HC1 := Sd.mk (C_upd hu HC1.out)
      replace HC2 := Sd.mk (C_upd hu HC2.out)
      replace HC3 := Sd.mk (C_upd hu HC3.out)
      replace HC4 := Sd.mk (C_upd hu HC4.out)
      replace HX := Sd.mk (HX.out.then hu)
      clear hu
      go_wp2
      go_roundg (gk - 1)
      case measure => omega
      case rel => exact ⟨i + 1, by omega, by rw [HST.out]; simp only [cnt_Vat]; have := HQ.out; have := HN1.out; have := HN2.out; have := HN3.out; have := HN4.out; exact congrArg (Value.int .i64) (by omega), by go_num, ⟨HU.out.then HX.out⟩⟩
    · go_wp2
      go_ret
      have e : l.take i = l := List.take_of_length_le (by omega)
      exact ⟨ret_int (by rw [e]), HU.out⟩
set_option maxHeartbeats 1000000 in
set_option maxRecDepth 100000 in
theorem heldv_Vat_c (x : GVat) (k : Int) (cs : List Value) (w : World) (h : ki_Vat.K w (mkv_Vat k x) cs) (hk : 0 ≤ k) (hb : k + cntv_Vat x ≤ 4611686018427387904) : Calls Tryz.prog 34 #[.agg cs.toArray, .int .i64 k] w (RetInt (k + cntv_Vat x) w) := by
  obtain ⟨A1, c1, A2, c2, A3, c3, A4, c4, rfl, hl1, hC1, hl2, hC2, hl3, hC3, hl4, hC4⟩ := ki_Vat_K h
  clear h
  simp only [mkv_Vat, mkS_len] at hl1 hC1 hl2 hC2 hl3 hC3 hl4 hC4
  simp only [mkv_Vat, mkS_len]
  have nn1 := cntS_nn cnt_Entity cnt_Entity_nn x.Entities
  have nn2 := cntS_nn cnt_Sent cnt_Sent_nn x.Loop
  have nn3 := cntS_nn cnt_Link cnt_Link_nn x.Links
  have nn4 := cntS_nn cnt_Outgoing cnt_Outgoing_nn x.Out
  unfold cntv_Vat at hb
  generalize hcn1 : cntS cnt_Entity x.Entities = cn1 at *
  have HN1 := Sd.mk hcn1
  clear hcn1
  have HC1 := Sd.mk hC1
  clear hC1
  generalize hcn2 : cntS cnt_Sent x.Loop = cn2 at *
  have HN2 := Sd.mk hcn2
  clear hcn2
  have HC2 := Sd.mk hC2
  clear hC2
  generalize hcn3 : cntS cnt_Link x.Links = cn3 at *
  have HN3 := Sd.mk hcn3
  clear hcn3
  have HC3 := Sd.mk hC3
  clear hC3
  generalize hcn4 : cntS cnt_Outgoing x.Out = cn4 at *
  have HN4 := Sd.mk hcn4
  clear hcn4
  have HC4 := Sd.mk hC4
  clear hC4
  go_enter Tryz.func34, Tryz.ntmps34
  go_wp2_with fail
  with_reducible refine (heldS_Entity x.Entities _ _ _ _ ?hc1 (by omega) (by rw [HN1.out]; omega)).mono ?_
  case hc1 => exact C_upd (by repeat (with_reducible first | exact Upd.refl _ _ | apply Upd.put2 | apply Upd.put1 | apply Upd.put0 | apply Upd.alloc | apply Upd.drewN | apply Upd.drew)) HC1.out
  rintro e w_1 ⟨rfl, hu⟩
  rw [HN1.out]
  have HB_1 : Sd (Upd No w w_1) := Sd.mk (Upd.then (by repeat (with_reducible first | exact Upd.refl _ _ | apply Upd.put2 | apply Upd.put1 | apply Upd.put0 | apply Upd.alloc | apply Upd.drewN | apply Upd.drew)) hu)
  have cc_1 := fun o => hu.cellsF (b := w.heap.size) (by first | omega | (simp; done) | (simp; omega)) (fun q => q) o
  have hz_1 : w.heap.size + 1 ≤ w_1.heap.size := by have := hu.size; (try simp at this); omega
  clear hu
  go_wp2_with fail
  with_reducible refine (heldS_Sent x.Loop _ _ _ _ ?hc2 (by omega) (by rw [HN2.out]; omega)).mono ?_
  case hc2 => exact C_upd (by repeat (with_reducible first | exact HB_1.out | apply Upd.put2 | apply Upd.put1 | apply Upd.put0 | apply Upd.alloc | apply Upd.drewN | apply Upd.drew)) HC2.out
  rintro e w_2 ⟨rfl, hu⟩
  rw [HN2.out]
  have HB_2 : Sd (Upd No w w_2) := Sd.mk (Upd.then (by repeat (with_reducible first | exact HB_1.out | apply Upd.put2 | apply Upd.put1 | apply Upd.put0 | apply Upd.alloc | apply Upd.drewN | apply Upd.drew)) hu)
  have cc_2 := fun o => hu.cellsF (b := w.heap.size) (by first | omega | (simp; done) | (simp; omega)) (fun q => q) o
  have hz_2 : w.heap.size + 1 ≤ w_2.heap.size := by have := hu.size; (try simp at this); omega
  clear hu
  go_wp2_with fail
  with_reducible refine (heldS_Link x.Links _ _ _ _ ?hc3 (by omega) (by rw [HN3.out]; omega)).mono ?_
  case hc3 => exact C_upd (by repeat (with_reducible first | exact HB_2.out | apply Upd.put2 | apply Upd.put1 | apply Upd.put0 | apply Upd.alloc | apply Upd.drewN | apply Upd.drew)) HC3.out
  rintro e w_3 ⟨rfl, hu⟩
  rw [HN3.out]
  have HB_3 : Sd (Upd No w w_3) := Sd.mk (Upd.then (by repeat (with_reducible first | exact HB_2.out | apply Upd.put2 | apply Upd.put1 | apply Upd.put0 | apply Upd.alloc | apply Upd.drewN | apply Upd.drew)) hu)
  have cc_3 := fun o => hu.cellsF (b := w.heap.size) (by first | omega | (simp; done) | (simp; omega)) (fun q => q) o
  have hz_3 : w.heap.size + 1 ≤ w_3.heap.size := by have := hu.size; (try simp at this); omega
  clear hu
  go_wp2_with fail
  with_reducible refine (heldS_Outgoing x.Out _ _ _ _ ?hc4 (by omega) (by rw [HN4.out]; omega)).mono ?_
  case hc4 => exact C_upd (by repeat (with_reducible first | exact HB_3.out | apply Upd.put2 | apply Upd.put1 | apply Upd.put0 | apply Upd.alloc | apply Upd.drewN | apply Upd.drew)) HC4.out
  rintro e w_4 ⟨rfl, hu⟩
  rw [HN4.out]
  have HB_4 : Sd (Upd No w w_4) := Sd.mk (Upd.then (by repeat (with_reducible first | exact HB_3.out | apply Upd.put2 | apply Upd.put1 | apply Upd.put0 | apply Upd.alloc | apply Upd.drewN | apply Upd.drew)) hu)
  have cc_4 := fun o => hu.cellsF (b := w.heap.size) (by first | omega | (simp; done) | (simp; omega)) (fun q => q) o
  have hz_4 : w.heap.size + 1 ≤ w_4.heap.size := by have := hu.size; (try simp at this); omega
  clear hu
  have Hc : Sd (cntv_Vat x = ((((0 + cn1) + cn2) + cn3) + cn4)) := ⟨by simp only [cntv_Vat, HN1.out, HN2.out, HN3.out, HN4.out]⟩
  go_wp2
  go_ret
  exact ⟨ret_int (by rw [Hc.out]; omega), HB_4.out⟩
end Go.Proofs.YtfnedoiplblldaaGreatFam
