/- The contracts of the laws' own functions over Vat: to, sz, eq, mark, held. No conditions beyond the sizes that the contracts name. -/
import Derived.Test.YtfnedoiplblldaaProg
import Derived.Test.YtfnedoiplblldaaSep2
import Derived.Test.YtfnedoiplblldaaLst
import Derived.WalkKit
import Derived.KernelRfl
import Derived.RowKit3
import Derived.Deep.LoopGhost
import Derived.Deep.QuietTactic
import Derived.BigQuiet
import Derived.StillTailTactics
import Derived.Test.YtfnedoiplblldaaK
import Derived.Deep.RegionHeld3
import Derived.Test.YtfnedoiplblldaaFamValue
import Derived.Test.YtfnedoiplblldaaFamTag
import Derived.Test.YtfnedoiplblldaaFamSent
import Derived.Test.YtfnedoiplblldaaFamAsker
import Derived.Test.YtfnedoiplblldaaFamEntity
import Derived.Test.YtfnedoiplblldaaFamExport
import Derived.Test.YtfnedoiplblldaaFamQuestion
import Derived.Test.YtfnedoiplblldaaFamLink
import Derived.Test.YtfnedoiplblldaaFamWire
import Derived.Test.YtfnedoiplblldaaFamMessage
import Derived.Test.YtfnedoiplblldaaFamOutgoing
import Derived.Test.YtfnedoiplblldaaFamText
namespace Go.Proofs.YtfnedoiplblldaaFam
open Go.RowKit Go.Proofs.YtfnedoiplblldaaSep Go.Proofs.YtfnedoiplblldaaT Go.Proofs.YtfnedoiplblldaaK
set_option linter.unusedVariables false
set_option linter.unusedSimpArgs false
theorem kl_Vat_Kmk (w : World) (x : GVat) {A1 : Option Addr} {c1 : Nat} (hl1 : x.Entities.length ≤ c1) (hC1 : C kl_Entity w A1 x.Entities) {A2 : Option Addr} {c2 : Nat} (hl2 : x.Loop.length ≤ c2) (hC2 : C kl_Sent w A2 x.Loop) {A3 : Option Addr} {c3 : Nat} (hl3 : x.Links.length ≤ c3) (hC3 : C kl_Link w A3 x.Links) {A4 : Option Addr} {c4 : Nat} (hl4 : x.Out.length ≤ c4) (hC4 : C kl_Outgoing w A4 x.Out) : kl_Vat.K w x [.int .i64 x.Id, .slice A1 x.Entities.length c1, .slice A2 x.Loop.length c2, .slice A3 x.Links.length c3, .slice A4 x.Out.length c4] := ⟨[_], [_, _, _, _], rfl, rfl, ⟨[_], [_, _, _], rfl, ⟨A1, c1, rfl, hl1, hC1⟩, ⟨[_], [_, _], rfl, ⟨A2, c2, rfl, hl2, hC2⟩, ⟨[_], [_], rfl, ⟨A3, c3, rfl, hl3, hC3⟩, ⟨A4, c4, rfl, hl4, hC4⟩⟩⟩⟩⟩
theorem ki_Vat_Kmk (w : World) (x : GVat) {A1 : Option Addr} {c1 : Nat} (hl1 : x.Entities.length ≤ c1) (hC1 : C ki_Entity w A1 x.Entities) {A2 : Option Addr} {c2 : Nat} (hl2 : x.Loop.length ≤ c2) (hC2 : C ki_Sent w A2 x.Loop) {A3 : Option Addr} {c3 : Nat} (hl3 : x.Links.length ≤ c3) (hC3 : C ki_Link w A3 x.Links) {A4 : Option Addr} {c4 : Nat} (hl4 : x.Out.length ≤ c4) (hC4 : C ki_Outgoing w A4 x.Out) : ki_Vat.K w x [.int .i64 x.Id, .slice A1 x.Entities.length c1, .slice A2 x.Loop.length c2, .slice A3 x.Links.length c3, .slice A4 x.Out.length c4] := ⟨[_], [_, _, _, _], rfl, rfl, ⟨[_], [_, _, _], rfl, ⟨A1, c1, rfl, hl1, hC1⟩, ⟨[_], [_, _], rfl, ⟨A2, c2, rfl, hl2, hC2⟩, ⟨[_], [_], rfl, ⟨A3, c3, rfl, hl3, hC3⟩, ⟨A4, c4, rfl, hl4, hC4⟩⟩⟩⟩⟩
set_option maxHeartbeats 1000000 in
set_option maxRecDepth 100000 in
theorem to_Vat (x : GVat) (cs : List Value) (w : World) (h : kl_Vat.K w x cs) (hs : szn_Vat x ≤ 1048576) : Calls Try.prog 18 #[.agg cs.toArray] w (RetAgg ki_Vat x w) := by
  obtain ⟨A1, c1, A2, c2, A3, c3, A4, c4, rfl, hl1, hC1, hl2, hC2, hl3, hC3, hl4, hC4⟩ := kl_Vat_K h
  have HC1 := Sd.mk hC1
  have HC2 := Sd.mk hC2
  have HC3 := Sd.mk hC3
  have HC4 := Sd.mk hC4
  clear hC1 hC2 hC3 hC4
  have s_Entities : sznS szn_Entity x.Entities ≤ 1048576 := by unfold szn_Vat at hs; omega
  have s_Loop : sznS szn_Sent x.Loop ≤ 1048576 := by unfold szn_Vat at hs; omega
  have s_Links : sznS szn_Link x.Links ≤ 1048576 := by unfold szn_Vat at hs; omega
  have s_Out : sznS szn_Outgoing x.Out ≤ 1048576 := by unfold szn_Vat at hs; omega
  clear hs
  go_enter Try.func18, Try.ntmps18
  go_wp2_with fail
  with_reducible refine (toS_Entity x.Entities _ _ _ ?hc_Entities s_Entities).mono ?_
  case hc_Entities => exact C_upd (by repeat (with_reducible first | exact Upd.refl _ _ | apply Upd.put2 | apply Upd.put1 | apply Upd.put0 | apply Upd.alloc | apply Upd.drewN | apply Upd.drew)) HC1.out
  rintro e w_Entities ⟨v1, rfl, hR1, hu⟩
  obtain ⟨B1, b1, rfl⟩ := R_slice hR1
  obtain ⟨P1, hR1', g1, l1⟩ := fresh_row hR1 (w.heap.size + 1 + 1 + 1) (by first | omega | (simp; done) | (simp; omega))
  have ge1 : ∀ b, P1 b → w.heap.size + 1 + 1 < b := fun b hb => by have := g1 b hb; omega
  have n1_1 : ¬ P1 (w.heap.size + 1) := fun q => by have := ge1 _ q; omega
  have n2_1 : ¬ P1 (w.heap.size + 1 + 1) := fun q => by have := ge1 _ q; omega
  have HR1 := Sd.mk hR1'
  have GE1 := Sd.mk ge1
  have LT1 := Sd.mk l1
  have GP1 := Sd.mk g1
  clear hR1 hR1' ge1 l1 g1
  have HB_Entities : Sd (Upd No w w_Entities) := Sd.mk (Upd.then (by repeat (with_reducible first | exact Upd.refl _ _ | apply Upd.put2 | apply Upd.put1 | apply Upd.put0 | apply Upd.alloc | apply Upd.drewN | apply Upd.drew)) hu)
  have cc0_Entities := fun o => hu.cellsF (b := w.heap.size) (by first | omega | (simp; done) | (simp; omega)) (fun q => q) o
  have cc1_Entities := fun o => hu.cellsF (b := w.heap.size + 1) (by first | omega | (simp; done) | (simp; omega)) (fun q => q) o
  have cf1_Entities := fun o => hu.frozenF (b := w.heap.size + 1) (by first | omega | (simp; done) | (simp; omega)) (fun q => q) o
  have cc2_Entities := fun o => hu.cellsF (b := w.heap.size + 1 + 1) (by first | omega | (simp; done) | (simp; omega)) (fun q => q) o
  have cf2_Entities := fun o => hu.frozenF (b := w.heap.size + 1 + 1) (by first | omega | (simp; done) | (simp; omega)) (fun q => q) o
  have hz_Entities : w.heap.size + 1 + 1 + 1 ≤ w_Entities.heap.size := by have := hu.size; (try simp at this); omega
  clear hu
  go_wp2_with fail
  with_reducible refine (toS_Sent x.Loop _ _ _ ?hc_Loop s_Loop).mono ?_
  case hc_Loop => exact C_upd (by repeat (with_reducible first | exact HB_Entities.out | apply Upd.put2 | apply Upd.put1 | apply Upd.put0 | apply Upd.alloc | apply Upd.drewN | apply Upd.drew)) HC2.out
  rintro e w_Loop ⟨v2, rfl, hR2, hu⟩
  obtain ⟨B2, b2, rfl⟩ := R_slice hR2
  obtain ⟨P2, hR2', g2, l2⟩ := fresh_row hR2 (w_Entities.heap.size) (by first | omega | (simp; done) | (simp; omega))
  have ge2 : ∀ b, P2 b → w.heap.size + 1 + 1 < b := fun b hb => by have := g2 b hb; have := hz_Entities; omega
  have n1_2 : ¬ P2 (w.heap.size + 1) := fun q => by have := ge2 _ q; omega
  have n2_2 : ¬ P2 (w.heap.size + 1 + 1) := fun q => by have := ge2 _ q; omega
  have HR2 := Sd.mk hR2'
  have GE2 := Sd.mk ge2
  have LT2 := Sd.mk l2
  have GP2 := Sd.mk g2
  clear hR2 hR2' ge2 l2 g2
  have HR1 := Sd.mk (R_upd hu (fun _ _ q => q) (R_keep HR1.out (by repeat (with_reducible first | exact Upd.refl _ _ | apply Upd.putP n1_1 | apply Upd.putP n2_1 | apply Upd.alloc))))
  have HB_Loop : Sd (Upd No w w_Loop) := Sd.mk (Upd.then (by repeat (with_reducible first | exact HB_Entities.out | apply Upd.put2 | apply Upd.put1 | apply Upd.put0 | apply Upd.alloc | apply Upd.drewN | apply Upd.drew)) hu)
  have cc0_Loop := fun o => hu.cellsF (b := w.heap.size) (by first | omega | (simp; done) | (simp; omega)) (fun q => q) o
  have cc1_Loop := fun o => hu.cellsF (b := w.heap.size + 1) (by first | omega | (simp; done) | (simp; omega)) (fun q => q) o
  have cf1_Loop := fun o => hu.frozenF (b := w.heap.size + 1) (by first | omega | (simp; done) | (simp; omega)) (fun q => q) o
  have cc2_Loop := fun o => hu.cellsF (b := w.heap.size + 1 + 1) (by first | omega | (simp; done) | (simp; omega)) (fun q => q) o
  have cf2_Loop := fun o => hu.frozenF (b := w.heap.size + 1 + 1) (by first | omega | (simp; done) | (simp; omega)) (fun q => q) o
  have hz_Loop : w.heap.size + 1 + 1 + 1 ≤ w_Loop.heap.size := by have := hu.size; (try simp at this); omega
  have hm_Loop : w_Entities.heap.size ≤ w_Loop.heap.size := by have := hu.size; (try simp at this); omega
  clear hu
  go_wp2_with fail
  with_reducible refine (toS_Link x.Links _ _ _ ?hc_Links s_Links).mono ?_
  case hc_Links => exact C_upd (by repeat (with_reducible first | exact HB_Loop.out | apply Upd.put2 | apply Upd.put1 | apply Upd.put0 | apply Upd.alloc | apply Upd.drewN | apply Upd.drew)) HC3.out
  rintro e w_Links ⟨v3, rfl, hR3, hu⟩
  obtain ⟨B3, b3, rfl⟩ := R_slice hR3
  obtain ⟨P3, hR3', g3, l3⟩ := fresh_row hR3 (w_Loop.heap.size) (by first | omega | (simp; done) | (simp; omega))
  have ge3 : ∀ b, P3 b → w.heap.size + 1 + 1 < b := fun b hb => by have := g3 b hb; have := hz_Loop; omega
  have n1_3 : ¬ P3 (w.heap.size + 1) := fun q => by have := ge3 _ q; omega
  have n2_3 : ¬ P3 (w.heap.size + 1 + 1) := fun q => by have := ge3 _ q; omega
  have HR3 := Sd.mk hR3'
  have GE3 := Sd.mk ge3
  have LT3 := Sd.mk l3
  have GP3 := Sd.mk g3
  clear hR3 hR3' ge3 l3 g3
  have HR1 := Sd.mk (R_upd hu (fun _ _ q => q) (R_keep HR1.out (by repeat (with_reducible first | exact Upd.refl _ _ | apply Upd.putP n1_1 | apply Upd.putP n2_1 | apply Upd.alloc))))
  have HR2 := Sd.mk (R_upd hu (fun _ _ q => q) (R_keep HR2.out (by repeat (with_reducible first | exact Upd.refl _ _ | apply Upd.putP n1_2 | apply Upd.putP n2_2 | apply Upd.alloc))))
  have HB_Links : Sd (Upd No w w_Links) := Sd.mk (Upd.then (by repeat (with_reducible first | exact HB_Loop.out | apply Upd.put2 | apply Upd.put1 | apply Upd.put0 | apply Upd.alloc | apply Upd.drewN | apply Upd.drew)) hu)
  have cc0_Links := fun o => hu.cellsF (b := w.heap.size) (by first | omega | (simp; done) | (simp; omega)) (fun q => q) o
  have cc1_Links := fun o => hu.cellsF (b := w.heap.size + 1) (by first | omega | (simp; done) | (simp; omega)) (fun q => q) o
  have cf1_Links := fun o => hu.frozenF (b := w.heap.size + 1) (by first | omega | (simp; done) | (simp; omega)) (fun q => q) o
  have cc2_Links := fun o => hu.cellsF (b := w.heap.size + 1 + 1) (by first | omega | (simp; done) | (simp; omega)) (fun q => q) o
  have cf2_Links := fun o => hu.frozenF (b := w.heap.size + 1 + 1) (by first | omega | (simp; done) | (simp; omega)) (fun q => q) o
  have hz_Links : w.heap.size + 1 + 1 + 1 ≤ w_Links.heap.size := by have := hu.size; (try simp at this); omega
  have hm_Links : w_Loop.heap.size ≤ w_Links.heap.size := by have := hu.size; (try simp at this); omega
  clear hu
  go_wp2_with fail
  with_reducible refine (toS_Outgoing x.Out _ _ _ ?hc_Out s_Out).mono ?_
  case hc_Out => exact C_upd (by repeat (with_reducible first | exact HB_Links.out | apply Upd.put2 | apply Upd.put1 | apply Upd.put0 | apply Upd.alloc | apply Upd.drewN | apply Upd.drew)) HC4.out
  rintro e w_Out ⟨v4, rfl, hR4, hu⟩
  obtain ⟨B4, b4, rfl⟩ := R_slice hR4
  obtain ⟨P4, hR4', g4, l4⟩ := fresh_row hR4 (w_Links.heap.size) (by first | omega | (simp; done) | (simp; omega))
  have ge4 : ∀ b, P4 b → w.heap.size + 1 + 1 < b := fun b hb => by have := g4 b hb; have := hz_Links; omega
  have n1_4 : ¬ P4 (w.heap.size + 1) := fun q => by have := ge4 _ q; omega
  have n2_4 : ¬ P4 (w.heap.size + 1 + 1) := fun q => by have := ge4 _ q; omega
  have HR4 := Sd.mk hR4'
  have GE4 := Sd.mk ge4
  have LT4 := Sd.mk l4
  have GP4 := Sd.mk g4
  clear hR4 hR4' ge4 l4 g4
  have HR1 := Sd.mk (R_upd hu (fun _ _ q => q) (R_keep HR1.out (by repeat (with_reducible first | exact Upd.refl _ _ | apply Upd.putP n1_1 | apply Upd.putP n2_1 | apply Upd.alloc))))
  have HR2 := Sd.mk (R_upd hu (fun _ _ q => q) (R_keep HR2.out (by repeat (with_reducible first | exact Upd.refl _ _ | apply Upd.putP n1_2 | apply Upd.putP n2_2 | apply Upd.alloc))))
  have HR3 := Sd.mk (R_upd hu (fun _ _ q => q) (R_keep HR3.out (by repeat (with_reducible first | exact Upd.refl _ _ | apply Upd.putP n1_3 | apply Upd.putP n2_3 | apply Upd.alloc))))
  have HB_Out : Sd (Upd No w w_Out) := Sd.mk (Upd.then (by repeat (with_reducible first | exact HB_Links.out | apply Upd.put2 | apply Upd.put1 | apply Upd.put0 | apply Upd.alloc | apply Upd.drewN | apply Upd.drew)) hu)
  have cc0_Out := fun o => hu.cellsF (b := w.heap.size) (by first | omega | (simp; done) | (simp; omega)) (fun q => q) o
  have cc1_Out := fun o => hu.cellsF (b := w.heap.size + 1) (by first | omega | (simp; done) | (simp; omega)) (fun q => q) o
  have cf1_Out := fun o => hu.frozenF (b := w.heap.size + 1) (by first | omega | (simp; done) | (simp; omega)) (fun q => q) o
  have cc2_Out := fun o => hu.cellsF (b := w.heap.size + 1 + 1) (by first | omega | (simp; done) | (simp; omega)) (fun q => q) o
  have cf2_Out := fun o => hu.frozenF (b := w.heap.size + 1 + 1) (by first | omega | (simp; done) | (simp; omega)) (fun q => q) o
  have hz_Out : w.heap.size + 1 + 1 + 1 ≤ w_Out.heap.size := by have := hu.size; (try simp at this); omega
  have hm_Out : w_Links.heap.size ≤ w_Out.heap.size := by have := hu.size; (try simp at this); omega
  clear hu
  go_wp2
  refine bodyPost_ret (v := .agg #[.int .i64 x.Id, .slice B1 x.Entities.length b1, .slice B2 x.Loop.length b2, .slice B3 x.Links.length b3, .slice B4 x.Out.length b4]) (by simp [results, Try.results18, go_sem, cc1_Entities, cc1_Loop, cc1_Links, cc1_Out]) rfl ⟨_, rfl, ?_, (by repeat (with_reducible first | exact HB_Out.out | apply Upd.put2 | apply Upd.put1 | apply Upd.put0 | apply Upd.alloc | apply Upd.drewN | apply Upd.drew))⟩
  exact ki_Vat_mk _ _ _ (R_keep HR1.out (by repeat (with_reducible first | exact Upd.refl _ _ | apply Upd.putP n1_1 | apply Upd.putP n2_1 | apply Upd.alloc))) (R_keep HR2.out (by repeat (with_reducible first | exact Upd.refl _ _ | apply Upd.putP n1_2 | apply Upd.putP n2_2 | apply Upd.alloc))) (R_keep HR3.out (by repeat (with_reducible first | exact Upd.refl _ _ | apply Upd.putP n1_3 | apply Upd.putP n2_3 | apply Upd.alloc))) (R_keep HR4.out (by repeat (with_reducible first | exact Upd.refl _ _ | apply Upd.putP n1_4 | apply Upd.putP n2_4 | apply Upd.alloc))) (fun k hk => by have := GE1.out k hk; simp only [New]; omega) (fun k hk => by have := GE2.out k hk; simp only [New]; omega) (fun k hk => by have := GE3.out k hk; simp only [New]; omega) (fun k hk => by have := GE4.out k hk; simp only [New]; omega) (fun k hk hk' => by have h1 := LT1.out k hk; have h2 := GP2.out k hk'; omega) (fun k hk hk' => by have h1 := LT1.out k hk; have h2 := GP3.out k hk'; have := hm_Loop; omega) (fun k hk hk' => by have h1 := LT1.out k hk; have h2 := GP4.out k hk'; have := hm_Loop; have := hm_Links; omega) (fun k hk hk' => by have h1 := LT2.out k hk; have h2 := GP3.out k hk'; omega) (fun k hk hk' => by have h1 := LT2.out k hk; have h2 := GP4.out k hk'; have := hm_Links; omega) (fun k hk hk' => by have h1 := LT3.out k hk; have h2 := GP4.out k hk'; omega)
set_option maxHeartbeats 1000000 in
set_option maxRecDepth 100000 in
theorem sz_Vat (x : GVat) (cs : List Value) (n : Int) (w : World) (h : kl_Vat.K w x cs) (hb : Bd_Vat x) (h0 : 0 ≤ n) (h1 : n ≤ 1048576) : Calls Try.prog 15 #[.agg cs.toArray, .int .i64 n] w (RetSz (szn_Vat x) n w) := by
  obtain ⟨A1, c1, A2, c2, A3, c3, A4, c4, rfl, hl1, hC1, hl2, hC2, hl3, hC3, hl4, hC4⟩ := kl_Vat_K h
  have HC1 := Sd.mk hC1
  have HC2 := Sd.mk hC2
  have HC3 := Sd.mk hC3
  have HC4 := Sd.mk hC4
  clear hC1 hC2 hC3 hC4
  obtain ⟨b_Entities, b_Loop, b_Out⟩ := hb
  have B_Entities := Sd.mk b_Entities
  clear b_Entities
  have B_Loop := Sd.mk b_Loop
  clear b_Loop
  have B_Out := Sd.mk b_Out
  clear b_Out
  go_enter Try.func15, Try.ntmps15
  go_wp2_with fail
  with_reducible refine (szS_Entity x.Entities _ _ _ _ ?hc_Entities B_Entities.out (by omega) (by omega)).mono ?_
  case hc_Entities => exact C_upd (by repeat (with_reducible first | exact Upd.refl _ _ | apply Upd.put2 | apply Upd.put1 | apply Upd.put0 | apply Upd.alloc | apply Upd.drewN | apply Upd.drew)) HC1.out
  rintro e w_Entities ⟨r_Entities, rfl, hr_Entities, hu⟩
  have HB_Entities : Sd (Upd No w w_Entities) := Sd.mk (Upd.then (by repeat (with_reducible first | exact Upd.refl _ _ | apply Upd.put2 | apply Upd.put1 | apply Upd.put0 | apply Upd.alloc | apply Upd.drewN | apply Upd.drew)) hu)
  have cc0_Entities := fun o => hu.cellsF (b := w.heap.size) (by first | omega | (simp; done) | (simp; omega)) (fun q => q) o
  have hz_Entities : w.heap.size + 1 ≤ w_Entities.heap.size := by have := hu.size; (try simp at this); omega
  clear hu
  rcases hr_Entities with ⟨q_Entities, rfl⟩ | ⟨q_Entities, rfl⟩
  case inr =>
    go_wp2
    go_ret
    exact ⟨_, rfl, .inr ⟨by unfold szn_Vat; omega, rfl⟩, (by repeat (with_reducible first | exact HB_Entities.out | apply Upd.put2 | apply Upd.put1 | apply Upd.put0 | apply Upd.alloc | apply Upd.drewN | apply Upd.drew))⟩
  go_wp2_with fail
  with_reducible refine (szS_Sent x.Loop _ _ _ _ ?hc_Loop B_Loop.out (by omega) (by omega)).mono ?_
  case hc_Loop => exact C_upd (by repeat (with_reducible first | exact HB_Entities.out | apply Upd.put2 | apply Upd.put1 | apply Upd.put0 | apply Upd.alloc | apply Upd.drewN | apply Upd.drew)) HC2.out
  rintro e w_Loop ⟨r_Loop, rfl, hr_Loop, hu⟩
  have HB_Loop : Sd (Upd No w w_Loop) := Sd.mk (Upd.then (by repeat (with_reducible first | exact HB_Entities.out | apply Upd.put2 | apply Upd.put1 | apply Upd.put0 | apply Upd.alloc | apply Upd.drewN | apply Upd.drew)) hu)
  have cc0_Loop := fun o => hu.cellsF (b := w.heap.size) (by first | omega | (simp; done) | (simp; omega)) (fun q => q) o
  have hz_Loop : w.heap.size + 1 ≤ w_Loop.heap.size := by have := hu.size; (try simp at this); omega
  clear hu
  rcases hr_Loop with ⟨q_Loop, rfl⟩ | ⟨q_Loop, rfl⟩
  case inr =>
    go_wp2
    go_ret
    exact ⟨_, rfl, .inr ⟨by unfold szn_Vat; omega, rfl⟩, (by repeat (with_reducible first | exact HB_Loop.out | apply Upd.put2 | apply Upd.put1 | apply Upd.put0 | apply Upd.alloc | apply Upd.drewN | apply Upd.drew))⟩
  go_wp2_with fail
  with_reducible refine (szS_Link x.Links _ _ _ _ ?hc_Links (by omega) (by omega)).mono ?_
  case hc_Links => exact C_upd (by repeat (with_reducible first | exact HB_Loop.out | apply Upd.put2 | apply Upd.put1 | apply Upd.put0 | apply Upd.alloc | apply Upd.drewN | apply Upd.drew)) HC3.out
  rintro e w_Links ⟨r_Links, rfl, hr_Links, hu⟩
  have HB_Links : Sd (Upd No w w_Links) := Sd.mk (Upd.then (by repeat (with_reducible first | exact HB_Loop.out | apply Upd.put2 | apply Upd.put1 | apply Upd.put0 | apply Upd.alloc | apply Upd.drewN | apply Upd.drew)) hu)
  have cc0_Links := fun o => hu.cellsF (b := w.heap.size) (by first | omega | (simp; done) | (simp; omega)) (fun q => q) o
  have hz_Links : w.heap.size + 1 ≤ w_Links.heap.size := by have := hu.size; (try simp at this); omega
  clear hu
  rcases hr_Links with ⟨q_Links, rfl⟩ | ⟨q_Links, rfl⟩
  case inr =>
    go_wp2
    go_ret
    exact ⟨_, rfl, .inr ⟨by unfold szn_Vat; omega, rfl⟩, (by repeat (with_reducible first | exact HB_Links.out | apply Upd.put2 | apply Upd.put1 | apply Upd.put0 | apply Upd.alloc | apply Upd.drewN | apply Upd.drew))⟩
  go_wp2_with fail
  with_reducible refine (szS_Outgoing x.Out _ _ _ _ ?hc_Out B_Out.out (by omega) (by omega)).mono ?_
  case hc_Out => exact C_upd (by repeat (with_reducible first | exact HB_Links.out | apply Upd.put2 | apply Upd.put1 | apply Upd.put0 | apply Upd.alloc | apply Upd.drewN | apply Upd.drew)) HC4.out
  rintro e w_Out ⟨r_Out, rfl, hr_Out, hu⟩
  have HB_Out : Sd (Upd No w w_Out) := Sd.mk (Upd.then (by repeat (with_reducible first | exact HB_Links.out | apply Upd.put2 | apply Upd.put1 | apply Upd.put0 | apply Upd.alloc | apply Upd.drewN | apply Upd.drew)) hu)
  have cc0_Out := fun o => hu.cellsF (b := w.heap.size) (by first | omega | (simp; done) | (simp; omega)) (fun q => q) o
  have hz_Out : w.heap.size + 1 ≤ w_Out.heap.size := by have := hu.size; (try simp at this); omega
  clear hu
  rcases hr_Out with ⟨q_Out, rfl⟩ | ⟨q_Out, rfl⟩
  case inr =>
    go_wp2
    go_ret
    exact ⟨_, rfl, .inr ⟨by unfold szn_Vat; omega, rfl⟩, (by repeat (with_reducible first | exact HB_Out.out | apply Upd.put2 | apply Upd.put1 | apply Upd.put0 | apply Upd.alloc | apply Upd.drewN | apply Upd.drew))⟩
  go_wp2
  go_ret
  exact ⟨_, rfl, .inl ⟨by unfold szn_Vat; omega, by unfold szn_Vat; omega⟩, (by repeat (with_reducible first | exact HB_Out.out | apply Upd.put2 | apply Upd.put1 | apply Upd.put0 | apply Upd.alloc | apply Upd.drewN | apply Upd.drew))⟩
set_option maxHeartbeats 1000000 in
set_option maxRecDepth 100000 in
theorem eq_Vat (x : GVat) (cs cs' : List Value) (w : World) (h : ki_Vat.K w x cs) (h' : ki_Vat.K w x cs') : Calls Try.prog 10 #[.agg cs.toArray, .agg cs'.toArray] w (RetBool true w) := by
  obtain ⟨A1, c1, A2, c2, A3, c3, A4, c4, rfl, hl1, hC1, hl2, hC2, hl3, hC3, hl4, hC4⟩ := ki_Vat_K h
  have HC1 := Sd.mk hC1
  have HC2 := Sd.mk hC2
  have HC3 := Sd.mk hC3
  have HC4 := Sd.mk hC4
  clear hC1 hC2 hC3 hC4
  obtain ⟨B1, b1, B2, b2, B3, b3, B4, b4, rfl, hm1, hD1, hm2, hD2, hm3, hD3, hm4, hD4⟩ := ki_Vat_K h'
  have HD1 := Sd.mk hD1
  have HD2 := Sd.mk hD2
  have HD3 := Sd.mk hD3
  have HD4 := Sd.mk hD4
  clear hD1 hD2 hD3 hD4
  go_enter Try.func10, Try.ntmps10
  go_wp2_with fail
  with_reducible refine (eqS_Entity x.Entities _ _ _ _ _ ?hc_Entities ?hd_Entities).mono ?_
  case hc_Entities => exact C_upd (by repeat (with_reducible first | exact Upd.refl _ _ | apply Upd.put2 | apply Upd.put1 | apply Upd.put0 | apply Upd.alloc | apply Upd.drewN | apply Upd.drew)) HC1.out
  case hd_Entities => exact C_upd (by repeat (with_reducible first | exact Upd.refl _ _ | apply Upd.put2 | apply Upd.put1 | apply Upd.put0 | apply Upd.alloc | apply Upd.drewN | apply Upd.drew)) HD1.out
  rintro e w_Entities ⟨rfl, hu⟩
  have HB_Entities : Sd (Upd No w w_Entities) := Sd.mk (Upd.then (by repeat (with_reducible first | exact Upd.refl _ _ | apply Upd.put2 | apply Upd.put1 | apply Upd.put0 | apply Upd.alloc | apply Upd.drewN | apply Upd.drew)) hu)
  have cc0_Entities := fun o => hu.cellsF (b := w.heap.size) (by first | omega | (simp; done) | (simp; omega)) (fun q => q) o
  have cc1_Entities := fun o => hu.cellsF (b := w.heap.size + 1) (by first | omega | (simp; done) | (simp; omega)) (fun q => q) o
  have hz_Entities : w.heap.size + 1 + 1 ≤ w_Entities.heap.size := by have := hu.size; (try simp at this); omega
  clear hu
  go_wp2_with fail
  with_reducible refine (eqS_Sent x.Loop _ _ _ _ _ ?hc_Loop ?hd_Loop).mono ?_
  case hc_Loop => exact C_upd (by repeat (with_reducible first | exact HB_Entities.out | apply Upd.put2 | apply Upd.put1 | apply Upd.put0 | apply Upd.alloc | apply Upd.drewN | apply Upd.drew)) HC2.out
  case hd_Loop => exact C_upd (by repeat (with_reducible first | exact HB_Entities.out | apply Upd.put2 | apply Upd.put1 | apply Upd.put0 | apply Upd.alloc | apply Upd.drewN | apply Upd.drew)) HD2.out
  rintro e w_Loop ⟨rfl, hu⟩
  have HB_Loop : Sd (Upd No w w_Loop) := Sd.mk (Upd.then (by repeat (with_reducible first | exact HB_Entities.out | apply Upd.put2 | apply Upd.put1 | apply Upd.put0 | apply Upd.alloc | apply Upd.drewN | apply Upd.drew)) hu)
  have cc0_Loop := fun o => hu.cellsF (b := w.heap.size) (by first | omega | (simp; done) | (simp; omega)) (fun q => q) o
  have cc1_Loop := fun o => hu.cellsF (b := w.heap.size + 1) (by first | omega | (simp; done) | (simp; omega)) (fun q => q) o
  have hz_Loop : w.heap.size + 1 + 1 ≤ w_Loop.heap.size := by have := hu.size; (try simp at this); omega
  clear hu
  go_wp2_with fail
  with_reducible refine (eqS_Link x.Links _ _ _ _ _ ?hc_Links ?hd_Links).mono ?_
  case hc_Links => exact C_upd (by repeat (with_reducible first | exact HB_Loop.out | apply Upd.put2 | apply Upd.put1 | apply Upd.put0 | apply Upd.alloc | apply Upd.drewN | apply Upd.drew)) HC3.out
  case hd_Links => exact C_upd (by repeat (with_reducible first | exact HB_Loop.out | apply Upd.put2 | apply Upd.put1 | apply Upd.put0 | apply Upd.alloc | apply Upd.drewN | apply Upd.drew)) HD3.out
  rintro e w_Links ⟨rfl, hu⟩
  have HB_Links : Sd (Upd No w w_Links) := Sd.mk (Upd.then (by repeat (with_reducible first | exact HB_Loop.out | apply Upd.put2 | apply Upd.put1 | apply Upd.put0 | apply Upd.alloc | apply Upd.drewN | apply Upd.drew)) hu)
  have cc0_Links := fun o => hu.cellsF (b := w.heap.size) (by first | omega | (simp; done) | (simp; omega)) (fun q => q) o
  have cc1_Links := fun o => hu.cellsF (b := w.heap.size + 1) (by first | omega | (simp; done) | (simp; omega)) (fun q => q) o
  have hz_Links : w.heap.size + 1 + 1 ≤ w_Links.heap.size := by have := hu.size; (try simp at this); omega
  clear hu
  go_wp2_with fail
  with_reducible refine (eqS_Outgoing x.Out _ _ _ _ _ ?hc_Out ?hd_Out).mono ?_
  case hc_Out => exact C_upd (by repeat (with_reducible first | exact HB_Links.out | apply Upd.put2 | apply Upd.put1 | apply Upd.put0 | apply Upd.alloc | apply Upd.drewN | apply Upd.drew)) HC4.out
  case hd_Out => exact C_upd (by repeat (with_reducible first | exact HB_Links.out | apply Upd.put2 | apply Upd.put1 | apply Upd.put0 | apply Upd.alloc | apply Upd.drewN | apply Upd.drew)) HD4.out
  rintro e w_Out ⟨rfl, hu⟩
  have HB_Out : Sd (Upd No w w_Out) := Sd.mk (Upd.then (by repeat (with_reducible first | exact HB_Links.out | apply Upd.put2 | apply Upd.put1 | apply Upd.put0 | apply Upd.alloc | apply Upd.drewN | apply Upd.drew)) hu)
  have cc0_Out := fun o => hu.cellsF (b := w.heap.size) (by first | omega | (simp; done) | (simp; omega)) (fun q => q) o
  have cc1_Out := fun o => hu.cellsF (b := w.heap.size + 1) (by first | omega | (simp; done) | (simp; omega)) (fun q => q) o
  have hz_Out : w.heap.size + 1 + 1 ≤ w_Out.heap.size := by have := hu.size; (try simp at this); omega
  clear hu
  go_wp2
  go_ret
  exact ⟨rfl, (by repeat (with_reducible first | exact HB_Out.out | apply Upd.put2 | apply Upd.put1 | apply Upd.put0 | apply Upd.alloc | apply Upd.drewN | apply Upd.drew))⟩
set_option maxHeartbeats 1000000 in
set_option maxRecDepth 100000 in
theorem markv_Vat_c (x : GVat) (k : Int) (F : Nat → Prop) (cs : List Value) (w : World) (h : ki_Vat.M w F x cs) (hk : 0 ≤ k) (hb : k + cntv_Vat x ≤ 4611686018427387904) : Calls Try.prog 13 #[.agg cs.toArray, .int .i64 k] w (MarksV ki_Vat F cs (k + cntv_Vat x) (mkv_Vat k x) w) := by
  obtain ⟨v1, P1, v2, P2, v3, P3, v4, P4, rfl, hR1, hR2, hR3, hR4, i1, i2, i3, i4, d1_2, d1_3, d1_4, d2_3, d2_4, d3_4⟩ := ki_Vat_M (ki_Vat.M_lt h)
  obtain ⟨B1, b1, rfl⟩ := R_slice hR1
  have HR1 := Sd.mk hR1
  have I1 := Sd.mk (fun b q => (i1 b q).1)
  have L1 := Sd.mk (fun b q => (i1 b q).2)
  clear hR1 i1
  have nn1 := cntS_nn cnt_Entity cnt_Entity_nn x.Entities
  obtain ⟨B2, b2, rfl⟩ := R_slice hR2
  have HR2 := Sd.mk hR2
  have I2 := Sd.mk (fun b q => (i2 b q).1)
  have L2 := Sd.mk (fun b q => (i2 b q).2)
  clear hR2 i2
  have nn2 := cntS_nn cnt_Sent cnt_Sent_nn x.Loop
  obtain ⟨B3, b3, rfl⟩ := R_slice hR3
  have HR3 := Sd.mk hR3
  have I3 := Sd.mk (fun b q => (i3 b q).1)
  have L3 := Sd.mk (fun b q => (i3 b q).2)
  clear hR3 i3
  have nn3 := cntS_nn cnt_Link cnt_Link_nn x.Links
  obtain ⟨B4, b4, rfl⟩ := R_slice hR4
  have HR4 := Sd.mk hR4
  have I4 := Sd.mk (fun b q => (i4 b q).1)
  have L4 := Sd.mk (fun b q => (i4 b q).2)
  clear hR4 i4
  have nn4 := cntS_nn cnt_Outgoing cnt_Outgoing_nn x.Out
  have D1_2 := Sd.mk d1_2
  clear d1_2
  have D1_3 := Sd.mk d1_3
  clear d1_3
  have D1_4 := Sd.mk d1_4
  clear d1_4
  have D2_3 := Sd.mk d2_3
  clear d2_3
  have D2_4 := Sd.mk d2_4
  clear d2_4
  have D3_4 := Sd.mk d3_4
  clear d3_4
  clear h
  unfold cntv_Vat at hb
  generalize hcn1 : cntS cnt_Entity x.Entities = cn1 at *
  have HC1 := Sd.mk hcn1
  clear hcn1
  generalize hcn2 : cntS cnt_Sent x.Loop = cn2 at *
  have HC2 := Sd.mk hcn2
  clear hcn2
  generalize hcn3 : cntS cnt_Link x.Links = cn3 at *
  have HC3 := Sd.mk hcn3
  clear hcn3
  generalize hcn4 : cntS cnt_Outgoing x.Out = cn4 at *
  have HC4 := Sd.mk hcn4
  clear hcn4
  go_enter Try.func13, Try.ntmps13
  go_wp2_with fail
  with_reducible refine (markS_Entity x.Entities _ P1 _ _ ?hr1 (by omega) (by rw [HC1.out]; omega)).mono ?_
  case hr1 => exact R_upd ((Upd.refl No w).alloc _) (fun _ _ q => q) HR1.out
  rintro e w_1 ⟨rfl, hR1, hu⟩
  rw [HC1.out]
  replace HR2 := Sd.mk (R_upd hu (fun b hb hg' => D1_2.out b hg' hb) (R_upd ((Upd.refl No w).alloc _) (fun _ _ q => q) HR2.out))
  replace HR3 := Sd.mk (R_upd hu (fun b hb hg' => D1_3.out b hg' hb) (R_upd ((Upd.refl No w).alloc _) (fun _ _ q => q) HR3.out))
  replace HR4 := Sd.mk (R_upd hu (fun b hb hg' => D1_4.out b hg' hb) (R_upd ((Upd.refl No w).alloc _) (fun _ _ q => q) HR4.out))
  replace HR1 := Sd.mk hR1
  have cc_1 := fun o => hu.cellsF (b := w.heap.size) (by first | omega | (simp; done) | (simp; omega)) (fun q => absurd (L1.out _ q) (Nat.lt_irrefl _)) o
  have hz_1 : w.heap.size + 1 ≤ w_1.heap.size := by have := hu.size; (try simp at this); omega
  have HU_1 : Sd (Upd F w w_1) := Sd.mk (Upd.trans ((Upd.refl No w).alloc _) hu (fun _ _ q => q.elim) (fun b _ q => I1.out b q))
  clear hu hR1
  go_wp2_with fail
  with_reducible refine (markS_Sent x.Loop _ P2 _ _ ?hr2 (by omega) (by rw [HC2.out]; omega)).mono ?_
  case hr2 => exact HR2.out
  rintro e w_2 ⟨rfl, hR2, hu⟩
  rw [HC2.out]
  replace HR1 := Sd.mk (R_upd hu (fun b hb hg' => D1_2.out b hb hg') (HR1.out))
  replace HR3 := Sd.mk (R_upd hu (fun b hb hg' => D2_3.out b hg' hb) (HR3.out))
  replace HR4 := Sd.mk (R_upd hu (fun b hb hg' => D2_4.out b hg' hb) (HR4.out))
  replace HR2 := Sd.mk hR2
  have cc_2 := fun o => hu.cellsF (b := w.heap.size) (by first | omega | (simp; done) | (simp; omega)) (fun q => absurd (L2.out _ q) (Nat.lt_irrefl _)) o
  have hz_2 : w.heap.size + 1 ≤ w_2.heap.size := by have := hu.size; (try simp at this); omega
  have HU_2 : Sd (Upd F w w_2) := Sd.mk (HU_1.out.trans hu (fun _ _ q => q) (fun b _ q => I2.out b q))
  clear hu hR2
  go_wp2_with fail
  with_reducible refine (markS_Link x.Links _ P3 _ _ ?hr3 (by omega) (by rw [HC3.out]; omega)).mono ?_
  case hr3 => exact HR3.out
  rintro e w_3 ⟨rfl, hR3, hu⟩
  rw [HC3.out]
  replace HR1 := Sd.mk (R_upd hu (fun b hb hg' => D1_3.out b hb hg') (HR1.out))
  replace HR2 := Sd.mk (R_upd hu (fun b hb hg' => D2_3.out b hb hg') (HR2.out))
  replace HR4 := Sd.mk (R_upd hu (fun b hb hg' => D3_4.out b hg' hb) (HR4.out))
  replace HR3 := Sd.mk hR3
  have cc_3 := fun o => hu.cellsF (b := w.heap.size) (by first | omega | (simp; done) | (simp; omega)) (fun q => absurd (L3.out _ q) (Nat.lt_irrefl _)) o
  have hz_3 : w.heap.size + 1 ≤ w_3.heap.size := by have := hu.size; (try simp at this); omega
  have HU_3 : Sd (Upd F w w_3) := Sd.mk (HU_2.out.trans hu (fun _ _ q => q) (fun b _ q => I3.out b q))
  clear hu hR3
  go_wp2_with fail
  with_reducible refine (markS_Outgoing x.Out _ P4 _ _ ?hr4 (by omega) (by rw [HC4.out]; omega)).mono ?_
  case hr4 => exact HR4.out
  rintro e w_4 ⟨rfl, hR4, hu⟩
  rw [HC4.out]
  replace HR1 := Sd.mk (R_upd hu (fun b hb hg' => D1_4.out b hb hg') (HR1.out))
  replace HR2 := Sd.mk (R_upd hu (fun b hb hg' => D2_4.out b hb hg') (HR2.out))
  replace HR3 := Sd.mk (R_upd hu (fun b hb hg' => D3_4.out b hb hg') (HR3.out))
  replace HR4 := Sd.mk hR4
  have cc_4 := fun o => hu.cellsF (b := w.heap.size) (by first | omega | (simp; done) | (simp; omega)) (fun q => absurd (L4.out _ q) (Nat.lt_irrefl _)) o
  have hz_4 : w.heap.size + 1 ≤ w_4.heap.size := by have := hu.size; (try simp at this); omega
  have HU_4 : Sd (Upd F w w_4) := Sd.mk (HU_3.out.trans hu (fun _ _ q => q) (fun b _ q => I4.out b q))
  clear hu hR4
  have hy : (⟨x.Id, mkS mk_Entity cnt_Entity k x.Entities, mkS mk_Sent cnt_Sent (k + cn1) x.Loop, mkS mk_Link cnt_Link ((k + cn1) + cn2) x.Links, mkS mk_Outgoing cnt_Outgoing (((k + cn1) + cn2) + cn3) x.Out⟩ : GVat) = mkv_Vat k x := by simp only [mkv_Vat, HC1.out, HC2.out, HC3.out, HC4.out]
  have hc : cntv_Vat x = ((((0 + cn1) + cn2) + cn3) + cn4) := by simp only [cntv_Vat, HC1.out, HC2.out, HC3.out, HC4.out]
  have HMM := ki_Vat_mk w_4 F (⟨x.Id, mkS mk_Entity cnt_Entity k x.Entities, mkS mk_Sent cnt_Sent (k + cn1) x.Loop, mkS mk_Link cnt_Link ((k + cn1) + cn2) x.Links, mkS mk_Outgoing cnt_Outgoing (((k + cn1) + cn2) + cn3) x.Out⟩ : GVat) HR1.out HR2.out HR3.out HR4.out I1.out I2.out I3.out I4.out D1_2.out D1_3.out D1_4.out D2_3.out D2_4.out D3_4.out
  rw [hy] at HMM
  have HMM' := Sd.mk HMM
  have Hc := Sd.mk hc
  clear HMM hy hc
  go_wp2
  go_ret
  exact ⟨ret_int (by rw [Hc.out]; omega), HMM'.out, HU_4.out⟩
set_option maxHeartbeats 1000000 in
set_option maxRecDepth 100000 in
theorem heldv_Vat_c (x : GVat) (k : Int) (cs : List Value) (w : World) (h : ki_Vat.K w (mkv_Vat k x) cs) (hk : 0 ≤ k) (hb : k + cntv_Vat x ≤ 4611686018427387904) : Calls Try.prog 14 #[.agg cs.toArray, .int .i64 k] w (RetInt (k + cntv_Vat x) w) := by
  obtain ⟨A1, c1, A2, c2, A3, c3, A4, c4, rfl, hl1, hC1, hl2, hC2, hl3, hC3, hl4, hC4⟩ := ki_Vat_K h
  clear h
  simp only [mkv_Vat, mkS_len] at hl1 hC1 hl2 hC2 hl3 hC3 hl4 hC4
  simp only [mkv_Vat, mkS_len]
  have nn1 := cntS_nn cnt_Entity cnt_Entity_nn x.Entities
  have nn2 := cntS_nn cnt_Sent cnt_Sent_nn x.Loop
  have nn3 := cntS_nn cnt_Link cnt_Link_nn x.Links
  have nn4 := cntS_nn cnt_Outgoing cnt_Outgoing_nn x.Out
  unfold cntv_Vat at hb
  generalize hcn1 : cntS cnt_Entity x.Entities = cn1 at *
  have HN1 := Sd.mk hcn1
  clear hcn1
  have HC1 := Sd.mk hC1
  clear hC1
  generalize hcn2 : cntS cnt_Sent x.Loop = cn2 at *
  have HN2 := Sd.mk hcn2
  clear hcn2
  have HC2 := Sd.mk hC2
  clear hC2
  generalize hcn3 : cntS cnt_Link x.Links = cn3 at *
  have HN3 := Sd.mk hcn3
  clear hcn3
  have HC3 := Sd.mk hC3
  clear hC3
  generalize hcn4 : cntS cnt_Outgoing x.Out = cn4 at *
  have HN4 := Sd.mk hcn4
  clear hcn4
  have HC4 := Sd.mk hC4
  clear hC4
  go_enter Try.func14, Try.ntmps14
  go_wp2_with fail
  with_reducible refine (heldS_Entity x.Entities _ _ _ _ ?hc1 (by omega) (by rw [HN1.out]; omega)).mono ?_
  case hc1 => exact C_upd (by repeat (with_reducible first | exact Upd.refl _ _ | apply Upd.put2 | apply Upd.put1 | apply Upd.put0 | apply Upd.alloc | apply Upd.drewN | apply Upd.drew)) HC1.out
  rintro e w_1 ⟨rfl, hu⟩
  rw [HN1.out]
  have HB_1 : Sd (Upd No w w_1) := Sd.mk (Upd.then (by repeat (with_reducible first | exact Upd.refl _ _ | apply Upd.put2 | apply Upd.put1 | apply Upd.put0 | apply Upd.alloc | apply Upd.drewN | apply Upd.drew)) hu)
  have cc_1 := fun o => hu.cellsF (b := w.heap.size) (by first | omega | (simp; done) | (simp; omega)) (fun q => q) o
  have hz_1 : w.heap.size + 1 ≤ w_1.heap.size := by have := hu.size; (try simp at this); omega
  clear hu
  go_wp2_with fail
  with_reducible refine (heldS_Sent x.Loop _ _ _ _ ?hc2 (by omega) (by rw [HN2.out]; omega)).mono ?_
  case hc2 => exact C_upd (by repeat (with_reducible first | exact HB_1.out | apply Upd.put2 | apply Upd.put1 | apply Upd.put0 | apply Upd.alloc | apply Upd.drewN | apply Upd.drew)) HC2.out
  rintro e w_2 ⟨rfl, hu⟩
  rw [HN2.out]
  have HB_2 : Sd (Upd No w w_2) := Sd.mk (Upd.then (by repeat (with_reducible first | exact HB_1.out | apply Upd.put2 | apply Upd.put1 | apply Upd.put0 | apply Upd.alloc | apply Upd.drewN | apply Upd.drew)) hu)
  have cc_2 := fun o => hu.cellsF (b := w.heap.size) (by first | omega | (simp; done) | (simp; omega)) (fun q => q) o
  have hz_2 : w.heap.size + 1 ≤ w_2.heap.size := by have := hu.size; (try simp at this); omega
  clear hu
  go_wp2_with fail
  with_reducible refine (heldS_Link x.Links _ _ _ _ ?hc3 (by omega) (by rw [HN3.out]; omega)).mono ?_
  case hc3 => exact C_upd (by repeat (with_reducible first | exact HB_2.out | apply Upd.put2 | apply Upd.put1 | apply Upd.put0 | apply Upd.alloc | apply Upd.drewN | apply Upd.drew)) HC3.out
  rintro e w_3 ⟨rfl, hu⟩
  rw [HN3.out]
  have HB_3 : Sd (Upd No w w_3) := Sd.mk (Upd.then (by repeat (with_reducible first | exact HB_2.out | apply Upd.put2 | apply Upd.put1 | apply Upd.put0 | apply Upd.alloc | apply Upd.drewN | apply Upd.drew)) hu)
  have cc_3 := fun o => hu.cellsF (b := w.heap.size) (by first | omega | (simp; done) | (simp; omega)) (fun q => q) o
  have hz_3 : w.heap.size + 1 ≤ w_3.heap.size := by have := hu.size; (try simp at this); omega
  clear hu
  go_wp2_with fail
  with_reducible refine (heldS_Outgoing x.Out _ _ _ _ ?hc4 (by omega) (by rw [HN4.out]; omega)).mono ?_
  case hc4 => exact C_upd (by repeat (with_reducible first | exact HB_3.out | apply Upd.put2 | apply Upd.put1 | apply Upd.put0 | apply Upd.alloc | apply Upd.drewN | apply Upd.drew)) HC4.out
  rintro e w_4 ⟨rfl, hu⟩
  rw [HN4.out]
  have HB_4 : Sd (Upd No w w_4) := Sd.mk (Upd.then (by repeat (with_reducible first | exact HB_3.out | apply Upd.put2 | apply Upd.put1 | apply Upd.put0 | apply Upd.alloc | apply Upd.drewN | apply Upd.drew)) hu)
  have cc_4 := fun o => hu.cellsF (b := w.heap.size) (by first | omega | (simp; done) | (simp; omega)) (fun q => q) o
  have hz_4 : w.heap.size + 1 ≤ w_4.heap.size := by have := hu.size; (try simp at this); omega
  clear hu
  have Hc : Sd (cntv_Vat x = ((((0 + cn1) + cn2) + cn3) + cn4)) := ⟨by simp only [cntv_Vat, HN1.out, HN2.out, HN3.out, HN4.out]⟩
  go_wp2
  go_ret
  exact ⟨ret_int (by rw [Hc.out]; omega), HB_4.out⟩
end Go.Proofs.YtfnedoiplblldaaFam
