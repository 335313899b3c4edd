/- The contracts of the laws' own functions over World: to, sz, eq, mark, held. No conditions beyond the sizes that the contracts name. -/
import Derived.Test.YtfnedoiplblldaaGreatProg
import Derived.Test.YtfnedoiplblldaaGreatSep2
import Derived.Test.YtfnedoiplblldaaGreatLst
import Derived.WalkKit
import Derived.KernelRfl
import Derived.RowKit3
import Derived.Deep.LoopGhost
import Derived.Deep.QuietTactic
import Derived.BigQuiet
import Derived.StillTailTactics
import Derived.Test.YtfnedoiplblldaaGreatK
import Derived.Deep.RegionHeld3
import Derived.Test.YtfnedoiplblldaaGreatFamInstr
import Derived.Test.YtfnedoiplblldaaGreatFamMethod
import Derived.Test.YtfnedoiplblldaaGreatFamScript
import Derived.Test.YtfnedoiplblldaaGreatFamValue
import Derived.Test.YtfnedoiplblldaaGreatFamTag
import Derived.Test.YtfnedoiplblldaaGreatFamSent
import Derived.Test.YtfnedoiplblldaaGreatFamAsker
import Derived.Test.YtfnedoiplblldaaGreatFamEntity
import Derived.Test.YtfnedoiplblldaaGreatFamExport
import Derived.Test.YtfnedoiplblldaaGreatFamQuestion
import Derived.Test.YtfnedoiplblldaaGreatFamLink
import Derived.Test.YtfnedoiplblldaaGreatFamWire
import Derived.Test.YtfnedoiplblldaaGreatFamMessage
import Derived.Test.YtfnedoiplblldaaGreatFamOutgoing
import Derived.Test.YtfnedoiplblldaaGreatFamVat
import Derived.Test.YtfnedoiplblldaaGreatFamChannel
import Derived.Test.YtfnedoiplblldaaGreatFamNote
import Derived.Test.YtfnedoiplblldaaGreatFamText
namespace Go.Proofs.YtfnedoiplblldaaGreatFam
open Go.RowKit Go.Proofs.YtfnedoiplblldaaGreatSep Go.Proofs.YtfnedoiplblldaaGreatT Go.Proofs.YtfnedoiplblldaaGreatK
set_option linter.unusedVariables false
set_option linter.unusedSimpArgs false
theorem kl_World_Kmk (w : World) (x : GWorld) {A0 : Option Addr} {c0 : Nat} (hl0 : x.Library.length ≤ c0) (hC0 : C kl_Script w A0 x.Library) {A1 : Option Addr} {c1 : Nat} (hl1 : x.Vats.length ≤ c1) (hC1 : C kl_Vat w A1 x.Vats) {A2 : Option Addr} {c2 : Nat} (hl2 : x.Channels.length ≤ c2) (hC2 : C kl_Channel w A2 x.Channels) {A3 : Option Addr} {c3 : Nat} (hl3 : x.Notes.length ≤ c3) (hC3 : C kl_Note w A3 x.Notes) : kl_World.K w x [.slice A0 x.Library.length c0, .slice A1 x.Vats.length c1, .slice A2 x.Channels.length c2, .slice A3 x.Notes.length c3, .int .i64 x.Strays] := ⟨[_], [_, _, _, _], rfl, ⟨A0, c0, rfl, hl0, hC0⟩, ⟨[_], [_, _, _], rfl, ⟨A1, c1, rfl, hl1, hC1⟩, ⟨[_], [_, _], rfl, ⟨A2, c2, rfl, hl2, hC2⟩, ⟨[_], [_], rfl, ⟨A3, c3, rfl, hl3, hC3⟩, rfl⟩⟩⟩⟩
theorem ki_World_Kmk (w : World) (x : GWorld) {A0 : Option Addr} {c0 : Nat} (hl0 : x.Library.length ≤ c0) (hC0 : C ki_Script w A0 x.Library) {A1 : Option Addr} {c1 : Nat} (hl1 : x.Vats.length ≤ c1) (hC1 : C ki_Vat w A1 x.Vats) {A2 : Option Addr} {c2 : Nat} (hl2 : x.Channels.length ≤ c2) (hC2 : C ki_Channel w A2 x.Channels) {A3 : Option Addr} {c3 : Nat} (hl3 : x.Notes.length ≤ c3) (hC3 : C ki_Note w A3 x.Notes) : ki_World.K w x [.slice A0 x.Library.length c0, .slice A1 x.Vats.length c1, .slice A2 x.Channels.length c2, .slice A3 x.Notes.length c3, .int .i64 x.Strays] := ⟨[_], [_, _, _, _], rfl, ⟨A0, c0, rfl, hl0, hC0⟩, ⟨[_], [_, _, _], rfl, ⟨A1, c1, rfl, hl1, hC1⟩, ⟨[_], [_, _], rfl, ⟨A2, c2, rfl, hl2, hC2⟩, ⟨[_], [_], rfl, ⟨A3, c3, rfl, hl3, hC3⟩, rfl⟩⟩⟩⟩
set_option maxHeartbeats 1000000 in
set_option maxRecDepth 100000 in
theorem to_World (x : GWorld) (cs : List Value) (w : World) (h : kl_World.K w x cs) (hs : szn_World x ≤ 1048576) : Calls Tryz.prog 12 #[.agg cs.toArray] w (RetAgg ki_World x w) := by
  obtain ⟨A0, c0, A1, c1, A2, c2, A3, c3, rfl, hl0, hC0, hl1, hC1, hl2, hC2, hl3, hC3⟩ := kl_World_K h
  have HC0 := Sd.mk hC0
  have HC1 := Sd.mk hC1
  have HC2 := Sd.mk hC2
  have HC3 := Sd.mk hC3
  clear hC0 hC1 hC2 hC3
  have s_Library : sznS szn_Script x.Library ≤ 1048576 := by unfold szn_World at hs; omega
  have s_Vats : sznS szn_Vat x.Vats ≤ 1048576 := by unfold szn_World at hs; omega
  have s_Channels : sznS szn_Channel x.Channels ≤ 1048576 := by unfold szn_World at hs; omega
  have s_Notes : sznS szn_Note x.Notes ≤ 1048576 := by unfold szn_World at hs; omega
  clear hs
  go_enter Tryz.func12, Tryz.ntmps12
  go_wp2_with fail
  with_reducible refine (toS_Script x.Library _ _ _ ?hc_Library s_Library).mono ?_
  case hc_Library => exact C_upd (by repeat (with_reducible first | exact Upd.refl _ _ | apply Upd.put2 | apply Upd.put1 | apply Upd.put0 | apply Upd.alloc | apply Upd.drewN | apply Upd.drew)) HC0.out
  rintro e w_Library ⟨v0, rfl, hR0, hu⟩
  obtain ⟨B0, b0, rfl⟩ := R_slice hR0
  obtain ⟨P0, hR0', g0, l0⟩ := fresh_row hR0 (w.heap.size + 1 + 1 + 1) (by first | omega | (simp; done) | (simp; omega))
  have ge0 : ∀ b, P0 b → w.heap.size + 1 + 1 < b := fun b hb => by have := g0 b hb; omega
  have n1_0 : ¬ P0 (w.heap.size + 1) := fun q => by have := ge0 _ q; omega
  have n2_0 : ¬ P0 (w.heap.size + 1 + 1) := fun q => by have := ge0 _ q; omega
  have HR0 := Sd.mk hR0'
  have GE0 := Sd.mk ge0
  have LT0 := Sd.mk l0
  have GP0 := Sd.mk g0
  clear hR0 hR0' ge0 l0 g0
  have HB_Library : Sd (Upd No w w_Library) := Sd.mk (Upd.then (by repeat (with_reducible first | exact Upd.refl _ _ | apply Upd.put2 | apply Upd.put1 | apply Upd.put0 | apply Upd.alloc | apply Upd.drewN | apply Upd.drew)) hu)
  have cc0_Library := fun o => hu.cellsF (b := w.heap.size) (by first | omega | (simp; done) | (simp; omega)) (fun q => q) o
  have cc1_Library := fun o => hu.cellsF (b := w.heap.size + 1) (by first | omega | (simp; done) | (simp; omega)) (fun q => q) o
  have cf1_Library := fun o => hu.frozenF (b := w.heap.size + 1) (by first | omega | (simp; done) | (simp; omega)) (fun q => q) o
  have cc2_Library := fun o => hu.cellsF (b := w.heap.size + 1 + 1) (by first | omega | (simp; done) | (simp; omega)) (fun q => q) o
  have cf2_Library := fun o => hu.frozenF (b := w.heap.size + 1 + 1) (by first | omega | (simp; done) | (simp; omega)) (fun q => q) o
  have hz_Library : w.heap.size + 1 + 1 + 1 ≤ w_Library.heap.size := by have := hu.size; (try simp at this); omega
  clear hu
  go_wp2_with fail
  with_reducible refine (toS_Vat x.Vats _ _ _ ?hc_Vats s_Vats).mono ?_
  case hc_Vats => exact C_upd (by repeat (with_reducible first | exact HB_Library.out | apply Upd.put2 | apply Upd.put1 | apply Upd.put0 | apply Upd.alloc | apply Upd.drewN | apply Upd.drew)) HC1.out
  rintro e w_Vats ⟨v1, rfl, hR1, hu⟩
  obtain ⟨B1, b1, rfl⟩ := R_slice hR1
  obtain ⟨P1, hR1', g1, l1⟩ := fresh_row hR1 (w_Library.heap.size) (by first | omega | (simp; done) | (simp; omega))
  have ge1 : ∀ b, P1 b → w.heap.size + 1 + 1 < b := fun b hb => by have := g1 b hb; have := hz_Library; omega
  have n1_1 : ¬ P1 (w.heap.size + 1) := fun q => by have := ge1 _ q; omega
  have n2_1 : ¬ P1 (w.heap.size + 1 + 1) := fun q => by have := ge1 _ q; omega
  have HR1 := Sd.mk hR1'
  have GE1 := Sd.mk ge1
  have LT1 := Sd.mk l1
  have GP1 := Sd.mk g1
  clear hR1 hR1' ge1 l1 g1
  have HR0 := Sd.mk (R_upd hu (fun _ _ q => q) (R_keep HR0.out (by repeat (with_reducible first | exact Upd.refl _ _ | apply Upd.putP n1_0 | apply Upd.putP n2_0 | apply Upd.alloc))))
  have HB_Vats : Sd (Upd No w w_Vats) := Sd.mk (Upd.then (by repeat (with_reducible first | exact HB_Library.out | apply Upd.put2 | apply Upd.put1 | apply Upd.put0 | apply Upd.alloc | apply Upd.drewN | apply Upd.drew)) hu)
  have cc0_Vats := fun o => hu.cellsF (b := w.heap.size) (by first | omega | (simp; done) | (simp; omega)) (fun q => q) o
  have cc1_Vats := fun o => hu.cellsF (b := w.heap.size + 1) (by first | omega | (simp; done) | (simp; omega)) (fun q => q) o
  have cf1_Vats := fun o => hu.frozenF (b := w.heap.size + 1) (by first | omega | (simp; done) | (simp; omega)) (fun q => q) o
  have cc2_Vats := fun o => hu.cellsF (b := w.heap.size + 1 + 1) (by first | omega | (simp; done) | (simp; omega)) (fun q => q) o
  have cf2_Vats := fun o => hu.frozenF (b := w.heap.size + 1 + 1) (by first | omega | (simp; done) | (simp; omega)) (fun q => q) o
  have hz_Vats : w.heap.size + 1 + 1 + 1 ≤ w_Vats.heap.size := by have := hu.size; (try simp at this); omega
  have hm_Vats : w_Library.heap.size ≤ w_Vats.heap.size := by have := hu.size; (try simp at this); omega
  clear hu
  go_wp2_with fail
  with_reducible refine (toS_Channel x.Channels _ _ _ ?hc_Channels s_Channels).mono ?_
  case hc_Channels => exact C_upd (by repeat (with_reducible first | exact HB_Vats.out | apply Upd.put2 | apply Upd.put1 | apply Upd.put0 | apply Upd.alloc | apply Upd.drewN | apply Upd.drew)) HC2.out
  rintro e w_Channels ⟨v2, rfl, hR2, hu⟩
  obtain ⟨B2, b2, rfl⟩ := R_slice hR2
  obtain ⟨P2, hR2', g2, l2⟩ := fresh_row hR2 (w_Vats.heap.size) (by first | omega | (simp; done) | (simp; omega))
  have ge2 : ∀ b, P2 b → w.heap.size + 1 + 1 < b := fun b hb => by have := g2 b hb; have := hz_Vats; omega
  have n1_2 : ¬ P2 (w.heap.size + 1) := fun q => by have := ge2 _ q; omega
  have n2_2 : ¬ P2 (w.heap.size + 1 + 1) := fun q => by have := ge2 _ q; omega
  have HR2 := Sd.mk hR2'
  have GE2 := Sd.mk ge2
  have LT2 := Sd.mk l2
  have GP2 := Sd.mk g2
  clear hR2 hR2' ge2 l2 g2
  have HR0 := Sd.mk (R_upd hu (fun _ _ q => q) (R_keep HR0.out (by repeat (with_reducible first | exact Upd.refl _ _ | apply Upd.putP n1_0 | apply Upd.putP n2_0 | apply Upd.alloc))))
  have HR1 := Sd.mk (R_upd hu (fun _ _ q => q) (R_keep HR1.out (by repeat (with_reducible first | exact Upd.refl _ _ | apply Upd.putP n1_1 | apply Upd.putP n2_1 | apply Upd.alloc))))
  have HB_Channels : Sd (Upd No w w_Channels) := Sd.mk (Upd.then (by repeat (with_reducible first | exact HB_Vats.out | apply Upd.put2 | apply Upd.put1 | apply Upd.put0 | apply Upd.alloc | apply Upd.drewN | apply Upd.drew)) hu)
  have cc0_Channels := fun o => hu.cellsF (b := w.heap.size) (by first | omega | (simp; done) | (simp; omega)) (fun q => q) o
  have cc1_Channels := fun o => hu.cellsF (b := w.heap.size + 1) (by first | omega | (simp; done) | (simp; omega)) (fun q => q) o
  have cf1_Channels := fun o => hu.frozenF (b := w.heap.size + 1) (by first | omega | (simp; done) | (simp; omega)) (fun q => q) o
  have cc2_Channels := fun o => hu.cellsF (b := w.heap.size + 1 + 1) (by first | omega | (simp; done) | (simp; omega)) (fun q => q) o
  have cf2_Channels := fun o => hu.frozenF (b := w.heap.size + 1 + 1) (by first | omega | (simp; done) | (simp; omega)) (fun q => q) o
  have hz_Channels : w.heap.size + 1 + 1 + 1 ≤ w_Channels.heap.size := by have := hu.size; (try simp at this); omega
  have hm_Channels : w_Vats.heap.size ≤ w_Channels.heap.size := by have := hu.size; (try simp at this); omega
  clear hu
  go_wp2_with fail
  with_reducible refine (toS_Note x.Notes _ _ _ ?hc_Notes s_Notes).mono ?_
  case hc_Notes => exact C_upd (by repeat (with_reducible first | exact HB_Channels.out | apply Upd.put2 | apply Upd.put1 | apply Upd.put0 | apply Upd.alloc | apply Upd.drewN | apply Upd.drew)) HC3.out
  rintro e w_Notes ⟨v3, rfl, hR3, hu⟩
  obtain ⟨B3, b3, rfl⟩ := R_slice hR3
  obtain ⟨P3, hR3', g3, l3⟩ := fresh_row hR3 (w_Channels.heap.size) (by first | omega | (simp; done) | (simp; omega))
  have ge3 : ∀ b, P3 b → w.heap.size + 1 + 1 < b := fun b hb => by have := g3 b hb; have := hz_Channels; omega
  have n1_3 : ¬ P3 (w.heap.size + 1) := fun q => by have := ge3 _ q; omega
  have n2_3 : ¬ P3 (w.heap.size + 1 + 1) := fun q => by have := ge3 _ q; omega
  have HR3 := Sd.mk hR3'
  have GE3 := Sd.mk ge3
  have LT3 := Sd.mk l3
  have GP3 := Sd.mk g3
  clear hR3 hR3' ge3 l3 g3
  have HR0 := Sd.mk (R_upd hu (fun _ _ q => q) (R_keep HR0.out (by repeat (with_reducible first | exact Upd.refl _ _ | apply Upd.putP n1_0 | apply Upd.putP n2_0 | apply Upd.alloc))))
  have HR1 := Sd.mk (R_upd hu (fun _ _ q => q) (R_keep HR1.out (by repeat (with_reducible first | exact Upd.refl _ _ | apply Upd.putP n1_1 | apply Upd.putP n2_1 | apply Upd.alloc))))
  have HR2 := Sd.mk (R_upd hu (fun _ _ q => q) (R_keep HR2.out (by repeat (with_reducible first | exact Upd.refl _ _ | apply Upd.putP n1_2 | apply Upd.putP n2_2 | apply Upd.alloc))))
  have HB_Notes : Sd (Upd No w w_Notes) := Sd.mk (Upd.then (by repeat (with_reducible first | exact HB_Channels.out | apply Upd.put2 | apply Upd.put1 | apply Upd.put0 | apply Upd.alloc | apply Upd.drewN | apply Upd.drew)) hu)
  have cc0_Notes := fun o => hu.cellsF (b := w.heap.size) (by first | omega | (simp; done) | (simp; omega)) (fun q => q) o
  have cc1_Notes := fun o => hu.cellsF (b := w.heap.size + 1) (by first | omega | (simp; done) | (simp; omega)) (fun q => q) o
  have cf1_Notes := fun o => hu.frozenF (b := w.heap.size + 1) (by first | omega | (simp; done) | (simp; omega)) (fun q => q) o
  have cc2_Notes := fun o => hu.cellsF (b := w.heap.size + 1 + 1) (by first | omega | (simp; done) | (simp; omega)) (fun q => q) o
  have cf2_Notes := fun o => hu.frozenF (b := w.heap.size + 1 + 1) (by first | omega | (simp; done) | (simp; omega)) (fun q => q) o
  have hz_Notes : w.heap.size + 1 + 1 + 1 ≤ w_Notes.heap.size := by have := hu.size; (try simp at this); omega
  have hm_Notes : w_Channels.heap.size ≤ w_Notes.heap.size := by have := hu.size; (try simp at this); omega
  clear hu
  go_wp2
  refine bodyPost_ret (v := .agg #[.slice B0 x.Library.length b0, .slice B1 x.Vats.length b1, .slice B2 x.Channels.length b2, .slice B3 x.Notes.length b3, .int .i64 x.Strays]) (by simp [results, Tryz.results12, go_sem, cc1_Library, cc1_Vats, cc1_Channels, cc1_Notes]) rfl ⟨_, rfl, ?_, (by repeat (with_reducible first | exact HB_Notes.out | apply Upd.put2 | apply Upd.put1 | apply Upd.put0 | apply Upd.alloc | apply Upd.drewN | apply Upd.drew))⟩
  exact ki_World_mk _ _ _ (R_keep HR0.out (by repeat (with_reducible first | exact Upd.refl _ _ | apply Upd.putP n1_0 | apply Upd.putP n2_0 | apply Upd.alloc))) (R_keep HR1.out (by repeat (with_reducible first | exact Upd.refl _ _ | apply Upd.putP n1_1 | apply Upd.putP n2_1 | apply Upd.alloc))) (R_keep HR2.out (by repeat (with_reducible first | exact Upd.refl _ _ | apply Upd.putP n1_2 | apply Upd.putP n2_2 | apply Upd.alloc))) (R_keep HR3.out (by repeat (with_reducible first | exact Upd.refl _ _ | apply Upd.putP n1_3 | apply Upd.putP n2_3 | apply Upd.alloc))) (fun k hk => by have := GE0.out k hk; simp only [New]; omega) (fun k hk => by have := GE1.out k hk; simp only [New]; omega) (fun k hk => by have := GE2.out k hk; simp only [New]; omega) (fun k hk => by have := GE3.out k hk; simp only [New]; omega) (fun k hk hk' => by have h1 := LT0.out k hk; have h2 := GP1.out k hk'; omega) (fun k hk hk' => by have h1 := LT0.out k hk; have h2 := GP2.out k hk'; have := hm_Vats; omega) (fun k hk hk' => by have h1 := LT0.out k hk; have h2 := GP3.out k hk'; have := hm_Vats; have := hm_Channels; omega) (fun k hk hk' => by have h1 := LT1.out k hk; have h2 := GP2.out k hk'; omega) (fun k hk hk' => by have h1 := LT1.out k hk; have h2 := GP3.out k hk'; have := hm_Channels; omega) (fun k hk hk' => by have h1 := LT2.out k hk; have h2 := GP3.out k hk'; omega)
set_option maxHeartbeats 1000000 in
set_option maxRecDepth 100000 in
theorem sz_World (x : GWorld) (cs : List Value) (n : Int) (w : World) (h : kl_World.K w x cs) (hb : Bd_World x) (h0 : 0 ≤ n) (h1 : n ≤ 1048576) : Calls Tryz.prog 10 #[.agg cs.toArray, .int .i64 n] w (RetSz (szn_World x) n w) := by
  obtain ⟨A0, c0, A1, c1, A2, c2, A3, c3, rfl, hl0, hC0, hl1, hC1, hl2, hC2, hl3, hC3⟩ := kl_World_K h
  have HC0 := Sd.mk hC0
  have HC1 := Sd.mk hC1
  have HC2 := Sd.mk hC2
  have HC3 := Sd.mk hC3
  clear hC0 hC1 hC2 hC3
  obtain ⟨b_Library, b_Vats, b_Channels⟩ := hb
  have B_Library := Sd.mk b_Library
  clear b_Library
  have B_Vats := Sd.mk b_Vats
  clear b_Vats
  have B_Channels := Sd.mk b_Channels
  clear b_Channels
  go_enter Tryz.func10, Tryz.ntmps10
  go_wp2_with fail
  with_reducible refine (szS_Script x.Library _ _ _ _ ?hc_Library B_Library.out (by omega) (by omega)).mono ?_
  case hc_Library => exact C_upd (by repeat (with_reducible first | exact Upd.refl _ _ | apply Upd.put2 | apply Upd.put1 | apply Upd.put0 | apply Upd.alloc | apply Upd.drewN | apply Upd.drew)) HC0.out
  rintro e w_Library ⟨r_Library, rfl, hr_Library, hu⟩
  have HB_Library : Sd (Upd No w w_Library) := Sd.mk (Upd.then (by repeat (with_reducible first | exact Upd.refl _ _ | apply Upd.put2 | apply Upd.put1 | apply Upd.put0 | apply Upd.alloc | apply Upd.drewN | apply Upd.drew)) hu)
  have cc0_Library := fun o => hu.cellsF (b := w.heap.size) (by first | omega | (simp; done) | (simp; omega)) (fun q => q) o
  have hz_Library : w.heap.size + 1 ≤ w_Library.heap.size := by have := hu.size; (try simp at this); omega
  clear hu
  rcases hr_Library with ⟨q_Library, rfl⟩ | ⟨q_Library, rfl⟩
  case inr =>
    go_wp2
    go_ret
    exact ⟨_, rfl, .inr ⟨by unfold szn_World; omega, rfl⟩, (by repeat (with_reducible first | exact HB_Library.out | apply Upd.put2 | apply Upd.put1 | apply Upd.put0 | apply Upd.alloc | apply Upd.drewN | apply Upd.drew))⟩
  go_wp2_with fail
  with_reducible refine (szS_Vat x.Vats _ _ _ _ ?hc_Vats B_Vats.out (by omega) (by omega)).mono ?_
  case hc_Vats => exact C_upd (by repeat (with_reducible first | exact HB_Library.out | apply Upd.put2 | apply Upd.put1 | apply Upd.put0 | apply Upd.alloc | apply Upd.drewN | apply Upd.drew)) HC1.out
  rintro e w_Vats ⟨r_Vats, rfl, hr_Vats, hu⟩
  have HB_Vats : Sd (Upd No w w_Vats) := Sd.mk (Upd.then (by repeat (with_reducible first | exact HB_Library.out | apply Upd.put2 | apply Upd.put1 | apply Upd.put0 | apply Upd.alloc | apply Upd.drewN | apply Upd.drew)) hu)
  have cc0_Vats := fun o => hu.cellsF (b := w.heap.size) (by first | omega | (simp; done) | (simp; omega)) (fun q => q) o
  have hz_Vats : w.heap.size + 1 ≤ w_Vats.heap.size := by have := hu.size; (try simp at this); omega
  clear hu
  rcases hr_Vats with ⟨q_Vats, rfl⟩ | ⟨q_Vats, rfl⟩
  case inr =>
    go_wp2
    go_ret
    exact ⟨_, rfl, .inr ⟨by unfold szn_World; omega, rfl⟩, (by repeat (with_reducible first | exact HB_Vats.out | apply Upd.put2 | apply Upd.put1 | apply Upd.put0 | apply Upd.alloc | apply Upd.drewN | apply Upd.drew))⟩
  go_wp2_with fail
  with_reducible refine (szS_Channel x.Channels _ _ _ _ ?hc_Channels B_Channels.out (by omega) (by omega)).mono ?_
  case hc_Channels => exact C_upd (by repeat (with_reducible first | exact HB_Vats.out | apply Upd.put2 | apply Upd.put1 | apply Upd.put0 | apply Upd.alloc | apply Upd.drewN | apply Upd.drew)) HC2.out
  rintro e w_Channels ⟨r_Channels, rfl, hr_Channels, hu⟩
  have HB_Channels : Sd (Upd No w w_Channels) := Sd.mk (Upd.then (by repeat (with_reducible first | exact HB_Vats.out | apply Upd.put2 | apply Upd.put1 | apply Upd.put0 | apply Upd.alloc | apply Upd.drewN | apply Upd.drew)) hu)
  have cc0_Channels := fun o => hu.cellsF (b := w.heap.size) (by first | omega | (simp; done) | (simp; omega)) (fun q => q) o
  have hz_Channels : w.heap.size + 1 ≤ w_Channels.heap.size := by have := hu.size; (try simp at this); omega
  clear hu
  rcases hr_Channels with ⟨q_Channels, rfl⟩ | ⟨q_Channels, rfl⟩
  case inr =>
    go_wp2
    go_ret
    exact ⟨_, rfl, .inr ⟨by unfold szn_World; omega, rfl⟩, (by repeat (with_reducible first | exact HB_Channels.out | apply Upd.put2 | apply Upd.put1 | apply Upd.put0 | apply Upd.alloc | apply Upd.drewN | apply Upd.drew))⟩
  go_wp2_with fail
  with_reducible refine (szS_Note x.Notes _ _ _ _ ?hc_Notes (by omega) (by omega)).mono ?_
  case hc_Notes => exact C_upd (by repeat (with_reducible first | exact HB_Channels.out | apply Upd.put2 | apply Upd.put1 | apply Upd.put0 | apply Upd.alloc | apply Upd.drewN | apply Upd.drew)) HC3.out
  rintro e w_Notes ⟨r_Notes, rfl, hr_Notes, hu⟩
  have HB_Notes : Sd (Upd No w w_Notes) := Sd.mk (Upd.then (by repeat (with_reducible first | exact HB_Channels.out | apply Upd.put2 | apply Upd.put1 | apply Upd.put0 | apply Upd.alloc | apply Upd.drewN | apply Upd.drew)) hu)
  have cc0_Notes := fun o => hu.cellsF (b := w.heap.size) (by first | omega | (simp; done) | (simp; omega)) (fun q => q) o
  have hz_Notes : w.heap.size + 1 ≤ w_Notes.heap.size := by have := hu.size; (try simp at this); omega
  clear hu
  rcases hr_Notes with ⟨q_Notes, rfl⟩ | ⟨q_Notes, rfl⟩
  case inr =>
    go_wp2
    go_ret
    exact ⟨_, rfl, .inr ⟨by unfold szn_World; omega, rfl⟩, (by repeat (with_reducible first | exact HB_Notes.out | apply Upd.put2 | apply Upd.put1 | apply Upd.put0 | apply Upd.alloc | apply Upd.drewN | apply Upd.drew))⟩
  go_wp2
  go_ret
  exact ⟨_, rfl, .inl ⟨by unfold szn_World; omega, by unfold szn_World; omega⟩, (by repeat (with_reducible first | exact HB_Notes.out | apply Upd.put2 | apply Upd.put1 | apply Upd.put0 | apply Upd.alloc | apply Upd.drewN | apply Upd.drew))⟩
set_option maxHeartbeats 1000000 in
set_option maxRecDepth 100000 in
theorem eq_World (x : GWorld) (cs cs' : List Value) (w : World) (h : ki_World.K w x cs) (h' : ki_World.K w x cs') : Calls Tryz.prog 15 #[.agg cs.toArray, .agg cs'.toArray] w (RetBool true w) := by
  obtain ⟨A0, c0, A1, c1, A2, c2, A3, c3, rfl, hl0, hC0, hl1, hC1, hl2, hC2, hl3, hC3⟩ := ki_World_K h
  have HC0 := Sd.mk hC0
  have HC1 := Sd.mk hC1
  have HC2 := Sd.mk hC2
  have HC3 := Sd.mk hC3
  clear hC0 hC1 hC2 hC3
  obtain ⟨B0, b0, B1, b1, B2, b2, B3, b3, rfl, hm0, hD0, hm1, hD1, hm2, hD2, hm3, hD3⟩ := ki_World_K h'
  have HD0 := Sd.mk hD0
  have HD1 := Sd.mk hD1
  have HD2 := Sd.mk hD2
  have HD3 := Sd.mk hD3
  clear hD0 hD1 hD2 hD3
  go_enter Tryz.func15, Tryz.ntmps15
  go_wp2_with fail
  with_reducible refine (eqS_Script x.Library _ _ _ _ _ ?hc_Library ?hd_Library).mono ?_
  case hc_Library => exact C_upd (by repeat (with_reducible first | exact Upd.refl _ _ | apply Upd.put2 | apply Upd.put1 | apply Upd.put0 | apply Upd.alloc | apply Upd.drewN | apply Upd.drew)) HC0.out
  case hd_Library => exact C_upd (by repeat (with_reducible first | exact Upd.refl _ _ | apply Upd.put2 | apply Upd.put1 | apply Upd.put0 | apply Upd.alloc | apply Upd.drewN | apply Upd.drew)) HD0.out
  rintro e w_Library ⟨rfl, hu⟩
  have HB_Library : Sd (Upd No w w_Library) := Sd.mk (Upd.then (by repeat (with_reducible first | exact Upd.refl _ _ | apply Upd.put2 | apply Upd.put1 | apply Upd.put0 | apply Upd.alloc | apply Upd.drewN | apply Upd.drew)) hu)
  have cc0_Library := fun o => hu.cellsF (b := w.heap.size) (by first | omega | (simp; done) | (simp; omega)) (fun q => q) o
  have cc1_Library := fun o => hu.cellsF (b := w.heap.size + 1) (by first | omega | (simp; done) | (simp; omega)) (fun q => q) o
  have hz_Library : w.heap.size + 1 + 1 ≤ w_Library.heap.size := by have := hu.size; (try simp at this); omega
  clear hu
  go_wp2_with fail
  with_reducible refine (eqS_Vat x.Vats _ _ _ _ _ ?hc_Vats ?hd_Vats).mono ?_
  case hc_Vats => exact C_upd (by repeat (with_reducible first | exact HB_Library.out | apply Upd.put2 | apply Upd.put1 | apply Upd.put0 | apply Upd.alloc | apply Upd.drewN | apply Upd.drew)) HC1.out
  case hd_Vats => exact C_upd (by repeat (with_reducible first | exact HB_Library.out | apply Upd.put2 | apply Upd.put1 | apply Upd.put0 | apply Upd.alloc | apply Upd.drewN | apply Upd.drew)) HD1.out
  rintro e w_Vats ⟨rfl, hu⟩
  have HB_Vats : Sd (Upd No w w_Vats) := Sd.mk (Upd.then (by repeat (with_reducible first | exact HB_Library.out | apply Upd.put2 | apply Upd.put1 | apply Upd.put0 | apply Upd.alloc | apply Upd.drewN | apply Upd.drew)) hu)
  have cc0_Vats := fun o => hu.cellsF (b := w.heap.size) (by first | omega | (simp; done) | (simp; omega)) (fun q => q) o
  have cc1_Vats := fun o => hu.cellsF (b := w.heap.size + 1) (by first | omega | (simp; done) | (simp; omega)) (fun q => q) o
  have hz_Vats : w.heap.size + 1 + 1 ≤ w_Vats.heap.size := by have := hu.size; (try simp at this); omega
  clear hu
  go_wp2_with fail
  with_reducible refine (eqS_Channel x.Channels _ _ _ _ _ ?hc_Channels ?hd_Channels).mono ?_
  case hc_Channels => exact C_upd (by repeat (with_reducible first | exact HB_Vats.out | apply Upd.put2 | apply Upd.put1 | apply Upd.put0 | apply Upd.alloc | apply Upd.drewN | apply Upd.drew)) HC2.out
  case hd_Channels => exact C_upd (by repeat (with_reducible first | exact HB_Vats.out | apply Upd.put2 | apply Upd.put1 | apply Upd.put0 | apply Upd.alloc | apply Upd.drewN | apply Upd.drew)) HD2.out
  rintro e w_Channels ⟨rfl, hu⟩
  have HB_Channels : Sd (Upd No w w_Channels) := Sd.mk (Upd.then (by repeat (with_reducible first | exact HB_Vats.out | apply Upd.put2 | apply Upd.put1 | apply Upd.put0 | apply Upd.alloc | apply Upd.drewN | apply Upd.drew)) hu)
  have cc0_Channels := fun o => hu.cellsF (b := w.heap.size) (by first | omega | (simp; done) | (simp; omega)) (fun q => q) o
  have cc1_Channels := fun o => hu.cellsF (b := w.heap.size + 1) (by first | omega | (simp; done) | (simp; omega)) (fun q => q) o
  have hz_Channels : w.heap.size + 1 + 1 ≤ w_Channels.heap.size := by have := hu.size; (try simp at this); omega
  clear hu
  go_wp2_with fail
  with_reducible refine (eqS_Note x.Notes _ _ _ _ _ ?hc_Notes ?hd_Notes).mono ?_
  case hc_Notes => exact C_upd (by repeat (with_reducible first | exact HB_Channels.out | apply Upd.put2 | apply Upd.put1 | apply Upd.put0 | apply Upd.alloc | apply Upd.drewN | apply Upd.drew)) HC3.out
  case hd_Notes => exact C_upd (by repeat (with_reducible first | exact HB_Channels.out | apply Upd.put2 | apply Upd.put1 | apply Upd.put0 | apply Upd.alloc | apply Upd.drewN | apply Upd.drew)) HD3.out
  rintro e w_Notes ⟨rfl, hu⟩
  have HB_Notes : Sd (Upd No w w_Notes) := Sd.mk (Upd.then (by repeat (with_reducible first | exact HB_Channels.out | apply Upd.put2 | apply Upd.put1 | apply Upd.put0 | apply Upd.alloc | apply Upd.drewN | apply Upd.drew)) hu)
  have cc0_Notes := fun o => hu.cellsF (b := w.heap.size) (by first | omega | (simp; done) | (simp; omega)) (fun q => q) o
  have cc1_Notes := fun o => hu.cellsF (b := w.heap.size + 1) (by first | omega | (simp; done) | (simp; omega)) (fun q => q) o
  have hz_Notes : w.heap.size + 1 + 1 ≤ w_Notes.heap.size := by have := hu.size; (try simp at this); omega
  clear hu
  go_wp2
  go_ret
  exact ⟨rfl, (by repeat (with_reducible first | exact HB_Notes.out | apply Upd.put2 | apply Upd.put1 | apply Upd.put0 | apply Upd.alloc | apply Upd.drewN | apply Upd.drew))⟩
set_option maxHeartbeats 1000000 in
set_option maxRecDepth 100000 in
theorem markv_World_c (x : GWorld) (k : Int) (F : Nat → Prop) (cs : List Value) (w : World) (h : ki_World.M w F x cs) (hk : 0 ≤ k) (hb : k + cntv_World x ≤ 4611686018427387904) : Calls Tryz.prog 16 #[.agg cs.toArray, .int .i64 k] w (MarksV ki_World F cs (k + cntv_World x) (mkv_World k x) w) := by
  obtain ⟨v0, P0, v1, P1, v2, P2, v3, P3, rfl, hR0, hR1, hR2, hR3, i0, i1, i2, i3, d0_1, d0_2, d0_3, d1_2, d1_3, d2_3⟩ := ki_World_M (ki_World.M_lt h)
  obtain ⟨B0, b0, rfl⟩ := R_slice hR0
  have HR0 := Sd.mk hR0
  have I0 := Sd.mk (fun b q => (i0 b q).1)
  have L0 := Sd.mk (fun b q => (i0 b q).2)
  clear hR0 i0
  have nn0 := cntS_nn cnt_Script cnt_Script_nn x.Library
  obtain ⟨B1, b1, rfl⟩ := R_slice hR1
  have HR1 := Sd.mk hR1
  have I1 := Sd.mk (fun b q => (i1 b q).1)
  have L1 := Sd.mk (fun b q => (i1 b q).2)
  clear hR1 i1
  have nn1 := cntS_nn cnt_Vat cnt_Vat_nn x.Vats
  obtain ⟨B2, b2, rfl⟩ := R_slice hR2
  have HR2 := Sd.mk hR2
  have I2 := Sd.mk (fun b q => (i2 b q).1)
  have L2 := Sd.mk (fun b q => (i2 b q).2)
  clear hR2 i2
  have nn2 := cntS_nn cnt_Channel cnt_Channel_nn x.Channels
  obtain ⟨B3, b3, rfl⟩ := R_slice hR3
  have HR3 := Sd.mk hR3
  have I3 := Sd.mk (fun b q => (i3 b q).1)
  have L3 := Sd.mk (fun b q => (i3 b q).2)
  clear hR3 i3
  have nn3 := cntS_nn cnt_Note cnt_Note_nn x.Notes
  have D0_1 := Sd.mk d0_1
  clear d0_1
  have D0_2 := Sd.mk d0_2
  clear d0_2
  have D0_3 := Sd.mk d0_3
  clear d0_3
  have D1_2 := Sd.mk d1_2
  clear d1_2
  have D1_3 := Sd.mk d1_3
  clear d1_3
  have D2_3 := Sd.mk d2_3
  clear d2_3
  clear h
  unfold cntv_World at hb
  generalize hcn0 : cntS cnt_Script x.Library = cn0 at *
  have HC0 := Sd.mk hcn0
  clear hcn0
  generalize hcn1 : cntS cnt_Vat x.Vats = cn1 at *
  have HC1 := Sd.mk hcn1
  clear hcn1
  generalize hcn2 : cntS cnt_Channel x.Channels = cn2 at *
  have HC2 := Sd.mk hcn2
  clear hcn2
  generalize hcn3 : cntS cnt_Note x.Notes = cn3 at *
  have HC3 := Sd.mk hcn3
  clear hcn3
  go_enter Tryz.func16, Tryz.ntmps16
  go_wp2_with fail
  with_reducible refine (markS_Script x.Library _ P0 _ _ ?hr0 (by omega) (by rw [HC0.out]; omega)).mono ?_
  case hr0 => exact R_upd ((Upd.refl No w).alloc _) (fun _ _ q => q) HR0.out
  rintro e w_0 ⟨rfl, hR0, hu⟩
  rw [HC0.out]
  replace HR1 := Sd.mk (R_upd hu (fun b hb hg' => D0_1.out b hg' hb) (R_upd ((Upd.refl No w).alloc _) (fun _ _ q => q) HR1.out))
  replace HR2 := Sd.mk (R_upd hu (fun b hb hg' => D0_2.out b hg' hb) (R_upd ((Upd.refl No w).alloc _) (fun _ _ q => q) HR2.out))
  replace HR3 := Sd.mk (R_upd hu (fun b hb hg' => D0_3.out b hg' hb) (R_upd ((Upd.refl No w).alloc _) (fun _ _ q => q) HR3.out))
  replace HR0 := Sd.mk hR0
  have cc_0 := fun o => hu.cellsF (b := w.heap.size) (by first | omega | (simp; done) | (simp; omega)) (fun q => absurd (L0.out _ q) (Nat.lt_irrefl _)) o
  have hz_0 : w.heap.size + 1 ≤ w_0.heap.size := by have := hu.size; (try simp at this); omega
  have HU_0 : Sd (Upd F w w_0) := Sd.mk (Upd.trans ((Upd.refl No w).alloc _) hu (fun _ _ q => q.elim) (fun b _ q => I0.out b q))
  clear hu hR0
  go_wp2_with fail
  with_reducible refine (markS_Vat x.Vats _ P1 _ _ ?hr1 (by omega) (by rw [HC1.out]; omega)).mono ?_
  case hr1 => exact HR1.out
  rintro e w_1 ⟨rfl, hR1, hu⟩
  rw [HC1.out]
  replace HR0 := Sd.mk (R_upd hu (fun b hb hg' => D0_1.out b hb hg') (HR0.out))
  replace HR2 := Sd.mk (R_upd hu (fun b hb hg' => D1_2.out b hg' hb) (HR2.out))
  replace HR3 := Sd.mk (R_upd hu (fun b hb hg' => D1_3.out b hg' hb) (HR3.out))
  replace HR1 := Sd.mk hR1
  have cc_1 := fun o => hu.cellsF (b := w.heap.size) (by first | omega | (simp; done) | (simp; omega)) (fun q => absurd (L1.out _ q) (Nat.lt_irrefl _)) o
  have hz_1 : w.heap.size + 1 ≤ w_1.heap.size := by have := hu.size; (try simp at this); omega
  have HU_1 : Sd (Upd F w w_1) := Sd.mk (HU_0.out.trans hu (fun _ _ q => q) (fun b _ q => I1.out b q))
  clear hu hR1
  go_wp2_with fail
  with_reducible refine (markS_Channel x.Channels _ P2 _ _ ?hr2 (by omega) (by rw [HC2.out]; omega)).mono ?_
  case hr2 => exact HR2.out
  rintro e w_2 ⟨rfl, hR2, hu⟩
  rw [HC2.out]
  replace HR0 := Sd.mk (R_upd hu (fun b hb hg' => D0_2.out b hb hg') (HR0.out))
  replace HR1 := Sd.mk (R_upd hu (fun b hb hg' => D1_2.out b hb hg') (HR1.out))
  replace HR3 := Sd.mk (R_upd hu (fun b hb hg' => D2_3.out b hg' hb) (HR3.out))
  replace HR2 := Sd.mk hR2
  have cc_2 := fun o => hu.cellsF (b := w.heap.size) (by first | omega | (simp; done) | (simp; omega)) (fun q => absurd (L2.out _ q) (Nat.lt_irrefl _)) o
  have hz_2 : w.heap.size + 1 ≤ w_2.heap.size := by have := hu.size; (try simp at this); omega
  have HU_2 : Sd (Upd F w w_2) := Sd.mk (HU_1.out.trans hu (fun _ _ q => q) (fun b _ q => I2.out b q))
  clear hu hR2
  go_wp2_with fail
  with_reducible refine (markS_Note x.Notes _ P3 _ _ ?hr3 (by omega) (by rw [HC3.out]; omega)).mono ?_
  case hr3 => exact HR3.out
  rintro e w_3 ⟨rfl, hR3, hu⟩
  rw [HC3.out]
  replace HR0 := Sd.mk (R_upd hu (fun b hb hg' => D0_3.out b hb hg') (HR0.out))
  replace HR1 := Sd.mk (R_upd hu (fun b hb hg' => D1_3.out b hb hg') (HR1.out))
  replace HR2 := Sd.mk (R_upd hu (fun b hb hg' => D2_3.out b hb hg') (HR2.out))
  replace HR3 := Sd.mk hR3
  have cc_3 := fun o => hu.cellsF (b := w.heap.size) (by first | omega | (simp; done) | (simp; omega)) (fun q => absurd (L3.out _ q) (Nat.lt_irrefl _)) o
  have hz_3 : w.heap.size + 1 ≤ w_3.heap.size := by have := hu.size; (try simp at this); omega
  have HU_3 : Sd (Upd F w w_3) := Sd.mk (HU_2.out.trans hu (fun _ _ q => q) (fun b _ q => I3.out b q))
  clear hu hR3
  have hy : (⟨mkS mk_Script cnt_Script k x.Library, mkS mk_Vat cnt_Vat (k + cn0) x.Vats, mkS mk_Channel cnt_Channel ((k + cn0) + cn1) x.Channels, mkS mk_Note cnt_Note (((k + cn0) + cn1) + cn2) x.Notes, x.Strays⟩ : GWorld) = mkv_World k x := by simp only [mkv_World, HC0.out, HC1.out, HC2.out, HC3.out]
  have hc : cntv_World x = ((((0 + cn0) + cn1) + cn2) + cn3) := by simp only [cntv_World, HC0.out, HC1.out, HC2.out, HC3.out]
  have HMM := ki_World_mk w_3 F (⟨mkS mk_Script cnt_Script k x.Library, mkS mk_Vat cnt_Vat (k + cn0) x.Vats, mkS mk_Channel cnt_Channel ((k + cn0) + cn1) x.Channels, mkS mk_Note cnt_Note (((k + cn0) + cn1) + cn2) x.Notes, x.Strays⟩ : GWorld) HR0.out HR1.out HR2.out HR3.out I0.out I1.out I2.out I3.out D0_1.out D0_2.out D0_3.out D1_2.out D1_3.out D2_3.out
  rw [hy] at HMM
  have HMM' := Sd.mk HMM
  have Hc := Sd.mk hc
  clear HMM hy hc
  go_wp2
  go_ret
  exact ⟨ret_int (by rw [Hc.out]; omega), HMM'.out, HU_3.out⟩
set_option maxHeartbeats 1000000 in
set_option maxRecDepth 100000 in
theorem heldv_World_c (x : GWorld) (k : Int) (cs : List Value) (w : World) (h : ki_World.K w (mkv_World k x) cs) (hk : 0 ≤ k) (hb : k + cntv_World x ≤ 4611686018427387904) : Calls Tryz.prog 17 #[.agg cs.toArray, .int .i64 k] w (RetInt (k + cntv_World x) w) := by
  obtain ⟨A0, c0, A1, c1, A2, c2, A3, c3, rfl, hl0, hC0, hl1, hC1, hl2, hC2, hl3, hC3⟩ := ki_World_K h
  clear h
  simp only [mkv_World, mkS_len] at hl0 hC0 hl1 hC1 hl2 hC2 hl3 hC3
  simp only [mkv_World, mkS_len]
  have nn0 := cntS_nn cnt_Script cnt_Script_nn x.Library
  have nn1 := cntS_nn cnt_Vat cnt_Vat_nn x.Vats
  have nn2 := cntS_nn cnt_Channel cnt_Channel_nn x.Channels
  have nn3 := cntS_nn cnt_Note cnt_Note_nn x.Notes
  unfold cntv_World at hb
  generalize hcn0 : cntS cnt_Script x.Library = cn0 at *
  have HN0 := Sd.mk hcn0
  clear hcn0
  have HC0 := Sd.mk hC0
  clear hC0
  generalize hcn1 : cntS cnt_Vat x.Vats = cn1 at *
  have HN1 := Sd.mk hcn1
  clear hcn1
  have HC1 := Sd.mk hC1
  clear hC1
  generalize hcn2 : cntS cnt_Channel x.Channels = cn2 at *
  have HN2 := Sd.mk hcn2
  clear hcn2
  have HC2 := Sd.mk hC2
  clear hC2
  generalize hcn3 : cntS cnt_Note x.Notes = cn3 at *
  have HN3 := Sd.mk hcn3
  clear hcn3
  have HC3 := Sd.mk hC3
  clear hC3
  go_enter Tryz.func17, Tryz.ntmps17
  go_wp2_with fail
  with_reducible refine (heldS_Script x.Library _ _ _ _ ?hc0 (by omega) (by rw [HN0.out]; omega)).mono ?_
  case hc0 => exact C_upd (by repeat (with_reducible first | exact Upd.refl _ _ | apply Upd.put2 | apply Upd.put1 | apply Upd.put0 | apply Upd.alloc | apply Upd.drewN | apply Upd.drew)) HC0.out
  rintro e w_0 ⟨rfl, hu⟩
  rw [HN0.out]
  have HB_0 : Sd (Upd No w w_0) := Sd.mk (Upd.then (by repeat (with_reducible first | exact Upd.refl _ _ | apply Upd.put2 | apply Upd.put1 | apply Upd.put0 | apply Upd.alloc | apply Upd.drewN | apply Upd.drew)) hu)
  have cc_0 := fun o => hu.cellsF (b := w.heap.size) (by first | omega | (simp; done) | (simp; omega)) (fun q => q) o
  have hz_0 : w.heap.size + 1 ≤ w_0.heap.size := by have := hu.size; (try simp at this); omega
  clear hu
  go_wp2_with fail
  with_reducible refine (heldS_Vat x.Vats _ _ _ _ ?hc1 (by omega) (by rw [HN1.out]; omega)).mono ?_
  case hc1 => exact C_upd (by repeat (with_reducible first | exact HB_0.out | apply Upd.put2 | apply Upd.put1 | apply Upd.put0 | apply Upd.alloc | apply Upd.drewN | apply Upd.drew)) HC1.out
  rintro e w_1 ⟨rfl, hu⟩
  rw [HN1.out]
  have HB_1 : Sd (Upd No w w_1) := Sd.mk (Upd.then (by repeat (with_reducible first | exact HB_0.out | apply Upd.put2 | apply Upd.put1 | apply Upd.put0 | apply Upd.alloc | apply Upd.drewN | apply Upd.drew)) hu)
  have cc_1 := fun o => hu.cellsF (b := w.heap.size) (by first | omega | (simp; done) | (simp; omega)) (fun q => q) o
  have hz_1 : w.heap.size + 1 ≤ w_1.heap.size := by have := hu.size; (try simp at this); omega
  clear hu
  go_wp2_with fail
  with_reducible refine (heldS_Channel x.Channels _ _ _ _ ?hc2 (by omega) (by rw [HN2.out]; omega)).mono ?_
  case hc2 => exact C_upd (by repeat (with_reducible first | exact HB_1.out | apply Upd.put2 | apply Upd.put1 | apply Upd.put0 | apply Upd.alloc | apply Upd.drewN | apply Upd.drew)) HC2.out
  rintro e w_2 ⟨rfl, hu⟩
  rw [HN2.out]
  have HB_2 : Sd (Upd No w w_2) := Sd.mk (Upd.then (by repeat (with_reducible first | exact HB_1.out | apply Upd.put2 | apply Upd.put1 | apply Upd.put0 | apply Upd.alloc | apply Upd.drewN | apply Upd.drew)) hu)
  have cc_2 := fun o => hu.cellsF (b := w.heap.size) (by first | omega | (simp; done) | (simp; omega)) (fun q => q) o
  have hz_2 : w.heap.size + 1 ≤ w_2.heap.size := by have := hu.size; (try simp at this); omega
  clear hu
  go_wp2_with fail
  with_reducible refine (heldS_Note x.Notes _ _ _ _ ?hc3 (by omega) (by rw [HN3.out]; omega)).mono ?_
  case hc3 => exact C_upd (by repeat (with_reducible first | exact HB_2.out | apply Upd.put2 | apply Upd.put1 | apply Upd.put0 | apply Upd.alloc | apply Upd.drewN | apply Upd.drew)) HC3.out
  rintro e w_3 ⟨rfl, hu⟩
  rw [HN3.out]
  have HB_3 : Sd (Upd No w w_3) := Sd.mk (Upd.then (by repeat (with_reducible first | exact HB_2.out | apply Upd.put2 | apply Upd.put1 | apply Upd.put0 | apply Upd.alloc | apply Upd.drewN | apply Upd.drew)) hu)
  have cc_3 := fun o => hu.cellsF (b := w.heap.size) (by first | omega | (simp; done) | (simp; omega)) (fun q => q) o
  have hz_3 : w.heap.size + 1 ≤ w_3.heap.size := by have := hu.size; (try simp at this); omega
  clear hu
  have Hc : Sd (cntv_World x = ((((0 + cn0) + cn1) + cn2) + cn3)) := ⟨by simp only [cntv_World, HN0.out, HN1.out, HN2.out, HN3.out]⟩
  go_wp2
  go_ret
  exact ⟨ret_int (by rw [Hc.out]; omega), HB_3.out⟩
end Go.Proofs.YtfnedoiplblldaaGreatFam
