/- What the row needs, packed. No conditions beyond those that each law names. -/
import Derived.Test.YtgaoabnnpjngcaaGreatZcu2
import Derived.Test.YtgaoabnnpjngcaaGreatProg
import Derived.Test.YtgaoabnnpjngcaaGreatZcu1
import Derived.WalkKit
import Derived.KernelRfl
import Derived.RowKit3
import Derived.Deep.LoopGhost
import Derived.Deep.QuietTactic
import Derived.BigQuiet
import Derived.StillTailTactics
import Derived.Deep.RegionHeld3
import Derived.RangeFuncRecord
import Derived.WideLaws
import Derived.Deep.Slices
import Derived.ChangeArms
import Derived.WideShapes
namespace Go.Proofs.YtgaoabnnpjngcaaGreatFam
open Go.RowKit Go.Proofs.YtgaoabnnpjngcaaGreatSep Go.Proofs.YtgaoabnnpjngcaaGreatT Go.Proofs.YtgaoabnnpjngcaaGreatK
set_option linter.unusedVariables false
set_option linter.unusedSimpArgs false
set_option maxHeartbeats 1000000
set_option maxRecDepth 100000
theorem kl_Vat_Kmk (w : World) (x : GVat) {A1 : Option Addr} {c1 : Nat} (hl1 : x.bH.length ≤ c1) (hC1 : C iG w A1 x.bH) {A2 : Option Addr} {c2 : Nat} (hl2 : x.Loop.length ≤ c2) (hC2 : C iM w A2 x.Loop) {A3 : Option Addr} {c3 : Nat} (hl3 : x.gB.length ≤ c3) (hC3 : C kK w A3 x.gB) {A4 : Option Addr} {c4 : Nat} (hl4 : x.Out.length ≤ c4) (hC4 : C gL w A4 x.Out) : kl_Vat.K w x [.int .i64 x.Id, .slice A1 x.bH.length c1, .slice A2 x.Loop.length c2, .slice A3 x.gB.length c3, .slice A4 x.Out.length c4] := ⟨[_], [_, _, _, _], rfl, rfl, ⟨[_], [_, _, _], rfl, ⟨A1, c1, rfl, hl1, hC1⟩, ⟨[_], [_, _], rfl, ⟨A2, c2, rfl, hl2, hC2⟩, ⟨[_], [_], rfl, ⟨A3, c3, rfl, hl3, hC3⟩, ⟨A4, c4, rfl, hl4, hC4⟩⟩⟩⟩⟩
theorem ki_Vat_Kmk (w : World) (x : GVat) {A1 : Option Addr} {c1 : Nat} (hl1 : x.bH.length ≤ c1) (hC1 : C dW w A1 x.bH) {A2 : Option Addr} {c2 : Nat} (hl2 : x.Loop.length ≤ c2) (hC2 : C fD w A2 x.Loop) {A3 : Option Addr} {c3 : Nat} (hl3 : x.gB.length ≤ c3) (hC3 : C gH w A3 x.gB) {A4 : Option Addr} {c4 : Nat} (hl4 : x.Out.length ≤ c4) (hC4 : C bZ w A4 x.Out) : iJ.K w x [.int .i64 x.Id, .slice A1 x.bH.length c1, .slice A2 x.Loop.length c2, .slice A3 x.gB.length c3, .slice A4 x.Out.length c4] := ⟨[_], [_, _, _, _], rfl, rfl, ⟨[_], [_, _, _], rfl, ⟨A1, c1, rfl, hl1, hC1⟩, ⟨[_], [_, _], rfl, ⟨A2, c2, rfl, hl2, hC2⟩, ⟨[_], [_], rfl, ⟨A3, c3, rfl, hl3, hC3⟩, ⟨A4, c4, rfl, hl4, hC4⟩⟩⟩⟩⟩
theorem to_Vat (x : GVat) (cs : List Value) (w : World) (h : kl_Vat.K w x cs) (hs : gD x ≤ 1048576) : Calls Tryz.prog 53 #[.agg cs.toArray] w (jU iJ x w) := by
 obtain ⟨A1, c1, A2, c2, A3, c3, A4, c4, rfl, hl1, hC1, hl2, hC2, hl3, hC3, hl4, hC4⟩ := kl_Vat_K h
 have HC1 := Sd.mk hC1
 have HC2 := Sd.mk hC2
 have HC3 := Sd.mk hC3
 have HC4 := Sd.mk hC4
 clear hC1 hC2 hC3 hC4
 have s_Entities : bB dK x.bH ≤ 1048576 := by unfold gD at hs; omega
 have s_Loop : bB fK x.Loop ≤ 1048576 := by unfold gD at hs; omega
 have s_Links : bB fM x.gB ≤ 1048576 := by unfold gD at hs; omega
 have s_Out : bB dF x.Out ≤ 1048576 := by unfold gD at hs; omega
 clear hs
 go_enter Tryz.func53, Tryz.ntmps53
 go_wp2_with fail
 with_reducible refine (toS_Entity x.bH _ _ _ ?hc_Entities s_Entities).mono ?_
 case hc_Entities => exact aM kA HC1.out
 rintro e w_Entities ⟨v1, rfl, hR1, hu⟩
 obtain ⟨B1, b1, rfl⟩ := aV hR1
 obtain ⟨P1, hR1', g1, l1⟩ := fP hR1 (w.heap.size + 1 + 1 + 1) kB
 have ge1 : ∀ b, P1 b → w.heap.size + 1 + 1 < b := fun b hb => by have := g1 b hb; omega
 have n1_1 : ¬ P1 (w.heap.size + 1) := fun q => by have := ge1 _ q; omega
 have n2_1 : ¬ P1 (w.heap.size + 1 + 1) := fun q => by have := ge1 _ q; omega
 have HR1 := Sd.mk hR1'
 have GE1 := Sd.mk ge1
 have LT1 := Sd.mk l1
 have GP1 := Sd.mk g1
 clear hR1 hR1' ge1 l1 g1
 have HB_Entities : Sd (Upd No w w_Entities) := Sd.mk (Upd.then kA hu)
 have cc0_Entities := fun o => hu.aI (b := w.heap.size) kB (fun q => q) o
 have cc1_Entities := fun o => hu.aI (b := w.heap.size + 1) kB (fun q => q) o
 have cf1_Entities := fun o => hu.bP (b := w.heap.size + 1) kB (fun q => q) o
 have cc2_Entities := fun o => hu.aI (b := w.heap.size + 1 + 1) kB (fun q => q) o
 have cf2_Entities := fun o => hu.bP (b := w.heap.size + 1 + 1) kB (fun q => q) o
 have hz_Entities : w.heap.size + 1 + 1 + 1 ≤ w_Entities.heap.size := by have := hu.size; (try simp at this); omega
 clear hu
 go_wp2_with fail
 with_reducible refine (toS_Sent x.Loop _ _ _ ?hc_Loop s_Loop).mono ?_
 case hc_Loop => exact aM (by repeat (with_reducible first | exact HB_Entities.out | apply Upd.aT | apply Upd.aS | apply Upd.aP | apply Upd.alloc | apply Upd.drewN | apply Upd.drew)) HC2.out
 rintro e w_Loop ⟨v2, rfl, hR2, hu⟩
 obtain ⟨B2, b2, rfl⟩ := aV hR2
 obtain ⟨P2, hR2', g2, l2⟩ := fP hR2 (w_Entities.heap.size) kB
 have ge2 : ∀ b, P2 b → w.heap.size + 1 + 1 < b := fun b hb => by have := g2 b hb; have := hz_Entities; omega
 have n1_2 : ¬ P2 (w.heap.size + 1) := fun q => by have := ge2 _ q; omega
 have n2_2 : ¬ P2 (w.heap.size + 1 + 1) := fun q => by have := ge2 _ q; omega
 have HR2 := Sd.mk hR2'
 have GE2 := Sd.mk ge2
 have LT2 := Sd.mk l2
 have GP2 := Sd.mk g2
 clear hR2 hR2' ge2 l2 g2
 have HR1 := Sd.mk (aO hu (fun _ _ q => q) (eH HR1.out (by repeat (with_reducible first | exact Upd.refl _ _ | apply Upd.eT n1_1 | apply Upd.eT n2_1 | apply Upd.alloc))))
 have HB_Loop : Sd (Upd No w w_Loop) := Sd.mk (Upd.then (by repeat (with_reducible first | exact HB_Entities.out | apply Upd.aT | apply Upd.aS | apply Upd.aP | apply Upd.alloc | apply Upd.drewN | apply Upd.drew)) hu)
 have cc0_Loop := fun o => hu.aI (b := w.heap.size) kB (fun q => q) o
 have cc1_Loop := fun o => hu.aI (b := w.heap.size + 1) kB (fun q => q) o
 have cf1_Loop := fun o => hu.bP (b := w.heap.size + 1) kB (fun q => q) o
 have cc2_Loop := fun o => hu.aI (b := w.heap.size + 1 + 1) kB (fun q => q) o
 have cf2_Loop := fun o => hu.bP (b := w.heap.size + 1 + 1) kB (fun q => q) o
 have hz_Loop : w.heap.size + 1 + 1 + 1 ≤ w_Loop.heap.size := by have := hu.size; (try simp at this); omega
 have hm_Loop : w_Entities.heap.size ≤ w_Loop.heap.size := by have := hu.size; (try simp at this); omega
 clear hu
 go_wp2_with fail
 with_reducible refine (toS_Link x.gB _ _ _ ?hc_Links s_Links).mono ?_
 case hc_Links => exact aM (by repeat (with_reducible first | exact HB_Loop.out | apply Upd.aT | apply Upd.aS | apply Upd.aP | apply Upd.alloc | apply Upd.drewN | apply Upd.drew)) HC3.out
 rintro e w_Links ⟨v3, rfl, hR3, hu⟩
 obtain ⟨B3, b3, rfl⟩ := aV hR3
 obtain ⟨P3, hR3', g3, l3⟩ := fP hR3 (w_Loop.heap.size) kB
 have ge3 : ∀ b, P3 b → w.heap.size + 1 + 1 < b := fun b hb => by have := g3 b hb; have := hz_Loop; omega
 have n1_3 : ¬ P3 (w.heap.size + 1) := fun q => by have := ge3 _ q; omega
 have n2_3 : ¬ P3 (w.heap.size + 1 + 1) := fun q => by have := ge3 _ q; omega
 have HR3 := Sd.mk hR3'
 have GE3 := Sd.mk ge3
 have LT3 := Sd.mk l3
 have GP3 := Sd.mk g3
 clear hR3 hR3' ge3 l3 g3
 have HR1 := Sd.mk (aO hu (fun _ _ q => q) (eH HR1.out (by repeat (with_reducible first | exact Upd.refl _ _ | apply Upd.eT n1_1 | apply Upd.eT n2_1 | apply Upd.alloc))))
 have HR2 := Sd.mk (aO hu (fun _ _ q => q) (eH HR2.out (by repeat (with_reducible first | exact Upd.refl _ _ | apply Upd.eT n1_2 | apply Upd.eT n2_2 | apply Upd.alloc))))
 have HB_Links : Sd (Upd No w w_Links) := Sd.mk (Upd.then (by repeat (with_reducible first | exact HB_Loop.out | apply Upd.aT | apply Upd.aS | apply Upd.aP | apply Upd.alloc | apply Upd.drewN | apply Upd.drew)) hu)
 have cc0_Links := fun o => hu.aI (b := w.heap.size) kB (fun q => q) o
 have cc1_Links := fun o => hu.aI (b := w.heap.size + 1) kB (fun q => q) o
 have cf1_Links := fun o => hu.bP (b := w.heap.size + 1) kB (fun q => q) o
 have cc2_Links := fun o => hu.aI (b := w.heap.size + 1 + 1) kB (fun q => q) o
 have cf2_Links := fun o => hu.bP (b := w.heap.size + 1 + 1) kB (fun q => q) o
 have hz_Links : w.heap.size + 1 + 1 + 1 ≤ w_Links.heap.size := by have := hu.size; (try simp at this); omega
 have hm_Links : w_Loop.heap.size ≤ w_Links.heap.size := by have := hu.size; (try simp at this); omega
 clear hu
 go_wp2_with fail
 with_reducible refine (toS_Outgoing x.Out _ _ _ ?hc_Out s_Out).mono ?_
 case hc_Out => exact aM (by repeat (with_reducible first | exact HB_Links.out | apply Upd.aT | apply Upd.aS | apply Upd.aP | apply Upd.alloc | apply Upd.drewN | apply Upd.drew)) HC4.out
 rintro e w_Out ⟨v4, rfl, hR4, hu⟩
 obtain ⟨B4, b4, rfl⟩ := aV hR4
 obtain ⟨P4, hR4', g4, l4⟩ := fP hR4 (w_Links.heap.size) kB
 have ge4 : ∀ b, P4 b → w.heap.size + 1 + 1 < b := fun b hb => by have := g4 b hb; have := hz_Links; omega
 have n1_4 : ¬ P4 (w.heap.size + 1) := fun q => by have := ge4 _ q; omega
 have n2_4 : ¬ P4 (w.heap.size + 1 + 1) := fun q => by have := ge4 _ q; omega
 have HR4 := Sd.mk hR4'
 have GE4 := Sd.mk ge4
 have LT4 := Sd.mk l4
 have GP4 := Sd.mk g4
 clear hR4 hR4' ge4 l4 g4
 have HR1 := Sd.mk (aO hu (fun _ _ q => q) (eH HR1.out (by repeat (with_reducible first | exact Upd.refl _ _ | apply Upd.eT n1_1 | apply Upd.eT n2_1 | apply Upd.alloc))))
 have HR2 := Sd.mk (aO hu (fun _ _ q => q) (eH HR2.out (by repeat (with_reducible first | exact Upd.refl _ _ | apply Upd.eT n1_2 | apply Upd.eT n2_2 | apply Upd.alloc))))
 have HR3 := Sd.mk (aO hu (fun _ _ q => q) (eH HR3.out (by repeat (with_reducible first | exact Upd.refl _ _ | apply Upd.eT n1_3 | apply Upd.eT n2_3 | apply Upd.alloc))))
 have HB_Out : Sd (Upd No w w_Out) := Sd.mk (Upd.then (by repeat (with_reducible first | exact HB_Links.out | apply Upd.aT | apply Upd.aS | apply Upd.aP | apply Upd.alloc | apply Upd.drewN | apply Upd.drew)) hu)
 have cc0_Out := fun o => hu.aI (b := w.heap.size) kB (fun q => q) o
 have cc1_Out := fun o => hu.aI (b := w.heap.size + 1) kB (fun q => q) o
 have cf1_Out := fun o => hu.bP (b := w.heap.size + 1) kB (fun q => q) o
 have cc2_Out := fun o => hu.aI (b := w.heap.size + 1 + 1) kB (fun q => q) o
 have cf2_Out := fun o => hu.bP (b := w.heap.size + 1 + 1) kB (fun q => q) o
 have hz_Out : w.heap.size + 1 + 1 + 1 ≤ w_Out.heap.size := by have := hu.size; (try simp at this); omega
 have hm_Out : w_Links.heap.size ≤ w_Out.heap.size := by have := hu.size; (try simp at this); omega
 clear hu
 go_wp2
 refine bodyPost_ret (v := .agg #[.int .i64 x.Id, .slice B1 x.bH.length b1, .slice B2 x.Loop.length b2, .slice B3 x.gB.length b3, .slice B4 x.Out.length b4]) (by simp [results, Tryz.results53, go_sem, cc1_Entities, cc1_Loop, cc1_Links, cc1_Out]) rfl ⟨_, rfl, ?_, (by repeat (with_reducible first | exact HB_Out.out | apply Upd.aT | apply Upd.aS | apply Upd.aP | apply Upd.alloc | apply Upd.drewN | apply Upd.drew))⟩
 exact ki_Vat_mk _ _ _ (eH HR1.out (by repeat (with_reducible first | exact Upd.refl _ _ | apply Upd.eT n1_1 | apply Upd.eT n2_1 | apply Upd.alloc))) (eH HR2.out (by repeat (with_reducible first | exact Upd.refl _ _ | apply Upd.eT n1_2 | apply Upd.eT n2_2 | apply Upd.alloc))) (eH HR3.out (by repeat (with_reducible first | exact Upd.refl _ _ | apply Upd.eT n1_3 | apply Upd.eT n2_3 | apply Upd.alloc))) (eH HR4.out (by repeat (with_reducible first | exact Upd.refl _ _ | apply Upd.eT n1_4 | apply Upd.eT n2_4 | apply Upd.alloc))) (fun k hk => by have := GE1.out k hk; simp only [New]; omega) (fun k hk => by have := GE2.out k hk; simp only [New]; omega) (fun k hk => by have := GE3.out k hk; simp only [New]; omega) (fun k hk => by have := GE4.out k hk; simp only [New]; omega) (fun k hk hk' => by have h1 := LT1.out k hk; have h2 := GP2.out k hk'; omega) (fun k hk hk' => by have h1 := LT1.out k hk; have h2 := GP3.out k hk'; have := hm_Loop; omega) (fun k hk hk' => by have h1 := LT1.out k hk; have h2 := GP4.out k hk'; have := hm_Loop; have := hm_Links; omega) (fun k hk hk' => by have h1 := LT2.out k hk; have h2 := GP3.out k hk'; omega) (fun k hk hk' => by have h1 := LT2.out k hk; have h2 := GP4.out k hk'; have := hm_Links; omega) (fun k hk hk' => by have h1 := LT3.out k hk; have h2 := GP4.out k hk'; omega)
theorem toS_Vat (l : List GVat) (A : Option Addr) (c : Nat) (w : World) (h : C kl_Vat w A l) (hs : bB gD l ≤ 1048576) : Calls Tryz.prog 26 #[.slice A l.length c] w (jH iJ 80 l w) := by
 have hn : l.length ≤ 1048576 := by unfold bB at hs; omega
 have hmk := iB (P := Tryz.prog) _ _ _ Tryz.underlying31 ki_Vat_info l.length hn kD
 have H := Sd.mk h
 have HS := Sd.mk hs
 clear h hs
 go_enter Tryz.func26, Tryz.ntmps26
 go_wp2
 clear hmk
 have HR : Sd (R iJ 80 (w.alloc (eD (.agg #[.int .i64 0, .slice none 0 0, .slice none 0 0, .slice none 0 0, .slice none 0 0]) (l.length * 5) 80)) (New w) (.slice (some ⟨w.heap.size, 0, none⟩) l.length l.length) (List.replicate l.length zVat)) := Sd.mk (kL (d := iJ) (e := 80) w (.agg #[.int .i64 0, .slice none 0 0, .slice none 0 0, .slice none 0 0, .slice none 0 0]) zVat rfl kD ki_Vat_zero l.length hn)
 have HU := Sd.mk ((Upd.refl No w).alloc (eD (.agg #[.int .i64 0, .slice none 0 0, .slice none 0 0, .slice none 0 0, .slice none 0 0]) (l.length * 5) 80))
 go_loopg [4] l.length (fun k v wr => ∃ i : Nat, i + k = l.length ∧ v = .int .i64 i ∧ Sd (R iJ 80 wr (New w) (.slice (some ⟨w.heap.size, 0, none⟩) l.length l.length) (upTo l (List.replicate l.length zVat) i)) ∧ Sd (Upd No w wr))
 case atStart => exact ⟨0, by omega, rfl, ⟨by rw [bX]; exact HR.out⟩, HU⟩
 case round =>
  clear HR HU
  obtain ⟨i, hi, rfl, HR, HU⟩ := hrel
  by_cases hlt : i < l.length
  ·obtain ⟨ad, A1, c1, A2, c2, A3, c3, A4, c4, rfl, a0, a1, a2, a3, a4, hl1, hC1, hl2, hC2, hl3, hC3, hl4, hC4⟩ := kl_Vat_at (aM HU.out H.out) i hlt
   have HC1 := Sd.mk hC1
   clear hC1
   have HC2 := Sd.mk hC2
   clear hC2
   have HC3 := Sd.mk hC3
   clear hC3
   have HC4 := Sd.mk hC4
   clear hC4
   have hsi : gD l[i] ≤ 1048576 := by have := HS.out; have := iZ gD l i hlt; unfold bB at *; omega
   go_wp2_with fail
   with_reducible refine (to_Vat l[i] _ _ (kl_Vat_Kmk _ _ hl1 HC1.out hl2 HC2.out hl3 HC3.out hl4 HC4.out) hsi).mono ?_
   rintro e w1 ⟨cs, rfl, hM, hu⟩
   obtain ⟨v1, P1, v2, P2, v3, P3, v4, P4, rfl, hR1, hR2, hR3, hR4, i1, i2, i3, i4, d1_2, d1_3, d1_4, d2_3, d2_4, d3_4⟩ := ki_Vat_M (iJ.M_lt hM)
   obtain ⟨D1, d1, rfl⟩ := aV hR1
   obtain ⟨D2, d2, rfl⟩ := aV hR2
   obtain ⟨D3, d3, rfl⟩ := aV hR3
   obtain ⟨D4, d4, rfl⟩ := aV hR4
   have HRowA := aO hu (fun _ _ q => q) (R_lt HR.out)
   have HU1 := Sd.mk (HU.out.then hu)
   have hzw := HU.out.size
   have HR1 := Sd.mk hR1
   have I1 := Sd.mk i1
   have HR2 := Sd.mk hR2
   have I2 := Sd.mk i2
   have HR3 := Sd.mk hR3
   have I3 := Sd.mk i3
   have HR4 := Sd.mk hR4
   have I4 := Sd.mk i4
   have D1_2 := Sd.mk d1_2
   have D1_3 := Sd.mk d1_3
   have D1_4 := Sd.mk d1_4
   have D2_3 := Sd.mk d2_3
   have D2_4 := Sd.mk d2_4
   have D3_4 := Sd.mk d3_4
   clear HR HU hM hu hR1 i1 hR2 i2 hR3 i3 hR4 i4 d1_2 d1_3 d1_4 d2_3 d2_4 d3_4
   obtain ⟨g, cap, cur, ce, Fi, hv, hcap, hat, hM, hg, hFi, hFg, close⟩ := fV HRowA 5 l.length rfl (by rw [dH (by simp) (by simp; omega)]; simp) i zVat (by rw [eP (by simp) (by simpa using hlt)]; simp)
   cases hv
   obtain ⟨y1, _, y2, _, y3, _, y4, _, rfl, -⟩ := ki_Vat_M hM
   have HAT := Sd.mk hat
   have x0 := hat.cell0 _ rfl
   have x1 := hat.cell 1 _ rfl
   have x2 := hat.cell 2 _ rfl
   have x3 := hat.cell 3 _ rfl
   have x4 := hat.cell 4 _ rfl
   have f0 := hat.free (i * 5)
   have f1 := hat.free (i * 5 + 1)
   have f2 := hat.free (i * 5 + 2)
   have f3 := hat.free (i * 5 + 3)
   have f4 := hat.free (i * 5 + 4)
   have CL := Sd.mk close
   clear hat close hM HRowA
   go_wp2
   have HA := ((((HAT.out.set0 kD (.int .i64 l[i].Id)).set 1 kD (.slice D1 l[i].bH.length d1)).set 2 kD (.slice D2 l[i].Loop.length d2)).set 3 kD (.slice D3 l[i].gB.length d3)).set 4 kD (.slice D4 l[i].Out.length d4)
   have hD1 : ∀ b, P1 b → ¬ (b = w.heap.size ∨ Fi b) := by
    intro b hb q
    have h1 := (I1.out b hb).1
    simp only [New] at h1
    rcases q with rfl | q
    ·exact absurd hg.2 kO
    ·have h2 := (hFi b q).2
     omega
   have hD2 : ∀ b, P2 b → ¬ (b = w.heap.size ∨ Fi b) := by
    intro b hb q
    have h1 := (I2.out b hb).1
    simp only [New] at h1
    rcases q with rfl | q
    ·exact absurd hg.2 kO
    ·have h2 := (hFi b q).2
     omega
   have hD3 : ∀ b, P3 b → ¬ (b = w.heap.size ∨ Fi b) := by
    intro b hb q
    have h1 := (I3.out b hb).1
    simp only [New] at h1
    rcases q with rfl | q
    ·exact absurd hg.2 kO
    ·have h2 := (hFi b q).2
     omega
   have hD4 : ∀ b, P4 b → ¬ (b = w.heap.size ∨ Fi b) := by
    intro b hb q
    have h1 := (I4.out b hb).1
    simp only [New] at h1
    rcases q with rfl | q
    ·exact absurd hg.2 kO
    ·have h2 := (hFi b q).2
     omega
   have HM := ki_Vat_mk _ (fun b => P1 b ∨ P2 b ∨ P3 b ∨ P4 b) l[i] (aO HA.upd hD1 HR1.out) (aO HA.upd hD2 HR2.out) (aO HA.upd hD3 HR3.out) (aO HA.upd hD4 HR4.out) (fun k hk => Or.inl hk) (fun k hk => Or.inr (Or.inl hk)) (fun k hk => Or.inr (Or.inr (Or.inl hk))) (fun k hk => Or.inr (Or.inr (Or.inr (hk)))) D1_2.out D1_3.out D1_4.out D2_3.out D2_4.out D3_4.out
   have hP1 : ∀ b, (P1 b ∨ P2 b ∨ P3 b ∨ P4 b) → New wr b := by
    intro b hb
    rcases hb with hb | hb | hb | hb
    ·exact (I1.out b hb).1
    ·exact (I2.out b hb).1
    ·exact (I3.out b hb).1
    ·exact (I4.out b hb).1
   have HRowB := CL.out _ _ l[i] _ (New w) HA HM (fun b hb => .inr (fun q => by have h1 := hP1 b hb; have h2 := q.2; simp only [New] at h1; omega)) (fun _ q => q.1) (fun b hb => by have h1 := hP1 b hb; simp only [New] at h1 ⊢; omega)
   rw [dI (by simp) (by simpa using hlt)] at HRowB
   go_roundg (gk - 1)
   case measure => omega
   case rel => exact ⟨i + 1, by omega, by go_num, ⟨HRowB⟩, ⟨by repeat (with_reducible first | exact HU1.out | apply Upd.aP)⟩⟩
  ·go_wp2
   go_ret
   have HRowB := HR.out
   rw [dG (by simp) (by simp; omega)] at HRowB
   exact ⟨_, rfl, HRowB, HU.out⟩
theorem sz_Vat (x : GVat) (cs : List Value) (n : Int) (w : World) (h : kl_Vat.K w x cs) (hb : Bd_Vat x) (h0 : 0 ≤ n) (h1 : n ≤ 1048576) : Calls Tryz.prog 50 #[.agg cs.toArray, .int .i64 n] w (jA (gD x) n w) := by
 obtain ⟨A1, c1, A2, c2, A3, c3, A4, c4, rfl, hl1, hC1, hl2, hC2, hl3, hC3, hl4, hC4⟩ := kl_Vat_K h
 have HC1 := Sd.mk hC1
 have HC2 := Sd.mk hC2
 have HC3 := Sd.mk hC3
 have HC4 := Sd.mk hC4
 clear hC1 hC2 hC3 hC4
 obtain ⟨b_Entities, b_Loop, b_Out⟩ := hb
 have B_Entities := Sd.mk b_Entities
 clear b_Entities
 have B_Loop := Sd.mk b_Loop
 clear b_Loop
 have B_Out := Sd.mk b_Out
 clear b_Out
 go_enter Tryz.func50, Tryz.ntmps50
 go_wp2_with fail
 with_reducible refine (szS_Entity x.bH _ _ _ _ ?hc_Entities B_Entities.out kO kO).mono ?_
 case hc_Entities => exact aM kA HC1.out
 rintro e w_Entities ⟨r_Entities, rfl, hr_Entities, hu⟩
 have HB_Entities : Sd (Upd No w w_Entities) := Sd.mk (Upd.then kA hu)
 have cc0_Entities := fun o => hu.aI (b := w.heap.size) kB (fun q => q) o
 have hz_Entities : w.heap.size + 1 ≤ w_Entities.heap.size := by have := hu.size; (try simp at this); omega
 clear hu
 rcases hr_Entities with ⟨q_Entities, rfl⟩ | ⟨q_Entities, rfl⟩
 case inr =>
  go_wp2
  go_ret
  exact ⟨_, rfl, .inr ⟨by unfold gD; omega, rfl⟩, (by repeat (with_reducible first | exact HB_Entities.out | apply Upd.aT | apply Upd.aS | apply Upd.aP | apply Upd.alloc | apply Upd.drewN | apply Upd.drew))⟩
 go_wp2_with fail
 with_reducible refine (szS_Sent x.Loop _ _ _ _ ?hc_Loop B_Loop.out kO kO).mono ?_
 case hc_Loop => exact aM (by repeat (with_reducible first | exact HB_Entities.out | apply Upd.aT | apply Upd.aS | apply Upd.aP | apply Upd.alloc | apply Upd.drewN | apply Upd.drew)) HC2.out
 rintro e w_Loop ⟨r_Loop, rfl, hr_Loop, hu⟩
 have HB_Loop : Sd (Upd No w w_Loop) := Sd.mk (Upd.then (by repeat (with_reducible first | exact HB_Entities.out | apply Upd.aT | apply Upd.aS | apply Upd.aP | apply Upd.alloc | apply Upd.drewN | apply Upd.drew)) hu)
 have cc0_Loop := fun o => hu.aI (b := w.heap.size) kB (fun q => q) o
 have hz_Loop : w.heap.size + 1 ≤ w_Loop.heap.size := by have := hu.size; (try simp at this); omega
 clear hu
 rcases hr_Loop with ⟨q_Loop, rfl⟩ | ⟨q_Loop, rfl⟩
 case inr =>
  go_wp2
  go_ret
  exact ⟨_, rfl, .inr ⟨by unfold gD; omega, rfl⟩, (by repeat (with_reducible first | exact HB_Loop.out | apply Upd.aT | apply Upd.aS | apply Upd.aP | apply Upd.alloc | apply Upd.drewN | apply Upd.drew))⟩
 go_wp2_with fail
 with_reducible refine (szS_Link x.gB _ _ _ _ ?hc_Links kO kO).mono ?_
 case hc_Links => exact aM (by repeat (with_reducible first | exact HB_Loop.out | apply Upd.aT | apply Upd.aS | apply Upd.aP | apply Upd.alloc | apply Upd.drewN | apply Upd.drew)) HC3.out
 rintro e w_Links ⟨r_Links, rfl, hr_Links, hu⟩
 have HB_Links : Sd (Upd No w w_Links) := Sd.mk (Upd.then (by repeat (with_reducible first | exact HB_Loop.out | apply Upd.aT | apply Upd.aS | apply Upd.aP | apply Upd.alloc | apply Upd.drewN | apply Upd.drew)) hu)
 have cc0_Links := fun o => hu.aI (b := w.heap.size) kB (fun q => q) o
 have hz_Links : w.heap.size + 1 ≤ w_Links.heap.size := by have := hu.size; (try simp at this); omega
 clear hu
 rcases hr_Links with ⟨q_Links, rfl⟩ | ⟨q_Links, rfl⟩
 case inr =>
  go_wp2
  go_ret
  exact ⟨_, rfl, .inr ⟨by unfold gD; omega, rfl⟩, (by repeat (with_reducible first | exact HB_Links.out | apply Upd.aT | apply Upd.aS | apply Upd.aP | apply Upd.alloc | apply Upd.drewN | apply Upd.drew))⟩
 go_wp2_with fail
 with_reducible refine (szS_Outgoing x.Out _ _ _ _ ?hc_Out B_Out.out kO kO).mono ?_
 case hc_Out => exact aM (by repeat (with_reducible first | exact HB_Links.out | apply Upd.aT | apply Upd.aS | apply Upd.aP | apply Upd.alloc | apply Upd.drewN | apply Upd.drew)) HC4.out
 rintro e w_Out ⟨r_Out, rfl, hr_Out, hu⟩
 have HB_Out : Sd (Upd No w w_Out) := Sd.mk (Upd.then (by repeat (with_reducible first | exact HB_Links.out | apply Upd.aT | apply Upd.aS | apply Upd.aP | apply Upd.alloc | apply Upd.drewN | apply Upd.drew)) hu)
 have cc0_Out := fun o => hu.aI (b := w.heap.size) kB (fun q => q) o
 have hz_Out : w.heap.size + 1 ≤ w_Out.heap.size := by have := hu.size; (try simp at this); omega
 clear hu
 rcases hr_Out with ⟨q_Out, rfl⟩ | ⟨q_Out, rfl⟩
 case inr =>
  go_wp2
  go_ret
  exact ⟨_, rfl, .inr ⟨by unfold gD; omega, rfl⟩, (by repeat (with_reducible first | exact HB_Out.out | apply Upd.aT | apply Upd.aS | apply Upd.aP | apply Upd.alloc | apply Upd.drewN | apply Upd.drew))⟩
 go_wp2
 go_ret
 exact ⟨_, rfl, .inl ⟨by unfold gD; omega, by unfold gD; omega⟩, (by repeat (with_reducible first | exact HB_Out.out | apply Upd.aT | apply Upd.aS | apply Upd.aP | apply Upd.alloc | apply Upd.drewN | apply Upd.drew))⟩
theorem szS_Vat (l : List GVat) (A : Option Addr) (c : Nat) (n : Int) (w : World) (h : C kl_Vat w A l) (hb : ∀ y ∈ l, Bd_Vat y) (h0 : 0 ≤ n) (h1 : n ≤ 1048576) : Calls Tryz.prog 20 #[.slice A l.length c, .int .i64 n] w (jA (bB gD l) n w) := by
 have hn := h.1
 have H := Sd.mk h
 clear h
 have HBD := Sd.mk hb
 clear hb
 go_enter Tryz.func20, Tryz.ntmps20
 by_cases q0 : (l.length : Int) ≤ n
 case neg =>
  go_wp2
  go_ret
  exact ⟨_, rfl, .inr ⟨by unfold bB; omega, rfl⟩, Upd.refl _ _⟩
 go_wp2
 go_loopg [1, 5] l.length (fun k u v wr => ∃ i : Nat, i + k = l.length ∧ (eZ gD (l.take i) : Int) ≤ n - l.length ∧ u = .int .i64 (n - l.length - eZ gD (l.take i)) ∧ v = .int .i64 i ∧ Sd (Upd No w wr))
 case atStart => exact ⟨0, by omega, by simp [eZ]; omega, by simp [eZ], rfl, ⟨Upd.refl _ _⟩⟩
 case round =>
  obtain ⟨i, hi, hle, rfl, rfl, HU⟩ := hrel
  by_cases hlt : i < l.length
  ·obtain ⟨ad, A1, c1, A2, c2, A3, c3, A4, c4, rfl, a0, a1, a2, a3, a4, hl1, hC1, hl2, hC2, hl3, hC3, hl4, hC4⟩ := kl_Vat_at (aM HU.out H.out) i hlt
   have HC1 := Sd.mk hC1
   clear hC1
   have HC2 := Sd.mk hC2
   clear hC2
   have HC3 := Sd.mk hC3
   clear hC3
   have HC4 := Sd.mk hC4
   clear hC4
   have hst := jS gD l i hlt
   have HST := Sd.mk (iD gD l i hlt)
   generalize hs : eZ gD (l.take i) = s at *
   have HS := Sd.mk hs
   clear hs
   go_wp2_with fail
   with_reducible refine (sz_Vat l[i] _ _ _ (kl_Vat_Kmk _ _ hl1 HC1.out hl2 HC2.out hl3 HC3.out hl4 HC4.out) (HBD.out _ (List.getElem_mem hlt)) kO kO).mono ?_
   rintro e w1 ⟨r, rfl, hr, hu⟩
   have HU1 := Sd.mk (HU.out.then hu)
   clear hu HU
   rcases hr with ⟨q, rfl⟩ | ⟨q, rfl⟩
   ·go_wp2
    go_roundg (gk - 1)
    case measure => omega
    case rel => exact ⟨i + 1, by omega, by rw [HST.out]; omega, by rw [HST.out]; exact congrArg (Value.int .i64) kO, by go_num, HU1⟩
   ·go_wp2
    go_ret
    exact ⟨_, rfl, .inr ⟨by unfold bB; omega, rfl⟩, HU1.out⟩
  ·go_wp2
   go_ret
   have e : l.take i = l := List.take_of_length_le kO
   rw [e] at hle
   exact ⟨_, rfl, .inl ⟨by unfold bB; omega, by rw [e]; unfold bB; omega⟩, HU.out⟩
theorem eq_Vat (x : GVat) (cs cs' : List Value) (w : World) (h : iJ.K w x cs) (h' : iJ.K w x cs') : Calls Tryz.prog 59 #[.agg cs.toArray, .agg cs'.toArray] w (bU true w) := by
 obtain ⟨A1, c1, A2, c2, A3, c3, A4, c4, rfl, hl1, hC1, hl2, hC2, hl3, hC3, hl4, hC4⟩ := ki_Vat_K h
 have HC1 := Sd.mk hC1
 have HC2 := Sd.mk hC2
 have HC3 := Sd.mk hC3
 have HC4 := Sd.mk hC4
 clear hC1 hC2 hC3 hC4
 obtain ⟨B1, b1, B2, b2, B3, b3, B4, b4, rfl, hm1, hD1, hm2, hD2, hm3, hD3, hm4, hD4⟩ := ki_Vat_K h'
 have HD1 := Sd.mk hD1
 have HD2 := Sd.mk hD2
 have HD3 := Sd.mk hD3
 have HD4 := Sd.mk hD4
 clear hD1 hD2 hD3 hD4
 go_enter Tryz.func59, Tryz.ntmps59
 go_wp2_with fail
 with_reducible refine (eqS_Entity x.bH _ _ _ _ _ ?hc_Entities ?hd_Entities).mono ?_
 case hc_Entities => exact aM kA HC1.out
 case hd_Entities => exact aM kA HD1.out
 rintro e w_Entities ⟨rfl, hu⟩
 have HB_Entities : Sd (Upd No w w_Entities) := Sd.mk (Upd.then kA hu)
 have cc0_Entities := fun o => hu.aI (b := w.heap.size) kB (fun q => q) o
 have cc1_Entities := fun o => hu.aI (b := w.heap.size + 1) kB (fun q => q) o
 have hz_Entities : w.heap.size + 1 + 1 ≤ w_Entities.heap.size := by have := hu.size; (try simp at this); omega
 clear hu
 go_wp2_with fail
 with_reducible refine (eqS_Sent x.Loop _ _ _ _ _ ?hc_Loop ?hd_Loop).mono ?_
 case hc_Loop => exact aM (by repeat (with_reducible first | exact HB_Entities.out | apply Upd.aT | apply Upd.aS | apply Upd.aP | apply Upd.alloc | apply Upd.drewN | apply Upd.drew)) HC2.out
 case hd_Loop => exact aM (by repeat (with_reducible first | exact HB_Entities.out | apply Upd.aT | apply Upd.aS | apply Upd.aP | apply Upd.alloc | apply Upd.drewN | apply Upd.drew)) HD2.out
 rintro e w_Loop ⟨rfl, hu⟩
 have HB_Loop : Sd (Upd No w w_Loop) := Sd.mk (Upd.then (by repeat (with_reducible first | exact HB_Entities.out | apply Upd.aT | apply Upd.aS | apply Upd.aP | apply Upd.alloc | apply Upd.drewN | apply Upd.drew)) hu)
 have cc0_Loop := fun o => hu.aI (b := w.heap.size) kB (fun q => q) o
 have cc1_Loop := fun o => hu.aI (b := w.heap.size + 1) kB (fun q => q) o
 have hz_Loop : w.heap.size + 1 + 1 ≤ w_Loop.heap.size := by have := hu.size; (try simp at this); omega
 clear hu
 go_wp2_with fail
 with_reducible refine (eqS_Link x.gB _ _ _ _ _ ?hc_Links ?hd_Links).mono ?_
 case hc_Links => exact aM (by repeat (with_reducible first | exact HB_Loop.out | apply Upd.aT | apply Upd.aS | apply Upd.aP | apply Upd.alloc | apply Upd.drewN | apply Upd.drew)) HC3.out
 case hd_Links => exact aM (by repeat (with_reducible first | exact HB_Loop.out | apply Upd.aT | apply Upd.aS | apply Upd.aP | apply Upd.alloc | apply Upd.drewN | apply Upd.drew)) HD3.out
 rintro e w_Links ⟨rfl, hu⟩
 have HB_Links : Sd (Upd No w w_Links) := Sd.mk (Upd.then (by repeat (with_reducible first | exact HB_Loop.out | apply Upd.aT | apply Upd.aS | apply Upd.aP | apply Upd.alloc | apply Upd.drewN | apply Upd.drew)) hu)
 have cc0_Links := fun o => hu.aI (b := w.heap.size) kB (fun q => q) o
 have cc1_Links := fun o => hu.aI (b := w.heap.size + 1) kB (fun q => q) o
 have hz_Links : w.heap.size + 1 + 1 ≤ w_Links.heap.size := by have := hu.size; (try simp at this); omega
 clear hu
 go_wp2_with fail
 with_reducible refine (eqS_Outgoing x.Out _ _ _ _ _ ?hc_Out ?hd_Out).mono ?_
 case hc_Out => exact aM (by repeat (with_reducible first | exact HB_Links.out | apply Upd.aT | apply Upd.aS | apply Upd.aP | apply Upd.alloc | apply Upd.drewN | apply Upd.drew)) HC4.out
 case hd_Out => exact aM (by repeat (with_reducible first | exact HB_Links.out | apply Upd.aT | apply Upd.aS | apply Upd.aP | apply Upd.alloc | apply Upd.drewN | apply Upd.drew)) HD4.out
 rintro e w_Out ⟨rfl, hu⟩
 have HB_Out : Sd (Upd No w w_Out) := Sd.mk (Upd.then (by repeat (with_reducible first | exact HB_Links.out | apply Upd.aT | apply Upd.aS | apply Upd.aP | apply Upd.alloc | apply Upd.drewN | apply Upd.drew)) hu)
 have cc0_Out := fun o => hu.aI (b := w.heap.size) kB (fun q => q) o
 have cc1_Out := fun o => hu.aI (b := w.heap.size + 1) kB (fun q => q) o
 have hz_Out : w.heap.size + 1 + 1 ≤ w_Out.heap.size := by have := hu.size; (try simp at this); omega
 clear hu
 go_wp2
 go_ret
 exact ⟨rfl, (by repeat (with_reducible first | exact HB_Out.out | apply Upd.aT | apply Upd.aS | apply Upd.aP | apply Upd.alloc | apply Upd.drewN | apply Upd.drew))⟩
theorem eqS_Vat (l : List GVat) (A A' : Option Addr) (c c' : Nat) (w : World) (h : C iJ w A l) (h' : C iJ w A' l) : Calls Tryz.prog 31 #[.slice A l.length c, .slice A' l.length c'] w (bU true w) := by
 have hn := h.1
 have H := Sd.mk h
 have H' := Sd.mk h'
 clear h h'
 go_enter Tryz.func31, Tryz.ntmps31
 go_wp2
 go_loopg [5] l.length (fun k v wr => ∃ i : Nat, i + k = l.length ∧ v = .int .i64 i ∧ Sd (Upd No w wr))
 case atStart => exact ⟨0, by omega, rfl, ⟨Upd.refl _ _⟩⟩
 case round =>
  obtain ⟨i, hi, rfl, HU⟩ := hrel
  by_cases hlt : i < l.length
  ·obtain ⟨ad, A1, c1, A2, c2, A3, c3, A4, c4, rfl, a0, a1, a2, a3, a4, hl1, hC1, hl2, hC2, hl3, hC3, hl4, hC4⟩ := ki_Vat_at (aM HU.out H.out) i hlt
   obtain ⟨ad', B1, b1, B2, b2, B3, b3, B4, b4, rfl, z0, z1, z2, z3, z4, hm1, hD1, hm2, hD2, hm3, hD3, hm4, hD4⟩ := ki_Vat_at (aM HU.out H'.out) i hlt
   have HC1 := Sd.mk hC1
   have HD1 := Sd.mk hD1
   clear hC1 hD1
   have HC2 := Sd.mk hC2
   have HD2 := Sd.mk hD2
   clear hC2 hD2
   have HC3 := Sd.mk hC3
   have HD3 := Sd.mk hD3
   clear hC3 hD3
   have HC4 := Sd.mk hC4
   have HD4 := Sd.mk hD4
   clear hC4 hD4
   go_wp2_with fail
   go_still_tail 8, kR
   change wpList _ _ _ _ _ wr.drew
   have HW : Sd (Upd No wr wr.drew) := ⟨(Upd.refl _ _).drew⟩
   have HU2 : Sd (Upd No w wr.drew) := ⟨HU.out.drew⟩
   generalize wr.drew = w2 at *
   go_wp2_with (go_at_call 59; (with_reducible refine (eq_Vat l[i] _ _ _ (ki_Vat_Kmk _ _ hl1 (aM HW.out HC1.out) hl2 (aM HW.out HC2.out) hl3 (aM HW.out HC3.out) hl4 (aM HW.out HC4.out)) (ki_Vat_Kmk _ _ hm1 (aM HW.out HD1.out) hm2 (aM HW.out HD2.out) hm3 (aM HW.out HD3.out) hm4 (aM HW.out HD4.out))).mono ?_); rintro e w' ⟨rfl, hu⟩)
   have HU3 := Sd.mk (HU2.out.then hu)
   clear HU2 hu
   go_wp2
   go_roundg (gk - 1)
   case measure => omega
   case rel => exact ⟨i + 1, by omega, by go_num, HU3⟩
  ·go_wp2
   go_ret
   exact ⟨rfl, HU.out⟩
theorem markS_Vat (l : List GVat) (k : Int) (F : Nat → Prop) (v : Value) (w : World) (h : R iJ 80 w F v l) (hk : 0 ≤ k) (hb : k + aQ fO l ≤ 4611686018427387904) : Calls Tryz.prog 37 #[v, .int .i64 k] w (Marks iJ 80 F v (k + aQ fO l) (mkS mk_Vat fO k l) w) := by
 obtain ⟨A, c, rfl⟩ := aV h
 have hn := R_len h
 have H := Sd.mk h
 clear h
 go_enter Tryz.func37, Tryz.ntmps37
 go_wp2
 go_loopg [1, 5] l.length (fun r u v wr => ∃ i : Nat, i + r = l.length ∧ u = .int .i64 (k + aQ fO (l.take i)) ∧ v = .int .i64 i ∧ Sd (R iJ 80 wr F (.slice A l.length c) (upTo (mkS mk_Vat fO k l) l i)) ∧ Sd (Upd F w wr))
 case atStart => exact ⟨0, by omega, by simp [aQ], rfl, ⟨by rw [bX]; exact H.out⟩, ⟨Upd.refl _ _⟩⟩
 case round =>
  obtain ⟨i, hi, rfl, rfl, HR, HU⟩ := hrel
  by_cases hlt : i < l.length
  ·have hle := dJ fO cnt_Vat_nn l i
   have hst := fQ fO l i hlt
   have hle2 := dJ fO cnt_Vat_nn l (i + 1)
   rw [hst] at hle2
   have HST := Sd.mk hst
   clear hst
   have HMA := Sd.mk (jI mk_Vat fO l k i hlt)
   obtain ⟨g, cap, cur, ce, Fi, hv, hcap, hat, hM, hg, hFi, hFg, close⟩ := fV HR.out 5 l.length rfl (dH (aR _ _ _ _) kO) i l[i] (eP (aR _ _ _ _) hlt)
   cases hv
   obtain ⟨v1, P1, v2, P2, v3, P3, v4, P4, rfl, hR1, hR2, hR3, hR4, i1, i2, i3, i4, d1_2, d1_3, d1_4, d2_3, d2_4, d3_4⟩ := ki_Vat_M hM
   obtain ⟨B1, b1, rfl⟩ := aV hR1
   have HR1 := Sd.mk hR1
   have I1 := Sd.mk i1
   have N1 : ¬ P1 g := fun q => hFg (i1 g q)
   clear hR1 i1
   have nn1 := dB bN mH l[i].bH
   obtain ⟨B2, b2, rfl⟩ := aV hR2
   have HR2 := Sd.mk hR2
   have I2 := Sd.mk i2
   have N2 : ¬ P2 g := fun q => hFg (i2 g q)
   clear hR2 i2
   have nn2 := dB bJ kW l[i].Loop
   obtain ⟨B3, b3, rfl⟩ := aV hR3
   have HR3 := Sd.mk hR3
   have I3 := Sd.mk i3
   have N3 : ¬ P3 g := fun q => hFg (i3 g q)
   clear hR3 i3
   have nn3 := dB dR nQ l[i].gB
   obtain ⟨B4, b4, rfl⟩ := aV hR4
   have HR4 := Sd.mk hR4
   have I4 := Sd.mk i4
   have N4 : ¬ P4 g := fun q => hFg (i4 g q)
   clear hR4 i4
   have nn4 := dB bF kT l[i].Out
   have D1_2 := Sd.mk d1_2
   clear d1_2
   have D1_3 := Sd.mk d1_3
   clear d1_3
   have D1_4 := Sd.mk d1_4
   clear d1_4
   have D2_3 := Sd.mk d2_3
   clear d2_3
   have D2_4 := Sd.mk d2_4
   clear d2_4
   have D3_4 := Sd.mk d3_4
   clear d3_4
   have HCN : Sd (fO l[i] = fO l[i]) := ⟨rfl⟩
   simp only [fO] at hle2
   generalize hq : k + aQ fO (l.take i) = q at *
   have HQ := Sd.mk hq
   have hq0 : 0 ≤ q := by omega
   have hqb : q + (((((0 + 1) + aQ bN l[i].bH) + aQ bJ l[i].Loop) + aQ dR l[i].gB) + aQ bF l[i].Out) ≤ 4611686018427387904 := by omega
   clear hq hle hle2 hb
   generalize hcn1 : aQ bN l[i].bH = cn1 at *
   have HC1 := Sd.mk hcn1
   clear hcn1
   generalize hcn2 : aQ bJ l[i].Loop = cn2 at *
   have HC2 := Sd.mk hcn2
   clear hcn2
   generalize hcn3 : aQ dR l[i].gB = cn3 at *
   have HC3 := Sd.mk hcn3
   clear hcn3
   generalize hcn4 : aQ bF l[i].Out = cn4 at *
   have HC4 := Sd.mk hcn4
   clear hcn4
   have HAT := Sd.mk hat
   have x0_s := hat.cell0 _ rfl
   have x1_s := hat.cell 1 _ rfl
   have x2_s := hat.cell 2 _ rfl
   have x3_s := hat.cell 3 _ rfl
   have x4_s := hat.cell 4 _ rfl
   have f0_s := hat.free (i * 5)
   have f1_s := hat.free (i * 5 + 1)
   have f2_s := hat.free (i * 5 + 2)
   have f3_s := hat.free (i * 5 + 3)
   have f4_s := hat.free (i * 5 + 4)
   have CL := Sd.mk close
   clear hat close hM HR
   go_wp2_with fail
   with_reducible refine (markS_Entity l[i].bH _ P1 _ _ ?hr_Entities kO (by rw [HC1.out]; omega)).mono ?_
   case hr_Entities => exact (aO (G := fun b => b = g) kC (fun b hb hg' => N1 (hg' ▸ hb)) HR1.out)
   rintro e w_Entities ⟨rfl, hR1, hu⟩
   rw [HC1.out]
   replace HR2 := Sd.mk (aO hu (fun b hb hg' => D1_2.out b hg' hb) (aO (G := fun b => b = g) kC (fun b hb hg' => N2 (hg' ▸ hb)) HR2.out))
   replace HR3 := Sd.mk (aO hu (fun b hb hg' => D1_3.out b hg' hb) (aO (G := fun b => b = g) kC (fun b hb hg' => N3 (hg' ▸ hb)) HR3.out))
   replace HR4 := Sd.mk (aO hu (fun b hb hg' => D1_4.out b hg' hb) (aO (G := fun b => b = g) kC (fun b hb hg' => N4 (hg' ▸ hb)) HR4.out))
   replace HR1 := Sd.mk hR1
   replace HAT := Sd.mk ((HAT.out.set0 kD (.int .i64 (q))).call hu I1.out hFg)
   clear hR1
   clear hu x0_s f0_s x1_s f1_s x2_s f2_s x3_s f3_s x4_s f4_s
   have x0_Entities := HAT.out.cell0 _ rfl
   have x1_Entities := HAT.out.cell 1 _ rfl
   have x2_Entities := HAT.out.cell 2 _ rfl
   have x3_Entities := HAT.out.cell 3 _ rfl
   have x4_Entities := HAT.out.cell 4 _ rfl
   have f0_Entities := HAT.out.free (i * 5)
   have f1_Entities := HAT.out.free (i * 5 + 1)
   have f2_Entities := HAT.out.free (i * 5 + 2)
   have f3_Entities := HAT.out.free (i * 5 + 3)
   have f4_Entities := HAT.out.free (i * 5 + 4)
   go_wp2_with fail
   with_reducible refine (markS_Sent l[i].Loop _ P2 _ _ ?hr_Loop kO (by rw [HC2.out]; omega)).mono ?_
   case hr_Loop => exact (aO (G := fun b => b = g) kC (fun b hb hg' => N2 (hg' ▸ hb)) HR2.out)
   rintro e w_Loop ⟨rfl, hR2, hu⟩
   rw [HC2.out]
   replace HR1 := Sd.mk (aO hu (fun b hb hg' => D1_2.out b hb hg') (aO (G := fun b => b = g) kC (fun b hb hg' => N1 (hg' ▸ hb)) HR1.out))
   replace HR3 := Sd.mk (aO hu (fun b hb hg' => D2_3.out b hg' hb) (aO (G := fun b => b = g) kC (fun b hb hg' => N3 (hg' ▸ hb)) HR3.out))
   replace HR4 := Sd.mk (aO hu (fun b hb hg' => D2_4.out b hg' hb) (aO (G := fun b => b = g) kC (fun b hb hg' => N4 (hg' ▸ hb)) HR4.out))
   replace HR2 := Sd.mk hR2
   replace HAT := Sd.mk (HAT.out.call hu I2.out hFg)
   clear hR2
   clear hu x0_Entities f0_Entities x1_Entities f1_Entities x2_Entities f2_Entities x3_Entities f3_Entities x4_Entities f4_Entities
   have x0_Loop := HAT.out.cell0 _ rfl
   have x1_Loop := HAT.out.cell 1 _ rfl
   have x2_Loop := HAT.out.cell 2 _ rfl
   have x3_Loop := HAT.out.cell 3 _ rfl
   have x4_Loop := HAT.out.cell 4 _ rfl
   have f0_Loop := HAT.out.free (i * 5)
   have f1_Loop := HAT.out.free (i * 5 + 1)
   have f2_Loop := HAT.out.free (i * 5 + 2)
   have f3_Loop := HAT.out.free (i * 5 + 3)
   have f4_Loop := HAT.out.free (i * 5 + 4)
   go_wp2_with fail
   with_reducible refine (markS_Link l[i].gB _ P3 _ _ ?hr_Links kO (by rw [HC3.out]; omega)).mono ?_
   case hr_Links => exact (aO (G := fun b => b = g) kC (fun b hb hg' => N3 (hg' ▸ hb)) HR3.out)
   rintro e w_Links ⟨rfl, hR3, hu⟩
   rw [HC3.out]
   replace HR1 := Sd.mk (aO hu (fun b hb hg' => D1_3.out b hb hg') (aO (G := fun b => b = g) kC (fun b hb hg' => N1 (hg' ▸ hb)) HR1.out))
   replace HR2 := Sd.mk (aO hu (fun b hb hg' => D2_3.out b hb hg') (aO (G := fun b => b = g) kC (fun b hb hg' => N2 (hg' ▸ hb)) HR2.out))
   replace HR4 := Sd.mk (aO hu (fun b hb hg' => D3_4.out b hg' hb) (aO (G := fun b => b = g) kC (fun b hb hg' => N4 (hg' ▸ hb)) HR4.out))
   replace HR3 := Sd.mk hR3
   replace HAT := Sd.mk (HAT.out.call hu I3.out hFg)
   clear hR3
   clear hu x0_Loop f0_Loop x1_Loop f1_Loop x2_Loop f2_Loop x3_Loop f3_Loop x4_Loop f4_Loop
   have x0_Links := HAT.out.cell0 _ rfl
   have x1_Links := HAT.out.cell 1 _ rfl
   have x2_Links := HAT.out.cell 2 _ rfl
   have x3_Links := HAT.out.cell 3 _ rfl
   have x4_Links := HAT.out.cell 4 _ rfl
   have f0_Links := HAT.out.free (i * 5)
   have f1_Links := HAT.out.free (i * 5 + 1)
   have f2_Links := HAT.out.free (i * 5 + 2)
   have f3_Links := HAT.out.free (i * 5 + 3)
   have f4_Links := HAT.out.free (i * 5 + 4)
   go_wp2_with fail
   with_reducible refine (markS_Outgoing l[i].Out _ P4 _ _ ?hr_Out kO (by rw [HC4.out]; omega)).mono ?_
   case hr_Out => exact (aO (G := fun b => b = g) kC (fun b hb hg' => N4 (hg' ▸ hb)) HR4.out)
   rintro e w_Out ⟨rfl, hR4, hu⟩
   rw [HC4.out]
   replace HR1 := Sd.mk (aO hu (fun b hb hg' => D1_4.out b hb hg') (aO (G := fun b => b = g) kC (fun b hb hg' => N1 (hg' ▸ hb)) HR1.out))
   replace HR2 := Sd.mk (aO hu (fun b hb hg' => D2_4.out b hb hg') (aO (G := fun b => b = g) kC (fun b hb hg' => N2 (hg' ▸ hb)) HR2.out))
   replace HR3 := Sd.mk (aO hu (fun b hb hg' => D3_4.out b hb hg') (aO (G := fun b => b = g) kC (fun b hb hg' => N3 (hg' ▸ hb)) HR3.out))
   replace HR4 := Sd.mk hR4
   replace HAT := Sd.mk (HAT.out.call hu I4.out hFg)
   clear hR4
   clear hu x0_Links f0_Links x1_Links f1_Links x2_Links f2_Links x3_Links f3_Links x4_Links f4_Links
   have x0_Out := HAT.out.cell0 _ rfl
   have x1_Out := HAT.out.cell 1 _ rfl
   have x2_Out := HAT.out.cell 2 _ rfl
   have x3_Out := HAT.out.cell 3 _ rfl
   have x4_Out := HAT.out.cell 4 _ rfl
   have f0_Out := HAT.out.free (i * 5)
   have f1_Out := HAT.out.free (i * 5 + 1)
   have f2_Out := HAT.out.free (i * 5 + 2)
   have f3_Out := HAT.out.free (i * 5 + 3)
   have f4_Out := HAT.out.free (i * 5 + 4)
   go_wp2
   have HA := HAT.out
   have hy : (⟨q, mkS kH bN (q + 1) l[i].bH, mkS kG bJ ((q + 1) + cn1) l[i].Loop, mkS mX dR (((q + 1) + cn1) + cn2) l[i].gB, mkS iW bF ((((q + 1) + cn1) + cn2) + cn3) l[i].Out⟩ : GVat) = (mkS mk_Vat fO k l)[i]'(by rw [aR]; exact hlt) := by rw [HMA.out]; simp only [mk_Vat, HC1.out, HC2.out, HC3.out, HC4.out]
   have HRowB := CL.out _ _ (⟨q, mkS kH bN (q + 1) l[i].bH, mkS kG bJ ((q + 1) + cn1) l[i].Loop, mkS mX dR (((q + 1) + cn1) + cn2) l[i].gB, mkS iW bF ((((q + 1) + cn1) + cn2) + cn3) l[i].Out⟩ : GVat) Fi F HA (ki_Vat_mk _ Fi (⟨q, mkS kH bN (q + 1) l[i].bH, mkS kG bJ ((q + 1) + cn1) l[i].Loop, mkS mX dR (((q + 1) + cn1) + cn2) l[i].gB, mkS iW bF ((((q + 1) + cn1) + cn2) + cn3) l[i].Out⟩ : GVat) (aO (G := fun b => b = g) kC (fun b hb hg' => N1 (hg' ▸ hb)) HR1.out) (aO (G := fun b => b = g) kC (fun b hb hg' => N2 (hg' ▸ hb)) HR2.out) (aO (G := fun b => b = g) kC (fun b hb hg' => N3 (hg' ▸ hb)) HR3.out) (aO (G := fun b => b = g) kC (fun b hb hg' => N4 (hg' ▸ hb)) HR4.out) I1.out I2.out I3.out I4.out D1_2.out D1_3.out D1_4.out D2_3.out D2_4.out D3_4.out) (fun _ hb => .inl hb) (fun _ hb => hb) hFi
   rw [hy, dI (aR _ _ _ _) hlt] at HRowB
   go_roundg (gk - 1)
   case measure => omega
   case rel => exact ⟨i + 1, by omega, by rw [HST.out]; simp only [fO]; have := HQ.out; have := HC1.out; have := HC2.out; have := HC3.out; have := HC4.out; exact congrArg (Value.int .i64) kO, by go_num, ⟨HRowB⟩, ⟨HU.out.trans HA.upd (fun _ _ hb => hb) (fun b _ hb => by rcases hb with rfl | hb; exact hg; exact hFi b hb)⟩⟩
  ·go_wp2
   go_ret
   have HRowB := HR.out
   rw [dG (aR _ _ _ _) kO] at HRowB
   have e : l.take i = l := List.take_of_length_le kO
   exact ⟨gX (by rw [e]), HRowB, HU.out⟩
theorem kl_Channel_Kmk (w : World) (x : GChannel) {A2 : Option Addr} {c2 : Nat} (hl2 : x.List.length ≤ c2) (hC2 : C gI w A2 x.List) : iK.K w x [.int .i64 x.From, .int .i64 x.To, .slice A2 x.List.length c2] := ⟨[_], [_, _], rfl, rfl, ⟨[_], [_], rfl, rfl, ⟨A2, c2, rfl, hl2, hC2⟩⟩⟩
theorem ki_Channel_Kmk (w : World) (x : GChannel) {A2 : Option Addr} {c2 : Nat} (hl2 : x.List.length ≤ c2) (hC2 : C dA w A2 x.List) : dO.K w x [.int .i64 x.From, .int .i64 x.To, .slice A2 x.List.length c2] := ⟨[_], [_, _], rfl, rfl, ⟨[_], [_], rfl, rfl, ⟨A2, c2, rfl, hl2, hC2⟩⟩⟩
theorem to_Channel (x : GChannel) (cs : List Value) (w : World) (h : iK.K w x cs) (hs : dQ x ≤ 1048576) : Calls Tryz.prog 54 #[.agg cs.toArray] w (jU dO x w) := by
 obtain ⟨A2, c2, rfl, hl2, hC2⟩ := kl_Channel_K h
 have HC2 := Sd.mk hC2
 clear hC2
 have s_List : bB cK x.List ≤ 1048576 := by unfold dQ at hs; omega
 clear hs
 go_enter Tryz.func54, Tryz.ntmps54
 go_wp2_with fail
 with_reducible refine (toS_Message x.List _ _ _ ?hc_List s_List).mono ?_
 case hc_List => exact aM kA HC2.out
 rintro e w_List ⟨v2, rfl, hR2, hu⟩
 obtain ⟨B2, b2, rfl⟩ := aV hR2
 obtain ⟨P2, hR2', g2, l2⟩ := fP hR2 (w.heap.size + 1 + 1 + 1) kB
 have ge2 : ∀ b, P2 b → w.heap.size + 1 + 1 < b := fun b hb => by have := g2 b hb; omega
 have n1_2 : ¬ P2 (w.heap.size + 1) := fun q => by have := ge2 _ q; omega
 have n2_2 : ¬ P2 (w.heap.size + 1 + 1) := fun q => by have := ge2 _ q; omega
 have HR2 := Sd.mk hR2'
 have GE2 := Sd.mk ge2
 have LT2 := Sd.mk l2
 have GP2 := Sd.mk g2
 clear hR2 hR2' ge2 l2 g2
 have HB_List : Sd (Upd No w w_List) := Sd.mk (Upd.then kA hu)
 have cc0_List := fun o => hu.aI (b := w.heap.size) kB (fun q => q) o
 have cc1_List := fun o => hu.aI (b := w.heap.size + 1) kB (fun q => q) o
 have cf1_List := fun o => hu.bP (b := w.heap.size + 1) kB (fun q => q) o
 have cc2_List := fun o => hu.aI (b := w.heap.size + 1 + 1) kB (fun q => q) o
 have cf2_List := fun o => hu.bP (b := w.heap.size + 1 + 1) kB (fun q => q) o
 have hz_List : w.heap.size + 1 + 1 + 1 ≤ w_List.heap.size := by have := hu.size; (try simp at this); omega
 clear hu
 go_wp2
 refine bodyPost_ret (v := .agg #[.int .i64 x.From, .int .i64 x.To, .slice B2 x.List.length b2]) (by simp [results, Tryz.results54, go_sem, cc1_List]) rfl ⟨_, rfl, ?_, (by repeat (with_reducible first | exact HB_List.out | apply Upd.aT | apply Upd.aS | apply Upd.aP | apply Upd.alloc | apply Upd.drewN | apply Upd.drew))⟩
 exact mK _ _ _ (eH HR2.out (by repeat (with_reducible first | exact Upd.refl _ _ | apply Upd.eT n1_2 | apply Upd.eT n2_2 | apply Upd.alloc))) (fun k hk => by have := GE2.out k hk; simp only [New]; omega)
theorem toS_Channel (l : List GChannel) (A : Option Addr) (c : Nat) (w : World) (h : C iK w A l) (hs : bB dQ l ≤ 1048576) : Calls Tryz.prog 27 #[.slice A l.length c] w (jH dO 102 l w) := by
 have hn : l.length ≤ 1048576 := by unfold bB at hs; omega
 have hmk := iB (P := Tryz.prog) _ _ _ Tryz.underlying32 ki_Channel_info l.length hn kD
 have H := Sd.mk h
 have HS := Sd.mk hs
 clear h hs
 go_enter Tryz.func27, Tryz.ntmps27
 go_wp2
 clear hmk
 have HR : Sd (R dO 102 (w.alloc (eD (.agg #[.int .i64 0, .int .i64 0, .slice none 0 0]) (l.length * 3) 102)) (New w) (.slice (some ⟨w.heap.size, 0, none⟩) l.length l.length) (List.replicate l.length nK)) := Sd.mk (kL (d := dO) (e := 102) w (.agg #[.int .i64 0, .int .i64 0, .slice none 0 0]) nK rfl kD ki_Channel_zero l.length hn)
 have HU := Sd.mk ((Upd.refl No w).alloc (eD (.agg #[.int .i64 0, .int .i64 0, .slice none 0 0]) (l.length * 3) 102))
 go_loopg [4] l.length (fun k v wr => ∃ i : Nat, i + k = l.length ∧ v = .int .i64 i ∧ Sd (R dO 102 wr (New w) (.slice (some ⟨w.heap.size, 0, none⟩) l.length l.length) (upTo l (List.replicate l.length nK) i)) ∧ Sd (Upd No w wr))
 case atStart => exact ⟨0, by omega, rfl, ⟨by rw [bX]; exact HR.out⟩, HU⟩
 case round =>
  clear HR HU
  obtain ⟨i, hi, rfl, HR, HU⟩ := hrel
  by_cases hlt : i < l.length
  ·obtain ⟨ad, A2, c2, rfl, a0, a1, a2, hl2, hC2⟩ := kl_Channel_at (aM HU.out H.out) i hlt
   have HC2 := Sd.mk hC2
   clear hC2
   have hsi : dQ l[i] ≤ 1048576 := by have := HS.out; have := iZ dQ l i hlt; unfold bB at *; omega
   go_wp2_with fail
   with_reducible refine (to_Channel l[i] _ _ (kl_Channel_Kmk _ _ hl2 HC2.out) hsi).mono ?_
   rintro e w1 ⟨cs, rfl, hM, hu⟩
   obtain ⟨v2, P2, rfl, hR2, i2⟩ := ki_Channel_M (dO.M_lt hM)
   obtain ⟨D2, d2, rfl⟩ := aV hR2
   have HRowA := aO hu (fun _ _ q => q) (R_lt HR.out)
   have HU1 := Sd.mk (HU.out.then hu)
   have hzw := HU.out.size
   have HR2 := Sd.mk hR2
   have I2 := Sd.mk i2
   clear HR HU hM hu hR2 i2
   obtain ⟨g, cap, cur, ce, Fi, hv, hcap, hat, hM, hg, hFi, hFg, close⟩ := fV HRowA 3 l.length rfl (by rw [dH (by simp) (by simp; omega)]; simp) i nK (by rw [eP (by simp) (by simpa using hlt)]; simp)
   cases hv
   obtain ⟨y2, _, rfl, -⟩ := ki_Channel_M hM
   have HAT := Sd.mk hat
   have x0 := hat.cell0 _ rfl
   have x1 := hat.cell 1 _ rfl
   have x2 := hat.cell 2 _ rfl
   have f0 := hat.free (i * 3)
   have f1 := hat.free (i * 3 + 1)
   have f2 := hat.free (i * 3 + 2)
   have CL := Sd.mk close
   clear hat close hM HRowA
   go_wp2
   have HA := ((HAT.out.set0 kD (.int .i64 l[i].From)).set 1 kD (.int .i64 l[i].To)).set 2 kD (.slice D2 l[i].List.length d2)
   have hD2 : ∀ b, P2 b → ¬ (b = w.heap.size ∨ Fi b) := by
    intro b hb q
    have h1 := (I2.out b hb).1
    simp only [New] at h1
    rcases q with rfl | q
    ·exact absurd hg.2 kO
    ·have h2 := (hFi b q).2
     omega
   have HM := mK _ (fun b => P2 b) l[i] (aO HA.upd hD2 HR2.out) (fun k hk => hk)
   have hP1 : ∀ b, (P2 b) → New wr b := by
    intro b hb
    exact (I2.out b hb).1
   have HRowB := CL.out _ _ l[i] _ (New w) HA HM (fun b hb => .inr (fun q => by have h1 := hP1 b hb; have h2 := q.2; simp only [New] at h1; omega)) (fun _ q => q.1) (fun b hb => by have h1 := hP1 b hb; simp only [New] at h1 ⊢; omega)
   rw [dI (by simp) (by simpa using hlt)] at HRowB
   go_roundg (gk - 1)
   case measure => omega
   case rel => exact ⟨i + 1, by omega, by go_num, ⟨HRowB⟩, ⟨by repeat (with_reducible first | exact HU1.out | apply Upd.aP)⟩⟩
  ·go_wp2
   go_ret
   have HRowB := HR.out
   rw [dG (by simp) (by simp; omega)] at HRowB
   exact ⟨_, rfl, HRowB, HU.out⟩
theorem sz_Channel (x : GChannel) (cs : List Value) (n : Int) (w : World) (h : iK.K w x cs) (hb : nL x) (h0 : 0 ≤ n) (h1 : n ≤ 1048576) : Calls Tryz.prog 51 #[.agg cs.toArray, .int .i64 n] w (jA (dQ x) n w) := by
 obtain ⟨A2, c2, rfl, hl2, hC2⟩ := kl_Channel_K h
 have HC2 := Sd.mk hC2
 clear hC2
 have b_List := hb
 unfold nL at b_List
 have B_List := Sd.mk b_List
 clear b_List
 go_enter Tryz.func51, Tryz.ntmps51
 go_wp2_with fail
 with_reducible refine (szS_Message x.List _ _ _ _ ?hc_List B_List.out kO kO).mono ?_
 case hc_List => exact aM kA HC2.out
 rintro e w_List ⟨r_List, rfl, hr_List, hu⟩
 have HB_List : Sd (Upd No w w_List) := Sd.mk (Upd.then kA hu)
 have cc0_List := fun o => hu.aI (b := w.heap.size) kB (fun q => q) o
 have hz_List : w.heap.size + 1 ≤ w_List.heap.size := by have := hu.size; (try simp at this); omega
 clear hu
 rcases hr_List with ⟨q_List, rfl⟩ | ⟨q_List, rfl⟩
 case inr =>
  go_wp2
  go_ret
  exact ⟨_, rfl, .inr ⟨by unfold dQ; omega, rfl⟩, (by repeat (with_reducible first | exact HB_List.out | apply Upd.aT | apply Upd.aS | apply Upd.aP | apply Upd.alloc | apply Upd.drewN | apply Upd.drew))⟩
 go_wp2
 go_ret
 exact ⟨_, rfl, .inl ⟨by unfold dQ; omega, by unfold dQ; omega⟩, (by repeat (with_reducible first | exact HB_List.out | apply Upd.aT | apply Upd.aS | apply Upd.aP | apply Upd.alloc | apply Upd.drewN | apply Upd.drew))⟩
theorem szS_Channel (l : List GChannel) (A : Option Addr) (c : Nat) (n : Int) (w : World) (h : C iK w A l) (hb : ∀ y ∈ l, nL y) (h0 : 0 ≤ n) (h1 : n ≤ 1048576) : Calls Tryz.prog 21 #[.slice A l.length c, .int .i64 n] w (jA (bB dQ l) n w) := by
 have hn := h.1
 have H := Sd.mk h
 clear h
 have HBD := Sd.mk hb
 clear hb
 go_enter Tryz.func21, Tryz.ntmps21
 by_cases q0 : (l.length : Int) ≤ n
 case neg =>
  go_wp2
  go_ret
  exact ⟨_, rfl, .inr ⟨by unfold bB; omega, rfl⟩, Upd.refl _ _⟩
 go_wp2
 go_loopg [1, 5] l.length (fun k u v wr => ∃ i : Nat, i + k = l.length ∧ (eZ dQ (l.take i) : Int) ≤ n - l.length ∧ u = .int .i64 (n - l.length - eZ dQ (l.take i)) ∧ v = .int .i64 i ∧ Sd (Upd No w wr))
 case atStart => exact ⟨0, by omega, by simp [eZ]; omega, by simp [eZ], rfl, ⟨Upd.refl _ _⟩⟩
 case round =>
  obtain ⟨i, hi, hle, rfl, rfl, HU⟩ := hrel
  by_cases hlt : i < l.length
  ·obtain ⟨ad, A2, c2, rfl, a0, a1, a2, hl2, hC2⟩ := kl_Channel_at (aM HU.out H.out) i hlt
   have HC2 := Sd.mk hC2
   clear hC2
   have hst := jS dQ l i hlt
   have HST := Sd.mk (iD dQ l i hlt)
   generalize hs : eZ dQ (l.take i) = s at *
   have HS := Sd.mk hs
   clear hs
   go_wp2_with fail
   with_reducible refine (sz_Channel l[i] _ _ _ (kl_Channel_Kmk _ _ hl2 HC2.out) (HBD.out _ (List.getElem_mem hlt)) kO kO).mono ?_
   rintro e w1 ⟨r, rfl, hr, hu⟩
   have HU1 := Sd.mk (HU.out.then hu)
   clear hu HU
   rcases hr with ⟨q, rfl⟩ | ⟨q, rfl⟩
   ·go_wp2
    go_roundg (gk - 1)
    case measure => omega
    case rel => exact ⟨i + 1, by omega, by rw [HST.out]; omega, by rw [HST.out]; exact congrArg (Value.int .i64) kO, by go_num, HU1⟩
   ·go_wp2
    go_ret
    exact ⟨_, rfl, .inr ⟨by unfold bB; omega, rfl⟩, HU1.out⟩
  ·go_wp2
   go_ret
   have e : l.take i = l := List.take_of_length_le kO
   rw [e] at hle
   exact ⟨_, rfl, .inl ⟨by unfold bB; omega, by rw [e]; unfold bB; omega⟩, HU.out⟩
theorem eq_Channel (x : GChannel) (cs cs' : List Value) (w : World) (h : dO.K w x cs) (h' : dO.K w x cs') : Calls Tryz.prog 60 #[.agg cs.toArray, .agg cs'.toArray] w (bU true w) := by
 obtain ⟨A2, c2, rfl, hl2, hC2⟩ := ki_Channel_K h
 have HC2 := Sd.mk hC2
 clear hC2
 obtain ⟨B2, b2, rfl, hm2, hD2⟩ := ki_Channel_K h'
 have HD2 := Sd.mk hD2
 clear hD2
 go_enter Tryz.func60, Tryz.ntmps60
 go_wp2_with fail
 with_reducible refine (eqS_Message x.List _ _ _ _ _ ?hc_List ?hd_List).mono ?_
 case hc_List => exact aM kA HC2.out
 case hd_List => exact aM kA HD2.out
 rintro e w_List ⟨rfl, hu⟩
 have HB_List : Sd (Upd No w w_List) := Sd.mk (Upd.then kA hu)
 have cc0_List := fun o => hu.aI (b := w.heap.size) kB (fun q => q) o
 have cc1_List := fun o => hu.aI (b := w.heap.size + 1) kB (fun q => q) o
 have hz_List : w.heap.size + 1 + 1 ≤ w_List.heap.size := by have := hu.size; (try simp at this); omega
 clear hu
 go_wp2
 go_ret
 exact ⟨rfl, (by repeat (with_reducible first | exact HB_List.out | apply Upd.aT | apply Upd.aS | apply Upd.aP | apply Upd.alloc | apply Upd.drewN | apply Upd.drew))⟩
theorem eqS_Channel (l : List GChannel) (A A' : Option Addr) (c c' : Nat) (w : World) (h : C dO w A l) (h' : C dO w A' l) : Calls Tryz.prog 32 #[.slice A l.length c, .slice A' l.length c'] w (bU true w) := by
 have hn := h.1
 have H := Sd.mk h
 have H' := Sd.mk h'
 clear h h'
 go_enter Tryz.func32, Tryz.ntmps32
 go_wp2
 go_loopg [5] l.length (fun k v wr => ∃ i : Nat, i + k = l.length ∧ v = .int .i64 i ∧ Sd (Upd No w wr))
 case atStart => exact ⟨0, by omega, rfl, ⟨Upd.refl _ _⟩⟩
 case round =>
  obtain ⟨i, hi, rfl, HU⟩ := hrel
  by_cases hlt : i < l.length
  ·obtain ⟨ad, A2, c2, rfl, a0, a1, a2, hl2, hC2⟩ := ki_Channel_at (aM HU.out H.out) i hlt
   obtain ⟨ad', B2, b2, rfl, z0, z1, z2, hm2, hD2⟩ := ki_Channel_at (aM HU.out H'.out) i hlt
   have HC2 := Sd.mk hC2
   have HD2 := Sd.mk hD2
   clear hC2 hD2
   go_wp2_with fail
   go_still_tail 8, kR
   change wpList _ _ _ _ _ wr.drew
   have HW : Sd (Upd No wr wr.drew) := ⟨(Upd.refl _ _).drew⟩
   have HU2 : Sd (Upd No w wr.drew) := ⟨HU.out.drew⟩
   generalize wr.drew = w2 at *
   go_wp2_with (go_at_call 60; (with_reducible refine (eq_Channel l[i] _ _ _ (ki_Channel_Kmk _ _ hl2 (aM HW.out HC2.out)) (ki_Channel_Kmk _ _ hm2 (aM HW.out HD2.out))).mono ?_); rintro e w' ⟨rfl, hu⟩)
   have HU3 := Sd.mk (HU2.out.then hu)
   clear HU2 hu
   go_wp2
   go_roundg (gk - 1)
   case measure => omega
   case rel => exact ⟨i + 1, by omega, by go_num, HU3⟩
  ·go_wp2
   go_ret
   exact ⟨rfl, HU.out⟩
theorem markS_Channel (l : List GChannel) (k : Int) (F : Nat → Prop) (v : Value) (w : World) (h : R dO 102 w F v l) (hk : 0 ≤ k) (hb : k + aQ bO l ≤ 4611686018427387904) : Calls Tryz.prog 38 #[v, .int .i64 k] w (Marks dO 102 F v (k + aQ bO l) (mkS jW bO k l) w) := by
 obtain ⟨A, c, rfl⟩ := aV h
 have hn := R_len h
 have H := Sd.mk h
 clear h
 go_enter Tryz.func38, Tryz.ntmps38
 go_wp2
 go_loopg [1, 5] l.length (fun r u v wr => ∃ i : Nat, i + r = l.length ∧ u = .int .i64 (k + aQ bO (l.take i)) ∧ v = .int .i64 i ∧ Sd (R dO 102 wr F (.slice A l.length c) (upTo (mkS jW bO k l) l i)) ∧ Sd (Upd F w wr))
 case atStart => exact ⟨0, by omega, by simp [aQ], rfl, ⟨by rw [bX]; exact H.out⟩, ⟨Upd.refl _ _⟩⟩
 case round =>
  obtain ⟨i, hi, rfl, rfl, HR, HU⟩ := hrel
  by_cases hlt : i < l.length
  ·have hle := dJ bO lJ l i
   have hst := fQ bO l i hlt
   have hle2 := dJ bO lJ l (i + 1)
   rw [hst] at hle2
   have HST := Sd.mk hst
   clear hst
   have HMA := Sd.mk (jI jW bO l k i hlt)
   obtain ⟨g, cap, cur, ce, Fi, hv, hcap, hat, hM, hg, hFi, hFg, close⟩ := fV HR.out 3 l.length rfl (dH (aR _ _ _ _) kO) i l[i] (eP (aR _ _ _ _) hlt)
   cases hv
   obtain ⟨v2, P2, rfl, hR2, i2⟩ := ki_Channel_M hM
   obtain ⟨B2, b2, rfl⟩ := aV hR2
   have HR2 := Sd.mk hR2
   have I2 := Sd.mk i2
   have N2 : ¬ P2 g := fun q => hFg (i2 g q)
   clear hR2 i2
   have nn2 := dB bM lI l[i].List
   have HCN : Sd (bO l[i] = bO l[i]) := ⟨rfl⟩
   simp only [bO] at hle2
   generalize hq : k + aQ bO (l.take i) = q at *
   have HQ := Sd.mk hq
   have hq0 : 0 ≤ q := by omega
   have hqb : q + (((0 + 1) + 1) + aQ bM l[i].List) ≤ 4611686018427387904 := by omega
   clear hq hle hle2 hb
   generalize hcn2 : aQ bM l[i].List = cn2 at *
   have HC2 := Sd.mk hcn2
   clear hcn2
   have HAT := Sd.mk hat
   have x0_s := hat.cell0 _ rfl
   have x1_s := hat.cell 1 _ rfl
   have x2_s := hat.cell 2 _ rfl
   have f0_s := hat.free (i * 3)
   have f1_s := hat.free (i * 3 + 1)
   have f2_s := hat.free (i * 3 + 2)
   have CL := Sd.mk close
   clear hat close hM HR
   go_wp2_with fail
   with_reducible refine (markS_Message l[i].List _ P2 _ _ ?hr_List kO (by rw [HC2.out]; omega)).mono ?_
   case hr_List => exact (aO (G := fun b => b = g) kC (fun b hb hg' => N2 (hg' ▸ hb)) HR2.out)
   rintro e w_List ⟨rfl, hR2, hu⟩
   rw [HC2.out]
   replace HR2 := Sd.mk hR2
   replace HAT := Sd.mk (((HAT.out.set0 kD (.int .i64 (q))).set 1 kD (.int .i64 ((q + 1)))).call hu I2.out hFg)
   clear hR2
   clear hu x0_s f0_s x1_s f1_s x2_s f2_s
   have x0_List := HAT.out.cell0 _ rfl
   have x1_List := HAT.out.cell 1 _ rfl
   have x2_List := HAT.out.cell 2 _ rfl
   have f0_List := HAT.out.free (i * 3)
   have f1_List := HAT.out.free (i * 3 + 1)
   have f2_List := HAT.out.free (i * 3 + 2)
   go_wp2
   have HA := HAT.out
   have hy : (⟨q, (q + 1), mkS jN bM ((q + 1) + 1) l[i].List⟩ : GChannel) = (mkS jW bO k l)[i]'(by rw [aR]; exact hlt) := by rw [HMA.out]; simp only [jW, HC2.out]
   have HRowB := CL.out _ _ (⟨q, (q + 1), mkS jN bM ((q + 1) + 1) l[i].List⟩ : GChannel) Fi F HA (mK _ Fi (⟨q, (q + 1), mkS jN bM ((q + 1) + 1) l[i].List⟩ : GChannel) (aO (G := fun b => b = g) kC (fun b hb hg' => N2 (hg' ▸ hb)) HR2.out) I2.out) (fun _ hb => .inl hb) (fun _ hb => hb) hFi
   rw [hy, dI (aR _ _ _ _) hlt] at HRowB
   go_roundg (gk - 1)
   case measure => omega
   case rel => exact ⟨i + 1, by omega, by rw [HST.out]; simp only [bO]; have := HQ.out; have := HC2.out; exact congrArg (Value.int .i64) kO, by go_num, ⟨HRowB⟩, ⟨HU.out.trans HA.upd (fun _ _ hb => hb) (fun b _ hb => by rcases hb with rfl | hb; exact hg; exact hFi b hb)⟩⟩
  ·go_wp2
   go_ret
   have HRowB := HR.out
   rw [dG (aR _ _ _ _) kO] at HRowB
   have e : l.take i = l := List.take_of_length_le kO
   exact ⟨gX (by rw [e]), HRowB, HU.out⟩
theorem kl_Note_Kmk (w : World) (x : GNote) : mM.K w x [.int .i64 x.Kind, .int .i64 x.Vat, .int .i64 x.Entity, .int .i64 x.Tag.Vat, .int .i64 x.Tag.Entity, .int .i64 x.Tag.Seq] := ⟨[_], [_, _, _, _, _], rfl, rfl, ⟨[_], [_, _, _, _], rfl, rfl, ⟨[_], [_, _, _], rfl, rfl, (mD w _)⟩⟩⟩
theorem ki_Note_Kmk (w : World) (x : GNote) : dS.K w x [.int .i64 x.Kind, .int .i64 x.Vat, .int .i64 x.Entity, .int .i64 x.Tag.Vat, .int .i64 x.Tag.Entity, .int .i64 x.Tag.Seq] := ⟨[_], [_, _, _, _, _], rfl, rfl, ⟨[_], [_, _, _, _], rfl, rfl, ⟨[_], [_, _, _], rfl, rfl, (eY w _)⟩⟩⟩
theorem to_Note (x : GNote) (cs : List Value) (w : World) (h : mM.K w x cs) (hs : jQ x ≤ 1048576) : Calls Tryz.prog 55 #[.agg cs.toArray] w (jU dS x w) := by
 obtain rfl := kl_Note_K h
 clear hs
 go_enter Tryz.func55, Tryz.ntmps55
 go_wp2_with fail
 with_reducible refine (to_Tag x.Tag _ _ (mD _ _) (by simp [mV])).mono ?_
 rintro e w_Tag ⟨cs_Tag, rfl, hM, hu⟩
 obtain rfl := ki_Tag_M hM
 clear hM
 have HB_Tag : Sd (Upd No w w_Tag) := Sd.mk (Upd.then kA hu)
 have cc0_Tag := fun o => hu.aI (b := w.heap.size) kB (fun q => q) o
 have cc1_Tag := fun o => hu.aI (b := w.heap.size + 1) kB (fun q => q) o
 have cf1_Tag := fun o => hu.bP (b := w.heap.size + 1) kB (fun q => q) o
 have cc2_Tag := fun o => hu.aI (b := w.heap.size + 1 + 1) kB (fun q => q) o
 have cf2_Tag := fun o => hu.bP (b := w.heap.size + 1 + 1) kB (fun q => q) o
 have hz_Tag : w.heap.size + 1 + 1 + 1 ≤ w_Tag.heap.size := by have := hu.size; (try simp at this); omega
 clear hu
 go_wp2
 refine bodyPost_ret (v := .agg #[.int .i64 x.Kind, .int .i64 x.Vat, .int .i64 x.Entity, .int .i64 x.Tag.Vat, .int .i64 x.Tag.Entity, .int .i64 x.Tag.Seq]) (by simp [results, Tryz.results55, go_sem, cc1_Tag]) rfl ⟨_, rfl, ?_, (by repeat (with_reducible first | exact HB_Tag.out | apply Upd.aT | apply Upd.aS | apply Upd.aP | apply Upd.alloc | apply Upd.drewN | apply Upd.drew))⟩
 exact ki_Note_mk _ _ _
theorem toS_Note (l : List GNote) (A : Option Addr) (c : Nat) (w : World) (h : C mM w A l) (hs : bB jQ l ≤ 1048576) : Calls Tryz.prog 28 #[.slice A l.length c] w (jH dS 52 l w) := by
 have hn : l.length ≤ 1048576 := by unfold bB at hs; omega
 have hmk := iB (P := Tryz.prog) _ _ _ Tryz.underlying33 ki_Note_info l.length hn kD
 have H := Sd.mk h
 have HS := Sd.mk hs
 clear h hs
 go_enter Tryz.func28, Tryz.ntmps28
 go_wp2
 clear hmk
 have HR : Sd (R dS 52 (w.alloc (eD (.agg #[.int .i64 0, .int .i64 0, .int .i64 0, .int .i64 0, .int .i64 0, .int .i64 0]) (l.length * 6) 52)) (New w) (.slice (some ⟨w.heap.size, 0, none⟩) l.length l.length) (List.replicate l.length zNote)) := Sd.mk (kL (d := dS) (e := 52) w (.agg #[.int .i64 0, .int .i64 0, .int .i64 0, .int .i64 0, .int .i64 0, .int .i64 0]) zNote rfl kD ki_Note_zero l.length hn)
 have HU := Sd.mk ((Upd.refl No w).alloc (eD (.agg #[.int .i64 0, .int .i64 0, .int .i64 0, .int .i64 0, .int .i64 0, .int .i64 0]) (l.length * 6) 52))
 go_loopg [4] l.length (fun k v wr => ∃ i : Nat, i + k = l.length ∧ v = .int .i64 i ∧ Sd (R dS 52 wr (New w) (.slice (some ⟨w.heap.size, 0, none⟩) l.length l.length) (upTo l (List.replicate l.length zNote) i)) ∧ Sd (Upd No w wr))
 case atStart => exact ⟨0, by omega, rfl, ⟨by rw [bX]; exact HR.out⟩, HU⟩
 case round =>
  clear HR HU
  obtain ⟨i, hi, rfl, HR, HU⟩ := hrel
  by_cases hlt : i < l.length
  ·obtain ⟨ad, rfl, a0, a1, a2, a3, a4, a5⟩ := kl_Note_at (aM HU.out H.out) i hlt
   have hsi : jQ l[i] ≤ 1048576 := by have := HS.out; have := iZ jQ l i hlt; unfold bB at *; omega
   go_wp2_with fail
   with_reducible refine (to_Note l[i] _ _ (kl_Note_Kmk _ _) hsi).mono ?_
   rintro e w1 ⟨cs, rfl, hM, hu⟩
   obtain rfl := ki_Note_M hM
   have HRowA := aO hu (fun _ _ q => q) (R_lt HR.out)
   have HU1 := Sd.mk (HU.out.then hu)
   have hzw := HU.out.size
   clear HR HU hM hu
   obtain ⟨g, cap, cur, ce, Fi, hv, hcap, hat, hM, hg, hFi, hFg, close⟩ := fV HRowA 6 l.length rfl (by rw [dH (by simp) (by simp; omega)]; simp) i zNote (by rw [eP (by simp) (by simpa using hlt)]; simp)
   cases hv
   obtain rfl := ki_Note_M hM
   have HAT := Sd.mk hat
   have x0 := hat.cell0 _ rfl
   have x1 := hat.cell 1 _ rfl
   have x2 := hat.cell 2 _ rfl
   have x3 := hat.cell 3 _ rfl
   have x4 := hat.cell 4 _ rfl
   have x5 := hat.cell 5 _ rfl
   have f0 := hat.free (i * 6)
   have f1 := hat.free (i * 6 + 1)
   have f2 := hat.free (i * 6 + 2)
   have f3 := hat.free (i * 6 + 3)
   have f4 := hat.free (i * 6 + 4)
   have f5 := hat.free (i * 6 + 5)
   have CL := Sd.mk close
   clear hat close hM HRowA
   go_wp2
   have HA := (((((HAT.out.set0 kD (.int .i64 l[i].Kind)).set 1 kD (.int .i64 l[i].Vat)).set 2 kD (.int .i64 l[i].Entity)).set 3 kD (.int .i64 l[i].Tag.Vat)).set 4 kD (.int .i64 l[i].Tag.Entity)).set 5 kD (.int .i64 l[i].Tag.Seq)
   have HRowB := CL.out _ _ l[i] No (New w) HA (ki_Note_mk _ _ _) (fun _ q => q.elim) (fun _ q => q.1) (fun _ q => q.elim)
   rw [dI (by simp) (by simpa using hlt)] at HRowB
   go_roundg (gk - 1)
   case measure => omega
   case rel => exact ⟨i + 1, by omega, by go_num, ⟨HRowB⟩, ⟨by repeat (with_reducible first | exact HU1.out | apply Upd.aP)⟩⟩
  ·go_wp2
   go_ret
   have HRowB := HR.out
   rw [dG (by simp) (by simp; omega)] at HRowB
   exact ⟨_, rfl, HRowB, HU.out⟩
theorem szS_Note (l : List GNote) (A : Option Addr) (c : Nat) (n : Int) (w : World) (h : C mM w A l) (h0 : 0 ≤ n) (h1 : n ≤ 1048576) : Calls Tryz.prog 22 #[.slice A l.length c, .int .i64 n] w (jA (bB jQ l) n w) := by
 have hn := h.1
 have H := Sd.mk h
 clear h
 go_enter Tryz.func22, Tryz.ntmps22
 by_cases q0 : (l.length : Int) ≤ n
 case neg =>
  go_wp2
  go_ret
  exact ⟨_, rfl, .inr ⟨by unfold bB; omega, rfl⟩, Upd.refl _ _⟩
 have hz : eZ jQ l = 0 := by
  clear q0 hn H
  induction l with
  | nil => rfl
  | cons x l ih => simp [eZ, jQ, ih]
 have HZ := Sd.mk hz
 clear hz
 go_wp2
 go_ret
 have hz := HZ.out
 exact ⟨_, rfl, .inl ⟨by unfold bB; omega, by unfold bB; omega⟩, Upd.refl _ _⟩
theorem eq_Note (x : GNote) (cs cs' : List Value) (w : World) (h : dS.K w x cs) (h' : dS.K w x cs') : Calls Tryz.prog 61 #[.agg cs.toArray, .agg cs'.toArray] w (bU true w) := by
 obtain rfl := iR h
 obtain rfl := iR h'
 go_enter Tryz.func61, Tryz.ntmps61
 go_wp2_with fail
 with_reducible refine (eq_Tag x.Tag _ _ _ (eY _ _) (eY _ _)).mono ?_
 rintro e w_Tag ⟨rfl, hu⟩
 have HB_Tag : Sd (Upd No w w_Tag) := Sd.mk (Upd.then kA hu)
 have cc0_Tag := fun o => hu.aI (b := w.heap.size) kB (fun q => q) o
 have cc1_Tag := fun o => hu.aI (b := w.heap.size + 1) kB (fun q => q) o
 have hz_Tag : w.heap.size + 1 + 1 ≤ w_Tag.heap.size := by have := hu.size; (try simp at this); omega
 clear hu
 go_wp2
 go_ret
 exact ⟨rfl, (by repeat (with_reducible first | exact HB_Tag.out | apply Upd.aT | apply Upd.aS | apply Upd.aP | apply Upd.alloc | apply Upd.drewN | apply Upd.drew))⟩
theorem eqS_Note (l : List GNote) (A A' : Option Addr) (c c' : Nat) (w : World) (h : C dS w A l) (h' : C dS w A' l) : Calls Tryz.prog 33 #[.slice A l.length c, .slice A' l.length c'] w (bU true w) := by
 have hn := h.1
 have H := Sd.mk h
 have H' := Sd.mk h'
 clear h h'
 go_enter Tryz.func33, Tryz.ntmps33
 go_wp2
 go_loopg [5] l.length (fun k v wr => ∃ i : Nat, i + k = l.length ∧ v = .int .i64 i ∧ Sd (Upd No w wr))
 case atStart => exact ⟨0, by omega, rfl, ⟨Upd.refl _ _⟩⟩
 case round =>
  obtain ⟨i, hi, rfl, HU⟩ := hrel
  by_cases hlt : i < l.length
  ·obtain ⟨ad, rfl, a0, a1, a2, a3, a4, a5⟩ := ki_Note_at (aM HU.out H.out) i hlt
   obtain ⟨ad', rfl, z0, z1, z2, z3, z4, z5⟩ := ki_Note_at (aM HU.out H'.out) i hlt
   go_wp2_with fail
   go_still_tail 8, kR
   change wpList _ _ _ _ _ wr.drew
   have HW : Sd (Upd No wr wr.drew) := ⟨(Upd.refl _ _).drew⟩
   have HU2 : Sd (Upd No w wr.drew) := ⟨HU.out.drew⟩
   generalize wr.drew = w2 at *
   go_wp2_with (go_at_call 61; (with_reducible refine (eq_Note l[i] _ _ _ (ki_Note_Kmk _ _) (ki_Note_Kmk _ _)).mono ?_); rintro e w' ⟨rfl, hu⟩)
   have HU3 := Sd.mk (HU2.out.then hu)
   clear HU2 hu
   go_wp2
   go_roundg (gk - 1)
   case measure => omega
   case rel => exact ⟨i + 1, by omega, by go_num, HU3⟩
  ·go_wp2
   go_ret
   exact ⟨rfl, HU.out⟩
theorem markS_Note (l : List GNote) (k : Int) (F : Nat → Prop) (v : Value) (w : World) (h : R dS 52 w F v l) (hk : 0 ≤ k) (hb : k + aQ eU l ≤ 4611686018427387904) : Calls Tryz.prog 39 #[v, .int .i64 k] w (Marks dS 52 F v (k + aQ eU l) (mkS mk_Note eU k l) w) := by
 obtain ⟨A, c, rfl⟩ := aV h
 have hn := R_len h
 have H := Sd.mk h
 clear h
 go_enter Tryz.func39, Tryz.ntmps39
 go_wp2
 go_loopg [1, 5] l.length (fun r u v wr => ∃ i : Nat, i + r = l.length ∧ u = .int .i64 (k + aQ eU (l.take i)) ∧ v = .int .i64 i ∧ Sd (R dS 52 wr F (.slice A l.length c) (upTo (mkS mk_Note eU k l) l i)) ∧ Sd (Upd F w wr))
 case atStart => exact ⟨0, by omega, by simp [aQ], rfl, ⟨by rw [bX]; exact H.out⟩, ⟨Upd.refl _ _⟩⟩
 case round =>
  obtain ⟨i, hi, rfl, rfl, HR, HU⟩ := hrel
  by_cases hlt : i < l.length
  ·have hle := dJ eU nR l i
   have hst := fQ eU l i hlt
   have hle2 := dJ eU nR l (i + 1)
   rw [hst] at hle2
   have HST := Sd.mk hst
   clear hst
   have HMA := Sd.mk (jI mk_Note eU l k i hlt)
   obtain ⟨g, cap, cur, ce, Fi, hv, hcap, hat, hM, hg, hFi, hFg, close⟩ := fV HR.out 6 l.length rfl (dH (aR _ _ _ _) kO) i l[i] (eP (aR _ _ _ _) hlt)
   cases hv
   obtain rfl := ki_Note_M hM
   have HCN : Sd (eU l[i] = eU l[i]) := ⟨rfl⟩
   simp only [eU] at hle2
   generalize hq : k + aQ eU (l.take i) = q at *
   have HQ := Sd.mk hq
   have hq0 : 0 ≤ q := by omega
   have hqb : q + ((((((0 + 1) + 1) + 1) + 1) + 1) + 1) ≤ 4611686018427387904 := by omega
   clear hq hle hle2 hb
   have HAT := Sd.mk hat
   have x0_s := hat.cell0 _ rfl
   have x1_s := hat.cell 1 _ rfl
   have x2_s := hat.cell 2 _ rfl
   have x3_s := hat.cell 3 _ rfl
   have x4_s := hat.cell 4 _ rfl
   have x5_s := hat.cell 5 _ rfl
   have f0_s := hat.free (i * 6)
   have f1_s := hat.free (i * 6 + 1)
   have f2_s := hat.free (i * 6 + 2)
   have f3_s := hat.free (i * 6 + 3)
   have f4_s := hat.free (i * 6 + 4)
   have f5_s := hat.free (i * 6 + 5)
   have CL := Sd.mk close
   clear hat close hM HR
   go_wp2
   have HA := ((((((HAT.out.set0 kD (.int .i64 (q))).set 1 kD (.int .i64 ((q + 1)))).set 2 kD (.int .i64 (((q + 1) + 1)))).set 3 kD (.int .i64 ((((q + 1) + 1) + 1)))).set 4 kD (.int .i64 (((((q + 1) + 1) + 1) + 1)))).set 5 kD (.int .i64 ((((((q + 1) + 1) + 1) + 1) + 1))))
   have hy : (⟨q, (q + 1), ((q + 1) + 1), ⟨(((q + 1) + 1) + 1), ((((q + 1) + 1) + 1) + 1), (((((q + 1) + 1) + 1) + 1) + 1)⟩⟩ : GNote) = (mkS mk_Note eU k l)[i]'(by rw [aR]; exact hlt) := by rw [HMA.out]; simp only [mk_Note]
   have HRowB := CL.out _ _ (⟨q, (q + 1), ((q + 1) + 1), ⟨(((q + 1) + 1) + 1), ((((q + 1) + 1) + 1) + 1), (((((q + 1) + 1) + 1) + 1) + 1)⟩⟩ : GNote) Fi F HA (ki_Note_mk _ Fi (⟨q, (q + 1), ((q + 1) + 1), ⟨(((q + 1) + 1) + 1), ((((q + 1) + 1) + 1) + 1), (((((q + 1) + 1) + 1) + 1) + 1)⟩⟩ : GNote)) (fun _ hb => .inl hb) (fun _ hb => hb) hFi
   rw [hy, dI (aR _ _ _ _) hlt] at HRowB
   go_roundg (gk - 1)
   case measure => omega
   case rel => exact ⟨i + 1, by omega, by rw [HST.out]; simp only [eU]; have := HQ.out; exact congrArg (Value.int .i64) kO, by go_num, ⟨HRowB⟩, ⟨HU.out.trans HA.upd (fun _ _ hb => hb) (fun b _ hb => by rcases hb with rfl | hb; exact hg; exact hFi b hb)⟩⟩
  ·go_wp2
   go_ret
   have HRowB := HR.out
   rw [dG (aR _ _ _ _) kO] at HRowB
   have e : l.take i = l := List.take_of_length_le kO
   exact ⟨gX (by rw [e]), HRowB, HU.out⟩
theorem nP (x : GWorld) (cs : List Value) (w : World) (h : kQ.K w x cs) (hs : fU x ≤ 1048576) : Calls Tryz.prog 8 #[.agg cs.toArray] w (jU cB x w) := by
 obtain ⟨A0, c0, A1, c1, A2, c2, A3, c3, rfl, hl0, hC0, hl1, hC1, hl2, hC2, hl3, hC3⟩ := kl_World_K h
 have HC0 := Sd.mk hC0
 have HC1 := Sd.mk hC1
 have HC2 := Sd.mk hC2
 have HC3 := Sd.mk hC3
 clear hC0 hC1 hC2 hC3
 have s_Library : bB eB x.bG ≤ 1048576 := by unfold fU at hs; omega
 have s_Vats : bB gD x.gT ≤ 1048576 := by unfold fU at hs; omega
 have s_Channels : bB dQ x.bA ≤ 1048576 := by unfold fU at hs; omega
 have s_Notes : bB jQ x.aB ≤ 1048576 := by unfold fU at hs; omega
 clear hs
 go_enter Tryz.func8, Tryz.ntmps8
 go_wp2_with fail
 with_reducible refine (toS_Script x.bG _ _ _ ?hc_Library s_Library).mono ?_
 case hc_Library => exact aM kA HC0.out
 rintro e w_Library ⟨v0, rfl, hR0, hu⟩
 obtain ⟨B0, b0, rfl⟩ := aV hR0
 obtain ⟨P0, hR0', g0, l0⟩ := fP hR0 (w.heap.size + 1 + 1 + 1) kB
 have ge0 : ∀ b, P0 b → w.heap.size + 1 + 1 < b := fun b hb => by have := g0 b hb; omega
 have n1_0 : ¬ P0 (w.heap.size + 1) := fun q => by have := ge0 _ q; omega
 have n2_0 : ¬ P0 (w.heap.size + 1 + 1) := fun q => by have := ge0 _ q; omega
 have HR0 := Sd.mk hR0'
 have GE0 := Sd.mk ge0
 have LT0 := Sd.mk l0
 have GP0 := Sd.mk g0
 clear hR0 hR0' ge0 l0 g0
 have HB_Library : Sd (Upd No w w_Library) := Sd.mk (Upd.then kA hu)
 have cc0_Library := fun o => hu.aI (b := w.heap.size) kB (fun q => q) o
 have cc1_Library := fun o => hu.aI (b := w.heap.size + 1) kB (fun q => q) o
 have cf1_Library := fun o => hu.bP (b := w.heap.size + 1) kB (fun q => q) o
 have cc2_Library := fun o => hu.aI (b := w.heap.size + 1 + 1) kB (fun q => q) o
 have cf2_Library := fun o => hu.bP (b := w.heap.size + 1 + 1) kB (fun q => q) o
 have hz_Library : w.heap.size + 1 + 1 + 1 ≤ w_Library.heap.size := by have := hu.size; (try simp at this); omega
 clear hu
 go_wp2_with fail
 with_reducible refine (toS_Vat x.gT _ _ _ ?hc_Vats s_Vats).mono ?_
 case hc_Vats => exact aM (by repeat (with_reducible first | exact HB_Library.out | apply Upd.aT | apply Upd.aS | apply Upd.aP | apply Upd.alloc | apply Upd.drewN | apply Upd.drew)) HC1.out
 rintro e w_Vats ⟨v1, rfl, hR1, hu⟩
 obtain ⟨B1, b1, rfl⟩ := aV hR1
 obtain ⟨P1, hR1', g1, l1⟩ := fP hR1 (w_Library.heap.size) kB
 have ge1 : ∀ b, P1 b → w.heap.size + 1 + 1 < b := fun b hb => by have := g1 b hb; have := hz_Library; omega
 have n1_1 : ¬ P1 (w.heap.size + 1) := fun q => by have := ge1 _ q; omega
 have n2_1 : ¬ P1 (w.heap.size + 1 + 1) := fun q => by have := ge1 _ q; omega
 have HR1 := Sd.mk hR1'
 have GE1 := Sd.mk ge1
 have LT1 := Sd.mk l1
 have GP1 := Sd.mk g1
 clear hR1 hR1' ge1 l1 g1
 have HR0 := Sd.mk (aO hu (fun _ _ q => q) (eH HR0.out (by repeat (with_reducible first | exact Upd.refl _ _ | apply Upd.eT n1_0 | apply Upd.eT n2_0 | apply Upd.alloc))))
 have HB_Vats : Sd (Upd No w w_Vats) := Sd.mk (Upd.then (by repeat (with_reducible first | exact HB_Library.out | apply Upd.aT | apply Upd.aS | apply Upd.aP | apply Upd.alloc | apply Upd.drewN | apply Upd.drew)) hu)
 have cc0_Vats := fun o => hu.aI (b := w.heap.size) kB (fun q => q) o
 have cc1_Vats := fun o => hu.aI (b := w.heap.size + 1) kB (fun q => q) o
 have cf1_Vats := fun o => hu.bP (b := w.heap.size + 1) kB (fun q => q) o
 have cc2_Vats := fun o => hu.aI (b := w.heap.size + 1 + 1) kB (fun q => q) o
 have cf2_Vats := fun o => hu.bP (b := w.heap.size + 1 + 1) kB (fun q => q) o
 have hz_Vats : w.heap.size + 1 + 1 + 1 ≤ w_Vats.heap.size := by have := hu.size; (try simp at this); omega
 have hm_Vats : w_Library.heap.size ≤ w_Vats.heap.size := by have := hu.size; (try simp at this); omega
 clear hu
 go_wp2_with fail
 with_reducible refine (toS_Channel x.bA _ _ _ ?hc_Channels s_Channels).mono ?_
 case hc_Channels => exact aM (by repeat (with_reducible first | exact HB_Vats.out | apply Upd.aT | apply Upd.aS | apply Upd.aP | apply Upd.alloc | apply Upd.drewN | apply Upd.drew)) HC2.out
 rintro e w_Channels ⟨v2, rfl, hR2, hu⟩
 obtain ⟨B2, b2, rfl⟩ := aV hR2
 obtain ⟨P2, hR2', g2, l2⟩ := fP hR2 (w_Vats.heap.size) kB
 have ge2 : ∀ b, P2 b → w.heap.size + 1 + 1 < b := fun b hb => by have := g2 b hb; have := hz_Vats; omega
 have n1_2 : ¬ P2 (w.heap.size + 1) := fun q => by have := ge2 _ q; omega
 have n2_2 : ¬ P2 (w.heap.size + 1 + 1) := fun q => by have := ge2 _ q; omega
 have HR2 := Sd.mk hR2'
 have GE2 := Sd.mk ge2
 have LT2 := Sd.mk l2
 have GP2 := Sd.mk g2
 clear hR2 hR2' ge2 l2 g2
 have HR0 := Sd.mk (aO hu (fun _ _ q => q) (eH HR0.out (by repeat (with_reducible first | exact Upd.refl _ _ | apply Upd.eT n1_0 | apply Upd.eT n2_0 | apply Upd.alloc))))
 have HR1 := Sd.mk (aO hu (fun _ _ q => q) (eH HR1.out (by repeat (with_reducible first | exact Upd.refl _ _ | apply Upd.eT n1_1 | apply Upd.eT n2_1 | apply Upd.alloc))))
 have HB_Channels : Sd (Upd No w w_Channels) := Sd.mk (Upd.then (by repeat (with_reducible first | exact HB_Vats.out | apply Upd.aT | apply Upd.aS | apply Upd.aP | apply Upd.alloc | apply Upd.drewN | apply Upd.drew)) hu)
 have cc0_Channels := fun o => hu.aI (b := w.heap.size) kB (fun q => q) o
 have cc1_Channels := fun o => hu.aI (b := w.heap.size + 1) kB (fun q => q) o
 have cf1_Channels := fun o => hu.bP (b := w.heap.size + 1) kB (fun q => q) o
 have cc2_Channels := fun o => hu.aI (b := w.heap.size + 1 + 1) kB (fun q => q) o
 have cf2_Channels := fun o => hu.bP (b := w.heap.size + 1 + 1) kB (fun q => q) o
 have hz_Channels : w.heap.size + 1 + 1 + 1 ≤ w_Channels.heap.size := by have := hu.size; (try simp at this); omega
 have hm_Channels : w_Vats.heap.size ≤ w_Channels.heap.size := by have := hu.size; (try simp at this); omega
 clear hu
 go_wp2_with fail
 with_reducible refine (toS_Note x.aB _ _ _ ?hc_Notes s_Notes).mono ?_
 case hc_Notes => exact aM (by repeat (with_reducible first | exact HB_Channels.out | apply Upd.aT | apply Upd.aS | apply Upd.aP | apply Upd.alloc | apply Upd.drewN | apply Upd.drew)) HC3.out
 rintro e w_Notes ⟨v3, rfl, hR3, hu⟩
 obtain ⟨B3, b3, rfl⟩ := aV hR3
 obtain ⟨P3, hR3', g3, l3⟩ := fP hR3 (w_Channels.heap.size) kB
 have ge3 : ∀ b, P3 b → w.heap.size + 1 + 1 < b := fun b hb => by have := g3 b hb; have := hz_Channels; omega
 have n1_3 : ¬ P3 (w.heap.size + 1) := fun q => by have := ge3 _ q; omega
 have n2_3 : ¬ P3 (w.heap.size + 1 + 1) := fun q => by have := ge3 _ q; omega
 have HR3 := Sd.mk hR3'
 have GE3 := Sd.mk ge3
 have LT3 := Sd.mk l3
 have GP3 := Sd.mk g3
 clear hR3 hR3' ge3 l3 g3
 have HR0 := Sd.mk (aO hu (fun _ _ q => q) (eH HR0.out (by repeat (with_reducible first | exact Upd.refl _ _ | apply Upd.eT n1_0 | apply Upd.eT n2_0 | apply Upd.alloc))))
 have HR1 := Sd.mk (aO hu (fun _ _ q => q) (eH HR1.out (by repeat (with_reducible first | exact Upd.refl _ _ | apply Upd.eT n1_1 | apply Upd.eT n2_1 | apply Upd.alloc))))
 have HR2 := Sd.mk (aO hu (fun _ _ q => q) (eH HR2.out (by repeat (with_reducible first | exact Upd.refl _ _ | apply Upd.eT n1_2 | apply Upd.eT n2_2 | apply Upd.alloc))))
 have HB_Notes : Sd (Upd No w w_Notes) := Sd.mk (Upd.then (by repeat (with_reducible first | exact HB_Channels.out | apply Upd.aT | apply Upd.aS | apply Upd.aP | apply Upd.alloc | apply Upd.drewN | apply Upd.drew)) hu)
 have cc0_Notes := fun o => hu.aI (b := w.heap.size) kB (fun q => q) o
 have cc1_Notes := fun o => hu.aI (b := w.heap.size + 1) kB (fun q => q) o
 have cf1_Notes := fun o => hu.bP (b := w.heap.size + 1) kB (fun q => q) o
 have cc2_Notes := fun o => hu.aI (b := w.heap.size + 1 + 1) kB (fun q => q) o
 have cf2_Notes := fun o => hu.bP (b := w.heap.size + 1 + 1) kB (fun q => q) o
 have hz_Notes : w.heap.size + 1 + 1 + 1 ≤ w_Notes.heap.size := by have := hu.size; (try simp at this); omega
 have hm_Notes : w_Channels.heap.size ≤ w_Notes.heap.size := by have := hu.size; (try simp at this); omega
 clear hu
 go_wp2
 refine bodyPost_ret (v := .agg #[.slice B0 x.bG.length b0, .slice B1 x.gT.length b1, .slice B2 x.bA.length b2, .slice B3 x.aB.length b3, .int .i64 x.fC]) (by simp [results, Tryz.results8, go_sem, cc1_Library, cc1_Vats, cc1_Channels, cc1_Notes]) rfl ⟨_, rfl, ?_, (by repeat (with_reducible first | exact HB_Notes.out | apply Upd.aT | apply Upd.aS | apply Upd.aP | apply Upd.alloc | apply Upd.drewN | apply Upd.drew))⟩
 exact ki_World_mk _ _ _ (eH HR0.out (by repeat (with_reducible first | exact Upd.refl _ _ | apply Upd.eT n1_0 | apply Upd.eT n2_0 | apply Upd.alloc))) (eH HR1.out (by repeat (with_reducible first | exact Upd.refl _ _ | apply Upd.eT n1_1 | apply Upd.eT n2_1 | apply Upd.alloc))) (eH HR2.out (by repeat (with_reducible first | exact Upd.refl _ _ | apply Upd.eT n1_2 | apply Upd.eT n2_2 | apply Upd.alloc))) (eH HR3.out (by repeat (with_reducible first | exact Upd.refl _ _ | apply Upd.eT n1_3 | apply Upd.eT n2_3 | apply Upd.alloc))) (fun k hk => by have := GE0.out k hk; simp only [New]; omega) (fun k hk => by have := GE1.out k hk; simp only [New]; omega) (fun k hk => by have := GE2.out k hk; simp only [New]; omega) (fun k hk => by have := GE3.out k hk; simp only [New]; omega) (fun k hk hk' => by have h1 := LT0.out k hk; have h2 := GP1.out k hk'; omega) (fun k hk hk' => by have h1 := LT0.out k hk; have h2 := GP2.out k hk'; have := hm_Vats; omega) (fun k hk hk' => by have h1 := LT0.out k hk; have h2 := GP3.out k hk'; have := hm_Vats; have := hm_Channels; omega) (fun k hk hk' => by have h1 := LT1.out k hk; have h2 := GP2.out k hk'; omega) (fun k hk hk' => by have h1 := LT1.out k hk; have h2 := GP3.out k hk'; have := hm_Channels; omega) (fun k hk hk' => by have h1 := LT2.out k hk; have h2 := GP3.out k hk'; omega)
theorem sz_World (x : GWorld) (cs : List Value) (n : Int) (w : World) (h : kQ.K w x cs) (hb : Bd_World x) (h0 : 0 ≤ n) (h1 : n ≤ 1048576) : Calls Tryz.prog 6 #[.agg cs.toArray, .int .i64 n] w (jA (fU x) n w) := by
 obtain ⟨A0, c0, A1, c1, A2, c2, A3, c3, rfl, hl0, hC0, hl1, hC1, hl2, hC2, hl3, hC3⟩ := kl_World_K h
 have HC0 := Sd.mk hC0
 have HC1 := Sd.mk hC1
 have HC2 := Sd.mk hC2
 have HC3 := Sd.mk hC3
 clear hC0 hC1 hC2 hC3
 obtain ⟨b_Library, b_Vats, b_Channels⟩ := hb
 have B_Library := Sd.mk b_Library
 clear b_Library
 have B_Vats := Sd.mk b_Vats
 clear b_Vats
 have B_Channels := Sd.mk b_Channels
 clear b_Channels
 go_enter Tryz.func6, Tryz.ntmps6
 go_wp2_with fail
 with_reducible refine (szS_Script x.bG _ _ _ _ ?hc_Library B_Library.out kO kO).mono ?_
 case hc_Library => exact aM kA HC0.out
 rintro e w_Library ⟨r_Library, rfl, hr_Library, hu⟩
 have HB_Library : Sd (Upd No w w_Library) := Sd.mk (Upd.then kA hu)
 have cc0_Library := fun o => hu.aI (b := w.heap.size) kB (fun q => q) o
 have hz_Library : w.heap.size + 1 ≤ w_Library.heap.size := by have := hu.size; (try simp at this); omega
 clear hu
 rcases hr_Library with ⟨q_Library, rfl⟩ | ⟨q_Library, rfl⟩
 case inr =>
  go_wp2
  go_ret
  exact ⟨_, rfl, .inr ⟨by unfold fU; omega, rfl⟩, (by repeat (with_reducible first | exact HB_Library.out | apply Upd.aT | apply Upd.aS | apply Upd.aP | apply Upd.alloc | apply Upd.drewN | apply Upd.drew))⟩
 go_wp2_with fail
 with_reducible refine (szS_Vat x.gT _ _ _ _ ?hc_Vats B_Vats.out kO kO).mono ?_
 case hc_Vats => exact aM (by repeat (with_reducible first | exact HB_Library.out | apply Upd.aT | apply Upd.aS | apply Upd.aP | apply Upd.alloc | apply Upd.drewN | apply Upd.drew)) HC1.out
 rintro e w_Vats ⟨r_Vats, rfl, hr_Vats, hu⟩
 have HB_Vats : Sd (Upd No w w_Vats) := Sd.mk (Upd.then (by repeat (with_reducible first | exact HB_Library.out | apply Upd.aT | apply Upd.aS | apply Upd.aP | apply Upd.alloc | apply Upd.drewN | apply Upd.drew)) hu)
 have cc0_Vats := fun o => hu.aI (b := w.heap.size) kB (fun q => q) o
 have hz_Vats : w.heap.size + 1 ≤ w_Vats.heap.size := by have := hu.size; (try simp at this); omega
 clear hu
 rcases hr_Vats with ⟨q_Vats, rfl⟩ | ⟨q_Vats, rfl⟩
 case inr =>
  go_wp2
  go_ret
  exact ⟨_, rfl, .inr ⟨by unfold fU; omega, rfl⟩, (by repeat (with_reducible first | exact HB_Vats.out | apply Upd.aT | apply Upd.aS | apply Upd.aP | apply Upd.alloc | apply Upd.drewN | apply Upd.drew))⟩
 go_wp2_with fail
 with_reducible refine (szS_Channel x.bA _ _ _ _ ?hc_Channels B_Channels.out kO kO).mono ?_
 case hc_Channels => exact aM (by repeat (with_reducible first | exact HB_Vats.out | apply Upd.aT | apply Upd.aS | apply Upd.aP | apply Upd.alloc | apply Upd.drewN | apply Upd.drew)) HC2.out
 rintro e w_Channels ⟨r_Channels, rfl, hr_Channels, hu⟩
 have HB_Channels : Sd (Upd No w w_Channels) := Sd.mk (Upd.then (by repeat (with_reducible first | exact HB_Vats.out | apply Upd.aT | apply Upd.aS | apply Upd.aP | apply Upd.alloc | apply Upd.drewN | apply Upd.drew)) hu)
 have cc0_Channels := fun o => hu.aI (b := w.heap.size) kB (fun q => q) o
 have hz_Channels : w.heap.size + 1 ≤ w_Channels.heap.size := by have := hu.size; (try simp at this); omega
 clear hu
 rcases hr_Channels with ⟨q_Channels, rfl⟩ | ⟨q_Channels, rfl⟩
 case inr =>
  go_wp2
  go_ret
  exact ⟨_, rfl, .inr ⟨by unfold fU; omega, rfl⟩, (by repeat (with_reducible first | exact HB_Channels.out | apply Upd.aT | apply Upd.aS | apply Upd.aP | apply Upd.alloc | apply Upd.drewN | apply Upd.drew))⟩
 go_wp2_with fail
 with_reducible refine (szS_Note x.aB _ _ _ _ ?hc_Notes kO kO).mono ?_
 case hc_Notes => exact aM (by repeat (with_reducible first | exact HB_Channels.out | apply Upd.aT | apply Upd.aS | apply Upd.aP | apply Upd.alloc | apply Upd.drewN | apply Upd.drew)) HC3.out
 rintro e w_Notes ⟨r_Notes, rfl, hr_Notes, hu⟩
 have HB_Notes : Sd (Upd No w w_Notes) := Sd.mk (Upd.then (by repeat (with_reducible first | exact HB_Channels.out | apply Upd.aT | apply Upd.aS | apply Upd.aP | apply Upd.alloc | apply Upd.drewN | apply Upd.drew)) hu)
 have cc0_Notes := fun o => hu.aI (b := w.heap.size) kB (fun q => q) o
 have hz_Notes : w.heap.size + 1 ≤ w_Notes.heap.size := by have := hu.size; (try simp at this); omega
 clear hu
 rcases hr_Notes with ⟨q_Notes, rfl⟩ | ⟨q_Notes, rfl⟩
 case inr =>
  go_wp2
  go_ret
  exact ⟨_, rfl, .inr ⟨by unfold fU; omega, rfl⟩, (by repeat (with_reducible first | exact HB_Notes.out | apply Upd.aT | apply Upd.aS | apply Upd.aP | apply Upd.alloc | apply Upd.drewN | apply Upd.drew))⟩
 go_wp2
 go_ret
 exact ⟨_, rfl, .inl ⟨by unfold fU; omega, by unfold fU; omega⟩, (by repeat (with_reducible first | exact HB_Notes.out | apply Upd.aT | apply Upd.aS | apply Upd.aP | apply Upd.alloc | apply Upd.drewN | apply Upd.drew))⟩
theorem eq_World (x : GWorld) (cs cs' : List Value) (w : World) (h : cB.K w x cs) (h' : cB.K w x cs') : Calls Tryz.prog 10 #[.agg cs.toArray, .agg cs'.toArray] w (bU true w) := by
 obtain ⟨A0, c0, A1, c1, A2, c2, A3, c3, rfl, hl0, hC0, hl1, hC1, hl2, hC2, hl3, hC3⟩ := l8 h
 have HC0 := Sd.mk hC0
 have HC1 := Sd.mk hC1
 have HC2 := Sd.mk hC2
 have HC3 := Sd.mk hC3
 clear hC0 hC1 hC2 hC3
 obtain ⟨B0, b0, B1, b1, B2, b2, B3, b3, rfl, hm0, hD0, hm1, hD1, hm2, hD2, hm3, hD3⟩ := l8 h'
 have HD0 := Sd.mk hD0
 have HD1 := Sd.mk hD1
 have HD2 := Sd.mk hD2
 have HD3 := Sd.mk hD3
 clear hD0 hD1 hD2 hD3
 go_enter Tryz.func10, Tryz.ntmps10
 go_wp2_with fail
 with_reducible refine (eqS_Script x.bG _ _ _ _ _ ?hc_Library ?hd_Library).mono ?_
 case hc_Library => exact aM kA HC0.out
 case hd_Library => exact aM kA HD0.out
 rintro e w_Library ⟨rfl, hu⟩
 have HB_Library : Sd (Upd No w w_Library) := Sd.mk (Upd.then kA hu)
 have cc0_Library := fun o => hu.aI (b := w.heap.size) kB (fun q => q) o
 have cc1_Library := fun o => hu.aI (b := w.heap.size + 1) kB (fun q => q) o
 have hz_Library : w.heap.size + 1 + 1 ≤ w_Library.heap.size := by have := hu.size; (try simp at this); omega
 clear hu
 go_wp2_with fail
 with_reducible refine (eqS_Vat x.gT _ _ _ _ _ ?hc_Vats ?hd_Vats).mono ?_
 case hc_Vats => exact aM (by repeat (with_reducible first | exact HB_Library.out | apply Upd.aT | apply Upd.aS | apply Upd.aP | apply Upd.alloc | apply Upd.drewN | apply Upd.drew)) HC1.out
 case hd_Vats => exact aM (by repeat (with_reducible first | exact HB_Library.out | apply Upd.aT | apply Upd.aS | apply Upd.aP | apply Upd.alloc | apply Upd.drewN | apply Upd.drew)) HD1.out
 rintro e w_Vats ⟨rfl, hu⟩
 have HB_Vats : Sd (Upd No w w_Vats) := Sd.mk (Upd.then (by repeat (with_reducible first | exact HB_Library.out | apply Upd.aT | apply Upd.aS | apply Upd.aP | apply Upd.alloc | apply Upd.drewN | apply Upd.drew)) hu)
 have cc0_Vats := fun o => hu.aI (b := w.heap.size) kB (fun q => q) o
 have cc1_Vats := fun o => hu.aI (b := w.heap.size + 1) kB (fun q => q) o
 have hz_Vats : w.heap.size + 1 + 1 ≤ w_Vats.heap.size := by have := hu.size; (try simp at this); omega
 clear hu
 go_wp2_with fail
 with_reducible refine (eqS_Channel x.bA _ _ _ _ _ ?hc_Channels ?hd_Channels).mono ?_
 case hc_Channels => exact aM (by repeat (with_reducible first | exact HB_Vats.out | apply Upd.aT | apply Upd.aS | apply Upd.aP | apply Upd.alloc | apply Upd.drewN | apply Upd.drew)) HC2.out
 case hd_Channels => exact aM (by repeat (with_reducible first | exact HB_Vats.out | apply Upd.aT | apply Upd.aS | apply Upd.aP | apply Upd.alloc | apply Upd.drewN | apply Upd.drew)) HD2.out
 rintro e w_Channels ⟨rfl, hu⟩
 have HB_Channels : Sd (Upd No w w_Channels) := Sd.mk (Upd.then (by repeat (with_reducible first | exact HB_Vats.out | apply Upd.aT | apply Upd.aS | apply Upd.aP | apply Upd.alloc | apply Upd.drewN | apply Upd.drew)) hu)
 have cc0_Channels := fun o => hu.aI (b := w.heap.size) kB (fun q => q) o
 have cc1_Channels := fun o => hu.aI (b := w.heap.size + 1) kB (fun q => q) o
 have hz_Channels : w.heap.size + 1 + 1 ≤ w_Channels.heap.size := by have := hu.size; (try simp at this); omega
 clear hu
 go_wp2_with fail
 with_reducible refine (eqS_Note x.aB _ _ _ _ _ ?hc_Notes ?hd_Notes).mono ?_
 case hc_Notes => exact aM (by repeat (with_reducible first | exact HB_Channels.out | apply Upd.aT | apply Upd.aS | apply Upd.aP | apply Upd.alloc | apply Upd.drewN | apply Upd.drew)) HC3.out
 case hd_Notes => exact aM (by repeat (with_reducible first | exact HB_Channels.out | apply Upd.aT | apply Upd.aS | apply Upd.aP | apply Upd.alloc | apply Upd.drewN | apply Upd.drew)) HD3.out
 rintro e w_Notes ⟨rfl, hu⟩
 have HB_Notes : Sd (Upd No w w_Notes) := Sd.mk (Upd.then (by repeat (with_reducible first | exact HB_Channels.out | apply Upd.aT | apply Upd.aS | apply Upd.aP | apply Upd.alloc | apply Upd.drewN | apply Upd.drew)) hu)
 have cc0_Notes := fun o => hu.aI (b := w.heap.size) kB (fun q => q) o
 have cc1_Notes := fun o => hu.aI (b := w.heap.size + 1) kB (fun q => q) o
 have hz_Notes : w.heap.size + 1 + 1 ≤ w_Notes.heap.size := by have := hu.size; (try simp at this); omega
 clear hu
 go_wp2
 go_ret
 exact ⟨rfl, (by repeat (with_reducible first | exact HB_Notes.out | apply Upd.aT | apply Upd.aS | apply Upd.aP | apply Upd.alloc | apply Upd.drewN | apply Upd.drew))⟩
theorem markv_World_c (x : GWorld) (k : Int) (F : Nat → Prop) (cs : List Value) (w : World) (h : cB.M w F x cs) (hk : 0 ≤ k) (hb : k + iA x ≤ 4611686018427387904) : Calls Tryz.prog 14 #[.agg cs.toArray, .int .i64 k] w (MarksV cB F cs (k + iA x) (kZ k x) w) := by
 obtain ⟨v0, P0, v1, P1, v2, P2, v3, P3, rfl, hR0, hR1, hR2, hR3, i0, i1, i2, i3, d0_1, d0_2, d0_3, d1_2, d1_3, d2_3⟩ := ki_World_M (cB.M_lt h)
 obtain ⟨B0, b0, rfl⟩ := aV hR0
 have HR0 := Sd.mk hR0
 have I0 := Sd.mk (fun b q => (i0 b q).1)
 have L0 := Sd.mk (fun b q => (i0 b q).2)
 clear hR0 i0
 have nn0 := dB bR mG x.bG
 obtain ⟨B1, b1, rfl⟩ := aV hR1
 have HR1 := Sd.mk hR1
 have I1 := Sd.mk (fun b q => (i1 b q).1)
 have L1 := Sd.mk (fun b q => (i1 b q).2)
 clear hR1 i1
 have nn1 := dB fO cnt_Vat_nn x.gT
 obtain ⟨B2, b2, rfl⟩ := aV hR2
 have HR2 := Sd.mk hR2
 have I2 := Sd.mk (fun b q => (i2 b q).1)
 have L2 := Sd.mk (fun b q => (i2 b q).2)
 clear hR2 i2
 have nn2 := dB bO lJ x.bA
 obtain ⟨B3, b3, rfl⟩ := aV hR3
 have HR3 := Sd.mk hR3
 have I3 := Sd.mk (fun b q => (i3 b q).1)
 have L3 := Sd.mk (fun b q => (i3 b q).2)
 clear hR3 i3
 have nn3 := dB eU nR x.aB
 have D0_1 := Sd.mk d0_1
 clear d0_1
 have D0_2 := Sd.mk d0_2
 clear d0_2
 have D0_3 := Sd.mk d0_3
 clear d0_3
 have D1_2 := Sd.mk d1_2
 clear d1_2
 have D1_3 := Sd.mk d1_3
 clear d1_3
 have D2_3 := Sd.mk d2_3
 clear d2_3
 clear h
 unfold iA at hb
 generalize hcn0 : aQ bR x.bG = cn0 at *
 have HC0 := Sd.mk hcn0
 clear hcn0
 generalize hcn1 : aQ fO x.gT = cn1 at *
 have HC1 := Sd.mk hcn1
 clear hcn1
 generalize hcn2 : aQ bO x.bA = cn2 at *
 have HC2 := Sd.mk hcn2
 clear hcn2
 generalize hcn3 : aQ eU x.aB = cn3 at *
 have HC3 := Sd.mk hcn3
 clear hcn3
 go_enter Tryz.func14, Tryz.ntmps14
 go_wp2_with fail
 with_reducible refine (markS_Script x.bG _ P0 _ _ ?hr0 kO (by rw [HC0.out]; omega)).mono ?_
 case hr0 => exact aO ((Upd.refl No w).alloc _) (fun _ _ q => q) HR0.out
 rintro e w_0 ⟨rfl, hR0, hu⟩
 rw [HC0.out]
 replace HR1 := Sd.mk (aO hu (fun b hb hg' => D0_1.out b hg' hb) (aO ((Upd.refl No w).alloc _) (fun _ _ q => q) HR1.out))
 replace HR2 := Sd.mk (aO hu (fun b hb hg' => D0_2.out b hg' hb) (aO ((Upd.refl No w).alloc _) (fun _ _ q => q) HR2.out))
 replace HR3 := Sd.mk (aO hu (fun b hb hg' => D0_3.out b hg' hb) (aO ((Upd.refl No w).alloc _) (fun _ _ q => q) HR3.out))
 replace HR0 := Sd.mk hR0
 have cc_0 := fun o => hu.aI (b := w.heap.size) kB (fun q => absurd (L0.out _ q) (Nat.lt_irrefl _)) o
 have hz_0 : w.heap.size + 1 ≤ w_0.heap.size := by have := hu.size; (try simp at this); omega
 have HU_0 : Sd (Upd F w w_0) := Sd.mk (Upd.trans ((Upd.refl No w).alloc _) hu (fun _ _ q => q.elim) (fun b _ q => I0.out b q))
 clear hu hR0
 go_wp2_with fail
 with_reducible refine (markS_Vat x.gT _ P1 _ _ ?hr1 kO (by rw [HC1.out]; omega)).mono ?_
 case hr1 => exact HR1.out
 rintro e w_1 ⟨rfl, hR1, hu⟩
 rw [HC1.out]
 replace HR0 := Sd.mk (aO hu (fun b hb hg' => D0_1.out b hb hg') (HR0.out))
 replace HR2 := Sd.mk (aO hu (fun b hb hg' => D1_2.out b hg' hb) (HR2.out))
 replace HR3 := Sd.mk (aO hu (fun b hb hg' => D1_3.out b hg' hb) (HR3.out))
 replace HR1 := Sd.mk hR1
 have cc_1 := fun o => hu.aI (b := w.heap.size) kB (fun q => absurd (L1.out _ q) (Nat.lt_irrefl _)) o
 have hz_1 : w.heap.size + 1 ≤ w_1.heap.size := by have := hu.size; (try simp at this); omega
 have HU_1 : Sd (Upd F w w_1) := Sd.mk (HU_0.out.trans hu (fun _ _ q => q) (fun b _ q => I1.out b q))
 clear hu hR1
 go_wp2_with fail
 with_reducible refine (markS_Channel x.bA _ P2 _ _ ?hr2 kO (by rw [HC2.out]; omega)).mono ?_
 case hr2 => exact HR2.out
 rintro e w_2 ⟨rfl, hR2, hu⟩
 rw [HC2.out]
 replace HR0 := Sd.mk (aO hu (fun b hb hg' => D0_2.out b hb hg') (HR0.out))
 replace HR1 := Sd.mk (aO hu (fun b hb hg' => D1_2.out b hb hg') (HR1.out))
 replace HR3 := Sd.mk (aO hu (fun b hb hg' => D2_3.out b hg' hb) (HR3.out))
 replace HR2 := Sd.mk hR2
 have cc_2 := fun o => hu.aI (b := w.heap.size) kB (fun q => absurd (L2.out _ q) (Nat.lt_irrefl _)) o
 have hz_2 : w.heap.size + 1 ≤ w_2.heap.size := by have := hu.size; (try simp at this); omega
 have HU_2 : Sd (Upd F w w_2) := Sd.mk (HU_1.out.trans hu (fun _ _ q => q) (fun b _ q => I2.out b q))
 clear hu hR2
 go_wp2_with fail
 with_reducible refine (markS_Note x.aB _ P3 _ _ ?hr3 kO (by rw [HC3.out]; omega)).mono ?_
 case hr3 => exact HR3.out
 rintro e w_3 ⟨rfl, hR3, hu⟩
 rw [HC3.out]
 replace HR0 := Sd.mk (aO hu (fun b hb hg' => D0_3.out b hb hg') (HR0.out))
 replace HR1 := Sd.mk (aO hu (fun b hb hg' => D1_3.out b hb hg') (HR1.out))
 replace HR2 := Sd.mk (aO hu (fun b hb hg' => D2_3.out b hb hg') (HR2.out))
 replace HR3 := Sd.mk hR3
 have cc_3 := fun o => hu.aI (b := w.heap.size) kB (fun q => absurd (L3.out _ q) (Nat.lt_irrefl _)) o
 have hz_3 : w.heap.size + 1 ≤ w_3.heap.size := by have := hu.size; (try simp at this); omega
 have HU_3 : Sd (Upd F w w_3) := Sd.mk (HU_2.out.trans hu (fun _ _ q => q) (fun b _ q => I3.out b q))
 clear hu hR3
 have hy : (⟨mkS kV bR k x.bG, mkS mk_Vat fO (k + cn0) x.gT, mkS jW bO ((k + cn0) + cn1) x.bA, mkS mk_Note eU (((k + cn0) + cn1) + cn2) x.aB, x.fC⟩ : GWorld) = kZ k x := by simp only [kZ, HC0.out, HC1.out, HC2.out, HC3.out]
 have hc : iA x = ((((0 + cn0) + cn1) + cn2) + cn3) := by simp only [iA, HC0.out, HC1.out, HC2.out, HC3.out]
 have HMM := ki_World_mk w_3 F (⟨mkS kV bR k x.bG, mkS mk_Vat fO (k + cn0) x.gT, mkS jW bO ((k + cn0) + cn1) x.bA, mkS mk_Note eU (((k + cn0) + cn1) + cn2) x.aB, x.fC⟩ : GWorld) HR0.out HR1.out HR2.out HR3.out I0.out I1.out I2.out I3.out D0_1.out D0_2.out D0_3.out D1_2.out D1_3.out D2_3.out
 rw [hy] at HMM
 have HMM' := Sd.mk HMM
 have Hc := Sd.mk hc
 clear HMM hy hc
 go_wp2
 go_ret
 exact ⟨gX (by rw [Hc.out]; omega), HMM'.out, HU_3.out⟩
end Go.Proofs.YtgaoabnnpjngcaaGreatFam
namespace Go.Proofs.YtgaoabnnpjngcaaGreatSep
open Go.ChangeShapes Go.WideShapes Go.RowKit
section
variable {P : Program} {ops : Array Oper} {Q : Exit → Act → World → Prop} {md : Region.Mode} {S : World → Prop} {t : Nat}
theorem aF {i d n : Nat} {x : Nat → Value} {live : List (Nat × Value)} {dst : Option Nat} {op : Op} {ty : Nat} {pos : String} {aft : Array Edge} {v : Value} {fuel : Nat} {listed : Array Bool} {w : World} {j dj : Nat} {want : Bool} {oj : Oper} (hi : ops[i]? = some ⟨dst, op, ty, pos, aft, some (j, want)⟩)
 (hj : ops[j]? = some oj) (hdj : oj.dst = some dj) (hv : evl n live (.tmp dj) = some (.bool want))
 (hs : Region.noSelect ops = true) (hf : Region.free md ops listed i = true) (hr : (Region.ready md ops listed).contains i = true) (hw : waits md ops t i = true) (ht : listed.getD t false = false)
 (hQ : ∀ c a w, Q (.panic c) (a.put dst v) w → Q (.panic c) a w) (hd : dst = some d) (hdn : decide (d < n) = true) (hS : S w) (hy : ∀ W, S W → Rn P ⟨dst, op, ty, pos, aft, none⟩ (aX n x live) W v)
 (h : wpAnyS P md ops Q S t fuel (listed.setIfInBounds i true) (aX n x ((d, v) :: live)) w) : wpAnyS P md ops Q S t (fuel + 1) listed (aX n x live) w := by
 subst hd
 exact anyS_first hi (Region.noSelect_spec hs) hw hQ fuel listed _ w (Region.free_spec hi hf) (by simpa using hr) (.inl ⟨by rw [wanted_G rfl hj hdj hv]; simp, fun W hSW => hy W hSW⟩) hS ht (by rw [iE (of_decide_eq_true hdn)]; exact h)
theorem aW {i d n : Nat} {x : Nat → Value} {live : List (Nat × Value)} {dst : Option Nat} {op : Op} {ty : Nat} {pos : String} {aft : Array Edge} {fuel : Nat} {listed : Array Bool} {w : World} {j dj : Nat} {want b : Bool} {oj : Oper} (hi : ops[i]? = some ⟨dst, op, ty, pos, aft, some (j, want)⟩)
 (hj : ops[j]? = some oj) (hdj : oj.dst = some dj) (hv : evl n live (.tmp dj) = some (.bool b)) (hb : (b == want) = false)
 (hs : Region.noSelect ops = true) (hf : Region.free md ops listed i = true) (hr : (Region.ready md ops listed).contains i = true) (hw : waits md ops t i = true) (ht : listed.getD t false = false)
 (hQ : ∀ c a w, Q (.panic c) (a.put dst undef) w → Q (.panic c) a w) (hd : dst = some d) (hdn : decide (d < n) = true) (hS : S w)
 (h : wpAnyS P md ops Q S t fuel (listed.setIfInBounds i true) (aX n x ((d, undef) :: live)) w) : wpAnyS P md ops Q S t (fuel + 1) listed (aX n x live) w := by
 subst hd
 exact anyS_first hi (Region.noSelect_spec hs) hw hQ fuel listed _ w (Region.free_spec hi hf) (by simpa using hr) (.inr ⟨by rw [wanted_G rfl hj hdj hv, hb], rfl⟩) hS ht (by rw [iE (of_decide_eq_true hdn)]; exact h)
end
section
variable {P : Program} {n ty : Nat} {x : Nat → Value} {live : List (Nat × Value)} {W : World} {pos : String} {aft : Array Edge} {y z : Operand} {dst : Option Nat} {xt yt e : Nat}
end
section
variable {P : Program} {ops : Array Oper} {Q : Exit → Act → World → Prop} {md : Region.Mode} {S : World → Prop} {t : Nat} {K : Act → World → Prop}
theorem wanted_U {n : Nat} {x : Nat → Value} {live : List (Nat × Value)} {o oj : Oper} {j dj : Nat} {want : Bool} (hg : o.guard = some (j, want)) (hj : ops[j]? = some oj) (hdj : oj.dst = some dj) (hv : evl n live (.tmp dj) = some undef) : Region.wanted o (yielded ops (aX n x live).tmps) = false := by
 have e2 := dM (x := x) hv
 simp only [Act.eval, Array.getD_eq_getD_getElem?] at e2
 unfold Region.wanted yielded
 simp only [hg, hj, Option.bind_some, hdj]
 cases e : (aX n x live).tmps[dj]? with
 | none => rfl
 | some u =>
  rw [e] at e2
  simp only [Option.getD_some] at e2
  subst e2
  rfl
theorem mE {i d n : Nat} {x : Nat → Value} {live : List (Nat × Value)} {dst : Option Nat} {op : Op} {ty : Nat} {pos : String} {aft : Array Edge} {fuel : Nat} {listed : Array Bool} {w : World} {j dj : Nat} {want : Bool} {oj : Oper} (hi : ops[i]? = some ⟨dst, op, ty, pos, aft, some (j, want)⟩)
 (hj : ops[j]? = some oj) (hdj : oj.dst = some dj) (hv : evl n live (.tmp dj) = some undef)
 (hs : Region.noSelect ops = true) (hf : Region.free md ops listed i = true) (hr : (Region.ready md ops listed).contains i = true) (hw : waits md ops t i = true) (ht : listed.getD t false = false)
 (hQ : ∀ c a w, Q (.panic c) (a.put dst undef) w → Q (.panic c) a w) (hd : dst = some d) (hdn : decide (d < n) = true) (hS : S w)
 (h : wpAnyS P md ops Q S t fuel (listed.setIfInBounds i true) (aX n x ((d, undef) :: live)) w) : wpAnyS P md ops Q S t (fuel + 1) listed (aX n x live) w := by
 subst hd
 exact anyS_first hi (Region.noSelect_spec hs) hw hQ fuel listed _ w (Region.free_spec hi hf) (by simpa using hr) (.inr ⟨wanted_U rfl hj hdj hv, rfl⟩) hS ht (by rw [iE (of_decide_eq_true hdn)]; exact h)
end
end Go.Proofs.YtgaoabnnpjngcaaGreatSep
namespace Go.Proofs.YtgaoabnnpjngcaaGreatFam
open Go.ChangeShapes Go.WideShapes Go.RowKit Go.Proofs.YtgaoabnnpjngcaaGreatSep Go.Proofs.YtgaoabnnpjngcaaGreatT Go.Proofs.YtgaoabnnpjngcaaGreatK
set_option linter.unusedVariables false
set_option linter.unusedSimpArgs false
attribute [local irreducible] wpOps wpOp
set_option maxRecDepth 100000
def sntB (t : GTag) (n : GNote) : Bool := (n.Kind == 1) && bQ n.Tag t
def wasS (l : List GNote) (t : GTag) : Bool := l.any (sntB t)
def trnB (t : GTag) (n : GNote) : Bool := (n.Kind == 2) && bQ n.Tag t
def iH (l : List GNote) (t : GTag) : Nat := l.countP (trnB t)
def tgS (l : List GNote) : List GTag := (l.filter (fun n => n.Kind == 2)).map (·.Tag)
theorem any_no {α : Type} (p : α → Bool) (l : List α) (i : Nat) (h : i < l.length) (hp : p l[i] = false) : (l.drop i).any p = (l.drop (i + 1)).any p := by
 rw [List.drop_eq_getElem_cons h, List.any_cons, hp, Bool.false_or]
theorem any_yes {α : Type} (p : α → Bool) (l : List α) (i : Nat) (h : i < l.length) (hp : p l[i] = true) : (l.drop i).any p = true := by
 rw [List.drop_eq_getElem_cons h, List.any_cons, hp, Bool.true_or]
theorem any_end {α : Type} (p : α → Bool) (l : List α) (i : Nat) (h : l.length ≤ i) : (l.drop i).any p = false := by
 rw [List.drop_eq_nil_of_le h]; rfl
theorem cnt_yes (l : List GNote) (t : GTag) (i : Nat) (h : i < l.length) (hp : trnB t l[i] = true) : iH (l.take (i + 1)) t = iH (l.take i) t + 1 := by
 unfold iH
 rw [List.take_succ_eq_append_getElem h, List.countP_append, List.countP_singleton, hp]
 rfl
theorem cnt_no (l : List GNote) (t : GTag) (i : Nat) (h : i < l.length) (hp : trnB t l[i] = false) : iH (l.take (i + 1)) t = iH (l.take i) t := by
 unfold iH
 rw [List.take_succ_eq_append_getElem h, List.countP_append, List.countP_singleton, hp]
 rfl
theorem cnt_le (l : List GNote) (t : GTag) (i : Nat) (h : i ≤ l.length) : iH (l.take i) t ≤ i := by
 unfold iH
 have := List.countP_le_length (p := trnB t) (l := l.take i)
 rw [List.length_take] at this
 omega
theorem tg_yes (l : List GNote) (i : Nat) (h : i < l.length) (hp : l[i].Kind = 2) : tgS (l.take (i + 1)) = tgS (l.take i) ++ [l[i].Tag] := by
 unfold tgS
 rw [List.take_succ_eq_append_getElem h, List.filter_append, List.map_append]
 simp [hp]
theorem tg_no (l : List GNote) (i : Nat) (h : i < l.length) (hp : ¬ l[i].Kind = 2) : tgS (l.take (i + 1)) = tgS (l.take i) := by
 unfold tgS
 rw [List.take_succ_eq_append_getElem h, List.filter_append, List.map_append]
 simp [hp]
theorem tg_len (l : List GNote) (i : Nat) (h : i ≤ l.length) : (tgS (l.take i)).length ≤ i := by
 unfold tgS
 rw [List.length_map]
 have := List.length_filter_le (fun n : GNote => n.Kind == 2) (l.take i)
 rw [List.length_take] at this
 omega
theorem eqb_iff (t u : GTag) : bQ t u = true ↔ t = u := by
 obtain ⟨a, b, c⟩ := t
 obtain ⟨d, e, f⟩ := u
 simp [bQ, and_assoc]
theorem eqb_comm (t u : GTag) : bQ t u = bQ u t := by
 rw [Bool.eq_iff_iff, eqb_iff, eqb_iff]
 exact eq_comm
theorem tg_any (l : List GNote) (t : GTag) : (tgS l).any (bQ t) = !(iH l t == 0) := by
 unfold tgS iH
 rw [Bool.eq_iff_iff]
 simp only [List.any_map, List.any_filter, Bool.not_eq_true', beq_eq_false_iff_ne, ne_eq, List.countP_eq_zero, List.any_eq_true, Function.comp]
 constructor
 ·rintro ⟨n, hn, hk⟩ h
  refine h n hn ?_
  simp only [trnB, Bool.and_eq_true] at hk ⊢
  exact ⟨hk.1, by rw [eqb_comm]; exact hk.2⟩
 ·intro h
  refine Classical.byContradiction fun hc => h fun n hn hk => hc ⟨n, hn, ?_⟩
  simp only [trnB, Bool.and_eq_true] at hk ⊢
  exact ⟨hk.1, by rw [eqb_comm]; exact hk.2⟩
def okI (l : List GNote) (i : Nat) (n : GNote) : Bool := !(n.Kind == 2) || (!((tgS (l.take i)).any (bQ n.Tag)) && wasS (l.take i) n.Tag)
def okS (l : List GNote) (i : Nat) (n : GNote) : Bool := !(n.Kind == 2) || (wasS (l.take i) n.Tag && (iH l n.Tag == 1))
def czA (f : Nat → GNote → Bool) (l : List GNote) : Nat → Bool
 | 0 => true
 | i + 1 => czA f l i && (match l[i]? with | some n => f i n | none => true)
theorem cz_step (f : Nat → GNote → Bool) (l : List GNote) (i : Nat) (h : i < l.length) (h0 : czA f l i = true) : czA f l (i + 1) = f i l[i] := by
 rw [czA, h0, List.getElem?_eq_getElem h, Bool.true_and]
theorem cz_bad (f : Nat → GNote → Bool) (l : List GNote) (i : Nat) (h : i < l.length) (hf : f i l[i] = false) : ∀ j, i < j → czA f l j = false
 | 0, h0 => by omega
 | j + 1, h0 => by
  rw [czA]
  by_cases hj : i = j
  ·subst hj
   rw [List.getElem?_eq_getElem h]
   show (czA f l i && f i l[i]) = false
   rw [hf, Bool.and_false]
  ·rw [cz_bad f l i h hf j kO, Bool.false_and]
theorem cz_all (f : Nat → GNote → Bool) (l : List GNote) : ∀ j, czA f l j = true ↔ ∀ i (h : i < l.length), i < j → f i l[i] = true
 | 0 => ⟨fun _ i _ h => by omega, fun _ => rfl⟩
 | j + 1 => by
  rw [czA, Bool.and_eq_true, cz_all f l j]
  constructor
  ·rintro ⟨h1, h2⟩ i hi hij
   by_cases e : i = j
   ·subst e
    rw [List.getElem?_eq_getElem hi] at h2
    exact h2
   ·exact h1 i hi kO
  ·intro h
   refine ⟨fun i hi hij => h i hi kO, ?_⟩
   by_cases hj : j < l.length
   ·rw [List.getElem?_eq_getElem hj]
    exact h j hj kO
   ·rw [List.getElem?_eq_none kO]
theorem cnt_split (l : List GNote) (t : GTag) (i : Nat) : iH l t = iH (l.take i) t + iH (l.drop i) t := by
 unfold iH
 rw [← List.countP_append, List.take_append_drop]
theorem cnt_pos (l : List GNote) (t : GTag) (h : iH l t ≠ 0) : ∃ i, ∃ (hi : i < l.length), trnB t l[i] = true := by
 unfold iH at h
 have h2 : 0 < l.countP (trnB t) := by omega
 rw [List.countP_pos_iff] at h2
 obtain ⟨n, hn, hp⟩ := h2
 obtain ⟨i, hi, rfl⟩ := List.mem_iff_getElem.1 hn
 exact ⟨i, hi, hp⟩
theorem cz_same (l : List GNote) : czA (okI l) l l.length = czA (okS l) l l.length := by
 rw [Bool.eq_iff_iff, cz_all, cz_all]
 have key : ∀ i (hi : i < l.length), (tgS (l.take i)).any (bQ l[i].Tag) = !(iH (l.take i) l[i].Tag == 0) := fun i hi => tg_any _ _
 constructor
 ·intro h i hi _
  have h1 := h i hi hi
  unfold okI at h1
  unfold okS
  rw [key i hi] at h1
  by_cases hk : l[i].Kind = 2
  ·simp only [hk, beq_self_eq_true, Bool.not_true, Bool.false_or, Bool.not_not, Bool.and_eq_true, beq_iff_eq] at h1 ⊢
   refine ⟨h1.2, ?_⟩
   have hs := cnt_split l l[i].Tag i
   have hd : iH (l.drop i) l[i].Tag = 1 + iH (l.drop (i + 1)) l[i].Tag := by
    unfold iH
    rw [List.drop_eq_getElem_cons hi, List.countP_cons]
    have : trnB l[i].Tag l[i] = true := by simp [trnB, hk, (eqb_iff _ _).2 rfl]
    rw [this]
    simp
    omega
   have hz : iH (l.drop (i + 1)) l[i].Tag = 0 := by
    refine Classical.byContradiction fun hc => ?_
    obtain ⟨j, hj, hp⟩ := cnt_pos _ _ hc
    rw [List.length_drop] at hj
    rw [List.getElem_drop] at hp
    have hj2 : i + 1 + j < l.length := by omega
    have h2 := h (i + 1 + j) hj2 hj2
    unfold okI at h2
    rw [key _ hj2] at h2
    simp only [trnB, Bool.and_eq_true, beq_iff_eq] at hp
    have he := (eqb_iff _ _).1 hp.2
    simp only [hp.1, beq_self_eq_true, Bool.not_true, Bool.false_or, Bool.not_not, Bool.and_eq_true, beq_iff_eq] at h2
    rw [he] at h2
    have h3 := h2.1
    unfold iH at h3
    rw [List.countP_eq_zero] at h3
    refine h3 l[i] ?_ (by simp [trnB, hk, (eqb_iff _ _).2 rfl])
    rw [List.mem_iff_getElem?]
    exact ⟨i, by rw [List.getElem?_take, if_pos kO, List.getElem?_eq_getElem hi]⟩
   omega
  ·simp [hk]
 ·intro h i hi _
  have h1 := h i hi hi
  unfold okS at h1
  unfold okI
  rw [key i hi]
  by_cases hk : l[i].Kind = 2
  ·simp only [hk, beq_self_eq_true, Bool.not_true, Bool.false_or, Bool.not_not, Bool.and_eq_true, beq_iff_eq] at h1 ⊢
   refine ⟨?_, h1.1⟩
   have hs := cnt_split l l[i].Tag i
   have hd : 1 ≤ iH (l.drop i) l[i].Tag := by
    unfold iH
    rw [List.drop_eq_getElem_cons hi, List.countP_cons]
    have : trnB l[i].Tag l[i] = true := by simp [trnB, hk, (eqb_iff _ _).2 rfl]
    rw [this]
    simp
   omega
  ·simp [hk]
def insT (l : List GTag) (t : GTag) : List GTag := if l.any (bQ t) = true then l else l ++ [t]
def ddT (l : List GTag) : List GTag := l.foldl insT []
theorem dd_succ (l : List GTag) (i : Nat) (h : i < l.length) : ddT (l.take (i + 1)) = insT (ddT (l.take i)) l[i] := by
 unfold ddT
 rw [List.take_succ_eq_append_getElem h, List.foldl_append]
 rfl
theorem ins_any (l : List GTag) (t u : GTag) : (insT l t).any (bQ u) = (l.any (bQ u) || bQ u t) := by
 unfold insT
 split
 ·rename_i h
  cases hb : bQ u t with
  | false => simp
  | true =>
   obtain rfl := (eqb_iff _ _).1 hb
   rw [h]
   rfl
 ·simp
theorem dd_any (u : GTag) : ∀ (l m : List GTag), (l.foldl insT m).any (bQ u) = (m.any (bQ u) || l.any (bQ u))
 | [], m => by simp
 | t :: l, m => by
  rw [List.foldl_cons, dd_any u l, ins_any, List.any_cons, Bool.or_assoc]
def unP (l : List GNote) (n : GNote) : Bool := (n.Kind == 1) && (iH l n.Tag == 0)
def unT (l : List GNote) (i : Nat) : List GTag := ((l.take i).filter (unP l)).map (·.Tag)
theorem un_yes (l : List GNote) (i : Nat) (h : i < l.length) (hp : unP l l[i] = true) : unT l (i + 1) = unT l i ++ [l[i].Tag] := by
 unfold unT
 rw [List.take_succ_eq_append_getElem h, List.filter_append, List.map_append]
 simp [hp]
theorem un_no (l : List GNote) (i : Nat) (h : i < l.length) (hp : unP l l[i] = false) : unT l (i + 1) = unT l i := by
 unfold unT
 rw [List.take_succ_eq_append_getElem h, List.filter_append, List.map_append]
 simp [hp]
theorem un_len (l : List GNote) (i : Nat) (h : i ≤ l.length) : (unT l i).length ≤ i := by
 unfold unT
 rw [List.length_map]
 have := List.length_filter_le (unP l) (l.take i)
 rw [List.length_take] at this
 omega
theorem un_map (l : List GNote) (t : GTag) : (ddT (tgS l)).any (bQ t) = !(iH l t == 0) := by
 unfold ddT
 rw [dd_any, ← tg_any]
 simp
theorem C_take {α : Type} {d : Kn α} {w : World} {A : Option Addr} {xs : List α} (h : C d w A xs) (i : Nat) (hi : i ≤ xs.length) : C d w A (xs.take i) := by
 refine ⟨by rw [List.length_take]; have := h.1; omega, fun hp => ?_⟩
 rw [List.length_take] at hp
 obtain ⟨ad, rfl, k⟩ := h.2 kO
 refine ⟨ad, rfl, fun j p hj => ?_⟩
 rw [List.getElem?_take] at hj
 split at hj
 ·exact k j p hj
 ·cases hj
section
variable {P : Program} {n ty : Nat} {x : Nat → Value} {live : List (Nat × Value)} {W : World} {pos : String} {aft : Array Edge} {y z : Operand}
theorem rn_sliceH {dst : Option Nat} {t e sz k len cap m : Nat} {A : Option Addr} (ht : P.underlying t = some (.slice e)) (hS : ∀ w, (sizeOf e).run P w = .ok sz w) (hx : evl n live y = some (.slice A len cap)) (hz : evl n live z = some (.int .i64 (k : Int))) (hk : k ≤ cap) (hm : k = m) :
 Rn P ⟨dst, .slice t y none (some z) none, ty, pos, aft, none⟩ (aX n x live) W (.slice A m cap) := by
 subst hm
 have he : P.elem t = e := by simp [Program.elem, ht]
 have ha : (if cap = 0 then A else A.map (·.add (0 * sz))) = A := by
  rw [Nat.zero_mul]
  split
  ·rfl
  ·cases A with
   | none => rfl
   | some a => rfl
 unfold Rn
 simp [execOp, dM hx, dM hz, run_sliceAt_slice (P := P) W t (.slice A len cap) none (some (.int .i64 (k : Int))) none (by rw [he]; exact ht), run_slice_h (P := P) W t A len cap (by rw [he]; exact ht) .i64 (k : Int) kO kO, he, hS, Result.andThen, sliced]
 simpa using ha
end
theorem getMap {P : Program} {W : World} {g : Nat} {es : Array MapEntry} {ck : Nat} (h : W.heap[g]? = some (.map es ck)) : (getObj g).run P W = .ok (.map es ck) W := by simp [getObj, Sem.run, h]
theorem setMap {P : Program} {W : World} {g : Nat} {es : Array MapEntry} {ck : Nat} (o : Obj) (h : W.heap[g]? = some (.map es ck)) : (setObj g o).run P W = .ok () (W.putObj g o) := by simp [setObj, Sem.run, h, World.putObj]
theorem upd_putObj (W : World) (g : Nat) (o : Obj) : Upd (fun b => b = g) W (W.putObj g o) := by
 refine ⟨rfl, rfl, rfl, by simp [World.putObj], fun b hb' hF => ?_⟩
 simp only [World.putObj]
 rw [Array.getElem?_setIfInBounds]
 rw [if_neg (fun e => hF e.symm)]
theorem heap_putObj {W : World} {g : Nat} {o0 : Obj} (h : W.heap[g]? = some o0) (o : Obj) : (W.putObj g o).heap[g]? = some o := by
 have := (Array.getElem?_eq_some_iff.1 h).1
 simp [World.putObj, this]
theorem sumS_all {α : Type} (s : α → Nat) (k : Nat) : ∀ l : List α, (∀ x ∈ l, s x ≤ k) → eZ s l ≤ k * l.length
 | [], _ => by simp [eZ]
 | x :: l, h => by
  have h1 := sumS_all s k l (fun y hy => h y (List.mem_cons_of_mem _ hy))
  have h2 := h x List.mem_cons_self
  simp only [eZ, List.length_cons, Nat.mul_add]
  omega
def tagV (t : GTag) : Value := .agg #[.int .i64 t.Vat, .int .i64 t.Entity, .int .i64 t.Seq]
theorem eqb_tagV (t u : GTag) (h : bQ t u = true) : tagV t = tagV u := by
 simp [bQ] at h
 unfold tagV
 rw [h.1.1, h.1.2, h.2]
def kEn (l : List GTag) (es : List MapEntry) : Prop := es.map (·.key) = l.map tagV ∧ ∀ e ∈ es, e.val = .bool true
theorem run_eqTag (t u : GTag) (w : World) : (Op.equal 50 (tagV t) (tagV u)).run Tryz.prog w = .ok (bQ t u) w := eqr_Tag t u w 9998
theorem run_ask (t : GTag) (w : World) : ∀ (es : List MapEntry) (l : List GTag) (i : Nat), kEn l es → ∃ r, (Instr.findAsking 50 (tagV t) es i).run Tryz.prog w = .ok r w ∧ (l.any (bQ t) = false → r = none) ∧ (l.any (bQ t) = true → ∃ q, r = some (i + q, .bool true) ∧ ∃ e, es[q]? = some e ∧ e.key = tagV t)
 | [], l, i, h => by
  have h0 : l = [] := by have := h.1; simpa using this.symm
  subst h0
  exact ⟨none, rfl, fun _ => rfl, fun h => by simp at h⟩
 | e :: es, l, i, h => by
  obtain ⟨h1, h2⟩ := h
  cases l with
  | nil => simp at h1
  | cons u l =>
   simp only [List.map_cons, List.cons.injEq] at h1
   have he : e.val = .bool true := h2 e List.mem_cons_self
   have hq := run_eqTag t u w
   obtain ⟨r, hr, hn, hs⟩ := run_ask t w es l (i + 1) ⟨h1.2, fun e' he' => h2 e' (List.mem_cons_of_mem _ he')⟩
   cases hb : bQ t u with
   | true =>
    rw [hb] at hq
    refine ⟨some (i, .bool true), ?_, fun h => by simp [hb] at h, fun _ => ⟨0, rfl, e, rfl, h1.1.trans (eqb_tagV t u hb).symm⟩⟩
    simp [Instr.findAsking, h1.1, hq, he, Result.andThen]
   | false =>
    rw [hb] at hq
    refine ⟨r, ?_, fun h => hn (by simpa [hb] using h), fun h => ?_⟩
    ·simp [Instr.findAsking, h1.1, hq, Result.andThen, hr]
    ·obtain ⟨q, hq1, e', he1, he2⟩ := hs (by simpa [hb] using h)
     exact ⟨q + 1, by rw [hq1, show i + 1 + q = i + (q + 1) by omega], e', by simpa using he1, he2⟩
theorem run_find (t : GTag) (w : World) (es : List MapEntry) (l : List GTag) (h : kEn l es) : ∃ r, (Instr.findKey 50 (tagV t) es).run Tryz.prog w = .ok r w ∧ (l.any (bQ t) = false → r = none) ∧ (l.any (bQ t) = true → ∃ q, r = some (q, .bool true) ∧ ∃ e, es[q]? = some e ∧ e.key = tagV t) := by
 cases es with
 | nil =>
  have h0 : l = [] := by have := h.1; simpa using this.symm
  subst h0
  refine ⟨none, ?_, fun _ => rfl, fun h => by simp at h⟩
  simp [Instr.findKey, Tryz.runUnderlying50, Instr.findNow, Result.andThen]
 | cons e es =>
  obtain ⟨r, hr, hn, hs⟩ := run_ask t w (e :: es) l 0 h
  refine ⟨r, ?_, hn, fun h => ?_⟩
  ·simp only [Instr.findKey, Sem.run_bind, Tryz.runUnderlying50, Result.andThen_ok]
   simpa [Instr.findNow, Instr.sameNow] using hr
  ·obtain ⟨q, hq, k⟩ := hs h
   exact ⟨q, by simpa using hq, k⟩
theorem run_ckTag (t : GTag) (w : World) (b : Bool) : (Instr.checkKey b 10000 50 (tagV t)).run Tryz.prog w = .ok () w := by
 unfold tagV
 cases b <;> kernel_rfl
def hMp (g : Nat) (l : List GTag) : HP where
 p := fun W F => F g ∧ ∃ es ck, W.heap[g]? = some (.map es ck) ∧ kEn l es.toList
 same := by
  rintro W W' F h ⟨h1, es, ck, h2, h3⟩
  exact ⟨h1, es, ck, (h g h1).trans h2, h3⟩
 lt := by
  rintro W F ⟨h1, es, ck, h2, h3⟩
  exact ⟨⟨h1, (Array.getElem?_eq_some_iff.1 h2).1⟩, es, ck, h2, h3⟩
 mono := by
  rintro W F F' h ⟨h1, k⟩
  exact ⟨h g h1, k⟩
section
variable {ops : Array Oper} {Q : Exit → Act → World → Prop} {K : Act → World → Prop} {n i d ty : Nat} {x : Nat → Value} {live : List (Nat × Value)} {W w : World} {F0 : Nat → Prop} {l : List HP} {pos : String} {aft : Array Edge} {y z z2 : Operand} {g : Nat} {ts : List GTag} {t : GTag}
theorem op_makeMap {dst : Option Nat} (ho : ops[i]? = some ⟨dst, .makeMap 59 none, ty, pos, aft, none⟩) (hd : dst = some d) (hdn : decide (d < n) = true) (H : St w F0 l W) (h : ∀ g W', Upd No W W' → St w F0 (hMp g [] :: l) W' → K (aX n x ((d, .map (some g)) :: live)) W') : wpOp Tryz.prog ops Q i K (aX n x live) W := by
 subst hd
 refine op_ok ho rfl ?_
 have hrun : (execOp (aX n x live).eval ⟨some d, .makeMap 59 none, ty, pos, aft, none⟩).run Tryz.prog W = .ok (.value (.map (some W.heap.size))) (W.alloc (.map #[] 0)) := by
  simp [execOp, run_makeMap]
 unfold Oper.wp
 rw [hrun]
 simp only [Oper.upon]
 rw [iE (of_decide_eq_true hdn)]
 exact h _ _ ((Upd.refl _ _).alloc _) (H.new ((Upd.refl _ _).alloc _) ⟨Nat.le_refl _, #[], 0, heap_alloc_new W _, rfl, fun e he => by simp at he⟩)
def MpAt (W : World) (g : Nat) (ts : List GTag) : Prop := ∃ es ck, W.heap[g]? = some (.map es ck) ∧ kEn ts es.toList
theorem St.mp (H : St w F0 l W) (q : Nat) (hq : l[q]? = some (hMp g ts)) : MpAt W g ts := by
 obtain ⟨F, h1, h2⟩ := H.get q hq
 exact h2
theorem rn_lookup {dst : Option Nat} (H : MpAt W g ts) (hx : evl n live y = some (.map (some g))) (hz : evl n live z = some (tagV t)) : Rn Tryz.prog ⟨dst, .lookup 59 y z false, ty, pos, aft, none⟩ (aX n x live) W (.bool (ts.any (bQ t))) := by
 obtain ⟨es, ck, h2, h3⟩ := H
 obtain ⟨r, hr, hn, hs⟩ := run_find t W es.toList ts h3
 unfold Rn
 have hz0 : (zeroValue 4).run Tryz.prog W = .ok (.bool false) W := by kernel_rfl
 have hg : (getObj g).run Tryz.prog W = .ok (.map es ck) W := getMap h2
 cases hb : ts.any (bQ t) with
 | false =>
  obtain rfl := hn hb
  simp [execOp, dM hx, dM hz, Instr.lookup, Tryz.runUnderlying59, hg, run_ckTag, hr, hz0, Result.andThen]
 | true =>
  obtain ⟨q', rfl, _⟩ := hs hb
  simp [execOp, dM hx, dM hz, Instr.lookup, Tryz.runUnderlying59, hg, run_ckTag, hr, Result.andThen]
theorem op_mapNew (ho : ops[i]? = some ⟨none, .mapUpdate 59 y z z2, ty, pos, aft, none⟩) (H : St w F0 (hMp g ts :: l) W) (hx : evl n live y = some (.map (some g))) (hz : evl n live z = some (tagV t)) (hz2 : evl n live z2 = some (.bool true)) (hb : ts.any (bQ t) = false) (h : ∀ W', Upd (fun b => b = g) W W' → St w F0 (hMp g (ts ++ [t]) :: l) W' → K (aX n x live) W') : wpOp Tryz.prog ops Q i K (aX n x live) W := by
 refine op_ok ho rfl ?_
 obtain ⟨F1, ⟨a1, es, ck, h2, h3⟩, a2, a3⟩ := H.turn
 obtain ⟨r, hr, hn, hs⟩ := run_find t W es.toList ts h3
 obtain rfl := hn hb
 have hg : (getObj g).run Tryz.prog W = .ok (.map es ck) W := getMap h2
 have hst : (setObj g (.map (es.push { key := tagV t, val := .bool true, born := ck }) (ck + 1))).run Tryz.prog W = .ok () (W.putObj g (.map (es.push { key := tagV t, val := .bool true, born := ck }) (ck + 1))) := setMap _ h2
 have hrun : (execOp (aX n x live).eval ⟨none, .mapUpdate 59 y z z2, ty, pos, aft, none⟩).run Tryz.prog W = .ok .skip (W.putObj g (.map (es.push { key := tagV t, val := .bool true, born := ck }) (ck + 1))) := by
  simp [execOp, dM hx, dM hz, dM hz2, Instr.mapUpdate, Tryz.runUnderlying59, hg, run_ckTag, hr, hst, Result.andThen]
 unfold Oper.wp
 rw [hrun]
 simp only [Oper.upon]
 have hu : Upd (fun b => b = g) W (W.putObj g (.map (es.push { key := tagV t, val := .bool true, born := ck }) (ck + 1))) := upd_putObj W g _
 refine h _ hu (a3 (hMp g (ts ++ [t])) _ (hu.mono (fun b _ e => e ▸ a1)) ⟨.inl a1, _, _, heap_putObj h2 _, ?_, fun e he => ?_⟩)
 ·rw [Array.toList_push, List.map_append, List.map_append, h3.1]
  rfl
 ·rw [Array.toList_push] at he
  rcases List.mem_append.1 he with he | he
  ·exact h3.2 e he
  ·rw [List.mem_singleton.1 he]
theorem op_mapOld (ho : ops[i]? = some ⟨none, .mapUpdate 59 y z z2, ty, pos, aft, none⟩) (H : St w F0 (hMp g ts :: l) W) (hx : evl n live y = some (.map (some g))) (hz : evl n live z = some (tagV t)) (hz2 : evl n live z2 = some (.bool true)) (hb : ts.any (bQ t) = true) (h : ∀ W', Upd (fun b => b = g) W W' → St w F0 (hMp g ts :: l) W' → K (aX n x live) W') : wpOp Tryz.prog ops Q i K (aX n x live) W := by
 refine op_ok ho rfl ?_
 obtain ⟨F1, ⟨a1, es, ck, h2, h3⟩, a2, a3⟩ := H.turn
 obtain ⟨r, hr, hn, hs⟩ := run_find t W es.toList ts h3
 obtain ⟨q, rfl, e0, he0, hk0⟩ := hs hb
 have he1 : es[q]? = some e0 := by simpa using he0
 have hg : (getObj g).run Tryz.prog W = .ok (.map es ck) W := getMap h2
 have hks : (Instr.keyThatStays (tagV t) (tagV t)).run Tryz.prog W = .ok (tagV t) W := by
  have hsb : Instr.sameBits 10000 (tagV t) (tagV t) = true := by
   unfold tagV
   simp [Instr.sameBits]
  simp [Instr.keyThatStays, hsb]
 have hst : (setObj g (.map (es.modify q fun e => { e with key := tagV t, val := .bool true }) ck)).run Tryz.prog W = .ok () (W.putObj g (.map (es.modify q fun e => { e with key := tagV t, val := .bool true }) ck)) := setMap _ h2
 have hrun : (execOp (aX n x live).eval ⟨none, .mapUpdate 59 y z z2, ty, pos, aft, none⟩).run Tryz.prog W = .ok .skip (W.putObj g (.map (es.modify q fun e => { e with key := tagV t, val := .bool true }) ck)) := by
  simp [execOp, dM hx, dM hz, dM hz2, Instr.mapUpdate, Tryz.runUnderlying59, hg, run_ckTag, hr, he1, hk0, hks, hst, Result.andThen]
 unfold Oper.wp
 rw [hrun]
 simp only [Oper.upon]
 have hu : Upd (fun b => b = g) W (W.putObj g (.map (es.modify q fun e => { e with key := tagV t, val := .bool true }) ck)) := upd_putObj W g _
 refine h _ hu (a3 (hMp g ts) _ (hu.mono (fun b _ e => e ▸ a1)) ⟨.inl a1, _, _, heap_putObj h2 _, ?_, fun e he => ?_⟩)
 ·rw [← h3.1]
  apply List.ext_getElem?
  intro j
  simp only [List.getElem?_map, Array.toList_modify, List.getElem?_modify]
  by_cases hj : q = j
  ·subst hj
   have : es.toList[q]? = some e0 := he0
   simp [this, hk0]
  ·simp [hj]
 ·obtain ⟨j, hj⟩ := List.mem_iff_getElem?.1 he
  simp only [Array.toList_modify, List.getElem?_modify] at hj
  by_cases hjq : q = j
  ·simp only [hjq, if_true] at hj
   obtain ⟨e', _, rfl⟩ := Option.map_eq_some_iff.1 hj
   rfl
  ·simp only [hjq, if_false] at hj
   obtain ⟨e', he', rfl⟩ := Option.map_eq_some_iff.1 hj
   exact h3.2 e' (List.mem_of_getElem? he')
theorem op_mapSet (ho : ops[i]? = some ⟨none, .mapUpdate 59 y z z2, ty, pos, aft, none⟩) (H : St w F0 (hMp g ts :: l) W) (hx : evl n live y = some (.map (some g))) (hz : evl n live z = some (tagV t)) (hz2 : evl n live z2 = some (.bool true)) (h : ∀ W', Upd (fun b => b = g) W W' → St w F0 (hMp g (insT ts t) :: l) W' → K (aX n x live) W') : wpOp Tryz.prog ops Q i K (aX n x live) W := by
 by_cases hb : ts.any (bQ t) = true
 ·exact op_mapOld ho H hx hz hz2 hb (fun W' hu hs => h W' hu (by rw [show insT ts t = ts from if_pos hb]; exact hs))
 ·exact op_mapNew ho H hx hz hz2 (eq_false_of_ne_true hb) (fun W' hu hs => h W' hu (by rw [show insT ts t = ts ++ [t] from if_neg hb]; exact hs))
end
end Go.Proofs.YtgaoabnnpjngcaaGreatFam
namespace Go.Proofs.YtgaoabnnpjngcaaGreatSep
open Go.ChangeShapes Go.WideShapes Go.RowKit
section
variable {α : Type} {P : Program} {ops : Array Oper} {Q : Exit → Act → World → Prop} {K : Act → World → Prop} {n i d ty : Nat} {x : Nat → Value} {live : List (Nat × Value)} {W w : World} {F0 : Nat → Prop} {l : List HP} {pos : String} {aft : Array Edge} {v : Value} {y z : Operand} {dk : Kn α} {e : Nat} {xs ys : List α}
theorem rn_int {o : Oper} {a : Act} {p q : Int} (e : p = q) (h : Rn P o a W (.int .i64 p)) : Rn P o a W (.int .i64 q) := e ▸ h
end
end Go.Proofs.YtgaoabnnpjngcaaGreatSep
namespace Go.Proofs.YtgaoabnnpjngcaaGreatFam
open Go.ChangeShapes Go.WideShapes Go.RowKit Go.Proofs.YtgaoabnnpjngcaaGreatSep Go.Proofs.YtgaoabnnpjngcaaGreatT Go.Proofs.YtgaoabnnpjngcaaGreatK
set_option linter.unusedVariables false
set_option linter.unusedSimpArgs false
attribute [local irreducible] wpOps wpOp
set_option maxHeartbeats 4000000
set_option maxRecDepth 100000
theorem wasSent_s (l : List GNote) (t : GTag) (A : Option Addr) (c : Nat) (ct : List Value) (w : World) (h : C dS w A l) (h2 : cZ.K w t ct) : Calls Tryz.prog 23 #[.slice A l.length c, .agg ct.toArray] w (bU (wasS l t) w) := by
 obtain rfl := jX h2
 have nx := h.1
 refine enter 27 [(0, .slice A l.length c), (1, .agg #[.int .i64 (t.Vat), .int .i64 (t.Entity), .int .i64 (t.Seq)])] Tryz.func23 rfl kR ?_
 intro xj
 have H1 : St w No [] w := St.enter
 refine wp_seq ?_
 refine aL [0, 1] rfl ?_
 refine aA ?_
 refine op_box rfl rfl rfl rfl H1 ?_
 intro g_0_0 W2 hu3 Ha4; clear H1; clear hu3
 refine aA ?_
 refine aC rfl (aN rfl) rfl rfl ?_
 refine aJ ?_
 refine aG ?_
 refine wp_seq ?_
 refine wp_seq ?_
 refine aL [0] rfl ?_
 refine aA ?_
 refine aC rfl (aN rfl) rfl rfl ?_
 refine aJ ?_
 refine aG ?_
 refine wp_block ?_
 refine wp_loop_ghost (fun r a' W' => ∃ (i1 : Nat) (x' : Nat → Value), a' = aX 27 x' [(0, .slice A l.length c), (3, .pointer (some ⟨g_0_0, 0, none⟩)), (5, .int .i64 (((i1 : Nat) : Int)))] ∧ (i1 + r = l.length) ∧ (wasS l t = (l.drop i1).any (sntB t)) ∧ St w No [hB g_0_0 50 #[.int .i64 (t.Vat), .int .i64 (t.Entity), .int .i64 (t.Seq)]] W') l.length ?_ ?_
 ·exact (bT [(0, .slice A l.length c), (3, .pointer (some ⟨g_0_0, 0, none⟩)), (5, .int .i64 (((0 : Nat) : Int)))] rfl).elim fun x' hx => ⟨0, x', hx, kO, rfl, Ha4⟩
 ·rintro r6 _ W7 ⟨i1, x8, rfl, hi1, hf1, H9⟩; clear Ha4
  refine wp_seq ?_
  refine wp_seq ?_
  refine aL [0, 1, 2, 3] rfl ?_
  refine aA ?_
  refine aC rfl (aH rfl) rfl rfl ?_
  refine aA ?_
  refine aC rfl (aH rfl) rfl rfl ?_
  refine aA ?_
  refine aC rfl (rn_len Tryz.runUnderlying33 rfl) rfl rfl ?_
  refine aA ?_
  refine aC rfl (lV rfl rfl) rfl rfl ?_
  refine aJ ?_
  refine aG ?_
  refine jP rfl (fun hc10 => ?_) (fun hc10 => ?_)
  ·have hlt1 : i1 < l.length := by omega
   obtain ⟨ade11, cse11, hAe11, hKe11, hce11⟩ := C_elem h i1 hlt1
   have hle11 := jY hKe11
   have hoe11 := jZ hKe11
   obtain rfl := iR hKe11
   refine wp_skip ?_
   refine aG ?_
   refine wp_seq ?_
   refine wp_block ?_
   refine wp_seq ?_
   by_cases hg12 : ((l[i1].Kind) : Int) = 1
   ·by_cases hg13 : (bQ (l[i1].Tag) t) = true
    ·refine gV (fun W' => Cat W' (Addr.add ade11 (i1 * 6)) [.int .i64 (l[i1].Kind), .int .i64 (l[i1].Vat), .int .i64 (l[i1].Entity), .int .i64 (l[i1].Tag.Vat), .int .i64 (l[i1].Tag.Entity), .int .i64 (l[i1].Tag.Seq)] ∧ Blk W' g_0_0 50 #[.int .i64 (t.Vat), .int .i64 (t.Entity), .int .i64 (t.Seq)]) 15 kR ?_
     have H14 := H9.drew; clear H9
     have hS15 : Cat W7.drew (Addr.add ade11 (i1 * 6)) [.int .i64 (l[i1].Kind), .int .i64 (l[i1].Vat), .int .i64 (l[i1].Entity), .int .i64 (l[i1].Tag.Vat), .int .i64 (l[i1].Tag.Entity), .int .i64 (l[i1].Tag.Seq)] ∧ Blk W7.drew g_0_0 50 #[.int .i64 (t.Vat), .int .i64 (t.Entity), .int .i64 (t.Seq)] := ⟨(Cat.upd hce11 H14.1), H14.blk 0 rfl⟩
     refine aD (i := 0) rfl kR kR kR kR kR (fun _ _ _ h => h) rfl rfl hS15 (fun W' hs' => aH rfl) ?_
     refine aD (i := 1) rfl kR kR kR kR kR (fun _ _ _ h => h) rfl rfl hS15 (fun W' hs' => aH rfl) ?_
     refine aD (i := 2) rfl kR kR kR kR kR (fun _ _ _ h => h) rfl rfl hS15 (fun W' hs' => fI (k := i1) Tryz.runUnderlying33 Tryz.sizeOf52 rfl rfl hAe11 hlt1) ?_
     refine aD (i := 3) rfl kR kR kR kR kR (fun _ _ _ h => h) rfl rfl hS15 (fun W' hs' => aZ iT rfl) ?_
     refine aD (i := 4) rfl kR kR kR kR kR (fun _ _ _ h => h) rfl rfl hS15 (fun W' hs' => kM (v := .int .i64 (l[i1].Kind)) Tryz.isAgg3 rfl hs'.1 rfl) ?_
     refine aD (i := 5) rfl kR kR kR kR kR (fun _ _ _ h => h) rfl rfl hS15 (fun W' hs' => j6 hg12 (jC rfl rfl)) ?_
     refine aD (i := 6) rfl kR kR kR kR kR (fun _ _ _ h => h) rfl rfl hS15 (fun W' hs' => aH rfl) ?_
     refine aF (i := 7) rfl rfl rfl rfl kR kR kR kR kR (fun _ _ _ h => h) rfl rfl hS15 (fun W' hs' => aH rfl) ?_
     refine aF (i := 8) rfl rfl rfl rfl kR kR kR kR kR (fun _ _ _ h => h) rfl rfl hS15 (fun W' hs' => aH rfl) ?_
     refine aF (i := 9) rfl rfl rfl rfl kR kR kR kR kR (fun _ _ _ h => h) rfl rfl hS15 (fun W' hs' => fI (k := i1) Tryz.runUnderlying33 Tryz.sizeOf52 rfl rfl hAe11 hlt1) ?_
     refine aF (i := 10) rfl rfl rfl rfl kR kR kR kR kR (fun _ _ _ h => h) rfl rfl hS15 (fun W' hs' => aZ gU rfl) ?_
     refine aF (i := 11) rfl rfl rfl rfl kR kR kR kR kR (fun _ _ _ h => h) rfl rfl hS15 (fun W' hs' => lX (sub := [.int .i64 (l[i1].Tag.Vat), .int .i64 (l[i1].Tag.Entity), .int .i64 (l[i1].Tag.Seq)]) Tryz.isAgg50 Tryz.sizeOf50 rfl hs'.1 rfl rfl) ?_
     refine aF (i := 12) rfl rfl rfl rfl kR kR kR kR kR (fun _ _ _ h => h) rfl rfl hS15 (fun W' hs' => gN Tryz.isAgg50 Tryz.sizeOf50 rfl hs'.2 rfl) ?_
     refine aF (i := 13) rfl rfl rfl rfl kR kR kR kR kR (fun _ _ _ h => h) rfl rfl hS15 (fun W' hs' => lQ (b := bQ (l[i1].Tag) t) hg13 (rn_eqlA Tryz.eqGuardType50 rfl rfl (eqr_Tag (l[i1].Tag) t _ 9998))) ?_
     refine aD (i := 14) rfl kR kR kR kR kR (fun _ _ _ h => h) rfl rfl hS15 (fun W' hs' => fZ (v := .bool (true)) (b := true) rfl rfl rfl rfl) ?_
     refine gF kR ?_ _
     refine aG ?_
     refine cond_t rfl ?_
     refine wp_seq ?_
     refine aL [0] rfl ?_
     refine aA ?_
     refine aC rfl (aN rfl) rfl rfl ?_
     refine aJ ?_
     refine aG ?_
     refine wp_ret ?_
     refine inB_r ?_
     refine jK ?_
     refine jK ?_
     refine inB_r ?_
     refine jK ?_
     have hr : wasS l t = true := hf1.trans (any_yes (sntB t) l i1 hlt1 (by simp [sntB, hg12, hg13]))
     refine gJ (.inl rfl) Tryz.results23 rfl ?_
     rw [hr]
     exact ⟨rfl, H14.1⟩
    ·refine gV (fun W' => Cat W' (Addr.add ade11 (i1 * 6)) [.int .i64 (l[i1].Kind), .int .i64 (l[i1].Vat), .int .i64 (l[i1].Entity), .int .i64 (l[i1].Tag.Vat), .int .i64 (l[i1].Tag.Entity), .int .i64 (l[i1].Tag.Seq)] ∧ Blk W' g_0_0 50 #[.int .i64 (t.Vat), .int .i64 (t.Entity), .int .i64 (t.Seq)]) 15 kR ?_
     have H16 := H9.drew; clear H9
     have hS17 : Cat W7.drew (Addr.add ade11 (i1 * 6)) [.int .i64 (l[i1].Kind), .int .i64 (l[i1].Vat), .int .i64 (l[i1].Entity), .int .i64 (l[i1].Tag.Vat), .int .i64 (l[i1].Tag.Entity), .int .i64 (l[i1].Tag.Seq)] ∧ Blk W7.drew g_0_0 50 #[.int .i64 (t.Vat), .int .i64 (t.Entity), .int .i64 (t.Seq)] := ⟨(Cat.upd hce11 H16.1), H16.blk 0 rfl⟩
     refine aD (i := 0) rfl kR kR kR kR kR (fun _ _ _ h => h) rfl rfl hS17 (fun W' hs' => aH rfl) ?_
     refine aD (i := 1) rfl kR kR kR kR kR (fun _ _ _ h => h) rfl rfl hS17 (fun W' hs' => aH rfl) ?_
     refine aD (i := 2) rfl kR kR kR kR kR (fun _ _ _ h => h) rfl rfl hS17 (fun W' hs' => fI (k := i1) Tryz.runUnderlying33 Tryz.sizeOf52 rfl rfl hAe11 hlt1) ?_
     refine aD (i := 3) rfl kR kR kR kR kR (fun _ _ _ h => h) rfl rfl hS17 (fun W' hs' => aZ iT rfl) ?_
     refine aD (i := 4) rfl kR kR kR kR kR (fun _ _ _ h => h) rfl rfl hS17 (fun W' hs' => kM (v := .int .i64 (l[i1].Kind)) Tryz.isAgg3 rfl hs'.1 rfl) ?_
     refine aD (i := 5) rfl kR kR kR kR kR (fun _ _ _ h => h) rfl rfl hS17 (fun W' hs' => j6 hg12 (jC rfl rfl)) ?_
     refine aD (i := 6) rfl kR kR kR kR kR (fun _ _ _ h => h) rfl rfl hS17 (fun W' hs' => aH rfl) ?_
     refine aF (i := 7) rfl rfl rfl rfl kR kR kR kR kR (fun _ _ _ h => h) rfl rfl hS17 (fun W' hs' => aH rfl) ?_
     refine aF (i := 8) rfl rfl rfl rfl kR kR kR kR kR (fun _ _ _ h => h) rfl rfl hS17 (fun W' hs' => aH rfl) ?_
     refine aF (i := 9) rfl rfl rfl rfl kR kR kR kR kR (fun _ _ _ h => h) rfl rfl hS17 (fun W' hs' => fI (k := i1) Tryz.runUnderlying33 Tryz.sizeOf52 rfl rfl hAe11 hlt1) ?_
     refine aF (i := 10) rfl rfl rfl rfl kR kR kR kR kR (fun _ _ _ h => h) rfl rfl hS17 (fun W' hs' => aZ gU rfl) ?_
     refine aF (i := 11) rfl rfl rfl rfl kR kR kR kR kR (fun _ _ _ h => h) rfl rfl hS17 (fun W' hs' => lX (sub := [.int .i64 (l[i1].Tag.Vat), .int .i64 (l[i1].Tag.Entity), .int .i64 (l[i1].Tag.Seq)]) Tryz.isAgg50 Tryz.sizeOf50 rfl hs'.1 rfl rfl) ?_
     refine aF (i := 12) rfl rfl rfl rfl kR kR kR kR kR (fun _ _ _ h => h) rfl rfl hS17 (fun W' hs' => gN Tryz.isAgg50 Tryz.sizeOf50 rfl hs'.2 rfl) ?_
     refine aF (i := 13) rfl rfl rfl rfl kR kR kR kR kR (fun _ _ _ h => h) rfl rfl hS17 (fun W' hs' => lQ (b := bQ (l[i1].Tag) t) (eq_false_of_ne_true hg13) (rn_eqlA Tryz.eqGuardType50 rfl rfl (eqr_Tag (l[i1].Tag) t _ 9998))) ?_
     refine aD (i := 14) rfl kR kR kR kR kR (fun _ _ _ h => h) rfl rfl hS17 (fun W' hs' => fZ (v := .bool (false)) (b := true) rfl rfl rfl rfl) ?_
     refine gF kR ?_ _
     refine aG ?_
     refine iY rfl ?_
     refine wp_skip ?_
     refine inB_n ?_
     refine aG ?_
     refine aL [0, 1, 2] rfl ?_
     refine aA ?_
     refine aC rfl (aH rfl) rfl rfl ?_
     refine aA ?_
     refine aC rfl (jJ (k := i1) rfl rfl kO) rfl rfl ?_
     refine aA ?_
     refine aC rfl (aN rfl) rfl rfl ?_
     refine aJ ?_
     refine aG ?_
     exact (bT [(0, .slice A l.length c), (3, .pointer (some ⟨g_0_0, 0, none⟩)), (5, .int .i64 (((i1 + 1 : Nat) : Int)))] rfl).elim fun x' hx => ⟨r6 - 1, kO, i1 + 1, x', hx, kO, (hf1.trans (any_no (sntB t) l i1 hlt1 (by simp [sntB, hg12, hg13]))), H16⟩
   ·refine gV (fun W' => Cat W' (Addr.add ade11 (i1 * 6)) [.int .i64 (l[i1].Kind), .int .i64 (l[i1].Vat), .int .i64 (l[i1].Entity), .int .i64 (l[i1].Tag.Vat), .int .i64 (l[i1].Tag.Entity), .int .i64 (l[i1].Tag.Seq)]) 15 kR ?_
    have H18 := H9.drew; clear H9
    have hS19 : Cat W7.drew (Addr.add ade11 (i1 * 6)) [.int .i64 (l[i1].Kind), .int .i64 (l[i1].Vat), .int .i64 (l[i1].Entity), .int .i64 (l[i1].Tag.Vat), .int .i64 (l[i1].Tag.Entity), .int .i64 (l[i1].Tag.Seq)] := (Cat.upd hce11 H18.1)
    refine aD (i := 0) rfl kR kR kR kR kR (fun _ _ _ h => h) rfl rfl hS19 (fun W' hs' => aH rfl) ?_
    refine aD (i := 1) rfl kR kR kR kR kR (fun _ _ _ h => h) rfl rfl hS19 (fun W' hs' => aH rfl) ?_
    refine aD (i := 2) rfl kR kR kR kR kR (fun _ _ _ h => h) rfl rfl hS19 (fun W' hs' => fI (k := i1) Tryz.runUnderlying33 Tryz.sizeOf52 rfl rfl hAe11 hlt1) ?_
    refine aD (i := 3) rfl kR kR kR kR kR (fun _ _ _ h => h) rfl rfl hS19 (fun W' hs' => aZ iT rfl) ?_
    refine aD (i := 4) rfl kR kR kR kR kR (fun _ _ _ h => h) rfl rfl hS19 (fun W' hs' => kM (v := .int .i64 (l[i1].Kind)) Tryz.isAgg3 rfl hs' rfl) ?_
    refine aD (i := 5) rfl kR kR kR kR kR (fun _ _ _ h => h) rfl rfl hS19 (fun W' hs' => j5 hg12 (jC rfl rfl)) ?_
    refine aD (i := 6) rfl kR kR kR kR kR (fun _ _ _ h => h) rfl rfl hS19 (fun W' hs' => aH rfl) ?_
    refine aW (i := 7) rfl rfl rfl rfl rfl kR kR kR kR kR (fun _ _ _ h => h) rfl rfl hS19 ?_
    refine aW (i := 8) rfl rfl rfl rfl rfl kR kR kR kR kR (fun _ _ _ h => h) rfl rfl hS19 ?_
    refine aW (i := 9) rfl rfl rfl rfl rfl kR kR kR kR kR (fun _ _ _ h => h) rfl rfl hS19 ?_
    refine aW (i := 10) rfl rfl rfl rfl rfl kR kR kR kR kR (fun _ _ _ h => h) rfl rfl hS19 ?_
    refine aW (i := 11) rfl rfl rfl rfl rfl kR kR kR kR kR (fun _ _ _ h => h) rfl rfl hS19 ?_
    refine aW (i := 12) rfl rfl rfl rfl rfl kR kR kR kR kR (fun _ _ _ h => h) rfl rfl hS19 ?_
    refine aW (i := 13) rfl rfl rfl rfl rfl kR kR kR kR kR (fun _ _ _ h => h) rfl rfl hS19 ?_
    refine aD (i := 14) rfl kR kR kR kR kR (fun _ _ _ h => h) rfl rfl hS19 (fun W' hs' => fZ (v := .bool (false)) (b := false) rfl rfl rfl rfl) ?_
    refine gF kR ?_ _
    refine aG ?_
    refine iY rfl ?_
    refine wp_skip ?_
    refine inB_n ?_
    refine aG ?_
    refine aL [0, 1, 2] rfl ?_
    refine aA ?_
    refine aC rfl (aH rfl) rfl rfl ?_
    refine aA ?_
    refine aC rfl (jJ (k := i1) rfl rfl kO) rfl rfl ?_
    refine aA ?_
    refine aC rfl (aN rfl) rfl rfl ?_
    refine aJ ?_
    refine aG ?_
    exact (bT [(0, .slice A l.length c), (3, .pointer (some ⟨g_0_0, 0, none⟩)), (5, .int .i64 (((i1 + 1 : Nat) : Int)))] rfl).elim fun x' hx => ⟨r6 - 1, kO, i1 + 1, x', hx, kO, (hf1.trans (any_no (sntB t) l i1 hlt1 (by simp [sntB, hg12]))), H18⟩
  ·have hge1 : l.length ≤ i1 := by omega
   obtain rfl : i1 = l.length := by omega
   refine wp_exit ?_
   refine jV ?_
   refine jV ?_
   refine inB_x ?_
   refine aG ?_
   refine wp_seq ?_
   refine aL [0] rfl ?_
   refine aA ?_
   refine aC rfl (aN rfl) rfl rfl ?_
   refine aJ ?_
   refine aG ?_
   refine wp_ret ?_
   have hr : wasS l t = false := hf1.trans (any_end (sntB t) l _ (Nat.le_refl _))
   refine gJ (.inl rfl) Tryz.results23 rfl ?_
   rw [hr]
   exact ⟨rfl, H9.1⟩
theorem turned_s (l : List GNote) (t : GTag) (A : Option Addr) (c : Nat) (ct : List Value) (w : World) (h : C dS w A l) (h2 : cZ.K w t ct) : Calls Tryz.prog 24 #[.slice A l.length c, .agg ct.toArray] w (RetInt ((iH l t : Nat) : Int) w) := by
 obtain rfl := jX h2
 have nx := h.1
 refine enter 31 [(0, .slice A l.length c), (1, .agg #[.int .i64 (t.Vat), .int .i64 (t.Entity), .int .i64 (t.Seq)])] Tryz.func24 rfl kR ?_
 intro xj
 have H1 : St w No [] w := St.enter
 refine wp_seq ?_
 refine aL [0, 1] rfl ?_
 refine aA ?_
 refine op_box rfl rfl rfl rfl H1 ?_
 intro g_0_0 W2 hu3 Ha4; clear H1; clear hu3
 refine aA ?_
 refine aC rfl (aN rfl) rfl rfl ?_
 refine aJ ?_
 refine aG ?_
 refine wp_seq ?_
 refine aL [0] rfl ?_
 refine aA ?_
 refine aC rfl (aN rfl) rfl rfl ?_
 refine aJ ?_
 refine aG ?_
 refine wp_seq ?_
 refine wp_seq ?_
 refine aL [0] rfl ?_
 refine aA ?_
 refine aC rfl (aN rfl) rfl rfl ?_
 refine aJ ?_
 refine aG ?_
 refine wp_block ?_
 refine wp_loop_ghost (fun r a' W' => ∃ (i1 : Nat) (x' : Nat → Value), a' = aX 31 x' [(0, .slice A l.length c), (3, .pointer (some ⟨g_0_0, 0, none⟩)), (5, .int .i64 (((iH (l.take i1) t : Nat) : Int))), (6, .int .i64 (((i1 : Nat) : Int)))] ∧ (i1 + r = l.length) ∧ St w No [hB g_0_0 50 #[.int .i64 (t.Vat), .int .i64 (t.Entity), .int .i64 (t.Seq)]] W') l.length ?_ ?_
 ·exact (bT [(0, .slice A l.length c), (3, .pointer (some ⟨g_0_0, 0, none⟩)), (5, .int .i64 (((iH (l.take 0) t : Nat) : Int))), (6, .int .i64 (((0 : Nat) : Int)))] rfl).elim fun x' hx => ⟨0, x', hx, kO, Ha4⟩
 ·rintro r6 _ W7 ⟨i1, x8, rfl, hi1, H9⟩; clear Ha4
  refine wp_seq ?_
  refine wp_seq ?_
  refine aL [0, 1, 2, 3] rfl ?_
  refine aA ?_
  refine aC rfl (aH rfl) rfl rfl ?_
  refine aA ?_
  refine aC rfl (aH rfl) rfl rfl ?_
  refine aA ?_
  refine aC rfl (rn_len Tryz.runUnderlying33 rfl) rfl rfl ?_
  refine aA ?_
  refine aC rfl (lV rfl rfl) rfl rfl ?_
  refine aJ ?_
  refine aG ?_
  refine jP rfl (fun hc10 => ?_) (fun hc10 => ?_)
  ·have hlt1 : i1 < l.length := by omega
   obtain ⟨ade11, cse11, hAe11, hKe11, hce11⟩ := C_elem h i1 hlt1
   have hle11 := jY hKe11
   have hoe11 := jZ hKe11
   obtain rfl := iR hKe11
   refine wp_skip ?_
   refine aG ?_
   refine wp_seq ?_
   refine wp_block ?_
   refine wp_seq ?_
   by_cases hg12 : ((l[i1].Kind) : Int) = 2
   ·by_cases hg13 : (bQ (l[i1].Tag) t) = true
    ·refine gV (fun W' => Cat W' (Addr.add ade11 (i1 * 6)) [.int .i64 (l[i1].Kind), .int .i64 (l[i1].Vat), .int .i64 (l[i1].Entity), .int .i64 (l[i1].Tag.Vat), .int .i64 (l[i1].Tag.Entity), .int .i64 (l[i1].Tag.Seq)] ∧ Blk W' g_0_0 50 #[.int .i64 (t.Vat), .int .i64 (t.Entity), .int .i64 (t.Seq)]) 15 kR ?_
     have H14 := H9.drew; clear H9
     have hS15 : Cat W7.drew (Addr.add ade11 (i1 * 6)) [.int .i64 (l[i1].Kind), .int .i64 (l[i1].Vat), .int .i64 (l[i1].Entity), .int .i64 (l[i1].Tag.Vat), .int .i64 (l[i1].Tag.Entity), .int .i64 (l[i1].Tag.Seq)] ∧ Blk W7.drew g_0_0 50 #[.int .i64 (t.Vat), .int .i64 (t.Entity), .int .i64 (t.Seq)] := ⟨(Cat.upd hce11 H14.1), H14.blk 0 rfl⟩
     refine aD (i := 0) rfl kR kR kR kR kR (fun _ _ _ h => h) rfl rfl hS15 (fun W' hs' => aH rfl) ?_
     refine aD (i := 1) rfl kR kR kR kR kR (fun _ _ _ h => h) rfl rfl hS15 (fun W' hs' => aH rfl) ?_
     refine aD (i := 2) rfl kR kR kR kR kR (fun _ _ _ h => h) rfl rfl hS15 (fun W' hs' => fI (k := i1) Tryz.runUnderlying33 Tryz.sizeOf52 rfl rfl hAe11 hlt1) ?_
     refine aD (i := 3) rfl kR kR kR kR kR (fun _ _ _ h => h) rfl rfl hS15 (fun W' hs' => aZ iT rfl) ?_
     refine aD (i := 4) rfl kR kR kR kR kR (fun _ _ _ h => h) rfl rfl hS15 (fun W' hs' => kM (v := .int .i64 (l[i1].Kind)) Tryz.isAgg3 rfl hs'.1 rfl) ?_
     refine aD (i := 5) rfl kR kR kR kR kR (fun _ _ _ h => h) rfl rfl hS15 (fun W' hs' => j6 hg12 (jC rfl rfl)) ?_
     refine aD (i := 6) rfl kR kR kR kR kR (fun _ _ _ h => h) rfl rfl hS15 (fun W' hs' => aH rfl) ?_
     refine aF (i := 7) rfl rfl rfl rfl kR kR kR kR kR (fun _ _ _ h => h) rfl rfl hS15 (fun W' hs' => aH rfl) ?_
     refine aF (i := 8) rfl rfl rfl rfl kR kR kR kR kR (fun _ _ _ h => h) rfl rfl hS15 (fun W' hs' => aH rfl) ?_
     refine aF (i := 9) rfl rfl rfl rfl kR kR kR kR kR (fun _ _ _ h => h) rfl rfl hS15 (fun W' hs' => fI (k := i1) Tryz.runUnderlying33 Tryz.sizeOf52 rfl rfl hAe11 hlt1) ?_
     refine aF (i := 10) rfl rfl rfl rfl kR kR kR kR kR (fun _ _ _ h => h) rfl rfl hS15 (fun W' hs' => aZ gU rfl) ?_
     refine aF (i := 11) rfl rfl rfl rfl kR kR kR kR kR (fun _ _ _ h => h) rfl rfl hS15 (fun W' hs' => lX (sub := [.int .i64 (l[i1].Tag.Vat), .int .i64 (l[i1].Tag.Entity), .int .i64 (l[i1].Tag.Seq)]) Tryz.isAgg50 Tryz.sizeOf50 rfl hs'.1 rfl rfl) ?_
     refine aF (i := 12) rfl rfl rfl rfl kR kR kR kR kR (fun _ _ _ h => h) rfl rfl hS15 (fun W' hs' => gN Tryz.isAgg50 Tryz.sizeOf50 rfl hs'.2 rfl) ?_
     refine aF (i := 13) rfl rfl rfl rfl kR kR kR kR kR (fun _ _ _ h => h) rfl rfl hS15 (fun W' hs' => lQ (b := bQ (l[i1].Tag) t) hg13 (rn_eqlA Tryz.eqGuardType50 rfl rfl (eqr_Tag (l[i1].Tag) t _ 9998))) ?_
     refine aD (i := 14) rfl kR kR kR kR kR (fun _ _ _ h => h) rfl rfl hS15 (fun W' hs' => fZ (v := .bool (true)) (b := true) rfl rfl rfl rfl) ?_
     refine gF kR ?_ _
     refine aG ?_
     refine cond_t rfl ?_
     have hcy : iH (l.take i1) t + 1 = iH (l.take (i1 + 1)) t := (cnt_yes l t i1 hlt1 (by simp [trnB, hg12, hg13])).symm
     refine aL [0, 1, 2] rfl ?_
     refine aA ?_
     refine aC rfl (aH rfl) rfl rfl ?_
     refine aA ?_
     refine aC rfl (rn_int (congrArg (fun z : Nat => (z : Int)) hcy) (jJ (k := iH (l.take i1) t) rfl rfl (by have := cnt_le l t i1 kO; omega))) rfl rfl ?_
     refine aA ?_
     refine aC rfl (aN rfl) rfl rfl ?_
     refine aJ ?_
     refine inB_n ?_
     refine aG ?_
     refine aL [0, 1, 2] rfl ?_
     refine aA ?_
     refine aC rfl (aH rfl) rfl rfl ?_
     refine aA ?_
     refine aC rfl (jJ (k := i1) rfl rfl kO) rfl rfl ?_
     refine aA ?_
     refine aC rfl (aN rfl) rfl rfl ?_
     refine aJ ?_
     refine aG ?_
     exact (bT [(0, .slice A l.length c), (3, .pointer (some ⟨g_0_0, 0, none⟩)), (5, .int .i64 (((iH (l.take (i1 + 1)) t : Nat) : Int))), (6, .int .i64 (((i1 + 1 : Nat) : Int)))] rfl).elim fun x' hx => ⟨r6 - 1, kO, i1 + 1, x', hx, kO, H14⟩
    ·refine gV (fun W' => Cat W' (Addr.add ade11 (i1 * 6)) [.int .i64 (l[i1].Kind), .int .i64 (l[i1].Vat), .int .i64 (l[i1].Entity), .int .i64 (l[i1].Tag.Vat), .int .i64 (l[i1].Tag.Entity), .int .i64 (l[i1].Tag.Seq)] ∧ Blk W' g_0_0 50 #[.int .i64 (t.Vat), .int .i64 (t.Entity), .int .i64 (t.Seq)]) 15 kR ?_
     have H16 := H9.drew; clear H9
     have hS17 : Cat W7.drew (Addr.add ade11 (i1 * 6)) [.int .i64 (l[i1].Kind), .int .i64 (l[i1].Vat), .int .i64 (l[i1].Entity), .int .i64 (l[i1].Tag.Vat), .int .i64 (l[i1].Tag.Entity), .int .i64 (l[i1].Tag.Seq)] ∧ Blk W7.drew g_0_0 50 #[.int .i64 (t.Vat), .int .i64 (t.Entity), .int .i64 (t.Seq)] := ⟨(Cat.upd hce11 H16.1), H16.blk 0 rfl⟩
     refine aD (i := 0) rfl kR kR kR kR kR (fun _ _ _ h => h) rfl rfl hS17 (fun W' hs' => aH rfl) ?_
     refine aD (i := 1) rfl kR kR kR kR kR (fun _ _ _ h => h) rfl rfl hS17 (fun W' hs' => aH rfl) ?_
     refine aD (i := 2) rfl kR kR kR kR kR (fun _ _ _ h => h) rfl rfl hS17 (fun W' hs' => fI (k := i1) Tryz.runUnderlying33 Tryz.sizeOf52 rfl rfl hAe11 hlt1) ?_
     refine aD (i := 3) rfl kR kR kR kR kR (fun _ _ _ h => h) rfl rfl hS17 (fun W' hs' => aZ iT rfl) ?_
     refine aD (i := 4) rfl kR kR kR kR kR (fun _ _ _ h => h) rfl rfl hS17 (fun W' hs' => kM (v := .int .i64 (l[i1].Kind)) Tryz.isAgg3 rfl hs'.1 rfl) ?_
     refine aD (i := 5) rfl kR kR kR kR kR (fun _ _ _ h => h) rfl rfl hS17 (fun W' hs' => j6 hg12 (jC rfl rfl)) ?_
     refine aD (i := 6) rfl kR kR kR kR kR (fun _ _ _ h => h) rfl rfl hS17 (fun W' hs' => aH rfl) ?_
     refine aF (i := 7) rfl rfl rfl rfl kR kR kR kR kR (fun _ _ _ h => h) rfl rfl hS17 (fun W' hs' => aH rfl) ?_
     refine aF (i := 8) rfl rfl rfl rfl kR kR kR kR kR (fun _ _ _ h => h) rfl rfl hS17 (fun W' hs' => aH rfl) ?_
     refine aF (i := 9) rfl rfl rfl rfl kR kR kR kR kR (fun _ _ _ h => h) rfl rfl hS17 (fun W' hs' => fI (k := i1) Tryz.runUnderlying33 Tryz.sizeOf52 rfl rfl hAe11 hlt1) ?_
     refine aF (i := 10) rfl rfl rfl rfl kR kR kR kR kR (fun _ _ _ h => h) rfl rfl hS17 (fun W' hs' => aZ gU rfl) ?_
     refine aF (i := 11) rfl rfl rfl rfl kR kR kR kR kR (fun _ _ _ h => h) rfl rfl hS17 (fun W' hs' => lX (sub := [.int .i64 (l[i1].Tag.Vat), .int .i64 (l[i1].Tag.Entity), .int .i64 (l[i1].Tag.Seq)]) Tryz.isAgg50 Tryz.sizeOf50 rfl hs'.1 rfl rfl) ?_
     refine aF (i := 12) rfl rfl rfl rfl kR kR kR kR kR (fun _ _ _ h => h) rfl rfl hS17 (fun W' hs' => gN Tryz.isAgg50 Tryz.sizeOf50 rfl hs'.2 rfl) ?_
     refine aF (i := 13) rfl rfl rfl rfl kR kR kR kR kR (fun _ _ _ h => h) rfl rfl hS17 (fun W' hs' => lQ (b := bQ (l[i1].Tag) t) (eq_false_of_ne_true hg13) (rn_eqlA Tryz.eqGuardType50 rfl rfl (eqr_Tag (l[i1].Tag) t _ 9998))) ?_
     refine aD (i := 14) rfl kR kR kR kR kR (fun _ _ _ h => h) rfl rfl hS17 (fun W' hs' => fZ (v := .bool (false)) (b := true) rfl rfl rfl rfl) ?_
     refine gF kR ?_ _
     refine aG ?_
     refine iY rfl ?_
     refine wp_skip ?_
     refine inB_n ?_
     refine aG ?_
     refine aL [0, 1, 2] rfl ?_
     refine aA ?_
     refine aC rfl (aH rfl) rfl rfl ?_
     refine aA ?_
     refine aC rfl (jJ (k := i1) rfl rfl kO) rfl rfl ?_
     refine aA ?_
     refine aC rfl (aN rfl) rfl rfl ?_
     refine aJ ?_
     refine aG ?_
     rw [show iH (l.take i1) t = iH (l.take (i1 + 1)) t from (cnt_no l t i1 hlt1 (by simp [trnB, hg12, hg13])).symm]
     exact (bT [(0, .slice A l.length c), (3, .pointer (some ⟨g_0_0, 0, none⟩)), (5, .int .i64 (((iH (l.take (i1 + 1)) t : Nat) : Int))), (6, .int .i64 (((i1 + 1 : Nat) : Int)))] rfl).elim fun x' hx => ⟨r6 - 1, kO, i1 + 1, x', hx, kO, H16⟩
   ·refine gV (fun W' => Cat W' (Addr.add ade11 (i1 * 6)) [.int .i64 (l[i1].Kind), .int .i64 (l[i1].Vat), .int .i64 (l[i1].Entity), .int .i64 (l[i1].Tag.Vat), .int .i64 (l[i1].Tag.Entity), .int .i64 (l[i1].Tag.Seq)]) 15 kR ?_
    have H18 := H9.drew; clear H9
    have hS19 : Cat W7.drew (Addr.add ade11 (i1 * 6)) [.int .i64 (l[i1].Kind), .int .i64 (l[i1].Vat), .int .i64 (l[i1].Entity), .int .i64 (l[i1].Tag.Vat), .int .i64 (l[i1].Tag.Entity), .int .i64 (l[i1].Tag.Seq)] := (Cat.upd hce11 H18.1)
    refine aD (i := 0) rfl kR kR kR kR kR (fun _ _ _ h => h) rfl rfl hS19 (fun W' hs' => aH rfl) ?_
    refine aD (i := 1) rfl kR kR kR kR kR (fun _ _ _ h => h) rfl rfl hS19 (fun W' hs' => aH rfl) ?_
    refine aD (i := 2) rfl kR kR kR kR kR (fun _ _ _ h => h) rfl rfl hS19 (fun W' hs' => fI (k := i1) Tryz.runUnderlying33 Tryz.sizeOf52 rfl rfl hAe11 hlt1) ?_
    refine aD (i := 3) rfl kR kR kR kR kR (fun _ _ _ h => h) rfl rfl hS19 (fun W' hs' => aZ iT rfl) ?_
    refine aD (i := 4) rfl kR kR kR kR kR (fun _ _ _ h => h) rfl rfl hS19 (fun W' hs' => kM (v := .int .i64 (l[i1].Kind)) Tryz.isAgg3 rfl hs' rfl) ?_
    refine aD (i := 5) rfl kR kR kR kR kR (fun _ _ _ h => h) rfl rfl hS19 (fun W' hs' => j5 hg12 (jC rfl rfl)) ?_
    refine aD (i := 6) rfl kR kR kR kR kR (fun _ _ _ h => h) rfl rfl hS19 (fun W' hs' => aH rfl) ?_
    refine aW (i := 7) rfl rfl rfl rfl rfl kR kR kR kR kR (fun _ _ _ h => h) rfl rfl hS19 ?_
    refine aW (i := 8) rfl rfl rfl rfl rfl kR kR kR kR kR (fun _ _ _ h => h) rfl rfl hS19 ?_
    refine aW (i := 9) rfl rfl rfl rfl rfl kR kR kR kR kR (fun _ _ _ h => h) rfl rfl hS19 ?_
    refine aW (i := 10) rfl rfl rfl rfl rfl kR kR kR kR kR (fun _ _ _ h => h) rfl rfl hS19 ?_
    refine aW (i := 11) rfl rfl rfl rfl rfl kR kR kR kR kR (fun _ _ _ h => h) rfl rfl hS19 ?_
    refine aW (i := 12) rfl rfl rfl rfl rfl kR kR kR kR kR (fun _ _ _ h => h) rfl rfl hS19 ?_
    refine aW (i := 13) rfl rfl rfl rfl rfl kR kR kR kR kR (fun _ _ _ h => h) rfl rfl hS19 ?_
    refine aD (i := 14) rfl kR kR kR kR kR (fun _ _ _ h => h) rfl rfl hS19 (fun W' hs' => fZ (v := .bool (false)) (b := false) rfl rfl rfl rfl) ?_
    refine gF kR ?_ _
    refine aG ?_
    refine iY rfl ?_
    refine wp_skip ?_
    refine inB_n ?_
    refine aG ?_
    refine aL [0, 1, 2] rfl ?_
    refine aA ?_
    refine aC rfl (aH rfl) rfl rfl ?_
    refine aA ?_
    refine aC rfl (jJ (k := i1) rfl rfl kO) rfl rfl ?_
    refine aA ?_
    refine aC rfl (aN rfl) rfl rfl ?_
    refine aJ ?_
    refine aG ?_
    rw [show iH (l.take i1) t = iH (l.take (i1 + 1)) t from (cnt_no l t i1 hlt1 (by simp [trnB, hg12])).symm]
    exact (bT [(0, .slice A l.length c), (3, .pointer (some ⟨g_0_0, 0, none⟩)), (5, .int .i64 (((iH (l.take (i1 + 1)) t : Nat) : Int))), (6, .int .i64 (((i1 + 1 : Nat) : Int)))] rfl).elim fun x' hx => ⟨r6 - 1, kO, i1 + 1, x', hx, kO, H18⟩
  ·have hge1 : l.length ≤ i1 := by omega
   obtain rfl : i1 = l.length := by omega
   refine wp_exit ?_
   refine jV ?_
   refine jV ?_
   refine inB_x ?_
   refine aG ?_
   refine wp_seq ?_
   refine aL [0, 1] rfl ?_
   refine aA ?_
   refine aC rfl (aH rfl) rfl rfl ?_
   refine aA ?_
   refine aC rfl (aN rfl) rfl rfl ?_
   refine aJ ?_
   refine aG ?_
   refine wp_ret ?_
   refine gJ (.inl rfl) Tryz.results24 rfl ?_
   exact ⟨by rw [List.take_length], H9.1⟩
theorem isCausal_s (x : GWorld) (cs : List Value) (w : World) (h : cB.K w x cs) : Calls Tryz.prog 7 #[.agg cs.toArray] w (bU (czA (okS x.aB) x.aB x.aB.length) w) := by
 obtain ⟨Ax0, cx0, Ax1, cx1, Ax2, cx2, Ax3, cx3, rfl, hlx0, hCx0, hlx1, hCx1, hlx2, hCx2, hlx3, hCx3⟩ := l8 h
 have nx := hCx3.1
 refine enter 38 [(0, .agg #[.slice Ax0 x.bG.length cx0, .slice Ax1 x.gT.length cx1, .slice Ax2 x.bA.length cx2, .slice Ax3 x.aB.length cx3, .int .i64 (x.fC)])] Tryz.func7 rfl kR ?_
 intro xj
 have H1 : St w No [] w := St.enter
 refine wp_seq ?_
 refine aL [0, 1] rfl ?_
 refine aA ?_
 refine op_box rfl rfl rfl rfl H1 ?_
 intro g_0_0 W2 hu3 Ha4; clear H1; clear hu3
 refine aA ?_
 refine aC rfl (aN rfl) rfl rfl ?_
 refine aJ ?_
 refine aG ?_
 refine wp_seq ?_
 refine wp_seq ?_
 refine aL [0] rfl ?_
 refine aA ?_
 refine aC rfl (aN rfl) rfl rfl ?_
 refine aJ ?_
 refine aG ?_
 refine wp_block ?_
 refine wp_loop_ghost (fun r a' W' => ∃ (i1 : Nat) (x' : Nat → Value), a' = aX 38 x' [(1, .pointer (some ⟨g_0_0, 0, none⟩)), (3, .int .i64 (((i1 : Nat) : Int)))] ∧ (i1 + r = x.aB.length) ∧ (czA (okS x.aB) x.aB i1 = true) ∧ St w No [hB g_0_0 35 #[.slice Ax0 x.bG.length cx0, .slice Ax1 x.gT.length cx1, .slice Ax2 x.bA.length cx2, .slice Ax3 x.aB.length cx3, .int .i64 (x.fC)]] W') x.aB.length ?_ ?_
 ·exact (bT [(1, .pointer (some ⟨g_0_0, 0, none⟩)), (3, .int .i64 (((0 : Nat) : Int)))] rfl).elim fun x' hx => ⟨0, x', hx, kO, rfl, Ha4⟩
 ·rintro r6 _ W7 ⟨i1, x8, rfl, hi1, hf1, H9⟩; clear Ha4
  refine wp_seq ?_
  refine wp_seq ?_
  refine aL [0, 1, 2, 3, 4] rfl ?_
  refine aA ?_
  refine aC rfl (aH rfl) rfl rfl ?_
  refine aA ?_
  refine aC rfl (aZ gY rfl) rfl rfl ?_
  refine aA ?_
  refine aC rfl (eG (k := 3) (v := .slice Ax3 x.aB.length cx3) Tryz.isAgg33 rfl (H9.blk 0 rfl) rfl) rfl rfl ?_
  refine aA ?_
  refine aC rfl (rn_len Tryz.runUnderlying33 rfl) rfl rfl ?_
  refine aA ?_
  refine aC rfl (lV rfl rfl) rfl rfl ?_
  refine aJ ?_
  refine aG ?_
  refine jP rfl (fun hc10 => ?_) (fun hc10 => ?_)
  ·have hlt1 : i1 < x.aB.length := by omega
   obtain ⟨ade11, cse11, hAe11, hKe11, hce11⟩ := C_elem hCx3 i1 hlt1
   have hle11 := jY hKe11
   have hoe11 := jZ hKe11
   obtain rfl := iR hKe11
   refine wp_skip ?_
   refine aG ?_
   refine wp_seq ?_
   refine wp_block ?_
   refine wp_seq ?_
   refine aL [0, 1, 2, 3, 4, 5, 6] rfl ?_
   refine aA ?_
   refine aC rfl (aZ gY rfl) rfl rfl ?_
   refine aA ?_
   refine aC rfl (eG (k := 3) (v := .slice Ax3 x.aB.length cx3) Tryz.isAgg33 rfl (H9.blk 0 rfl) rfl) rfl rfl ?_
   refine aA ?_
   refine aC rfl (aH rfl) rfl rfl ?_
   refine aA ?_
   refine aC rfl (fI (k := i1) Tryz.runUnderlying33 Tryz.sizeOf52 rfl rfl hAe11 hlt1) rfl rfl ?_
   refine aA ?_
   refine aC rfl (lD Tryz.isAgg52 Tryz.sizeOf52 rfl (Cat.upd hce11 H9.1) rfl) rfl rfl ?_
   refine aA ?_
   refine nI rfl Tryz.zeroValue52 rfl rfl H9 ?_
   intro g_4_5 W12 hu13 Ha14; clear H9; clear hu13
   refine aA ?_
   refine lW rfl Tryz.sizeOf52 rfl rfl rfl rfl kS Ha14 ?_
   intro W16 hu17 Ha18; clear Ha14; clear hu17
   refine aJ ?_
   refine aG ?_
   refine wp_seq ?_
   have hCtk := C_take hCx3 i1 kO
   by_cases hg20 : ((x.aB[i1].Kind) : Int) = 2
   ·by_cases hg21 : (wasS (x.aB.take i1) (x.aB[i1].Tag)) = true
    ·by_cases hg22 : ¬ ((iH x.aB (x.aB[i1].Tag) : Nat) : Int) = 1
     ·refine gV (fun W' => Blk W' g_4_5 52 #[.int .i64 (x.aB[i1].Kind), .int .i64 (x.aB[i1].Vat), .int .i64 (x.aB[i1].Entity), .int .i64 (x.aB[i1].Tag.Vat), .int .i64 (x.aB[i1].Tag.Entity), .int .i64 (x.aB[i1].Tag.Seq)] ∧ Blk W' g_0_0 35 #[.slice Ax0 x.bG.length cx0, .slice Ax1 x.gT.length cx1, .slice Ax2 x.bA.length cx2, .slice Ax3 x.aB.length cx3, .int .i64 (x.fC)]) 21 kR ?_
      have H23 := Ha18.drew; clear Ha18
      have hS24 : Blk W16.drew g_4_5 52 #[.int .i64 (x.aB[i1].Kind), .int .i64 (x.aB[i1].Vat), .int .i64 (x.aB[i1].Entity), .int .i64 (x.aB[i1].Tag.Vat), .int .i64 (x.aB[i1].Tag.Entity), .int .i64 (x.aB[i1].Tag.Seq)] ∧ Blk W16.drew g_0_0 35 #[.slice Ax0 x.bG.length cx0, .slice Ax1 x.gT.length cx1, .slice Ax2 x.bA.length cx2, .slice Ax3 x.aB.length cx3, .int .i64 (x.fC)] := ⟨H23.blk 0 rfl, H23.blk 1 rfl⟩
      refine aD (i := 0) rfl kR kR kR kR kR (fun _ _ _ h => h) rfl rfl hS24 (fun W' hs' => aZ iT rfl) ?_
      refine aD (i := 1) rfl kR kR kR kR kR (fun _ _ _ h => h) rfl rfl hS24 (fun W' hs' => eG (k := 0) (v := .int .i64 (x.aB[i1].Kind)) Tryz.isAgg3 rfl hs'.1 rfl) ?_
      refine aD (i := 2) rfl kR kR kR kR kR (fun _ _ _ h => h) rfl rfl hS24 (fun W' hs' => j6 hg20 (jC rfl rfl)) ?_
      refine aD (i := 3) rfl kR kR kR kR kR (fun _ _ _ h => h) rfl rfl hS24 (fun W' hs' => aH rfl) ?_
      refine aF (i := 4) rfl rfl rfl rfl kR kR kR kR kR (fun _ _ _ h => h) rfl rfl hS24 (fun W' hs' => aZ gY rfl) ?_
      refine aF (i := 5) rfl rfl rfl rfl kR kR kR kR kR (fun _ _ _ h => h) rfl rfl hS24 (fun W' hs' => eG (k := 3) (v := .slice Ax3 x.aB.length cx3) Tryz.isAgg33 rfl hs'.2 rfl) ?_
      refine aF (i := 6) rfl rfl rfl rfl kR kR kR kR kR (fun _ _ _ h => h) rfl rfl hS24 (fun W' hs' => aH rfl) ?_
      refine aF (i := 7) rfl rfl rfl rfl kR kR kR kR kR (fun _ _ _ h => h) rfl rfl hS24 (fun W' hs' => rn_sliceH (k := i1) (m := (x.aB.take i1).length) Tryz.underlying33 Tryz.sizeOf52 rfl rfl kO (by rw [List.length_take, Nat.min_eq_left kO])) ?_
      refine aF (i := 8) rfl rfl rfl rfl kR kR kR kR kR (fun _ _ _ h => h) rfl rfl hS24 (fun W' hs' => aZ gU rfl) ?_
      refine aF (i := 9) rfl rfl rfl rfl kR kR kR kR kR (fun _ _ _ h => h) rfl rfl hS24 (fun W' hs' => iI (sub := #[.int .i64 (x.aB[i1].Tag.Vat), .int .i64 (x.aB[i1].Tag.Entity), .int .i64 (x.aB[i1].Tag.Seq)]) Tryz.isAgg50 Tryz.sizeOf50 rfl hs'.1 rfl rfl) ?_
      refine jB (i := 10) kR ?_
      refine op_G rfl rfl rfl rfl (fun _ ho25 => ?_)
      refine eF ho25 Tryz.call23 (vs := #[.slice Ax3 ((x.aB.take i1).length) cx3, .agg #[.int .i64 (x.aB[i1].Tag.Vat), .int .i64 (x.aB[i1].Tag.Entity), .int .i64 (x.aB[i1].Tag.Seq)]]) rfl rfl rfl (retb (wasSent_s (x.aB.take i1) (x.aB[i1].Tag) _ _ _ _ (aM H23.1 hCtk) (eY _ (x.aB[i1].Tag))) hg21) ?_
      rintro e28 W27 ⟨rfl, hu26⟩; refine ⟨_, rfl, ?_⟩
      have H29 := H23.no hu26; clear H23
      have hS30 := And.intro (H29.blk 0 rfl) (H29.blk 1 rfl); refine ⟨fun _ => hS30, ?_⟩
      refine aF (i := 11) rfl rfl rfl rfl kR kR kR kR kR (fun _ _ _ h => h) rfl rfl hS30 (fun W' hs' => rn_not rfl) ?_
      refine aF (i := 12) rfl rfl rfl rfl kR kR kR kR kR (fun _ _ _ h => h) rfl rfl hS30 (fun W' hs' => aH rfl) ?_
      refine aF (i := 13) rfl rfl rfl rfl kR kR kR kR kR (fun _ _ _ h => h) rfl rfl hS30 (fun W' hs' => aZ gY rfl) ?_
      refine aF (i := 14) rfl rfl rfl rfl kR kR kR kR kR (fun _ _ _ h => h) rfl rfl hS30 (fun W' hs' => eG (k := 3) (v := .slice Ax3 x.aB.length cx3) Tryz.isAgg33 rfl hs'.2 rfl) ?_
      refine aF (i := 15) rfl rfl rfl rfl kR kR kR kR kR (fun _ _ _ h => h) rfl rfl hS30 (fun W' hs' => aZ gU rfl) ?_
      refine aF (i := 16) rfl rfl rfl rfl kR kR kR kR kR (fun _ _ _ h => h) rfl rfl hS30 (fun W' hs' => iI (sub := #[.int .i64 (x.aB[i1].Tag.Vat), .int .i64 (x.aB[i1].Tag.Entity), .int .i64 (x.aB[i1].Tag.Seq)]) Tryz.isAgg50 Tryz.sizeOf50 rfl hs'.1 rfl rfl) ?_
      refine jB (i := 17) kR ?_
      refine op_G rfl rfl rfl rfl (fun _ ho31 => ?_)
      refine eF ho31 Tryz.call24 (vs := #[.slice Ax3 x.aB.length cx3, .agg #[.int .i64 (x.aB[i1].Tag.Vat), .int .i64 (x.aB[i1].Tag.Entity), .int .i64 (x.aB[i1].Tag.Seq)]]) rfl rfl rfl (turned_s x.aB (x.aB[i1].Tag) _ _ _ _ (aM H29.1 hCx3) (eY _ (x.aB[i1].Tag))) ?_
      rintro e34 W33 ⟨rfl, hu32⟩; refine ⟨_, rfl, ?_⟩
      have H35 := H29.no hu32; clear H29
      have hS36 := And.intro (H35.blk 0 rfl) (H35.blk 1 rfl); refine ⟨fun _ => hS36, ?_⟩
      refine aF (i := 18) rfl rfl rfl rfl kR kR kR kR kR (fun _ _ _ h => h) rfl rfl hS36 (fun W' hs' => j6 hg22 (rn_neq rfl rfl)) ?_
      refine aF (i := 19) rfl rfl rfl rfl kR kR kR kR kR (fun _ _ _ h => h) rfl rfl hS36 (fun W' hs' => fZ (v := .bool (true)) (b := false) rfl rfl rfl rfl) ?_
      refine aD (i := 20) rfl kR kR kR kR kR (fun _ _ _ h => h) rfl rfl hS36 (fun W' hs' => fZ (v := .bool (true)) (b := true) rfl rfl rfl rfl) ?_
      refine gF kR ?_ _
      refine aG ?_
      refine cond_t rfl ?_
      refine wp_seq ?_
      refine aL [0] rfl ?_
      refine aA ?_
      refine aC rfl (aN rfl) rfl rfl ?_
      refine aJ ?_
      refine aG ?_
      refine wp_ret ?_
      refine inB_r ?_
      refine jK ?_
      refine jK ?_
      refine inB_r ?_
      refine jK ?_
      have hr : czA (okS x.aB) x.aB x.aB.length = false := cz_bad _ _ i1 hlt1 (by simp [okS, hg20, hg21, (show ¬ iH x.aB (x.aB[i1].Tag) = 1 from by omega)]) _ hlt1
      refine gJ (.inl rfl) Tryz.results7 rfl ?_
      rw [hr]
      exact ⟨rfl, H35.1⟩
     ·refine gV (fun W' => Blk W' g_4_5 52 #[.int .i64 (x.aB[i1].Kind), .int .i64 (x.aB[i1].Vat), .int .i64 (x.aB[i1].Entity), .int .i64 (x.aB[i1].Tag.Vat), .int .i64 (x.aB[i1].Tag.Entity), .int .i64 (x.aB[i1].Tag.Seq)] ∧ Blk W' g_0_0 35 #[.slice Ax0 x.bG.length cx0, .slice Ax1 x.gT.length cx1, .slice Ax2 x.bA.length cx2, .slice Ax3 x.aB.length cx3, .int .i64 (x.fC)]) 21 kR ?_
      have H37 := Ha18.drew; clear Ha18
      have hS38 : Blk W16.drew g_4_5 52 #[.int .i64 (x.aB[i1].Kind), .int .i64 (x.aB[i1].Vat), .int .i64 (x.aB[i1].Entity), .int .i64 (x.aB[i1].Tag.Vat), .int .i64 (x.aB[i1].Tag.Entity), .int .i64 (x.aB[i1].Tag.Seq)] ∧ Blk W16.drew g_0_0 35 #[.slice Ax0 x.bG.length cx0, .slice Ax1 x.gT.length cx1, .slice Ax2 x.bA.length cx2, .slice Ax3 x.aB.length cx3, .int .i64 (x.fC)] := ⟨H37.blk 0 rfl, H37.blk 1 rfl⟩
      refine aD (i := 0) rfl kR kR kR kR kR (fun _ _ _ h => h) rfl rfl hS38 (fun W' hs' => aZ iT rfl) ?_
      refine aD (i := 1) rfl kR kR kR kR kR (fun _ _ _ h => h) rfl rfl hS38 (fun W' hs' => eG (k := 0) (v := .int .i64 (x.aB[i1].Kind)) Tryz.isAgg3 rfl hs'.1 rfl) ?_
      refine aD (i := 2) rfl kR kR kR kR kR (fun _ _ _ h => h) rfl rfl hS38 (fun W' hs' => j6 hg20 (jC rfl rfl)) ?_
      refine aD (i := 3) rfl kR kR kR kR kR (fun _ _ _ h => h) rfl rfl hS38 (fun W' hs' => aH rfl) ?_
      refine aF (i := 4) rfl rfl rfl rfl kR kR kR kR kR (fun _ _ _ h => h) rfl rfl hS38 (fun W' hs' => aZ gY rfl) ?_
      refine aF (i := 5) rfl rfl rfl rfl kR kR kR kR kR (fun _ _ _ h => h) rfl rfl hS38 (fun W' hs' => eG (k := 3) (v := .slice Ax3 x.aB.length cx3) Tryz.isAgg33 rfl hs'.2 rfl) ?_
      refine aF (i := 6) rfl rfl rfl rfl kR kR kR kR kR (fun _ _ _ h => h) rfl rfl hS38 (fun W' hs' => aH rfl) ?_
      refine aF (i := 7) rfl rfl rfl rfl kR kR kR kR kR (fun _ _ _ h => h) rfl rfl hS38 (fun W' hs' => rn_sliceH (k := i1) (m := (x.aB.take i1).length) Tryz.underlying33 Tryz.sizeOf52 rfl rfl kO (by rw [List.length_take, Nat.min_eq_left kO])) ?_
      refine aF (i := 8) rfl rfl rfl rfl kR kR kR kR kR (fun _ _ _ h => h) rfl rfl hS38 (fun W' hs' => aZ gU rfl) ?_
      refine aF (i := 9) rfl rfl rfl rfl kR kR kR kR kR (fun _ _ _ h => h) rfl rfl hS38 (fun W' hs' => iI (sub := #[.int .i64 (x.aB[i1].Tag.Vat), .int .i64 (x.aB[i1].Tag.Entity), .int .i64 (x.aB[i1].Tag.Seq)]) Tryz.isAgg50 Tryz.sizeOf50 rfl hs'.1 rfl rfl) ?_
      refine jB (i := 10) kR ?_
      refine op_G rfl rfl rfl rfl (fun _ ho39 => ?_)
      refine eF ho39 Tryz.call23 (vs := #[.slice Ax3 ((x.aB.take i1).length) cx3, .agg #[.int .i64 (x.aB[i1].Tag.Vat), .int .i64 (x.aB[i1].Tag.Entity), .int .i64 (x.aB[i1].Tag.Seq)]]) rfl rfl rfl (retb (wasSent_s (x.aB.take i1) (x.aB[i1].Tag) _ _ _ _ (aM H37.1 hCtk) (eY _ (x.aB[i1].Tag))) hg21) ?_
      rintro e42 W41 ⟨rfl, hu40⟩; refine ⟨_, rfl, ?_⟩
      have H43 := H37.no hu40; clear H37
      have hS44 := And.intro (H43.blk 0 rfl) (H43.blk 1 rfl); refine ⟨fun _ => hS44, ?_⟩
      refine aF (i := 11) rfl rfl rfl rfl kR kR kR kR kR (fun _ _ _ h => h) rfl rfl hS44 (fun W' hs' => rn_not rfl) ?_
      refine aF (i := 12) rfl rfl rfl rfl kR kR kR kR kR (fun _ _ _ h => h) rfl rfl hS44 (fun W' hs' => aH rfl) ?_
      refine aF (i := 13) rfl rfl rfl rfl kR kR kR kR kR (fun _ _ _ h => h) rfl rfl hS44 (fun W' hs' => aZ gY rfl) ?_
      refine aF (i := 14) rfl rfl rfl rfl kR kR kR kR kR (fun _ _ _ h => h) rfl rfl hS44 (fun W' hs' => eG (k := 3) (v := .slice Ax3 x.aB.length cx3) Tryz.isAgg33 rfl hs'.2 rfl) ?_
      refine aF (i := 15) rfl rfl rfl rfl kR kR kR kR kR (fun _ _ _ h => h) rfl rfl hS44 (fun W' hs' => aZ gU rfl) ?_
      refine aF (i := 16) rfl rfl rfl rfl kR kR kR kR kR (fun _ _ _ h => h) rfl rfl hS44 (fun W' hs' => iI (sub := #[.int .i64 (x.aB[i1].Tag.Vat), .int .i64 (x.aB[i1].Tag.Entity), .int .i64 (x.aB[i1].Tag.Seq)]) Tryz.isAgg50 Tryz.sizeOf50 rfl hs'.1 rfl rfl) ?_
      refine jB (i := 17) kR ?_
      refine op_G rfl rfl rfl rfl (fun _ ho45 => ?_)
      refine eF ho45 Tryz.call24 (vs := #[.slice Ax3 x.aB.length cx3, .agg #[.int .i64 (x.aB[i1].Tag.Vat), .int .i64 (x.aB[i1].Tag.Entity), .int .i64 (x.aB[i1].Tag.Seq)]]) rfl rfl rfl (turned_s x.aB (x.aB[i1].Tag) _ _ _ _ (aM H43.1 hCx3) (eY _ (x.aB[i1].Tag))) ?_
      rintro e48 W47 ⟨rfl, hu46⟩; refine ⟨_, rfl, ?_⟩
      have H49 := H43.no hu46; clear H43
      have hS50 := And.intro (H49.blk 0 rfl) (H49.blk 1 rfl); refine ⟨fun _ => hS50, ?_⟩
      refine aF (i := 18) rfl rfl rfl rfl kR kR kR kR kR (fun _ _ _ h => h) rfl rfl hS50 (fun W' hs' => j5 hg22 (rn_neq rfl rfl)) ?_
      refine aF (i := 19) rfl rfl rfl rfl kR kR kR kR kR (fun _ _ _ h => h) rfl rfl hS50 (fun W' hs' => fZ (v := .bool (false)) (b := false) rfl rfl rfl rfl) ?_
      refine aD (i := 20) rfl kR kR kR kR kR (fun _ _ _ h => h) rfl rfl hS50 (fun W' hs' => fZ (v := .bool (false)) (b := true) rfl rfl rfl rfl) ?_
      refine gF kR ?_ _
      refine aG ?_
      refine iY rfl ?_
      refine wp_skip ?_
      refine inB_n ?_
      refine aG ?_
      refine aL [0, 1, 2] rfl ?_
      refine aA ?_
      refine aC rfl (aH rfl) rfl rfl ?_
      refine aA ?_
      refine aC rfl (jJ (k := i1) rfl rfl kO) rfl rfl ?_
      refine aA ?_
      refine aC rfl (aN rfl) rfl rfl ?_
      refine aJ ?_
      refine aG ?_
      exact (bT [(1, .pointer (some ⟨g_0_0, 0, none⟩)), (3, .int .i64 (((i1 + 1 : Nat) : Int)))] rfl).elim fun x' hx => ⟨r6 - 1, kO, i1 + 1, x', hx, kO, (by rw [cz_step _ _ i1 hlt1 hf1]; simp [okS, hg20, hg21, (show iH x.aB (x.aB[i1].Tag) = 1 from by omega)]), H49.pick [1] kD rfl⟩
    ·refine gV (fun W' => Blk W' g_4_5 52 #[.int .i64 (x.aB[i1].Kind), .int .i64 (x.aB[i1].Vat), .int .i64 (x.aB[i1].Entity), .int .i64 (x.aB[i1].Tag.Vat), .int .i64 (x.aB[i1].Tag.Entity), .int .i64 (x.aB[i1].Tag.Seq)] ∧ Blk W' g_0_0 35 #[.slice Ax0 x.bG.length cx0, .slice Ax1 x.gT.length cx1, .slice Ax2 x.bA.length cx2, .slice Ax3 x.aB.length cx3, .int .i64 (x.fC)]) 21 kR ?_
     have H51 := Ha18.drew; clear Ha18
     have hS52 : Blk W16.drew g_4_5 52 #[.int .i64 (x.aB[i1].Kind), .int .i64 (x.aB[i1].Vat), .int .i64 (x.aB[i1].Entity), .int .i64 (x.aB[i1].Tag.Vat), .int .i64 (x.aB[i1].Tag.Entity), .int .i64 (x.aB[i1].Tag.Seq)] ∧ Blk W16.drew g_0_0 35 #[.slice Ax0 x.bG.length cx0, .slice Ax1 x.gT.length cx1, .slice Ax2 x.bA.length cx2, .slice Ax3 x.aB.length cx3, .int .i64 (x.fC)] := ⟨H51.blk 0 rfl, H51.blk 1 rfl⟩
     refine aD (i := 0) rfl kR kR kR kR kR (fun _ _ _ h => h) rfl rfl hS52 (fun W' hs' => aZ iT rfl) ?_
     refine aD (i := 1) rfl kR kR kR kR kR (fun _ _ _ h => h) rfl rfl hS52 (fun W' hs' => eG (k := 0) (v := .int .i64 (x.aB[i1].Kind)) Tryz.isAgg3 rfl hs'.1 rfl) ?_
     refine aD (i := 2) rfl kR kR kR kR kR (fun _ _ _ h => h) rfl rfl hS52 (fun W' hs' => j6 hg20 (jC rfl rfl)) ?_
     refine aD (i := 3) rfl kR kR kR kR kR (fun _ _ _ h => h) rfl rfl hS52 (fun W' hs' => aH rfl) ?_
     refine aF (i := 4) rfl rfl rfl rfl kR kR kR kR kR (fun _ _ _ h => h) rfl rfl hS52 (fun W' hs' => aZ gY rfl) ?_
     refine aF (i := 5) rfl rfl rfl rfl kR kR kR kR kR (fun _ _ _ h => h) rfl rfl hS52 (fun W' hs' => eG (k := 3) (v := .slice Ax3 x.aB.length cx3) Tryz.isAgg33 rfl hs'.2 rfl) ?_
     refine aF (i := 6) rfl rfl rfl rfl kR kR kR kR kR (fun _ _ _ h => h) rfl rfl hS52 (fun W' hs' => aH rfl) ?_
     refine aF (i := 7) rfl rfl rfl rfl kR kR kR kR kR (fun _ _ _ h => h) rfl rfl hS52 (fun W' hs' => rn_sliceH (k := i1) (m := (x.aB.take i1).length) Tryz.underlying33 Tryz.sizeOf52 rfl rfl kO (by rw [List.length_take, Nat.min_eq_left kO])) ?_
     refine aF (i := 8) rfl rfl rfl rfl kR kR kR kR kR (fun _ _ _ h => h) rfl rfl hS52 (fun W' hs' => aZ gU rfl) ?_
     refine aF (i := 9) rfl rfl rfl rfl kR kR kR kR kR (fun _ _ _ h => h) rfl rfl hS52 (fun W' hs' => iI (sub := #[.int .i64 (x.aB[i1].Tag.Vat), .int .i64 (x.aB[i1].Tag.Entity), .int .i64 (x.aB[i1].Tag.Seq)]) Tryz.isAgg50 Tryz.sizeOf50 rfl hs'.1 rfl rfl) ?_
     refine jB (i := 10) kR ?_
     refine op_G rfl rfl rfl rfl (fun _ ho53 => ?_)
     refine eF ho53 Tryz.call23 (vs := #[.slice Ax3 ((x.aB.take i1).length) cx3, .agg #[.int .i64 (x.aB[i1].Tag.Vat), .int .i64 (x.aB[i1].Tag.Entity), .int .i64 (x.aB[i1].Tag.Seq)]]) rfl rfl rfl (retb (wasSent_s (x.aB.take i1) (x.aB[i1].Tag) _ _ _ _ (aM H51.1 hCtk) (eY _ (x.aB[i1].Tag))) (eq_false_of_ne_true hg21)) ?_
     rintro e56 W55 ⟨rfl, hu54⟩; refine ⟨_, rfl, ?_⟩
     have H57 := H51.no hu54; clear H51
     have hS58 := And.intro (H57.blk 0 rfl) (H57.blk 1 rfl); refine ⟨fun _ => hS58, ?_⟩
     refine aF (i := 11) rfl rfl rfl rfl kR kR kR kR kR (fun _ _ _ h => h) rfl rfl hS58 (fun W' hs' => rn_not rfl) ?_
     refine aF (i := 12) rfl rfl rfl rfl kR kR kR kR kR (fun _ _ _ h => h) rfl rfl hS58 (fun W' hs' => aH rfl) ?_
     refine aW (i := 13) rfl rfl rfl rfl rfl kR kR kR kR kR (fun _ _ _ h => h) rfl rfl hS58 ?_
     refine aW (i := 14) rfl rfl rfl rfl rfl kR kR kR kR kR (fun _ _ _ h => h) rfl rfl hS58 ?_
     refine aW (i := 15) rfl rfl rfl rfl rfl kR kR kR kR kR (fun _ _ _ h => h) rfl rfl hS58 ?_
     refine aW (i := 16) rfl rfl rfl rfl rfl kR kR kR kR kR (fun _ _ _ h => h) rfl rfl hS58 ?_
     refine aW (i := 17) rfl rfl rfl rfl rfl kR kR kR kR kR (fun _ _ _ h => h) rfl rfl hS58 ?_
     refine aW (i := 18) rfl rfl rfl rfl rfl kR kR kR kR kR (fun _ _ _ h => h) rfl rfl hS58 ?_
     refine aF (i := 19) rfl rfl rfl rfl kR kR kR kR kR (fun _ _ _ h => h) rfl rfl hS58 (fun W' hs' => fZ (v := .bool (true)) (b := true) rfl rfl rfl rfl) ?_
     refine aD (i := 20) rfl kR kR kR kR kR (fun _ _ _ h => h) rfl rfl hS58 (fun W' hs' => fZ (v := .bool (true)) (b := true) rfl rfl rfl rfl) ?_
     refine gF kR ?_ _
     refine aG ?_
     refine cond_t rfl ?_
     refine wp_seq ?_
     refine aL [0] rfl ?_
     refine aA ?_
     refine aC rfl (aN rfl) rfl rfl ?_
     refine aJ ?_
     refine aG ?_
     refine wp_ret ?_
     refine inB_r ?_
     refine jK ?_
     refine jK ?_
     refine inB_r ?_
     refine jK ?_
     have hr : czA (okS x.aB) x.aB x.aB.length = false := cz_bad _ _ i1 hlt1 (by simp [okS, hg20, hg21]) _ hlt1
     refine gJ (.inl rfl) Tryz.results7 rfl ?_
     rw [hr]
     exact ⟨rfl, H57.1⟩
   ·refine gV (fun W' => Blk W' g_4_5 52 #[.int .i64 (x.aB[i1].Kind), .int .i64 (x.aB[i1].Vat), .int .i64 (x.aB[i1].Entity), .int .i64 (x.aB[i1].Tag.Vat), .int .i64 (x.aB[i1].Tag.Entity), .int .i64 (x.aB[i1].Tag.Seq)]) 21 kR ?_
    have H59 := Ha18.drew; clear Ha18
    have hS60 : Blk W16.drew g_4_5 52 #[.int .i64 (x.aB[i1].Kind), .int .i64 (x.aB[i1].Vat), .int .i64 (x.aB[i1].Entity), .int .i64 (x.aB[i1].Tag.Vat), .int .i64 (x.aB[i1].Tag.Entity), .int .i64 (x.aB[i1].Tag.Seq)] := H59.blk 0 rfl
    refine aD (i := 0) rfl kR kR kR kR kR (fun _ _ _ h => h) rfl rfl hS60 (fun W' hs' => aZ iT rfl) ?_
    refine aD (i := 1) rfl kR kR kR kR kR (fun _ _ _ h => h) rfl rfl hS60 (fun W' hs' => eG (k := 0) (v := .int .i64 (x.aB[i1].Kind)) Tryz.isAgg3 rfl hs' rfl) ?_
    refine aD (i := 2) rfl kR kR kR kR kR (fun _ _ _ h => h) rfl rfl hS60 (fun W' hs' => j5 hg20 (jC rfl rfl)) ?_
    refine aD (i := 3) rfl kR kR kR kR kR (fun _ _ _ h => h) rfl rfl hS60 (fun W' hs' => aH rfl) ?_
    refine aW (i := 4) rfl rfl rfl rfl rfl kR kR kR kR kR (fun _ _ _ h => h) rfl rfl hS60 ?_
    refine aW (i := 5) rfl rfl rfl rfl rfl kR kR kR kR kR (fun _ _ _ h => h) rfl rfl hS60 ?_
    refine aW (i := 6) rfl rfl rfl rfl rfl kR kR kR kR kR (fun _ _ _ h => h) rfl rfl hS60 ?_
    refine aW (i := 7) rfl rfl rfl rfl rfl kR kR kR kR kR (fun _ _ _ h => h) rfl rfl hS60 ?_
    refine aW (i := 8) rfl rfl rfl rfl rfl kR kR kR kR kR (fun _ _ _ h => h) rfl rfl hS60 ?_
    refine aW (i := 9) rfl rfl rfl rfl rfl kR kR kR kR kR (fun _ _ _ h => h) rfl rfl hS60 ?_
    refine aW (i := 10) rfl rfl rfl rfl rfl kR kR kR kR kR (fun _ _ _ h => h) rfl rfl hS60 ?_
    refine aW (i := 11) rfl rfl rfl rfl rfl kR kR kR kR kR (fun _ _ _ h => h) rfl rfl hS60 ?_
    refine aW (i := 12) rfl rfl rfl rfl rfl kR kR kR kR kR (fun _ _ _ h => h) rfl rfl hS60 ?_
    refine mE (i := 13) rfl rfl rfl rfl kR kR kR kR kR (fun _ _ _ h => h) rfl rfl hS60 ?_
    refine mE (i := 14) rfl rfl rfl rfl kR kR kR kR kR (fun _ _ _ h => h) rfl rfl hS60 ?_
    refine mE (i := 15) rfl rfl rfl rfl kR kR kR kR kR (fun _ _ _ h => h) rfl rfl hS60 ?_
    refine mE (i := 16) rfl rfl rfl rfl kR kR kR kR kR (fun _ _ _ h => h) rfl rfl hS60 ?_
    refine mE (i := 17) rfl rfl rfl rfl kR kR kR kR kR (fun _ _ _ h => h) rfl rfl hS60 ?_
    refine mE (i := 18) rfl rfl rfl rfl kR kR kR kR kR (fun _ _ _ h => h) rfl rfl hS60 ?_
    refine aW (i := 19) rfl rfl rfl rfl rfl kR kR kR kR kR (fun _ _ _ h => h) rfl rfl hS60 ?_
    refine aD (i := 20) rfl kR kR kR kR kR (fun _ _ _ h => h) rfl rfl hS60 (fun W' hs' => fZ (v := .bool (false)) (b := false) rfl rfl rfl rfl) ?_
    refine gF kR ?_ _
    refine aG ?_
    refine iY rfl ?_
    refine wp_skip ?_
    refine inB_n ?_
    refine aG ?_
    refine aL [0, 1, 2] rfl ?_
    refine aA ?_
    refine aC rfl (aH rfl) rfl rfl ?_
    refine aA ?_
    refine aC rfl (jJ (k := i1) rfl rfl kO) rfl rfl ?_
    refine aA ?_
    refine aC rfl (aN rfl) rfl rfl ?_
    refine aJ ?_
    refine aG ?_
    exact (bT [(1, .pointer (some ⟨g_0_0, 0, none⟩)), (3, .int .i64 (((i1 + 1 : Nat) : Int)))] rfl).elim fun x' hx => ⟨r6 - 1, kO, i1 + 1, x', hx, kO, (by rw [cz_step _ _ i1 hlt1 hf1]; simp [okS, hg20]), H59.pick [1] kD rfl⟩
  ·have hge1 : x.aB.length ≤ i1 := by omega
   obtain rfl : i1 = x.aB.length := by omega
   refine wp_exit ?_
   refine jV ?_
   refine jV ?_
   refine inB_x ?_
   refine aG ?_
   refine wp_seq ?_
   refine aL [0] rfl ?_
   refine aA ?_
   refine aC rfl (aN rfl) rfl rfl ?_
   refine aJ ?_
   refine aG ?_
   refine wp_ret ?_
   have hr : czA (okS x.aB) x.aB x.aB.length = true := hf1
   refine gJ (.inl rfl) Tryz.results7 rfl ?_
   rw [hr]
   exact ⟨rfl, H9.1⟩
theorem undone_s (x : GWorld) (cs : List Value) (w : World) (h : cB.K w x cs) (hn : x.aB.length ≤ 4194304) : Calls Tryz.prog 11 #[.agg cs.toArray] w (jH cZ 50 (unT x.aB x.aB.length) w) := by
 obtain ⟨Ax0, cx0, Ax1, cx1, Ax2, cx2, Ax3, cx3, rfl, hlx0, hCx0, hlx1, hCx1, hlx2, hCx2, hlx3, hCx3⟩ := l8 h
 refine enter 42 [(0, .agg #[.slice Ax0 x.bG.length cx0, .slice Ax1 x.gT.length cx1, .slice Ax2 x.bA.length cx2, .slice Ax3 x.aB.length cx3, .int .i64 (x.fC)])] Tryz.func11 rfl kR ?_
 intro xj
 have H1 : St w No [] w := St.enter
 refine wp_seq ?_
 refine aL [0, 1] rfl ?_
 refine aA ?_
 refine op_box rfl rfl rfl rfl H1 ?_
 intro g_0_0 W2 hu3 Ha4; clear H1; clear hu3
 refine aA ?_
 refine aC rfl (aN rfl) rfl rfl ?_
 refine aJ ?_
 refine aG ?_
 refine wp_seq ?_
 refine aL [0, 1] rfl ?_
 refine aA ?_
 refine op_slice0 (dk := cZ) rfl Tryz.runUnderlying39 Tryz.sizeOf50 rfl rfl Ha4 ?_
 intro A_1_0 W6 hu7 Ha8; clear Ha4; clear hu7
 refine aA ?_
 refine aC rfl (aN rfl) rfl rfl ?_
 refine aJ ?_
 refine aG ?_
 refine wp_seq ?_
 refine wp_seq ?_
 refine aL [0] rfl ?_
 refine aA ?_
 refine aC rfl (aN rfl) rfl rfl ?_
 refine aJ ?_
 refine aG ?_
 refine wp_block ?_
 refine wp_loop_ghost (fun r a' W' => ∃ (i1 : Nat) (At : Option Addr) (ct : Nat) (x' : Nat → Value), a' = aX 42 x' [(1, .pointer (some ⟨g_0_0, 0, none⟩)), (3, .slice At ((unT x.aB i1).length) ct), (4, .int .i64 (((i1 : Nat) : Int)))] ∧ (i1 + r = x.aB.length) ∧ St w No [hR cZ 50 (.slice At ((unT x.aB i1).length) ct) (unT x.aB i1), hB g_0_0 35 #[.slice Ax0 x.bG.length cx0, .slice Ax1 x.gT.length cx1, .slice Ax2 x.bA.length cx2, .slice Ax3 x.aB.length cx3, .int .i64 (x.fC)]] W') x.aB.length ?_ ?_
 ·exact (bT [(1, .pointer (some ⟨g_0_0, 0, none⟩)), (3, .slice A_1_0 0 0), (4, .int .i64 (((0 : Nat) : Int)))] rfl).elim fun x' hx => ⟨0, A_1_0, 0, x', hx, kO, Ha8⟩
 ·rintro r10 _ W11 ⟨i1, At, ct, x12, rfl, hi1, H13⟩; clear Ha8
  refine wp_seq ?_
  refine wp_seq ?_
  refine aL [0, 1, 2, 3, 4] rfl ?_
  refine aA ?_
  refine aC rfl (aH rfl) rfl rfl ?_
  refine aA ?_
  refine aC rfl (aZ gY rfl) rfl rfl ?_
  refine aA ?_
  refine aC rfl (eG (k := 3) (v := .slice Ax3 x.aB.length cx3) Tryz.isAgg33 rfl (H13.blk 1 rfl) rfl) rfl rfl ?_
  refine aA ?_
  refine aC rfl (rn_len Tryz.runUnderlying33 rfl) rfl rfl ?_
  refine aA ?_
  refine aC rfl (lV rfl rfl) rfl rfl ?_
  refine aJ ?_
  refine aG ?_
  refine jP rfl (fun hc14 => ?_) (fun hc14 => ?_)
  ·have hlt1 : i1 < x.aB.length := by omega
   obtain ⟨ade15, cse15, hAe15, hKe15, hce15⟩ := C_elem hCx3 i1 hlt1
   have hle15 := jY hKe15
   have hoe15 := jZ hKe15
   obtain rfl := iR hKe15
   refine wp_skip ?_
   refine aG ?_
   refine wp_seq ?_
   refine wp_block ?_
   refine wp_seq ?_
   by_cases hg16 : ((x.aB[i1].Kind) : Int) = 1
   ·by_cases hg17 : ((iH x.aB (x.aB[i1].Tag) : Nat) : Int) = 0
    ·refine gV (fun W' => Blk W' g_0_0 35 #[.slice Ax0 x.bG.length cx0, .slice Ax1 x.gT.length cx1, .slice Ax2 x.bA.length cx2, .slice Ax3 x.aB.length cx3, .int .i64 (x.fC)] ∧ Cat W' (Addr.add ade15 (i1 * 6)) [.int .i64 (x.aB[i1].Kind), .int .i64 (x.aB[i1].Vat), .int .i64 (x.aB[i1].Entity), .int .i64 (x.aB[i1].Tag.Vat), .int .i64 (x.aB[i1].Tag.Entity), .int .i64 (x.aB[i1].Tag.Seq)]) 19 kR ?_
     have H18 := H13.drew; clear H13
     have hS19 : Blk W11.drew g_0_0 35 #[.slice Ax0 x.bG.length cx0, .slice Ax1 x.gT.length cx1, .slice Ax2 x.bA.length cx2, .slice Ax3 x.aB.length cx3, .int .i64 (x.fC)] ∧ Cat W11.drew (Addr.add ade15 (i1 * 6)) [.int .i64 (x.aB[i1].Kind), .int .i64 (x.aB[i1].Vat), .int .i64 (x.aB[i1].Entity), .int .i64 (x.aB[i1].Tag.Vat), .int .i64 (x.aB[i1].Tag.Entity), .int .i64 (x.aB[i1].Tag.Seq)] := ⟨H18.blk 1 rfl, (Cat.upd hce15 H18.1)⟩
     refine aD (i := 0) rfl kR kR kR kR kR (fun _ _ _ h => h) rfl rfl hS19 (fun W' hs' => aZ gY rfl) ?_
     refine aD (i := 1) rfl kR kR kR kR kR (fun _ _ _ h => h) rfl rfl hS19 (fun W' hs' => eG (k := 3) (v := .slice Ax3 x.aB.length cx3) Tryz.isAgg33 rfl hs'.1 rfl) ?_
     refine aD (i := 2) rfl kR kR kR kR kR (fun _ _ _ h => h) rfl rfl hS19 (fun W' hs' => aH rfl) ?_
     refine aD (i := 3) rfl kR kR kR kR kR (fun _ _ _ h => h) rfl rfl hS19 (fun W' hs' => fI (k := i1) Tryz.runUnderlying33 Tryz.sizeOf52 rfl rfl hAe15 hlt1) ?_
     refine aD (i := 4) rfl kR kR kR kR kR (fun _ _ _ h => h) rfl rfl hS19 (fun W' hs' => aZ iT rfl) ?_
     refine aD (i := 5) rfl kR kR kR kR kR (fun _ _ _ h => h) rfl rfl hS19 (fun W' hs' => kM (v := .int .i64 (x.aB[i1].Kind)) Tryz.isAgg3 rfl hs'.2 rfl) ?_
     refine aD (i := 6) rfl kR kR kR kR kR (fun _ _ _ h => h) rfl rfl hS19 (fun W' hs' => j6 hg16 (jC rfl rfl)) ?_
     refine aD (i := 7) rfl kR kR kR kR kR (fun _ _ _ h => h) rfl rfl hS19 (fun W' hs' => aH rfl) ?_
     refine aF (i := 8) rfl rfl rfl rfl kR kR kR kR kR (fun _ _ _ h => h) rfl rfl hS19 (fun W' hs' => aZ gY rfl) ?_
     refine aF (i := 9) rfl rfl rfl rfl kR kR kR kR kR (fun _ _ _ h => h) rfl rfl hS19 (fun W' hs' => eG (k := 3) (v := .slice Ax3 x.aB.length cx3) Tryz.isAgg33 rfl hs'.1 rfl) ?_
     refine aF (i := 10) rfl rfl rfl rfl kR kR kR kR kR (fun _ _ _ h => h) rfl rfl hS19 (fun W' hs' => aZ gY rfl) ?_
     refine aF (i := 11) rfl rfl rfl rfl kR kR kR kR kR (fun _ _ _ h => h) rfl rfl hS19 (fun W' hs' => eG (k := 3) (v := .slice Ax3 x.aB.length cx3) Tryz.isAgg33 rfl hs'.1 rfl) ?_
     refine aF (i := 12) rfl rfl rfl rfl kR kR kR kR kR (fun _ _ _ h => h) rfl rfl hS19 (fun W' hs' => aH rfl) ?_
     refine aF (i := 13) rfl rfl rfl rfl kR kR kR kR kR (fun _ _ _ h => h) rfl rfl hS19 (fun W' hs' => fI (k := i1) Tryz.runUnderlying33 Tryz.sizeOf52 rfl rfl hAe15 hlt1) ?_
     refine aF (i := 14) rfl rfl rfl rfl kR kR kR kR kR (fun _ _ _ h => h) rfl rfl hS19 (fun W' hs' => aZ gU rfl) ?_
     refine aF (i := 15) rfl rfl rfl rfl kR kR kR kR kR (fun _ _ _ h => h) rfl rfl hS19 (fun W' hs' => lX (sub := [.int .i64 (x.aB[i1].Tag.Vat), .int .i64 (x.aB[i1].Tag.Entity), .int .i64 (x.aB[i1].Tag.Seq)]) Tryz.isAgg50 Tryz.sizeOf50 rfl hs'.2 rfl rfl) ?_
     refine jB (i := 16) kR ?_
     refine op_G rfl rfl rfl rfl (fun _ ho20 => ?_)
     refine eF ho20 Tryz.call24 (vs := #[.slice Ax3 x.aB.length cx3, .agg #[.int .i64 (x.aB[i1].Tag.Vat), .int .i64 (x.aB[i1].Tag.Entity), .int .i64 (x.aB[i1].Tag.Seq)]]) rfl rfl rfl (turned_s x.aB (x.aB[i1].Tag) _ _ _ _ (aM H18.1 hCx3) (eY _ (x.aB[i1].Tag))) ?_
     rintro e23 W22 ⟨rfl, hu21⟩; refine ⟨_, rfl, ?_⟩
     have H24 := H18.no hu21; clear H18
     have hS25 := And.intro (H24.blk 1 rfl) ((Cat.upd hce15 H24.1)); refine ⟨fun _ => hS25, ?_⟩
     refine aF (i := 17) rfl rfl rfl rfl kR kR kR kR kR (fun _ _ _ h => h) rfl rfl hS25 (fun W' hs' => j6 hg17 (jC rfl rfl)) ?_
     refine aD (i := 18) rfl kR kR kR kR kR (fun _ _ _ h => h) rfl rfl hS25 (fun W' hs' => fZ (v := .bool (true)) (b := true) rfl rfl rfl rfl) ?_
     refine gF kR ?_ _
     refine aG ?_
     refine cond_t rfl ?_
     have hun := un_yes x.aB i1 hlt1 (by simp [unP, hg16, (show iH x.aB (x.aB[i1].Tag) = 0 from by omega)])
     refine aL [0, 1, 2, 3, 4, 5, 6, 7, 8, 9] rfl ?_
     refine aA ?_
     refine aC rfl (aH rfl) rfl rfl ?_
     refine aA ?_
     refine aC rfl (aZ gY rfl) rfl rfl ?_
     refine aA ?_
     refine aC rfl (eG (k := 3) (v := .slice Ax3 x.aB.length cx3) Tryz.isAgg33 rfl (H24.blk 1 rfl) rfl) rfl rfl ?_
     refine aA ?_
     refine aC rfl (aH rfl) rfl rfl ?_
     refine aA ?_
     refine aC rfl (fI (k := i1) Tryz.runUnderlying33 Tryz.sizeOf52 rfl rfl hAe15 hlt1) rfl rfl ?_
     refine aA ?_
     refine aC rfl (aZ gU rfl) rfl rfl ?_
     refine aA ?_
     refine aC rfl (lX (sub := [.int .i64 (x.aB[i1].Tag.Vat), .int .i64 (x.aB[i1].Tag.Entity), .int .i64 (x.aB[i1].Tag.Seq)]) Tryz.isAgg50 Tryz.sizeOf50 rfl (Cat.upd hce15 H24.1) rfl rfl) rfl rfl ?_
     refine aA ?_
     refine op_slice1 rfl Tryz.runUnderlying39 Tryz.sizeOf50 kD Tryz.zeroValue50 rfl rfl rfl rfl H24 ?_
     intro g_6_7 W26 hu27 Ha28; clear H24; clear hu27
     refine aA ?_
     have H32 : St w No [hR cZ 50 (.slice At ((unT x.aB i1).length) ct) (unT x.aB i1), hB g_6_7 50 #[.int .i64 (x.aB[i1].Tag.Vat), .int .i64 (x.aB[i1].Tag.Entity), .int .i64 (x.aB[i1].Tag.Seq)], hB g_0_0 35 #[.slice Ax0 x.bG.length cx0, .slice Ax1 x.gT.length cx1, .slice Ax2 x.bA.length cx2, .slice Ax3 x.aB.length cx3, .int .i64 (x.fC)]] W26 := Ha28.pick [1, 0, 2] kD rfl; clear Ha28
     refine op_append1f' (xs := (unT x.aB i1)) (p := x.aB[i1].Tag) (n' := (unT x.aB (i1 + 1)).length) (ys := (unT x.aB (i1 + 1))) rfl Tryz.underlying39 ki_Tag_info rfl kD kD rfl rfl (lC _ No (x.aB[i1].Tag)) (by have := un_len x.aB i1 kO; omega) (by rw [hun, List.length_append]; rfl) hun.symm rfl rfl H32 ?_
     intro B_6_8 c_6_8 W30 Ha31; clear H32
     refine aA ?_
     refine aC rfl (aN rfl) rfl rfl ?_
     refine aJ ?_
     refine inB_n ?_
     refine aG ?_
     refine aL [0, 1, 2] rfl ?_
     refine aA ?_
     refine aC rfl (aH rfl) rfl rfl ?_
     refine aA ?_
     refine aC rfl (jJ (k := i1) rfl rfl kO) rfl rfl ?_
     refine aA ?_
     refine aC rfl (aN rfl) rfl rfl ?_
     refine aJ ?_
     refine aG ?_
     exact (bT [(1, .pointer (some ⟨g_0_0, 0, none⟩)), (3, .slice B_6_8 ((unT x.aB (i1 + 1)).length) c_6_8), (4, .int .i64 (((i1 + 1 : Nat) : Int)))] rfl).elim fun x' hx => ⟨r10 - 1, kO, i1 + 1, B_6_8, c_6_8, x', hx, kO, Ha31⟩
    ·refine gV (fun W' => Blk W' g_0_0 35 #[.slice Ax0 x.bG.length cx0, .slice Ax1 x.gT.length cx1, .slice Ax2 x.bA.length cx2, .slice Ax3 x.aB.length cx3, .int .i64 (x.fC)] ∧ Cat W' (Addr.add ade15 (i1 * 6)) [.int .i64 (x.aB[i1].Kind), .int .i64 (x.aB[i1].Vat), .int .i64 (x.aB[i1].Entity), .int .i64 (x.aB[i1].Tag.Vat), .int .i64 (x.aB[i1].Tag.Entity), .int .i64 (x.aB[i1].Tag.Seq)]) 19 kR ?_
     have H34 := H13.drew; clear H13
     have hS35 : Blk W11.drew g_0_0 35 #[.slice Ax0 x.bG.length cx0, .slice Ax1 x.gT.length cx1, .slice Ax2 x.bA.length cx2, .slice Ax3 x.aB.length cx3, .int .i64 (x.fC)] ∧ Cat W11.drew (Addr.add ade15 (i1 * 6)) [.int .i64 (x.aB[i1].Kind), .int .i64 (x.aB[i1].Vat), .int .i64 (x.aB[i1].Entity), .int .i64 (x.aB[i1].Tag.Vat), .int .i64 (x.aB[i1].Tag.Entity), .int .i64 (x.aB[i1].Tag.Seq)] := ⟨H34.blk 1 rfl, (Cat.upd hce15 H34.1)⟩
     refine aD (i := 0) rfl kR kR kR kR kR (fun _ _ _ h => h) rfl rfl hS35 (fun W' hs' => aZ gY rfl) ?_
     refine aD (i := 1) rfl kR kR kR kR kR (fun _ _ _ h => h) rfl rfl hS35 (fun W' hs' => eG (k := 3) (v := .slice Ax3 x.aB.length cx3) Tryz.isAgg33 rfl hs'.1 rfl) ?_
     refine aD (i := 2) rfl kR kR kR kR kR (fun _ _ _ h => h) rfl rfl hS35 (fun W' hs' => aH rfl) ?_
     refine aD (i := 3) rfl kR kR kR kR kR (fun _ _ _ h => h) rfl rfl hS35 (fun W' hs' => fI (k := i1) Tryz.runUnderlying33 Tryz.sizeOf52 rfl rfl hAe15 hlt1) ?_
     refine aD (i := 4) rfl kR kR kR kR kR (fun _ _ _ h => h) rfl rfl hS35 (fun W' hs' => aZ iT rfl) ?_
     refine aD (i := 5) rfl kR kR kR kR kR (fun _ _ _ h => h) rfl rfl hS35 (fun W' hs' => kM (v := .int .i64 (x.aB[i1].Kind)) Tryz.isAgg3 rfl hs'.2 rfl) ?_
     refine aD (i := 6) rfl kR kR kR kR kR (fun _ _ _ h => h) rfl rfl hS35 (fun W' hs' => j6 hg16 (jC rfl rfl)) ?_
     refine aD (i := 7) rfl kR kR kR kR kR (fun _ _ _ h => h) rfl rfl hS35 (fun W' hs' => aH rfl) ?_
     refine aF (i := 8) rfl rfl rfl rfl kR kR kR kR kR (fun _ _ _ h => h) rfl rfl hS35 (fun W' hs' => aZ gY rfl) ?_
     refine aF (i := 9) rfl rfl rfl rfl kR kR kR kR kR (fun _ _ _ h => h) rfl rfl hS35 (fun W' hs' => eG (k := 3) (v := .slice Ax3 x.aB.length cx3) Tryz.isAgg33 rfl hs'.1 rfl) ?_
     refine aF (i := 10) rfl rfl rfl rfl kR kR kR kR kR (fun _ _ _ h => h) rfl rfl hS35 (fun W' hs' => aZ gY rfl) ?_
     refine aF (i := 11) rfl rfl rfl rfl kR kR kR kR kR (fun _ _ _ h => h) rfl rfl hS35 (fun W' hs' => eG (k := 3) (v := .slice Ax3 x.aB.length cx3) Tryz.isAgg33 rfl hs'.1 rfl) ?_
     refine aF (i := 12) rfl rfl rfl rfl kR kR kR kR kR (fun _ _ _ h => h) rfl rfl hS35 (fun W' hs' => aH rfl) ?_
     refine aF (i := 13) rfl rfl rfl rfl kR kR kR kR kR (fun _ _ _ h => h) rfl rfl hS35 (fun W' hs' => fI (k := i1) Tryz.runUnderlying33 Tryz.sizeOf52 rfl rfl hAe15 hlt1) ?_
     refine aF (i := 14) rfl rfl rfl rfl kR kR kR kR kR (fun _ _ _ h => h) rfl rfl hS35 (fun W' hs' => aZ gU rfl) ?_
     refine aF (i := 15) rfl rfl rfl rfl kR kR kR kR kR (fun _ _ _ h => h) rfl rfl hS35 (fun W' hs' => lX (sub := [.int .i64 (x.aB[i1].Tag.Vat), .int .i64 (x.aB[i1].Tag.Entity), .int .i64 (x.aB[i1].Tag.Seq)]) Tryz.isAgg50 Tryz.sizeOf50 rfl hs'.2 rfl rfl) ?_
     refine jB (i := 16) kR ?_
     refine op_G rfl rfl rfl rfl (fun _ ho36 => ?_)
     refine eF ho36 Tryz.call24 (vs := #[.slice Ax3 x.aB.length cx3, .agg #[.int .i64 (x.aB[i1].Tag.Vat), .int .i64 (x.aB[i1].Tag.Entity), .int .i64 (x.aB[i1].Tag.Seq)]]) rfl rfl rfl (turned_s x.aB (x.aB[i1].Tag) _ _ _ _ (aM H34.1 hCx3) (eY _ (x.aB[i1].Tag))) ?_
     rintro e39 W38 ⟨rfl, hu37⟩; refine ⟨_, rfl, ?_⟩
     have H40 := H34.no hu37; clear H34
     have hS41 := And.intro (H40.blk 1 rfl) ((Cat.upd hce15 H40.1)); refine ⟨fun _ => hS41, ?_⟩
     refine aF (i := 17) rfl rfl rfl rfl kR kR kR kR kR (fun _ _ _ h => h) rfl rfl hS41 (fun W' hs' => j5 hg17 (jC rfl rfl)) ?_
     refine aD (i := 18) rfl kR kR kR kR kR (fun _ _ _ h => h) rfl rfl hS41 (fun W' hs' => fZ (v := .bool (false)) (b := true) rfl rfl rfl rfl) ?_
     refine gF kR ?_ _
     refine aG ?_
     refine iY rfl ?_
     refine wp_skip ?_
     refine inB_n ?_
     refine aG ?_
     refine aL [0, 1, 2] rfl ?_
     refine aA ?_
     refine aC rfl (aH rfl) rfl rfl ?_
     refine aA ?_
     refine aC rfl (jJ (k := i1) rfl rfl kO) rfl rfl ?_
     refine aA ?_
     refine aC rfl (aN rfl) rfl rfl ?_
     refine aJ ?_
     refine aG ?_
     have e42 : (unT x.aB (i1 + 1)) = (unT x.aB i1) := un_no x.aB i1 hlt1 (by simp [unP, hg16, (show ¬ iH x.aB (x.aB[i1].Tag) = 0 from by omega)])
     rw [← e42] at H40 ⊢
     exact (bT [(1, .pointer (some ⟨g_0_0, 0, none⟩)), (3, .slice At ((unT x.aB (i1 + 1)).length) ct), (4, .int .i64 (((i1 + 1 : Nat) : Int)))] rfl).elim fun x' hx => ⟨r10 - 1, kO, i1 + 1, At, ct, x', hx, kO, H40⟩
   ·refine gV (fun W' => Blk W' g_0_0 35 #[.slice Ax0 x.bG.length cx0, .slice Ax1 x.gT.length cx1, .slice Ax2 x.bA.length cx2, .slice Ax3 x.aB.length cx3, .int .i64 (x.fC)] ∧ Cat W' (Addr.add ade15 (i1 * 6)) [.int .i64 (x.aB[i1].Kind), .int .i64 (x.aB[i1].Vat), .int .i64 (x.aB[i1].Entity), .int .i64 (x.aB[i1].Tag.Vat), .int .i64 (x.aB[i1].Tag.Entity), .int .i64 (x.aB[i1].Tag.Seq)]) 19 kR ?_
    have H43 := H13.drew; clear H13
    have hS44 : Blk W11.drew g_0_0 35 #[.slice Ax0 x.bG.length cx0, .slice Ax1 x.gT.length cx1, .slice Ax2 x.bA.length cx2, .slice Ax3 x.aB.length cx3, .int .i64 (x.fC)] ∧ Cat W11.drew (Addr.add ade15 (i1 * 6)) [.int .i64 (x.aB[i1].Kind), .int .i64 (x.aB[i1].Vat), .int .i64 (x.aB[i1].Entity), .int .i64 (x.aB[i1].Tag.Vat), .int .i64 (x.aB[i1].Tag.Entity), .int .i64 (x.aB[i1].Tag.Seq)] := ⟨H43.blk 1 rfl, (Cat.upd hce15 H43.1)⟩
    refine aD (i := 0) rfl kR kR kR kR kR (fun _ _ _ h => h) rfl rfl hS44 (fun W' hs' => aZ gY rfl) ?_
    refine aD (i := 1) rfl kR kR kR kR kR (fun _ _ _ h => h) rfl rfl hS44 (fun W' hs' => eG (k := 3) (v := .slice Ax3 x.aB.length cx3) Tryz.isAgg33 rfl hs'.1 rfl) ?_
    refine aD (i := 2) rfl kR kR kR kR kR (fun _ _ _ h => h) rfl rfl hS44 (fun W' hs' => aH rfl) ?_
    refine aD (i := 3) rfl kR kR kR kR kR (fun _ _ _ h => h) rfl rfl hS44 (fun W' hs' => fI (k := i1) Tryz.runUnderlying33 Tryz.sizeOf52 rfl rfl hAe15 hlt1) ?_
    refine aD (i := 4) rfl kR kR kR kR kR (fun _ _ _ h => h) rfl rfl hS44 (fun W' hs' => aZ iT rfl) ?_
    refine aD (i := 5) rfl kR kR kR kR kR (fun _ _ _ h => h) rfl rfl hS44 (fun W' hs' => kM (v := .int .i64 (x.aB[i1].Kind)) Tryz.isAgg3 rfl hs'.2 rfl) ?_
    refine aD (i := 6) rfl kR kR kR kR kR (fun _ _ _ h => h) rfl rfl hS44 (fun W' hs' => j5 hg16 (jC rfl rfl)) ?_
    refine aD (i := 7) rfl kR kR kR kR kR (fun _ _ _ h => h) rfl rfl hS44 (fun W' hs' => aH rfl) ?_
    refine aW (i := 8) rfl rfl rfl rfl rfl kR kR kR kR kR (fun _ _ _ h => h) rfl rfl hS44 ?_
    refine aW (i := 9) rfl rfl rfl rfl rfl kR kR kR kR kR (fun _ _ _ h => h) rfl rfl hS44 ?_
    refine aW (i := 10) rfl rfl rfl rfl rfl kR kR kR kR kR (fun _ _ _ h => h) rfl rfl hS44 ?_
    refine aW (i := 11) rfl rfl rfl rfl rfl kR kR kR kR kR (fun _ _ _ h => h) rfl rfl hS44 ?_
    refine aW (i := 12) rfl rfl rfl rfl rfl kR kR kR kR kR (fun _ _ _ h => h) rfl rfl hS44 ?_
    refine aW (i := 13) rfl rfl rfl rfl rfl kR kR kR kR kR (fun _ _ _ h => h) rfl rfl hS44 ?_
    refine aW (i := 14) rfl rfl rfl rfl rfl kR kR kR kR kR (fun _ _ _ h => h) rfl rfl hS44 ?_
    refine aW (i := 15) rfl rfl rfl rfl rfl kR kR kR kR kR (fun _ _ _ h => h) rfl rfl hS44 ?_
    refine aW (i := 16) rfl rfl rfl rfl rfl kR kR kR kR kR (fun _ _ _ h => h) rfl rfl hS44 ?_
    refine aW (i := 17) rfl rfl rfl rfl rfl kR kR kR kR kR (fun _ _ _ h => h) rfl rfl hS44 ?_
    refine aD (i := 18) rfl kR kR kR kR kR (fun _ _ _ h => h) rfl rfl hS44 (fun W' hs' => fZ (v := .bool (false)) (b := false) rfl rfl rfl rfl) ?_
    refine gF kR ?_ _
    refine aG ?_
    refine iY rfl ?_
    refine wp_skip ?_
    refine inB_n ?_
    refine aG ?_
    refine aL [0, 1, 2] rfl ?_
    refine aA ?_
    refine aC rfl (aH rfl) rfl rfl ?_
    refine aA ?_
    refine aC rfl (jJ (k := i1) rfl rfl kO) rfl rfl ?_
    refine aA ?_
    refine aC rfl (aN rfl) rfl rfl ?_
    refine aJ ?_
    refine aG ?_
    have e45 : (unT x.aB (i1 + 1)) = (unT x.aB i1) := un_no x.aB i1 hlt1 (by simp [unP, hg16])
    rw [← e45] at H43 ⊢
    exact (bT [(1, .pointer (some ⟨g_0_0, 0, none⟩)), (3, .slice At ((unT x.aB (i1 + 1)).length) ct), (4, .int .i64 (((i1 + 1 : Nat) : Int)))] rfl).elim fun x' hx => ⟨r10 - 1, kO, i1 + 1, At, ct, x', hx, kO, H43⟩
  ·have hge1 : x.aB.length ≤ i1 := by omega
   obtain rfl : i1 = x.aB.length := by omega
   refine wp_exit ?_
   refine jV ?_
   refine jV ?_
   refine inB_x ?_
   refine aG ?_
   refine wp_seq ?_
   refine aL [0, 1] rfl ?_
   refine aA ?_
   refine aC rfl (aH rfl) rfl rfl ?_
   refine aA ?_
   refine aC rfl (aN rfl) rfl rfl ?_
   refine aJ ?_
   refine aG ?_
   refine wp_ret ?_
   refine gJ (.inl rfl) Tryz.results11 rfl ?_
   have hq := (H13.pick [0] kD rfl : St w No [hR cZ 50 (.slice At ((unT x.aB x.aB.length).length) ct) (unT x.aB x.aB.length)] W11).fin1
   exact ⟨_, rfl, hq.1, hq.2⟩
end Go.Proofs.YtgaoabnnpjngcaaGreatFam
namespace Go.Proofs.YtgaoabnnpjngcaaGreatFam
open Go.RowKit Go.Proofs.YtgaoabnnpjngcaaGreatSep Go.Proofs.YtgaoabnnpjngcaaGreatT Go.Proofs.YtgaoabnnpjngcaaGreatK
set_option linter.unusedVariables false
set_option linter.unusedSimpArgs false
set_option maxHeartbeats 1000000
set_option maxRecDepth 100000
theorem note_idx (q0 : Value) (p : GNote → Bool) (l : List GNote) (A : Option Addr) (c : Nat) (w : World) (h : C dS w A l) (hf : ∀ (x : GNote) (cs : List Value) (w' : World), Upd No w w' → dS.K w' x cs → Calls Tryz.prog 57 #[.agg cs.toArray, q0] w' (bU (p x) w')) : Calls Tryz.prog 100 #[.slice A l.length c, .func (.func 57) #[] #[q0]] w (RetInt (fidx p 0 l) w) := by
 have hn := h.1
 have H := Sd.mk h
 have HF := Sd.mk hf
 clear h hf
 go_enter Tryz.func100, Tryz.ntmps100
 go_wp2_with fail
 go_loopg [8] l.length (fun r v wr => ∃ i : Nat, i + r = l.length ∧ v = .int .i64 i ∧ Sd (fidx p 0 l = fidx p i (l.drop i)) ∧ Sd (Upd No w wr))
 case atStart => exact ⟨0, by omega, rfl, ⟨rfl⟩, ⟨Upd.refl _ _⟩⟩
 case round =>
  obtain ⟨i, hi, rfl, HE, HU⟩ := hrel
  by_cases hlt : i < l.length
  ·obtain ⟨ad, rfl, a0, a1, a2, a3, a4, a5⟩ := ki_Note_at (aM HU.out H.out) i hlt
   go_wp2_with fail
   with_reducible refine (HF.out l[i] _ _ HU.out (ki_Note_Kmk _ _)).mono ?_
   rintro e w1 ⟨rfl, hu⟩
   have HU1 := Sd.mk (HU.out.then hu)
   clear hu HU
   have hy := Sd.mk (fidx_yes p l i hlt)
   have hno := Sd.mk (fidx_no p l i hlt)
   cases hb : p l[i]
   ·have HBB := Sd.mk hb
    clear hb
    go_wp2_with fail
    go_roundg (gk - 1)
    case measure => omega
    case rel => exact ⟨i + 1, by omega, by go_num, ⟨HE.out.trans (hno.out HBB.out)⟩, HU1⟩
   ·have HBB := Sd.mk hb
    clear hb
    go_wp2_with fail
    go_ret
    exact ⟨gX (by rw [HE.out, hy.out HBB.out]), HU1.out⟩
  ·go_wp2_with fail
   go_ret
   exact ⟨gX (by rw [HE.out, fidx_end p l i kO]), HU.out⟩
theorem note_has (q0 : Value) (p : GNote → Bool) (l : List GNote) (A : Option Addr) (c : Nat) (w : World) (h : C dS w A l) (hf : ∀ (x : GNote) (cs : List Value) (w' : World), Upd No w w' → dS.K w' x cs → Calls Tryz.prog 57 #[.agg cs.toArray, q0] w' (bU (p x) w')) : Calls Tryz.prog 56 #[.slice A l.length c, .func (.func 57) #[] #[q0]] w (bU (l.any p) w) := by
 have H := Sd.mk h
 have HF := Sd.mk hf
 clear h hf
 go_enter Tryz.func56, Tryz.ntmps56
 go_wp2_with fail
 with_reducible refine (note_idx q0 p l _ _ _ ?hc ?hf).mono ?_
 case hc => exact H.out
 case hf => exact HF.out
 rintro e w1 ⟨rfl, hu⟩
 have HX := Sd.mk (fidx_any p l 0 (Int.le_refl 0))
 have HU := Sd.mk hu
 clear hu
 go_wp2_with fail
 go_ret
 exact ⟨ret_bool HX.out, HU.out⟩
end Go.Proofs.YtgaoabnnpjngcaaGreatFam
namespace Go.Proofs.YtgaoabnnpjngcaaGreatFam
open Go.ChangeShapes Go.WideShapes Go.RowKit Go.Proofs.YtgaoabnnpjngcaaGreatSep Go.Proofs.YtgaoabnnpjngcaaGreatT Go.Proofs.YtgaoabnnpjngcaaGreatK
set_option linter.unusedVariables false
set_option linter.unusedSimpArgs false
attribute [local irreducible] wpOps wpOp
set_option maxHeartbeats 4000000
set_option maxRecDepth 100000
theorem sntC_clo (x : GNote) (cs : List Value) (t : GTag) (g : Nat) (w : World) (h : dS.K w x cs) (hc : Cat w ⟨g, 0, none⟩ [.int .i64 (t.Vat), .int .i64 (t.Entity), .int .i64 (t.Seq)]) : Calls Tryz.prog 57 #[.agg cs.toArray, .pointer (some ⟨g, 0, none⟩)] w (bU (sntB t x) w) := by
 obtain rfl := iR h
 refine enter 13 [(0, .agg #[.int .i64 (x.Kind), .int .i64 (x.Vat), .int .i64 (x.Entity), .int .i64 (x.Tag.Vat), .int .i64 (x.Tag.Entity), .int .i64 (x.Tag.Seq)]), (1, .pointer (some ⟨g, 0, none⟩))] Tryz.func57 rfl kR ?_
 intro xj
 have H1 : St w No [] w := St.enter
 refine wp_seq ?_
 refine aL [0, 1] rfl ?_
 refine aA ?_
 refine op_box rfl rfl rfl rfl H1 ?_
 intro g_0_0 W2 hu3 Ha4; clear H1; clear hu3
 refine aA ?_
 refine aC rfl (aN rfl) rfl rfl ?_
 refine aJ ?_
 refine aG ?_
 refine wp_seq ?_
 refine aL [0, 1, 2, 3, 4, 5, 6, 7, 8, 9] rfl ?_
 refine aA ?_
 refine aC rfl (aZ iT rfl) rfl rfl ?_
 refine aA ?_
 refine aC rfl (eG (k := 0) (v := .int .i64 (x.Kind)) Tryz.isAgg3 rfl (Ha4.blk 0 rfl) rfl) rfl rfl ?_
 by_cases hg6 : (x.Kind : Int) = 1
 ·refine aA ?_
  refine aC rfl (j6 hg6 (jC rfl rfl)) rfl rfl ?_
  refine aA ?_
  refine aC rfl (aH rfl) rfl rfl ?_
  refine aA ?_
  refine op_G rfl rfl rfl rfl (fun _ ho7 => ?_)
  refine aC ho7 (aZ gU rfl) rfl rfl ?_
  refine aA ?_
  refine op_G rfl rfl rfl rfl (fun _ ho8 => ?_)
  refine aC ho8 (iI (sub := #[.int .i64 (x.Tag.Vat), .int .i64 (x.Tag.Entity), .int .i64 (x.Tag.Seq)]) Tryz.isAgg50 Tryz.sizeOf50 rfl (Ha4.blk 0 rfl) rfl rfl) rfl rfl ?_
  refine aA ?_
  refine op_G rfl rfl rfl rfl (fun _ ho9 => ?_)
  refine aC ho9 (lD Tryz.isAgg50 Tryz.sizeOf50 rfl (Cat.upd hc Ha4.1) rfl) rfl rfl ?_
  by_cases hg10 : (bQ x.Tag t) = true
  ·refine aA ?_
   refine op_G rfl rfl rfl rfl (fun _ ho11 => ?_)
   refine aC ho11 (lQ (b := bQ x.Tag t) hg10 (rn_eqlA Tryz.eqGuardType50 rfl rfl (eqr_Tag x.Tag t _ 9998))) rfl rfl ?_
   refine aA ?_
   refine aC rfl (fZ (v := .bool (true)) (b := true) rfl rfl rfl rfl) rfl rfl ?_
   refine aA ?_
   refine aC rfl (aN rfl) rfl rfl ?_
   refine aJ ?_
   refine aG ?_
   refine wp_ret ?_
   have hr : sntB t x = true := by simp [sntB, hg6, hg10]
   refine gJ (.inl rfl) Tryz.results57 rfl ?_
   rw [hr]
   exact ⟨rfl, Ha4.1⟩
  ·refine aA ?_
   refine op_G rfl rfl rfl rfl (fun _ ho12 => ?_)
   refine aC ho12 (lQ (b := bQ x.Tag t) (eq_false_of_ne_true hg10) (rn_eqlA Tryz.eqGuardType50 rfl rfl (eqr_Tag x.Tag t _ 9998))) rfl rfl ?_
   refine aA ?_
   refine aC rfl (fZ (v := .bool (false)) (b := true) rfl rfl rfl rfl) rfl rfl ?_
   refine aA ?_
   refine aC rfl (aN rfl) rfl rfl ?_
   refine aJ ?_
   refine aG ?_
   refine wp_ret ?_
   have hr : sntB t x = false := by simp [sntB, hg6, hg10]
   refine gJ (.inl rfl) Tryz.results57 rfl ?_
   rw [hr]
   exact ⟨rfl, Ha4.1⟩
 ·refine aA ?_
  refine aC rfl (j5 hg6 (jC rfl rfl)) rfl rfl ?_
  refine aA ?_
  refine aC rfl (aH rfl) rfl rfl ?_
  refine aA ?_
  refine lF rfl rfl rfl rfl rfl rfl rfl ?_
  refine aA ?_
  refine lF rfl rfl rfl rfl rfl rfl rfl ?_
  refine aA ?_
  refine lF rfl rfl rfl rfl rfl rfl rfl ?_
  refine aA ?_
  refine lF rfl rfl rfl rfl rfl rfl rfl ?_
  refine aA ?_
  refine aC rfl (fZ (v := .bool (false)) (b := false) rfl rfl rfl rfl) rfl rfl ?_
  refine aA ?_
  refine aC rfl (aN rfl) rfl rfl ?_
  refine aJ ?_
  refine aG ?_
  refine wp_ret ?_
  have hr : sntB t x = false := by simp [sntB, hg6]
  refine gJ (.inl rfl) Tryz.results57 rfl ?_
  rw [hr]
  exact ⟨rfl, Ha4.1⟩
theorem wasSent_i (l : List GNote) (t : GTag) (A : Option Addr) (c : Nat) (ct : List Value) (w : World) (h : C dS w A l) (h2 : cZ.K w t ct) : Calls Tryz.prog 29 #[.slice A l.length c, .agg ct.toArray] w (bU (wasS l t) w) := by
 obtain rfl := jX h2
 refine enter 8 [(0, .slice A l.length c), (1, .agg #[.int .i64 (t.Vat), .int .i64 (t.Entity), .int .i64 (t.Seq)])] Tryz.func29 rfl kR ?_
 intro xj
 have H1 : St w No [] w := St.enter
 refine wp_seq ?_
 refine aL [0, 1] rfl ?_
 refine aA ?_
 refine op_box rfl rfl rfl rfl H1 ?_
 intro g_0_0 W2 hu3 Ha4; clear H1; clear hu3
 refine aA ?_
 refine aC rfl (aN rfl) rfl rfl ?_
 refine aJ ?_
 refine aG ?_
 refine wp_seq ?_
 refine aL [0, 1, 2, 3] rfl ?_
 refine aA ?_
 refine aC rfl (aH rfl) rfl rfl ?_
 refine aA ?_
 refine aC rfl (rn_makeFunc (us := #[]) (vs := #[.pointer (some ⟨g_0_0, 0, none⟩)]) rfl rfl) rfl rfl ?_
 refine aA ?_
 refine eF rfl Tryz.call56 (vs := #[.slice A l.length c, .func (.func 57) #[] #[.pointer (some ⟨g_0_0, 0, none⟩)]]) rfl rfl rfl (note_has (.pointer (some ⟨g_0_0, 0, none⟩)) (sntB t) l _ _ _ (aM Ha4.1 h) (fun x cs w' hu hK => sntC_clo x cs t _ w' hK (Cat.upd (Ha4.blk 0 rfl).at' hu))) ?_
 rintro e8 W7 ⟨rfl, hu6⟩; refine ⟨_, rfl, ?_⟩
 have H9 := Ha4.no hu6; clear Ha4
 refine aA ?_
 refine aC rfl (aN rfl) rfl rfl ?_
 refine aJ ?_
 refine aG ?_
 refine wp_ret ?_
 refine gJ (.inl rfl) Tryz.results29 rfl ?_
 exact ⟨rfl, H9.1⟩
theorem turnTags_i (l : List GNote) (g c : Nat) (A : Option Addr) (u0 u1 u2 u4 : Value) (w : World) (hC : C dS w A l) (hc : Cat w ⟨g, 0, none⟩ [u0, u1, u2, .slice A l.length c, u4]) (hn : l.length ≤ 4194304) : Calls Tryz.prog 34 #[.pointer (some ⟨g, 0, none⟩)] w (jH cZ 50 (tgS l) w) := by
 refine enter 26 [(0, .pointer (some ⟨g, 0, none⟩))] Tryz.func34 rfl kR ?_
 intro xj
 have H1 : St w No [] w := St.enter
 refine wp_seq ?_
 refine aL [0] rfl ?_
 refine aA ?_
 refine aC rfl (aN rfl) rfl rfl ?_
 refine aJ ?_
 refine aG ?_
 refine wp_seq ?_
 refine aL [0, 1] rfl ?_
 refine aA ?_
 refine op_slice0 (dk := cZ) rfl Tryz.runUnderlying39 Tryz.sizeOf50 rfl rfl H1 ?_
 intro A_1_0 W2 hu3 Ha4; clear H1; clear hu3
 refine aA ?_
 refine aC rfl (aN rfl) rfl rfl ?_
 refine aJ ?_
 refine aG ?_
 refine wp_seq ?_
 refine wp_seq ?_
 refine aL [0, 1, 2, 3, 4, 5] rfl ?_
 refine aA ?_
 refine aC rfl (aH rfl) rfl rfl ?_
 refine aA ?_
 refine aC rfl (rn_nilCheck rfl) rfl rfl ?_
 refine aA ?_
 refine aC rfl (aZ gY rfl) rfl rfl ?_
 refine aA ?_
 refine aC rfl (kM (v := .slice A l.length c) Tryz.isAgg33 rfl (Cat.upd hc Ha4.1) rfl) rfl rfl ?_
 refine aA ?_
 refine aC rfl (rn_len Tryz.runUnderlying33 rfl) rfl rfl ?_
 refine aA ?_
 refine aC rfl (aH rfl) rfl rfl ?_
 refine aJ ?_
 refine aG ?_
 refine wp_block ?_
 refine wp_loop_ghost (fun r a' W' => ∃ (i1 : Nat) (At : Option Addr) (ct : Nat) (x' : Nat → Value), a' = aX 26 x' [(3, .slice At ((tgS (l.take i1)).length) ct), (10, .slice A l.length c), (11, .int .i64 ((l.length : Nat))), (12, .int .i64 (((i1 : Nat) : Int)))] ∧ (i1 + r = l.length) ∧ St w No [hR cZ 50 (.slice At ((tgS (l.take i1)).length) ct) (tgS (l.take i1))] W') l.length ?_ ?_
 ·exact (bT [(3, .slice A_1_0 0 0), (10, .slice A l.length c), (11, .int .i64 ((l.length : Nat))), (12, .int .i64 (((0 : Nat) : Int)))] rfl).elim fun x' hx => ⟨0, A_1_0, 0, x', hx, kO, Ha4⟩
 ·rintro r6 _ W7 ⟨i1, At, ct, x8, rfl, hi1, H9⟩; clear Ha4
  refine wp_seq ?_
  refine aL [0] rfl ?_
  refine aA ?_
  refine aC rfl (lV rfl rfl) rfl rfl ?_
  refine aJ ?_
  refine aG ?_
  refine wp_seq ?_
  refine jP rfl (fun hc10 => ?_) (fun hc10 => ?_)
  ·have hlt1 : i1 < l.length := by omega
   obtain ⟨ade11, cse11, hAe11, hKe11, hce11⟩ := C_elem hC i1 hlt1
   have hle11 := jY hKe11
   have hoe11 := jZ hKe11
   obtain rfl := iR hKe11
   refine wp_skip ?_
   refine aG ?_
   refine wp_seq ?_
   refine wp_block ?_
   refine wp_seq ?_
   refine aL [0, 1, 2, 3] rfl ?_
   refine aA ?_
   refine aC rfl (fI (k := i1) Tryz.runUnderlying33 Tryz.sizeOf52 rfl rfl hAe11 hlt1) rfl rfl ?_
   refine aA ?_
   refine aC rfl (lD Tryz.isAgg52 Tryz.sizeOf52 rfl (Cat.upd hce11 H9.1) rfl) rfl rfl ?_
   refine aA ?_
   refine nI rfl Tryz.zeroValue52 rfl rfl H9 ?_
   intro g_4_2 W12 hu13 Ha14; clear H9; clear hu13
   refine aA ?_
   refine lW rfl Tryz.sizeOf52 rfl rfl rfl rfl kS Ha14 ?_
   intro W16 hu17 Ha18; clear Ha14; clear hu17
   refine aJ ?_
   refine aG ?_
   refine wp_seq ?_
   refine aL [0, 1, 2] rfl ?_
   refine aA ?_
   refine aC rfl (aZ iT rfl) rfl rfl ?_
   refine aA ?_
   refine aC rfl (eG (k := 0) (v := .int .i64 (l[i1].Kind)) Tryz.isAgg3 rfl (Ha18.blk 0 rfl) rfl) rfl rfl ?_
   refine aA ?_
   refine aC rfl (jC rfl rfl) rfl rfl ?_
   refine aJ ?_
   refine aG ?_
   refine jP rfl (fun hc20 => ?_) (fun hc20 => ?_)
   ·have htg := tg_yes l i1 hlt1 kO
    refine aL [0, 1, 2, 3, 4, 5] rfl ?_
    refine aA ?_
    refine aC rfl (aH rfl) rfl rfl ?_
    refine aA ?_
    refine aC rfl (aZ gU rfl) rfl rfl ?_
    refine aA ?_
    refine aC rfl (iI (sub := #[.int .i64 (l[i1].Tag.Vat), .int .i64 (l[i1].Tag.Entity), .int .i64 (l[i1].Tag.Seq)]) Tryz.isAgg50 Tryz.sizeOf50 rfl (Ha18.blk 0 rfl) rfl rfl) rfl rfl ?_
    refine aA ?_
    refine op_slice1 rfl Tryz.runUnderlying39 Tryz.sizeOf50 kD Tryz.zeroValue50 rfl rfl rfl rfl Ha18 ?_
    intro g_6_3 W21 hu22 Ha23; clear Ha18; clear hu22
    refine aA ?_
    have H27 : St w No [hR cZ 50 (.slice At ((tgS (l.take i1)).length) ct) (tgS (l.take i1)), hB g_6_3 50 #[.int .i64 (l[i1].Tag.Vat), .int .i64 (l[i1].Tag.Entity), .int .i64 (l[i1].Tag.Seq)], hB g_4_2 52 #[.int .i64 (l[i1].Kind), .int .i64 (l[i1].Vat), .int .i64 (l[i1].Entity), .int .i64 (l[i1].Tag.Vat), .int .i64 (l[i1].Tag.Entity), .int .i64 (l[i1].Tag.Seq)]] W21 := Ha23.pick [2, 0, 1] kD rfl; clear Ha23
    refine op_append1f' (xs := (tgS (l.take i1))) (p := l[i1].Tag) (n' := (tgS (l.take (i1 + 1))).length) (ys := (tgS (l.take (i1 + 1)))) rfl Tryz.underlying39 ki_Tag_info rfl kD kD rfl rfl (lC _ No (l[i1].Tag)) (by have := tg_len l i1 kO; omega) (by rw [htg, List.length_append]; rfl) htg.symm rfl rfl H27 ?_
    intro B_6_4 c_6_4 W25 Ha26; clear H27
    refine aA ?_
    refine aC rfl (aN rfl) rfl rfl ?_
    refine aJ ?_
    refine inB_n ?_
    refine aG ?_
    refine aL [0, 1] rfl ?_
    refine aA ?_
    refine aC rfl (jJ (k := i1) rfl rfl kO) rfl rfl ?_
    refine aA ?_
    refine aC rfl (aH rfl) rfl rfl ?_
    refine aJ ?_
    refine aG ?_
    exact (bT [(3, .slice B_6_4 ((tgS (l.take (i1 + 1))).length) c_6_4), (10, .slice A l.length c), (11, .int .i64 ((l.length : Nat))), (12, .int .i64 (((i1 + 1 : Nat) : Int)))] rfl).elim fun x' hx => ⟨r6 - 1, kO, i1 + 1, B_6_4, c_6_4, x', hx, kO, Ha26.pick [0] kD rfl⟩
   ·have e29 : (tgS (l.take (i1 + 1))) = (tgS (l.take i1)) := tg_no l i1 hlt1 kO
    rw [← e29] at Ha18 ⊢
    refine wp_skip ?_
    refine inB_n ?_
    refine aG ?_
    refine aL [0, 1] rfl ?_
    refine aA ?_
    refine aC rfl (jJ (k := i1) rfl rfl kO) rfl rfl ?_
    refine aA ?_
    refine aC rfl (aH rfl) rfl rfl ?_
    refine aJ ?_
    refine aG ?_
    exact (bT [(3, .slice At ((tgS (l.take (i1 + 1))).length) ct), (10, .slice A l.length c), (11, .int .i64 ((l.length : Nat))), (12, .int .i64 (((i1 + 1 : Nat) : Int)))] rfl).elim fun x' hx => ⟨r6 - 1, kO, i1 + 1, At, ct, x', hx, kO, Ha18.pick [1] kD rfl⟩
  ·have hge1 : l.length ≤ i1 := by omega
   obtain rfl : i1 = l.length := by omega
   refine wp_exit ?_
   refine jV ?_
   refine jV ?_
   refine inB_x ?_
   refine aG ?_
   refine wp_seq ?_
   refine aL [0, 1] rfl ?_
   refine aA ?_
   refine aC rfl (aH rfl) rfl rfl ?_
   refine aA ?_
   refine aC rfl (aN rfl) rfl rfl ?_
   refine aJ ?_
   refine aG ?_
   refine wp_ret ?_
   refine gJ (.inl rfl) Tryz.results34 rfl ?_
   have hq := (H9.pick [0] kD rfl : St w No [hR cZ 50 (.slice At ((tgS (l.take l.length)).length) ct) (tgS (l.take l.length))] W7).fin1
   exact ⟨_, rfl, by rw [show tgS l = tgS (l.take l.length) from by rw [List.take_length]]; exact hq.1, hq.2⟩
theorem isCausal_i (x : GWorld) (cs : List Value) (w : World) (h : cB.K w x cs) : Calls Tryz.prog 9 #[.agg cs.toArray] w (bU (czA (okI x.aB) x.aB x.aB.length) w) := by
 obtain ⟨Ax0, cx0, Ax1, cx1, Ax2, cx2, Ax3, cx3, rfl, hlx0, hCx0, hlx1, hCx1, hlx2, hCx2, hlx3, hCx3⟩ := l8 h
 have nx := hCx3.1
 refine enter 36 [(0, .agg #[.slice Ax0 x.bG.length cx0, .slice Ax1 x.gT.length cx1, .slice Ax2 x.bA.length cx2, .slice Ax3 x.aB.length cx3, .int .i64 (x.fC)])] Tryz.func9 rfl kR ?_
 intro xj
 have H1 : St w No [] w := St.enter
 refine wp_seq ?_
 refine aL [0, 1] rfl ?_
 refine aA ?_
 refine op_box rfl rfl rfl rfl H1 ?_
 intro g_0_0 W2 hu3 Ha4; clear H1; clear hu3
 refine aA ?_
 refine aC rfl (aN rfl) rfl rfl ?_
 refine aJ ?_
 refine aG ?_
 refine wp_seq ?_
 refine aL [0, 1] rfl ?_
 refine aA ?_
 refine op_makeMap rfl rfl rfl Ha4 ?_
 intro g_1_0 W6 hu7 Ha8; clear Ha4; clear hu7
 refine aA ?_
 refine aC rfl (aN rfl) rfl rfl ?_
 refine aJ ?_
 refine aG ?_
 refine wp_seq ?_
 refine wp_seq ?_
 refine aL [0, 1, 2, 3] rfl ?_
 refine aA ?_
 refine aC rfl (aZ gY rfl) rfl rfl ?_
 refine aA ?_
 refine aC rfl (eG (k := 3) (v := .slice Ax3 x.aB.length cx3) Tryz.isAgg33 rfl (Ha8.blk 1 rfl) rfl) rfl rfl ?_
 refine aA ?_
 refine aC rfl (rn_len Tryz.runUnderlying33 rfl) rfl rfl ?_
 refine aA ?_
 refine aC rfl (aH rfl) rfl rfl ?_
 refine aJ ?_
 refine aG ?_
 refine wp_block ?_
 refine wp_loop_ghost (fun r a' W' => ∃ (i1 : Nat) (x' : Nat → Value), a' = aX 36 x' [(1, .pointer (some ⟨g_0_0, 0, none⟩)), (3, .map (some g_1_0)), (8, .slice Ax3 x.aB.length cx3), (9, .int .i64 ((x.aB.length : Nat))), (10, .int .i64 (((i1 : Nat) : Int)))] ∧ (i1 + r = x.aB.length) ∧ (czA (okI x.aB) x.aB i1 = true) ∧ St w No [hMp g_1_0 (tgS (x.aB.take i1)), hB g_0_0 35 #[.slice Ax0 x.bG.length cx0, .slice Ax1 x.gT.length cx1, .slice Ax2 x.bA.length cx2, .slice Ax3 x.aB.length cx3, .int .i64 (x.fC)]] W') x.aB.length ?_ ?_
 ·exact (bT [(1, .pointer (some ⟨g_0_0, 0, none⟩)), (3, .map (some g_1_0)), (8, .slice Ax3 x.aB.length cx3), (9, .int .i64 ((x.aB.length : Nat))), (10, .int .i64 (((0 : Nat) : Int)))] rfl).elim fun x' hx => ⟨0, x', hx, kO, rfl, Ha8⟩
 ·rintro r10 _ W11 ⟨i1, x12, rfl, hi1, hf1, H13⟩; clear Ha8
  refine wp_seq ?_
  refine aL [0] rfl ?_
  refine aA ?_
  refine aC rfl (lV rfl rfl) rfl rfl ?_
  refine aJ ?_
  refine aG ?_
  refine wp_seq ?_
  refine jP rfl (fun hc14 => ?_) (fun hc14 => ?_)
  ·have hlt1 : i1 < x.aB.length := by omega
   obtain ⟨ade15, cse15, hAe15, hKe15, hce15⟩ := C_elem hCx3 i1 hlt1
   have hle15 := jY hKe15
   have hoe15 := jZ hKe15
   obtain rfl := iR hKe15
   refine wp_skip ?_
   refine aG ?_
   refine wp_seq ?_
   refine wp_block ?_
   refine wp_seq ?_
   refine aL [0, 1, 2, 3, 4, 5] rfl ?_
   refine aA ?_
   refine aC rfl (aH rfl) rfl rfl ?_
   refine aA ?_
   refine aC rfl (fI (k := i1) Tryz.runUnderlying33 Tryz.sizeOf52 rfl rfl hAe15 hlt1) rfl rfl ?_
   refine aA ?_
   refine aC rfl (lD Tryz.isAgg52 Tryz.sizeOf52 rfl (Cat.upd hce15 H13.1) rfl) rfl rfl ?_
   refine aA ?_
   refine nI rfl Tryz.zeroValue52 rfl rfl H13 ?_
   intro g_4_3 W16 hu17 Ha18; clear H13; clear hu17
   refine aA ?_
   refine aC rfl (aN rfl) rfl rfl ?_
   refine aA ?_
   refine lW rfl Tryz.sizeOf52 rfl rfl rfl rfl kS Ha18 ?_
   intro W20 hu21 Ha22; clear Ha18; clear hu21
   refine aJ ?_
   refine aG ?_
   refine wp_seq ?_
   refine wp_seq ?_
   refine aL [0, 1, 2] rfl ?_
   refine aA ?_
   refine aC rfl (aZ iT rfl) rfl rfl ?_
   refine aA ?_
   refine aC rfl (eG (k := 0) (v := .int .i64 (x.aB[i1].Kind)) Tryz.isAgg3 rfl (Ha22.blk 0 rfl) rfl) rfl rfl ?_
   refine aA ?_
   refine aC rfl (rn_neq rfl rfl) rfl rfl ?_
   refine aJ ?_
   refine aG ?_
   refine jP rfl (fun hc24 => ?_) (fun hc24 => ?_)
   ·have e25 : (tgS (x.aB.take (i1 + 1))) = (tgS (x.aB.take i1)) := tg_no x.aB i1 hlt1 kO
    rw [← e25] at Ha22
    refine wp_exit ?_
    refine jV ?_
    refine inB_x ?_
    refine aG ?_
    refine aL [0, 1] rfl ?_
    refine aA ?_
    refine aC rfl (jJ (k := i1) rfl rfl kO) rfl rfl ?_
    refine aA ?_
    refine aC rfl (aH rfl) rfl rfl ?_
    refine aJ ?_
    refine aG ?_
    exact (bT [(1, .pointer (some ⟨g_0_0, 0, none⟩)), (3, .map (some g_1_0)), (8, .slice Ax3 x.aB.length cx3), (9, .int .i64 ((x.aB.length : Nat))), (10, .int .i64 (((i1 + 1 : Nat) : Int)))] rfl).elim fun x' hx => ⟨r10 - 1, kO, i1 + 1, x', hx, kO, (by rw [cz_step _ _ i1 hlt1 hf1]; simp [okI, hc24]), Ha22.pick [1, 2] kD rfl⟩
   ·refine wp_skip ?_
    refine aG ?_
    refine wp_seq ?_
    refine wp_seq ?_
    have hCtk := C_take hCx3 i1 kO
    by_cases hg26 : ((tgS (x.aB.take i1)).any (bQ (x.aB[i1].Tag))) = true
    ·refine gV (fun W' => Blk W' g_4_3 52 #[.int .i64 (x.aB[i1].Kind), .int .i64 (x.aB[i1].Vat), .int .i64 (x.aB[i1].Entity), .int .i64 (x.aB[i1].Tag.Vat), .int .i64 (x.aB[i1].Tag.Entity), .int .i64 (x.aB[i1].Tag.Seq)] ∧ MpAt W' g_1_0 (tgS (x.aB.take i1))) 14 kR ?_
     have H27 := Ha22.drew; clear Ha22
     have hS28 : Blk W20.drew g_4_3 52 #[.int .i64 (x.aB[i1].Kind), .int .i64 (x.aB[i1].Vat), .int .i64 (x.aB[i1].Entity), .int .i64 (x.aB[i1].Tag.Vat), .int .i64 (x.aB[i1].Tag.Entity), .int .i64 (x.aB[i1].Tag.Seq)] ∧ MpAt W20.drew g_1_0 (tgS (x.aB.take i1)) := ⟨H27.blk 0 rfl, (St.mp H27 1 rfl)⟩
     refine aD (i := 0) rfl kR kR kR kR kR (fun _ _ _ h => h) rfl rfl hS28 (fun W' hs' => aH rfl) ?_
     refine aD (i := 1) rfl kR kR kR kR kR (fun _ _ _ h => h) rfl rfl hS28 (fun W' hs' => aZ gU rfl) ?_
     refine aD (i := 2) rfl kR kR kR kR kR (fun _ _ _ h => h) rfl rfl hS28 (fun W' hs' => iI (sub := #[.int .i64 (x.aB[i1].Tag.Vat), .int .i64 (x.aB[i1].Tag.Entity), .int .i64 (x.aB[i1].Tag.Seq)]) Tryz.isAgg50 Tryz.sizeOf50 rfl hs'.1 rfl rfl) ?_
     refine aD (i := 3) rfl kR kR kR kR kR (fun _ _ _ h => h) rfl rfl hS28 (fun W' hs' => lQ (b := (tgS (x.aB.take i1)).any (bQ (x.aB[i1].Tag))) hg26 (rn_lookup (t := x.aB[i1].Tag) hs'.2 rfl rfl)) ?_
     refine aD (i := 4) rfl kR kR kR kR kR (fun _ _ _ h => h) rfl rfl hS28 (fun W' hs' => aH rfl) ?_
     refine aW (i := 5) rfl rfl rfl rfl rfl kR kR kR kR kR (fun _ _ _ h => h) rfl rfl hS28 ?_
     refine aW (i := 6) rfl rfl rfl rfl rfl kR kR kR kR kR (fun _ _ _ h => h) rfl rfl hS28 ?_
     refine aW (i := 7) rfl rfl rfl rfl rfl kR kR kR kR kR (fun _ _ _ h => h) rfl rfl hS28 ?_
     refine aW (i := 8) rfl rfl rfl rfl rfl kR kR kR kR kR (fun _ _ _ h => h) rfl rfl hS28 ?_
     refine aW (i := 9) rfl rfl rfl rfl rfl kR kR kR kR kR (fun _ _ _ h => h) rfl rfl hS28 ?_
     refine aW (i := 10) rfl rfl rfl rfl rfl kR kR kR kR kR (fun _ _ _ h => h) rfl rfl hS28 ?_
     refine aW (i := 11) rfl rfl rfl rfl rfl kR kR kR kR kR (fun _ _ _ h => h) rfl rfl hS28 ?_
     refine aW (i := 12) rfl rfl rfl rfl rfl kR kR kR kR kR (fun _ _ _ h => h) rfl rfl hS28 ?_
     refine aD (i := 13) rfl kR kR kR kR kR (fun _ _ _ h => h) rfl rfl hS28 (fun W' hs' => fZ (v := .bool (true)) (b := true) rfl rfl rfl rfl) ?_
     refine gF kR ?_ _
     refine aG ?_
     refine cond_t rfl ?_
     refine wp_seq ?_
     refine aL [0] rfl ?_
     refine aA ?_
     refine aC rfl (aN rfl) rfl rfl ?_
     refine aJ ?_
     refine aG ?_
     refine wp_ret ?_
     refine jK ?_
     refine inB_r ?_
     refine jK ?_
     refine jK ?_
     refine inB_r ?_
     refine jK ?_
     have hr : czA (okI x.aB) x.aB x.aB.length = false := cz_bad _ _ i1 hlt1 (by simp [okI, (Decidable.of_not_not hc24), hg26]) _ hlt1
     refine gJ (.inl rfl) Tryz.results9 rfl ?_
     rw [hr]
     exact ⟨rfl, H27.1⟩
    ·by_cases hg29 : (wasS (x.aB.take i1) (x.aB[i1].Tag)) = true
     ·refine gV (fun W' => Blk W' g_4_3 52 #[.int .i64 (x.aB[i1].Kind), .int .i64 (x.aB[i1].Vat), .int .i64 (x.aB[i1].Entity), .int .i64 (x.aB[i1].Tag.Vat), .int .i64 (x.aB[i1].Tag.Entity), .int .i64 (x.aB[i1].Tag.Seq)] ∧ MpAt W' g_1_0 (tgS (x.aB.take i1)) ∧ Blk W' g_0_0 35 #[.slice Ax0 x.bG.length cx0, .slice Ax1 x.gT.length cx1, .slice Ax2 x.bA.length cx2, .slice Ax3 x.aB.length cx3, .int .i64 (x.fC)]) 14 kR ?_
      have H30 := Ha22.drew; clear Ha22
      have hS31 : Blk W20.drew g_4_3 52 #[.int .i64 (x.aB[i1].Kind), .int .i64 (x.aB[i1].Vat), .int .i64 (x.aB[i1].Entity), .int .i64 (x.aB[i1].Tag.Vat), .int .i64 (x.aB[i1].Tag.Entity), .int .i64 (x.aB[i1].Tag.Seq)] ∧ MpAt W20.drew g_1_0 (tgS (x.aB.take i1)) ∧ Blk W20.drew g_0_0 35 #[.slice Ax0 x.bG.length cx0, .slice Ax1 x.gT.length cx1, .slice Ax2 x.bA.length cx2, .slice Ax3 x.aB.length cx3, .int .i64 (x.fC)] := ⟨H30.blk 0 rfl, (St.mp H30 1 rfl), H30.blk 2 rfl⟩
      refine aD (i := 0) rfl kR kR kR kR kR (fun _ _ _ h => h) rfl rfl hS31 (fun W' hs' => aH rfl) ?_
      refine aD (i := 1) rfl kR kR kR kR kR (fun _ _ _ h => h) rfl rfl hS31 (fun W' hs' => aZ gU rfl) ?_
      refine aD (i := 2) rfl kR kR kR kR kR (fun _ _ _ h => h) rfl rfl hS31 (fun W' hs' => iI (sub := #[.int .i64 (x.aB[i1].Tag.Vat), .int .i64 (x.aB[i1].Tag.Entity), .int .i64 (x.aB[i1].Tag.Seq)]) Tryz.isAgg50 Tryz.sizeOf50 rfl hs'.1 rfl rfl) ?_
      refine aD (i := 3) rfl kR kR kR kR kR (fun _ _ _ h => h) rfl rfl hS31 (fun W' hs' => lQ (b := (tgS (x.aB.take i1)).any (bQ (x.aB[i1].Tag))) (eq_false_of_ne_true hg26) (rn_lookup (t := x.aB[i1].Tag) hs'.2.1 rfl rfl)) ?_
      refine aD (i := 4) rfl kR kR kR kR kR (fun _ _ _ h => h) rfl rfl hS31 (fun W' hs' => aH rfl) ?_
      refine aF (i := 5) rfl rfl rfl rfl kR kR kR kR kR (fun _ _ _ h => h) rfl rfl hS31 (fun W' hs' => aZ gY rfl) ?_
      refine aF (i := 6) rfl rfl rfl rfl kR kR kR kR kR (fun _ _ _ h => h) rfl rfl hS31 (fun W' hs' => eG (k := 3) (v := .slice Ax3 x.aB.length cx3) Tryz.isAgg33 rfl hs'.2.2 rfl) ?_
      refine aF (i := 7) rfl rfl rfl rfl kR kR kR kR kR (fun _ _ _ h => h) rfl rfl hS31 (fun W' hs' => aH rfl) ?_
      refine aF (i := 8) rfl rfl rfl rfl kR kR kR kR kR (fun _ _ _ h => h) rfl rfl hS31 (fun W' hs' => rn_sliceH (k := i1) (m := (x.aB.take i1).length) Tryz.underlying33 Tryz.sizeOf52 rfl rfl kO (by rw [List.length_take, Nat.min_eq_left kO])) ?_
      refine aF (i := 9) rfl rfl rfl rfl kR kR kR kR kR (fun _ _ _ h => h) rfl rfl hS31 (fun W' hs' => aZ gU rfl) ?_
      refine aF (i := 10) rfl rfl rfl rfl kR kR kR kR kR (fun _ _ _ h => h) rfl rfl hS31 (fun W' hs' => iI (sub := #[.int .i64 (x.aB[i1].Tag.Vat), .int .i64 (x.aB[i1].Tag.Entity), .int .i64 (x.aB[i1].Tag.Seq)]) Tryz.isAgg50 Tryz.sizeOf50 rfl hs'.1 rfl rfl) ?_
      refine jB (i := 11) kR ?_
      refine op_G rfl rfl rfl rfl (fun _ ho32 => ?_)
      refine eF ho32 Tryz.call29 (vs := #[.slice Ax3 ((x.aB.take i1).length) cx3, .agg #[.int .i64 (x.aB[i1].Tag.Vat), .int .i64 (x.aB[i1].Tag.Entity), .int .i64 (x.aB[i1].Tag.Seq)]]) rfl rfl rfl (retb (wasSent_i (x.aB.take i1) (x.aB[i1].Tag) _ _ _ _ (aM H30.1 hCtk) (eY _ (x.aB[i1].Tag))) hg29) ?_
      rintro e35 W34 ⟨rfl, hu33⟩; refine ⟨_, rfl, ?_⟩
      have H36 := H30.no hu33; clear H30
      have hS37 := And.intro (H36.blk 0 rfl) (And.intro (St.mp H36 1 rfl) (H36.blk 2 rfl)); refine ⟨fun _ => hS37, ?_⟩
      refine aF (i := 12) rfl rfl rfl rfl kR kR kR kR kR (fun _ _ _ h => h) rfl rfl hS37 (fun W' hs' => rn_not rfl) ?_
      refine aD (i := 13) rfl kR kR kR kR kR (fun _ _ _ h => h) rfl rfl hS37 (fun W' hs' => fZ (v := .bool (false)) (b := false) rfl rfl rfl rfl) ?_
      refine gF kR ?_ _
      refine aG ?_
      refine iY rfl ?_
      refine wp_skip ?_
      refine aG ?_
      refine aL [0, 1, 2, 3] rfl ?_
      refine aA ?_
      refine aC rfl (aH rfl) rfl rfl ?_
      refine aA ?_
      refine aC rfl (aZ gU rfl) rfl rfl ?_
      refine aA ?_
      refine aC rfl (iI (sub := #[.int .i64 (x.aB[i1].Tag.Vat), .int .i64 (x.aB[i1].Tag.Entity), .int .i64 (x.aB[i1].Tag.Seq)]) Tryz.isAgg50 Tryz.sizeOf50 rfl (H36.blk 0 rfl) rfl rfl) rfl rfl ?_
      refine aA ?_
      have H38 : St w No [hMp g_1_0 (tgS (x.aB.take i1)), hB g_4_3 52 #[.int .i64 (x.aB[i1].Kind), .int .i64 (x.aB[i1].Vat), .int .i64 (x.aB[i1].Entity), .int .i64 (x.aB[i1].Tag.Vat), .int .i64 (x.aB[i1].Tag.Entity), .int .i64 (x.aB[i1].Tag.Seq)], hB g_0_0 35 #[.slice Ax0 x.bG.length cx0, .slice Ax1 x.gT.length cx1, .slice Ax2 x.bA.length cx2, .slice Ax3 x.aB.length cx3, .int .i64 (x.fC)]] W34 := H36.pick [1, 0, 2] kD rfl; clear H36
      have htg := tg_yes x.aB i1 hlt1 kO
      refine op_mapNew (t := x.aB[i1].Tag) rfl H38 rfl rfl rfl (eq_false_of_ne_true hg26) ?_
      intro W39 hu40 Ha41; clear H38
      rw [← htg] at Ha41; clear hu40
      refine aJ ?_
      refine inB_n ?_
      refine aG ?_
      refine aL [0, 1] rfl ?_
      refine aA ?_
      refine aC rfl (jJ (k := i1) rfl rfl kO) rfl rfl ?_
      refine aA ?_
      refine aC rfl (aH rfl) rfl rfl ?_
      refine aJ ?_
      refine aG ?_
      exact (bT [(1, .pointer (some ⟨g_0_0, 0, none⟩)), (3, .map (some g_1_0)), (8, .slice Ax3 x.aB.length cx3), (9, .int .i64 ((x.aB.length : Nat))), (10, .int .i64 (((i1 + 1 : Nat) : Int)))] rfl).elim fun x' hx => ⟨r10 - 1, kO, i1 + 1, x', hx, kO, (by rw [cz_step _ _ i1 hlt1 hf1]; simp [okI, (Decidable.of_not_not hc24), hg26, hg29]), Ha41.pick [0, 2] kD rfl⟩
     ·refine gV (fun W' => Blk W' g_4_3 52 #[.int .i64 (x.aB[i1].Kind), .int .i64 (x.aB[i1].Vat), .int .i64 (x.aB[i1].Entity), .int .i64 (x.aB[i1].Tag.Vat), .int .i64 (x.aB[i1].Tag.Entity), .int .i64 (x.aB[i1].Tag.Seq)] ∧ MpAt W' g_1_0 (tgS (x.aB.take i1)) ∧ Blk W' g_0_0 35 #[.slice Ax0 x.bG.length cx0, .slice Ax1 x.gT.length cx1, .slice Ax2 x.bA.length cx2, .slice Ax3 x.aB.length cx3, .int .i64 (x.fC)]) 14 kR ?_
      have H42 := Ha22.drew; clear Ha22
      have hS43 : Blk W20.drew g_4_3 52 #[.int .i64 (x.aB[i1].Kind), .int .i64 (x.aB[i1].Vat), .int .i64 (x.aB[i1].Entity), .int .i64 (x.aB[i1].Tag.Vat), .int .i64 (x.aB[i1].Tag.Entity), .int .i64 (x.aB[i1].Tag.Seq)] ∧ MpAt W20.drew g_1_0 (tgS (x.aB.take i1)) ∧ Blk W20.drew g_0_0 35 #[.slice Ax0 x.bG.length cx0, .slice Ax1 x.gT.length cx1, .slice Ax2 x.bA.length cx2, .slice Ax3 x.aB.length cx3, .int .i64 (x.fC)] := ⟨H42.blk 0 rfl, (St.mp H42 1 rfl), H42.blk 2 rfl⟩
      refine aD (i := 0) rfl kR kR kR kR kR (fun _ _ _ h => h) rfl rfl hS43 (fun W' hs' => aH rfl) ?_
      refine aD (i := 1) rfl kR kR kR kR kR (fun _ _ _ h => h) rfl rfl hS43 (fun W' hs' => aZ gU rfl) ?_
      refine aD (i := 2) rfl kR kR kR kR kR (fun _ _ _ h => h) rfl rfl hS43 (fun W' hs' => iI (sub := #[.int .i64 (x.aB[i1].Tag.Vat), .int .i64 (x.aB[i1].Tag.Entity), .int .i64 (x.aB[i1].Tag.Seq)]) Tryz.isAgg50 Tryz.sizeOf50 rfl hs'.1 rfl rfl) ?_
      refine aD (i := 3) rfl kR kR kR kR kR (fun _ _ _ h => h) rfl rfl hS43 (fun W' hs' => lQ (b := (tgS (x.aB.take i1)).any (bQ (x.aB[i1].Tag))) (eq_false_of_ne_true hg26) (rn_lookup (t := x.aB[i1].Tag) hs'.2.1 rfl rfl)) ?_
      refine aD (i := 4) rfl kR kR kR kR kR (fun _ _ _ h => h) rfl rfl hS43 (fun W' hs' => aH rfl) ?_
      refine aF (i := 5) rfl rfl rfl rfl kR kR kR kR kR (fun _ _ _ h => h) rfl rfl hS43 (fun W' hs' => aZ gY rfl) ?_
      refine aF (i := 6) rfl rfl rfl rfl kR kR kR kR kR (fun _ _ _ h => h) rfl rfl hS43 (fun W' hs' => eG (k := 3) (v := .slice Ax3 x.aB.length cx3) Tryz.isAgg33 rfl hs'.2.2 rfl) ?_
      refine aF (i := 7) rfl rfl rfl rfl kR kR kR kR kR (fun _ _ _ h => h) rfl rfl hS43 (fun W' hs' => aH rfl) ?_
      refine aF (i := 8) rfl rfl rfl rfl kR kR kR kR kR (fun _ _ _ h => h) rfl rfl hS43 (fun W' hs' => rn_sliceH (k := i1) (m := (x.aB.take i1).length) Tryz.underlying33 Tryz.sizeOf52 rfl rfl kO (by rw [List.length_take, Nat.min_eq_left kO])) ?_
      refine aF (i := 9) rfl rfl rfl rfl kR kR kR kR kR (fun _ _ _ h => h) rfl rfl hS43 (fun W' hs' => aZ gU rfl) ?_
      refine aF (i := 10) rfl rfl rfl rfl kR kR kR kR kR (fun _ _ _ h => h) rfl rfl hS43 (fun W' hs' => iI (sub := #[.int .i64 (x.aB[i1].Tag.Vat), .int .i64 (x.aB[i1].Tag.Entity), .int .i64 (x.aB[i1].Tag.Seq)]) Tryz.isAgg50 Tryz.sizeOf50 rfl hs'.1 rfl rfl) ?_
      refine jB (i := 11) kR ?_
      refine op_G rfl rfl rfl rfl (fun _ ho44 => ?_)
      refine eF ho44 Tryz.call29 (vs := #[.slice Ax3 ((x.aB.take i1).length) cx3, .agg #[.int .i64 (x.aB[i1].Tag.Vat), .int .i64 (x.aB[i1].Tag.Entity), .int .i64 (x.aB[i1].Tag.Seq)]]) rfl rfl rfl (retb (wasSent_i (x.aB.take i1) (x.aB[i1].Tag) _ _ _ _ (aM H42.1 hCtk) (eY _ (x.aB[i1].Tag))) (eq_false_of_ne_true hg29)) ?_
      rintro e47 W46 ⟨rfl, hu45⟩; refine ⟨_, rfl, ?_⟩
      have H48 := H42.no hu45; clear H42
      have hS49 := And.intro (H48.blk 0 rfl) (And.intro (St.mp H48 1 rfl) (H48.blk 2 rfl)); refine ⟨fun _ => hS49, ?_⟩
      refine aF (i := 12) rfl rfl rfl rfl kR kR kR kR kR (fun _ _ _ h => h) rfl rfl hS49 (fun W' hs' => rn_not rfl) ?_
      refine aD (i := 13) rfl kR kR kR kR kR (fun _ _ _ h => h) rfl rfl hS49 (fun W' hs' => fZ (v := .bool (true)) (b := false) rfl rfl rfl rfl) ?_
      refine gF kR ?_ _
      refine aG ?_
      refine cond_t rfl ?_
      refine wp_seq ?_
      refine aL [0] rfl ?_
      refine aA ?_
      refine aC rfl (aN rfl) rfl rfl ?_
      refine aJ ?_
      refine aG ?_
      refine wp_ret ?_
      refine jK ?_
      refine inB_r ?_
      refine jK ?_
      refine jK ?_
      refine inB_r ?_
      refine jK ?_
      have hr : czA (okI x.aB) x.aB x.aB.length = false := cz_bad _ _ i1 hlt1 (by simp [okI, (Decidable.of_not_not hc24), hg26, hg29]) _ hlt1
      refine gJ (.inl rfl) Tryz.results9 rfl ?_
      rw [hr]
      exact ⟨rfl, H48.1⟩
  ·have hge1 : x.aB.length ≤ i1 := by omega
   obtain rfl : i1 = x.aB.length := by omega
   refine wp_exit ?_
   refine jV ?_
   refine jV ?_
   refine inB_x ?_
   refine aG ?_
   refine wp_seq ?_
   refine aL [0] rfl ?_
   refine aA ?_
   refine aC rfl (aN rfl) rfl rfl ?_
   refine aJ ?_
   refine aG ?_
   refine wp_ret ?_
   have hr : czA (okI x.aB) x.aB x.aB.length = true := hf1
   refine gJ (.inl rfl) Tryz.results9 rfl ?_
   rw [hr]
   exact ⟨rfl, H13.1⟩
theorem undone_i (x : GWorld) (cs : List Value) (w : World) (h : cB.K w x cs) (hn : x.aB.length ≤ 4194304) : Calls Tryz.prog 12 #[.agg cs.toArray] w (jH cZ 50 (unT x.aB x.aB.length) w) := by
 obtain ⟨Ax0, cx0, Ax1, cx1, Ax2, cx2, Ax3, cx3, rfl, hlx0, hCx0, hlx1, hCx1, hlx2, hCx2, hlx3, hCx3⟩ := l8 h
 have ntg : (tgS x.aB).length ≤ 4194304 := by have := tg_len x.aB x.aB.length (Nat.le_refl _); rw [List.take_length] at this; omega
 refine enter 44 [(0, .agg #[.slice Ax0 x.bG.length cx0, .slice Ax1 x.gT.length cx1, .slice Ax2 x.bA.length cx2, .slice Ax3 x.aB.length cx3, .int .i64 (x.fC)])] Tryz.func12 rfl kR ?_
 intro xj
 have H1 : St w No [] w := St.enter
 refine wp_seq ?_
 refine aL [0, 1] rfl ?_
 refine aA ?_
 refine op_box rfl rfl rfl rfl H1 ?_
 intro g_0_0 W2 hu3 Ha4; clear H1; clear hu3
 refine aA ?_
 refine aC rfl (aN rfl) rfl rfl ?_
 refine aJ ?_
 refine aG ?_
 refine wp_seq ?_
 refine aL [0, 1, 2, 3] rfl ?_
 refine aA ?_
 refine op_makeMap rfl rfl rfl Ha4 ?_
 intro g_1_0 W6 hu7 Ha8; clear Ha4; clear hu7
 refine aA ?_
 refine op_slice0 (dk := cZ) rfl Tryz.runUnderlying39 Tryz.sizeOf50 rfl rfl Ha8 ?_
 intro A_1_1 W10 hu11 Ha12; clear Ha8; clear hu11
 refine aA ?_
 refine aC rfl (aN rfl) rfl rfl ?_
 refine aA ?_
 refine aC rfl (aN rfl) rfl rfl ?_
 refine aJ ?_
 refine aG ?_
 refine wp_seq ?_
 refine wp_seq ?_
 refine aL [0, 1, 2] rfl ?_
 refine aA ?_
 refine eF rfl Tryz.call34 (vs := #[.pointer (some ⟨g_0_0, 0, none⟩)]) rfl rfl rfl (turnTags_i x.aB _ _ _ _ _ _ _ _ (aM Ha12.1 hCx3) (Ha12.blk 2 rfl).at' hn) ?_
 rintro e18 W17 ⟨v14, rfl, hR15, hu16⟩; refine ⟨_, rfl, ?_⟩
 obtain ⟨B_2_0, c_2_0, rfl⟩ := aV hR15
 have H19 := Ha12.new (q := hR cZ 50 (.slice B_2_0 ((tgS x.aB).length) c_2_0) (tgS x.aB)) hu16 hR15; clear Ha12
 refine aA ?_
 refine aC rfl (rn_len Tryz.runUnderlying39 rfl) rfl rfl ?_
 refine aA ?_
 refine aC rfl (aH rfl) rfl rfl ?_
 refine aJ ?_
 refine aG ?_
 refine wp_block ?_
 refine wp_loop_ghost (fun r a' W' => ∃ (i1 : Nat) (x' : Nat → Value), a' = aX 44 x' [(1, .pointer (some ⟨g_0_0, 0, none⟩)), (3, .map (some g_1_0)), (4, .slice A_1_1 0 0), (11, .slice B_2_0 ((tgS x.aB).length) c_2_0), (12, .int .i64 (((tgS x.aB).length : Nat))), (13, .int .i64 (((i1 : Nat) : Int)))] ∧ (i1 + r = (tgS x.aB).length) ∧ St w No [hR cZ 50 (.slice B_2_0 ((tgS x.aB).length) c_2_0) (tgS x.aB), hR cZ 50 (.slice A_1_1 0 0) ([]), hMp g_1_0 (ddT ((tgS x.aB).take i1)), hB g_0_0 35 #[.slice Ax0 x.bG.length cx0, .slice Ax1 x.gT.length cx1, .slice Ax2 x.bA.length cx2, .slice Ax3 x.aB.length cx3, .int .i64 (x.fC)]] W') ((tgS x.aB).length) ?_ ?_
 ·exact (bT [(1, .pointer (some ⟨g_0_0, 0, none⟩)), (3, .map (some g_1_0)), (4, .slice A_1_1 0 0), (11, .slice B_2_0 ((tgS x.aB).length) c_2_0), (12, .int .i64 (((tgS x.aB).length : Nat))), (13, .int .i64 (((0 : Nat) : Int)))] rfl).elim fun x' hx => ⟨0, x', hx, kO, H19⟩
 ·rintro r20 _ W21 ⟨i1, x22, rfl, hi1, H23⟩; clear H19
  refine wp_seq ?_
  refine aL [0] rfl ?_
  refine aA ?_
  refine aC rfl (lV rfl rfl) rfl rfl ?_
  refine aJ ?_
  refine aG ?_
  refine wp_seq ?_
  refine jP rfl (fun hc24 => ?_) (fun hc24 => ?_)
  ·have hlt1 : i1 < (tgS x.aB).length := by omega
   refine wp_skip ?_
   refine aG ?_
   refine wp_seq ?_
   refine wp_block ?_
   refine wp_seq ?_
   obtain ⟨ade, cse, hAe, hKe, hce⟩ := C_elem (H23.rowC 0 rfl) i1 hlt1
   obtain rfl := jX hKe
   refine aL [0, 1, 2, 3] rfl ?_
   refine aA ?_
   refine aC rfl (fI (k := i1) Tryz.runUnderlying39 Tryz.sizeOf50 rfl rfl hAe hlt1) rfl rfl ?_
   refine aA ?_
   refine aC rfl (lD Tryz.isAgg50 Tryz.sizeOf50 rfl hce rfl) rfl rfl ?_
   refine aA ?_
   refine nI rfl Tryz.zeroValue50 rfl rfl H23 ?_
   intro g_4_2 W25 hu26 Ha27; clear H23; clear hu26
   refine aA ?_
   refine lW rfl Tryz.sizeOf50 rfl rfl rfl rfl kS Ha27 ?_
   intro W29 hu30 Ha31; clear Ha27; clear hu30
   refine aJ ?_
   refine aG ?_
   refine aL [0, 1, 2] rfl ?_
   refine aA ?_
   refine aC rfl (aH rfl) rfl rfl ?_
   refine aA ?_
   refine aC rfl (gN Tryz.isAgg50 Tryz.sizeOf50 rfl (Ha31.blk 0 rfl) rfl) rfl rfl ?_
   refine aA ?_
   have H33 : St w No [hMp g_1_0 (ddT ((tgS x.aB).take i1)), hB g_4_2 50 #[.int .i64 ((tgS x.aB)[i1].Vat), .int .i64 ((tgS x.aB)[i1].Entity), .int .i64 ((tgS x.aB)[i1].Seq)], hR cZ 50 (.slice B_2_0 ((tgS x.aB).length) c_2_0) (tgS x.aB), hR cZ 50 (.slice A_1_1 0 0) ([]), hB g_0_0 35 #[.slice Ax0 x.bG.length cx0, .slice Ax1 x.gT.length cx1, .slice Ax2 x.bA.length cx2, .slice Ax3 x.aB.length cx3, .int .i64 (x.fC)]] W29 := Ha31.pick [3, 0, 1, 2, 4] kD rfl; clear Ha31
   refine op_mapSet (t := (tgS x.aB)[i1]) rfl H33 rfl rfl rfl  ?_
   intro W34 hu35 Ha36; clear H33
   rw [← dd_succ _ _ hlt1] at Ha36; clear hu35
   refine aJ ?_
   refine inB_n ?_
   refine aG ?_
   refine aL [0, 1] rfl ?_
   refine aA ?_
   refine aC rfl (jJ (k := i1) rfl rfl kO) rfl rfl ?_
   refine aA ?_
   refine aC rfl (aH rfl) rfl rfl ?_
   refine aJ ?_
   refine aG ?_
   exact (bT [(1, .pointer (some ⟨g_0_0, 0, none⟩)), (3, .map (some g_1_0)), (4, .slice A_1_1 0 0), (11, .slice B_2_0 ((tgS x.aB).length) c_2_0), (12, .int .i64 (((tgS x.aB).length : Nat))), (13, .int .i64 (((i1 + 1 : Nat) : Int)))] rfl).elim fun x' hx => ⟨r20 - 1, kO, i1 + 1, x', hx, kO, Ha36.pick [2, 3, 0, 4] kD rfl⟩
  ·obtain rfl : i1 = (tgS x.aB).length := by omega
   rw [List.take_length] at H23
   refine wp_exit ?_
   refine jV ?_
   refine jV ?_
   refine inB_x ?_
   refine aG ?_
   refine wp_seq ?_
   refine wp_seq ?_
   refine aL [0, 1, 2, 3] rfl ?_
   refine aA ?_
   refine aC rfl (aZ gY rfl) rfl rfl ?_
   refine aA ?_
   refine aC rfl (eG (k := 3) (v := .slice Ax3 x.aB.length cx3) Tryz.isAgg33 rfl (H23.blk 3 rfl) rfl) rfl rfl ?_
   refine aA ?_
   refine aC rfl (rn_len Tryz.runUnderlying33 rfl) rfl rfl ?_
   refine aA ?_
   refine aC rfl (aH rfl) rfl rfl ?_
   refine aJ ?_
   refine aG ?_
   refine wp_block ?_
   refine wp_loop_ghost (fun r a' W' => ∃ (i2 : Nat) (At : Option Addr) (ct : Nat) (x' : Nat → Value), a' = aX 44 x' [(3, .map (some g_1_0)), (4, .slice At ((unT x.aB i2).length) ct), (21, .slice Ax3 x.aB.length cx3), (22, .int .i64 ((x.aB.length : Nat))), (23, .int .i64 (((i2 : Nat) : Int)))] ∧ (i2 + r = x.aB.length) ∧ St w No [hR cZ 50 (.slice At ((unT x.aB i2).length) ct) (unT x.aB i2), hMp g_1_0 (ddT (tgS x.aB))] W') x.aB.length ?_ ?_
   ·exact (bT [(3, .map (some g_1_0)), (4, .slice A_1_1 0 0), (21, .slice Ax3 x.aB.length cx3), (22, .int .i64 ((x.aB.length : Nat))), (23, .int .i64 (((0 : Nat) : Int)))] rfl).elim fun x' hx => ⟨0, A_1_1, 0, x', hx, kO, H23.pick [1, 2] kD rfl⟩
   ·rintro r37 _ W38 ⟨i2, At, ct, x39, rfl, hi2, H40⟩; clear H23
    refine wp_seq ?_
    refine aL [0] rfl ?_
    refine aA ?_
    refine aC rfl (lV rfl rfl) rfl rfl ?_
    refine aJ ?_
    refine aG ?_
    refine wp_seq ?_
    refine jP rfl (fun hc41 => ?_) (fun hc41 => ?_)
    ·have hlt2 : i2 < x.aB.length := by omega
     obtain ⟨ade42, cse42, hAe42, hKe42, hce42⟩ := C_elem hCx3 i2 hlt2
     have hle42 := jY hKe42
     have hoe42 := jZ hKe42
     obtain rfl := iR hKe42
     refine wp_skip ?_
     refine aG ?_
     refine wp_seq ?_
     refine wp_block ?_
     refine wp_seq ?_
     refine aL [0, 1, 2, 3] rfl ?_
     refine aA ?_
     refine aC rfl (fI (k := i2) Tryz.runUnderlying33 Tryz.sizeOf52 rfl rfl hAe42 hlt2) rfl rfl ?_
     refine aA ?_
     refine aC rfl (lD Tryz.isAgg52 Tryz.sizeOf52 rfl (Cat.upd hce42 H40.1) rfl) rfl rfl ?_
     refine aA ?_
     refine nI rfl Tryz.zeroValue52 rfl rfl H40 ?_
     intro g_9_2 W43 hu44 Ha45; clear H40; clear hu44
     refine aA ?_
     refine lW rfl Tryz.sizeOf52 rfl rfl rfl rfl kS Ha45 ?_
     intro W47 hu48 Ha49; clear Ha45; clear hu48
     refine aJ ?_
     refine aG ?_
     refine wp_seq ?_
     refine aL [0, 1, 2, 3, 4, 5, 6, 7, 8, 9] rfl ?_
     refine aA ?_
     refine aC rfl (aZ iT rfl) rfl rfl ?_
     refine aA ?_
     refine aC rfl (eG (k := 0) (v := .int .i64 (x.aB[i2].Kind)) Tryz.isAgg3 rfl (Ha49.blk 0 rfl) rfl) rfl rfl ?_
     by_cases hg51 : ((x.aB[i2].Kind) : Int) = 1
     ·refine aA ?_
      refine aC rfl (j6 hg51 (jC rfl rfl)) rfl rfl ?_
      refine aA ?_
      refine aC rfl (aH rfl) rfl rfl ?_
      refine aA ?_
      refine op_G rfl rfl rfl rfl (fun _ ho52 => ?_)
      refine aC ho52 (aH rfl) rfl rfl ?_
      refine aA ?_
      refine op_G rfl rfl rfl rfl (fun _ ho53 => ?_)
      refine aC ho53 (aZ gU rfl) rfl rfl ?_
      refine aA ?_
      refine op_G rfl rfl rfl rfl (fun _ ho54 => ?_)
      refine aC ho54 (iI (sub := #[.int .i64 (x.aB[i2].Tag.Vat), .int .i64 (x.aB[i2].Tag.Entity), .int .i64 (x.aB[i2].Tag.Seq)]) Tryz.isAgg50 Tryz.sizeOf50 rfl (Ha49.blk 0 rfl) rfl rfl) rfl rfl ?_
      by_cases hg55 : ((ddT (tgS x.aB)).any (bQ (x.aB[i2].Tag))) = true
      ·refine aA ?_
       refine op_G rfl rfl rfl rfl (fun _ ho56 => ?_)
       refine aC ho56 (lQ (b := (ddT (tgS x.aB)).any (bQ (x.aB[i2].Tag))) hg55 (rn_lookup (t := x.aB[i2].Tag) (St.mp Ha49 2 rfl) rfl rfl)) rfl rfl ?_
       refine aA ?_
       refine op_G rfl rfl rfl rfl (fun _ ho57 => ?_)
       refine aC ho57 (rn_not rfl) rfl rfl ?_
       refine aA ?_
       refine aC rfl (fZ (v := .bool (false)) (b := true) rfl rfl rfl rfl) rfl rfl ?_
       refine aJ ?_
       refine aG ?_
       refine iY rfl ?_
       refine wp_skip ?_
       refine inB_n ?_
       refine aG ?_
       refine aL [0, 1] rfl ?_
       refine aA ?_
       refine aC rfl (jJ (k := i2) rfl rfl kO) rfl rfl ?_
       refine aA ?_
       refine aC rfl (aH rfl) rfl rfl ?_
       refine aJ ?_
       refine aG ?_
       have hmz := un_map x.aB x.aB[i2].Tag
       rw [hg55] at hmz
       have hcz : ¬ iH x.aB x.aB[i2].Tag = 0 := by simpa using hmz.symm
       have e58 : (unT x.aB (i2 + 1)) = (unT x.aB i2) := un_no x.aB i2 hlt2 (by simp [unP, hg51, hcz])
       rw [← e58] at Ha49 ⊢
       exact (bT [(3, .map (some g_1_0)), (4, .slice At ((unT x.aB (i2 + 1)).length) ct), (21, .slice Ax3 x.aB.length cx3), (22, .int .i64 ((x.aB.length : Nat))), (23, .int .i64 (((i2 + 1 : Nat) : Int)))] rfl).elim fun x' hx => ⟨r37 - 1, kO, i2 + 1, At, ct, x', hx, kO, Ha49.pick [1, 2] kD rfl⟩
      ·refine aA ?_
       refine op_G rfl rfl rfl rfl (fun _ ho59 => ?_)
       refine aC ho59 (lQ (b := (ddT (tgS x.aB)).any (bQ (x.aB[i2].Tag))) (eq_false_of_ne_true hg55) (rn_lookup (t := x.aB[i2].Tag) (St.mp Ha49 2 rfl) rfl rfl)) rfl rfl ?_
       refine aA ?_
       refine op_G rfl rfl rfl rfl (fun _ ho60 => ?_)
       refine aC ho60 (rn_not rfl) rfl rfl ?_
       refine aA ?_
       refine aC rfl (fZ (v := .bool (true)) (b := true) rfl rfl rfl rfl) rfl rfl ?_
       refine aJ ?_
       refine aG ?_
       refine cond_t rfl ?_
       have hmz := un_map x.aB x.aB[i2].Tag
       rw [eq_false_of_ne_true hg55] at hmz
       have hcz : iH x.aB x.aB[i2].Tag = 0 := by simpa using hmz.symm
       have hun := un_yes x.aB i2 hlt2 (by simp [unP, hcz, hg51])
       refine aL [0, 1, 2, 3, 4, 5] rfl ?_
       refine aA ?_
       refine aC rfl (aH rfl) rfl rfl ?_
       refine aA ?_
       refine aC rfl (aZ gU rfl) rfl rfl ?_
       refine aA ?_
       refine aC rfl (iI (sub := #[.int .i64 (x.aB[i2].Tag.Vat), .int .i64 (x.aB[i2].Tag.Entity), .int .i64 (x.aB[i2].Tag.Seq)]) Tryz.isAgg50 Tryz.sizeOf50 rfl (Ha49.blk 0 rfl) rfl rfl) rfl rfl ?_
       refine aA ?_
       refine op_slice1 rfl Tryz.runUnderlying39 Tryz.sizeOf50 kD Tryz.zeroValue50 rfl rfl rfl rfl Ha49 ?_
       intro g_11_3 W61 hu62 Ha63; clear Ha49; clear hu62
       refine aA ?_
       have H67 : St w No [hR cZ 50 (.slice At ((unT x.aB i2).length) ct) (unT x.aB i2), hB g_11_3 50 #[.int .i64 (x.aB[i2].Tag.Vat), .int .i64 (x.aB[i2].Tag.Entity), .int .i64 (x.aB[i2].Tag.Seq)], hB g_9_2 52 #[.int .i64 (x.aB[i2].Kind), .int .i64 (x.aB[i2].Vat), .int .i64 (x.aB[i2].Entity), .int .i64 (x.aB[i2].Tag.Vat), .int .i64 (x.aB[i2].Tag.Entity), .int .i64 (x.aB[i2].Tag.Seq)], hMp g_1_0 (ddT (tgS x.aB))] W61 := Ha63.pick [2, 0, 1, 3] kD rfl; clear Ha63
       refine op_append1f' (xs := (unT x.aB i2)) (p := x.aB[i2].Tag) (n' := (unT x.aB (i2 + 1)).length) (ys := (unT x.aB (i2 + 1))) rfl Tryz.underlying39 ki_Tag_info rfl kD kD rfl rfl (lC _ No (x.aB[i2].Tag)) (by have := un_len x.aB i2 kO; omega) (by rw [hun, List.length_append]; rfl) hun.symm rfl rfl H67 ?_
       intro B_11_4 c_11_4 W65 Ha66; clear H67
       refine aA ?_
       refine aC rfl (aN rfl) rfl rfl ?_
       refine aJ ?_
       refine inB_n ?_
       refine aG ?_
       refine aL [0, 1] rfl ?_
       refine aA ?_
       refine aC rfl (jJ (k := i2) rfl rfl kO) rfl rfl ?_
       refine aA ?_
       refine aC rfl (aH rfl) rfl rfl ?_
       refine aJ ?_
       refine aG ?_
       exact (bT [(3, .map (some g_1_0)), (4, .slice B_11_4 ((unT x.aB (i2 + 1)).length) c_11_4), (21, .slice Ax3 x.aB.length cx3), (22, .int .i64 ((x.aB.length : Nat))), (23, .int .i64 (((i2 + 1 : Nat) : Int)))] rfl).elim fun x' hx => ⟨r37 - 1, kO, i2 + 1, B_11_4, c_11_4, x', hx, kO, Ha66.pick [0, 2] kD rfl⟩
     ·refine aA ?_
      refine aC rfl (j5 hg51 (jC rfl rfl)) rfl rfl ?_
      refine aA ?_
      refine aC rfl (aH rfl) rfl rfl ?_
      refine aA ?_
      refine lF rfl rfl rfl rfl rfl rfl rfl ?_
      refine aA ?_
      refine lF rfl rfl rfl rfl rfl rfl rfl ?_
      refine aA ?_
      refine lF rfl rfl rfl rfl rfl rfl rfl ?_
      refine aA ?_
      refine lF rfl rfl rfl rfl rfl rfl rfl ?_
      refine aA ?_
      refine lF rfl rfl rfl rfl rfl rfl rfl ?_
      refine aA ?_
      refine aC rfl (fZ (v := .bool (false)) (b := false) rfl rfl rfl rfl) rfl rfl ?_
      refine aJ ?_
      refine aG ?_
      refine iY rfl ?_
      refine wp_skip ?_
      refine inB_n ?_
      refine aG ?_
      refine aL [0, 1] rfl ?_
      refine aA ?_
      refine aC rfl (jJ (k := i2) rfl rfl kO) rfl rfl ?_
      refine aA ?_
      refine aC rfl (aH rfl) rfl rfl ?_
      refine aJ ?_
      refine aG ?_
      have e69 : (unT x.aB (i2 + 1)) = (unT x.aB i2) := un_no x.aB i2 hlt2 (by simp [unP, hg51])
      rw [← e69] at Ha49 ⊢
      exact (bT [(3, .map (some g_1_0)), (4, .slice At ((unT x.aB (i2 + 1)).length) ct), (21, .slice Ax3 x.aB.length cx3), (22, .int .i64 ((x.aB.length : Nat))), (23, .int .i64 (((i2 + 1 : Nat) : Int)))] rfl).elim fun x' hx => ⟨r37 - 1, kO, i2 + 1, At, ct, x', hx, kO, Ha49.pick [1, 2] kD rfl⟩
    ·have hge2 : x.aB.length ≤ i2 := by omega
     obtain rfl : i2 = x.aB.length := by omega
     refine wp_exit ?_
     refine jV ?_
     refine jV ?_
     refine inB_x ?_
     refine aG ?_
     refine wp_seq ?_
     refine aL [0, 1] rfl ?_
     refine aA ?_
     refine aC rfl (aH rfl) rfl rfl ?_
     refine aA ?_
     refine aC rfl (aN rfl) rfl rfl ?_
     refine aJ ?_
     refine aG ?_
     refine wp_ret ?_
     refine gJ (.inl rfl) Tryz.results12 rfl ?_
     have hq := (H40.pick [0] kD rfl : St w No [hR cZ 50 (.slice At ((unT x.aB x.aB.length).length) ct) (unT x.aB x.aB.length)] W38).fin1
     exact ⟨_, rfl, hq.1, hq.2⟩
end Go.Proofs.YtgaoabnnpjngcaaGreatFam
namespace Go.Proofs.YtgaoabnnpjngcaaGreatT
open Go.Proofs.YtgaoabnnpjngcaaGreatSep
theorem cntv_World_nn (x : GWorld) : 0 ≤ iA x := by
 have h0 := dB bR mG x.bG
 have h1 := dB fO cnt_Vat_nn x.gT
 have h2 := dB bO lJ x.bA
 have h3 := dB eU nR x.aB
 unfold iA
 omega
theorem cntv_World_le (x : GWorld) : iA x ≤ 20 * (fU x : Int) := by
 have h0 := dU bR eB cnt_Script_le x.bG
 have h1 := dU fO gD cnt_Vat_le x.gT
 have h2 := dU bO dQ cnt_Channel_le x.bA
 have h3 := dU eU jQ cnt_Note_le x.aB
 unfold iA fU
 omega
end Go.Proofs.YtgaoabnnpjngcaaGreatT
namespace Go.Proofs.YtgaoabnnpjngcaaGreatOpen
open Go.ChangeShapes Go.WideShapes Go.Proofs.YtgaoabnnpjngcaaGreatSep
structure Opens {α : Type} (P : Program) (t : TypeId) (d : Kn α) (G : α → Prop) : Prop where
 out : ∀ {H : Type} (enc : TypeId × Value → H) (w : World) (base : Nat) (spare : Nat → Bool) (held : Bool) (fuel : Nat) (cs : List Value) (x : DataW H × List MemPlace),
  DataW.trod enc P w base spare held fuel t cs = some x → ∃ v, d.K w v cs ∧ G v
structure OpensFs {α : Type} (P : Program) (fs : List Field) (off : Nat) (d : Kn α) (G : α → Prop) : Prop where
 out : ∀ {H : Type} (enc : TypeId × Value → H) (w : World) (base : Nat) (spare : Nat → Bool) (held : Bool) (fuel : Nat) (cs : List Value), cs.length = off + d.sz →
  (∀ f ∈ fs, ∃ x, DataW.trod enc P w base spare held fuel f.type ((cs.drop f.offset).take (P.cellsOf f.type)) = some x) → ∃ v, d.K w v (cs.drop off) ∧ G v
section
variable {P : Program} {t e : TypeId}
theorem bD (ht : P.underlying t = some (.int .i64)) : Opens P t Kn.int (fun n => (Lit.int .i64 n).wf = true) := by
 refine ⟨?_⟩
 intro H enc w base spare held fuel cs x h
 obtain ⟨n, rfl, _, hw⟩ := DataW.trod_int ht h
 exact ⟨n, rfl, hw⟩
theorem opens_bool (ht : P.underlying t = some .bool) : Opens P t Kn.bool (fun _ => True) := by
 refine ⟨?_⟩
 intro H enc w base spare held fuel cs x h
 obtain ⟨n, rfl, _⟩ := DataW.trod_bool ht h
 exact ⟨n, rfl, trivial⟩
theorem lT (ht : P.underlying t = some .string) : Opens P t Kn.string (fun s => s.size ≤ 9223372036854775807) := by
 refine ⟨?_⟩
 intro H enc w base spare held fuel cs x h
 obtain ⟨s, rfl, _, hw⟩ := DataW.trod_string ht h
 exact ⟨s, rfl, by simpa [maxLen] using hw⟩
theorem dY {α : Type} {d : Kn α} {G : α → Prop} (z : α) (ht : P.underlying t = some (.slice e)) (hc : P.cellsOf e = d.sz) (he : Opens P e d G) :
 Opens P t (Kn.slice e d) (fun l => l.length ≤ 9223372036854775807 ∧ ∀ x ∈ l, G x) := by
 refine ⟨?_⟩
 intro H enc w base spare held fuel cs x h
 rcases Go.Deep.open_slice ht h with ⟨rfl, _⟩ | ⟨a, len, cap, m, n, D, Pl, rfl, _, hl, hm, hmm, _, hx⟩
 ·exact ⟨[], ⟨none, 0, rfl, Nat.le_refl _, by simp, fun h => absurd h (Nat.lt_irrefl 0)⟩, by simp, by simp⟩
 have hle : len ≤ m := by rw [hmm]; split <;> omega
 have hm' : cap ≤ 9223372036854775807 := by simpa [maxLen] using hm
 haveI : Inhabited α := ⟨z⟩
 obtain ⟨V, hV⟩ := Go.Deep.choose_lt (α := α) (n := len) (p := fun i v => ∃ cs', w.cells? base (a.add (i * P.cellsOf e)) (P.cellsOf e) = some cs' ∧ d.K w v cs' ∧ G v) (fun i hi => by
  obtain ⟨cs', h1, h2⟩ := hx i kO
  obtain ⟨v, hk, hg⟩ := he.out enc w base spare held n cs' _ h2
  exact ⟨v, cs', h1, hk, hg⟩)
 have hlen : ((List.range len).map V).length = len := by simp
 refine ⟨(List.range len).map V, ⟨some a, cap, by rw [hlen], by rw [hlen]; exact hl, by rw [hlen]; omega, fun _ => ⟨a, rfl, fun j p hj => ?_⟩⟩, by rw [hlen]; omega, ?_⟩
 ·obtain ⟨hj1, hj2⟩ := List.getElem?_eq_some_iff.1 hj
  have hj3 : j < len := by rw [hlen] at hj1; exact hj1
  have hp : V j = p := by simpa using hj2
  subst hp
  obtain ⟨cs', h1, hk, _⟩ := hV j hj3
  rw [hc] at h1
  obtain ⟨_, h2, h3⟩ := World.cells?_some h1
  refine ⟨cs', hk, fun i u hu => ?_⟩
  have hi : i < d.sz := by rw [← h2]; exact (List.getElem?_eq_some_iff.1 hu).1
  have := h3 i hi
  rw [hu, Go.Deep.add_add] at this
  exact this
 ·intro x hx
  obtain ⟨j, hj, rfl⟩ := List.mem_map.1 hx
  obtain ⟨_, _, _, hg⟩ := hV j (List.mem_range.1 hj)
  exact hg
theorem gG {α β : Type} {d : Kn α} {G : α → Prop} (f : β → α) (g : α → β) (hfg : ∀ y, f (g y) = y) (h : Opens P t d G) : Opens P t (Kn.iso d f) (fun x => G (f x)) := by
 refine ⟨?_⟩
 intro H enc w base spare held fuel cs x hx
 obtain ⟨v, hk, hg⟩ := h.out enc w base spare held fuel cs x hx
 refine ⟨g v, ?_, ?_⟩
 ·show d.K w (f (g v)) cs
  rw [hfg]
  exact hk
 ·show G (f (g v))
  rw [hfg]
  exact hg
theorem eO {α : Type} {d : Kn α} {G : α → Prop} {f : Field} {off : Nat} (ho : f.offset = off) (hc : P.cellsOf f.type = d.sz) (h : Opens P f.type d G) : OpensFs P [f] off d G := by
 refine ⟨?_⟩
 intro H enc w base spare held fuel cs hl hf
 obtain ⟨x, hx⟩ := hf f (List.mem_singleton.2 rfl)
 rw [hc, ho, List.take_of_length_le (by rw [List.length_drop]; omega)] at hx
 exact h.out enc w base spare held fuel _ x hx
theorem aK {α β : Type} {a : Kn α} {b : Kn β} {G : α → Prop} {G' : β → Prop} {f : Field} {fs : List Field} {off : Nat} (ho : f.offset = off) (hc : P.cellsOf f.type = a.sz) (h : Opens P f.type a G)
 (h' : OpensFs P fs (off + a.sz) b G') : OpensFs P (f :: fs) off (Kn.pair a b) (fun x => G x.1 ∧ G' x.2) := by
 refine ⟨?_⟩
 intro H enc w base spare held fuel cs hl hf
 have hl' : cs.length = off + (a.sz + b.sz) := hl
 obtain ⟨x, hx⟩ := hf f List.mem_cons_self
 rw [hc, ho] at hx
 obtain ⟨v, hk, hg⟩ := h.out enc w base spare held fuel _ x hx
 obtain ⟨v', hk', hg'⟩ := h'.out enc w base spare held fuel cs kO (fun f hm => hf f (List.mem_cons_of_mem _ hm))
 exact ⟨(v, v'), ⟨_, _, by rw [← List.drop_drop]; exact (List.take_append_drop _ _).symm, hk, hk'⟩, hg, hg'⟩
theorem dP {α : Type} {d : Kn α} {G : α → Prop} {fs : List Field} (ht : P.underlying t = some (.struct fs.toArray)) (hc : P.cellsOf t = d.sz) (h : OpensFs P fs 0 d G) : Opens P t d G := by
 refine ⟨?_⟩
 intro H enc w base spare held fuel cs x hx
 obtain ⟨xs, n, _, _, hl, hlen, hf⟩ := DataW.trod_struct ht hx
 refine h.out enc w base spare held n cs (by rw [hl, hc, Nat.zero_add]) (fun f hm => ?_)
 obtain ⟨i, hi, rfl⟩ := List.mem_iff_getElem.1 hm
 have h1 := hf i fs[i] (by simp [hi])
 have hi' : i < xs.length := by rw [hlen]; simpa using hi
 exact ⟨xs[i], by rw [h1, List.getElem?_eq_getElem hi']⟩
theorem arg_struct {H : Type} {enc : TypeId × Value → H} {w : World} {base : Nat} {spare : Nat → Bool} {held : Bool} {α : Type} {d : Kn α} {G : α → Prop} {cs : Array Value} {dd : DataW H} {ps : List MemPlace}
 (h : Opens P t d G) (hd : DataW.Trod enc P w base spare held t (.agg cs) dd ps) : ∃ x : α, d.K w x cs.toList ∧ G x := by
 obtain ⟨fuel, hf⟩ := hd
 exact h.out enc w base spare held fuel _ _ hf
end
end Go.Proofs.YtgaoabnnpjngcaaGreatOpen
