/- What the row needs, packed. No conditions beyond those that each law names. -/
import Derived.Test.YtfnedoiplblldaaGreatZnw1
import Derived.Test.YtfnedoiplblldaaGreatProg
import Derived.WalkKit
import Derived.KernelRfl
import Derived.RowKit3
import Derived.Deep.LoopGhost
import Derived.Deep.QuietTactic
import Derived.BigQuiet
import Derived.StillTailTactics
import Derived.Deep.RegionHeld3
import Derived.Deep.RegionLaw
import Derived.Deep.DeepCutAuto
namespace Go.Proofs.YtfnedoiplblldaaGreatFam
open Go.RowKit Go.Proofs.YtfnedoiplblldaaGreatSep Go.Proofs.YtfnedoiplblldaaGreatT Go.Proofs.YtfnedoiplblldaaGreatK
set_option linter.unusedVariables false
set_option linter.unusedSimpArgs false
set_option maxHeartbeats 1000000
set_option maxRecDepth 100000
theorem ki_Asker_Kmk (w : World) (x : GAsker) : cK.K w x [.int .i64 x.dW, .int .i64 x.Question] := ⟨[_], [_], rfl, rfl, rfl⟩
theorem eq_Asker (x : GAsker) (cs cs' : List Value) (w : World) (h : cK.K w x cs) (h' : cK.K w x cs') : Calls Tryz.prog 230 #[.agg cs.toArray, .agg cs'.toArray] w (dD true w) := by
 obtain rfl := ki_Asker_K h
 obtain rfl := ki_Asker_K h'
 go_enter Tryz.func230, Tryz.ntmps230
 go_wp2
 go_ret
 exact ⟨rfl, kA⟩
theorem eqS_Asker (l : List GAsker) (A A' : Option Addr) (c c' : Nat) (w : World) (h : C cK w A l) (h' : C cK w A' l) : Calls Tryz.prog 214 #[.slice A l.length c, .slice A' l.length c'] w (dD true w) := by
 have hn := h.1
 have H := Sd.mk h
 have H' := Sd.mk h'
 clear h h'
 go_enter Tryz.func214, Tryz.ntmps214
 go_wp2
 go_loopg [5] l.length (fun k v wr => ∃ i : Nat, i + k = l.length ∧ v = .int .i64 i ∧ Sd (Upd No w wr))
 case atStart => exact ⟨0, by omega, rfl, ⟨Upd.refl _ _⟩⟩
 case round =>
  obtain ⟨i, hi, rfl, HU⟩ := hrel
  by_cases hlt : i < l.length
  ·obtain ⟨ad, rfl, a0, a1⟩ := ki_Asker_at (aO HU.out H.out) i hlt
   obtain ⟨ad', rfl, z0, z1⟩ := ki_Asker_at (aO HU.out H'.out) i hlt
   go_wp2_with fail
   go_still_tail 8, kR
   change wpList _ _ _ _ _ wr.drew
   have HW : Sd (Upd No wr wr.drew) := ⟨(Upd.refl _ _).drew⟩
   have HU2 : Sd (Upd No w wr.drew) := ⟨HU.out.drew⟩
   generalize wr.drew = w2 at *
   go_wp2_with (go_at_call 230; (with_reducible refine (eq_Asker l[i] _ _ _ (ki_Asker_Kmk _ _) (ki_Asker_Kmk _ _)).mono ?_); rintro e w' ⟨rfl, hu⟩)
   have HU3 := Sd.mk (HU2.out.then hu)
   clear HU2 hu
   go_wp2
   go_roundg (gk - 1)
   case measure => omega
   case rel => exact ⟨i + 1, by omega, by go_num, HU3⟩
  ·go_wp2
   go_ret
   exact ⟨rfl, HU.out⟩
theorem markS_Asker (l : List GAsker) (k : Int) (F : Nat → Prop) (v : Value) (w : World) (h : R cK 285 w F v l) (hk : 0 ≤ k) (hb : k + aK bM l ≤ 4611686018427387904) : Calls Tryz.prog 173 #[v, .int .i64 k] w (Marks cK 285 F v (k + aK bM l) (mkS iO bM k l) w) := by
 obtain ⟨A, c, rfl⟩ := bK h
 have hn := R_len h
 have H := Sd.mk h
 clear h
 go_enter Tryz.func173, Tryz.ntmps173
 go_wp2
 go_loopg [1, 5] l.length (fun r u v wr => ∃ i : Nat, i + r = l.length ∧ u = .int .i64 (k + aK bM (l.take i)) ∧ v = .int .i64 i ∧ Sd (R cK 285 wr F (.slice A l.length c) (upTo (mkS iO bM k l) l i)) ∧ Sd (Upd F w wr))
 case atStart => exact ⟨0, by omega, by simp [aK], rfl, ⟨by rw [eD]; exact H.out⟩, ⟨Upd.refl _ _⟩⟩
 case round =>
  obtain ⟨i, hi, rfl, rfl, HR, HU⟩ := hrel
  by_cases hlt : i < l.length
  ·have hle := bL bM iJ l i
   have hst := cB bM l i hlt
   have hle2 := bL bM iJ l (i + 1)
   rw [hst] at hle2
   have HST := Sd.mk hst
   clear hst
   have HMA := Sd.mk (eO iO bM l k i hlt)
   obtain ⟨g, cap, cur, ce, Fi, hv, hcap, hat, hM, hg, hFi, hFg, close⟩ := iH HR.out 2 l.length rfl (fC (aM _ _ _ _) kO) i l[i] (gB (aM _ _ _ _) hlt)
   cases hv
   obtain rfl := ki_Asker_M hM
   have HCN : Sd (bM l[i] = bM l[i]) := ⟨rfl⟩
   simp only [bM] at hle2
   generalize hq : k + aK bM (l.take i) = q at *
   have HQ := Sd.mk hq
   have hq0 : 0 ≤ q := by omega
   have hqb : q + ((0 + 1) + 1) ≤ 4611686018427387904 := by omega
   clear hq hle hle2 hb
   have HAT := Sd.mk hat
   have x0_s := hat.cell0 _ rfl
   have x1_s := hat.cell 1 _ rfl
   have f0_s := hat.free (i * 2)
   have f1_s := hat.free (i * 2 + 1)
   have CL := Sd.mk close
   clear hat close hM HR
   go_wp2
   have HA := ((HAT.out.set0 kD (.int .i64 (q))).set 1 kD (.int .i64 ((q + 1))))
   have hy : (⟨q, (q + 1)⟩ : GAsker) = (mkS iO bM k l)[i]'(by rw [aM]; exact hlt) := by rw [HMA.out]; simp only [iO]
   have HRowB := CL.out _ _ (⟨q, (q + 1)⟩ : GAsker) Fi F HA (ki_Asker_mk _ Fi (⟨q, (q + 1)⟩ : GAsker)) (fun _ hb => .inl hb) (fun _ hb => hb) hFi
   rw [hy, fD (aM _ _ _ _) hlt] at HRowB
   go_roundg (gk - 1)
   case measure => omega
   case rel => exact ⟨i + 1, by omega, by rw [HST.out]; simp only [bM]; have := HQ.out; exact congrArg (Value.int .i64) kO, by go_num, ⟨HRowB⟩, ⟨HU.out.trans HA.upd (fun _ _ hb => hb) (fun b _ hb => by rcases hb with rfl | hb; exact hg; exact hFi b hb)⟩⟩
  ·go_wp2
   go_ret
   have HRowB := HR.out
   rw [fB (aM _ _ _ _) kO] at HRowB
   have e : l.take i = l := List.take_of_length_le kO
   exact ⟨dL (by rw [e]), HRowB, HU.out⟩
theorem heldS_Asker (l : List GAsker) (k : Int) (A : Option Addr) (c : Nat) (w : World) (h : C cK w A (mkS iO bM k l)) (hk : 0 ≤ k) (hb : k + aK bM l ≤ 4611686018427387904) : Calls Tryz.prog 177 #[.slice A l.length c, .int .i64 k] w (gN (k + aK bM l) w) := by
 have hn := h.1
 rw [aM] at hn
 have H := Sd.mk h
 clear h
 go_enter Tryz.func177, Tryz.ntmps177
 go_wp2
 go_loopg [1, 5] l.length (fun r u v wr => ∃ i : Nat, i + r = l.length ∧ u = .int .i64 (k + aK bM (l.take i)) ∧ v = .int .i64 i ∧ Sd (Upd No w wr))
 case atStart => exact ⟨0, by omega, by simp [aK], rfl, ⟨Upd.refl _ _⟩⟩
 case round =>
  obtain ⟨i, hi, rfl, rfl, HU⟩ := hrel
  by_cases hlt : i < l.length
  ·have hle := bL bM iJ l i
   have hst := cB bM l i hlt
   have hle2 := bL bM iJ l (i + 1)
   rw [hst] at hle2
   have HST := Sd.mk hst
   clear hst
   obtain ⟨ad, rfl, a0, a1⟩ := ki_Asker_at (aO HU.out H.out) i (by rw [aM]; exact hlt)
   rw [eO iO bM l k i hlt] at a0 a1
   simp only [iO] at a0 a1
   simp only [bM] at hle2
   generalize hq : k + aK bM (l.take i) = q at *
   have HQ := Sd.mk hq
   have hq0 : 0 ≤ q := by omega
   have hqb : q + ((0 + 1) + 1) ≤ 4611686018427387904 := by omega
   clear hq hle hle2 hb
   have HX := Sd.mk (Upd.refl No wr)
   go_wp2
   go_roundg (gk - 1)
   case measure => omega
   case rel => exact ⟨i + 1, by omega, by rw [HST.out]; simp only [bM]; have := HQ.out; exact congrArg (Value.int .i64) kO, by go_num, ⟨HU.out.then HX.out⟩⟩
  ·go_wp2
   go_ret
   have e : l.take i = l := List.take_of_length_le kO
   exact ⟨dL (by rw [e]), HU.out⟩
theorem ki_Entity_Kmk (w : World) (x : GEntity) {A2 : Option Addr} {c2 : Nat} (hl2 : x.fF.length ≤ c2) (hC2 : C bF w A2 x.fF) {A6 : Option Addr} {c6 : Nat} (hl6 : x.Queue.length ≤ c6) (hC6 : C bR w A6 x.Queue) {A7 : Option Addr} {c7 : Nat} (hl7 : x.eF.length ≤ c7) (hC7 : C cK w A7 x.eF) : aS.K w x [.int .i64 x.Kind, .int .i64 x.Script, .slice A2 x.fF.length c2, .int .i64 x.State, .int .i64 x.Value.Kind, .int .i64 x.Value.N, .slice A6 x.Queue.length c6, .slice A7 x.eF.length c7, .int .i64 x.dW, .int .i64 x.Pos, .int .i64 x.Count, .int .i64 x.Sent] := ⟨[_], [_, _, _, _, _, _, _, _, _, _, _], rfl, rfl, ⟨[_], [_, _, _, _, _, _, _, _, _, _], rfl, rfl, ⟨[_], [_, _, _, _, _, _, _, _, _], rfl, ⟨A2, c2, rfl, hl2, hC2⟩, ⟨[_], [_, _, _, _, _, _, _, _], rfl, rfl, ⟨[_, _], [_, _, _, _, _, _], rfl, (jQ w _), ⟨[_], [_, _, _, _, _], rfl, ⟨A6, c6, rfl, hl6, hC6⟩, ⟨[_], [_, _, _, _], rfl, ⟨A7, c7, rfl, hl7, hC7⟩, ⟨[_], [_, _, _], rfl, rfl, ⟨[_], [_, _], rfl, rfl, ⟨[_], [_], rfl, rfl, rfl⟩⟩⟩⟩⟩⟩⟩⟩⟩⟩
theorem eq_Entity (x : GEntity) (cs cs' : List Value) (w : World) (h : aS.K w x cs) (h' : aS.K w x cs') : Calls Tryz.prog 169 #[.agg cs.toArray, .agg cs'.toArray] w (dD true w) := by
 obtain ⟨A2, c2, A6, c6, A7, c7, rfl, hl2, hC2, hl6, hC6, hl7, hC7⟩ := ki_Entity_K h
 have HC2 := Sd.mk hC2
 have HC6 := Sd.mk hC6
 have HC7 := Sd.mk hC7
 clear hC2 hC6 hC7
 obtain ⟨B2, b2, B6, b6, B7, b7, rfl, hm2, hD2, hm6, hD6, hm7, hD7⟩ := ki_Entity_K h'
 have HD2 := Sd.mk hD2
 have HD6 := Sd.mk hD6
 have HD7 := Sd.mk hD7
 clear hD2 hD6 hD7
 go_enter Tryz.func169, Tryz.ntmps169
 go_wp2_with fail
 with_reducible refine (eqS_Value x.fF _ _ _ _ _ ?hc_Slots ?hd_Slots).mono ?_
 case hc_Slots => exact aO kA HC2.out
 case hd_Slots => exact aO kA HD2.out
 rintro e w_Slots ⟨rfl, hu⟩
 have HB_Slots : Sd (Upd No w w_Slots) := Sd.mk (Upd.then kA hu)
 have cc0_Slots := fun o => hu.bJ (b := w.heap.size) kB (fun q => q) o
 have cc1_Slots := fun o => hu.bJ (b := w.heap.size + 1) kB (fun q => q) o
 have hz_Slots : w.heap.size + 1 + 1 ≤ w_Slots.heap.size := by have := hu.size; (try simp at this); omega
 clear hu
 go_wp2_with fail
 with_reducible refine (eq_Value x.Value _ _ _ (jQ _ _) (jQ _ _)).mono ?_
 rintro e w_Value ⟨rfl, hu⟩
 have HB_Value : Sd (Upd No w w_Value) := Sd.mk (Upd.then (by repeat (with_reducible first | exact HB_Slots.out | apply Upd.bZ | apply Upd.bY | apply Upd.bW | apply Upd.alloc | apply Upd.drewN | apply Upd.drew)) hu)
 have cc0_Value := fun o => hu.bJ (b := w.heap.size) kB (fun q => q) o
 have cc1_Value := fun o => hu.bJ (b := w.heap.size + 1) kB (fun q => q) o
 have hz_Value : w.heap.size + 1 + 1 ≤ w_Value.heap.size := by have := hu.size; (try simp at this); omega
 clear hu
 go_wp2_with fail
 with_reducible refine (eqS_Sent x.Queue _ _ _ _ _ ?hc_Queue ?hd_Queue).mono ?_
 case hc_Queue => exact aO (by repeat (with_reducible first | exact HB_Value.out | apply Upd.bZ | apply Upd.bY | apply Upd.bW | apply Upd.alloc | apply Upd.drewN | apply Upd.drew)) HC6.out
 case hd_Queue => exact aO (by repeat (with_reducible first | exact HB_Value.out | apply Upd.bZ | apply Upd.bY | apply Upd.bW | apply Upd.alloc | apply Upd.drewN | apply Upd.drew)) HD6.out
 rintro e w_Queue ⟨rfl, hu⟩
 have HB_Queue : Sd (Upd No w w_Queue) := Sd.mk (Upd.then (by repeat (with_reducible first | exact HB_Value.out | apply Upd.bZ | apply Upd.bY | apply Upd.bW | apply Upd.alloc | apply Upd.drewN | apply Upd.drew)) hu)
 have cc0_Queue := fun o => hu.bJ (b := w.heap.size) kB (fun q => q) o
 have cc1_Queue := fun o => hu.bJ (b := w.heap.size + 1) kB (fun q => q) o
 have hz_Queue : w.heap.size + 1 + 1 ≤ w_Queue.heap.size := by have := hu.size; (try simp at this); omega
 clear hu
 go_wp2_with fail
 with_reducible refine (eqS_Asker x.eF _ _ _ _ _ ?hc_Askers ?hd_Askers).mono ?_
 case hc_Askers => exact aO (by repeat (with_reducible first | exact HB_Queue.out | apply Upd.bZ | apply Upd.bY | apply Upd.bW | apply Upd.alloc | apply Upd.drewN | apply Upd.drew)) HC7.out
 case hd_Askers => exact aO (by repeat (with_reducible first | exact HB_Queue.out | apply Upd.bZ | apply Upd.bY | apply Upd.bW | apply Upd.alloc | apply Upd.drewN | apply Upd.drew)) HD7.out
 rintro e w_Askers ⟨rfl, hu⟩
 have HB_Askers : Sd (Upd No w w_Askers) := Sd.mk (Upd.then (by repeat (with_reducible first | exact HB_Queue.out | apply Upd.bZ | apply Upd.bY | apply Upd.bW | apply Upd.alloc | apply Upd.drewN | apply Upd.drew)) hu)
 have cc0_Askers := fun o => hu.bJ (b := w.heap.size) kB (fun q => q) o
 have cc1_Askers := fun o => hu.bJ (b := w.heap.size + 1) kB (fun q => q) o
 have hz_Askers : w.heap.size + 1 + 1 ≤ w_Askers.heap.size := by have := hu.size; (try simp at this); omega
 clear hu
 go_wp2
 go_ret
 exact ⟨rfl, (by repeat (with_reducible first | exact HB_Askers.out | apply Upd.bZ | apply Upd.bY | apply Upd.bW | apply Upd.alloc | apply Upd.drewN | apply Upd.drew))⟩
theorem eqS_Entity (l : List GEntity) (A A' : Option Addr) (c c' : Nat) (w : World) (h : C aS w A l) (h' : C aS w A' l) : Calls Tryz.prog 102 #[.slice A l.length c, .slice A' l.length c'] w (dD true w) := by
 have hn := h.1
 have H := Sd.mk h
 have H' := Sd.mk h'
 clear h h'
 go_enter Tryz.func102, Tryz.ntmps102
 go_wp2
 go_loopg [5] l.length (fun k v wr => ∃ i : Nat, i + k = l.length ∧ v = .int .i64 i ∧ Sd (Upd No w wr))
 case atStart => exact ⟨0, by omega, rfl, ⟨Upd.refl _ _⟩⟩
 case round =>
  obtain ⟨i, hi, rfl, HU⟩ := hrel
  by_cases hlt : i < l.length
  ·obtain ⟨ad, A2, c2, A6, c6, A7, c7, rfl, a0, a1, a2, a3, a4, a5, a6, a7, a8, a9, a10, a11, hl2, hC2, hl6, hC6, hl7, hC7⟩ := ki_Entity_at (aO HU.out H.out) i hlt
   obtain ⟨ad', B2, b2, B6, b6, B7, b7, rfl, z0, z1, z2, z3, z4, z5, z6, z7, z8, z9, z10, z11, hm2, hD2, hm6, hD6, hm7, hD7⟩ := ki_Entity_at (aO HU.out H'.out) i hlt
   have HC2 := Sd.mk hC2
   have HD2 := Sd.mk hD2
   clear hC2 hD2
   have HC6 := Sd.mk hC6
   have HD6 := Sd.mk hD6
   clear hC6 hD6
   have HC7 := Sd.mk hC7
   have HD7 := Sd.mk hD7
   clear hC7 hD7
   go_wp2_with fail
   go_still_tail 8, kR
   change wpList _ _ _ _ _ wr.drew
   have HW : Sd (Upd No wr wr.drew) := ⟨(Upd.refl _ _).drew⟩
   have HU2 : Sd (Upd No w wr.drew) := ⟨HU.out.drew⟩
   generalize wr.drew = w2 at *
   go_wp2_with (go_at_call 169; (with_reducible refine (eq_Entity l[i] _ _ _ (ki_Entity_Kmk _ _ hl2 (aO HW.out HC2.out) hl6 (aO HW.out HC6.out) hl7 (aO HW.out HC7.out)) (ki_Entity_Kmk _ _ hm2 (aO HW.out HD2.out) hm6 (aO HW.out HD6.out) hm7 (aO HW.out HD7.out))).mono ?_); rintro e w' ⟨rfl, hu⟩)
   have HU3 := Sd.mk (HU2.out.then hu)
   clear HU2 hu
   go_wp2
   go_roundg (gk - 1)
   case measure => omega
   case rel => exact ⟨i + 1, by omega, by go_num, HU3⟩
  ·go_wp2
   go_ret
   exact ⟨rfl, HU.out⟩
theorem markS_Entity (l : List GEntity) (k : Int) (F : Nat → Prop) (v : Value) (w : World) (h : R aS 171 w F v l) (hk : 0 ≤ k) (hb : k + aK bG l ≤ 4611686018427387904) : Calls Tryz.prog 107 #[v, .int .i64 k] w (Marks aS 171 F v (k + aK bG l) (mkS gT bG k l) w) := by
 obtain ⟨A, c, rfl⟩ := bK h
 have hn := R_len h
 have H := Sd.mk h
 clear h
 go_enter Tryz.func107, Tryz.ntmps107
 go_wp2
 go_loopg [1, 5] l.length (fun r u v wr => ∃ i : Nat, i + r = l.length ∧ u = .int .i64 (k + aK bG (l.take i)) ∧ v = .int .i64 i ∧ Sd (R aS 171 wr F (.slice A l.length c) (upTo (mkS gT bG k l) l i)) ∧ Sd (Upd F w wr))
 case atStart => exact ⟨0, by omega, by simp [aK], rfl, ⟨by rw [eD]; exact H.out⟩, ⟨Upd.refl _ _⟩⟩
 case round =>
  obtain ⟨i, hi, rfl, rfl, HR, HU⟩ := hrel
  by_cases hlt : i < l.length
  ·have hle := bL bG gZ l i
   have hst := cB bG l i hlt
   have hle2 := bL bG gZ l (i + 1)
   rw [hst] at hle2
   have HST := Sd.mk hst
   clear hst
   have HMA := Sd.mk (eO gT bG l k i hlt)
   obtain ⟨g, cap, cur, ce, Fi, hv, hcap, hat, hM, hg, hFi, hFg, close⟩ := iH HR.out 12 l.length rfl (fC (aM _ _ _ _) kO) i l[i] (gB (aM _ _ _ _) hlt)
   cases hv
   obtain ⟨v2, P2, v6, P6, v7, P7, rfl, hR2, hR6, hR7, i2, i6, i7, d2_6, d2_7, d6_7⟩ := ki_Entity_M hM
   obtain ⟨B2, b2, rfl⟩ := bK hR2
   have HR2 := Sd.mk hR2
   have I2 := Sd.mk i2
   have N2 : ¬ P2 g := fun q => hFg (i2 g q)
   clear hR2 i2
   have nn2 := bN aU fM l[i].fF
   obtain ⟨B6, b6, rfl⟩ := bK hR6
   have HR6 := Sd.mk hR6
   have I6 := Sd.mk i6
   have N6 : ¬ P6 g := fun q => hFg (i6 g q)
   clear hR6 i6
   have nn6 := bN bC gF l[i].Queue
   obtain ⟨B7, b7, rfl⟩ := bK hR7
   have HR7 := Sd.mk hR7
   have I7 := Sd.mk i7
   have N7 : ¬ P7 g := fun q => hFg (i7 g q)
   clear hR7 i7
   have nn7 := bN bM iJ l[i].eF
   have D2_6 := Sd.mk d2_6
   clear d2_6
   have D2_7 := Sd.mk d2_7
   clear d2_7
   have D6_7 := Sd.mk d6_7
   clear d6_7
   have HCN : Sd (bG l[i] = bG l[i]) := ⟨rfl⟩
   simp only [bG] at hle2
   generalize hq : k + aK bG (l.take i) = q at *
   have HQ := Sd.mk hq
   have hq0 : 0 ≤ q := by omega
   have hqb : q + ((((((((((((0 + 1) + 1) + aK aU l[i].fF) + 1) + 1) + 1) + aK bC l[i].Queue) + aK bM l[i].eF) + 1) + 1) + 1) + 1) ≤ 4611686018427387904 := by omega
   clear hq hle hle2 hb
   generalize hcn2 : aK aU l[i].fF = cn2 at *
   have HC2 := Sd.mk hcn2
   clear hcn2
   generalize hcn6 : aK bC l[i].Queue = cn6 at *
   have HC6 := Sd.mk hcn6
   clear hcn6
   generalize hcn7 : aK bM l[i].eF = cn7 at *
   have HC7 := Sd.mk hcn7
   clear hcn7
   have HAT := Sd.mk hat
   have x0_s := hat.cell0 _ rfl
   have x1_s := hat.cell 1 _ rfl
   have x2_s := hat.cell 2 _ rfl
   have x3_s := hat.cell 3 _ rfl
   have x4_s := hat.cell 4 _ rfl
   have x5_s := hat.cell 5 _ rfl
   have x6_s := hat.cell 6 _ rfl
   have x7_s := hat.cell 7 _ rfl
   have x8_s := hat.cell 8 _ rfl
   have x9_s := hat.cell 9 _ rfl
   have x10_s := hat.cell 10 _ rfl
   have x11_s := hat.cell 11 _ rfl
   have f0_s := hat.free (i * 12)
   have f1_s := hat.free (i * 12 + 1)
   have f2_s := hat.free (i * 12 + 2)
   have f3_s := hat.free (i * 12 + 3)
   have f4_s := hat.free (i * 12 + 4)
   have f5_s := hat.free (i * 12 + 5)
   have f6_s := hat.free (i * 12 + 6)
   have f7_s := hat.free (i * 12 + 7)
   have f8_s := hat.free (i * 12 + 8)
   have f9_s := hat.free (i * 12 + 9)
   have f10_s := hat.free (i * 12 + 10)
   have f11_s := hat.free (i * 12 + 11)
   have CL := Sd.mk close
   clear hat close hM HR
   go_wp2_with fail
   with_reducible refine (markS_Value l[i].fF _ P2 _ _ ?hr_Slots kO (by rw [HC2.out]; omega)).mono ?_
   case hr_Slots => exact (bH (G := fun b => b = g) kC (fun b hb hg' => N2 (hg' ▸ hb)) HR2.out)
   rintro e w_Slots ⟨rfl, hR2, hu⟩
   rw [HC2.out]
   replace HR6 := Sd.mk (bH hu (fun b hb hg' => D2_6.out b hg' hb) (bH (G := fun b => b = g) kC (fun b hb hg' => N6 (hg' ▸ hb)) HR6.out))
   replace HR7 := Sd.mk (bH hu (fun b hb hg' => D2_7.out b hg' hb) (bH (G := fun b => b = g) kC (fun b hb hg' => N7 (hg' ▸ hb)) HR7.out))
   replace HR2 := Sd.mk hR2
   replace HAT := Sd.mk (((HAT.out.set0 kD (.int .i64 (q))).set 1 kD (.int .i64 ((q + 1)))).call hu I2.out hFg)
   clear hR2
   clear hu x0_s f0_s x1_s f1_s x2_s f2_s x3_s f3_s x4_s f4_s x5_s f5_s x6_s f6_s x7_s f7_s x8_s f8_s x9_s f9_s x10_s f10_s x11_s f11_s
   have x0_Slots := HAT.out.cell0 _ rfl
   have x1_Slots := HAT.out.cell 1 _ rfl
   have x2_Slots := HAT.out.cell 2 _ rfl
   have x3_Slots := HAT.out.cell 3 _ rfl
   have x4_Slots := HAT.out.cell 4 _ rfl
   have x5_Slots := HAT.out.cell 5 _ rfl
   have x6_Slots := HAT.out.cell 6 _ rfl
   have x7_Slots := HAT.out.cell 7 _ rfl
   have x8_Slots := HAT.out.cell 8 _ rfl
   have x9_Slots := HAT.out.cell 9 _ rfl
   have x10_Slots := HAT.out.cell 10 _ rfl
   have x11_Slots := HAT.out.cell 11 _ rfl
   have f0_Slots := HAT.out.free (i * 12)
   have f1_Slots := HAT.out.free (i * 12 + 1)
   have f2_Slots := HAT.out.free (i * 12 + 2)
   have f3_Slots := HAT.out.free (i * 12 + 3)
   have f4_Slots := HAT.out.free (i * 12 + 4)
   have f5_Slots := HAT.out.free (i * 12 + 5)
   have f6_Slots := HAT.out.free (i * 12 + 6)
   have f7_Slots := HAT.out.free (i * 12 + 7)
   have f8_Slots := HAT.out.free (i * 12 + 8)
   have f9_Slots := HAT.out.free (i * 12 + 9)
   have f10_Slots := HAT.out.free (i * 12 + 10)
   have f11_Slots := HAT.out.free (i * 12 + 11)
   go_wp2_with fail
   with_reducible refine (markS_Sent l[i].Queue _ P6 _ _ ?hr_Queue kO (by rw [HC6.out]; omega)).mono ?_
   case hr_Queue => exact (bH (G := fun b => b = g) kC (fun b hb hg' => N6 (hg' ▸ hb)) HR6.out)
   rintro e w_Queue ⟨rfl, hR6, hu⟩
   rw [HC6.out]
   replace HR2 := Sd.mk (bH hu (fun b hb hg' => D2_6.out b hb hg') (bH (G := fun b => b = g) kC (fun b hb hg' => N2 (hg' ▸ hb)) HR2.out))
   replace HR7 := Sd.mk (bH hu (fun b hb hg' => D6_7.out b hg' hb) (bH (G := fun b => b = g) kC (fun b hb hg' => N7 (hg' ▸ hb)) HR7.out))
   replace HR6 := Sd.mk hR6
   replace HAT := Sd.mk ((((HAT.out.set 3 kD (.int .i64 ((((q + 1) + 1) + cn2)))).set 4 kD (.int .i64 (((((q + 1) + 1) + cn2) + 1)))).set 5 kD (.int .i64 ((((((q + 1) + 1) + cn2) + 1) + 1)))).call hu I6.out hFg)
   clear hR6
   clear hu x0_Slots f0_Slots x1_Slots f1_Slots x2_Slots f2_Slots x3_Slots f3_Slots x4_Slots f4_Slots x5_Slots f5_Slots x6_Slots f6_Slots x7_Slots f7_Slots x8_Slots f8_Slots x9_Slots f9_Slots x10_Slots f10_Slots x11_Slots f11_Slots
   have x0_Queue := HAT.out.cell0 _ rfl
   have x1_Queue := HAT.out.cell 1 _ rfl
   have x2_Queue := HAT.out.cell 2 _ rfl
   have x3_Queue := HAT.out.cell 3 _ rfl
   have x4_Queue := HAT.out.cell 4 _ rfl
   have x5_Queue := HAT.out.cell 5 _ rfl
   have x6_Queue := HAT.out.cell 6 _ rfl
   have x7_Queue := HAT.out.cell 7 _ rfl
   have x8_Queue := HAT.out.cell 8 _ rfl
   have x9_Queue := HAT.out.cell 9 _ rfl
   have x10_Queue := HAT.out.cell 10 _ rfl
   have x11_Queue := HAT.out.cell 11 _ rfl
   have f0_Queue := HAT.out.free (i * 12)
   have f1_Queue := HAT.out.free (i * 12 + 1)
   have f2_Queue := HAT.out.free (i * 12 + 2)
   have f3_Queue := HAT.out.free (i * 12 + 3)
   have f4_Queue := HAT.out.free (i * 12 + 4)
   have f5_Queue := HAT.out.free (i * 12 + 5)
   have f6_Queue := HAT.out.free (i * 12 + 6)
   have f7_Queue := HAT.out.free (i * 12 + 7)
   have f8_Queue := HAT.out.free (i * 12 + 8)
   have f9_Queue := HAT.out.free (i * 12 + 9)
   have f10_Queue := HAT.out.free (i * 12 + 10)
   have f11_Queue := HAT.out.free (i * 12 + 11)
   go_wp2_with fail
   with_reducible refine (markS_Asker l[i].eF _ P7 _ _ ?hr_Askers kO (by rw [HC7.out]; omega)).mono ?_
   case hr_Askers => exact (bH (G := fun b => b = g) kC (fun b hb hg' => N7 (hg' ▸ hb)) HR7.out)
   rintro e w_Askers ⟨rfl, hR7, hu⟩
   rw [HC7.out]
   replace HR2 := Sd.mk (bH hu (fun b hb hg' => D2_7.out b hb hg') (bH (G := fun b => b = g) kC (fun b hb hg' => N2 (hg' ▸ hb)) HR2.out))
   replace HR6 := Sd.mk (bH hu (fun b hb hg' => D6_7.out b hb hg') (bH (G := fun b => b = g) kC (fun b hb hg' => N6 (hg' ▸ hb)) HR6.out))
   replace HR7 := Sd.mk hR7
   replace HAT := Sd.mk (HAT.out.call hu I7.out hFg)
   clear hR7
   clear hu x0_Queue f0_Queue x1_Queue f1_Queue x2_Queue f2_Queue x3_Queue f3_Queue x4_Queue f4_Queue x5_Queue f5_Queue x6_Queue f6_Queue x7_Queue f7_Queue x8_Queue f8_Queue x9_Queue f9_Queue x10_Queue f10_Queue x11_Queue f11_Queue
   have x0_Askers := HAT.out.cell0 _ rfl
   have x1_Askers := HAT.out.cell 1 _ rfl
   have x2_Askers := HAT.out.cell 2 _ rfl
   have x3_Askers := HAT.out.cell 3 _ rfl
   have x4_Askers := HAT.out.cell 4 _ rfl
   have x5_Askers := HAT.out.cell 5 _ rfl
   have x6_Askers := HAT.out.cell 6 _ rfl
   have x7_Askers := HAT.out.cell 7 _ rfl
   have x8_Askers := HAT.out.cell 8 _ rfl
   have x9_Askers := HAT.out.cell 9 _ rfl
   have x10_Askers := HAT.out.cell 10 _ rfl
   have x11_Askers := HAT.out.cell 11 _ rfl
   have f0_Askers := HAT.out.free (i * 12)
   have f1_Askers := HAT.out.free (i * 12 + 1)
   have f2_Askers := HAT.out.free (i * 12 + 2)
   have f3_Askers := HAT.out.free (i * 12 + 3)
   have f4_Askers := HAT.out.free (i * 12 + 4)
   have f5_Askers := HAT.out.free (i * 12 + 5)
   have f6_Askers := HAT.out.free (i * 12 + 6)
   have f7_Askers := HAT.out.free (i * 12 + 7)
   have f8_Askers := HAT.out.free (i * 12 + 8)
   have f9_Askers := HAT.out.free (i * 12 + 9)
   have f10_Askers := HAT.out.free (i * 12 + 10)
   have f11_Askers := HAT.out.free (i * 12 + 11)
   go_wp2
   have HA := ((((HAT.out.set 8 kD (.int .i64 (((((((((q + 1) + 1) + cn2) + 1) + 1) + 1) + cn6) + cn7)))).set 9 kD (.int .i64 ((((((((((q + 1) + 1) + cn2) + 1) + 1) + 1) + cn6) + cn7) + 1)))).set 10 kD (.int .i64 (((((((((((q + 1) + 1) + cn2) + 1) + 1) + 1) + cn6) + cn7) + 1) + 1)))).set 11 kD (.int .i64 ((((((((((((q + 1) + 1) + cn2) + 1) + 1) + 1) + cn6) + cn7) + 1) + 1) + 1))))
   have hy : (⟨q, (q + 1), mkS fZ aU ((q + 1) + 1) l[i].fF, (((q + 1) + 1) + cn2), ⟨((((q + 1) + 1) + cn2) + 1), (((((q + 1) + 1) + cn2) + 1) + 1)⟩, mkS iB bC ((((((q + 1) + 1) + cn2) + 1) + 1) + 1) l[i].Queue, mkS iO bM (((((((q + 1) + 1) + cn2) + 1) + 1) + 1) + cn6) l[i].eF, ((((((((q + 1) + 1) + cn2) + 1) + 1) + 1) + cn6) + cn7), (((((((((q + 1) + 1) + cn2) + 1) + 1) + 1) + cn6) + cn7) + 1), ((((((((((q + 1) + 1) + cn2) + 1) + 1) + 1) + cn6) + cn7) + 1) + 1), (((((((((((q + 1) + 1) + cn2) + 1) + 1) + 1) + cn6) + cn7) + 1) + 1) + 1)⟩ : GEntity) = (mkS gT bG k l)[i]'(by rw [aM]; exact hlt) := by rw [HMA.out]; simp only [gT, HC2.out, HC6.out, HC7.out]
   have HRowB := CL.out _ _ (⟨q, (q + 1), mkS fZ aU ((q + 1) + 1) l[i].fF, (((q + 1) + 1) + cn2), ⟨((((q + 1) + 1) + cn2) + 1), (((((q + 1) + 1) + cn2) + 1) + 1)⟩, mkS iB bC ((((((q + 1) + 1) + cn2) + 1) + 1) + 1) l[i].Queue, mkS iO bM (((((((q + 1) + 1) + cn2) + 1) + 1) + 1) + cn6) l[i].eF, ((((((((q + 1) + 1) + cn2) + 1) + 1) + 1) + cn6) + cn7), (((((((((q + 1) + 1) + cn2) + 1) + 1) + 1) + cn6) + cn7) + 1), ((((((((((q + 1) + 1) + cn2) + 1) + 1) + 1) + cn6) + cn7) + 1) + 1), (((((((((((q + 1) + 1) + cn2) + 1) + 1) + 1) + cn6) + cn7) + 1) + 1) + 1)⟩ : GEntity) Fi F HA (ki_Entity_mk _ Fi (⟨q, (q + 1), mkS fZ aU ((q + 1) + 1) l[i].fF, (((q + 1) + 1) + cn2), ⟨((((q + 1) + 1) + cn2) + 1), (((((q + 1) + 1) + cn2) + 1) + 1)⟩, mkS iB bC ((((((q + 1) + 1) + cn2) + 1) + 1) + 1) l[i].Queue, mkS iO bM (((((((q + 1) + 1) + cn2) + 1) + 1) + 1) + cn6) l[i].eF, ((((((((q + 1) + 1) + cn2) + 1) + 1) + 1) + cn6) + cn7), (((((((((q + 1) + 1) + cn2) + 1) + 1) + 1) + cn6) + cn7) + 1), ((((((((((q + 1) + 1) + cn2) + 1) + 1) + 1) + cn6) + cn7) + 1) + 1), (((((((((((q + 1) + 1) + cn2) + 1) + 1) + 1) + cn6) + cn7) + 1) + 1) + 1)⟩ : GEntity) (bH (G := fun b => b = g) kC (fun b hb hg' => N2 (hg' ▸ hb)) HR2.out) (bH (G := fun b => b = g) kC (fun b hb hg' => N6 (hg' ▸ hb)) HR6.out) (bH (G := fun b => b = g) kC (fun b hb hg' => N7 (hg' ▸ hb)) HR7.out) I2.out I6.out I7.out D2_6.out D2_7.out D6_7.out) (fun _ hb => .inl hb) (fun _ hb => hb) hFi
   rw [hy, fD (aM _ _ _ _) hlt] at HRowB
   go_roundg (gk - 1)
   case measure => omega
   case rel => exact ⟨i + 1, by omega, by rw [HST.out]; simp only [bG]; have := HQ.out; have := HC2.out; have := HC6.out; have := HC7.out; exact congrArg (Value.int .i64) kO, by go_num, ⟨HRowB⟩, ⟨HU.out.trans HA.upd (fun _ _ hb => hb) (fun b _ hb => by rcases hb with rfl | hb; exact hg; exact hFi b hb)⟩⟩
  ·go_wp2
   go_ret
   have HRowB := HR.out
   rw [fB (aM _ _ _ _) kO] at HRowB
   have e : l.take i = l := List.take_of_length_le kO
   exact ⟨dL (by rw [e]), HRowB, HU.out⟩
theorem heldS_Entity (l : List GEntity) (k : Int) (A : Option Addr) (c : Nat) (w : World) (h : C aS w A (mkS gT bG k l)) (hk : 0 ≤ k) (hb : k + aK bG l ≤ 4611686018427387904) : Calls Tryz.prog 111 #[.slice A l.length c, .int .i64 k] w (gN (k + aK bG l) w) := by
 have hn := h.1
 rw [aM] at hn
 have H := Sd.mk h
 clear h
 go_enter Tryz.func111, Tryz.ntmps111
 go_wp2
 go_loopg [1, 5] l.length (fun r u v wr => ∃ i : Nat, i + r = l.length ∧ u = .int .i64 (k + aK bG (l.take i)) ∧ v = .int .i64 i ∧ Sd (Upd No w wr))
 case atStart => exact ⟨0, by omega, by simp [aK], rfl, ⟨Upd.refl _ _⟩⟩
 case round =>
  obtain ⟨i, hi, rfl, rfl, HU⟩ := hrel
  by_cases hlt : i < l.length
  ·have hle := bL bG gZ l i
   have hst := cB bG l i hlt
   have hle2 := bL bG gZ l (i + 1)
   rw [hst] at hle2
   have HST := Sd.mk hst
   clear hst
   obtain ⟨ad, A2, c2, A6, c6, A7, c7, rfl, a0, a1, a2, a3, a4, a5, a6, a7, a8, a9, a10, a11, hl2, hC2, hl6, hC6, hl7, hC7⟩ := ki_Entity_at (aO HU.out H.out) i (by rw [aM]; exact hlt)
   rw [eO gT bG l k i hlt] at a0 a1 a2 a3 a4 a5 a6 a7 a8 a9 a10 a11 hl2 hC2 hl6 hC6 hl7 hC7
   simp only [gT, aM] at a0 a1 a2 a3 a4 a5 a6 a7 a8 a9 a10 a11 hl2 hC2 hl6 hC6 hl7 hC7
   have nn2 := bN aU fM l[i].fF
   have nn6 := bN bC gF l[i].Queue
   have nn7 := bN bM iJ l[i].eF
   simp only [bG] at hle2
   generalize hq : k + aK bG (l.take i) = q at *
   have HQ := Sd.mk hq
   have hq0 : 0 ≤ q := by omega
   have hqb : q + ((((((((((((0 + 1) + 1) + aK aU l[i].fF) + 1) + 1) + 1) + aK bC l[i].Queue) + aK bM l[i].eF) + 1) + 1) + 1) + 1) ≤ 4611686018427387904 := by omega
   clear hq hle hle2 hb
   generalize hcn2 : aK aU l[i].fF = cn2 at *
   have HN2 := Sd.mk hcn2
   clear hcn2
   have HC2 := Sd.mk hC2
   clear hC2
   generalize hcn6 : aK bC l[i].Queue = cn6 at *
   have HN6 := Sd.mk hcn6
   clear hcn6
   have HC6 := Sd.mk hC6
   clear hC6
   generalize hcn7 : aK bM l[i].eF = cn7 at *
   have HN7 := Sd.mk hcn7
   clear hcn7
   have HC7 := Sd.mk hC7
   clear hC7
   have HX := Sd.mk (Upd.refl No wr)
   go_wp2_with fail
   with_reducible refine (heldS_Value l[i].fF _ _ _ _ ?hc_Slots kO (by rw [HN2.out]; omega)).mono ?_
   case hc_Slots => exact HC2.out
   rintro e w_Slots ⟨rfl, hu⟩
   rw [HN2.out]
   replace a0 := hu.read a0
   replace a1 := hu.read a1
   replace a2 := hu.read a2
   replace a3 := hu.read a3
   replace a4 := hu.read a4
   replace a5 := hu.read a5
   replace a6 := hu.read a6
   replace a7 := hu.read a7
   replace a8 := hu.read a8
   replace a9 := hu.read a9
   replace a10 := hu.read a10
   replace a11 := hu.read a11
   replace HC2 := Sd.mk (aO hu HC2.out)
   replace HC6 := Sd.mk (aO hu HC6.out)
   replace HC7 := Sd.mk (aO hu HC7.out)
   replace HX := Sd.mk (HX.out.then hu)
   clear hu
   go_wp2_with fail
   with_reducible refine (heldS_Sent l[i].Queue _ _ _ _ ?hc_Queue kO (by rw [HN6.out]; omega)).mono ?_
   case hc_Queue => exact HC6.out
   rintro e w_Queue ⟨rfl, hu⟩
   rw [HN6.out]
   replace a0 := hu.read a0
   replace a1 := hu.read a1
   replace a2 := hu.read a2
   replace a3 := hu.read a3
   replace a4 := hu.read a4
   replace a5 := hu.read a5
   replace a6 := hu.read a6
   replace a7 := hu.read a7
   replace a8 := hu.read a8
   replace a9 := hu.read a9
   replace a10 := hu.read a10
   replace a11 := hu.read a11
   replace HC2 := Sd.mk (aO hu HC2.out)
   replace HC6 := Sd.mk (aO hu HC6.out)
   replace HC7 := Sd.mk (aO hu HC7.out)
   replace HX := Sd.mk (HX.out.then hu)
   clear hu
   go_wp2_with fail
   with_reducible refine (heldS_Asker l[i].eF _ _ _ _ ?hc_Askers kO (by rw [HN7.out]; omega)).mono ?_
   case hc_Askers => exact HC7.out
   rintro e w_Askers ⟨rfl, hu⟩
   rw [HN7.out]
   replace a0 := hu.read a0
   replace a1 := hu.read a1
   replace a2 := hu.read a2
   replace a3 := hu.read a3
   replace a4 := hu.read a4
   replace a5 := hu.read a5
   replace a6 := hu.read a6
   replace a7 := hu.read a7
   replace a8 := hu.read a8
   replace a9 := hu.read a9
   replace a10 := hu.read a10
   replace a11 := hu.read a11
   replace HC2 := Sd.mk (aO hu HC2.out)
   replace HC6 := Sd.mk (aO hu HC6.out)
   replace HC7 := Sd.mk (aO hu HC7.out)
   replace HX := Sd.mk (HX.out.then hu)
   clear hu
   go_wp2
   go_roundg (gk - 1)
   case measure => omega
   case rel => exact ⟨i + 1, by omega, by rw [HST.out]; simp only [bG]; have := HQ.out; have := HN2.out; have := HN6.out; have := HN7.out; exact congrArg (Value.int .i64) kO, by go_num, ⟨HU.out.then HX.out⟩⟩
  ·go_wp2
   go_ret
   have e : l.take i = l := List.take_of_length_le kO
   exact ⟨dL (by rw [e]), HU.out⟩
theorem ki_Question_Kmk (w : World) (x : GQuestion) : aJ.K w x [.int .i64 x.Id, .int .i64 x.Promise] := ⟨[_], [_], rfl, rfl, rfl⟩
theorem eq_Question (x : GQuestion) (cs cs' : List Value) (w : World) (h : aJ.K w x cs) (h' : aJ.K w x cs') : Calls Tryz.prog 232 #[.agg cs.toArray, .agg cs'.toArray] w (dD true w) := by
 obtain rfl := jT h
 obtain rfl := jT h'
 go_enter Tryz.func232, Tryz.ntmps232
 go_wp2
 go_ret
 exact ⟨rfl, kA⟩
theorem eqS_Question (l : List GQuestion) (A A' : Option Addr) (c c' : Nat) (w : World) (h : C aJ w A l) (h' : C aJ w A' l) : Calls Tryz.prog 216 #[.slice A l.length c, .slice A' l.length c'] w (dD true w) := by
 have hn := h.1
 have H := Sd.mk h
 have H' := Sd.mk h'
 clear h h'
 go_enter Tryz.func216, Tryz.ntmps216
 go_wp2
 go_loopg [5] l.length (fun k v wr => ∃ i : Nat, i + k = l.length ∧ v = .int .i64 i ∧ Sd (Upd No w wr))
 case atStart => exact ⟨0, by omega, rfl, ⟨Upd.refl _ _⟩⟩
 case round =>
  obtain ⟨i, hi, rfl, HU⟩ := hrel
  by_cases hlt : i < l.length
  ·obtain ⟨ad, rfl, a0, a1⟩ := kT (aO HU.out H.out) i hlt
   obtain ⟨ad', rfl, z0, z1⟩ := kT (aO HU.out H'.out) i hlt
   go_wp2_with fail
   go_still_tail 8, kR
   change wpList _ _ _ _ _ wr.drew
   have HW : Sd (Upd No wr wr.drew) := ⟨(Upd.refl _ _).drew⟩
   have HU2 : Sd (Upd No w wr.drew) := ⟨HU.out.drew⟩
   generalize wr.drew = w2 at *
   go_wp2_with (go_at_call 232; (with_reducible refine (eq_Question l[i] _ _ _ (ki_Question_Kmk _ _) (ki_Question_Kmk _ _)).mono ?_); rintro e w' ⟨rfl, hu⟩)
   have HU3 := Sd.mk (HU2.out.then hu)
   clear HU2 hu
   go_wp2
   go_roundg (gk - 1)
   case measure => omega
   case rel => exact ⟨i + 1, by omega, by go_num, HU3⟩
  ·go_wp2
   go_ret
   exact ⟨rfl, HU.out⟩
theorem markS_Question (l : List GQuestion) (k : Int) (F : Nat → Prop) (v : Value) (w : World) (h : R aJ 289 w F v l) (hk : 0 ≤ k) (hb : k + aK aQ l ≤ 4611686018427387904) : Calls Tryz.prog 175 #[v, .int .i64 k] w (Marks aJ 289 F v (k + aK aQ l) (mkS dV aQ k l) w) := by
 obtain ⟨A, c, rfl⟩ := bK h
 have hn := R_len h
 have H := Sd.mk h
 clear h
 go_enter Tryz.func175, Tryz.ntmps175
 go_wp2
 go_loopg [1, 5] l.length (fun r u v wr => ∃ i : Nat, i + r = l.length ∧ u = .int .i64 (k + aK aQ (l.take i)) ∧ v = .int .i64 i ∧ Sd (R aJ 289 wr F (.slice A l.length c) (upTo (mkS dV aQ k l) l i)) ∧ Sd (Upd F w wr))
 case atStart => exact ⟨0, by omega, by simp [aK], rfl, ⟨by rw [eD]; exact H.out⟩, ⟨Upd.refl _ _⟩⟩
 case round =>
  obtain ⟨i, hi, rfl, rfl, HR, HU⟩ := hrel
  by_cases hlt : i < l.length
  ·have hle := bL aQ eB l i
   have hst := cB aQ l i hlt
   have hle2 := bL aQ eB l (i + 1)
   rw [hst] at hle2
   have HST := Sd.mk hst
   clear hst
   have HMA := Sd.mk (eO dV aQ l k i hlt)
   obtain ⟨g, cap, cur, ce, Fi, hv, hcap, hat, hM, hg, hFi, hFg, close⟩ := iH HR.out 2 l.length rfl (fC (aM _ _ _ _) kO) i l[i] (gB (aM _ _ _ _) hlt)
   cases hv
   obtain rfl := ki_Question_M hM
   have HCN : Sd (aQ l[i] = aQ l[i]) := ⟨rfl⟩
   simp only [aQ] at hle2
   generalize hq : k + aK aQ (l.take i) = q at *
   have HQ := Sd.mk hq
   have hq0 : 0 ≤ q := by omega
   have hqb : q + ((0 + 1) + 1) ≤ 4611686018427387904 := by omega
   clear hq hle hle2 hb
   have HAT := Sd.mk hat
   have x0_s := hat.cell0 _ rfl
   have x1_s := hat.cell 1 _ rfl
   have f0_s := hat.free (i * 2)
   have f1_s := hat.free (i * 2 + 1)
   have CL := Sd.mk close
   clear hat close hM HR
   go_wp2
   have HA := ((HAT.out.set0 kD (.int .i64 (q))).set 1 kD (.int .i64 ((q + 1))))
   have hy : (⟨q, (q + 1)⟩ : GQuestion) = (mkS dV aQ k l)[i]'(by rw [aM]; exact hlt) := by rw [HMA.out]; simp only [dV]
   have HRowB := CL.out _ _ (⟨q, (q + 1)⟩ : GQuestion) Fi F HA (ki_Question_mk _ Fi (⟨q, (q + 1)⟩ : GQuestion)) (fun _ hb => .inl hb) (fun _ hb => hb) hFi
   rw [hy, fD (aM _ _ _ _) hlt] at HRowB
   go_roundg (gk - 1)
   case measure => omega
   case rel => exact ⟨i + 1, by omega, by rw [HST.out]; simp only [aQ]; have := HQ.out; exact congrArg (Value.int .i64) kO, by go_num, ⟨HRowB⟩, ⟨HU.out.trans HA.upd (fun _ _ hb => hb) (fun b _ hb => by rcases hb with rfl | hb; exact hg; exact hFi b hb)⟩⟩
  ·go_wp2
   go_ret
   have HRowB := HR.out
   rw [fB (aM _ _ _ _) kO] at HRowB
   have e : l.take i = l := List.take_of_length_le kO
   exact ⟨dL (by rw [e]), HRowB, HU.out⟩
theorem heldS_Question (l : List GQuestion) (k : Int) (A : Option Addr) (c : Nat) (w : World) (h : C aJ w A (mkS dV aQ k l)) (hk : 0 ≤ k) (hb : k + aK aQ l ≤ 4611686018427387904) : Calls Tryz.prog 179 #[.slice A l.length c, .int .i64 k] w (gN (k + aK aQ l) w) := by
 have hn := h.1
 rw [aM] at hn
 have H := Sd.mk h
 clear h
 go_enter Tryz.func179, Tryz.ntmps179
 go_wp2
 go_loopg [1, 5] l.length (fun r u v wr => ∃ i : Nat, i + r = l.length ∧ u = .int .i64 (k + aK aQ (l.take i)) ∧ v = .int .i64 i ∧ Sd (Upd No w wr))
 case atStart => exact ⟨0, by omega, by simp [aK], rfl, ⟨Upd.refl _ _⟩⟩
 case round =>
  obtain ⟨i, hi, rfl, rfl, HU⟩ := hrel
  by_cases hlt : i < l.length
  ·have hle := bL aQ eB l i
   have hst := cB aQ l i hlt
   have hle2 := bL aQ eB l (i + 1)
   rw [hst] at hle2
   have HST := Sd.mk hst
   clear hst
   obtain ⟨ad, rfl, a0, a1⟩ := kT (aO HU.out H.out) i (by rw [aM]; exact hlt)
   rw [eO dV aQ l k i hlt] at a0 a1
   simp only [dV] at a0 a1
   simp only [aQ] at hle2
   generalize hq : k + aK aQ (l.take i) = q at *
   have HQ := Sd.mk hq
   have hq0 : 0 ≤ q := by omega
   have hqb : q + ((0 + 1) + 1) ≤ 4611686018427387904 := by omega
   clear hq hle hle2 hb
   have HX := Sd.mk (Upd.refl No wr)
   go_wp2
   go_roundg (gk - 1)
   case measure => omega
   case rel => exact ⟨i + 1, by omega, by rw [HST.out]; simp only [aQ]; have := HQ.out; exact congrArg (Value.int .i64) kO, by go_num, ⟨HU.out.then HX.out⟩⟩
  ·go_wp2
   go_ret
   have e : l.take i = l := List.take_of_length_le kO
   exact ⟨dL (by rw [e]), HU.out⟩
theorem ki_Link_Kmk (w : World) (x : GLink) {A2 : Option Addr} {c2 : Nat} (hl2 : x.aC.length ≤ c2) (hC2 : C aL w A2 x.aC) {A4 : Option Addr} {c4 : Nat} (hl4 : x.aD.length ≤ c4) (hC4 : C aJ w A4 x.aD) {A6 : Option Addr} {c6 : Nat} (hl6 : x.aN.length ≤ c6) (hC6 : C aJ w A6 x.aN) : bB.K w x [.int .i64 x.dW, .bool x.Up, .slice A2 x.aC.length c2, .int .i64 x.Next, .slice A4 x.aD.length c4, .int .i64 x.dN, .slice A6 x.aN.length c6] := ⟨[_], [_, _, _, _, _, _], rfl, rfl, ⟨[_], [_, _, _, _, _], rfl, rfl, ⟨[_], [_, _, _, _], rfl, ⟨A2, c2, rfl, hl2, hC2⟩, ⟨[_], [_, _, _], rfl, rfl, ⟨[_], [_, _], rfl, ⟨A4, c4, rfl, hl4, hC4⟩, ⟨[_], [_], rfl, rfl, ⟨A6, c6, rfl, hl6, hC6⟩⟩⟩⟩⟩⟩⟩
theorem eq_Link (x : GLink) (cs cs' : List Value) (w : World) (h : bB.K w x cs) (h' : bB.K w x cs') : Calls Tryz.prog 171 #[.agg cs.toArray, .agg cs'.toArray] w (dD true w) := by
 obtain ⟨A2, c2, A4, c4, A6, c6, rfl, hl2, hC2, hl4, hC4, hl6, hC6⟩ := ki_Link_K h
 have HC2 := Sd.mk hC2
 have HC4 := Sd.mk hC4
 have HC6 := Sd.mk hC6
 clear hC2 hC4 hC6
 obtain ⟨B2, b2, B4, b4, B6, b6, rfl, hm2, hD2, hm4, hD4, hm6, hD6⟩ := ki_Link_K h'
 have HD2 := Sd.mk hD2
 have HD4 := Sd.mk hD4
 have HD6 := Sd.mk hD6
 clear hD2 hD4 hD6
 go_enter Tryz.func171, Tryz.ntmps171
 go_wp2_with fail
 with_reducible refine (eqS_Export x.aC _ _ _ _ _ ?hc_Exports ?hd_Exports).mono ?_
 case hc_Exports => exact aO kA HC2.out
 case hd_Exports => exact aO kA HD2.out
 rintro e w_Exports ⟨rfl, hu⟩
 have HB_Exports : Sd (Upd No w w_Exports) := Sd.mk (Upd.then kA hu)
 have cc0_Exports := fun o => hu.bJ (b := w.heap.size) kB (fun q => q) o
 have cc1_Exports := fun o => hu.bJ (b := w.heap.size + 1) kB (fun q => q) o
 have hz_Exports : w.heap.size + 1 + 1 ≤ w_Exports.heap.size := by have := hu.size; (try simp at this); omega
 clear hu
 go_wp2_with fail
 with_reducible refine (eqS_Question x.aD _ _ _ _ _ ?hc_Questions ?hd_Questions).mono ?_
 case hc_Questions => exact aO (by repeat (with_reducible first | exact HB_Exports.out | apply Upd.bZ | apply Upd.bY | apply Upd.bW | apply Upd.alloc | apply Upd.drewN | apply Upd.drew)) HC4.out
 case hd_Questions => exact aO (by repeat (with_reducible first | exact HB_Exports.out | apply Upd.bZ | apply Upd.bY | apply Upd.bW | apply Upd.alloc | apply Upd.drewN | apply Upd.drew)) HD4.out
 rintro e w_Questions ⟨rfl, hu⟩
 have HB_Questions : Sd (Upd No w w_Questions) := Sd.mk (Upd.then (by repeat (with_reducible first | exact HB_Exports.out | apply Upd.bZ | apply Upd.bY | apply Upd.bW | apply Upd.alloc | apply Upd.drewN | apply Upd.drew)) hu)
 have cc0_Questions := fun o => hu.bJ (b := w.heap.size) kB (fun q => q) o
 have cc1_Questions := fun o => hu.bJ (b := w.heap.size + 1) kB (fun q => q) o
 have hz_Questions : w.heap.size + 1 + 1 ≤ w_Questions.heap.size := by have := hu.size; (try simp at this); omega
 clear hu
 go_wp2_with fail
 with_reducible refine (eqS_Question x.aN _ _ _ _ _ ?hc_Answers ?hd_Answers).mono ?_
 case hc_Answers => exact aO (by repeat (with_reducible first | exact HB_Questions.out | apply Upd.bZ | apply Upd.bY | apply Upd.bW | apply Upd.alloc | apply Upd.drewN | apply Upd.drew)) HC6.out
 case hd_Answers => exact aO (by repeat (with_reducible first | exact HB_Questions.out | apply Upd.bZ | apply Upd.bY | apply Upd.bW | apply Upd.alloc | apply Upd.drewN | apply Upd.drew)) HD6.out
 rintro e w_Answers ⟨rfl, hu⟩
 have HB_Answers : Sd (Upd No w w_Answers) := Sd.mk (Upd.then (by repeat (with_reducible first | exact HB_Questions.out | apply Upd.bZ | apply Upd.bY | apply Upd.bW | apply Upd.alloc | apply Upd.drewN | apply Upd.drew)) hu)
 have cc0_Answers := fun o => hu.bJ (b := w.heap.size) kB (fun q => q) o
 have cc1_Answers := fun o => hu.bJ (b := w.heap.size + 1) kB (fun q => q) o
 have hz_Answers : w.heap.size + 1 + 1 ≤ w_Answers.heap.size := by have := hu.size; (try simp at this); omega
 clear hu
 go_wp2
 go_ret
 exact ⟨rfl, (by repeat (with_reducible first | exact HB_Answers.out | apply Upd.bZ | apply Upd.bY | apply Upd.bW | apply Upd.alloc | apply Upd.drewN | apply Upd.drew))⟩
theorem eqS_Link (l : List GLink) (A A' : Option Addr) (c c' : Nat) (w : World) (h : C bB w A l) (h' : C bB w A' l) : Calls Tryz.prog 104 #[.slice A l.length c, .slice A' l.length c'] w (dD true w) := by
 have hn := h.1
 have H := Sd.mk h
 have H' := Sd.mk h'
 clear h h'
 go_enter Tryz.func104, Tryz.ntmps104
 go_wp2
 go_loopg [5] l.length (fun k v wr => ∃ i : Nat, i + k = l.length ∧ v = .int .i64 i ∧ Sd (Upd No w wr))
 case atStart => exact ⟨0, by omega, rfl, ⟨Upd.refl _ _⟩⟩
 case round =>
  obtain ⟨i, hi, rfl, HU⟩ := hrel
  by_cases hlt : i < l.length
  ·obtain ⟨ad, A2, c2, A4, c4, A6, c6, rfl, a0, a1, a2, a3, a4, a5, a6, hl2, hC2, hl4, hC4, hl6, hC6⟩ := ki_Link_at (aO HU.out H.out) i hlt
   obtain ⟨ad', B2, b2, B4, b4, B6, b6, rfl, z0, z1, z2, z3, z4, z5, z6, hm2, hD2, hm4, hD4, hm6, hD6⟩ := ki_Link_at (aO HU.out H'.out) i hlt
   have HC2 := Sd.mk hC2
   have HD2 := Sd.mk hD2
   clear hC2 hD2
   have HC4 := Sd.mk hC4
   have HD4 := Sd.mk hD4
   clear hC4 hD4
   have HC6 := Sd.mk hC6
   have HD6 := Sd.mk hD6
   clear hC6 hD6
   go_wp2_with fail
   go_still_tail 8, kR
   change wpList _ _ _ _ _ wr.drew
   have HW : Sd (Upd No wr wr.drew) := ⟨(Upd.refl _ _).drew⟩
   have HU2 : Sd (Upd No w wr.drew) := ⟨HU.out.drew⟩
   generalize wr.drew = w2 at *
   go_wp2_with (go_at_call 171; (with_reducible refine (eq_Link l[i] _ _ _ (ki_Link_Kmk _ _ hl2 (aO HW.out HC2.out) hl4 (aO HW.out HC4.out) hl6 (aO HW.out HC6.out)) (ki_Link_Kmk _ _ hm2 (aO HW.out HD2.out) hm4 (aO HW.out HD4.out) hm6 (aO HW.out HD6.out))).mono ?_); rintro e w' ⟨rfl, hu⟩)
   have HU3 := Sd.mk (HU2.out.then hu)
   clear HU2 hu
   go_wp2
   go_roundg (gk - 1)
   case measure => omega
   case rel => exact ⟨i + 1, by omega, by go_num, HU3⟩
  ·go_wp2
   go_ret
   exact ⟨rfl, HU.out⟩
theorem markS_Link (l : List GLink) (k : Int) (F : Nat → Prop) (v : Value) (w : World) (h : R bB 178 w F v l) (hk : 0 ≤ k) (hb : k + aK bQ l ≤ 4611686018427387904) : Calls Tryz.prog 109 #[v, .int .i64 k] w (Marks bB 178 F v (k + aK bQ l) (mkS jE bQ k l) w) := by
 obtain ⟨A, c, rfl⟩ := bK h
 have hn := R_len h
 have H := Sd.mk h
 clear h
 go_enter Tryz.func109, Tryz.ntmps109
 go_wp2
 go_loopg [1, 5] l.length (fun r u v wr => ∃ i : Nat, i + r = l.length ∧ u = .int .i64 (k + aK bQ (l.take i)) ∧ v = .int .i64 i ∧ Sd (R bB 178 wr F (.slice A l.length c) (upTo (mkS jE bQ k l) l i)) ∧ Sd (Upd F w wr))
 case atStart => exact ⟨0, by omega, by simp [aK], rfl, ⟨by rw [eD]; exact H.out⟩, ⟨Upd.refl _ _⟩⟩
 case round =>
  obtain ⟨i, hi, rfl, rfl, HR, HU⟩ := hrel
  by_cases hlt : i < l.length
  ·have hle := bL bQ iV l i
   have hst := cB bQ l i hlt
   have hle2 := bL bQ iV l (i + 1)
   rw [hst] at hle2
   have HST := Sd.mk hst
   clear hst
   have HMA := Sd.mk (eO jE bQ l k i hlt)
   obtain ⟨g, cap, cur, ce, Fi, hv, hcap, hat, hM, hg, hFi, hFg, close⟩ := iH HR.out 7 l.length rfl (fC (aM _ _ _ _) kO) i l[i] (gB (aM _ _ _ _) hlt)
   cases hv
   obtain ⟨v2, P2, v4, P4, v6, P6, rfl, hR2, hR4, hR6, i2, i4, i6, d2_4, d2_6, d4_6⟩ := ki_Link_M hM
   obtain ⟨B2, b2, rfl⟩ := bK hR2
   have HR2 := Sd.mk hR2
   have I2 := Sd.mk i2
   have N2 : ¬ P2 g := fun q => hFg (i2 g q)
   clear hR2 i2
   have nn2 := bN bD iA l[i].aC
   obtain ⟨B4, b4, rfl⟩ := bK hR4
   have HR4 := Sd.mk hR4
   have I4 := Sd.mk i4
   have N4 : ¬ P4 g := fun q => hFg (i4 g q)
   clear hR4 i4
   have nn4 := bN aQ eB l[i].aD
   obtain ⟨B6, b6, rfl⟩ := bK hR6
   have HR6 := Sd.mk hR6
   have I6 := Sd.mk i6
   have N6 : ¬ P6 g := fun q => hFg (i6 g q)
   clear hR6 i6
   have nn6 := bN aQ eB l[i].aN
   have D2_4 := Sd.mk d2_4
   clear d2_4
   have D2_6 := Sd.mk d2_6
   clear d2_6
   have D4_6 := Sd.mk d4_6
   clear d4_6
   have HCN : Sd (bQ l[i] = bQ l[i]) := ⟨rfl⟩
   simp only [bQ] at hle2
   generalize hq : k + aK bQ (l.take i) = q at *
   have HQ := Sd.mk hq
   have hq0 : 0 ≤ q := by omega
   have hqb : q + (((((((0 + 1) + 1) + aK bD l[i].aC) + 1) + aK aQ l[i].aD) + 1) + aK aQ l[i].aN) ≤ 4611686018427387904 := by omega
   clear hq hle hle2 hb
   generalize hcn2 : aK bD l[i].aC = cn2 at *
   have HC2 := Sd.mk hcn2
   clear hcn2
   generalize hcn4 : aK aQ l[i].aD = cn4 at *
   have HC4 := Sd.mk hcn4
   clear hcn4
   generalize hcn6 : aK aQ l[i].aN = cn6 at *
   have HC6 := Sd.mk hcn6
   clear hcn6
   have HAT := Sd.mk hat
   have x0_s := hat.cell0 _ rfl
   have x1_s := hat.cell 1 _ rfl
   have x2_s := hat.cell 2 _ rfl
   have x3_s := hat.cell 3 _ rfl
   have x4_s := hat.cell 4 _ rfl
   have x5_s := hat.cell 5 _ rfl
   have x6_s := hat.cell 6 _ rfl
   have f0_s := hat.free (i * 7)
   have f1_s := hat.free (i * 7 + 1)
   have f2_s := hat.free (i * 7 + 2)
   have f3_s := hat.free (i * 7 + 3)
   have f4_s := hat.free (i * 7 + 4)
   have f5_s := hat.free (i * 7 + 5)
   have f6_s := hat.free (i * 7 + 6)
   have CL := Sd.mk close
   clear hat close hM HR
   go_wp2_with fail
   with_reducible refine (markS_Export l[i].aC _ P2 _ _ ?hr_Exports kO (by rw [HC2.out]; omega)).mono ?_
   case hr_Exports => exact (bH (G := fun b => b = g) kC (fun b hb hg' => N2 (hg' ▸ hb)) HR2.out)
   rintro e w_Exports ⟨rfl, hR2, hu⟩
   rw [HC2.out]
   replace HR4 := Sd.mk (bH hu (fun b hb hg' => D2_4.out b hg' hb) (bH (G := fun b => b = g) kC (fun b hb hg' => N4 (hg' ▸ hb)) HR4.out))
   replace HR6 := Sd.mk (bH hu (fun b hb hg' => D2_6.out b hg' hb) (bH (G := fun b => b = g) kC (fun b hb hg' => N6 (hg' ▸ hb)) HR6.out))
   replace HR2 := Sd.mk hR2
   replace HAT := Sd.mk (((HAT.out.set0 kD (.int .i64 (q))).set 1 kD (.bool ((q + 1) % 3 == 0))).call hu I2.out hFg)
   clear hR2
   clear hu x0_s f0_s x1_s f1_s x2_s f2_s x3_s f3_s x4_s f4_s x5_s f5_s x6_s f6_s
   have x0_Exports := HAT.out.cell0 _ rfl
   have x1_Exports := HAT.out.cell 1 _ rfl
   have x2_Exports := HAT.out.cell 2 _ rfl
   have x3_Exports := HAT.out.cell 3 _ rfl
   have x4_Exports := HAT.out.cell 4 _ rfl
   have x5_Exports := HAT.out.cell 5 _ rfl
   have x6_Exports := HAT.out.cell 6 _ rfl
   have f0_Exports := HAT.out.free (i * 7)
   have f1_Exports := HAT.out.free (i * 7 + 1)
   have f2_Exports := HAT.out.free (i * 7 + 2)
   have f3_Exports := HAT.out.free (i * 7 + 3)
   have f4_Exports := HAT.out.free (i * 7 + 4)
   have f5_Exports := HAT.out.free (i * 7 + 5)
   have f6_Exports := HAT.out.free (i * 7 + 6)
   go_wp2_with fail
   with_reducible refine (markS_Question l[i].aD _ P4 _ _ ?hr_Questions kO (by rw [HC4.out]; omega)).mono ?_
   case hr_Questions => exact (bH (G := fun b => b = g) kC (fun b hb hg' => N4 (hg' ▸ hb)) HR4.out)
   rintro e w_Questions ⟨rfl, hR4, hu⟩
   rw [HC4.out]
   replace HR2 := Sd.mk (bH hu (fun b hb hg' => D2_4.out b hb hg') (bH (G := fun b => b = g) kC (fun b hb hg' => N2 (hg' ▸ hb)) HR2.out))
   replace HR6 := Sd.mk (bH hu (fun b hb hg' => D4_6.out b hg' hb) (bH (G := fun b => b = g) kC (fun b hb hg' => N6 (hg' ▸ hb)) HR6.out))
   replace HR4 := Sd.mk hR4
   replace HAT := Sd.mk ((HAT.out.set 3 kD (.int .i64 ((((q + 1) + 1) + cn2)))).call hu I4.out hFg)
   clear hR4
   clear hu x0_Exports f0_Exports x1_Exports f1_Exports x2_Exports f2_Exports x3_Exports f3_Exports x4_Exports f4_Exports x5_Exports f5_Exports x6_Exports f6_Exports
   have x0_Questions := HAT.out.cell0 _ rfl
   have x1_Questions := HAT.out.cell 1 _ rfl
   have x2_Questions := HAT.out.cell 2 _ rfl
   have x3_Questions := HAT.out.cell 3 _ rfl
   have x4_Questions := HAT.out.cell 4 _ rfl
   have x5_Questions := HAT.out.cell 5 _ rfl
   have x6_Questions := HAT.out.cell 6 _ rfl
   have f0_Questions := HAT.out.free (i * 7)
   have f1_Questions := HAT.out.free (i * 7 + 1)
   have f2_Questions := HAT.out.free (i * 7 + 2)
   have f3_Questions := HAT.out.free (i * 7 + 3)
   have f4_Questions := HAT.out.free (i * 7 + 4)
   have f5_Questions := HAT.out.free (i * 7 + 5)
   have f6_Questions := HAT.out.free (i * 7 + 6)
   go_wp2_with fail
   with_reducible refine (markS_Question l[i].aN _ P6 _ _ ?hr_Answers kO (by rw [HC6.out]; omega)).mono ?_
   case hr_Answers => exact (bH (G := fun b => b = g) kC (fun b hb hg' => N6 (hg' ▸ hb)) HR6.out)
   rintro e w_Answers ⟨rfl, hR6, hu⟩
   rw [HC6.out]
   replace HR2 := Sd.mk (bH hu (fun b hb hg' => D2_6.out b hb hg') (bH (G := fun b => b = g) kC (fun b hb hg' => N2 (hg' ▸ hb)) HR2.out))
   replace HR4 := Sd.mk (bH hu (fun b hb hg' => D4_6.out b hb hg') (bH (G := fun b => b = g) kC (fun b hb hg' => N4 (hg' ▸ hb)) HR4.out))
   replace HR6 := Sd.mk hR6
   replace HAT := Sd.mk ((HAT.out.set 5 kD (.int .i64 ((((((q + 1) + 1) + cn2) + 1) + cn4)))).call hu I6.out hFg)
   clear hR6
   clear hu x0_Questions f0_Questions x1_Questions f1_Questions x2_Questions f2_Questions x3_Questions f3_Questions x4_Questions f4_Questions x5_Questions f5_Questions x6_Questions f6_Questions
   have x0_Answers := HAT.out.cell0 _ rfl
   have x1_Answers := HAT.out.cell 1 _ rfl
   have x2_Answers := HAT.out.cell 2 _ rfl
   have x3_Answers := HAT.out.cell 3 _ rfl
   have x4_Answers := HAT.out.cell 4 _ rfl
   have x5_Answers := HAT.out.cell 5 _ rfl
   have x6_Answers := HAT.out.cell 6 _ rfl
   have f0_Answers := HAT.out.free (i * 7)
   have f1_Answers := HAT.out.free (i * 7 + 1)
   have f2_Answers := HAT.out.free (i * 7 + 2)
   have f3_Answers := HAT.out.free (i * 7 + 3)
   have f4_Answers := HAT.out.free (i * 7 + 4)
   have f5_Answers := HAT.out.free (i * 7 + 5)
   have f6_Answers := HAT.out.free (i * 7 + 6)
   go_wp2
   have HA := HAT.out
   have hy : (⟨q, (((q + 1)) % 3 == 0), mkS gU bD ((q + 1) + 1) l[i].aC, (((q + 1) + 1) + cn2), mkS dV aQ ((((q + 1) + 1) + cn2) + 1) l[i].aD, (((((q + 1) + 1) + cn2) + 1) + cn4), mkS dV aQ ((((((q + 1) + 1) + cn2) + 1) + cn4) + 1) l[i].aN⟩ : GLink) = (mkS jE bQ k l)[i]'(by rw [aM]; exact hlt) := by rw [HMA.out]; simp only [jE, HC2.out, HC4.out, HC6.out]
   have HRowB := CL.out _ _ (⟨q, (((q + 1)) % 3 == 0), mkS gU bD ((q + 1) + 1) l[i].aC, (((q + 1) + 1) + cn2), mkS dV aQ ((((q + 1) + 1) + cn2) + 1) l[i].aD, (((((q + 1) + 1) + cn2) + 1) + cn4), mkS dV aQ ((((((q + 1) + 1) + cn2) + 1) + cn4) + 1) l[i].aN⟩ : GLink) Fi F HA (ki_Link_mk _ Fi (⟨q, (((q + 1)) % 3 == 0), mkS gU bD ((q + 1) + 1) l[i].aC, (((q + 1) + 1) + cn2), mkS dV aQ ((((q + 1) + 1) + cn2) + 1) l[i].aD, (((((q + 1) + 1) + cn2) + 1) + cn4), mkS dV aQ ((((((q + 1) + 1) + cn2) + 1) + cn4) + 1) l[i].aN⟩ : GLink) (bH (G := fun b => b = g) kC (fun b hb hg' => N2 (hg' ▸ hb)) HR2.out) (bH (G := fun b => b = g) kC (fun b hb hg' => N4 (hg' ▸ hb)) HR4.out) (bH (G := fun b => b = g) kC (fun b hb hg' => N6 (hg' ▸ hb)) HR6.out) I2.out I4.out I6.out D2_4.out D2_6.out D4_6.out) (fun _ hb => .inl hb) (fun _ hb => hb) hFi
   rw [hy, fD (aM _ _ _ _) hlt] at HRowB
   go_roundg (gk - 1)
   case measure => omega
   case rel => exact ⟨i + 1, by omega, by rw [HST.out]; simp only [bQ]; have := HQ.out; have := HC2.out; have := HC4.out; have := HC6.out; exact congrArg (Value.int .i64) kO, by go_num, ⟨HRowB⟩, ⟨HU.out.trans HA.upd (fun _ _ hb => hb) (fun b _ hb => by rcases hb with rfl | hb; exact hg; exact hFi b hb)⟩⟩
  ·go_wp2
   go_ret
   have HRowB := HR.out
   rw [fB (aM _ _ _ _) kO] at HRowB
   have e : l.take i = l := List.take_of_length_le kO
   exact ⟨dL (by rw [e]), HRowB, HU.out⟩
theorem heldS_Link (l : List GLink) (k : Int) (A : Option Addr) (c : Nat) (w : World) (h : C bB w A (mkS jE bQ k l)) (hk : 0 ≤ k) (hb : k + aK bQ l ≤ 4611686018427387904) : Calls Tryz.prog 113 #[.slice A l.length c, .int .i64 k] w (gN (k + aK bQ l) w) := by
 have hn := h.1
 rw [aM] at hn
 have H := Sd.mk h
 clear h
 go_enter Tryz.func113, Tryz.ntmps113
 go_wp2
 go_loopg [1, 5] l.length (fun r u v wr => ∃ i : Nat, i + r = l.length ∧ u = .int .i64 (k + aK bQ (l.take i)) ∧ v = .int .i64 i ∧ Sd (Upd No w wr))
 case atStart => exact ⟨0, by omega, by simp [aK], rfl, ⟨Upd.refl _ _⟩⟩
 case round =>
  obtain ⟨i, hi, rfl, rfl, HU⟩ := hrel
  by_cases hlt : i < l.length
  ·have hle := bL bQ iV l i
   have hst := cB bQ l i hlt
   have hle2 := bL bQ iV l (i + 1)
   rw [hst] at hle2
   have HST := Sd.mk hst
   clear hst
   obtain ⟨ad, A2, c2, A4, c4, A6, c6, rfl, a0, a1, a2, a3, a4, a5, a6, hl2, hC2, hl4, hC4, hl6, hC6⟩ := ki_Link_at (aO HU.out H.out) i (by rw [aM]; exact hlt)
   rw [eO jE bQ l k i hlt] at a0 a1 a2 a3 a4 a5 a6 hl2 hC2 hl4 hC4 hl6 hC6
   simp only [jE, aM] at a0 a1 a2 a3 a4 a5 a6 hl2 hC2 hl4 hC4 hl6 hC6
   have nn2 := bN bD iA l[i].aC
   have nn4 := bN aQ eB l[i].aD
   have nn6 := bN aQ eB l[i].aN
   simp only [bQ] at hle2
   generalize hq : k + aK bQ (l.take i) = q at *
   have HQ := Sd.mk hq
   have hq0 : 0 ≤ q := by omega
   have hqb : q + (((((((0 + 1) + 1) + aK bD l[i].aC) + 1) + aK aQ l[i].aD) + 1) + aK aQ l[i].aN) ≤ 4611686018427387904 := by omega
   clear hq hle hle2 hb
   generalize hcn2 : aK bD l[i].aC = cn2 at *
   have HN2 := Sd.mk hcn2
   clear hcn2
   have HC2 := Sd.mk hC2
   clear hC2
   generalize hcn4 : aK aQ l[i].aD = cn4 at *
   have HN4 := Sd.mk hcn4
   clear hcn4
   have HC4 := Sd.mk hC4
   clear hC4
   generalize hcn6 : aK aQ l[i].aN = cn6 at *
   have HN6 := Sd.mk hcn6
   clear hcn6
   have HC6 := Sd.mk hC6
   clear hC6
   have HX := Sd.mk (Upd.refl No wr)
   go_wp2_with fail
   with_reducible refine (heldS_Export l[i].aC _ _ _ _ ?hc_Exports kO (by rw [HN2.out]; omega)).mono ?_
   case hc_Exports => exact HC2.out
   rintro e w_Exports ⟨rfl, hu⟩
   rw [HN2.out]
   replace a0 := hu.read a0
   replace a1 := hu.read a1
   replace a2 := hu.read a2
   replace a3 := hu.read a3
   replace a4 := hu.read a4
   replace a5 := hu.read a5
   replace a6 := hu.read a6
   replace HC2 := Sd.mk (aO hu HC2.out)
   replace HC4 := Sd.mk (aO hu HC4.out)
   replace HC6 := Sd.mk (aO hu HC6.out)
   replace HX := Sd.mk (HX.out.then hu)
   clear hu
   go_wp2_with fail
   with_reducible refine (heldS_Question l[i].aD _ _ _ _ ?hc_Questions kO (by rw [HN4.out]; omega)).mono ?_
   case hc_Questions => exact HC4.out
   rintro e w_Questions ⟨rfl, hu⟩
   rw [HN4.out]
   replace a0 := hu.read a0
   replace a1 := hu.read a1
   replace a2 := hu.read a2
   replace a3 := hu.read a3
   replace a4 := hu.read a4
   replace a5 := hu.read a5
   replace a6 := hu.read a6
   replace HC2 := Sd.mk (aO hu HC2.out)
   replace HC4 := Sd.mk (aO hu HC4.out)
   replace HC6 := Sd.mk (aO hu HC6.out)
   replace HX := Sd.mk (HX.out.then hu)
   clear hu
   go_wp2_with fail
   with_reducible refine (heldS_Question l[i].aN _ _ _ _ ?hc_Answers kO (by rw [HN6.out]; omega)).mono ?_
   case hc_Answers => exact HC6.out
   rintro e w_Answers ⟨rfl, hu⟩
   rw [HN6.out]
   replace a0 := hu.read a0
   replace a1 := hu.read a1
   replace a2 := hu.read a2
   replace a3 := hu.read a3
   replace a4 := hu.read a4
   replace a5 := hu.read a5
   replace a6 := hu.read a6
   replace HC2 := Sd.mk (aO hu HC2.out)
   replace HC4 := Sd.mk (aO hu HC4.out)
   replace HC6 := Sd.mk (aO hu HC6.out)
   replace HX := Sd.mk (HX.out.then hu)
   clear hu
   go_wp2
   go_roundg (gk - 1)
   case measure => omega
   case rel => exact ⟨i + 1, by omega, by rw [HST.out]; simp only [bQ]; have := HQ.out; have := HN2.out; have := HN4.out; have := HN6.out; exact congrArg (Value.int .i64) kO, by go_num, ⟨HU.out.then HX.out⟩⟩
  ·go_wp2
   go_ret
   have e : l.take i = l := List.take_of_length_le kO
   exact ⟨dL (by rw [e]), HU.out⟩
theorem j6 (w : World) (x : GWire) : eP.K w x [.int .i64 x.Kind, .int .i64 x.N] := ⟨[_], [_], rfl, rfl, rfl⟩
theorem eq_Wire (x : GWire) (cs cs' : List Value) (w : World) (h : eP.K w x cs) (h' : eP.K w x cs') : Calls Tryz.prog 46 #[.agg cs.toArray, .agg cs'.toArray] w (dD true w) := by
 obtain rfl := ki_Wire_K h
 obtain rfl := ki_Wire_K h'
 go_enter Tryz.func46, Tryz.ntmps46
 go_wp2
 go_ret
 exact ⟨rfl, kA⟩
theorem eqS_Wire (l : List GWire) (A A' : Option Addr) (c c' : Nat) (w : World) (h : C eP w A l) (h' : C eP w A' l) : Calls Tryz.prog 49 #[.slice A l.length c, .slice A' l.length c'] w (dD true w) := by
 have hn := h.1
 have H := Sd.mk h
 have H' := Sd.mk h'
 clear h h'
 go_enter Tryz.func49, Tryz.ntmps49
 go_wp2
 go_loopg [5] l.length (fun k v wr => ∃ i : Nat, i + k = l.length ∧ v = .int .i64 i ∧ Sd (Upd No w wr))
 case atStart => exact ⟨0, by omega, rfl, ⟨Upd.refl _ _⟩⟩
 case round =>
  obtain ⟨i, hi, rfl, HU⟩ := hrel
  by_cases hlt : i < l.length
  ·obtain ⟨ad, rfl, a0, a1⟩ := ki_Wire_at (aO HU.out H.out) i hlt
   obtain ⟨ad', rfl, z0, z1⟩ := ki_Wire_at (aO HU.out H'.out) i hlt
   go_wp2_with fail
   go_still_tail 8, kR
   change wpList _ _ _ _ _ wr.drew
   have HW : Sd (Upd No wr wr.drew) := ⟨(Upd.refl _ _).drew⟩
   have HU2 : Sd (Upd No w wr.drew) := ⟨HU.out.drew⟩
   generalize wr.drew = w2 at *
   go_wp2_with (go_at_call 46; (with_reducible refine (eq_Wire l[i] _ _ _ (j6 _ _) (j6 _ _)).mono ?_); rintro e w' ⟨rfl, hu⟩)
   have HU3 := Sd.mk (HU2.out.then hu)
   clear HU2 hu
   go_wp2
   go_roundg (gk - 1)
   case measure => omega
   case rel => exact ⟨i + 1, by omega, by go_num, HU3⟩
  ·go_wp2
   go_ret
   exact ⟨rfl, HU.out⟩
theorem markS_Wire (l : List GWire) (k : Int) (F : Nat → Prop) (v : Value) (w : World) (h : R eP 72 w F v l) (hk : 0 ≤ k) (hb : k + aK aX l ≤ 4611686018427387904) : Calls Tryz.prog 50 #[v, .int .i64 k] w (Marks eP 72 F v (k + aK aX l) (mkS iC aX k l) w) := by
 obtain ⟨A, c, rfl⟩ := bK h
 have hn := R_len h
 have H := Sd.mk h
 clear h
 go_enter Tryz.func50, Tryz.ntmps50
 go_wp2
 go_loopg [1, 5] l.length (fun r u v wr => ∃ i : Nat, i + r = l.length ∧ u = .int .i64 (k + aK aX (l.take i)) ∧ v = .int .i64 i ∧ Sd (R eP 72 wr F (.slice A l.length c) (upTo (mkS iC aX k l) l i)) ∧ Sd (Upd F w wr))
 case atStart => exact ⟨0, by omega, by simp [aK], rfl, ⟨by rw [eD]; exact H.out⟩, ⟨Upd.refl _ _⟩⟩
 case round =>
  obtain ⟨i, hi, rfl, rfl, HR, HU⟩ := hrel
  by_cases hlt : i < l.length
  ·have hle := bL aX gG l i
   have hst := cB aX l i hlt
   have hle2 := bL aX gG l (i + 1)
   rw [hst] at hle2
   have HST := Sd.mk hst
   clear hst
   have HMA := Sd.mk (eO iC aX l k i hlt)
   obtain ⟨g, cap, cur, ce, Fi, hv, hcap, hat, hM, hg, hFi, hFg, close⟩ := iH HR.out 2 l.length rfl (fC (aM _ _ _ _) kO) i l[i] (gB (aM _ _ _ _) hlt)
   cases hv
   obtain rfl := ki_Wire_M hM
   have HCN : Sd (aX l[i] = aX l[i]) := ⟨rfl⟩
   simp only [aX] at hle2
   generalize hq : k + aK aX (l.take i) = q at *
   have HQ := Sd.mk hq
   have hq0 : 0 ≤ q := by omega
   have hqb : q + ((0 + 1) + 1) ≤ 4611686018427387904 := by omega
   clear hq hle hle2 hb
   have HAT := Sd.mk hat
   have x0_s := hat.cell0 _ rfl
   have x1_s := hat.cell 1 _ rfl
   have f0_s := hat.free (i * 2)
   have f1_s := hat.free (i * 2 + 1)
   have CL := Sd.mk close
   clear hat close hM HR
   go_wp2
   have HA := ((HAT.out.set0 kD (.int .i64 (q))).set 1 kD (.int .i64 ((q + 1))))
   have hy : (⟨q, (q + 1)⟩ : GWire) = (mkS iC aX k l)[i]'(by rw [aM]; exact hlt) := by rw [HMA.out]; simp only [iC]
   have HRowB := CL.out _ _ (⟨q, (q + 1)⟩ : GWire) Fi F HA (ki_Wire_mk _ Fi (⟨q, (q + 1)⟩ : GWire)) (fun _ hb => .inl hb) (fun _ hb => hb) hFi
   rw [hy, fD (aM _ _ _ _) hlt] at HRowB
   go_roundg (gk - 1)
   case measure => omega
   case rel => exact ⟨i + 1, by omega, by rw [HST.out]; simp only [aX]; have := HQ.out; exact congrArg (Value.int .i64) kO, by go_num, ⟨HRowB⟩, ⟨HU.out.trans HA.upd (fun _ _ hb => hb) (fun b _ hb => by rcases hb with rfl | hb; exact hg; exact hFi b hb)⟩⟩
  ·go_wp2
   go_ret
   have HRowB := HR.out
   rw [fB (aM _ _ _ _) kO] at HRowB
   have e : l.take i = l := List.take_of_length_le kO
   exact ⟨dL (by rw [e]), HRowB, HU.out⟩
theorem heldS_Wire (l : List GWire) (k : Int) (A : Option Addr) (c : Nat) (w : World) (h : C eP w A (mkS iC aX k l)) (hk : 0 ≤ k) (hb : k + aK aX l ≤ 4611686018427387904) : Calls Tryz.prog 51 #[.slice A l.length c, .int .i64 k] w (gN (k + aK aX l) w) := by
 have hn := h.1
 rw [aM] at hn
 have H := Sd.mk h
 clear h
 go_enter Tryz.func51, Tryz.ntmps51
 go_wp2
 go_loopg [1, 5] l.length (fun r u v wr => ∃ i : Nat, i + r = l.length ∧ u = .int .i64 (k + aK aX (l.take i)) ∧ v = .int .i64 i ∧ Sd (Upd No w wr))
 case atStart => exact ⟨0, by omega, by simp [aK], rfl, ⟨Upd.refl _ _⟩⟩
 case round =>
  obtain ⟨i, hi, rfl, rfl, HU⟩ := hrel
  by_cases hlt : i < l.length
  ·have hle := bL aX gG l i
   have hst := cB aX l i hlt
   have hle2 := bL aX gG l (i + 1)
   rw [hst] at hle2
   have HST := Sd.mk hst
   clear hst
   obtain ⟨ad, rfl, a0, a1⟩ := ki_Wire_at (aO HU.out H.out) i (by rw [aM]; exact hlt)
   rw [eO iC aX l k i hlt] at a0 a1
   simp only [iC] at a0 a1
   simp only [aX] at hle2
   generalize hq : k + aK aX (l.take i) = q at *
   have HQ := Sd.mk hq
   have hq0 : 0 ≤ q := by omega
   have hqb : q + ((0 + 1) + 1) ≤ 4611686018427387904 := by omega
   clear hq hle hle2 hb
   have HX := Sd.mk (Upd.refl No wr)
   go_wp2
   go_roundg (gk - 1)
   case measure => omega
   case rel => exact ⟨i + 1, by omega, by rw [HST.out]; simp only [aX]; have := HQ.out; exact congrArg (Value.int .i64) kO, by go_num, ⟨HU.out.then HX.out⟩⟩
  ·go_wp2
   go_ret
   have e : l.take i = l := List.take_of_length_le kO
   exact ⟨dL (by rw [e]), HU.out⟩
theorem iX (w : World) (x : GMessage) {A5 : Option Addr} {c5 : Nat} (hl5 : x.dG.length ≤ c5) (hC5 : C eP w A5 x.dG) : dA.K w x [.int .i64 x.Kind, .int .i64 x.Pos, .int .i64 x.Answer, .int .i64 x.Question, .string x.Name, .slice A5 x.dG.length c5, .int .i64 x.Value.Kind, .int .i64 x.Value.N, .int .i64 x.Count, .int .i64 x.Tag.Vat, .int .i64 x.Tag.Entity, .int .i64 x.Tag.Seq] := ⟨[_], [_, _, _, _, _, _, _, _, _, _, _], rfl, rfl, ⟨[_], [_, _, _, _, _, _, _, _, _, _], rfl, rfl, ⟨[_], [_, _, _, _, _, _, _, _, _], rfl, rfl, ⟨[_], [_, _, _, _, _, _, _, _], rfl, rfl, ⟨[_], [_, _, _, _, _, _, _], rfl, rfl, ⟨[_], [_, _, _, _, _, _], rfl, ⟨A5, c5, rfl, hl5, hC5⟩, ⟨[_, _], [_, _, _, _], rfl, (j6 w _), ⟨[_], [_, _, _], rfl, rfl, (iK w _)⟩⟩⟩⟩⟩⟩⟩⟩
theorem eq_Message (x : GMessage) (cs cs' : List Value) (w : World) (h : dA.K w x cs) (h' : dA.K w x cs') : Calls Tryz.prog 31 #[.agg cs.toArray, .agg cs'.toArray] w (dD true w) := by
 obtain ⟨A5, c5, rfl, hl5, hC5⟩ := kI h
 have HC5 := Sd.mk hC5
 clear hC5
 obtain ⟨B5, b5, rfl, hm5, hD5⟩ := kI h'
 have HD5 := Sd.mk hD5
 clear hD5
 go_enter Tryz.func31, Tryz.ntmps31
 go_wp2_with fail
 with_reducible refine (eqS_Wire x.dG _ _ _ _ _ ?hc_Args ?hd_Args).mono ?_
 case hc_Args => exact aO kA HC5.out
 case hd_Args => exact aO kA HD5.out
 rintro e w_Args ⟨rfl, hu⟩
 have HB_Args : Sd (Upd No w w_Args) := Sd.mk (Upd.then kA hu)
 have cc0_Args := fun o => hu.bJ (b := w.heap.size) kB (fun q => q) o
 have cc1_Args := fun o => hu.bJ (b := w.heap.size + 1) kB (fun q => q) o
 have hz_Args : w.heap.size + 1 + 1 ≤ w_Args.heap.size := by have := hu.size; (try simp at this); omega
 clear hu
 go_wp2_with fail
 with_reducible refine (eq_Wire x.Value _ _ _ (j6 _ _) (j6 _ _)).mono ?_
 rintro e w_Value ⟨rfl, hu⟩
 have HB_Value : Sd (Upd No w w_Value) := Sd.mk (Upd.then (by repeat (with_reducible first | exact HB_Args.out | apply Upd.bZ | apply Upd.bY | apply Upd.bW | apply Upd.alloc | apply Upd.drewN | apply Upd.drew)) hu)
 have cc0_Value := fun o => hu.bJ (b := w.heap.size) kB (fun q => q) o
 have cc1_Value := fun o => hu.bJ (b := w.heap.size + 1) kB (fun q => q) o
 have hz_Value : w.heap.size + 1 + 1 ≤ w_Value.heap.size := by have := hu.size; (try simp at this); omega
 clear hu
 go_wp2_with fail
 with_reducible refine (eq_Tag x.Tag _ _ _ (iK _ _) (iK _ _)).mono ?_
 rintro e w_Tag ⟨rfl, hu⟩
 have HB_Tag : Sd (Upd No w w_Tag) := Sd.mk (Upd.then (by repeat (with_reducible first | exact HB_Value.out | apply Upd.bZ | apply Upd.bY | apply Upd.bW | apply Upd.alloc | apply Upd.drewN | apply Upd.drew)) hu)
 have cc0_Tag := fun o => hu.bJ (b := w.heap.size) kB (fun q => q) o
 have cc1_Tag := fun o => hu.bJ (b := w.heap.size + 1) kB (fun q => q) o
 have hz_Tag : w.heap.size + 1 + 1 ≤ w_Tag.heap.size := by have := hu.size; (try simp at this); omega
 clear hu
 go_wp2
 go_ret
 exact ⟨rfl, (by repeat (with_reducible first | exact HB_Tag.out | apply Upd.bZ | apply Upd.bY | apply Upd.bW | apply Upd.alloc | apply Upd.drewN | apply Upd.drew))⟩
theorem eqS_Message (l : List GMessage) (A A' : Option Addr) (c c' : Nat) (w : World) (h : C dA w A l) (h' : C dA w A' l) : Calls Tryz.prog 194 #[.slice A l.length c, .slice A' l.length c'] w (dD true w) := by
 have hn := h.1
 have H := Sd.mk h
 have H' := Sd.mk h'
 clear h h'
 go_enter Tryz.func194, Tryz.ntmps194
 go_wp2
 go_loopg [5] l.length (fun k v wr => ∃ i : Nat, i + k = l.length ∧ v = .int .i64 i ∧ Sd (Upd No w wr))
 case atStart => exact ⟨0, by omega, rfl, ⟨Upd.refl _ _⟩⟩
 case round =>
  obtain ⟨i, hi, rfl, HU⟩ := hrel
  by_cases hlt : i < l.length
  ·obtain ⟨ad, A5, c5, rfl, a0, a1, a2, a3, a4, a5, a6, a7, a8, a9, a10, a11, hl5, hC5⟩ := lD (aO HU.out H.out) i hlt
   obtain ⟨ad', B5, b5, rfl, z0, z1, z2, z3, z4, z5, z6, z7, z8, z9, z10, z11, hm5, hD5⟩ := lD (aO HU.out H'.out) i hlt
   have HC5 := Sd.mk hC5
   have HD5 := Sd.mk hD5
   clear hC5 hD5
   go_wp2_with fail
   go_still_tail 8, kR
   change wpList _ _ _ _ _ wr.drew
   have HW : Sd (Upd No wr wr.drew) := ⟨(Upd.refl _ _).drew⟩
   have HU2 : Sd (Upd No w wr.drew) := ⟨HU.out.drew⟩
   generalize wr.drew = w2 at *
   go_wp2_with (go_at_call 31; (with_reducible refine (eq_Message l[i] _ _ _ (iX _ _ hl5 (aO HW.out HC5.out)) (iX _ _ hm5 (aO HW.out HD5.out))).mono ?_); rintro e w' ⟨rfl, hu⟩)
   have HU3 := Sd.mk (HU2.out.then hu)
   clear HU2 hu
   go_wp2
   go_roundg (gk - 1)
   case measure => omega
   case rel => exact ⟨i + 1, by omega, by go_num, HU3⟩
  ·go_wp2
   go_ret
   exact ⟨rfl, HU.out⟩
theorem markS_Message (l : List GMessage) (k : Int) (F : Nat → Prop) (v : Value) (w : World) (h : R dA 74 w F v l) (hk : 0 ≤ k) (hb : k + aK bA l ≤ 4611686018427387904) : Calls Tryz.prog 141 #[v, .int .i64 k] w (Marks dA 74 F v (k + aK bA l) (mkS fT bA k l) w) := by
 obtain ⟨A, c, rfl⟩ := bK h
 have hn := R_len h
 have H := Sd.mk h
 clear h
 go_enter Tryz.func141, Tryz.ntmps141
 go_wp2
 go_loopg [1, 5] l.length (fun r u v wr => ∃ i : Nat, i + r = l.length ∧ u = .int .i64 (k + aK bA (l.take i)) ∧ v = .int .i64 i ∧ Sd (R dA 74 wr F (.slice A l.length c) (upTo (mkS fT bA k l) l i)) ∧ Sd (Upd F w wr))
 case atStart => exact ⟨0, by omega, by simp [aK], rfl, ⟨by rw [eD]; exact H.out⟩, ⟨Upd.refl _ _⟩⟩
 case round =>
  obtain ⟨i, hi, rfl, rfl, HR, HU⟩ := hrel
  by_cases hlt : i < l.length
  ·have hle := bL bA gJ l i
   have hst := cB bA l i hlt
   have hle2 := bL bA gJ l (i + 1)
   rw [hst] at hle2
   have HST := Sd.mk hst
   clear hst
   have HMA := Sd.mk (eO fT bA l k i hlt)
   obtain ⟨g, cap, cur, ce, Fi, hv, hcap, hat, hM, hg, hFi, hFg, close⟩ := iH HR.out 12 l.length rfl (fC (aM _ _ _ _) kO) i l[i] (gB (aM _ _ _ _) hlt)
   cases hv
   obtain ⟨v5, P5, rfl, hR5, i5⟩ := ki_Message_M hM
   obtain ⟨B5, b5, rfl⟩ := bK hR5
   have HR5 := Sd.mk hR5
   have I5 := Sd.mk i5
   have N5 : ¬ P5 g := fun q => hFg (i5 g q)
   clear hR5 i5
   have nn5 := bN aX gG l[i].dG
   have HCN : Sd (bA l[i] = bA l[i]) := ⟨rfl⟩
   simp only [bA] at hle2
   generalize hq : k + aK bA (l.take i) = q at *
   have HQ := Sd.mk hq
   have hq0 : 0 ≤ q := by omega
   have hqb : q + ((((((((((((0 + 1) + 1) + 1) + 1) + 1) + aK aX l[i].dG) + 1) + 1) + 1) + 1) + 1) + 1) ≤ 4611686018427387904 := by omega
   clear hq hle hle2 hb
   generalize hcn5 : aK aX l[i].dG = cn5 at *
   have HC5 := Sd.mk hcn5
   clear hcn5
   have HAT := Sd.mk hat
   have x0_s := hat.cell0 _ rfl
   have x1_s := hat.cell 1 _ rfl
   have x2_s := hat.cell 2 _ rfl
   have x3_s := hat.cell 3 _ rfl
   have x4_s := hat.cell 4 _ rfl
   have x5_s := hat.cell 5 _ rfl
   have x6_s := hat.cell 6 _ rfl
   have x7_s := hat.cell 7 _ rfl
   have x8_s := hat.cell 8 _ rfl
   have x9_s := hat.cell 9 _ rfl
   have x10_s := hat.cell 10 _ rfl
   have x11_s := hat.cell 11 _ rfl
   have f0_s := hat.free (i * 12)
   have f1_s := hat.free (i * 12 + 1)
   have f2_s := hat.free (i * 12 + 2)
   have f3_s := hat.free (i * 12 + 3)
   have f4_s := hat.free (i * 12 + 4)
   have f5_s := hat.free (i * 12 + 5)
   have f6_s := hat.free (i * 12 + 6)
   have f7_s := hat.free (i * 12 + 7)
   have f8_s := hat.free (i * 12 + 8)
   have f9_s := hat.free (i * 12 + 9)
   have f10_s := hat.free (i * 12 + 10)
   have f11_s := hat.free (i * 12 + 11)
   have CL := Sd.mk close
   clear hat close hM HR
   go_wp2_with fail
   with_reducible refine (fV _ _ kO kO).mono ?_
   rintro e w_Name ⟨rfl, hu⟩
   replace HR5 := Sd.mk (bH hu (fun _ _ q => q) (bH (G := fun b => b = g) kC (fun b hb hg' => N5 (hg' ▸ hb)) HR5.out))
   replace HAT := Sd.mk (((((HAT.out.set0 kD (.int .i64 (q))).set 1 kD (.int .i64 ((q + 1)))).set 2 kD (.int .i64 (((q + 1) + 1)))).set 3 kD (.int .i64 ((((q + 1) + 1) + 1)))).call hu (fun _ q => q.elim) hFg)
   clear hu x0_s f0_s x1_s f1_s x2_s f2_s x3_s f3_s x4_s f4_s x5_s f5_s x6_s f6_s x7_s f7_s x8_s f8_s x9_s f9_s x10_s f10_s x11_s f11_s
   have x0_Name := HAT.out.cell0 _ rfl
   have x1_Name := HAT.out.cell 1 _ rfl
   have x2_Name := HAT.out.cell 2 _ rfl
   have x3_Name := HAT.out.cell 3 _ rfl
   have x4_Name := HAT.out.cell 4 _ rfl
   have x5_Name := HAT.out.cell 5 _ rfl
   have x6_Name := HAT.out.cell 6 _ rfl
   have x7_Name := HAT.out.cell 7 _ rfl
   have x8_Name := HAT.out.cell 8 _ rfl
   have x9_Name := HAT.out.cell 9 _ rfl
   have x10_Name := HAT.out.cell 10 _ rfl
   have x11_Name := HAT.out.cell 11 _ rfl
   have f0_Name := HAT.out.free (i * 12)
   have f1_Name := HAT.out.free (i * 12 + 1)
   have f2_Name := HAT.out.free (i * 12 + 2)
   have f3_Name := HAT.out.free (i * 12 + 3)
   have f4_Name := HAT.out.free (i * 12 + 4)
   have f5_Name := HAT.out.free (i * 12 + 5)
   have f6_Name := HAT.out.free (i * 12 + 6)
   have f7_Name := HAT.out.free (i * 12 + 7)
   have f8_Name := HAT.out.free (i * 12 + 8)
   have f9_Name := HAT.out.free (i * 12 + 9)
   have f10_Name := HAT.out.free (i * 12 + 10)
   have f11_Name := HAT.out.free (i * 12 + 11)
   go_wp2_with fail
   with_reducible refine (markS_Wire l[i].dG _ P5 _ _ ?hr_Args kO (by rw [HC5.out]; omega)).mono ?_
   case hr_Args => exact (bH (G := fun b => b = g) kC (fun b hb hg' => N5 (hg' ▸ hb)) HR5.out)
   rintro e w_Args ⟨rfl, hR5, hu⟩
   rw [HC5.out]
   replace HR5 := Sd.mk hR5
   replace HAT := Sd.mk ((HAT.out.set 4 kD (.string (mtx (((((q + 1) + 1) + 1) + 1))))).call hu I5.out hFg)
   clear hR5
   clear hu x0_Name f0_Name x1_Name f1_Name x2_Name f2_Name x3_Name f3_Name x4_Name f4_Name x5_Name f5_Name x6_Name f6_Name x7_Name f7_Name x8_Name f8_Name x9_Name f9_Name x10_Name f10_Name x11_Name f11_Name
   have x0_Args := HAT.out.cell0 _ rfl
   have x1_Args := HAT.out.cell 1 _ rfl
   have x2_Args := HAT.out.cell 2 _ rfl
   have x3_Args := HAT.out.cell 3 _ rfl
   have x4_Args := HAT.out.cell 4 _ rfl
   have x5_Args := HAT.out.cell 5 _ rfl
   have x6_Args := HAT.out.cell 6 _ rfl
   have x7_Args := HAT.out.cell 7 _ rfl
   have x8_Args := HAT.out.cell 8 _ rfl
   have x9_Args := HAT.out.cell 9 _ rfl
   have x10_Args := HAT.out.cell 10 _ rfl
   have x11_Args := HAT.out.cell 11 _ rfl
   have f0_Args := HAT.out.free (i * 12)
   have f1_Args := HAT.out.free (i * 12 + 1)
   have f2_Args := HAT.out.free (i * 12 + 2)
   have f3_Args := HAT.out.free (i * 12 + 3)
   have f4_Args := HAT.out.free (i * 12 + 4)
   have f5_Args := HAT.out.free (i * 12 + 5)
   have f6_Args := HAT.out.free (i * 12 + 6)
   have f7_Args := HAT.out.free (i * 12 + 7)
   have f8_Args := HAT.out.free (i * 12 + 8)
   have f9_Args := HAT.out.free (i * 12 + 9)
   have f10_Args := HAT.out.free (i * 12 + 10)
   have f11_Args := HAT.out.free (i * 12 + 11)
   go_wp2
   have HA := ((((((HAT.out.set 6 kD (.int .i64 (((((((q + 1) + 1) + 1) + 1) + 1) + cn5)))).set 7 kD (.int .i64 ((((((((q + 1) + 1) + 1) + 1) + 1) + cn5) + 1)))).set 8 kD (.int .i64 (((((((((q + 1) + 1) + 1) + 1) + 1) + cn5) + 1) + 1)))).set 9 kD (.int .i64 ((((((((((q + 1) + 1) + 1) + 1) + 1) + cn5) + 1) + 1) + 1)))).set 10 kD (.int .i64 (((((((((((q + 1) + 1) + 1) + 1) + 1) + cn5) + 1) + 1) + 1) + 1)))).set 11 kD (.int .i64 ((((((((((((q + 1) + 1) + 1) + 1) + 1) + cn5) + 1) + 1) + 1) + 1) + 1))))
   have hy : (⟨q, (q + 1), ((q + 1) + 1), (((q + 1) + 1) + 1), mtx (((((q + 1) + 1) + 1) + 1)), mkS iC aX (((((q + 1) + 1) + 1) + 1) + 1) l[i].dG, ⟨((((((q + 1) + 1) + 1) + 1) + 1) + cn5), (((((((q + 1) + 1) + 1) + 1) + 1) + cn5) + 1)⟩, ((((((((q + 1) + 1) + 1) + 1) + 1) + cn5) + 1) + 1), ⟨(((((((((q + 1) + 1) + 1) + 1) + 1) + cn5) + 1) + 1) + 1), ((((((((((q + 1) + 1) + 1) + 1) + 1) + cn5) + 1) + 1) + 1) + 1), (((((((((((q + 1) + 1) + 1) + 1) + 1) + cn5) + 1) + 1) + 1) + 1) + 1)⟩⟩ : GMessage) = (mkS fT bA k l)[i]'(by rw [aM]; exact hlt) := by rw [HMA.out]; simp only [fT, HC5.out]
   have HRowB := CL.out _ _ (⟨q, (q + 1), ((q + 1) + 1), (((q + 1) + 1) + 1), mtx (((((q + 1) + 1) + 1) + 1)), mkS iC aX (((((q + 1) + 1) + 1) + 1) + 1) l[i].dG, ⟨((((((q + 1) + 1) + 1) + 1) + 1) + cn5), (((((((q + 1) + 1) + 1) + 1) + 1) + cn5) + 1)⟩, ((((((((q + 1) + 1) + 1) + 1) + 1) + cn5) + 1) + 1), ⟨(((((((((q + 1) + 1) + 1) + 1) + 1) + cn5) + 1) + 1) + 1), ((((((((((q + 1) + 1) + 1) + 1) + 1) + cn5) + 1) + 1) + 1) + 1), (((((((((((q + 1) + 1) + 1) + 1) + 1) + cn5) + 1) + 1) + 1) + 1) + 1)⟩⟩ : GMessage) Fi F HA (ki_Message_mk _ Fi (⟨q, (q + 1), ((q + 1) + 1), (((q + 1) + 1) + 1), mtx (((((q + 1) + 1) + 1) + 1)), mkS iC aX (((((q + 1) + 1) + 1) + 1) + 1) l[i].dG, ⟨((((((q + 1) + 1) + 1) + 1) + 1) + cn5), (((((((q + 1) + 1) + 1) + 1) + 1) + cn5) + 1)⟩, ((((((((q + 1) + 1) + 1) + 1) + 1) + cn5) + 1) + 1), ⟨(((((((((q + 1) + 1) + 1) + 1) + 1) + cn5) + 1) + 1) + 1), ((((((((((q + 1) + 1) + 1) + 1) + 1) + cn5) + 1) + 1) + 1) + 1), (((((((((((q + 1) + 1) + 1) + 1) + 1) + cn5) + 1) + 1) + 1) + 1) + 1)⟩⟩ : GMessage) (bH (G := fun b => b = g) kC (fun b hb hg' => N5 (hg' ▸ hb)) HR5.out) I5.out) (fun _ hb => .inl hb) (fun _ hb => hb) hFi
   rw [hy, fD (aM _ _ _ _) hlt] at HRowB
   go_roundg (gk - 1)
   case measure => omega
   case rel => exact ⟨i + 1, by omega, by rw [HST.out]; simp only [bA]; have := HQ.out; have := HC5.out; exact congrArg (Value.int .i64) kO, by go_num, ⟨HRowB⟩, ⟨HU.out.trans HA.upd (fun _ _ hb => hb) (fun b _ hb => by rcases hb with rfl | hb; exact hg; exact hFi b hb)⟩⟩
  ·go_wp2
   go_ret
   have HRowB := HR.out
   rw [fB (aM _ _ _ _) kO] at HRowB
   have e : l.take i = l := List.take_of_length_le kO
   exact ⟨dL (by rw [e]), HRowB, HU.out⟩
theorem heldS_Message (l : List GMessage) (k : Int) (A : Option Addr) (c : Nat) (w : World) (h : C dA w A (mkS fT bA k l)) (hk : 0 ≤ k) (hb : k + aK bA l ≤ 4611686018427387904) : Calls Tryz.prog 143 #[.slice A l.length c, .int .i64 k] w (gN (k + aK bA l) w) := by
 have hn := h.1
 rw [aM] at hn
 have H := Sd.mk h
 clear h
 go_enter Tryz.func143, Tryz.ntmps143
 go_wp2
 go_loopg [1, 5] l.length (fun r u v wr => ∃ i : Nat, i + r = l.length ∧ u = .int .i64 (k + aK bA (l.take i)) ∧ v = .int .i64 i ∧ Sd (Upd No w wr))
 case atStart => exact ⟨0, by omega, by simp [aK], rfl, ⟨Upd.refl _ _⟩⟩
 case round =>
  obtain ⟨i, hi, rfl, rfl, HU⟩ := hrel
  by_cases hlt : i < l.length
  ·have hle := bL bA gJ l i
   have hst := cB bA l i hlt
   have hle2 := bL bA gJ l (i + 1)
   rw [hst] at hle2
   have HST := Sd.mk hst
   clear hst
   obtain ⟨ad, A5, c5, rfl, a0, a1, a2, a3, a4, a5, a6, a7, a8, a9, a10, a11, hl5, hC5⟩ := lD (aO HU.out H.out) i (by rw [aM]; exact hlt)
   rw [eO fT bA l k i hlt] at a0 a1 a2 a3 a4 a5 a6 a7 a8 a9 a10 a11 hl5 hC5
   simp only [fT, aM] at a0 a1 a2 a3 a4 a5 a6 a7 a8 a9 a10 a11 hl5 hC5
   have nn5 := bN aX gG l[i].dG
   simp only [bA] at hle2
   generalize hq : k + aK bA (l.take i) = q at *
   have HQ := Sd.mk hq
   have hq0 : 0 ≤ q := by omega
   have hqb : q + ((((((((((((0 + 1) + 1) + 1) + 1) + 1) + aK aX l[i].dG) + 1) + 1) + 1) + 1) + 1) + 1) ≤ 4611686018427387904 := by omega
   clear hq hle hle2 hb
   generalize hcn5 : aK aX l[i].dG = cn5 at *
   have HN5 := Sd.mk hcn5
   clear hcn5
   have HC5 := Sd.mk hC5
   clear hC5
   have HX := Sd.mk (Upd.refl No wr)
   go_wp2_with fail
   go_region_held3 (fun w' => w'.cell? ⟨(ad.add (i * 12)).block, (ad.add (i * 12)).off + 4, none⟩ = some (.string (mtx ((((q + 1) + 1) + 1) + 1)))) (first | exact a4 | exact hu_Name.read a4) (first | (go_at_call 83; (with_reducible refine (fV _ _ kO kO).mono ?_); rintro e w_Name ⟨rfl, hu_Name⟩))
   rename_i hH_Name
   clear hH_Name
   have HY : Sd (Upd No wr w_Name) := Sd.mk ((Upd.refl _ _).drew.then hu_Name)
   clear hu_Name
   replace a0 := HY.out.read a0
   replace a1 := HY.out.read a1
   replace a2 := HY.out.read a2
   replace a3 := HY.out.read a3
   replace a4 := HY.out.read a4
   replace a5 := HY.out.read a5
   replace a6 := HY.out.read a6
   replace a7 := HY.out.read a7
   replace a8 := HY.out.read a8
   replace a9 := HY.out.read a9
   replace a10 := HY.out.read a10
   replace a11 := HY.out.read a11
   replace HC5 := Sd.mk (aO HY.out HC5.out)
   replace HX := Sd.mk (HX.out.then HY.out)
   clear HY
   go_wp2_with fail
   with_reducible refine (heldS_Wire l[i].dG _ _ _ _ ?hc_Args kO (by rw [HN5.out]; omega)).mono ?_
   case hc_Args => exact HC5.out
   rintro e w_Args ⟨rfl, hu⟩
   rw [HN5.out]
   replace a0 := hu.read a0
   replace a1 := hu.read a1
   replace a2 := hu.read a2
   replace a3 := hu.read a3
   replace a4 := hu.read a4
   replace a5 := hu.read a5
   replace a6 := hu.read a6
   replace a7 := hu.read a7
   replace a8 := hu.read a8
   replace a9 := hu.read a9
   replace a10 := hu.read a10
   replace a11 := hu.read a11
   replace HC5 := Sd.mk (aO hu HC5.out)
   replace HX := Sd.mk (HX.out.then hu)
   clear hu
   go_wp2
   go_roundg (gk - 1)
   case measure => omega
   case rel => exact ⟨i + 1, by omega, by rw [HST.out]; simp only [bA]; have := HQ.out; have := HN5.out; exact congrArg (Value.int .i64) kO, by go_num, ⟨HU.out.then HX.out⟩⟩
  ·go_wp2
   go_ret
   have e : l.take i = l := List.take_of_length_le kO
   exact ⟨dL (by rw [e]), HU.out⟩
theorem ki_Outgoing_Kmk (w : World) (x : GOutgoing) {A6 : Option Addr} {c6 : Nat} (hl6 : x.Message.dG.length ≤ c6) (hC6 : C eP w A6 x.Message.dG) : cO.K w x [.int .i64 x.To, .int .i64 x.Message.Kind, .int .i64 x.Message.Pos, .int .i64 x.Message.Answer, .int .i64 x.Message.Question, .string x.Message.Name, .slice A6 x.Message.dG.length c6, .int .i64 x.Message.Value.Kind, .int .i64 x.Message.Value.N, .int .i64 x.Message.Count, .int .i64 x.Message.Tag.Vat, .int .i64 x.Message.Tag.Entity, .int .i64 x.Message.Tag.Seq] := ⟨[_], [_, _, _, _, _, _, _, _, _, _, _, _], rfl, rfl, (iX w _ hl6 hC6)⟩
theorem eq_Outgoing (x : GOutgoing) (cs cs' : List Value) (w : World) (h : cO.K w x cs) (h' : cO.K w x cs') : Calls Tryz.prog 172 #[.agg cs.toArray, .agg cs'.toArray] w (dD true w) := by
 obtain ⟨A6, c6, rfl, hl6, hC6⟩ := lF h
 have HC6 := Sd.mk hC6
 clear hC6
 obtain ⟨B6, b6, rfl, hm6, hD6⟩ := lF h'
 have HD6 := Sd.mk hD6
 clear hD6
 go_enter Tryz.func172, Tryz.ntmps172
 go_wp2_with fail
 with_reducible refine (eq_Message x.Message _ _ _ (iX _ _ hl6 ?hc_Message) (iX _ _ hm6 ?hd_Message)).mono ?_
 case hc_Message => exact aO kA HC6.out
 case hd_Message => exact aO kA HD6.out
 rintro e w_Message ⟨rfl, hu⟩
 have HB_Message : Sd (Upd No w w_Message) := Sd.mk (Upd.then kA hu)
 have cc0_Message := fun o => hu.bJ (b := w.heap.size) kB (fun q => q) o
 have cc1_Message := fun o => hu.bJ (b := w.heap.size + 1) kB (fun q => q) o
 have hz_Message : w.heap.size + 1 + 1 ≤ w_Message.heap.size := by have := hu.size; (try simp at this); omega
 clear hu
 go_wp2
 go_ret
 exact ⟨rfl, (by repeat (with_reducible first | exact HB_Message.out | apply Upd.bZ | apply Upd.bY | apply Upd.bW | apply Upd.alloc | apply Upd.drewN | apply Upd.drew))⟩
theorem eqS_Outgoing (l : List GOutgoing) (A A' : Option Addr) (c c' : Nat) (w : World) (h : C cO w A l) (h' : C cO w A' l) : Calls Tryz.prog 105 #[.slice A l.length c, .slice A' l.length c'] w (dD true w) := by
 have hn := h.1
 have H := Sd.mk h
 have H' := Sd.mk h'
 clear h h'
 go_enter Tryz.func105, Tryz.ntmps105
 go_wp2
 go_loopg [5] l.length (fun k v wr => ∃ i : Nat, i + k = l.length ∧ v = .int .i64 i ∧ Sd (Upd No w wr))
 case atStart => exact ⟨0, by omega, rfl, ⟨Upd.refl _ _⟩⟩
 case round =>
  obtain ⟨i, hi, rfl, HU⟩ := hrel
  by_cases hlt : i < l.length
  ·obtain ⟨ad, A6, c6, rfl, a0, a1, a2, a3, a4, a5, a6, a7, a8, a9, a10, a11, a12, hl6, hC6⟩ := kU (aO HU.out H.out) i hlt
   obtain ⟨ad', B6, b6, rfl, z0, z1, z2, z3, z4, z5, z6, z7, z8, z9, z10, z11, z12, hm6, hD6⟩ := kU (aO HU.out H'.out) i hlt
   have HC6 := Sd.mk hC6
   have HD6 := Sd.mk hD6
   clear hC6 hD6
   go_wp2_with fail
   go_still_tail 8, kR
   change wpList _ _ _ _ _ wr.drew
   have HW : Sd (Upd No wr wr.drew) := ⟨(Upd.refl _ _).drew⟩
   have HU2 : Sd (Upd No w wr.drew) := ⟨HU.out.drew⟩
   generalize wr.drew = w2 at *
   go_wp2_with (go_at_call 172; (with_reducible refine (eq_Outgoing l[i] _ _ _ (ki_Outgoing_Kmk _ _ hl6 (aO HW.out HC6.out)) (ki_Outgoing_Kmk _ _ hm6 (aO HW.out HD6.out))).mono ?_); rintro e w' ⟨rfl, hu⟩)
   have HU3 := Sd.mk (HU2.out.then hu)
   clear HU2 hu
   go_wp2
   go_roundg (gk - 1)
   case measure => omega
   case rel => exact ⟨i + 1, by omega, by go_num, HU3⟩
  ·go_wp2
   go_ret
   exact ⟨rfl, HU.out⟩
theorem markS_Outgoing (l : List GOutgoing) (k : Int) (F : Nat → Prop) (v : Value) (w : World) (h : R cO 147 w F v l) (hk : 0 ≤ k) (hb : k + aK aV l ≤ 4611686018427387904) : Calls Tryz.prog 110 #[v, .int .i64 k] w (Marks cO 147 F v (k + aK aV l) (mkS fH aV k l) w) := by
 obtain ⟨A, c, rfl⟩ := bK h
 have hn := R_len h
 have H := Sd.mk h
 clear h
 go_enter Tryz.func110, Tryz.ntmps110
 go_wp2
 go_loopg [1, 5] l.length (fun r u v wr => ∃ i : Nat, i + r = l.length ∧ u = .int .i64 (k + aK aV (l.take i)) ∧ v = .int .i64 i ∧ Sd (R cO 147 wr F (.slice A l.length c) (upTo (mkS fH aV k l) l i)) ∧ Sd (Upd F w wr))
 case atStart => exact ⟨0, by omega, by simp [aK], rfl, ⟨by rw [eD]; exact H.out⟩, ⟨Upd.refl _ _⟩⟩
 case round =>
  obtain ⟨i, hi, rfl, rfl, HR, HU⟩ := hrel
  by_cases hlt : i < l.length
  ·have hle := bL aV fU l i
   have hst := cB aV l i hlt
   have hle2 := bL aV fU l (i + 1)
   rw [hst] at hle2
   have HST := Sd.mk hst
   clear hst
   have HMA := Sd.mk (eO fH aV l k i hlt)
   obtain ⟨g, cap, cur, ce, Fi, hv, hcap, hat, hM, hg, hFi, hFg, close⟩ := iH HR.out 13 l.length rfl (fC (aM _ _ _ _) kO) i l[i] (gB (aM _ _ _ _) hlt)
   cases hv
   obtain ⟨v6, P6, rfl, hR6, i6⟩ := ki_Outgoing_M hM
   obtain ⟨B6, b6, rfl⟩ := bK hR6
   have HR6 := Sd.mk hR6
   have I6 := Sd.mk i6
   have N6 : ¬ P6 g := fun q => hFg (i6 g q)
   clear hR6 i6
   have nn6 := bN aX gG l[i].Message.dG
   have HCN : Sd (aV l[i] = aV l[i]) := ⟨rfl⟩
   simp only [aV] at hle2
   generalize hq : k + aK aV (l.take i) = q at *
   have HQ := Sd.mk hq
   have hq0 : 0 ≤ q := by omega
   have hqb : q + (((((((((((((0 + 1) + 1) + 1) + 1) + 1) + 1) + aK aX l[i].Message.dG) + 1) + 1) + 1) + 1) + 1) + 1) ≤ 4611686018427387904 := by omega
   clear hq hle hle2 hb
   generalize hcn6 : aK aX l[i].Message.dG = cn6 at *
   have HC6 := Sd.mk hcn6
   clear hcn6
   have HAT := Sd.mk hat
   have x0_s := hat.cell0 _ rfl
   have x1_s := hat.cell 1 _ rfl
   have x2_s := hat.cell 2 _ rfl
   have x3_s := hat.cell 3 _ rfl
   have x4_s := hat.cell 4 _ rfl
   have x5_s := hat.cell 5 _ rfl
   have x6_s := hat.cell 6 _ rfl
   have x7_s := hat.cell 7 _ rfl
   have x8_s := hat.cell 8 _ rfl
   have x9_s := hat.cell 9 _ rfl
   have x10_s := hat.cell 10 _ rfl
   have x11_s := hat.cell 11 _ rfl
   have x12_s := hat.cell 12 _ rfl
   have f0_s := hat.free (i * 13)
   have f1_s := hat.free (i * 13 + 1)
   have f2_s := hat.free (i * 13 + 2)
   have f3_s := hat.free (i * 13 + 3)
   have f4_s := hat.free (i * 13 + 4)
   have f5_s := hat.free (i * 13 + 5)
   have f6_s := hat.free (i * 13 + 6)
   have f7_s := hat.free (i * 13 + 7)
   have f8_s := hat.free (i * 13 + 8)
   have f9_s := hat.free (i * 13 + 9)
   have f10_s := hat.free (i * 13 + 10)
   have f11_s := hat.free (i * 13 + 11)
   have f12_s := hat.free (i * 13 + 12)
   have CL := Sd.mk close
   clear hat close hM HR
   go_wp2_with fail
   with_reducible refine (fV _ _ kO kO).mono ?_
   rintro e w_Message_Name ⟨rfl, hu⟩
   replace HR6 := Sd.mk (bH hu (fun _ _ q => q) (bH (G := fun b => b = g) kC (fun b hb hg' => N6 (hg' ▸ hb)) HR6.out))
   replace HAT := Sd.mk ((((((HAT.out.set0 kD (.int .i64 (q))).set 1 kD (.int .i64 ((q + 1)))).set 2 kD (.int .i64 (((q + 1) + 1)))).set 3 kD (.int .i64 ((((q + 1) + 1) + 1)))).set 4 kD (.int .i64 (((((q + 1) + 1) + 1) + 1)))).call hu (fun _ q => q.elim) hFg)
   clear hu x0_s f0_s x1_s f1_s x2_s f2_s x3_s f3_s x4_s f4_s x5_s f5_s x6_s f6_s x7_s f7_s x8_s f8_s x9_s f9_s x10_s f10_s x11_s f11_s x12_s f12_s
   have x0_Message_Name := HAT.out.cell0 _ rfl
   have x1_Message_Name := HAT.out.cell 1 _ rfl
   have x2_Message_Name := HAT.out.cell 2 _ rfl
   have x3_Message_Name := HAT.out.cell 3 _ rfl
   have x4_Message_Name := HAT.out.cell 4 _ rfl
   have x5_Message_Name := HAT.out.cell 5 _ rfl
   have x6_Message_Name := HAT.out.cell 6 _ rfl
   have x7_Message_Name := HAT.out.cell 7 _ rfl
   have x8_Message_Name := HAT.out.cell 8 _ rfl
   have x9_Message_Name := HAT.out.cell 9 _ rfl
   have x10_Message_Name := HAT.out.cell 10 _ rfl
   have x11_Message_Name := HAT.out.cell 11 _ rfl
   have x12_Message_Name := HAT.out.cell 12 _ rfl
   have f0_Message_Name := HAT.out.free (i * 13)
   have f1_Message_Name := HAT.out.free (i * 13 + 1)
   have f2_Message_Name := HAT.out.free (i * 13 + 2)
   have f3_Message_Name := HAT.out.free (i * 13 + 3)
   have f4_Message_Name := HAT.out.free (i * 13 + 4)
   have f5_Message_Name := HAT.out.free (i * 13 + 5)
   have f6_Message_Name := HAT.out.free (i * 13 + 6)
   have f7_Message_Name := HAT.out.free (i * 13 + 7)
   have f8_Message_Name := HAT.out.free (i * 13 + 8)
   have f9_Message_Name := HAT.out.free (i * 13 + 9)
   have f10_Message_Name := HAT.out.free (i * 13 + 10)
   have f11_Message_Name := HAT.out.free (i * 13 + 11)
   have f12_Message_Name := HAT.out.free (i * 13 + 12)
   go_wp2_with fail
   with_reducible refine (markS_Wire l[i].Message.dG _ P6 _ _ ?hr_Message_Args kO (by rw [HC6.out]; omega)).mono ?_
   case hr_Message_Args => exact (bH (G := fun b => b = g) kC (fun b hb hg' => N6 (hg' ▸ hb)) HR6.out)
   rintro e w_Message_Args ⟨rfl, hR6, hu⟩
   rw [HC6.out]
   replace HR6 := Sd.mk hR6
   replace HAT := Sd.mk ((HAT.out.set 5 kD (.string (mtx ((((((q + 1) + 1) + 1) + 1) + 1))))).call hu I6.out hFg)
   clear hR6
   clear hu x0_Message_Name f0_Message_Name x1_Message_Name f1_Message_Name x2_Message_Name f2_Message_Name x3_Message_Name f3_Message_Name x4_Message_Name f4_Message_Name x5_Message_Name f5_Message_Name x6_Message_Name f6_Message_Name x7_Message_Name f7_Message_Name x8_Message_Name f8_Message_Name x9_Message_Name f9_Message_Name x10_Message_Name f10_Message_Name x11_Message_Name f11_Message_Name x12_Message_Name f12_Message_Name
   have x0_Message_Args := HAT.out.cell0 _ rfl
   have x1_Message_Args := HAT.out.cell 1 _ rfl
   have x2_Message_Args := HAT.out.cell 2 _ rfl
   have x3_Message_Args := HAT.out.cell 3 _ rfl
   have x4_Message_Args := HAT.out.cell 4 _ rfl
   have x5_Message_Args := HAT.out.cell 5 _ rfl
   have x6_Message_Args := HAT.out.cell 6 _ rfl
   have x7_Message_Args := HAT.out.cell 7 _ rfl
   have x8_Message_Args := HAT.out.cell 8 _ rfl
   have x9_Message_Args := HAT.out.cell 9 _ rfl
   have x10_Message_Args := HAT.out.cell 10 _ rfl
   have x11_Message_Args := HAT.out.cell 11 _ rfl
   have x12_Message_Args := HAT.out.cell 12 _ rfl
   have f0_Message_Args := HAT.out.free (i * 13)
   have f1_Message_Args := HAT.out.free (i * 13 + 1)
   have f2_Message_Args := HAT.out.free (i * 13 + 2)
   have f3_Message_Args := HAT.out.free (i * 13 + 3)
   have f4_Message_Args := HAT.out.free (i * 13 + 4)
   have f5_Message_Args := HAT.out.free (i * 13 + 5)
   have f6_Message_Args := HAT.out.free (i * 13 + 6)
   have f7_Message_Args := HAT.out.free (i * 13 + 7)
   have f8_Message_Args := HAT.out.free (i * 13 + 8)
   have f9_Message_Args := HAT.out.free (i * 13 + 9)
   have f10_Message_Args := HAT.out.free (i * 13 + 10)
   have f11_Message_Args := HAT.out.free (i * 13 + 11)
   have f12_Message_Args := HAT.out.free (i * 13 + 12)
   go_wp2
   have HA := ((((((HAT.out.set 7 kD (.int .i64 ((((((((q + 1) + 1) + 1) + 1) + 1) + 1) + cn6)))).set 8 kD (.int .i64 (((((((((q + 1) + 1) + 1) + 1) + 1) + 1) + cn6) + 1)))).set 9 kD (.int .i64 ((((((((((q + 1) + 1) + 1) + 1) + 1) + 1) + cn6) + 1) + 1)))).set 10 kD (.int .i64 (((((((((((q + 1) + 1) + 1) + 1) + 1) + 1) + cn6) + 1) + 1) + 1)))).set 11 kD (.int .i64 ((((((((((((q + 1) + 1) + 1) + 1) + 1) + 1) + cn6) + 1) + 1) + 1) + 1)))).set 12 kD (.int .i64 (((((((((((((q + 1) + 1) + 1) + 1) + 1) + 1) + cn6) + 1) + 1) + 1) + 1) + 1))))
   have hy : (⟨q, ⟨(q + 1), ((q + 1) + 1), (((q + 1) + 1) + 1), ((((q + 1) + 1) + 1) + 1), mtx ((((((q + 1) + 1) + 1) + 1) + 1)), mkS iC aX ((((((q + 1) + 1) + 1) + 1) + 1) + 1) l[i].Message.dG, ⟨(((((((q + 1) + 1) + 1) + 1) + 1) + 1) + cn6), ((((((((q + 1) + 1) + 1) + 1) + 1) + 1) + cn6) + 1)⟩, (((((((((q + 1) + 1) + 1) + 1) + 1) + 1) + cn6) + 1) + 1), ⟨((((((((((q + 1) + 1) + 1) + 1) + 1) + 1) + cn6) + 1) + 1) + 1), (((((((((((q + 1) + 1) + 1) + 1) + 1) + 1) + cn6) + 1) + 1) + 1) + 1), ((((((((((((q + 1) + 1) + 1) + 1) + 1) + 1) + cn6) + 1) + 1) + 1) + 1) + 1)⟩⟩⟩ : GOutgoing) = (mkS fH aV k l)[i]'(by rw [aM]; exact hlt) := by rw [HMA.out]; simp only [fH, HC6.out]
   have HRowB := CL.out _ _ (⟨q, ⟨(q + 1), ((q + 1) + 1), (((q + 1) + 1) + 1), ((((q + 1) + 1) + 1) + 1), mtx ((((((q + 1) + 1) + 1) + 1) + 1)), mkS iC aX ((((((q + 1) + 1) + 1) + 1) + 1) + 1) l[i].Message.dG, ⟨(((((((q + 1) + 1) + 1) + 1) + 1) + 1) + cn6), ((((((((q + 1) + 1) + 1) + 1) + 1) + 1) + cn6) + 1)⟩, (((((((((q + 1) + 1) + 1) + 1) + 1) + 1) + cn6) + 1) + 1), ⟨((((((((((q + 1) + 1) + 1) + 1) + 1) + 1) + cn6) + 1) + 1) + 1), (((((((((((q + 1) + 1) + 1) + 1) + 1) + 1) + cn6) + 1) + 1) + 1) + 1), ((((((((((((q + 1) + 1) + 1) + 1) + 1) + 1) + cn6) + 1) + 1) + 1) + 1) + 1)⟩⟩⟩ : GOutgoing) Fi F HA (ki_Outgoing_mk _ Fi (⟨q, ⟨(q + 1), ((q + 1) + 1), (((q + 1) + 1) + 1), ((((q + 1) + 1) + 1) + 1), mtx ((((((q + 1) + 1) + 1) + 1) + 1)), mkS iC aX ((((((q + 1) + 1) + 1) + 1) + 1) + 1) l[i].Message.dG, ⟨(((((((q + 1) + 1) + 1) + 1) + 1) + 1) + cn6), ((((((((q + 1) + 1) + 1) + 1) + 1) + 1) + cn6) + 1)⟩, (((((((((q + 1) + 1) + 1) + 1) + 1) + 1) + cn6) + 1) + 1), ⟨((((((((((q + 1) + 1) + 1) + 1) + 1) + 1) + cn6) + 1) + 1) + 1), (((((((((((q + 1) + 1) + 1) + 1) + 1) + 1) + cn6) + 1) + 1) + 1) + 1), ((((((((((((q + 1) + 1) + 1) + 1) + 1) + 1) + cn6) + 1) + 1) + 1) + 1) + 1)⟩⟩⟩ : GOutgoing) (bH (G := fun b => b = g) kC (fun b hb hg' => N6 (hg' ▸ hb)) HR6.out) I6.out) (fun _ hb => .inl hb) (fun _ hb => hb) hFi
   rw [hy, fD (aM _ _ _ _) hlt] at HRowB
   go_roundg (gk - 1)
   case measure => omega
   case rel => exact ⟨i + 1, by omega, by rw [HST.out]; simp only [aV]; have := HQ.out; have := HC6.out; exact congrArg (Value.int .i64) kO, by go_num, ⟨HRowB⟩, ⟨HU.out.trans HA.upd (fun _ _ hb => hb) (fun b _ hb => by rcases hb with rfl | hb; exact hg; exact hFi b hb)⟩⟩
  ·go_wp2
   go_ret
   have HRowB := HR.out
   rw [fB (aM _ _ _ _) kO] at HRowB
   have e : l.take i = l := List.take_of_length_le kO
   exact ⟨dL (by rw [e]), HRowB, HU.out⟩
theorem heldS_Outgoing (l : List GOutgoing) (k : Int) (A : Option Addr) (c : Nat) (w : World) (h : C cO w A (mkS fH aV k l)) (hk : 0 ≤ k) (hb : k + aK aV l ≤ 4611686018427387904) : Calls Tryz.prog 114 #[.slice A l.length c, .int .i64 k] w (gN (k + aK aV l) w) := by
 have hn := h.1
 rw [aM] at hn
 have H := Sd.mk h
 clear h
 go_enter Tryz.func114, Tryz.ntmps114
 go_wp2
 go_loopg [1, 5] l.length (fun r u v wr => ∃ i : Nat, i + r = l.length ∧ u = .int .i64 (k + aK aV (l.take i)) ∧ v = .int .i64 i ∧ Sd (Upd No w wr))
 case atStart => exact ⟨0, by omega, by simp [aK], rfl, ⟨Upd.refl _ _⟩⟩
 case round =>
  obtain ⟨i, hi, rfl, rfl, HU⟩ := hrel
  by_cases hlt : i < l.length
  ·have hle := bL aV fU l i
   have hst := cB aV l i hlt
   have hle2 := bL aV fU l (i + 1)
   rw [hst] at hle2
   have HST := Sd.mk hst
   clear hst
   obtain ⟨ad, A6, c6, rfl, a0, a1, a2, a3, a4, a5, a6, a7, a8, a9, a10, a11, a12, hl6, hC6⟩ := kU (aO HU.out H.out) i (by rw [aM]; exact hlt)
   rw [eO fH aV l k i hlt] at a0 a1 a2 a3 a4 a5 a6 a7 a8 a9 a10 a11 a12 hl6 hC6
   simp only [fH, aM] at a0 a1 a2 a3 a4 a5 a6 a7 a8 a9 a10 a11 a12 hl6 hC6
   have nn6 := bN aX gG l[i].Message.dG
   simp only [aV] at hle2
   generalize hq : k + aK aV (l.take i) = q at *
   have HQ := Sd.mk hq
   have hq0 : 0 ≤ q := by omega
   have hqb : q + (((((((((((((0 + 1) + 1) + 1) + 1) + 1) + 1) + aK aX l[i].Message.dG) + 1) + 1) + 1) + 1) + 1) + 1) ≤ 4611686018427387904 := by omega
   clear hq hle hle2 hb
   generalize hcn6 : aK aX l[i].Message.dG = cn6 at *
   have HN6 := Sd.mk hcn6
   clear hcn6
   have HC6 := Sd.mk hC6
   clear hC6
   have HX := Sd.mk (Upd.refl No wr)
   go_wp2_with fail
   go_region_held3 (fun w' => w'.cell? ⟨(ad.add (i * 13)).block, (ad.add (i * 13)).off + 5, none⟩ = some (.string (mtx (((((q + 1) + 1) + 1) + 1) + 1)))) (first | exact a5 | exact hu_Message_Name.read a5) (first | (go_at_call 83; (with_reducible refine (fV _ _ kO kO).mono ?_); rintro e w_Message_Name ⟨rfl, hu_Message_Name⟩))
   rename_i hH_Message_Name
   clear hH_Message_Name
   have HY : Sd (Upd No wr w_Message_Name) := Sd.mk ((Upd.refl _ _).drew.then hu_Message_Name)
   clear hu_Message_Name
   replace a0 := HY.out.read a0
   replace a1 := HY.out.read a1
   replace a2 := HY.out.read a2
   replace a3 := HY.out.read a3
   replace a4 := HY.out.read a4
   replace a5 := HY.out.read a5
   replace a6 := HY.out.read a6
   replace a7 := HY.out.read a7
   replace a8 := HY.out.read a8
   replace a9 := HY.out.read a9
   replace a10 := HY.out.read a10
   replace a11 := HY.out.read a11
   replace a12 := HY.out.read a12
   replace HC6 := Sd.mk (aO HY.out HC6.out)
   replace HX := Sd.mk (HX.out.then HY.out)
   clear HY
   go_wp2_with fail
   with_reducible refine (heldS_Wire l[i].Message.dG _ _ _ _ ?hc_Message_Args kO (by rw [HN6.out]; omega)).mono ?_
   case hc_Message_Args => exact HC6.out
   rintro e w_Message_Args ⟨rfl, hu⟩
   rw [HN6.out]
   replace a0 := hu.read a0
   replace a1 := hu.read a1
   replace a2 := hu.read a2
   replace a3 := hu.read a3
   replace a4 := hu.read a4
   replace a5 := hu.read a5
   replace a6 := hu.read a6
   replace a7 := hu.read a7
   replace a8 := hu.read a8
   replace a9 := hu.read a9
   replace a10 := hu.read a10
   replace a11 := hu.read a11
   replace a12 := hu.read a12
   replace HC6 := Sd.mk (aO hu HC6.out)
   replace HX := Sd.mk (HX.out.then hu)
   clear hu
   go_wp2
   go_roundg (gk - 1)
   case measure => omega
   case rel => exact ⟨i + 1, by omega, by rw [HST.out]; simp only [aV]; have := HQ.out; have := HN6.out; exact congrArg (Value.int .i64) kO, by go_num, ⟨HU.out.then HX.out⟩⟩
  ·go_wp2
   go_ret
   have e : l.take i = l := List.take_of_length_le kO
   exact ⟨dL (by rw [e]), HU.out⟩
theorem ki_Vat_Kmk (w : World) (x : GVat) {A1 : Option Addr} {c1 : Nat} (hl1 : x.dH.length ≤ c1) (hC1 : C aS w A1 x.dH) {A2 : Option Addr} {c2 : Nat} (hl2 : x.Loop.length ≤ c2) (hC2 : C bR w A2 x.Loop) {A3 : Option Addr} {c3 : Nat} (hl3 : x.gK.length ≤ c3) (hC3 : C bB w A3 x.gK) {A4 : Option Addr} {c4 : Nat} (hl4 : x.Out.length ≤ c4) (hC4 : C cO w A4 x.Out) : dK.K w x [.int .i64 x.Id, .slice A1 x.dH.length c1, .slice A2 x.Loop.length c2, .slice A3 x.gK.length c3, .slice A4 x.Out.length c4] := ⟨[_], [_, _, _, _], rfl, rfl, ⟨[_], [_, _, _], rfl, ⟨A1, c1, rfl, hl1, hC1⟩, ⟨[_], [_, _], rfl, ⟨A2, c2, rfl, hl2, hC2⟩, ⟨[_], [_], rfl, ⟨A3, c3, rfl, hl3, hC3⟩, ⟨A4, c4, rfl, hl4, hC4⟩⟩⟩⟩⟩
theorem eq_Vat (x : GVat) (cs cs' : List Value) (w : World) (h : dK.K w x cs) (h' : dK.K w x cs') : Calls Tryz.prog 30 #[.agg cs.toArray, .agg cs'.toArray] w (dD true w) := by
 obtain ⟨A1, c1, A2, c2, A3, c3, A4, c4, rfl, hl1, hC1, hl2, hC2, hl3, hC3, hl4, hC4⟩ := ki_Vat_K h
 have HC1 := Sd.mk hC1
 have HC2 := Sd.mk hC2
 have HC3 := Sd.mk hC3
 have HC4 := Sd.mk hC4
 clear hC1 hC2 hC3 hC4
 obtain ⟨B1, b1, B2, b2, B3, b3, B4, b4, rfl, hm1, hD1, hm2, hD2, hm3, hD3, hm4, hD4⟩ := ki_Vat_K h'
 have HD1 := Sd.mk hD1
 have HD2 := Sd.mk hD2
 have HD3 := Sd.mk hD3
 have HD4 := Sd.mk hD4
 clear hD1 hD2 hD3 hD4
 go_enter Tryz.func30, Tryz.ntmps30
 go_wp2_with fail
 with_reducible refine (eqS_Entity x.dH _ _ _ _ _ ?hc_Entities ?hd_Entities).mono ?_
 case hc_Entities => exact aO kA HC1.out
 case hd_Entities => exact aO kA HD1.out
 rintro e w_Entities ⟨rfl, hu⟩
 have HB_Entities : Sd (Upd No w w_Entities) := Sd.mk (Upd.then kA hu)
 have cc0_Entities := fun o => hu.bJ (b := w.heap.size) kB (fun q => q) o
 have cc1_Entities := fun o => hu.bJ (b := w.heap.size + 1) kB (fun q => q) o
 have hz_Entities : w.heap.size + 1 + 1 ≤ w_Entities.heap.size := by have := hu.size; (try simp at this); omega
 clear hu
 go_wp2_with fail
 with_reducible refine (eqS_Sent x.Loop _ _ _ _ _ ?hc_Loop ?hd_Loop).mono ?_
 case hc_Loop => exact aO (by repeat (with_reducible first | exact HB_Entities.out | apply Upd.bZ | apply Upd.bY | apply Upd.bW | apply Upd.alloc | apply Upd.drewN | apply Upd.drew)) HC2.out
 case hd_Loop => exact aO (by repeat (with_reducible first | exact HB_Entities.out | apply Upd.bZ | apply Upd.bY | apply Upd.bW | apply Upd.alloc | apply Upd.drewN | apply Upd.drew)) HD2.out
 rintro e w_Loop ⟨rfl, hu⟩
 have HB_Loop : Sd (Upd No w w_Loop) := Sd.mk (Upd.then (by repeat (with_reducible first | exact HB_Entities.out | apply Upd.bZ | apply Upd.bY | apply Upd.bW | apply Upd.alloc | apply Upd.drewN | apply Upd.drew)) hu)
 have cc0_Loop := fun o => hu.bJ (b := w.heap.size) kB (fun q => q) o
 have cc1_Loop := fun o => hu.bJ (b := w.heap.size + 1) kB (fun q => q) o
 have hz_Loop : w.heap.size + 1 + 1 ≤ w_Loop.heap.size := by have := hu.size; (try simp at this); omega
 clear hu
 go_wp2_with fail
 with_reducible refine (eqS_Link x.gK _ _ _ _ _ ?hc_Links ?hd_Links).mono ?_
 case hc_Links => exact aO (by repeat (with_reducible first | exact HB_Loop.out | apply Upd.bZ | apply Upd.bY | apply Upd.bW | apply Upd.alloc | apply Upd.drewN | apply Upd.drew)) HC3.out
 case hd_Links => exact aO (by repeat (with_reducible first | exact HB_Loop.out | apply Upd.bZ | apply Upd.bY | apply Upd.bW | apply Upd.alloc | apply Upd.drewN | apply Upd.drew)) HD3.out
 rintro e w_Links ⟨rfl, hu⟩
 have HB_Links : Sd (Upd No w w_Links) := Sd.mk (Upd.then (by repeat (with_reducible first | exact HB_Loop.out | apply Upd.bZ | apply Upd.bY | apply Upd.bW | apply Upd.alloc | apply Upd.drewN | apply Upd.drew)) hu)
 have cc0_Links := fun o => hu.bJ (b := w.heap.size) kB (fun q => q) o
 have cc1_Links := fun o => hu.bJ (b := w.heap.size + 1) kB (fun q => q) o
 have hz_Links : w.heap.size + 1 + 1 ≤ w_Links.heap.size := by have := hu.size; (try simp at this); omega
 clear hu
 go_wp2_with fail
 with_reducible refine (eqS_Outgoing x.Out _ _ _ _ _ ?hc_Out ?hd_Out).mono ?_
 case hc_Out => exact aO (by repeat (with_reducible first | exact HB_Links.out | apply Upd.bZ | apply Upd.bY | apply Upd.bW | apply Upd.alloc | apply Upd.drewN | apply Upd.drew)) HC4.out
 case hd_Out => exact aO (by repeat (with_reducible first | exact HB_Links.out | apply Upd.bZ | apply Upd.bY | apply Upd.bW | apply Upd.alloc | apply Upd.drewN | apply Upd.drew)) HD4.out
 rintro e w_Out ⟨rfl, hu⟩
 have HB_Out : Sd (Upd No w w_Out) := Sd.mk (Upd.then (by repeat (with_reducible first | exact HB_Links.out | apply Upd.bZ | apply Upd.bY | apply Upd.bW | apply Upd.alloc | apply Upd.drewN | apply Upd.drew)) hu)
 have cc0_Out := fun o => hu.bJ (b := w.heap.size) kB (fun q => q) o
 have cc1_Out := fun o => hu.bJ (b := w.heap.size + 1) kB (fun q => q) o
 have hz_Out : w.heap.size + 1 + 1 ≤ w_Out.heap.size := by have := hu.size; (try simp at this); omega
 clear hu
 go_wp2
 go_ret
 exact ⟨rfl, (by repeat (with_reducible first | exact HB_Out.out | apply Upd.bZ | apply Upd.bY | apply Upd.bW | apply Upd.alloc | apply Upd.drewN | apply Upd.drew))⟩
theorem eqS_Vat (l : List GVat) (A A' : Option Addr) (c c' : Nat) (w : World) (h : C dK w A l) (h' : C dK w A' l) : Calls Tryz.prog 62 #[.slice A l.length c, .slice A' l.length c'] w (dD true w) := by
 have hn := h.1
 have H := Sd.mk h
 have H' := Sd.mk h'
 clear h h'
 go_enter Tryz.func62, Tryz.ntmps62
 go_wp2
 go_loopg [5] l.length (fun k v wr => ∃ i : Nat, i + k = l.length ∧ v = .int .i64 i ∧ Sd (Upd No w wr))
 case atStart => exact ⟨0, by omega, rfl, ⟨Upd.refl _ _⟩⟩
 case round =>
  obtain ⟨i, hi, rfl, HU⟩ := hrel
  by_cases hlt : i < l.length
  ·obtain ⟨ad, A1, c1, A2, c2, A3, c3, A4, c4, rfl, a0, a1, a2, a3, a4, hl1, hC1, hl2, hC2, hl3, hC3, hl4, hC4⟩ := ki_Vat_at (aO HU.out H.out) i hlt
   obtain ⟨ad', B1, b1, B2, b2, B3, b3, B4, b4, rfl, z0, z1, z2, z3, z4, hm1, hD1, hm2, hD2, hm3, hD3, hm4, hD4⟩ := ki_Vat_at (aO HU.out H'.out) i hlt
   have HC1 := Sd.mk hC1
   have HD1 := Sd.mk hD1
   clear hC1 hD1
   have HC2 := Sd.mk hC2
   have HD2 := Sd.mk hD2
   clear hC2 hD2
   have HC3 := Sd.mk hC3
   have HD3 := Sd.mk hD3
   clear hC3 hD3
   have HC4 := Sd.mk hC4
   have HD4 := Sd.mk hD4
   clear hC4 hD4
   go_wp2_with fail
   go_still_tail 8, kR
   change wpList _ _ _ _ _ wr.drew
   have HW : Sd (Upd No wr wr.drew) := ⟨(Upd.refl _ _).drew⟩
   have HU2 : Sd (Upd No w wr.drew) := ⟨HU.out.drew⟩
   generalize wr.drew = w2 at *
   go_wp2_with (go_at_call 30; (with_reducible refine (eq_Vat l[i] _ _ _ (ki_Vat_Kmk _ _ hl1 (aO HW.out HC1.out) hl2 (aO HW.out HC2.out) hl3 (aO HW.out HC3.out) hl4 (aO HW.out HC4.out)) (ki_Vat_Kmk _ _ hm1 (aO HW.out HD1.out) hm2 (aO HW.out HD2.out) hm3 (aO HW.out HD3.out) hm4 (aO HW.out HD4.out))).mono ?_); rintro e w' ⟨rfl, hu⟩)
   have HU3 := Sd.mk (HU2.out.then hu)
   clear HU2 hu
   go_wp2
   go_roundg (gk - 1)
   case measure => omega
   case rel => exact ⟨i + 1, by omega, by go_num, HU3⟩
  ·go_wp2
   go_ret
   exact ⟨rfl, HU.out⟩
theorem markS_Vat (l : List GVat) (k : Int) (F : Nat → Prop) (v : Value) (w : World) (h : R dK 68 w F v l) (hk : 0 ≤ k) (hb : k + aK dB l ≤ 4611686018427387904) : Calls Tryz.prog 65 #[v, .int .i64 k] w (Marks dK 68 F v (k + aK dB l) (mkS mk_Vat dB k l) w) := by
 obtain ⟨A, c, rfl⟩ := bK h
 have hn := R_len h
 have H := Sd.mk h
 clear h
 go_enter Tryz.func65, Tryz.ntmps65
 go_wp2
 go_loopg [1, 5] l.length (fun r u v wr => ∃ i : Nat, i + r = l.length ∧ u = .int .i64 (k + aK dB (l.take i)) ∧ v = .int .i64 i ∧ Sd (R dK 68 wr F (.slice A l.length c) (upTo (mkS mk_Vat dB k l) l i)) ∧ Sd (Upd F w wr))
 case atStart => exact ⟨0, by omega, by simp [aK], rfl, ⟨by rw [eD]; exact H.out⟩, ⟨Upd.refl _ _⟩⟩
 case round =>
  obtain ⟨i, hi, rfl, rfl, HR, HU⟩ := hrel
  by_cases hlt : i < l.length
  ·have hle := bL dB jJ l i
   have hst := cB dB l i hlt
   have hle2 := bL dB jJ l (i + 1)
   rw [hst] at hle2
   have HST := Sd.mk hst
   clear hst
   have HMA := Sd.mk (eO mk_Vat dB l k i hlt)
   obtain ⟨g, cap, cur, ce, Fi, hv, hcap, hat, hM, hg, hFi, hFg, close⟩ := iH HR.out 5 l.length rfl (fC (aM _ _ _ _) kO) i l[i] (gB (aM _ _ _ _) hlt)
   cases hv
   obtain ⟨v1, P1, v2, P2, v3, P3, v4, P4, rfl, hR1, hR2, hR3, hR4, i1, i2, i3, i4, d1_2, d1_3, d1_4, d2_3, d2_4, d3_4⟩ := ki_Vat_M hM
   obtain ⟨B1, b1, rfl⟩ := bK hR1
   have HR1 := Sd.mk hR1
   have I1 := Sd.mk i1
   have N1 : ¬ P1 g := fun q => hFg (i1 g q)
   clear hR1 i1
   have nn1 := bN bG gZ l[i].dH
   obtain ⟨B2, b2, rfl⟩ := bK hR2
   have HR2 := Sd.mk hR2
   have I2 := Sd.mk i2
   have N2 : ¬ P2 g := fun q => hFg (i2 g q)
   clear hR2 i2
   have nn2 := bN bC gF l[i].Loop
   obtain ⟨B3, b3, rfl⟩ := bK hR3
   have HR3 := Sd.mk hR3
   have I3 := Sd.mk i3
   have N3 : ¬ P3 g := fun q => hFg (i3 g q)
   clear hR3 i3
   have nn3 := bN bQ iV l[i].gK
   obtain ⟨B4, b4, rfl⟩ := bK hR4
   have HR4 := Sd.mk hR4
   have I4 := Sd.mk i4
   have N4 : ¬ P4 g := fun q => hFg (i4 g q)
   clear hR4 i4
   have nn4 := bN aV fU l[i].Out
   have D1_2 := Sd.mk d1_2
   clear d1_2
   have D1_3 := Sd.mk d1_3
   clear d1_3
   have D1_4 := Sd.mk d1_4
   clear d1_4
   have D2_3 := Sd.mk d2_3
   clear d2_3
   have D2_4 := Sd.mk d2_4
   clear d2_4
   have D3_4 := Sd.mk d3_4
   clear d3_4
   have HCN : Sd (dB l[i] = dB l[i]) := ⟨rfl⟩
   simp only [dB] at hle2
   generalize hq : k + aK dB (l.take i) = q at *
   have HQ := Sd.mk hq
   have hq0 : 0 ≤ q := by omega
   have hqb : q + (((((0 + 1) + aK bG l[i].dH) + aK bC l[i].Loop) + aK bQ l[i].gK) + aK aV l[i].Out) ≤ 4611686018427387904 := by omega
   clear hq hle hle2 hb
   generalize hcn1 : aK bG l[i].dH = cn1 at *
   have HC1 := Sd.mk hcn1
   clear hcn1
   generalize hcn2 : aK bC l[i].Loop = cn2 at *
   have HC2 := Sd.mk hcn2
   clear hcn2
   generalize hcn3 : aK bQ l[i].gK = cn3 at *
   have HC3 := Sd.mk hcn3
   clear hcn3
   generalize hcn4 : aK aV l[i].Out = cn4 at *
   have HC4 := Sd.mk hcn4
   clear hcn4
   have HAT := Sd.mk hat
   have x0_s := hat.cell0 _ rfl
   have x1_s := hat.cell 1 _ rfl
   have x2_s := hat.cell 2 _ rfl
   have x3_s := hat.cell 3 _ rfl
   have x4_s := hat.cell 4 _ rfl
   have f0_s := hat.free (i * 5)
   have f1_s := hat.free (i * 5 + 1)
   have f2_s := hat.free (i * 5 + 2)
   have f3_s := hat.free (i * 5 + 3)
   have f4_s := hat.free (i * 5 + 4)
   have CL := Sd.mk close
   clear hat close hM HR
   go_wp2_with fail
   with_reducible refine (markS_Entity l[i].dH _ P1 _ _ ?hr_Entities kO (by rw [HC1.out]; omega)).mono ?_
   case hr_Entities => exact (bH (G := fun b => b = g) kC (fun b hb hg' => N1 (hg' ▸ hb)) HR1.out)
   rintro e w_Entities ⟨rfl, hR1, hu⟩
   rw [HC1.out]
   replace HR2 := Sd.mk (bH hu (fun b hb hg' => D1_2.out b hg' hb) (bH (G := fun b => b = g) kC (fun b hb hg' => N2 (hg' ▸ hb)) HR2.out))
   replace HR3 := Sd.mk (bH hu (fun b hb hg' => D1_3.out b hg' hb) (bH (G := fun b => b = g) kC (fun b hb hg' => N3 (hg' ▸ hb)) HR3.out))
   replace HR4 := Sd.mk (bH hu (fun b hb hg' => D1_4.out b hg' hb) (bH (G := fun b => b = g) kC (fun b hb hg' => N4 (hg' ▸ hb)) HR4.out))
   replace HR1 := Sd.mk hR1
   replace HAT := Sd.mk ((HAT.out.set0 kD (.int .i64 (q))).call hu I1.out hFg)
   clear hR1
   clear hu x0_s f0_s x1_s f1_s x2_s f2_s x3_s f3_s x4_s f4_s
   have x0_Entities := HAT.out.cell0 _ rfl
   have x1_Entities := HAT.out.cell 1 _ rfl
   have x2_Entities := HAT.out.cell 2 _ rfl
   have x3_Entities := HAT.out.cell 3 _ rfl
   have x4_Entities := HAT.out.cell 4 _ rfl
   have f0_Entities := HAT.out.free (i * 5)
   have f1_Entities := HAT.out.free (i * 5 + 1)
   have f2_Entities := HAT.out.free (i * 5 + 2)
   have f3_Entities := HAT.out.free (i * 5 + 3)
   have f4_Entities := HAT.out.free (i * 5 + 4)
   go_wp2_with fail
   with_reducible refine (markS_Sent l[i].Loop _ P2 _ _ ?hr_Loop kO (by rw [HC2.out]; omega)).mono ?_
   case hr_Loop => exact (bH (G := fun b => b = g) kC (fun b hb hg' => N2 (hg' ▸ hb)) HR2.out)
   rintro e w_Loop ⟨rfl, hR2, hu⟩
   rw [HC2.out]
   replace HR1 := Sd.mk (bH hu (fun b hb hg' => D1_2.out b hb hg') (bH (G := fun b => b = g) kC (fun b hb hg' => N1 (hg' ▸ hb)) HR1.out))
   replace HR3 := Sd.mk (bH hu (fun b hb hg' => D2_3.out b hg' hb) (bH (G := fun b => b = g) kC (fun b hb hg' => N3 (hg' ▸ hb)) HR3.out))
   replace HR4 := Sd.mk (bH hu (fun b hb hg' => D2_4.out b hg' hb) (bH (G := fun b => b = g) kC (fun b hb hg' => N4 (hg' ▸ hb)) HR4.out))
   replace HR2 := Sd.mk hR2
   replace HAT := Sd.mk (HAT.out.call hu I2.out hFg)
   clear hR2
   clear hu x0_Entities f0_Entities x1_Entities f1_Entities x2_Entities f2_Entities x3_Entities f3_Entities x4_Entities f4_Entities
   have x0_Loop := HAT.out.cell0 _ rfl
   have x1_Loop := HAT.out.cell 1 _ rfl
   have x2_Loop := HAT.out.cell 2 _ rfl
   have x3_Loop := HAT.out.cell 3 _ rfl
   have x4_Loop := HAT.out.cell 4 _ rfl
   have f0_Loop := HAT.out.free (i * 5)
   have f1_Loop := HAT.out.free (i * 5 + 1)
   have f2_Loop := HAT.out.free (i * 5 + 2)
   have f3_Loop := HAT.out.free (i * 5 + 3)
   have f4_Loop := HAT.out.free (i * 5 + 4)
   go_wp2_with fail
   with_reducible refine (markS_Link l[i].gK _ P3 _ _ ?hr_Links kO (by rw [HC3.out]; omega)).mono ?_
   case hr_Links => exact (bH (G := fun b => b = g) kC (fun b hb hg' => N3 (hg' ▸ hb)) HR3.out)
   rintro e w_Links ⟨rfl, hR3, hu⟩
   rw [HC3.out]
   replace HR1 := Sd.mk (bH hu (fun b hb hg' => D1_3.out b hb hg') (bH (G := fun b => b = g) kC (fun b hb hg' => N1 (hg' ▸ hb)) HR1.out))
   replace HR2 := Sd.mk (bH hu (fun b hb hg' => D2_3.out b hb hg') (bH (G := fun b => b = g) kC (fun b hb hg' => N2 (hg' ▸ hb)) HR2.out))
   replace HR4 := Sd.mk (bH hu (fun b hb hg' => D3_4.out b hg' hb) (bH (G := fun b => b = g) kC (fun b hb hg' => N4 (hg' ▸ hb)) HR4.out))
   replace HR3 := Sd.mk hR3
   replace HAT := Sd.mk (HAT.out.call hu I3.out hFg)
   clear hR3
   clear hu x0_Loop f0_Loop x1_Loop f1_Loop x2_Loop f2_Loop x3_Loop f3_Loop x4_Loop f4_Loop
   have x0_Links := HAT.out.cell0 _ rfl
   have x1_Links := HAT.out.cell 1 _ rfl
   have x2_Links := HAT.out.cell 2 _ rfl
   have x3_Links := HAT.out.cell 3 _ rfl
   have x4_Links := HAT.out.cell 4 _ rfl
   have f0_Links := HAT.out.free (i * 5)
   have f1_Links := HAT.out.free (i * 5 + 1)
   have f2_Links := HAT.out.free (i * 5 + 2)
   have f3_Links := HAT.out.free (i * 5 + 3)
   have f4_Links := HAT.out.free (i * 5 + 4)
   go_wp2_with fail
   with_reducible refine (markS_Outgoing l[i].Out _ P4 _ _ ?hr_Out kO (by rw [HC4.out]; omega)).mono ?_
   case hr_Out => exact (bH (G := fun b => b = g) kC (fun b hb hg' => N4 (hg' ▸ hb)) HR4.out)
   rintro e w_Out ⟨rfl, hR4, hu⟩
   rw [HC4.out]
   replace HR1 := Sd.mk (bH hu (fun b hb hg' => D1_4.out b hb hg') (bH (G := fun b => b = g) kC (fun b hb hg' => N1 (hg' ▸ hb)) HR1.out))
   replace HR2 := Sd.mk (bH hu (fun b hb hg' => D2_4.out b hb hg') (bH (G := fun b => b = g) kC (fun b hb hg' => N2 (hg' ▸ hb)) HR2.out))
   replace HR3 := Sd.mk (bH hu (fun b hb hg' => D3_4.out b hb hg') (bH (G := fun b => b = g) kC (fun b hb hg' => N3 (hg' ▸ hb)) HR3.out))
   replace HR4 := Sd.mk hR4
   replace HAT := Sd.mk (HAT.out.call hu I4.out hFg)
   clear hR4
   clear hu x0_Links f0_Links x1_Links f1_Links x2_Links f2_Links x3_Links f3_Links x4_Links f4_Links
   have x0_Out := HAT.out.cell0 _ rfl
   have x1_Out := HAT.out.cell 1 _ rfl
   have x2_Out := HAT.out.cell 2 _ rfl
   have x3_Out := HAT.out.cell 3 _ rfl
   have x4_Out := HAT.out.cell 4 _ rfl
   have f0_Out := HAT.out.free (i * 5)
   have f1_Out := HAT.out.free (i * 5 + 1)
   have f2_Out := HAT.out.free (i * 5 + 2)
   have f3_Out := HAT.out.free (i * 5 + 3)
   have f4_Out := HAT.out.free (i * 5 + 4)
   go_wp2
   have HA := HAT.out
   have hy : (⟨q, mkS gT bG (q + 1) l[i].dH, mkS iB bC ((q + 1) + cn1) l[i].Loop, mkS jE bQ (((q + 1) + cn1) + cn2) l[i].gK, mkS fH aV ((((q + 1) + cn1) + cn2) + cn3) l[i].Out⟩ : GVat) = (mkS mk_Vat dB k l)[i]'(by rw [aM]; exact hlt) := by rw [HMA.out]; simp only [mk_Vat, HC1.out, HC2.out, HC3.out, HC4.out]
   have HRowB := CL.out _ _ (⟨q, mkS gT bG (q + 1) l[i].dH, mkS iB bC ((q + 1) + cn1) l[i].Loop, mkS jE bQ (((q + 1) + cn1) + cn2) l[i].gK, mkS fH aV ((((q + 1) + cn1) + cn2) + cn3) l[i].Out⟩ : GVat) Fi F HA (ki_Vat_mk _ Fi (⟨q, mkS gT bG (q + 1) l[i].dH, mkS iB bC ((q + 1) + cn1) l[i].Loop, mkS jE bQ (((q + 1) + cn1) + cn2) l[i].gK, mkS fH aV ((((q + 1) + cn1) + cn2) + cn3) l[i].Out⟩ : GVat) (bH (G := fun b => b = g) kC (fun b hb hg' => N1 (hg' ▸ hb)) HR1.out) (bH (G := fun b => b = g) kC (fun b hb hg' => N2 (hg' ▸ hb)) HR2.out) (bH (G := fun b => b = g) kC (fun b hb hg' => N3 (hg' ▸ hb)) HR3.out) (bH (G := fun b => b = g) kC (fun b hb hg' => N4 (hg' ▸ hb)) HR4.out) I1.out I2.out I3.out I4.out D1_2.out D1_3.out D1_4.out D2_3.out D2_4.out D3_4.out) (fun _ hb => .inl hb) (fun _ hb => hb) hFi
   rw [hy, fD (aM _ _ _ _) hlt] at HRowB
   go_roundg (gk - 1)
   case measure => omega
   case rel => exact ⟨i + 1, by omega, by rw [HST.out]; simp only [dB]; have := HQ.out; have := HC1.out; have := HC2.out; have := HC3.out; have := HC4.out; exact congrArg (Value.int .i64) kO, by go_num, ⟨HRowB⟩, ⟨HU.out.trans HA.upd (fun _ _ hb => hb) (fun b _ hb => by rcases hb with rfl | hb; exact hg; exact hFi b hb)⟩⟩
  ·go_wp2
   go_ret
   have HRowB := HR.out
   rw [fB (aM _ _ _ _) kO] at HRowB
   have e : l.take i = l := List.take_of_length_le kO
   exact ⟨dL (by rw [e]), HRowB, HU.out⟩
theorem heldS_Vat (l : List GVat) (k : Int) (A : Option Addr) (c : Nat) (w : World) (h : C dK w A (mkS mk_Vat dB k l)) (hk : 0 ≤ k) (hb : k + aK dB l ≤ 4611686018427387904) : Calls Tryz.prog 69 #[.slice A l.length c, .int .i64 k] w (gN (k + aK dB l) w) := by
 have hn := h.1
 rw [aM] at hn
 have H := Sd.mk h
 clear h
 go_enter Tryz.func69, Tryz.ntmps69
 go_wp2
 go_loopg [1, 5] l.length (fun r u v wr => ∃ i : Nat, i + r = l.length ∧ u = .int .i64 (k + aK dB (l.take i)) ∧ v = .int .i64 i ∧ Sd (Upd No w wr))
 case atStart => exact ⟨0, by omega, by simp [aK], rfl, ⟨Upd.refl _ _⟩⟩
 case round =>
  obtain ⟨i, hi, rfl, rfl, HU⟩ := hrel
  by_cases hlt : i < l.length
  ·have hle := bL dB jJ l i
   have hst := cB dB l i hlt
   have hle2 := bL dB jJ l (i + 1)
   rw [hst] at hle2
   have HST := Sd.mk hst
   clear hst
   obtain ⟨ad, A1, c1, A2, c2, A3, c3, A4, c4, rfl, a0, a1, a2, a3, a4, hl1, hC1, hl2, hC2, hl3, hC3, hl4, hC4⟩ := ki_Vat_at (aO HU.out H.out) i (by rw [aM]; exact hlt)
   rw [eO mk_Vat dB l k i hlt] at a0 a1 a2 a3 a4 hl1 hC1 hl2 hC2 hl3 hC3 hl4 hC4
   simp only [mk_Vat, aM] at a0 a1 a2 a3 a4 hl1 hC1 hl2 hC2 hl3 hC3 hl4 hC4
   have nn1 := bN bG gZ l[i].dH
   have nn2 := bN bC gF l[i].Loop
   have nn3 := bN bQ iV l[i].gK
   have nn4 := bN aV fU l[i].Out
   simp only [dB] at hle2
   generalize hq : k + aK dB (l.take i) = q at *
   have HQ := Sd.mk hq
   have hq0 : 0 ≤ q := by omega
   have hqb : q + (((((0 + 1) + aK bG l[i].dH) + aK bC l[i].Loop) + aK bQ l[i].gK) + aK aV l[i].Out) ≤ 4611686018427387904 := by omega
   clear hq hle hle2 hb
   generalize hcn1 : aK bG l[i].dH = cn1 at *
   have HN1 := Sd.mk hcn1
   clear hcn1
   have HC1 := Sd.mk hC1
   clear hC1
   generalize hcn2 : aK bC l[i].Loop = cn2 at *
   have HN2 := Sd.mk hcn2
   clear hcn2
   have HC2 := Sd.mk hC2
   clear hC2
   generalize hcn3 : aK bQ l[i].gK = cn3 at *
   have HN3 := Sd.mk hcn3
   clear hcn3
   have HC3 := Sd.mk hC3
   clear hC3
   generalize hcn4 : aK aV l[i].Out = cn4 at *
   have HN4 := Sd.mk hcn4
   clear hcn4
   have HC4 := Sd.mk hC4
   clear hC4
   have HX := Sd.mk (Upd.refl No wr)
   go_wp2_with fail
   with_reducible refine (heldS_Entity l[i].dH _ _ _ _ ?hc_Entities kO (by rw [HN1.out]; omega)).mono ?_
   case hc_Entities => exact HC1.out
   rintro e w_Entities ⟨rfl, hu⟩
   rw [HN1.out]
   replace a0 := hu.read a0
   replace a1 := hu.read a1
   replace a2 := hu.read a2
   replace a3 := hu.read a3
   replace a4 := hu.read a4
   replace HC1 := Sd.mk (aO hu HC1.out)
   replace HC2 := Sd.mk (aO hu HC2.out)
   replace HC3 := Sd.mk (aO hu HC3.out)
   replace HC4 := Sd.mk (aO hu HC4.out)
   replace HX := Sd.mk (HX.out.then hu)
   clear hu
   go_wp2_with fail
   with_reducible refine (heldS_Sent l[i].Loop _ _ _ _ ?hc_Loop kO (by rw [HN2.out]; omega)).mono ?_
   case hc_Loop => exact HC2.out
   rintro e w_Loop ⟨rfl, hu⟩
   rw [HN2.out]
   replace a0 := hu.read a0
   replace a1 := hu.read a1
   replace a2 := hu.read a2
   replace a3 := hu.read a3
   replace a4 := hu.read a4
   replace HC1 := Sd.mk (aO hu HC1.out)
   replace HC2 := Sd.mk (aO hu HC2.out)
   replace HC3 := Sd.mk (aO hu HC3.out)
   replace HC4 := Sd.mk (aO hu HC4.out)
   replace HX := Sd.mk (HX.out.then hu)
   clear hu
   go_wp2_with fail
   with_reducible refine (heldS_Link l[i].gK _ _ _ _ ?hc_Links kO (by rw [HN3.out]; omega)).mono ?_
   case hc_Links => exact HC3.out
   rintro e w_Links ⟨rfl, hu⟩
   rw [HN3.out]
   replace a0 := hu.read a0
   replace a1 := hu.read a1
   replace a2 := hu.read a2
   replace a3 := hu.read a3
   replace a4 := hu.read a4
   replace HC1 := Sd.mk (aO hu HC1.out)
   replace HC2 := Sd.mk (aO hu HC2.out)
   replace HC3 := Sd.mk (aO hu HC3.out)
   replace HC4 := Sd.mk (aO hu HC4.out)
   replace HX := Sd.mk (HX.out.then hu)
   clear hu
   go_wp2_with fail
   with_reducible refine (heldS_Outgoing l[i].Out _ _ _ _ ?hc_Out kO (by rw [HN4.out]; omega)).mono ?_
   case hc_Out => exact HC4.out
   rintro e w_Out ⟨rfl, hu⟩
   rw [HN4.out]
   replace a0 := hu.read a0
   replace a1 := hu.read a1
   replace a2 := hu.read a2
   replace a3 := hu.read a3
   replace a4 := hu.read a4
   replace HC1 := Sd.mk (aO hu HC1.out)
   replace HC2 := Sd.mk (aO hu HC2.out)
   replace HC3 := Sd.mk (aO hu HC3.out)
   replace HC4 := Sd.mk (aO hu HC4.out)
   replace HX := Sd.mk (HX.out.then hu)
   clear hu
   go_wp2
   go_roundg (gk - 1)
   case measure => omega
   case rel => exact ⟨i + 1, by omega, by rw [HST.out]; simp only [dB]; have := HQ.out; have := HN1.out; have := HN2.out; have := HN3.out; have := HN4.out; exact congrArg (Value.int .i64) kO, by go_num, ⟨HU.out.then HX.out⟩⟩
  ·go_wp2
   go_ret
   have e : l.take i = l := List.take_of_length_le kO
   exact ⟨dL (by rw [e]), HU.out⟩
theorem kl_Instr_Kmk (w : World) (x : GInstr) : iE.K w x [.int .i64 x.Op, .int .i64 x.A, .int .i64 x.B, .int .i64 x.C, .int .i64 x.D, .string x.Name] := ⟨[_], [_, _, _, _, _], rfl, rfl, ⟨[_], [_, _, _, _], rfl, rfl, ⟨[_], [_, _, _], rfl, rfl, ⟨[_], [_, _], rfl, rfl, ⟨[_], [_], rfl, rfl, rfl⟩⟩⟩⟩⟩
theorem ki_Instr_Kmk (w : World) (x : GInstr) : dF.K w x [.int .i64 x.Op, .int .i64 x.A, .int .i64 x.B, .int .i64 x.C, .int .i64 x.D, .string x.Name] := ⟨[_], [_, _, _, _, _], rfl, rfl, ⟨[_], [_, _, _, _], rfl, rfl, ⟨[_], [_, _, _], rfl, rfl, ⟨[_], [_, _], rfl, rfl, ⟨[_], [_], rfl, rfl, rfl⟩⟩⟩⟩⟩
theorem to_Instr (x : GInstr) (cs : List Value) (w : World) (h : iE.K w x cs) (hs : dX x ≤ 1048576) : Calls Tryz.prog 234 #[.agg cs.toArray] w (iT dF x w) := by
 obtain rfl := kl_Instr_K h
 clear hs
 go_enter Tryz.func234, Tryz.ntmps234
 go_wp2
 refine bodyPost_ret (v := .agg #[.int .i64 x.Op, .int .i64 x.A, .int .i64 x.B, .int .i64 x.C, .int .i64 x.D, .string x.Name]) (by simp [results, Tryz.results234, go_sem]) rfl ⟨_, rfl, ?_, kA⟩
 exact kX _ _ _
theorem toS_Instr (l : List GInstr) (A : Option Addr) (c : Nat) (w : World) (h : C iE w A l) (hs : dP dX l ≤ 1048576) : Calls Tryz.prog 223 #[.slice A l.length c] w (RetRow dF 274 l w) := by
 have hn : l.length ≤ 1048576 := by unfold dP at hs; omega
 have hmk := run_made (P := Tryz.prog) _ _ _ Tryz.underlying208 lC l.length hn kD
 have H := Sd.mk h
 have HS := Sd.mk hs
 clear h hs
 go_enter Tryz.func223, Tryz.ntmps223
 go_wp2
 clear hmk
 have HR : Sd (R dF 274 (w.alloc (madeObj (.agg #[.int .i64 0, .int .i64 0, .int .i64 0, .int .i64 0, .int .i64 0, .string ⟨#[]⟩]) (l.length * 6) 274)) (New w) (.slice (some ⟨w.heap.size, 0, none⟩) l.length l.length) (List.replicate l.length zInstr)) := Sd.mk (R_made (d := dF) (e := 274) w (.agg #[.int .i64 0, .int .i64 0, .int .i64 0, .int .i64 0, .int .i64 0, .string ⟨#[]⟩]) zInstr rfl kD ki_Instr_zero l.length hn)
 have HU := Sd.mk ((Upd.refl No w).alloc (madeObj (.agg #[.int .i64 0, .int .i64 0, .int .i64 0, .int .i64 0, .int .i64 0, .string ⟨#[]⟩]) (l.length * 6) 274))
 go_loopg [4] l.length (fun k v wr => ∃ i : Nat, i + k = l.length ∧ v = .int .i64 i ∧ Sd (R dF 274 wr (New w) (.slice (some ⟨w.heap.size, 0, none⟩) l.length l.length) (upTo l (List.replicate l.length zInstr) i)) ∧ Sd (Upd No w wr))
 case atStart => exact ⟨0, by omega, rfl, ⟨by rw [eD]; exact HR.out⟩, HU⟩
 case round =>
  clear HR HU
  obtain ⟨i, hi, rfl, HR, HU⟩ := hrel
  by_cases hlt : i < l.length
  ·obtain ⟨ad, rfl, a0, a1, a2, a3, a4, a5⟩ := kl_Instr_at (aO HU.out H.out) i hlt
   have hsi : dX l[i] ≤ 1048576 := by have := HS.out; have := sumS_at dX l i hlt; unfold dP at *; omega
   go_wp2_with fail
   with_reducible refine (to_Instr l[i] _ _ (kl_Instr_Kmk _ _) hsi).mono ?_
   rintro e w1 ⟨cs, rfl, hM, hu⟩
   obtain rfl := ki_Instr_M hM
   have HRowA := bH hu (fun _ _ q => q) (R_lt HR.out)
   have HU1 := Sd.mk (HU.out.then hu)
   have hzw := HU.out.size
   clear HR HU hM hu
   obtain ⟨g, cap, cur, ce, Fi, hv, hcap, hat, hM, hg, hFi, hFg, close⟩ := iH HRowA 6 l.length rfl (by rw [fC (by simp) (by simp; omega)]; simp) i zInstr (by rw [gB (by simp) (by simpa using hlt)]; simp)
   cases hv
   obtain rfl := ki_Instr_M hM
   have HAT := Sd.mk hat
   have x0 := hat.cell0 _ rfl
   have x1 := hat.cell 1 _ rfl
   have x2 := hat.cell 2 _ rfl
   have x3 := hat.cell 3 _ rfl
   have x4 := hat.cell 4 _ rfl
   have x5 := hat.cell 5 _ rfl
   have f0 := hat.free (i * 6)
   have f1 := hat.free (i * 6 + 1)
   have f2 := hat.free (i * 6 + 2)
   have f3 := hat.free (i * 6 + 3)
   have f4 := hat.free (i * 6 + 4)
   have f5 := hat.free (i * 6 + 5)
   have CL := Sd.mk close
   clear hat close hM HRowA
   go_wp2
   have HA := (((((HAT.out.set0 kD (.int .i64 l[i].Op)).set 1 kD (.int .i64 l[i].A)).set 2 kD (.int .i64 l[i].B)).set 3 kD (.int .i64 l[i].C)).set 4 kD (.int .i64 l[i].D)).set 5 kD (.string l[i].Name)
   have HRowB := CL.out _ _ l[i] No (New w) HA (kX _ _ _) (fun _ q => q.elim) (fun _ q => q.1) (fun _ q => q.elim)
   rw [fD (by simp) (by simpa using hlt)] at HRowB
   go_roundg (gk - 1)
   case measure => omega
   case rel => exact ⟨i + 1, by omega, by go_num, ⟨HRowB⟩, ⟨by repeat (with_reducible first | exact HU1.out | apply Upd.bW)⟩⟩
  ·go_wp2
   go_ret
   have HRowB := HR.out
   rw [fB (by simp) (by simp; omega)] at HRowB
   exact ⟨_, rfl, HRowB, HU.out⟩
theorem sz_Instr (x : GInstr) (cs : List Value) (n : Int) (w : World) (h : iE.K w x cs) (hb : Bd_Instr x) (h0 : 0 ≤ n) (h1 : n ≤ 1048576) : Calls Tryz.prog 233 #[.agg cs.toArray, .int .i64 n] w (RetSz (dX x) n w) := by
 obtain rfl := kl_Instr_K h
 have b_Name := hb
 unfold Bd_Instr at b_Name
 go_enter Tryz.func233, Tryz.ntmps233
 by_cases q_Name : ((x.Name.size : Nat) : Int) ≤ n
 case neg =>
  go_wp2
  go_ret
  exact ⟨_, rfl, .inr ⟨by unfold dX; omega, rfl⟩, kA⟩
 go_wp2
 go_ret
 exact ⟨_, rfl, .inl ⟨by unfold dX; omega, by unfold dX; omega⟩, kA⟩
theorem szS_Instr (l : List GInstr) (A : Option Addr) (c : Nat) (n : Int) (w : World) (h : C iE w A l) (hb : ∀ y ∈ l, Bd_Instr y) (h0 : 0 ≤ n) (h1 : n ≤ 1048576) : Calls Tryz.prog 222 #[.slice A l.length c, .int .i64 n] w (RetSz (dP dX l) n w) := by
 have hn := h.1
 have H := Sd.mk h
 clear h
 have HBD := Sd.mk hb
 clear hb
 go_enter Tryz.func222, Tryz.ntmps222
 by_cases q0 : (l.length : Int) ≤ n
 case neg =>
  go_wp2
  go_ret
  exact ⟨_, rfl, .inr ⟨by unfold dP; omega, rfl⟩, Upd.refl _ _⟩
 go_wp2
 go_loopg [1, 5] l.length (fun k u v wr => ∃ i : Nat, i + k = l.length ∧ (sumS dX (l.take i) : Int) ≤ n - l.length ∧ u = .int .i64 (n - l.length - sumS dX (l.take i)) ∧ v = .int .i64 i ∧ Sd (Upd No w wr))
 case atStart => exact ⟨0, by omega, by simp [sumS]; omega, by simp [sumS], rfl, ⟨Upd.refl _ _⟩⟩
 case round =>
  obtain ⟨i, hi, hle, rfl, rfl, HU⟩ := hrel
  by_cases hlt : i < l.length
  ·obtain ⟨ad, rfl, a0, a1, a2, a3, a4, a5⟩ := kl_Instr_at (aO HU.out H.out) i hlt
   have hst := sumS_step dX l i hlt
   have HST := Sd.mk (kJ dX l i hlt)
   generalize hs : sumS dX (l.take i) = s at *
   have HS := Sd.mk hs
   clear hs
   go_wp2_with fail
   with_reducible refine (sz_Instr l[i] _ _ _ (kl_Instr_Kmk _ _) (HBD.out _ (List.getElem_mem hlt)) kO kO).mono ?_
   rintro e w1 ⟨r, rfl, hr, hu⟩
   have HU1 := Sd.mk (HU.out.then hu)
   clear hu HU
   rcases hr with ⟨q, rfl⟩ | ⟨q, rfl⟩
   ·go_wp2
    go_roundg (gk - 1)
    case measure => omega
    case rel => exact ⟨i + 1, by omega, by rw [HST.out]; omega, by rw [HST.out]; exact congrArg (Value.int .i64) kO, by go_num, HU1⟩
   ·go_wp2
    go_ret
    exact ⟨_, rfl, .inr ⟨by unfold dP; omega, rfl⟩, HU1.out⟩
  ·go_wp2
   go_ret
   have e : l.take i = l := List.take_of_length_le kO
   rw [e] at hle
   exact ⟨_, rfl, .inl ⟨by unfold dP; omega, by rw [e]; unfold dP; omega⟩, HU.out⟩
theorem eq_Instr (x : GInstr) (cs cs' : List Value) (w : World) (h : dF.K w x cs) (h' : dF.K w x cs') : Calls Tryz.prog 235 #[.agg cs.toArray, .agg cs'.toArray] w (dD true w) := by
 obtain rfl := ki_Instr_K h
 obtain rfl := ki_Instr_K h'
 go_enter Tryz.func235, Tryz.ntmps235
 go_wp2
 go_ret
 exact ⟨rfl, kA⟩
theorem eqS_Instr (l : List GInstr) (A A' : Option Addr) (c c' : Nat) (w : World) (h : C dF w A l) (h' : C dF w A' l) : Calls Tryz.prog 226 #[.slice A l.length c, .slice A' l.length c'] w (dD true w) := by
 have hn := h.1
 have H := Sd.mk h
 have H' := Sd.mk h'
 clear h h'
 go_enter Tryz.func226, Tryz.ntmps226
 go_wp2
 go_loopg [5] l.length (fun k v wr => ∃ i : Nat, i + k = l.length ∧ v = .int .i64 i ∧ Sd (Upd No w wr))
 case atStart => exact ⟨0, by omega, rfl, ⟨Upd.refl _ _⟩⟩
 case round =>
  obtain ⟨i, hi, rfl, HU⟩ := hrel
  by_cases hlt : i < l.length
  ·obtain ⟨ad, rfl, a0, a1, a2, a3, a4, a5⟩ := ki_Instr_at (aO HU.out H.out) i hlt
   obtain ⟨ad', rfl, z0, z1, z2, z3, z4, z5⟩ := ki_Instr_at (aO HU.out H'.out) i hlt
   go_wp2_with fail
   go_still_tail 8, kR
   change wpList _ _ _ _ _ wr.drew
   have HW : Sd (Upd No wr wr.drew) := ⟨(Upd.refl _ _).drew⟩
   have HU2 : Sd (Upd No w wr.drew) := ⟨HU.out.drew⟩
   generalize wr.drew = w2 at *
   go_wp2_with (go_at_call 235; (with_reducible refine (eq_Instr l[i] _ _ _ (ki_Instr_Kmk _ _) (ki_Instr_Kmk _ _)).mono ?_); rintro e w' ⟨rfl, hu⟩)
   have HU3 := Sd.mk (HU2.out.then hu)
   clear HU2 hu
   go_wp2
   go_roundg (gk - 1)
   case measure => omega
   case rel => exact ⟨i + 1, by omega, by go_num, HU3⟩
  ·go_wp2
   go_ret
   exact ⟨rfl, HU.out⟩
theorem markS_Instr (l : List GInstr) (k : Int) (F : Nat → Prop) (v : Value) (w : World) (h : R dF 274 w F v l) (hk : 0 ≤ k) (hb : k + aK bO l ≤ 4611686018427387904) : Calls Tryz.prog 152 #[v, .int .i64 k] w (Marks dF 274 F v (k + aK bO l) (mkS iN bO k l) w) := by
 obtain ⟨A, c, rfl⟩ := bK h
 have hn := R_len h
 have H := Sd.mk h
 clear h
 go_enter Tryz.func152, Tryz.ntmps152
 go_wp2
 go_loopg [1, 5] l.length (fun r u v wr => ∃ i : Nat, i + r = l.length ∧ u = .int .i64 (k + aK bO (l.take i)) ∧ v = .int .i64 i ∧ Sd (R dF 274 wr F (.slice A l.length c) (upTo (mkS iN bO k l) l i)) ∧ Sd (Upd F w wr))
 case atStart => exact ⟨0, by omega, by simp [aK], rfl, ⟨by rw [eD]; exact H.out⟩, ⟨Upd.refl _ _⟩⟩
 case round =>
  obtain ⟨i, hi, rfl, rfl, HR, HU⟩ := hrel
  by_cases hlt : i < l.length
  ·have hle := bL bO iI l i
   have hst := cB bO l i hlt
   have hle2 := bL bO iI l (i + 1)
   rw [hst] at hle2
   have HST := Sd.mk hst
   clear hst
   have HMA := Sd.mk (eO iN bO l k i hlt)
   obtain ⟨g, cap, cur, ce, Fi, hv, hcap, hat, hM, hg, hFi, hFg, close⟩ := iH HR.out 6 l.length rfl (fC (aM _ _ _ _) kO) i l[i] (gB (aM _ _ _ _) hlt)
   cases hv
   obtain rfl := ki_Instr_M hM
   have HCN : Sd (bO l[i] = bO l[i]) := ⟨rfl⟩
   simp only [bO] at hle2
   generalize hq : k + aK bO (l.take i) = q at *
   have HQ := Sd.mk hq
   have hq0 : 0 ≤ q := by omega
   have hqb : q + ((((((0 + 1) + 1) + 1) + 1) + 1) + 1) ≤ 4611686018427387904 := by omega
   clear hq hle hle2 hb
   have HAT := Sd.mk hat
   have x0_s := hat.cell0 _ rfl
   have x1_s := hat.cell 1 _ rfl
   have x2_s := hat.cell 2 _ rfl
   have x3_s := hat.cell 3 _ rfl
   have x4_s := hat.cell 4 _ rfl
   have x5_s := hat.cell 5 _ rfl
   have f0_s := hat.free (i * 6)
   have f1_s := hat.free (i * 6 + 1)
   have f2_s := hat.free (i * 6 + 2)
   have f3_s := hat.free (i * 6 + 3)
   have f4_s := hat.free (i * 6 + 4)
   have f5_s := hat.free (i * 6 + 5)
   have CL := Sd.mk close
   clear hat close hM HR
   go_wp2_with fail
   with_reducible refine (fV _ _ kO kO).mono ?_
   rintro e w_Name ⟨rfl, hu⟩
   replace HAT := Sd.mk ((((((HAT.out.set0 kD (.int .i64 (q))).set 1 kD (.int .i64 ((q + 1)))).set 2 kD (.int .i64 (((q + 1) + 1)))).set 3 kD (.int .i64 ((((q + 1) + 1) + 1)))).set 4 kD (.int .i64 (((((q + 1) + 1) + 1) + 1)))).call hu (fun _ q => q.elim) hFg)
   clear hu x0_s f0_s x1_s f1_s x2_s f2_s x3_s f3_s x4_s f4_s x5_s f5_s
   have x0_Name := HAT.out.cell0 _ rfl
   have x1_Name := HAT.out.cell 1 _ rfl
   have x2_Name := HAT.out.cell 2 _ rfl
   have x3_Name := HAT.out.cell 3 _ rfl
   have x4_Name := HAT.out.cell 4 _ rfl
   have x5_Name := HAT.out.cell 5 _ rfl
   have f0_Name := HAT.out.free (i * 6)
   have f1_Name := HAT.out.free (i * 6 + 1)
   have f2_Name := HAT.out.free (i * 6 + 2)
   have f3_Name := HAT.out.free (i * 6 + 3)
   have f4_Name := HAT.out.free (i * 6 + 4)
   have f5_Name := HAT.out.free (i * 6 + 5)
   go_wp2
   have HA := (HAT.out.set 5 kD (.string (mtx ((((((q + 1) + 1) + 1) + 1) + 1)))))
   have hy : (⟨q, (q + 1), ((q + 1) + 1), (((q + 1) + 1) + 1), ((((q + 1) + 1) + 1) + 1), mtx ((((((q + 1) + 1) + 1) + 1) + 1))⟩ : GInstr) = (mkS iN bO k l)[i]'(by rw [aM]; exact hlt) := by rw [HMA.out]; simp only [iN]
   have HRowB := CL.out _ _ (⟨q, (q + 1), ((q + 1) + 1), (((q + 1) + 1) + 1), ((((q + 1) + 1) + 1) + 1), mtx ((((((q + 1) + 1) + 1) + 1) + 1))⟩ : GInstr) Fi F HA (kX _ Fi (⟨q, (q + 1), ((q + 1) + 1), (((q + 1) + 1) + 1), ((((q + 1) + 1) + 1) + 1), mtx ((((((q + 1) + 1) + 1) + 1) + 1))⟩ : GInstr)) (fun _ hb => .inl hb) (fun _ hb => hb) hFi
   rw [hy, fD (aM _ _ _ _) hlt] at HRowB
   go_roundg (gk - 1)
   case measure => omega
   case rel => exact ⟨i + 1, by omega, by rw [HST.out]; simp only [bO]; have := HQ.out; exact congrArg (Value.int .i64) kO, by go_num, ⟨HRowB⟩, ⟨HU.out.trans HA.upd (fun _ _ hb => hb) (fun b _ hb => by rcases hb with rfl | hb; exact hg; exact hFi b hb)⟩⟩
  ·go_wp2
   go_ret
   have HRowB := HR.out
   rw [fB (aM _ _ _ _) kO] at HRowB
   have e : l.take i = l := List.take_of_length_le kO
   exact ⟨dL (by rw [e]), HRowB, HU.out⟩
theorem heldS_Instr (l : List GInstr) (k : Int) (A : Option Addr) (c : Nat) (w : World) (h : C dF w A (mkS iN bO k l)) (hk : 0 ≤ k) (hb : k + aK bO l ≤ 4611686018427387904) : Calls Tryz.prog 195 #[.slice A l.length c, .int .i64 k] w (gN (k + aK bO l) w) := by
 have hn := h.1
 rw [aM] at hn
 have H := Sd.mk h
 clear h
 go_enter Tryz.func195, Tryz.ntmps195
 go_wp2
 go_loopg [1, 5] l.length (fun r u v wr => ∃ i : Nat, i + r = l.length ∧ u = .int .i64 (k + aK bO (l.take i)) ∧ v = .int .i64 i ∧ Sd (Upd No w wr))
 case atStart => exact ⟨0, by omega, by simp [aK], rfl, ⟨Upd.refl _ _⟩⟩
 case round =>
  obtain ⟨i, hi, rfl, rfl, HU⟩ := hrel
  by_cases hlt : i < l.length
  ·have hle := bL bO iI l i
   have hst := cB bO l i hlt
   have hle2 := bL bO iI l (i + 1)
   rw [hst] at hle2
   have HST := Sd.mk hst
   clear hst
   obtain ⟨ad, rfl, a0, a1, a2, a3, a4, a5⟩ := ki_Instr_at (aO HU.out H.out) i (by rw [aM]; exact hlt)
   rw [eO iN bO l k i hlt] at a0 a1 a2 a3 a4 a5
   simp only [iN] at a0 a1 a2 a3 a4 a5
   simp only [bO] at hle2
   generalize hq : k + aK bO (l.take i) = q at *
   have HQ := Sd.mk hq
   have hq0 : 0 ≤ q := by omega
   have hqb : q + ((((((0 + 1) + 1) + 1) + 1) + 1) + 1) ≤ 4611686018427387904 := by omega
   clear hq hle hle2 hb
   have HX := Sd.mk (Upd.refl No wr)
   go_wp2_with fail
   go_region_held3 (fun w' => w'.cell? ⟨(ad.add (i * 6)).block, (ad.add (i * 6)).off + 5, none⟩ = some (.string (mtx (((((q + 1) + 1) + 1) + 1) + 1)))) (first | exact a5 | exact hu_Name.read a5) (first | (go_at_call 83; (with_reducible refine (fV _ _ kO kO).mono ?_); rintro e w_Name ⟨rfl, hu_Name⟩))
   rename_i hH_Name
   clear hH_Name
   have HY : Sd (Upd No wr w_Name) := Sd.mk ((Upd.refl _ _).drew.then hu_Name)
   clear hu_Name
   replace a0 := HY.out.read a0
   replace a1 := HY.out.read a1
   replace a2 := HY.out.read a2
   replace a3 := HY.out.read a3
   replace a4 := HY.out.read a4
   replace a5 := HY.out.read a5
   replace HX := Sd.mk (HX.out.then HY.out)
   clear HY
   go_wp2
   go_roundg (gk - 1)
   case measure => omega
   case rel => exact ⟨i + 1, by omega, by rw [HST.out]; simp only [bO]; have := HQ.out; exact congrArg (Value.int .i64) kO, by go_num, ⟨HU.out.then HX.out⟩⟩
  ·go_wp2
   go_ret
   have e : l.take i = l := List.take_of_length_le kO
   exact ⟨dL (by rw [e]), HU.out⟩
theorem kl_Method_Kmk (w : World) (x : GMethod) {A1 : Option Addr} {c1 : Nat} (hl1 : x.Code.length ≤ c1) (hC1 : C iE w A1 x.Code) : gH.K w x [.string x.Name, .slice A1 x.Code.length c1] := ⟨[_], [_], rfl, rfl, ⟨A1, c1, rfl, hl1, hC1⟩⟩
theorem jW (w : World) (x : GMethod) {A1 : Option Addr} {c1 : Nat} (hl1 : x.Code.length ≤ c1) (hC1 : C dF w A1 x.Code) : bS.K w x [.string x.Name, .slice A1 x.Code.length c1] := ⟨[_], [_], rfl, rfl, ⟨A1, c1, rfl, hl1, hC1⟩⟩
theorem to_Method (x : GMethod) (cs : List Value) (w : World) (h : gH.K w x cs) (hs : bT x ≤ 1048576) : Calls Tryz.prog 198 #[.agg cs.toArray] w (iT bS x w) := by
 obtain ⟨A1, c1, rfl, hl1, hC1⟩ := kl_Method_K h
 have HC1 := Sd.mk hC1
 clear hC1
 have s_Code : dP dX x.Code ≤ 1048576 := by unfold bT at hs; omega
 clear hs
 go_enter Tryz.func198, Tryz.ntmps198
 go_wp2_with fail
 with_reducible refine (toS_Instr x.Code _ _ _ ?hc_Code s_Code).mono ?_
 case hc_Code => exact aO kA HC1.out
 rintro e w_Code ⟨v1, rfl, hR1, hu⟩
 obtain ⟨B1, b1, rfl⟩ := bK hR1
 obtain ⟨P1, hR1', g1, l1⟩ := fresh_row hR1 (w.heap.size + 1 + 1 + 1) kB
 have ge1 : ∀ b, P1 b → w.heap.size + 1 + 1 < b := fun b hb => by have := g1 b hb; omega
 have n1_1 : ¬ P1 (w.heap.size + 1) := fun q => by have := ge1 _ q; omega
 have n2_1 : ¬ P1 (w.heap.size + 1 + 1) := fun q => by have := ge1 _ q; omega
 have HR1 := Sd.mk hR1'
 have GE1 := Sd.mk ge1
 have LT1 := Sd.mk l1
 have GP1 := Sd.mk g1
 clear hR1 hR1' ge1 l1 g1
 have HB_Code : Sd (Upd No w w_Code) := Sd.mk (Upd.then kA hu)
 have cc0_Code := fun o => hu.bJ (b := w.heap.size) kB (fun q => q) o
 have cc1_Code := fun o => hu.bJ (b := w.heap.size + 1) kB (fun q => q) o
 have cf1_Code := fun o => hu.fI (b := w.heap.size + 1) kB (fun q => q) o
 have cc2_Code := fun o => hu.bJ (b := w.heap.size + 1 + 1) kB (fun q => q) o
 have cf2_Code := fun o => hu.fI (b := w.heap.size + 1 + 1) kB (fun q => q) o
 have hz_Code : w.heap.size + 1 + 1 + 1 ≤ w_Code.heap.size := by have := hu.size; (try simp at this); omega
 clear hu
 go_wp2
 refine bodyPost_ret (v := .agg #[.string x.Name, .slice B1 x.Code.length b1]) (by simp [results, Tryz.results198, go_sem, cc1_Code]) rfl ⟨_, rfl, ?_, (by repeat (with_reducible first | exact HB_Code.out | apply Upd.bZ | apply Upd.bY | apply Upd.bW | apply Upd.alloc | apply Upd.drewN | apply Upd.drew))⟩
 exact jA _ _ _ (R_keep HR1.out (by repeat (with_reducible first | exact Upd.refl _ _ | apply Upd.putP n1_1 | apply Upd.putP n2_1 | apply Upd.alloc))) (fun k hk => by have := GE1.out k hk; simp only [New]; omega)
theorem toS_Method (l : List GMethod) (A : Option Addr) (c : Nat) (w : World) (h : C gH w A l) (hs : dP bT l ≤ 1048576) : Calls Tryz.prog 146 #[.slice A l.length c] w (RetRow bS 210 l w) := by
 have hn : l.length ≤ 1048576 := by unfold dP at hs; omega
 have hmk := run_made (P := Tryz.prog) _ _ _ Tryz.underlying131 kM l.length hn kD
 have H := Sd.mk h
 have HS := Sd.mk hs
 clear h hs
 go_enter Tryz.func146, Tryz.ntmps146
 go_wp2
 clear hmk
 have HR : Sd (R bS 210 (w.alloc (madeObj (.agg #[.string ⟨#[]⟩, .slice none 0 0]) (l.length * 2) 210)) (New w) (.slice (some ⟨w.heap.size, 0, none⟩) l.length l.length) (List.replicate l.length zMethod)) := Sd.mk (R_made (d := bS) (e := 210) w (.agg #[.string ⟨#[]⟩, .slice none 0 0]) zMethod rfl kD ki_Method_zero l.length hn)
 have HU := Sd.mk ((Upd.refl No w).alloc (madeObj (.agg #[.string ⟨#[]⟩, .slice none 0 0]) (l.length * 2) 210))
 go_loopg [4] l.length (fun k v wr => ∃ i : Nat, i + k = l.length ∧ v = .int .i64 i ∧ Sd (R bS 210 wr (New w) (.slice (some ⟨w.heap.size, 0, none⟩) l.length l.length) (upTo l (List.replicate l.length zMethod) i)) ∧ Sd (Upd No w wr))
 case atStart => exact ⟨0, by omega, rfl, ⟨by rw [eD]; exact HR.out⟩, HU⟩
 case round =>
  clear HR HU
  obtain ⟨i, hi, rfl, HR, HU⟩ := hrel
  by_cases hlt : i < l.length
  ·obtain ⟨ad, A1, c1, rfl, a0, a1, hl1, hC1⟩ := kl_Method_at (aO HU.out H.out) i hlt
   have HC1 := Sd.mk hC1
   clear hC1
   have hsi : bT l[i] ≤ 1048576 := by have := HS.out; have := sumS_at bT l i hlt; unfold dP at *; omega
   go_wp2_with fail
   with_reducible refine (to_Method l[i] _ _ (kl_Method_Kmk _ _ hl1 HC1.out) hsi).mono ?_
   rintro e w1 ⟨cs, rfl, hM, hu⟩
   obtain ⟨v1, P1, rfl, hR1, i1⟩ := j4 (bS.M_lt hM)
   obtain ⟨D1, d1, rfl⟩ := bK hR1
   have HRowA := bH hu (fun _ _ q => q) (R_lt HR.out)
   have HU1 := Sd.mk (HU.out.then hu)
   have hzw := HU.out.size
   have HR1 := Sd.mk hR1
   have I1 := Sd.mk i1
   clear HR HU hM hu hR1 i1
   obtain ⟨g, cap, cur, ce, Fi, hv, hcap, hat, hM, hg, hFi, hFg, close⟩ := iH HRowA 2 l.length rfl (by rw [fC (by simp) (by simp; omega)]; simp) i zMethod (by rw [gB (by simp) (by simpa using hlt)]; simp)
   cases hv
   obtain ⟨y1, _, rfl, -⟩ := j4 hM
   have HAT := Sd.mk hat
   have x0 := hat.cell0 _ rfl
   have x1 := hat.cell 1 _ rfl
   have f0 := hat.free (i * 2)
   have f1 := hat.free (i * 2 + 1)
   have CL := Sd.mk close
   clear hat close hM HRowA
   go_wp2
   have HA := (HAT.out.set0 kD (.string l[i].Name)).set 1 kD (.slice D1 l[i].Code.length d1)
   have hD1 : ∀ b, P1 b → ¬ (b = w.heap.size ∨ Fi b) := by
    intro b hb q
    have h1 := (I1.out b hb).1
    simp only [New] at h1
    rcases q with rfl | q
    ·exact absurd hg.2 kO
    ·have h2 := (hFi b q).2
     omega
   have HM := jA _ (fun b => P1 b) l[i] (bH HA.upd hD1 HR1.out) (fun k hk => hk)
   have hP1 : ∀ b, (P1 b) → New wr b := by
    intro b hb
    exact (I1.out b hb).1
   have HRowB := CL.out _ _ l[i] _ (New w) HA HM (fun b hb => .inr (fun q => by have h1 := hP1 b hb; have h2 := q.2; simp only [New] at h1; omega)) (fun _ q => q.1) (fun b hb => by have h1 := hP1 b hb; simp only [New] at h1 ⊢; omega)
   rw [fD (by simp) (by simpa using hlt)] at HRowB
   go_roundg (gk - 1)
   case measure => omega
   case rel => exact ⟨i + 1, by omega, by go_num, ⟨HRowB⟩, ⟨by repeat (with_reducible first | exact HU1.out | apply Upd.bW)⟩⟩
  ·go_wp2
   go_ret
   have HRowB := HR.out
   rw [fB (by simp) (by simp; omega)] at HRowB
   exact ⟨_, rfl, HRowB, HU.out⟩
theorem sz_Method (x : GMethod) (cs : List Value) (n : Int) (w : World) (h : gH.K w x cs) (hb : Bd_Method x) (h0 : 0 ≤ n) (h1 : n ≤ 1048576) : Calls Tryz.prog 196 #[.agg cs.toArray, .int .i64 n] w (RetSz (bT x) n w) := by
 obtain ⟨A1, c1, rfl, hl1, hC1⟩ := kl_Method_K h
 have HC1 := Sd.mk hC1
 clear hC1
 obtain ⟨b_Name, b_Code⟩ := hb
 have B_Code := Sd.mk b_Code
 clear b_Code
 go_enter Tryz.func196, Tryz.ntmps196
 by_cases q_Name : ((x.Name.size : Nat) : Int) ≤ n
 case neg =>
  go_wp2
  go_ret
  exact ⟨_, rfl, .inr ⟨by unfold bT; omega, rfl⟩, kA⟩
 go_wp2_with fail
 with_reducible refine (szS_Instr x.Code _ _ _ _ ?hc_Code B_Code.out kO kO).mono ?_
 case hc_Code => exact aO kA HC1.out
 rintro e w_Code ⟨r_Code, rfl, hr_Code, hu⟩
 have HB_Code : Sd (Upd No w w_Code) := Sd.mk (Upd.then kA hu)
 have cc0_Code := fun o => hu.bJ (b := w.heap.size) kB (fun q => q) o
 have hz_Code : w.heap.size + 1 ≤ w_Code.heap.size := by have := hu.size; (try simp at this); omega
 clear hu
 rcases hr_Code with ⟨q_Code, rfl⟩ | ⟨q_Code, rfl⟩
 case inr =>
  go_wp2
  go_ret
  exact ⟨_, rfl, .inr ⟨by unfold bT; omega, rfl⟩, (by repeat (with_reducible first | exact HB_Code.out | apply Upd.bZ | apply Upd.bY | apply Upd.bW | apply Upd.alloc | apply Upd.drewN | apply Upd.drew))⟩
 go_wp2
 go_ret
 exact ⟨_, rfl, .inl ⟨by unfold bT; omega, by unfold bT; omega⟩, (by repeat (with_reducible first | exact HB_Code.out | apply Upd.bZ | apply Upd.bY | apply Upd.bW | apply Upd.alloc | apply Upd.drewN | apply Upd.drew))⟩
theorem szS_Method (l : List GMethod) (A : Option Addr) (c : Nat) (n : Int) (w : World) (h : C gH w A l) (hb : ∀ y ∈ l, Bd_Method y) (h0 : 0 ≤ n) (h1 : n ≤ 1048576) : Calls Tryz.prog 144 #[.slice A l.length c, .int .i64 n] w (RetSz (dP bT l) n w) := by
 have hn := h.1
 have H := Sd.mk h
 clear h
 have HBD := Sd.mk hb
 clear hb
 go_enter Tryz.func144, Tryz.ntmps144
 by_cases q0 : (l.length : Int) ≤ n
 case neg =>
  go_wp2
  go_ret
  exact ⟨_, rfl, .inr ⟨by unfold dP; omega, rfl⟩, Upd.refl _ _⟩
 go_wp2
 go_loopg [1, 5] l.length (fun k u v wr => ∃ i : Nat, i + k = l.length ∧ (sumS bT (l.take i) : Int) ≤ n - l.length ∧ u = .int .i64 (n - l.length - sumS bT (l.take i)) ∧ v = .int .i64 i ∧ Sd (Upd No w wr))
 case atStart => exact ⟨0, by omega, by simp [sumS]; omega, by simp [sumS], rfl, ⟨Upd.refl _ _⟩⟩
 case round =>
  obtain ⟨i, hi, hle, rfl, rfl, HU⟩ := hrel
  by_cases hlt : i < l.length
  ·obtain ⟨ad, A1, c1, rfl, a0, a1, hl1, hC1⟩ := kl_Method_at (aO HU.out H.out) i hlt
   have HC1 := Sd.mk hC1
   clear hC1
   have hst := sumS_step bT l i hlt
   have HST := Sd.mk (kJ bT l i hlt)
   generalize hs : sumS bT (l.take i) = s at *
   have HS := Sd.mk hs
   clear hs
   go_wp2_with fail
   with_reducible refine (sz_Method l[i] _ _ _ (kl_Method_Kmk _ _ hl1 HC1.out) (HBD.out _ (List.getElem_mem hlt)) kO kO).mono ?_
   rintro e w1 ⟨r, rfl, hr, hu⟩
   have HU1 := Sd.mk (HU.out.then hu)
   clear hu HU
   rcases hr with ⟨q, rfl⟩ | ⟨q, rfl⟩
   ·go_wp2
    go_roundg (gk - 1)
    case measure => omega
    case rel => exact ⟨i + 1, by omega, by rw [HST.out]; omega, by rw [HST.out]; exact congrArg (Value.int .i64) kO, by go_num, HU1⟩
   ·go_wp2
    go_ret
    exact ⟨_, rfl, .inr ⟨by unfold dP; omega, rfl⟩, HU1.out⟩
  ·go_wp2
   go_ret
   have e : l.take i = l := List.take_of_length_le kO
   rw [e] at hle
   exact ⟨_, rfl, .inl ⟨by unfold dP; omega, by rw [e]; unfold dP; omega⟩, HU.out⟩
theorem eq_Method (x : GMethod) (cs cs' : List Value) (w : World) (h : bS.K w x cs) (h' : bS.K w x cs') : Calls Tryz.prog 201 #[.agg cs.toArray, .agg cs'.toArray] w (dD true w) := by
 obtain ⟨A1, c1, rfl, hl1, hC1⟩ := j3 h
 have HC1 := Sd.mk hC1
 clear hC1
 obtain ⟨B1, b1, rfl, hm1, hD1⟩ := j3 h'
 have HD1 := Sd.mk hD1
 clear hD1
 go_enter Tryz.func201, Tryz.ntmps201
 go_wp2_with fail
 with_reducible refine (eqS_Instr x.Code _ _ _ _ _ ?hc_Code ?hd_Code).mono ?_
 case hc_Code => exact aO kA HC1.out
 case hd_Code => exact aO kA HD1.out
 rintro e w_Code ⟨rfl, hu⟩
 have HB_Code : Sd (Upd No w w_Code) := Sd.mk (Upd.then kA hu)
 have cc0_Code := fun o => hu.bJ (b := w.heap.size) kB (fun q => q) o
 have cc1_Code := fun o => hu.bJ (b := w.heap.size + 1) kB (fun q => q) o
 have hz_Code : w.heap.size + 1 + 1 ≤ w_Code.heap.size := by have := hu.size; (try simp at this); omega
 clear hu
 go_wp2
 go_ret
 exact ⟨rfl, (by repeat (with_reducible first | exact HB_Code.out | apply Upd.bZ | apply Upd.bY | apply Upd.bW | apply Upd.alloc | apply Upd.drewN | apply Upd.drew))⟩
theorem eqS_Method (l : List GMethod) (A A' : Option Addr) (c c' : Nat) (w : World) (h : C bS w A l) (h' : C bS w A' l) : Calls Tryz.prog 151 #[.slice A l.length c, .slice A' l.length c'] w (dD true w) := by
 have hn := h.1
 have H := Sd.mk h
 have H' := Sd.mk h'
 clear h h'
 go_enter Tryz.func151, Tryz.ntmps151
 go_wp2
 go_loopg [5] l.length (fun k v wr => ∃ i : Nat, i + k = l.length ∧ v = .int .i64 i ∧ Sd (Upd No w wr))
 case atStart => exact ⟨0, by omega, rfl, ⟨Upd.refl _ _⟩⟩
 case round =>
  obtain ⟨i, hi, rfl, HU⟩ := hrel
  by_cases hlt : i < l.length
  ·obtain ⟨ad, A1, c1, rfl, a0, a1, hl1, hC1⟩ := jN (aO HU.out H.out) i hlt
   obtain ⟨ad', B1, b1, rfl, z0, z1, hm1, hD1⟩ := jN (aO HU.out H'.out) i hlt
   have HC1 := Sd.mk hC1
   have HD1 := Sd.mk hD1
   clear hC1 hD1
   go_wp2_with fail
   go_still_tail 8, kR
   change wpList _ _ _ _ _ wr.drew
   have HW : Sd (Upd No wr wr.drew) := ⟨(Upd.refl _ _).drew⟩
   have HU2 : Sd (Upd No w wr.drew) := ⟨HU.out.drew⟩
   generalize wr.drew = w2 at *
   go_wp2_with (go_at_call 201; (with_reducible refine (eq_Method l[i] _ _ _ (jW _ _ hl1 (aO HW.out HC1.out)) (jW _ _ hm1 (aO HW.out HD1.out))).mono ?_); rintro e w' ⟨rfl, hu⟩)
   have HU3 := Sd.mk (HU2.out.then hu)
   clear HU2 hu
   go_wp2
   go_roundg (gk - 1)
   case measure => omega
   case rel => exact ⟨i + 1, by omega, by go_num, HU3⟩
  ·go_wp2
   go_ret
   exact ⟨rfl, HU.out⟩
theorem markS_Method (l : List GMethod) (k : Int) (F : Nat → Prop) (v : Value) (w : World) (h : R bS 210 w F v l) (hk : 0 ≤ k) (hb : k + aK bI l ≤ 4611686018427387904) : Calls Tryz.prog 84 #[v, .int .i64 k] w (Marks bS 210 F v (k + aK bI l) (mkS gQ bI k l) w) := by
 obtain ⟨A, c, rfl⟩ := bK h
 have hn := R_len h
 have H := Sd.mk h
 clear h
 go_enter Tryz.func84, Tryz.ntmps84
 go_wp2
 go_loopg [1, 5] l.length (fun r u v wr => ∃ i : Nat, i + r = l.length ∧ u = .int .i64 (k + aK bI (l.take i)) ∧ v = .int .i64 i ∧ Sd (R bS 210 wr F (.slice A l.length c) (upTo (mkS gQ bI k l) l i)) ∧ Sd (Upd F w wr))
 case atStart => exact ⟨0, by omega, by simp [aK], rfl, ⟨by rw [eD]; exact H.out⟩, ⟨Upd.refl _ _⟩⟩
 case round =>
  obtain ⟨i, hi, rfl, rfl, HR, HU⟩ := hrel
  by_cases hlt : i < l.length
  ·have hle := bL bI gY l i
   have hst := cB bI l i hlt
   have hle2 := bL bI gY l (i + 1)
   rw [hst] at hle2
   have HST := Sd.mk hst
   clear hst
   have HMA := Sd.mk (eO gQ bI l k i hlt)
   obtain ⟨g, cap, cur, ce, Fi, hv, hcap, hat, hM, hg, hFi, hFg, close⟩ := iH HR.out 2 l.length rfl (fC (aM _ _ _ _) kO) i l[i] (gB (aM _ _ _ _) hlt)
   cases hv
   obtain ⟨v1, P1, rfl, hR1, i1⟩ := j4 hM
   obtain ⟨B1, b1, rfl⟩ := bK hR1
   have HR1 := Sd.mk hR1
   have I1 := Sd.mk i1
   have N1 : ¬ P1 g := fun q => hFg (i1 g q)
   clear hR1 i1
   have nn1 := bN bO iI l[i].Code
   have HCN : Sd (bI l[i] = bI l[i]) := ⟨rfl⟩
   simp only [bI] at hle2
   generalize hq : k + aK bI (l.take i) = q at *
   have HQ := Sd.mk hq
   have hq0 : 0 ≤ q := by omega
   have hqb : q + ((0 + 1) + aK bO l[i].Code) ≤ 4611686018427387904 := by omega
   clear hq hle hle2 hb
   generalize hcn1 : aK bO l[i].Code = cn1 at *
   have HC1 := Sd.mk hcn1
   clear hcn1
   have HAT := Sd.mk hat
   have x0_s := hat.cell0 _ rfl
   have x1_s := hat.cell 1 _ rfl
   have f0_s := hat.free (i * 2)
   have f1_s := hat.free (i * 2 + 1)
   have CL := Sd.mk close
   clear hat close hM HR
   go_wp2_with fail
   with_reducible refine (fV _ _ kO kO).mono ?_
   rintro e w_Name ⟨rfl, hu⟩
   replace HR1 := Sd.mk (bH hu (fun _ _ q => q) (bH (G := fun b => b = g) kC (fun b hb hg' => N1 (hg' ▸ hb)) HR1.out))
   replace HAT := Sd.mk (HAT.out.call hu (fun _ q => q.elim) hFg)
   clear hu x0_s f0_s x1_s f1_s
   have x0_Name := HAT.out.cell0 _ rfl
   have x1_Name := HAT.out.cell 1 _ rfl
   have f0_Name := HAT.out.free (i * 2)
   have f1_Name := HAT.out.free (i * 2 + 1)
   go_wp2_with fail
   with_reducible refine (markS_Instr l[i].Code _ P1 _ _ ?hr_Code kO (by rw [HC1.out]; omega)).mono ?_
   case hr_Code => exact (bH (G := fun b => b = g) kC (fun b hb hg' => N1 (hg' ▸ hb)) HR1.out)
   rintro e w_Code ⟨rfl, hR1, hu⟩
   rw [HC1.out]
   replace HR1 := Sd.mk hR1
   replace HAT := Sd.mk ((HAT.out.set0 kD (.string (mtx (q)))).call hu I1.out hFg)
   clear hR1
   clear hu x0_Name f0_Name x1_Name f1_Name
   have x0_Code := HAT.out.cell0 _ rfl
   have x1_Code := HAT.out.cell 1 _ rfl
   have f0_Code := HAT.out.free (i * 2)
   have f1_Code := HAT.out.free (i * 2 + 1)
   go_wp2
   have HA := HAT.out
   have hy : (⟨mtx (q), mkS iN bO (q + 1) l[i].Code⟩ : GMethod) = (mkS gQ bI k l)[i]'(by rw [aM]; exact hlt) := by rw [HMA.out]; simp only [gQ, HC1.out]
   have HRowB := CL.out _ _ (⟨mtx (q), mkS iN bO (q + 1) l[i].Code⟩ : GMethod) Fi F HA (jA _ Fi (⟨mtx (q), mkS iN bO (q + 1) l[i].Code⟩ : GMethod) (bH (G := fun b => b = g) kC (fun b hb hg' => N1 (hg' ▸ hb)) HR1.out) I1.out) (fun _ hb => .inl hb) (fun _ hb => hb) hFi
   rw [hy, fD (aM _ _ _ _) hlt] at HRowB
   go_roundg (gk - 1)
   case measure => omega
   case rel => exact ⟨i + 1, by omega, by rw [HST.out]; simp only [bI]; have := HQ.out; have := HC1.out; exact congrArg (Value.int .i64) kO, by go_num, ⟨HRowB⟩, ⟨HU.out.trans HA.upd (fun _ _ hb => hb) (fun b _ hb => by rcases hb with rfl | hb; exact hg; exact hFi b hb)⟩⟩
  ·go_wp2
   go_ret
   have HRowB := HR.out
   rw [fB (aM _ _ _ _) kO] at HRowB
   have e : l.take i = l := List.take_of_length_le kO
   exact ⟨dL (by rw [e]), HRowB, HU.out⟩
theorem heldS_Method (l : List GMethod) (k : Int) (A : Option Addr) (c : Nat) (w : World) (h : C bS w A (mkS gQ bI k l)) (hk : 0 ≤ k) (hb : k + aK bI l ≤ 4611686018427387904) : Calls Tryz.prog 142 #[.slice A l.length c, .int .i64 k] w (gN (k + aK bI l) w) := by
 have hn := h.1
 rw [aM] at hn
 have H := Sd.mk h
 clear h
 go_enter Tryz.func142, Tryz.ntmps142
 go_wp2
 go_loopg [1, 5] l.length (fun r u v wr => ∃ i : Nat, i + r = l.length ∧ u = .int .i64 (k + aK bI (l.take i)) ∧ v = .int .i64 i ∧ Sd (Upd No w wr))
 case atStart => exact ⟨0, by omega, by simp [aK], rfl, ⟨Upd.refl _ _⟩⟩
 case round =>
  obtain ⟨i, hi, rfl, rfl, HU⟩ := hrel
  by_cases hlt : i < l.length
  ·have hle := bL bI gY l i
   have hst := cB bI l i hlt
   have hle2 := bL bI gY l (i + 1)
   rw [hst] at hle2
   have HST := Sd.mk hst
   clear hst
   obtain ⟨ad, A1, c1, rfl, a0, a1, hl1, hC1⟩ := jN (aO HU.out H.out) i (by rw [aM]; exact hlt)
   rw [eO gQ bI l k i hlt] at a0 a1 hl1 hC1
   simp only [gQ, aM] at a0 a1 hl1 hC1
   have nn1 := bN bO iI l[i].Code
   simp only [bI] at hle2
   generalize hq : k + aK bI (l.take i) = q at *
   have HQ := Sd.mk hq
   have hq0 : 0 ≤ q := by omega
   have hqb : q + ((0 + 1) + aK bO l[i].Code) ≤ 4611686018427387904 := by omega
   clear hq hle hle2 hb
   generalize hcn1 : aK bO l[i].Code = cn1 at *
   have HN1 := Sd.mk hcn1
   clear hcn1
   have HC1 := Sd.mk hC1
   clear hC1
   have HX := Sd.mk (Upd.refl No wr)
   go_wp2_with fail
   go_region_held3 (fun w' => w'.cell? (ad.add (i * 2)) = some (.string (mtx q))) (first | exact a0 | exact hu_Name.read a0) (first | (go_at_call 83; (with_reducible refine (fV _ _ kO kO).mono ?_); rintro e w_Name ⟨rfl, hu_Name⟩))
   rename_i hH_Name
   clear hH_Name
   have HY : Sd (Upd No wr w_Name) := Sd.mk ((Upd.refl _ _).drew.then hu_Name)
   clear hu_Name
   replace a0 := HY.out.read a0
   replace a1 := HY.out.read a1
   replace HC1 := Sd.mk (aO HY.out HC1.out)
   replace HX := Sd.mk (HX.out.then HY.out)
   clear HY
   go_wp2_with fail
   with_reducible refine (heldS_Instr l[i].Code _ _ _ _ ?hc_Code kO (by rw [HN1.out]; omega)).mono ?_
   case hc_Code => exact HC1.out
   rintro e w_Code ⟨rfl, hu⟩
   rw [HN1.out]
   replace a0 := hu.read a0
   replace a1 := hu.read a1
   replace HC1 := Sd.mk (aO hu HC1.out)
   replace HX := Sd.mk (HX.out.then hu)
   clear hu
   go_wp2
   go_roundg (gk - 1)
   case measure => omega
   case rel => exact ⟨i + 1, by omega, by rw [HST.out]; simp only [bI]; have := HQ.out; have := HN1.out; exact congrArg (Value.int .i64) kO, by go_num, ⟨HU.out.then HX.out⟩⟩
  ·go_wp2
   go_ret
   have e : l.take i = l := List.take_of_length_le kO
   exact ⟨dL (by rw [e]), HU.out⟩
theorem flat_Instr : Flat dF := by
 unfold dF
 repeat' first | apply flat_iso | apply flat_pair | apply kW
theorem clone_Instr (l : List GInstr) (A : Option Addr) (c : Nat) (w : World) (h : C dF w A l) (hn : l.length ≤ 4194304) : Calls Tryz.prog 199 #[.slice A l.length c] w (RetRow dF 274 l w) := by
 have HC := Sd.mk (jG flat_Instr h)
 have eqn := fun (w : World) a n c n' c' => Lib.run_eql_slice_nil (P := Tryz.prog) w 208 274 a n c n' c' Tryz.underlying208
 clear h
 go_enter Tryz.func199, Tryz.ntmps199
 rcases A with _ | ad
 ·have h0 : l = [] := by
   cases l with
   | nil => rfl
   | cons x l => obtain ⟨ad, q, _⟩ := HC.out.2 (by simp); cases q
  subst h0
  go_wp2
  go_ret
  exact ⟨_, rfl, fP, Upd.refl _ _⟩
 ·go_wp2_with (first | (at_builtin; refine R_appAny (d := dF) (e := 274) (ys := l) (xs := []) (F := New w) rfl _ _ 208 _ _ rfl Tryz.underlying208 lC rfl kD kD (some ad) c (fun _ => No) rfl rfl (R_empty w) (CM_upd (Upd.alloc (Upd.refl _ _) _) HC.out) (fun _ _ q => q.elim) (fun _ _ _ q => q.elim) (by simp; omega) ?_) | fail)
  intro v1 w1 hR hU
  have hR' := Sd.mk hR
  have HU := Sd.mk (((Upd.refl No w).alloc (.cells #[] 274)).trans hU (fun _ _ q => q) (fun b hb q => absurd hb (by simp only [New] at q; omega)))
  clear hR hU
  go_wp2
  go_ret
  exact ⟨_, rfl, iD (fun b q => by rcases q with q | ⟨j, _, q⟩ | q <;> simp [New, No] at q ⊢ <;> omega) hR'.out, HU.out⟩
theorem flat_Value : Flat bF := by
 unfold bF
 repeat' first | apply flat_iso | apply flat_pair | apply kW
theorem clone_Value (l : List GValue) (A : Option Addr) (c : Nat) (w : World) (h : C bF w A l) (hn : l.length ≤ 4194304) : Calls Tryz.prog 184 #[.slice A l.length c] w (RetRow bF 95 l w) := by
 have HC := Sd.mk (jG flat_Value h)
 have eqn := fun (w : World) a n c n' c' => Lib.run_eql_slice_nil (P := Tryz.prog) w 85 95 a n c n' c' Tryz.underlying85
 clear h
 go_enter Tryz.func184, Tryz.ntmps184
 rcases A with _ | ad
 ·have h0 : l = [] := by
   cases l with
   | nil => rfl
   | cons x l => obtain ⟨ad, q, _⟩ := HC.out.2 (by simp); cases q
  subst h0
  go_wp2
  go_ret
  exact ⟨_, rfl, fP, Upd.refl _ _⟩
 ·go_wp2_with (first | (at_builtin; refine R_appAny (d := bF) (e := 95) (ys := l) (xs := []) (F := New w) rfl _ _ 85 _ _ rfl Tryz.underlying85 ki_Value_info rfl kD kD (some ad) c (fun _ => No) rfl rfl (R_empty w) (CM_upd (Upd.alloc (Upd.refl _ _) _) HC.out) (fun _ _ q => q.elim) (fun _ _ _ q => q.elim) (by simp; omega) ?_) | fail)
  intro v1 w1 hR hU
  have hR' := Sd.mk hR
  have HU := Sd.mk (((Upd.refl No w).alloc (.cells #[] 95)).trans hU (fun _ _ q => q) (fun b hb q => absurd hb (by simp only [New] at q; omega)))
  clear hR hU
  go_wp2
  go_ret
  exact ⟨_, rfl, iD (fun b q => by rcases q with q | ⟨j, _, q⟩ | q <;> simp [New, No] at q ⊢ <;> omega) hR'.out, HU.out⟩
theorem flat_Export : Flat aL := by
 unfold aL
 repeat' first | apply flat_iso | apply flat_pair | apply kW
theorem flat_Question : Flat aJ := by
 unfold aJ
 repeat' first | apply flat_iso | apply flat_pair | apply kW
theorem l10Copy_s (x : GLink) (cs : List Value) (w : World) (h : bB.K w x cs) (hs : iP x ≤ 4194304) : Calls Tryz.prog 159 #[.agg cs.toArray] w (iT bB x w) := by
 obtain ⟨A2, c2, A4, c4, A6, c6, rfl, hl2, hC2, hl4, hC4, hl6, hC6⟩ := ki_Link_K h
 have HC2 := Sd.mk hC2
 have HC4 := Sd.mk hC4
 have HC6 := Sd.mk hC6
 clear hC2 hC4 hC6
 clear h
 have s_Exports : dP jR x.aC ≤ 4194304 := by unfold iP at hs; omega
 have HCM2 := Sd.mk (jG flat_Export HC2.out)
 have n_Exports : x.aC.length ≤ 4194304 := by unfold dP at s_Exports; omega
 have S_Exports := Sd.mk s_Exports
 have s_Questions : dP fO x.aD ≤ 4194304 := by unfold iP at hs; omega
 have HCM4 := Sd.mk (jG flat_Question HC4.out)
 have n_Questions : x.aD.length ≤ 4194304 := by unfold dP at s_Questions; omega
 have S_Questions := Sd.mk s_Questions
 have s_Answers : dP fO x.aN ≤ 4194304 := by unfold iP at hs; omega
 have HCM6 := Sd.mk (jG flat_Question HC6.out)
 have n_Answers : x.aN.length ≤ 4194304 := by unfold dP at s_Answers; omega
 have S_Answers := Sd.mk s_Answers
 clear hs s_Exports s_Questions s_Answers
 go_enter Tryz.func159, Tryz.ntmps159
 go_wp2_with (first | (at_builtin; refine R_appAny (d := aL) (e := 256) (ys := x.aC) (xs := []) (F := New _) rfl _ _ 175 _ _ rfl Tryz.underlying175 kQ rfl kD kD A2 c2 (fun _ => No) rfl rfl (R_emptyAt _ _ (by simp)) (CM_upd (by repeat (with_reducible first | exact Upd.refl No _ | apply Upd.bZ | apply Upd.bY | apply Upd.bW | apply Upd.alloc | apply Upd.drewN | apply Upd.drew)) HCM2.out) (fun _ _ q => q.elim) (fun _ _ _ q => q.elim) (by simp; omega) ?_) | fail)
 intro v2 w_Exports hR2 hu
 obtain ⟨B2, b2, rfl⟩ := bK hR2
 obtain ⟨P2, hR2', g2, l2⟩ : ∃ P : Nat → Prop, R aL 256 w_Exports P (.slice B2 x.aC.length b2) x.aC ∧ (∀ b, P b → w.heap.size + 1 + 1 + 1 ≤ b) ∧ (∀ b, P b → b < w_Exports.heap.size) := ⟨_, R_lt (iD (F' := fun b => w.heap.size + 1 + 1 + 1 ≤ b) (fun b q => (by simp [New, No] at q; omega)) hR2), fun b q => q.1, fun b q => q.2⟩
 have n0_2 : ¬ P2 (w.heap.size) := fun q => (by have := g2 _ q; omega)
 have n1_2 : ¬ P2 (w.heap.size + 1) := fun q => (by have := g2 _ q; omega)
 have n2_2 : ¬ P2 (w.heap.size + 1 + 1) := fun q => (by have := g2 _ q; omega)
 have HR2 := Sd.mk hR2'
 have GP2 := Sd.mk g2
 have LT2 := Sd.mk l2
 clear hR2 hR2' g2 l2
 have HB_Exports : Sd (Upd No w w_Exports) := Sd.mk (Upd.trans (F := No) (by repeat (with_reducible first | exact Upd.refl No _ | apply Upd.bZ | apply Upd.bY | apply Upd.bW | apply Upd.alloc | apply Upd.drewN | apply Upd.drew)) hu (fun _ _ q => q) (fun b hb q => (by simp [New] at q; omega)))
 have cc0_Exports := fun o => hu.bJ (b := w.heap.size) kB (by first | (simp [New]; done) | (simp [New]; omega)) o
 have cf0_Exports := fun o => hu.fI (b := w.heap.size) kB (by first | (simp [New]; done) | (simp [New]; omega)) o
 have cc1_Exports := fun o => hu.bJ (b := w.heap.size + 1) kB (by first | (simp [New]; done) | (simp [New]; omega)) o
 have cf1_Exports := fun o => hu.fI (b := w.heap.size + 1) kB (by first | (simp [New]; done) | (simp [New]; omega)) o
 have cc2_Exports := fun o => hu.bJ (b := w.heap.size + 1 + 1) kB (by first | (simp [New]; done) | (simp [New]; omega)) o
 have cf2_Exports := fun o => hu.fI (b := w.heap.size + 1 + 1) kB (by first | (simp [New]; done) | (simp [New]; omega)) o
 have ca0_Exports : ∀ p u ob o, ((w_Exports.setCell p u).alloc ob).cell? ⟨w.heap.size, o, none⟩ = (w_Exports.setCell p u).cell? ⟨w.heap.size, o, none⟩ := fun p u ob o => ((Upd.refl No _).alloc ob).bJ (b := w.heap.size) (by have := hu.size; simp at this ⊢; omega) (fun q => q) o
 have cb0_Exports : ∀ p u ob o, ((w_Exports.setCell p u).alloc ob).frozen? ⟨w.heap.size, o, none⟩ = (w_Exports.setCell p u).frozen? ⟨w.heap.size, o, none⟩ := fun p u ob o => ((Upd.refl No _).alloc ob).fI (b := w.heap.size) (by have := hu.size; simp at this ⊢; omega) (fun q => q) o
 have ca1_Exports : ∀ p u ob o, ((w_Exports.setCell p u).alloc ob).cell? ⟨w.heap.size + 1, o, none⟩ = (w_Exports.setCell p u).cell? ⟨w.heap.size + 1, o, none⟩ := fun p u ob o => ((Upd.refl No _).alloc ob).bJ (b := w.heap.size + 1) (by have := hu.size; simp at this ⊢; omega) (fun q => q) o
 have cb1_Exports : ∀ p u ob o, ((w_Exports.setCell p u).alloc ob).frozen? ⟨w.heap.size + 1, o, none⟩ = (w_Exports.setCell p u).frozen? ⟨w.heap.size + 1, o, none⟩ := fun p u ob o => ((Upd.refl No _).alloc ob).fI (b := w.heap.size + 1) (by have := hu.size; simp at this ⊢; omega) (fun q => q) o
 have ca2_Exports : ∀ p u ob o, ((w_Exports.setCell p u).alloc ob).cell? ⟨w.heap.size + 1 + 1, o, none⟩ = (w_Exports.setCell p u).cell? ⟨w.heap.size + 1 + 1, o, none⟩ := fun p u ob o => ((Upd.refl No _).alloc ob).bJ (b := w.heap.size + 1 + 1) (by have := hu.size; simp at this ⊢; omega) (fun q => q) o
 have cb2_Exports : ∀ p u ob o, ((w_Exports.setCell p u).alloc ob).frozen? ⟨w.heap.size + 1 + 1, o, none⟩ = (w_Exports.setCell p u).frozen? ⟨w.heap.size + 1 + 1, o, none⟩ := fun p u ob o => ((Upd.refl No _).alloc ob).fI (b := w.heap.size + 1 + 1) (by have := hu.size; simp at this ⊢; omega) (fun q => q) o
 have hz_Exports : w.heap.size + 1 + 1 + 1 ≤ w_Exports.heap.size := (by have := hu.size; (try simp at this); omega)
 clear hu
 go_wp2_with (first | (at_builtin; refine R_appAny (d := aJ) (e := 289) (ys := x.aD) (xs := []) (F := New _) rfl _ _ 176 _ _ rfl Tryz.underlying176 ki_Question_info rfl kD kD A4 c4 (fun _ => No) rfl rfl (R_emptyAt _ _ (by simp)) (CM_upd (by repeat (with_reducible first | exact HB_Exports.out | apply Upd.bZ | apply Upd.bY | apply Upd.bW | apply Upd.alloc | apply Upd.drewN | apply Upd.drew)) HCM4.out) (fun _ _ q => q.elim) (fun _ _ _ q => q.elim) (by simp; omega) ?_) | fail)
 intro v4 w_Questions hR4 hu
 obtain ⟨B4, b4, rfl⟩ := bK hR4
 obtain ⟨P4, hR4', g4, l4⟩ : ∃ P : Nat → Prop, R aJ 289 w_Questions P (.slice B4 x.aD.length b4) x.aD ∧ (∀ b, P b → w_Exports.heap.size ≤ b) ∧ (∀ b, P b → b < w_Questions.heap.size) := ⟨_, R_lt (iD (F' := fun b => w_Exports.heap.size ≤ b) (fun b q => (by simp [New, No] at q; omega)) hR4), fun b q => q.1, fun b q => q.2⟩
 have n0_4 : ¬ P4 (w.heap.size) := fun q => (by have := g4 _ q; omega)
 have n1_4 : ¬ P4 (w.heap.size + 1) := fun q => (by have := g4 _ q; omega)
 have n2_4 : ¬ P4 (w.heap.size + 1 + 1) := fun q => (by have := g4 _ q; omega)
 have HR4 := Sd.mk hR4'
 have GP4 := Sd.mk g4
 have LT4 := Sd.mk l4
 clear hR4 hR4' g4 l4
 replace HR2 := Sd.mk (bH hu (fun b hb q => (by have := LT2.out b hb; simp [New] at q; omega)) (R_keep HR2.out (by repeat (with_reducible first | exact Upd.refl _ _ | apply Upd.putP n0_2 | apply Upd.putP n1_2 | apply Upd.putP n2_2 | apply Upd.alloc | apply Upd.drewN | apply Upd.drew))))
 have HB_Questions : Sd (Upd No w w_Questions) := Sd.mk (Upd.trans (F := No) (by repeat (with_reducible first | exact HB_Exports.out | apply Upd.bZ | apply Upd.bY | apply Upd.bW | apply Upd.alloc | apply Upd.drewN | apply Upd.drew)) hu (fun _ _ q => q) (fun b hb q => (by simp [New] at q; omega)))
 have cc0_Questions := fun o => hu.bJ (b := w.heap.size) kB (by first | (simp [New]; done) | (simp [New]; omega)) o
 have cf0_Questions := fun o => hu.fI (b := w.heap.size) kB (by first | (simp [New]; done) | (simp [New]; omega)) o
 have cc1_Questions := fun o => hu.bJ (b := w.heap.size + 1) kB (by first | (simp [New]; done) | (simp [New]; omega)) o
 have cf1_Questions := fun o => hu.fI (b := w.heap.size + 1) kB (by first | (simp [New]; done) | (simp [New]; omega)) o
 have cc2_Questions := fun o => hu.bJ (b := w.heap.size + 1 + 1) kB (by first | (simp [New]; done) | (simp [New]; omega)) o
 have cf2_Questions := fun o => hu.fI (b := w.heap.size + 1 + 1) kB (by first | (simp [New]; done) | (simp [New]; omega)) o
 have ca0_Questions : ∀ p u ob o, ((w_Questions.setCell p u).alloc ob).cell? ⟨w.heap.size, o, none⟩ = (w_Questions.setCell p u).cell? ⟨w.heap.size, o, none⟩ := fun p u ob o => ((Upd.refl No _).alloc ob).bJ (b := w.heap.size) (by have := hu.size; simp at this ⊢; omega) (fun q => q) o
 have cb0_Questions : ∀ p u ob o, ((w_Questions.setCell p u).alloc ob).frozen? ⟨w.heap.size, o, none⟩ = (w_Questions.setCell p u).frozen? ⟨w.heap.size, o, none⟩ := fun p u ob o => ((Upd.refl No _).alloc ob).fI (b := w.heap.size) (by have := hu.size; simp at this ⊢; omega) (fun q => q) o
 have ca1_Questions : ∀ p u ob o, ((w_Questions.setCell p u).alloc ob).cell? ⟨w.heap.size + 1, o, none⟩ = (w_Questions.setCell p u).cell? ⟨w.heap.size + 1, o, none⟩ := fun p u ob o => ((Upd.refl No _).alloc ob).bJ (b := w.heap.size + 1) (by have := hu.size; simp at this ⊢; omega) (fun q => q) o
 have cb1_Questions : ∀ p u ob o, ((w_Questions.setCell p u).alloc ob).frozen? ⟨w.heap.size + 1, o, none⟩ = (w_Questions.setCell p u).frozen? ⟨w.heap.size + 1, o, none⟩ := fun p u ob o => ((Upd.refl No _).alloc ob).fI (b := w.heap.size + 1) (by have := hu.size; simp at this ⊢; omega) (fun q => q) o
 have ca2_Questions : ∀ p u ob o, ((w_Questions.setCell p u).alloc ob).cell? ⟨w.heap.size + 1 + 1, o, none⟩ = (w_Questions.setCell p u).cell? ⟨w.heap.size + 1 + 1, o, none⟩ := fun p u ob o => ((Upd.refl No _).alloc ob).bJ (b := w.heap.size + 1 + 1) (by have := hu.size; simp at this ⊢; omega) (fun q => q) o
 have cb2_Questions : ∀ p u ob o, ((w_Questions.setCell p u).alloc ob).frozen? ⟨w.heap.size + 1 + 1, o, none⟩ = (w_Questions.setCell p u).frozen? ⟨w.heap.size + 1 + 1, o, none⟩ := fun p u ob o => ((Upd.refl No _).alloc ob).fI (b := w.heap.size + 1 + 1) (by have := hu.size; simp at this ⊢; omega) (fun q => q) o
 have hz_Questions : w.heap.size + 1 + 1 + 1 ≤ w_Questions.heap.size := (by have := hu.size; (try simp at this); omega)
 have hm_Questions : w_Exports.heap.size ≤ w_Questions.heap.size := (by have := hu.size; (try simp at this); omega)
 clear hu
 go_wp2_with (first | (at_builtin; refine R_appAny (d := aJ) (e := 289) (ys := x.aN) (xs := []) (F := New _) rfl _ _ 176 _ _ rfl Tryz.underlying176 ki_Question_info rfl kD kD A6 c6 (fun _ => No) rfl rfl (R_emptyAt _ _ (by simp)) (CM_upd (by repeat (with_reducible first | exact HB_Questions.out | apply Upd.bZ | apply Upd.bY | apply Upd.bW | apply Upd.alloc | apply Upd.drewN | apply Upd.drew)) HCM6.out) (fun _ _ q => q.elim) (fun _ _ _ q => q.elim) (by simp; omega) ?_) | fail)
 intro v6 w_Answers hR6 hu
 obtain ⟨B6, b6, rfl⟩ := bK hR6
 obtain ⟨P6, hR6', g6, l6⟩ : ∃ P : Nat → Prop, R aJ 289 w_Answers P (.slice B6 x.aN.length b6) x.aN ∧ (∀ b, P b → w_Questions.heap.size ≤ b) ∧ (∀ b, P b → b < w_Answers.heap.size) := ⟨_, R_lt (iD (F' := fun b => w_Questions.heap.size ≤ b) (fun b q => (by simp [New, No] at q; omega)) hR6), fun b q => q.1, fun b q => q.2⟩
 have n0_6 : ¬ P6 (w.heap.size) := fun q => (by have := g6 _ q; omega)
 have n1_6 : ¬ P6 (w.heap.size + 1) := fun q => (by have := g6 _ q; omega)
 have n2_6 : ¬ P6 (w.heap.size + 1 + 1) := fun q => (by have := g6 _ q; omega)
 have HR6 := Sd.mk hR6'
 have GP6 := Sd.mk g6
 have LT6 := Sd.mk l6
 clear hR6 hR6' g6 l6
 replace HR2 := Sd.mk (bH hu (fun b hb q => (by have := LT2.out b hb; simp [New] at q; omega)) (R_keep HR2.out (by repeat (with_reducible first | exact Upd.refl _ _ | apply Upd.putP n0_2 | apply Upd.putP n1_2 | apply Upd.putP n2_2 | apply Upd.alloc | apply Upd.drewN | apply Upd.drew))))
 replace HR4 := Sd.mk (bH hu (fun b hb q => (by have := LT4.out b hb; simp [New] at q; omega)) (R_keep HR4.out (by repeat (with_reducible first | exact Upd.refl _ _ | apply Upd.putP n0_4 | apply Upd.putP n1_4 | apply Upd.putP n2_4 | apply Upd.alloc | apply Upd.drewN | apply Upd.drew))))
 have HB_Answers : Sd (Upd No w w_Answers) := Sd.mk (Upd.trans (F := No) (by repeat (with_reducible first | exact HB_Questions.out | apply Upd.bZ | apply Upd.bY | apply Upd.bW | apply Upd.alloc | apply Upd.drewN | apply Upd.drew)) hu (fun _ _ q => q) (fun b hb q => (by simp [New] at q; omega)))
 have cc0_Answers := fun o => hu.bJ (b := w.heap.size) kB (by first | (simp [New]; done) | (simp [New]; omega)) o
 have cf0_Answers := fun o => hu.fI (b := w.heap.size) kB (by first | (simp [New]; done) | (simp [New]; omega)) o
 have cc1_Answers := fun o => hu.bJ (b := w.heap.size + 1) kB (by first | (simp [New]; done) | (simp [New]; omega)) o
 have cf1_Answers := fun o => hu.fI (b := w.heap.size + 1) kB (by first | (simp [New]; done) | (simp [New]; omega)) o
 have cc2_Answers := fun o => hu.bJ (b := w.heap.size + 1 + 1) kB (by first | (simp [New]; done) | (simp [New]; omega)) o
 have cf2_Answers := fun o => hu.fI (b := w.heap.size + 1 + 1) kB (by first | (simp [New]; done) | (simp [New]; omega)) o
 have ca0_Answers : ∀ p u ob o, ((w_Answers.setCell p u).alloc ob).cell? ⟨w.heap.size, o, none⟩ = (w_Answers.setCell p u).cell? ⟨w.heap.size, o, none⟩ := fun p u ob o => ((Upd.refl No _).alloc ob).bJ (b := w.heap.size) (by have := hu.size; simp at this ⊢; omega) (fun q => q) o
 have cb0_Answers : ∀ p u ob o, ((w_Answers.setCell p u).alloc ob).frozen? ⟨w.heap.size, o, none⟩ = (w_Answers.setCell p u).frozen? ⟨w.heap.size, o, none⟩ := fun p u ob o => ((Upd.refl No _).alloc ob).fI (b := w.heap.size) (by have := hu.size; simp at this ⊢; omega) (fun q => q) o
 have ca1_Answers : ∀ p u ob o, ((w_Answers.setCell p u).alloc ob).cell? ⟨w.heap.size + 1, o, none⟩ = (w_Answers.setCell p u).cell? ⟨w.heap.size + 1, o, none⟩ := fun p u ob o => ((Upd.refl No _).alloc ob).bJ (b := w.heap.size + 1) (by have := hu.size; simp at this ⊢; omega) (fun q => q) o
 have cb1_Answers : ∀ p u ob o, ((w_Answers.setCell p u).alloc ob).frozen? ⟨w.heap.size + 1, o, none⟩ = (w_Answers.setCell p u).frozen? ⟨w.heap.size + 1, o, none⟩ := fun p u ob o => ((Upd.refl No _).alloc ob).fI (b := w.heap.size + 1) (by have := hu.size; simp at this ⊢; omega) (fun q => q) o
 have ca2_Answers : ∀ p u ob o, ((w_Answers.setCell p u).alloc ob).cell? ⟨w.heap.size + 1 + 1, o, none⟩ = (w_Answers.setCell p u).cell? ⟨w.heap.size + 1 + 1, o, none⟩ := fun p u ob o => ((Upd.refl No _).alloc ob).bJ (b := w.heap.size + 1 + 1) (by have := hu.size; simp at this ⊢; omega) (fun q => q) o
 have cb2_Answers : ∀ p u ob o, ((w_Answers.setCell p u).alloc ob).frozen? ⟨w.heap.size + 1 + 1, o, none⟩ = (w_Answers.setCell p u).frozen? ⟨w.heap.size + 1 + 1, o, none⟩ := fun p u ob o => ((Upd.refl No _).alloc ob).fI (b := w.heap.size + 1 + 1) (by have := hu.size; simp at this ⊢; omega) (fun q => q) o
 have hz_Answers : w.heap.size + 1 + 1 + 1 ≤ w_Answers.heap.size := (by have := hu.size; (try simp at this); omega)
 have hm_Answers : w_Questions.heap.size ≤ w_Answers.heap.size := (by have := hu.size; (try simp at this); omega)
 clear hu
 go_wp2
 refine bodyPost_ret (v := .agg #[.int .i64 x.dW, .bool x.Up, .slice B2 x.aC.length b2, .int .i64 x.Next, .slice B4 x.aD.length b4, .int .i64 x.dN, .slice B6 x.aN.length b6]) (by simp [results, Tryz.results159, go_sem, cc1_Exports, ca1_Exports, cc2_Exports, ca2_Exports, cc1_Questions, ca1_Questions, cc2_Questions, ca2_Questions, cc1_Answers, ca1_Answers, cc2_Answers, ca2_Answers]) rfl ⟨_, rfl, ?_, (by repeat (with_reducible first | exact HB_Answers.out | apply Upd.bZ | apply Upd.bY | apply Upd.bW | apply Upd.alloc | apply Upd.drewN | apply Upd.drew))⟩
 exact ki_Link_mk _ _ x (R_keep HR2.out (by repeat (with_reducible first | exact Upd.refl _ _ | apply Upd.putP n0_2 | apply Upd.putP n1_2 | apply Upd.putP n2_2 | apply Upd.alloc | apply Upd.drewN | apply Upd.drew))) (R_keep HR4.out (by repeat (with_reducible first | exact Upd.refl _ _ | apply Upd.putP n0_4 | apply Upd.putP n1_4 | apply Upd.putP n2_4 | apply Upd.alloc | apply Upd.drewN | apply Upd.drew))) (R_keep HR6.out (by repeat (with_reducible first | exact Upd.refl _ _ | apply Upd.putP n0_6 | apply Upd.putP n1_6 | apply Upd.putP n2_6 | apply Upd.alloc | apply Upd.drewN | apply Upd.drew))) (fun k hk => by have := GP2.out k hk; simp only [New]; omega) (fun k hk => by have := GP4.out k hk; simp only [New]; omega) (fun k hk => by have := GP6.out k hk; simp only [New]; omega) (fun k hk hk' => by have h1 := LT2.out k hk; have h2 := GP4.out k hk'; omega) (fun k hk hk' => by have h1 := LT2.out k hk; have h2 := GP6.out k hk'; have := hm_Questions; omega) (fun k hk hk' => by have h1 := LT4.out k hk; have h2 := GP6.out k hk'; omega)
end Go.Proofs.YtfnedoiplblldaaGreatFam
namespace Go.Proofs.YtfnedoiplblldaaGreatFam
open Go.ChangeShapes Go.WideShapes Go.RowKit Go.Proofs.YtfnedoiplblldaaGreatSep Go.Proofs.YtfnedoiplblldaaGreatT Go.Proofs.YtfnedoiplblldaaGreatK
set_option linter.unusedVariables false
set_option linter.unusedSimpArgs false
attribute [local irreducible] wpOps wpOp
def RetAI {α : Type} (d : Kn α) (x : α) (n : Int) (w : World) (e : Ending) (w' : World) : Prop := ∃ cs, e = .returned (.tuple #[.agg cs.toArray, .int .i64 n]) ∧ d.M w' (New w) x cs ∧ Upd No w w'
end Go.Proofs.YtfnedoiplblldaaGreatFam
namespace Go.Proofs.YtfnedoiplblldaaGreatFam
open Go.ChangeShapes Go.WideShapes Go.RowKit Go.Proofs.YtfnedoiplblldaaGreatSep Go.Proofs.YtfnedoiplblldaaGreatT Go.Proofs.YtfnedoiplblldaaGreatK
set_option linter.unusedVariables false
set_option linter.unusedSimpArgs false
attribute [local irreducible] wpOps wpOp
set_option maxHeartbeats 4000000
set_option maxRecDepth 100000
def exP (n : Int) : GExport → Bool := fun x => decide (x.Entity = n)
def exUp (e : GExport) : GExport := ⟨e.Pos, e.Entity, IntKind.i64.wrap (e.Count + 1)⟩
def pxL (n : Int) (l : List GExport) (nx : Int) : List GExport := if 0 ≤ fidx (exP n) 0 l then l.set (fidx (exP n) 0 l).toNat (exUp (l.getD (fidx (exP n) 0 l).toNat ⟨0, 0, 0⟩)) else l ++ [⟨IntKind.i64.wrap (nx + 1), n, 1⟩]
def pxX (n : Int) (l : List GExport) (nx : Int) : Int := if 0 ≤ fidx (exP n) 0 l then nx else IntKind.i64.wrap (nx + 1)
def pxN (n : Int) (l : List GExport) (nx : Int) : Int := if 0 ≤ fidx (exP n) 0 l then (l.getD (fidx (exP n) 0 l).toNat ⟨0, 0, 0⟩).Pos else IntKind.i64.wrap (nx + 1)
def pxV (n : Int) (x : GLink) : GLink := ⟨x.dW, x.Up, pxL n x.aC x.Next, pxX n x.aC x.Next, x.aD, x.dN, x.aN⟩
theorem px_yes (n : Int) (l : List GExport) (nx : Int) (k : Nat) (hk : k < l.length) (hf : fidx (exP n) 0 l = (k : Int)) : pxL n l nx = l.set k (exUp l[k]) ∧ pxX n l nx = nx ∧ pxN n l nx = l[k].Pos := by
 have h0 : (0 : Int) ≤ (k : Int) := by omega
 have hd : l.getD k ⟨0, 0, 0⟩ = l[k] := by simp [List.getD, hk]
 unfold pxL pxX pxN
 simp only [hf, if_pos h0, Int.toNat_natCast, hd, and_self]
theorem px_no (n : Int) (l : List GExport) (nx : Int) (hf : fidx (exP n) 0 l = -1) : pxL n l nx = l ++ [⟨IntKind.i64.wrap (nx + 1), n, 1⟩] ∧ pxX n l nx = IntKind.i64.wrap (nx + 1) ∧ pxN n l nx = IntKind.i64.wrap (nx + 1) := by
 have h0 : ¬ (0 : Int) ≤ -1 := by omega
 unfold pxL pxX pxN
 simp only [hf, if_neg h0, and_self]
theorem fidx_case {α : Type} (p : α → Bool) (l : List α) : fidx p 0 l = -1 ∨ ∃ k : Nat, k < l.length ∧ fidx p 0 l = (k : Int) := by
 rcases fidx_range p l 0 with h | h
 ·exact .inl h
 ·exact .inr ⟨(fidx p 0 l).toNat, by omega, by omega⟩
theorem link_closeN {W : World} {F : Nat → Prop} {x : GLink} {n : Nat} {B2 : Option Addr} {c2 : Nat} {B4 : Option Addr} {c4 : Nat} {B6 : Option Addr} {c6 : Nat} (hn : n = x.aC.length) (h : Star [hR aL 256 (.slice B2 n c2) x.aC, hR aJ 289 (.slice B4 x.aD.length c4) x.aD, hR aJ 289 (.slice B6 x.aN.length c6) x.aN] W F) : bB.M W F x [.int .i64 (x.dW), .bool (x.Up), .slice B2 n c2, .int .i64 (x.Next), .slice B4 x.aD.length c4, .int .i64 (x.dN), .slice B6 x.aN.length c6] := by
 subst hn
 exact jV h
theorem exF_clo (x : GExport) (cs : List Value) (p : Int) (g : Nat) (w : World) (h : aL.K w x cs) (hc : w.cell? ⟨g, 0, none⟩ = some (.int .i64 p)) : Calls Tryz.prog 225 #[.agg cs.toArray, .pointer (some ⟨g, 0, none⟩)] w (dD (exP p x) w) := by
 obtain rfl := iG h
 refine enter 8 [(0, .agg #[.int .i64 (x.Pos), .int .i64 (x.Entity), .int .i64 (x.Count)]), (1, .pointer (some ⟨g, 0, none⟩))] Tryz.func225 rfl kR ?_
 intro xj
 have H1 : St w No [] w := St.enter
 refine wp_seq ?_
 refine aH [0, 1] rfl ?_
 refine aA ?_
 refine op_box rfl rfl rfl rfl H1 ?_
 intro g_0_0 W2 hu3 Ha4; clear H1; clear hu3
 refine aA ?_
 refine aB rfl (aP rfl) rfl rfl ?_
 refine aI ?_
 refine aG ?_
 refine wp_seq ?_
 refine aH [0, 1, 2, 3, 4] rfl ?_
 refine aA ?_
 refine aB rfl (bU fa_256_1 rfl) rfl rfl ?_
 refine aA ?_
 refine aB rfl (dZ (k := 1) (v := .int .i64 (x.Entity)) Tryz.isAgg3 rfl (Ha4.blk 0 rfl) rfl) rfl rfl ?_
 refine aA ?_
 refine aB rfl (rn_load (v := .int .i64 (p)) Tryz.isAgg3 rfl (Ha4.1.read hc)) rfl rfl ?_
 refine aA ?_
 refine aB rfl (rn_eql rfl rfl) rfl rfl ?_
 refine aA ?_
 refine aB rfl (aP rfl) rfl rfl ?_
 refine aI ?_
 refine aG ?_
 refine wp_ret ?_
 refine fJ (.inl rfl) Tryz.results225 rfl ?_
 exact ⟨rfl, Ha4.1⟩
theorem of_i (l : List GExport) (n : Int) (g c0 : Nat) (A0 : Option Addr) (v0 v1 v3 v4 v5 v6 : Value) (F0 : Nat → Prop) (w : World) (h : Star [hB g 178 #[v0, v1, .slice A0 l.length c0, v3, v4, v5, v6], hR aL 256 (.slice A0 l.length c0) l] w F0) (q : Int) (hq : fidx (exP n) 0 l = q) : Calls Tryz.prog 200 #[.pointer (some ⟨g, 0, none⟩), .int .i64 n] w (fun e' w' => e' = .returned (.int .i64 q) ∧ St w F0 [hB g 178 #[v0, v1, .slice A0 l.length c0, v3, v4, v5, v6], hR aL 256 (.slice A0 l.length c0) l] w') := by
 refine enter 11 [(0, .pointer (some ⟨g, 0, none⟩)), (1, .int .i64 (n))] Tryz.func200 rfl kR ?_
 intro xj
 have H1 : St w F0 [hB g 178 #[v0, v1, .slice A0 l.length c0, v3, v4, v5, v6], hR aL 256 (.slice A0 l.length c0) l] w := St.enterF h
 refine wp_seq ?_
 refine aH [0, 1] rfl ?_
 refine aA ?_
 refine op_box rfl rfl rfl rfl H1 ?_
 intro g_0_0 W2 hu3 Ha4; clear H1; clear hu3
 refine aA ?_
 refine aB rfl (aP rfl) rfl rfl ?_
 refine aI ?_
 refine aG ?_
 refine wp_seq ?_
 refine aH [0, 1, 2, 3, 4, 5, 6] rfl ?_
 refine aA ?_
 refine aB rfl (aF rfl) rfl rfl ?_
 refine aA ?_
 refine aB rfl (gV rfl) rfl rfl ?_
 refine aA ?_
 refine aB rfl (bU iM rfl) rfl rfl ?_
 refine aA ?_
 refine aB rfl (dZ (k := 2) (v := .slice A0 l.length c0) Tryz.isAgg175 rfl (Ha4.blk 1 rfl) rfl) rfl rfl ?_
 refine aA ?_
 refine aB rfl (rn_makeFunc (us := #[]) (vs := #[.pointer (some ⟨g_0_0, 0, none⟩)]) rfl rfl) rfl rfl ?_
 refine aA ?_
 refine dJ rfl Tryz.call224 (vs := #[.slice A0 l.length c0, .func (.func 225) #[] #[.pointer (some ⟨g_0_0, 0, none⟩)]]) rfl rfl rfl (exF_idx (.pointer (some ⟨g_0_0, 0, none⟩)) (exP n) l _ _ _ (Ha4.rowC 2 rfl) (fun x cs w' hu hK => exF_clo x cs n _ w' hK (hu.read ((Ha4.blk 0 rfl).at 0 rfl)))) ?_
 rintro e8 W7 ⟨rfl, hu6⟩; refine ⟨_, rfl, ?_⟩
 have H9 := Ha4.no hu6; clear Ha4
 refine aA ?_
 refine aB rfl (aP rfl) rfl rfl ?_
 refine aI ?_
 refine aG ?_
 refine wp_ret ?_
 refine fJ (.inl rfl) Tryz.results200 rfl ?_
 exact ⟨congrArg (fun z => Ending.returned (Value.int IntKind.i64 z)) hq, H9.pick [1, 2] kD rfl⟩
theorem put_old (l : List GExport) (n nx : Int) (g c0 : Nat) (A0 : Option Addr) (v0 v1 v4 v5 v6 : Value) (F0 : Nat → Prop) (w : World) (h : Star [hB g 178 #[v0, v1, .slice A0 (l).length c0, .int .i64 (nx), v4, v5, v6], hR aL 256 (.slice A0 (l).length c0) (l)] w F0) (hn : l.length ≤ 4194304) (k : Nat) (hk : k < l.length) (hf : fidx (exP n) 0 l = (k : Int)) : Calls Tryz.prog 149 #[.pointer (some ⟨g, 0, none⟩), .int .i64 n] w (fun e' w' => ∃ A c, e' = .returned (.int .i64 (pxN n l nx)) ∧ St w F0 [hB g 178 #[v0, v1, .slice A (pxL n l nx).length c, .int .i64 (pxX n l nx), v4, v5, v6], hR aL 256 (.slice A (pxL n l nx).length c) (pxL n l nx)] w') := by
 refine enter 56 [(0, .pointer (some ⟨g, 0, none⟩)), (1, .int .i64 (n))] Tryz.func149 rfl kR ?_
 intro xj
 have H1 : St w F0 [hB g 178 #[v0, v1, .slice A0 l.length c0, .int .i64 (nx), v4, v5, v6], hR aL 256 (.slice A0 l.length c0) l] w := St.enterF h
 refine wp_seq ?_
 refine aH [0] rfl ?_
 refine aA ?_
 refine aB rfl (aP rfl) rfl rfl ?_
 refine aI ?_
 refine aG ?_
 refine wp_seq ?_
 refine wp_seq ?_
 refine aH [0, 1, 2, 3] rfl ?_
 refine aA ?_
 refine aB rfl (aF rfl) rfl rfl ?_
 refine aA ?_
 refine aB rfl (aF rfl) rfl rfl ?_
 refine aA ?_
 obtain ⟨F2, hs3, _, hfr4⟩ := St.frame (l0 := [hB g 178 #[v0, v1, .slice A0 l.length c0, .int .i64 (nx), v4, v5, v6], hR aL 256 (.slice A0 l.length c0) l]) (l := []) H1
 refine dJ rfl Tryz.call200 (vs := #[.pointer (some ⟨g, 0, none⟩), .int .i64 (n)]) rfl rfl rfl (of_i l n _ _ _ _ _ _ _ _ _ _ _ hs3 ((k : Nat) : Int) hf) ?_
 rintro e7 W6 ⟨rfl, Hn5⟩; refine ⟨_, rfl, ?_⟩
 have H8 := hfr4 _ _ Hn5; clear H1
 refine aA ?_
 refine aB rfl (aP rfl) rfl rfl ?_
 refine aI ?_
 refine aG ?_
 refine wp_seq ?_
 refine aH [0, 1] rfl ?_
 refine aA ?_
 refine aB rfl (aF rfl) rfl rfl ?_
 refine aA ?_
 refine aB rfl (rn_decT (p := (0 : Int) ≤ ((k : Nat) : Int)) kO (rn_geq (p := ((k : Nat) : Int)) (q := 0) rfl rfl)) rfl rfl ?_
 refine aI ?_
 refine aG ?_
 refine cond_t rfl ?_
 refine wp_seq ?_
 have H9 : St w F0 [hR aL 256 (.slice A0 l.length c0) l, hB g 178 #[v0, v1, .slice A0 l.length c0, .int .i64 (nx), v4, v5, v6]] W6 := H8.pick [1, 0] kD rfl; clear H8
 obtain ⟨gf10, rfl⟩ := H9.openS (q := k) hk
 obtain ⟨ce11, hn12, H13⟩ := H9.openG (q := k) hk; clear H9
 have H14 : St w F0 [hE aL 256 gf10 c0 k ce11 l, hM aL (l[k]) ce11, hB g 178 #[v0, v1, .slice (some ⟨gf10, 0, none⟩) l.length c0, .int .i64 (nx), v4, v5, v6]] W6 := H13; clear H13
 obtain rfl := iG (H14.kn 1 rfl)
 have H15 : St w F0 [hE aL 256 gf10 c0 k [.int .i64 ((l[k]).Pos), .int .i64 ((l[k]).Entity), .int .i64 ((l[k]).Count)] l, hB g 178 #[v0, v1, .slice (some ⟨gf10, 0, none⟩) l.length c0, .int .i64 (nx), v4, v5, v6]] W6 := H14.pick [0, 2] kD rfl; clear H14
 refine aH [0, 1, 2, 3, 4, 5, 6, 7, 8, 9, 10, 11] rfl ?_
 refine aA ?_
 refine aB rfl (aF rfl) rfl rfl ?_
 refine aA ?_
 refine aB rfl (gV rfl) rfl rfl ?_
 refine aA ?_
 refine aB rfl (bU iM rfl) rfl rfl ?_
 refine aA ?_
 refine aB rfl (dZ (k := 2) (v := .slice (some ⟨gf10, 0, none⟩) l.length c0) Tryz.isAgg175 rfl (H15.blk 1 rfl) rfl) rfl rfl ?_
 refine aA ?_
 refine aB rfl (aF rfl) rfl rfl ?_
 refine aA ?_
 refine aB rfl (iR (k := k) Tryz.runUnderlying175 Tryz.sizeOf256 rfl rfl rfl (Nat.lt_of_lt_of_eq hk hn12.symm)) rfl rfl ?_
 refine aA ?_
 refine aB rfl (bU fa_256_2 rfl) rfl rfl ?_
 refine aA ?_
 refine aB rfl (rn_loadE (v := .int .i64 ((l[k]).Count)) Tryz.isAgg3 rfl (H15.catE 0 rfl) rfl) rfl rfl ?_
 refine aA ?_
 refine aB rfl (rn_addW rfl rfl) rfl rfl ?_
 refine aA ?_
 refine aB rfl (iR (k := k) Tryz.runUnderlying175 Tryz.sizeOf256 rfl rfl rfl (Nat.lt_of_lt_of_eq hk hn12.symm)) rfl rfl ?_
 refine aA ?_
 refine aB rfl (bU fa_256_2 rfl) rfl rfl ?_
 refine aA ?_
 refine op_storeE (dk := aL) (k := 2) (ce' := [.int .i64 ((l[k]).Pos), .int .i64 ((l[k]).Entity), .int .i64 (IntKind.i64.wrap (((l[k]).Count) + 1))]) rfl Tryz.sizeOf3 rfl rfl rfl rfl (Nat.le_of_ble_eq_true rfl) (by simp [Value.cells, Value.oneCell']) rfl H15 ?_
 intro W16 hu17 Ha18; clear H15; clear hu17
 refine aI ?_
 refine aG ?_
 refine wp_seq ?_
 refine aH [0, 1, 2, 3, 4, 5, 6, 7, 8] rfl ?_
 refine aA ?_
 refine aB rfl (aF rfl) rfl rfl ?_
 refine aA ?_
 refine aB rfl (gV rfl) rfl rfl ?_
 refine aA ?_
 refine aB rfl (bU iM rfl) rfl rfl ?_
 refine aA ?_
 refine aB rfl (dZ (k := 2) (v := .slice (some ⟨gf10, 0, none⟩) l.length c0) Tryz.isAgg175 rfl (Ha18.blk 1 rfl) rfl) rfl rfl ?_
 refine aA ?_
 refine aB rfl (aF rfl) rfl rfl ?_
 refine aA ?_
 refine aB rfl (iR (k := k) Tryz.runUnderlying175 Tryz.sizeOf256 rfl rfl rfl (Nat.lt_of_lt_of_eq hk hn12.symm)) rfl rfl ?_
 refine aA ?_
 refine aB rfl (bU fa_256_0 rfl) rfl rfl ?_
 refine aA ?_
 refine aB rfl (rn_loadE (v := .int .i64 ((l[k]).Pos)) Tryz.isAgg3 rfl (Ha18.catE 0 rfl) rfl) rfl rfl ?_
 refine aA ?_
 refine aB rfl (aP rfl) rfl rfl ?_
 refine aI ?_
 have H20 : St w F0 [hM aL (exUp l[k]) [.int .i64 ((l[k]).Pos), .int .i64 ((l[k]).Entity), .int .i64 (IntKind.i64.wrap (((l[k]).Count) + 1))], hE aL 256 gf10 c0 k [.int .i64 ((l[k]).Pos), .int .i64 ((l[k]).Entity), .int .i64 (IntKind.i64.wrap (((l[k]).Count) + 1))] l, hB g 178 #[v0, v1, .slice (some ⟨gf10, 0, none⟩) l.length c0, .int .i64 (nx), v4, v5, v6]] W16 := Ha18.add0 (q := hM aL (exUp l[k]) [.int .i64 ((l[k]).Pos), .int .i64 ((l[k]).Entity), .int .i64 (IntKind.i64.wrap (((l[k]).Count) + 1))]) (jP _ No (exUp l[k])); clear Ha18
 have H21 : St w F0 [hE aL 256 gf10 c0 k [.int .i64 ((l[k]).Pos), .int .i64 ((l[k]).Entity), .int .i64 (IntKind.i64.wrap (((l[k]).Count) + 1))] l, hM aL (exUp l[k]) [.int .i64 ((l[k]).Pos), .int .i64 ((l[k]).Entity), .int .i64 (IntKind.i64.wrap (((l[k]).Count) + 1))], hB g 178 #[v0, v1, .slice (some ⟨gf10, 0, none⟩) l.length c0, .int .i64 (nx), v4, v5, v6]] W16 := H20.pick [1, 0, 2] kD rfl; clear H20
 have H22 : St w F0 [hR aL 256 (.slice (some ⟨gf10, 0, none⟩) l.length c0) (l.set k (exUp l[k])), hB g 178 #[v0, v1, .slice (some ⟨gf10, 0, none⟩) l.length c0, .int .i64 (nx), v4, v5, v6]] W16 := H21.closeG rfl (by rw [List.length_set]); clear H21
 refine aG ?_
 refine wp_ret ?_
 refine then_r ?_
 obtain ⟨e1, e2, e3⟩ := px_yes n l nx k hk hf
 refine fJ (.inl rfl) Tryz.results149 rfl ?_
 rw [e1, e2, e3]
 rw [List.length_set]
 exact ⟨(some ⟨gf10, 0, none⟩), c0, rfl, H22.pick [1, 0] kD rfl⟩
theorem put_new (l : List GExport) (n nx : Int) (g c0 : Nat) (A0 : Option Addr) (v0 v1 v4 v5 v6 : Value) (F0 : Nat → Prop) (w : World) (h : Star [hB g 178 #[v0, v1, .slice A0 (l).length c0, .int .i64 (nx), v4, v5, v6], hR aL 256 (.slice A0 (l).length c0) (l)] w F0) (hn : l.length ≤ 4194304) (hf : fidx (exP n) 0 l = -1) : Calls Tryz.prog 149 #[.pointer (some ⟨g, 0, none⟩), .int .i64 n] w (fun e' w' => ∃ A c, e' = .returned (.int .i64 (pxN n l nx)) ∧ St w F0 [hB g 178 #[v0, v1, .slice A (pxL n l nx).length c, .int .i64 (pxX n l nx), v4, v5, v6], hR aL 256 (.slice A (pxL n l nx).length c) (pxL n l nx)] w') := by
 refine enter 56 [(0, .pointer (some ⟨g, 0, none⟩)), (1, .int .i64 (n))] Tryz.func149 rfl kR ?_
 intro xj
 have H1 : St w F0 [hB g 178 #[v0, v1, .slice A0 l.length c0, .int .i64 (nx), v4, v5, v6], hR aL 256 (.slice A0 l.length c0) l] w := St.enterF h
 refine wp_seq ?_
 refine aH [0] rfl ?_
 refine aA ?_
 refine aB rfl (aP rfl) rfl rfl ?_
 refine aI ?_
 refine aG ?_
 refine wp_seq ?_
 refine wp_seq ?_
 refine aH [0, 1, 2, 3] rfl ?_
 refine aA ?_
 refine aB rfl (aF rfl) rfl rfl ?_
 refine aA ?_
 refine aB rfl (aF rfl) rfl rfl ?_
 refine aA ?_
 obtain ⟨F2, hs3, _, hfr4⟩ := St.frame (l0 := [hB g 178 #[v0, v1, .slice A0 l.length c0, .int .i64 (nx), v4, v5, v6], hR aL 256 (.slice A0 l.length c0) l]) (l := []) H1
 refine dJ rfl Tryz.call200 (vs := #[.pointer (some ⟨g, 0, none⟩), .int .i64 (n)]) rfl rfl rfl (of_i l n _ _ _ _ _ _ _ _ _ _ _ hs3 (-1) hf) ?_
 rintro e7 W6 ⟨rfl, Hn5⟩; refine ⟨_, rfl, ?_⟩
 have H8 := hfr4 _ _ Hn5; clear H1
 refine aA ?_
 refine aB rfl (aP rfl) rfl rfl ?_
 refine aI ?_
 refine aG ?_
 refine wp_seq ?_
 refine aH [0, 1] rfl ?_
 refine aA ?_
 refine aB rfl (aF rfl) rfl rfl ?_
 refine aA ?_
 refine aB rfl (jS (p := (0 : Int) ≤ (-1)) kO (rn_geq (p := (-1)) (q := 0) rfl rfl)) rfl rfl ?_
 refine aI ?_
 refine aG ?_
 refine cond_f rfl ?_
 refine wp_skip ?_
 refine aG ?_
 refine wp_seq ?_
 refine aH [0, 1, 2, 3, 4, 5, 6, 7] rfl ?_
 refine aA ?_
 refine aB rfl (aF rfl) rfl rfl ?_
 refine aA ?_
 refine aB rfl (gV rfl) rfl rfl ?_
 refine aA ?_
 refine aB rfl (bU jY rfl) rfl rfl ?_
 refine aA ?_
 refine aB rfl (dZ (k := 3) (v := .int .i64 (nx)) Tryz.isAgg3 rfl (H8.blk 0 rfl) rfl) rfl rfl ?_
 refine aA ?_
 refine aB rfl (rn_addW rfl rfl) rfl rfl ?_
 refine aA ?_
 refine aB rfl (gV rfl) rfl rfl ?_
 refine aA ?_
 refine aB rfl (bU jY rfl) rfl rfl ?_
 refine aA ?_
 refine iU rfl Tryz.sizeOf3 rfl rfl rfl (Nat.le_of_ble_eq_true rfl) (by simp [Value.cells, Value.oneCell']) H8 ?_
 intro W9 hu10 Ha11; clear H8; clear hu10
 refine aI ?_
 refine aG ?_
 refine wp_seq ?_
 refine jX (fun W' => Blk W' g 178 #[v0, v1, .slice A0 l.length c0, .int .i64 (IntKind.i64.wrap (nx + 1)), v4, v5, v6]) 15 kR ?_
 have H13 := Ha11.drew; clear Ha11
 have hS14 : Blk W9.drew g 178 #[v0, v1, .slice A0 l.length c0, .int .i64 (IntKind.i64.wrap (nx + 1)), v4, v5, v6] := H13.blk 0 rfl
 refine aY (i := 0) rfl kR kR kR kR kR (fun _ _ _ h => h) rfl rfl hS14 (fun W' hs' => aF rfl) ?_
 refine aY (i := 1) rfl kR kR kR kR kR (fun _ _ _ h => h) rfl rfl hS14 (fun W' hs' => aF rfl) ?_
 refine aY (i := 2) rfl kR kR kR kR kR (fun _ _ _ h => h) rfl rfl hS14 (fun W' hs' => gV rfl) ?_
 refine aY (i := 3) rfl kR kR kR kR kR (fun _ _ _ h => h) rfl rfl hS14 (fun W' hs' => bU iM rfl) ?_
 refine aY (i := 4) rfl kR kR kR kR kR (fun _ _ _ h => h) rfl rfl hS14 (fun W' hs' => dZ (k := 2) (v := .slice A0 l.length c0) Tryz.isAgg175 rfl hs' rfl) ?_
 refine aY (i := 5) rfl kR kR kR kR kR (fun _ _ _ h => h) rfl rfl hS14 (fun W' hs' => aF rfl) ?_
 refine aY (i := 6) rfl kR kR kR kR kR (fun _ _ _ h => h) rfl rfl hS14 (fun W' hs' => gV rfl) ?_
 refine aY (i := 7) rfl kR kR kR kR kR (fun _ _ _ h => h) rfl rfl hS14 (fun W' hs' => bU jY rfl) ?_
 refine aY (i := 8) rfl kR kR kR kR kR (fun _ _ _ h => h) rfl rfl hS14 (fun W' hs' => dZ (k := 3) (v := .int .i64 (IntKind.i64.wrap (nx + 1))) Tryz.isAgg3 rfl hs' rfl) ?_
 refine aY (i := 9) rfl kR kR kR kR kR (fun _ _ _ h => h) rfl rfl hS14 (fun W' hs' => aF rfl) ?_
 refine aY (i := 10) rfl kR kR kR kR kR (fun _ _ _ h => h) rfl rfl hS14 (fun W' hs' => gW (vs := [(0, .int .i64 (IntKind.i64.wrap (nx + 1))), (1, .int .i64 (n)), (2, .int .i64 (1))]) (cells := #[.int .i64 (IntKind.i64.wrap (nx + 1)), .int .i64 (n), .int .i64 (1)]) rfl kR) ?_
 refine dY (i := 11) kR ?_
 refine fQ rfl Tryz.runUnderlying175 Tryz.sizeOf256 kD Tryz.zeroValue256 rfl rfl rfl rfl H13 ?_
 intro g_6_11 W15 hu16 Ha17; clear H13; clear hu16
 have hS19 := Ha17.blk 1 rfl; refine ⟨fun _ => hS19, ?_⟩
 refine dY (i := 12) kR ?_
 have H22 : St w F0 [hR aL 256 (.slice A0 l.length c0) l, hB g_6_11 256 #[.int .i64 (IntKind.i64.wrap (nx + 1)), .int .i64 (n), .int .i64 (1)], hB g 178 #[v0, v1, .slice A0 l.length c0, .int .i64 (IntKind.i64.wrap (nx + 1)), v4, v5, v6]] W15 := Ha17.pick [2, 0, 1] kD rfl; clear Ha17
 refine kF (xs := l) (p := (⟨IntKind.i64.wrap (nx + 1), n, 1⟩ : GExport)) (n' := (l.length + 1)) (ys := (l ++ [(⟨IntKind.i64.wrap (nx + 1), n, 1⟩ : GExport)])) rfl Tryz.underlying175 kQ rfl kD kD rfl rfl (jP _ No (⟨IntKind.i64.wrap (nx + 1), n, 1⟩ : GExport)) kO rfl rfl rfl rfl H22 ?_
 intro B_6_12 c_6_12 W20 Ha21; clear H22
 have hS24 := Ha21.blk 1 rfl; refine ⟨fun _ => hS24, ?_⟩
 refine dY (i := 13) kR ?_
 refine aB rfl (gV rfl) rfl rfl ?_
 have hS25 := Ha21.blk 1 rfl; refine ⟨fun _ => hS25, ?_⟩
 refine aY (i := 14) rfl kR kR kR kR kR (fun _ _ _ h => h) rfl rfl hS25 (fun W' hs' => bU iM rfl) ?_
 refine dY (i := 15) kR ?_
 have H29 : St w F0 [hB g 178 #[v0, v1, .slice A0 l.length c0, .int .i64 (IntKind.i64.wrap (nx + 1)), v4, v5, v6], hR aL 256 (.slice B_6_12 (l.length + 1) c_6_12) (l ++ [(⟨IntKind.i64.wrap (nx + 1), n, 1⟩ : GExport)])] W20 := Ha21.pick [1, 0] kD rfl; clear Ha21
 refine iU rfl Tryz.sizeOf175 rfl rfl rfl (Nat.le_of_ble_eq_true rfl) (by simp [Value.cells, Value.oneCell']) H29 ?_
 intro W26 hu27 Ha28; clear H29; clear hu27
 refine ⟨fun h => absS kR h, ?_⟩
 refine jK kR ?_ _
 refine aG ?_
 refine wp_seq ?_
 refine aH [0, 1, 2, 3, 4] rfl ?_
 refine aA ?_
 refine aB rfl (aF rfl) rfl rfl ?_
 refine aA ?_
 refine aB rfl (gV rfl) rfl rfl ?_
 refine aA ?_
 refine aB rfl (bU jY rfl) rfl rfl ?_
 refine aA ?_
 refine aB rfl (dZ (k := 3) (v := .int .i64 (IntKind.i64.wrap (nx + 1))) Tryz.isAgg3 rfl (Ha28.blk 0 rfl) rfl) rfl rfl ?_
 refine aA ?_
 refine aB rfl (aP rfl) rfl rfl ?_
 refine aI ?_
 refine aG ?_
 refine wp_ret ?_
 obtain ⟨e1, e2, e3⟩ := px_no n l nx hf
 refine fJ (.inl rfl) Tryz.results149 rfl ?_
 rw [e1, e2, e3]
 rw [List.length_append]
 exact ⟨B_6_12, c_6_12, rfl, Ha28.pick [0, 1] kD rfl⟩
theorem put_i (l : List GExport) (n nx : Int) (g c0 : Nat) (A0 : Option Addr) (v0 v1 v4 v5 v6 : Value) (F0 : Nat → Prop) (w : World) (h : Star [hB g 178 #[v0, v1, .slice A0 (l).length c0, .int .i64 (nx), v4, v5, v6], hR aL 256 (.slice A0 (l).length c0) (l)] w F0) (hn : l.length ≤ 4194304) : Calls Tryz.prog 149 #[.pointer (some ⟨g, 0, none⟩), .int .i64 n] w (fun e' w' => ∃ A c, e' = .returned (.int .i64 (pxN n l nx)) ∧ St w F0 [hB g 178 #[v0, v1, .slice A (pxL n l nx).length c, .int .i64 (pxX n l nx), v4, v5, v6], hR aL 256 (.slice A (pxL n l nx).length c) (pxL n l nx)] w') := by
 rcases fidx_case (exP n) l with hf | ⟨k, hk, hf⟩
 ·exact put_new l n nx g c0 A0 v0 v1 v4 v5 v6 F0 w h hn hf
 ·exact put_old l n nx g c0 A0 v0 v1 v4 v5 v6 F0 w h hn k hk hf
theorem putExport_s (x : GLink) (n : Int) (cs : List Value) (w : World) (h : bB.K w x cs) (hs : iP x ≤ 4194304) : Calls Tryz.prog 126 #[.agg cs.toArray, .int .i64 n] w (RetAI bB (pxV n x) (pxN n x.aC x.Next) w) := by
 obtain ⟨Ax2, cx2, Ax4, cx4, Ax6, cx6, rfl, hlx2, hCx2, hlx4, hCx4, hlx6, hCx6⟩ := ki_Link_K h
 have s_Exports : dP jR x.aC ≤ 4194304 := by unfold iP at hs; omega
 have n_Exports : x.aC.length ≤ 4194304 := by unfold dP at s_Exports; omega
 have s_Questions : dP fO x.aD ≤ 4194304 := by unfold iP at hs; omega
 have n_Questions : x.aD.length ≤ 4194304 := by unfold dP at s_Questions; omega
 have s_Answers : dP fO x.aN ≤ 4194304 := by unfold iP at hs; omega
 have n_Answers : x.aN.length ≤ 4194304 := by unfold dP at s_Answers; omega
 refine enter 60 [(0, .agg #[.int .i64 (x.dW), .bool (x.Up), .slice Ax2 x.aC.length cx2, .int .i64 (x.Next), .slice Ax4 x.aD.length cx4, .int .i64 (x.dN), .slice Ax6 x.aN.length cx6]), (1, .int .i64 (n))] Tryz.func126 rfl kR ?_
 intro xj
 have H1 : St w No [] w := St.enter
 refine wp_seq ?_
 refine aH [0, 1, 2] rfl ?_
 refine aA ?_
 refine op_box rfl rfl rfl rfl H1 ?_
 intro g_0_0 W2 hu3 Ha4; clear H1; clear hu3
 refine aA ?_
 refine eU rfl Tryz.zeroValue178 rfl rfl Ha4 ?_
 intro g_0_1 W6 hu7 Ha8; clear Ha4; clear hu7
 refine aA ?_
 refine aB rfl (aP rfl) rfl rfl ?_
 refine aI ?_
 refine aG ?_
 refine wp_seq ?_
 refine aH [0, 1, 2, 3] rfl ?_
 refine aA ?_
 refine aB rfl (fK Tryz.isAgg178 Tryz.sizeOf178 rfl (Ha8.blk 1 rfl) rfl) rfl rfl ?_
 refine aA ?_
 refine dJ rfl Tryz.call159 (vs := #[.agg #[.int .i64 (x.dW), .bool (x.Up), .slice Ax2 x.aC.length cx2, .int .i64 (x.Next), .slice Ax4 x.aD.length cx4, .int .i64 (x.dN), .slice Ax6 x.aN.length cx6]]) rfl rfl rfl (l10Copy_s x _ _ (ki_Link_Kmk _ x hlx2 (aO Ha8.1 hCx2) hlx4 (aO Ha8.1 hCx4) hlx6 (aO Ha8.1 hCx6)) hs) ?_
 rintro e15 W14 ⟨cs10, rfl, hM11, hu12⟩; refine ⟨_, rfl, ?_⟩
 obtain ⟨B_1_1_2, c_1_1_2, B_1_1_4, c_1_1_4, B_1_1_6, c_1_1_6, rfl, hst13⟩ := ki_Link_open hM11
 have H16 := Ha8.news hu12 hst13; clear Ha8
 refine aA ?_
 refine eU rfl Tryz.zeroValue178 rfl rfl H16 ?_
 intro g_1_2 W17 hu18 Ha19; clear H16; clear hu18
 refine aA ?_
 refine dR rfl Tryz.sizeOf178 rfl rfl rfl rfl kS Ha19 ?_
 intro W21 hu22 Ha23; clear Ha19; clear hu22
 refine aI ?_
 refine aG ?_
 refine wp_seq ?_
 refine wp_seq ?_
 refine aH [0] rfl ?_
 refine aA ?_
 refine aB rfl (aP rfl) rfl rfl ?_
 refine aI ?_
 refine aG ?_
 refine wp_block ?_
 refine wp_loop_ghost (fun r a' W' => ∃ (i1 : Nat) (x' : Nat → Value), a' = aZ 60 x' [(1, .int .i64 (n)), (2, .pointer (some ⟨g_0_0, 0, none⟩)), (4, .pointer (some ⟨g_0_1, 0, none⟩)), (6, .pointer (some ⟨g_1_2, 0, none⟩)), (7, .int .i64 (((i1 : Nat) : Int)))] ∧ (i1 + r = x.aC.length) ∧ (fidx (exP n) 0 x.aC = fidx (exP n) ((i1 : Nat) : Int) (x.aC.drop i1)) ∧ St w No [hB g_1_2 178 #[.int .i64 (x.dW), .bool (x.Up), .slice B_1_1_2 x.aC.length c_1_1_2, .int .i64 (x.Next), .slice B_1_1_4 x.aD.length c_1_1_4, .int .i64 (x.dN), .slice B_1_1_6 x.aN.length c_1_1_6], hR aL 256 (.slice B_1_1_2 x.aC.length c_1_1_2) x.aC, hR aJ 289 (.slice B_1_1_4 x.aD.length c_1_1_4) x.aD, hR aJ 289 (.slice B_1_1_6 x.aN.length c_1_1_6) x.aN, hB g_0_1 178 #[.int .i64 (0), .bool (false), .slice none 0 0, .int .i64 (0), .slice none 0 0, .int .i64 (0), .slice none 0 0], hB g_0_0 178 #[.int .i64 (x.dW), .bool (x.Up), .slice Ax2 x.aC.length cx2, .int .i64 (x.Next), .slice Ax4 x.aD.length cx4, .int .i64 (x.dN), .slice Ax6 x.aN.length cx6]] W') x.aC.length ?_ ?_
 ·exact (bX [(1, .int .i64 (n)), (2, .pointer (some ⟨g_0_0, 0, none⟩)), (4, .pointer (some ⟨g_0_1, 0, none⟩)), (6, .pointer (some ⟨g_1_2, 0, none⟩)), (7, .int .i64 (((0 : Nat) : Int)))] rfl).elim fun x' hx => ⟨0, x', hx, kO, (by rw [List.drop_zero]; rfl), Ha23⟩
 ·rintro r25 _ W26 ⟨i1, x27, rfl, hi1, hf1, H28⟩; clear Ha23
  refine wp_seq ?_
  refine wp_seq ?_
  refine aH [0, 1, 2, 3, 4] rfl ?_
  refine aA ?_
  refine aB rfl (aF rfl) rfl rfl ?_
  refine aA ?_
  refine aB rfl (bU iM rfl) rfl rfl ?_
  refine aA ?_
  refine aB rfl (dZ (k := 2) (v := .slice Ax2 x.aC.length cx2) Tryz.isAgg175 rfl (H28.blk 5 rfl) rfl) rfl rfl ?_
  refine aA ?_
  refine aB rfl (rn_len Tryz.runUnderlying175 rfl) rfl rfl ?_
  refine aA ?_
  refine aB rfl (rn_lss rfl rfl) rfl rfl ?_
  refine aI ?_
  refine aG ?_
  refine fE rfl (fun hc29 => ?_) (fun hc29 => ?_)
  ·have hlt1 : i1 < x.aC.length := by omega
   obtain ⟨ade30, cse30, hAe30, hKe30, hce30⟩ := C_elem hCx2 i1 hlt1
   have hle30 := ki_Export_len hKe30
   have hoe30 := ki_Export_one hKe30
   obtain rfl := iG hKe30
   refine wp_skip ?_
   refine aG ?_
   refine wp_seq ?_
   refine wp_block ?_
   refine wp_seq ?_
   refine aH [0, 1, 2, 3, 4, 5, 6, 7] rfl ?_
   refine aA ?_
   refine aB rfl (bU iM rfl) rfl rfl ?_
   refine aA ?_
   refine aB rfl (dZ (k := 2) (v := .slice Ax2 x.aC.length cx2) Tryz.isAgg175 rfl (H28.blk 5 rfl) rfl) rfl rfl ?_
   refine aA ?_
   refine aB rfl (aF rfl) rfl rfl ?_
   refine aA ?_
   refine aB rfl (iR (k := i1) Tryz.runUnderlying175 Tryz.sizeOf256 rfl rfl hAe30 hlt1) rfl rfl ?_
   refine aA ?_
   refine aB rfl (bU fa_256_1 rfl) rfl rfl ?_
   refine aA ?_
   refine aB rfl (rn_loadE (v := .int .i64 (x.aC[i1].Entity)) Tryz.isAgg3 rfl (Cat.upd hce30 H28.1) rfl) rfl rfl ?_
   refine aA ?_
   refine aB rfl (aF rfl) rfl rfl ?_
   refine aA ?_
   refine aB rfl (rn_eql rfl rfl) rfl rfl ?_
   refine aI ?_
   refine aG ?_
   refine fE rfl (fun hc31 => ?_) (fun hc31 => ?_)
   ·refine wp_seq ?_
    have H32 : St w No [hR aL 256 (.slice B_1_1_2 x.aC.length c_1_1_2) x.aC, hB g_1_2 178 #[.int .i64 (x.dW), .bool (x.Up), .slice B_1_1_2 x.aC.length c_1_1_2, .int .i64 (x.Next), .slice B_1_1_4 x.aD.length c_1_1_4, .int .i64 (x.dN), .slice B_1_1_6 x.aN.length c_1_1_6], hR aJ 289 (.slice B_1_1_4 x.aD.length c_1_1_4) x.aD, hR aJ 289 (.slice B_1_1_6 x.aN.length c_1_1_6) x.aN, hB g_0_1 178 #[.int .i64 (0), .bool (false), .slice none 0 0, .int .i64 (0), .slice none 0 0, .int .i64 (0), .slice none 0 0], hB g_0_0 178 #[.int .i64 (x.dW), .bool (x.Up), .slice Ax2 x.aC.length cx2, .int .i64 (x.Next), .slice Ax4 x.aD.length cx4, .int .i64 (x.dN), .slice Ax6 x.aN.length cx6]] W26 := H28.pick [1, 0, 2, 3, 4, 5] kD rfl; clear H28
    obtain ⟨gf33, rfl⟩ := H32.openS (q := i1) hlt1
    obtain ⟨ce34, hn35, H36⟩ := H32.openG (q := i1) hlt1; clear H32
    have H37 : St w No [hE aL 256 gf33 c_1_1_2 i1 ce34 x.aC, hM aL (x.aC[i1]) ce34, hB g_1_2 178 #[.int .i64 (x.dW), .bool (x.Up), .slice (some ⟨gf33, 0, none⟩) x.aC.length c_1_1_2, .int .i64 (x.Next), .slice B_1_1_4 x.aD.length c_1_1_4, .int .i64 (x.dN), .slice B_1_1_6 x.aN.length c_1_1_6], hR aJ 289 (.slice B_1_1_4 x.aD.length c_1_1_4) x.aD, hR aJ 289 (.slice B_1_1_6 x.aN.length c_1_1_6) x.aN, hB g_0_1 178 #[.int .i64 (0), .bool (false), .slice none 0 0, .int .i64 (0), .slice none 0 0, .int .i64 (0), .slice none 0 0], hB g_0_0 178 #[.int .i64 (x.dW), .bool (x.Up), .slice Ax2 x.aC.length cx2, .int .i64 (x.Next), .slice Ax4 x.aD.length cx4, .int .i64 (x.dN), .slice Ax6 x.aN.length cx6]] W26 := H36; clear H36
    obtain rfl := iG (H37.kn 1 rfl)
    have H38 : St w No [hE aL 256 gf33 c_1_1_2 i1 [.int .i64 ((x.aC[i1]).Pos), .int .i64 ((x.aC[i1]).Entity), .int .i64 ((x.aC[i1]).Count)] x.aC, hB g_1_2 178 #[.int .i64 (x.dW), .bool (x.Up), .slice (some ⟨gf33, 0, none⟩) x.aC.length c_1_1_2, .int .i64 (x.Next), .slice B_1_1_4 x.aD.length c_1_1_4, .int .i64 (x.dN), .slice B_1_1_6 x.aN.length c_1_1_6], hR aJ 289 (.slice B_1_1_4 x.aD.length c_1_1_4) x.aD, hR aJ 289 (.slice B_1_1_6 x.aN.length c_1_1_6) x.aN, hB g_0_1 178 #[.int .i64 (0), .bool (false), .slice none 0 0, .int .i64 (0), .slice none 0 0, .int .i64 (0), .slice none 0 0], hB g_0_0 178 #[.int .i64 (x.dW), .bool (x.Up), .slice Ax2 x.aC.length cx2, .int .i64 (x.Next), .slice Ax4 x.aD.length cx4, .int .i64 (x.dN), .slice Ax6 x.aN.length cx6]] W26 := H37.pick [0, 2, 3, 4, 5, 6] kD rfl; clear H37
    refine jX (fun W' => Blk W' g_1_2 178 #[.int .i64 (x.dW), .bool (x.Up), .slice (some ⟨gf33, 0, none⟩) x.aC.length c_1_1_2, .int .i64 (x.Next), .slice B_1_1_4 x.aD.length c_1_1_4, .int .i64 (x.dN), .slice B_1_1_6 x.aN.length c_1_1_6] ∧ Blk W' g_0_0 178 #[.int .i64 (x.dW), .bool (x.Up), .slice Ax2 x.aC.length cx2, .int .i64 (x.Next), .slice Ax4 x.aD.length cx4, .int .i64 (x.dN), .slice Ax6 x.aN.length cx6] ∧ Cat W' (Addr.add ade30 (i1 * 3)) [.int .i64 (x.aC[i1].Pos), .int .i64 (x.aC[i1].Entity), .int .i64 (x.aC[i1].Count)]) 13 kR ?_
    have H39 := H38.drew; clear H38
    have hS40 : Blk W26.drew g_1_2 178 #[.int .i64 (x.dW), .bool (x.Up), .slice (some ⟨gf33, 0, none⟩) x.aC.length c_1_1_2, .int .i64 (x.Next), .slice B_1_1_4 x.aD.length c_1_1_4, .int .i64 (x.dN), .slice B_1_1_6 x.aN.length c_1_1_6] ∧ Blk W26.drew g_0_0 178 #[.int .i64 (x.dW), .bool (x.Up), .slice Ax2 x.aC.length cx2, .int .i64 (x.Next), .slice Ax4 x.aD.length cx4, .int .i64 (x.dN), .slice Ax6 x.aN.length cx6] ∧ Cat W26.drew (Addr.add ade30 (i1 * 3)) [.int .i64 (x.aC[i1].Pos), .int .i64 (x.aC[i1].Entity), .int .i64 (x.aC[i1].Count)] := ⟨H39.blk 1 rfl, H39.blk 5 rfl, (Cat.upd hce30 H39.1)⟩
    refine aY (i := 0) rfl kR kR kR kR kR (fun _ _ _ h => h) rfl rfl hS40 (fun W' hs' => bU iM rfl) ?_
    refine aY (i := 1) rfl kR kR kR kR kR (fun _ _ _ h => h) rfl rfl hS40 (fun W' hs' => dZ (k := 2) (v := .slice (some ⟨gf33, 0, none⟩) x.aC.length c_1_1_2) Tryz.isAgg175 rfl hs'.1 rfl) ?_
    refine aY (i := 2) rfl kR kR kR kR kR (fun _ _ _ h => h) rfl rfl hS40 (fun W' hs' => aF rfl) ?_
    refine aY (i := 3) rfl kR kR kR kR kR (fun _ _ _ h => h) rfl rfl hS40 (fun W' hs' => bU iM rfl) ?_
    refine aY (i := 4) rfl kR kR kR kR kR (fun _ _ _ h => h) rfl rfl hS40 (fun W' hs' => dZ (k := 2) (v := .slice Ax2 x.aC.length cx2) Tryz.isAgg175 rfl hs'.2.1 rfl) ?_
    refine aY (i := 5) rfl kR kR kR kR kR (fun _ _ _ h => h) rfl rfl hS40 (fun W' hs' => aF rfl) ?_
    refine aY (i := 6) rfl kR kR kR kR kR (fun _ _ _ h => h) rfl rfl hS40 (fun W' hs' => iR (k := i1) Tryz.runUnderlying175 Tryz.sizeOf256 rfl rfl hAe30 hlt1) ?_
    refine aY (i := 7) rfl kR kR kR kR kR (fun _ _ _ h => h) rfl rfl hS40 (fun W' hs' => bU fa_256_2 rfl) ?_
    refine aY (i := 8) rfl kR kR kR kR kR (fun _ _ _ h => h) rfl rfl hS40 (fun W' hs' => rn_loadE (v := .int .i64 (x.aC[i1].Count)) Tryz.isAgg3 rfl hs'.2.2 rfl) ?_
    refine aY (i := 9) rfl kR kR kR kR kR (fun _ _ _ h => h) rfl rfl hS40 (fun W' hs' => rn_addW rfl rfl) ?_
    refine aY (i := 10) rfl kR kR kR kR kR (fun _ _ _ h => h) rfl rfl hS40 (fun W' hs' => iR (k := i1) Tryz.runUnderlying175 Tryz.sizeOf256 rfl rfl rfl (Nat.lt_of_lt_of_eq hlt1 hn35.symm)) ?_
    refine aY (i := 11) rfl kR kR kR kR kR (fun _ _ _ h => h) rfl rfl hS40 (fun W' hs' => bU fa_256_2 rfl) ?_
    refine dY (i := 12) kR ?_
    refine op_storeE (dk := aL) (k := 2) (ce' := [.int .i64 ((x.aC[i1]).Pos), .int .i64 ((x.aC[i1]).Entity), .int .i64 (IntKind.i64.wrap ((x.aC[i1].Count) + 1))]) rfl Tryz.sizeOf3 rfl rfl rfl rfl (Nat.le_of_ble_eq_true rfl) (by simp [Value.cells, Value.oneCell']) rfl H39 ?_
    intro W41 hu42 Ha43; clear H39; clear hu42
    have hS45 := And.intro (Ha43.blk 1 rfl) (And.intro (Ha43.blk 5 rfl) ((Cat.upd hce30 Ha43.1))); refine ⟨fun _ => hS45, ?_⟩
    refine jK kR ?_ _
    have H46 : St w No [hM aL (exUp x.aC[i1]) [.int .i64 ((x.aC[i1]).Pos), .int .i64 ((x.aC[i1]).Entity), .int .i64 (IntKind.i64.wrap ((x.aC[i1].Count) + 1))], hE aL 256 gf33 c_1_1_2 i1 [.int .i64 ((x.aC[i1]).Pos), .int .i64 ((x.aC[i1]).Entity), .int .i64 (IntKind.i64.wrap ((x.aC[i1].Count) + 1))] x.aC, hB g_1_2 178 #[.int .i64 (x.dW), .bool (x.Up), .slice (some ⟨gf33, 0, none⟩) x.aC.length c_1_1_2, .int .i64 (x.Next), .slice B_1_1_4 x.aD.length c_1_1_4, .int .i64 (x.dN), .slice B_1_1_6 x.aN.length c_1_1_6], hR aJ 289 (.slice B_1_1_4 x.aD.length c_1_1_4) x.aD, hR aJ 289 (.slice B_1_1_6 x.aN.length c_1_1_6) x.aN, hB g_0_1 178 #[.int .i64 (0), .bool (false), .slice none 0 0, .int .i64 (0), .slice none 0 0, .int .i64 (0), .slice none 0 0], hB g_0_0 178 #[.int .i64 (x.dW), .bool (x.Up), .slice Ax2 x.aC.length cx2, .int .i64 (x.Next), .slice Ax4 x.aD.length cx4, .int .i64 (x.dN), .slice Ax6 x.aN.length cx6]] W41 := Ha43.add0 (q := hM aL (exUp x.aC[i1]) [.int .i64 ((x.aC[i1]).Pos), .int .i64 ((x.aC[i1]).Entity), .int .i64 (IntKind.i64.wrap ((x.aC[i1].Count) + 1))]) (jP _ No (exUp x.aC[i1])); clear Ha43
    have H47 : St w No [hE aL 256 gf33 c_1_1_2 i1 [.int .i64 ((x.aC[i1]).Pos), .int .i64 ((x.aC[i1]).Entity), .int .i64 (IntKind.i64.wrap ((x.aC[i1].Count) + 1))] x.aC, hM aL (exUp x.aC[i1]) [.int .i64 ((x.aC[i1]).Pos), .int .i64 ((x.aC[i1]).Entity), .int .i64 (IntKind.i64.wrap ((x.aC[i1].Count) + 1))], hB g_1_2 178 #[.int .i64 (x.dW), .bool (x.Up), .slice (some ⟨gf33, 0, none⟩) x.aC.length c_1_1_2, .int .i64 (x.Next), .slice B_1_1_4 x.aD.length c_1_1_4, .int .i64 (x.dN), .slice B_1_1_6 x.aN.length c_1_1_6], hR aJ 289 (.slice B_1_1_4 x.aD.length c_1_1_4) x.aD, hR aJ 289 (.slice B_1_1_6 x.aN.length c_1_1_6) x.aN, hB g_0_1 178 #[.int .i64 (0), .bool (false), .slice none 0 0, .int .i64 (0), .slice none 0 0, .int .i64 (0), .slice none 0 0], hB g_0_0 178 #[.int .i64 (x.dW), .bool (x.Up), .slice Ax2 x.aC.length cx2, .int .i64 (x.Next), .slice Ax4 x.aD.length cx4, .int .i64 (x.dN), .slice Ax6 x.aN.length cx6]] W41 := H46.pick [1, 0, 2, 3, 4, 5, 6] kD rfl; clear H46
    have H48 : St w No [hR aL 256 (.slice (some ⟨gf33, 0, none⟩) x.aC.length c_1_1_2) (x.aC.set i1 (exUp x.aC[i1])), hB g_1_2 178 #[.int .i64 (x.dW), .bool (x.Up), .slice (some ⟨gf33, 0, none⟩) x.aC.length c_1_1_2, .int .i64 (x.Next), .slice B_1_1_4 x.aD.length c_1_1_4, .int .i64 (x.dN), .slice B_1_1_6 x.aN.length c_1_1_6], hR aJ 289 (.slice B_1_1_4 x.aD.length c_1_1_4) x.aD, hR aJ 289 (.slice B_1_1_6 x.aN.length c_1_1_6) x.aN, hB g_0_1 178 #[.int .i64 (0), .bool (false), .slice none 0 0, .int .i64 (0), .slice none 0 0, .int .i64 (0), .slice none 0 0], hB g_0_0 178 #[.int .i64 (x.dW), .bool (x.Up), .slice Ax2 x.aC.length cx2, .int .i64 (x.Next), .slice Ax4 x.aD.length cx4, .int .i64 (x.dN), .slice Ax6 x.aN.length cx6]] W41 := H47.closeG rfl (by rw [List.length_set]); clear H47
    refine aG ?_
    refine wp_seq ?_
    refine jX (fun W' => Blk W' g_1_2 178 #[.int .i64 (x.dW), .bool (x.Up), .slice (some ⟨gf33, 0, none⟩) x.aC.length c_1_1_2, .int .i64 (x.Next), .slice B_1_1_4 x.aD.length c_1_1_4, .int .i64 (x.dN), .slice B_1_1_6 x.aN.length c_1_1_6] ∧ Blk W' g_0_0 178 #[.int .i64 (x.dW), .bool (x.Up), .slice Ax2 x.aC.length cx2, .int .i64 (x.Next), .slice Ax4 x.aD.length cx4, .int .i64 (x.dN), .slice Ax6 x.aN.length cx6] ∧ Cat W' (Addr.add ade30 (i1 * 3)) [.int .i64 (x.aC[i1].Pos), .int .i64 (x.aC[i1].Entity), .int .i64 (x.aC[i1].Count)]) 9 kR ?_
    have H49 := H48.drew; clear H48
    have hS50 : Blk W41.drew g_1_2 178 #[.int .i64 (x.dW), .bool (x.Up), .slice (some ⟨gf33, 0, none⟩) x.aC.length c_1_1_2, .int .i64 (x.Next), .slice B_1_1_4 x.aD.length c_1_1_4, .int .i64 (x.dN), .slice B_1_1_6 x.aN.length c_1_1_6] ∧ Blk W41.drew g_0_0 178 #[.int .i64 (x.dW), .bool (x.Up), .slice Ax2 x.aC.length cx2, .int .i64 (x.Next), .slice Ax4 x.aD.length cx4, .int .i64 (x.dN), .slice Ax6 x.aN.length cx6] ∧ Cat W41.drew (Addr.add ade30 (i1 * 3)) [.int .i64 (x.aC[i1].Pos), .int .i64 (x.aC[i1].Entity), .int .i64 (x.aC[i1].Count)] := ⟨H49.blk 1 rfl, H49.blk 5 rfl, (Cat.upd hce30 H49.1)⟩
    refine aY (i := 0) rfl kR kR kR kR kR (fun _ _ _ h => h) rfl rfl hS50 (fun W' hs' => fK Tryz.isAgg178 Tryz.sizeOf178 rfl hs'.1 rfl) ?_
    refine aY (i := 1) rfl kR kR kR kR kR (fun _ _ _ h => h) rfl rfl hS50 (fun W' hs' => bU iM rfl) ?_
    refine aY (i := 2) rfl kR kR kR kR kR (fun _ _ _ h => h) rfl rfl hS50 (fun W' hs' => dZ (k := 2) (v := .slice Ax2 x.aC.length cx2) Tryz.isAgg175 rfl hs'.2.1 rfl) ?_
    refine aY (i := 3) rfl kR kR kR kR kR (fun _ _ _ h => h) rfl rfl hS50 (fun W' hs' => aF rfl) ?_
    refine aY (i := 4) rfl kR kR kR kR kR (fun _ _ _ h => h) rfl rfl hS50 (fun W' hs' => iR (k := i1) Tryz.runUnderlying175 Tryz.sizeOf256 rfl rfl hAe30 hlt1) ?_
    refine aY (i := 5) rfl kR kR kR kR kR (fun _ _ _ h => h) rfl rfl hS50 (fun W' hs' => bU fa_256_0 rfl) ?_
    refine aY (i := 6) rfl kR kR kR kR kR (fun _ _ _ h => h) rfl rfl hS50 (fun W' hs' => rn_loadE (v := .int .i64 (x.aC[i1].Pos)) Tryz.isAgg3 rfl hs'.2.2 rfl) ?_
    refine dY (i := 7) kR ?_
    have H54 : St w No [hB g_0_1 178 #[.int .i64 (0), .bool (false), .slice none 0 0, .int .i64 (0), .slice none 0 0, .int .i64 (0), .slice none 0 0], hR aL 256 (.slice (some ⟨gf33, 0, none⟩) x.aC.length c_1_1_2) (x.aC.set i1 (exUp x.aC[i1])), hB g_1_2 178 #[.int .i64 (x.dW), .bool (x.Up), .slice (some ⟨gf33, 0, none⟩) x.aC.length c_1_1_2, .int .i64 (x.Next), .slice B_1_1_4 x.aD.length c_1_1_4, .int .i64 (x.dN), .slice B_1_1_6 x.aN.length c_1_1_6], hR aJ 289 (.slice B_1_1_4 x.aD.length c_1_1_4) x.aD, hR aJ 289 (.slice B_1_1_6 x.aN.length c_1_1_6) x.aN, hB g_0_0 178 #[.int .i64 (x.dW), .bool (x.Up), .slice Ax2 x.aC.length cx2, .int .i64 (x.Next), .slice Ax4 x.aD.length cx4, .int .i64 (x.dN), .slice Ax6 x.aN.length cx6]] W41.drew := H49.pick [4, 0, 1, 2, 3, 5] kD rfl; clear H49
    refine dR rfl Tryz.sizeOf178 rfl rfl rfl rfl kS H54 ?_
    intro W51 hu52 Ha53; clear H54; clear hu52
    have hS56 := And.intro (Ha53.blk 2 rfl) (And.intro (Ha53.blk 5 rfl) ((Cat.upd hce30 Ha53.1))); refine ⟨fun _ => hS56, ?_⟩
    refine aY (i := 8) rfl kR kR kR kR kR (fun _ _ _ h => h) rfl rfl hS56 (fun W' hs' => aP rfl) ?_
    refine jK kR ?_ _
    refine aG ?_
    refine wp_ret ?_
    refine inB_r ?_
    refine then_r ?_
    refine then_r ?_
    refine inB_r ?_
    refine then_r ?_
    obtain ⟨e1, e2, e3⟩ := px_yes n x.aC x.Next i1 hlt1 (hf1.trans (fidx_yes (exP n) x.aC i1 hlt1 (decide_eq_true hc31)))
    refine post_cell_tmp (.inl rfl) Tryz.results126 Tryz.isAgg178 Tryz.sizeOf178 rfl rfl (Ha53.blk 0 rfl) rfl ?_
    refine ⟨[.int .i64 (x.dW), .bool (x.Up), .slice (some ⟨gf33, 0, none⟩) x.aC.length c_1_1_2, .int .i64 (x.Next), .slice B_1_1_4 x.aD.length c_1_1_4, .int .i64 (x.dN), .slice B_1_1_6 x.aN.length c_1_1_6], by rw [e3], ?_, Ha53.1⟩
    unfold pxV
    rw [e1, e2]
    exact link_closeN ((List.length_set ..).symm) (Ha53.pick [1, 3, 4] kD rfl).star
   ·refine wp_skip ?_
    refine inB_n ?_
    refine aG ?_
    refine aH [0, 1, 2] rfl ?_
    refine aA ?_
    refine aB rfl (aF rfl) rfl rfl ?_
    refine aA ?_
    refine aB rfl (jI (k := i1) rfl rfl kO) rfl rfl ?_
    refine aA ?_
    refine aB rfl (aP rfl) rfl rfl ?_
    refine aI ?_
    refine aG ?_
    exact (bX [(1, .int .i64 (n)), (2, .pointer (some ⟨g_0_0, 0, none⟩)), (4, .pointer (some ⟨g_0_1, 0, none⟩)), (6, .pointer (some ⟨g_1_2, 0, none⟩)), (7, .int .i64 (((i1 + 1 : Nat) : Int)))] rfl).elim fun x' hx => ⟨r25 - 1, kO, i1 + 1, x', hx, kO, (hf1.trans (fidx_no (exP n) x.aC i1 hlt1 (decide_eq_false (by assumption)))), H28⟩
  ·have hge1 : x.aC.length ≤ i1 := by omega
   refine wp_exit ?_
   refine gP ?_
   refine gP ?_
   refine inB_x ?_
   refine aG ?_
   refine wp_seq ?_
   refine aH [0, 1, 2, 3, 4] rfl ?_
   refine aA ?_
   refine aB rfl (bU jY rfl) rfl rfl ?_
   refine aA ?_
   refine aB rfl (dZ (k := 3) (v := .int .i64 (x.Next)) Tryz.isAgg3 rfl (H28.blk 5 rfl) rfl) rfl rfl ?_
   refine aA ?_
   refine aB rfl (rn_addW rfl rfl) rfl rfl ?_
   refine aA ?_
   refine aB rfl (bU jY rfl) rfl rfl ?_
   refine aA ?_
   refine iU rfl Tryz.sizeOf3 rfl rfl rfl (Nat.le_of_ble_eq_true rfl) (by simp [Value.cells, Value.oneCell']) H28 ?_
   intro W57 hu58 Ha59; clear H28; clear hu58
   refine aI ?_
   refine aG ?_
   refine wp_seq ?_
   refine aH [0, 1, 2, 3, 4, 5, 6, 7, 8, 9] rfl ?_
   refine aA ?_
   refine aB rfl (bU iM rfl) rfl rfl ?_
   refine aA ?_
   refine aB rfl (dZ (k := 2) (v := .slice B_1_1_2 x.aC.length c_1_1_2) Tryz.isAgg175 rfl (Ha59.blk 0 rfl) rfl) rfl rfl ?_
   refine aA ?_
   refine aB rfl (bU jY rfl) rfl rfl ?_
   refine aA ?_
   refine aB rfl (dZ (k := 3) (v := .int .i64 (IntKind.i64.wrap (x.Next + 1))) Tryz.isAgg3 rfl (Ha59.blk 0 rfl) rfl) rfl rfl ?_
   refine aA ?_
   refine aB rfl (aF rfl) rfl rfl ?_
   refine aA ?_
   refine aB rfl (gW (vs := [(0, .int .i64 (IntKind.i64.wrap (x.Next + 1))), (1, .int .i64 (n)), (2, .int .i64 (1))]) (cells := #[.int .i64 (IntKind.i64.wrap (x.Next + 1)), .int .i64 (n), .int .i64 (1)]) rfl kR) rfl rfl ?_
   refine aA ?_
   refine fQ rfl Tryz.runUnderlying175 Tryz.sizeOf256 kD Tryz.zeroValue256 rfl rfl rfl rfl Ha59 ?_
   intro g_9_6 W61 hu62 Ha63; clear Ha59; clear hu62
   refine aA ?_
   have H67 : St w No [hR aL 256 (.slice B_1_1_2 x.aC.length c_1_1_2) x.aC, hB g_9_6 256 #[.int .i64 (IntKind.i64.wrap (x.Next + 1)), .int .i64 (n), .int .i64 (1)], hB g_1_2 178 #[.int .i64 (x.dW), .bool (x.Up), .slice B_1_1_2 x.aC.length c_1_1_2, .int .i64 (IntKind.i64.wrap (x.Next + 1)), .slice B_1_1_4 x.aD.length c_1_1_4, .int .i64 (x.dN), .slice B_1_1_6 x.aN.length c_1_1_6], hR aJ 289 (.slice B_1_1_4 x.aD.length c_1_1_4) x.aD, hR aJ 289 (.slice B_1_1_6 x.aN.length c_1_1_6) x.aN, hB g_0_1 178 #[.int .i64 (0), .bool (false), .slice none 0 0, .int .i64 (0), .slice none 0 0, .int .i64 (0), .slice none 0 0], hB g_0_0 178 #[.int .i64 (x.dW), .bool (x.Up), .slice Ax2 x.aC.length cx2, .int .i64 (x.Next), .slice Ax4 x.aD.length cx4, .int .i64 (x.dN), .slice Ax6 x.aN.length cx6]] W61 := Ha63.pick [2, 0, 1, 3, 4, 5, 6] kD rfl; clear Ha63
   refine kF (xs := x.aC) (p := (⟨IntKind.i64.wrap (x.Next + 1), n, 1⟩ : GExport)) (n' := (x.aC.length + 1)) (ys := (x.aC ++ [(⟨IntKind.i64.wrap (x.Next + 1), n, 1⟩ : GExport)])) rfl Tryz.underlying175 kQ rfl kD kD rfl rfl (jP _ No (⟨IntKind.i64.wrap (x.Next + 1), n, 1⟩ : GExport)) kO rfl rfl rfl rfl H67 ?_
   intro B_9_7 c_9_7 W65 Ha66; clear H67
   refine aA ?_
   refine aB rfl (bU iM rfl) rfl rfl ?_
   refine aA ?_
   have H72 : St w No [hB g_1_2 178 #[.int .i64 (x.dW), .bool (x.Up), .slice B_1_1_2 x.aC.length c_1_1_2, .int .i64 (IntKind.i64.wrap (x.Next + 1)), .slice B_1_1_4 x.aD.length c_1_1_4, .int .i64 (x.dN), .slice B_1_1_6 x.aN.length c_1_1_6], hR aL 256 (.slice B_9_7 (x.aC.length + 1) c_9_7) (x.aC ++ [(⟨IntKind.i64.wrap (x.Next + 1), n, 1⟩ : GExport)]), hR aJ 289 (.slice B_1_1_4 x.aD.length c_1_1_4) x.aD, hR aJ 289 (.slice B_1_1_6 x.aN.length c_1_1_6) x.aN, hB g_0_1 178 #[.int .i64 (0), .bool (false), .slice none 0 0, .int .i64 (0), .slice none 0 0, .int .i64 (0), .slice none 0 0], hB g_0_0 178 #[.int .i64 (x.dW), .bool (x.Up), .slice Ax2 x.aC.length cx2, .int .i64 (x.Next), .slice Ax4 x.aD.length cx4, .int .i64 (x.dN), .slice Ax6 x.aN.length cx6]] W65 := Ha66.pick [1, 0, 2, 3, 4, 5] kD rfl; clear Ha66
   refine iU rfl Tryz.sizeOf175 rfl rfl rfl (Nat.le_of_ble_eq_true rfl) (by simp [Value.cells, Value.oneCell']) H72 ?_
   intro W69 hu70 Ha71; clear H72; clear hu70
   refine aI ?_
   refine aG ?_
   refine wp_seq ?_
   refine jX (fun W' => Blk W' g_1_2 178 #[.int .i64 (x.dW), .bool (x.Up), .slice B_9_7 (x.aC.length + 1) c_9_7, .int .i64 (IntKind.i64.wrap (x.Next + 1)), .slice B_1_1_4 x.aD.length c_1_1_4, .int .i64 (x.dN), .slice B_1_1_6 x.aN.length c_1_1_6]) 5 kR ?_
   have H74 := Ha71.drew; clear Ha71
   have hS75 : Blk W69.drew g_1_2 178 #[.int .i64 (x.dW), .bool (x.Up), .slice B_9_7 (x.aC.length + 1) c_9_7, .int .i64 (IntKind.i64.wrap (x.Next + 1)), .slice B_1_1_4 x.aD.length c_1_1_4, .int .i64 (x.dN), .slice B_1_1_6 x.aN.length c_1_1_6] := H74.blk 0 rfl
   refine aY (i := 0) rfl kR kR kR kR kR (fun _ _ _ h => h) rfl rfl hS75 (fun W' hs' => fK Tryz.isAgg178 Tryz.sizeOf178 rfl hs' rfl) ?_
   refine aY (i := 1) rfl kR kR kR kR kR (fun _ _ _ h => h) rfl rfl hS75 (fun W' hs' => bU jY rfl) ?_
   refine aY (i := 2) rfl kR kR kR kR kR (fun _ _ _ h => h) rfl rfl hS75 (fun W' hs' => dZ (k := 3) (v := .int .i64 (IntKind.i64.wrap (x.Next + 1))) Tryz.isAgg3 rfl hs' rfl) ?_
   refine dY (i := 3) kR ?_
   have H79 : St w No [hB g_0_1 178 #[.int .i64 (0), .bool (false), .slice none 0 0, .int .i64 (0), .slice none 0 0, .int .i64 (0), .slice none 0 0], hB g_1_2 178 #[.int .i64 (x.dW), .bool (x.Up), .slice B_9_7 (x.aC.length + 1) c_9_7, .int .i64 (IntKind.i64.wrap (x.Next + 1)), .slice B_1_1_4 x.aD.length c_1_1_4, .int .i64 (x.dN), .slice B_1_1_6 x.aN.length c_1_1_6], hR aL 256 (.slice B_9_7 (x.aC.length + 1) c_9_7) (x.aC ++ [(⟨IntKind.i64.wrap (x.Next + 1), n, 1⟩ : GExport)]), hR aJ 289 (.slice B_1_1_4 x.aD.length c_1_1_4) x.aD, hR aJ 289 (.slice B_1_1_6 x.aN.length c_1_1_6) x.aN, hB g_0_0 178 #[.int .i64 (x.dW), .bool (x.Up), .slice Ax2 x.aC.length cx2, .int .i64 (x.Next), .slice Ax4 x.aD.length cx4, .int .i64 (x.dN), .slice Ax6 x.aN.length cx6]] W69.drew := H74.pick [4, 0, 1, 2, 3, 5] kD rfl; clear H74
   refine dR rfl Tryz.sizeOf178 rfl rfl rfl rfl kS H79 ?_
   intro W76 hu77 Ha78; clear H79; clear hu77
   have hS81 := Ha78.blk 1 rfl; refine ⟨fun _ => hS81, ?_⟩
   refine aY (i := 4) rfl kR kR kR kR kR (fun _ _ _ h => h) rfl rfl hS81 (fun W' hs' => aP rfl) ?_
   refine jK kR ?_ _
   refine aG ?_
   refine wp_ret ?_
   obtain ⟨e1, e2, e3⟩ := px_no n x.aC x.Next (hf1.trans (fidx_end (exP n) x.aC _ hge1 _))
   refine post_cell_tmp (.inl rfl) Tryz.results126 Tryz.isAgg178 Tryz.sizeOf178 rfl rfl (Ha78.blk 0 rfl) rfl ?_
   refine ⟨[.int .i64 (x.dW), .bool (x.Up), .slice B_9_7 (x.aC.length + 1) c_9_7, .int .i64 (IntKind.i64.wrap (x.Next + 1)), .slice B_1_1_4 x.aD.length c_1_1_4, .int .i64 (x.dN), .slice B_1_1_6 x.aN.length c_1_1_6], by rw [e3], ?_, Ha78.1⟩
   unfold pxV
   rw [e1, e2]
   exact link_closeN ((by simp)) (Ha78.pick [2, 3, 4] kD rfl).star
theorem C_nil {α : Type} {d : Kn α} {w : World} {A : Option Addr} : C d w A ([] : List α) := ⟨Nat.zero_le _, fun h => absurd h (Nat.lt_irrefl 0)⟩
def zL (p : Int) : GLink := ⟨p, true, [], 0, [], 0, []⟩
def prE (p q : Int) : GEntity := ⟨3, 0, [], 0, ⟨0, 0⟩, [], [], p, q, 1, 0⟩
theorem newLink_s (p : Int) (w : World) : Calls Tryz.prog 127 #[.int .i64 p] w (iT bB (zL p) w) := by
 refine enter 5 [(0, .int .i64 (p))] Tryz.func127 rfl kR ?_
 intro xj
 have H1 : St w No [] w := St.enter
 refine wp_seq ?_
 refine aH [0] rfl ?_
 refine aA ?_
 refine eU rfl Tryz.zeroValue178 rfl rfl H1 ?_
 intro g_0_0 W2 hu3 Ha4; clear H1; clear hu3
 refine aI ?_
 refine aG ?_
 refine wp_seq ?_
 refine aH [0, 1, 2] rfl ?_
 refine aA ?_
 refine aB rfl (aF rfl) rfl rfl ?_
 refine aA ?_
 refine aB rfl (gW (vs := [(0, .int .i64 (p)), (1, .bool (true))]) (cells := #[.int .i64 (p), .bool (true), .slice none 0 0, .int .i64 (0), .slice none 0 0, .int .i64 (0), .slice none 0 0]) rfl kR) rfl rfl ?_
 refine aA ?_
 refine dR rfl Tryz.sizeOf178 rfl rfl rfl rfl kS Ha4 ?_
 intro W6 hu7 Ha8; clear Ha4; clear hu7
 refine aI ?_
 refine aG ?_
 refine wp_ret ?_
 refine iQ (.inl rfl) Tryz.results127 Tryz.isAgg178 Tryz.sizeOf178 rfl (Ha8.blk 0 rfl) rfl ?_
 have H10 : St w No [hR aL 256 (.slice none 0 0) ([]), hB g_0_0 178 #[.int .i64 (p), .bool (true), .slice none 0 0, .int .i64 (0), .slice none 0 0, .int .i64 (0), .slice none 0 0]] W6 := Ha8.add0 (q := hR aL 256 (.slice none 0 0) []) fP; clear Ha8
 have H11 : St w No [hR aJ 289 (.slice none 0 0) ([]), hR aL 256 (.slice none 0 0) ([]), hB g_0_0 178 #[.int .i64 (p), .bool (true), .slice none 0 0, .int .i64 (0), .slice none 0 0, .int .i64 (0), .slice none 0 0]] W6 := H10.add0 (q := hR aJ 289 (.slice none 0 0) []) fP; clear H10
 have H12 : St w No [hR aJ 289 (.slice none 0 0) ([]), hR aJ 289 (.slice none 0 0) ([]), hR aL 256 (.slice none 0 0) ([]), hB g_0_0 178 #[.int .i64 (p), .bool (true), .slice none 0 0, .int .i64 (0), .slice none 0 0, .int .i64 (0), .slice none 0 0]] W6 := H11.add0 (q := hR aJ 289 (.slice none 0 0) []) fP; clear H11
 have H13 : St w No [hR aL 256 (.slice none 0 0) ([]), hR aJ 289 (.slice none 0 0) ([]), hR aJ 289 (.slice none 0 0) ([]), hB g_0_0 178 #[.int .i64 (p), .bool (true), .slice none 0 0, .int .i64 (0), .slice none 0 0, .int .i64 (0), .slice none 0 0]] W6 := H12.pick [2, 1, 0, 3] kD rfl; clear H12
 have H14 : St w No [hM bB (zL p) [.int .i64 (p), .bool (true), .slice none 0 0, .int .i64 (0), .slice none 0 0, .int .i64 (0), .slice none 0 0], hB g_0_0 178 #[.int .i64 (p), .bool (true), .slice none 0 0, .int .i64 (0), .slice none 0 0, .int .i64 (0), .slice none 0 0]] W6 := H13.swap (l0 := [hR aL 256 (.slice none 0 0) ([]), hR aJ 289 (.slice none 0 0) ([]), hR aJ 289 (.slice none 0 0) ([])]) (l' := [hM bB (zL p) [.int .i64 (p), .bool (true), .slice none 0 0, .int .i64 (0), .slice none 0 0, .int .i64 (0), .slice none 0 0]]) (fun _ h => Star.one (jV (x := (zL p)) h)); clear H13
 have hq := (H14.pick [0] kD rfl : St w No [hM bB (zL p) [.int .i64 (p), .bool (true), .slice none 0 0, .int .i64 (0), .slice none 0 0, .int .i64 (0), .slice none 0 0]] W6).fin1
 exact ⟨_, rfl, hq.1, hq.2⟩
theorem newProxy_s (p q : Int) (w : World) : Calls Tryz.prog 125 #[.int .i64 p, .int .i64 q] w (iT aS (prE p q) w) := by
 refine enter 8 [(0, .int .i64 (p)), (1, .int .i64 (q))] Tryz.func125 rfl kR ?_
 intro xj
 have H1 : St w No [] w := St.enter
 refine wp_seq ?_
 refine aH [0] rfl ?_
 refine aA ?_
 refine eU rfl Tryz.zeroValue171 rfl rfl H1 ?_
 intro g_0_0 W2 hu3 Ha4; clear H1; clear hu3
 refine aI ?_
 refine aG ?_
 refine wp_seq ?_
 refine aH [0, 1, 2, 3] rfl ?_
 refine aA ?_
 refine aB rfl (aF rfl) rfl rfl ?_
 refine aA ?_
 refine aB rfl (aF rfl) rfl rfl ?_
 refine aA ?_
 refine aB rfl (gW (vs := [(0, .int .i64 (3)), (7, .int .i64 (p)), (8, .int .i64 (q)), (9, .int .i64 (1))]) (cells := #[.int .i64 (3), .int .i64 (0), .slice none 0 0, .int .i64 (0), .int .i64 (0), .int .i64 (0), .slice none 0 0, .slice none 0 0, .int .i64 (p), .int .i64 (q), .int .i64 (1), .int .i64 (0)]) rfl kR) rfl rfl ?_
 refine aA ?_
 refine dR rfl Tryz.sizeOf171 rfl rfl rfl rfl kS Ha4 ?_
 intro W6 hu7 Ha8; clear Ha4; clear hu7
 refine aI ?_
 refine aG ?_
 refine wp_ret ?_
 refine iQ (.inl rfl) Tryz.results125 Tryz.isAgg171 Tryz.sizeOf171 rfl (Ha8.blk 0 rfl) rfl ?_
 have H10 : St w No [hR bF 95 (.slice none 0 0) ([]), hB g_0_0 171 #[.int .i64 (3), .int .i64 (0), .slice none 0 0, .int .i64 (0), .int .i64 (0), .int .i64 (0), .slice none 0 0, .slice none 0 0, .int .i64 (p), .int .i64 (q), .int .i64 (1), .int .i64 (0)]] W6 := Ha8.add0 (q := hR bF 95 (.slice none 0 0) []) fP; clear Ha8
 have H11 : St w No [hR bR 235 (.slice none 0 0) ([]), hR bF 95 (.slice none 0 0) ([]), hB g_0_0 171 #[.int .i64 (3), .int .i64 (0), .slice none 0 0, .int .i64 (0), .int .i64 (0), .int .i64 (0), .slice none 0 0, .slice none 0 0, .int .i64 (p), .int .i64 (q), .int .i64 (1), .int .i64 (0)]] W6 := H10.add0 (q := hR bR 235 (.slice none 0 0) []) fP; clear H10
 have H12 : St w No [hR cK 285 (.slice none 0 0) ([]), hR bR 235 (.slice none 0 0) ([]), hR bF 95 (.slice none 0 0) ([]), hB g_0_0 171 #[.int .i64 (3), .int .i64 (0), .slice none 0 0, .int .i64 (0), .int .i64 (0), .int .i64 (0), .slice none 0 0, .slice none 0 0, .int .i64 (p), .int .i64 (q), .int .i64 (1), .int .i64 (0)]] W6 := H11.add0 (q := hR cK 285 (.slice none 0 0) []) fP; clear H11
 have H13 : St w No [hR bF 95 (.slice none 0 0) ([]), hR bR 235 (.slice none 0 0) ([]), hR cK 285 (.slice none 0 0) ([]), hB g_0_0 171 #[.int .i64 (3), .int .i64 (0), .slice none 0 0, .int .i64 (0), .int .i64 (0), .int .i64 (0), .slice none 0 0, .slice none 0 0, .int .i64 (p), .int .i64 (q), .int .i64 (1), .int .i64 (0)]] W6 := H12.pick [2, 1, 0, 3] kD rfl; clear H12
 have H14 : St w No [hM aS (prE p q) [.int .i64 (3), .int .i64 (0), .slice none 0 0, .int .i64 (0), .int .i64 (0), .int .i64 (0), .slice none 0 0, .slice none 0 0, .int .i64 (p), .int .i64 (q), .int .i64 (1), .int .i64 (0)], hB g_0_0 171 #[.int .i64 (3), .int .i64 (0), .slice none 0 0, .int .i64 (0), .int .i64 (0), .int .i64 (0), .slice none 0 0, .slice none 0 0, .int .i64 (p), .int .i64 (q), .int .i64 (1), .int .i64 (0)]] W6 := H13.swap (l0 := [hR bF 95 (.slice none 0 0) ([]), hR bR 235 (.slice none 0 0) ([]), hR cK 285 (.slice none 0 0) ([])]) (l' := [hM aS (prE p q) [.int .i64 (3), .int .i64 (0), .slice none 0 0, .int .i64 (0), .int .i64 (0), .int .i64 (0), .slice none 0 0, .slice none 0 0, .int .i64 (p), .int .i64 (q), .int .i64 (1), .int .i64 (0)]]) (fun _ h => Star.one (jF (x := (prE p q)) h)); clear H13
 have hq := (H14.pick [0] kD rfl : St w No [hM aS (prE p q) [.int .i64 (3), .int .i64 (0), .slice none 0 0, .int .i64 (0), .int .i64 (0), .int .i64 (0), .slice none 0 0, .slice none 0 0, .int .i64 (p), .int .i64 (q), .int .i64 (1), .int .i64 (0)]] W6).fin1
 exact ⟨_, rfl, hq.1, hq.2⟩
theorem newLink_i (p : Int) (w : World) : Calls Tryz.prog 148 #[.int .i64 p] w (iT bB (zL p) w) := by
 refine enter 5 [(0, .int .i64 (p))] Tryz.func148 rfl kR ?_
 intro xj
 have H1 : St w No [] w := St.enter
 refine wp_seq ?_
 refine aH [0] rfl ?_
 refine aA ?_
 refine eU rfl Tryz.zeroValue178 rfl rfl H1 ?_
 intro g_0_0 W2 hu3 Ha4; clear H1; clear hu3
 refine aI ?_
 refine aG ?_
 refine wp_seq ?_
 refine aH [0, 1, 2] rfl ?_
 refine aA ?_
 refine aB rfl (aF rfl) rfl rfl ?_
 refine aA ?_
 refine aB rfl (gW (vs := [(0, .int .i64 (p)), (1, .bool (true))]) (cells := #[.int .i64 (p), .bool (true), .slice none 0 0, .int .i64 (0), .slice none 0 0, .int .i64 (0), .slice none 0 0]) rfl kR) rfl rfl ?_
 refine aA ?_
 refine dR rfl Tryz.sizeOf178 rfl rfl rfl rfl kS Ha4 ?_
 intro W6 hu7 Ha8; clear Ha4; clear hu7
 refine aI ?_
 refine aG ?_
 refine wp_ret ?_
 refine iQ (.inl rfl) Tryz.results148 Tryz.isAgg178 Tryz.sizeOf178 rfl (Ha8.blk 0 rfl) rfl ?_
 have H10 : St w No [hR aL 256 (.slice none 0 0) ([]), hB g_0_0 178 #[.int .i64 (p), .bool (true), .slice none 0 0, .int .i64 (0), .slice none 0 0, .int .i64 (0), .slice none 0 0]] W6 := Ha8.add0 (q := hR aL 256 (.slice none 0 0) []) fP; clear Ha8
 have H11 : St w No [hR aJ 289 (.slice none 0 0) ([]), hR aL 256 (.slice none 0 0) ([]), hB g_0_0 178 #[.int .i64 (p), .bool (true), .slice none 0 0, .int .i64 (0), .slice none 0 0, .int .i64 (0), .slice none 0 0]] W6 := H10.add0 (q := hR aJ 289 (.slice none 0 0) []) fP; clear H10
 have H12 : St w No [hR aJ 289 (.slice none 0 0) ([]), hR aJ 289 (.slice none 0 0) ([]), hR aL 256 (.slice none 0 0) ([]), hB g_0_0 178 #[.int .i64 (p), .bool (true), .slice none 0 0, .int .i64 (0), .slice none 0 0, .int .i64 (0), .slice none 0 0]] W6 := H11.add0 (q := hR aJ 289 (.slice none 0 0) []) fP; clear H11
 have H13 : St w No [hR aL 256 (.slice none 0 0) ([]), hR aJ 289 (.slice none 0 0) ([]), hR aJ 289 (.slice none 0 0) ([]), hB g_0_0 178 #[.int .i64 (p), .bool (true), .slice none 0 0, .int .i64 (0), .slice none 0 0, .int .i64 (0), .slice none 0 0]] W6 := H12.pick [2, 1, 0, 3] kD rfl; clear H12
 have H14 : St w No [hM bB (zL p) [.int .i64 (p), .bool (true), .slice none 0 0, .int .i64 (0), .slice none 0 0, .int .i64 (0), .slice none 0 0], hB g_0_0 178 #[.int .i64 (p), .bool (true), .slice none 0 0, .int .i64 (0), .slice none 0 0, .int .i64 (0), .slice none 0 0]] W6 := H13.swap (l0 := [hR aL 256 (.slice none 0 0) ([]), hR aJ 289 (.slice none 0 0) ([]), hR aJ 289 (.slice none 0 0) ([])]) (l' := [hM bB (zL p) [.int .i64 (p), .bool (true), .slice none 0 0, .int .i64 (0), .slice none 0 0, .int .i64 (0), .slice none 0 0]]) (fun _ h => Star.one (jV (x := (zL p)) h)); clear H13
 have hq := (H14.pick [0] kD rfl : St w No [hM bB (zL p) [.int .i64 (p), .bool (true), .slice none 0 0, .int .i64 (0), .slice none 0 0, .int .i64 (0), .slice none 0 0]] W6).fin1
 exact ⟨_, rfl, hq.1, hq.2⟩
theorem newProxy_i (p q : Int) (w : World) : Calls Tryz.prog 150 #[.int .i64 p, .int .i64 q] w (iT aS (prE p q) w) := by
 refine enter 8 [(0, .int .i64 (p)), (1, .int .i64 (q))] Tryz.func150 rfl kR ?_
 intro xj
 have H1 : St w No [] w := St.enter
 refine wp_seq ?_
 refine aH [0] rfl ?_
 refine aA ?_
 refine eU rfl Tryz.zeroValue171 rfl rfl H1 ?_
 intro g_0_0 W2 hu3 Ha4; clear H1; clear hu3
 refine aI ?_
 refine aG ?_
 refine wp_seq ?_
 refine aH [0, 1, 2, 3] rfl ?_
 refine aA ?_
 refine aB rfl (aF rfl) rfl rfl ?_
 refine aA ?_
 refine aB rfl (aF rfl) rfl rfl ?_
 refine aA ?_
 refine aB rfl (gW (vs := [(0, .int .i64 (3)), (7, .int .i64 (p)), (8, .int .i64 (q)), (9, .int .i64 (1))]) (cells := #[.int .i64 (3), .int .i64 (0), .slice none 0 0, .int .i64 (0), .int .i64 (0), .int .i64 (0), .slice none 0 0, .slice none 0 0, .int .i64 (p), .int .i64 (q), .int .i64 (1), .int .i64 (0)]) rfl kR) rfl rfl ?_
 refine aA ?_
 refine dR rfl Tryz.sizeOf171 rfl rfl rfl rfl kS Ha4 ?_
 intro W6 hu7 Ha8; clear Ha4; clear hu7
 refine aI ?_
 refine aG ?_
 refine wp_ret ?_
 refine iQ (.inl rfl) Tryz.results150 Tryz.isAgg171 Tryz.sizeOf171 rfl (Ha8.blk 0 rfl) rfl ?_
 have H10 : St w No [hR bF 95 (.slice none 0 0) ([]), hB g_0_0 171 #[.int .i64 (3), .int .i64 (0), .slice none 0 0, .int .i64 (0), .int .i64 (0), .int .i64 (0), .slice none 0 0, .slice none 0 0, .int .i64 (p), .int .i64 (q), .int .i64 (1), .int .i64 (0)]] W6 := Ha8.add0 (q := hR bF 95 (.slice none 0 0) []) fP; clear Ha8
 have H11 : St w No [hR bR 235 (.slice none 0 0) ([]), hR bF 95 (.slice none 0 0) ([]), hB g_0_0 171 #[.int .i64 (3), .int .i64 (0), .slice none 0 0, .int .i64 (0), .int .i64 (0), .int .i64 (0), .slice none 0 0, .slice none 0 0, .int .i64 (p), .int .i64 (q), .int .i64 (1), .int .i64 (0)]] W6 := H10.add0 (q := hR bR 235 (.slice none 0 0) []) fP; clear H10
 have H12 : St w No [hR cK 285 (.slice none 0 0) ([]), hR bR 235 (.slice none 0 0) ([]), hR bF 95 (.slice none 0 0) ([]), hB g_0_0 171 #[.int .i64 (3), .int .i64 (0), .slice none 0 0, .int .i64 (0), .int .i64 (0), .int .i64 (0), .slice none 0 0, .slice none 0 0, .int .i64 (p), .int .i64 (q), .int .i64 (1), .int .i64 (0)]] W6 := H11.add0 (q := hR cK 285 (.slice none 0 0) []) fP; clear H11
 have H13 : St w No [hR bF 95 (.slice none 0 0) ([]), hR bR 235 (.slice none 0 0) ([]), hR cK 285 (.slice none 0 0) ([]), hB g_0_0 171 #[.int .i64 (3), .int .i64 (0), .slice none 0 0, .int .i64 (0), .int .i64 (0), .int .i64 (0), .slice none 0 0, .slice none 0 0, .int .i64 (p), .int .i64 (q), .int .i64 (1), .int .i64 (0)]] W6 := H12.pick [2, 1, 0, 3] kD rfl; clear H12
 have H14 : St w No [hM aS (prE p q) [.int .i64 (3), .int .i64 (0), .slice none 0 0, .int .i64 (0), .int .i64 (0), .int .i64 (0), .slice none 0 0, .slice none 0 0, .int .i64 (p), .int .i64 (q), .int .i64 (1), .int .i64 (0)], hB g_0_0 171 #[.int .i64 (3), .int .i64 (0), .slice none 0 0, .int .i64 (0), .int .i64 (0), .int .i64 (0), .slice none 0 0, .slice none 0 0, .int .i64 (p), .int .i64 (q), .int .i64 (1), .int .i64 (0)]] W6 := H13.swap (l0 := [hR bF 95 (.slice none 0 0) ([]), hR bR 235 (.slice none 0 0) ([]), hR cK 285 (.slice none 0 0) ([])]) (l' := [hM aS (prE p q) [.int .i64 (3), .int .i64 (0), .slice none 0 0, .int .i64 (0), .int .i64 (0), .int .i64 (0), .slice none 0 0, .slice none 0 0, .int .i64 (p), .int .i64 (q), .int .i64 (1), .int .i64 (0)]]) (fun _ h => Star.one (jF (x := (prE p q)) h)); clear H13
 have hq := (H14.pick [0] kD rfl : St w No [hM aS (prE p q) [.int .i64 (3), .int .i64 (0), .slice none 0 0, .int .i64 (0), .int .i64 (0), .int .i64 (0), .slice none 0 0, .slice none 0 0, .int .i64 (p), .int .i64 (q), .int .i64 (1), .int .i64 (0)]] W6).fin1
 exact ⟨_, rfl, hq.1, hq.2⟩
end Go.Proofs.YtfnedoiplblldaaGreatFam
