/- What the row needs, packed. No conditions beyond those that each law names. -/
import Derived.Test.YtgaoabnnpjngcaaGreatZew1
import Derived.Test.YtgaoabnnpjngcaaGreatProg
import Derived.WalkKit
import Derived.KernelRfl
import Derived.RowKit3
import Derived.Deep.LoopGhost
import Derived.Deep.QuietTactic
import Derived.BigQuiet
import Derived.StillTailTactics
import Derived.Deep.RegionHeld3
namespace Go.Proofs.YtgaoabnnpjngcaaGreatFam
open Go.RowKit Go.Proofs.YtgaoabnnpjngcaaGreatSep Go.Proofs.YtgaoabnnpjngcaaGreatT Go.Proofs.YtgaoabnnpjngcaaGreatK
set_option linter.unusedVariables false
set_option linter.unusedSimpArgs false
set_option maxHeartbeats 1000000
set_option maxRecDepth 100000
theorem kl_Asker_Kmk (w : World) (x : GAsker) : kH.K w x [.int .i64 x.dZ, .int .i64 x.Question] := ⟨[_], [_], rfl, rfl, rfl⟩
theorem ki_Asker_Kmk (w : World) (x : GAsker) : fV.K w x [.int .i64 x.dZ, .int .i64 x.Question] := ⟨[_], [_], rfl, rfl, rfl⟩
theorem to_Asker (x : GAsker) (cs : List Value) (w : World) (h : kH.K w x cs) (hs : kX x ≤ 1048576) : Calls Tryz.prog 164 #[.agg cs.toArray] w (kK fV x w) := by
 obtain rfl := kl_Asker_K h
 clear hs
 go_enter Tryz.func164, Tryz.ntmps164
 go_wp2
 refine bodyPost_ret (v := .agg #[.int .i64 x.dZ, .int .i64 x.Question]) (by simp [results, Tryz.results164, go_sem]) rfl ⟨_, rfl, ?_, kA⟩
 exact ki_Asker_mk _ _ _
theorem toS_Asker (l : List GAsker) (A : Option Addr) (c : Nat) (w : World) (h : C kH w A l) (hs : dF kX l ≤ 1048576) : Calls Tryz.prog 149 #[.slice A l.length c] w (lF fV 184 l w) := by
 have hn : l.length ≤ 1048576 := by unfold dF at hs; omega
 have hmk := iW (P := Tryz.prog) _ _ _ Tryz.underlying130 ki_Asker_info l.length hn kD
 have H := Sd.mk h
 have HS := Sd.mk hs
 clear h hs
 go_enter Tryz.func149, Tryz.ntmps149
 go_wp2
 clear hmk
 have HR : Sd (R fV 184 (w.alloc (fQ (.agg #[.int .i64 0, .int .i64 0]) (l.length * 2) 184)) (New w) (.slice (some ⟨w.heap.size, 0, none⟩) l.length l.length) (List.replicate l.length zAsker)) := Sd.mk (lG (d := fV) (e := 184) w (.agg #[.int .i64 0, .int .i64 0]) zAsker rfl kD ki_Asker_zero l.length hn)
 have HU := Sd.mk ((Upd.refl No w).alloc (fQ (.agg #[.int .i64 0, .int .i64 0]) (l.length * 2) 184))
 go_loopg [4] l.length (fun k v wr => ∃ i : Nat, i + k = l.length ∧ v = .int .i64 i ∧ Sd (R fV 184 wr (New w) (.slice (some ⟨w.heap.size, 0, none⟩) l.length l.length) (upTo l (List.replicate l.length zAsker) i)) ∧ Sd (Upd No w wr))
 case atStart => exact ⟨0, by omega, rfl, ⟨by rw [iM]; exact HR.out⟩, HU⟩
 case round =>
  clear HR HU
  obtain ⟨i, hi, rfl, HR, HU⟩ := hrel
  by_cases hlt : i < l.length
  ·obtain ⟨ad, rfl, a0, a1⟩ := kl_Asker_at (aS HU.out H.out) i hlt
   have hsi : kX l[i] ≤ 1048576 := by have := HS.out; have := jQ kX l i hlt; unfold dF at *; omega
   go_wp2_with fail
   with_reducible refine (to_Asker l[i] _ _ (kl_Asker_Kmk _ _) hsi).mono ?_
   rintro e w1 ⟨cs, rfl, hM, hu⟩
   obtain rfl := ki_Asker_M hM
   have HRowA := gH hu (fun _ _ q => q) (R_lt HR.out)
   have HU1 := Sd.mk (HU.out.then hu)
   have hzw := HU.out.size
   clear HR HU hM hu
   obtain ⟨g, cap, cur, ce, Fi, hv, hcap, hat, hM, hg, hFi, hFg, close⟩ := lD HRowA 2 l.length rfl (by rw [iU (by simp) (by simp; omega)]; simp) i zAsker (by rw [jP (by simp) (by simpa using hlt)]; simp)
   cases hv
   obtain rfl := ki_Asker_M hM
   have HAT := Sd.mk hat
   have x0 := hat.cell0 _ rfl
   have x1 := hat.cell 1 _ rfl
   have f0 := hat.free (i * 2)
   have f1 := hat.free (i * 2 + 1)
   have CL := Sd.mk close
   clear hat close hM HRowA
   go_wp2
   have HA := (HAT.out.set0 kD (.int .i64 l[i].dZ)).set 1 kD (.int .i64 l[i].Question)
   have HRowB := CL.out _ _ l[i] No (New w) HA (ki_Asker_mk _ _ _) (fun _ q => q.elim) (fun _ q => q.1) (fun _ q => q.elim)
   rw [iV (by simp) (by simpa using hlt)] at HRowB
   go_roundg (gk - 1)
   case measure => omega
   case rel => exact ⟨i + 1, by omega, by go_num, ⟨HRowB⟩, ⟨by repeat (with_reducible first | exact HU1.out | apply Upd.bI)⟩⟩
  ·go_wp2
   go_ret
   have HRowB := HR.out
   rw [iT (by simp) (by simp; omega)] at HRowB
   exact ⟨_, rfl, HRowB, HU.out⟩
theorem szS_Asker (l : List GAsker) (A : Option Addr) (c : Nat) (n : Int) (w : World) (h : C kH w A l) (h0 : 0 ≤ n) (h1 : n ≤ 1048576) : Calls Tryz.prog 142 #[.slice A l.length c, .int .i64 n] w (jS (dF kX l) n w) := by
 have hn := h.1
 have H := Sd.mk h
 clear h
 go_enter Tryz.func142, Tryz.ntmps142
 by_cases q0 : (l.length : Int) ≤ n
 case neg =>
  go_wp2
  go_ret
  exact ⟨_, rfl, .inr ⟨by unfold dF; omega, rfl⟩, Upd.refl _ _⟩
 have hz : gP kX l = 0 := by
  clear q0 hn H
  induction l with
  | nil => rfl
  | cons x l ih => simp [gP, kX, ih]
 have HZ := Sd.mk hz
 clear hz
 go_wp2
 go_ret
 have hz := HZ.out
 exact ⟨_, rfl, .inl ⟨by unfold dF; omega, by unfold dF; omega⟩, Upd.refl _ _⟩
theorem eq_Asker (x : GAsker) (cs cs' : List Value) (w : World) (h : fV.K w x cs) (h' : fV.K w x cs') : Calls Tryz.prog 168 #[.agg cs.toArray, .agg cs'.toArray] w (bW true w) := by
 obtain rfl := kT h
 obtain rfl := kT h'
 go_enter Tryz.func168, Tryz.ntmps168
 go_wp2
 go_ret
 exact ⟨rfl, kA⟩
theorem eqS_Asker (l : List GAsker) (A A' : Option Addr) (c c' : Nat) (w : World) (h : C fV w A l) (h' : C fV w A' l) : Calls Tryz.prog 157 #[.slice A l.length c, .slice A' l.length c'] w (bW true w) := by
 have hn := h.1
 have H := Sd.mk h
 have H' := Sd.mk h'
 clear h h'
 go_enter Tryz.func157, Tryz.ntmps157
 go_wp2
 go_loopg [5] l.length (fun k v wr => ∃ i : Nat, i + k = l.length ∧ v = .int .i64 i ∧ Sd (Upd No w wr))
 case atStart => exact ⟨0, by omega, rfl, ⟨Upd.refl _ _⟩⟩
 case round =>
  obtain ⟨i, hi, rfl, HU⟩ := hrel
  by_cases hlt : i < l.length
  ·obtain ⟨ad, rfl, a0, a1⟩ := ki_Asker_at (aS HU.out H.out) i hlt
   obtain ⟨ad', rfl, z0, z1⟩ := ki_Asker_at (aS HU.out H'.out) i hlt
   go_wp2_with fail
   go_still_tail 8, kR
   change wpList _ _ _ _ _ wr.drew
   have HW : Sd (Upd No wr wr.drew) := ⟨(Upd.refl _ _).drew⟩
   have HU2 : Sd (Upd No w wr.drew) := ⟨HU.out.drew⟩
   generalize wr.drew = w2 at *
   go_wp2_with (go_at_call 168; (with_reducible refine (eq_Asker l[i] _ _ _ (ki_Asker_Kmk _ _) (ki_Asker_Kmk _ _)).mono ?_); rintro e w' ⟨rfl, hu⟩)
   have HU3 := Sd.mk (HU2.out.then hu)
   clear HU2 hu
   go_wp2
   go_roundg (gk - 1)
   case measure => omega
   case rel => exact ⟨i + 1, by omega, by go_num, HU3⟩
  ·go_wp2
   go_ret
   exact ⟨rfl, HU.out⟩
theorem kl_Entity_Kmk (w : World) (x : GEntity) {A2 : Option Addr} {c2 : Nat} (hl2 : x.eB.length ≤ c2) (hC2 : C iJ w A2 x.eB) {A6 : Option Addr} {c6 : Nat} (hl6 : x.Queue.length ≤ c6) (hC6 : C jG w A6 x.Queue) {A7 : Option Addr} {c7 : Nat} (hl7 : x.bJ.length ≤ c7) (hC7 : C kH w A7 x.bJ) : jD.K w x [.int .i64 x.Kind, .int .i64 x.Script, .slice A2 x.eB.length c2, .int .i64 x.State, .int .i64 x.Value.Kind, .int .i64 x.Value.N, .slice A6 x.Queue.length c6, .slice A7 x.bJ.length c7, .int .i64 x.dZ, .int .i64 x.Pos, .int .i64 x.Count, .int .i64 x.Sent] := ⟨[_], [_, _, _, _, _, _, _, _, _, _, _], rfl, rfl, ⟨[_], [_, _, _, _, _, _, _, _, _, _], rfl, rfl, ⟨[_], [_, _, _, _, _, _, _, _, _], rfl, ⟨A2, c2, rfl, hl2, hC2⟩, ⟨[_], [_, _, _, _, _, _, _, _], rfl, rfl, ⟨[_, _], [_, _, _, _, _, _], rfl, (kl_Value_Kmk w _), ⟨[_], [_, _, _, _, _], rfl, ⟨A6, c6, rfl, hl6, hC6⟩, ⟨[_], [_, _, _, _], rfl, ⟨A7, c7, rfl, hl7, hC7⟩, ⟨[_], [_, _, _], rfl, rfl, ⟨[_], [_, _], rfl, rfl, ⟨[_], [_], rfl, rfl, rfl⟩⟩⟩⟩⟩⟩⟩⟩⟩⟩
theorem ki_Entity_Kmk (w : World) (x : GEntity) {A2 : Option Addr} {c2 : Nat} (hl2 : x.eB.length ≤ c2) (hC2 : C dY w A2 x.eB) {A6 : Option Addr} {c6 : Nat} (hl6 : x.Queue.length ≤ c6) (hC6 : C eX w A6 x.Queue) {A7 : Option Addr} {c7 : Nat} (hl7 : x.bJ.length ≤ c7) (hC7 : C fV w A7 x.bJ) : dW.K w x [.int .i64 x.Kind, .int .i64 x.Script, .slice A2 x.eB.length c2, .int .i64 x.State, .int .i64 x.Value.Kind, .int .i64 x.Value.N, .slice A6 x.Queue.length c6, .slice A7 x.bJ.length c7, .int .i64 x.dZ, .int .i64 x.Pos, .int .i64 x.Count, .int .i64 x.Sent] := ⟨[_], [_, _, _, _, _, _, _, _, _, _, _], rfl, rfl, ⟨[_], [_, _, _, _, _, _, _, _, _, _], rfl, rfl, ⟨[_], [_, _, _, _, _, _, _, _, _], rfl, ⟨A2, c2, rfl, hl2, hC2⟩, ⟨[_], [_, _, _, _, _, _, _, _], rfl, rfl, ⟨[_, _], [_, _, _, _, _, _], rfl, (mM w _), ⟨[_], [_, _, _, _, _], rfl, ⟨A6, c6, rfl, hl6, hC6⟩, ⟨[_], [_, _, _, _], rfl, ⟨A7, c7, rfl, hl7, hC7⟩, ⟨[_], [_, _, _], rfl, rfl, ⟨[_], [_, _], rfl, rfl, ⟨[_], [_], rfl, rfl, rfl⟩⟩⟩⟩⟩⟩⟩⟩⟩⟩
theorem to_Entity (x : GEntity) (cs : List Value) (w : World) (h : jD.K w x cs) (hs : fP x ≤ 1048576) : Calls Tryz.prog 129 #[.agg cs.toArray] w (kK dW x w) := by
 obtain ⟨A2, c2, A6, c6, A7, c7, rfl, hl2, hC2, hl6, hC6, hl7, hC7⟩ := kl_Entity_K h
 have HC2 := Sd.mk hC2
 have HC6 := Sd.mk hC6
 have HC7 := Sd.mk hC7
 clear hC2 hC6 hC7
 have s_Slots : dF jI x.eB ≤ 1048576 := by unfold fP at hs; omega
 have s_Queue : dF iF x.Queue ≤ 1048576 := by unfold fP at hs; omega
 have s_Askers : dF kX x.bJ ≤ 1048576 := by unfold fP at hs; omega
 clear hs
 go_enter Tryz.func129, Tryz.ntmps129
 go_wp2_with fail
 with_reducible refine (toS_Value x.eB _ _ _ ?hc_Slots s_Slots).mono ?_
 case hc_Slots => exact aS kA HC2.out
 rintro e w_Slots ⟨v2, rfl, hR2, hu⟩
 obtain ⟨B2, b2, rfl⟩ := fI hR2
 obtain ⟨P2, hR2', g2, l2⟩ := gV hR2 (w.heap.size + 1 + 1 + 1) kB
 have ge2 : ∀ b, P2 b → w.heap.size + 1 + 1 < b := fun b hb => by have := g2 b hb; omega
 have n1_2 : ¬ P2 (w.heap.size + 1) := fun q => by have := ge2 _ q; omega
 have n2_2 : ¬ P2 (w.heap.size + 1 + 1) := fun q => by have := ge2 _ q; omega
 have HR2 := Sd.mk hR2'
 have GE2 := Sd.mk ge2
 have LT2 := Sd.mk l2
 have GP2 := Sd.mk g2
 clear hR2 hR2' ge2 l2 g2
 have HB_Slots : Sd (Upd No w w_Slots) := Sd.mk (Upd.then kA hu)
 have cc0_Slots := fun o => hu.bB (b := w.heap.size) kB (fun q => q) o
 have cc1_Slots := fun o => hu.bB (b := w.heap.size + 1) kB (fun q => q) o
 have cf1_Slots := fun o => hu.dR (b := w.heap.size + 1) kB (fun q => q) o
 have cc2_Slots := fun o => hu.bB (b := w.heap.size + 1 + 1) kB (fun q => q) o
 have cf2_Slots := fun o => hu.dR (b := w.heap.size + 1 + 1) kB (fun q => q) o
 have hz_Slots : w.heap.size + 1 + 1 + 1 ≤ w_Slots.heap.size := by have := hu.size; (try simp at this); omega
 clear hu
 go_wp2_with fail
 with_reducible refine (to_Value x.Value _ _ (kl_Value_Kmk _ _) (by simp [jI])).mono ?_
 rintro e w_Value ⟨cs_Value, rfl, hM, hu⟩
 obtain rfl := ki_Value_M hM
 clear hM
 have HR2 := Sd.mk (gH hu (fun _ _ q => q) (gB HR2.out (by repeat (with_reducible first | exact Upd.refl _ _ | apply Upd.gG n1_2 | apply Upd.gG n2_2 | apply Upd.alloc))))
 have HB_Value : Sd (Upd No w w_Value) := Sd.mk (Upd.then (by repeat (with_reducible first | exact HB_Slots.out | apply Upd.bM | apply Upd.bL | apply Upd.bI | apply Upd.alloc | apply Upd.drewN | apply Upd.drew)) hu)
 have cc0_Value := fun o => hu.bB (b := w.heap.size) kB (fun q => q) o
 have cc1_Value := fun o => hu.bB (b := w.heap.size + 1) kB (fun q => q) o
 have cf1_Value := fun o => hu.dR (b := w.heap.size + 1) kB (fun q => q) o
 have cc2_Value := fun o => hu.bB (b := w.heap.size + 1 + 1) kB (fun q => q) o
 have cf2_Value := fun o => hu.dR (b := w.heap.size + 1 + 1) kB (fun q => q) o
 have hz_Value : w.heap.size + 1 + 1 + 1 ≤ w_Value.heap.size := by have := hu.size; (try simp at this); omega
 have hm_Value : w_Slots.heap.size ≤ w_Value.heap.size := by have := hu.size; (try simp at this); omega
 clear hu
 go_wp2_with fail
 with_reducible refine (toS_Sent x.Queue _ _ _ ?hc_Queue s_Queue).mono ?_
 case hc_Queue => exact aS (by repeat (with_reducible first | exact HB_Value.out | apply Upd.bM | apply Upd.bL | apply Upd.bI | apply Upd.alloc | apply Upd.drewN | apply Upd.drew)) HC6.out
 rintro e w_Queue ⟨v6, rfl, hR6, hu⟩
 obtain ⟨B6, b6, rfl⟩ := fI hR6
 obtain ⟨P6, hR6', g6, l6⟩ := gV hR6 (w_Value.heap.size) kB
 have ge6 : ∀ b, P6 b → w.heap.size + 1 + 1 < b := fun b hb => by have := g6 b hb; have := hz_Value; omega
 have n1_6 : ¬ P6 (w.heap.size + 1) := fun q => by have := ge6 _ q; omega
 have n2_6 : ¬ P6 (w.heap.size + 1 + 1) := fun q => by have := ge6 _ q; omega
 have HR6 := Sd.mk hR6'
 have GE6 := Sd.mk ge6
 have LT6 := Sd.mk l6
 have GP6 := Sd.mk g6
 clear hR6 hR6' ge6 l6 g6
 have HR2 := Sd.mk (gH hu (fun _ _ q => q) (gB HR2.out (by repeat (with_reducible first | exact Upd.refl _ _ | apply Upd.gG n1_2 | apply Upd.gG n2_2 | apply Upd.alloc))))
 have HB_Queue : Sd (Upd No w w_Queue) := Sd.mk (Upd.then (by repeat (with_reducible first | exact HB_Value.out | apply Upd.bM | apply Upd.bL | apply Upd.bI | apply Upd.alloc | apply Upd.drewN | apply Upd.drew)) hu)
 have cc0_Queue := fun o => hu.bB (b := w.heap.size) kB (fun q => q) o
 have cc1_Queue := fun o => hu.bB (b := w.heap.size + 1) kB (fun q => q) o
 have cf1_Queue := fun o => hu.dR (b := w.heap.size + 1) kB (fun q => q) o
 have cc2_Queue := fun o => hu.bB (b := w.heap.size + 1 + 1) kB (fun q => q) o
 have cf2_Queue := fun o => hu.dR (b := w.heap.size + 1 + 1) kB (fun q => q) o
 have hz_Queue : w.heap.size + 1 + 1 + 1 ≤ w_Queue.heap.size := by have := hu.size; (try simp at this); omega
 have hm_Queue : w_Value.heap.size ≤ w_Queue.heap.size := by have := hu.size; (try simp at this); omega
 clear hu
 go_wp2_with fail
 with_reducible refine (toS_Asker x.bJ _ _ _ ?hc_Askers s_Askers).mono ?_
 case hc_Askers => exact aS (by repeat (with_reducible first | exact HB_Queue.out | apply Upd.bM | apply Upd.bL | apply Upd.bI | apply Upd.alloc | apply Upd.drewN | apply Upd.drew)) HC7.out
 rintro e w_Askers ⟨v7, rfl, hR7, hu⟩
 obtain ⟨B7, b7, rfl⟩ := fI hR7
 obtain ⟨P7, hR7', g7, l7⟩ := gV hR7 (w_Queue.heap.size) kB
 have ge7 : ∀ b, P7 b → w.heap.size + 1 + 1 < b := fun b hb => by have := g7 b hb; have := hz_Queue; omega
 have n1_7 : ¬ P7 (w.heap.size + 1) := fun q => by have := ge7 _ q; omega
 have n2_7 : ¬ P7 (w.heap.size + 1 + 1) := fun q => by have := ge7 _ q; omega
 have HR7 := Sd.mk hR7'
 have GE7 := Sd.mk ge7
 have LT7 := Sd.mk l7
 have GP7 := Sd.mk g7
 clear hR7 hR7' ge7 l7 g7
 have HR2 := Sd.mk (gH hu (fun _ _ q => q) (gB HR2.out (by repeat (with_reducible first | exact Upd.refl _ _ | apply Upd.gG n1_2 | apply Upd.gG n2_2 | apply Upd.alloc))))
 have HR6 := Sd.mk (gH hu (fun _ _ q => q) (gB HR6.out (by repeat (with_reducible first | exact Upd.refl _ _ | apply Upd.gG n1_6 | apply Upd.gG n2_6 | apply Upd.alloc))))
 have HB_Askers : Sd (Upd No w w_Askers) := Sd.mk (Upd.then (by repeat (with_reducible first | exact HB_Queue.out | apply Upd.bM | apply Upd.bL | apply Upd.bI | apply Upd.alloc | apply Upd.drewN | apply Upd.drew)) hu)
 have cc0_Askers := fun o => hu.bB (b := w.heap.size) kB (fun q => q) o
 have cc1_Askers := fun o => hu.bB (b := w.heap.size + 1) kB (fun q => q) o
 have cf1_Askers := fun o => hu.dR (b := w.heap.size + 1) kB (fun q => q) o
 have cc2_Askers := fun o => hu.bB (b := w.heap.size + 1 + 1) kB (fun q => q) o
 have cf2_Askers := fun o => hu.dR (b := w.heap.size + 1 + 1) kB (fun q => q) o
 have hz_Askers : w.heap.size + 1 + 1 + 1 ≤ w_Askers.heap.size := by have := hu.size; (try simp at this); omega
 have hm_Askers : w_Queue.heap.size ≤ w_Askers.heap.size := by have := hu.size; (try simp at this); omega
 clear hu
 go_wp2
 refine bodyPost_ret (v := .agg #[.int .i64 x.Kind, .int .i64 x.Script, .slice B2 x.eB.length b2, .int .i64 x.State, .int .i64 x.Value.Kind, .int .i64 x.Value.N, .slice B6 x.Queue.length b6, .slice B7 x.bJ.length b7, .int .i64 x.dZ, .int .i64 x.Pos, .int .i64 x.Count, .int .i64 x.Sent]) (by simp [results, Tryz.results129, go_sem, cc1_Slots, cc1_Value, cc1_Queue, cc1_Askers]) rfl ⟨_, rfl, ?_, (by repeat (with_reducible first | exact HB_Askers.out | apply Upd.bM | apply Upd.bL | apply Upd.bI | apply Upd.alloc | apply Upd.drewN | apply Upd.drew))⟩
 exact ki_Entity_mk _ _ _ (gB HR2.out (by repeat (with_reducible first | exact Upd.refl _ _ | apply Upd.gG n1_2 | apply Upd.gG n2_2 | apply Upd.alloc))) (gB HR6.out (by repeat (with_reducible first | exact Upd.refl _ _ | apply Upd.gG n1_6 | apply Upd.gG n2_6 | apply Upd.alloc))) (gB HR7.out (by repeat (with_reducible first | exact Upd.refl _ _ | apply Upd.gG n1_7 | apply Upd.gG n2_7 | apply Upd.alloc))) (fun k hk => by have := GE2.out k hk; simp only [New]; omega) (fun k hk => by have := GE6.out k hk; simp only [New]; omega) (fun k hk => by have := GE7.out k hk; simp only [New]; omega) (fun k hk hk' => by have h1 := LT2.out k hk; have h2 := GP6.out k hk'; have := hm_Value; omega) (fun k hk hk' => by have h1 := LT2.out k hk; have h2 := GP7.out k hk'; have := hm_Value; have := hm_Queue; omega) (fun k hk hk' => by have h1 := LT6.out k hk; have h2 := GP7.out k hk'; omega)
theorem toS_Entity (l : List GEntity) (A : Option Addr) (c : Nat) (w : World) (h : C jD w A l) (hs : dF fP l ≤ 1048576) : Calls Tryz.prog 94 #[.slice A l.length c] w (lF dW 132 l w) := by
 have hn : l.length ≤ 1048576 := by unfold dF at hs; omega
 have hmk := iW (P := Tryz.prog) _ _ _ Tryz.underlying75 ki_Entity_info l.length hn kD
 have H := Sd.mk h
 have HS := Sd.mk hs
 clear h hs
 go_enter Tryz.func94, Tryz.ntmps94
 go_wp2
 clear hmk
 have HR : Sd (R dW 132 (w.alloc (fQ (.agg #[.int .i64 0, .int .i64 0, .slice none 0 0, .int .i64 0, .int .i64 0, .int .i64 0, .slice none 0 0, .slice none 0 0, .int .i64 0, .int .i64 0, .int .i64 0, .int .i64 0]) (l.length * 12) 132)) (New w) (.slice (some ⟨w.heap.size, 0, none⟩) l.length l.length) (List.replicate l.length zEntity)) := Sd.mk (lG (d := dW) (e := 132) w (.agg #[.int .i64 0, .int .i64 0, .slice none 0 0, .int .i64 0, .int .i64 0, .int .i64 0, .slice none 0 0, .slice none 0 0, .int .i64 0, .int .i64 0, .int .i64 0, .int .i64 0]) zEntity rfl kD ki_Entity_zero l.length hn)
 have HU := Sd.mk ((Upd.refl No w).alloc (fQ (.agg #[.int .i64 0, .int .i64 0, .slice none 0 0, .int .i64 0, .int .i64 0, .int .i64 0, .slice none 0 0, .slice none 0 0, .int .i64 0, .int .i64 0, .int .i64 0, .int .i64 0]) (l.length * 12) 132))
 go_loopg [4] l.length (fun k v wr => ∃ i : Nat, i + k = l.length ∧ v = .int .i64 i ∧ Sd (R dW 132 wr (New w) (.slice (some ⟨w.heap.size, 0, none⟩) l.length l.length) (upTo l (List.replicate l.length zEntity) i)) ∧ Sd (Upd No w wr))
 case atStart => exact ⟨0, by omega, rfl, ⟨by rw [iM]; exact HR.out⟩, HU⟩
 case round =>
  clear HR HU
  obtain ⟨i, hi, rfl, HR, HU⟩ := hrel
  by_cases hlt : i < l.length
  ·obtain ⟨ad, A2, c2, A6, c6, A7, c7, rfl, a0, a1, a2, a3, a4, a5, a6, a7, a8, a9, a10, a11, hl2, hC2, hl6, hC6, hl7, hC7⟩ := kl_Entity_at (aS HU.out H.out) i hlt
   have HC2 := Sd.mk hC2
   clear hC2
   have HC6 := Sd.mk hC6
   clear hC6
   have HC7 := Sd.mk hC7
   clear hC7
   have hsi : fP l[i] ≤ 1048576 := by have := HS.out; have := jQ fP l i hlt; unfold dF at *; omega
   go_wp2_with fail
   with_reducible refine (to_Entity l[i] _ _ (kl_Entity_Kmk _ _ hl2 HC2.out hl6 HC6.out hl7 HC7.out) hsi).mono ?_
   rintro e w1 ⟨cs, rfl, hM, hu⟩
   obtain ⟨v2, P2, v6, P6, v7, P7, rfl, hR2, hR6, hR7, i2, i6, i7, d2_6, d2_7, d6_7⟩ := ki_Entity_M (dW.M_lt hM)
   obtain ⟨D2, d2, rfl⟩ := fI hR2
   obtain ⟨D6, d6, rfl⟩ := fI hR6
   obtain ⟨D7, d7, rfl⟩ := fI hR7
   have HRowA := gH hu (fun _ _ q => q) (R_lt HR.out)
   have HU1 := Sd.mk (HU.out.then hu)
   have hzw := HU.out.size
   have HR2 := Sd.mk hR2
   have I2 := Sd.mk i2
   have HR6 := Sd.mk hR6
   have I6 := Sd.mk i6
   have HR7 := Sd.mk hR7
   have I7 := Sd.mk i7
   have D2_6 := Sd.mk d2_6
   have D2_7 := Sd.mk d2_7
   have D6_7 := Sd.mk d6_7
   clear HR HU hM hu hR2 i2 hR6 i6 hR7 i7 d2_6 d2_7 d6_7
   obtain ⟨g, cap, cur, ce, Fi, hv, hcap, hat, hM, hg, hFi, hFg, close⟩ := lD HRowA 12 l.length rfl (by rw [iU (by simp) (by simp; omega)]; simp) i zEntity (by rw [jP (by simp) (by simpa using hlt)]; simp)
   cases hv
   obtain ⟨y2, _, y6, _, y7, _, rfl, -⟩ := ki_Entity_M hM
   have HAT := Sd.mk hat
   have x0 := hat.cell0 _ rfl
   have x1 := hat.cell 1 _ rfl
   have x2 := hat.cell 2 _ rfl
   have x3 := hat.cell 3 _ rfl
   have x4 := hat.cell 4 _ rfl
   have x5 := hat.cell 5 _ rfl
   have x6 := hat.cell 6 _ rfl
   have x7 := hat.cell 7 _ rfl
   have x8 := hat.cell 8 _ rfl
   have x9 := hat.cell 9 _ rfl
   have x10 := hat.cell 10 _ rfl
   have x11 := hat.cell 11 _ rfl
   have f0 := hat.free (i * 12)
   have f1 := hat.free (i * 12 + 1)
   have f2 := hat.free (i * 12 + 2)
   have f3 := hat.free (i * 12 + 3)
   have f4 := hat.free (i * 12 + 4)
   have f5 := hat.free (i * 12 + 5)
   have f6 := hat.free (i * 12 + 6)
   have f7 := hat.free (i * 12 + 7)
   have f8 := hat.free (i * 12 + 8)
   have f9 := hat.free (i * 12 + 9)
   have f10 := hat.free (i * 12 + 10)
   have f11 := hat.free (i * 12 + 11)
   have CL := Sd.mk close
   clear hat close hM HRowA
   go_wp2
   have HA := (((((((((((HAT.out.set0 kD (.int .i64 l[i].Kind)).set 1 kD (.int .i64 l[i].Script)).set 2 kD (.slice D2 l[i].eB.length d2)).set 3 kD (.int .i64 l[i].State)).set 4 kD (.int .i64 l[i].Value.Kind)).set 5 kD (.int .i64 l[i].Value.N)).set 6 kD (.slice D6 l[i].Queue.length d6)).set 7 kD (.slice D7 l[i].bJ.length d7)).set 8 kD (.int .i64 l[i].dZ)).set 9 kD (.int .i64 l[i].Pos)).set 10 kD (.int .i64 l[i].Count)).set 11 kD (.int .i64 l[i].Sent)
   have hD2 : ∀ b, P2 b → ¬ (b = w.heap.size ∨ Fi b) := by
    intro b hb q
    have h1 := (I2.out b hb).1
    simp only [New] at h1
    rcases q with rfl | q
    ·exact absurd hg.2 kO
    ·have h2 := (hFi b q).2
     omega
   have hD6 : ∀ b, P6 b → ¬ (b = w.heap.size ∨ Fi b) := by
    intro b hb q
    have h1 := (I6.out b hb).1
    simp only [New] at h1
    rcases q with rfl | q
    ·exact absurd hg.2 kO
    ·have h2 := (hFi b q).2
     omega
   have hD7 : ∀ b, P7 b → ¬ (b = w.heap.size ∨ Fi b) := by
    intro b hb q
    have h1 := (I7.out b hb).1
    simp only [New] at h1
    rcases q with rfl | q
    ·exact absurd hg.2 kO
    ·have h2 := (hFi b q).2
     omega
   have HM := ki_Entity_mk _ (fun b => P2 b ∨ P6 b ∨ P7 b) l[i] (gH HA.upd hD2 HR2.out) (gH HA.upd hD6 HR6.out) (gH HA.upd hD7 HR7.out) (fun k hk => Or.inl hk) (fun k hk => Or.inr (Or.inl hk)) (fun k hk => Or.inr (Or.inr (hk))) D2_6.out D2_7.out D6_7.out
   have hP1 : ∀ b, (P2 b ∨ P6 b ∨ P7 b) → New wr b := by
    intro b hb
    rcases hb with hb | hb | hb
    ·exact (I2.out b hb).1
    ·exact (I6.out b hb).1
    ·exact (I7.out b hb).1
   have HRowB := CL.out _ _ l[i] _ (New w) HA HM (fun b hb => .inr (fun q => by have h1 := hP1 b hb; have h2 := q.2; simp only [New] at h1; omega)) (fun _ q => q.1) (fun b hb => by have h1 := hP1 b hb; simp only [New] at h1 ⊢; omega)
   rw [iV (by simp) (by simpa using hlt)] at HRowB
   go_roundg (gk - 1)
   case measure => omega
   case rel => exact ⟨i + 1, by omega, by go_num, ⟨HRowB⟩, ⟨by repeat (with_reducible first | exact HU1.out | apply Upd.bI)⟩⟩
  ·go_wp2
   go_ret
   have HRowB := HR.out
   rw [iT (by simp) (by simp; omega)] at HRowB
   exact ⟨_, rfl, HRowB, HU.out⟩
theorem sz_Entity (x : GEntity) (cs : List Value) (n : Int) (w : World) (h : jD.K w x cs) (hb : Bd_Entity x) (h0 : 0 ≤ n) (h1 : n ≤ 1048576) : Calls Tryz.prog 123 #[.agg cs.toArray, .int .i64 n] w (jS (fP x) n w) := by
 obtain ⟨A2, c2, A6, c6, A7, c7, rfl, hl2, hC2, hl6, hC6, hl7, hC7⟩ := kl_Entity_K h
 have HC2 := Sd.mk hC2
 have HC6 := Sd.mk hC6
 have HC7 := Sd.mk hC7
 clear hC2 hC6 hC7
 have b_Queue := hb
 unfold Bd_Entity at b_Queue
 have B_Queue := Sd.mk b_Queue
 clear b_Queue
 go_enter Tryz.func123, Tryz.ntmps123
 go_wp2_with fail
 with_reducible refine (szS_Value x.eB _ _ _ _ ?hc_Slots kO kO).mono ?_
 case hc_Slots => exact aS kA HC2.out
 rintro e w_Slots ⟨r_Slots, rfl, hr_Slots, hu⟩
 have HB_Slots : Sd (Upd No w w_Slots) := Sd.mk (Upd.then kA hu)
 have cc0_Slots := fun o => hu.bB (b := w.heap.size) kB (fun q => q) o
 have hz_Slots : w.heap.size + 1 ≤ w_Slots.heap.size := by have := hu.size; (try simp at this); omega
 clear hu
 rcases hr_Slots with ⟨q_Slots, rfl⟩ | ⟨q_Slots, rfl⟩
 case inr =>
  go_wp2
  go_ret
  exact ⟨_, rfl, .inr ⟨by unfold fP; omega, rfl⟩, (by repeat (with_reducible first | exact HB_Slots.out | apply Upd.bM | apply Upd.bL | apply Upd.bI | apply Upd.alloc | apply Upd.drewN | apply Upd.drew))⟩
 go_wp2_with fail
 with_reducible refine (szS_Sent x.Queue _ _ _ _ ?hc_Queue B_Queue.out kO kO).mono ?_
 case hc_Queue => exact aS (by repeat (with_reducible first | exact HB_Slots.out | apply Upd.bM | apply Upd.bL | apply Upd.bI | apply Upd.alloc | apply Upd.drewN | apply Upd.drew)) HC6.out
 rintro e w_Queue ⟨r_Queue, rfl, hr_Queue, hu⟩
 have HB_Queue : Sd (Upd No w w_Queue) := Sd.mk (Upd.then (by repeat (with_reducible first | exact HB_Slots.out | apply Upd.bM | apply Upd.bL | apply Upd.bI | apply Upd.alloc | apply Upd.drewN | apply Upd.drew)) hu)
 have cc0_Queue := fun o => hu.bB (b := w.heap.size) kB (fun q => q) o
 have hz_Queue : w.heap.size + 1 ≤ w_Queue.heap.size := by have := hu.size; (try simp at this); omega
 clear hu
 rcases hr_Queue with ⟨q_Queue, rfl⟩ | ⟨q_Queue, rfl⟩
 case inr =>
  go_wp2
  go_ret
  exact ⟨_, rfl, .inr ⟨by unfold fP; omega, rfl⟩, (by repeat (with_reducible first | exact HB_Queue.out | apply Upd.bM | apply Upd.bL | apply Upd.bI | apply Upd.alloc | apply Upd.drewN | apply Upd.drew))⟩
 go_wp2_with fail
 with_reducible refine (szS_Asker x.bJ _ _ _ _ ?hc_Askers kO kO).mono ?_
 case hc_Askers => exact aS (by repeat (with_reducible first | exact HB_Queue.out | apply Upd.bM | apply Upd.bL | apply Upd.bI | apply Upd.alloc | apply Upd.drewN | apply Upd.drew)) HC7.out
 rintro e w_Askers ⟨r_Askers, rfl, hr_Askers, hu⟩
 have HB_Askers : Sd (Upd No w w_Askers) := Sd.mk (Upd.then (by repeat (with_reducible first | exact HB_Queue.out | apply Upd.bM | apply Upd.bL | apply Upd.bI | apply Upd.alloc | apply Upd.drewN | apply Upd.drew)) hu)
 have cc0_Askers := fun o => hu.bB (b := w.heap.size) kB (fun q => q) o
 have hz_Askers : w.heap.size + 1 ≤ w_Askers.heap.size := by have := hu.size; (try simp at this); omega
 clear hu
 rcases hr_Askers with ⟨q_Askers, rfl⟩ | ⟨q_Askers, rfl⟩
 case inr =>
  go_wp2
  go_ret
  exact ⟨_, rfl, .inr ⟨by unfold fP; omega, rfl⟩, (by repeat (with_reducible first | exact HB_Askers.out | apply Upd.bM | apply Upd.bL | apply Upd.bI | apply Upd.alloc | apply Upd.drewN | apply Upd.drew))⟩
 go_wp2
 go_ret
 exact ⟨_, rfl, .inl ⟨by unfold fP; omega, by unfold fP; omega⟩, (by repeat (with_reducible first | exact HB_Askers.out | apply Upd.bM | apply Upd.bL | apply Upd.bI | apply Upd.alloc | apply Upd.drewN | apply Upd.drew))⟩
theorem szS_Entity (l : List GEntity) (A : Option Addr) (c : Nat) (n : Int) (w : World) (h : C jD w A l) (hb : ∀ y ∈ l, Bd_Entity y) (h0 : 0 ≤ n) (h1 : n ≤ 1048576) : Calls Tryz.prog 88 #[.slice A l.length c, .int .i64 n] w (jS (dF fP l) n w) := by
 have hn := h.1
 have H := Sd.mk h
 clear h
 have HBD := Sd.mk hb
 clear hb
 go_enter Tryz.func88, Tryz.ntmps88
 by_cases q0 : (l.length : Int) ≤ n
 case neg =>
  go_wp2
  go_ret
  exact ⟨_, rfl, .inr ⟨by unfold dF; omega, rfl⟩, Upd.refl _ _⟩
 go_wp2
 go_loopg [1, 5] l.length (fun k u v wr => ∃ i : Nat, i + k = l.length ∧ (gP fP (l.take i) : Int) ≤ n - l.length ∧ u = .int .i64 (n - l.length - gP fP (l.take i)) ∧ v = .int .i64 i ∧ Sd (Upd No w wr))
 case atStart => exact ⟨0, by omega, by simp [gP]; omega, by simp [gP], rfl, ⟨Upd.refl _ _⟩⟩
 case round =>
  obtain ⟨i, hi, hle, rfl, rfl, HU⟩ := hrel
  by_cases hlt : i < l.length
  ·obtain ⟨ad, A2, c2, A6, c6, A7, c7, rfl, a0, a1, a2, a3, a4, a5, a6, a7, a8, a9, a10, a11, hl2, hC2, hl6, hC6, hl7, hC7⟩ := kl_Entity_at (aS HU.out H.out) i hlt
   have HC2 := Sd.mk hC2
   clear hC2
   have HC6 := Sd.mk hC6
   clear hC6
   have HC7 := Sd.mk hC7
   clear hC7
   have hst := kI fP l i hlt
   have HST := Sd.mk (jB fP l i hlt)
   generalize hs : gP fP (l.take i) = s at *
   have HS := Sd.mk hs
   clear hs
   go_wp2_with fail
   with_reducible refine (sz_Entity l[i] _ _ _ (kl_Entity_Kmk _ _ hl2 HC2.out hl6 HC6.out hl7 HC7.out) (HBD.out _ (List.getElem_mem hlt)) kO kO).mono ?_
   rintro e w1 ⟨r, rfl, hr, hu⟩
   have HU1 := Sd.mk (HU.out.then hu)
   clear hu HU
   rcases hr with ⟨q, rfl⟩ | ⟨q, rfl⟩
   ·go_wp2
    go_roundg (gk - 1)
    case measure => omega
    case rel => exact ⟨i + 1, by omega, by rw [HST.out]; omega, by rw [HST.out]; exact congrArg (Value.int .i64) kO, by go_num, HU1⟩
   ·go_wp2
    go_ret
    exact ⟨_, rfl, .inr ⟨by unfold dF; omega, rfl⟩, HU1.out⟩
  ·go_wp2
   go_ret
   have e : l.take i = l := List.take_of_length_le kO
   rw [e] at hle
   exact ⟨_, rfl, .inl ⟨by unfold dF; omega, by rw [e]; unfold dF; omega⟩, HU.out⟩
theorem eq_Entity (x : GEntity) (cs cs' : List Value) (w : World) (h : dW.K w x cs) (h' : dW.K w x cs') : Calls Tryz.prog 135 #[.agg cs.toArray, .agg cs'.toArray] w (bW true w) := by
 obtain ⟨A2, c2, A6, c6, A7, c7, rfl, hl2, hC2, hl6, hC6, hl7, hC7⟩ := kU h
 have HC2 := Sd.mk hC2
 have HC6 := Sd.mk hC6
 have HC7 := Sd.mk hC7
 clear hC2 hC6 hC7
 obtain ⟨B2, b2, B6, b6, B7, b7, rfl, hm2, hD2, hm6, hD6, hm7, hD7⟩ := kU h'
 have HD2 := Sd.mk hD2
 have HD6 := Sd.mk hD6
 have HD7 := Sd.mk hD7
 clear hD2 hD6 hD7
 go_enter Tryz.func135, Tryz.ntmps135
 go_wp2_with fail
 with_reducible refine (eqS_Value x.eB _ _ _ _ _ ?hc_Slots ?hd_Slots).mono ?_
 case hc_Slots => exact aS kA HC2.out
 case hd_Slots => exact aS kA HD2.out
 rintro e w_Slots ⟨rfl, hu⟩
 have HB_Slots : Sd (Upd No w w_Slots) := Sd.mk (Upd.then kA hu)
 have cc0_Slots := fun o => hu.bB (b := w.heap.size) kB (fun q => q) o
 have cc1_Slots := fun o => hu.bB (b := w.heap.size + 1) kB (fun q => q) o
 have hz_Slots : w.heap.size + 1 + 1 ≤ w_Slots.heap.size := by have := hu.size; (try simp at this); omega
 clear hu
 go_wp2_with fail
 with_reducible refine (eq_Value x.Value _ _ _ (mM _ _) (mM _ _)).mono ?_
 rintro e w_Value ⟨rfl, hu⟩
 have HB_Value : Sd (Upd No w w_Value) := Sd.mk (Upd.then (by repeat (with_reducible first | exact HB_Slots.out | apply Upd.bM | apply Upd.bL | apply Upd.bI | apply Upd.alloc | apply Upd.drewN | apply Upd.drew)) hu)
 have cc0_Value := fun o => hu.bB (b := w.heap.size) kB (fun q => q) o
 have cc1_Value := fun o => hu.bB (b := w.heap.size + 1) kB (fun q => q) o
 have hz_Value : w.heap.size + 1 + 1 ≤ w_Value.heap.size := by have := hu.size; (try simp at this); omega
 clear hu
 go_wp2_with fail
 with_reducible refine (eqS_Sent x.Queue _ _ _ _ _ ?hc_Queue ?hd_Queue).mono ?_
 case hc_Queue => exact aS (by repeat (with_reducible first | exact HB_Value.out | apply Upd.bM | apply Upd.bL | apply Upd.bI | apply Upd.alloc | apply Upd.drewN | apply Upd.drew)) HC6.out
 case hd_Queue => exact aS (by repeat (with_reducible first | exact HB_Value.out | apply Upd.bM | apply Upd.bL | apply Upd.bI | apply Upd.alloc | apply Upd.drewN | apply Upd.drew)) HD6.out
 rintro e w_Queue ⟨rfl, hu⟩
 have HB_Queue : Sd (Upd No w w_Queue) := Sd.mk (Upd.then (by repeat (with_reducible first | exact HB_Value.out | apply Upd.bM | apply Upd.bL | apply Upd.bI | apply Upd.alloc | apply Upd.drewN | apply Upd.drew)) hu)
 have cc0_Queue := fun o => hu.bB (b := w.heap.size) kB (fun q => q) o
 have cc1_Queue := fun o => hu.bB (b := w.heap.size + 1) kB (fun q => q) o
 have hz_Queue : w.heap.size + 1 + 1 ≤ w_Queue.heap.size := by have := hu.size; (try simp at this); omega
 clear hu
 go_wp2_with fail
 with_reducible refine (eqS_Asker x.bJ _ _ _ _ _ ?hc_Askers ?hd_Askers).mono ?_
 case hc_Askers => exact aS (by repeat (with_reducible first | exact HB_Queue.out | apply Upd.bM | apply Upd.bL | apply Upd.bI | apply Upd.alloc | apply Upd.drewN | apply Upd.drew)) HC7.out
 case hd_Askers => exact aS (by repeat (with_reducible first | exact HB_Queue.out | apply Upd.bM | apply Upd.bL | apply Upd.bI | apply Upd.alloc | apply Upd.drewN | apply Upd.drew)) HD7.out
 rintro e w_Askers ⟨rfl, hu⟩
 have HB_Askers : Sd (Upd No w w_Askers) := Sd.mk (Upd.then (by repeat (with_reducible first | exact HB_Queue.out | apply Upd.bM | apply Upd.bL | apply Upd.bI | apply Upd.alloc | apply Upd.drewN | apply Upd.drew)) hu)
 have cc0_Askers := fun o => hu.bB (b := w.heap.size) kB (fun q => q) o
 have cc1_Askers := fun o => hu.bB (b := w.heap.size + 1) kB (fun q => q) o
 have hz_Askers : w.heap.size + 1 + 1 ≤ w_Askers.heap.size := by have := hu.size; (try simp at this); omega
 clear hu
 go_wp2
 go_ret
 exact ⟨rfl, (by repeat (with_reducible first | exact HB_Askers.out | apply Upd.bM | apply Upd.bL | apply Upd.bI | apply Upd.alloc | apply Upd.drewN | apply Upd.drew))⟩
theorem eqS_Entity (l : List GEntity) (A A' : Option Addr) (c c' : Nat) (w : World) (h : C dW w A l) (h' : C dW w A' l) : Calls Tryz.prog 102 #[.slice A l.length c, .slice A' l.length c'] w (bW true w) := by
 have hn := h.1
 have H := Sd.mk h
 have H' := Sd.mk h'
 clear h h'
 go_enter Tryz.func102, Tryz.ntmps102
 go_wp2
 go_loopg [5] l.length (fun k v wr => ∃ i : Nat, i + k = l.length ∧ v = .int .i64 i ∧ Sd (Upd No w wr))
 case atStart => exact ⟨0, by omega, rfl, ⟨Upd.refl _ _⟩⟩
 case round =>
  obtain ⟨i, hi, rfl, HU⟩ := hrel
  by_cases hlt : i < l.length
  ·obtain ⟨ad, A2, c2, A6, c6, A7, c7, rfl, a0, a1, a2, a3, a4, a5, a6, a7, a8, a9, a10, a11, hl2, hC2, hl6, hC6, hl7, hC7⟩ := ki_Entity_at (aS HU.out H.out) i hlt
   obtain ⟨ad', B2, b2, B6, b6, B7, b7, rfl, z0, z1, z2, z3, z4, z5, z6, z7, z8, z9, z10, z11, hm2, hD2, hm6, hD6, hm7, hD7⟩ := ki_Entity_at (aS HU.out H'.out) i hlt
   have HC2 := Sd.mk hC2
   have HD2 := Sd.mk hD2
   clear hC2 hD2
   have HC6 := Sd.mk hC6
   have HD6 := Sd.mk hD6
   clear hC6 hD6
   have HC7 := Sd.mk hC7
   have HD7 := Sd.mk hD7
   clear hC7 hD7
   go_wp2_with fail
   go_still_tail 8, kR
   change wpList _ _ _ _ _ wr.drew
   have HW : Sd (Upd No wr wr.drew) := ⟨(Upd.refl _ _).drew⟩
   have HU2 : Sd (Upd No w wr.drew) := ⟨HU.out.drew⟩
   generalize wr.drew = w2 at *
   go_wp2_with (go_at_call 135; (with_reducible refine (eq_Entity l[i] _ _ _ (ki_Entity_Kmk _ _ hl2 (aS HW.out HC2.out) hl6 (aS HW.out HC6.out) hl7 (aS HW.out HC7.out)) (ki_Entity_Kmk _ _ hm2 (aS HW.out HD2.out) hm6 (aS HW.out HD6.out) hm7 (aS HW.out HD7.out))).mono ?_); rintro e w' ⟨rfl, hu⟩)
   have HU3 := Sd.mk (HU2.out.then hu)
   clear HU2 hu
   go_wp2
   go_roundg (gk - 1)
   case measure => omega
   case rel => exact ⟨i + 1, by omega, by go_num, HU3⟩
  ·go_wp2
   go_ret
   exact ⟨rfl, HU.out⟩
theorem kl_Export_Kmk (w : World) (x : GExport) : jJ.K w x [.int .i64 x.Pos, .int .i64 x.Entity, .int .i64 x.Count] := ⟨[_], [_, _], rfl, rfl, ⟨[_], [_], rfl, rfl, rfl⟩⟩
theorem ki_Export_Kmk (w : World) (x : GExport) : eZ.K w x [.int .i64 x.Pos, .int .i64 x.Entity, .int .i64 x.Count] := ⟨[_], [_, _], rfl, rfl, ⟨[_], [_], rfl, rfl, rfl⟩⟩
theorem to_Export (x : GExport) (cs : List Value) (w : World) (h : jJ.K w x cs) (hs : j4 x ≤ 1048576) : Calls Tryz.prog 165 #[.agg cs.toArray] w (kK eZ x w) := by
 obtain rfl := kl_Export_K h
 clear hs
 go_enter Tryz.func165, Tryz.ntmps165
 go_wp2
 refine bodyPost_ret (v := .agg #[.int .i64 x.Pos, .int .i64 x.Entity, .int .i64 x.Count]) (by simp [results, Tryz.results165, go_sem]) rfl ⟨_, rfl, ?_, kA⟩
 exact ki_Export_mk _ _ _
theorem toS_Export (l : List GExport) (A : Option Addr) (c : Nat) (w : World) (h : C jJ w A l) (hs : dF j4 l ≤ 1048576) : Calls Tryz.prog 150 #[.slice A l.length c] w (lF eZ 186 l w) := by
 have hn : l.length ≤ 1048576 := by unfold dF at hs; omega
 have hmk := iW (P := Tryz.prog) _ _ _ Tryz.underlying134 ki_Export_info l.length hn kD
 have H := Sd.mk h
 have HS := Sd.mk hs
 clear h hs
 go_enter Tryz.func150, Tryz.ntmps150
 go_wp2
 clear hmk
 have HR : Sd (R eZ 186 (w.alloc (fQ (.agg #[.int .i64 0, .int .i64 0, .int .i64 0]) (l.length * 3) 186)) (New w) (.slice (some ⟨w.heap.size, 0, none⟩) l.length l.length) (List.replicate l.length zExport)) := Sd.mk (lG (d := eZ) (e := 186) w (.agg #[.int .i64 0, .int .i64 0, .int .i64 0]) zExport rfl kD ki_Export_zero l.length hn)
 have HU := Sd.mk ((Upd.refl No w).alloc (fQ (.agg #[.int .i64 0, .int .i64 0, .int .i64 0]) (l.length * 3) 186))
 go_loopg [4] l.length (fun k v wr => ∃ i : Nat, i + k = l.length ∧ v = .int .i64 i ∧ Sd (R eZ 186 wr (New w) (.slice (some ⟨w.heap.size, 0, none⟩) l.length l.length) (upTo l (List.replicate l.length zExport) i)) ∧ Sd (Upd No w wr))
 case atStart => exact ⟨0, by omega, rfl, ⟨by rw [iM]; exact HR.out⟩, HU⟩
 case round =>
  clear HR HU
  obtain ⟨i, hi, rfl, HR, HU⟩ := hrel
  by_cases hlt : i < l.length
  ·obtain ⟨ad, rfl, a0, a1, a2⟩ := kl_Export_at (aS HU.out H.out) i hlt
   have hsi : j4 l[i] ≤ 1048576 := by have := HS.out; have := jQ j4 l i hlt; unfold dF at *; omega
   go_wp2_with fail
   with_reducible refine (to_Export l[i] _ _ (kl_Export_Kmk _ _) hsi).mono ?_
   rintro e w1 ⟨cs, rfl, hM, hu⟩
   obtain rfl := ki_Export_M hM
   have HRowA := gH hu (fun _ _ q => q) (R_lt HR.out)
   have HU1 := Sd.mk (HU.out.then hu)
   have hzw := HU.out.size
   clear HR HU hM hu
   obtain ⟨g, cap, cur, ce, Fi, hv, hcap, hat, hM, hg, hFi, hFg, close⟩ := lD HRowA 3 l.length rfl (by rw [iU (by simp) (by simp; omega)]; simp) i zExport (by rw [jP (by simp) (by simpa using hlt)]; simp)
   cases hv
   obtain rfl := ki_Export_M hM
   have HAT := Sd.mk hat
   have x0 := hat.cell0 _ rfl
   have x1 := hat.cell 1 _ rfl
   have x2 := hat.cell 2 _ rfl
   have f0 := hat.free (i * 3)
   have f1 := hat.free (i * 3 + 1)
   have f2 := hat.free (i * 3 + 2)
   have CL := Sd.mk close
   clear hat close hM HRowA
   go_wp2
   have HA := ((HAT.out.set0 kD (.int .i64 l[i].Pos)).set 1 kD (.int .i64 l[i].Entity)).set 2 kD (.int .i64 l[i].Count)
   have HRowB := CL.out _ _ l[i] No (New w) HA (ki_Export_mk _ _ _) (fun _ q => q.elim) (fun _ q => q.1) (fun _ q => q.elim)
   rw [iV (by simp) (by simpa using hlt)] at HRowB
   go_roundg (gk - 1)
   case measure => omega
   case rel => exact ⟨i + 1, by omega, by go_num, ⟨HRowB⟩, ⟨by repeat (with_reducible first | exact HU1.out | apply Upd.bI)⟩⟩
  ·go_wp2
   go_ret
   have HRowB := HR.out
   rw [iT (by simp) (by simp; omega)] at HRowB
   exact ⟨_, rfl, HRowB, HU.out⟩
theorem szS_Export (l : List GExport) (A : Option Addr) (c : Nat) (n : Int) (w : World) (h : C jJ w A l) (h0 : 0 ≤ n) (h1 : n ≤ 1048576) : Calls Tryz.prog 143 #[.slice A l.length c, .int .i64 n] w (jS (dF j4 l) n w) := by
 have hn := h.1
 have H := Sd.mk h
 clear h
 go_enter Tryz.func143, Tryz.ntmps143
 by_cases q0 : (l.length : Int) ≤ n
 case neg =>
  go_wp2
  go_ret
  exact ⟨_, rfl, .inr ⟨by unfold dF; omega, rfl⟩, Upd.refl _ _⟩
 have hz : gP j4 l = 0 := by
  clear q0 hn H
  induction l with
  | nil => rfl
  | cons x l ih => simp [gP, j4, ih]
 have HZ := Sd.mk hz
 clear hz
 go_wp2
 go_ret
 have hz := HZ.out
 exact ⟨_, rfl, .inl ⟨by unfold dF; omega, by unfold dF; omega⟩, Upd.refl _ _⟩
theorem eq_Export (x : GExport) (cs cs' : List Value) (w : World) (h : eZ.K w x cs) (h' : eZ.K w x cs') : Calls Tryz.prog 169 #[.agg cs.toArray, .agg cs'.toArray] w (bW true w) := by
 obtain rfl := jY h
 obtain rfl := jY h'
 go_enter Tryz.func169, Tryz.ntmps169
 go_wp2
 go_ret
 exact ⟨rfl, kA⟩
theorem eqS_Export (l : List GExport) (A A' : Option Addr) (c c' : Nat) (w : World) (h : C eZ w A l) (h' : C eZ w A' l) : Calls Tryz.prog 158 #[.slice A l.length c, .slice A' l.length c'] w (bW true w) := by
 have hn := h.1
 have H := Sd.mk h
 have H' := Sd.mk h'
 clear h h'
 go_enter Tryz.func158, Tryz.ntmps158
 go_wp2
 go_loopg [5] l.length (fun k v wr => ∃ i : Nat, i + k = l.length ∧ v = .int .i64 i ∧ Sd (Upd No w wr))
 case atStart => exact ⟨0, by omega, rfl, ⟨Upd.refl _ _⟩⟩
 case round =>
  obtain ⟨i, hi, rfl, HU⟩ := hrel
  by_cases hlt : i < l.length
  ·obtain ⟨ad, rfl, a0, a1, a2⟩ := ki_Export_at (aS HU.out H.out) i hlt
   obtain ⟨ad', rfl, z0, z1, z2⟩ := ki_Export_at (aS HU.out H'.out) i hlt
   go_wp2_with fail
   go_still_tail 8, kR
   change wpList _ _ _ _ _ wr.drew
   have HW : Sd (Upd No wr wr.drew) := ⟨(Upd.refl _ _).drew⟩
   have HU2 : Sd (Upd No w wr.drew) := ⟨HU.out.drew⟩
   generalize wr.drew = w2 at *
   go_wp2_with (go_at_call 169; (with_reducible refine (eq_Export l[i] _ _ _ (ki_Export_Kmk _ _) (ki_Export_Kmk _ _)).mono ?_); rintro e w' ⟨rfl, hu⟩)
   have HU3 := Sd.mk (HU2.out.then hu)
   clear HU2 hu
   go_wp2
   go_roundg (gk - 1)
   case measure => omega
   case rel => exact ⟨i + 1, by omega, by go_num, HU3⟩
  ·go_wp2
   go_ret
   exact ⟨rfl, HU.out⟩
theorem kl_Question_Kmk (w : World) (x : GQuestion) : gM.K w x [.int .i64 x.Id, .int .i64 x.Promise] := ⟨[_], [_], rfl, rfl, rfl⟩
theorem ki_Question_Kmk (w : World) (x : GQuestion) : dB.K w x [.int .i64 x.Id, .int .i64 x.Promise] := ⟨[_], [_], rfl, rfl, rfl⟩
theorem to_Question (x : GQuestion) (cs : List Value) (w : World) (h : gM.K w x cs) (hs : iH x ≤ 1048576) : Calls Tryz.prog 166 #[.agg cs.toArray] w (kK dB x w) := by
 obtain rfl := kl_Question_K h
 clear hs
 go_enter Tryz.func166, Tryz.ntmps166
 go_wp2
 refine bodyPost_ret (v := .agg #[.int .i64 x.Id, .int .i64 x.Promise]) (by simp [results, Tryz.results166, go_sem]) rfl ⟨_, rfl, ?_, kA⟩
 exact oQ _ _ _
theorem toS_Question (l : List GQuestion) (A : Option Addr) (c : Nat) (w : World) (h : C gM w A l) (hs : dF iH l ≤ 1048576) : Calls Tryz.prog 151 #[.slice A l.length c] w (lF dB 193 l w) := by
 have hn : l.length ≤ 1048576 := by unfold dF at hs; omega
 have hmk := iW (P := Tryz.prog) _ _ _ Tryz.underlying135 ki_Question_info l.length hn kD
 have H := Sd.mk h
 have HS := Sd.mk hs
 clear h hs
 go_enter Tryz.func151, Tryz.ntmps151
 go_wp2
 clear hmk
 have HR : Sd (R dB 193 (w.alloc (fQ (.agg #[.int .i64 0, .int .i64 0]) (l.length * 2) 193)) (New w) (.slice (some ⟨w.heap.size, 0, none⟩) l.length l.length) (List.replicate l.length lY)) := Sd.mk (lG (d := dB) (e := 193) w (.agg #[.int .i64 0, .int .i64 0]) lY rfl kD ki_Question_zero l.length hn)
 have HU := Sd.mk ((Upd.refl No w).alloc (fQ (.agg #[.int .i64 0, .int .i64 0]) (l.length * 2) 193))
 go_loopg [4] l.length (fun k v wr => ∃ i : Nat, i + k = l.length ∧ v = .int .i64 i ∧ Sd (R dB 193 wr (New w) (.slice (some ⟨w.heap.size, 0, none⟩) l.length l.length) (upTo l (List.replicate l.length lY) i)) ∧ Sd (Upd No w wr))
 case atStart => exact ⟨0, by omega, rfl, ⟨by rw [iM]; exact HR.out⟩, HU⟩
 case round =>
  clear HR HU
  obtain ⟨i, hi, rfl, HR, HU⟩ := hrel
  by_cases hlt : i < l.length
  ·obtain ⟨ad, rfl, a0, a1⟩ := kl_Question_at (aS HU.out H.out) i hlt
   have hsi : iH l[i] ≤ 1048576 := by have := HS.out; have := jQ iH l i hlt; unfold dF at *; omega
   go_wp2_with fail
   with_reducible refine (to_Question l[i] _ _ (kl_Question_Kmk _ _) hsi).mono ?_
   rintro e w1 ⟨cs, rfl, hM, hu⟩
   obtain rfl := ki_Question_M hM
   have HRowA := gH hu (fun _ _ q => q) (R_lt HR.out)
   have HU1 := Sd.mk (HU.out.then hu)
   have hzw := HU.out.size
   clear HR HU hM hu
   obtain ⟨g, cap, cur, ce, Fi, hv, hcap, hat, hM, hg, hFi, hFg, close⟩ := lD HRowA 2 l.length rfl (by rw [iU (by simp) (by simp; omega)]; simp) i lY (by rw [jP (by simp) (by simpa using hlt)]; simp)
   cases hv
   obtain rfl := ki_Question_M hM
   have HAT := Sd.mk hat
   have x0 := hat.cell0 _ rfl
   have x1 := hat.cell 1 _ rfl
   have f0 := hat.free (i * 2)
   have f1 := hat.free (i * 2 + 1)
   have CL := Sd.mk close
   clear hat close hM HRowA
   go_wp2
   have HA := (HAT.out.set0 kD (.int .i64 l[i].Id)).set 1 kD (.int .i64 l[i].Promise)
   have HRowB := CL.out _ _ l[i] No (New w) HA (oQ _ _ _) (fun _ q => q.elim) (fun _ q => q.1) (fun _ q => q.elim)
   rw [iV (by simp) (by simpa using hlt)] at HRowB
   go_roundg (gk - 1)
   case measure => omega
   case rel => exact ⟨i + 1, by omega, by go_num, ⟨HRowB⟩, ⟨by repeat (with_reducible first | exact HU1.out | apply Upd.bI)⟩⟩
  ·go_wp2
   go_ret
   have HRowB := HR.out
   rw [iT (by simp) (by simp; omega)] at HRowB
   exact ⟨_, rfl, HRowB, HU.out⟩
theorem szS_Question (l : List GQuestion) (A : Option Addr) (c : Nat) (n : Int) (w : World) (h : C gM w A l) (h0 : 0 ≤ n) (h1 : n ≤ 1048576) : Calls Tryz.prog 144 #[.slice A l.length c, .int .i64 n] w (jS (dF iH l) n w) := by
 have hn := h.1
 have H := Sd.mk h
 clear h
 go_enter Tryz.func144, Tryz.ntmps144
 by_cases q0 : (l.length : Int) ≤ n
 case neg =>
  go_wp2
  go_ret
  exact ⟨_, rfl, .inr ⟨by unfold dF; omega, rfl⟩, Upd.refl _ _⟩
 have hz : gP iH l = 0 := by
  clear q0 hn H
  induction l with
  | nil => rfl
  | cons x l ih => simp [gP, iH, ih]
 have HZ := Sd.mk hz
 clear hz
 go_wp2
 go_ret
 have hz := HZ.out
 exact ⟨_, rfl, .inl ⟨by unfold dF; omega, by unfold dF; omega⟩, Upd.refl _ _⟩
theorem eq_Question (x : GQuestion) (cs cs' : List Value) (w : World) (h : dB.K w x cs) (h' : dB.K w x cs') : Calls Tryz.prog 170 #[.agg cs.toArray, .agg cs'.toArray] w (bW true w) := by
 obtain rfl := jA h
 obtain rfl := jA h'
 go_enter Tryz.func170, Tryz.ntmps170
 go_wp2
 go_ret
 exact ⟨rfl, kA⟩
theorem eqS_Question (l : List GQuestion) (A A' : Option Addr) (c c' : Nat) (w : World) (h : C dB w A l) (h' : C dB w A' l) : Calls Tryz.prog 159 #[.slice A l.length c, .slice A' l.length c'] w (bW true w) := by
 have hn := h.1
 have H := Sd.mk h
 have H' := Sd.mk h'
 clear h h'
 go_enter Tryz.func159, Tryz.ntmps159
 go_wp2
 go_loopg [5] l.length (fun k v wr => ∃ i : Nat, i + k = l.length ∧ v = .int .i64 i ∧ Sd (Upd No w wr))
 case atStart => exact ⟨0, by omega, rfl, ⟨Upd.refl _ _⟩⟩
 case round =>
  obtain ⟨i, hi, rfl, HU⟩ := hrel
  by_cases hlt : i < l.length
  ·obtain ⟨ad, rfl, a0, a1⟩ := ki_Question_at (aS HU.out H.out) i hlt
   obtain ⟨ad', rfl, z0, z1⟩ := ki_Question_at (aS HU.out H'.out) i hlt
   go_wp2_with fail
   go_still_tail 8, kR
   change wpList _ _ _ _ _ wr.drew
   have HW : Sd (Upd No wr wr.drew) := ⟨(Upd.refl _ _).drew⟩
   have HU2 : Sd (Upd No w wr.drew) := ⟨HU.out.drew⟩
   generalize wr.drew = w2 at *
   go_wp2_with (go_at_call 170; (with_reducible refine (eq_Question l[i] _ _ _ (ki_Question_Kmk _ _) (ki_Question_Kmk _ _)).mono ?_); rintro e w' ⟨rfl, hu⟩)
   have HU3 := Sd.mk (HU2.out.then hu)
   clear HU2 hu
   go_wp2
   go_roundg (gk - 1)
   case measure => omega
   case rel => exact ⟨i + 1, by omega, by go_num, HU3⟩
  ·go_wp2
   go_ret
   exact ⟨rfl, HU.out⟩
theorem kl_Link_Kmk (w : World) (x : GLink) {A2 : Option Addr} {c2 : Nat} (hl2 : x.aW.length ≤ c2) (hC2 : C jJ w A2 x.aW) {A4 : Option Addr} {c4 : Nat} (hl4 : x.bF.length ≤ c4) (hC4 : C gM w A4 x.bF) {A6 : Option Addr} {c6 : Nat} (hl6 : x.cB.length ≤ c6) (hC6 : C gM w A6 x.cB) : kY.K w x [.int .i64 x.dZ, .bool x.Up, .slice A2 x.aW.length c2, .int .i64 x.Next, .slice A4 x.bF.length c4, .int .i64 x.iO, .slice A6 x.cB.length c6] := ⟨[_], [_, _, _, _, _, _], rfl, rfl, ⟨[_], [_, _, _, _, _], rfl, rfl, ⟨[_], [_, _, _, _], rfl, ⟨A2, c2, rfl, hl2, hC2⟩, ⟨[_], [_, _, _], rfl, rfl, ⟨[_], [_, _], rfl, ⟨A4, c4, rfl, hl4, hC4⟩, ⟨[_], [_], rfl, rfl, ⟨A6, c6, rfl, hl6, hC6⟩⟩⟩⟩⟩⟩⟩
theorem ki_Link_Kmk (w : World) (x : GLink) {A2 : Option Addr} {c2 : Nat} (hl2 : x.aW.length ≤ c2) (hC2 : C eZ w A2 x.aW) {A4 : Option Addr} {c4 : Nat} (hl4 : x.bF.length ≤ c4) (hC4 : C dB w A4 x.bF) {A6 : Option Addr} {c6 : Nat} (hl6 : x.cB.length ≤ c6) (hC6 : C dB w A6 x.cB) : gK.K w x [.int .i64 x.dZ, .bool x.Up, .slice A2 x.aW.length c2, .int .i64 x.Next, .slice A4 x.bF.length c4, .int .i64 x.iO, .slice A6 x.cB.length c6] := ⟨[_], [_, _, _, _, _, _], rfl, rfl, ⟨[_], [_, _, _, _, _], rfl, rfl, ⟨[_], [_, _, _, _], rfl, ⟨A2, c2, rfl, hl2, hC2⟩, ⟨[_], [_, _, _], rfl, rfl, ⟨[_], [_, _], rfl, ⟨A4, c4, rfl, hl4, hC4⟩, ⟨[_], [_], rfl, rfl, ⟨A6, c6, rfl, hl6, hC6⟩⟩⟩⟩⟩⟩⟩
theorem to_Link (x : GLink) (cs : List Value) (w : World) (h : kY.K w x cs) (hs : iC x ≤ 1048576) : Calls Tryz.prog 131 #[.agg cs.toArray] w (kK gK x w) := by
 obtain ⟨A2, c2, A4, c4, A6, c6, rfl, hl2, hC2, hl4, hC4, hl6, hC6⟩ := kl_Link_K h
 have HC2 := Sd.mk hC2
 have HC4 := Sd.mk hC4
 have HC6 := Sd.mk hC6
 clear hC2 hC4 hC6
 have s_Exports : dF j4 x.aW ≤ 1048576 := by unfold iC at hs; omega
 have s_Questions : dF iH x.bF ≤ 1048576 := by unfold iC at hs; omega
 have s_Answers : dF iH x.cB ≤ 1048576 := by unfold iC at hs; omega
 clear hs
 go_enter Tryz.func131, Tryz.ntmps131
 go_wp2_with fail
 with_reducible refine (toS_Export x.aW _ _ _ ?hc_Exports s_Exports).mono ?_
 case hc_Exports => exact aS kA HC2.out
 rintro e w_Exports ⟨v2, rfl, hR2, hu⟩
 obtain ⟨B2, b2, rfl⟩ := fI hR2
 obtain ⟨P2, hR2', g2, l2⟩ := gV hR2 (w.heap.size + 1 + 1 + 1) kB
 have ge2 : ∀ b, P2 b → w.heap.size + 1 + 1 < b := fun b hb => by have := g2 b hb; omega
 have n1_2 : ¬ P2 (w.heap.size + 1) := fun q => by have := ge2 _ q; omega
 have n2_2 : ¬ P2 (w.heap.size + 1 + 1) := fun q => by have := ge2 _ q; omega
 have HR2 := Sd.mk hR2'
 have GE2 := Sd.mk ge2
 have LT2 := Sd.mk l2
 have GP2 := Sd.mk g2
 clear hR2 hR2' ge2 l2 g2
 have HB_Exports : Sd (Upd No w w_Exports) := Sd.mk (Upd.then kA hu)
 have cc0_Exports := fun o => hu.bB (b := w.heap.size) kB (fun q => q) o
 have cc1_Exports := fun o => hu.bB (b := w.heap.size + 1) kB (fun q => q) o
 have cf1_Exports := fun o => hu.dR (b := w.heap.size + 1) kB (fun q => q) o
 have cc2_Exports := fun o => hu.bB (b := w.heap.size + 1 + 1) kB (fun q => q) o
 have cf2_Exports := fun o => hu.dR (b := w.heap.size + 1 + 1) kB (fun q => q) o
 have hz_Exports : w.heap.size + 1 + 1 + 1 ≤ w_Exports.heap.size := by have := hu.size; (try simp at this); omega
 clear hu
 go_wp2_with fail
 with_reducible refine (toS_Question x.bF _ _ _ ?hc_Questions s_Questions).mono ?_
 case hc_Questions => exact aS (by repeat (with_reducible first | exact HB_Exports.out | apply Upd.bM | apply Upd.bL | apply Upd.bI | apply Upd.alloc | apply Upd.drewN | apply Upd.drew)) HC4.out
 rintro e w_Questions ⟨v4, rfl, hR4, hu⟩
 obtain ⟨B4, b4, rfl⟩ := fI hR4
 obtain ⟨P4, hR4', g4, l4⟩ := gV hR4 (w_Exports.heap.size) kB
 have ge4 : ∀ b, P4 b → w.heap.size + 1 + 1 < b := fun b hb => by have := g4 b hb; have := hz_Exports; omega
 have n1_4 : ¬ P4 (w.heap.size + 1) := fun q => by have := ge4 _ q; omega
 have n2_4 : ¬ P4 (w.heap.size + 1 + 1) := fun q => by have := ge4 _ q; omega
 have HR4 := Sd.mk hR4'
 have GE4 := Sd.mk ge4
 have LT4 := Sd.mk l4
 have GP4 := Sd.mk g4
 clear hR4 hR4' ge4 l4 g4
 have HR2 := Sd.mk (gH hu (fun _ _ q => q) (gB HR2.out (by repeat (with_reducible first | exact Upd.refl _ _ | apply Upd.gG n1_2 | apply Upd.gG n2_2 | apply Upd.alloc))))
 have HB_Questions : Sd (Upd No w w_Questions) := Sd.mk (Upd.then (by repeat (with_reducible first | exact HB_Exports.out | apply Upd.bM | apply Upd.bL | apply Upd.bI | apply Upd.alloc | apply Upd.drewN | apply Upd.drew)) hu)
 have cc0_Questions := fun o => hu.bB (b := w.heap.size) kB (fun q => q) o
 have cc1_Questions := fun o => hu.bB (b := w.heap.size + 1) kB (fun q => q) o
 have cf1_Questions := fun o => hu.dR (b := w.heap.size + 1) kB (fun q => q) o
 have cc2_Questions := fun o => hu.bB (b := w.heap.size + 1 + 1) kB (fun q => q) o
 have cf2_Questions := fun o => hu.dR (b := w.heap.size + 1 + 1) kB (fun q => q) o
 have hz_Questions : w.heap.size + 1 + 1 + 1 ≤ w_Questions.heap.size := by have := hu.size; (try simp at this); omega
 have hm_Questions : w_Exports.heap.size ≤ w_Questions.heap.size := by have := hu.size; (try simp at this); omega
 clear hu
 go_wp2_with fail
 with_reducible refine (toS_Question x.cB _ _ _ ?hc_Answers s_Answers).mono ?_
 case hc_Answers => exact aS (by repeat (with_reducible first | exact HB_Questions.out | apply Upd.bM | apply Upd.bL | apply Upd.bI | apply Upd.alloc | apply Upd.drewN | apply Upd.drew)) HC6.out
 rintro e w_Answers ⟨v6, rfl, hR6, hu⟩
 obtain ⟨B6, b6, rfl⟩ := fI hR6
 obtain ⟨P6, hR6', g6, l6⟩ := gV hR6 (w_Questions.heap.size) kB
 have ge6 : ∀ b, P6 b → w.heap.size + 1 + 1 < b := fun b hb => by have := g6 b hb; have := hz_Questions; omega
 have n1_6 : ¬ P6 (w.heap.size + 1) := fun q => by have := ge6 _ q; omega
 have n2_6 : ¬ P6 (w.heap.size + 1 + 1) := fun q => by have := ge6 _ q; omega
 have HR6 := Sd.mk hR6'
 have GE6 := Sd.mk ge6
 have LT6 := Sd.mk l6
 have GP6 := Sd.mk g6
 clear hR6 hR6' ge6 l6 g6
 have HR2 := Sd.mk (gH hu (fun _ _ q => q) (gB HR2.out (by repeat (with_reducible first | exact Upd.refl _ _ | apply Upd.gG n1_2 | apply Upd.gG n2_2 | apply Upd.alloc))))
 have HR4 := Sd.mk (gH hu (fun _ _ q => q) (gB HR4.out (by repeat (with_reducible first | exact Upd.refl _ _ | apply Upd.gG n1_4 | apply Upd.gG n2_4 | apply Upd.alloc))))
 have HB_Answers : Sd (Upd No w w_Answers) := Sd.mk (Upd.then (by repeat (with_reducible first | exact HB_Questions.out | apply Upd.bM | apply Upd.bL | apply Upd.bI | apply Upd.alloc | apply Upd.drewN | apply Upd.drew)) hu)
 have cc0_Answers := fun o => hu.bB (b := w.heap.size) kB (fun q => q) o
 have cc1_Answers := fun o => hu.bB (b := w.heap.size + 1) kB (fun q => q) o
 have cf1_Answers := fun o => hu.dR (b := w.heap.size + 1) kB (fun q => q) o
 have cc2_Answers := fun o => hu.bB (b := w.heap.size + 1 + 1) kB (fun q => q) o
 have cf2_Answers := fun o => hu.dR (b := w.heap.size + 1 + 1) kB (fun q => q) o
 have hz_Answers : w.heap.size + 1 + 1 + 1 ≤ w_Answers.heap.size := by have := hu.size; (try simp at this); omega
 have hm_Answers : w_Questions.heap.size ≤ w_Answers.heap.size := by have := hu.size; (try simp at this); omega
 clear hu
 go_wp2
 refine bodyPost_ret (v := .agg #[.int .i64 x.dZ, .bool x.Up, .slice B2 x.aW.length b2, .int .i64 x.Next, .slice B4 x.bF.length b4, .int .i64 x.iO, .slice B6 x.cB.length b6]) (by simp [results, Tryz.results131, go_sem, cc1_Exports, cc1_Questions, cc1_Answers]) rfl ⟨_, rfl, ?_, (by repeat (with_reducible first | exact HB_Answers.out | apply Upd.bM | apply Upd.bL | apply Upd.bI | apply Upd.alloc | apply Upd.drewN | apply Upd.drew))⟩
 exact ki_Link_mk _ _ _ (gB HR2.out (by repeat (with_reducible first | exact Upd.refl _ _ | apply Upd.gG n1_2 | apply Upd.gG n2_2 | apply Upd.alloc))) (gB HR4.out (by repeat (with_reducible first | exact Upd.refl _ _ | apply Upd.gG n1_4 | apply Upd.gG n2_4 | apply Upd.alloc))) (gB HR6.out (by repeat (with_reducible first | exact Upd.refl _ _ | apply Upd.gG n1_6 | apply Upd.gG n2_6 | apply Upd.alloc))) (fun k hk => by have := GE2.out k hk; simp only [New]; omega) (fun k hk => by have := GE4.out k hk; simp only [New]; omega) (fun k hk => by have := GE6.out k hk; simp only [New]; omega) (fun k hk hk' => by have h1 := LT2.out k hk; have h2 := GP4.out k hk'; omega) (fun k hk hk' => by have h1 := LT2.out k hk; have h2 := GP6.out k hk'; have := hm_Questions; omega) (fun k hk hk' => by have h1 := LT4.out k hk; have h2 := GP6.out k hk'; omega)
theorem toS_Link (l : List GLink) (A : Option Addr) (c : Nat) (w : World) (h : C kY w A l) (hs : dF iC l ≤ 1048576) : Calls Tryz.prog 96 #[.slice A l.length c] w (lF gK 137 l w) := by
 have hn : l.length ≤ 1048576 := by unfold dF at hs; omega
 have hmk := iW (P := Tryz.prog) _ _ _ Tryz.underlying77 ki_Link_info l.length hn kD
 have H := Sd.mk h
 have HS := Sd.mk hs
 clear h hs
 go_enter Tryz.func96, Tryz.ntmps96
 go_wp2
 clear hmk
 have HR : Sd (R gK 137 (w.alloc (fQ (.agg #[.int .i64 0, .bool false, .slice none 0 0, .int .i64 0, .slice none 0 0, .int .i64 0, .slice none 0 0]) (l.length * 7) 137)) (New w) (.slice (some ⟨w.heap.size, 0, none⟩) l.length l.length) (List.replicate l.length zLink)) := Sd.mk (lG (d := gK) (e := 137) w (.agg #[.int .i64 0, .bool false, .slice none 0 0, .int .i64 0, .slice none 0 0, .int .i64 0, .slice none 0 0]) zLink rfl kD ki_Link_zero l.length hn)
 have HU := Sd.mk ((Upd.refl No w).alloc (fQ (.agg #[.int .i64 0, .bool false, .slice none 0 0, .int .i64 0, .slice none 0 0, .int .i64 0, .slice none 0 0]) (l.length * 7) 137))
 go_loopg [4] l.length (fun k v wr => ∃ i : Nat, i + k = l.length ∧ v = .int .i64 i ∧ Sd (R gK 137 wr (New w) (.slice (some ⟨w.heap.size, 0, none⟩) l.length l.length) (upTo l (List.replicate l.length zLink) i)) ∧ Sd (Upd No w wr))
 case atStart => exact ⟨0, by omega, rfl, ⟨by rw [iM]; exact HR.out⟩, HU⟩
 case round =>
  clear HR HU
  obtain ⟨i, hi, rfl, HR, HU⟩ := hrel
  by_cases hlt : i < l.length
  ·obtain ⟨ad, A2, c2, A4, c4, A6, c6, rfl, a0, a1, a2, a3, a4, a5, a6, hl2, hC2, hl4, hC4, hl6, hC6⟩ := kl_Link_at (aS HU.out H.out) i hlt
   have HC2 := Sd.mk hC2
   clear hC2
   have HC4 := Sd.mk hC4
   clear hC4
   have HC6 := Sd.mk hC6
   clear hC6
   have hsi : iC l[i] ≤ 1048576 := by have := HS.out; have := jQ iC l i hlt; unfold dF at *; omega
   go_wp2_with fail
   with_reducible refine (to_Link l[i] _ _ (kl_Link_Kmk _ _ hl2 HC2.out hl4 HC4.out hl6 HC6.out) hsi).mono ?_
   rintro e w1 ⟨cs, rfl, hM, hu⟩
   obtain ⟨v2, P2, v4, P4, v6, P6, rfl, hR2, hR4, hR6, i2, i4, i6, d2_4, d2_6, d4_6⟩ := ki_Link_M (gK.M_lt hM)
   obtain ⟨D2, d2, rfl⟩ := fI hR2
   obtain ⟨D4, d4, rfl⟩ := fI hR4
   obtain ⟨D6, d6, rfl⟩ := fI hR6
   have HRowA := gH hu (fun _ _ q => q) (R_lt HR.out)
   have HU1 := Sd.mk (HU.out.then hu)
   have hzw := HU.out.size
   have HR2 := Sd.mk hR2
   have I2 := Sd.mk i2
   have HR4 := Sd.mk hR4
   have I4 := Sd.mk i4
   have HR6 := Sd.mk hR6
   have I6 := Sd.mk i6
   have D2_4 := Sd.mk d2_4
   have D2_6 := Sd.mk d2_6
   have D4_6 := Sd.mk d4_6
   clear HR HU hM hu hR2 i2 hR4 i4 hR6 i6 d2_4 d2_6 d4_6
   obtain ⟨g, cap, cur, ce, Fi, hv, hcap, hat, hM, hg, hFi, hFg, close⟩ := lD HRowA 7 l.length rfl (by rw [iU (by simp) (by simp; omega)]; simp) i zLink (by rw [jP (by simp) (by simpa using hlt)]; simp)
   cases hv
   obtain ⟨y2, _, y4, _, y6, _, rfl, -⟩ := ki_Link_M hM
   have HAT := Sd.mk hat
   have x0 := hat.cell0 _ rfl
   have x1 := hat.cell 1 _ rfl
   have x2 := hat.cell 2 _ rfl
   have x3 := hat.cell 3 _ rfl
   have x4 := hat.cell 4 _ rfl
   have x5 := hat.cell 5 _ rfl
   have x6 := hat.cell 6 _ rfl
   have f0 := hat.free (i * 7)
   have f1 := hat.free (i * 7 + 1)
   have f2 := hat.free (i * 7 + 2)
   have f3 := hat.free (i * 7 + 3)
   have f4 := hat.free (i * 7 + 4)
   have f5 := hat.free (i * 7 + 5)
   have f6 := hat.free (i * 7 + 6)
   have CL := Sd.mk close
   clear hat close hM HRowA
   go_wp2
   have HA := ((((((HAT.out.set0 kD (.int .i64 l[i].dZ)).set 1 kD (.bool l[i].Up)).set 2 kD (.slice D2 l[i].aW.length d2)).set 3 kD (.int .i64 l[i].Next)).set 4 kD (.slice D4 l[i].bF.length d4)).set 5 kD (.int .i64 l[i].iO)).set 6 kD (.slice D6 l[i].cB.length d6)
   have hD2 : ∀ b, P2 b → ¬ (b = w.heap.size ∨ Fi b) := by
    intro b hb q
    have h1 := (I2.out b hb).1
    simp only [New] at h1
    rcases q with rfl | q
    ·exact absurd hg.2 kO
    ·have h2 := (hFi b q).2
     omega
   have hD4 : ∀ b, P4 b → ¬ (b = w.heap.size ∨ Fi b) := by
    intro b hb q
    have h1 := (I4.out b hb).1
    simp only [New] at h1
    rcases q with rfl | q
    ·exact absurd hg.2 kO
    ·have h2 := (hFi b q).2
     omega
   have hD6 : ∀ b, P6 b → ¬ (b = w.heap.size ∨ Fi b) := by
    intro b hb q
    have h1 := (I6.out b hb).1
    simp only [New] at h1
    rcases q with rfl | q
    ·exact absurd hg.2 kO
    ·have h2 := (hFi b q).2
     omega
   have HM := ki_Link_mk _ (fun b => P2 b ∨ P4 b ∨ P6 b) l[i] (gH HA.upd hD2 HR2.out) (gH HA.upd hD4 HR4.out) (gH HA.upd hD6 HR6.out) (fun k hk => Or.inl hk) (fun k hk => Or.inr (Or.inl hk)) (fun k hk => Or.inr (Or.inr (hk))) D2_4.out D2_6.out D4_6.out
   have hP1 : ∀ b, (P2 b ∨ P4 b ∨ P6 b) → New wr b := by
    intro b hb
    rcases hb with hb | hb | hb
    ·exact (I2.out b hb).1
    ·exact (I4.out b hb).1
    ·exact (I6.out b hb).1
   have HRowB := CL.out _ _ l[i] _ (New w) HA HM (fun b hb => .inr (fun q => by have h1 := hP1 b hb; have h2 := q.2; simp only [New] at h1; omega)) (fun _ q => q.1) (fun b hb => by have h1 := hP1 b hb; simp only [New] at h1 ⊢; omega)
   rw [iV (by simp) (by simpa using hlt)] at HRowB
   go_roundg (gk - 1)
   case measure => omega
   case rel => exact ⟨i + 1, by omega, by go_num, ⟨HRowB⟩, ⟨by repeat (with_reducible first | exact HU1.out | apply Upd.bI)⟩⟩
  ·go_wp2
   go_ret
   have HRowB := HR.out
   rw [iT (by simp) (by simp; omega)] at HRowB
   exact ⟨_, rfl, HRowB, HU.out⟩
theorem sz_Link (x : GLink) (cs : List Value) (n : Int) (w : World) (h : kY.K w x cs) (h0 : 0 ≤ n) (h1 : n ≤ 1048576) : Calls Tryz.prog 125 #[.agg cs.toArray, .int .i64 n] w (jS (iC x) n w) := by
 obtain ⟨A2, c2, A4, c4, A6, c6, rfl, hl2, hC2, hl4, hC4, hl6, hC6⟩ := kl_Link_K h
 have HC2 := Sd.mk hC2
 have HC4 := Sd.mk hC4
 have HC6 := Sd.mk hC6
 clear hC2 hC4 hC6
 go_enter Tryz.func125, Tryz.ntmps125
 go_wp2_with fail
 with_reducible refine (szS_Export x.aW _ _ _ _ ?hc_Exports kO kO).mono ?_
 case hc_Exports => exact aS kA HC2.out
 rintro e w_Exports ⟨r_Exports, rfl, hr_Exports, hu⟩
 have HB_Exports : Sd (Upd No w w_Exports) := Sd.mk (Upd.then kA hu)
 have cc0_Exports := fun o => hu.bB (b := w.heap.size) kB (fun q => q) o
 have hz_Exports : w.heap.size + 1 ≤ w_Exports.heap.size := by have := hu.size; (try simp at this); omega
 clear hu
 rcases hr_Exports with ⟨q_Exports, rfl⟩ | ⟨q_Exports, rfl⟩
 case inr =>
  go_wp2
  go_ret
  exact ⟨_, rfl, .inr ⟨by unfold iC; omega, rfl⟩, (by repeat (with_reducible first | exact HB_Exports.out | apply Upd.bM | apply Upd.bL | apply Upd.bI | apply Upd.alloc | apply Upd.drewN | apply Upd.drew))⟩
 go_wp2_with fail
 with_reducible refine (szS_Question x.bF _ _ _ _ ?hc_Questions kO kO).mono ?_
 case hc_Questions => exact aS (by repeat (with_reducible first | exact HB_Exports.out | apply Upd.bM | apply Upd.bL | apply Upd.bI | apply Upd.alloc | apply Upd.drewN | apply Upd.drew)) HC4.out
 rintro e w_Questions ⟨r_Questions, rfl, hr_Questions, hu⟩
 have HB_Questions : Sd (Upd No w w_Questions) := Sd.mk (Upd.then (by repeat (with_reducible first | exact HB_Exports.out | apply Upd.bM | apply Upd.bL | apply Upd.bI | apply Upd.alloc | apply Upd.drewN | apply Upd.drew)) hu)
 have cc0_Questions := fun o => hu.bB (b := w.heap.size) kB (fun q => q) o
 have hz_Questions : w.heap.size + 1 ≤ w_Questions.heap.size := by have := hu.size; (try simp at this); omega
 clear hu
 rcases hr_Questions with ⟨q_Questions, rfl⟩ | ⟨q_Questions, rfl⟩
 case inr =>
  go_wp2
  go_ret
  exact ⟨_, rfl, .inr ⟨by unfold iC; omega, rfl⟩, (by repeat (with_reducible first | exact HB_Questions.out | apply Upd.bM | apply Upd.bL | apply Upd.bI | apply Upd.alloc | apply Upd.drewN | apply Upd.drew))⟩
 go_wp2_with fail
 with_reducible refine (szS_Question x.cB _ _ _ _ ?hc_Answers kO kO).mono ?_
 case hc_Answers => exact aS (by repeat (with_reducible first | exact HB_Questions.out | apply Upd.bM | apply Upd.bL | apply Upd.bI | apply Upd.alloc | apply Upd.drewN | apply Upd.drew)) HC6.out
 rintro e w_Answers ⟨r_Answers, rfl, hr_Answers, hu⟩
 have HB_Answers : Sd (Upd No w w_Answers) := Sd.mk (Upd.then (by repeat (with_reducible first | exact HB_Questions.out | apply Upd.bM | apply Upd.bL | apply Upd.bI | apply Upd.alloc | apply Upd.drewN | apply Upd.drew)) hu)
 have cc0_Answers := fun o => hu.bB (b := w.heap.size) kB (fun q => q) o
 have hz_Answers : w.heap.size + 1 ≤ w_Answers.heap.size := by have := hu.size; (try simp at this); omega
 clear hu
 rcases hr_Answers with ⟨q_Answers, rfl⟩ | ⟨q_Answers, rfl⟩
 case inr =>
  go_wp2
  go_ret
  exact ⟨_, rfl, .inr ⟨by unfold iC; omega, rfl⟩, (by repeat (with_reducible first | exact HB_Answers.out | apply Upd.bM | apply Upd.bL | apply Upd.bI | apply Upd.alloc | apply Upd.drewN | apply Upd.drew))⟩
 go_wp2
 go_ret
 exact ⟨_, rfl, .inl ⟨by unfold iC; omega, by unfold iC; omega⟩, (by repeat (with_reducible first | exact HB_Answers.out | apply Upd.bM | apply Upd.bL | apply Upd.bI | apply Upd.alloc | apply Upd.drewN | apply Upd.drew))⟩
theorem szS_Link (l : List GLink) (A : Option Addr) (c : Nat) (n : Int) (w : World) (h : C kY w A l) (h0 : 0 ≤ n) (h1 : n ≤ 1048576) : Calls Tryz.prog 90 #[.slice A l.length c, .int .i64 n] w (jS (dF iC l) n w) := by
 have hn := h.1
 have H := Sd.mk h
 clear h
 go_enter Tryz.func90, Tryz.ntmps90
 by_cases q0 : (l.length : Int) ≤ n
 case neg =>
  go_wp2
  go_ret
  exact ⟨_, rfl, .inr ⟨by unfold dF; omega, rfl⟩, Upd.refl _ _⟩
 go_wp2
 go_loopg [1, 5] l.length (fun k u v wr => ∃ i : Nat, i + k = l.length ∧ (gP iC (l.take i) : Int) ≤ n - l.length ∧ u = .int .i64 (n - l.length - gP iC (l.take i)) ∧ v = .int .i64 i ∧ Sd (Upd No w wr))
 case atStart => exact ⟨0, by omega, by simp [gP]; omega, by simp [gP], rfl, ⟨Upd.refl _ _⟩⟩
 case round =>
  obtain ⟨i, hi, hle, rfl, rfl, HU⟩ := hrel
  by_cases hlt : i < l.length
  ·obtain ⟨ad, A2, c2, A4, c4, A6, c6, rfl, a0, a1, a2, a3, a4, a5, a6, hl2, hC2, hl4, hC4, hl6, hC6⟩ := kl_Link_at (aS HU.out H.out) i hlt
   have HC2 := Sd.mk hC2
   clear hC2
   have HC4 := Sd.mk hC4
   clear hC4
   have HC6 := Sd.mk hC6
   clear hC6
   have hst := kI iC l i hlt
   have HST := Sd.mk (jB iC l i hlt)
   generalize hs : gP iC (l.take i) = s at *
   have HS := Sd.mk hs
   clear hs
   go_wp2_with fail
   with_reducible refine (sz_Link l[i] _ _ _ (kl_Link_Kmk _ _ hl2 HC2.out hl4 HC4.out hl6 HC6.out) kO kO).mono ?_
   rintro e w1 ⟨r, rfl, hr, hu⟩
   have HU1 := Sd.mk (HU.out.then hu)
   clear hu HU
   rcases hr with ⟨q, rfl⟩ | ⟨q, rfl⟩
   ·go_wp2
    go_roundg (gk - 1)
    case measure => omega
    case rel => exact ⟨i + 1, by omega, by rw [HST.out]; omega, by rw [HST.out]; exact congrArg (Value.int .i64) kO, by go_num, HU1⟩
   ·go_wp2
    go_ret
    exact ⟨_, rfl, .inr ⟨by unfold dF; omega, rfl⟩, HU1.out⟩
  ·go_wp2
   go_ret
   have e : l.take i = l := List.take_of_length_le kO
   rw [e] at hle
   exact ⟨_, rfl, .inl ⟨by unfold dF; omega, by rw [e]; unfold dF; omega⟩, HU.out⟩
theorem eq_Link (x : GLink) (cs cs' : List Value) (w : World) (h : gK.K w x cs) (h' : gK.K w x cs') : Calls Tryz.prog 137 #[.agg cs.toArray, .agg cs'.toArray] w (bW true w) := by
 obtain ⟨A2, c2, A4, c4, A6, c6, rfl, hl2, hC2, hl4, hC4, hl6, hC6⟩ := mV h
 have HC2 := Sd.mk hC2
 have HC4 := Sd.mk hC4
 have HC6 := Sd.mk hC6
 clear hC2 hC4 hC6
 obtain ⟨B2, b2, B4, b4, B6, b6, rfl, hm2, hD2, hm4, hD4, hm6, hD6⟩ := mV h'
 have HD2 := Sd.mk hD2
 have HD4 := Sd.mk hD4
 have HD6 := Sd.mk hD6
 clear hD2 hD4 hD6
 go_enter Tryz.func137, Tryz.ntmps137
 go_wp2_with fail
 with_reducible refine (eqS_Export x.aW _ _ _ _ _ ?hc_Exports ?hd_Exports).mono ?_
 case hc_Exports => exact aS kA HC2.out
 case hd_Exports => exact aS kA HD2.out
 rintro e w_Exports ⟨rfl, hu⟩
 have HB_Exports : Sd (Upd No w w_Exports) := Sd.mk (Upd.then kA hu)
 have cc0_Exports := fun o => hu.bB (b := w.heap.size) kB (fun q => q) o
 have cc1_Exports := fun o => hu.bB (b := w.heap.size + 1) kB (fun q => q) o
 have hz_Exports : w.heap.size + 1 + 1 ≤ w_Exports.heap.size := by have := hu.size; (try simp at this); omega
 clear hu
 go_wp2_with fail
 with_reducible refine (eqS_Question x.bF _ _ _ _ _ ?hc_Questions ?hd_Questions).mono ?_
 case hc_Questions => exact aS (by repeat (with_reducible first | exact HB_Exports.out | apply Upd.bM | apply Upd.bL | apply Upd.bI | apply Upd.alloc | apply Upd.drewN | apply Upd.drew)) HC4.out
 case hd_Questions => exact aS (by repeat (with_reducible first | exact HB_Exports.out | apply Upd.bM | apply Upd.bL | apply Upd.bI | apply Upd.alloc | apply Upd.drewN | apply Upd.drew)) HD4.out
 rintro e w_Questions ⟨rfl, hu⟩
 have HB_Questions : Sd (Upd No w w_Questions) := Sd.mk (Upd.then (by repeat (with_reducible first | exact HB_Exports.out | apply Upd.bM | apply Upd.bL | apply Upd.bI | apply Upd.alloc | apply Upd.drewN | apply Upd.drew)) hu)
 have cc0_Questions := fun o => hu.bB (b := w.heap.size) kB (fun q => q) o
 have cc1_Questions := fun o => hu.bB (b := w.heap.size + 1) kB (fun q => q) o
 have hz_Questions : w.heap.size + 1 + 1 ≤ w_Questions.heap.size := by have := hu.size; (try simp at this); omega
 clear hu
 go_wp2_with fail
 with_reducible refine (eqS_Question x.cB _ _ _ _ _ ?hc_Answers ?hd_Answers).mono ?_
 case hc_Answers => exact aS (by repeat (with_reducible first | exact HB_Questions.out | apply Upd.bM | apply Upd.bL | apply Upd.bI | apply Upd.alloc | apply Upd.drewN | apply Upd.drew)) HC6.out
 case hd_Answers => exact aS (by repeat (with_reducible first | exact HB_Questions.out | apply Upd.bM | apply Upd.bL | apply Upd.bI | apply Upd.alloc | apply Upd.drewN | apply Upd.drew)) HD6.out
 rintro e w_Answers ⟨rfl, hu⟩
 have HB_Answers : Sd (Upd No w w_Answers) := Sd.mk (Upd.then (by repeat (with_reducible first | exact HB_Questions.out | apply Upd.bM | apply Upd.bL | apply Upd.bI | apply Upd.alloc | apply Upd.drewN | apply Upd.drew)) hu)
 have cc0_Answers := fun o => hu.bB (b := w.heap.size) kB (fun q => q) o
 have cc1_Answers := fun o => hu.bB (b := w.heap.size + 1) kB (fun q => q) o
 have hz_Answers : w.heap.size + 1 + 1 ≤ w_Answers.heap.size := by have := hu.size; (try simp at this); omega
 clear hu
 go_wp2
 go_ret
 exact ⟨rfl, (by repeat (with_reducible first | exact HB_Answers.out | apply Upd.bM | apply Upd.bL | apply Upd.bI | apply Upd.alloc | apply Upd.drewN | apply Upd.drew))⟩
theorem eqS_Link (l : List GLink) (A A' : Option Addr) (c c' : Nat) (w : World) (h : C gK w A l) (h' : C gK w A' l) : Calls Tryz.prog 104 #[.slice A l.length c, .slice A' l.length c'] w (bW true w) := by
 have hn := h.1
 have H := Sd.mk h
 have H' := Sd.mk h'
 clear h h'
 go_enter Tryz.func104, Tryz.ntmps104
 go_wp2
 go_loopg [5] l.length (fun k v wr => ∃ i : Nat, i + k = l.length ∧ v = .int .i64 i ∧ Sd (Upd No w wr))
 case atStart => exact ⟨0, by omega, rfl, ⟨Upd.refl _ _⟩⟩
 case round =>
  obtain ⟨i, hi, rfl, HU⟩ := hrel
  by_cases hlt : i < l.length
  ·obtain ⟨ad, A2, c2, A4, c4, A6, c6, rfl, a0, a1, a2, a3, a4, a5, a6, hl2, hC2, hl4, hC4, hl6, hC6⟩ := ki_Link_at (aS HU.out H.out) i hlt
   obtain ⟨ad', B2, b2, B4, b4, B6, b6, rfl, z0, z1, z2, z3, z4, z5, z6, hm2, hD2, hm4, hD4, hm6, hD6⟩ := ki_Link_at (aS HU.out H'.out) i hlt
   have HC2 := Sd.mk hC2
   have HD2 := Sd.mk hD2
   clear hC2 hD2
   have HC4 := Sd.mk hC4
   have HD4 := Sd.mk hD4
   clear hC4 hD4
   have HC6 := Sd.mk hC6
   have HD6 := Sd.mk hD6
   clear hC6 hD6
   go_wp2_with fail
   go_still_tail 8, kR
   change wpList _ _ _ _ _ wr.drew
   have HW : Sd (Upd No wr wr.drew) := ⟨(Upd.refl _ _).drew⟩
   have HU2 : Sd (Upd No w wr.drew) := ⟨HU.out.drew⟩
   generalize wr.drew = w2 at *
   go_wp2_with (go_at_call 137; (with_reducible refine (eq_Link l[i] _ _ _ (ki_Link_Kmk _ _ hl2 (aS HW.out HC2.out) hl4 (aS HW.out HC4.out) hl6 (aS HW.out HC6.out)) (ki_Link_Kmk _ _ hm2 (aS HW.out HD2.out) hm4 (aS HW.out HD4.out) hm6 (aS HW.out HD6.out))).mono ?_); rintro e w' ⟨rfl, hu⟩)
   have HU3 := Sd.mk (HU2.out.then hu)
   clear HU2 hu
   go_wp2
   go_roundg (gk - 1)
   case measure => omega
   case rel => exact ⟨i + 1, by omega, by go_num, HU3⟩
  ·go_wp2
   go_ret
   exact ⟨rfl, HU.out⟩
theorem kl_Wire_Kmk (w : World) (x : GWire) : jL.K w x [.int .i64 x.Kind, .int .i64 x.N] := ⟨[_], [_], rfl, rfl, rfl⟩
theorem nQ (w : World) (x : GWire) : fT.K w x [.int .i64 x.Kind, .int .i64 x.N] := ⟨[_], [_], rfl, rfl, rfl⟩
theorem to_Wire (x : GWire) (cs : List Value) (w : World) (h : jL.K w x cs) (hs : lK x ≤ 1048576) : Calls Tryz.prog 153 #[.agg cs.toArray] w (kK fT x w) := by
 obtain rfl := kl_Wire_K h
 clear hs
 go_enter Tryz.func153, Tryz.ntmps153
 go_wp2
 refine bodyPost_ret (v := .agg #[.int .i64 x.Kind, .int .i64 x.N]) (by simp [results, Tryz.results153, go_sem]) rfl ⟨_, rfl, ?_, kA⟩
 exact ki_Wire_mk _ _ _
theorem toS_Wire (l : List GWire) (A : Option Addr) (c : Nat) (w : World) (h : C jL w A l) (hs : dF lK l ≤ 1048576) : Calls Tryz.prog 152 #[.slice A l.length c] w (lF fT 139 l w) := by
 have hn : l.length ≤ 1048576 := by unfold dF at hs; omega
 have hmk := iW (P := Tryz.prog) _ _ _ Tryz.underlying138 ki_Wire_info l.length hn kD
 have H := Sd.mk h
 have HS := Sd.mk hs
 clear h hs
 go_enter Tryz.func152, Tryz.ntmps152
 go_wp2
 clear hmk
 have HR : Sd (R fT 139 (w.alloc (fQ (.agg #[.int .i64 0, .int .i64 0]) (l.length * 2) 139)) (New w) (.slice (some ⟨w.heap.size, 0, none⟩) l.length l.length) (List.replicate l.length zWire)) := Sd.mk (lG (d := fT) (e := 139) w (.agg #[.int .i64 0, .int .i64 0]) zWire rfl kD ki_Wire_zero l.length hn)
 have HU := Sd.mk ((Upd.refl No w).alloc (fQ (.agg #[.int .i64 0, .int .i64 0]) (l.length * 2) 139))
 go_loopg [4] l.length (fun k v wr => ∃ i : Nat, i + k = l.length ∧ v = .int .i64 i ∧ Sd (R fT 139 wr (New w) (.slice (some ⟨w.heap.size, 0, none⟩) l.length l.length) (upTo l (List.replicate l.length zWire) i)) ∧ Sd (Upd No w wr))
 case atStart => exact ⟨0, by omega, rfl, ⟨by rw [iM]; exact HR.out⟩, HU⟩
 case round =>
  clear HR HU
  obtain ⟨i, hi, rfl, HR, HU⟩ := hrel
  by_cases hlt : i < l.length
  ·obtain ⟨ad, rfl, a0, a1⟩ := kl_Wire_at (aS HU.out H.out) i hlt
   have hsi : lK l[i] ≤ 1048576 := by have := HS.out; have := jQ lK l i hlt; unfold dF at *; omega
   go_wp2_with fail
   with_reducible refine (to_Wire l[i] _ _ (kl_Wire_Kmk _ _) hsi).mono ?_
   rintro e w1 ⟨cs, rfl, hM, hu⟩
   obtain rfl := ki_Wire_M hM
   have HRowA := gH hu (fun _ _ q => q) (R_lt HR.out)
   have HU1 := Sd.mk (HU.out.then hu)
   have hzw := HU.out.size
   clear HR HU hM hu
   obtain ⟨g, cap, cur, ce, Fi, hv, hcap, hat, hM, hg, hFi, hFg, close⟩ := lD HRowA 2 l.length rfl (by rw [iU (by simp) (by simp; omega)]; simp) i zWire (by rw [jP (by simp) (by simpa using hlt)]; simp)
   cases hv
   obtain rfl := ki_Wire_M hM
   have HAT := Sd.mk hat
   have x0 := hat.cell0 _ rfl
   have x1 := hat.cell 1 _ rfl
   have f0 := hat.free (i * 2)
   have f1 := hat.free (i * 2 + 1)
   have CL := Sd.mk close
   clear hat close hM HRowA
   go_wp2
   have HA := (HAT.out.set0 kD (.int .i64 l[i].Kind)).set 1 kD (.int .i64 l[i].N)
   have HRowB := CL.out _ _ l[i] No (New w) HA (ki_Wire_mk _ _ _) (fun _ q => q.elim) (fun _ q => q.1) (fun _ q => q.elim)
   rw [iV (by simp) (by simpa using hlt)] at HRowB
   go_roundg (gk - 1)
   case measure => omega
   case rel => exact ⟨i + 1, by omega, by go_num, ⟨HRowB⟩, ⟨by repeat (with_reducible first | exact HU1.out | apply Upd.bI)⟩⟩
  ·go_wp2
   go_ret
   have HRowB := HR.out
   rw [iT (by simp) (by simp; omega)] at HRowB
   exact ⟨_, rfl, HRowB, HU.out⟩
theorem szS_Wire (l : List GWire) (A : Option Addr) (c : Nat) (n : Int) (w : World) (h : C jL w A l) (h0 : 0 ≤ n) (h1 : n ≤ 1048576) : Calls Tryz.prog 145 #[.slice A l.length c, .int .i64 n] w (jS (dF lK l) n w) := by
 have hn := h.1
 have H := Sd.mk h
 clear h
 go_enter Tryz.func145, Tryz.ntmps145
 by_cases q0 : (l.length : Int) ≤ n
 case neg =>
  go_wp2
  go_ret
  exact ⟨_, rfl, .inr ⟨by unfold dF; omega, rfl⟩, Upd.refl _ _⟩
 have hz : gP lK l = 0 := by
  clear q0 hn H
  induction l with
  | nil => rfl
  | cons x l ih => simp [gP, lK, ih]
 have HZ := Sd.mk hz
 clear hz
 go_wp2
 go_ret
 have hz := HZ.out
 exact ⟨_, rfl, .inl ⟨by unfold dF; omega, by unfold dF; omega⟩, Upd.refl _ _⟩
theorem eq_Wire (x : GWire) (cs cs' : List Value) (w : World) (h : fT.K w x cs) (h' : fT.K w x cs') : Calls Tryz.prog 161 #[.agg cs.toArray, .agg cs'.toArray] w (bW true w) := by
 obtain rfl := kZ h
 obtain rfl := kZ h'
 go_enter Tryz.func161, Tryz.ntmps161
 go_wp2
 go_ret
 exact ⟨rfl, kA⟩
theorem eqS_Wire (l : List GWire) (A A' : Option Addr) (c c' : Nat) (w : World) (h : C fT w A l) (h' : C fT w A' l) : Calls Tryz.prog 160 #[.slice A l.length c, .slice A' l.length c'] w (bW true w) := by
 have hn := h.1
 have H := Sd.mk h
 have H' := Sd.mk h'
 clear h h'
 go_enter Tryz.func160, Tryz.ntmps160
 go_wp2
 go_loopg [5] l.length (fun k v wr => ∃ i : Nat, i + k = l.length ∧ v = .int .i64 i ∧ Sd (Upd No w wr))
 case atStart => exact ⟨0, by omega, rfl, ⟨Upd.refl _ _⟩⟩
 case round =>
  obtain ⟨i, hi, rfl, HU⟩ := hrel
  by_cases hlt : i < l.length
  ·obtain ⟨ad, rfl, a0, a1⟩ := ki_Wire_at (aS HU.out H.out) i hlt
   obtain ⟨ad', rfl, z0, z1⟩ := ki_Wire_at (aS HU.out H'.out) i hlt
   go_wp2_with fail
   go_still_tail 8, kR
   change wpList _ _ _ _ _ wr.drew
   have HW : Sd (Upd No wr wr.drew) := ⟨(Upd.refl _ _).drew⟩
   have HU2 : Sd (Upd No w wr.drew) := ⟨HU.out.drew⟩
   generalize wr.drew = w2 at *
   go_wp2_with (go_at_call 161; (with_reducible refine (eq_Wire l[i] _ _ _ (nQ _ _) (nQ _ _)).mono ?_); rintro e w' ⟨rfl, hu⟩)
   have HU3 := Sd.mk (HU2.out.then hu)
   clear HU2 hu
   go_wp2
   go_roundg (gk - 1)
   case measure => omega
   case rel => exact ⟨i + 1, by omega, by go_num, HU3⟩
  ·go_wp2
   go_ret
   exact ⟨rfl, HU.out⟩
theorem kV (w : World) (x : GMessage) {A5 : Option Addr} {c5 : Nat} (hl5 : x.bD.length ≤ c5) (hC5 : C jL w A5 x.bD) : iE.K w x [.int .i64 x.Kind, .int .i64 x.Pos, .int .i64 x.dH, .int .i64 x.Question, .string x.Name, .slice A5 x.bD.length c5, .int .i64 x.Value.Kind, .int .i64 x.Value.N, .int .i64 x.Count, .int .i64 x.Tag.Vat, .int .i64 x.Tag.Entity, .int .i64 x.Tag.Seq] := ⟨[_], [_, _, _, _, _, _, _, _, _, _, _], rfl, rfl, ⟨[_], [_, _, _, _, _, _, _, _, _, _], rfl, rfl, ⟨[_], [_, _, _, _, _, _, _, _, _], rfl, rfl, ⟨[_], [_, _, _, _, _, _, _, _], rfl, rfl, ⟨[_], [_, _, _, _, _, _, _], rfl, rfl, ⟨[_], [_, _, _, _, _, _], rfl, ⟨A5, c5, rfl, hl5, hC5⟩, ⟨[_, _], [_, _, _, _], rfl, (kl_Wire_Kmk w _), ⟨[_], [_, _, _], rfl, rfl, (mX w _)⟩⟩⟩⟩⟩⟩⟩⟩
theorem gJ (w : World) (x : GMessage) {A5 : Option Addr} {c5 : Nat} (hl5 : x.bD.length ≤ c5) (hC5 : C fT w A5 x.bD) : dM.K w x [.int .i64 x.Kind, .int .i64 x.Pos, .int .i64 x.dH, .int .i64 x.Question, .string x.Name, .slice A5 x.bD.length c5, .int .i64 x.Value.Kind, .int .i64 x.Value.N, .int .i64 x.Count, .int .i64 x.Tag.Vat, .int .i64 x.Tag.Entity, .int .i64 x.Tag.Seq] := ⟨[_], [_, _, _, _, _, _, _, _, _, _, _], rfl, rfl, ⟨[_], [_, _, _, _, _, _, _, _, _, _], rfl, rfl, ⟨[_], [_, _, _, _, _, _, _, _, _], rfl, rfl, ⟨[_], [_, _, _, _, _, _, _, _], rfl, rfl, ⟨[_], [_, _, _, _, _, _, _], rfl, rfl, ⟨[_], [_, _, _, _, _, _], rfl, ⟨A5, c5, rfl, hl5, hC5⟩, ⟨[_, _], [_, _, _, _], rfl, (nQ w _), ⟨[_], [_, _, _], rfl, rfl, (kF w _)⟩⟩⟩⟩⟩⟩⟩⟩
theorem to_Message (x : GMessage) (cs : List Value) (w : World) (h : iE.K w x cs) (hs : fG x ≤ 1048576) : Calls Tryz.prog 133 #[.agg cs.toArray] w (kK dM x w) := by
 obtain ⟨A5, c5, rfl, hl5, hC5⟩ := nW h
 have HC5 := Sd.mk hC5
 clear hC5
 have s_Args : dF lK x.bD ≤ 1048576 := by unfold fG at hs; omega
 clear hs
 go_enter Tryz.func133, Tryz.ntmps133
 go_wp2_with fail
 with_reducible refine (toS_Wire x.bD _ _ _ ?hc_Args s_Args).mono ?_
 case hc_Args => exact aS kA HC5.out
 rintro e w_Args ⟨v5, rfl, hR5, hu⟩
 obtain ⟨B5, b5, rfl⟩ := fI hR5
 obtain ⟨P5, hR5', g5, l5⟩ := gV hR5 (w.heap.size + 1 + 1 + 1) kB
 have ge5 : ∀ b, P5 b → w.heap.size + 1 + 1 < b := fun b hb => by have := g5 b hb; omega
 have n1_5 : ¬ P5 (w.heap.size + 1) := fun q => by have := ge5 _ q; omega
 have n2_5 : ¬ P5 (w.heap.size + 1 + 1) := fun q => by have := ge5 _ q; omega
 have HR5 := Sd.mk hR5'
 have GE5 := Sd.mk ge5
 have LT5 := Sd.mk l5
 have GP5 := Sd.mk g5
 clear hR5 hR5' ge5 l5 g5
 have HB_Args : Sd (Upd No w w_Args) := Sd.mk (Upd.then kA hu)
 have cc0_Args := fun o => hu.bB (b := w.heap.size) kB (fun q => q) o
 have cc1_Args := fun o => hu.bB (b := w.heap.size + 1) kB (fun q => q) o
 have cf1_Args := fun o => hu.dR (b := w.heap.size + 1) kB (fun q => q) o
 have cc2_Args := fun o => hu.bB (b := w.heap.size + 1 + 1) kB (fun q => q) o
 have cf2_Args := fun o => hu.dR (b := w.heap.size + 1 + 1) kB (fun q => q) o
 have hz_Args : w.heap.size + 1 + 1 + 1 ≤ w_Args.heap.size := by have := hu.size; (try simp at this); omega
 clear hu
 go_wp2_with fail
 with_reducible refine (to_Wire x.Value _ _ (kl_Wire_Kmk _ _) (by simp [lK])).mono ?_
 rintro e w_Value ⟨cs_Value, rfl, hM, hu⟩
 obtain rfl := ki_Wire_M hM
 clear hM
 have HR5 := Sd.mk (gH hu (fun _ _ q => q) (gB HR5.out (by repeat (with_reducible first | exact Upd.refl _ _ | apply Upd.gG n1_5 | apply Upd.gG n2_5 | apply Upd.alloc))))
 have HB_Value : Sd (Upd No w w_Value) := Sd.mk (Upd.then (by repeat (with_reducible first | exact HB_Args.out | apply Upd.bM | apply Upd.bL | apply Upd.bI | apply Upd.alloc | apply Upd.drewN | apply Upd.drew)) hu)
 have cc0_Value := fun o => hu.bB (b := w.heap.size) kB (fun q => q) o
 have cc1_Value := fun o => hu.bB (b := w.heap.size + 1) kB (fun q => q) o
 have cf1_Value := fun o => hu.dR (b := w.heap.size + 1) kB (fun q => q) o
 have cc2_Value := fun o => hu.bB (b := w.heap.size + 1 + 1) kB (fun q => q) o
 have cf2_Value := fun o => hu.dR (b := w.heap.size + 1 + 1) kB (fun q => q) o
 have hz_Value : w.heap.size + 1 + 1 + 1 ≤ w_Value.heap.size := by have := hu.size; (try simp at this); omega
 have hm_Value : w_Args.heap.size ≤ w_Value.heap.size := by have := hu.size; (try simp at this); omega
 clear hu
 go_wp2_with fail
 with_reducible refine (to_Tag x.Tag _ _ (mX _ _) (by simp [szn_Tag])).mono ?_
 rintro e w_Tag ⟨cs_Tag, rfl, hM, hu⟩
 obtain rfl := ki_Tag_M hM
 clear hM
 have HR5 := Sd.mk (gH hu (fun _ _ q => q) (gB HR5.out (by repeat (with_reducible first | exact Upd.refl _ _ | apply Upd.gG n1_5 | apply Upd.gG n2_5 | apply Upd.alloc))))
 have HB_Tag : Sd (Upd No w w_Tag) := Sd.mk (Upd.then (by repeat (with_reducible first | exact HB_Value.out | apply Upd.bM | apply Upd.bL | apply Upd.bI | apply Upd.alloc | apply Upd.drewN | apply Upd.drew)) hu)
 have cc0_Tag := fun o => hu.bB (b := w.heap.size) kB (fun q => q) o
 have cc1_Tag := fun o => hu.bB (b := w.heap.size + 1) kB (fun q => q) o
 have cf1_Tag := fun o => hu.dR (b := w.heap.size + 1) kB (fun q => q) o
 have cc2_Tag := fun o => hu.bB (b := w.heap.size + 1 + 1) kB (fun q => q) o
 have cf2_Tag := fun o => hu.dR (b := w.heap.size + 1 + 1) kB (fun q => q) o
 have hz_Tag : w.heap.size + 1 + 1 + 1 ≤ w_Tag.heap.size := by have := hu.size; (try simp at this); omega
 have hm_Tag : w_Value.heap.size ≤ w_Tag.heap.size := by have := hu.size; (try simp at this); omega
 clear hu
 go_wp2
 refine bodyPost_ret (v := .agg #[.int .i64 x.Kind, .int .i64 x.Pos, .int .i64 x.dH, .int .i64 x.Question, .string x.Name, .slice B5 x.bD.length b5, .int .i64 x.Value.Kind, .int .i64 x.Value.N, .int .i64 x.Count, .int .i64 x.Tag.Vat, .int .i64 x.Tag.Entity, .int .i64 x.Tag.Seq]) (by simp [results, Tryz.results133, go_sem, cc1_Args, cc1_Value, cc1_Tag]) rfl ⟨_, rfl, ?_, (by repeat (with_reducible first | exact HB_Tag.out | apply Upd.bM | apply Upd.bL | apply Upd.bI | apply Upd.alloc | apply Upd.drewN | apply Upd.drew))⟩
 exact mY _ _ _ (gB HR5.out (by repeat (with_reducible first | exact Upd.refl _ _ | apply Upd.gG n1_5 | apply Upd.gG n2_5 | apply Upd.alloc))) (fun k hk => by have := GE5.out k hk; simp only [New]; omega)
theorem toS_Message (l : List GMessage) (A : Option Addr) (c : Nat) (w : World) (h : C iE w A l) (hs : dF fG l ≤ 1048576) : Calls Tryz.prog 98 #[.slice A l.length c] w (lF dM 141 l w) := by
 have hn : l.length ≤ 1048576 := by unfold dF at hs; omega
 have hmk := iW (P := Tryz.prog) _ _ _ Tryz.underlying100 ki_Message_info l.length hn kD
 have H := Sd.mk h
 have HS := Sd.mk hs
 clear h hs
 go_enter Tryz.func98, Tryz.ntmps98
 go_wp2
 clear hmk
 have HR : Sd (R dM 141 (w.alloc (fQ (.agg #[.int .i64 0, .int .i64 0, .int .i64 0, .int .i64 0, .string ⟨#[]⟩, .slice none 0 0, .int .i64 0, .int .i64 0, .int .i64 0, .int .i64 0, .int .i64 0, .int .i64 0]) (l.length * 12) 141)) (New w) (.slice (some ⟨w.heap.size, 0, none⟩) l.length l.length) (List.replicate l.length nN)) := Sd.mk (lG (d := dM) (e := 141) w (.agg #[.int .i64 0, .int .i64 0, .int .i64 0, .int .i64 0, .string ⟨#[]⟩, .slice none 0 0, .int .i64 0, .int .i64 0, .int .i64 0, .int .i64 0, .int .i64 0, .int .i64 0]) nN rfl kD ki_Message_zero l.length hn)
 have HU := Sd.mk ((Upd.refl No w).alloc (fQ (.agg #[.int .i64 0, .int .i64 0, .int .i64 0, .int .i64 0, .string ⟨#[]⟩, .slice none 0 0, .int .i64 0, .int .i64 0, .int .i64 0, .int .i64 0, .int .i64 0, .int .i64 0]) (l.length * 12) 141))
 go_loopg [4] l.length (fun k v wr => ∃ i : Nat, i + k = l.length ∧ v = .int .i64 i ∧ Sd (R dM 141 wr (New w) (.slice (some ⟨w.heap.size, 0, none⟩) l.length l.length) (upTo l (List.replicate l.length nN) i)) ∧ Sd (Upd No w wr))
 case atStart => exact ⟨0, by omega, rfl, ⟨by rw [iM]; exact HR.out⟩, HU⟩
 case round =>
  clear HR HU
  obtain ⟨i, hi, rfl, HR, HU⟩ := hrel
  by_cases hlt : i < l.length
  ·obtain ⟨ad, A5, c5, rfl, a0, a1, a2, a3, a4, a5, a6, a7, a8, a9, a10, a11, hl5, hC5⟩ := kl_Message_at (aS HU.out H.out) i hlt
   have HC5 := Sd.mk hC5
   clear hC5
   have hsi : fG l[i] ≤ 1048576 := by have := HS.out; have := jQ fG l i hlt; unfold dF at *; omega
   go_wp2_with fail
   with_reducible refine (to_Message l[i] _ _ (kV _ _ hl5 HC5.out) hsi).mono ?_
   rintro e w1 ⟨cs, rfl, hM, hu⟩
   obtain ⟨v5, P5, rfl, hR5, i5⟩ := nX (dM.M_lt hM)
   obtain ⟨D5, d5, rfl⟩ := fI hR5
   have HRowA := gH hu (fun _ _ q => q) (R_lt HR.out)
   have HU1 := Sd.mk (HU.out.then hu)
   have hzw := HU.out.size
   have HR5 := Sd.mk hR5
   have I5 := Sd.mk i5
   clear HR HU hM hu hR5 i5
   obtain ⟨g, cap, cur, ce, Fi, hv, hcap, hat, hM, hg, hFi, hFg, close⟩ := lD HRowA 12 l.length rfl (by rw [iU (by simp) (by simp; omega)]; simp) i nN (by rw [jP (by simp) (by simpa using hlt)]; simp)
   cases hv
   obtain ⟨y5, _, rfl, -⟩ := nX hM
   have HAT := Sd.mk hat
   have x0 := hat.cell0 _ rfl
   have x1 := hat.cell 1 _ rfl
   have x2 := hat.cell 2 _ rfl
   have x3 := hat.cell 3 _ rfl
   have x4 := hat.cell 4 _ rfl
   have x5 := hat.cell 5 _ rfl
   have x6 := hat.cell 6 _ rfl
   have x7 := hat.cell 7 _ rfl
   have x8 := hat.cell 8 _ rfl
   have x9 := hat.cell 9 _ rfl
   have x10 := hat.cell 10 _ rfl
   have x11 := hat.cell 11 _ rfl
   have f0 := hat.free (i * 12)
   have f1 := hat.free (i * 12 + 1)
   have f2 := hat.free (i * 12 + 2)
   have f3 := hat.free (i * 12 + 3)
   have f4 := hat.free (i * 12 + 4)
   have f5 := hat.free (i * 12 + 5)
   have f6 := hat.free (i * 12 + 6)
   have f7 := hat.free (i * 12 + 7)
   have f8 := hat.free (i * 12 + 8)
   have f9 := hat.free (i * 12 + 9)
   have f10 := hat.free (i * 12 + 10)
   have f11 := hat.free (i * 12 + 11)
   have CL := Sd.mk close
   clear hat close hM HRowA
   go_wp2
   have HA := (((((((((((HAT.out.set0 kD (.int .i64 l[i].Kind)).set 1 kD (.int .i64 l[i].Pos)).set 2 kD (.int .i64 l[i].dH)).set 3 kD (.int .i64 l[i].Question)).set 4 kD (.string l[i].Name)).set 5 kD (.slice D5 l[i].bD.length d5)).set 6 kD (.int .i64 l[i].Value.Kind)).set 7 kD (.int .i64 l[i].Value.N)).set 8 kD (.int .i64 l[i].Count)).set 9 kD (.int .i64 l[i].Tag.Vat)).set 10 kD (.int .i64 l[i].Tag.Entity)).set 11 kD (.int .i64 l[i].Tag.Seq)
   have hD5 : ∀ b, P5 b → ¬ (b = w.heap.size ∨ Fi b) := by
    intro b hb q
    have h1 := (I5.out b hb).1
    simp only [New] at h1
    rcases q with rfl | q
    ·exact absurd hg.2 kO
    ·have h2 := (hFi b q).2
     omega
   have HM := mY _ (fun b => P5 b) l[i] (gH HA.upd hD5 HR5.out) (fun k hk => hk)
   have hP1 : ∀ b, (P5 b) → New wr b := by
    intro b hb
    exact (I5.out b hb).1
   have HRowB := CL.out _ _ l[i] _ (New w) HA HM (fun b hb => .inr (fun q => by have h1 := hP1 b hb; have h2 := q.2; simp only [New] at h1; omega)) (fun _ q => q.1) (fun b hb => by have h1 := hP1 b hb; simp only [New] at h1 ⊢; omega)
   rw [iV (by simp) (by simpa using hlt)] at HRowB
   go_roundg (gk - 1)
   case measure => omega
   case rel => exact ⟨i + 1, by omega, by go_num, ⟨HRowB⟩, ⟨by repeat (with_reducible first | exact HU1.out | apply Upd.bI)⟩⟩
  ·go_wp2
   go_ret
   have HRowB := HR.out
   rw [iT (by simp) (by simp; omega)] at HRowB
   exact ⟨_, rfl, HRowB, HU.out⟩
theorem sz_Message (x : GMessage) (cs : List Value) (n : Int) (w : World) (h : iE.K w x cs) (hb : mQ x) (h0 : 0 ≤ n) (h1 : n ≤ 1048576) : Calls Tryz.prog 127 #[.agg cs.toArray, .int .i64 n] w (jS (fG x) n w) := by
 obtain ⟨A5, c5, rfl, hl5, hC5⟩ := nW h
 have HC5 := Sd.mk hC5
 clear hC5
 have b_Name := hb
 unfold mQ at b_Name
 go_enter Tryz.func127, Tryz.ntmps127
 by_cases q_Name : ((x.Name.size : Nat) : Int) ≤ n
 case neg =>
  go_wp2
  go_ret
  exact ⟨_, rfl, .inr ⟨by unfold fG; omega, rfl⟩, kA⟩
 go_wp2_with fail
 with_reducible refine (szS_Wire x.bD _ _ _ _ ?hc_Args kO kO).mono ?_
 case hc_Args => exact aS kA HC5.out
 rintro e w_Args ⟨r_Args, rfl, hr_Args, hu⟩
 have HB_Args : Sd (Upd No w w_Args) := Sd.mk (Upd.then kA hu)
 have cc0_Args := fun o => hu.bB (b := w.heap.size) kB (fun q => q) o
 have hz_Args : w.heap.size + 1 ≤ w_Args.heap.size := by have := hu.size; (try simp at this); omega
 clear hu
 rcases hr_Args with ⟨q_Args, rfl⟩ | ⟨q_Args, rfl⟩
 case inr =>
  go_wp2
  go_ret
  exact ⟨_, rfl, .inr ⟨by unfold fG; omega, rfl⟩, (by repeat (with_reducible first | exact HB_Args.out | apply Upd.bM | apply Upd.bL | apply Upd.bI | apply Upd.alloc | apply Upd.drewN | apply Upd.drew))⟩
 go_wp2
 go_ret
 exact ⟨_, rfl, .inl ⟨by unfold fG; omega, by unfold fG; omega⟩, (by repeat (with_reducible first | exact HB_Args.out | apply Upd.bM | apply Upd.bL | apply Upd.bI | apply Upd.alloc | apply Upd.drewN | apply Upd.drew))⟩
theorem szS_Message (l : List GMessage) (A : Option Addr) (c : Nat) (n : Int) (w : World) (h : C iE w A l) (hb : ∀ y ∈ l, mQ y) (h0 : 0 ≤ n) (h1 : n ≤ 1048576) : Calls Tryz.prog 92 #[.slice A l.length c, .int .i64 n] w (jS (dF fG l) n w) := by
 have hn := h.1
 have H := Sd.mk h
 clear h
 have HBD := Sd.mk hb
 clear hb
 go_enter Tryz.func92, Tryz.ntmps92
 by_cases q0 : (l.length : Int) ≤ n
 case neg =>
  go_wp2
  go_ret
  exact ⟨_, rfl, .inr ⟨by unfold dF; omega, rfl⟩, Upd.refl _ _⟩
 go_wp2
 go_loopg [1, 5] l.length (fun k u v wr => ∃ i : Nat, i + k = l.length ∧ (gP fG (l.take i) : Int) ≤ n - l.length ∧ u = .int .i64 (n - l.length - gP fG (l.take i)) ∧ v = .int .i64 i ∧ Sd (Upd No w wr))
 case atStart => exact ⟨0, by omega, by simp [gP]; omega, by simp [gP], rfl, ⟨Upd.refl _ _⟩⟩
 case round =>
  obtain ⟨i, hi, hle, rfl, rfl, HU⟩ := hrel
  by_cases hlt : i < l.length
  ·obtain ⟨ad, A5, c5, rfl, a0, a1, a2, a3, a4, a5, a6, a7, a8, a9, a10, a11, hl5, hC5⟩ := kl_Message_at (aS HU.out H.out) i hlt
   have HC5 := Sd.mk hC5
   clear hC5
   have hst := kI fG l i hlt
   have HST := Sd.mk (jB fG l i hlt)
   generalize hs : gP fG (l.take i) = s at *
   have HS := Sd.mk hs
   clear hs
   go_wp2_with fail
   with_reducible refine (sz_Message l[i] _ _ _ (kV _ _ hl5 HC5.out) (HBD.out _ (List.getElem_mem hlt)) kO kO).mono ?_
   rintro e w1 ⟨r, rfl, hr, hu⟩
   have HU1 := Sd.mk (HU.out.then hu)
   clear hu HU
   rcases hr with ⟨q, rfl⟩ | ⟨q, rfl⟩
   ·go_wp2
    go_roundg (gk - 1)
    case measure => omega
    case rel => exact ⟨i + 1, by omega, by rw [HST.out]; omega, by rw [HST.out]; exact congrArg (Value.int .i64) kO, by go_num, HU1⟩
   ·go_wp2
    go_ret
    exact ⟨_, rfl, .inr ⟨by unfold dF; omega, rfl⟩, HU1.out⟩
  ·go_wp2
   go_ret
   have e : l.take i = l := List.take_of_length_le kO
   rw [e] at hle
   exact ⟨_, rfl, .inl ⟨by unfold dF; omega, by rw [e]; unfold dF; omega⟩, HU.out⟩
theorem eq_Message (x : GMessage) (cs cs' : List Value) (w : World) (h : dM.K w x cs) (h' : dM.K w x cs') : Calls Tryz.prog 139 #[.agg cs.toArray, .agg cs'.toArray] w (bW true w) := by
 obtain ⟨A5, c5, rfl, hl5, hC5⟩ := jM h
 have HC5 := Sd.mk hC5
 clear hC5
 obtain ⟨B5, b5, rfl, hm5, hD5⟩ := jM h'
 have HD5 := Sd.mk hD5
 clear hD5
 go_enter Tryz.func139, Tryz.ntmps139
 go_wp2_with fail
 with_reducible refine (eqS_Wire x.bD _ _ _ _ _ ?hc_Args ?hd_Args).mono ?_
 case hc_Args => exact aS kA HC5.out
 case hd_Args => exact aS kA HD5.out
 rintro e w_Args ⟨rfl, hu⟩
 have HB_Args : Sd (Upd No w w_Args) := Sd.mk (Upd.then kA hu)
 have cc0_Args := fun o => hu.bB (b := w.heap.size) kB (fun q => q) o
 have cc1_Args := fun o => hu.bB (b := w.heap.size + 1) kB (fun q => q) o
 have hz_Args : w.heap.size + 1 + 1 ≤ w_Args.heap.size := by have := hu.size; (try simp at this); omega
 clear hu
 go_wp2_with fail
 with_reducible refine (eq_Wire x.Value _ _ _ (nQ _ _) (nQ _ _)).mono ?_
 rintro e w_Value ⟨rfl, hu⟩
 have HB_Value : Sd (Upd No w w_Value) := Sd.mk (Upd.then (by repeat (with_reducible first | exact HB_Args.out | apply Upd.bM | apply Upd.bL | apply Upd.bI | apply Upd.alloc | apply Upd.drewN | apply Upd.drew)) hu)
 have cc0_Value := fun o => hu.bB (b := w.heap.size) kB (fun q => q) o
 have cc1_Value := fun o => hu.bB (b := w.heap.size + 1) kB (fun q => q) o
 have hz_Value : w.heap.size + 1 + 1 ≤ w_Value.heap.size := by have := hu.size; (try simp at this); omega
 clear hu
 go_wp2_with fail
 with_reducible refine (eq_Tag x.Tag _ _ _ (kF _ _) (kF _ _)).mono ?_
 rintro e w_Tag ⟨rfl, hu⟩
 have HB_Tag : Sd (Upd No w w_Tag) := Sd.mk (Upd.then (by repeat (with_reducible first | exact HB_Value.out | apply Upd.bM | apply Upd.bL | apply Upd.bI | apply Upd.alloc | apply Upd.drewN | apply Upd.drew)) hu)
 have cc0_Tag := fun o => hu.bB (b := w.heap.size) kB (fun q => q) o
 have cc1_Tag := fun o => hu.bB (b := w.heap.size + 1) kB (fun q => q) o
 have hz_Tag : w.heap.size + 1 + 1 ≤ w_Tag.heap.size := by have := hu.size; (try simp at this); omega
 clear hu
 go_wp2
 go_ret
 exact ⟨rfl, (by repeat (with_reducible first | exact HB_Tag.out | apply Upd.bM | apply Upd.bL | apply Upd.bI | apply Upd.alloc | apply Upd.drewN | apply Upd.drew))⟩
theorem eqS_Message (l : List GMessage) (A A' : Option Addr) (c c' : Nat) (w : World) (h : C dM w A l) (h' : C dM w A' l) : Calls Tryz.prog 106 #[.slice A l.length c, .slice A' l.length c'] w (bW true w) := by
 have hn := h.1
 have H := Sd.mk h
 have H' := Sd.mk h'
 clear h h'
 go_enter Tryz.func106, Tryz.ntmps106
 go_wp2
 go_loopg [5] l.length (fun k v wr => ∃ i : Nat, i + k = l.length ∧ v = .int .i64 i ∧ Sd (Upd No w wr))
 case atStart => exact ⟨0, by omega, rfl, ⟨Upd.refl _ _⟩⟩
 case round =>
  obtain ⟨i, hi, rfl, HU⟩ := hrel
  by_cases hlt : i < l.length
  ·obtain ⟨ad, A5, c5, rfl, a0, a1, a2, a3, a4, a5, a6, a7, a8, a9, a10, a11, hl5, hC5⟩ := ki_Message_at (aS HU.out H.out) i hlt
   obtain ⟨ad', B5, b5, rfl, z0, z1, z2, z3, z4, z5, z6, z7, z8, z9, z10, z11, hm5, hD5⟩ := ki_Message_at (aS HU.out H'.out) i hlt
   have HC5 := Sd.mk hC5
   have HD5 := Sd.mk hD5
   clear hC5 hD5
   go_wp2_with fail
   go_still_tail 8, kR
   change wpList _ _ _ _ _ wr.drew
   have HW : Sd (Upd No wr wr.drew) := ⟨(Upd.refl _ _).drew⟩
   have HU2 : Sd (Upd No w wr.drew) := ⟨HU.out.drew⟩
   generalize wr.drew = w2 at *
   go_wp2_with (go_at_call 139; (with_reducible refine (eq_Message l[i] _ _ _ (gJ _ _ hl5 (aS HW.out HC5.out)) (gJ _ _ hm5 (aS HW.out HD5.out))).mono ?_); rintro e w' ⟨rfl, hu⟩)
   have HU3 := Sd.mk (HU2.out.then hu)
   clear HU2 hu
   go_wp2
   go_roundg (gk - 1)
   case measure => omega
   case rel => exact ⟨i + 1, by omega, by go_num, HU3⟩
  ·go_wp2
   go_ret
   exact ⟨rfl, HU.out⟩
theorem kl_Outgoing_Kmk (w : World) (x : GOutgoing) {A6 : Option Addr} {c6 : Nat} (hl6 : x.Message.bD.length ≤ c6) (hC6 : C jL w A6 x.Message.bD) : iG.K w x [.int .i64 x.To, .int .i64 x.Message.Kind, .int .i64 x.Message.Pos, .int .i64 x.Message.dH, .int .i64 x.Message.Question, .string x.Message.Name, .slice A6 x.Message.bD.length c6, .int .i64 x.Message.Value.Kind, .int .i64 x.Message.Value.N, .int .i64 x.Message.Count, .int .i64 x.Message.Tag.Vat, .int .i64 x.Message.Tag.Entity, .int .i64 x.Message.Tag.Seq] := ⟨[_], [_, _, _, _, _, _, _, _, _, _, _, _], rfl, rfl, (kV w _ hl6 hC6)⟩
theorem ki_Outgoing_Kmk (w : World) (x : GOutgoing) {A6 : Option Addr} {c6 : Nat} (hl6 : x.Message.bD.length ≤ c6) (hC6 : C fT w A6 x.Message.bD) : dL.K w x [.int .i64 x.To, .int .i64 x.Message.Kind, .int .i64 x.Message.Pos, .int .i64 x.Message.dH, .int .i64 x.Message.Question, .string x.Message.Name, .slice A6 x.Message.bD.length c6, .int .i64 x.Message.Value.Kind, .int .i64 x.Message.Value.N, .int .i64 x.Message.Count, .int .i64 x.Message.Tag.Vat, .int .i64 x.Message.Tag.Entity, .int .i64 x.Message.Tag.Seq] := ⟨[_], [_, _, _, _, _, _, _, _, _, _, _, _], rfl, rfl, (gJ w _ hl6 hC6)⟩
theorem to_Outgoing (x : GOutgoing) (cs : List Value) (w : World) (h : iG.K w x cs) (hs : fM x ≤ 1048576) : Calls Tryz.prog 132 #[.agg cs.toArray] w (kK dL x w) := by
 obtain ⟨A6, c6, rfl, hl6, hC6⟩ := pG h
 have HC6 := Sd.mk hC6
 clear hC6
 have s_Message : fG x.Message ≤ 1048576 := by unfold fM at hs; omega
 clear hs
 go_enter Tryz.func132, Tryz.ntmps132
 go_wp2_with fail
 with_reducible refine (to_Message x.Message _ _ (kV _ _ hl6 ?hc_Message) s_Message).mono ?_
 case hc_Message => exact aS kA HC6.out
 rintro e w_Message ⟨cs_Message, rfl, hM, hu⟩
 obtain ⟨v6, Q6, rfl, hR6, i6⟩ := nX hM
 obtain ⟨B6, b6, rfl⟩ := fI hR6
 replace hR6 := R_mono i6 hR6
 clear i6 hM
 obtain ⟨P6, hR6', g6, l6⟩ := gV hR6 (w.heap.size + 1 + 1 + 1) kB
 have ge6 : ∀ b, P6 b → w.heap.size + 1 + 1 < b := fun b hb => by have := g6 b hb; omega
 have n1_6 : ¬ P6 (w.heap.size + 1) := fun q => by have := ge6 _ q; omega
 have n2_6 : ¬ P6 (w.heap.size + 1 + 1) := fun q => by have := ge6 _ q; omega
 have HR6 := Sd.mk hR6'
 have GE6 := Sd.mk ge6
 have LT6 := Sd.mk l6
 have GP6 := Sd.mk g6
 clear hR6 hR6' ge6 l6 g6
 have HB_Message : Sd (Upd No w w_Message) := Sd.mk (Upd.then kA hu)
 have cc0_Message := fun o => hu.bB (b := w.heap.size) kB (fun q => q) o
 have cc1_Message := fun o => hu.bB (b := w.heap.size + 1) kB (fun q => q) o
 have cf1_Message := fun o => hu.dR (b := w.heap.size + 1) kB (fun q => q) o
 have cc2_Message := fun o => hu.bB (b := w.heap.size + 1 + 1) kB (fun q => q) o
 have cf2_Message := fun o => hu.dR (b := w.heap.size + 1 + 1) kB (fun q => q) o
 have hz_Message : w.heap.size + 1 + 1 + 1 ≤ w_Message.heap.size := by have := hu.size; (try simp at this); omega
 clear hu
 go_wp2
 refine bodyPost_ret (v := .agg #[.int .i64 x.To, .int .i64 x.Message.Kind, .int .i64 x.Message.Pos, .int .i64 x.Message.dH, .int .i64 x.Message.Question, .string x.Message.Name, .slice B6 x.Message.bD.length b6, .int .i64 x.Message.Value.Kind, .int .i64 x.Message.Value.N, .int .i64 x.Message.Count, .int .i64 x.Message.Tag.Vat, .int .i64 x.Message.Tag.Entity, .int .i64 x.Message.Tag.Seq]) (by simp [results, Tryz.results132, go_sem, cc1_Message]) rfl ⟨_, rfl, ?_, (by repeat (with_reducible first | exact HB_Message.out | apply Upd.bM | apply Upd.bL | apply Upd.bI | apply Upd.alloc | apply Upd.drewN | apply Upd.drew))⟩
 exact oU _ _ _ (gB HR6.out (by repeat (with_reducible first | exact Upd.refl _ _ | apply Upd.gG n1_6 | apply Upd.gG n2_6 | apply Upd.alloc))) (fun k hk => by have := GE6.out k hk; simp only [New]; omega)
theorem toS_Outgoing (l : List GOutgoing) (A : Option Addr) (c : Nat) (w : World) (h : C iG w A l) (hs : dF fM l ≤ 1048576) : Calls Tryz.prog 97 #[.slice A l.length c] w (lF dL 143 l w) := by
 have hn : l.length ≤ 1048576 := by unfold dF at hs; omega
 have hmk := iW (P := Tryz.prog) _ _ _ Tryz.underlying78 ki_Outgoing_info l.length hn kD
 have H := Sd.mk h
 have HS := Sd.mk hs
 clear h hs
 go_enter Tryz.func97, Tryz.ntmps97
 go_wp2
 clear hmk
 have HR : Sd (R dL 143 (w.alloc (fQ (.agg #[.int .i64 0, .int .i64 0, .int .i64 0, .int .i64 0, .int .i64 0, .string ⟨#[]⟩, .slice none 0 0, .int .i64 0, .int .i64 0, .int .i64 0, .int .i64 0, .int .i64 0, .int .i64 0]) (l.length * 13) 143)) (New w) (.slice (some ⟨w.heap.size, 0, none⟩) l.length l.length) (List.replicate l.length mR)) := Sd.mk (lG (d := dL) (e := 143) w (.agg #[.int .i64 0, .int .i64 0, .int .i64 0, .int .i64 0, .int .i64 0, .string ⟨#[]⟩, .slice none 0 0, .int .i64 0, .int .i64 0, .int .i64 0, .int .i64 0, .int .i64 0, .int .i64 0]) mR rfl kD ki_Outgoing_zero l.length hn)
 have HU := Sd.mk ((Upd.refl No w).alloc (fQ (.agg #[.int .i64 0, .int .i64 0, .int .i64 0, .int .i64 0, .int .i64 0, .string ⟨#[]⟩, .slice none 0 0, .int .i64 0, .int .i64 0, .int .i64 0, .int .i64 0, .int .i64 0, .int .i64 0]) (l.length * 13) 143))
 go_loopg [4] l.length (fun k v wr => ∃ i : Nat, i + k = l.length ∧ v = .int .i64 i ∧ Sd (R dL 143 wr (New w) (.slice (some ⟨w.heap.size, 0, none⟩) l.length l.length) (upTo l (List.replicate l.length mR) i)) ∧ Sd (Upd No w wr))
 case atStart => exact ⟨0, by omega, rfl, ⟨by rw [iM]; exact HR.out⟩, HU⟩
 case round =>
  clear HR HU
  obtain ⟨i, hi, rfl, HR, HU⟩ := hrel
  by_cases hlt : i < l.length
  ·obtain ⟨ad, A6, c6, rfl, a0, a1, a2, a3, a4, a5, a6, a7, a8, a9, a10, a11, a12, hl6, hC6⟩ := kl_Outgoing_at (aS HU.out H.out) i hlt
   have HC6 := Sd.mk hC6
   clear hC6
   have hsi : fM l[i] ≤ 1048576 := by have := HS.out; have := jQ fM l i hlt; unfold dF at *; omega
   go_wp2_with fail
   with_reducible refine (to_Outgoing l[i] _ _ (kl_Outgoing_Kmk _ _ hl6 HC6.out) hsi).mono ?_
   rintro e w1 ⟨cs, rfl, hM, hu⟩
   obtain ⟨v6, P6, rfl, hR6, i6⟩ := ki_Outgoing_M (dL.M_lt hM)
   obtain ⟨D6, d6, rfl⟩ := fI hR6
   have HRowA := gH hu (fun _ _ q => q) (R_lt HR.out)
   have HU1 := Sd.mk (HU.out.then hu)
   have hzw := HU.out.size
   have HR6 := Sd.mk hR6
   have I6 := Sd.mk i6
   clear HR HU hM hu hR6 i6
   obtain ⟨g, cap, cur, ce, Fi, hv, hcap, hat, hM, hg, hFi, hFg, close⟩ := lD HRowA 13 l.length rfl (by rw [iU (by simp) (by simp; omega)]; simp) i mR (by rw [jP (by simp) (by simpa using hlt)]; simp)
   cases hv
   obtain ⟨y6, _, rfl, -⟩ := ki_Outgoing_M hM
   have HAT := Sd.mk hat
   have x0 := hat.cell0 _ rfl
   have x1 := hat.cell 1 _ rfl
   have x2 := hat.cell 2 _ rfl
   have x3 := hat.cell 3 _ rfl
   have x4 := hat.cell 4 _ rfl
   have x5 := hat.cell 5 _ rfl
   have x6 := hat.cell 6 _ rfl
   have x7 := hat.cell 7 _ rfl
   have x8 := hat.cell 8 _ rfl
   have x9 := hat.cell 9 _ rfl
   have x10 := hat.cell 10 _ rfl
   have x11 := hat.cell 11 _ rfl
   have x12 := hat.cell 12 _ rfl
   have f0 := hat.free (i * 13)
   have f1 := hat.free (i * 13 + 1)
   have f2 := hat.free (i * 13 + 2)
   have f3 := hat.free (i * 13 + 3)
   have f4 := hat.free (i * 13 + 4)
   have f5 := hat.free (i * 13 + 5)
   have f6 := hat.free (i * 13 + 6)
   have f7 := hat.free (i * 13 + 7)
   have f8 := hat.free (i * 13 + 8)
   have f9 := hat.free (i * 13 + 9)
   have f10 := hat.free (i * 13 + 10)
   have f11 := hat.free (i * 13 + 11)
   have f12 := hat.free (i * 13 + 12)
   have CL := Sd.mk close
   clear hat close hM HRowA
   go_wp2
   have HA := ((((((((((((HAT.out.set0 kD (.int .i64 l[i].To)).set 1 kD (.int .i64 l[i].Message.Kind)).set 2 kD (.int .i64 l[i].Message.Pos)).set 3 kD (.int .i64 l[i].Message.dH)).set 4 kD (.int .i64 l[i].Message.Question)).set 5 kD (.string l[i].Message.Name)).set 6 kD (.slice D6 l[i].Message.bD.length d6)).set 7 kD (.int .i64 l[i].Message.Value.Kind)).set 8 kD (.int .i64 l[i].Message.Value.N)).set 9 kD (.int .i64 l[i].Message.Count)).set 10 kD (.int .i64 l[i].Message.Tag.Vat)).set 11 kD (.int .i64 l[i].Message.Tag.Entity)).set 12 kD (.int .i64 l[i].Message.Tag.Seq)
   have hD6 : ∀ b, P6 b → ¬ (b = w.heap.size ∨ Fi b) := by
    intro b hb q
    have h1 := (I6.out b hb).1
    simp only [New] at h1
    rcases q with rfl | q
    ·exact absurd hg.2 kO
    ·have h2 := (hFi b q).2
     omega
   have HM := oU _ (fun b => P6 b) l[i] (gH HA.upd hD6 HR6.out) (fun k hk => hk)
   have hP1 : ∀ b, (P6 b) → New wr b := by
    intro b hb
    exact (I6.out b hb).1
   have HRowB := CL.out _ _ l[i] _ (New w) HA HM (fun b hb => .inr (fun q => by have h1 := hP1 b hb; have h2 := q.2; simp only [New] at h1; omega)) (fun _ q => q.1) (fun b hb => by have h1 := hP1 b hb; simp only [New] at h1 ⊢; omega)
   rw [iV (by simp) (by simpa using hlt)] at HRowB
   go_roundg (gk - 1)
   case measure => omega
   case rel => exact ⟨i + 1, by omega, by go_num, ⟨HRowB⟩, ⟨by repeat (with_reducible first | exact HU1.out | apply Upd.bI)⟩⟩
  ·go_wp2
   go_ret
   have HRowB := HR.out
   rw [iT (by simp) (by simp; omega)] at HRowB
   exact ⟨_, rfl, HRowB, HU.out⟩
theorem sz_Outgoing (x : GOutgoing) (cs : List Value) (n : Int) (w : World) (h : iG.K w x cs) (hb : nO x) (h0 : 0 ≤ n) (h1 : n ≤ 1048576) : Calls Tryz.prog 126 #[.agg cs.toArray, .int .i64 n] w (jS (fM x) n w) := by
 obtain ⟨A6, c6, rfl, hl6, hC6⟩ := pG h
 have HC6 := Sd.mk hC6
 clear hC6
 have b_Message := hb
 unfold nO at b_Message
 have B_Message := Sd.mk b_Message
 clear b_Message
 go_enter Tryz.func126, Tryz.ntmps126
 go_wp2_with fail
 with_reducible refine (sz_Message x.Message _ _ _ (kV _ _ hl6 ?hc_Message) B_Message.out kO kO).mono ?_
 case hc_Message => exact aS kA HC6.out
 rintro e w_Message ⟨r_Message, rfl, hr_Message, hu⟩
 have HB_Message : Sd (Upd No w w_Message) := Sd.mk (Upd.then kA hu)
 have cc0_Message := fun o => hu.bB (b := w.heap.size) kB (fun q => q) o
 have hz_Message : w.heap.size + 1 ≤ w_Message.heap.size := by have := hu.size; (try simp at this); omega
 clear hu
 rcases hr_Message with ⟨q_Message, rfl⟩ | ⟨q_Message, rfl⟩
 case inr =>
  go_wp2
  go_ret
  exact ⟨_, rfl, .inr ⟨by unfold fM; omega, rfl⟩, (by repeat (with_reducible first | exact HB_Message.out | apply Upd.bM | apply Upd.bL | apply Upd.bI | apply Upd.alloc | apply Upd.drewN | apply Upd.drew))⟩
 go_wp2
 go_ret
 exact ⟨_, rfl, .inl ⟨by unfold fM; omega, by unfold fM; omega⟩, (by repeat (with_reducible first | exact HB_Message.out | apply Upd.bM | apply Upd.bL | apply Upd.bI | apply Upd.alloc | apply Upd.drewN | apply Upd.drew))⟩
theorem szS_Outgoing (l : List GOutgoing) (A : Option Addr) (c : Nat) (n : Int) (w : World) (h : C iG w A l) (hb : ∀ y ∈ l, nO y) (h0 : 0 ≤ n) (h1 : n ≤ 1048576) : Calls Tryz.prog 91 #[.slice A l.length c, .int .i64 n] w (jS (dF fM l) n w) := by
 have hn := h.1
 have H := Sd.mk h
 clear h
 have HBD := Sd.mk hb
 clear hb
 go_enter Tryz.func91, Tryz.ntmps91
 by_cases q0 : (l.length : Int) ≤ n
 case neg =>
  go_wp2
  go_ret
  exact ⟨_, rfl, .inr ⟨by unfold dF; omega, rfl⟩, Upd.refl _ _⟩
 go_wp2
 go_loopg [1, 5] l.length (fun k u v wr => ∃ i : Nat, i + k = l.length ∧ (gP fM (l.take i) : Int) ≤ n - l.length ∧ u = .int .i64 (n - l.length - gP fM (l.take i)) ∧ v = .int .i64 i ∧ Sd (Upd No w wr))
 case atStart => exact ⟨0, by omega, by simp [gP]; omega, by simp [gP], rfl, ⟨Upd.refl _ _⟩⟩
 case round =>
  obtain ⟨i, hi, hle, rfl, rfl, HU⟩ := hrel
  by_cases hlt : i < l.length
  ·obtain ⟨ad, A6, c6, rfl, a0, a1, a2, a3, a4, a5, a6, a7, a8, a9, a10, a11, a12, hl6, hC6⟩ := kl_Outgoing_at (aS HU.out H.out) i hlt
   have HC6 := Sd.mk hC6
   clear hC6
   have hst := kI fM l i hlt
   have HST := Sd.mk (jB fM l i hlt)
   generalize hs : gP fM (l.take i) = s at *
   have HS := Sd.mk hs
   clear hs
   go_wp2_with fail
   with_reducible refine (sz_Outgoing l[i] _ _ _ (kl_Outgoing_Kmk _ _ hl6 HC6.out) (HBD.out _ (List.getElem_mem hlt)) kO kO).mono ?_
   rintro e w1 ⟨r, rfl, hr, hu⟩
   have HU1 := Sd.mk (HU.out.then hu)
   clear hu HU
   rcases hr with ⟨q, rfl⟩ | ⟨q, rfl⟩
   ·go_wp2
    go_roundg (gk - 1)
    case measure => omega
    case rel => exact ⟨i + 1, by omega, by rw [HST.out]; omega, by rw [HST.out]; exact congrArg (Value.int .i64) kO, by go_num, HU1⟩
   ·go_wp2
    go_ret
    exact ⟨_, rfl, .inr ⟨by unfold dF; omega, rfl⟩, HU1.out⟩
  ·go_wp2
   go_ret
   have e : l.take i = l := List.take_of_length_le kO
   rw [e] at hle
   exact ⟨_, rfl, .inl ⟨by unfold dF; omega, by rw [e]; unfold dF; omega⟩, HU.out⟩
theorem eq_Outgoing (x : GOutgoing) (cs cs' : List Value) (w : World) (h : dL.K w x cs) (h' : dL.K w x cs') : Calls Tryz.prog 138 #[.agg cs.toArray, .agg cs'.toArray] w (bW true w) := by
 obtain ⟨A6, c6, rfl, hl6, hC6⟩ := jO h
 have HC6 := Sd.mk hC6
 clear hC6
 obtain ⟨B6, b6, rfl, hm6, hD6⟩ := jO h'
 have HD6 := Sd.mk hD6
 clear hD6
 go_enter Tryz.func138, Tryz.ntmps138
 go_wp2_with fail
 with_reducible refine (eq_Message x.Message _ _ _ (gJ _ _ hl6 ?hc_Message) (gJ _ _ hm6 ?hd_Message)).mono ?_
 case hc_Message => exact aS kA HC6.out
 case hd_Message => exact aS kA HD6.out
 rintro e w_Message ⟨rfl, hu⟩
 have HB_Message : Sd (Upd No w w_Message) := Sd.mk (Upd.then kA hu)
 have cc0_Message := fun o => hu.bB (b := w.heap.size) kB (fun q => q) o
 have cc1_Message := fun o => hu.bB (b := w.heap.size + 1) kB (fun q => q) o
 have hz_Message : w.heap.size + 1 + 1 ≤ w_Message.heap.size := by have := hu.size; (try simp at this); omega
 clear hu
 go_wp2
 go_ret
 exact ⟨rfl, (by repeat (with_reducible first | exact HB_Message.out | apply Upd.bM | apply Upd.bL | apply Upd.bI | apply Upd.alloc | apply Upd.drewN | apply Upd.drew))⟩
theorem eqS_Outgoing (l : List GOutgoing) (A A' : Option Addr) (c c' : Nat) (w : World) (h : C dL w A l) (h' : C dL w A' l) : Calls Tryz.prog 105 #[.slice A l.length c, .slice A' l.length c'] w (bW true w) := by
 have hn := h.1
 have H := Sd.mk h
 have H' := Sd.mk h'
 clear h h'
 go_enter Tryz.func105, Tryz.ntmps105
 go_wp2
 go_loopg [5] l.length (fun k v wr => ∃ i : Nat, i + k = l.length ∧ v = .int .i64 i ∧ Sd (Upd No w wr))
 case atStart => exact ⟨0, by omega, rfl, ⟨Upd.refl _ _⟩⟩
 case round =>
  obtain ⟨i, hi, rfl, HU⟩ := hrel
  by_cases hlt : i < l.length
  ·obtain ⟨ad, A6, c6, rfl, a0, a1, a2, a3, a4, a5, a6, a7, a8, a9, a10, a11, a12, hl6, hC6⟩ := ki_Outgoing_at (aS HU.out H.out) i hlt
   obtain ⟨ad', B6, b6, rfl, z0, z1, z2, z3, z4, z5, z6, z7, z8, z9, z10, z11, z12, hm6, hD6⟩ := ki_Outgoing_at (aS HU.out H'.out) i hlt
   have HC6 := Sd.mk hC6
   have HD6 := Sd.mk hD6
   clear hC6 hD6
   go_wp2_with fail
   go_still_tail 8, kR
   change wpList _ _ _ _ _ wr.drew
   have HW : Sd (Upd No wr wr.drew) := ⟨(Upd.refl _ _).drew⟩
   have HU2 : Sd (Upd No w wr.drew) := ⟨HU.out.drew⟩
   generalize wr.drew = w2 at *
   go_wp2_with (go_at_call 138; (with_reducible refine (eq_Outgoing l[i] _ _ _ (ki_Outgoing_Kmk _ _ hl6 (aS HW.out HC6.out)) (ki_Outgoing_Kmk _ _ hm6 (aS HW.out HD6.out))).mono ?_); rintro e w' ⟨rfl, hu⟩)
   have HU3 := Sd.mk (HU2.out.then hu)
   clear HU2 hu
   go_wp2
   go_roundg (gk - 1)
   case measure => omega
   case rel => exact ⟨i + 1, by omega, by go_num, HU3⟩
  ·go_wp2
   go_ret
   exact ⟨rfl, HU.out⟩
theorem kl_Vat_Kmk (w : World) (x : GVat) {A1 : Option Addr} {c1 : Nat} (hl1 : x.aT.length ≤ c1) (hC1 : C jD w A1 x.aT) {A2 : Option Addr} {c2 : Nat} (hl2 : x.Loop.length ≤ c2) (hC2 : C jG w A2 x.Loop) {A3 : Option Addr} {c3 : Nat} (hl3 : x.bZ.length ≤ c3) (hC3 : C kY w A3 x.bZ) {A4 : Option Addr} {c4 : Nat} (hl4 : x.Out.length ≤ c4) (hC4 : C iG w A4 x.Out) : kl_Vat.K w x [.int .i64 x.Id, .slice A1 x.aT.length c1, .slice A2 x.Loop.length c2, .slice A3 x.bZ.length c3, .slice A4 x.Out.length c4] := ⟨[_], [_, _, _, _], rfl, rfl, ⟨[_], [_, _, _], rfl, ⟨A1, c1, rfl, hl1, hC1⟩, ⟨[_], [_, _], rfl, ⟨A2, c2, rfl, hl2, hC2⟩, ⟨[_], [_], rfl, ⟨A3, c3, rfl, hl3, hC3⟩, ⟨A4, c4, rfl, hl4, hC4⟩⟩⟩⟩⟩
theorem ki_Vat_Kmk (w : World) (x : GVat) {A1 : Option Addr} {c1 : Nat} (hl1 : x.aT.length ≤ c1) (hC1 : C dW w A1 x.aT) {A2 : Option Addr} {c2 : Nat} (hl2 : x.Loop.length ≤ c2) (hC2 : C eX w A2 x.Loop) {A3 : Option Addr} {c3 : Nat} (hl3 : x.bZ.length ≤ c3) (hC3 : C gK w A3 x.bZ) {A4 : Option Addr} {c4 : Nat} (hl4 : x.Out.length ≤ c4) (hC4 : C dL w A4 x.Out) : iK.K w x [.int .i64 x.Id, .slice A1 x.aT.length c1, .slice A2 x.Loop.length c2, .slice A3 x.bZ.length c3, .slice A4 x.Out.length c4] := ⟨[_], [_, _, _, _], rfl, rfl, ⟨[_], [_, _, _], rfl, ⟨A1, c1, rfl, hl1, hC1⟩, ⟨[_], [_, _], rfl, ⟨A2, c2, rfl, hl2, hC2⟩, ⟨[_], [_], rfl, ⟨A3, c3, rfl, hl3, hC3⟩, ⟨A4, c4, rfl, hl4, hC4⟩⟩⟩⟩⟩
theorem to_Vat (x : GVat) (cs : List Value) (w : World) (h : kl_Vat.K w x cs) (hs : iI x ≤ 1048576) : Calls Tryz.prog 53 #[.agg cs.toArray] w (kK iK x w) := by
 obtain ⟨A1, c1, A2, c2, A3, c3, A4, c4, rfl, hl1, hC1, hl2, hC2, hl3, hC3, hl4, hC4⟩ := kl_Vat_K h
 have HC1 := Sd.mk hC1
 have HC2 := Sd.mk hC2
 have HC3 := Sd.mk hC3
 have HC4 := Sd.mk hC4
 clear hC1 hC2 hC3 hC4
 have s_Entities : dF fP x.aT ≤ 1048576 := by unfold iI at hs; omega
 have s_Loop : dF iF x.Loop ≤ 1048576 := by unfold iI at hs; omega
 have s_Links : dF iC x.bZ ≤ 1048576 := by unfold iI at hs; omega
 have s_Out : dF fM x.Out ≤ 1048576 := by unfold iI at hs; omega
 clear hs
 go_enter Tryz.func53, Tryz.ntmps53
 go_wp2_with fail
 with_reducible refine (toS_Entity x.aT _ _ _ ?hc_Entities s_Entities).mono ?_
 case hc_Entities => exact aS kA HC1.out
 rintro e w_Entities ⟨v1, rfl, hR1, hu⟩
 obtain ⟨B1, b1, rfl⟩ := fI hR1
 obtain ⟨P1, hR1', g1, l1⟩ := gV hR1 (w.heap.size + 1 + 1 + 1) kB
 have ge1 : ∀ b, P1 b → w.heap.size + 1 + 1 < b := fun b hb => by have := g1 b hb; omega
 have n1_1 : ¬ P1 (w.heap.size + 1) := fun q => by have := ge1 _ q; omega
 have n2_1 : ¬ P1 (w.heap.size + 1 + 1) := fun q => by have := ge1 _ q; omega
 have HR1 := Sd.mk hR1'
 have GE1 := Sd.mk ge1
 have LT1 := Sd.mk l1
 have GP1 := Sd.mk g1
 clear hR1 hR1' ge1 l1 g1
 have HB_Entities : Sd (Upd No w w_Entities) := Sd.mk (Upd.then kA hu)
 have cc0_Entities := fun o => hu.bB (b := w.heap.size) kB (fun q => q) o
 have cc1_Entities := fun o => hu.bB (b := w.heap.size + 1) kB (fun q => q) o
 have cf1_Entities := fun o => hu.dR (b := w.heap.size + 1) kB (fun q => q) o
 have cc2_Entities := fun o => hu.bB (b := w.heap.size + 1 + 1) kB (fun q => q) o
 have cf2_Entities := fun o => hu.dR (b := w.heap.size + 1 + 1) kB (fun q => q) o
 have hz_Entities : w.heap.size + 1 + 1 + 1 ≤ w_Entities.heap.size := by have := hu.size; (try simp at this); omega
 clear hu
 go_wp2_with fail
 with_reducible refine (toS_Sent x.Loop _ _ _ ?hc_Loop s_Loop).mono ?_
 case hc_Loop => exact aS (by repeat (with_reducible first | exact HB_Entities.out | apply Upd.bM | apply Upd.bL | apply Upd.bI | apply Upd.alloc | apply Upd.drewN | apply Upd.drew)) HC2.out
 rintro e w_Loop ⟨v2, rfl, hR2, hu⟩
 obtain ⟨B2, b2, rfl⟩ := fI hR2
 obtain ⟨P2, hR2', g2, l2⟩ := gV hR2 (w_Entities.heap.size) kB
 have ge2 : ∀ b, P2 b → w.heap.size + 1 + 1 < b := fun b hb => by have := g2 b hb; have := hz_Entities; omega
 have n1_2 : ¬ P2 (w.heap.size + 1) := fun q => by have := ge2 _ q; omega
 have n2_2 : ¬ P2 (w.heap.size + 1 + 1) := fun q => by have := ge2 _ q; omega
 have HR2 := Sd.mk hR2'
 have GE2 := Sd.mk ge2
 have LT2 := Sd.mk l2
 have GP2 := Sd.mk g2
 clear hR2 hR2' ge2 l2 g2
 have HR1 := Sd.mk (gH hu (fun _ _ q => q) (gB HR1.out (by repeat (with_reducible first | exact Upd.refl _ _ | apply Upd.gG n1_1 | apply Upd.gG n2_1 | apply Upd.alloc))))
 have HB_Loop : Sd (Upd No w w_Loop) := Sd.mk (Upd.then (by repeat (with_reducible first | exact HB_Entities.out | apply Upd.bM | apply Upd.bL | apply Upd.bI | apply Upd.alloc | apply Upd.drewN | apply Upd.drew)) hu)
 have cc0_Loop := fun o => hu.bB (b := w.heap.size) kB (fun q => q) o
 have cc1_Loop := fun o => hu.bB (b := w.heap.size + 1) kB (fun q => q) o
 have cf1_Loop := fun o => hu.dR (b := w.heap.size + 1) kB (fun q => q) o
 have cc2_Loop := fun o => hu.bB (b := w.heap.size + 1 + 1) kB (fun q => q) o
 have cf2_Loop := fun o => hu.dR (b := w.heap.size + 1 + 1) kB (fun q => q) o
 have hz_Loop : w.heap.size + 1 + 1 + 1 ≤ w_Loop.heap.size := by have := hu.size; (try simp at this); omega
 have hm_Loop : w_Entities.heap.size ≤ w_Loop.heap.size := by have := hu.size; (try simp at this); omega
 clear hu
 go_wp2_with fail
 with_reducible refine (toS_Link x.bZ _ _ _ ?hc_Links s_Links).mono ?_
 case hc_Links => exact aS (by repeat (with_reducible first | exact HB_Loop.out | apply Upd.bM | apply Upd.bL | apply Upd.bI | apply Upd.alloc | apply Upd.drewN | apply Upd.drew)) HC3.out
 rintro e w_Links ⟨v3, rfl, hR3, hu⟩
 obtain ⟨B3, b3, rfl⟩ := fI hR3
 obtain ⟨P3, hR3', g3, l3⟩ := gV hR3 (w_Loop.heap.size) kB
 have ge3 : ∀ b, P3 b → w.heap.size + 1 + 1 < b := fun b hb => by have := g3 b hb; have := hz_Loop; omega
 have n1_3 : ¬ P3 (w.heap.size + 1) := fun q => by have := ge3 _ q; omega
 have n2_3 : ¬ P3 (w.heap.size + 1 + 1) := fun q => by have := ge3 _ q; omega
 have HR3 := Sd.mk hR3'
 have GE3 := Sd.mk ge3
 have LT3 := Sd.mk l3
 have GP3 := Sd.mk g3
 clear hR3 hR3' ge3 l3 g3
 have HR1 := Sd.mk (gH hu (fun _ _ q => q) (gB HR1.out (by repeat (with_reducible first | exact Upd.refl _ _ | apply Upd.gG n1_1 | apply Upd.gG n2_1 | apply Upd.alloc))))
 have HR2 := Sd.mk (gH hu (fun _ _ q => q) (gB HR2.out (by repeat (with_reducible first | exact Upd.refl _ _ | apply Upd.gG n1_2 | apply Upd.gG n2_2 | apply Upd.alloc))))
 have HB_Links : Sd (Upd No w w_Links) := Sd.mk (Upd.then (by repeat (with_reducible first | exact HB_Loop.out | apply Upd.bM | apply Upd.bL | apply Upd.bI | apply Upd.alloc | apply Upd.drewN | apply Upd.drew)) hu)
 have cc0_Links := fun o => hu.bB (b := w.heap.size) kB (fun q => q) o
 have cc1_Links := fun o => hu.bB (b := w.heap.size + 1) kB (fun q => q) o
 have cf1_Links := fun o => hu.dR (b := w.heap.size + 1) kB (fun q => q) o
 have cc2_Links := fun o => hu.bB (b := w.heap.size + 1 + 1) kB (fun q => q) o
 have cf2_Links := fun o => hu.dR (b := w.heap.size + 1 + 1) kB (fun q => q) o
 have hz_Links : w.heap.size + 1 + 1 + 1 ≤ w_Links.heap.size := by have := hu.size; (try simp at this); omega
 have hm_Links : w_Loop.heap.size ≤ w_Links.heap.size := by have := hu.size; (try simp at this); omega
 clear hu
 go_wp2_with fail
 with_reducible refine (toS_Outgoing x.Out _ _ _ ?hc_Out s_Out).mono ?_
 case hc_Out => exact aS (by repeat (with_reducible first | exact HB_Links.out | apply Upd.bM | apply Upd.bL | apply Upd.bI | apply Upd.alloc | apply Upd.drewN | apply Upd.drew)) HC4.out
 rintro e w_Out ⟨v4, rfl, hR4, hu⟩
 obtain ⟨B4, b4, rfl⟩ := fI hR4
 obtain ⟨P4, hR4', g4, l4⟩ := gV hR4 (w_Links.heap.size) kB
 have ge4 : ∀ b, P4 b → w.heap.size + 1 + 1 < b := fun b hb => by have := g4 b hb; have := hz_Links; omega
 have n1_4 : ¬ P4 (w.heap.size + 1) := fun q => by have := ge4 _ q; omega
 have n2_4 : ¬ P4 (w.heap.size + 1 + 1) := fun q => by have := ge4 _ q; omega
 have HR4 := Sd.mk hR4'
 have GE4 := Sd.mk ge4
 have LT4 := Sd.mk l4
 have GP4 := Sd.mk g4
 clear hR4 hR4' ge4 l4 g4
 have HR1 := Sd.mk (gH hu (fun _ _ q => q) (gB HR1.out (by repeat (with_reducible first | exact Upd.refl _ _ | apply Upd.gG n1_1 | apply Upd.gG n2_1 | apply Upd.alloc))))
 have HR2 := Sd.mk (gH hu (fun _ _ q => q) (gB HR2.out (by repeat (with_reducible first | exact Upd.refl _ _ | apply Upd.gG n1_2 | apply Upd.gG n2_2 | apply Upd.alloc))))
 have HR3 := Sd.mk (gH hu (fun _ _ q => q) (gB HR3.out (by repeat (with_reducible first | exact Upd.refl _ _ | apply Upd.gG n1_3 | apply Upd.gG n2_3 | apply Upd.alloc))))
 have HB_Out : Sd (Upd No w w_Out) := Sd.mk (Upd.then (by repeat (with_reducible first | exact HB_Links.out | apply Upd.bM | apply Upd.bL | apply Upd.bI | apply Upd.alloc | apply Upd.drewN | apply Upd.drew)) hu)
 have cc0_Out := fun o => hu.bB (b := w.heap.size) kB (fun q => q) o
 have cc1_Out := fun o => hu.bB (b := w.heap.size + 1) kB (fun q => q) o
 have cf1_Out := fun o => hu.dR (b := w.heap.size + 1) kB (fun q => q) o
 have cc2_Out := fun o => hu.bB (b := w.heap.size + 1 + 1) kB (fun q => q) o
 have cf2_Out := fun o => hu.dR (b := w.heap.size + 1 + 1) kB (fun q => q) o
 have hz_Out : w.heap.size + 1 + 1 + 1 ≤ w_Out.heap.size := by have := hu.size; (try simp at this); omega
 have hm_Out : w_Links.heap.size ≤ w_Out.heap.size := by have := hu.size; (try simp at this); omega
 clear hu
 go_wp2
 refine bodyPost_ret (v := .agg #[.int .i64 x.Id, .slice B1 x.aT.length b1, .slice B2 x.Loop.length b2, .slice B3 x.bZ.length b3, .slice B4 x.Out.length b4]) (by simp [results, Tryz.results53, go_sem, cc1_Entities, cc1_Loop, cc1_Links, cc1_Out]) rfl ⟨_, rfl, ?_, (by repeat (with_reducible first | exact HB_Out.out | apply Upd.bM | apply Upd.bL | apply Upd.bI | apply Upd.alloc | apply Upd.drewN | apply Upd.drew))⟩
 exact ki_Vat_mk _ _ _ (gB HR1.out (by repeat (with_reducible first | exact Upd.refl _ _ | apply Upd.gG n1_1 | apply Upd.gG n2_1 | apply Upd.alloc))) (gB HR2.out (by repeat (with_reducible first | exact Upd.refl _ _ | apply Upd.gG n1_2 | apply Upd.gG n2_2 | apply Upd.alloc))) (gB HR3.out (by repeat (with_reducible first | exact Upd.refl _ _ | apply Upd.gG n1_3 | apply Upd.gG n2_3 | apply Upd.alloc))) (gB HR4.out (by repeat (with_reducible first | exact Upd.refl _ _ | apply Upd.gG n1_4 | apply Upd.gG n2_4 | apply Upd.alloc))) (fun k hk => by have := GE1.out k hk; simp only [New]; omega) (fun k hk => by have := GE2.out k hk; simp only [New]; omega) (fun k hk => by have := GE3.out k hk; simp only [New]; omega) (fun k hk => by have := GE4.out k hk; simp only [New]; omega) (fun k hk hk' => by have h1 := LT1.out k hk; have h2 := GP2.out k hk'; omega) (fun k hk hk' => by have h1 := LT1.out k hk; have h2 := GP3.out k hk'; have := hm_Loop; omega) (fun k hk hk' => by have h1 := LT1.out k hk; have h2 := GP4.out k hk'; have := hm_Loop; have := hm_Links; omega) (fun k hk hk' => by have h1 := LT2.out k hk; have h2 := GP3.out k hk'; omega) (fun k hk hk' => by have h1 := LT2.out k hk; have h2 := GP4.out k hk'; have := hm_Links; omega) (fun k hk hk' => by have h1 := LT3.out k hk; have h2 := GP4.out k hk'; omega)
theorem toS_Vat (l : List GVat) (A : Option Addr) (c : Nat) (w : World) (h : C kl_Vat w A l) (hs : dF iI l ≤ 1048576) : Calls Tryz.prog 26 #[.slice A l.length c] w (lF iK 80 l w) := by
 have hn : l.length ≤ 1048576 := by unfold dF at hs; omega
 have hmk := iW (P := Tryz.prog) _ _ _ Tryz.underlying31 ki_Vat_info l.length hn kD
 have H := Sd.mk h
 have HS := Sd.mk hs
 clear h hs
 go_enter Tryz.func26, Tryz.ntmps26
 go_wp2
 clear hmk
 have HR : Sd (R iK 80 (w.alloc (fQ (.agg #[.int .i64 0, .slice none 0 0, .slice none 0 0, .slice none 0 0, .slice none 0 0]) (l.length * 5) 80)) (New w) (.slice (some ⟨w.heap.size, 0, none⟩) l.length l.length) (List.replicate l.length zVat)) := Sd.mk (lG (d := iK) (e := 80) w (.agg #[.int .i64 0, .slice none 0 0, .slice none 0 0, .slice none 0 0, .slice none 0 0]) zVat rfl kD ki_Vat_zero l.length hn)
 have HU := Sd.mk ((Upd.refl No w).alloc (fQ (.agg #[.int .i64 0, .slice none 0 0, .slice none 0 0, .slice none 0 0, .slice none 0 0]) (l.length * 5) 80))
 go_loopg [4] l.length (fun k v wr => ∃ i : Nat, i + k = l.length ∧ v = .int .i64 i ∧ Sd (R iK 80 wr (New w) (.slice (some ⟨w.heap.size, 0, none⟩) l.length l.length) (upTo l (List.replicate l.length zVat) i)) ∧ Sd (Upd No w wr))
 case atStart => exact ⟨0, by omega, rfl, ⟨by rw [iM]; exact HR.out⟩, HU⟩
 case round =>
  clear HR HU
  obtain ⟨i, hi, rfl, HR, HU⟩ := hrel
  by_cases hlt : i < l.length
  ·obtain ⟨ad, A1, c1, A2, c2, A3, c3, A4, c4, rfl, a0, a1, a2, a3, a4, hl1, hC1, hl2, hC2, hl3, hC3, hl4, hC4⟩ := kl_Vat_at (aS HU.out H.out) i hlt
   have HC1 := Sd.mk hC1
   clear hC1
   have HC2 := Sd.mk hC2
   clear hC2
   have HC3 := Sd.mk hC3
   clear hC3
   have HC4 := Sd.mk hC4
   clear hC4
   have hsi : iI l[i] ≤ 1048576 := by have := HS.out; have := jQ iI l i hlt; unfold dF at *; omega
   go_wp2_with fail
   with_reducible refine (to_Vat l[i] _ _ (kl_Vat_Kmk _ _ hl1 HC1.out hl2 HC2.out hl3 HC3.out hl4 HC4.out) hsi).mono ?_
   rintro e w1 ⟨cs, rfl, hM, hu⟩
   obtain ⟨v1, P1, v2, P2, v3, P3, v4, P4, rfl, hR1, hR2, hR3, hR4, i1, i2, i3, i4, d1_2, d1_3, d1_4, d2_3, d2_4, d3_4⟩ := ki_Vat_M (iK.M_lt hM)
   obtain ⟨D1, d1, rfl⟩ := fI hR1
   obtain ⟨D2, d2, rfl⟩ := fI hR2
   obtain ⟨D3, d3, rfl⟩ := fI hR3
   obtain ⟨D4, d4, rfl⟩ := fI hR4
   have HRowA := gH hu (fun _ _ q => q) (R_lt HR.out)
   have HU1 := Sd.mk (HU.out.then hu)
   have hzw := HU.out.size
   have HR1 := Sd.mk hR1
   have I1 := Sd.mk i1
   have HR2 := Sd.mk hR2
   have I2 := Sd.mk i2
   have HR3 := Sd.mk hR3
   have I3 := Sd.mk i3
   have HR4 := Sd.mk hR4
   have I4 := Sd.mk i4
   have D1_2 := Sd.mk d1_2
   have D1_3 := Sd.mk d1_3
   have D1_4 := Sd.mk d1_4
   have D2_3 := Sd.mk d2_3
   have D2_4 := Sd.mk d2_4
   have D3_4 := Sd.mk d3_4
   clear HR HU hM hu hR1 i1 hR2 i2 hR3 i3 hR4 i4 d1_2 d1_3 d1_4 d2_3 d2_4 d3_4
   obtain ⟨g, cap, cur, ce, Fi, hv, hcap, hat, hM, hg, hFi, hFg, close⟩ := lD HRowA 5 l.length rfl (by rw [iU (by simp) (by simp; omega)]; simp) i zVat (by rw [jP (by simp) (by simpa using hlt)]; simp)
   cases hv
   obtain ⟨y1, _, y2, _, y3, _, y4, _, rfl, -⟩ := ki_Vat_M hM
   have HAT := Sd.mk hat
   have x0 := hat.cell0 _ rfl
   have x1 := hat.cell 1 _ rfl
   have x2 := hat.cell 2 _ rfl
   have x3 := hat.cell 3 _ rfl
   have x4 := hat.cell 4 _ rfl
   have f0 := hat.free (i * 5)
   have f1 := hat.free (i * 5 + 1)
   have f2 := hat.free (i * 5 + 2)
   have f3 := hat.free (i * 5 + 3)
   have f4 := hat.free (i * 5 + 4)
   have CL := Sd.mk close
   clear hat close hM HRowA
   go_wp2
   have HA := ((((HAT.out.set0 kD (.int .i64 l[i].Id)).set 1 kD (.slice D1 l[i].aT.length d1)).set 2 kD (.slice D2 l[i].Loop.length d2)).set 3 kD (.slice D3 l[i].bZ.length d3)).set 4 kD (.slice D4 l[i].Out.length d4)
   have hD1 : ∀ b, P1 b → ¬ (b = w.heap.size ∨ Fi b) := by
    intro b hb q
    have h1 := (I1.out b hb).1
    simp only [New] at h1
    rcases q with rfl | q
    ·exact absurd hg.2 kO
    ·have h2 := (hFi b q).2
     omega
   have hD2 : ∀ b, P2 b → ¬ (b = w.heap.size ∨ Fi b) := by
    intro b hb q
    have h1 := (I2.out b hb).1
    simp only [New] at h1
    rcases q with rfl | q
    ·exact absurd hg.2 kO
    ·have h2 := (hFi b q).2
     omega
   have hD3 : ∀ b, P3 b → ¬ (b = w.heap.size ∨ Fi b) := by
    intro b hb q
    have h1 := (I3.out b hb).1
    simp only [New] at h1
    rcases q with rfl | q
    ·exact absurd hg.2 kO
    ·have h2 := (hFi b q).2
     omega
   have hD4 : ∀ b, P4 b → ¬ (b = w.heap.size ∨ Fi b) := by
    intro b hb q
    have h1 := (I4.out b hb).1
    simp only [New] at h1
    rcases q with rfl | q
    ·exact absurd hg.2 kO
    ·have h2 := (hFi b q).2
     omega
   have HM := ki_Vat_mk _ (fun b => P1 b ∨ P2 b ∨ P3 b ∨ P4 b) l[i] (gH HA.upd hD1 HR1.out) (gH HA.upd hD2 HR2.out) (gH HA.upd hD3 HR3.out) (gH HA.upd hD4 HR4.out) (fun k hk => Or.inl hk) (fun k hk => Or.inr (Or.inl hk)) (fun k hk => Or.inr (Or.inr (Or.inl hk))) (fun k hk => Or.inr (Or.inr (Or.inr (hk)))) D1_2.out D1_3.out D1_4.out D2_3.out D2_4.out D3_4.out
   have hP1 : ∀ b, (P1 b ∨ P2 b ∨ P3 b ∨ P4 b) → New wr b := by
    intro b hb
    rcases hb with hb | hb | hb | hb
    ·exact (I1.out b hb).1
    ·exact (I2.out b hb).1
    ·exact (I3.out b hb).1
    ·exact (I4.out b hb).1
   have HRowB := CL.out _ _ l[i] _ (New w) HA HM (fun b hb => .inr (fun q => by have h1 := hP1 b hb; have h2 := q.2; simp only [New] at h1; omega)) (fun _ q => q.1) (fun b hb => by have h1 := hP1 b hb; simp only [New] at h1 ⊢; omega)
   rw [iV (by simp) (by simpa using hlt)] at HRowB
   go_roundg (gk - 1)
   case measure => omega
   case rel => exact ⟨i + 1, by omega, by go_num, ⟨HRowB⟩, ⟨by repeat (with_reducible first | exact HU1.out | apply Upd.bI)⟩⟩
  ·go_wp2
   go_ret
   have HRowB := HR.out
   rw [iT (by simp) (by simp; omega)] at HRowB
   exact ⟨_, rfl, HRowB, HU.out⟩
theorem sz_Vat (x : GVat) (cs : List Value) (n : Int) (w : World) (h : kl_Vat.K w x cs) (hb : Bd_Vat x) (h0 : 0 ≤ n) (h1 : n ≤ 1048576) : Calls Tryz.prog 50 #[.agg cs.toArray, .int .i64 n] w (jS (iI x) n w) := by
 obtain ⟨A1, c1, A2, c2, A3, c3, A4, c4, rfl, hl1, hC1, hl2, hC2, hl3, hC3, hl4, hC4⟩ := kl_Vat_K h
 have HC1 := Sd.mk hC1
 have HC2 := Sd.mk hC2
 have HC3 := Sd.mk hC3
 have HC4 := Sd.mk hC4
 clear hC1 hC2 hC3 hC4
 obtain ⟨b_Entities, b_Loop, b_Out⟩ := hb
 have B_Entities := Sd.mk b_Entities
 clear b_Entities
 have B_Loop := Sd.mk b_Loop
 clear b_Loop
 have B_Out := Sd.mk b_Out
 clear b_Out
 go_enter Tryz.func50, Tryz.ntmps50
 go_wp2_with fail
 with_reducible refine (szS_Entity x.aT _ _ _ _ ?hc_Entities B_Entities.out kO kO).mono ?_
 case hc_Entities => exact aS kA HC1.out
 rintro e w_Entities ⟨r_Entities, rfl, hr_Entities, hu⟩
 have HB_Entities : Sd (Upd No w w_Entities) := Sd.mk (Upd.then kA hu)
 have cc0_Entities := fun o => hu.bB (b := w.heap.size) kB (fun q => q) o
 have hz_Entities : w.heap.size + 1 ≤ w_Entities.heap.size := by have := hu.size; (try simp at this); omega
 clear hu
 rcases hr_Entities with ⟨q_Entities, rfl⟩ | ⟨q_Entities, rfl⟩
 case inr =>
  go_wp2
  go_ret
  exact ⟨_, rfl, .inr ⟨by unfold iI; omega, rfl⟩, (by repeat (with_reducible first | exact HB_Entities.out | apply Upd.bM | apply Upd.bL | apply Upd.bI | apply Upd.alloc | apply Upd.drewN | apply Upd.drew))⟩
 go_wp2_with fail
 with_reducible refine (szS_Sent x.Loop _ _ _ _ ?hc_Loop B_Loop.out kO kO).mono ?_
 case hc_Loop => exact aS (by repeat (with_reducible first | exact HB_Entities.out | apply Upd.bM | apply Upd.bL | apply Upd.bI | apply Upd.alloc | apply Upd.drewN | apply Upd.drew)) HC2.out
 rintro e w_Loop ⟨r_Loop, rfl, hr_Loop, hu⟩
 have HB_Loop : Sd (Upd No w w_Loop) := Sd.mk (Upd.then (by repeat (with_reducible first | exact HB_Entities.out | apply Upd.bM | apply Upd.bL | apply Upd.bI | apply Upd.alloc | apply Upd.drewN | apply Upd.drew)) hu)
 have cc0_Loop := fun o => hu.bB (b := w.heap.size) kB (fun q => q) o
 have hz_Loop : w.heap.size + 1 ≤ w_Loop.heap.size := by have := hu.size; (try simp at this); omega
 clear hu
 rcases hr_Loop with ⟨q_Loop, rfl⟩ | ⟨q_Loop, rfl⟩
 case inr =>
  go_wp2
  go_ret
  exact ⟨_, rfl, .inr ⟨by unfold iI; omega, rfl⟩, (by repeat (with_reducible first | exact HB_Loop.out | apply Upd.bM | apply Upd.bL | apply Upd.bI | apply Upd.alloc | apply Upd.drewN | apply Upd.drew))⟩
 go_wp2_with fail
 with_reducible refine (szS_Link x.bZ _ _ _ _ ?hc_Links kO kO).mono ?_
 case hc_Links => exact aS (by repeat (with_reducible first | exact HB_Loop.out | apply Upd.bM | apply Upd.bL | apply Upd.bI | apply Upd.alloc | apply Upd.drewN | apply Upd.drew)) HC3.out
 rintro e w_Links ⟨r_Links, rfl, hr_Links, hu⟩
 have HB_Links : Sd (Upd No w w_Links) := Sd.mk (Upd.then (by repeat (with_reducible first | exact HB_Loop.out | apply Upd.bM | apply Upd.bL | apply Upd.bI | apply Upd.alloc | apply Upd.drewN | apply Upd.drew)) hu)
 have cc0_Links := fun o => hu.bB (b := w.heap.size) kB (fun q => q) o
 have hz_Links : w.heap.size + 1 ≤ w_Links.heap.size := by have := hu.size; (try simp at this); omega
 clear hu
 rcases hr_Links with ⟨q_Links, rfl⟩ | ⟨q_Links, rfl⟩
 case inr =>
  go_wp2
  go_ret
  exact ⟨_, rfl, .inr ⟨by unfold iI; omega, rfl⟩, (by repeat (with_reducible first | exact HB_Links.out | apply Upd.bM | apply Upd.bL | apply Upd.bI | apply Upd.alloc | apply Upd.drewN | apply Upd.drew))⟩
 go_wp2_with fail
 with_reducible refine (szS_Outgoing x.Out _ _ _ _ ?hc_Out B_Out.out kO kO).mono ?_
 case hc_Out => exact aS (by repeat (with_reducible first | exact HB_Links.out | apply Upd.bM | apply Upd.bL | apply Upd.bI | apply Upd.alloc | apply Upd.drewN | apply Upd.drew)) HC4.out
 rintro e w_Out ⟨r_Out, rfl, hr_Out, hu⟩
 have HB_Out : Sd (Upd No w w_Out) := Sd.mk (Upd.then (by repeat (with_reducible first | exact HB_Links.out | apply Upd.bM | apply Upd.bL | apply Upd.bI | apply Upd.alloc | apply Upd.drewN | apply Upd.drew)) hu)
 have cc0_Out := fun o => hu.bB (b := w.heap.size) kB (fun q => q) o
 have hz_Out : w.heap.size + 1 ≤ w_Out.heap.size := by have := hu.size; (try simp at this); omega
 clear hu
 rcases hr_Out with ⟨q_Out, rfl⟩ | ⟨q_Out, rfl⟩
 case inr =>
  go_wp2
  go_ret
  exact ⟨_, rfl, .inr ⟨by unfold iI; omega, rfl⟩, (by repeat (with_reducible first | exact HB_Out.out | apply Upd.bM | apply Upd.bL | apply Upd.bI | apply Upd.alloc | apply Upd.drewN | apply Upd.drew))⟩
 go_wp2
 go_ret
 exact ⟨_, rfl, .inl ⟨by unfold iI; omega, by unfold iI; omega⟩, (by repeat (with_reducible first | exact HB_Out.out | apply Upd.bM | apply Upd.bL | apply Upd.bI | apply Upd.alloc | apply Upd.drewN | apply Upd.drew))⟩
theorem szS_Vat (l : List GVat) (A : Option Addr) (c : Nat) (n : Int) (w : World) (h : C kl_Vat w A l) (hb : ∀ y ∈ l, Bd_Vat y) (h0 : 0 ≤ n) (h1 : n ≤ 1048576) : Calls Tryz.prog 20 #[.slice A l.length c, .int .i64 n] w (jS (dF iI l) n w) := by
 have hn := h.1
 have H := Sd.mk h
 clear h
 have HBD := Sd.mk hb
 clear hb
 go_enter Tryz.func20, Tryz.ntmps20
 by_cases q0 : (l.length : Int) ≤ n
 case neg =>
  go_wp2
  go_ret
  exact ⟨_, rfl, .inr ⟨by unfold dF; omega, rfl⟩, Upd.refl _ _⟩
 go_wp2
 go_loopg [1, 5] l.length (fun k u v wr => ∃ i : Nat, i + k = l.length ∧ (gP iI (l.take i) : Int) ≤ n - l.length ∧ u = .int .i64 (n - l.length - gP iI (l.take i)) ∧ v = .int .i64 i ∧ Sd (Upd No w wr))
 case atStart => exact ⟨0, by omega, by simp [gP]; omega, by simp [gP], rfl, ⟨Upd.refl _ _⟩⟩
 case round =>
  obtain ⟨i, hi, hle, rfl, rfl, HU⟩ := hrel
  by_cases hlt : i < l.length
  ·obtain ⟨ad, A1, c1, A2, c2, A3, c3, A4, c4, rfl, a0, a1, a2, a3, a4, hl1, hC1, hl2, hC2, hl3, hC3, hl4, hC4⟩ := kl_Vat_at (aS HU.out H.out) i hlt
   have HC1 := Sd.mk hC1
   clear hC1
   have HC2 := Sd.mk hC2
   clear hC2
   have HC3 := Sd.mk hC3
   clear hC3
   have HC4 := Sd.mk hC4
   clear hC4
   have hst := kI iI l i hlt
   have HST := Sd.mk (jB iI l i hlt)
   generalize hs : gP iI (l.take i) = s at *
   have HS := Sd.mk hs
   clear hs
   go_wp2_with fail
   with_reducible refine (sz_Vat l[i] _ _ _ (kl_Vat_Kmk _ _ hl1 HC1.out hl2 HC2.out hl3 HC3.out hl4 HC4.out) (HBD.out _ (List.getElem_mem hlt)) kO kO).mono ?_
   rintro e w1 ⟨r, rfl, hr, hu⟩
   have HU1 := Sd.mk (HU.out.then hu)
   clear hu HU
   rcases hr with ⟨q, rfl⟩ | ⟨q, rfl⟩
   ·go_wp2
    go_roundg (gk - 1)
    case measure => omega
    case rel => exact ⟨i + 1, by omega, by rw [HST.out]; omega, by rw [HST.out]; exact congrArg (Value.int .i64) kO, by go_num, HU1⟩
   ·go_wp2
    go_ret
    exact ⟨_, rfl, .inr ⟨by unfold dF; omega, rfl⟩, HU1.out⟩
  ·go_wp2
   go_ret
   have e : l.take i = l := List.take_of_length_le kO
   rw [e] at hle
   exact ⟨_, rfl, .inl ⟨by unfold dF; omega, by rw [e]; unfold dF; omega⟩, HU.out⟩
theorem eq_Vat (x : GVat) (cs cs' : List Value) (w : World) (h : iK.K w x cs) (h' : iK.K w x cs') : Calls Tryz.prog 59 #[.agg cs.toArray, .agg cs'.toArray] w (bW true w) := by
 obtain ⟨A1, c1, A2, c2, A3, c3, A4, c4, rfl, hl1, hC1, hl2, hC2, hl3, hC3, hl4, hC4⟩ := oV h
 have HC1 := Sd.mk hC1
 have HC2 := Sd.mk hC2
 have HC3 := Sd.mk hC3
 have HC4 := Sd.mk hC4
 clear hC1 hC2 hC3 hC4
 obtain ⟨B1, b1, B2, b2, B3, b3, B4, b4, rfl, hm1, hD1, hm2, hD2, hm3, hD3, hm4, hD4⟩ := oV h'
 have HD1 := Sd.mk hD1
 have HD2 := Sd.mk hD2
 have HD3 := Sd.mk hD3
 have HD4 := Sd.mk hD4
 clear hD1 hD2 hD3 hD4
 go_enter Tryz.func59, Tryz.ntmps59
 go_wp2_with fail
 with_reducible refine (eqS_Entity x.aT _ _ _ _ _ ?hc_Entities ?hd_Entities).mono ?_
 case hc_Entities => exact aS kA HC1.out
 case hd_Entities => exact aS kA HD1.out
 rintro e w_Entities ⟨rfl, hu⟩
 have HB_Entities : Sd (Upd No w w_Entities) := Sd.mk (Upd.then kA hu)
 have cc0_Entities := fun o => hu.bB (b := w.heap.size) kB (fun q => q) o
 have cc1_Entities := fun o => hu.bB (b := w.heap.size + 1) kB (fun q => q) o
 have hz_Entities : w.heap.size + 1 + 1 ≤ w_Entities.heap.size := by have := hu.size; (try simp at this); omega
 clear hu
 go_wp2_with fail
 with_reducible refine (eqS_Sent x.Loop _ _ _ _ _ ?hc_Loop ?hd_Loop).mono ?_
 case hc_Loop => exact aS (by repeat (with_reducible first | exact HB_Entities.out | apply Upd.bM | apply Upd.bL | apply Upd.bI | apply Upd.alloc | apply Upd.drewN | apply Upd.drew)) HC2.out
 case hd_Loop => exact aS (by repeat (with_reducible first | exact HB_Entities.out | apply Upd.bM | apply Upd.bL | apply Upd.bI | apply Upd.alloc | apply Upd.drewN | apply Upd.drew)) HD2.out
 rintro e w_Loop ⟨rfl, hu⟩
 have HB_Loop : Sd (Upd No w w_Loop) := Sd.mk (Upd.then (by repeat (with_reducible first | exact HB_Entities.out | apply Upd.bM | apply Upd.bL | apply Upd.bI | apply Upd.alloc | apply Upd.drewN | apply Upd.drew)) hu)
 have cc0_Loop := fun o => hu.bB (b := w.heap.size) kB (fun q => q) o
 have cc1_Loop := fun o => hu.bB (b := w.heap.size + 1) kB (fun q => q) o
 have hz_Loop : w.heap.size + 1 + 1 ≤ w_Loop.heap.size := by have := hu.size; (try simp at this); omega
 clear hu
 go_wp2_with fail
 with_reducible refine (eqS_Link x.bZ _ _ _ _ _ ?hc_Links ?hd_Links).mono ?_
 case hc_Links => exact aS (by repeat (with_reducible first | exact HB_Loop.out | apply Upd.bM | apply Upd.bL | apply Upd.bI | apply Upd.alloc | apply Upd.drewN | apply Upd.drew)) HC3.out
 case hd_Links => exact aS (by repeat (with_reducible first | exact HB_Loop.out | apply Upd.bM | apply Upd.bL | apply Upd.bI | apply Upd.alloc | apply Upd.drewN | apply Upd.drew)) HD3.out
 rintro e w_Links ⟨rfl, hu⟩
 have HB_Links : Sd (Upd No w w_Links) := Sd.mk (Upd.then (by repeat (with_reducible first | exact HB_Loop.out | apply Upd.bM | apply Upd.bL | apply Upd.bI | apply Upd.alloc | apply Upd.drewN | apply Upd.drew)) hu)
 have cc0_Links := fun o => hu.bB (b := w.heap.size) kB (fun q => q) o
 have cc1_Links := fun o => hu.bB (b := w.heap.size + 1) kB (fun q => q) o
 have hz_Links : w.heap.size + 1 + 1 ≤ w_Links.heap.size := by have := hu.size; (try simp at this); omega
 clear hu
 go_wp2_with fail
 with_reducible refine (eqS_Outgoing x.Out _ _ _ _ _ ?hc_Out ?hd_Out).mono ?_
 case hc_Out => exact aS (by repeat (with_reducible first | exact HB_Links.out | apply Upd.bM | apply Upd.bL | apply Upd.bI | apply Upd.alloc | apply Upd.drewN | apply Upd.drew)) HC4.out
 case hd_Out => exact aS (by repeat (with_reducible first | exact HB_Links.out | apply Upd.bM | apply Upd.bL | apply Upd.bI | apply Upd.alloc | apply Upd.drewN | apply Upd.drew)) HD4.out
 rintro e w_Out ⟨rfl, hu⟩
 have HB_Out : Sd (Upd No w w_Out) := Sd.mk (Upd.then (by repeat (with_reducible first | exact HB_Links.out | apply Upd.bM | apply Upd.bL | apply Upd.bI | apply Upd.alloc | apply Upd.drewN | apply Upd.drew)) hu)
 have cc0_Out := fun o => hu.bB (b := w.heap.size) kB (fun q => q) o
 have cc1_Out := fun o => hu.bB (b := w.heap.size + 1) kB (fun q => q) o
 have hz_Out : w.heap.size + 1 + 1 ≤ w_Out.heap.size := by have := hu.size; (try simp at this); omega
 clear hu
 go_wp2
 go_ret
 exact ⟨rfl, (by repeat (with_reducible first | exact HB_Out.out | apply Upd.bM | apply Upd.bL | apply Upd.bI | apply Upd.alloc | apply Upd.drewN | apply Upd.drew))⟩
theorem eqS_Vat (l : List GVat) (A A' : Option Addr) (c c' : Nat) (w : World) (h : C iK w A l) (h' : C iK w A' l) : Calls Tryz.prog 31 #[.slice A l.length c, .slice A' l.length c'] w (bW true w) := by
 have hn := h.1
 have H := Sd.mk h
 have H' := Sd.mk h'
 clear h h'
 go_enter Tryz.func31, Tryz.ntmps31
 go_wp2
 go_loopg [5] l.length (fun k v wr => ∃ i : Nat, i + k = l.length ∧ v = .int .i64 i ∧ Sd (Upd No w wr))
 case atStart => exact ⟨0, by omega, rfl, ⟨Upd.refl _ _⟩⟩
 case round =>
  obtain ⟨i, hi, rfl, HU⟩ := hrel
  by_cases hlt : i < l.length
  ·obtain ⟨ad, A1, c1, A2, c2, A3, c3, A4, c4, rfl, a0, a1, a2, a3, a4, hl1, hC1, hl2, hC2, hl3, hC3, hl4, hC4⟩ := ki_Vat_at (aS HU.out H.out) i hlt
   obtain ⟨ad', B1, b1, B2, b2, B3, b3, B4, b4, rfl, z0, z1, z2, z3, z4, hm1, hD1, hm2, hD2, hm3, hD3, hm4, hD4⟩ := ki_Vat_at (aS HU.out H'.out) i hlt
   have HC1 := Sd.mk hC1
   have HD1 := Sd.mk hD1
   clear hC1 hD1
   have HC2 := Sd.mk hC2
   have HD2 := Sd.mk hD2
   clear hC2 hD2
   have HC3 := Sd.mk hC3
   have HD3 := Sd.mk hD3
   clear hC3 hD3
   have HC4 := Sd.mk hC4
   have HD4 := Sd.mk hD4
   clear hC4 hD4
   go_wp2_with fail
   go_still_tail 8, kR
   change wpList _ _ _ _ _ wr.drew
   have HW : Sd (Upd No wr wr.drew) := ⟨(Upd.refl _ _).drew⟩
   have HU2 : Sd (Upd No w wr.drew) := ⟨HU.out.drew⟩
   generalize wr.drew = w2 at *
   go_wp2_with (go_at_call 59; (with_reducible refine (eq_Vat l[i] _ _ _ (ki_Vat_Kmk _ _ hl1 (aS HW.out HC1.out) hl2 (aS HW.out HC2.out) hl3 (aS HW.out HC3.out) hl4 (aS HW.out HC4.out)) (ki_Vat_Kmk _ _ hm1 (aS HW.out HD1.out) hm2 (aS HW.out HD2.out) hm3 (aS HW.out HD3.out) hm4 (aS HW.out HD4.out))).mono ?_); rintro e w' ⟨rfl, hu⟩)
   have HU3 := Sd.mk (HU2.out.then hu)
   clear HU2 hu
   go_wp2
   go_roundg (gk - 1)
   case measure => omega
   case rel => exact ⟨i + 1, by omega, by go_num, HU3⟩
  ·go_wp2
   go_ret
   exact ⟨rfl, HU.out⟩
theorem kl_Channel_Kmk (w : World) (x : GChannel) {A2 : Option Addr} {c2 : Nat} (hl2 : x.List.length ≤ c2) (hC2 : C iE w A2 x.List) : jE.K w x [.int .i64 x.From, .int .i64 x.To, .slice A2 x.List.length c2] := ⟨[_], [_, _], rfl, rfl, ⟨[_], [_], rfl, rfl, ⟨A2, c2, rfl, hl2, hC2⟩⟩⟩
theorem ki_Channel_Kmk (w : World) (x : GChannel) {A2 : Option Addr} {c2 : Nat} (hl2 : x.List.length ≤ c2) (hC2 : C dM w A2 x.List) : dQ.K w x [.int .i64 x.From, .int .i64 x.To, .slice A2 x.List.length c2] := ⟨[_], [_, _], rfl, rfl, ⟨[_], [_], rfl, rfl, ⟨A2, c2, rfl, hl2, hC2⟩⟩⟩
theorem to_Channel (x : GChannel) (cs : List Value) (w : World) (h : jE.K w x cs) (hs : gL x ≤ 1048576) : Calls Tryz.prog 54 #[.agg cs.toArray] w (kK dQ x w) := by
 obtain ⟨A2, c2, rfl, hl2, hC2⟩ := kl_Channel_K h
 have HC2 := Sd.mk hC2
 clear hC2
 have s_List : dF fG x.List ≤ 1048576 := by unfold gL at hs; omega
 clear hs
 go_enter Tryz.func54, Tryz.ntmps54
 go_wp2_with fail
 with_reducible refine (toS_Message x.List _ _ _ ?hc_List s_List).mono ?_
 case hc_List => exact aS kA HC2.out
 rintro e w_List ⟨v2, rfl, hR2, hu⟩
 obtain ⟨B2, b2, rfl⟩ := fI hR2
 obtain ⟨P2, hR2', g2, l2⟩ := gV hR2 (w.heap.size + 1 + 1 + 1) kB
 have ge2 : ∀ b, P2 b → w.heap.size + 1 + 1 < b := fun b hb => by have := g2 b hb; omega
 have n1_2 : ¬ P2 (w.heap.size + 1) := fun q => by have := ge2 _ q; omega
 have n2_2 : ¬ P2 (w.heap.size + 1 + 1) := fun q => by have := ge2 _ q; omega
 have HR2 := Sd.mk hR2'
 have GE2 := Sd.mk ge2
 have LT2 := Sd.mk l2
 have GP2 := Sd.mk g2
 clear hR2 hR2' ge2 l2 g2
 have HB_List : Sd (Upd No w w_List) := Sd.mk (Upd.then kA hu)
 have cc0_List := fun o => hu.bB (b := w.heap.size) kB (fun q => q) o
 have cc1_List := fun o => hu.bB (b := w.heap.size + 1) kB (fun q => q) o
 have cf1_List := fun o => hu.dR (b := w.heap.size + 1) kB (fun q => q) o
 have cc2_List := fun o => hu.bB (b := w.heap.size + 1 + 1) kB (fun q => q) o
 have cf2_List := fun o => hu.dR (b := w.heap.size + 1 + 1) kB (fun q => q) o
 have hz_List : w.heap.size + 1 + 1 + 1 ≤ w_List.heap.size := by have := hu.size; (try simp at this); omega
 clear hu
 go_wp2
 refine bodyPost_ret (v := .agg #[.int .i64 x.From, .int .i64 x.To, .slice B2 x.List.length b2]) (by simp [results, Tryz.results54, go_sem, cc1_List]) rfl ⟨_, rfl, ?_, (by repeat (with_reducible first | exact HB_List.out | apply Upd.bM | apply Upd.bL | apply Upd.bI | apply Upd.alloc | apply Upd.drewN | apply Upd.drew))⟩
 exact pI _ _ _ (gB HR2.out (by repeat (with_reducible first | exact Upd.refl _ _ | apply Upd.gG n1_2 | apply Upd.gG n2_2 | apply Upd.alloc))) (fun k hk => by have := GE2.out k hk; simp only [New]; omega)
theorem toS_Channel (l : List GChannel) (A : Option Addr) (c : Nat) (w : World) (h : C jE w A l) (hs : dF gL l ≤ 1048576) : Calls Tryz.prog 27 #[.slice A l.length c] w (lF dQ 102 l w) := by
 have hn : l.length ≤ 1048576 := by unfold dF at hs; omega
 have hmk := iW (P := Tryz.prog) _ _ _ Tryz.underlying32 ki_Channel_info l.length hn kD
 have H := Sd.mk h
 have HS := Sd.mk hs
 clear h hs
 go_enter Tryz.func27, Tryz.ntmps27
 go_wp2
 clear hmk
 have HR : Sd (R dQ 102 (w.alloc (fQ (.agg #[.int .i64 0, .int .i64 0, .slice none 0 0]) (l.length * 3) 102)) (New w) (.slice (some ⟨w.heap.size, 0, none⟩) l.length l.length) (List.replicate l.length oO)) := Sd.mk (lG (d := dQ) (e := 102) w (.agg #[.int .i64 0, .int .i64 0, .slice none 0 0]) oO rfl kD ki_Channel_zero l.length hn)
 have HU := Sd.mk ((Upd.refl No w).alloc (fQ (.agg #[.int .i64 0, .int .i64 0, .slice none 0 0]) (l.length * 3) 102))
 go_loopg [4] l.length (fun k v wr => ∃ i : Nat, i + k = l.length ∧ v = .int .i64 i ∧ Sd (R dQ 102 wr (New w) (.slice (some ⟨w.heap.size, 0, none⟩) l.length l.length) (upTo l (List.replicate l.length oO) i)) ∧ Sd (Upd No w wr))
 case atStart => exact ⟨0, by omega, rfl, ⟨by rw [iM]; exact HR.out⟩, HU⟩
 case round =>
  clear HR HU
  obtain ⟨i, hi, rfl, HR, HU⟩ := hrel
  by_cases hlt : i < l.length
  ·obtain ⟨ad, A2, c2, rfl, a0, a1, a2, hl2, hC2⟩ := kl_Channel_at (aS HU.out H.out) i hlt
   have HC2 := Sd.mk hC2
   clear hC2
   have hsi : gL l[i] ≤ 1048576 := by have := HS.out; have := jQ gL l i hlt; unfold dF at *; omega
   go_wp2_with fail
   with_reducible refine (to_Channel l[i] _ _ (kl_Channel_Kmk _ _ hl2 HC2.out) hsi).mono ?_
   rintro e w1 ⟨cs, rfl, hM, hu⟩
   obtain ⟨v2, P2, rfl, hR2, i2⟩ := ki_Channel_M (dQ.M_lt hM)
   obtain ⟨D2, d2, rfl⟩ := fI hR2
   have HRowA := gH hu (fun _ _ q => q) (R_lt HR.out)
   have HU1 := Sd.mk (HU.out.then hu)
   have hzw := HU.out.size
   have HR2 := Sd.mk hR2
   have I2 := Sd.mk i2
   clear HR HU hM hu hR2 i2
   obtain ⟨g, cap, cur, ce, Fi, hv, hcap, hat, hM, hg, hFi, hFg, close⟩ := lD HRowA 3 l.length rfl (by rw [iU (by simp) (by simp; omega)]; simp) i oO (by rw [jP (by simp) (by simpa using hlt)]; simp)
   cases hv
   obtain ⟨y2, _, rfl, -⟩ := ki_Channel_M hM
   have HAT := Sd.mk hat
   have x0 := hat.cell0 _ rfl
   have x1 := hat.cell 1 _ rfl
   have x2 := hat.cell 2 _ rfl
   have f0 := hat.free (i * 3)
   have f1 := hat.free (i * 3 + 1)
   have f2 := hat.free (i * 3 + 2)
   have CL := Sd.mk close
   clear hat close hM HRowA
   go_wp2
   have HA := ((HAT.out.set0 kD (.int .i64 l[i].From)).set 1 kD (.int .i64 l[i].To)).set 2 kD (.slice D2 l[i].List.length d2)
   have hD2 : ∀ b, P2 b → ¬ (b = w.heap.size ∨ Fi b) := by
    intro b hb q
    have h1 := (I2.out b hb).1
    simp only [New] at h1
    rcases q with rfl | q
    ·exact absurd hg.2 kO
    ·have h2 := (hFi b q).2
     omega
   have HM := pI _ (fun b => P2 b) l[i] (gH HA.upd hD2 HR2.out) (fun k hk => hk)
   have hP1 : ∀ b, (P2 b) → New wr b := by
    intro b hb
    exact (I2.out b hb).1
   have HRowB := CL.out _ _ l[i] _ (New w) HA HM (fun b hb => .inr (fun q => by have h1 := hP1 b hb; have h2 := q.2; simp only [New] at h1; omega)) (fun _ q => q.1) (fun b hb => by have h1 := hP1 b hb; simp only [New] at h1 ⊢; omega)
   rw [iV (by simp) (by simpa using hlt)] at HRowB
   go_roundg (gk - 1)
   case measure => omega
   case rel => exact ⟨i + 1, by omega, by go_num, ⟨HRowB⟩, ⟨by repeat (with_reducible first | exact HU1.out | apply Upd.bI)⟩⟩
  ·go_wp2
   go_ret
   have HRowB := HR.out
   rw [iT (by simp) (by simp; omega)] at HRowB
   exact ⟨_, rfl, HRowB, HU.out⟩
theorem sz_Channel (x : GChannel) (cs : List Value) (n : Int) (w : World) (h : jE.K w x cs) (hb : oP x) (h0 : 0 ≤ n) (h1 : n ≤ 1048576) : Calls Tryz.prog 51 #[.agg cs.toArray, .int .i64 n] w (jS (gL x) n w) := by
 obtain ⟨A2, c2, rfl, hl2, hC2⟩ := kl_Channel_K h
 have HC2 := Sd.mk hC2
 clear hC2
 have b_List := hb
 unfold oP at b_List
 have B_List := Sd.mk b_List
 clear b_List
 go_enter Tryz.func51, Tryz.ntmps51
 go_wp2_with fail
 with_reducible refine (szS_Message x.List _ _ _ _ ?hc_List B_List.out kO kO).mono ?_
 case hc_List => exact aS kA HC2.out
 rintro e w_List ⟨r_List, rfl, hr_List, hu⟩
 have HB_List : Sd (Upd No w w_List) := Sd.mk (Upd.then kA hu)
 have cc0_List := fun o => hu.bB (b := w.heap.size) kB (fun q => q) o
 have hz_List : w.heap.size + 1 ≤ w_List.heap.size := by have := hu.size; (try simp at this); omega
 clear hu
 rcases hr_List with ⟨q_List, rfl⟩ | ⟨q_List, rfl⟩
 case inr =>
  go_wp2
  go_ret
  exact ⟨_, rfl, .inr ⟨by unfold gL; omega, rfl⟩, (by repeat (with_reducible first | exact HB_List.out | apply Upd.bM | apply Upd.bL | apply Upd.bI | apply Upd.alloc | apply Upd.drewN | apply Upd.drew))⟩
 go_wp2
 go_ret
 exact ⟨_, rfl, .inl ⟨by unfold gL; omega, by unfold gL; omega⟩, (by repeat (with_reducible first | exact HB_List.out | apply Upd.bM | apply Upd.bL | apply Upd.bI | apply Upd.alloc | apply Upd.drewN | apply Upd.drew))⟩
theorem szS_Channel (l : List GChannel) (A : Option Addr) (c : Nat) (n : Int) (w : World) (h : C jE w A l) (hb : ∀ y ∈ l, oP y) (h0 : 0 ≤ n) (h1 : n ≤ 1048576) : Calls Tryz.prog 21 #[.slice A l.length c, .int .i64 n] w (jS (dF gL l) n w) := by
 have hn := h.1
 have H := Sd.mk h
 clear h
 have HBD := Sd.mk hb
 clear hb
 go_enter Tryz.func21, Tryz.ntmps21
 by_cases q0 : (l.length : Int) ≤ n
 case neg =>
  go_wp2
  go_ret
  exact ⟨_, rfl, .inr ⟨by unfold dF; omega, rfl⟩, Upd.refl _ _⟩
 go_wp2
 go_loopg [1, 5] l.length (fun k u v wr => ∃ i : Nat, i + k = l.length ∧ (gP gL (l.take i) : Int) ≤ n - l.length ∧ u = .int .i64 (n - l.length - gP gL (l.take i)) ∧ v = .int .i64 i ∧ Sd (Upd No w wr))
 case atStart => exact ⟨0, by omega, by simp [gP]; omega, by simp [gP], rfl, ⟨Upd.refl _ _⟩⟩
 case round =>
  obtain ⟨i, hi, hle, rfl, rfl, HU⟩ := hrel
  by_cases hlt : i < l.length
  ·obtain ⟨ad, A2, c2, rfl, a0, a1, a2, hl2, hC2⟩ := kl_Channel_at (aS HU.out H.out) i hlt
   have HC2 := Sd.mk hC2
   clear hC2
   have hst := kI gL l i hlt
   have HST := Sd.mk (jB gL l i hlt)
   generalize hs : gP gL (l.take i) = s at *
   have HS := Sd.mk hs
   clear hs
   go_wp2_with fail
   with_reducible refine (sz_Channel l[i] _ _ _ (kl_Channel_Kmk _ _ hl2 HC2.out) (HBD.out _ (List.getElem_mem hlt)) kO kO).mono ?_
   rintro e w1 ⟨r, rfl, hr, hu⟩
   have HU1 := Sd.mk (HU.out.then hu)
   clear hu HU
   rcases hr with ⟨q, rfl⟩ | ⟨q, rfl⟩
   ·go_wp2
    go_roundg (gk - 1)
    case measure => omega
    case rel => exact ⟨i + 1, by omega, by rw [HST.out]; omega, by rw [HST.out]; exact congrArg (Value.int .i64) kO, by go_num, HU1⟩
   ·go_wp2
    go_ret
    exact ⟨_, rfl, .inr ⟨by unfold dF; omega, rfl⟩, HU1.out⟩
  ·go_wp2
   go_ret
   have e : l.take i = l := List.take_of_length_le kO
   rw [e] at hle
   exact ⟨_, rfl, .inl ⟨by unfold dF; omega, by rw [e]; unfold dF; omega⟩, HU.out⟩
theorem eq_Channel (x : GChannel) (cs cs' : List Value) (w : World) (h : dQ.K w x cs) (h' : dQ.K w x cs') : Calls Tryz.prog 60 #[.agg cs.toArray, .agg cs'.toArray] w (bW true w) := by
 obtain ⟨A2, c2, rfl, hl2, hC2⟩ := kE h
 have HC2 := Sd.mk hC2
 clear hC2
 obtain ⟨B2, b2, rfl, hm2, hD2⟩ := kE h'
 have HD2 := Sd.mk hD2
 clear hD2
 go_enter Tryz.func60, Tryz.ntmps60
 go_wp2_with fail
 with_reducible refine (eqS_Message x.List _ _ _ _ _ ?hc_List ?hd_List).mono ?_
 case hc_List => exact aS kA HC2.out
 case hd_List => exact aS kA HD2.out
 rintro e w_List ⟨rfl, hu⟩
 have HB_List : Sd (Upd No w w_List) := Sd.mk (Upd.then kA hu)
 have cc0_List := fun o => hu.bB (b := w.heap.size) kB (fun q => q) o
 have cc1_List := fun o => hu.bB (b := w.heap.size + 1) kB (fun q => q) o
 have hz_List : w.heap.size + 1 + 1 ≤ w_List.heap.size := by have := hu.size; (try simp at this); omega
 clear hu
 go_wp2
 go_ret
 exact ⟨rfl, (by repeat (with_reducible first | exact HB_List.out | apply Upd.bM | apply Upd.bL | apply Upd.bI | apply Upd.alloc | apply Upd.drewN | apply Upd.drew))⟩
theorem eqS_Channel (l : List GChannel) (A A' : Option Addr) (c c' : Nat) (w : World) (h : C dQ w A l) (h' : C dQ w A' l) : Calls Tryz.prog 32 #[.slice A l.length c, .slice A' l.length c'] w (bW true w) := by
 have hn := h.1
 have H := Sd.mk h
 have H' := Sd.mk h'
 clear h h'
 go_enter Tryz.func32, Tryz.ntmps32
 go_wp2
 go_loopg [5] l.length (fun k v wr => ∃ i : Nat, i + k = l.length ∧ v = .int .i64 i ∧ Sd (Upd No w wr))
 case atStart => exact ⟨0, by omega, rfl, ⟨Upd.refl _ _⟩⟩
 case round =>
  obtain ⟨i, hi, rfl, HU⟩ := hrel
  by_cases hlt : i < l.length
  ·obtain ⟨ad, A2, c2, rfl, a0, a1, a2, hl2, hC2⟩ := ki_Channel_at (aS HU.out H.out) i hlt
   obtain ⟨ad', B2, b2, rfl, z0, z1, z2, hm2, hD2⟩ := ki_Channel_at (aS HU.out H'.out) i hlt
   have HC2 := Sd.mk hC2
   have HD2 := Sd.mk hD2
   clear hC2 hD2
   go_wp2_with fail
   go_still_tail 8, kR
   change wpList _ _ _ _ _ wr.drew
   have HW : Sd (Upd No wr wr.drew) := ⟨(Upd.refl _ _).drew⟩
   have HU2 : Sd (Upd No w wr.drew) := ⟨HU.out.drew⟩
   generalize wr.drew = w2 at *
   go_wp2_with (go_at_call 60; (with_reducible refine (eq_Channel l[i] _ _ _ (ki_Channel_Kmk _ _ hl2 (aS HW.out HC2.out)) (ki_Channel_Kmk _ _ hm2 (aS HW.out HD2.out))).mono ?_); rintro e w' ⟨rfl, hu⟩)
   have HU3 := Sd.mk (HU2.out.then hu)
   clear HU2 hu
   go_wp2
   go_roundg (gk - 1)
   case measure => omega
   case rel => exact ⟨i + 1, by omega, by go_num, HU3⟩
  ·go_wp2
   go_ret
   exact ⟨rfl, HU.out⟩
theorem kl_Note_Kmk (w : World) (x : GNote) : mZ.K w x [.int .i64 x.Kind, .int .i64 x.Vat, .int .i64 x.Entity, .int .i64 x.Tag.Vat, .int .i64 x.Tag.Entity, .int .i64 x.Tag.Seq] := ⟨[_], [_, _, _, _, _], rfl, rfl, ⟨[_], [_, _, _, _], rfl, rfl, ⟨[_], [_, _, _], rfl, rfl, (mX w _)⟩⟩⟩
theorem ki_Note_Kmk (w : World) (x : GNote) : iD.K w x [.int .i64 x.Kind, .int .i64 x.Vat, .int .i64 x.Entity, .int .i64 x.Tag.Vat, .int .i64 x.Tag.Entity, .int .i64 x.Tag.Seq] := ⟨[_], [_, _, _, _, _], rfl, rfl, ⟨[_], [_, _, _, _], rfl, rfl, ⟨[_], [_, _, _], rfl, rfl, (kF w _)⟩⟩⟩
theorem to_Note (x : GNote) (cs : List Value) (w : World) (h : mZ.K w x cs) (hs : mG x ≤ 1048576) : Calls Tryz.prog 55 #[.agg cs.toArray] w (kK iD x w) := by
 obtain rfl := kl_Note_K h
 clear hs
 go_enter Tryz.func55, Tryz.ntmps55
 go_wp2_with fail
 with_reducible refine (to_Tag x.Tag _ _ (mX _ _) (by simp [szn_Tag])).mono ?_
 rintro e w_Tag ⟨cs_Tag, rfl, hM, hu⟩
 obtain rfl := ki_Tag_M hM
 clear hM
 have HB_Tag : Sd (Upd No w w_Tag) := Sd.mk (Upd.then kA hu)
 have cc0_Tag := fun o => hu.bB (b := w.heap.size) kB (fun q => q) o
 have cc1_Tag := fun o => hu.bB (b := w.heap.size + 1) kB (fun q => q) o
 have cf1_Tag := fun o => hu.dR (b := w.heap.size + 1) kB (fun q => q) o
 have cc2_Tag := fun o => hu.bB (b := w.heap.size + 1 + 1) kB (fun q => q) o
 have cf2_Tag := fun o => hu.dR (b := w.heap.size + 1 + 1) kB (fun q => q) o
 have hz_Tag : w.heap.size + 1 + 1 + 1 ≤ w_Tag.heap.size := by have := hu.size; (try simp at this); omega
 clear hu
 go_wp2
 refine bodyPost_ret (v := .agg #[.int .i64 x.Kind, .int .i64 x.Vat, .int .i64 x.Entity, .int .i64 x.Tag.Vat, .int .i64 x.Tag.Entity, .int .i64 x.Tag.Seq]) (by simp [results, Tryz.results55, go_sem, cc1_Tag]) rfl ⟨_, rfl, ?_, (by repeat (with_reducible first | exact HB_Tag.out | apply Upd.bM | apply Upd.bL | apply Upd.bI | apply Upd.alloc | apply Upd.drewN | apply Upd.drew))⟩
 exact ki_Note_mk _ _ _
theorem toS_Note (l : List GNote) (A : Option Addr) (c : Nat) (w : World) (h : C mZ w A l) (hs : dF mG l ≤ 1048576) : Calls Tryz.prog 28 #[.slice A l.length c] w (lF iD 52 l w) := by
 have hn : l.length ≤ 1048576 := by unfold dF at hs; omega
 have hmk := iW (P := Tryz.prog) _ _ _ Tryz.underlying33 ki_Note_info l.length hn kD
 have H := Sd.mk h
 have HS := Sd.mk hs
 clear h hs
 go_enter Tryz.func28, Tryz.ntmps28
 go_wp2
 clear hmk
 have HR : Sd (R iD 52 (w.alloc (fQ (.agg #[.int .i64 0, .int .i64 0, .int .i64 0, .int .i64 0, .int .i64 0, .int .i64 0]) (l.length * 6) 52)) (New w) (.slice (some ⟨w.heap.size, 0, none⟩) l.length l.length) (List.replicate l.length zNote)) := Sd.mk (lG (d := iD) (e := 52) w (.agg #[.int .i64 0, .int .i64 0, .int .i64 0, .int .i64 0, .int .i64 0, .int .i64 0]) zNote rfl kD ki_Note_zero l.length hn)
 have HU := Sd.mk ((Upd.refl No w).alloc (fQ (.agg #[.int .i64 0, .int .i64 0, .int .i64 0, .int .i64 0, .int .i64 0, .int .i64 0]) (l.length * 6) 52))
 go_loopg [4] l.length (fun k v wr => ∃ i : Nat, i + k = l.length ∧ v = .int .i64 i ∧ Sd (R iD 52 wr (New w) (.slice (some ⟨w.heap.size, 0, none⟩) l.length l.length) (upTo l (List.replicate l.length zNote) i)) ∧ Sd (Upd No w wr))
 case atStart => exact ⟨0, by omega, rfl, ⟨by rw [iM]; exact HR.out⟩, HU⟩
 case round =>
  clear HR HU
  obtain ⟨i, hi, rfl, HR, HU⟩ := hrel
  by_cases hlt : i < l.length
  ·obtain ⟨ad, rfl, a0, a1, a2, a3, a4, a5⟩ := kl_Note_at (aS HU.out H.out) i hlt
   have hsi : mG l[i] ≤ 1048576 := by have := HS.out; have := jQ mG l i hlt; unfold dF at *; omega
   go_wp2_with fail
   with_reducible refine (to_Note l[i] _ _ (kl_Note_Kmk _ _) hsi).mono ?_
   rintro e w1 ⟨cs, rfl, hM, hu⟩
   obtain rfl := ki_Note_M hM
   have HRowA := gH hu (fun _ _ q => q) (R_lt HR.out)
   have HU1 := Sd.mk (HU.out.then hu)
   have hzw := HU.out.size
   clear HR HU hM hu
   obtain ⟨g, cap, cur, ce, Fi, hv, hcap, hat, hM, hg, hFi, hFg, close⟩ := lD HRowA 6 l.length rfl (by rw [iU (by simp) (by simp; omega)]; simp) i zNote (by rw [jP (by simp) (by simpa using hlt)]; simp)
   cases hv
   obtain rfl := ki_Note_M hM
   have HAT := Sd.mk hat
   have x0 := hat.cell0 _ rfl
   have x1 := hat.cell 1 _ rfl
   have x2 := hat.cell 2 _ rfl
   have x3 := hat.cell 3 _ rfl
   have x4 := hat.cell 4 _ rfl
   have x5 := hat.cell 5 _ rfl
   have f0 := hat.free (i * 6)
   have f1 := hat.free (i * 6 + 1)
   have f2 := hat.free (i * 6 + 2)
   have f3 := hat.free (i * 6 + 3)
   have f4 := hat.free (i * 6 + 4)
   have f5 := hat.free (i * 6 + 5)
   have CL := Sd.mk close
   clear hat close hM HRowA
   go_wp2
   have HA := (((((HAT.out.set0 kD (.int .i64 l[i].Kind)).set 1 kD (.int .i64 l[i].Vat)).set 2 kD (.int .i64 l[i].Entity)).set 3 kD (.int .i64 l[i].Tag.Vat)).set 4 kD (.int .i64 l[i].Tag.Entity)).set 5 kD (.int .i64 l[i].Tag.Seq)
   have HRowB := CL.out _ _ l[i] No (New w) HA (ki_Note_mk _ _ _) (fun _ q => q.elim) (fun _ q => q.1) (fun _ q => q.elim)
   rw [iV (by simp) (by simpa using hlt)] at HRowB
   go_roundg (gk - 1)
   case measure => omega
   case rel => exact ⟨i + 1, by omega, by go_num, ⟨HRowB⟩, ⟨by repeat (with_reducible first | exact HU1.out | apply Upd.bI)⟩⟩
  ·go_wp2
   go_ret
   have HRowB := HR.out
   rw [iT (by simp) (by simp; omega)] at HRowB
   exact ⟨_, rfl, HRowB, HU.out⟩
theorem szS_Note (l : List GNote) (A : Option Addr) (c : Nat) (n : Int) (w : World) (h : C mZ w A l) (h0 : 0 ≤ n) (h1 : n ≤ 1048576) : Calls Tryz.prog 22 #[.slice A l.length c, .int .i64 n] w (jS (dF mG l) n w) := by
 have hn := h.1
 have H := Sd.mk h
 clear h
 go_enter Tryz.func22, Tryz.ntmps22
 by_cases q0 : (l.length : Int) ≤ n
 case neg =>
  go_wp2
  go_ret
  exact ⟨_, rfl, .inr ⟨by unfold dF; omega, rfl⟩, Upd.refl _ _⟩
 have hz : gP mG l = 0 := by
  clear q0 hn H
  induction l with
  | nil => rfl
  | cons x l ih => simp [gP, mG, ih]
 have HZ := Sd.mk hz
 clear hz
 go_wp2
 go_ret
 have hz := HZ.out
 exact ⟨_, rfl, .inl ⟨by unfold dF; omega, by unfold dF; omega⟩, Upd.refl _ _⟩
theorem eq_Note (x : GNote) (cs cs' : List Value) (w : World) (h : iD.K w x cs) (h' : iD.K w x cs') : Calls Tryz.prog 61 #[.agg cs.toArray, .agg cs'.toArray] w (bW true w) := by
 obtain rfl := lZ h
 obtain rfl := lZ h'
 go_enter Tryz.func61, Tryz.ntmps61
 go_wp2_with fail
 with_reducible refine (eq_Tag x.Tag _ _ _ (kF _ _) (kF _ _)).mono ?_
 rintro e w_Tag ⟨rfl, hu⟩
 have HB_Tag : Sd (Upd No w w_Tag) := Sd.mk (Upd.then kA hu)
 have cc0_Tag := fun o => hu.bB (b := w.heap.size) kB (fun q => q) o
 have cc1_Tag := fun o => hu.bB (b := w.heap.size + 1) kB (fun q => q) o
 have hz_Tag : w.heap.size + 1 + 1 ≤ w_Tag.heap.size := by have := hu.size; (try simp at this); omega
 clear hu
 go_wp2
 go_ret
 exact ⟨rfl, (by repeat (with_reducible first | exact HB_Tag.out | apply Upd.bM | apply Upd.bL | apply Upd.bI | apply Upd.alloc | apply Upd.drewN | apply Upd.drew))⟩
theorem eqS_Note (l : List GNote) (A A' : Option Addr) (c c' : Nat) (w : World) (h : C iD w A l) (h' : C iD w A' l) : Calls Tryz.prog 33 #[.slice A l.length c, .slice A' l.length c'] w (bW true w) := by
 have hn := h.1
 have H := Sd.mk h
 have H' := Sd.mk h'
 clear h h'
 go_enter Tryz.func33, Tryz.ntmps33
 go_wp2
 go_loopg [5] l.length (fun k v wr => ∃ i : Nat, i + k = l.length ∧ v = .int .i64 i ∧ Sd (Upd No w wr))
 case atStart => exact ⟨0, by omega, rfl, ⟨Upd.refl _ _⟩⟩
 case round =>
  obtain ⟨i, hi, rfl, HU⟩ := hrel
  by_cases hlt : i < l.length
  ·obtain ⟨ad, rfl, a0, a1, a2, a3, a4, a5⟩ := ki_Note_at (aS HU.out H.out) i hlt
   obtain ⟨ad', rfl, z0, z1, z2, z3, z4, z5⟩ := ki_Note_at (aS HU.out H'.out) i hlt
   go_wp2_with fail
   go_still_tail 8, kR
   change wpList _ _ _ _ _ wr.drew
   have HW : Sd (Upd No wr wr.drew) := ⟨(Upd.refl _ _).drew⟩
   have HU2 : Sd (Upd No w wr.drew) := ⟨HU.out.drew⟩
   generalize wr.drew = w2 at *
   go_wp2_with (go_at_call 61; (with_reducible refine (eq_Note l[i] _ _ _ (ki_Note_Kmk _ _) (ki_Note_Kmk _ _)).mono ?_); rintro e w' ⟨rfl, hu⟩)
   have HU3 := Sd.mk (HU2.out.then hu)
   clear HU2 hu
   go_wp2
   go_roundg (gk - 1)
   case measure => omega
   case rel => exact ⟨i + 1, by omega, by go_num, HU3⟩
  ·go_wp2
   go_ret
   exact ⟨rfl, HU.out⟩
theorem to_World (x : GWorld) (cs : List Value) (w : World) (h : lM.K w x cs) (hs : iR x ≤ 1048576) : Calls Tryz.prog 8 #[.agg cs.toArray] w (kK iL x w) := by
 obtain ⟨A0, c0, A1, c1, A2, c2, A3, c3, rfl, hl0, hC0, hl1, hC1, hl2, hC2, hl3, hC3⟩ := kl_World_K h
 have HC0 := Sd.mk hC0
 have HC1 := Sd.mk hC1
 have HC2 := Sd.mk hC2
 have HC3 := Sd.mk hC3
 clear hC0 hC1 hC2 hC3
 have s_Library : dF gU x.bE ≤ 1048576 := by unfold iR at hs; omega
 have s_Vats : dF iI x.eT ≤ 1048576 := by unfold iR at hs; omega
 have s_Channels : dF gL x.bH ≤ 1048576 := by unfold iR at hs; omega
 have s_Notes : dF mG x.bK ≤ 1048576 := by unfold iR at hs; omega
 clear hs
 go_enter Tryz.func8, Tryz.ntmps8
 go_wp2_with fail
 with_reducible refine (toS_Script x.bE _ _ _ ?hc_Library s_Library).mono ?_
 case hc_Library => exact aS kA HC0.out
 rintro e w_Library ⟨v0, rfl, hR0, hu⟩
 obtain ⟨B0, b0, rfl⟩ := fI hR0
 obtain ⟨P0, hR0', g0, l0⟩ := gV hR0 (w.heap.size + 1 + 1 + 1) kB
 have ge0 : ∀ b, P0 b → w.heap.size + 1 + 1 < b := fun b hb => by have := g0 b hb; omega
 have n1_0 : ¬ P0 (w.heap.size + 1) := fun q => by have := ge0 _ q; omega
 have n2_0 : ¬ P0 (w.heap.size + 1 + 1) := fun q => by have := ge0 _ q; omega
 have HR0 := Sd.mk hR0'
 have GE0 := Sd.mk ge0
 have LT0 := Sd.mk l0
 have GP0 := Sd.mk g0
 clear hR0 hR0' ge0 l0 g0
 have HB_Library : Sd (Upd No w w_Library) := Sd.mk (Upd.then kA hu)
 have cc0_Library := fun o => hu.bB (b := w.heap.size) kB (fun q => q) o
 have cc1_Library := fun o => hu.bB (b := w.heap.size + 1) kB (fun q => q) o
 have cf1_Library := fun o => hu.dR (b := w.heap.size + 1) kB (fun q => q) o
 have cc2_Library := fun o => hu.bB (b := w.heap.size + 1 + 1) kB (fun q => q) o
 have cf2_Library := fun o => hu.dR (b := w.heap.size + 1 + 1) kB (fun q => q) o
 have hz_Library : w.heap.size + 1 + 1 + 1 ≤ w_Library.heap.size := by have := hu.size; (try simp at this); omega
 clear hu
 go_wp2_with fail
 with_reducible refine (toS_Vat x.eT _ _ _ ?hc_Vats s_Vats).mono ?_
 case hc_Vats => exact aS (by repeat (with_reducible first | exact HB_Library.out | apply Upd.bM | apply Upd.bL | apply Upd.bI | apply Upd.alloc | apply Upd.drewN | apply Upd.drew)) HC1.out
 rintro e w_Vats ⟨v1, rfl, hR1, hu⟩
 obtain ⟨B1, b1, rfl⟩ := fI hR1
 obtain ⟨P1, hR1', g1, l1⟩ := gV hR1 (w_Library.heap.size) kB
 have ge1 : ∀ b, P1 b → w.heap.size + 1 + 1 < b := fun b hb => by have := g1 b hb; have := hz_Library; omega
 have n1_1 : ¬ P1 (w.heap.size + 1) := fun q => by have := ge1 _ q; omega
 have n2_1 : ¬ P1 (w.heap.size + 1 + 1) := fun q => by have := ge1 _ q; omega
 have HR1 := Sd.mk hR1'
 have GE1 := Sd.mk ge1
 have LT1 := Sd.mk l1
 have GP1 := Sd.mk g1
 clear hR1 hR1' ge1 l1 g1
 have HR0 := Sd.mk (gH hu (fun _ _ q => q) (gB HR0.out (by repeat (with_reducible first | exact Upd.refl _ _ | apply Upd.gG n1_0 | apply Upd.gG n2_0 | apply Upd.alloc))))
 have HB_Vats : Sd (Upd No w w_Vats) := Sd.mk (Upd.then (by repeat (with_reducible first | exact HB_Library.out | apply Upd.bM | apply Upd.bL | apply Upd.bI | apply Upd.alloc | apply Upd.drewN | apply Upd.drew)) hu)
 have cc0_Vats := fun o => hu.bB (b := w.heap.size) kB (fun q => q) o
 have cc1_Vats := fun o => hu.bB (b := w.heap.size + 1) kB (fun q => q) o
 have cf1_Vats := fun o => hu.dR (b := w.heap.size + 1) kB (fun q => q) o
 have cc2_Vats := fun o => hu.bB (b := w.heap.size + 1 + 1) kB (fun q => q) o
 have cf2_Vats := fun o => hu.dR (b := w.heap.size + 1 + 1) kB (fun q => q) o
 have hz_Vats : w.heap.size + 1 + 1 + 1 ≤ w_Vats.heap.size := by have := hu.size; (try simp at this); omega
 have hm_Vats : w_Library.heap.size ≤ w_Vats.heap.size := by have := hu.size; (try simp at this); omega
 clear hu
 go_wp2_with fail
 with_reducible refine (toS_Channel x.bH _ _ _ ?hc_Channels s_Channels).mono ?_
 case hc_Channels => exact aS (by repeat (with_reducible first | exact HB_Vats.out | apply Upd.bM | apply Upd.bL | apply Upd.bI | apply Upd.alloc | apply Upd.drewN | apply Upd.drew)) HC2.out
 rintro e w_Channels ⟨v2, rfl, hR2, hu⟩
 obtain ⟨B2, b2, rfl⟩ := fI hR2
 obtain ⟨P2, hR2', g2, l2⟩ := gV hR2 (w_Vats.heap.size) kB
 have ge2 : ∀ b, P2 b → w.heap.size + 1 + 1 < b := fun b hb => by have := g2 b hb; have := hz_Vats; omega
 have n1_2 : ¬ P2 (w.heap.size + 1) := fun q => by have := ge2 _ q; omega
 have n2_2 : ¬ P2 (w.heap.size + 1 + 1) := fun q => by have := ge2 _ q; omega
 have HR2 := Sd.mk hR2'
 have GE2 := Sd.mk ge2
 have LT2 := Sd.mk l2
 have GP2 := Sd.mk g2
 clear hR2 hR2' ge2 l2 g2
 have HR0 := Sd.mk (gH hu (fun _ _ q => q) (gB HR0.out (by repeat (with_reducible first | exact Upd.refl _ _ | apply Upd.gG n1_0 | apply Upd.gG n2_0 | apply Upd.alloc))))
 have HR1 := Sd.mk (gH hu (fun _ _ q => q) (gB HR1.out (by repeat (with_reducible first | exact Upd.refl _ _ | apply Upd.gG n1_1 | apply Upd.gG n2_1 | apply Upd.alloc))))
 have HB_Channels : Sd (Upd No w w_Channels) := Sd.mk (Upd.then (by repeat (with_reducible first | exact HB_Vats.out | apply Upd.bM | apply Upd.bL | apply Upd.bI | apply Upd.alloc | apply Upd.drewN | apply Upd.drew)) hu)
 have cc0_Channels := fun o => hu.bB (b := w.heap.size) kB (fun q => q) o
 have cc1_Channels := fun o => hu.bB (b := w.heap.size + 1) kB (fun q => q) o
 have cf1_Channels := fun o => hu.dR (b := w.heap.size + 1) kB (fun q => q) o
 have cc2_Channels := fun o => hu.bB (b := w.heap.size + 1 + 1) kB (fun q => q) o
 have cf2_Channels := fun o => hu.dR (b := w.heap.size + 1 + 1) kB (fun q => q) o
 have hz_Channels : w.heap.size + 1 + 1 + 1 ≤ w_Channels.heap.size := by have := hu.size; (try simp at this); omega
 have hm_Channels : w_Vats.heap.size ≤ w_Channels.heap.size := by have := hu.size; (try simp at this); omega
 clear hu
 go_wp2_with fail
 with_reducible refine (toS_Note x.bK _ _ _ ?hc_Notes s_Notes).mono ?_
 case hc_Notes => exact aS (by repeat (with_reducible first | exact HB_Channels.out | apply Upd.bM | apply Upd.bL | apply Upd.bI | apply Upd.alloc | apply Upd.drewN | apply Upd.drew)) HC3.out
 rintro e w_Notes ⟨v3, rfl, hR3, hu⟩
 obtain ⟨B3, b3, rfl⟩ := fI hR3
 obtain ⟨P3, hR3', g3, l3⟩ := gV hR3 (w_Channels.heap.size) kB
 have ge3 : ∀ b, P3 b → w.heap.size + 1 + 1 < b := fun b hb => by have := g3 b hb; have := hz_Channels; omega
 have n1_3 : ¬ P3 (w.heap.size + 1) := fun q => by have := ge3 _ q; omega
 have n2_3 : ¬ P3 (w.heap.size + 1 + 1) := fun q => by have := ge3 _ q; omega
 have HR3 := Sd.mk hR3'
 have GE3 := Sd.mk ge3
 have LT3 := Sd.mk l3
 have GP3 := Sd.mk g3
 clear hR3 hR3' ge3 l3 g3
 have HR0 := Sd.mk (gH hu (fun _ _ q => q) (gB HR0.out (by repeat (with_reducible first | exact Upd.refl _ _ | apply Upd.gG n1_0 | apply Upd.gG n2_0 | apply Upd.alloc))))
 have HR1 := Sd.mk (gH hu (fun _ _ q => q) (gB HR1.out (by repeat (with_reducible first | exact Upd.refl _ _ | apply Upd.gG n1_1 | apply Upd.gG n2_1 | apply Upd.alloc))))
 have HR2 := Sd.mk (gH hu (fun _ _ q => q) (gB HR2.out (by repeat (with_reducible first | exact Upd.refl _ _ | apply Upd.gG n1_2 | apply Upd.gG n2_2 | apply Upd.alloc))))
 have HB_Notes : Sd (Upd No w w_Notes) := Sd.mk (Upd.then (by repeat (with_reducible first | exact HB_Channels.out | apply Upd.bM | apply Upd.bL | apply Upd.bI | apply Upd.alloc | apply Upd.drewN | apply Upd.drew)) hu)
 have cc0_Notes := fun o => hu.bB (b := w.heap.size) kB (fun q => q) o
 have cc1_Notes := fun o => hu.bB (b := w.heap.size + 1) kB (fun q => q) o
 have cf1_Notes := fun o => hu.dR (b := w.heap.size + 1) kB (fun q => q) o
 have cc2_Notes := fun o => hu.bB (b := w.heap.size + 1 + 1) kB (fun q => q) o
 have cf2_Notes := fun o => hu.dR (b := w.heap.size + 1 + 1) kB (fun q => q) o
 have hz_Notes : w.heap.size + 1 + 1 + 1 ≤ w_Notes.heap.size := by have := hu.size; (try simp at this); omega
 have hm_Notes : w_Channels.heap.size ≤ w_Notes.heap.size := by have := hu.size; (try simp at this); omega
 clear hu
 go_wp2
 refine bodyPost_ret (v := .agg #[.slice B0 x.bE.length b0, .slice B1 x.eT.length b1, .slice B2 x.bH.length b2, .slice B3 x.bK.length b3, .int .i64 x.eO]) (by simp [results, Tryz.results8, go_sem, cc1_Library, cc1_Vats, cc1_Channels, cc1_Notes]) rfl ⟨_, rfl, ?_, (by repeat (with_reducible first | exact HB_Notes.out | apply Upd.bM | apply Upd.bL | apply Upd.bI | apply Upd.alloc | apply Upd.drewN | apply Upd.drew))⟩
 exact ki_World_mk _ _ _ (gB HR0.out (by repeat (with_reducible first | exact Upd.refl _ _ | apply Upd.gG n1_0 | apply Upd.gG n2_0 | apply Upd.alloc))) (gB HR1.out (by repeat (with_reducible first | exact Upd.refl _ _ | apply Upd.gG n1_1 | apply Upd.gG n2_1 | apply Upd.alloc))) (gB HR2.out (by repeat (with_reducible first | exact Upd.refl _ _ | apply Upd.gG n1_2 | apply Upd.gG n2_2 | apply Upd.alloc))) (gB HR3.out (by repeat (with_reducible first | exact Upd.refl _ _ | apply Upd.gG n1_3 | apply Upd.gG n2_3 | apply Upd.alloc))) (fun k hk => by have := GE0.out k hk; simp only [New]; omega) (fun k hk => by have := GE1.out k hk; simp only [New]; omega) (fun k hk => by have := GE2.out k hk; simp only [New]; omega) (fun k hk => by have := GE3.out k hk; simp only [New]; omega) (fun k hk hk' => by have h1 := LT0.out k hk; have h2 := GP1.out k hk'; omega) (fun k hk hk' => by have h1 := LT0.out k hk; have h2 := GP2.out k hk'; have := hm_Vats; omega) (fun k hk hk' => by have h1 := LT0.out k hk; have h2 := GP3.out k hk'; have := hm_Vats; have := hm_Channels; omega) (fun k hk hk' => by have h1 := LT1.out k hk; have h2 := GP2.out k hk'; omega) (fun k hk hk' => by have h1 := LT1.out k hk; have h2 := GP3.out k hk'; have := hm_Channels; omega) (fun k hk hk' => by have h1 := LT2.out k hk; have h2 := GP3.out k hk'; omega)
theorem sz_World (x : GWorld) (cs : List Value) (n : Int) (w : World) (h : lM.K w x cs) (hb : Bd_World x) (h0 : 0 ≤ n) (h1 : n ≤ 1048576) : Calls Tryz.prog 6 #[.agg cs.toArray, .int .i64 n] w (jS (iR x) n w) := by
 obtain ⟨A0, c0, A1, c1, A2, c2, A3, c3, rfl, hl0, hC0, hl1, hC1, hl2, hC2, hl3, hC3⟩ := kl_World_K h
 have HC0 := Sd.mk hC0
 have HC1 := Sd.mk hC1
 have HC2 := Sd.mk hC2
 have HC3 := Sd.mk hC3
 clear hC0 hC1 hC2 hC3
 obtain ⟨b_Library, b_Vats, b_Channels⟩ := hb
 have B_Library := Sd.mk b_Library
 clear b_Library
 have B_Vats := Sd.mk b_Vats
 clear b_Vats
 have B_Channels := Sd.mk b_Channels
 clear b_Channels
 go_enter Tryz.func6, Tryz.ntmps6
 go_wp2_with fail
 with_reducible refine (szS_Script x.bE _ _ _ _ ?hc_Library B_Library.out kO kO).mono ?_
 case hc_Library => exact aS kA HC0.out
 rintro e w_Library ⟨r_Library, rfl, hr_Library, hu⟩
 have HB_Library : Sd (Upd No w w_Library) := Sd.mk (Upd.then kA hu)
 have cc0_Library := fun o => hu.bB (b := w.heap.size) kB (fun q => q) o
 have hz_Library : w.heap.size + 1 ≤ w_Library.heap.size := by have := hu.size; (try simp at this); omega
 clear hu
 rcases hr_Library with ⟨q_Library, rfl⟩ | ⟨q_Library, rfl⟩
 case inr =>
  go_wp2
  go_ret
  exact ⟨_, rfl, .inr ⟨by unfold iR; omega, rfl⟩, (by repeat (with_reducible first | exact HB_Library.out | apply Upd.bM | apply Upd.bL | apply Upd.bI | apply Upd.alloc | apply Upd.drewN | apply Upd.drew))⟩
 go_wp2_with fail
 with_reducible refine (szS_Vat x.eT _ _ _ _ ?hc_Vats B_Vats.out kO kO).mono ?_
 case hc_Vats => exact aS (by repeat (with_reducible first | exact HB_Library.out | apply Upd.bM | apply Upd.bL | apply Upd.bI | apply Upd.alloc | apply Upd.drewN | apply Upd.drew)) HC1.out
 rintro e w_Vats ⟨r_Vats, rfl, hr_Vats, hu⟩
 have HB_Vats : Sd (Upd No w w_Vats) := Sd.mk (Upd.then (by repeat (with_reducible first | exact HB_Library.out | apply Upd.bM | apply Upd.bL | apply Upd.bI | apply Upd.alloc | apply Upd.drewN | apply Upd.drew)) hu)
 have cc0_Vats := fun o => hu.bB (b := w.heap.size) kB (fun q => q) o
 have hz_Vats : w.heap.size + 1 ≤ w_Vats.heap.size := by have := hu.size; (try simp at this); omega
 clear hu
 rcases hr_Vats with ⟨q_Vats, rfl⟩ | ⟨q_Vats, rfl⟩
 case inr =>
  go_wp2
  go_ret
  exact ⟨_, rfl, .inr ⟨by unfold iR; omega, rfl⟩, (by repeat (with_reducible first | exact HB_Vats.out | apply Upd.bM | apply Upd.bL | apply Upd.bI | apply Upd.alloc | apply Upd.drewN | apply Upd.drew))⟩
 go_wp2_with fail
 with_reducible refine (szS_Channel x.bH _ _ _ _ ?hc_Channels B_Channels.out kO kO).mono ?_
 case hc_Channels => exact aS (by repeat (with_reducible first | exact HB_Vats.out | apply Upd.bM | apply Upd.bL | apply Upd.bI | apply Upd.alloc | apply Upd.drewN | apply Upd.drew)) HC2.out
 rintro e w_Channels ⟨r_Channels, rfl, hr_Channels, hu⟩
 have HB_Channels : Sd (Upd No w w_Channels) := Sd.mk (Upd.then (by repeat (with_reducible first | exact HB_Vats.out | apply Upd.bM | apply Upd.bL | apply Upd.bI | apply Upd.alloc | apply Upd.drewN | apply Upd.drew)) hu)
 have cc0_Channels := fun o => hu.bB (b := w.heap.size) kB (fun q => q) o
 have hz_Channels : w.heap.size + 1 ≤ w_Channels.heap.size := by have := hu.size; (try simp at this); omega
 clear hu
 rcases hr_Channels with ⟨q_Channels, rfl⟩ | ⟨q_Channels, rfl⟩
 case inr =>
  go_wp2
  go_ret
  exact ⟨_, rfl, .inr ⟨by unfold iR; omega, rfl⟩, (by repeat (with_reducible first | exact HB_Channels.out | apply Upd.bM | apply Upd.bL | apply Upd.bI | apply Upd.alloc | apply Upd.drewN | apply Upd.drew))⟩
 go_wp2_with fail
 with_reducible refine (szS_Note x.bK _ _ _ _ ?hc_Notes kO kO).mono ?_
 case hc_Notes => exact aS (by repeat (with_reducible first | exact HB_Channels.out | apply Upd.bM | apply Upd.bL | apply Upd.bI | apply Upd.alloc | apply Upd.drewN | apply Upd.drew)) HC3.out
 rintro e w_Notes ⟨r_Notes, rfl, hr_Notes, hu⟩
 have HB_Notes : Sd (Upd No w w_Notes) := Sd.mk (Upd.then (by repeat (with_reducible first | exact HB_Channels.out | apply Upd.bM | apply Upd.bL | apply Upd.bI | apply Upd.alloc | apply Upd.drewN | apply Upd.drew)) hu)
 have cc0_Notes := fun o => hu.bB (b := w.heap.size) kB (fun q => q) o
 have hz_Notes : w.heap.size + 1 ≤ w_Notes.heap.size := by have := hu.size; (try simp at this); omega
 clear hu
 rcases hr_Notes with ⟨q_Notes, rfl⟩ | ⟨q_Notes, rfl⟩
 case inr =>
  go_wp2
  go_ret
  exact ⟨_, rfl, .inr ⟨by unfold iR; omega, rfl⟩, (by repeat (with_reducible first | exact HB_Notes.out | apply Upd.bM | apply Upd.bL | apply Upd.bI | apply Upd.alloc | apply Upd.drewN | apply Upd.drew))⟩
 go_wp2
 go_ret
 exact ⟨_, rfl, .inl ⟨by unfold iR; omega, by unfold iR; omega⟩, (by repeat (with_reducible first | exact HB_Notes.out | apply Upd.bM | apply Upd.bL | apply Upd.bI | apply Upd.alloc | apply Upd.drewN | apply Upd.drew))⟩
theorem eq_World (x : GWorld) (cs cs' : List Value) (w : World) (h : iL.K w x cs) (h' : iL.K w x cs') : Calls Tryz.prog 10 #[.agg cs.toArray, .agg cs'.toArray] w (bW true w) := by
 obtain ⟨A0, c0, A1, c1, A2, c2, A3, c3, rfl, hl0, hC0, hl1, hC1, hl2, hC2, hl3, hC3⟩ := mW h
 have HC0 := Sd.mk hC0
 have HC1 := Sd.mk hC1
 have HC2 := Sd.mk hC2
 have HC3 := Sd.mk hC3
 clear hC0 hC1 hC2 hC3
 obtain ⟨B0, b0, B1, b1, B2, b2, B3, b3, rfl, hm0, hD0, hm1, hD1, hm2, hD2, hm3, hD3⟩ := mW h'
 have HD0 := Sd.mk hD0
 have HD1 := Sd.mk hD1
 have HD2 := Sd.mk hD2
 have HD3 := Sd.mk hD3
 clear hD0 hD1 hD2 hD3
 go_enter Tryz.func10, Tryz.ntmps10
 go_wp2_with fail
 with_reducible refine (eqS_Script x.bE _ _ _ _ _ ?hc_Library ?hd_Library).mono ?_
 case hc_Library => exact aS kA HC0.out
 case hd_Library => exact aS kA HD0.out
 rintro e w_Library ⟨rfl, hu⟩
 have HB_Library : Sd (Upd No w w_Library) := Sd.mk (Upd.then kA hu)
 have cc0_Library := fun o => hu.bB (b := w.heap.size) kB (fun q => q) o
 have cc1_Library := fun o => hu.bB (b := w.heap.size + 1) kB (fun q => q) o
 have hz_Library : w.heap.size + 1 + 1 ≤ w_Library.heap.size := by have := hu.size; (try simp at this); omega
 clear hu
 go_wp2_with fail
 with_reducible refine (eqS_Vat x.eT _ _ _ _ _ ?hc_Vats ?hd_Vats).mono ?_
 case hc_Vats => exact aS (by repeat (with_reducible first | exact HB_Library.out | apply Upd.bM | apply Upd.bL | apply Upd.bI | apply Upd.alloc | apply Upd.drewN | apply Upd.drew)) HC1.out
 case hd_Vats => exact aS (by repeat (with_reducible first | exact HB_Library.out | apply Upd.bM | apply Upd.bL | apply Upd.bI | apply Upd.alloc | apply Upd.drewN | apply Upd.drew)) HD1.out
 rintro e w_Vats ⟨rfl, hu⟩
 have HB_Vats : Sd (Upd No w w_Vats) := Sd.mk (Upd.then (by repeat (with_reducible first | exact HB_Library.out | apply Upd.bM | apply Upd.bL | apply Upd.bI | apply Upd.alloc | apply Upd.drewN | apply Upd.drew)) hu)
 have cc0_Vats := fun o => hu.bB (b := w.heap.size) kB (fun q => q) o
 have cc1_Vats := fun o => hu.bB (b := w.heap.size + 1) kB (fun q => q) o
 have hz_Vats : w.heap.size + 1 + 1 ≤ w_Vats.heap.size := by have := hu.size; (try simp at this); omega
 clear hu
 go_wp2_with fail
 with_reducible refine (eqS_Channel x.bH _ _ _ _ _ ?hc_Channels ?hd_Channels).mono ?_
 case hc_Channels => exact aS (by repeat (with_reducible first | exact HB_Vats.out | apply Upd.bM | apply Upd.bL | apply Upd.bI | apply Upd.alloc | apply Upd.drewN | apply Upd.drew)) HC2.out
 case hd_Channels => exact aS (by repeat (with_reducible first | exact HB_Vats.out | apply Upd.bM | apply Upd.bL | apply Upd.bI | apply Upd.alloc | apply Upd.drewN | apply Upd.drew)) HD2.out
 rintro e w_Channels ⟨rfl, hu⟩
 have HB_Channels : Sd (Upd No w w_Channels) := Sd.mk (Upd.then (by repeat (with_reducible first | exact HB_Vats.out | apply Upd.bM | apply Upd.bL | apply Upd.bI | apply Upd.alloc | apply Upd.drewN | apply Upd.drew)) hu)
 have cc0_Channels := fun o => hu.bB (b := w.heap.size) kB (fun q => q) o
 have cc1_Channels := fun o => hu.bB (b := w.heap.size + 1) kB (fun q => q) o
 have hz_Channels : w.heap.size + 1 + 1 ≤ w_Channels.heap.size := by have := hu.size; (try simp at this); omega
 clear hu
 go_wp2_with fail
 with_reducible refine (eqS_Note x.bK _ _ _ _ _ ?hc_Notes ?hd_Notes).mono ?_
 case hc_Notes => exact aS (by repeat (with_reducible first | exact HB_Channels.out | apply Upd.bM | apply Upd.bL | apply Upd.bI | apply Upd.alloc | apply Upd.drewN | apply Upd.drew)) HC3.out
 case hd_Notes => exact aS (by repeat (with_reducible first | exact HB_Channels.out | apply Upd.bM | apply Upd.bL | apply Upd.bI | apply Upd.alloc | apply Upd.drewN | apply Upd.drew)) HD3.out
 rintro e w_Notes ⟨rfl, hu⟩
 have HB_Notes : Sd (Upd No w w_Notes) := Sd.mk (Upd.then (by repeat (with_reducible first | exact HB_Channels.out | apply Upd.bM | apply Upd.bL | apply Upd.bI | apply Upd.alloc | apply Upd.drewN | apply Upd.drew)) hu)
 have cc0_Notes := fun o => hu.bB (b := w.heap.size) kB (fun q => q) o
 have cc1_Notes := fun o => hu.bB (b := w.heap.size + 1) kB (fun q => q) o
 have hz_Notes : w.heap.size + 1 + 1 ≤ w_Notes.heap.size := by have := hu.size; (try simp at this); omega
 clear hu
 go_wp2
 go_ret
 exact ⟨rfl, (by repeat (with_reducible first | exact HB_Notes.out | apply Upd.bM | apply Upd.bL | apply Upd.bI | apply Upd.alloc | apply Upd.drewN | apply Upd.drew))⟩
end Go.Proofs.YtgaoabnnpjngcaaGreatFam
namespace Go.Proofs.YtgaoabnnpjngcaaGreatFam
open Go.ChangeShapes Go.WideShapes Go.RowKit Go.Proofs.YtgaoabnnpjngcaaGreatSep Go.Proofs.YtgaoabnnpjngcaaGreatT Go.Proofs.YtgaoabnnpjngcaaGreatK
set_option linter.unusedVariables false
set_option linter.unusedSimpArgs false
attribute [local irreducible] wpOps wpOp
set_option maxHeartbeats 4000000
set_option maxRecDepth 100000
theorem eqI_Value (l k : List GValue) (A A' : Option Addr) (c c' : Nat) (w : World) (h : C dY w A l) (h' : C dY w A' k) : Calls Tryz.prog 115 #[.slice A l.length c, .slice A' k.length c'] w (bW (aV dI l k) w) := by
 have nx := h.1
 refine enter 26 [(0, .slice A l.length c), (1, .slice A' k.length c')] Tryz.func115 rfl kR ?_
 intro xj
 have H1 : St w No [] w := St.enter
 refine wp_seq ?_
 refine aM [0] rfl ?_
 refine aA ?_
 refine aB rfl (aJ rfl) rfl rfl ?_
 refine aH ?_
 refine aG ?_
 refine wp_seq ?_
 refine wp_seq ?_
 refine aM [0, 1, 2, 3, 4] rfl ?_
 refine aA ?_
 refine aB rfl (aF rfl) rfl rfl ?_
 refine aA ?_
 refine aB rfl (bQ Tryz.runUnderlying127 rfl) rfl rfl ?_
 refine aA ?_
 refine aB rfl (aF rfl) rfl rfl ?_
 refine aA ?_
 refine aB rfl (bQ Tryz.runUnderlying127 rfl) rfl rfl ?_
 by_cases hg2 : ¬ ((l.length : Nat) : Int) = (k.length : Nat)
 ·refine aA ?_
  refine aB rfl (bV hg2 (bN rfl rfl)) rfl rfl ?_
  refine aH ?_
  refine aG ?_
  refine bX rfl ?_
  refine wp_seq ?_
  refine aM [0] rfl ?_
  refine aA ?_
  refine aB rfl (aJ rfl) rfl rfl ?_
  refine aH ?_
  refine aG ?_
  refine wp_ret ?_
  refine aU ?_
  have hz3 : ∀ f, aV f l k = false := fun f => eY f l k kO
  have hr4 : aV dI l k = false := by simp [hz3]
  refine aQ (.inl rfl) Tryz.results115 rfl ?_
  rw [hr4]
  exact ⟨rfl, H1.1⟩
 ·refine aA ?_
  refine aB rfl (bO hg2 (bN rfl rfl)) rfl rfl ?_
  refine aH ?_
  refine aG ?_
  refine dU rfl ?_
  refine wp_skip ?_
  refine aG ?_
  refine wp_seq ?_
  refine wp_seq ?_
  refine aM [0, 1, 2] rfl ?_
  refine aA ?_
  refine aB rfl (aF rfl) rfl rfl ?_
  refine aA ?_
  refine aB rfl (bQ Tryz.runUnderlying127 rfl) rfl rfl ?_
  refine aA ?_
  refine aB rfl (aF rfl) rfl rfl ?_
  refine aH ?_
  refine aG ?_
  refine wp_block ?_
  refine wp_loop_ghost (fun r a' W' => ∃ (i1 : Nat) (x' : Nat → Value), a' = bT 26 x' [(0, .slice A l.length c), (1, .slice A' k.length c'), (12, .int .i64 ((l.length : Nat))), (13, .int .i64 (((i1 : Nat) : Int)))] ∧ (i1 + r = l.length) ∧ (aV dI l k = aV dI (l.drop i1) (k.drop i1)) ∧ St w No [] W') l.length ?_ ?_
  ·exact (bA [(0, .slice A l.length c), (1, .slice A' k.length c'), (12, .int .i64 ((l.length : Nat))), (13, .int .i64 (((0 : Nat) : Int)))] rfl).elim fun x' hx => ⟨0, x', hx, kO, rfl, H1⟩
  ·rintro r5 _ W6 ⟨i1, x7, rfl, hi1, hf1, H8⟩; clear H1
   refine wp_seq ?_
   refine aM [0] rfl ?_
   refine aA ?_
   refine aB rfl (gY rfl rfl) rfl rfl ?_
   refine aH ?_
   refine aG ?_
   refine wp_seq ?_
   refine eP rfl (fun hc9 => ?_) (fun hc9 => ?_)
   ·have hlt1 : i1 < l.length := by omega
    have hlu1 : i1 < k.length := by omega
    obtain ⟨ade10, cse10, hAe10, hKe10, hce10⟩ := dO h i1 hlt1
    have hle10 := oC hKe10
    have hoe10 := oD hKe10
    obtain ⟨ade11, cse11, hAe11, hKe11, hce11⟩ := dO h' i1 hlu1
    have hle11 := oC hKe11
    have hoe11 := oD hKe11
    obtain rfl := j6 hKe10
    obtain rfl := j6 hKe11
    refine wp_skip ?_
    refine aG ?_
    refine wp_seq ?_
    refine wp_block ?_
    refine wp_seq ?_
    refine aM [0, 1] rfl ?_
    refine aA ?_
    refine aB rfl (aF rfl) rfl rfl ?_
    refine aA ?_
    refine aB rfl (aJ rfl) rfl rfl ?_
    refine aH ?_
    refine aG ?_
    refine wp_seq ?_
    by_cases hg12 : (dI (l[i1]) (k[i1])) = true
    ·refine dD (fun W' => Cat W' (Addr.add ade10 (i1 * 2)) [.int .i64 (l[i1].Kind), .int .i64 (l[i1].N)] ∧ Cat W' (Addr.add ade11 (i1 * 2)) [.int .i64 (k[i1].Kind), .int .i64 (k[i1].N)]) 9 kR ?_
     have H13 := H8.drew; clear H8
     have hS14 : Cat W6.drew (Addr.add ade10 (i1 * 2)) [.int .i64 (l[i1].Kind), .int .i64 (l[i1].N)] ∧ Cat W6.drew (Addr.add ade11 (i1 * 2)) [.int .i64 (k[i1].Kind), .int .i64 (k[i1].N)] := ⟨(Cat.upd hce10 H13.1), (Cat.upd hce11 H13.1)⟩
     refine aD (i := 0) rfl kR kR kR kR kR (fun _ _ _ h => h) rfl rfl hS14 (fun W' hs' => aF rfl) ?_
     refine aD (i := 1) rfl kR kR kR kR kR (fun _ _ _ h => h) rfl rfl hS14 (fun W' hs' => aF rfl) ?_
     refine aD (i := 2) rfl kR kR kR kR kR (fun _ _ _ h => h) rfl rfl hS14 (fun W' hs' => aP (k := i1) Tryz.runUnderlying127 Tryz.sizeOf129 rfl rfl hAe10 hlt1) ?_
     refine aD (i := 3) rfl kR kR kR kR kR (fun _ _ _ h => h) rfl rfl hS14 (fun W' hs' => aY Tryz.isAgg129 Tryz.sizeOf129 rfl hs'.1 rfl) ?_
     refine aD (i := 4) rfl kR kR kR kR kR (fun _ _ _ h => h) rfl rfl hS14 (fun W' hs' => aF rfl) ?_
     refine aD (i := 5) rfl kR kR kR kR kR (fun _ _ _ h => h) rfl rfl hS14 (fun W' hs' => aF rfl) ?_
     refine aD (i := 6) rfl kR kR kR kR kR (fun _ _ _ h => h) rfl rfl hS14 (fun W' hs' => aP (k := i1) Tryz.runUnderlying127 Tryz.sizeOf129 rfl rfl hAe11 hlu1) ?_
     refine aD (i := 7) rfl kR kR kR kR kR (fun _ _ _ h => h) rfl rfl hS14 (fun W' hs' => aY Tryz.isAgg129 Tryz.sizeOf129 rfl hs'.2 rfl) ?_
     refine aD (i := 8) rfl kR kR kR kR kR (fun _ _ _ h => h) rfl rfl hS14 (fun W' hs' => cZ (b := !(dI (l[i1]) (k[i1]))) (by rw [hg12]) (fJ Tryz.eqGuardType129 rfl rfl (l8 (l[i1]) (k[i1]) _ 9998))) ?_
     refine bU kR ?_ _
     refine aG ?_
     refine dU rfl ?_
     refine wp_skip ?_
     refine iY ?_
     refine aG ?_
     refine aM [0, 1] rfl ?_
     refine aA ?_
     refine aB rfl (iB (k := i1) rfl rfl kO) rfl rfl ?_
     refine aA ?_
     refine aB rfl (aF rfl) rfl rfl ?_
     refine aH ?_
     refine aG ?_
     exact (bA [(0, .slice A l.length c), (1, .slice A' k.length c'), (12, .int .i64 ((l.length : Nat))), (13, .int .i64 (((i1 + 1 : Nat) : Int)))] rfl).elim fun x' hx => ⟨r5 - 1, kO, i1 + 1, x', hx, kO, (hf1.trans (fC dI l k i1 hlt1 hlu1 hg12)), H13⟩
    ·refine dD (fun W' => Cat W' (Addr.add ade10 (i1 * 2)) [.int .i64 (l[i1].Kind), .int .i64 (l[i1].N)] ∧ Cat W' (Addr.add ade11 (i1 * 2)) [.int .i64 (k[i1].Kind), .int .i64 (k[i1].N)]) 9 kR ?_
     have H15 := H8.drew; clear H8
     have hS16 : Cat W6.drew (Addr.add ade10 (i1 * 2)) [.int .i64 (l[i1].Kind), .int .i64 (l[i1].N)] ∧ Cat W6.drew (Addr.add ade11 (i1 * 2)) [.int .i64 (k[i1].Kind), .int .i64 (k[i1].N)] := ⟨(Cat.upd hce10 H15.1), (Cat.upd hce11 H15.1)⟩
     refine aD (i := 0) rfl kR kR kR kR kR (fun _ _ _ h => h) rfl rfl hS16 (fun W' hs' => aF rfl) ?_
     refine aD (i := 1) rfl kR kR kR kR kR (fun _ _ _ h => h) rfl rfl hS16 (fun W' hs' => aF rfl) ?_
     refine aD (i := 2) rfl kR kR kR kR kR (fun _ _ _ h => h) rfl rfl hS16 (fun W' hs' => aP (k := i1) Tryz.runUnderlying127 Tryz.sizeOf129 rfl rfl hAe10 hlt1) ?_
     refine aD (i := 3) rfl kR kR kR kR kR (fun _ _ _ h => h) rfl rfl hS16 (fun W' hs' => aY Tryz.isAgg129 Tryz.sizeOf129 rfl hs'.1 rfl) ?_
     refine aD (i := 4) rfl kR kR kR kR kR (fun _ _ _ h => h) rfl rfl hS16 (fun W' hs' => aF rfl) ?_
     refine aD (i := 5) rfl kR kR kR kR kR (fun _ _ _ h => h) rfl rfl hS16 (fun W' hs' => aF rfl) ?_
     refine aD (i := 6) rfl kR kR kR kR kR (fun _ _ _ h => h) rfl rfl hS16 (fun W' hs' => aP (k := i1) Tryz.runUnderlying127 Tryz.sizeOf129 rfl rfl hAe11 hlu1) ?_
     refine aD (i := 7) rfl kR kR kR kR kR (fun _ _ _ h => h) rfl rfl hS16 (fun W' hs' => aY Tryz.isAgg129 Tryz.sizeOf129 rfl hs'.2 rfl) ?_
     refine aD (i := 8) rfl kR kR kR kR kR (fun _ _ _ h => h) rfl rfl hS16 (fun W' hs' => cZ (b := !(dI (l[i1]) (k[i1]))) (by rw [(eq_false_of_ne_true hg12)]) (fJ Tryz.eqGuardType129 rfl rfl (l8 (l[i1]) (k[i1]) _ 9998))) ?_
     refine bU kR ?_ _
     refine aG ?_
     refine bX rfl ?_
     refine wp_seq ?_
     refine aM [0] rfl ?_
     refine aA ?_
     refine aB rfl (aJ rfl) rfl rfl ?_
     refine aH ?_
     refine aG ?_
     refine wp_ret ?_
     refine dS ?_
     refine aU ?_
     refine aU ?_
     refine dS ?_
     refine aU ?_
     have hz17 : aV dI l k = false := hf1.trans (eG dI l k i1 hlt1 hlu1 (eq_false_of_ne_true hg12))
     have hr18 : aV dI l k = false := by simp [hg12, hz17]
     refine aQ (.inl rfl) Tryz.results115 rfl ?_
     rw [hr18]
     exact ⟨rfl, H15.1⟩
   ·have hd1 : aV dI l k = true := hf1.trans (fD dI l k i1 kO kO)
    refine wp_exit ?_
    refine dP ?_
    refine dP ?_
    refine iZ ?_
    refine aG ?_
    refine wp_seq ?_
    refine aM [0] rfl ?_
    refine aA ?_
    refine aB rfl (aJ rfl) rfl rfl ?_
    refine aH ?_
    refine aG ?_
    refine wp_ret ?_
    have hr19 : aV dI l k = true := by simp [hd1]
    refine aQ (.inl rfl) Tryz.results115 rfl ?_
    rw [hr19]
    exact ⟨rfl, H8.1⟩
theorem eqI_Asker (l k : List GAsker) (A A' : Option Addr) (c c' : Nat) (w : World) (h : C fV w A l) (h' : C fV w A' k) : Calls Tryz.prog 116 #[.slice A l.length c, .slice A' k.length c'] w (bW (aV fB l k) w) := by
 have nx := h.1
 refine enter 26 [(0, .slice A l.length c), (1, .slice A' k.length c')] Tryz.func116 rfl kR ?_
 intro xj
 have H1 : St w No [] w := St.enter
 refine wp_seq ?_
 refine aM [0] rfl ?_
 refine aA ?_
 refine aB rfl (aJ rfl) rfl rfl ?_
 refine aH ?_
 refine aG ?_
 refine wp_seq ?_
 refine wp_seq ?_
 refine aM [0, 1, 2, 3, 4] rfl ?_
 refine aA ?_
 refine aB rfl (aF rfl) rfl rfl ?_
 refine aA ?_
 refine aB rfl (bQ Tryz.runUnderlying130 rfl) rfl rfl ?_
 refine aA ?_
 refine aB rfl (aF rfl) rfl rfl ?_
 refine aA ?_
 refine aB rfl (bQ Tryz.runUnderlying130 rfl) rfl rfl ?_
 by_cases hg2 : ¬ ((l.length : Nat) : Int) = (k.length : Nat)
 ·refine aA ?_
  refine aB rfl (bV hg2 (bN rfl rfl)) rfl rfl ?_
  refine aH ?_
  refine aG ?_
  refine bX rfl ?_
  refine wp_seq ?_
  refine aM [0] rfl ?_
  refine aA ?_
  refine aB rfl (aJ rfl) rfl rfl ?_
  refine aH ?_
  refine aG ?_
  refine wp_ret ?_
  refine aU ?_
  have hz3 : ∀ f, aV f l k = false := fun f => eY f l k kO
  have hr4 : aV fB l k = false := by simp [hz3]
  refine aQ (.inl rfl) Tryz.results116 rfl ?_
  rw [hr4]
  exact ⟨rfl, H1.1⟩
 ·refine aA ?_
  refine aB rfl (bO hg2 (bN rfl rfl)) rfl rfl ?_
  refine aH ?_
  refine aG ?_
  refine dU rfl ?_
  refine wp_skip ?_
  refine aG ?_
  refine wp_seq ?_
  refine wp_seq ?_
  refine aM [0, 1, 2] rfl ?_
  refine aA ?_
  refine aB rfl (aF rfl) rfl rfl ?_
  refine aA ?_
  refine aB rfl (bQ Tryz.runUnderlying130 rfl) rfl rfl ?_
  refine aA ?_
  refine aB rfl (aF rfl) rfl rfl ?_
  refine aH ?_
  refine aG ?_
  refine wp_block ?_
  refine wp_loop_ghost (fun r a' W' => ∃ (i1 : Nat) (x' : Nat → Value), a' = bT 26 x' [(0, .slice A l.length c), (1, .slice A' k.length c'), (12, .int .i64 ((l.length : Nat))), (13, .int .i64 (((i1 : Nat) : Int)))] ∧ (i1 + r = l.length) ∧ (aV fB l k = aV fB (l.drop i1) (k.drop i1)) ∧ St w No [] W') l.length ?_ ?_
  ·exact (bA [(0, .slice A l.length c), (1, .slice A' k.length c'), (12, .int .i64 ((l.length : Nat))), (13, .int .i64 (((0 : Nat) : Int)))] rfl).elim fun x' hx => ⟨0, x', hx, kO, rfl, H1⟩
  ·rintro r5 _ W6 ⟨i1, x7, rfl, hi1, hf1, H8⟩; clear H1
   refine wp_seq ?_
   refine aM [0] rfl ?_
   refine aA ?_
   refine aB rfl (gY rfl rfl) rfl rfl ?_
   refine aH ?_
   refine aG ?_
   refine wp_seq ?_
   refine eP rfl (fun hc9 => ?_) (fun hc9 => ?_)
   ·have hlt1 : i1 < l.length := by omega
    have hlu1 : i1 < k.length := by omega
    obtain ⟨ade10, cse10, hAe10, hKe10, hce10⟩ := dO h i1 hlt1
    have hle10 := oF hKe10
    have hoe10 := oG hKe10
    obtain ⟨ade11, cse11, hAe11, hKe11, hce11⟩ := dO h' i1 hlu1
    have hle11 := oF hKe11
    have hoe11 := oG hKe11
    obtain rfl := kT hKe10
    obtain rfl := kT hKe11
    refine wp_skip ?_
    refine aG ?_
    refine wp_seq ?_
    refine wp_block ?_
    refine wp_seq ?_
    refine aM [0, 1] rfl ?_
    refine aA ?_
    refine aB rfl (aF rfl) rfl rfl ?_
    refine aA ?_
    refine aB rfl (aJ rfl) rfl rfl ?_
    refine aH ?_
    refine aG ?_
    refine wp_seq ?_
    by_cases hg12 : (fB (l[i1]) (k[i1])) = true
    ·refine dD (fun W' => Cat W' (Addr.add ade10 (i1 * 2)) [.int .i64 (l[i1].dZ), .int .i64 (l[i1].Question)] ∧ Cat W' (Addr.add ade11 (i1 * 2)) [.int .i64 (k[i1].dZ), .int .i64 (k[i1].Question)]) 9 kR ?_
     have H13 := H8.drew; clear H8
     have hS14 : Cat W6.drew (Addr.add ade10 (i1 * 2)) [.int .i64 (l[i1].dZ), .int .i64 (l[i1].Question)] ∧ Cat W6.drew (Addr.add ade11 (i1 * 2)) [.int .i64 (k[i1].dZ), .int .i64 (k[i1].Question)] := ⟨(Cat.upd hce10 H13.1), (Cat.upd hce11 H13.1)⟩
     refine aD (i := 0) rfl kR kR kR kR kR (fun _ _ _ h => h) rfl rfl hS14 (fun W' hs' => aF rfl) ?_
     refine aD (i := 1) rfl kR kR kR kR kR (fun _ _ _ h => h) rfl rfl hS14 (fun W' hs' => aF rfl) ?_
     refine aD (i := 2) rfl kR kR kR kR kR (fun _ _ _ h => h) rfl rfl hS14 (fun W' hs' => aP (k := i1) Tryz.runUnderlying130 Tryz.sizeOf184 rfl rfl hAe10 hlt1) ?_
     refine aD (i := 3) rfl kR kR kR kR kR (fun _ _ _ h => h) rfl rfl hS14 (fun W' hs' => aY Tryz.isAgg184 Tryz.sizeOf184 rfl hs'.1 rfl) ?_
     refine aD (i := 4) rfl kR kR kR kR kR (fun _ _ _ h => h) rfl rfl hS14 (fun W' hs' => aF rfl) ?_
     refine aD (i := 5) rfl kR kR kR kR kR (fun _ _ _ h => h) rfl rfl hS14 (fun W' hs' => aF rfl) ?_
     refine aD (i := 6) rfl kR kR kR kR kR (fun _ _ _ h => h) rfl rfl hS14 (fun W' hs' => aP (k := i1) Tryz.runUnderlying130 Tryz.sizeOf184 rfl rfl hAe11 hlu1) ?_
     refine aD (i := 7) rfl kR kR kR kR kR (fun _ _ _ h => h) rfl rfl hS14 (fun W' hs' => aY Tryz.isAgg184 Tryz.sizeOf184 rfl hs'.2 rfl) ?_
     refine aD (i := 8) rfl kR kR kR kR kR (fun _ _ _ h => h) rfl rfl hS14 (fun W' hs' => cZ (b := !(fB (l[i1]) (k[i1]))) (by rw [hg12]) (fJ Tryz.eqGuardType184 rfl rfl (eqr_Asker (l[i1]) (k[i1]) _ 9998))) ?_
     refine bU kR ?_ _
     refine aG ?_
     refine dU rfl ?_
     refine wp_skip ?_
     refine iY ?_
     refine aG ?_
     refine aM [0, 1] rfl ?_
     refine aA ?_
     refine aB rfl (iB (k := i1) rfl rfl kO) rfl rfl ?_
     refine aA ?_
     refine aB rfl (aF rfl) rfl rfl ?_
     refine aH ?_
     refine aG ?_
     exact (bA [(0, .slice A l.length c), (1, .slice A' k.length c'), (12, .int .i64 ((l.length : Nat))), (13, .int .i64 (((i1 + 1 : Nat) : Int)))] rfl).elim fun x' hx => ⟨r5 - 1, kO, i1 + 1, x', hx, kO, (hf1.trans (fC fB l k i1 hlt1 hlu1 hg12)), H13⟩
    ·refine dD (fun W' => Cat W' (Addr.add ade10 (i1 * 2)) [.int .i64 (l[i1].dZ), .int .i64 (l[i1].Question)] ∧ Cat W' (Addr.add ade11 (i1 * 2)) [.int .i64 (k[i1].dZ), .int .i64 (k[i1].Question)]) 9 kR ?_
     have H15 := H8.drew; clear H8
     have hS16 : Cat W6.drew (Addr.add ade10 (i1 * 2)) [.int .i64 (l[i1].dZ), .int .i64 (l[i1].Question)] ∧ Cat W6.drew (Addr.add ade11 (i1 * 2)) [.int .i64 (k[i1].dZ), .int .i64 (k[i1].Question)] := ⟨(Cat.upd hce10 H15.1), (Cat.upd hce11 H15.1)⟩
     refine aD (i := 0) rfl kR kR kR kR kR (fun _ _ _ h => h) rfl rfl hS16 (fun W' hs' => aF rfl) ?_
     refine aD (i := 1) rfl kR kR kR kR kR (fun _ _ _ h => h) rfl rfl hS16 (fun W' hs' => aF rfl) ?_
     refine aD (i := 2) rfl kR kR kR kR kR (fun _ _ _ h => h) rfl rfl hS16 (fun W' hs' => aP (k := i1) Tryz.runUnderlying130 Tryz.sizeOf184 rfl rfl hAe10 hlt1) ?_
     refine aD (i := 3) rfl kR kR kR kR kR (fun _ _ _ h => h) rfl rfl hS16 (fun W' hs' => aY Tryz.isAgg184 Tryz.sizeOf184 rfl hs'.1 rfl) ?_
     refine aD (i := 4) rfl kR kR kR kR kR (fun _ _ _ h => h) rfl rfl hS16 (fun W' hs' => aF rfl) ?_
     refine aD (i := 5) rfl kR kR kR kR kR (fun _ _ _ h => h) rfl rfl hS16 (fun W' hs' => aF rfl) ?_
     refine aD (i := 6) rfl kR kR kR kR kR (fun _ _ _ h => h) rfl rfl hS16 (fun W' hs' => aP (k := i1) Tryz.runUnderlying130 Tryz.sizeOf184 rfl rfl hAe11 hlu1) ?_
     refine aD (i := 7) rfl kR kR kR kR kR (fun _ _ _ h => h) rfl rfl hS16 (fun W' hs' => aY Tryz.isAgg184 Tryz.sizeOf184 rfl hs'.2 rfl) ?_
     refine aD (i := 8) rfl kR kR kR kR kR (fun _ _ _ h => h) rfl rfl hS16 (fun W' hs' => cZ (b := !(fB (l[i1]) (k[i1]))) (by rw [(eq_false_of_ne_true hg12)]) (fJ Tryz.eqGuardType184 rfl rfl (eqr_Asker (l[i1]) (k[i1]) _ 9998))) ?_
     refine bU kR ?_ _
     refine aG ?_
     refine bX rfl ?_
     refine wp_seq ?_
     refine aM [0] rfl ?_
     refine aA ?_
     refine aB rfl (aJ rfl) rfl rfl ?_
     refine aH ?_
     refine aG ?_
     refine wp_ret ?_
     refine dS ?_
     refine aU ?_
     refine aU ?_
     refine dS ?_
     refine aU ?_
     have hz17 : aV fB l k = false := hf1.trans (eG fB l k i1 hlt1 hlu1 (eq_false_of_ne_true hg12))
     have hr18 : aV fB l k = false := by simp [hg12, hz17]
     refine aQ (.inl rfl) Tryz.results116 rfl ?_
     rw [hr18]
     exact ⟨rfl, H15.1⟩
   ·have hd1 : aV fB l k = true := hf1.trans (fD fB l k i1 kO kO)
    refine wp_exit ?_
    refine dP ?_
    refine dP ?_
    refine iZ ?_
    refine aG ?_
    refine wp_seq ?_
    refine aM [0] rfl ?_
    refine aA ?_
    refine aB rfl (aJ rfl) rfl rfl ?_
    refine aH ?_
    refine aG ?_
    refine wp_ret ?_
    have hr19 : aV fB l k = true := by simp [hd1]
    refine aQ (.inl rfl) Tryz.results116 rfl ?_
    rw [hr19]
    exact ⟨rfl, H8.1⟩
theorem eqI_Export (l k : List GExport) (A A' : Option Addr) (c c' : Nat) (w : World) (h : C eZ w A l) (h' : C eZ w A' k) : Calls Tryz.prog 119 #[.slice A l.length c, .slice A' k.length c'] w (bW (aV dV l k) w) := by
 have nx := h.1
 refine enter 26 [(0, .slice A l.length c), (1, .slice A' k.length c')] Tryz.func119 rfl kR ?_
 intro xj
 have H1 : St w No [] w := St.enter
 refine wp_seq ?_
 refine aM [0] rfl ?_
 refine aA ?_
 refine aB rfl (aJ rfl) rfl rfl ?_
 refine aH ?_
 refine aG ?_
 refine wp_seq ?_
 refine wp_seq ?_
 refine aM [0, 1, 2, 3, 4] rfl ?_
 refine aA ?_
 refine aB rfl (aF rfl) rfl rfl ?_
 refine aA ?_
 refine aB rfl (bQ Tryz.runUnderlying134 rfl) rfl rfl ?_
 refine aA ?_
 refine aB rfl (aF rfl) rfl rfl ?_
 refine aA ?_
 refine aB rfl (bQ Tryz.runUnderlying134 rfl) rfl rfl ?_
 by_cases hg2 : ¬ ((l.length : Nat) : Int) = (k.length : Nat)
 ·refine aA ?_
  refine aB rfl (bV hg2 (bN rfl rfl)) rfl rfl ?_
  refine aH ?_
  refine aG ?_
  refine bX rfl ?_
  refine wp_seq ?_
  refine aM [0] rfl ?_
  refine aA ?_
  refine aB rfl (aJ rfl) rfl rfl ?_
  refine aH ?_
  refine aG ?_
  refine wp_ret ?_
  refine aU ?_
  have hz3 : ∀ f, aV f l k = false := fun f => eY f l k kO
  have hr4 : aV dV l k = false := by simp [hz3]
  refine aQ (.inl rfl) Tryz.results119 rfl ?_
  rw [hr4]
  exact ⟨rfl, H1.1⟩
 ·refine aA ?_
  refine aB rfl (bO hg2 (bN rfl rfl)) rfl rfl ?_
  refine aH ?_
  refine aG ?_
  refine dU rfl ?_
  refine wp_skip ?_
  refine aG ?_
  refine wp_seq ?_
  refine wp_seq ?_
  refine aM [0, 1, 2] rfl ?_
  refine aA ?_
  refine aB rfl (aF rfl) rfl rfl ?_
  refine aA ?_
  refine aB rfl (bQ Tryz.runUnderlying134 rfl) rfl rfl ?_
  refine aA ?_
  refine aB rfl (aF rfl) rfl rfl ?_
  refine aH ?_
  refine aG ?_
  refine wp_block ?_
  refine wp_loop_ghost (fun r a' W' => ∃ (i1 : Nat) (x' : Nat → Value), a' = bT 26 x' [(0, .slice A l.length c), (1, .slice A' k.length c'), (12, .int .i64 ((l.length : Nat))), (13, .int .i64 (((i1 : Nat) : Int)))] ∧ (i1 + r = l.length) ∧ (aV dV l k = aV dV (l.drop i1) (k.drop i1)) ∧ St w No [] W') l.length ?_ ?_
  ·exact (bA [(0, .slice A l.length c), (1, .slice A' k.length c'), (12, .int .i64 ((l.length : Nat))), (13, .int .i64 (((0 : Nat) : Int)))] rfl).elim fun x' hx => ⟨0, x', hx, kO, rfl, H1⟩
  ·rintro r5 _ W6 ⟨i1, x7, rfl, hi1, hf1, H8⟩; clear H1
   refine wp_seq ?_
   refine aM [0] rfl ?_
   refine aA ?_
   refine aB rfl (gY rfl rfl) rfl rfl ?_
   refine aH ?_
   refine aG ?_
   refine wp_seq ?_
   refine eP rfl (fun hc9 => ?_) (fun hc9 => ?_)
   ·have hlt1 : i1 < l.length := by omega
    have hlu1 : i1 < k.length := by omega
    obtain ⟨ade10, cse10, hAe10, hKe10, hce10⟩ := dO h i1 hlt1
    have hle10 := nI hKe10
    have hoe10 := nJ hKe10
    obtain ⟨ade11, cse11, hAe11, hKe11, hce11⟩ := dO h' i1 hlu1
    have hle11 := nI hKe11
    have hoe11 := nJ hKe11
    obtain rfl := jY hKe10
    obtain rfl := jY hKe11
    refine wp_skip ?_
    refine aG ?_
    refine wp_seq ?_
    refine wp_block ?_
    refine wp_seq ?_
    refine aM [0, 1] rfl ?_
    refine aA ?_
    refine aB rfl (aF rfl) rfl rfl ?_
    refine aA ?_
    refine aB rfl (aJ rfl) rfl rfl ?_
    refine aH ?_
    refine aG ?_
    refine wp_seq ?_
    by_cases hg12 : (dV (l[i1]) (k[i1])) = true
    ·refine dD (fun W' => Cat W' (Addr.add ade10 (i1 * 3)) [.int .i64 (l[i1].Pos), .int .i64 (l[i1].Entity), .int .i64 (l[i1].Count)] ∧ Cat W' (Addr.add ade11 (i1 * 3)) [.int .i64 (k[i1].Pos), .int .i64 (k[i1].Entity), .int .i64 (k[i1].Count)]) 9 kR ?_
     have H13 := H8.drew; clear H8
     have hS14 : Cat W6.drew (Addr.add ade10 (i1 * 3)) [.int .i64 (l[i1].Pos), .int .i64 (l[i1].Entity), .int .i64 (l[i1].Count)] ∧ Cat W6.drew (Addr.add ade11 (i1 * 3)) [.int .i64 (k[i1].Pos), .int .i64 (k[i1].Entity), .int .i64 (k[i1].Count)] := ⟨(Cat.upd hce10 H13.1), (Cat.upd hce11 H13.1)⟩
     refine aD (i := 0) rfl kR kR kR kR kR (fun _ _ _ h => h) rfl rfl hS14 (fun W' hs' => aF rfl) ?_
     refine aD (i := 1) rfl kR kR kR kR kR (fun _ _ _ h => h) rfl rfl hS14 (fun W' hs' => aF rfl) ?_
     refine aD (i := 2) rfl kR kR kR kR kR (fun _ _ _ h => h) rfl rfl hS14 (fun W' hs' => aP (k := i1) Tryz.runUnderlying134 Tryz.sizeOf186 rfl rfl hAe10 hlt1) ?_
     refine aD (i := 3) rfl kR kR kR kR kR (fun _ _ _ h => h) rfl rfl hS14 (fun W' hs' => aY Tryz.isAgg186 Tryz.sizeOf186 rfl hs'.1 rfl) ?_
     refine aD (i := 4) rfl kR kR kR kR kR (fun _ _ _ h => h) rfl rfl hS14 (fun W' hs' => aF rfl) ?_
     refine aD (i := 5) rfl kR kR kR kR kR (fun _ _ _ h => h) rfl rfl hS14 (fun W' hs' => aF rfl) ?_
     refine aD (i := 6) rfl kR kR kR kR kR (fun _ _ _ h => h) rfl rfl hS14 (fun W' hs' => aP (k := i1) Tryz.runUnderlying134 Tryz.sizeOf186 rfl rfl hAe11 hlu1) ?_
     refine aD (i := 7) rfl kR kR kR kR kR (fun _ _ _ h => h) rfl rfl hS14 (fun W' hs' => aY Tryz.isAgg186 Tryz.sizeOf186 rfl hs'.2 rfl) ?_
     refine aD (i := 8) rfl kR kR kR kR kR (fun _ _ _ h => h) rfl rfl hS14 (fun W' hs' => cZ (b := !(dV (l[i1]) (k[i1]))) (by rw [hg12]) (fJ Tryz.eqGuardType186 rfl rfl (eqr_Export (l[i1]) (k[i1]) _ 9998))) ?_
     refine bU kR ?_ _
     refine aG ?_
     refine dU rfl ?_
     refine wp_skip ?_
     refine iY ?_
     refine aG ?_
     refine aM [0, 1] rfl ?_
     refine aA ?_
     refine aB rfl (iB (k := i1) rfl rfl kO) rfl rfl ?_
     refine aA ?_
     refine aB rfl (aF rfl) rfl rfl ?_
     refine aH ?_
     refine aG ?_
     exact (bA [(0, .slice A l.length c), (1, .slice A' k.length c'), (12, .int .i64 ((l.length : Nat))), (13, .int .i64 (((i1 + 1 : Nat) : Int)))] rfl).elim fun x' hx => ⟨r5 - 1, kO, i1 + 1, x', hx, kO, (hf1.trans (fC dV l k i1 hlt1 hlu1 hg12)), H13⟩
    ·refine dD (fun W' => Cat W' (Addr.add ade10 (i1 * 3)) [.int .i64 (l[i1].Pos), .int .i64 (l[i1].Entity), .int .i64 (l[i1].Count)] ∧ Cat W' (Addr.add ade11 (i1 * 3)) [.int .i64 (k[i1].Pos), .int .i64 (k[i1].Entity), .int .i64 (k[i1].Count)]) 9 kR ?_
     have H15 := H8.drew; clear H8
     have hS16 : Cat W6.drew (Addr.add ade10 (i1 * 3)) [.int .i64 (l[i1].Pos), .int .i64 (l[i1].Entity), .int .i64 (l[i1].Count)] ∧ Cat W6.drew (Addr.add ade11 (i1 * 3)) [.int .i64 (k[i1].Pos), .int .i64 (k[i1].Entity), .int .i64 (k[i1].Count)] := ⟨(Cat.upd hce10 H15.1), (Cat.upd hce11 H15.1)⟩
     refine aD (i := 0) rfl kR kR kR kR kR (fun _ _ _ h => h) rfl rfl hS16 (fun W' hs' => aF rfl) ?_
     refine aD (i := 1) rfl kR kR kR kR kR (fun _ _ _ h => h) rfl rfl hS16 (fun W' hs' => aF rfl) ?_
     refine aD (i := 2) rfl kR kR kR kR kR (fun _ _ _ h => h) rfl rfl hS16 (fun W' hs' => aP (k := i1) Tryz.runUnderlying134 Tryz.sizeOf186 rfl rfl hAe10 hlt1) ?_
     refine aD (i := 3) rfl kR kR kR kR kR (fun _ _ _ h => h) rfl rfl hS16 (fun W' hs' => aY Tryz.isAgg186 Tryz.sizeOf186 rfl hs'.1 rfl) ?_
     refine aD (i := 4) rfl kR kR kR kR kR (fun _ _ _ h => h) rfl rfl hS16 (fun W' hs' => aF rfl) ?_
     refine aD (i := 5) rfl kR kR kR kR kR (fun _ _ _ h => h) rfl rfl hS16 (fun W' hs' => aF rfl) ?_
     refine aD (i := 6) rfl kR kR kR kR kR (fun _ _ _ h => h) rfl rfl hS16 (fun W' hs' => aP (k := i1) Tryz.runUnderlying134 Tryz.sizeOf186 rfl rfl hAe11 hlu1) ?_
     refine aD (i := 7) rfl kR kR kR kR kR (fun _ _ _ h => h) rfl rfl hS16 (fun W' hs' => aY Tryz.isAgg186 Tryz.sizeOf186 rfl hs'.2 rfl) ?_
     refine aD (i := 8) rfl kR kR kR kR kR (fun _ _ _ h => h) rfl rfl hS16 (fun W' hs' => cZ (b := !(dV (l[i1]) (k[i1]))) (by rw [(eq_false_of_ne_true hg12)]) (fJ Tryz.eqGuardType186 rfl rfl (eqr_Export (l[i1]) (k[i1]) _ 9998))) ?_
     refine bU kR ?_ _
     refine aG ?_
     refine bX rfl ?_
     refine wp_seq ?_
     refine aM [0] rfl ?_
     refine aA ?_
     refine aB rfl (aJ rfl) rfl rfl ?_
     refine aH ?_
     refine aG ?_
     refine wp_ret ?_
     refine dS ?_
     refine aU ?_
     refine aU ?_
     refine dS ?_
     refine aU ?_
     have hz17 : aV dV l k = false := hf1.trans (eG dV l k i1 hlt1 hlu1 (eq_false_of_ne_true hg12))
     have hr18 : aV dV l k = false := by simp [hg12, hz17]
     refine aQ (.inl rfl) Tryz.results119 rfl ?_
     rw [hr18]
     exact ⟨rfl, H15.1⟩
   ·have hd1 : aV dV l k = true := hf1.trans (fD dV l k i1 kO kO)
    refine wp_exit ?_
    refine dP ?_
    refine dP ?_
    refine iZ ?_
    refine aG ?_
    refine wp_seq ?_
    refine aM [0] rfl ?_
    refine aA ?_
    refine aB rfl (aJ rfl) rfl rfl ?_
    refine aH ?_
    refine aG ?_
    refine wp_ret ?_
    have hr19 : aV dV l k = true := by simp [hd1]
    refine aQ (.inl rfl) Tryz.results119 rfl ?_
    rw [hr19]
    exact ⟨rfl, H8.1⟩
theorem oJ (l k : List GQuestion) (A A' : Option Addr) (c c' : Nat) (w : World) (h : C dB w A l) (h' : C dB w A' k) : Calls Tryz.prog 120 #[.slice A l.length c, .slice A' k.length c'] w (bW (aV bY l k) w) := by
 have nx := h.1
 refine enter 26 [(0, .slice A l.length c), (1, .slice A' k.length c')] Tryz.func120 rfl kR ?_
 intro xj
 have H1 : St w No [] w := St.enter
 refine wp_seq ?_
 refine aM [0] rfl ?_
 refine aA ?_
 refine aB rfl (aJ rfl) rfl rfl ?_
 refine aH ?_
 refine aG ?_
 refine wp_seq ?_
 refine wp_seq ?_
 refine aM [0, 1, 2, 3, 4] rfl ?_
 refine aA ?_
 refine aB rfl (aF rfl) rfl rfl ?_
 refine aA ?_
 refine aB rfl (bQ Tryz.runUnderlying135 rfl) rfl rfl ?_
 refine aA ?_
 refine aB rfl (aF rfl) rfl rfl ?_
 refine aA ?_
 refine aB rfl (bQ Tryz.runUnderlying135 rfl) rfl rfl ?_
 by_cases hg2 : ¬ ((l.length : Nat) : Int) = (k.length : Nat)
 ·refine aA ?_
  refine aB rfl (bV hg2 (bN rfl rfl)) rfl rfl ?_
  refine aH ?_
  refine aG ?_
  refine bX rfl ?_
  refine wp_seq ?_
  refine aM [0] rfl ?_
  refine aA ?_
  refine aB rfl (aJ rfl) rfl rfl ?_
  refine aH ?_
  refine aG ?_
  refine wp_ret ?_
  refine aU ?_
  have hz3 : ∀ f, aV f l k = false := fun f => eY f l k kO
  have hr4 : aV bY l k = false := by simp [hz3]
  refine aQ (.inl rfl) Tryz.results120 rfl ?_
  rw [hr4]
  exact ⟨rfl, H1.1⟩
 ·refine aA ?_
  refine aB rfl (bO hg2 (bN rfl rfl)) rfl rfl ?_
  refine aH ?_
  refine aG ?_
  refine dU rfl ?_
  refine wp_skip ?_
  refine aG ?_
  refine wp_seq ?_
  refine wp_seq ?_
  refine aM [0, 1, 2] rfl ?_
  refine aA ?_
  refine aB rfl (aF rfl) rfl rfl ?_
  refine aA ?_
  refine aB rfl (bQ Tryz.runUnderlying135 rfl) rfl rfl ?_
  refine aA ?_
  refine aB rfl (aF rfl) rfl rfl ?_
  refine aH ?_
  refine aG ?_
  refine wp_block ?_
  refine wp_loop_ghost (fun r a' W' => ∃ (i1 : Nat) (x' : Nat → Value), a' = bT 26 x' [(0, .slice A l.length c), (1, .slice A' k.length c'), (12, .int .i64 ((l.length : Nat))), (13, .int .i64 (((i1 : Nat) : Int)))] ∧ (i1 + r = l.length) ∧ (aV bY l k = aV bY (l.drop i1) (k.drop i1)) ∧ St w No [] W') l.length ?_ ?_
  ·exact (bA [(0, .slice A l.length c), (1, .slice A' k.length c'), (12, .int .i64 ((l.length : Nat))), (13, .int .i64 (((0 : Nat) : Int)))] rfl).elim fun x' hx => ⟨0, x', hx, kO, rfl, H1⟩
  ·rintro r5 _ W6 ⟨i1, x7, rfl, hi1, hf1, H8⟩; clear H1
   refine wp_seq ?_
   refine aM [0] rfl ?_
   refine aA ?_
   refine aB rfl (gY rfl rfl) rfl rfl ?_
   refine aH ?_
   refine aG ?_
   refine wp_seq ?_
   refine eP rfl (fun hc9 => ?_) (fun hc9 => ?_)
   ·have hlt1 : i1 < l.length := by omega
    have hlu1 : i1 < k.length := by omega
    obtain ⟨ade10, cse10, hAe10, hKe10, hce10⟩ := dO h i1 hlt1
    have hle10 := lN hKe10
    have hoe10 := lQ hKe10
    obtain ⟨ade11, cse11, hAe11, hKe11, hce11⟩ := dO h' i1 hlu1
    have hle11 := lN hKe11
    have hoe11 := lQ hKe11
    obtain rfl := jA hKe10
    obtain rfl := jA hKe11
    refine wp_skip ?_
    refine aG ?_
    refine wp_seq ?_
    refine wp_block ?_
    refine wp_seq ?_
    refine aM [0, 1] rfl ?_
    refine aA ?_
    refine aB rfl (aF rfl) rfl rfl ?_
    refine aA ?_
    refine aB rfl (aJ rfl) rfl rfl ?_
    refine aH ?_
    refine aG ?_
    refine wp_seq ?_
    by_cases hg12 : (bY (l[i1]) (k[i1])) = true
    ·refine dD (fun W' => Cat W' (Addr.add ade10 (i1 * 2)) [.int .i64 (l[i1].Id), .int .i64 (l[i1].Promise)] ∧ Cat W' (Addr.add ade11 (i1 * 2)) [.int .i64 (k[i1].Id), .int .i64 (k[i1].Promise)]) 9 kR ?_
     have H13 := H8.drew; clear H8
     have hS14 : Cat W6.drew (Addr.add ade10 (i1 * 2)) [.int .i64 (l[i1].Id), .int .i64 (l[i1].Promise)] ∧ Cat W6.drew (Addr.add ade11 (i1 * 2)) [.int .i64 (k[i1].Id), .int .i64 (k[i1].Promise)] := ⟨(Cat.upd hce10 H13.1), (Cat.upd hce11 H13.1)⟩
     refine aD (i := 0) rfl kR kR kR kR kR (fun _ _ _ h => h) rfl rfl hS14 (fun W' hs' => aF rfl) ?_
     refine aD (i := 1) rfl kR kR kR kR kR (fun _ _ _ h => h) rfl rfl hS14 (fun W' hs' => aF rfl) ?_
     refine aD (i := 2) rfl kR kR kR kR kR (fun _ _ _ h => h) rfl rfl hS14 (fun W' hs' => aP (k := i1) Tryz.runUnderlying135 Tryz.sizeOf193 rfl rfl hAe10 hlt1) ?_
     refine aD (i := 3) rfl kR kR kR kR kR (fun _ _ _ h => h) rfl rfl hS14 (fun W' hs' => aY Tryz.isAgg193 Tryz.sizeOf193 rfl hs'.1 rfl) ?_
     refine aD (i := 4) rfl kR kR kR kR kR (fun _ _ _ h => h) rfl rfl hS14 (fun W' hs' => aF rfl) ?_
     refine aD (i := 5) rfl kR kR kR kR kR (fun _ _ _ h => h) rfl rfl hS14 (fun W' hs' => aF rfl) ?_
     refine aD (i := 6) rfl kR kR kR kR kR (fun _ _ _ h => h) rfl rfl hS14 (fun W' hs' => aP (k := i1) Tryz.runUnderlying135 Tryz.sizeOf193 rfl rfl hAe11 hlu1) ?_
     refine aD (i := 7) rfl kR kR kR kR kR (fun _ _ _ h => h) rfl rfl hS14 (fun W' hs' => aY Tryz.isAgg193 Tryz.sizeOf193 rfl hs'.2 rfl) ?_
     refine aD (i := 8) rfl kR kR kR kR kR (fun _ _ _ h => h) rfl rfl hS14 (fun W' hs' => cZ (b := !(bY (l[i1]) (k[i1]))) (by rw [hg12]) (fJ Tryz.eqGuardType193 rfl rfl (oI (l[i1]) (k[i1]) _ 9998))) ?_
     refine bU kR ?_ _
     refine aG ?_
     refine dU rfl ?_
     refine wp_skip ?_
     refine iY ?_
     refine aG ?_
     refine aM [0, 1] rfl ?_
     refine aA ?_
     refine aB rfl (iB (k := i1) rfl rfl kO) rfl rfl ?_
     refine aA ?_
     refine aB rfl (aF rfl) rfl rfl ?_
     refine aH ?_
     refine aG ?_
     exact (bA [(0, .slice A l.length c), (1, .slice A' k.length c'), (12, .int .i64 ((l.length : Nat))), (13, .int .i64 (((i1 + 1 : Nat) : Int)))] rfl).elim fun x' hx => ⟨r5 - 1, kO, i1 + 1, x', hx, kO, (hf1.trans (fC bY l k i1 hlt1 hlu1 hg12)), H13⟩
    ·refine dD (fun W' => Cat W' (Addr.add ade10 (i1 * 2)) [.int .i64 (l[i1].Id), .int .i64 (l[i1].Promise)] ∧ Cat W' (Addr.add ade11 (i1 * 2)) [.int .i64 (k[i1].Id), .int .i64 (k[i1].Promise)]) 9 kR ?_
     have H15 := H8.drew; clear H8
     have hS16 : Cat W6.drew (Addr.add ade10 (i1 * 2)) [.int .i64 (l[i1].Id), .int .i64 (l[i1].Promise)] ∧ Cat W6.drew (Addr.add ade11 (i1 * 2)) [.int .i64 (k[i1].Id), .int .i64 (k[i1].Promise)] := ⟨(Cat.upd hce10 H15.1), (Cat.upd hce11 H15.1)⟩
     refine aD (i := 0) rfl kR kR kR kR kR (fun _ _ _ h => h) rfl rfl hS16 (fun W' hs' => aF rfl) ?_
     refine aD (i := 1) rfl kR kR kR kR kR (fun _ _ _ h => h) rfl rfl hS16 (fun W' hs' => aF rfl) ?_
     refine aD (i := 2) rfl kR kR kR kR kR (fun _ _ _ h => h) rfl rfl hS16 (fun W' hs' => aP (k := i1) Tryz.runUnderlying135 Tryz.sizeOf193 rfl rfl hAe10 hlt1) ?_
     refine aD (i := 3) rfl kR kR kR kR kR (fun _ _ _ h => h) rfl rfl hS16 (fun W' hs' => aY Tryz.isAgg193 Tryz.sizeOf193 rfl hs'.1 rfl) ?_
     refine aD (i := 4) rfl kR kR kR kR kR (fun _ _ _ h => h) rfl rfl hS16 (fun W' hs' => aF rfl) ?_
     refine aD (i := 5) rfl kR kR kR kR kR (fun _ _ _ h => h) rfl rfl hS16 (fun W' hs' => aF rfl) ?_
     refine aD (i := 6) rfl kR kR kR kR kR (fun _ _ _ h => h) rfl rfl hS16 (fun W' hs' => aP (k := i1) Tryz.runUnderlying135 Tryz.sizeOf193 rfl rfl hAe11 hlu1) ?_
     refine aD (i := 7) rfl kR kR kR kR kR (fun _ _ _ h => h) rfl rfl hS16 (fun W' hs' => aY Tryz.isAgg193 Tryz.sizeOf193 rfl hs'.2 rfl) ?_
     refine aD (i := 8) rfl kR kR kR kR kR (fun _ _ _ h => h) rfl rfl hS16 (fun W' hs' => cZ (b := !(bY (l[i1]) (k[i1]))) (by rw [(eq_false_of_ne_true hg12)]) (fJ Tryz.eqGuardType193 rfl rfl (oI (l[i1]) (k[i1]) _ 9998))) ?_
     refine bU kR ?_ _
     refine aG ?_
     refine bX rfl ?_
     refine wp_seq ?_
     refine aM [0] rfl ?_
     refine aA ?_
     refine aB rfl (aJ rfl) rfl rfl ?_
     refine aH ?_
     refine aG ?_
     refine wp_ret ?_
     refine dS ?_
     refine aU ?_
     refine aU ?_
     refine dS ?_
     refine aU ?_
     have hz17 : aV bY l k = false := hf1.trans (eG bY l k i1 hlt1 hlu1 (eq_false_of_ne_true hg12))
     have hr18 : aV bY l k = false := by simp [hg12, hz17]
     refine aQ (.inl rfl) Tryz.results120 rfl ?_
     rw [hr18]
     exact ⟨rfl, H15.1⟩
   ·have hd1 : aV bY l k = true := hf1.trans (fD bY l k i1 kO kO)
    refine wp_exit ?_
    refine dP ?_
    refine dP ?_
    refine iZ ?_
    refine aG ?_
    refine wp_seq ?_
    refine aM [0] rfl ?_
    refine aA ?_
    refine aB rfl (aJ rfl) rfl rfl ?_
    refine aH ?_
    refine aG ?_
    refine wp_ret ?_
    have hr19 : aV bY l k = true := by simp [hd1]
    refine aQ (.inl rfl) Tryz.results120 rfl ?_
    rw [hr19]
    exact ⟨rfl, H8.1⟩
end Go.Proofs.YtgaoabnnpjngcaaGreatFam
