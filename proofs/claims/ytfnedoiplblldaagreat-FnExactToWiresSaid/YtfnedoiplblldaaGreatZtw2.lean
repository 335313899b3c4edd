/- What the row needs, packed. No conditions beyond those that each law names. -/
import Derived.Test.YtfnedoiplblldaaGreatZtw1
import Derived.Test.YtfnedoiplblldaaGreatProg
import Derived.WalkKit
import Derived.KernelRfl
import Derived.RowKit3
import Derived.Deep.LoopGhost
import Derived.Deep.QuietTactic
import Derived.BigQuiet
import Derived.StillTailTactics
import Derived.Deep.RegionHeld3
namespace Go.Proofs.YtfnedoiplblldaaGreatFam
open Go.RowKit Go.Proofs.YtfnedoiplblldaaGreatSep Go.Proofs.YtfnedoiplblldaaGreatT Go.Proofs.YtfnedoiplblldaaGreatK
set_option linter.unusedVariables false
set_option linter.unusedSimpArgs false
set_option maxHeartbeats 1000000
set_option maxRecDepth 100000
theorem kl_Sent_Kmk (w : World) (x : GSent) {A2 : Option Addr} {c2 : Nat} (hl2 : x.dI.length ≤ c2) (hC2 : C gB w A2 x.dI) : jN.K w x [.int .i64 x.Target, .string x.Name, .slice A2 x.dI.length c2, .int .i64 x.Result, .int .i64 x.Tag.Vat, .int .i64 x.Tag.Entity, .int .i64 x.Tag.Seq] := ⟨[_], [_, _, _, _, _, _], rfl, rfl, ⟨[_], [_, _, _, _, _], rfl, rfl, ⟨[_], [_, _, _, _], rfl, ⟨A2, c2, rfl, hl2, hC2⟩, ⟨[_], [_, _, _], rfl, rfl, (kl_Tag_Kmk w _)⟩⟩⟩⟩
theorem ki_Sent_Kmk (w : World) (x : GSent) {A2 : Option Addr} {c2 : Nat} (hl2 : x.dI.length ≤ c2) (hC2 : C aT w A2 x.dI) : aX.K w x [.int .i64 x.Target, .string x.Name, .slice A2 x.dI.length c2, .int .i64 x.Result, .int .i64 x.Tag.Vat, .int .i64 x.Tag.Entity, .int .i64 x.Tag.Seq] := ⟨[_], [_, _, _, _, _, _], rfl, rfl, ⟨[_], [_, _, _, _, _], rfl, rfl, ⟨[_], [_, _, _, _], rfl, ⟨A2, c2, rfl, hl2, hC2⟩, ⟨[_], [_, _, _], rfl, rfl, (mU w _)⟩⟩⟩⟩
theorem to_Sent (x : GSent) (cs : List Value) (w : World) (h : jN.K w x cs) (hs : dX x ≤ 1048576) : Calls Tryz.prog 161 #[.agg cs.toArray] w (jJ aX x w) := by
 obtain ⟨A2, c2, rfl, hl2, hC2⟩ := kl_Sent_K h
 have HC2 := Sd.mk hC2
 clear hC2
 have s_Args : bN dO x.dI ≤ 1048576 := by unfold dX at hs; omega
 clear hs
 go_enter Tryz.func161, Tryz.ntmps161
 go_wp2_with fail
 with_reducible refine (nL x.dI _ _ _ ?hc_Args s_Args).mono ?_
 case hc_Args => exact bK kA HC2.out
 rintro e w_Args ⟨v2, rfl, hR2, hu⟩
 obtain ⟨B2, b2, rfl⟩ := dA hR2
 obtain ⟨P2, hR2', g2, l2⟩ := iV hR2 (w.heap.size + 1 + 1 + 1) kB
 have ge2 : ∀ b, P2 b → w.heap.size + 1 + 1 < b := fun b hb => by have := g2 b hb; omega
 have n1_2 : ¬ P2 (w.heap.size + 1) := fun q => by have := ge2 _ q; omega
 have n2_2 : ¬ P2 (w.heap.size + 1 + 1) := fun q => by have := ge2 _ q; omega
 have HR2 := Sd.mk hR2'
 have GE2 := Sd.mk ge2
 have LT2 := Sd.mk l2
 have GP2 := Sd.mk g2
 clear hR2 hR2' ge2 l2 g2
 have HB_Args : Sd (Upd No w w_Args) := Sd.mk (Upd.then kA hu)
 have cc0_Args := fun o => hu.bF (b := w.heap.size) kB (fun q => q) o
 have cc1_Args := fun o => hu.bF (b := w.heap.size + 1) kB (fun q => q) o
 have cf1_Args := fun o => hu.bV (b := w.heap.size + 1) kB (fun q => q) o
 have cc2_Args := fun o => hu.bF (b := w.heap.size + 1 + 1) kB (fun q => q) o
 have cf2_Args := fun o => hu.bV (b := w.heap.size + 1 + 1) kB (fun q => q) o
 have hz_Args : w.heap.size + 1 + 1 + 1 ≤ w_Args.heap.size := by have := hu.size; (try simp at this); omega
 clear hu
 go_wp2_with fail
 with_reducible refine (to_Tag x.Tag _ _ (kl_Tag_Kmk _ _) (by simp [szn_Tag])).mono ?_
 rintro e w_Tag ⟨cs_Tag, rfl, hM, hu⟩
 obtain rfl := ki_Tag_M hM
 clear hM
 have HR2 := Sd.mk (dR hu (fun _ _ q => q) (fH HR2.out (by repeat (with_reducible first | exact Upd.refl _ _ | apply Upd.eZ n1_2 | apply Upd.eZ n2_2 | apply Upd.alloc))))
 have HB_Tag : Sd (Upd No w w_Tag) := Sd.mk (Upd.then (by repeat (with_reducible first | exact HB_Args.out | apply Upd.dL | apply Upd.dK | apply Upd.dG | apply Upd.alloc | apply Upd.drewN | apply Upd.drew)) hu)
 have cc0_Tag := fun o => hu.bF (b := w.heap.size) kB (fun q => q) o
 have cc1_Tag := fun o => hu.bF (b := w.heap.size + 1) kB (fun q => q) o
 have cf1_Tag := fun o => hu.bV (b := w.heap.size + 1) kB (fun q => q) o
 have cc2_Tag := fun o => hu.bF (b := w.heap.size + 1 + 1) kB (fun q => q) o
 have cf2_Tag := fun o => hu.bV (b := w.heap.size + 1 + 1) kB (fun q => q) o
 have hz_Tag : w.heap.size + 1 + 1 + 1 ≤ w_Tag.heap.size := by have := hu.size; (try simp at this); omega
 have hm_Tag : w_Args.heap.size ≤ w_Tag.heap.size := by have := hu.size; (try simp at this); omega
 clear hu
 go_wp2
 refine bodyPost_ret (v := .agg #[.int .i64 x.Target, .string x.Name, .slice B2 x.dI.length b2, .int .i64 x.Result, .int .i64 x.Tag.Vat, .int .i64 x.Tag.Entity, .int .i64 x.Tag.Seq]) (by simp [results, Tryz.results161, go_sem, cc1_Args, cc1_Tag]) rfl ⟨_, rfl, ?_, (by repeat (with_reducible first | exact HB_Tag.out | apply Upd.dL | apply Upd.dK | apply Upd.dG | apply Upd.alloc | apply Upd.drewN | apply Upd.drew))⟩
 exact mQ _ _ _ (fH HR2.out (by repeat (with_reducible first | exact Upd.refl _ _ | apply Upd.eZ n1_2 | apply Upd.eZ n2_2 | apply Upd.alloc))) (fun k hk => by have := GE2.out k hk; simp only [New]; omega)
theorem toS_Sent (l : List GSent) (A : Option Addr) (c : Nat) (w : World) (h : C jN w A l) (hs : bN dX l ≤ 1048576) : Calls Tryz.prog 94 #[.slice A l.length c] w (lG aX 235 l w) := by
 have hn : l.length ≤ 1048576 := by unfold bN at hs; omega
 have hmk := mD (P := Tryz.prog) _ _ _ Tryz.underlying64 ki_Sent_info l.length hn kD
 have H := Sd.mk h
 have HS := Sd.mk hs
 clear h hs
 go_enter Tryz.func94, Tryz.ntmps94
 go_wp2
 clear hmk
 have HR : Sd (R aX 235 (w.alloc (iJ (.agg #[.int .i64 0, .string ⟨#[]⟩, .slice none 0 0, .int .i64 0, .int .i64 0, .int .i64 0, .int .i64 0]) (l.length * 7) 235)) (New w) (.slice (some ⟨w.heap.size, 0, none⟩) l.length l.length) (List.replicate l.length zSent)) := Sd.mk (R_made (d := aX) (e := 235) w (.agg #[.int .i64 0, .string ⟨#[]⟩, .slice none 0 0, .int .i64 0, .int .i64 0, .int .i64 0, .int .i64 0]) zSent rfl kD ki_Sent_zero l.length hn)
 have HU := Sd.mk ((Upd.refl No w).alloc (iJ (.agg #[.int .i64 0, .string ⟨#[]⟩, .slice none 0 0, .int .i64 0, .int .i64 0, .int .i64 0, .int .i64 0]) (l.length * 7) 235))
 go_loopg [4] l.length (fun k v wr => ∃ i : Nat, i + k = l.length ∧ v = .int .i64 i ∧ Sd (R aX 235 wr (New w) (.slice (some ⟨w.heap.size, 0, none⟩) l.length l.length) (upTo l (List.replicate l.length zSent) i)) ∧ Sd (Upd No w wr))
 case atStart => exact ⟨0, by omega, rfl, ⟨by rw [gK]; exact HR.out⟩, HU⟩
 case round =>
  clear HR HU
  obtain ⟨i, hi, rfl, HR, HU⟩ := hrel
  by_cases hlt : i < l.length
  ·obtain ⟨ad, A2, c2, rfl, a0, a1, a2, a3, a4, a5, a6, hl2, hC2⟩ := kl_Sent_at (bK HU.out H.out) i hlt
   have HC2 := Sd.mk hC2
   clear hC2
   have hsi : dX l[i] ≤ 1048576 := by have := HS.out; have := gT dX l i hlt; unfold bN at *; omega
   go_wp2_with fail
   with_reducible refine (to_Sent l[i] _ _ (kl_Sent_Kmk _ _ hl2 HC2.out) hsi).mono ?_
   rintro e w1 ⟨cs, rfl, hM, hu⟩
   obtain ⟨v2, P2, rfl, hR2, i2⟩ := ki_Sent_M (aX.M_lt hM)
   obtain ⟨D2, d2, rfl⟩ := dA hR2
   have HRowA := dR hu (fun _ _ q => q) (R_lt HR.out)
   have HU1 := Sd.mk (HU.out.then hu)
   have hzw := HU.out.size
   have HR2 := Sd.mk hR2
   have I2 := Sd.mk i2
   clear HR HU hM hu hR2 i2
   obtain ⟨g, cap, cur, ce, Fi, hv, hcap, hat, hM, hg, hFi, hFg, close⟩ := kN HRowA 7 l.length rfl (by rw [iB (by simp) (by simp; omega)]; simp) i zSent (by rw [iX (by simp) (by simpa using hlt)]; simp)
   cases hv
   obtain ⟨y2, _, rfl, -⟩ := ki_Sent_M hM
   have HAT := Sd.mk hat
   have x0 := hat.cell0 _ rfl
   have x1 := hat.cell 1 _ rfl
   have x2 := hat.cell 2 _ rfl
   have x3 := hat.cell 3 _ rfl
   have x4 := hat.cell 4 _ rfl
   have x5 := hat.cell 5 _ rfl
   have x6 := hat.cell 6 _ rfl
   have f0 := hat.free (i * 7)
   have f1 := hat.free (i * 7 + 1)
   have f2 := hat.free (i * 7 + 2)
   have f3 := hat.free (i * 7 + 3)
   have f4 := hat.free (i * 7 + 4)
   have f5 := hat.free (i * 7 + 5)
   have f6 := hat.free (i * 7 + 6)
   have CL := Sd.mk close
   clear hat close hM HRowA
   go_wp2
   have HA := ((((((HAT.out.set0 kD (.int .i64 l[i].Target)).set 1 kD (.string l[i].Name)).set 2 kD (.slice D2 l[i].dI.length d2)).set 3 kD (.int .i64 l[i].Result)).set 4 kD (.int .i64 l[i].Tag.Vat)).set 5 kD (.int .i64 l[i].Tag.Entity)).set 6 kD (.int .i64 l[i].Tag.Seq)
   have hD2 : ∀ b, P2 b → ¬ (b = w.heap.size ∨ Fi b) := by
    intro b hb q
    have h1 := (I2.out b hb).1
    simp only [New] at h1
    rcases q with rfl | q
    ·exact absurd hg.2 kO
    ·have h2 := (hFi b q).2
     omega
   have HM := mQ _ (fun b => P2 b) l[i] (dR HA.upd hD2 HR2.out) (fun k hk => hk)
   have hP1 : ∀ b, (P2 b) → New wr b := by
    intro b hb
    exact (I2.out b hb).1
   have HRowB := CL.out _ _ l[i] _ (New w) HA HM (fun b hb => .inr (fun q => by have h1 := hP1 b hb; have h2 := q.2; simp only [New] at h1; omega)) (fun _ q => q.1) (fun b hb => by have h1 := hP1 b hb; simp only [New] at h1 ⊢; omega)
   rw [iC (by simp) (by simpa using hlt)] at HRowB
   go_roundg (gk - 1)
   case measure => omega
   case rel => exact ⟨i + 1, by omega, by go_num, ⟨HRowB⟩, ⟨by repeat (with_reducible first | exact HU1.out | apply Upd.dG)⟩⟩
  ·go_wp2
   go_ret
   have HRowB := HR.out
   rw [iA (by simp) (by simp; omega)] at HRowB
   exact ⟨_, rfl, HRowB, HU.out⟩
theorem sz_Sent (x : GSent) (cs : List Value) (n : Int) (w : World) (h : jN.K w x cs) (hb : Bd_Sent x) (h0 : 0 ≤ n) (h1 : n ≤ 1048576) : Calls Tryz.prog 154 #[.agg cs.toArray, .int .i64 n] w (RetSz (dX x) n w) := by
 obtain ⟨A2, c2, rfl, hl2, hC2⟩ := kl_Sent_K h
 have HC2 := Sd.mk hC2
 clear hC2
 have b_Name := hb
 unfold Bd_Sent at b_Name
 go_enter Tryz.func154, Tryz.ntmps154
 by_cases q_Name : ((x.Name.size : Nat) : Int) ≤ n
 case neg =>
  go_wp2
  go_ret
  exact ⟨_, rfl, .inr ⟨by unfold dX; omega, rfl⟩, kA⟩
 go_wp2_with fail
 with_reducible refine (szS_Value x.dI _ _ _ _ ?hc_Args kO kO).mono ?_
 case hc_Args => exact bK kA HC2.out
 rintro e w_Args ⟨r_Args, rfl, hr_Args, hu⟩
 have HB_Args : Sd (Upd No w w_Args) := Sd.mk (Upd.then kA hu)
 have cc0_Args := fun o => hu.bF (b := w.heap.size) kB (fun q => q) o
 have hz_Args : w.heap.size + 1 ≤ w_Args.heap.size := by have := hu.size; (try simp at this); omega
 clear hu
 rcases hr_Args with ⟨q_Args, rfl⟩ | ⟨q_Args, rfl⟩
 case inr =>
  go_wp2
  go_ret
  exact ⟨_, rfl, .inr ⟨by unfold dX; omega, rfl⟩, (by repeat (with_reducible first | exact HB_Args.out | apply Upd.dL | apply Upd.dK | apply Upd.dG | apply Upd.alloc | apply Upd.drewN | apply Upd.drew))⟩
 go_wp2
 go_ret
 exact ⟨_, rfl, .inl ⟨by unfold dX; omega, by unfold dX; omega⟩, (by repeat (with_reducible first | exact HB_Args.out | apply Upd.dL | apply Upd.dK | apply Upd.dG | apply Upd.alloc | apply Upd.drewN | apply Upd.drew))⟩
theorem szS_Sent (l : List GSent) (A : Option Addr) (c : Nat) (n : Int) (w : World) (h : C jN w A l) (hb : ∀ y ∈ l, Bd_Sent y) (h0 : 0 ≤ n) (h1 : n ≤ 1048576) : Calls Tryz.prog 86 #[.slice A l.length c, .int .i64 n] w (RetSz (bN dX l) n w) := by
 have hn := h.1
 have H := Sd.mk h
 clear h
 have HBD := Sd.mk hb
 clear hb
 go_enter Tryz.func86, Tryz.ntmps86
 by_cases q0 : (l.length : Int) ≤ n
 case neg =>
  go_wp2
  go_ret
  exact ⟨_, rfl, .inr ⟨by unfold bN; omega, rfl⟩, Upd.refl _ _⟩
 go_wp2
 go_loopg [1, 5] l.length (fun k u v wr => ∃ i : Nat, i + k = l.length ∧ (gX dX (l.take i) : Int) ≤ n - l.length ∧ u = .int .i64 (n - l.length - gX dX (l.take i)) ∧ v = .int .i64 i ∧ Sd (Upd No w wr))
 case atStart => exact ⟨0, by omega, by simp [gX]; omega, by simp [gX], rfl, ⟨Upd.refl _ _⟩⟩
 case round =>
  obtain ⟨i, hi, hle, rfl, rfl, HU⟩ := hrel
  by_cases hlt : i < l.length
  ·obtain ⟨ad, A2, c2, rfl, a0, a1, a2, a3, a4, a5, a6, hl2, hC2⟩ := kl_Sent_at (bK HU.out H.out) i hlt
   have HC2 := Sd.mk hC2
   clear hC2
   have hst := sumS_step dX l i hlt
   have HST := Sd.mk (mO dX l i hlt)
   generalize hs : gX dX (l.take i) = s at *
   have HS := Sd.mk hs
   clear hs
   go_wp2_with fail
   with_reducible refine (sz_Sent l[i] _ _ _ (kl_Sent_Kmk _ _ hl2 HC2.out) (HBD.out _ (List.getElem_mem hlt)) kO kO).mono ?_
   rintro e w1 ⟨r, rfl, hr, hu⟩
   have HU1 := Sd.mk (HU.out.then hu)
   clear hu HU
   rcases hr with ⟨q, rfl⟩ | ⟨q, rfl⟩
   ·go_wp2
    go_roundg (gk - 1)
    case measure => omega
    case rel => exact ⟨i + 1, by omega, by rw [HST.out]; omega, by rw [HST.out]; exact congrArg (Value.int .i64) kO, by go_num, HU1⟩
   ·go_wp2
    go_ret
    exact ⟨_, rfl, .inr ⟨by unfold bN; omega, rfl⟩, HU1.out⟩
  ·go_wp2
   go_ret
   have e : l.take i = l := List.take_of_length_le kO
   rw [e] at hle
   exact ⟨_, rfl, .inl ⟨by unfold bN; omega, by rw [e]; unfold bN; omega⟩, HU.out⟩
theorem eq_Sent (x : GSent) (cs cs' : List Value) (w : World) (h : aX.K w x cs) (h' : aX.K w x cs') : Calls Tryz.prog 170 #[.agg cs.toArray, .agg cs'.toArray] w (eX true w) := by
 obtain ⟨A2, c2, rfl, hl2, hC2⟩ := ki_Sent_K h
 have HC2 := Sd.mk hC2
 clear hC2
 obtain ⟨B2, b2, rfl, hm2, hD2⟩ := ki_Sent_K h'
 have HD2 := Sd.mk hD2
 clear hD2
 go_enter Tryz.func170, Tryz.ntmps170
 go_wp2_with fail
 with_reducible refine (eqS_Value x.dI _ _ _ _ _ ?hc_Args ?hd_Args).mono ?_
 case hc_Args => exact bK kA HC2.out
 case hd_Args => exact bK kA HD2.out
 rintro e w_Args ⟨rfl, hu⟩
 have HB_Args : Sd (Upd No w w_Args) := Sd.mk (Upd.then kA hu)
 have cc0_Args := fun o => hu.bF (b := w.heap.size) kB (fun q => q) o
 have cc1_Args := fun o => hu.bF (b := w.heap.size + 1) kB (fun q => q) o
 have hz_Args : w.heap.size + 1 + 1 ≤ w_Args.heap.size := by have := hu.size; (try simp at this); omega
 clear hu
 go_wp2_with fail
 with_reducible refine (eq_Tag x.Tag _ _ _ (mU _ _) (mU _ _)).mono ?_
 rintro e w_Tag ⟨rfl, hu⟩
 have HB_Tag : Sd (Upd No w w_Tag) := Sd.mk (Upd.then (by repeat (with_reducible first | exact HB_Args.out | apply Upd.dL | apply Upd.dK | apply Upd.dG | apply Upd.alloc | apply Upd.drewN | apply Upd.drew)) hu)
 have cc0_Tag := fun o => hu.bF (b := w.heap.size) kB (fun q => q) o
 have cc1_Tag := fun o => hu.bF (b := w.heap.size + 1) kB (fun q => q) o
 have hz_Tag : w.heap.size + 1 + 1 ≤ w_Tag.heap.size := by have := hu.size; (try simp at this); omega
 clear hu
 go_wp2
 go_ret
 exact ⟨rfl, (by repeat (with_reducible first | exact HB_Tag.out | apply Upd.dL | apply Upd.dK | apply Upd.dG | apply Upd.alloc | apply Upd.drewN | apply Upd.drew))⟩
theorem eqS_Sent (l : List GSent) (A A' : Option Addr) (c c' : Nat) (w : World) (h : C aX w A l) (h' : C aX w A' l) : Calls Tryz.prog 103 #[.slice A l.length c, .slice A' l.length c'] w (eX true w) := by
 have hn := h.1
 have H := Sd.mk h
 have H' := Sd.mk h'
 clear h h'
 go_enter Tryz.func103, Tryz.ntmps103
 go_wp2
 go_loopg [5] l.length (fun k v wr => ∃ i : Nat, i + k = l.length ∧ v = .int .i64 i ∧ Sd (Upd No w wr))
 case atStart => exact ⟨0, by omega, rfl, ⟨Upd.refl _ _⟩⟩
 case round =>
  obtain ⟨i, hi, rfl, HU⟩ := hrel
  by_cases hlt : i < l.length
  ·obtain ⟨ad, A2, c2, rfl, a0, a1, a2, a3, a4, a5, a6, hl2, hC2⟩ := nO (bK HU.out H.out) i hlt
   obtain ⟨ad', B2, b2, rfl, z0, z1, z2, z3, z4, z5, z6, hm2, hD2⟩ := nO (bK HU.out H'.out) i hlt
   have HC2 := Sd.mk hC2
   have HD2 := Sd.mk hD2
   clear hC2 hD2
   go_wp2_with fail
   go_still_tail 8, kR
   change wpList _ _ _ _ _ wr.drew
   have HW : Sd (Upd No wr wr.drew) := ⟨(Upd.refl _ _).drew⟩
   have HU2 : Sd (Upd No w wr.drew) := ⟨HU.out.drew⟩
   generalize wr.drew = w2 at *
   go_wp2_with (go_at_call 170; (with_reducible refine (eq_Sent l[i] _ _ _ (ki_Sent_Kmk _ _ hl2 (bK HW.out HC2.out)) (ki_Sent_Kmk _ _ hm2 (bK HW.out HD2.out))).mono ?_); rintro e w' ⟨rfl, hu⟩)
   have HU3 := Sd.mk (HU2.out.then hu)
   clear HU2 hu
   go_wp2
   go_roundg (gk - 1)
   case measure => omega
   case rel => exact ⟨i + 1, by omega, by go_num, HU3⟩
  ·go_wp2
   go_ret
   exact ⟨rfl, HU.out⟩
theorem markS_Sent (l : List GSent) (k : Int) (F : Nat → Prop) (v : Value) (w : World) (h : R aX 235 w F v l) (hk : 0 ≤ k) (hb : k + bU dJ l ≤ 4611686018427387904) : Calls Tryz.prog 108 #[v, .int .i64 k] w (Marks aX 235 F v (k + bU dJ l) (mkS j3 dJ k l) w) := by
 obtain ⟨A, c, rfl⟩ := dA h
 have hn := R_len h
 have H := Sd.mk h
 clear h
 go_enter Tryz.func108, Tryz.ntmps108
 go_wp2
 go_loopg [1, 5] l.length (fun r u v wr => ∃ i : Nat, i + r = l.length ∧ u = .int .i64 (k + bU dJ (l.take i)) ∧ v = .int .i64 i ∧ Sd (R aX 235 wr F (.slice A l.length c) (upTo (mkS j3 dJ k l) l i)) ∧ Sd (Upd F w wr))
 case atStart => exact ⟨0, by omega, by simp [bU], rfl, ⟨by rw [gK]; exact H.out⟩, ⟨Upd.refl _ _⟩⟩
 case round =>
  obtain ⟨i, hi, rfl, rfl, HR, HU⟩ := hrel
  by_cases hlt : i < l.length
  ·have hle := fA dJ iU l i
   have hst := gF dJ l i hlt
   have hle2 := fA dJ iU l (i + 1)
   rw [hst] at hle2
   have HST := Sd.mk hst
   clear hst
   have HMA := Sd.mk (jX j3 dJ l k i hlt)
   obtain ⟨g, cap, cur, ce, Fi, hv, hcap, hat, hM, hg, hFi, hFg, close⟩ := kN HR.out 7 l.length rfl (iB (dM _ _ _ _) kO) i l[i] (iX (dM _ _ _ _) hlt)
   cases hv
   obtain ⟨v2, P2, rfl, hR2, i2⟩ := ki_Sent_M hM
   obtain ⟨B2, b2, rfl⟩ := dA hR2
   have HR2 := Sd.mk hR2
   have I2 := Sd.mk i2
   have N2 : ¬ P2 g := fun q => hFg (i2 g q)
   clear hR2 i2
   have nn2 := fE bJ gV l[i].dI
   have HCN : Sd (dJ l[i] = dJ l[i]) := ⟨rfl⟩
   simp only [dJ] at hle2
   generalize hq : k + bU dJ (l.take i) = q at *
   have HQ := Sd.mk hq
   have hq0 : 0 ≤ q := by omega
   have hqb : q + (((((((0 + 1) + 1) + bU bJ l[i].dI) + 1) + 1) + 1) + 1) ≤ 4611686018427387904 := by omega
   clear hq hle hle2 hb
   generalize hcn2 : bU bJ l[i].dI = cn2 at *
   have HC2 := Sd.mk hcn2
   clear hcn2
   have HAT := Sd.mk hat
   have x0_s := hat.cell0 _ rfl
   have x1_s := hat.cell 1 _ rfl
   have x2_s := hat.cell 2 _ rfl
   have x3_s := hat.cell 3 _ rfl
   have x4_s := hat.cell 4 _ rfl
   have x5_s := hat.cell 5 _ rfl
   have x6_s := hat.cell 6 _ rfl
   have f0_s := hat.free (i * 7)
   have f1_s := hat.free (i * 7 + 1)
   have f2_s := hat.free (i * 7 + 2)
   have f3_s := hat.free (i * 7 + 3)
   have f4_s := hat.free (i * 7 + 4)
   have f5_s := hat.free (i * 7 + 5)
   have f6_s := hat.free (i * 7 + 6)
   have CL := Sd.mk close
   clear hat close hM HR
   go_wp2_with fail
   with_reducible refine (markText_c _ _ kO kO).mono ?_
   rintro e w_Name ⟨rfl, hu⟩
   replace HR2 := Sd.mk (dR hu (fun _ _ q => q) (dR (G := fun b => b = g) kC (fun b hb hg' => N2 (hg' ▸ hb)) HR2.out))
   replace HAT := Sd.mk ((HAT.out.set0 kD (.int .i64 (q))).call hu (fun _ q => q.elim) hFg)
   clear hu x0_s f0_s x1_s f1_s x2_s f2_s x3_s f3_s x4_s f4_s x5_s f5_s x6_s f6_s
   have x0_Name := HAT.out.cell0 _ rfl
   have x1_Name := HAT.out.cell 1 _ rfl
   have x2_Name := HAT.out.cell 2 _ rfl
   have x3_Name := HAT.out.cell 3 _ rfl
   have x4_Name := HAT.out.cell 4 _ rfl
   have x5_Name := HAT.out.cell 5 _ rfl
   have x6_Name := HAT.out.cell 6 _ rfl
   have f0_Name := HAT.out.free (i * 7)
   have f1_Name := HAT.out.free (i * 7 + 1)
   have f2_Name := HAT.out.free (i * 7 + 2)
   have f3_Name := HAT.out.free (i * 7 + 3)
   have f4_Name := HAT.out.free (i * 7 + 4)
   have f5_Name := HAT.out.free (i * 7 + 5)
   have f6_Name := HAT.out.free (i * 7 + 6)
   go_wp2_with fail
   with_reducible refine (markS_Value l[i].dI _ P2 _ _ ?hr_Args kO (by rw [HC2.out]; omega)).mono ?_
   case hr_Args => exact (dR (G := fun b => b = g) kC (fun b hb hg' => N2 (hg' ▸ hb)) HR2.out)
   rintro e w_Args ⟨rfl, hR2, hu⟩
   rw [HC2.out]
   replace HR2 := Sd.mk hR2
   replace HAT := Sd.mk ((HAT.out.set 1 kD (.string (mtx ((q + 1))))).call hu I2.out hFg)
   clear hR2
   clear hu x0_Name f0_Name x1_Name f1_Name x2_Name f2_Name x3_Name f3_Name x4_Name f4_Name x5_Name f5_Name x6_Name f6_Name
   have x0_Args := HAT.out.cell0 _ rfl
   have x1_Args := HAT.out.cell 1 _ rfl
   have x2_Args := HAT.out.cell 2 _ rfl
   have x3_Args := HAT.out.cell 3 _ rfl
   have x4_Args := HAT.out.cell 4 _ rfl
   have x5_Args := HAT.out.cell 5 _ rfl
   have x6_Args := HAT.out.cell 6 _ rfl
   have f0_Args := HAT.out.free (i * 7)
   have f1_Args := HAT.out.free (i * 7 + 1)
   have f2_Args := HAT.out.free (i * 7 + 2)
   have f3_Args := HAT.out.free (i * 7 + 3)
   have f4_Args := HAT.out.free (i * 7 + 4)
   have f5_Args := HAT.out.free (i * 7 + 5)
   have f6_Args := HAT.out.free (i * 7 + 6)
   go_wp2
   have HA := ((((HAT.out.set 3 kD (.int .i64 ((((q + 1) + 1) + cn2)))).set 4 kD (.int .i64 (((((q + 1) + 1) + cn2) + 1)))).set 5 kD (.int .i64 ((((((q + 1) + 1) + cn2) + 1) + 1)))).set 6 kD (.int .i64 (((((((q + 1) + 1) + cn2) + 1) + 1) + 1))))
   have hy : (⟨q, mtx ((q + 1)), mkS fZ bJ ((q + 1) + 1) l[i].dI, (((q + 1) + 1) + cn2), ⟨((((q + 1) + 1) + cn2) + 1), (((((q + 1) + 1) + cn2) + 1) + 1), ((((((q + 1) + 1) + cn2) + 1) + 1) + 1)⟩⟩ : GSent) = (mkS j3 dJ k l)[i]'(by rw [dM]; exact hlt) := by rw [HMA.out]; simp only [j3, HC2.out]
   have HRowB := CL.out _ _ (⟨q, mtx ((q + 1)), mkS fZ bJ ((q + 1) + 1) l[i].dI, (((q + 1) + 1) + cn2), ⟨((((q + 1) + 1) + cn2) + 1), (((((q + 1) + 1) + cn2) + 1) + 1), ((((((q + 1) + 1) + cn2) + 1) + 1) + 1)⟩⟩ : GSent) Fi F HA (mQ _ Fi (⟨q, mtx ((q + 1)), mkS fZ bJ ((q + 1) + 1) l[i].dI, (((q + 1) + 1) + cn2), ⟨((((q + 1) + 1) + cn2) + 1), (((((q + 1) + 1) + cn2) + 1) + 1), ((((((q + 1) + 1) + cn2) + 1) + 1) + 1)⟩⟩ : GSent) (dR (G := fun b => b = g) kC (fun b hb hg' => N2 (hg' ▸ hb)) HR2.out) I2.out) (fun _ hb => .inl hb) (fun _ hb => hb) hFi
   rw [hy, iC (dM _ _ _ _) hlt] at HRowB
   go_roundg (gk - 1)
   case measure => omega
   case rel => exact ⟨i + 1, by omega, by rw [HST.out]; simp only [dJ]; have := HQ.out; have := HC2.out; exact congrArg (Value.int .i64) kO, by go_num, ⟨HRowB⟩, ⟨HU.out.trans HA.upd (fun _ _ hb => hb) (fun b _ hb => by rcases hb with rfl | hb; exact hg; exact hFi b hb)⟩⟩
  ·go_wp2
   go_ret
   have HRowB := HR.out
   rw [iA (dM _ _ _ _) kO] at HRowB
   have e : l.take i = l := List.take_of_length_le kO
   exact ⟨gJ (by rw [e]), HRowB, HU.out⟩
theorem heldS_Sent (l : List GSent) (k : Int) (A : Option Addr) (c : Nat) (w : World) (h : C aX w A (mkS j3 dJ k l)) (hk : 0 ≤ k) (hb : k + bU dJ l ≤ 4611686018427387904) : Calls Tryz.prog 112 #[.slice A l.length c, .int .i64 k] w (lQ (k + bU dJ l) w) := by
 have hn := h.1
 rw [dM] at hn
 have H := Sd.mk h
 clear h
 go_enter Tryz.func112, Tryz.ntmps112
 go_wp2
 go_loopg [1, 5] l.length (fun r u v wr => ∃ i : Nat, i + r = l.length ∧ u = .int .i64 (k + bU dJ (l.take i)) ∧ v = .int .i64 i ∧ Sd (Upd No w wr))
 case atStart => exact ⟨0, by omega, by simp [bU], rfl, ⟨Upd.refl _ _⟩⟩
 case round =>
  obtain ⟨i, hi, rfl, rfl, HU⟩ := hrel
  by_cases hlt : i < l.length
  ·have hle := fA dJ iU l i
   have hst := gF dJ l i hlt
   have hle2 := fA dJ iU l (i + 1)
   rw [hst] at hle2
   have HST := Sd.mk hst
   clear hst
   obtain ⟨ad, A2, c2, rfl, a0, a1, a2, a3, a4, a5, a6, hl2, hC2⟩ := nO (bK HU.out H.out) i (by rw [dM]; exact hlt)
   rw [jX j3 dJ l k i hlt] at a0 a1 a2 a3 a4 a5 a6 hl2 hC2
   simp only [j3, dM] at a0 a1 a2 a3 a4 a5 a6 hl2 hC2
   have nn2 := fE bJ gV l[i].dI
   simp only [dJ] at hle2
   generalize hq : k + bU dJ (l.take i) = q at *
   have HQ := Sd.mk hq
   have hq0 : 0 ≤ q := by omega
   have hqb : q + (((((((0 + 1) + 1) + bU bJ l[i].dI) + 1) + 1) + 1) + 1) ≤ 4611686018427387904 := by omega
   clear hq hle hle2 hb
   generalize hcn2 : bU bJ l[i].dI = cn2 at *
   have HN2 := Sd.mk hcn2
   clear hcn2
   have HC2 := Sd.mk hC2
   clear hC2
   have HX := Sd.mk (Upd.refl No wr)
   go_wp2_with fail
   go_region_held3 (fun w' => w'.cell? ⟨(ad.add (i * 7)).block, (ad.add (i * 7)).off + 1, none⟩ = some (.string (mtx (q + 1)))) (first | exact a1 | exact hu_Name.read a1) (first | (go_at_call 83; (with_reducible refine (markText_c _ _ kO kO).mono ?_); rintro e w_Name ⟨rfl, hu_Name⟩))
   rename_i hH_Name
   clear hH_Name
   have HY : Sd (Upd No wr w_Name) := Sd.mk ((Upd.refl _ _).drew.then hu_Name)
   clear hu_Name
   replace a0 := HY.out.read a0
   replace a1 := HY.out.read a1
   replace a2 := HY.out.read a2
   replace a3 := HY.out.read a3
   replace a4 := HY.out.read a4
   replace a5 := HY.out.read a5
   replace a6 := HY.out.read a6
   replace HC2 := Sd.mk (bK HY.out HC2.out)
   replace HX := Sd.mk (HX.out.then HY.out)
   clear HY
   go_wp2_with fail
   with_reducible refine (heldS_Value l[i].dI _ _ _ _ ?hc_Args kO (by rw [HN2.out]; omega)).mono ?_
   case hc_Args => exact HC2.out
   rintro e w_Args ⟨rfl, hu⟩
   rw [HN2.out]
   replace a0 := hu.read a0
   replace a1 := hu.read a1
   replace a2 := hu.read a2
   replace a3 := hu.read a3
   replace a4 := hu.read a4
   replace a5 := hu.read a5
   replace a6 := hu.read a6
   replace HC2 := Sd.mk (bK hu HC2.out)
   replace HX := Sd.mk (HX.out.then hu)
   clear hu
   go_wp2
   go_roundg (gk - 1)
   case measure => omega
   case rel => exact ⟨i + 1, by omega, by rw [HST.out]; simp only [dJ]; have := HQ.out; have := HN2.out; exact congrArg (Value.int .i64) kO, by go_num, ⟨HU.out.then HX.out⟩⟩
  ·go_wp2
   go_ret
   have e : l.take i = l := List.take_of_length_le kO
   exact ⟨gJ (by rw [e]), HU.out⟩
theorem kl_Asker_Kmk (w : World) (x : GAsker) : kI.K w x [.int .i64 x.bT, .int .i64 x.Question] := ⟨[_], [_], rfl, rfl, rfl⟩
theorem ki_Asker_Kmk (w : World) (x : GAsker) : eD.K w x [.int .i64 x.bT, .int .i64 x.Question] := ⟨[_], [_], rfl, rfl, rfl⟩
theorem to_Asker (x : GAsker) (cs : List Value) (w : World) (h : kI.K w x cs) (hs : iL x ≤ 1048576) : Calls Tryz.prog 227 #[.agg cs.toArray] w (jJ eD x w) := by
 obtain rfl := kl_Asker_K h
 clear hs
 go_enter Tryz.func227, Tryz.ntmps227
 go_wp2
 refine bodyPost_ret (v := .agg #[.int .i64 x.bT, .int .i64 x.Question]) (by simp [results, Tryz.results227, go_sem]) rfl ⟨_, rfl, ?_, kA⟩
 exact nU _ _ _
theorem toS_Asker (l : List GAsker) (A : Option Addr) (c : Nat) (w : World) (h : C kI w A l) (hs : bN iL l ≤ 1048576) : Calls Tryz.prog 205 #[.slice A l.length c] w (lG eD 285 l w) := by
 have hn : l.length ≤ 1048576 := by unfold bN at hs; omega
 have hmk := mD (P := Tryz.prog) _ _ _ Tryz.underlying169 oI l.length hn kD
 have H := Sd.mk h
 have HS := Sd.mk hs
 clear h hs
 go_enter Tryz.func205, Tryz.ntmps205
 go_wp2
 clear hmk
 have HR : Sd (R eD 285 (w.alloc (iJ (.agg #[.int .i64 0, .int .i64 0]) (l.length * 2) 285)) (New w) (.slice (some ⟨w.heap.size, 0, none⟩) l.length l.length) (List.replicate l.length zAsker)) := Sd.mk (R_made (d := eD) (e := 285) w (.agg #[.int .i64 0, .int .i64 0]) zAsker rfl kD ki_Asker_zero l.length hn)
 have HU := Sd.mk ((Upd.refl No w).alloc (iJ (.agg #[.int .i64 0, .int .i64 0]) (l.length * 2) 285))
 go_loopg [4] l.length (fun k v wr => ∃ i : Nat, i + k = l.length ∧ v = .int .i64 i ∧ Sd (R eD 285 wr (New w) (.slice (some ⟨w.heap.size, 0, none⟩) l.length l.length) (upTo l (List.replicate l.length zAsker) i)) ∧ Sd (Upd No w wr))
 case atStart => exact ⟨0, by omega, rfl, ⟨by rw [gK]; exact HR.out⟩, HU⟩
 case round =>
  clear HR HU
  obtain ⟨i, hi, rfl, HR, HU⟩ := hrel
  by_cases hlt : i < l.length
  ·obtain ⟨ad, rfl, a0, a1⟩ := kl_Asker_at (bK HU.out H.out) i hlt
   have hsi : iL l[i] ≤ 1048576 := by have := HS.out; have := gT iL l i hlt; unfold bN at *; omega
   go_wp2_with fail
   with_reducible refine (to_Asker l[i] _ _ (kl_Asker_Kmk _ _) hsi).mono ?_
   rintro e w1 ⟨cs, rfl, hM, hu⟩
   obtain rfl := ki_Asker_M hM
   have HRowA := dR hu (fun _ _ q => q) (R_lt HR.out)
   have HU1 := Sd.mk (HU.out.then hu)
   have hzw := HU.out.size
   clear HR HU hM hu
   obtain ⟨g, cap, cur, ce, Fi, hv, hcap, hat, hM, hg, hFi, hFg, close⟩ := kN HRowA 2 l.length rfl (by rw [iB (by simp) (by simp; omega)]; simp) i zAsker (by rw [iX (by simp) (by simpa using hlt)]; simp)
   cases hv
   obtain rfl := ki_Asker_M hM
   have HAT := Sd.mk hat
   have x0 := hat.cell0 _ rfl
   have x1 := hat.cell 1 _ rfl
   have f0 := hat.free (i * 2)
   have f1 := hat.free (i * 2 + 1)
   have CL := Sd.mk close
   clear hat close hM HRowA
   go_wp2
   have HA := (HAT.out.set0 kD (.int .i64 l[i].bT)).set 1 kD (.int .i64 l[i].Question)
   have HRowB := CL.out _ _ l[i] No (New w) HA (nU _ _ _) (fun _ q => q.elim) (fun _ q => q.1) (fun _ q => q.elim)
   rw [iC (by simp) (by simpa using hlt)] at HRowB
   go_roundg (gk - 1)
   case measure => omega
   case rel => exact ⟨i + 1, by omega, by go_num, ⟨HRowB⟩, ⟨by repeat (with_reducible first | exact HU1.out | apply Upd.dG)⟩⟩
  ·go_wp2
   go_ret
   have HRowB := HR.out
   rw [iA (by simp) (by simp; omega)] at HRowB
   exact ⟨_, rfl, HRowB, HU.out⟩
theorem szS_Asker (l : List GAsker) (A : Option Addr) (c : Nat) (n : Int) (w : World) (h : C kI w A l) (h0 : 0 ≤ n) (h1 : n ≤ 1048576) : Calls Tryz.prog 202 #[.slice A l.length c, .int .i64 n] w (RetSz (bN iL l) n w) := by
 have hn := h.1
 have H := Sd.mk h
 clear h
 go_enter Tryz.func202, Tryz.ntmps202
 by_cases q0 : (l.length : Int) ≤ n
 case neg =>
  go_wp2
  go_ret
  exact ⟨_, rfl, .inr ⟨by unfold bN; omega, rfl⟩, Upd.refl _ _⟩
 have hz : gX iL l = 0 := by
  clear q0 hn H
  induction l with
  | nil => rfl
  | cons x l ih => simp [gX, iL, ih]
 have HZ := Sd.mk hz
 clear hz
 go_wp2
 go_ret
 have hz := HZ.out
 exact ⟨_, rfl, .inl ⟨by unfold bN; omega, by unfold bN; omega⟩, Upd.refl _ _⟩
theorem eq_Asker (x : GAsker) (cs cs' : List Value) (w : World) (h : eD.K w x cs) (h' : eD.K w x cs') : Calls Tryz.prog 230 #[.agg cs.toArray, .agg cs'.toArray] w (eX true w) := by
 obtain rfl := ki_Asker_K h
 obtain rfl := ki_Asker_K h'
 go_enter Tryz.func230, Tryz.ntmps230
 go_wp2
 go_ret
 exact ⟨rfl, kA⟩
theorem eqS_Asker (l : List GAsker) (A A' : Option Addr) (c c' : Nat) (w : World) (h : C eD w A l) (h' : C eD w A' l) : Calls Tryz.prog 214 #[.slice A l.length c, .slice A' l.length c'] w (eX true w) := by
 have hn := h.1
 have H := Sd.mk h
 have H' := Sd.mk h'
 clear h h'
 go_enter Tryz.func214, Tryz.ntmps214
 go_wp2
 go_loopg [5] l.length (fun k v wr => ∃ i : Nat, i + k = l.length ∧ v = .int .i64 i ∧ Sd (Upd No w wr))
 case atStart => exact ⟨0, by omega, rfl, ⟨Upd.refl _ _⟩⟩
 case round =>
  obtain ⟨i, hi, rfl, HU⟩ := hrel
  by_cases hlt : i < l.length
  ·obtain ⟨ad, rfl, a0, a1⟩ := ki_Asker_at (bK HU.out H.out) i hlt
   obtain ⟨ad', rfl, z0, z1⟩ := ki_Asker_at (bK HU.out H'.out) i hlt
   go_wp2_with fail
   go_still_tail 8, kR
   change wpList _ _ _ _ _ wr.drew
   have HW : Sd (Upd No wr wr.drew) := ⟨(Upd.refl _ _).drew⟩
   have HU2 : Sd (Upd No w wr.drew) := ⟨HU.out.drew⟩
   generalize wr.drew = w2 at *
   go_wp2_with (go_at_call 230; (with_reducible refine (eq_Asker l[i] _ _ _ (ki_Asker_Kmk _ _) (ki_Asker_Kmk _ _)).mono ?_); rintro e w' ⟨rfl, hu⟩)
   have HU3 := Sd.mk (HU2.out.then hu)
   clear HU2 hu
   go_wp2
   go_roundg (gk - 1)
   case measure => omega
   case rel => exact ⟨i + 1, by omega, by go_num, HU3⟩
  ·go_wp2
   go_ret
   exact ⟨rfl, HU.out⟩
theorem markS_Asker (l : List GAsker) (k : Int) (F : Nat → Prop) (v : Value) (w : World) (h : R eD 285 w F v l) (hk : 0 ≤ k) (hb : k + bU dQ l ≤ 4611686018427387904) : Calls Tryz.prog 173 #[v, .int .i64 k] w (Marks eD 285 F v (k + bU dQ l) (mkS kH dQ k l) w) := by
 obtain ⟨A, c, rfl⟩ := dA h
 have hn := R_len h
 have H := Sd.mk h
 clear h
 go_enter Tryz.func173, Tryz.ntmps173
 go_wp2
 go_loopg [1, 5] l.length (fun r u v wr => ∃ i : Nat, i + r = l.length ∧ u = .int .i64 (k + bU dQ (l.take i)) ∧ v = .int .i64 i ∧ Sd (R eD 285 wr F (.slice A l.length c) (upTo (mkS kH dQ k l) l i)) ∧ Sd (Upd F w wr))
 case atStart => exact ⟨0, by omega, by simp [bU], rfl, ⟨by rw [gK]; exact H.out⟩, ⟨Upd.refl _ _⟩⟩
 case round =>
  obtain ⟨i, hi, rfl, rfl, HR, HU⟩ := hrel
  by_cases hlt : i < l.length
  ·have hle := fA dQ j4 l i
   have hst := gF dQ l i hlt
   have hle2 := fA dQ j4 l (i + 1)
   rw [hst] at hle2
   have HST := Sd.mk hst
   clear hst
   have HMA := Sd.mk (jX kH dQ l k i hlt)
   obtain ⟨g, cap, cur, ce, Fi, hv, hcap, hat, hM, hg, hFi, hFg, close⟩ := kN HR.out 2 l.length rfl (iB (dM _ _ _ _) kO) i l[i] (iX (dM _ _ _ _) hlt)
   cases hv
   obtain rfl := ki_Asker_M hM
   have HCN : Sd (dQ l[i] = dQ l[i]) := ⟨rfl⟩
   simp only [dQ] at hle2
   generalize hq : k + bU dQ (l.take i) = q at *
   have HQ := Sd.mk hq
   have hq0 : 0 ≤ q := by omega
   have hqb : q + ((0 + 1) + 1) ≤ 4611686018427387904 := by omega
   clear hq hle hle2 hb
   have HAT := Sd.mk hat
   have x0_s := hat.cell0 _ rfl
   have x1_s := hat.cell 1 _ rfl
   have f0_s := hat.free (i * 2)
   have f1_s := hat.free (i * 2 + 1)
   have CL := Sd.mk close
   clear hat close hM HR
   go_wp2
   have HA := ((HAT.out.set0 kD (.int .i64 (q))).set 1 kD (.int .i64 ((q + 1))))
   have hy : (⟨q, (q + 1)⟩ : GAsker) = (mkS kH dQ k l)[i]'(by rw [dM]; exact hlt) := by rw [HMA.out]; simp only [kH]
   have HRowB := CL.out _ _ (⟨q, (q + 1)⟩ : GAsker) Fi F HA (nU _ Fi (⟨q, (q + 1)⟩ : GAsker)) (fun _ hb => .inl hb) (fun _ hb => hb) hFi
   rw [hy, iC (dM _ _ _ _) hlt] at HRowB
   go_roundg (gk - 1)
   case measure => omega
   case rel => exact ⟨i + 1, by omega, by rw [HST.out]; simp only [dQ]; have := HQ.out; exact congrArg (Value.int .i64) kO, by go_num, ⟨HRowB⟩, ⟨HU.out.trans HA.upd (fun _ _ hb => hb) (fun b _ hb => by rcases hb with rfl | hb; exact hg; exact hFi b hb)⟩⟩
  ·go_wp2
   go_ret
   have HRowB := HR.out
   rw [iA (dM _ _ _ _) kO] at HRowB
   have e : l.take i = l := List.take_of_length_le kO
   exact ⟨gJ (by rw [e]), HRowB, HU.out⟩
theorem heldS_Asker (l : List GAsker) (k : Int) (A : Option Addr) (c : Nat) (w : World) (h : C eD w A (mkS kH dQ k l)) (hk : 0 ≤ k) (hb : k + bU dQ l ≤ 4611686018427387904) : Calls Tryz.prog 177 #[.slice A l.length c, .int .i64 k] w (lQ (k + bU dQ l) w) := by
 have hn := h.1
 rw [dM] at hn
 have H := Sd.mk h
 clear h
 go_enter Tryz.func177, Tryz.ntmps177
 go_wp2
 go_loopg [1, 5] l.length (fun r u v wr => ∃ i : Nat, i + r = l.length ∧ u = .int .i64 (k + bU dQ (l.take i)) ∧ v = .int .i64 i ∧ Sd (Upd No w wr))
 case atStart => exact ⟨0, by omega, by simp [bU], rfl, ⟨Upd.refl _ _⟩⟩
 case round =>
  obtain ⟨i, hi, rfl, rfl, HU⟩ := hrel
  by_cases hlt : i < l.length
  ·have hle := fA dQ j4 l i
   have hst := gF dQ l i hlt
   have hle2 := fA dQ j4 l (i + 1)
   rw [hst] at hle2
   have HST := Sd.mk hst
   clear hst
   obtain ⟨ad, rfl, a0, a1⟩ := ki_Asker_at (bK HU.out H.out) i (by rw [dM]; exact hlt)
   rw [jX kH dQ l k i hlt] at a0 a1
   simp only [kH] at a0 a1
   simp only [dQ] at hle2
   generalize hq : k + bU dQ (l.take i) = q at *
   have HQ := Sd.mk hq
   have hq0 : 0 ≤ q := by omega
   have hqb : q + ((0 + 1) + 1) ≤ 4611686018427387904 := by omega
   clear hq hle hle2 hb
   have HX := Sd.mk (Upd.refl No wr)
   go_wp2
   go_roundg (gk - 1)
   case measure => omega
   case rel => exact ⟨i + 1, by omega, by rw [HST.out]; simp only [dQ]; have := HQ.out; exact congrArg (Value.int .i64) kO, by go_num, ⟨HU.out.then HX.out⟩⟩
  ·go_wp2
   go_ret
   have e : l.take i = l := List.take_of_length_le kO
   exact ⟨gJ (by rw [e]), HU.out⟩
theorem kl_Entity_Kmk (w : World) (x : GEntity) {A2 : Option Addr} {c2 : Nat} (hl2 : x.dP.length ≤ c2) (hC2 : C gB w A2 x.dP) {A6 : Option Addr} {c6 : Nat} (hl6 : x.Queue.length ≤ c6) (hC6 : C jN w A6 x.Queue) {A7 : Option Addr} {c7 : Nat} (hl7 : x.bS.length ≤ c7) (hC7 : C kI w A7 x.bS) : jR.K w x [.int .i64 x.Kind, .int .i64 x.Script, .slice A2 x.dP.length c2, .int .i64 x.State, .int .i64 x.Value.Kind, .int .i64 x.Value.N, .slice A6 x.Queue.length c6, .slice A7 x.bS.length c7, .int .i64 x.bT, .int .i64 x.Pos, .int .i64 x.Count, .int .i64 x.iN] := ⟨[_], [_, _, _, _, _, _, _, _, _, _, _], rfl, rfl, ⟨[_], [_, _, _, _, _, _, _, _, _, _], rfl, rfl, ⟨[_], [_, _, _, _, _, _, _, _, _], rfl, ⟨A2, c2, rfl, hl2, hC2⟩, ⟨[_], [_, _, _, _, _, _, _, _], rfl, rfl, ⟨[_, _], [_, _, _, _, _, _], rfl, (kl_Value_Kmk w _), ⟨[_], [_, _, _, _, _], rfl, ⟨A6, c6, rfl, hl6, hC6⟩, ⟨[_], [_, _, _, _], rfl, ⟨A7, c7, rfl, hl7, hC7⟩, ⟨[_], [_, _, _], rfl, rfl, ⟨[_], [_, _], rfl, rfl, ⟨[_], [_], rfl, rfl, rfl⟩⟩⟩⟩⟩⟩⟩⟩⟩⟩
theorem ki_Entity_Kmk (w : World) (x : GEntity) {A2 : Option Addr} {c2 : Nat} (hl2 : x.dP.length ≤ c2) (hC2 : C aT w A2 x.dP) {A6 : Option Addr} {c6 : Nat} (hl6 : x.Queue.length ≤ c6) (hC6 : C aX w A6 x.Queue) {A7 : Option Addr} {c7 : Nat} (hl7 : x.bS.length ≤ c7) (hC7 : C eD w A7 x.bS) : aJ.K w x [.int .i64 x.Kind, .int .i64 x.Script, .slice A2 x.dP.length c2, .int .i64 x.State, .int .i64 x.Value.Kind, .int .i64 x.Value.N, .slice A6 x.Queue.length c6, .slice A7 x.bS.length c7, .int .i64 x.bT, .int .i64 x.Pos, .int .i64 x.Count, .int .i64 x.iN] := ⟨[_], [_, _, _, _, _, _, _, _, _, _, _], rfl, rfl, ⟨[_], [_, _, _, _, _, _, _, _, _, _], rfl, rfl, ⟨[_], [_, _, _, _, _, _, _, _, _], rfl, ⟨A2, c2, rfl, hl2, hC2⟩, ⟨[_], [_, _, _, _, _, _, _, _], rfl, rfl, ⟨[_, _], [_, _, _, _, _, _], rfl, (mK w _), ⟨[_], [_, _, _, _, _], rfl, ⟨A6, c6, rfl, hl6, hC6⟩, ⟨[_], [_, _, _, _], rfl, ⟨A7, c7, rfl, hl7, hC7⟩, ⟨[_], [_, _, _], rfl, rfl, ⟨[_], [_, _], rfl, rfl, ⟨[_], [_], rfl, rfl, rfl⟩⟩⟩⟩⟩⟩⟩⟩⟩⟩
theorem to_Entity (x : GEntity) (cs : List Value) (w : World) (h : jR.K w x cs) (hs : dD x ≤ 1048576) : Calls Tryz.prog 160 #[.agg cs.toArray] w (jJ aJ x w) := by
 obtain ⟨A2, c2, A6, c6, A7, c7, rfl, hl2, hC2, hl6, hC6, hl7, hC7⟩ := kl_Entity_K h
 have HC2 := Sd.mk hC2
 have HC6 := Sd.mk hC6
 have HC7 := Sd.mk hC7
 clear hC2 hC6 hC7
 have s_Slots : bN dO x.dP ≤ 1048576 := by unfold dD at hs; omega
 have s_Queue : bN dX x.Queue ≤ 1048576 := by unfold dD at hs; omega
 have s_Askers : bN iL x.bS ≤ 1048576 := by unfold dD at hs; omega
 clear hs
 go_enter Tryz.func160, Tryz.ntmps160
 go_wp2_with fail
 with_reducible refine (nL x.dP _ _ _ ?hc_Slots s_Slots).mono ?_
 case hc_Slots => exact bK kA HC2.out
 rintro e w_Slots ⟨v2, rfl, hR2, hu⟩
 obtain ⟨B2, b2, rfl⟩ := dA hR2
 obtain ⟨P2, hR2', g2, l2⟩ := iV hR2 (w.heap.size + 1 + 1 + 1) kB
 have ge2 : ∀ b, P2 b → w.heap.size + 1 + 1 < b := fun b hb => by have := g2 b hb; omega
 have n1_2 : ¬ P2 (w.heap.size + 1) := fun q => by have := ge2 _ q; omega
 have n2_2 : ¬ P2 (w.heap.size + 1 + 1) := fun q => by have := ge2 _ q; omega
 have HR2 := Sd.mk hR2'
 have GE2 := Sd.mk ge2
 have LT2 := Sd.mk l2
 have GP2 := Sd.mk g2
 clear hR2 hR2' ge2 l2 g2
 have HB_Slots : Sd (Upd No w w_Slots) := Sd.mk (Upd.then kA hu)
 have cc0_Slots := fun o => hu.bF (b := w.heap.size) kB (fun q => q) o
 have cc1_Slots := fun o => hu.bF (b := w.heap.size + 1) kB (fun q => q) o
 have cf1_Slots := fun o => hu.bV (b := w.heap.size + 1) kB (fun q => q) o
 have cc2_Slots := fun o => hu.bF (b := w.heap.size + 1 + 1) kB (fun q => q) o
 have cf2_Slots := fun o => hu.bV (b := w.heap.size + 1 + 1) kB (fun q => q) o
 have hz_Slots : w.heap.size + 1 + 1 + 1 ≤ w_Slots.heap.size := by have := hu.size; (try simp at this); omega
 clear hu
 go_wp2_with fail
 with_reducible refine (fI x.Value _ _ (kl_Value_Kmk _ _) (by simp [dO])).mono ?_
 rintro e w_Value ⟨cs_Value, rfl, hM, hu⟩
 obtain rfl := nN hM
 clear hM
 have HR2 := Sd.mk (dR hu (fun _ _ q => q) (fH HR2.out (by repeat (with_reducible first | exact Upd.refl _ _ | apply Upd.eZ n1_2 | apply Upd.eZ n2_2 | apply Upd.alloc))))
 have HB_Value : Sd (Upd No w w_Value) := Sd.mk (Upd.then (by repeat (with_reducible first | exact HB_Slots.out | apply Upd.dL | apply Upd.dK | apply Upd.dG | apply Upd.alloc | apply Upd.drewN | apply Upd.drew)) hu)
 have cc0_Value := fun o => hu.bF (b := w.heap.size) kB (fun q => q) o
 have cc1_Value := fun o => hu.bF (b := w.heap.size + 1) kB (fun q => q) o
 have cf1_Value := fun o => hu.bV (b := w.heap.size + 1) kB (fun q => q) o
 have cc2_Value := fun o => hu.bF (b := w.heap.size + 1 + 1) kB (fun q => q) o
 have cf2_Value := fun o => hu.bV (b := w.heap.size + 1 + 1) kB (fun q => q) o
 have hz_Value : w.heap.size + 1 + 1 + 1 ≤ w_Value.heap.size := by have := hu.size; (try simp at this); omega
 have hm_Value : w_Slots.heap.size ≤ w_Value.heap.size := by have := hu.size; (try simp at this); omega
 clear hu
 go_wp2_with fail
 with_reducible refine (toS_Sent x.Queue _ _ _ ?hc_Queue s_Queue).mono ?_
 case hc_Queue => exact bK (by repeat (with_reducible first | exact HB_Value.out | apply Upd.dL | apply Upd.dK | apply Upd.dG | apply Upd.alloc | apply Upd.drewN | apply Upd.drew)) HC6.out
 rintro e w_Queue ⟨v6, rfl, hR6, hu⟩
 obtain ⟨B6, b6, rfl⟩ := dA hR6
 obtain ⟨P6, hR6', g6, l6⟩ := iV hR6 (w_Value.heap.size) kB
 have ge6 : ∀ b, P6 b → w.heap.size + 1 + 1 < b := fun b hb => by have := g6 b hb; have := hz_Value; omega
 have n1_6 : ¬ P6 (w.heap.size + 1) := fun q => by have := ge6 _ q; omega
 have n2_6 : ¬ P6 (w.heap.size + 1 + 1) := fun q => by have := ge6 _ q; omega
 have HR6 := Sd.mk hR6'
 have GE6 := Sd.mk ge6
 have LT6 := Sd.mk l6
 have GP6 := Sd.mk g6
 clear hR6 hR6' ge6 l6 g6
 have HR2 := Sd.mk (dR hu (fun _ _ q => q) (fH HR2.out (by repeat (with_reducible first | exact Upd.refl _ _ | apply Upd.eZ n1_2 | apply Upd.eZ n2_2 | apply Upd.alloc))))
 have HB_Queue : Sd (Upd No w w_Queue) := Sd.mk (Upd.then (by repeat (with_reducible first | exact HB_Value.out | apply Upd.dL | apply Upd.dK | apply Upd.dG | apply Upd.alloc | apply Upd.drewN | apply Upd.drew)) hu)
 have cc0_Queue := fun o => hu.bF (b := w.heap.size) kB (fun q => q) o
 have cc1_Queue := fun o => hu.bF (b := w.heap.size + 1) kB (fun q => q) o
 have cf1_Queue := fun o => hu.bV (b := w.heap.size + 1) kB (fun q => q) o
 have cc2_Queue := fun o => hu.bF (b := w.heap.size + 1 + 1) kB (fun q => q) o
 have cf2_Queue := fun o => hu.bV (b := w.heap.size + 1 + 1) kB (fun q => q) o
 have hz_Queue : w.heap.size + 1 + 1 + 1 ≤ w_Queue.heap.size := by have := hu.size; (try simp at this); omega
 have hm_Queue : w_Value.heap.size ≤ w_Queue.heap.size := by have := hu.size; (try simp at this); omega
 clear hu
 go_wp2_with fail
 with_reducible refine (toS_Asker x.bS _ _ _ ?hc_Askers s_Askers).mono ?_
 case hc_Askers => exact bK (by repeat (with_reducible first | exact HB_Queue.out | apply Upd.dL | apply Upd.dK | apply Upd.dG | apply Upd.alloc | apply Upd.drewN | apply Upd.drew)) HC7.out
 rintro e w_Askers ⟨v7, rfl, hR7, hu⟩
 obtain ⟨B7, b7, rfl⟩ := dA hR7
 obtain ⟨P7, hR7', g7, l7⟩ := iV hR7 (w_Queue.heap.size) kB
 have ge7 : ∀ b, P7 b → w.heap.size + 1 + 1 < b := fun b hb => by have := g7 b hb; have := hz_Queue; omega
 have n1_7 : ¬ P7 (w.heap.size + 1) := fun q => by have := ge7 _ q; omega
 have n2_7 : ¬ P7 (w.heap.size + 1 + 1) := fun q => by have := ge7 _ q; omega
 have HR7 := Sd.mk hR7'
 have GE7 := Sd.mk ge7
 have LT7 := Sd.mk l7
 have GP7 := Sd.mk g7
 clear hR7 hR7' ge7 l7 g7
 have HR2 := Sd.mk (dR hu (fun _ _ q => q) (fH HR2.out (by repeat (with_reducible first | exact Upd.refl _ _ | apply Upd.eZ n1_2 | apply Upd.eZ n2_2 | apply Upd.alloc))))
 have HR6 := Sd.mk (dR hu (fun _ _ q => q) (fH HR6.out (by repeat (with_reducible first | exact Upd.refl _ _ | apply Upd.eZ n1_6 | apply Upd.eZ n2_6 | apply Upd.alloc))))
 have HB_Askers : Sd (Upd No w w_Askers) := Sd.mk (Upd.then (by repeat (with_reducible first | exact HB_Queue.out | apply Upd.dL | apply Upd.dK | apply Upd.dG | apply Upd.alloc | apply Upd.drewN | apply Upd.drew)) hu)
 have cc0_Askers := fun o => hu.bF (b := w.heap.size) kB (fun q => q) o
 have cc1_Askers := fun o => hu.bF (b := w.heap.size + 1) kB (fun q => q) o
 have cf1_Askers := fun o => hu.bV (b := w.heap.size + 1) kB (fun q => q) o
 have cc2_Askers := fun o => hu.bF (b := w.heap.size + 1 + 1) kB (fun q => q) o
 have cf2_Askers := fun o => hu.bV (b := w.heap.size + 1 + 1) kB (fun q => q) o
 have hz_Askers : w.heap.size + 1 + 1 + 1 ≤ w_Askers.heap.size := by have := hu.size; (try simp at this); omega
 have hm_Askers : w_Queue.heap.size ≤ w_Askers.heap.size := by have := hu.size; (try simp at this); omega
 clear hu
 go_wp2
 refine bodyPost_ret (v := .agg #[.int .i64 x.Kind, .int .i64 x.Script, .slice B2 x.dP.length b2, .int .i64 x.State, .int .i64 x.Value.Kind, .int .i64 x.Value.N, .slice B6 x.Queue.length b6, .slice B7 x.bS.length b7, .int .i64 x.bT, .int .i64 x.Pos, .int .i64 x.Count, .int .i64 x.iN]) (by simp [results, Tryz.results160, go_sem, cc1_Slots, cc1_Value, cc1_Queue, cc1_Askers]) rfl ⟨_, rfl, ?_, (by repeat (with_reducible first | exact HB_Askers.out | apply Upd.dL | apply Upd.dK | apply Upd.dG | apply Upd.alloc | apply Upd.drewN | apply Upd.drew))⟩
 exact kE _ _ _ (fH HR2.out (by repeat (with_reducible first | exact Upd.refl _ _ | apply Upd.eZ n1_2 | apply Upd.eZ n2_2 | apply Upd.alloc))) (fH HR6.out (by repeat (with_reducible first | exact Upd.refl _ _ | apply Upd.eZ n1_6 | apply Upd.eZ n2_6 | apply Upd.alloc))) (fH HR7.out (by repeat (with_reducible first | exact Upd.refl _ _ | apply Upd.eZ n1_7 | apply Upd.eZ n2_7 | apply Upd.alloc))) (fun k hk => by have := GE2.out k hk; simp only [New]; omega) (fun k hk => by have := GE6.out k hk; simp only [New]; omega) (fun k hk => by have := GE7.out k hk; simp only [New]; omega) (fun k hk hk' => by have h1 := LT2.out k hk; have h2 := GP6.out k hk'; have := hm_Value; omega) (fun k hk hk' => by have h1 := LT2.out k hk; have h2 := GP7.out k hk'; have := hm_Value; have := hm_Queue; omega) (fun k hk hk' => by have h1 := LT6.out k hk; have h2 := GP7.out k hk'; omega)
theorem toS_Entity (l : List GEntity) (A : Option Addr) (c : Nat) (w : World) (h : C jR w A l) (hs : bN dD l ≤ 1048576) : Calls Tryz.prog 93 #[.slice A l.length c] w (lG aJ 171 l w) := by
 have hn : l.length ≤ 1048576 := by unfold bN at hs; omega
 have hmk := mD (P := Tryz.prog) _ _ _ Tryz.underlying63 nP l.length hn kD
 have H := Sd.mk h
 have HS := Sd.mk hs
 clear h hs
 go_enter Tryz.func93, Tryz.ntmps93
 go_wp2
 clear hmk
 have HR : Sd (R aJ 171 (w.alloc (iJ (.agg #[.int .i64 0, .int .i64 0, .slice none 0 0, .int .i64 0, .int .i64 0, .int .i64 0, .slice none 0 0, .slice none 0 0, .int .i64 0, .int .i64 0, .int .i64 0, .int .i64 0]) (l.length * 12) 171)) (New w) (.slice (some ⟨w.heap.size, 0, none⟩) l.length l.length) (List.replicate l.length jG)) := Sd.mk (R_made (d := aJ) (e := 171) w (.agg #[.int .i64 0, .int .i64 0, .slice none 0 0, .int .i64 0, .int .i64 0, .int .i64 0, .slice none 0 0, .slice none 0 0, .int .i64 0, .int .i64 0, .int .i64 0, .int .i64 0]) jG rfl kD ki_Entity_zero l.length hn)
 have HU := Sd.mk ((Upd.refl No w).alloc (iJ (.agg #[.int .i64 0, .int .i64 0, .slice none 0 0, .int .i64 0, .int .i64 0, .int .i64 0, .slice none 0 0, .slice none 0 0, .int .i64 0, .int .i64 0, .int .i64 0, .int .i64 0]) (l.length * 12) 171))
 go_loopg [4] l.length (fun k v wr => ∃ i : Nat, i + k = l.length ∧ v = .int .i64 i ∧ Sd (R aJ 171 wr (New w) (.slice (some ⟨w.heap.size, 0, none⟩) l.length l.length) (upTo l (List.replicate l.length jG) i)) ∧ Sd (Upd No w wr))
 case atStart => exact ⟨0, by omega, rfl, ⟨by rw [gK]; exact HR.out⟩, HU⟩
 case round =>
  clear HR HU
  obtain ⟨i, hi, rfl, HR, HU⟩ := hrel
  by_cases hlt : i < l.length
  ·obtain ⟨ad, A2, c2, A6, c6, A7, c7, rfl, a0, a1, a2, a3, a4, a5, a6, a7, a8, a9, a10, a11, hl2, hC2, hl6, hC6, hl7, hC7⟩ := kl_Entity_at (bK HU.out H.out) i hlt
   have HC2 := Sd.mk hC2
   clear hC2
   have HC6 := Sd.mk hC6
   clear hC6
   have HC7 := Sd.mk hC7
   clear hC7
   have hsi : dD l[i] ≤ 1048576 := by have := HS.out; have := gT dD l i hlt; unfold bN at *; omega
   go_wp2_with fail
   with_reducible refine (to_Entity l[i] _ _ (kl_Entity_Kmk _ _ hl2 HC2.out hl6 HC6.out hl7 HC7.out) hsi).mono ?_
   rintro e w1 ⟨cs, rfl, hM, hu⟩
   obtain ⟨v2, P2, v6, P6, v7, P7, rfl, hR2, hR6, hR7, i2, i6, i7, d2_6, d2_7, d6_7⟩ := nV (aJ.M_lt hM)
   obtain ⟨D2, d2, rfl⟩ := dA hR2
   obtain ⟨D6, d6, rfl⟩ := dA hR6
   obtain ⟨D7, d7, rfl⟩ := dA hR7
   have HRowA := dR hu (fun _ _ q => q) (R_lt HR.out)
   have HU1 := Sd.mk (HU.out.then hu)
   have hzw := HU.out.size
   have HR2 := Sd.mk hR2
   have I2 := Sd.mk i2
   have HR6 := Sd.mk hR6
   have I6 := Sd.mk i6
   have HR7 := Sd.mk hR7
   have I7 := Sd.mk i7
   have D2_6 := Sd.mk d2_6
   have D2_7 := Sd.mk d2_7
   have D6_7 := Sd.mk d6_7
   clear HR HU hM hu hR2 i2 hR6 i6 hR7 i7 d2_6 d2_7 d6_7
   obtain ⟨g, cap, cur, ce, Fi, hv, hcap, hat, hM, hg, hFi, hFg, close⟩ := kN HRowA 12 l.length rfl (by rw [iB (by simp) (by simp; omega)]; simp) i jG (by rw [iX (by simp) (by simpa using hlt)]; simp)
   cases hv
   obtain ⟨y2, _, y6, _, y7, _, rfl, -⟩ := nV hM
   have HAT := Sd.mk hat
   have x0 := hat.cell0 _ rfl
   have x1 := hat.cell 1 _ rfl
   have x2 := hat.cell 2 _ rfl
   have x3 := hat.cell 3 _ rfl
   have x4 := hat.cell 4 _ rfl
   have x5 := hat.cell 5 _ rfl
   have x6 := hat.cell 6 _ rfl
   have x7 := hat.cell 7 _ rfl
   have x8 := hat.cell 8 _ rfl
   have x9 := hat.cell 9 _ rfl
   have x10 := hat.cell 10 _ rfl
   have x11 := hat.cell 11 _ rfl
   have f0 := hat.free (i * 12)
   have f1 := hat.free (i * 12 + 1)
   have f2 := hat.free (i * 12 + 2)
   have f3 := hat.free (i * 12 + 3)
   have f4 := hat.free (i * 12 + 4)
   have f5 := hat.free (i * 12 + 5)
   have f6 := hat.free (i * 12 + 6)
   have f7 := hat.free (i * 12 + 7)
   have f8 := hat.free (i * 12 + 8)
   have f9 := hat.free (i * 12 + 9)
   have f10 := hat.free (i * 12 + 10)
   have f11 := hat.free (i * 12 + 11)
   have CL := Sd.mk close
   clear hat close hM HRowA
   go_wp2
   have HA := (((((((((((HAT.out.set0 kD (.int .i64 l[i].Kind)).set 1 kD (.int .i64 l[i].Script)).set 2 kD (.slice D2 l[i].dP.length d2)).set 3 kD (.int .i64 l[i].State)).set 4 kD (.int .i64 l[i].Value.Kind)).set 5 kD (.int .i64 l[i].Value.N)).set 6 kD (.slice D6 l[i].Queue.length d6)).set 7 kD (.slice D7 l[i].bS.length d7)).set 8 kD (.int .i64 l[i].bT)).set 9 kD (.int .i64 l[i].Pos)).set 10 kD (.int .i64 l[i].Count)).set 11 kD (.int .i64 l[i].iN)
   have hD2 : ∀ b, P2 b → ¬ (b = w.heap.size ∨ Fi b) := by
    intro b hb q
    have h1 := (I2.out b hb).1
    simp only [New] at h1
    rcases q with rfl | q
    ·exact absurd hg.2 kO
    ·have h2 := (hFi b q).2
     omega
   have hD6 : ∀ b, P6 b → ¬ (b = w.heap.size ∨ Fi b) := by
    intro b hb q
    have h1 := (I6.out b hb).1
    simp only [New] at h1
    rcases q with rfl | q
    ·exact absurd hg.2 kO
    ·have h2 := (hFi b q).2
     omega
   have hD7 : ∀ b, P7 b → ¬ (b = w.heap.size ∨ Fi b) := by
    intro b hb q
    have h1 := (I7.out b hb).1
    simp only [New] at h1
    rcases q with rfl | q
    ·exact absurd hg.2 kO
    ·have h2 := (hFi b q).2
     omega
   have HM := kE _ (fun b => P2 b ∨ P6 b ∨ P7 b) l[i] (dR HA.upd hD2 HR2.out) (dR HA.upd hD6 HR6.out) (dR HA.upd hD7 HR7.out) (fun k hk => Or.inl hk) (fun k hk => Or.inr (Or.inl hk)) (fun k hk => Or.inr (Or.inr (hk))) D2_6.out D2_7.out D6_7.out
   have hP1 : ∀ b, (P2 b ∨ P6 b ∨ P7 b) → New wr b := by
    intro b hb
    rcases hb with hb | hb | hb
    ·exact (I2.out b hb).1
    ·exact (I6.out b hb).1
    ·exact (I7.out b hb).1
   have HRowB := CL.out _ _ l[i] _ (New w) HA HM (fun b hb => .inr (fun q => by have h1 := hP1 b hb; have h2 := q.2; simp only [New] at h1; omega)) (fun _ q => q.1) (fun b hb => by have h1 := hP1 b hb; simp only [New] at h1 ⊢; omega)
   rw [iC (by simp) (by simpa using hlt)] at HRowB
   go_roundg (gk - 1)
   case measure => omega
   case rel => exact ⟨i + 1, by omega, by go_num, ⟨HRowB⟩, ⟨by repeat (with_reducible first | exact HU1.out | apply Upd.dG)⟩⟩
  ·go_wp2
   go_ret
   have HRowB := HR.out
   rw [iA (by simp) (by simp; omega)] at HRowB
   exact ⟨_, rfl, HRowB, HU.out⟩
theorem sz_Entity (x : GEntity) (cs : List Value) (n : Int) (w : World) (h : jR.K w x cs) (hb : Bd_Entity x) (h0 : 0 ≤ n) (h1 : n ≤ 1048576) : Calls Tryz.prog 153 #[.agg cs.toArray, .int .i64 n] w (RetSz (dD x) n w) := by
 obtain ⟨A2, c2, A6, c6, A7, c7, rfl, hl2, hC2, hl6, hC6, hl7, hC7⟩ := kl_Entity_K h
 have HC2 := Sd.mk hC2
 have HC6 := Sd.mk hC6
 have HC7 := Sd.mk hC7
 clear hC2 hC6 hC7
 have b_Queue := hb
 unfold Bd_Entity at b_Queue
 have B_Queue := Sd.mk b_Queue
 clear b_Queue
 go_enter Tryz.func153, Tryz.ntmps153
 go_wp2_with fail
 with_reducible refine (szS_Value x.dP _ _ _ _ ?hc_Slots kO kO).mono ?_
 case hc_Slots => exact bK kA HC2.out
 rintro e w_Slots ⟨r_Slots, rfl, hr_Slots, hu⟩
 have HB_Slots : Sd (Upd No w w_Slots) := Sd.mk (Upd.then kA hu)
 have cc0_Slots := fun o => hu.bF (b := w.heap.size) kB (fun q => q) o
 have hz_Slots : w.heap.size + 1 ≤ w_Slots.heap.size := by have := hu.size; (try simp at this); omega
 clear hu
 rcases hr_Slots with ⟨q_Slots, rfl⟩ | ⟨q_Slots, rfl⟩
 case inr =>
  go_wp2
  go_ret
  exact ⟨_, rfl, .inr ⟨by unfold dD; omega, rfl⟩, (by repeat (with_reducible first | exact HB_Slots.out | apply Upd.dL | apply Upd.dK | apply Upd.dG | apply Upd.alloc | apply Upd.drewN | apply Upd.drew))⟩
 go_wp2_with fail
 with_reducible refine (szS_Sent x.Queue _ _ _ _ ?hc_Queue B_Queue.out kO kO).mono ?_
 case hc_Queue => exact bK (by repeat (with_reducible first | exact HB_Slots.out | apply Upd.dL | apply Upd.dK | apply Upd.dG | apply Upd.alloc | apply Upd.drewN | apply Upd.drew)) HC6.out
 rintro e w_Queue ⟨r_Queue, rfl, hr_Queue, hu⟩
 have HB_Queue : Sd (Upd No w w_Queue) := Sd.mk (Upd.then (by repeat (with_reducible first | exact HB_Slots.out | apply Upd.dL | apply Upd.dK | apply Upd.dG | apply Upd.alloc | apply Upd.drewN | apply Upd.drew)) hu)
 have cc0_Queue := fun o => hu.bF (b := w.heap.size) kB (fun q => q) o
 have hz_Queue : w.heap.size + 1 ≤ w_Queue.heap.size := by have := hu.size; (try simp at this); omega
 clear hu
 rcases hr_Queue with ⟨q_Queue, rfl⟩ | ⟨q_Queue, rfl⟩
 case inr =>
  go_wp2
  go_ret
  exact ⟨_, rfl, .inr ⟨by unfold dD; omega, rfl⟩, (by repeat (with_reducible first | exact HB_Queue.out | apply Upd.dL | apply Upd.dK | apply Upd.dG | apply Upd.alloc | apply Upd.drewN | apply Upd.drew))⟩
 go_wp2_with fail
 with_reducible refine (szS_Asker x.bS _ _ _ _ ?hc_Askers kO kO).mono ?_
 case hc_Askers => exact bK (by repeat (with_reducible first | exact HB_Queue.out | apply Upd.dL | apply Upd.dK | apply Upd.dG | apply Upd.alloc | apply Upd.drewN | apply Upd.drew)) HC7.out
 rintro e w_Askers ⟨r_Askers, rfl, hr_Askers, hu⟩
 have HB_Askers : Sd (Upd No w w_Askers) := Sd.mk (Upd.then (by repeat (with_reducible first | exact HB_Queue.out | apply Upd.dL | apply Upd.dK | apply Upd.dG | apply Upd.alloc | apply Upd.drewN | apply Upd.drew)) hu)
 have cc0_Askers := fun o => hu.bF (b := w.heap.size) kB (fun q => q) o
 have hz_Askers : w.heap.size + 1 ≤ w_Askers.heap.size := by have := hu.size; (try simp at this); omega
 clear hu
 rcases hr_Askers with ⟨q_Askers, rfl⟩ | ⟨q_Askers, rfl⟩
 case inr =>
  go_wp2
  go_ret
  exact ⟨_, rfl, .inr ⟨by unfold dD; omega, rfl⟩, (by repeat (with_reducible first | exact HB_Askers.out | apply Upd.dL | apply Upd.dK | apply Upd.dG | apply Upd.alloc | apply Upd.drewN | apply Upd.drew))⟩
 go_wp2
 go_ret
 exact ⟨_, rfl, .inl ⟨by unfold dD; omega, by unfold dD; omega⟩, (by repeat (with_reducible first | exact HB_Askers.out | apply Upd.dL | apply Upd.dK | apply Upd.dG | apply Upd.alloc | apply Upd.drewN | apply Upd.drew))⟩
theorem szS_Entity (l : List GEntity) (A : Option Addr) (c : Nat) (n : Int) (w : World) (h : C jR w A l) (hb : ∀ y ∈ l, Bd_Entity y) (h0 : 0 ≤ n) (h1 : n ≤ 1048576) : Calls Tryz.prog 85 #[.slice A l.length c, .int .i64 n] w (RetSz (bN dD l) n w) := by
 have hn := h.1
 have H := Sd.mk h
 clear h
 have HBD := Sd.mk hb
 clear hb
 go_enter Tryz.func85, Tryz.ntmps85
 by_cases q0 : (l.length : Int) ≤ n
 case neg =>
  go_wp2
  go_ret
  exact ⟨_, rfl, .inr ⟨by unfold bN; omega, rfl⟩, Upd.refl _ _⟩
 go_wp2
 go_loopg [1, 5] l.length (fun k u v wr => ∃ i : Nat, i + k = l.length ∧ (gX dD (l.take i) : Int) ≤ n - l.length ∧ u = .int .i64 (n - l.length - gX dD (l.take i)) ∧ v = .int .i64 i ∧ Sd (Upd No w wr))
 case atStart => exact ⟨0, by omega, by simp [gX]; omega, by simp [gX], rfl, ⟨Upd.refl _ _⟩⟩
 case round =>
  obtain ⟨i, hi, hle, rfl, rfl, HU⟩ := hrel
  by_cases hlt : i < l.length
  ·obtain ⟨ad, A2, c2, A6, c6, A7, c7, rfl, a0, a1, a2, a3, a4, a5, a6, a7, a8, a9, a10, a11, hl2, hC2, hl6, hC6, hl7, hC7⟩ := kl_Entity_at (bK HU.out H.out) i hlt
   have HC2 := Sd.mk hC2
   clear hC2
   have HC6 := Sd.mk hC6
   clear hC6
   have HC7 := Sd.mk hC7
   clear hC7
   have hst := sumS_step dD l i hlt
   have HST := Sd.mk (mO dD l i hlt)
   generalize hs : gX dD (l.take i) = s at *
   have HS := Sd.mk hs
   clear hs
   go_wp2_with fail
   with_reducible refine (sz_Entity l[i] _ _ _ (kl_Entity_Kmk _ _ hl2 HC2.out hl6 HC6.out hl7 HC7.out) (HBD.out _ (List.getElem_mem hlt)) kO kO).mono ?_
   rintro e w1 ⟨r, rfl, hr, hu⟩
   have HU1 := Sd.mk (HU.out.then hu)
   clear hu HU
   rcases hr with ⟨q, rfl⟩ | ⟨q, rfl⟩
   ·go_wp2
    go_roundg (gk - 1)
    case measure => omega
    case rel => exact ⟨i + 1, by omega, by rw [HST.out]; omega, by rw [HST.out]; exact congrArg (Value.int .i64) kO, by go_num, HU1⟩
   ·go_wp2
    go_ret
    exact ⟨_, rfl, .inr ⟨by unfold bN; omega, rfl⟩, HU1.out⟩
  ·go_wp2
   go_ret
   have e : l.take i = l := List.take_of_length_le kO
   rw [e] at hle
   exact ⟨_, rfl, .inl ⟨by unfold bN; omega, by rw [e]; unfold bN; omega⟩, HU.out⟩
theorem eq_Entity (x : GEntity) (cs cs' : List Value) (w : World) (h : aJ.K w x cs) (h' : aJ.K w x cs') : Calls Tryz.prog 169 #[.agg cs.toArray, .agg cs'.toArray] w (eX true w) := by
 obtain ⟨A2, c2, A6, c6, A7, c7, rfl, hl2, hC2, hl6, hC6, hl7, hC7⟩ := jU h
 have HC2 := Sd.mk hC2
 have HC6 := Sd.mk hC6
 have HC7 := Sd.mk hC7
 clear hC2 hC6 hC7
 obtain ⟨B2, b2, B6, b6, B7, b7, rfl, hm2, hD2, hm6, hD6, hm7, hD7⟩ := jU h'
 have HD2 := Sd.mk hD2
 have HD6 := Sd.mk hD6
 have HD7 := Sd.mk hD7
 clear hD2 hD6 hD7
 go_enter Tryz.func169, Tryz.ntmps169
 go_wp2_with fail
 with_reducible refine (eqS_Value x.dP _ _ _ _ _ ?hc_Slots ?hd_Slots).mono ?_
 case hc_Slots => exact bK kA HC2.out
 case hd_Slots => exact bK kA HD2.out
 rintro e w_Slots ⟨rfl, hu⟩
 have HB_Slots : Sd (Upd No w w_Slots) := Sd.mk (Upd.then kA hu)
 have cc0_Slots := fun o => hu.bF (b := w.heap.size) kB (fun q => q) o
 have cc1_Slots := fun o => hu.bF (b := w.heap.size + 1) kB (fun q => q) o
 have hz_Slots : w.heap.size + 1 + 1 ≤ w_Slots.heap.size := by have := hu.size; (try simp at this); omega
 clear hu
 go_wp2_with fail
 with_reducible refine (eq_Value x.Value _ _ _ (mK _ _) (mK _ _)).mono ?_
 rintro e w_Value ⟨rfl, hu⟩
 have HB_Value : Sd (Upd No w w_Value) := Sd.mk (Upd.then (by repeat (with_reducible first | exact HB_Slots.out | apply Upd.dL | apply Upd.dK | apply Upd.dG | apply Upd.alloc | apply Upd.drewN | apply Upd.drew)) hu)
 have cc0_Value := fun o => hu.bF (b := w.heap.size) kB (fun q => q) o
 have cc1_Value := fun o => hu.bF (b := w.heap.size + 1) kB (fun q => q) o
 have hz_Value : w.heap.size + 1 + 1 ≤ w_Value.heap.size := by have := hu.size; (try simp at this); omega
 clear hu
 go_wp2_with fail
 with_reducible refine (eqS_Sent x.Queue _ _ _ _ _ ?hc_Queue ?hd_Queue).mono ?_
 case hc_Queue => exact bK (by repeat (with_reducible first | exact HB_Value.out | apply Upd.dL | apply Upd.dK | apply Upd.dG | apply Upd.alloc | apply Upd.drewN | apply Upd.drew)) HC6.out
 case hd_Queue => exact bK (by repeat (with_reducible first | exact HB_Value.out | apply Upd.dL | apply Upd.dK | apply Upd.dG | apply Upd.alloc | apply Upd.drewN | apply Upd.drew)) HD6.out
 rintro e w_Queue ⟨rfl, hu⟩
 have HB_Queue : Sd (Upd No w w_Queue) := Sd.mk (Upd.then (by repeat (with_reducible first | exact HB_Value.out | apply Upd.dL | apply Upd.dK | apply Upd.dG | apply Upd.alloc | apply Upd.drewN | apply Upd.drew)) hu)
 have cc0_Queue := fun o => hu.bF (b := w.heap.size) kB (fun q => q) o
 have cc1_Queue := fun o => hu.bF (b := w.heap.size + 1) kB (fun q => q) o
 have hz_Queue : w.heap.size + 1 + 1 ≤ w_Queue.heap.size := by have := hu.size; (try simp at this); omega
 clear hu
 go_wp2_with fail
 with_reducible refine (eqS_Asker x.bS _ _ _ _ _ ?hc_Askers ?hd_Askers).mono ?_
 case hc_Askers => exact bK (by repeat (with_reducible first | exact HB_Queue.out | apply Upd.dL | apply Upd.dK | apply Upd.dG | apply Upd.alloc | apply Upd.drewN | apply Upd.drew)) HC7.out
 case hd_Askers => exact bK (by repeat (with_reducible first | exact HB_Queue.out | apply Upd.dL | apply Upd.dK | apply Upd.dG | apply Upd.alloc | apply Upd.drewN | apply Upd.drew)) HD7.out
 rintro e w_Askers ⟨rfl, hu⟩
 have HB_Askers : Sd (Upd No w w_Askers) := Sd.mk (Upd.then (by repeat (with_reducible first | exact HB_Queue.out | apply Upd.dL | apply Upd.dK | apply Upd.dG | apply Upd.alloc | apply Upd.drewN | apply Upd.drew)) hu)
 have cc0_Askers := fun o => hu.bF (b := w.heap.size) kB (fun q => q) o
 have cc1_Askers := fun o => hu.bF (b := w.heap.size + 1) kB (fun q => q) o
 have hz_Askers : w.heap.size + 1 + 1 ≤ w_Askers.heap.size := by have := hu.size; (try simp at this); omega
 clear hu
 go_wp2
 go_ret
 exact ⟨rfl, (by repeat (with_reducible first | exact HB_Askers.out | apply Upd.dL | apply Upd.dK | apply Upd.dG | apply Upd.alloc | apply Upd.drewN | apply Upd.drew))⟩
theorem eqS_Entity (l : List GEntity) (A A' : Option Addr) (c c' : Nat) (w : World) (h : C aJ w A l) (h' : C aJ w A' l) : Calls Tryz.prog 102 #[.slice A l.length c, .slice A' l.length c'] w (eX true w) := by
 have hn := h.1
 have H := Sd.mk h
 have H' := Sd.mk h'
 clear h h'
 go_enter Tryz.func102, Tryz.ntmps102
 go_wp2
 go_loopg [5] l.length (fun k v wr => ∃ i : Nat, i + k = l.length ∧ v = .int .i64 i ∧ Sd (Upd No w wr))
 case atStart => exact ⟨0, by omega, rfl, ⟨Upd.refl _ _⟩⟩
 case round =>
  obtain ⟨i, hi, rfl, HU⟩ := hrel
  by_cases hlt : i < l.length
  ·obtain ⟨ad, A2, c2, A6, c6, A7, c7, rfl, a0, a1, a2, a3, a4, a5, a6, a7, a8, a9, a10, a11, hl2, hC2, hl6, hC6, hl7, hC7⟩ := ki_Entity_at (bK HU.out H.out) i hlt
   obtain ⟨ad', B2, b2, B6, b6, B7, b7, rfl, z0, z1, z2, z3, z4, z5, z6, z7, z8, z9, z10, z11, hm2, hD2, hm6, hD6, hm7, hD7⟩ := ki_Entity_at (bK HU.out H'.out) i hlt
   have HC2 := Sd.mk hC2
   have HD2 := Sd.mk hD2
   clear hC2 hD2
   have HC6 := Sd.mk hC6
   have HD6 := Sd.mk hD6
   clear hC6 hD6
   have HC7 := Sd.mk hC7
   have HD7 := Sd.mk hD7
   clear hC7 hD7
   go_wp2_with fail
   go_still_tail 8, kR
   change wpList _ _ _ _ _ wr.drew
   have HW : Sd (Upd No wr wr.drew) := ⟨(Upd.refl _ _).drew⟩
   have HU2 : Sd (Upd No w wr.drew) := ⟨HU.out.drew⟩
   generalize wr.drew = w2 at *
   go_wp2_with (go_at_call 169; (with_reducible refine (eq_Entity l[i] _ _ _ (ki_Entity_Kmk _ _ hl2 (bK HW.out HC2.out) hl6 (bK HW.out HC6.out) hl7 (bK HW.out HC7.out)) (ki_Entity_Kmk _ _ hm2 (bK HW.out HD2.out) hm6 (bK HW.out HD6.out) hm7 (bK HW.out HD7.out))).mono ?_); rintro e w' ⟨rfl, hu⟩)
   have HU3 := Sd.mk (HU2.out.then hu)
   clear HU2 hu
   go_wp2
   go_roundg (gk - 1)
   case measure => omega
   case rel => exact ⟨i + 1, by omega, by go_num, HU3⟩
  ·go_wp2
   go_ret
   exact ⟨rfl, HU.out⟩
theorem markS_Entity (l : List GEntity) (k : Int) (F : Nat → Prop) (v : Value) (w : World) (h : R aJ 171 w F v l) (hk : 0 ≤ k) (hb : k + bU dN l ≤ 4611686018427387904) : Calls Tryz.prog 107 #[v, .int .i64 k] w (Marks aJ 171 F v (k + bU dN l) (mkS jQ dN k l) w) := by
 obtain ⟨A, c, rfl⟩ := dA h
 have hn := R_len h
 have H := Sd.mk h
 clear h
 go_enter Tryz.func107, Tryz.ntmps107
 go_wp2
 go_loopg [1, 5] l.length (fun r u v wr => ∃ i : Nat, i + r = l.length ∧ u = .int .i64 (k + bU dN (l.take i)) ∧ v = .int .i64 i ∧ Sd (R aJ 171 wr F (.slice A l.length c) (upTo (mkS jQ dN k l) l i)) ∧ Sd (Upd F w wr))
 case atStart => exact ⟨0, by omega, by simp [bU], rfl, ⟨by rw [gK]; exact H.out⟩, ⟨Upd.refl _ _⟩⟩
 case round =>
  obtain ⟨i, hi, rfl, rfl, HR, HU⟩ := hrel
  by_cases hlt : i < l.length
  ·have hle := fA dN jK l i
   have hst := gF dN l i hlt
   have hle2 := fA dN jK l (i + 1)
   rw [hst] at hle2
   have HST := Sd.mk hst
   clear hst
   have HMA := Sd.mk (jX jQ dN l k i hlt)
   obtain ⟨g, cap, cur, ce, Fi, hv, hcap, hat, hM, hg, hFi, hFg, close⟩ := kN HR.out 12 l.length rfl (iB (dM _ _ _ _) kO) i l[i] (iX (dM _ _ _ _) hlt)
   cases hv
   obtain ⟨v2, P2, v6, P6, v7, P7, rfl, hR2, hR6, hR7, i2, i6, i7, d2_6, d2_7, d6_7⟩ := nV hM
   obtain ⟨B2, b2, rfl⟩ := dA hR2
   have HR2 := Sd.mk hR2
   have I2 := Sd.mk i2
   have N2 : ¬ P2 g := fun q => hFg (i2 g q)
   clear hR2 i2
   have nn2 := fE bJ gV l[i].dP
   obtain ⟨B6, b6, rfl⟩ := dA hR6
   have HR6 := Sd.mk hR6
   have I6 := Sd.mk i6
   have N6 : ¬ P6 g := fun q => hFg (i6 g q)
   clear hR6 i6
   have nn6 := fE dJ iU l[i].Queue
   obtain ⟨B7, b7, rfl⟩ := dA hR7
   have HR7 := Sd.mk hR7
   have I7 := Sd.mk i7
   have N7 : ¬ P7 g := fun q => hFg (i7 g q)
   clear hR7 i7
   have nn7 := fE dQ j4 l[i].bS
   have D2_6 := Sd.mk d2_6
   clear d2_6
   have D2_7 := Sd.mk d2_7
   clear d2_7
   have D6_7 := Sd.mk d6_7
   clear d6_7
   have HCN : Sd (dN l[i] = dN l[i]) := ⟨rfl⟩
   simp only [dN] at hle2
   generalize hq : k + bU dN (l.take i) = q at *
   have HQ := Sd.mk hq
   have hq0 : 0 ≤ q := by omega
   have hqb : q + ((((((((((((0 + 1) + 1) + bU bJ l[i].dP) + 1) + 1) + 1) + bU dJ l[i].Queue) + bU dQ l[i].bS) + 1) + 1) + 1) + 1) ≤ 4611686018427387904 := by omega
   clear hq hle hle2 hb
   generalize hcn2 : bU bJ l[i].dP = cn2 at *
   have HC2 := Sd.mk hcn2
   clear hcn2
   generalize hcn6 : bU dJ l[i].Queue = cn6 at *
   have HC6 := Sd.mk hcn6
   clear hcn6
   generalize hcn7 : bU dQ l[i].bS = cn7 at *
   have HC7 := Sd.mk hcn7
   clear hcn7
   have HAT := Sd.mk hat
   have x0_s := hat.cell0 _ rfl
   have x1_s := hat.cell 1 _ rfl
   have x2_s := hat.cell 2 _ rfl
   have x3_s := hat.cell 3 _ rfl
   have x4_s := hat.cell 4 _ rfl
   have x5_s := hat.cell 5 _ rfl
   have x6_s := hat.cell 6 _ rfl
   have x7_s := hat.cell 7 _ rfl
   have x8_s := hat.cell 8 _ rfl
   have x9_s := hat.cell 9 _ rfl
   have x10_s := hat.cell 10 _ rfl
   have x11_s := hat.cell 11 _ rfl
   have f0_s := hat.free (i * 12)
   have f1_s := hat.free (i * 12 + 1)
   have f2_s := hat.free (i * 12 + 2)
   have f3_s := hat.free (i * 12 + 3)
   have f4_s := hat.free (i * 12 + 4)
   have f5_s := hat.free (i * 12 + 5)
   have f6_s := hat.free (i * 12 + 6)
   have f7_s := hat.free (i * 12 + 7)
   have f8_s := hat.free (i * 12 + 8)
   have f9_s := hat.free (i * 12 + 9)
   have f10_s := hat.free (i * 12 + 10)
   have f11_s := hat.free (i * 12 + 11)
   have CL := Sd.mk close
   clear hat close hM HR
   go_wp2_with fail
   with_reducible refine (markS_Value l[i].dP _ P2 _ _ ?hr_Slots kO (by rw [HC2.out]; omega)).mono ?_
   case hr_Slots => exact (dR (G := fun b => b = g) kC (fun b hb hg' => N2 (hg' ▸ hb)) HR2.out)
   rintro e w_Slots ⟨rfl, hR2, hu⟩
   rw [HC2.out]
   replace HR6 := Sd.mk (dR hu (fun b hb hg' => D2_6.out b hg' hb) (dR (G := fun b => b = g) kC (fun b hb hg' => N6 (hg' ▸ hb)) HR6.out))
   replace HR7 := Sd.mk (dR hu (fun b hb hg' => D2_7.out b hg' hb) (dR (G := fun b => b = g) kC (fun b hb hg' => N7 (hg' ▸ hb)) HR7.out))
   replace HR2 := Sd.mk hR2
   replace HAT := Sd.mk (((HAT.out.set0 kD (.int .i64 (q))).set 1 kD (.int .i64 ((q + 1)))).call hu I2.out hFg)
   clear hR2
   clear hu x0_s f0_s x1_s f1_s x2_s f2_s x3_s f3_s x4_s f4_s x5_s f5_s x6_s f6_s x7_s f7_s x8_s f8_s x9_s f9_s x10_s f10_s x11_s f11_s
   have x0_Slots := HAT.out.cell0 _ rfl
   have x1_Slots := HAT.out.cell 1 _ rfl
   have x2_Slots := HAT.out.cell 2 _ rfl
   have x3_Slots := HAT.out.cell 3 _ rfl
   have x4_Slots := HAT.out.cell 4 _ rfl
   have x5_Slots := HAT.out.cell 5 _ rfl
   have x6_Slots := HAT.out.cell 6 _ rfl
   have x7_Slots := HAT.out.cell 7 _ rfl
   have x8_Slots := HAT.out.cell 8 _ rfl
   have x9_Slots := HAT.out.cell 9 _ rfl
   have x10_Slots := HAT.out.cell 10 _ rfl
   have x11_Slots := HAT.out.cell 11 _ rfl
   have f0_Slots := HAT.out.free (i * 12)
   have f1_Slots := HAT.out.free (i * 12 + 1)
   have f2_Slots := HAT.out.free (i * 12 + 2)
   have f3_Slots := HAT.out.free (i * 12 + 3)
   have f4_Slots := HAT.out.free (i * 12 + 4)
   have f5_Slots := HAT.out.free (i * 12 + 5)
   have f6_Slots := HAT.out.free (i * 12 + 6)
   have f7_Slots := HAT.out.free (i * 12 + 7)
   have f8_Slots := HAT.out.free (i * 12 + 8)
   have f9_Slots := HAT.out.free (i * 12 + 9)
   have f10_Slots := HAT.out.free (i * 12 + 10)
   have f11_Slots := HAT.out.free (i * 12 + 11)
   go_wp2_with fail
   with_reducible refine (markS_Sent l[i].Queue _ P6 _ _ ?hr_Queue kO (by rw [HC6.out]; omega)).mono ?_
   case hr_Queue => exact (dR (G := fun b => b = g) kC (fun b hb hg' => N6 (hg' ▸ hb)) HR6.out)
   rintro e w_Queue ⟨rfl, hR6, hu⟩
   rw [HC6.out]
   replace HR2 := Sd.mk (dR hu (fun b hb hg' => D2_6.out b hb hg') (dR (G := fun b => b = g) kC (fun b hb hg' => N2 (hg' ▸ hb)) HR2.out))
   replace HR7 := Sd.mk (dR hu (fun b hb hg' => D6_7.out b hg' hb) (dR (G := fun b => b = g) kC (fun b hb hg' => N7 (hg' ▸ hb)) HR7.out))
   replace HR6 := Sd.mk hR6
   replace HAT := Sd.mk ((((HAT.out.set 3 kD (.int .i64 ((((q + 1) + 1) + cn2)))).set 4 kD (.int .i64 (((((q + 1) + 1) + cn2) + 1)))).set 5 kD (.int .i64 ((((((q + 1) + 1) + cn2) + 1) + 1)))).call hu I6.out hFg)
   clear hR6
   clear hu x0_Slots f0_Slots x1_Slots f1_Slots x2_Slots f2_Slots x3_Slots f3_Slots x4_Slots f4_Slots x5_Slots f5_Slots x6_Slots f6_Slots x7_Slots f7_Slots x8_Slots f8_Slots x9_Slots f9_Slots x10_Slots f10_Slots x11_Slots f11_Slots
   have x0_Queue := HAT.out.cell0 _ rfl
   have x1_Queue := HAT.out.cell 1 _ rfl
   have x2_Queue := HAT.out.cell 2 _ rfl
   have x3_Queue := HAT.out.cell 3 _ rfl
   have x4_Queue := HAT.out.cell 4 _ rfl
   have x5_Queue := HAT.out.cell 5 _ rfl
   have x6_Queue := HAT.out.cell 6 _ rfl
   have x7_Queue := HAT.out.cell 7 _ rfl
   have x8_Queue := HAT.out.cell 8 _ rfl
   have x9_Queue := HAT.out.cell 9 _ rfl
   have x10_Queue := HAT.out.cell 10 _ rfl
   have x11_Queue := HAT.out.cell 11 _ rfl
   have f0_Queue := HAT.out.free (i * 12)
   have f1_Queue := HAT.out.free (i * 12 + 1)
   have f2_Queue := HAT.out.free (i * 12 + 2)
   have f3_Queue := HAT.out.free (i * 12 + 3)
   have f4_Queue := HAT.out.free (i * 12 + 4)
   have f5_Queue := HAT.out.free (i * 12 + 5)
   have f6_Queue := HAT.out.free (i * 12 + 6)
   have f7_Queue := HAT.out.free (i * 12 + 7)
   have f8_Queue := HAT.out.free (i * 12 + 8)
   have f9_Queue := HAT.out.free (i * 12 + 9)
   have f10_Queue := HAT.out.free (i * 12 + 10)
   have f11_Queue := HAT.out.free (i * 12 + 11)
   go_wp2_with fail
   with_reducible refine (markS_Asker l[i].bS _ P7 _ _ ?hr_Askers kO (by rw [HC7.out]; omega)).mono ?_
   case hr_Askers => exact (dR (G := fun b => b = g) kC (fun b hb hg' => N7 (hg' ▸ hb)) HR7.out)
   rintro e w_Askers ⟨rfl, hR7, hu⟩
   rw [HC7.out]
   replace HR2 := Sd.mk (dR hu (fun b hb hg' => D2_7.out b hb hg') (dR (G := fun b => b = g) kC (fun b hb hg' => N2 (hg' ▸ hb)) HR2.out))
   replace HR6 := Sd.mk (dR hu (fun b hb hg' => D6_7.out b hb hg') (dR (G := fun b => b = g) kC (fun b hb hg' => N6 (hg' ▸ hb)) HR6.out))
   replace HR7 := Sd.mk hR7
   replace HAT := Sd.mk (HAT.out.call hu I7.out hFg)
   clear hR7
   clear hu x0_Queue f0_Queue x1_Queue f1_Queue x2_Queue f2_Queue x3_Queue f3_Queue x4_Queue f4_Queue x5_Queue f5_Queue x6_Queue f6_Queue x7_Queue f7_Queue x8_Queue f8_Queue x9_Queue f9_Queue x10_Queue f10_Queue x11_Queue f11_Queue
   have x0_Askers := HAT.out.cell0 _ rfl
   have x1_Askers := HAT.out.cell 1 _ rfl
   have x2_Askers := HAT.out.cell 2 _ rfl
   have x3_Askers := HAT.out.cell 3 _ rfl
   have x4_Askers := HAT.out.cell 4 _ rfl
   have x5_Askers := HAT.out.cell 5 _ rfl
   have x6_Askers := HAT.out.cell 6 _ rfl
   have x7_Askers := HAT.out.cell 7 _ rfl
   have x8_Askers := HAT.out.cell 8 _ rfl
   have x9_Askers := HAT.out.cell 9 _ rfl
   have x10_Askers := HAT.out.cell 10 _ rfl
   have x11_Askers := HAT.out.cell 11 _ rfl
   have f0_Askers := HAT.out.free (i * 12)
   have f1_Askers := HAT.out.free (i * 12 + 1)
   have f2_Askers := HAT.out.free (i * 12 + 2)
   have f3_Askers := HAT.out.free (i * 12 + 3)
   have f4_Askers := HAT.out.free (i * 12 + 4)
   have f5_Askers := HAT.out.free (i * 12 + 5)
   have f6_Askers := HAT.out.free (i * 12 + 6)
   have f7_Askers := HAT.out.free (i * 12 + 7)
   have f8_Askers := HAT.out.free (i * 12 + 8)
   have f9_Askers := HAT.out.free (i * 12 + 9)
   have f10_Askers := HAT.out.free (i * 12 + 10)
   have f11_Askers := HAT.out.free (i * 12 + 11)
   go_wp2
   have HA := ((((HAT.out.set 8 kD (.int .i64 (((((((((q + 1) + 1) + cn2) + 1) + 1) + 1) + cn6) + cn7)))).set 9 kD (.int .i64 ((((((((((q + 1) + 1) + cn2) + 1) + 1) + 1) + cn6) + cn7) + 1)))).set 10 kD (.int .i64 (((((((((((q + 1) + 1) + cn2) + 1) + 1) + 1) + cn6) + cn7) + 1) + 1)))).set 11 kD (.int .i64 ((((((((((((q + 1) + 1) + cn2) + 1) + 1) + 1) + cn6) + cn7) + 1) + 1) + 1))))
   have hy : (⟨q, (q + 1), mkS fZ bJ ((q + 1) + 1) l[i].dP, (((q + 1) + 1) + cn2), ⟨((((q + 1) + 1) + cn2) + 1), (((((q + 1) + 1) + cn2) + 1) + 1)⟩, mkS j3 dJ ((((((q + 1) + 1) + cn2) + 1) + 1) + 1) l[i].Queue, mkS kH dQ (((((((q + 1) + 1) + cn2) + 1) + 1) + 1) + cn6) l[i].bS, ((((((((q + 1) + 1) + cn2) + 1) + 1) + 1) + cn6) + cn7), (((((((((q + 1) + 1) + cn2) + 1) + 1) + 1) + cn6) + cn7) + 1), ((((((((((q + 1) + 1) + cn2) + 1) + 1) + 1) + cn6) + cn7) + 1) + 1), (((((((((((q + 1) + 1) + cn2) + 1) + 1) + 1) + cn6) + cn7) + 1) + 1) + 1)⟩ : GEntity) = (mkS jQ dN k l)[i]'(by rw [dM]; exact hlt) := by rw [HMA.out]; simp only [jQ, HC2.out, HC6.out, HC7.out]
   have HRowB := CL.out _ _ (⟨q, (q + 1), mkS fZ bJ ((q + 1) + 1) l[i].dP, (((q + 1) + 1) + cn2), ⟨((((q + 1) + 1) + cn2) + 1), (((((q + 1) + 1) + cn2) + 1) + 1)⟩, mkS j3 dJ ((((((q + 1) + 1) + cn2) + 1) + 1) + 1) l[i].Queue, mkS kH dQ (((((((q + 1) + 1) + cn2) + 1) + 1) + 1) + cn6) l[i].bS, ((((((((q + 1) + 1) + cn2) + 1) + 1) + 1) + cn6) + cn7), (((((((((q + 1) + 1) + cn2) + 1) + 1) + 1) + cn6) + cn7) + 1), ((((((((((q + 1) + 1) + cn2) + 1) + 1) + 1) + cn6) + cn7) + 1) + 1), (((((((((((q + 1) + 1) + cn2) + 1) + 1) + 1) + cn6) + cn7) + 1) + 1) + 1)⟩ : GEntity) Fi F HA (kE _ Fi (⟨q, (q + 1), mkS fZ bJ ((q + 1) + 1) l[i].dP, (((q + 1) + 1) + cn2), ⟨((((q + 1) + 1) + cn2) + 1), (((((q + 1) + 1) + cn2) + 1) + 1)⟩, mkS j3 dJ ((((((q + 1) + 1) + cn2) + 1) + 1) + 1) l[i].Queue, mkS kH dQ (((((((q + 1) + 1) + cn2) + 1) + 1) + 1) + cn6) l[i].bS, ((((((((q + 1) + 1) + cn2) + 1) + 1) + 1) + cn6) + cn7), (((((((((q + 1) + 1) + cn2) + 1) + 1) + 1) + cn6) + cn7) + 1), ((((((((((q + 1) + 1) + cn2) + 1) + 1) + 1) + cn6) + cn7) + 1) + 1), (((((((((((q + 1) + 1) + cn2) + 1) + 1) + 1) + cn6) + cn7) + 1) + 1) + 1)⟩ : GEntity) (dR (G := fun b => b = g) kC (fun b hb hg' => N2 (hg' ▸ hb)) HR2.out) (dR (G := fun b => b = g) kC (fun b hb hg' => N6 (hg' ▸ hb)) HR6.out) (dR (G := fun b => b = g) kC (fun b hb hg' => N7 (hg' ▸ hb)) HR7.out) I2.out I6.out I7.out D2_6.out D2_7.out D6_7.out) (fun _ hb => .inl hb) (fun _ hb => hb) hFi
   rw [hy, iC (dM _ _ _ _) hlt] at HRowB
   go_roundg (gk - 1)
   case measure => omega
   case rel => exact ⟨i + 1, by omega, by rw [HST.out]; simp only [dN]; have := HQ.out; have := HC2.out; have := HC6.out; have := HC7.out; exact congrArg (Value.int .i64) kO, by go_num, ⟨HRowB⟩, ⟨HU.out.trans HA.upd (fun _ _ hb => hb) (fun b _ hb => by rcases hb with rfl | hb; exact hg; exact hFi b hb)⟩⟩
  ·go_wp2
   go_ret
   have HRowB := HR.out
   rw [iA (dM _ _ _ _) kO] at HRowB
   have e : l.take i = l := List.take_of_length_le kO
   exact ⟨gJ (by rw [e]), HRowB, HU.out⟩
theorem heldS_Entity (l : List GEntity) (k : Int) (A : Option Addr) (c : Nat) (w : World) (h : C aJ w A (mkS jQ dN k l)) (hk : 0 ≤ k) (hb : k + bU dN l ≤ 4611686018427387904) : Calls Tryz.prog 111 #[.slice A l.length c, .int .i64 k] w (lQ (k + bU dN l) w) := by
 have hn := h.1
 rw [dM] at hn
 have H := Sd.mk h
 clear h
 go_enter Tryz.func111, Tryz.ntmps111
 go_wp2
 go_loopg [1, 5] l.length (fun r u v wr => ∃ i : Nat, i + r = l.length ∧ u = .int .i64 (k + bU dN (l.take i)) ∧ v = .int .i64 i ∧ Sd (Upd No w wr))
 case atStart => exact ⟨0, by omega, by simp [bU], rfl, ⟨Upd.refl _ _⟩⟩
 case round =>
  obtain ⟨i, hi, rfl, rfl, HU⟩ := hrel
  by_cases hlt : i < l.length
  ·have hle := fA dN jK l i
   have hst := gF dN l i hlt
   have hle2 := fA dN jK l (i + 1)
   rw [hst] at hle2
   have HST := Sd.mk hst
   clear hst
   obtain ⟨ad, A2, c2, A6, c6, A7, c7, rfl, a0, a1, a2, a3, a4, a5, a6, a7, a8, a9, a10, a11, hl2, hC2, hl6, hC6, hl7, hC7⟩ := ki_Entity_at (bK HU.out H.out) i (by rw [dM]; exact hlt)
   rw [jX jQ dN l k i hlt] at a0 a1 a2 a3 a4 a5 a6 a7 a8 a9 a10 a11 hl2 hC2 hl6 hC6 hl7 hC7
   simp only [jQ, dM] at a0 a1 a2 a3 a4 a5 a6 a7 a8 a9 a10 a11 hl2 hC2 hl6 hC6 hl7 hC7
   have nn2 := fE bJ gV l[i].dP
   have nn6 := fE dJ iU l[i].Queue
   have nn7 := fE dQ j4 l[i].bS
   simp only [dN] at hle2
   generalize hq : k + bU dN (l.take i) = q at *
   have HQ := Sd.mk hq
   have hq0 : 0 ≤ q := by omega
   have hqb : q + ((((((((((((0 + 1) + 1) + bU bJ l[i].dP) + 1) + 1) + 1) + bU dJ l[i].Queue) + bU dQ l[i].bS) + 1) + 1) + 1) + 1) ≤ 4611686018427387904 := by omega
   clear hq hle hle2 hb
   generalize hcn2 : bU bJ l[i].dP = cn2 at *
   have HN2 := Sd.mk hcn2
   clear hcn2
   have HC2 := Sd.mk hC2
   clear hC2
   generalize hcn6 : bU dJ l[i].Queue = cn6 at *
   have HN6 := Sd.mk hcn6
   clear hcn6
   have HC6 := Sd.mk hC6
   clear hC6
   generalize hcn7 : bU dQ l[i].bS = cn7 at *
   have HN7 := Sd.mk hcn7
   clear hcn7
   have HC7 := Sd.mk hC7
   clear hC7
   have HX := Sd.mk (Upd.refl No wr)
   go_wp2_with fail
   with_reducible refine (heldS_Value l[i].dP _ _ _ _ ?hc_Slots kO (by rw [HN2.out]; omega)).mono ?_
   case hc_Slots => exact HC2.out
   rintro e w_Slots ⟨rfl, hu⟩
   rw [HN2.out]
   replace a0 := hu.read a0
   replace a1 := hu.read a1
   replace a2 := hu.read a2
   replace a3 := hu.read a3
   replace a4 := hu.read a4
   replace a5 := hu.read a5
   replace a6 := hu.read a6
   replace a7 := hu.read a7
   replace a8 := hu.read a8
   replace a9 := hu.read a9
   replace a10 := hu.read a10
   replace a11 := hu.read a11
   replace HC2 := Sd.mk (bK hu HC2.out)
   replace HC6 := Sd.mk (bK hu HC6.out)
   replace HC7 := Sd.mk (bK hu HC7.out)
   replace HX := Sd.mk (HX.out.then hu)
   clear hu
   go_wp2_with fail
   with_reducible refine (heldS_Sent l[i].Queue _ _ _ _ ?hc_Queue kO (by rw [HN6.out]; omega)).mono ?_
   case hc_Queue => exact HC6.out
   rintro e w_Queue ⟨rfl, hu⟩
   rw [HN6.out]
   replace a0 := hu.read a0
   replace a1 := hu.read a1
   replace a2 := hu.read a2
   replace a3 := hu.read a3
   replace a4 := hu.read a4
   replace a5 := hu.read a5
   replace a6 := hu.read a6
   replace a7 := hu.read a7
   replace a8 := hu.read a8
   replace a9 := hu.read a9
   replace a10 := hu.read a10
   replace a11 := hu.read a11
   replace HC2 := Sd.mk (bK hu HC2.out)
   replace HC6 := Sd.mk (bK hu HC6.out)
   replace HC7 := Sd.mk (bK hu HC7.out)
   replace HX := Sd.mk (HX.out.then hu)
   clear hu
   go_wp2_with fail
   with_reducible refine (heldS_Asker l[i].bS _ _ _ _ ?hc_Askers kO (by rw [HN7.out]; omega)).mono ?_
   case hc_Askers => exact HC7.out
   rintro e w_Askers ⟨rfl, hu⟩
   rw [HN7.out]
   replace a0 := hu.read a0
   replace a1 := hu.read a1
   replace a2 := hu.read a2
   replace a3 := hu.read a3
   replace a4 := hu.read a4
   replace a5 := hu.read a5
   replace a6 := hu.read a6
   replace a7 := hu.read a7
   replace a8 := hu.read a8
   replace a9 := hu.read a9
   replace a10 := hu.read a10
   replace a11 := hu.read a11
   replace HC2 := Sd.mk (bK hu HC2.out)
   replace HC6 := Sd.mk (bK hu HC6.out)
   replace HC7 := Sd.mk (bK hu HC7.out)
   replace HX := Sd.mk (HX.out.then hu)
   clear hu
   go_wp2
   go_roundg (gk - 1)
   case measure => omega
   case rel => exact ⟨i + 1, by omega, by rw [HST.out]; simp only [dN]; have := HQ.out; have := HN2.out; have := HN6.out; have := HN7.out; exact congrArg (Value.int .i64) kO, by go_num, ⟨HU.out.then HX.out⟩⟩
  ·go_wp2
   go_ret
   have e : l.take i = l := List.take_of_length_le kO
   exact ⟨gJ (by rw [e]), HU.out⟩
theorem kl_Question_Kmk (w : World) (x : GQuestion) : fP.K w x [.int .i64 x.Id, .int .i64 x.Promise] := ⟨[_], [_], rfl, rfl, rfl⟩
theorem ki_Question_Kmk (w : World) (x : GQuestion) : aU.K w x [.int .i64 x.Id, .int .i64 x.Promise] := ⟨[_], [_], rfl, rfl, rfl⟩
theorem to_Question (x : GQuestion) (cs : List Value) (w : World) (h : fP.K w x cs) (hs : eT x ≤ 1048576) : Calls Tryz.prog 229 #[.agg cs.toArray] w (jJ aU x w) := by
 obtain rfl := kl_Question_K h
 clear hs
 go_enter Tryz.func229, Tryz.ntmps229
 go_wp2
 refine bodyPost_ret (v := .agg #[.int .i64 x.Id, .int .i64 x.Promise]) (by simp [results, Tryz.results229, go_sem]) rfl ⟨_, rfl, ?_, kA⟩
 exact mG _ _ _
theorem toS_Question (l : List GQuestion) (A : Option Addr) (c : Nat) (w : World) (h : C fP w A l) (hs : bN eT l ≤ 1048576) : Calls Tryz.prog 207 #[.slice A l.length c] w (lG aU 289 l w) := by
 have hn : l.length ≤ 1048576 := by unfold bN at hs; omega
 have hmk := mD (P := Tryz.prog) _ _ _ Tryz.underlying176 lD l.length hn kD
 have H := Sd.mk h
 have HS := Sd.mk hs
 clear h hs
 go_enter Tryz.func207, Tryz.ntmps207
 go_wp2
 clear hmk
 have HR : Sd (R aU 289 (w.alloc (iJ (.agg #[.int .i64 0, .int .i64 0]) (l.length * 2) 289)) (New w) (.slice (some ⟨w.heap.size, 0, none⟩) l.length l.length) (List.replicate l.length lY)) := Sd.mk (R_made (d := aU) (e := 289) w (.agg #[.int .i64 0, .int .i64 0]) lY rfl kD ki_Question_zero l.length hn)
 have HU := Sd.mk ((Upd.refl No w).alloc (iJ (.agg #[.int .i64 0, .int .i64 0]) (l.length * 2) 289))
 go_loopg [4] l.length (fun k v wr => ∃ i : Nat, i + k = l.length ∧ v = .int .i64 i ∧ Sd (R aU 289 wr (New w) (.slice (some ⟨w.heap.size, 0, none⟩) l.length l.length) (upTo l (List.replicate l.length lY) i)) ∧ Sd (Upd No w wr))
 case atStart => exact ⟨0, by omega, rfl, ⟨by rw [gK]; exact HR.out⟩, HU⟩
 case round =>
  clear HR HU
  obtain ⟨i, hi, rfl, HR, HU⟩ := hrel
  by_cases hlt : i < l.length
  ·obtain ⟨ad, rfl, a0, a1⟩ := kl_Question_at (bK HU.out H.out) i hlt
   have hsi : eT l[i] ≤ 1048576 := by have := HS.out; have := gT eT l i hlt; unfold bN at *; omega
   go_wp2_with fail
   with_reducible refine (to_Question l[i] _ _ (kl_Question_Kmk _ _) hsi).mono ?_
   rintro e w1 ⟨cs, rfl, hM, hu⟩
   obtain rfl := oJ hM
   have HRowA := dR hu (fun _ _ q => q) (R_lt HR.out)
   have HU1 := Sd.mk (HU.out.then hu)
   have hzw := HU.out.size
   clear HR HU hM hu
   obtain ⟨g, cap, cur, ce, Fi, hv, hcap, hat, hM, hg, hFi, hFg, close⟩ := kN HRowA 2 l.length rfl (by rw [iB (by simp) (by simp; omega)]; simp) i lY (by rw [iX (by simp) (by simpa using hlt)]; simp)
   cases hv
   obtain rfl := oJ hM
   have HAT := Sd.mk hat
   have x0 := hat.cell0 _ rfl
   have x1 := hat.cell 1 _ rfl
   have f0 := hat.free (i * 2)
   have f1 := hat.free (i * 2 + 1)
   have CL := Sd.mk close
   clear hat close hM HRowA
   go_wp2
   have HA := (HAT.out.set0 kD (.int .i64 l[i].Id)).set 1 kD (.int .i64 l[i].Promise)
   have HRowB := CL.out _ _ l[i] No (New w) HA (mG _ _ _) (fun _ q => q.elim) (fun _ q => q.1) (fun _ q => q.elim)
   rw [iC (by simp) (by simpa using hlt)] at HRowB
   go_roundg (gk - 1)
   case measure => omega
   case rel => exact ⟨i + 1, by omega, by go_num, ⟨HRowB⟩, ⟨by repeat (with_reducible first | exact HU1.out | apply Upd.dG)⟩⟩
  ·go_wp2
   go_ret
   have HRowB := HR.out
   rw [iA (by simp) (by simp; omega)] at HRowB
   exact ⟨_, rfl, HRowB, HU.out⟩
theorem szS_Question (l : List GQuestion) (A : Option Addr) (c : Nat) (n : Int) (w : World) (h : C fP w A l) (h0 : 0 ≤ n) (h1 : n ≤ 1048576) : Calls Tryz.prog 204 #[.slice A l.length c, .int .i64 n] w (RetSz (bN eT l) n w) := by
 have hn := h.1
 have H := Sd.mk h
 clear h
 go_enter Tryz.func204, Tryz.ntmps204
 by_cases q0 : (l.length : Int) ≤ n
 case neg =>
  go_wp2
  go_ret
  exact ⟨_, rfl, .inr ⟨by unfold bN; omega, rfl⟩, Upd.refl _ _⟩
 have hz : gX eT l = 0 := by
  clear q0 hn H
  induction l with
  | nil => rfl
  | cons x l ih => simp [gX, eT, ih]
 have HZ := Sd.mk hz
 clear hz
 go_wp2
 go_ret
 have hz := HZ.out
 exact ⟨_, rfl, .inl ⟨by unfold bN; omega, by unfold bN; omega⟩, Upd.refl _ _⟩
theorem eq_Question (x : GQuestion) (cs cs' : List Value) (w : World) (h : aU.K w x cs) (h' : aU.K w x cs') : Calls Tryz.prog 232 #[.agg cs.toArray, .agg cs'.toArray] w (eX true w) := by
 obtain rfl := mX h
 obtain rfl := mX h'
 go_enter Tryz.func232, Tryz.ntmps232
 go_wp2
 go_ret
 exact ⟨rfl, kA⟩
theorem eqS_Question (l : List GQuestion) (A A' : Option Addr) (c c' : Nat) (w : World) (h : C aU w A l) (h' : C aU w A' l) : Calls Tryz.prog 216 #[.slice A l.length c, .slice A' l.length c'] w (eX true w) := by
 have hn := h.1
 have H := Sd.mk h
 have H' := Sd.mk h'
 clear h h'
 go_enter Tryz.func216, Tryz.ntmps216
 go_wp2
 go_loopg [5] l.length (fun k v wr => ∃ i : Nat, i + k = l.length ∧ v = .int .i64 i ∧ Sd (Upd No w wr))
 case atStart => exact ⟨0, by omega, rfl, ⟨Upd.refl _ _⟩⟩
 case round =>
  obtain ⟨i, hi, rfl, HU⟩ := hrel
  by_cases hlt : i < l.length
  ·obtain ⟨ad, rfl, a0, a1⟩ := nQ (bK HU.out H.out) i hlt
   obtain ⟨ad', rfl, z0, z1⟩ := nQ (bK HU.out H'.out) i hlt
   go_wp2_with fail
   go_still_tail 8, kR
   change wpList _ _ _ _ _ wr.drew
   have HW : Sd (Upd No wr wr.drew) := ⟨(Upd.refl _ _).drew⟩
   have HU2 : Sd (Upd No w wr.drew) := ⟨HU.out.drew⟩
   generalize wr.drew = w2 at *
   go_wp2_with (go_at_call 232; (with_reducible refine (eq_Question l[i] _ _ _ (ki_Question_Kmk _ _) (ki_Question_Kmk _ _)).mono ?_); rintro e w' ⟨rfl, hu⟩)
   have HU3 := Sd.mk (HU2.out.then hu)
   clear HU2 hu
   go_wp2
   go_roundg (gk - 1)
   case measure => omega
   case rel => exact ⟨i + 1, by omega, by go_num, HU3⟩
  ·go_wp2
   go_ret
   exact ⟨rfl, HU.out⟩
theorem markS_Question (l : List GQuestion) (k : Int) (F : Nat → Prop) (v : Value) (w : World) (h : R aU 289 w F v l) (hk : 0 ≤ k) (hb : k + bU bH l ≤ 4611686018427387904) : Calls Tryz.prog 175 #[v, .int .i64 k] w (Marks aU 289 F v (k + bU bH l) (mkS fT bH k l) w) := by
 obtain ⟨A, c, rfl⟩ := dA h
 have hn := R_len h
 have H := Sd.mk h
 clear h
 go_enter Tryz.func175, Tryz.ntmps175
 go_wp2
 go_loopg [1, 5] l.length (fun r u v wr => ∃ i : Nat, i + r = l.length ∧ u = .int .i64 (k + bU bH (l.take i)) ∧ v = .int .i64 i ∧ Sd (R aU 289 wr F (.slice A l.length c) (upTo (mkS fT bH k l) l i)) ∧ Sd (Upd F w wr))
 case atStart => exact ⟨0, by omega, by simp [bU], rfl, ⟨by rw [gK]; exact H.out⟩, ⟨Upd.refl _ _⟩⟩
 case round =>
  obtain ⟨i, hi, rfl, rfl, HR, HU⟩ := hrel
  by_cases hlt : i < l.length
  ·have hle := fA bH gD l i
   have hst := gF bH l i hlt
   have hle2 := fA bH gD l (i + 1)
   rw [hst] at hle2
   have HST := Sd.mk hst
   clear hst
   have HMA := Sd.mk (jX fT bH l k i hlt)
   obtain ⟨g, cap, cur, ce, Fi, hv, hcap, hat, hM, hg, hFi, hFg, close⟩ := kN HR.out 2 l.length rfl (iB (dM _ _ _ _) kO) i l[i] (iX (dM _ _ _ _) hlt)
   cases hv
   obtain rfl := oJ hM
   have HCN : Sd (bH l[i] = bH l[i]) := ⟨rfl⟩
   simp only [bH] at hle2
   generalize hq : k + bU bH (l.take i) = q at *
   have HQ := Sd.mk hq
   have hq0 : 0 ≤ q := by omega
   have hqb : q + ((0 + 1) + 1) ≤ 4611686018427387904 := by omega
   clear hq hle hle2 hb
   have HAT := Sd.mk hat
   have x0_s := hat.cell0 _ rfl
   have x1_s := hat.cell 1 _ rfl
   have f0_s := hat.free (i * 2)
   have f1_s := hat.free (i * 2 + 1)
   have CL := Sd.mk close
   clear hat close hM HR
   go_wp2
   have HA := ((HAT.out.set0 kD (.int .i64 (q))).set 1 kD (.int .i64 ((q + 1))))
   have hy : (⟨q, (q + 1)⟩ : GQuestion) = (mkS fT bH k l)[i]'(by rw [dM]; exact hlt) := by rw [HMA.out]; simp only [fT]
   have HRowB := CL.out _ _ (⟨q, (q + 1)⟩ : GQuestion) Fi F HA (mG _ Fi (⟨q, (q + 1)⟩ : GQuestion)) (fun _ hb => .inl hb) (fun _ hb => hb) hFi
   rw [hy, iC (dM _ _ _ _) hlt] at HRowB
   go_roundg (gk - 1)
   case measure => omega
   case rel => exact ⟨i + 1, by omega, by rw [HST.out]; simp only [bH]; have := HQ.out; exact congrArg (Value.int .i64) kO, by go_num, ⟨HRowB⟩, ⟨HU.out.trans HA.upd (fun _ _ hb => hb) (fun b _ hb => by rcases hb with rfl | hb; exact hg; exact hFi b hb)⟩⟩
  ·go_wp2
   go_ret
   have HRowB := HR.out
   rw [iA (dM _ _ _ _) kO] at HRowB
   have e : l.take i = l := List.take_of_length_le kO
   exact ⟨gJ (by rw [e]), HRowB, HU.out⟩
theorem heldS_Question (l : List GQuestion) (k : Int) (A : Option Addr) (c : Nat) (w : World) (h : C aU w A (mkS fT bH k l)) (hk : 0 ≤ k) (hb : k + bU bH l ≤ 4611686018427387904) : Calls Tryz.prog 179 #[.slice A l.length c, .int .i64 k] w (lQ (k + bU bH l) w) := by
 have hn := h.1
 rw [dM] at hn
 have H := Sd.mk h
 clear h
 go_enter Tryz.func179, Tryz.ntmps179
 go_wp2
 go_loopg [1, 5] l.length (fun r u v wr => ∃ i : Nat, i + r = l.length ∧ u = .int .i64 (k + bU bH (l.take i)) ∧ v = .int .i64 i ∧ Sd (Upd No w wr))
 case atStart => exact ⟨0, by omega, by simp [bU], rfl, ⟨Upd.refl _ _⟩⟩
 case round =>
  obtain ⟨i, hi, rfl, rfl, HU⟩ := hrel
  by_cases hlt : i < l.length
  ·have hle := fA bH gD l i
   have hst := gF bH l i hlt
   have hle2 := fA bH gD l (i + 1)
   rw [hst] at hle2
   have HST := Sd.mk hst
   clear hst
   obtain ⟨ad, rfl, a0, a1⟩ := nQ (bK HU.out H.out) i (by rw [dM]; exact hlt)
   rw [jX fT bH l k i hlt] at a0 a1
   simp only [fT] at a0 a1
   simp only [bH] at hle2
   generalize hq : k + bU bH (l.take i) = q at *
   have HQ := Sd.mk hq
   have hq0 : 0 ≤ q := by omega
   have hqb : q + ((0 + 1) + 1) ≤ 4611686018427387904 := by omega
   clear hq hle hle2 hb
   have HX := Sd.mk (Upd.refl No wr)
   go_wp2
   go_roundg (gk - 1)
   case measure => omega
   case rel => exact ⟨i + 1, by omega, by rw [HST.out]; simp only [bH]; have := HQ.out; exact congrArg (Value.int .i64) kO, by go_num, ⟨HU.out.then HX.out⟩⟩
  ·go_wp2
   go_ret
   have e : l.take i = l := List.take_of_length_le kO
   exact ⟨gJ (by rw [e]), HU.out⟩
theorem kl_Link_Kmk (w : World) (x : GLink) {A2 : Option Addr} {c2 : Nat} (hl2 : x.aH.length ≤ c2) (hC2 : C jD w A2 x.aH) {A4 : Option Addr} {c4 : Nat} (hl4 : x.aI.length ≤ c4) (hC4 : C fP w A4 x.aI) {A6 : Option Addr} {c6 : Nat} (hl6 : x.aQ.length ≤ c6) (hC6 : C fP w A6 x.aQ) : mH.K w x [.int .i64 x.bT, .bool x.Up, .slice A2 x.aH.length c2, .int .i64 x.Next, .slice A4 x.aI.length c4, .int .i64 x.bZ, .slice A6 x.aQ.length c6] := ⟨[_], [_, _, _, _, _, _], rfl, rfl, ⟨[_], [_, _, _, _, _], rfl, rfl, ⟨[_], [_, _, _, _], rfl, ⟨A2, c2, rfl, hl2, hC2⟩, ⟨[_], [_, _, _], rfl, rfl, ⟨[_], [_, _], rfl, ⟨A4, c4, rfl, hl4, hC4⟩, ⟨[_], [_], rfl, rfl, ⟨A6, c6, rfl, hl6, hC6⟩⟩⟩⟩⟩⟩⟩
theorem jI (w : World) (x : GLink) {A2 : Option Addr} {c2 : Nat} (hl2 : x.aH.length ≤ c2) (hC2 : C bC w A2 x.aH) {A4 : Option Addr} {c4 : Nat} (hl4 : x.aI.length ≤ c4) (hC4 : C aU w A4 x.aI) {A6 : Option Addr} {c6 : Nat} (hl6 : x.aQ.length ≤ c6) (hC6 : C aU w A6 x.aQ) : aO.K w x [.int .i64 x.bT, .bool x.Up, .slice A2 x.aH.length c2, .int .i64 x.Next, .slice A4 x.aI.length c4, .int .i64 x.bZ, .slice A6 x.aQ.length c6] := ⟨[_], [_, _, _, _, _, _], rfl, rfl, ⟨[_], [_, _, _, _, _], rfl, rfl, ⟨[_], [_, _, _, _], rfl, ⟨A2, c2, rfl, hl2, hC2⟩, ⟨[_], [_, _, _], rfl, rfl, ⟨[_], [_, _], rfl, ⟨A4, c4, rfl, hl4, hC4⟩, ⟨[_], [_], rfl, rfl, ⟨A6, c6, rfl, hl6, hC6⟩⟩⟩⟩⟩⟩⟩
theorem to_Link (x : GLink) (cs : List Value) (w : World) (h : mH.K w x cs) (hs : bQ x ≤ 1048576) : Calls Tryz.prog 162 #[.agg cs.toArray] w (jJ aO x w) := by
 obtain ⟨A2, c2, A4, c4, A6, c6, rfl, hl2, hC2, hl4, hC4, hl6, hC6⟩ := kl_Link_K h
 have HC2 := Sd.mk hC2
 have HC4 := Sd.mk hC4
 have HC6 := Sd.mk hC6
 clear hC2 hC4 hC6
 have s_Exports : bN fK x.aH ≤ 1048576 := by unfold bQ at hs; omega
 have s_Questions : bN eT x.aI ≤ 1048576 := by unfold bQ at hs; omega
 have s_Answers : bN eT x.aQ ≤ 1048576 := by unfold bQ at hs; omega
 clear hs
 go_enter Tryz.func162, Tryz.ntmps162
 go_wp2_with fail
 with_reducible refine (toS_Export x.aH _ _ _ ?hc_Exports s_Exports).mono ?_
 case hc_Exports => exact bK kA HC2.out
 rintro e w_Exports ⟨v2, rfl, hR2, hu⟩
 obtain ⟨B2, b2, rfl⟩ := dA hR2
 obtain ⟨P2, hR2', g2, l2⟩ := iV hR2 (w.heap.size + 1 + 1 + 1) kB
 have ge2 : ∀ b, P2 b → w.heap.size + 1 + 1 < b := fun b hb => by have := g2 b hb; omega
 have n1_2 : ¬ P2 (w.heap.size + 1) := fun q => by have := ge2 _ q; omega
 have n2_2 : ¬ P2 (w.heap.size + 1 + 1) := fun q => by have := ge2 _ q; omega
 have HR2 := Sd.mk hR2'
 have GE2 := Sd.mk ge2
 have LT2 := Sd.mk l2
 have GP2 := Sd.mk g2
 clear hR2 hR2' ge2 l2 g2
 have HB_Exports : Sd (Upd No w w_Exports) := Sd.mk (Upd.then kA hu)
 have cc0_Exports := fun o => hu.bF (b := w.heap.size) kB (fun q => q) o
 have cc1_Exports := fun o => hu.bF (b := w.heap.size + 1) kB (fun q => q) o
 have cf1_Exports := fun o => hu.bV (b := w.heap.size + 1) kB (fun q => q) o
 have cc2_Exports := fun o => hu.bF (b := w.heap.size + 1 + 1) kB (fun q => q) o
 have cf2_Exports := fun o => hu.bV (b := w.heap.size + 1 + 1) kB (fun q => q) o
 have hz_Exports : w.heap.size + 1 + 1 + 1 ≤ w_Exports.heap.size := by have := hu.size; (try simp at this); omega
 clear hu
 go_wp2_with fail
 with_reducible refine (toS_Question x.aI _ _ _ ?hc_Questions s_Questions).mono ?_
 case hc_Questions => exact bK (by repeat (with_reducible first | exact HB_Exports.out | apply Upd.dL | apply Upd.dK | apply Upd.dG | apply Upd.alloc | apply Upd.drewN | apply Upd.drew)) HC4.out
 rintro e w_Questions ⟨v4, rfl, hR4, hu⟩
 obtain ⟨B4, b4, rfl⟩ := dA hR4
 obtain ⟨P4, hR4', g4, l4⟩ := iV hR4 (w_Exports.heap.size) kB
 have ge4 : ∀ b, P4 b → w.heap.size + 1 + 1 < b := fun b hb => by have := g4 b hb; have := hz_Exports; omega
 have n1_4 : ¬ P4 (w.heap.size + 1) := fun q => by have := ge4 _ q; omega
 have n2_4 : ¬ P4 (w.heap.size + 1 + 1) := fun q => by have := ge4 _ q; omega
 have HR4 := Sd.mk hR4'
 have GE4 := Sd.mk ge4
 have LT4 := Sd.mk l4
 have GP4 := Sd.mk g4
 clear hR4 hR4' ge4 l4 g4
 have HR2 := Sd.mk (dR hu (fun _ _ q => q) (fH HR2.out (by repeat (with_reducible first | exact Upd.refl _ _ | apply Upd.eZ n1_2 | apply Upd.eZ n2_2 | apply Upd.alloc))))
 have HB_Questions : Sd (Upd No w w_Questions) := Sd.mk (Upd.then (by repeat (with_reducible first | exact HB_Exports.out | apply Upd.dL | apply Upd.dK | apply Upd.dG | apply Upd.alloc | apply Upd.drewN | apply Upd.drew)) hu)
 have cc0_Questions := fun o => hu.bF (b := w.heap.size) kB (fun q => q) o
 have cc1_Questions := fun o => hu.bF (b := w.heap.size + 1) kB (fun q => q) o
 have cf1_Questions := fun o => hu.bV (b := w.heap.size + 1) kB (fun q => q) o
 have cc2_Questions := fun o => hu.bF (b := w.heap.size + 1 + 1) kB (fun q => q) o
 have cf2_Questions := fun o => hu.bV (b := w.heap.size + 1 + 1) kB (fun q => q) o
 have hz_Questions : w.heap.size + 1 + 1 + 1 ≤ w_Questions.heap.size := by have := hu.size; (try simp at this); omega
 have hm_Questions : w_Exports.heap.size ≤ w_Questions.heap.size := by have := hu.size; (try simp at this); omega
 clear hu
 go_wp2_with fail
 with_reducible refine (toS_Question x.aQ _ _ _ ?hc_Answers s_Answers).mono ?_
 case hc_Answers => exact bK (by repeat (with_reducible first | exact HB_Questions.out | apply Upd.dL | apply Upd.dK | apply Upd.dG | apply Upd.alloc | apply Upd.drewN | apply Upd.drew)) HC6.out
 rintro e w_Answers ⟨v6, rfl, hR6, hu⟩
 obtain ⟨B6, b6, rfl⟩ := dA hR6
 obtain ⟨P6, hR6', g6, l6⟩ := iV hR6 (w_Questions.heap.size) kB
 have ge6 : ∀ b, P6 b → w.heap.size + 1 + 1 < b := fun b hb => by have := g6 b hb; have := hz_Questions; omega
 have n1_6 : ¬ P6 (w.heap.size + 1) := fun q => by have := ge6 _ q; omega
 have n2_6 : ¬ P6 (w.heap.size + 1 + 1) := fun q => by have := ge6 _ q; omega
 have HR6 := Sd.mk hR6'
 have GE6 := Sd.mk ge6
 have LT6 := Sd.mk l6
 have GP6 := Sd.mk g6
 clear hR6 hR6' ge6 l6 g6
 have HR2 := Sd.mk (dR hu (fun _ _ q => q) (fH HR2.out (by repeat (with_reducible first | exact Upd.refl _ _ | apply Upd.eZ n1_2 | apply Upd.eZ n2_2 | apply Upd.alloc))))
 have HR4 := Sd.mk (dR hu (fun _ _ q => q) (fH HR4.out (by repeat (with_reducible first | exact Upd.refl _ _ | apply Upd.eZ n1_4 | apply Upd.eZ n2_4 | apply Upd.alloc))))
 have HB_Answers : Sd (Upd No w w_Answers) := Sd.mk (Upd.then (by repeat (with_reducible first | exact HB_Questions.out | apply Upd.dL | apply Upd.dK | apply Upd.dG | apply Upd.alloc | apply Upd.drewN | apply Upd.drew)) hu)
 have cc0_Answers := fun o => hu.bF (b := w.heap.size) kB (fun q => q) o
 have cc1_Answers := fun o => hu.bF (b := w.heap.size + 1) kB (fun q => q) o
 have cf1_Answers := fun o => hu.bV (b := w.heap.size + 1) kB (fun q => q) o
 have cc2_Answers := fun o => hu.bF (b := w.heap.size + 1 + 1) kB (fun q => q) o
 have cf2_Answers := fun o => hu.bV (b := w.heap.size + 1 + 1) kB (fun q => q) o
 have hz_Answers : w.heap.size + 1 + 1 + 1 ≤ w_Answers.heap.size := by have := hu.size; (try simp at this); omega
 have hm_Answers : w_Questions.heap.size ≤ w_Answers.heap.size := by have := hu.size; (try simp at this); omega
 clear hu
 go_wp2
 refine bodyPost_ret (v := .agg #[.int .i64 x.bT, .bool x.Up, .slice B2 x.aH.length b2, .int .i64 x.Next, .slice B4 x.aI.length b4, .int .i64 x.bZ, .slice B6 x.aQ.length b6]) (by simp [results, Tryz.results162, go_sem, cc1_Exports, cc1_Questions, cc1_Answers]) rfl ⟨_, rfl, ?_, (by repeat (with_reducible first | exact HB_Answers.out | apply Upd.dL | apply Upd.dK | apply Upd.dG | apply Upd.alloc | apply Upd.drewN | apply Upd.drew))⟩
 exact lU _ _ _ (fH HR2.out (by repeat (with_reducible first | exact Upd.refl _ _ | apply Upd.eZ n1_2 | apply Upd.eZ n2_2 | apply Upd.alloc))) (fH HR4.out (by repeat (with_reducible first | exact Upd.refl _ _ | apply Upd.eZ n1_4 | apply Upd.eZ n2_4 | apply Upd.alloc))) (fH HR6.out (by repeat (with_reducible first | exact Upd.refl _ _ | apply Upd.eZ n1_6 | apply Upd.eZ n2_6 | apply Upd.alloc))) (fun k hk => by have := GE2.out k hk; simp only [New]; omega) (fun k hk => by have := GE4.out k hk; simp only [New]; omega) (fun k hk => by have := GE6.out k hk; simp only [New]; omega) (fun k hk hk' => by have h1 := LT2.out k hk; have h2 := GP4.out k hk'; omega) (fun k hk hk' => by have h1 := LT2.out k hk; have h2 := GP6.out k hk'; have := hm_Questions; omega) (fun k hk hk' => by have h1 := LT4.out k hk; have h2 := GP6.out k hk'; omega)
theorem toS_Link (l : List GLink) (A : Option Addr) (c : Nat) (w : World) (h : C mH w A l) (hs : bN bQ l ≤ 1048576) : Calls Tryz.prog 95 #[.slice A l.length c] w (lG aO 178 l w) := by
 have hn : l.length ≤ 1048576 := by unfold bN at hs; omega
 have hmk := mD (P := Tryz.prog) _ _ _ Tryz.underlying65 ki_Link_info l.length hn kD
 have H := Sd.mk h
 have HS := Sd.mk hs
 clear h hs
 go_enter Tryz.func95, Tryz.ntmps95
 go_wp2
 clear hmk
 have HR : Sd (R aO 178 (w.alloc (iJ (.agg #[.int .i64 0, .bool false, .slice none 0 0, .int .i64 0, .slice none 0 0, .int .i64 0, .slice none 0 0]) (l.length * 7) 178)) (New w) (.slice (some ⟨w.heap.size, 0, none⟩) l.length l.length) (List.replicate l.length zLink)) := Sd.mk (R_made (d := aO) (e := 178) w (.agg #[.int .i64 0, .bool false, .slice none 0 0, .int .i64 0, .slice none 0 0, .int .i64 0, .slice none 0 0]) zLink rfl kD ki_Link_zero l.length hn)
 have HU := Sd.mk ((Upd.refl No w).alloc (iJ (.agg #[.int .i64 0, .bool false, .slice none 0 0, .int .i64 0, .slice none 0 0, .int .i64 0, .slice none 0 0]) (l.length * 7) 178))
 go_loopg [4] l.length (fun k v wr => ∃ i : Nat, i + k = l.length ∧ v = .int .i64 i ∧ Sd (R aO 178 wr (New w) (.slice (some ⟨w.heap.size, 0, none⟩) l.length l.length) (upTo l (List.replicate l.length zLink) i)) ∧ Sd (Upd No w wr))
 case atStart => exact ⟨0, by omega, rfl, ⟨by rw [gK]; exact HR.out⟩, HU⟩
 case round =>
  clear HR HU
  obtain ⟨i, hi, rfl, HR, HU⟩ := hrel
  by_cases hlt : i < l.length
  ·obtain ⟨ad, A2, c2, A4, c4, A6, c6, rfl, a0, a1, a2, a3, a4, a5, a6, hl2, hC2, hl4, hC4, hl6, hC6⟩ := kl_Link_at (bK HU.out H.out) i hlt
   have HC2 := Sd.mk hC2
   clear hC2
   have HC4 := Sd.mk hC4
   clear hC4
   have HC6 := Sd.mk hC6
   clear hC6
   have hsi : bQ l[i] ≤ 1048576 := by have := HS.out; have := gT bQ l i hlt; unfold bN at *; omega
   go_wp2_with fail
   with_reducible refine (to_Link l[i] _ _ (kl_Link_Kmk _ _ hl2 HC2.out hl4 HC4.out hl6 HC6.out) hsi).mono ?_
   rintro e w1 ⟨cs, rfl, hM, hu⟩
   obtain ⟨v2, P2, v4, P4, v6, P6, rfl, hR2, hR4, hR6, i2, i4, i6, d2_4, d2_6, d4_6⟩ := ki_Link_M (aO.M_lt hM)
   obtain ⟨D2, d2, rfl⟩ := dA hR2
   obtain ⟨D4, d4, rfl⟩ := dA hR4
   obtain ⟨D6, d6, rfl⟩ := dA hR6
   have HRowA := dR hu (fun _ _ q => q) (R_lt HR.out)
   have HU1 := Sd.mk (HU.out.then hu)
   have hzw := HU.out.size
   have HR2 := Sd.mk hR2
   have I2 := Sd.mk i2
   have HR4 := Sd.mk hR4
   have I4 := Sd.mk i4
   have HR6 := Sd.mk hR6
   have I6 := Sd.mk i6
   have D2_4 := Sd.mk d2_4
   have D2_6 := Sd.mk d2_6
   have D4_6 := Sd.mk d4_6
   clear HR HU hM hu hR2 i2 hR4 i4 hR6 i6 d2_4 d2_6 d4_6
   obtain ⟨g, cap, cur, ce, Fi, hv, hcap, hat, hM, hg, hFi, hFg, close⟩ := kN HRowA 7 l.length rfl (by rw [iB (by simp) (by simp; omega)]; simp) i zLink (by rw [iX (by simp) (by simpa using hlt)]; simp)
   cases hv
   obtain ⟨y2, _, y4, _, y6, _, rfl, -⟩ := ki_Link_M hM
   have HAT := Sd.mk hat
   have x0 := hat.cell0 _ rfl
   have x1 := hat.cell 1 _ rfl
   have x2 := hat.cell 2 _ rfl
   have x3 := hat.cell 3 _ rfl
   have x4 := hat.cell 4 _ rfl
   have x5 := hat.cell 5 _ rfl
   have x6 := hat.cell 6 _ rfl
   have f0 := hat.free (i * 7)
   have f1 := hat.free (i * 7 + 1)
   have f2 := hat.free (i * 7 + 2)
   have f3 := hat.free (i * 7 + 3)
   have f4 := hat.free (i * 7 + 4)
   have f5 := hat.free (i * 7 + 5)
   have f6 := hat.free (i * 7 + 6)
   have CL := Sd.mk close
   clear hat close hM HRowA
   go_wp2
   have HA := ((((((HAT.out.set0 kD (.int .i64 l[i].bT)).set 1 kD (.bool l[i].Up)).set 2 kD (.slice D2 l[i].aH.length d2)).set 3 kD (.int .i64 l[i].Next)).set 4 kD (.slice D4 l[i].aI.length d4)).set 5 kD (.int .i64 l[i].bZ)).set 6 kD (.slice D6 l[i].aQ.length d6)
   have hD2 : ∀ b, P2 b → ¬ (b = w.heap.size ∨ Fi b) := by
    intro b hb q
    have h1 := (I2.out b hb).1
    simp only [New] at h1
    rcases q with rfl | q
    ·exact absurd hg.2 kO
    ·have h2 := (hFi b q).2
     omega
   have hD4 : ∀ b, P4 b → ¬ (b = w.heap.size ∨ Fi b) := by
    intro b hb q
    have h1 := (I4.out b hb).1
    simp only [New] at h1
    rcases q with rfl | q
    ·exact absurd hg.2 kO
    ·have h2 := (hFi b q).2
     omega
   have hD6 : ∀ b, P6 b → ¬ (b = w.heap.size ∨ Fi b) := by
    intro b hb q
    have h1 := (I6.out b hb).1
    simp only [New] at h1
    rcases q with rfl | q
    ·exact absurd hg.2 kO
    ·have h2 := (hFi b q).2
     omega
   have HM := lU _ (fun b => P2 b ∨ P4 b ∨ P6 b) l[i] (dR HA.upd hD2 HR2.out) (dR HA.upd hD4 HR4.out) (dR HA.upd hD6 HR6.out) (fun k hk => Or.inl hk) (fun k hk => Or.inr (Or.inl hk)) (fun k hk => Or.inr (Or.inr (hk))) D2_4.out D2_6.out D4_6.out
   have hP1 : ∀ b, (P2 b ∨ P4 b ∨ P6 b) → New wr b := by
    intro b hb
    rcases hb with hb | hb | hb
    ·exact (I2.out b hb).1
    ·exact (I4.out b hb).1
    ·exact (I6.out b hb).1
   have HRowB := CL.out _ _ l[i] _ (New w) HA HM (fun b hb => .inr (fun q => by have h1 := hP1 b hb; have h2 := q.2; simp only [New] at h1; omega)) (fun _ q => q.1) (fun b hb => by have h1 := hP1 b hb; simp only [New] at h1 ⊢; omega)
   rw [iC (by simp) (by simpa using hlt)] at HRowB
   go_roundg (gk - 1)
   case measure => omega
   case rel => exact ⟨i + 1, by omega, by go_num, ⟨HRowB⟩, ⟨by repeat (with_reducible first | exact HU1.out | apply Upd.dG)⟩⟩
  ·go_wp2
   go_ret
   have HRowB := HR.out
   rw [iA (by simp) (by simp; omega)] at HRowB
   exact ⟨_, rfl, HRowB, HU.out⟩
theorem sz_Link (x : GLink) (cs : List Value) (n : Int) (w : World) (h : mH.K w x cs) (h0 : 0 ≤ n) (h1 : n ≤ 1048576) : Calls Tryz.prog 155 #[.agg cs.toArray, .int .i64 n] w (RetSz (bQ x) n w) := by
 obtain ⟨A2, c2, A4, c4, A6, c6, rfl, hl2, hC2, hl4, hC4, hl6, hC6⟩ := kl_Link_K h
 have HC2 := Sd.mk hC2
 have HC4 := Sd.mk hC4
 have HC6 := Sd.mk hC6
 clear hC2 hC4 hC6
 go_enter Tryz.func155, Tryz.ntmps155
 go_wp2_with fail
 with_reducible refine (szS_Export x.aH _ _ _ _ ?hc_Exports kO kO).mono ?_
 case hc_Exports => exact bK kA HC2.out
 rintro e w_Exports ⟨r_Exports, rfl, hr_Exports, hu⟩
 have HB_Exports : Sd (Upd No w w_Exports) := Sd.mk (Upd.then kA hu)
 have cc0_Exports := fun o => hu.bF (b := w.heap.size) kB (fun q => q) o
 have hz_Exports : w.heap.size + 1 ≤ w_Exports.heap.size := by have := hu.size; (try simp at this); omega
 clear hu
 rcases hr_Exports with ⟨q_Exports, rfl⟩ | ⟨q_Exports, rfl⟩
 case inr =>
  go_wp2
  go_ret
  exact ⟨_, rfl, .inr ⟨by unfold bQ; omega, rfl⟩, (by repeat (with_reducible first | exact HB_Exports.out | apply Upd.dL | apply Upd.dK | apply Upd.dG | apply Upd.alloc | apply Upd.drewN | apply Upd.drew))⟩
 go_wp2_with fail
 with_reducible refine (szS_Question x.aI _ _ _ _ ?hc_Questions kO kO).mono ?_
 case hc_Questions => exact bK (by repeat (with_reducible first | exact HB_Exports.out | apply Upd.dL | apply Upd.dK | apply Upd.dG | apply Upd.alloc | apply Upd.drewN | apply Upd.drew)) HC4.out
 rintro e w_Questions ⟨r_Questions, rfl, hr_Questions, hu⟩
 have HB_Questions : Sd (Upd No w w_Questions) := Sd.mk (Upd.then (by repeat (with_reducible first | exact HB_Exports.out | apply Upd.dL | apply Upd.dK | apply Upd.dG | apply Upd.alloc | apply Upd.drewN | apply Upd.drew)) hu)
 have cc0_Questions := fun o => hu.bF (b := w.heap.size) kB (fun q => q) o
 have hz_Questions : w.heap.size + 1 ≤ w_Questions.heap.size := by have := hu.size; (try simp at this); omega
 clear hu
 rcases hr_Questions with ⟨q_Questions, rfl⟩ | ⟨q_Questions, rfl⟩
 case inr =>
  go_wp2
  go_ret
  exact ⟨_, rfl, .inr ⟨by unfold bQ; omega, rfl⟩, (by repeat (with_reducible first | exact HB_Questions.out | apply Upd.dL | apply Upd.dK | apply Upd.dG | apply Upd.alloc | apply Upd.drewN | apply Upd.drew))⟩
 go_wp2_with fail
 with_reducible refine (szS_Question x.aQ _ _ _ _ ?hc_Answers kO kO).mono ?_
 case hc_Answers => exact bK (by repeat (with_reducible first | exact HB_Questions.out | apply Upd.dL | apply Upd.dK | apply Upd.dG | apply Upd.alloc | apply Upd.drewN | apply Upd.drew)) HC6.out
 rintro e w_Answers ⟨r_Answers, rfl, hr_Answers, hu⟩
 have HB_Answers : Sd (Upd No w w_Answers) := Sd.mk (Upd.then (by repeat (with_reducible first | exact HB_Questions.out | apply Upd.dL | apply Upd.dK | apply Upd.dG | apply Upd.alloc | apply Upd.drewN | apply Upd.drew)) hu)
 have cc0_Answers := fun o => hu.bF (b := w.heap.size) kB (fun q => q) o
 have hz_Answers : w.heap.size + 1 ≤ w_Answers.heap.size := by have := hu.size; (try simp at this); omega
 clear hu
 rcases hr_Answers with ⟨q_Answers, rfl⟩ | ⟨q_Answers, rfl⟩
 case inr =>
  go_wp2
  go_ret
  exact ⟨_, rfl, .inr ⟨by unfold bQ; omega, rfl⟩, (by repeat (with_reducible first | exact HB_Answers.out | apply Upd.dL | apply Upd.dK | apply Upd.dG | apply Upd.alloc | apply Upd.drewN | apply Upd.drew))⟩
 go_wp2
 go_ret
 exact ⟨_, rfl, .inl ⟨by unfold bQ; omega, by unfold bQ; omega⟩, (by repeat (with_reducible first | exact HB_Answers.out | apply Upd.dL | apply Upd.dK | apply Upd.dG | apply Upd.alloc | apply Upd.drewN | apply Upd.drew))⟩
theorem szS_Link (l : List GLink) (A : Option Addr) (c : Nat) (n : Int) (w : World) (h : C mH w A l) (h0 : 0 ≤ n) (h1 : n ≤ 1048576) : Calls Tryz.prog 87 #[.slice A l.length c, .int .i64 n] w (RetSz (bN bQ l) n w) := by
 have hn := h.1
 have H := Sd.mk h
 clear h
 go_enter Tryz.func87, Tryz.ntmps87
 by_cases q0 : (l.length : Int) ≤ n
 case neg =>
  go_wp2
  go_ret
  exact ⟨_, rfl, .inr ⟨by unfold bN; omega, rfl⟩, Upd.refl _ _⟩
 go_wp2
 go_loopg [1, 5] l.length (fun k u v wr => ∃ i : Nat, i + k = l.length ∧ (gX bQ (l.take i) : Int) ≤ n - l.length ∧ u = .int .i64 (n - l.length - gX bQ (l.take i)) ∧ v = .int .i64 i ∧ Sd (Upd No w wr))
 case atStart => exact ⟨0, by omega, by simp [gX]; omega, by simp [gX], rfl, ⟨Upd.refl _ _⟩⟩
 case round =>
  obtain ⟨i, hi, hle, rfl, rfl, HU⟩ := hrel
  by_cases hlt : i < l.length
  ·obtain ⟨ad, A2, c2, A4, c4, A6, c6, rfl, a0, a1, a2, a3, a4, a5, a6, hl2, hC2, hl4, hC4, hl6, hC6⟩ := kl_Link_at (bK HU.out H.out) i hlt
   have HC2 := Sd.mk hC2
   clear hC2
   have HC4 := Sd.mk hC4
   clear hC4
   have HC6 := Sd.mk hC6
   clear hC6
   have hst := sumS_step bQ l i hlt
   have HST := Sd.mk (mO bQ l i hlt)
   generalize hs : gX bQ (l.take i) = s at *
   have HS := Sd.mk hs
   clear hs
   go_wp2_with fail
   with_reducible refine (sz_Link l[i] _ _ _ (kl_Link_Kmk _ _ hl2 HC2.out hl4 HC4.out hl6 HC6.out) kO kO).mono ?_
   rintro e w1 ⟨r, rfl, hr, hu⟩
   have HU1 := Sd.mk (HU.out.then hu)
   clear hu HU
   rcases hr with ⟨q, rfl⟩ | ⟨q, rfl⟩
   ·go_wp2
    go_roundg (gk - 1)
    case measure => omega
    case rel => exact ⟨i + 1, by omega, by rw [HST.out]; omega, by rw [HST.out]; exact congrArg (Value.int .i64) kO, by go_num, HU1⟩
   ·go_wp2
    go_ret
    exact ⟨_, rfl, .inr ⟨by unfold bN; omega, rfl⟩, HU1.out⟩
  ·go_wp2
   go_ret
   have e : l.take i = l := List.take_of_length_le kO
   rw [e] at hle
   exact ⟨_, rfl, .inl ⟨by unfold bN; omega, by rw [e]; unfold bN; omega⟩, HU.out⟩
theorem eq_Link (x : GLink) (cs cs' : List Value) (w : World) (h : aO.K w x cs) (h' : aO.K w x cs') : Calls Tryz.prog 171 #[.agg cs.toArray, .agg cs'.toArray] w (eX true w) := by
 obtain ⟨A2, c2, A4, c4, A6, c6, rfl, hl2, hC2, hl4, hC4, hl6, hC6⟩ := kL h
 have HC2 := Sd.mk hC2
 have HC4 := Sd.mk hC4
 have HC6 := Sd.mk hC6
 clear hC2 hC4 hC6
 obtain ⟨B2, b2, B4, b4, B6, b6, rfl, hm2, hD2, hm4, hD4, hm6, hD6⟩ := kL h'
 have HD2 := Sd.mk hD2
 have HD4 := Sd.mk hD4
 have HD6 := Sd.mk hD6
 clear hD2 hD4 hD6
 go_enter Tryz.func171, Tryz.ntmps171
 go_wp2_with fail
 with_reducible refine (eqS_Export x.aH _ _ _ _ _ ?hc_Exports ?hd_Exports).mono ?_
 case hc_Exports => exact bK kA HC2.out
 case hd_Exports => exact bK kA HD2.out
 rintro e w_Exports ⟨rfl, hu⟩
 have HB_Exports : Sd (Upd No w w_Exports) := Sd.mk (Upd.then kA hu)
 have cc0_Exports := fun o => hu.bF (b := w.heap.size) kB (fun q => q) o
 have cc1_Exports := fun o => hu.bF (b := w.heap.size + 1) kB (fun q => q) o
 have hz_Exports : w.heap.size + 1 + 1 ≤ w_Exports.heap.size := by have := hu.size; (try simp at this); omega
 clear hu
 go_wp2_with fail
 with_reducible refine (eqS_Question x.aI _ _ _ _ _ ?hc_Questions ?hd_Questions).mono ?_
 case hc_Questions => exact bK (by repeat (with_reducible first | exact HB_Exports.out | apply Upd.dL | apply Upd.dK | apply Upd.dG | apply Upd.alloc | apply Upd.drewN | apply Upd.drew)) HC4.out
 case hd_Questions => exact bK (by repeat (with_reducible first | exact HB_Exports.out | apply Upd.dL | apply Upd.dK | apply Upd.dG | apply Upd.alloc | apply Upd.drewN | apply Upd.drew)) HD4.out
 rintro e w_Questions ⟨rfl, hu⟩
 have HB_Questions : Sd (Upd No w w_Questions) := Sd.mk (Upd.then (by repeat (with_reducible first | exact HB_Exports.out | apply Upd.dL | apply Upd.dK | apply Upd.dG | apply Upd.alloc | apply Upd.drewN | apply Upd.drew)) hu)
 have cc0_Questions := fun o => hu.bF (b := w.heap.size) kB (fun q => q) o
 have cc1_Questions := fun o => hu.bF (b := w.heap.size + 1) kB (fun q => q) o
 have hz_Questions : w.heap.size + 1 + 1 ≤ w_Questions.heap.size := by have := hu.size; (try simp at this); omega
 clear hu
 go_wp2_with fail
 with_reducible refine (eqS_Question x.aQ _ _ _ _ _ ?hc_Answers ?hd_Answers).mono ?_
 case hc_Answers => exact bK (by repeat (with_reducible first | exact HB_Questions.out | apply Upd.dL | apply Upd.dK | apply Upd.dG | apply Upd.alloc | apply Upd.drewN | apply Upd.drew)) HC6.out
 case hd_Answers => exact bK (by repeat (with_reducible first | exact HB_Questions.out | apply Upd.dL | apply Upd.dK | apply Upd.dG | apply Upd.alloc | apply Upd.drewN | apply Upd.drew)) HD6.out
 rintro e w_Answers ⟨rfl, hu⟩
 have HB_Answers : Sd (Upd No w w_Answers) := Sd.mk (Upd.then (by repeat (with_reducible first | exact HB_Questions.out | apply Upd.dL | apply Upd.dK | apply Upd.dG | apply Upd.alloc | apply Upd.drewN | apply Upd.drew)) hu)
 have cc0_Answers := fun o => hu.bF (b := w.heap.size) kB (fun q => q) o
 have cc1_Answers := fun o => hu.bF (b := w.heap.size + 1) kB (fun q => q) o
 have hz_Answers : w.heap.size + 1 + 1 ≤ w_Answers.heap.size := by have := hu.size; (try simp at this); omega
 clear hu
 go_wp2
 go_ret
 exact ⟨rfl, (by repeat (with_reducible first | exact HB_Answers.out | apply Upd.dL | apply Upd.dK | apply Upd.dG | apply Upd.alloc | apply Upd.drewN | apply Upd.drew))⟩
theorem eqS_Link (l : List GLink) (A A' : Option Addr) (c c' : Nat) (w : World) (h : C aO w A l) (h' : C aO w A' l) : Calls Tryz.prog 104 #[.slice A l.length c, .slice A' l.length c'] w (eX true w) := by
 have hn := h.1
 have H := Sd.mk h
 have H' := Sd.mk h'
 clear h h'
 go_enter Tryz.func104, Tryz.ntmps104
 go_wp2
 go_loopg [5] l.length (fun k v wr => ∃ i : Nat, i + k = l.length ∧ v = .int .i64 i ∧ Sd (Upd No w wr))
 case atStart => exact ⟨0, by omega, rfl, ⟨Upd.refl _ _⟩⟩
 case round =>
  obtain ⟨i, hi, rfl, HU⟩ := hrel
  by_cases hlt : i < l.length
  ·obtain ⟨ad, A2, c2, A4, c4, A6, c6, rfl, a0, a1, a2, a3, a4, a5, a6, hl2, hC2, hl4, hC4, hl6, hC6⟩ := nR (bK HU.out H.out) i hlt
   obtain ⟨ad', B2, b2, B4, b4, B6, b6, rfl, z0, z1, z2, z3, z4, z5, z6, hm2, hD2, hm4, hD4, hm6, hD6⟩ := nR (bK HU.out H'.out) i hlt
   have HC2 := Sd.mk hC2
   have HD2 := Sd.mk hD2
   clear hC2 hD2
   have HC4 := Sd.mk hC4
   have HD4 := Sd.mk hD4
   clear hC4 hD4
   have HC6 := Sd.mk hC6
   have HD6 := Sd.mk hD6
   clear hC6 hD6
   go_wp2_with fail
   go_still_tail 8, kR
   change wpList _ _ _ _ _ wr.drew
   have HW : Sd (Upd No wr wr.drew) := ⟨(Upd.refl _ _).drew⟩
   have HU2 : Sd (Upd No w wr.drew) := ⟨HU.out.drew⟩
   generalize wr.drew = w2 at *
   go_wp2_with (go_at_call 171; (with_reducible refine (eq_Link l[i] _ _ _ (jI _ _ hl2 (bK HW.out HC2.out) hl4 (bK HW.out HC4.out) hl6 (bK HW.out HC6.out)) (jI _ _ hm2 (bK HW.out HD2.out) hm4 (bK HW.out HD4.out) hm6 (bK HW.out HD6.out))).mono ?_); rintro e w' ⟨rfl, hu⟩)
   have HU3 := Sd.mk (HU2.out.then hu)
   clear HU2 hu
   go_wp2
   go_roundg (gk - 1)
   case measure => omega
   case rel => exact ⟨i + 1, by omega, by go_num, HU3⟩
  ·go_wp2
   go_ret
   exact ⟨rfl, HU.out⟩
theorem markS_Link (l : List GLink) (k : Int) (F : Nat → Prop) (v : Value) (w : World) (h : R aO 178 w F v l) (hk : 0 ≤ k) (hb : k + bU dZ l ≤ 4611686018427387904) : Calls Tryz.prog 109 #[v, .int .i64 k] w (Marks aO 178 F v (k + bU dZ l) (mkS mF dZ k l) w) := by
 obtain ⟨A, c, rfl⟩ := dA h
 have hn := R_len h
 have H := Sd.mk h
 clear h
 go_enter Tryz.func109, Tryz.ntmps109
 go_wp2
 go_loopg [1, 5] l.length (fun r u v wr => ∃ i : Nat, i + r = l.length ∧ u = .int .i64 (k + bU dZ (l.take i)) ∧ v = .int .i64 i ∧ Sd (R aO 178 wr F (.slice A l.length c) (upTo (mkS mF dZ k l) l i)) ∧ Sd (Upd F w wr))
 case atStart => exact ⟨0, by omega, by simp [bU], rfl, ⟨by rw [gK]; exact H.out⟩, ⟨Upd.refl _ _⟩⟩
 case round =>
  obtain ⟨i, hi, rfl, rfl, HR, HU⟩ := hrel
  by_cases hlt : i < l.length
  ·have hle := fA dZ kW l i
   have hst := gF dZ l i hlt
   have hle2 := fA dZ kW l (i + 1)
   rw [hst] at hle2
   have HST := Sd.mk hst
   clear hst
   have HMA := Sd.mk (jX mF dZ l k i hlt)
   obtain ⟨g, cap, cur, ce, Fi, hv, hcap, hat, hM, hg, hFi, hFg, close⟩ := kN HR.out 7 l.length rfl (iB (dM _ _ _ _) kO) i l[i] (iX (dM _ _ _ _) hlt)
   cases hv
   obtain ⟨v2, P2, v4, P4, v6, P6, rfl, hR2, hR4, hR6, i2, i4, i6, d2_4, d2_6, d4_6⟩ := ki_Link_M hM
   obtain ⟨B2, b2, rfl⟩ := dA hR2
   have HR2 := Sd.mk hR2
   have I2 := Sd.mk i2
   have N2 : ¬ P2 g := fun q => hFg (i2 g q)
   clear hR2 i2
   have nn2 := fE dF jL l[i].aH
   obtain ⟨B4, b4, rfl⟩ := dA hR4
   have HR4 := Sd.mk hR4
   have I4 := Sd.mk i4
   have N4 : ¬ P4 g := fun q => hFg (i4 g q)
   clear hR4 i4
   have nn4 := fE bH gD l[i].aI
   obtain ⟨B6, b6, rfl⟩ := dA hR6
   have HR6 := Sd.mk hR6
   have I6 := Sd.mk i6
   have N6 : ¬ P6 g := fun q => hFg (i6 g q)
   clear hR6 i6
   have nn6 := fE bH gD l[i].aQ
   have D2_4 := Sd.mk d2_4
   clear d2_4
   have D2_6 := Sd.mk d2_6
   clear d2_6
   have D4_6 := Sd.mk d4_6
   clear d4_6
   have HCN : Sd (dZ l[i] = dZ l[i]) := ⟨rfl⟩
   simp only [dZ] at hle2
   generalize hq : k + bU dZ (l.take i) = q at *
   have HQ := Sd.mk hq
   have hq0 : 0 ≤ q := by omega
   have hqb : q + (((((((0 + 1) + 1) + bU dF l[i].aH) + 1) + bU bH l[i].aI) + 1) + bU bH l[i].aQ) ≤ 4611686018427387904 := by omega
   clear hq hle hle2 hb
   generalize hcn2 : bU dF l[i].aH = cn2 at *
   have HC2 := Sd.mk hcn2
   clear hcn2
   generalize hcn4 : bU bH l[i].aI = cn4 at *
   have HC4 := Sd.mk hcn4
   clear hcn4
   generalize hcn6 : bU bH l[i].aQ = cn6 at *
   have HC6 := Sd.mk hcn6
   clear hcn6
   have HAT := Sd.mk hat
   have x0_s := hat.cell0 _ rfl
   have x1_s := hat.cell 1 _ rfl
   have x2_s := hat.cell 2 _ rfl
   have x3_s := hat.cell 3 _ rfl
   have x4_s := hat.cell 4 _ rfl
   have x5_s := hat.cell 5 _ rfl
   have x6_s := hat.cell 6 _ rfl
   have f0_s := hat.free (i * 7)
   have f1_s := hat.free (i * 7 + 1)
   have f2_s := hat.free (i * 7 + 2)
   have f3_s := hat.free (i * 7 + 3)
   have f4_s := hat.free (i * 7 + 4)
   have f5_s := hat.free (i * 7 + 5)
   have f6_s := hat.free (i * 7 + 6)
   have CL := Sd.mk close
   clear hat close hM HR
   go_wp2_with fail
   with_reducible refine (markS_Export l[i].aH _ P2 _ _ ?hr_Exports kO (by rw [HC2.out]; omega)).mono ?_
   case hr_Exports => exact (dR (G := fun b => b = g) kC (fun b hb hg' => N2 (hg' ▸ hb)) HR2.out)
   rintro e w_Exports ⟨rfl, hR2, hu⟩
   rw [HC2.out]
   replace HR4 := Sd.mk (dR hu (fun b hb hg' => D2_4.out b hg' hb) (dR (G := fun b => b = g) kC (fun b hb hg' => N4 (hg' ▸ hb)) HR4.out))
   replace HR6 := Sd.mk (dR hu (fun b hb hg' => D2_6.out b hg' hb) (dR (G := fun b => b = g) kC (fun b hb hg' => N6 (hg' ▸ hb)) HR6.out))
   replace HR2 := Sd.mk hR2
   replace HAT := Sd.mk (((HAT.out.set0 kD (.int .i64 (q))).set 1 kD (.bool ((q + 1) % 3 == 0))).call hu I2.out hFg)
   clear hR2
   clear hu x0_s f0_s x1_s f1_s x2_s f2_s x3_s f3_s x4_s f4_s x5_s f5_s x6_s f6_s
   have x0_Exports := HAT.out.cell0 _ rfl
   have x1_Exports := HAT.out.cell 1 _ rfl
   have x2_Exports := HAT.out.cell 2 _ rfl
   have x3_Exports := HAT.out.cell 3 _ rfl
   have x4_Exports := HAT.out.cell 4 _ rfl
   have x5_Exports := HAT.out.cell 5 _ rfl
   have x6_Exports := HAT.out.cell 6 _ rfl
   have f0_Exports := HAT.out.free (i * 7)
   have f1_Exports := HAT.out.free (i * 7 + 1)
   have f2_Exports := HAT.out.free (i * 7 + 2)
   have f3_Exports := HAT.out.free (i * 7 + 3)
   have f4_Exports := HAT.out.free (i * 7 + 4)
   have f5_Exports := HAT.out.free (i * 7 + 5)
   have f6_Exports := HAT.out.free (i * 7 + 6)
   go_wp2_with fail
   with_reducible refine (markS_Question l[i].aI _ P4 _ _ ?hr_Questions kO (by rw [HC4.out]; omega)).mono ?_
   case hr_Questions => exact (dR (G := fun b => b = g) kC (fun b hb hg' => N4 (hg' ▸ hb)) HR4.out)
   rintro e w_Questions ⟨rfl, hR4, hu⟩
   rw [HC4.out]
   replace HR2 := Sd.mk (dR hu (fun b hb hg' => D2_4.out b hb hg') (dR (G := fun b => b = g) kC (fun b hb hg' => N2 (hg' ▸ hb)) HR2.out))
   replace HR6 := Sd.mk (dR hu (fun b hb hg' => D4_6.out b hg' hb) (dR (G := fun b => b = g) kC (fun b hb hg' => N6 (hg' ▸ hb)) HR6.out))
   replace HR4 := Sd.mk hR4
   replace HAT := Sd.mk ((HAT.out.set 3 kD (.int .i64 ((((q + 1) + 1) + cn2)))).call hu I4.out hFg)
   clear hR4
   clear hu x0_Exports f0_Exports x1_Exports f1_Exports x2_Exports f2_Exports x3_Exports f3_Exports x4_Exports f4_Exports x5_Exports f5_Exports x6_Exports f6_Exports
   have x0_Questions := HAT.out.cell0 _ rfl
   have x1_Questions := HAT.out.cell 1 _ rfl
   have x2_Questions := HAT.out.cell 2 _ rfl
   have x3_Questions := HAT.out.cell 3 _ rfl
   have x4_Questions := HAT.out.cell 4 _ rfl
   have x5_Questions := HAT.out.cell 5 _ rfl
   have x6_Questions := HAT.out.cell 6 _ rfl
   have f0_Questions := HAT.out.free (i * 7)
   have f1_Questions := HAT.out.free (i * 7 + 1)
   have f2_Questions := HAT.out.free (i * 7 + 2)
   have f3_Questions := HAT.out.free (i * 7 + 3)
   have f4_Questions := HAT.out.free (i * 7 + 4)
   have f5_Questions := HAT.out.free (i * 7 + 5)
   have f6_Questions := HAT.out.free (i * 7 + 6)
   go_wp2_with fail
   with_reducible refine (markS_Question l[i].aQ _ P6 _ _ ?hr_Answers kO (by rw [HC6.out]; omega)).mono ?_
   case hr_Answers => exact (dR (G := fun b => b = g) kC (fun b hb hg' => N6 (hg' ▸ hb)) HR6.out)
   rintro e w_Answers ⟨rfl, hR6, hu⟩
   rw [HC6.out]
   replace HR2 := Sd.mk (dR hu (fun b hb hg' => D2_6.out b hb hg') (dR (G := fun b => b = g) kC (fun b hb hg' => N2 (hg' ▸ hb)) HR2.out))
   replace HR4 := Sd.mk (dR hu (fun b hb hg' => D4_6.out b hb hg') (dR (G := fun b => b = g) kC (fun b hb hg' => N4 (hg' ▸ hb)) HR4.out))
   replace HR6 := Sd.mk hR6
   replace HAT := Sd.mk ((HAT.out.set 5 kD (.int .i64 ((((((q + 1) + 1) + cn2) + 1) + cn4)))).call hu I6.out hFg)
   clear hR6
   clear hu x0_Questions f0_Questions x1_Questions f1_Questions x2_Questions f2_Questions x3_Questions f3_Questions x4_Questions f4_Questions x5_Questions f5_Questions x6_Questions f6_Questions
   have x0_Answers := HAT.out.cell0 _ rfl
   have x1_Answers := HAT.out.cell 1 _ rfl
   have x2_Answers := HAT.out.cell 2 _ rfl
   have x3_Answers := HAT.out.cell 3 _ rfl
   have x4_Answers := HAT.out.cell 4 _ rfl
   have x5_Answers := HAT.out.cell 5 _ rfl
   have x6_Answers := HAT.out.cell 6 _ rfl
   have f0_Answers := HAT.out.free (i * 7)
   have f1_Answers := HAT.out.free (i * 7 + 1)
   have f2_Answers := HAT.out.free (i * 7 + 2)
   have f3_Answers := HAT.out.free (i * 7 + 3)
   have f4_Answers := HAT.out.free (i * 7 + 4)
   have f5_Answers := HAT.out.free (i * 7 + 5)
   have f6_Answers := HAT.out.free (i * 7 + 6)
   go_wp2
   have HA := HAT.out
   have hy : (⟨q, (((q + 1)) % 3 == 0), mkS jC dF ((q + 1) + 1) l[i].aH, (((q + 1) + 1) + cn2), mkS fT bH ((((q + 1) + 1) + cn2) + 1) l[i].aI, (((((q + 1) + 1) + cn2) + 1) + cn4), mkS fT bH ((((((q + 1) + 1) + cn2) + 1) + cn4) + 1) l[i].aQ⟩ : GLink) = (mkS mF dZ k l)[i]'(by rw [dM]; exact hlt) := by rw [HMA.out]; simp only [mF, HC2.out, HC4.out, HC6.out]
   have HRowB := CL.out _ _ (⟨q, (((q + 1)) % 3 == 0), mkS jC dF ((q + 1) + 1) l[i].aH, (((q + 1) + 1) + cn2), mkS fT bH ((((q + 1) + 1) + cn2) + 1) l[i].aI, (((((q + 1) + 1) + cn2) + 1) + cn4), mkS fT bH ((((((q + 1) + 1) + cn2) + 1) + cn4) + 1) l[i].aQ⟩ : GLink) Fi F HA (lU _ Fi (⟨q, (((q + 1)) % 3 == 0), mkS jC dF ((q + 1) + 1) l[i].aH, (((q + 1) + 1) + cn2), mkS fT bH ((((q + 1) + 1) + cn2) + 1) l[i].aI, (((((q + 1) + 1) + cn2) + 1) + cn4), mkS fT bH ((((((q + 1) + 1) + cn2) + 1) + cn4) + 1) l[i].aQ⟩ : GLink) (dR (G := fun b => b = g) kC (fun b hb hg' => N2 (hg' ▸ hb)) HR2.out) (dR (G := fun b => b = g) kC (fun b hb hg' => N4 (hg' ▸ hb)) HR4.out) (dR (G := fun b => b = g) kC (fun b hb hg' => N6 (hg' ▸ hb)) HR6.out) I2.out I4.out I6.out D2_4.out D2_6.out D4_6.out) (fun _ hb => .inl hb) (fun _ hb => hb) hFi
   rw [hy, iC (dM _ _ _ _) hlt] at HRowB
   go_roundg (gk - 1)
   case measure => omega
   case rel => exact ⟨i + 1, by omega, by rw [HST.out]; simp only [dZ]; have := HQ.out; have := HC2.out; have := HC4.out; have := HC6.out; exact congrArg (Value.int .i64) kO, by go_num, ⟨HRowB⟩, ⟨HU.out.trans HA.upd (fun _ _ hb => hb) (fun b _ hb => by rcases hb with rfl | hb; exact hg; exact hFi b hb)⟩⟩
  ·go_wp2
   go_ret
   have HRowB := HR.out
   rw [iA (dM _ _ _ _) kO] at HRowB
   have e : l.take i = l := List.take_of_length_le kO
   exact ⟨gJ (by rw [e]), HRowB, HU.out⟩
theorem heldS_Link (l : List GLink) (k : Int) (A : Option Addr) (c : Nat) (w : World) (h : C aO w A (mkS mF dZ k l)) (hk : 0 ≤ k) (hb : k + bU dZ l ≤ 4611686018427387904) : Calls Tryz.prog 113 #[.slice A l.length c, .int .i64 k] w (lQ (k + bU dZ l) w) := by
 have hn := h.1
 rw [dM] at hn
 have H := Sd.mk h
 clear h
 go_enter Tryz.func113, Tryz.ntmps113
 go_wp2
 go_loopg [1, 5] l.length (fun r u v wr => ∃ i : Nat, i + r = l.length ∧ u = .int .i64 (k + bU dZ (l.take i)) ∧ v = .int .i64 i ∧ Sd (Upd No w wr))
 case atStart => exact ⟨0, by omega, by simp [bU], rfl, ⟨Upd.refl _ _⟩⟩
 case round =>
  obtain ⟨i, hi, rfl, rfl, HU⟩ := hrel
  by_cases hlt : i < l.length
  ·have hle := fA dZ kW l i
   have hst := gF dZ l i hlt
   have hle2 := fA dZ kW l (i + 1)
   rw [hst] at hle2
   have HST := Sd.mk hst
   clear hst
   obtain ⟨ad, A2, c2, A4, c4, A6, c6, rfl, a0, a1, a2, a3, a4, a5, a6, hl2, hC2, hl4, hC4, hl6, hC6⟩ := nR (bK HU.out H.out) i (by rw [dM]; exact hlt)
   rw [jX mF dZ l k i hlt] at a0 a1 a2 a3 a4 a5 a6 hl2 hC2 hl4 hC4 hl6 hC6
   simp only [mF, dM] at a0 a1 a2 a3 a4 a5 a6 hl2 hC2 hl4 hC4 hl6 hC6
   have nn2 := fE dF jL l[i].aH
   have nn4 := fE bH gD l[i].aI
   have nn6 := fE bH gD l[i].aQ
   simp only [dZ] at hle2
   generalize hq : k + bU dZ (l.take i) = q at *
   have HQ := Sd.mk hq
   have hq0 : 0 ≤ q := by omega
   have hqb : q + (((((((0 + 1) + 1) + bU dF l[i].aH) + 1) + bU bH l[i].aI) + 1) + bU bH l[i].aQ) ≤ 4611686018427387904 := by omega
   clear hq hle hle2 hb
   generalize hcn2 : bU dF l[i].aH = cn2 at *
   have HN2 := Sd.mk hcn2
   clear hcn2
   have HC2 := Sd.mk hC2
   clear hC2
   generalize hcn4 : bU bH l[i].aI = cn4 at *
   have HN4 := Sd.mk hcn4
   clear hcn4
   have HC4 := Sd.mk hC4
   clear hC4
   generalize hcn6 : bU bH l[i].aQ = cn6 at *
   have HN6 := Sd.mk hcn6
   clear hcn6
   have HC6 := Sd.mk hC6
   clear hC6
   have HX := Sd.mk (Upd.refl No wr)
   go_wp2_with fail
   with_reducible refine (heldS_Export l[i].aH _ _ _ _ ?hc_Exports kO (by rw [HN2.out]; omega)).mono ?_
   case hc_Exports => exact HC2.out
   rintro e w_Exports ⟨rfl, hu⟩
   rw [HN2.out]
   replace a0 := hu.read a0
   replace a1 := hu.read a1
   replace a2 := hu.read a2
   replace a3 := hu.read a3
   replace a4 := hu.read a4
   replace a5 := hu.read a5
   replace a6 := hu.read a6
   replace HC2 := Sd.mk (bK hu HC2.out)
   replace HC4 := Sd.mk (bK hu HC4.out)
   replace HC6 := Sd.mk (bK hu HC6.out)
   replace HX := Sd.mk (HX.out.then hu)
   clear hu
   go_wp2_with fail
   with_reducible refine (heldS_Question l[i].aI _ _ _ _ ?hc_Questions kO (by rw [HN4.out]; omega)).mono ?_
   case hc_Questions => exact HC4.out
   rintro e w_Questions ⟨rfl, hu⟩
   rw [HN4.out]
   replace a0 := hu.read a0
   replace a1 := hu.read a1
   replace a2 := hu.read a2
   replace a3 := hu.read a3
   replace a4 := hu.read a4
   replace a5 := hu.read a5
   replace a6 := hu.read a6
   replace HC2 := Sd.mk (bK hu HC2.out)
   replace HC4 := Sd.mk (bK hu HC4.out)
   replace HC6 := Sd.mk (bK hu HC6.out)
   replace HX := Sd.mk (HX.out.then hu)
   clear hu
   go_wp2_with fail
   with_reducible refine (heldS_Question l[i].aQ _ _ _ _ ?hc_Answers kO (by rw [HN6.out]; omega)).mono ?_
   case hc_Answers => exact HC6.out
   rintro e w_Answers ⟨rfl, hu⟩
   rw [HN6.out]
   replace a0 := hu.read a0
   replace a1 := hu.read a1
   replace a2 := hu.read a2
   replace a3 := hu.read a3
   replace a4 := hu.read a4
   replace a5 := hu.read a5
   replace a6 := hu.read a6
   replace HC2 := Sd.mk (bK hu HC2.out)
   replace HC4 := Sd.mk (bK hu HC4.out)
   replace HC6 := Sd.mk (bK hu HC6.out)
   replace HX := Sd.mk (HX.out.then hu)
   clear hu
   go_wp2
   go_roundg (gk - 1)
   case measure => omega
   case rel => exact ⟨i + 1, by omega, by rw [HST.out]; simp only [dZ]; have := HQ.out; have := HN2.out; have := HN4.out; have := HN6.out; exact congrArg (Value.int .i64) kO, by go_num, ⟨HU.out.then HX.out⟩⟩
  ·go_wp2
   go_ret
   have e : l.take i = l := List.take_of_length_le kO
   exact ⟨gJ (by rw [e]), HU.out⟩
theorem kl_Wire_Kmk (w : World) (x : GWire) : jO.K w x [.int .i64 x.Kind, .int .i64 x.N] := ⟨[_], [_], rfl, rfl, rfl⟩
theorem iI (w : World) (x : GWire) : bW.K w x [.int .i64 x.Kind, .int .i64 x.N] := ⟨[_], [_], rfl, rfl, rfl⟩
theorem to_Wire (x : GWire) (cs : List Value) (w : World) (h : jO.K w x cs) (hs : iD x ≤ 1048576) : Calls Tryz.prog 98 #[.agg cs.toArray] w (jJ bW x w) := by
 obtain rfl := kl_Wire_K h
 clear hs
 go_enter Tryz.func98, Tryz.ntmps98
 go_wp2
 refine bodyPost_ret (v := .agg #[.int .i64 x.Kind, .int .i64 x.N]) (by simp [results, Tryz.results98, go_sem]) rfl ⟨_, rfl, ?_, kA⟩
 exact lV _ _ _
theorem toS_Wire (l : List GWire) (A : Option Addr) (c : Nat) (w : World) (h : C jO w A l) (hs : bN iD l ≤ 1048576) : Calls Tryz.prog 97 #[.slice A l.length c] w (lG bW 72 l w) := by
 have hn : l.length ≤ 1048576 := by unfold bN at hs; omega
 have hmk := mD (P := Tryz.prog) _ _ _ Tryz.underlying71 mI l.length hn kD
 have H := Sd.mk h
 have HS := Sd.mk hs
 clear h hs
 go_enter Tryz.func97, Tryz.ntmps97
 go_wp2
 clear hmk
 have HR : Sd (R bW 72 (w.alloc (iJ (.agg #[.int .i64 0, .int .i64 0]) (l.length * 2) 72)) (New w) (.slice (some ⟨w.heap.size, 0, none⟩) l.length l.length) (List.replicate l.length zWire)) := Sd.mk (R_made (d := bW) (e := 72) w (.agg #[.int .i64 0, .int .i64 0]) zWire rfl kD ki_Wire_zero l.length hn)
 have HU := Sd.mk ((Upd.refl No w).alloc (iJ (.agg #[.int .i64 0, .int .i64 0]) (l.length * 2) 72))
 go_loopg [4] l.length (fun k v wr => ∃ i : Nat, i + k = l.length ∧ v = .int .i64 i ∧ Sd (R bW 72 wr (New w) (.slice (some ⟨w.heap.size, 0, none⟩) l.length l.length) (upTo l (List.replicate l.length zWire) i)) ∧ Sd (Upd No w wr))
 case atStart => exact ⟨0, by omega, rfl, ⟨by rw [gK]; exact HR.out⟩, HU⟩
 case round =>
  clear HR HU
  obtain ⟨i, hi, rfl, HR, HU⟩ := hrel
  by_cases hlt : i < l.length
  ·obtain ⟨ad, rfl, a0, a1⟩ := kl_Wire_at (bK HU.out H.out) i hlt
   have hsi : iD l[i] ≤ 1048576 := by have := HS.out; have := gT iD l i hlt; unfold bN at *; omega
   go_wp2_with fail
   with_reducible refine (to_Wire l[i] _ _ (kl_Wire_Kmk _ _) hsi).mono ?_
   rintro e w1 ⟨cs, rfl, hM, hu⟩
   obtain rfl := ki_Wire_M hM
   have HRowA := dR hu (fun _ _ q => q) (R_lt HR.out)
   have HU1 := Sd.mk (HU.out.then hu)
   have hzw := HU.out.size
   clear HR HU hM hu
   obtain ⟨g, cap, cur, ce, Fi, hv, hcap, hat, hM, hg, hFi, hFg, close⟩ := kN HRowA 2 l.length rfl (by rw [iB (by simp) (by simp; omega)]; simp) i zWire (by rw [iX (by simp) (by simpa using hlt)]; simp)
   cases hv
   obtain rfl := ki_Wire_M hM
   have HAT := Sd.mk hat
   have x0 := hat.cell0 _ rfl
   have x1 := hat.cell 1 _ rfl
   have f0 := hat.free (i * 2)
   have f1 := hat.free (i * 2 + 1)
   have CL := Sd.mk close
   clear hat close hM HRowA
   go_wp2
   have HA := (HAT.out.set0 kD (.int .i64 l[i].Kind)).set 1 kD (.int .i64 l[i].N)
   have HRowB := CL.out _ _ l[i] No (New w) HA (lV _ _ _) (fun _ q => q.elim) (fun _ q => q.1) (fun _ q => q.elim)
   rw [iC (by simp) (by simpa using hlt)] at HRowB
   go_roundg (gk - 1)
   case measure => omega
   case rel => exact ⟨i + 1, by omega, by go_num, ⟨HRowB⟩, ⟨by repeat (with_reducible first | exact HU1.out | apply Upd.dG)⟩⟩
  ·go_wp2
   go_ret
   have HRowB := HR.out
   rw [iA (by simp) (by simp; omega)] at HRowB
   exact ⟨_, rfl, HRowB, HU.out⟩
theorem szS_Wire (l : List GWire) (A : Option Addr) (c : Nat) (n : Int) (w : World) (h : C jO w A l) (h0 : 0 ≤ n) (h1 : n ≤ 1048576) : Calls Tryz.prog 89 #[.slice A l.length c, .int .i64 n] w (RetSz (bN iD l) n w) := by
 have hn := h.1
 have H := Sd.mk h
 clear h
 go_enter Tryz.func89, Tryz.ntmps89
 by_cases q0 : (l.length : Int) ≤ n
 case neg =>
  go_wp2
  go_ret
  exact ⟨_, rfl, .inr ⟨by unfold bN; omega, rfl⟩, Upd.refl _ _⟩
 have hz : gX iD l = 0 := by
  clear q0 hn H
  induction l with
  | nil => rfl
  | cons x l ih => simp [gX, iD, ih]
 have HZ := Sd.mk hz
 clear hz
 go_wp2
 go_ret
 have hz := HZ.out
 exact ⟨_, rfl, .inl ⟨by unfold bN; omega, by unfold bN; omega⟩, Upd.refl _ _⟩
theorem eq_Wire (x : GWire) (cs cs' : List Value) (w : World) (h : bW.K w x cs) (h' : bW.K w x cs') : Calls Tryz.prog 46 #[.agg cs.toArray, .agg cs'.toArray] w (eX true w) := by
 obtain rfl := ki_Wire_K h
 obtain rfl := ki_Wire_K h'
 go_enter Tryz.func46, Tryz.ntmps46
 go_wp2
 go_ret
 exact ⟨rfl, kA⟩
theorem eqS_Wire (l : List GWire) (A A' : Option Addr) (c c' : Nat) (w : World) (h : C bW w A l) (h' : C bW w A' l) : Calls Tryz.prog 49 #[.slice A l.length c, .slice A' l.length c'] w (eX true w) := by
 have hn := h.1
 have H := Sd.mk h
 have H' := Sd.mk h'
 clear h h'
 go_enter Tryz.func49, Tryz.ntmps49
 go_wp2
 go_loopg [5] l.length (fun k v wr => ∃ i : Nat, i + k = l.length ∧ v = .int .i64 i ∧ Sd (Upd No w wr))
 case atStart => exact ⟨0, by omega, rfl, ⟨Upd.refl _ _⟩⟩
 case round =>
  obtain ⟨i, hi, rfl, HU⟩ := hrel
  by_cases hlt : i < l.length
  ·obtain ⟨ad, rfl, a0, a1⟩ := ki_Wire_at (bK HU.out H.out) i hlt
   obtain ⟨ad', rfl, z0, z1⟩ := ki_Wire_at (bK HU.out H'.out) i hlt
   go_wp2_with fail
   go_still_tail 8, kR
   change wpList _ _ _ _ _ wr.drew
   have HW : Sd (Upd No wr wr.drew) := ⟨(Upd.refl _ _).drew⟩
   have HU2 : Sd (Upd No w wr.drew) := ⟨HU.out.drew⟩
   generalize wr.drew = w2 at *
   go_wp2_with (go_at_call 46; (with_reducible refine (eq_Wire l[i] _ _ _ (iI _ _) (iI _ _)).mono ?_); rintro e w' ⟨rfl, hu⟩)
   have HU3 := Sd.mk (HU2.out.then hu)
   clear HU2 hu
   go_wp2
   go_roundg (gk - 1)
   case measure => omega
   case rel => exact ⟨i + 1, by omega, by go_num, HU3⟩
  ·go_wp2
   go_ret
   exact ⟨rfl, HU.out⟩
theorem markS_Wire (l : List GWire) (k : Int) (F : Nat → Prop) (v : Value) (w : World) (h : R bW 72 w F v l) (hk : 0 ≤ k) (hb : k + bU cZ l ≤ 4611686018427387904) : Calls Tryz.prog 50 #[v, .int .i64 k] w (Marks bW 72 F v (k + bU cZ l) (mkS j5 cZ k l) w) := by
 obtain ⟨A, c, rfl⟩ := dA h
 have hn := R_len h
 have H := Sd.mk h
 clear h
 go_enter Tryz.func50, Tryz.ntmps50
 go_wp2
 go_loopg [1, 5] l.length (fun r u v wr => ∃ i : Nat, i + r = l.length ∧ u = .int .i64 (k + bU cZ (l.take i)) ∧ v = .int .i64 i ∧ Sd (R bW 72 wr F (.slice A l.length c) (upTo (mkS j5 cZ k l) l i)) ∧ Sd (Upd F w wr))
 case atStart => exact ⟨0, by omega, by simp [bU], rfl, ⟨by rw [gK]; exact H.out⟩, ⟨Upd.refl _ _⟩⟩
 case round =>
  obtain ⟨i, hi, rfl, rfl, HR, HU⟩ := hrel
  by_cases hlt : i < l.length
  ·have hle := fA cZ jS l i
   have hst := gF cZ l i hlt
   have hle2 := fA cZ jS l (i + 1)
   rw [hst] at hle2
   have HST := Sd.mk hst
   clear hst
   have HMA := Sd.mk (jX j5 cZ l k i hlt)
   obtain ⟨g, cap, cur, ce, Fi, hv, hcap, hat, hM, hg, hFi, hFg, close⟩ := kN HR.out 2 l.length rfl (iB (dM _ _ _ _) kO) i l[i] (iX (dM _ _ _ _) hlt)
   cases hv
   obtain rfl := ki_Wire_M hM
   have HCN : Sd (cZ l[i] = cZ l[i]) := ⟨rfl⟩
   simp only [cZ] at hle2
   generalize hq : k + bU cZ (l.take i) = q at *
   have HQ := Sd.mk hq
   have hq0 : 0 ≤ q := by omega
   have hqb : q + ((0 + 1) + 1) ≤ 4611686018427387904 := by omega
   clear hq hle hle2 hb
   have HAT := Sd.mk hat
   have x0_s := hat.cell0 _ rfl
   have x1_s := hat.cell 1 _ rfl
   have f0_s := hat.free (i * 2)
   have f1_s := hat.free (i * 2 + 1)
   have CL := Sd.mk close
   clear hat close hM HR
   go_wp2
   have HA := ((HAT.out.set0 kD (.int .i64 (q))).set 1 kD (.int .i64 ((q + 1))))
   have hy : (⟨q, (q + 1)⟩ : GWire) = (mkS j5 cZ k l)[i]'(by rw [dM]; exact hlt) := by rw [HMA.out]; simp only [j5]
   have HRowB := CL.out _ _ (⟨q, (q + 1)⟩ : GWire) Fi F HA (lV _ Fi (⟨q, (q + 1)⟩ : GWire)) (fun _ hb => .inl hb) (fun _ hb => hb) hFi
   rw [hy, iC (dM _ _ _ _) hlt] at HRowB
   go_roundg (gk - 1)
   case measure => omega
   case rel => exact ⟨i + 1, by omega, by rw [HST.out]; simp only [cZ]; have := HQ.out; exact congrArg (Value.int .i64) kO, by go_num, ⟨HRowB⟩, ⟨HU.out.trans HA.upd (fun _ _ hb => hb) (fun b _ hb => by rcases hb with rfl | hb; exact hg; exact hFi b hb)⟩⟩
  ·go_wp2
   go_ret
   have HRowB := HR.out
   rw [iA (dM _ _ _ _) kO] at HRowB
   have e : l.take i = l := List.take_of_length_le kO
   exact ⟨gJ (by rw [e]), HRowB, HU.out⟩
theorem heldS_Wire (l : List GWire) (k : Int) (A : Option Addr) (c : Nat) (w : World) (h : C bW w A (mkS j5 cZ k l)) (hk : 0 ≤ k) (hb : k + bU cZ l ≤ 4611686018427387904) : Calls Tryz.prog 51 #[.slice A l.length c, .int .i64 k] w (lQ (k + bU cZ l) w) := by
 have hn := h.1
 rw [dM] at hn
 have H := Sd.mk h
 clear h
 go_enter Tryz.func51, Tryz.ntmps51
 go_wp2
 go_loopg [1, 5] l.length (fun r u v wr => ∃ i : Nat, i + r = l.length ∧ u = .int .i64 (k + bU cZ (l.take i)) ∧ v = .int .i64 i ∧ Sd (Upd No w wr))
 case atStart => exact ⟨0, by omega, by simp [bU], rfl, ⟨Upd.refl _ _⟩⟩
 case round =>
  obtain ⟨i, hi, rfl, rfl, HU⟩ := hrel
  by_cases hlt : i < l.length
  ·have hle := fA cZ jS l i
   have hst := gF cZ l i hlt
   have hle2 := fA cZ jS l (i + 1)
   rw [hst] at hle2
   have HST := Sd.mk hst
   clear hst
   obtain ⟨ad, rfl, a0, a1⟩ := ki_Wire_at (bK HU.out H.out) i (by rw [dM]; exact hlt)
   rw [jX j5 cZ l k i hlt] at a0 a1
   simp only [j5] at a0 a1
   simp only [cZ] at hle2
   generalize hq : k + bU cZ (l.take i) = q at *
   have HQ := Sd.mk hq
   have hq0 : 0 ≤ q := by omega
   have hqb : q + ((0 + 1) + 1) ≤ 4611686018427387904 := by omega
   clear hq hle hle2 hb
   have HX := Sd.mk (Upd.refl No wr)
   go_wp2
   go_roundg (gk - 1)
   case measure => omega
   case rel => exact ⟨i + 1, by omega, by rw [HST.out]; simp only [cZ]; have := HQ.out; exact congrArg (Value.int .i64) kO, by go_num, ⟨HU.out.then HX.out⟩⟩
  ·go_wp2
   go_ret
   have e : l.take i = l := List.take_of_length_le kO
   exact ⟨gJ (by rw [e]), HU.out⟩
theorem nT (w : World) (x : GMessage) {A5 : Option Addr} {c5 : Nat} (hl5 : x.dI.length ≤ c5) (hC5 : C jO w A5 x.dI) : lW.K w x [.int .i64 x.Kind, .int .i64 x.Pos, .int .i64 x.eU, .int .i64 x.Question, .string x.Name, .slice A5 x.dI.length c5, .int .i64 x.Value.Kind, .int .i64 x.Value.N, .int .i64 x.Count, .int .i64 x.Tag.Vat, .int .i64 x.Tag.Entity, .int .i64 x.Tag.Seq] := ⟨[_], [_, _, _, _, _, _, _, _, _, _, _], rfl, rfl, ⟨[_], [_, _, _, _, _, _, _, _, _, _], rfl, rfl, ⟨[_], [_, _, _, _, _, _, _, _, _], rfl, rfl, ⟨[_], [_, _, _, _, _, _, _, _], rfl, rfl, ⟨[_], [_, _, _, _, _, _, _], rfl, rfl, ⟨[_], [_, _, _, _, _, _], rfl, ⟨A5, c5, rfl, hl5, hC5⟩, ⟨[_, _], [_, _, _, _], rfl, (kl_Wire_Kmk w _), ⟨[_], [_, _, _], rfl, rfl, (kl_Tag_Kmk w _)⟩⟩⟩⟩⟩⟩⟩⟩
theorem kZ (w : World) (x : GMessage) {A5 : Option Addr} {c5 : Nat} (hl5 : x.dI.length ≤ c5) (hC5 : C bW w A5 x.dI) : iE.K w x [.int .i64 x.Kind, .int .i64 x.Pos, .int .i64 x.eU, .int .i64 x.Question, .string x.Name, .slice A5 x.dI.length c5, .int .i64 x.Value.Kind, .int .i64 x.Value.N, .int .i64 x.Count, .int .i64 x.Tag.Vat, .int .i64 x.Tag.Entity, .int .i64 x.Tag.Seq] := ⟨[_], [_, _, _, _, _, _, _, _, _, _, _], rfl, rfl, ⟨[_], [_, _, _, _, _, _, _, _, _, _], rfl, rfl, ⟨[_], [_, _, _, _, _, _, _, _, _], rfl, rfl, ⟨[_], [_, _, _, _, _, _, _, _], rfl, rfl, ⟨[_], [_, _, _, _, _, _, _], rfl, rfl, ⟨[_], [_, _, _, _, _, _], rfl, ⟨A5, c5, rfl, hl5, hC5⟩, ⟨[_, _], [_, _, _, _], rfl, (iI w _), ⟨[_], [_, _, _], rfl, rfl, (mU w _)⟩⟩⟩⟩⟩⟩⟩⟩
theorem to_Message (x : GMessage) (cs : List Value) (w : World) (h : lW.K w x cs) (hs : fU x ≤ 1048576) : Calls Tryz.prog 28 #[.agg cs.toArray] w (jJ iE x w) := by
 obtain ⟨A5, c5, rfl, hl5, hC5⟩ := kl_Message_K h
 have HC5 := Sd.mk hC5
 clear hC5
 have s_Args : bN iD x.dI ≤ 1048576 := by unfold fU at hs; omega
 clear hs
 go_enter Tryz.func28, Tryz.ntmps28
 go_wp2_with fail
 with_reducible refine (toS_Wire x.dI _ _ _ ?hc_Args s_Args).mono ?_
 case hc_Args => exact bK kA HC5.out
 rintro e w_Args ⟨v5, rfl, hR5, hu⟩
 obtain ⟨B5, b5, rfl⟩ := dA hR5
 obtain ⟨P5, hR5', g5, l5⟩ := iV hR5 (w.heap.size + 1 + 1 + 1) kB
 have ge5 : ∀ b, P5 b → w.heap.size + 1 + 1 < b := fun b hb => by have := g5 b hb; omega
 have n1_5 : ¬ P5 (w.heap.size + 1) := fun q => by have := ge5 _ q; omega
 have n2_5 : ¬ P5 (w.heap.size + 1 + 1) := fun q => by have := ge5 _ q; omega
 have HR5 := Sd.mk hR5'
 have GE5 := Sd.mk ge5
 have LT5 := Sd.mk l5
 have GP5 := Sd.mk g5
 clear hR5 hR5' ge5 l5 g5
 have HB_Args : Sd (Upd No w w_Args) := Sd.mk (Upd.then kA hu)
 have cc0_Args := fun o => hu.bF (b := w.heap.size) kB (fun q => q) o
 have cc1_Args := fun o => hu.bF (b := w.heap.size + 1) kB (fun q => q) o
 have cf1_Args := fun o => hu.bV (b := w.heap.size + 1) kB (fun q => q) o
 have cc2_Args := fun o => hu.bF (b := w.heap.size + 1 + 1) kB (fun q => q) o
 have cf2_Args := fun o => hu.bV (b := w.heap.size + 1 + 1) kB (fun q => q) o
 have hz_Args : w.heap.size + 1 + 1 + 1 ≤ w_Args.heap.size := by have := hu.size; (try simp at this); omega
 clear hu
 go_wp2_with fail
 with_reducible refine (to_Wire x.Value _ _ (kl_Wire_Kmk _ _) (by simp [iD])).mono ?_
 rintro e w_Value ⟨cs_Value, rfl, hM, hu⟩
 obtain rfl := ki_Wire_M hM
 clear hM
 have HR5 := Sd.mk (dR hu (fun _ _ q => q) (fH HR5.out (by repeat (with_reducible first | exact Upd.refl _ _ | apply Upd.eZ n1_5 | apply Upd.eZ n2_5 | apply Upd.alloc))))
 have HB_Value : Sd (Upd No w w_Value) := Sd.mk (Upd.then (by repeat (with_reducible first | exact HB_Args.out | apply Upd.dL | apply Upd.dK | apply Upd.dG | apply Upd.alloc | apply Upd.drewN | apply Upd.drew)) hu)
 have cc0_Value := fun o => hu.bF (b := w.heap.size) kB (fun q => q) o
 have cc1_Value := fun o => hu.bF (b := w.heap.size + 1) kB (fun q => q) o
 have cf1_Value := fun o => hu.bV (b := w.heap.size + 1) kB (fun q => q) o
 have cc2_Value := fun o => hu.bF (b := w.heap.size + 1 + 1) kB (fun q => q) o
 have cf2_Value := fun o => hu.bV (b := w.heap.size + 1 + 1) kB (fun q => q) o
 have hz_Value : w.heap.size + 1 + 1 + 1 ≤ w_Value.heap.size := by have := hu.size; (try simp at this); omega
 have hm_Value : w_Args.heap.size ≤ w_Value.heap.size := by have := hu.size; (try simp at this); omega
 clear hu
 go_wp2_with fail
 with_reducible refine (to_Tag x.Tag _ _ (kl_Tag_Kmk _ _) (by simp [szn_Tag])).mono ?_
 rintro e w_Tag ⟨cs_Tag, rfl, hM, hu⟩
 obtain rfl := ki_Tag_M hM
 clear hM
 have HR5 := Sd.mk (dR hu (fun _ _ q => q) (fH HR5.out (by repeat (with_reducible first | exact Upd.refl _ _ | apply Upd.eZ n1_5 | apply Upd.eZ n2_5 | apply Upd.alloc))))
 have HB_Tag : Sd (Upd No w w_Tag) := Sd.mk (Upd.then (by repeat (with_reducible first | exact HB_Value.out | apply Upd.dL | apply Upd.dK | apply Upd.dG | apply Upd.alloc | apply Upd.drewN | apply Upd.drew)) hu)
 have cc0_Tag := fun o => hu.bF (b := w.heap.size) kB (fun q => q) o
 have cc1_Tag := fun o => hu.bF (b := w.heap.size + 1) kB (fun q => q) o
 have cf1_Tag := fun o => hu.bV (b := w.heap.size + 1) kB (fun q => q) o
 have cc2_Tag := fun o => hu.bF (b := w.heap.size + 1 + 1) kB (fun q => q) o
 have cf2_Tag := fun o => hu.bV (b := w.heap.size + 1 + 1) kB (fun q => q) o
 have hz_Tag : w.heap.size + 1 + 1 + 1 ≤ w_Tag.heap.size := by have := hu.size; (try simp at this); omega
 have hm_Tag : w_Value.heap.size ≤ w_Tag.heap.size := by have := hu.size; (try simp at this); omega
 clear hu
 go_wp2
 refine bodyPost_ret (v := .agg #[.int .i64 x.Kind, .int .i64 x.Pos, .int .i64 x.eU, .int .i64 x.Question, .string x.Name, .slice B5 x.dI.length b5, .int .i64 x.Value.Kind, .int .i64 x.Value.N, .int .i64 x.Count, .int .i64 x.Tag.Vat, .int .i64 x.Tag.Entity, .int .i64 x.Tag.Seq]) (by simp [results, Tryz.results28, go_sem, cc1_Args, cc1_Value, cc1_Tag]) rfl ⟨_, rfl, ?_, (by repeat (with_reducible first | exact HB_Tag.out | apply Upd.dL | apply Upd.dK | apply Upd.dG | apply Upd.alloc | apply Upd.drewN | apply Upd.drew))⟩
 exact mY _ _ _ (fH HR5.out (by repeat (with_reducible first | exact Upd.refl _ _ | apply Upd.eZ n1_5 | apply Upd.eZ n2_5 | apply Upd.alloc))) (fun k hk => by have := GE5.out k hk; simp only [New]; omega)
theorem sz_Message (x : GMessage) (cs : List Value) (n : Int) (w : World) (h : lW.K w x cs) (hb : Bd_Message x) (h0 : 0 ≤ n) (h1 : n ≤ 1048576) : Calls Tryz.prog 25 #[.agg cs.toArray, .int .i64 n] w (RetSz (fU x) n w) := by
 obtain ⟨A5, c5, rfl, hl5, hC5⟩ := kl_Message_K h
 have HC5 := Sd.mk hC5
 clear hC5
 have b_Name := hb
 unfold Bd_Message at b_Name
 go_enter Tryz.func25, Tryz.ntmps25
 by_cases q_Name : ((x.Name.size : Nat) : Int) ≤ n
 case neg =>
  go_wp2
  go_ret
  exact ⟨_, rfl, .inr ⟨by unfold fU; omega, rfl⟩, kA⟩
 go_wp2_with fail
 with_reducible refine (szS_Wire x.dI _ _ _ _ ?hc_Args kO kO).mono ?_
 case hc_Args => exact bK kA HC5.out
 rintro e w_Args ⟨r_Args, rfl, hr_Args, hu⟩
 have HB_Args : Sd (Upd No w w_Args) := Sd.mk (Upd.then kA hu)
 have cc0_Args := fun o => hu.bF (b := w.heap.size) kB (fun q => q) o
 have hz_Args : w.heap.size + 1 ≤ w_Args.heap.size := by have := hu.size; (try simp at this); omega
 clear hu
 rcases hr_Args with ⟨q_Args, rfl⟩ | ⟨q_Args, rfl⟩
 case inr =>
  go_wp2
  go_ret
  exact ⟨_, rfl, .inr ⟨by unfold fU; omega, rfl⟩, (by repeat (with_reducible first | exact HB_Args.out | apply Upd.dL | apply Upd.dK | apply Upd.dG | apply Upd.alloc | apply Upd.drewN | apply Upd.drew))⟩
 go_wp2
 go_ret
 exact ⟨_, rfl, .inl ⟨by unfold fU; omega, by unfold fU; omega⟩, (by repeat (with_reducible first | exact HB_Args.out | apply Upd.dL | apply Upd.dK | apply Upd.dG | apply Upd.alloc | apply Upd.drewN | apply Upd.drew))⟩
theorem eq_Message (x : GMessage) (cs cs' : List Value) (w : World) (h : iE.K w x cs) (h' : iE.K w x cs') : Calls Tryz.prog 31 #[.agg cs.toArray, .agg cs'.toArray] w (eX true w) := by
 obtain ⟨A5, c5, rfl, hl5, hC5⟩ := mJ h
 have HC5 := Sd.mk hC5
 clear hC5
 obtain ⟨B5, b5, rfl, hm5, hD5⟩ := mJ h'
 have HD5 := Sd.mk hD5
 clear hD5
 go_enter Tryz.func31, Tryz.ntmps31
 go_wp2_with fail
 with_reducible refine (eqS_Wire x.dI _ _ _ _ _ ?hc_Args ?hd_Args).mono ?_
 case hc_Args => exact bK kA HC5.out
 case hd_Args => exact bK kA HD5.out
 rintro e w_Args ⟨rfl, hu⟩
 have HB_Args : Sd (Upd No w w_Args) := Sd.mk (Upd.then kA hu)
 have cc0_Args := fun o => hu.bF (b := w.heap.size) kB (fun q => q) o
 have cc1_Args := fun o => hu.bF (b := w.heap.size + 1) kB (fun q => q) o
 have hz_Args : w.heap.size + 1 + 1 ≤ w_Args.heap.size := by have := hu.size; (try simp at this); omega
 clear hu
 go_wp2_with fail
 with_reducible refine (eq_Wire x.Value _ _ _ (iI _ _) (iI _ _)).mono ?_
 rintro e w_Value ⟨rfl, hu⟩
 have HB_Value : Sd (Upd No w w_Value) := Sd.mk (Upd.then (by repeat (with_reducible first | exact HB_Args.out | apply Upd.dL | apply Upd.dK | apply Upd.dG | apply Upd.alloc | apply Upd.drewN | apply Upd.drew)) hu)
 have cc0_Value := fun o => hu.bF (b := w.heap.size) kB (fun q => q) o
 have cc1_Value := fun o => hu.bF (b := w.heap.size + 1) kB (fun q => q) o
 have hz_Value : w.heap.size + 1 + 1 ≤ w_Value.heap.size := by have := hu.size; (try simp at this); omega
 clear hu
 go_wp2_with fail
 with_reducible refine (eq_Tag x.Tag _ _ _ (mU _ _) (mU _ _)).mono ?_
 rintro e w_Tag ⟨rfl, hu⟩
 have HB_Tag : Sd (Upd No w w_Tag) := Sd.mk (Upd.then (by repeat (with_reducible first | exact HB_Value.out | apply Upd.dL | apply Upd.dK | apply Upd.dG | apply Upd.alloc | apply Upd.drewN | apply Upd.drew)) hu)
 have cc0_Tag := fun o => hu.bF (b := w.heap.size) kB (fun q => q) o
 have cc1_Tag := fun o => hu.bF (b := w.heap.size + 1) kB (fun q => q) o
 have hz_Tag : w.heap.size + 1 + 1 ≤ w_Tag.heap.size := by have := hu.size; (try simp at this); omega
 clear hu
 go_wp2
 go_ret
 exact ⟨rfl, (by repeat (with_reducible first | exact HB_Tag.out | apply Upd.dL | apply Upd.dK | apply Upd.dG | apply Upd.alloc | apply Upd.drewN | apply Upd.drew))⟩
theorem kl_Outgoing_Kmk (w : World) (x : GOutgoing) {A6 : Option Addr} {c6 : Nat} (hl6 : x.Message.dI.length ≤ c6) (hC6 : C jO w A6 x.Message.dI) : iH.K w x [.int .i64 x.To, .int .i64 x.Message.Kind, .int .i64 x.Message.Pos, .int .i64 x.Message.eU, .int .i64 x.Message.Question, .string x.Message.Name, .slice A6 x.Message.dI.length c6, .int .i64 x.Message.Value.Kind, .int .i64 x.Message.Value.N, .int .i64 x.Message.Count, .int .i64 x.Message.Tag.Vat, .int .i64 x.Message.Tag.Entity, .int .i64 x.Message.Tag.Seq] := ⟨[_], [_, _, _, _, _, _, _, _, _, _, _, _], rfl, rfl, (nT w _ hl6 hC6)⟩
theorem ki_Outgoing_Kmk (w : World) (x : GOutgoing) {A6 : Option Addr} {c6 : Nat} (hl6 : x.Message.dI.length ≤ c6) (hC6 : C bW w A6 x.Message.dI) : aP.K w x [.int .i64 x.To, .int .i64 x.Message.Kind, .int .i64 x.Message.Pos, .int .i64 x.Message.eU, .int .i64 x.Message.Question, .string x.Message.Name, .slice A6 x.Message.dI.length c6, .int .i64 x.Message.Value.Kind, .int .i64 x.Message.Value.N, .int .i64 x.Message.Count, .int .i64 x.Message.Tag.Vat, .int .i64 x.Message.Tag.Entity, .int .i64 x.Message.Tag.Seq] := ⟨[_], [_, _, _, _, _, _, _, _, _, _, _, _], rfl, rfl, (kZ w _ hl6 hC6)⟩
theorem to_Outgoing (x : GOutgoing) (cs : List Value) (w : World) (h : iH.K w x cs) (hs : dH x ≤ 1048576) : Calls Tryz.prog 163 #[.agg cs.toArray] w (jJ aP x w) := by
 obtain ⟨A6, c6, rfl, hl6, hC6⟩ := oK h
 have HC6 := Sd.mk hC6
 clear hC6
 have s_Message : fU x.Message ≤ 1048576 := by unfold dH at hs; omega
 clear hs
 go_enter Tryz.func163, Tryz.ntmps163
 go_wp2_with fail
 with_reducible refine (to_Message x.Message _ _ (nT _ _ hl6 ?hc_Message) s_Message).mono ?_
 case hc_Message => exact bK kA HC6.out
 rintro e w_Message ⟨cs_Message, rfl, hM, hu⟩
 obtain ⟨v6, Q6, rfl, hR6, i6⟩ := ki_Message_M hM
 obtain ⟨B6, b6, rfl⟩ := dA hR6
 replace hR6 := gM i6 hR6
 clear i6 hM
 obtain ⟨P6, hR6', g6, l6⟩ := iV hR6 (w.heap.size + 1 + 1 + 1) kB
 have ge6 : ∀ b, P6 b → w.heap.size + 1 + 1 < b := fun b hb => by have := g6 b hb; omega
 have n1_6 : ¬ P6 (w.heap.size + 1) := fun q => by have := ge6 _ q; omega
 have n2_6 : ¬ P6 (w.heap.size + 1 + 1) := fun q => by have := ge6 _ q; omega
 have HR6 := Sd.mk hR6'
 have GE6 := Sd.mk ge6
 have LT6 := Sd.mk l6
 have GP6 := Sd.mk g6
 clear hR6 hR6' ge6 l6 g6
 have HB_Message : Sd (Upd No w w_Message) := Sd.mk (Upd.then kA hu)
 have cc0_Message := fun o => hu.bF (b := w.heap.size) kB (fun q => q) o
 have cc1_Message := fun o => hu.bF (b := w.heap.size + 1) kB (fun q => q) o
 have cf1_Message := fun o => hu.bV (b := w.heap.size + 1) kB (fun q => q) o
 have cc2_Message := fun o => hu.bF (b := w.heap.size + 1 + 1) kB (fun q => q) o
 have cf2_Message := fun o => hu.bV (b := w.heap.size + 1 + 1) kB (fun q => q) o
 have hz_Message : w.heap.size + 1 + 1 + 1 ≤ w_Message.heap.size := by have := hu.size; (try simp at this); omega
 clear hu
 go_wp2
 refine bodyPost_ret (v := .agg #[.int .i64 x.To, .int .i64 x.Message.Kind, .int .i64 x.Message.Pos, .int .i64 x.Message.eU, .int .i64 x.Message.Question, .string x.Message.Name, .slice B6 x.Message.dI.length b6, .int .i64 x.Message.Value.Kind, .int .i64 x.Message.Value.N, .int .i64 x.Message.Count, .int .i64 x.Message.Tag.Vat, .int .i64 x.Message.Tag.Entity, .int .i64 x.Message.Tag.Seq]) (by simp [results, Tryz.results163, go_sem, cc1_Message]) rfl ⟨_, rfl, ?_, (by repeat (with_reducible first | exact HB_Message.out | apply Upd.dL | apply Upd.dK | apply Upd.dG | apply Upd.alloc | apply Upd.drewN | apply Upd.drew))⟩
 exact kY _ _ _ (fH HR6.out (by repeat (with_reducible first | exact Upd.refl _ _ | apply Upd.eZ n1_6 | apply Upd.eZ n2_6 | apply Upd.alloc))) (fun k hk => by have := GE6.out k hk; simp only [New]; omega)
theorem toS_Outgoing (l : List GOutgoing) (A : Option Addr) (c : Nat) (w : World) (h : C iH w A l) (hs : bN dH l ≤ 1048576) : Calls Tryz.prog 96 #[.slice A l.length c] w (lG aP 147 l w) := by
 have hn : l.length ≤ 1048576 := by unfold bN at hs; omega
 have hmk := mD (P := Tryz.prog) _ _ _ Tryz.underlying66 mR l.length hn kD
 have H := Sd.mk h
 have HS := Sd.mk hs
 clear h hs
 go_enter Tryz.func96, Tryz.ntmps96
 go_wp2
 clear hmk
 have HR : Sd (R aP 147 (w.alloc (iJ (.agg #[.int .i64 0, .int .i64 0, .int .i64 0, .int .i64 0, .int .i64 0, .string ⟨#[]⟩, .slice none 0 0, .int .i64 0, .int .i64 0, .int .i64 0, .int .i64 0, .int .i64 0, .int .i64 0]) (l.length * 13) 147)) (New w) (.slice (some ⟨w.heap.size, 0, none⟩) l.length l.length) (List.replicate l.length mP)) := Sd.mk (R_made (d := aP) (e := 147) w (.agg #[.int .i64 0, .int .i64 0, .int .i64 0, .int .i64 0, .int .i64 0, .string ⟨#[]⟩, .slice none 0 0, .int .i64 0, .int .i64 0, .int .i64 0, .int .i64 0, .int .i64 0, .int .i64 0]) mP rfl kD ki_Outgoing_zero l.length hn)
 have HU := Sd.mk ((Upd.refl No w).alloc (iJ (.agg #[.int .i64 0, .int .i64 0, .int .i64 0, .int .i64 0, .int .i64 0, .string ⟨#[]⟩, .slice none 0 0, .int .i64 0, .int .i64 0, .int .i64 0, .int .i64 0, .int .i64 0, .int .i64 0]) (l.length * 13) 147))
 go_loopg [4] l.length (fun k v wr => ∃ i : Nat, i + k = l.length ∧ v = .int .i64 i ∧ Sd (R aP 147 wr (New w) (.slice (some ⟨w.heap.size, 0, none⟩) l.length l.length) (upTo l (List.replicate l.length mP) i)) ∧ Sd (Upd No w wr))
 case atStart => exact ⟨0, by omega, rfl, ⟨by rw [gK]; exact HR.out⟩, HU⟩
 case round =>
  clear HR HU
  obtain ⟨i, hi, rfl, HR, HU⟩ := hrel
  by_cases hlt : i < l.length
  ·obtain ⟨ad, A6, c6, rfl, a0, a1, a2, a3, a4, a5, a6, a7, a8, a9, a10, a11, a12, hl6, hC6⟩ := kl_Outgoing_at (bK HU.out H.out) i hlt
   have HC6 := Sd.mk hC6
   clear hC6
   have hsi : dH l[i] ≤ 1048576 := by have := HS.out; have := gT dH l i hlt; unfold bN at *; omega
   go_wp2_with fail
   with_reducible refine (to_Outgoing l[i] _ _ (kl_Outgoing_Kmk _ _ hl6 HC6.out) hsi).mono ?_
   rintro e w1 ⟨cs, rfl, hM, hu⟩
   obtain ⟨v6, P6, rfl, hR6, i6⟩ := oL (aP.M_lt hM)
   obtain ⟨D6, d6, rfl⟩ := dA hR6
   have HRowA := dR hu (fun _ _ q => q) (R_lt HR.out)
   have HU1 := Sd.mk (HU.out.then hu)
   have hzw := HU.out.size
   have HR6 := Sd.mk hR6
   have I6 := Sd.mk i6
   clear HR HU hM hu hR6 i6
   obtain ⟨g, cap, cur, ce, Fi, hv, hcap, hat, hM, hg, hFi, hFg, close⟩ := kN HRowA 13 l.length rfl (by rw [iB (by simp) (by simp; omega)]; simp) i mP (by rw [iX (by simp) (by simpa using hlt)]; simp)
   cases hv
   obtain ⟨y6, _, rfl, -⟩ := oL hM
   have HAT := Sd.mk hat
   have x0 := hat.cell0 _ rfl
   have x1 := hat.cell 1 _ rfl
   have x2 := hat.cell 2 _ rfl
   have x3 := hat.cell 3 _ rfl
   have x4 := hat.cell 4 _ rfl
   have x5 := hat.cell 5 _ rfl
   have x6 := hat.cell 6 _ rfl
   have x7 := hat.cell 7 _ rfl
   have x8 := hat.cell 8 _ rfl
   have x9 := hat.cell 9 _ rfl
   have x10 := hat.cell 10 _ rfl
   have x11 := hat.cell 11 _ rfl
   have x12 := hat.cell 12 _ rfl
   have f0 := hat.free (i * 13)
   have f1 := hat.free (i * 13 + 1)
   have f2 := hat.free (i * 13 + 2)
   have f3 := hat.free (i * 13 + 3)
   have f4 := hat.free (i * 13 + 4)
   have f5 := hat.free (i * 13 + 5)
   have f6 := hat.free (i * 13 + 6)
   have f7 := hat.free (i * 13 + 7)
   have f8 := hat.free (i * 13 + 8)
   have f9 := hat.free (i * 13 + 9)
   have f10 := hat.free (i * 13 + 10)
   have f11 := hat.free (i * 13 + 11)
   have f12 := hat.free (i * 13 + 12)
   have CL := Sd.mk close
   clear hat close hM HRowA
   go_wp2
   have HA := ((((((((((((HAT.out.set0 kD (.int .i64 l[i].To)).set 1 kD (.int .i64 l[i].Message.Kind)).set 2 kD (.int .i64 l[i].Message.Pos)).set 3 kD (.int .i64 l[i].Message.eU)).set 4 kD (.int .i64 l[i].Message.Question)).set 5 kD (.string l[i].Message.Name)).set 6 kD (.slice D6 l[i].Message.dI.length d6)).set 7 kD (.int .i64 l[i].Message.Value.Kind)).set 8 kD (.int .i64 l[i].Message.Value.N)).set 9 kD (.int .i64 l[i].Message.Count)).set 10 kD (.int .i64 l[i].Message.Tag.Vat)).set 11 kD (.int .i64 l[i].Message.Tag.Entity)).set 12 kD (.int .i64 l[i].Message.Tag.Seq)
   have hD6 : ∀ b, P6 b → ¬ (b = w.heap.size ∨ Fi b) := by
    intro b hb q
    have h1 := (I6.out b hb).1
    simp only [New] at h1
    rcases q with rfl | q
    ·exact absurd hg.2 kO
    ·have h2 := (hFi b q).2
     omega
   have HM := kY _ (fun b => P6 b) l[i] (dR HA.upd hD6 HR6.out) (fun k hk => hk)
   have hP1 : ∀ b, (P6 b) → New wr b := by
    intro b hb
    exact (I6.out b hb).1
   have HRowB := CL.out _ _ l[i] _ (New w) HA HM (fun b hb => .inr (fun q => by have h1 := hP1 b hb; have h2 := q.2; simp only [New] at h1; omega)) (fun _ q => q.1) (fun b hb => by have h1 := hP1 b hb; simp only [New] at h1 ⊢; omega)
   rw [iC (by simp) (by simpa using hlt)] at HRowB
   go_roundg (gk - 1)
   case measure => omega
   case rel => exact ⟨i + 1, by omega, by go_num, ⟨HRowB⟩, ⟨by repeat (with_reducible first | exact HU1.out | apply Upd.dG)⟩⟩
  ·go_wp2
   go_ret
   have HRowB := HR.out
   rw [iA (by simp) (by simp; omega)] at HRowB
   exact ⟨_, rfl, HRowB, HU.out⟩
theorem sz_Outgoing (x : GOutgoing) (cs : List Value) (n : Int) (w : World) (h : iH.K w x cs) (hb : nC x) (h0 : 0 ≤ n) (h1 : n ≤ 1048576) : Calls Tryz.prog 156 #[.agg cs.toArray, .int .i64 n] w (RetSz (dH x) n w) := by
 obtain ⟨A6, c6, rfl, hl6, hC6⟩ := oK h
 have HC6 := Sd.mk hC6
 clear hC6
 have b_Message := hb
 unfold nC at b_Message
 have B_Message := Sd.mk b_Message
 clear b_Message
 go_enter Tryz.func156, Tryz.ntmps156
 go_wp2_with fail
 with_reducible refine (sz_Message x.Message _ _ _ (nT _ _ hl6 ?hc_Message) B_Message.out kO kO).mono ?_
 case hc_Message => exact bK kA HC6.out
 rintro e w_Message ⟨r_Message, rfl, hr_Message, hu⟩
 have HB_Message : Sd (Upd No w w_Message) := Sd.mk (Upd.then kA hu)
 have cc0_Message := fun o => hu.bF (b := w.heap.size) kB (fun q => q) o
 have hz_Message : w.heap.size + 1 ≤ w_Message.heap.size := by have := hu.size; (try simp at this); omega
 clear hu
 rcases hr_Message with ⟨q_Message, rfl⟩ | ⟨q_Message, rfl⟩
 case inr =>
  go_wp2
  go_ret
  exact ⟨_, rfl, .inr ⟨by unfold dH; omega, rfl⟩, (by repeat (with_reducible first | exact HB_Message.out | apply Upd.dL | apply Upd.dK | apply Upd.dG | apply Upd.alloc | apply Upd.drewN | apply Upd.drew))⟩
 go_wp2
 go_ret
 exact ⟨_, rfl, .inl ⟨by unfold dH; omega, by unfold dH; omega⟩, (by repeat (with_reducible first | exact HB_Message.out | apply Upd.dL | apply Upd.dK | apply Upd.dG | apply Upd.alloc | apply Upd.drewN | apply Upd.drew))⟩
theorem szS_Outgoing (l : List GOutgoing) (A : Option Addr) (c : Nat) (n : Int) (w : World) (h : C iH w A l) (hb : ∀ y ∈ l, nC y) (h0 : 0 ≤ n) (h1 : n ≤ 1048576) : Calls Tryz.prog 88 #[.slice A l.length c, .int .i64 n] w (RetSz (bN dH l) n w) := by
 have hn := h.1
 have H := Sd.mk h
 clear h
 have HBD := Sd.mk hb
 clear hb
 go_enter Tryz.func88, Tryz.ntmps88
 by_cases q0 : (l.length : Int) ≤ n
 case neg =>
  go_wp2
  go_ret
  exact ⟨_, rfl, .inr ⟨by unfold bN; omega, rfl⟩, Upd.refl _ _⟩
 go_wp2
 go_loopg [1, 5] l.length (fun k u v wr => ∃ i : Nat, i + k = l.length ∧ (gX dH (l.take i) : Int) ≤ n - l.length ∧ u = .int .i64 (n - l.length - gX dH (l.take i)) ∧ v = .int .i64 i ∧ Sd (Upd No w wr))
 case atStart => exact ⟨0, by omega, by simp [gX]; omega, by simp [gX], rfl, ⟨Upd.refl _ _⟩⟩
 case round =>
  obtain ⟨i, hi, hle, rfl, rfl, HU⟩ := hrel
  by_cases hlt : i < l.length
  ·obtain ⟨ad, A6, c6, rfl, a0, a1, a2, a3, a4, a5, a6, a7, a8, a9, a10, a11, a12, hl6, hC6⟩ := kl_Outgoing_at (bK HU.out H.out) i hlt
   have HC6 := Sd.mk hC6
   clear hC6
   have hst := sumS_step dH l i hlt
   have HST := Sd.mk (mO dH l i hlt)
   generalize hs : gX dH (l.take i) = s at *
   have HS := Sd.mk hs
   clear hs
   go_wp2_with fail
   with_reducible refine (sz_Outgoing l[i] _ _ _ (kl_Outgoing_Kmk _ _ hl6 HC6.out) (HBD.out _ (List.getElem_mem hlt)) kO kO).mono ?_
   rintro e w1 ⟨r, rfl, hr, hu⟩
   have HU1 := Sd.mk (HU.out.then hu)
   clear hu HU
   rcases hr with ⟨q, rfl⟩ | ⟨q, rfl⟩
   ·go_wp2
    go_roundg (gk - 1)
    case measure => omega
    case rel => exact ⟨i + 1, by omega, by rw [HST.out]; omega, by rw [HST.out]; exact congrArg (Value.int .i64) kO, by go_num, HU1⟩
   ·go_wp2
    go_ret
    exact ⟨_, rfl, .inr ⟨by unfold bN; omega, rfl⟩, HU1.out⟩
  ·go_wp2
   go_ret
   have e : l.take i = l := List.take_of_length_le kO
   rw [e] at hle
   exact ⟨_, rfl, .inl ⟨by unfold bN; omega, by rw [e]; unfold bN; omega⟩, HU.out⟩
theorem eq_Outgoing (x : GOutgoing) (cs cs' : List Value) (w : World) (h : aP.K w x cs) (h' : aP.K w x cs') : Calls Tryz.prog 172 #[.agg cs.toArray, .agg cs'.toArray] w (eX true w) := by
 obtain ⟨A6, c6, rfl, hl6, hC6⟩ := lJ h
 have HC6 := Sd.mk hC6
 clear hC6
 obtain ⟨B6, b6, rfl, hm6, hD6⟩ := lJ h'
 have HD6 := Sd.mk hD6
 clear hD6
 go_enter Tryz.func172, Tryz.ntmps172
 go_wp2_with fail
 with_reducible refine (eq_Message x.Message _ _ _ (kZ _ _ hl6 ?hc_Message) (kZ _ _ hm6 ?hd_Message)).mono ?_
 case hc_Message => exact bK kA HC6.out
 case hd_Message => exact bK kA HD6.out
 rintro e w_Message ⟨rfl, hu⟩
 have HB_Message : Sd (Upd No w w_Message) := Sd.mk (Upd.then kA hu)
 have cc0_Message := fun o => hu.bF (b := w.heap.size) kB (fun q => q) o
 have cc1_Message := fun o => hu.bF (b := w.heap.size + 1) kB (fun q => q) o
 have hz_Message : w.heap.size + 1 + 1 ≤ w_Message.heap.size := by have := hu.size; (try simp at this); omega
 clear hu
 go_wp2
 go_ret
 exact ⟨rfl, (by repeat (with_reducible first | exact HB_Message.out | apply Upd.dL | apply Upd.dK | apply Upd.dG | apply Upd.alloc | apply Upd.drewN | apply Upd.drew))⟩
theorem eqS_Outgoing (l : List GOutgoing) (A A' : Option Addr) (c c' : Nat) (w : World) (h : C aP w A l) (h' : C aP w A' l) : Calls Tryz.prog 105 #[.slice A l.length c, .slice A' l.length c'] w (eX true w) := by
 have hn := h.1
 have H := Sd.mk h
 have H' := Sd.mk h'
 clear h h'
 go_enter Tryz.func105, Tryz.ntmps105
 go_wp2
 go_loopg [5] l.length (fun k v wr => ∃ i : Nat, i + k = l.length ∧ v = .int .i64 i ∧ Sd (Upd No w wr))
 case atStart => exact ⟨0, by omega, rfl, ⟨Upd.refl _ _⟩⟩
 case round =>
  obtain ⟨i, hi, rfl, HU⟩ := hrel
  by_cases hlt : i < l.length
  ·obtain ⟨ad, A6, c6, rfl, a0, a1, a2, a3, a4, a5, a6, a7, a8, a9, a10, a11, a12, hl6, hC6⟩ := nS (bK HU.out H.out) i hlt
   obtain ⟨ad', B6, b6, rfl, z0, z1, z2, z3, z4, z5, z6, z7, z8, z9, z10, z11, z12, hm6, hD6⟩ := nS (bK HU.out H'.out) i hlt
   have HC6 := Sd.mk hC6
   have HD6 := Sd.mk hD6
   clear hC6 hD6
   go_wp2_with fail
   go_still_tail 8, kR
   change wpList _ _ _ _ _ wr.drew
   have HW : Sd (Upd No wr wr.drew) := ⟨(Upd.refl _ _).drew⟩
   have HU2 : Sd (Upd No w wr.drew) := ⟨HU.out.drew⟩
   generalize wr.drew = w2 at *
   go_wp2_with (go_at_call 172; (with_reducible refine (eq_Outgoing l[i] _ _ _ (ki_Outgoing_Kmk _ _ hl6 (bK HW.out HC6.out)) (ki_Outgoing_Kmk _ _ hm6 (bK HW.out HD6.out))).mono ?_); rintro e w' ⟨rfl, hu⟩)
   have HU3 := Sd.mk (HU2.out.then hu)
   clear HU2 hu
   go_wp2
   go_roundg (gk - 1)
   case measure => omega
   case rel => exact ⟨i + 1, by omega, by go_num, HU3⟩
  ·go_wp2
   go_ret
   exact ⟨rfl, HU.out⟩
theorem markS_Outgoing (l : List GOutgoing) (k : Int) (F : Nat → Prop) (v : Value) (w : World) (h : R aP 147 w F v l) (hk : 0 ≤ k) (hb : k + bU cK l ≤ 4611686018427387904) : Calls Tryz.prog 110 #[v, .int .i64 k] w (Marks aP 147 F v (k + bU cK l) (mkS iG cK k l) w) := by
 obtain ⟨A, c, rfl⟩ := dA h
 have hn := R_len h
 have H := Sd.mk h
 clear h
 go_enter Tryz.func110, Tryz.ntmps110
 go_wp2
 go_loopg [1, 5] l.length (fun r u v wr => ∃ i : Nat, i + r = l.length ∧ u = .int .i64 (k + bU cK (l.take i)) ∧ v = .int .i64 i ∧ Sd (R aP 147 wr F (.slice A l.length c) (upTo (mkS iG cK k l) l i)) ∧ Sd (Upd F w wr))
 case atStart => exact ⟨0, by omega, by simp [bU], rfl, ⟨by rw [gK]; exact H.out⟩, ⟨Upd.refl _ _⟩⟩
 case round =>
  obtain ⟨i, hi, rfl, rfl, HR, HU⟩ := hrel
  by_cases hlt : i < l.length
  ·have hle := fA cK iO l i
   have hst := gF cK l i hlt
   have hle2 := fA cK iO l (i + 1)
   rw [hst] at hle2
   have HST := Sd.mk hst
   clear hst
   have HMA := Sd.mk (jX iG cK l k i hlt)
   obtain ⟨g, cap, cur, ce, Fi, hv, hcap, hat, hM, hg, hFi, hFg, close⟩ := kN HR.out 13 l.length rfl (iB (dM _ _ _ _) kO) i l[i] (iX (dM _ _ _ _) hlt)
   cases hv
   obtain ⟨v6, P6, rfl, hR6, i6⟩ := oL hM
   obtain ⟨B6, b6, rfl⟩ := dA hR6
   have HR6 := Sd.mk hR6
   have I6 := Sd.mk i6
   have N6 : ¬ P6 g := fun q => hFg (i6 g q)
   clear hR6 i6
   have nn6 := fE cZ jS l[i].Message.dI
   have HCN : Sd (cK l[i] = cK l[i]) := ⟨rfl⟩
   simp only [cK] at hle2
   generalize hq : k + bU cK (l.take i) = q at *
   have HQ := Sd.mk hq
   have hq0 : 0 ≤ q := by omega
   have hqb : q + (((((((((((((0 + 1) + 1) + 1) + 1) + 1) + 1) + bU cZ l[i].Message.dI) + 1) + 1) + 1) + 1) + 1) + 1) ≤ 4611686018427387904 := by omega
   clear hq hle hle2 hb
   generalize hcn6 : bU cZ l[i].Message.dI = cn6 at *
   have HC6 := Sd.mk hcn6
   clear hcn6
   have HAT := Sd.mk hat
   have x0_s := hat.cell0 _ rfl
   have x1_s := hat.cell 1 _ rfl
   have x2_s := hat.cell 2 _ rfl
   have x3_s := hat.cell 3 _ rfl
   have x4_s := hat.cell 4 _ rfl
   have x5_s := hat.cell 5 _ rfl
   have x6_s := hat.cell 6 _ rfl
   have x7_s := hat.cell 7 _ rfl
   have x8_s := hat.cell 8 _ rfl
   have x9_s := hat.cell 9 _ rfl
   have x10_s := hat.cell 10 _ rfl
   have x11_s := hat.cell 11 _ rfl
   have x12_s := hat.cell 12 _ rfl
   have f0_s := hat.free (i * 13)
   have f1_s := hat.free (i * 13 + 1)
   have f2_s := hat.free (i * 13 + 2)
   have f3_s := hat.free (i * 13 + 3)
   have f4_s := hat.free (i * 13 + 4)
   have f5_s := hat.free (i * 13 + 5)
   have f6_s := hat.free (i * 13 + 6)
   have f7_s := hat.free (i * 13 + 7)
   have f8_s := hat.free (i * 13 + 8)
   have f9_s := hat.free (i * 13 + 9)
   have f10_s := hat.free (i * 13 + 10)
   have f11_s := hat.free (i * 13 + 11)
   have f12_s := hat.free (i * 13 + 12)
   have CL := Sd.mk close
   clear hat close hM HR
   go_wp2_with fail
   with_reducible refine (markText_c _ _ kO kO).mono ?_
   rintro e w_Message_Name ⟨rfl, hu⟩
   replace HR6 := Sd.mk (dR hu (fun _ _ q => q) (dR (G := fun b => b = g) kC (fun b hb hg' => N6 (hg' ▸ hb)) HR6.out))
   replace HAT := Sd.mk ((((((HAT.out.set0 kD (.int .i64 (q))).set 1 kD (.int .i64 ((q + 1)))).set 2 kD (.int .i64 (((q + 1) + 1)))).set 3 kD (.int .i64 ((((q + 1) + 1) + 1)))).set 4 kD (.int .i64 (((((q + 1) + 1) + 1) + 1)))).call hu (fun _ q => q.elim) hFg)
   clear hu x0_s f0_s x1_s f1_s x2_s f2_s x3_s f3_s x4_s f4_s x5_s f5_s x6_s f6_s x7_s f7_s x8_s f8_s x9_s f9_s x10_s f10_s x11_s f11_s x12_s f12_s
   have x0_Message_Name := HAT.out.cell0 _ rfl
   have x1_Message_Name := HAT.out.cell 1 _ rfl
   have x2_Message_Name := HAT.out.cell 2 _ rfl
   have x3_Message_Name := HAT.out.cell 3 _ rfl
   have x4_Message_Name := HAT.out.cell 4 _ rfl
   have x5_Message_Name := HAT.out.cell 5 _ rfl
   have x6_Message_Name := HAT.out.cell 6 _ rfl
   have x7_Message_Name := HAT.out.cell 7 _ rfl
   have x8_Message_Name := HAT.out.cell 8 _ rfl
   have x9_Message_Name := HAT.out.cell 9 _ rfl
   have x10_Message_Name := HAT.out.cell 10 _ rfl
   have x11_Message_Name := HAT.out.cell 11 _ rfl
   have x12_Message_Name := HAT.out.cell 12 _ rfl
   have f0_Message_Name := HAT.out.free (i * 13)
   have f1_Message_Name := HAT.out.free (i * 13 + 1)
   have f2_Message_Name := HAT.out.free (i * 13 + 2)
   have f3_Message_Name := HAT.out.free (i * 13 + 3)
   have f4_Message_Name := HAT.out.free (i * 13 + 4)
   have f5_Message_Name := HAT.out.free (i * 13 + 5)
   have f6_Message_Name := HAT.out.free (i * 13 + 6)
   have f7_Message_Name := HAT.out.free (i * 13 + 7)
   have f8_Message_Name := HAT.out.free (i * 13 + 8)
   have f9_Message_Name := HAT.out.free (i * 13 + 9)
   have f10_Message_Name := HAT.out.free (i * 13 + 10)
   have f11_Message_Name := HAT.out.free (i * 13 + 11)
   have f12_Message_Name := HAT.out.free (i * 13 + 12)
   go_wp2_with fail
   with_reducible refine (markS_Wire l[i].Message.dI _ P6 _ _ ?hr_Message_Args kO (by rw [HC6.out]; omega)).mono ?_
   case hr_Message_Args => exact (dR (G := fun b => b = g) kC (fun b hb hg' => N6 (hg' ▸ hb)) HR6.out)
   rintro e w_Message_Args ⟨rfl, hR6, hu⟩
   rw [HC6.out]
   replace HR6 := Sd.mk hR6
   replace HAT := Sd.mk ((HAT.out.set 5 kD (.string (mtx ((((((q + 1) + 1) + 1) + 1) + 1))))).call hu I6.out hFg)
   clear hR6
   clear hu x0_Message_Name f0_Message_Name x1_Message_Name f1_Message_Name x2_Message_Name f2_Message_Name x3_Message_Name f3_Message_Name x4_Message_Name f4_Message_Name x5_Message_Name f5_Message_Name x6_Message_Name f6_Message_Name x7_Message_Name f7_Message_Name x8_Message_Name f8_Message_Name x9_Message_Name f9_Message_Name x10_Message_Name f10_Message_Name x11_Message_Name f11_Message_Name x12_Message_Name f12_Message_Name
   have x0_Message_Args := HAT.out.cell0 _ rfl
   have x1_Message_Args := HAT.out.cell 1 _ rfl
   have x2_Message_Args := HAT.out.cell 2 _ rfl
   have x3_Message_Args := HAT.out.cell 3 _ rfl
   have x4_Message_Args := HAT.out.cell 4 _ rfl
   have x5_Message_Args := HAT.out.cell 5 _ rfl
   have x6_Message_Args := HAT.out.cell 6 _ rfl
   have x7_Message_Args := HAT.out.cell 7 _ rfl
   have x8_Message_Args := HAT.out.cell 8 _ rfl
   have x9_Message_Args := HAT.out.cell 9 _ rfl
   have x10_Message_Args := HAT.out.cell 10 _ rfl
   have x11_Message_Args := HAT.out.cell 11 _ rfl
   have x12_Message_Args := HAT.out.cell 12 _ rfl
   have f0_Message_Args := HAT.out.free (i * 13)
   have f1_Message_Args := HAT.out.free (i * 13 + 1)
   have f2_Message_Args := HAT.out.free (i * 13 + 2)
   have f3_Message_Args := HAT.out.free (i * 13 + 3)
   have f4_Message_Args := HAT.out.free (i * 13 + 4)
   have f5_Message_Args := HAT.out.free (i * 13 + 5)
   have f6_Message_Args := HAT.out.free (i * 13 + 6)
   have f7_Message_Args := HAT.out.free (i * 13 + 7)
   have f8_Message_Args := HAT.out.free (i * 13 + 8)
   have f9_Message_Args := HAT.out.free (i * 13 + 9)
   have f10_Message_Args := HAT.out.free (i * 13 + 10)
   have f11_Message_Args := HAT.out.free (i * 13 + 11)
   have f12_Message_Args := HAT.out.free (i * 13 + 12)
   go_wp2
   have HA := ((((((HAT.out.set 7 kD (.int .i64 ((((((((q + 1) + 1) + 1) + 1) + 1) + 1) + cn6)))).set 8 kD (.int .i64 (((((((((q + 1) + 1) + 1) + 1) + 1) + 1) + cn6) + 1)))).set 9 kD (.int .i64 ((((((((((q + 1) + 1) + 1) + 1) + 1) + 1) + cn6) + 1) + 1)))).set 10 kD (.int .i64 (((((((((((q + 1) + 1) + 1) + 1) + 1) + 1) + cn6) + 1) + 1) + 1)))).set 11 kD (.int .i64 ((((((((((((q + 1) + 1) + 1) + 1) + 1) + 1) + cn6) + 1) + 1) + 1) + 1)))).set 12 kD (.int .i64 (((((((((((((q + 1) + 1) + 1) + 1) + 1) + 1) + cn6) + 1) + 1) + 1) + 1) + 1))))
   have hy : (⟨q, ⟨(q + 1), ((q + 1) + 1), (((q + 1) + 1) + 1), ((((q + 1) + 1) + 1) + 1), mtx ((((((q + 1) + 1) + 1) + 1) + 1)), mkS j5 cZ ((((((q + 1) + 1) + 1) + 1) + 1) + 1) l[i].Message.dI, ⟨(((((((q + 1) + 1) + 1) + 1) + 1) + 1) + cn6), ((((((((q + 1) + 1) + 1) + 1) + 1) + 1) + cn6) + 1)⟩, (((((((((q + 1) + 1) + 1) + 1) + 1) + 1) + cn6) + 1) + 1), ⟨((((((((((q + 1) + 1) + 1) + 1) + 1) + 1) + cn6) + 1) + 1) + 1), (((((((((((q + 1) + 1) + 1) + 1) + 1) + 1) + cn6) + 1) + 1) + 1) + 1), ((((((((((((q + 1) + 1) + 1) + 1) + 1) + 1) + cn6) + 1) + 1) + 1) + 1) + 1)⟩⟩⟩ : GOutgoing) = (mkS iG cK k l)[i]'(by rw [dM]; exact hlt) := by rw [HMA.out]; simp only [iG, HC6.out]
   have HRowB := CL.out _ _ (⟨q, ⟨(q + 1), ((q + 1) + 1), (((q + 1) + 1) + 1), ((((q + 1) + 1) + 1) + 1), mtx ((((((q + 1) + 1) + 1) + 1) + 1)), mkS j5 cZ ((((((q + 1) + 1) + 1) + 1) + 1) + 1) l[i].Message.dI, ⟨(((((((q + 1) + 1) + 1) + 1) + 1) + 1) + cn6), ((((((((q + 1) + 1) + 1) + 1) + 1) + 1) + cn6) + 1)⟩, (((((((((q + 1) + 1) + 1) + 1) + 1) + 1) + cn6) + 1) + 1), ⟨((((((((((q + 1) + 1) + 1) + 1) + 1) + 1) + cn6) + 1) + 1) + 1), (((((((((((q + 1) + 1) + 1) + 1) + 1) + 1) + cn6) + 1) + 1) + 1) + 1), ((((((((((((q + 1) + 1) + 1) + 1) + 1) + 1) + cn6) + 1) + 1) + 1) + 1) + 1)⟩⟩⟩ : GOutgoing) Fi F HA (kY _ Fi (⟨q, ⟨(q + 1), ((q + 1) + 1), (((q + 1) + 1) + 1), ((((q + 1) + 1) + 1) + 1), mtx ((((((q + 1) + 1) + 1) + 1) + 1)), mkS j5 cZ ((((((q + 1) + 1) + 1) + 1) + 1) + 1) l[i].Message.dI, ⟨(((((((q + 1) + 1) + 1) + 1) + 1) + 1) + cn6), ((((((((q + 1) + 1) + 1) + 1) + 1) + 1) + cn6) + 1)⟩, (((((((((q + 1) + 1) + 1) + 1) + 1) + 1) + cn6) + 1) + 1), ⟨((((((((((q + 1) + 1) + 1) + 1) + 1) + 1) + cn6) + 1) + 1) + 1), (((((((((((q + 1) + 1) + 1) + 1) + 1) + 1) + cn6) + 1) + 1) + 1) + 1), ((((((((((((q + 1) + 1) + 1) + 1) + 1) + 1) + cn6) + 1) + 1) + 1) + 1) + 1)⟩⟩⟩ : GOutgoing) (dR (G := fun b => b = g) kC (fun b hb hg' => N6 (hg' ▸ hb)) HR6.out) I6.out) (fun _ hb => .inl hb) (fun _ hb => hb) hFi
   rw [hy, iC (dM _ _ _ _) hlt] at HRowB
   go_roundg (gk - 1)
   case measure => omega
   case rel => exact ⟨i + 1, by omega, by rw [HST.out]; simp only [cK]; have := HQ.out; have := HC6.out; exact congrArg (Value.int .i64) kO, by go_num, ⟨HRowB⟩, ⟨HU.out.trans HA.upd (fun _ _ hb => hb) (fun b _ hb => by rcases hb with rfl | hb; exact hg; exact hFi b hb)⟩⟩
  ·go_wp2
   go_ret
   have HRowB := HR.out
   rw [iA (dM _ _ _ _) kO] at HRowB
   have e : l.take i = l := List.take_of_length_le kO
   exact ⟨gJ (by rw [e]), HRowB, HU.out⟩
theorem heldS_Outgoing (l : List GOutgoing) (k : Int) (A : Option Addr) (c : Nat) (w : World) (h : C aP w A (mkS iG cK k l)) (hk : 0 ≤ k) (hb : k + bU cK l ≤ 4611686018427387904) : Calls Tryz.prog 114 #[.slice A l.length c, .int .i64 k] w (lQ (k + bU cK l) w) := by
 have hn := h.1
 rw [dM] at hn
 have H := Sd.mk h
 clear h
 go_enter Tryz.func114, Tryz.ntmps114
 go_wp2
 go_loopg [1, 5] l.length (fun r u v wr => ∃ i : Nat, i + r = l.length ∧ u = .int .i64 (k + bU cK (l.take i)) ∧ v = .int .i64 i ∧ Sd (Upd No w wr))
 case atStart => exact ⟨0, by omega, by simp [bU], rfl, ⟨Upd.refl _ _⟩⟩
 case round =>
  obtain ⟨i, hi, rfl, rfl, HU⟩ := hrel
  by_cases hlt : i < l.length
  ·have hle := fA cK iO l i
   have hst := gF cK l i hlt
   have hle2 := fA cK iO l (i + 1)
   rw [hst] at hle2
   have HST := Sd.mk hst
   clear hst
   obtain ⟨ad, A6, c6, rfl, a0, a1, a2, a3, a4, a5, a6, a7, a8, a9, a10, a11, a12, hl6, hC6⟩ := nS (bK HU.out H.out) i (by rw [dM]; exact hlt)
   rw [jX iG cK l k i hlt] at a0 a1 a2 a3 a4 a5 a6 a7 a8 a9 a10 a11 a12 hl6 hC6
   simp only [iG, dM] at a0 a1 a2 a3 a4 a5 a6 a7 a8 a9 a10 a11 a12 hl6 hC6
   have nn6 := fE cZ jS l[i].Message.dI
   simp only [cK] at hle2
   generalize hq : k + bU cK (l.take i) = q at *
   have HQ := Sd.mk hq
   have hq0 : 0 ≤ q := by omega
   have hqb : q + (((((((((((((0 + 1) + 1) + 1) + 1) + 1) + 1) + bU cZ l[i].Message.dI) + 1) + 1) + 1) + 1) + 1) + 1) ≤ 4611686018427387904 := by omega
   clear hq hle hle2 hb
   generalize hcn6 : bU cZ l[i].Message.dI = cn6 at *
   have HN6 := Sd.mk hcn6
   clear hcn6
   have HC6 := Sd.mk hC6
   clear hC6
   have HX := Sd.mk (Upd.refl No wr)
   go_wp2_with fail
   go_region_held3 (fun w' => w'.cell? ⟨(ad.add (i * 13)).block, (ad.add (i * 13)).off + 5, none⟩ = some (.string (mtx (((((q + 1) + 1) + 1) + 1) + 1)))) (first | exact a5 | exact hu_Message_Name.read a5) (first | (go_at_call 83; (with_reducible refine (markText_c _ _ kO kO).mono ?_); rintro e w_Message_Name ⟨rfl, hu_Message_Name⟩))
   rename_i hH_Message_Name
   clear hH_Message_Name
   have HY : Sd (Upd No wr w_Message_Name) := Sd.mk ((Upd.refl _ _).drew.then hu_Message_Name)
   clear hu_Message_Name
   replace a0 := HY.out.read a0
   replace a1 := HY.out.read a1
   replace a2 := HY.out.read a2
   replace a3 := HY.out.read a3
   replace a4 := HY.out.read a4
   replace a5 := HY.out.read a5
   replace a6 := HY.out.read a6
   replace a7 := HY.out.read a7
   replace a8 := HY.out.read a8
   replace a9 := HY.out.read a9
   replace a10 := HY.out.read a10
   replace a11 := HY.out.read a11
   replace a12 := HY.out.read a12
   replace HC6 := Sd.mk (bK HY.out HC6.out)
   replace HX := Sd.mk (HX.out.then HY.out)
   clear HY
   go_wp2_with fail
   with_reducible refine (heldS_Wire l[i].Message.dI _ _ _ _ ?hc_Message_Args kO (by rw [HN6.out]; omega)).mono ?_
   case hc_Message_Args => exact HC6.out
   rintro e w_Message_Args ⟨rfl, hu⟩
   rw [HN6.out]
   replace a0 := hu.read a0
   replace a1 := hu.read a1
   replace a2 := hu.read a2
   replace a3 := hu.read a3
   replace a4 := hu.read a4
   replace a5 := hu.read a5
   replace a6 := hu.read a6
   replace a7 := hu.read a7
   replace a8 := hu.read a8
   replace a9 := hu.read a9
   replace a10 := hu.read a10
   replace a11 := hu.read a11
   replace a12 := hu.read a12
   replace HC6 := Sd.mk (bK hu HC6.out)
   replace HX := Sd.mk (HX.out.then hu)
   clear hu
   go_wp2
   go_roundg (gk - 1)
   case measure => omega
   case rel => exact ⟨i + 1, by omega, by rw [HST.out]; simp only [cK]; have := HQ.out; have := HN6.out; exact congrArg (Value.int .i64) kO, by go_num, ⟨HU.out.then HX.out⟩⟩
  ·go_wp2
   go_ret
   have e : l.take i = l := List.take_of_length_le kO
   exact ⟨gJ (by rw [e]), HU.out⟩
theorem fM (w : World) (x : GVat) {A1 : Option Addr} {c1 : Nat} (hl1 : x.aA.length ≤ c1) (hC1 : C aJ w A1 x.aA) {A2 : Option Addr} {c2 : Nat} (hl2 : x.Loop.length ≤ c2) (hC2 : C aX w A2 x.Loop) {A3 : Option Addr} {c3 : Nat} (hl3 : x.aD.length ≤ c3) (hC3 : C aO w A3 x.aD) {A4 : Option Addr} {c4 : Nat} (hl4 : x.Out.length ≤ c4) (hC4 : C aP w A4 x.Out) : aG.K w x [.int .i64 x.Id, .slice A1 x.aA.length c1, .slice A2 x.Loop.length c2, .slice A3 x.aD.length c3, .slice A4 x.Out.length c4] := ⟨[_], [_, _, _, _], rfl, rfl, ⟨[_], [_, _, _], rfl, ⟨A1, c1, rfl, hl1, hC1⟩, ⟨[_], [_, _], rfl, ⟨A2, c2, rfl, hl2, hC2⟩, ⟨[_], [_], rfl, ⟨A3, c3, rfl, hl3, hC3⟩, ⟨A4, c4, rfl, hl4, hC4⟩⟩⟩⟩⟩
theorem lH (x : GVat) (cs : List Value) (w : World) (h : kl_Vat.K w x cs) (hs : bR x ≤ 1048576) : Calls Tryz.prog 27 #[.agg cs.toArray] w (jJ aG x w) := by
 obtain ⟨A1, c1, A2, c2, A3, c3, A4, c4, rfl, hl1, hC1, hl2, hC2, hl3, hC3, hl4, hC4⟩ := kl_Vat_K h
 have HC1 := Sd.mk hC1
 have HC2 := Sd.mk hC2
 have HC3 := Sd.mk hC3
 have HC4 := Sd.mk hC4
 clear hC1 hC2 hC3 hC4
 have s_Entities : bN dD x.aA ≤ 1048576 := by unfold bR at hs; omega
 have s_Loop : bN dX x.Loop ≤ 1048576 := by unfold bR at hs; omega
 have s_Links : bN bQ x.aD ≤ 1048576 := by unfold bR at hs; omega
 have s_Out : bN dH x.Out ≤ 1048576 := by unfold bR at hs; omega
 clear hs
 go_enter Tryz.func27, Tryz.ntmps27
 go_wp2_with fail
 with_reducible refine (toS_Entity x.aA _ _ _ ?hc_Entities s_Entities).mono ?_
 case hc_Entities => exact bK kA HC1.out
 rintro e w_Entities ⟨v1, rfl, hR1, hu⟩
 obtain ⟨B1, b1, rfl⟩ := dA hR1
 obtain ⟨P1, hR1', g1, l1⟩ := iV hR1 (w.heap.size + 1 + 1 + 1) kB
 have ge1 : ∀ b, P1 b → w.heap.size + 1 + 1 < b := fun b hb => by have := g1 b hb; omega
 have n1_1 : ¬ P1 (w.heap.size + 1) := fun q => by have := ge1 _ q; omega
 have n2_1 : ¬ P1 (w.heap.size + 1 + 1) := fun q => by have := ge1 _ q; omega
 have HR1 := Sd.mk hR1'
 have GE1 := Sd.mk ge1
 have LT1 := Sd.mk l1
 have GP1 := Sd.mk g1
 clear hR1 hR1' ge1 l1 g1
 have HB_Entities : Sd (Upd No w w_Entities) := Sd.mk (Upd.then kA hu)
 have cc0_Entities := fun o => hu.bF (b := w.heap.size) kB (fun q => q) o
 have cc1_Entities := fun o => hu.bF (b := w.heap.size + 1) kB (fun q => q) o
 have cf1_Entities := fun o => hu.bV (b := w.heap.size + 1) kB (fun q => q) o
 have cc2_Entities := fun o => hu.bF (b := w.heap.size + 1 + 1) kB (fun q => q) o
 have cf2_Entities := fun o => hu.bV (b := w.heap.size + 1 + 1) kB (fun q => q) o
 have hz_Entities : w.heap.size + 1 + 1 + 1 ≤ w_Entities.heap.size := by have := hu.size; (try simp at this); omega
 clear hu
 go_wp2_with fail
 with_reducible refine (toS_Sent x.Loop _ _ _ ?hc_Loop s_Loop).mono ?_
 case hc_Loop => exact bK (by repeat (with_reducible first | exact HB_Entities.out | apply Upd.dL | apply Upd.dK | apply Upd.dG | apply Upd.alloc | apply Upd.drewN | apply Upd.drew)) HC2.out
 rintro e w_Loop ⟨v2, rfl, hR2, hu⟩
 obtain ⟨B2, b2, rfl⟩ := dA hR2
 obtain ⟨P2, hR2', g2, l2⟩ := iV hR2 (w_Entities.heap.size) kB
 have ge2 : ∀ b, P2 b → w.heap.size + 1 + 1 < b := fun b hb => by have := g2 b hb; have := hz_Entities; omega
 have n1_2 : ¬ P2 (w.heap.size + 1) := fun q => by have := ge2 _ q; omega
 have n2_2 : ¬ P2 (w.heap.size + 1 + 1) := fun q => by have := ge2 _ q; omega
 have HR2 := Sd.mk hR2'
 have GE2 := Sd.mk ge2
 have LT2 := Sd.mk l2
 have GP2 := Sd.mk g2
 clear hR2 hR2' ge2 l2 g2
 have HR1 := Sd.mk (dR hu (fun _ _ q => q) (fH HR1.out (by repeat (with_reducible first | exact Upd.refl _ _ | apply Upd.eZ n1_1 | apply Upd.eZ n2_1 | apply Upd.alloc))))
 have HB_Loop : Sd (Upd No w w_Loop) := Sd.mk (Upd.then (by repeat (with_reducible first | exact HB_Entities.out | apply Upd.dL | apply Upd.dK | apply Upd.dG | apply Upd.alloc | apply Upd.drewN | apply Upd.drew)) hu)
 have cc0_Loop := fun o => hu.bF (b := w.heap.size) kB (fun q => q) o
 have cc1_Loop := fun o => hu.bF (b := w.heap.size + 1) kB (fun q => q) o
 have cf1_Loop := fun o => hu.bV (b := w.heap.size + 1) kB (fun q => q) o
 have cc2_Loop := fun o => hu.bF (b := w.heap.size + 1 + 1) kB (fun q => q) o
 have cf2_Loop := fun o => hu.bV (b := w.heap.size + 1 + 1) kB (fun q => q) o
 have hz_Loop : w.heap.size + 1 + 1 + 1 ≤ w_Loop.heap.size := by have := hu.size; (try simp at this); omega
 have hm_Loop : w_Entities.heap.size ≤ w_Loop.heap.size := by have := hu.size; (try simp at this); omega
 clear hu
 go_wp2_with fail
 with_reducible refine (toS_Link x.aD _ _ _ ?hc_Links s_Links).mono ?_
 case hc_Links => exact bK (by repeat (with_reducible first | exact HB_Loop.out | apply Upd.dL | apply Upd.dK | apply Upd.dG | apply Upd.alloc | apply Upd.drewN | apply Upd.drew)) HC3.out
 rintro e w_Links ⟨v3, rfl, hR3, hu⟩
 obtain ⟨B3, b3, rfl⟩ := dA hR3
 obtain ⟨P3, hR3', g3, l3⟩ := iV hR3 (w_Loop.heap.size) kB
 have ge3 : ∀ b, P3 b → w.heap.size + 1 + 1 < b := fun b hb => by have := g3 b hb; have := hz_Loop; omega
 have n1_3 : ¬ P3 (w.heap.size + 1) := fun q => by have := ge3 _ q; omega
 have n2_3 : ¬ P3 (w.heap.size + 1 + 1) := fun q => by have := ge3 _ q; omega
 have HR3 := Sd.mk hR3'
 have GE3 := Sd.mk ge3
 have LT3 := Sd.mk l3
 have GP3 := Sd.mk g3
 clear hR3 hR3' ge3 l3 g3
 have HR1 := Sd.mk (dR hu (fun _ _ q => q) (fH HR1.out (by repeat (with_reducible first | exact Upd.refl _ _ | apply Upd.eZ n1_1 | apply Upd.eZ n2_1 | apply Upd.alloc))))
 have HR2 := Sd.mk (dR hu (fun _ _ q => q) (fH HR2.out (by repeat (with_reducible first | exact Upd.refl _ _ | apply Upd.eZ n1_2 | apply Upd.eZ n2_2 | apply Upd.alloc))))
 have HB_Links : Sd (Upd No w w_Links) := Sd.mk (Upd.then (by repeat (with_reducible first | exact HB_Loop.out | apply Upd.dL | apply Upd.dK | apply Upd.dG | apply Upd.alloc | apply Upd.drewN | apply Upd.drew)) hu)
 have cc0_Links := fun o => hu.bF (b := w.heap.size) kB (fun q => q) o
 have cc1_Links := fun o => hu.bF (b := w.heap.size + 1) kB (fun q => q) o
 have cf1_Links := fun o => hu.bV (b := w.heap.size + 1) kB (fun q => q) o
 have cc2_Links := fun o => hu.bF (b := w.heap.size + 1 + 1) kB (fun q => q) o
 have cf2_Links := fun o => hu.bV (b := w.heap.size + 1 + 1) kB (fun q => q) o
 have hz_Links : w.heap.size + 1 + 1 + 1 ≤ w_Links.heap.size := by have := hu.size; (try simp at this); omega
 have hm_Links : w_Loop.heap.size ≤ w_Links.heap.size := by have := hu.size; (try simp at this); omega
 clear hu
 go_wp2_with fail
 with_reducible refine (toS_Outgoing x.Out _ _ _ ?hc_Out s_Out).mono ?_
 case hc_Out => exact bK (by repeat (with_reducible first | exact HB_Links.out | apply Upd.dL | apply Upd.dK | apply Upd.dG | apply Upd.alloc | apply Upd.drewN | apply Upd.drew)) HC4.out
 rintro e w_Out ⟨v4, rfl, hR4, hu⟩
 obtain ⟨B4, b4, rfl⟩ := dA hR4
 obtain ⟨P4, hR4', g4, l4⟩ := iV hR4 (w_Links.heap.size) kB
 have ge4 : ∀ b, P4 b → w.heap.size + 1 + 1 < b := fun b hb => by have := g4 b hb; have := hz_Links; omega
 have n1_4 : ¬ P4 (w.heap.size + 1) := fun q => by have := ge4 _ q; omega
 have n2_4 : ¬ P4 (w.heap.size + 1 + 1) := fun q => by have := ge4 _ q; omega
 have HR4 := Sd.mk hR4'
 have GE4 := Sd.mk ge4
 have LT4 := Sd.mk l4
 have GP4 := Sd.mk g4
 clear hR4 hR4' ge4 l4 g4
 have HR1 := Sd.mk (dR hu (fun _ _ q => q) (fH HR1.out (by repeat (with_reducible first | exact Upd.refl _ _ | apply Upd.eZ n1_1 | apply Upd.eZ n2_1 | apply Upd.alloc))))
 have HR2 := Sd.mk (dR hu (fun _ _ q => q) (fH HR2.out (by repeat (with_reducible first | exact Upd.refl _ _ | apply Upd.eZ n1_2 | apply Upd.eZ n2_2 | apply Upd.alloc))))
 have HR3 := Sd.mk (dR hu (fun _ _ q => q) (fH HR3.out (by repeat (with_reducible first | exact Upd.refl _ _ | apply Upd.eZ n1_3 | apply Upd.eZ n2_3 | apply Upd.alloc))))
 have HB_Out : Sd (Upd No w w_Out) := Sd.mk (Upd.then (by repeat (with_reducible first | exact HB_Links.out | apply Upd.dL | apply Upd.dK | apply Upd.dG | apply Upd.alloc | apply Upd.drewN | apply Upd.drew)) hu)
 have cc0_Out := fun o => hu.bF (b := w.heap.size) kB (fun q => q) o
 have cc1_Out := fun o => hu.bF (b := w.heap.size + 1) kB (fun q => q) o
 have cf1_Out := fun o => hu.bV (b := w.heap.size + 1) kB (fun q => q) o
 have cc2_Out := fun o => hu.bF (b := w.heap.size + 1 + 1) kB (fun q => q) o
 have cf2_Out := fun o => hu.bV (b := w.heap.size + 1 + 1) kB (fun q => q) o
 have hz_Out : w.heap.size + 1 + 1 + 1 ≤ w_Out.heap.size := by have := hu.size; (try simp at this); omega
 have hm_Out : w_Links.heap.size ≤ w_Out.heap.size := by have := hu.size; (try simp at this); omega
 clear hu
 go_wp2
 refine bodyPost_ret (v := .agg #[.int .i64 x.Id, .slice B1 x.aA.length b1, .slice B2 x.Loop.length b2, .slice B3 x.aD.length b3, .slice B4 x.Out.length b4]) (by simp [results, Tryz.results27, go_sem, cc1_Entities, cc1_Loop, cc1_Links, cc1_Out]) rfl ⟨_, rfl, ?_, (by repeat (with_reducible first | exact HB_Out.out | apply Upd.dL | apply Upd.dK | apply Upd.dG | apply Upd.alloc | apply Upd.drewN | apply Upd.drew))⟩
 exact ki_Vat_mk _ _ _ (fH HR1.out (by repeat (with_reducible first | exact Upd.refl _ _ | apply Upd.eZ n1_1 | apply Upd.eZ n2_1 | apply Upd.alloc))) (fH HR2.out (by repeat (with_reducible first | exact Upd.refl _ _ | apply Upd.eZ n1_2 | apply Upd.eZ n2_2 | apply Upd.alloc))) (fH HR3.out (by repeat (with_reducible first | exact Upd.refl _ _ | apply Upd.eZ n1_3 | apply Upd.eZ n2_3 | apply Upd.alloc))) (fH HR4.out (by repeat (with_reducible first | exact Upd.refl _ _ | apply Upd.eZ n1_4 | apply Upd.eZ n2_4 | apply Upd.alloc))) (fun k hk => by have := GE1.out k hk; simp only [New]; omega) (fun k hk => by have := GE2.out k hk; simp only [New]; omega) (fun k hk => by have := GE3.out k hk; simp only [New]; omega) (fun k hk => by have := GE4.out k hk; simp only [New]; omega) (fun k hk hk' => by have h1 := LT1.out k hk; have h2 := GP2.out k hk'; omega) (fun k hk hk' => by have h1 := LT1.out k hk; have h2 := GP3.out k hk'; have := hm_Loop; omega) (fun k hk hk' => by have h1 := LT1.out k hk; have h2 := GP4.out k hk'; have := hm_Loop; have := hm_Links; omega) (fun k hk hk' => by have h1 := LT2.out k hk; have h2 := GP3.out k hk'; omega) (fun k hk hk' => by have h1 := LT2.out k hk; have h2 := GP4.out k hk'; have := hm_Links; omega) (fun k hk hk' => by have h1 := LT3.out k hk; have h2 := GP4.out k hk'; omega)
theorem sz_Vat (x : GVat) (cs : List Value) (n : Int) (w : World) (h : kl_Vat.K w x cs) (hb : Bd_Vat x) (h0 : 0 ≤ n) (h1 : n ≤ 1048576) : Calls Tryz.prog 24 #[.agg cs.toArray, .int .i64 n] w (RetSz (bR x) n w) := by
 obtain ⟨A1, c1, A2, c2, A3, c3, A4, c4, rfl, hl1, hC1, hl2, hC2, hl3, hC3, hl4, hC4⟩ := kl_Vat_K h
 have HC1 := Sd.mk hC1
 have HC2 := Sd.mk hC2
 have HC3 := Sd.mk hC3
 have HC4 := Sd.mk hC4
 clear hC1 hC2 hC3 hC4
 obtain ⟨b_Entities, b_Loop, b_Out⟩ := hb
 have B_Entities := Sd.mk b_Entities
 clear b_Entities
 have B_Loop := Sd.mk b_Loop
 clear b_Loop
 have B_Out := Sd.mk b_Out
 clear b_Out
 go_enter Tryz.func24, Tryz.ntmps24
 go_wp2_with fail
 with_reducible refine (szS_Entity x.aA _ _ _ _ ?hc_Entities B_Entities.out kO kO).mono ?_
 case hc_Entities => exact bK kA HC1.out
 rintro e w_Entities ⟨r_Entities, rfl, hr_Entities, hu⟩
 have HB_Entities : Sd (Upd No w w_Entities) := Sd.mk (Upd.then kA hu)
 have cc0_Entities := fun o => hu.bF (b := w.heap.size) kB (fun q => q) o
 have hz_Entities : w.heap.size + 1 ≤ w_Entities.heap.size := by have := hu.size; (try simp at this); omega
 clear hu
 rcases hr_Entities with ⟨q_Entities, rfl⟩ | ⟨q_Entities, rfl⟩
 case inr =>
  go_wp2
  go_ret
  exact ⟨_, rfl, .inr ⟨by unfold bR; omega, rfl⟩, (by repeat (with_reducible first | exact HB_Entities.out | apply Upd.dL | apply Upd.dK | apply Upd.dG | apply Upd.alloc | apply Upd.drewN | apply Upd.drew))⟩
 go_wp2_with fail
 with_reducible refine (szS_Sent x.Loop _ _ _ _ ?hc_Loop B_Loop.out kO kO).mono ?_
 case hc_Loop => exact bK (by repeat (with_reducible first | exact HB_Entities.out | apply Upd.dL | apply Upd.dK | apply Upd.dG | apply Upd.alloc | apply Upd.drewN | apply Upd.drew)) HC2.out
 rintro e w_Loop ⟨r_Loop, rfl, hr_Loop, hu⟩
 have HB_Loop : Sd (Upd No w w_Loop) := Sd.mk (Upd.then (by repeat (with_reducible first | exact HB_Entities.out | apply Upd.dL | apply Upd.dK | apply Upd.dG | apply Upd.alloc | apply Upd.drewN | apply Upd.drew)) hu)
 have cc0_Loop := fun o => hu.bF (b := w.heap.size) kB (fun q => q) o
 have hz_Loop : w.heap.size + 1 ≤ w_Loop.heap.size := by have := hu.size; (try simp at this); omega
 clear hu
 rcases hr_Loop with ⟨q_Loop, rfl⟩ | ⟨q_Loop, rfl⟩
 case inr =>
  go_wp2
  go_ret
  exact ⟨_, rfl, .inr ⟨by unfold bR; omega, rfl⟩, (by repeat (with_reducible first | exact HB_Loop.out | apply Upd.dL | apply Upd.dK | apply Upd.dG | apply Upd.alloc | apply Upd.drewN | apply Upd.drew))⟩
 go_wp2_with fail
 with_reducible refine (szS_Link x.aD _ _ _ _ ?hc_Links kO kO).mono ?_
 case hc_Links => exact bK (by repeat (with_reducible first | exact HB_Loop.out | apply Upd.dL | apply Upd.dK | apply Upd.dG | apply Upd.alloc | apply Upd.drewN | apply Upd.drew)) HC3.out
 rintro e w_Links ⟨r_Links, rfl, hr_Links, hu⟩
 have HB_Links : Sd (Upd No w w_Links) := Sd.mk (Upd.then (by repeat (with_reducible first | exact HB_Loop.out | apply Upd.dL | apply Upd.dK | apply Upd.dG | apply Upd.alloc | apply Upd.drewN | apply Upd.drew)) hu)
 have cc0_Links := fun o => hu.bF (b := w.heap.size) kB (fun q => q) o
 have hz_Links : w.heap.size + 1 ≤ w_Links.heap.size := by have := hu.size; (try simp at this); omega
 clear hu
 rcases hr_Links with ⟨q_Links, rfl⟩ | ⟨q_Links, rfl⟩
 case inr =>
  go_wp2
  go_ret
  exact ⟨_, rfl, .inr ⟨by unfold bR; omega, rfl⟩, (by repeat (with_reducible first | exact HB_Links.out | apply Upd.dL | apply Upd.dK | apply Upd.dG | apply Upd.alloc | apply Upd.drewN | apply Upd.drew))⟩
 go_wp2_with fail
 with_reducible refine (szS_Outgoing x.Out _ _ _ _ ?hc_Out B_Out.out kO kO).mono ?_
 case hc_Out => exact bK (by repeat (with_reducible first | exact HB_Links.out | apply Upd.dL | apply Upd.dK | apply Upd.dG | apply Upd.alloc | apply Upd.drewN | apply Upd.drew)) HC4.out
 rintro e w_Out ⟨r_Out, rfl, hr_Out, hu⟩
 have HB_Out : Sd (Upd No w w_Out) := Sd.mk (Upd.then (by repeat (with_reducible first | exact HB_Links.out | apply Upd.dL | apply Upd.dK | apply Upd.dG | apply Upd.alloc | apply Upd.drewN | apply Upd.drew)) hu)
 have cc0_Out := fun o => hu.bF (b := w.heap.size) kB (fun q => q) o
 have hz_Out : w.heap.size + 1 ≤ w_Out.heap.size := by have := hu.size; (try simp at this); omega
 clear hu
 rcases hr_Out with ⟨q_Out, rfl⟩ | ⟨q_Out, rfl⟩
 case inr =>
  go_wp2
  go_ret
  exact ⟨_, rfl, .inr ⟨by unfold bR; omega, rfl⟩, (by repeat (with_reducible first | exact HB_Out.out | apply Upd.dL | apply Upd.dK | apply Upd.dG | apply Upd.alloc | apply Upd.drewN | apply Upd.drew))⟩
 go_wp2
 go_ret
 exact ⟨_, rfl, .inl ⟨by unfold bR; omega, by unfold bR; omega⟩, (by repeat (with_reducible first | exact HB_Out.out | apply Upd.dL | apply Upd.dK | apply Upd.dG | apply Upd.alloc | apply Upd.drewN | apply Upd.drew))⟩
theorem eq_Vat (x : GVat) (cs cs' : List Value) (w : World) (h : aG.K w x cs) (h' : aG.K w x cs') : Calls Tryz.prog 30 #[.agg cs.toArray, .agg cs'.toArray] w (eX true w) := by
 obtain ⟨A1, c1, A2, c2, A3, c3, A4, c4, rfl, hl1, hC1, hl2, hC2, hl3, hC3, hl4, hC4⟩ := kJ h
 have HC1 := Sd.mk hC1
 have HC2 := Sd.mk hC2
 have HC3 := Sd.mk hC3
 have HC4 := Sd.mk hC4
 clear hC1 hC2 hC3 hC4
 obtain ⟨B1, b1, B2, b2, B3, b3, B4, b4, rfl, hm1, hD1, hm2, hD2, hm3, hD3, hm4, hD4⟩ := kJ h'
 have HD1 := Sd.mk hD1
 have HD2 := Sd.mk hD2
 have HD3 := Sd.mk hD3
 have HD4 := Sd.mk hD4
 clear hD1 hD2 hD3 hD4
 go_enter Tryz.func30, Tryz.ntmps30
 go_wp2_with fail
 with_reducible refine (eqS_Entity x.aA _ _ _ _ _ ?hc_Entities ?hd_Entities).mono ?_
 case hc_Entities => exact bK kA HC1.out
 case hd_Entities => exact bK kA HD1.out
 rintro e w_Entities ⟨rfl, hu⟩
 have HB_Entities : Sd (Upd No w w_Entities) := Sd.mk (Upd.then kA hu)
 have cc0_Entities := fun o => hu.bF (b := w.heap.size) kB (fun q => q) o
 have cc1_Entities := fun o => hu.bF (b := w.heap.size + 1) kB (fun q => q) o
 have hz_Entities : w.heap.size + 1 + 1 ≤ w_Entities.heap.size := by have := hu.size; (try simp at this); omega
 clear hu
 go_wp2_with fail
 with_reducible refine (eqS_Sent x.Loop _ _ _ _ _ ?hc_Loop ?hd_Loop).mono ?_
 case hc_Loop => exact bK (by repeat (with_reducible first | exact HB_Entities.out | apply Upd.dL | apply Upd.dK | apply Upd.dG | apply Upd.alloc | apply Upd.drewN | apply Upd.drew)) HC2.out
 case hd_Loop => exact bK (by repeat (with_reducible first | exact HB_Entities.out | apply Upd.dL | apply Upd.dK | apply Upd.dG | apply Upd.alloc | apply Upd.drewN | apply Upd.drew)) HD2.out
 rintro e w_Loop ⟨rfl, hu⟩
 have HB_Loop : Sd (Upd No w w_Loop) := Sd.mk (Upd.then (by repeat (with_reducible first | exact HB_Entities.out | apply Upd.dL | apply Upd.dK | apply Upd.dG | apply Upd.alloc | apply Upd.drewN | apply Upd.drew)) hu)
 have cc0_Loop := fun o => hu.bF (b := w.heap.size) kB (fun q => q) o
 have cc1_Loop := fun o => hu.bF (b := w.heap.size + 1) kB (fun q => q) o
 have hz_Loop : w.heap.size + 1 + 1 ≤ w_Loop.heap.size := by have := hu.size; (try simp at this); omega
 clear hu
 go_wp2_with fail
 with_reducible refine (eqS_Link x.aD _ _ _ _ _ ?hc_Links ?hd_Links).mono ?_
 case hc_Links => exact bK (by repeat (with_reducible first | exact HB_Loop.out | apply Upd.dL | apply Upd.dK | apply Upd.dG | apply Upd.alloc | apply Upd.drewN | apply Upd.drew)) HC3.out
 case hd_Links => exact bK (by repeat (with_reducible first | exact HB_Loop.out | apply Upd.dL | apply Upd.dK | apply Upd.dG | apply Upd.alloc | apply Upd.drewN | apply Upd.drew)) HD3.out
 rintro e w_Links ⟨rfl, hu⟩
 have HB_Links : Sd (Upd No w w_Links) := Sd.mk (Upd.then (by repeat (with_reducible first | exact HB_Loop.out | apply Upd.dL | apply Upd.dK | apply Upd.dG | apply Upd.alloc | apply Upd.drewN | apply Upd.drew)) hu)
 have cc0_Links := fun o => hu.bF (b := w.heap.size) kB (fun q => q) o
 have cc1_Links := fun o => hu.bF (b := w.heap.size + 1) kB (fun q => q) o
 have hz_Links : w.heap.size + 1 + 1 ≤ w_Links.heap.size := by have := hu.size; (try simp at this); omega
 clear hu
 go_wp2_with fail
 with_reducible refine (eqS_Outgoing x.Out _ _ _ _ _ ?hc_Out ?hd_Out).mono ?_
 case hc_Out => exact bK (by repeat (with_reducible first | exact HB_Links.out | apply Upd.dL | apply Upd.dK | apply Upd.dG | apply Upd.alloc | apply Upd.drewN | apply Upd.drew)) HC4.out
 case hd_Out => exact bK (by repeat (with_reducible first | exact HB_Links.out | apply Upd.dL | apply Upd.dK | apply Upd.dG | apply Upd.alloc | apply Upd.drewN | apply Upd.drew)) HD4.out
 rintro e w_Out ⟨rfl, hu⟩
 have HB_Out : Sd (Upd No w w_Out) := Sd.mk (Upd.then (by repeat (with_reducible first | exact HB_Links.out | apply Upd.dL | apply Upd.dK | apply Upd.dG | apply Upd.alloc | apply Upd.drewN | apply Upd.drew)) hu)
 have cc0_Out := fun o => hu.bF (b := w.heap.size) kB (fun q => q) o
 have cc1_Out := fun o => hu.bF (b := w.heap.size + 1) kB (fun q => q) o
 have hz_Out : w.heap.size + 1 + 1 ≤ w_Out.heap.size := by have := hu.size; (try simp at this); omega
 clear hu
 go_wp2
 go_ret
 exact ⟨rfl, (by repeat (with_reducible first | exact HB_Out.out | apply Upd.dL | apply Upd.dK | apply Upd.dG | apply Upd.alloc | apply Upd.drewN | apply Upd.drew))⟩
theorem oC (x : GVat) (k : Int) (F : Nat → Prop) (cs : List Value) (w : World) (h : aG.M w F x cs) (hk : 0 ≤ k) (hb : k + bL x ≤ 4611686018427387904) : Calls Tryz.prog 32 #[.agg cs.toArray, .int .i64 k] w (MarksV aG F cs (k + bL x) (bM k x) w) := by
 obtain ⟨v1, P1, v2, P2, v3, P3, v4, P4, rfl, hR1, hR2, hR3, hR4, i1, i2, i3, i4, d1_2, d1_3, d1_4, d2_3, d2_4, d3_4⟩ := ki_Vat_M (aG.M_lt h)
 obtain ⟨B1, b1, rfl⟩ := dA hR1
 have HR1 := Sd.mk hR1
 have I1 := Sd.mk (fun b q => (i1 b q).1)
 have L1 := Sd.mk (fun b q => (i1 b q).2)
 clear hR1 i1
 have nn1 := fE dN jK x.aA
 obtain ⟨B2, b2, rfl⟩ := dA hR2
 have HR2 := Sd.mk hR2
 have I2 := Sd.mk (fun b q => (i2 b q).1)
 have L2 := Sd.mk (fun b q => (i2 b q).2)
 clear hR2 i2
 have nn2 := fE dJ iU x.Loop
 obtain ⟨B3, b3, rfl⟩ := dA hR3
 have HR3 := Sd.mk hR3
 have I3 := Sd.mk (fun b q => (i3 b q).1)
 have L3 := Sd.mk (fun b q => (i3 b q).2)
 clear hR3 i3
 have nn3 := fE dZ kW x.aD
 obtain ⟨B4, b4, rfl⟩ := dA hR4
 have HR4 := Sd.mk hR4
 have I4 := Sd.mk (fun b q => (i4 b q).1)
 have L4 := Sd.mk (fun b q => (i4 b q).2)
 clear hR4 i4
 have nn4 := fE cK iO x.Out
 have D1_2 := Sd.mk d1_2
 clear d1_2
 have D1_3 := Sd.mk d1_3
 clear d1_3
 have D1_4 := Sd.mk d1_4
 clear d1_4
 have D2_3 := Sd.mk d2_3
 clear d2_3
 have D2_4 := Sd.mk d2_4
 clear d2_4
 have D3_4 := Sd.mk d3_4
 clear d3_4
 clear h
 unfold bL at hb
 generalize hcn1 : bU dN x.aA = cn1 at *
 have HC1 := Sd.mk hcn1
 clear hcn1
 generalize hcn2 : bU dJ x.Loop = cn2 at *
 have HC2 := Sd.mk hcn2
 clear hcn2
 generalize hcn3 : bU dZ x.aD = cn3 at *
 have HC3 := Sd.mk hcn3
 clear hcn3
 generalize hcn4 : bU cK x.Out = cn4 at *
 have HC4 := Sd.mk hcn4
 clear hcn4
 go_enter Tryz.func32, Tryz.ntmps32
 go_wp2_with fail
 with_reducible refine (markS_Entity x.aA _ P1 _ _ ?hr1 kO (by rw [HC1.out]; omega)).mono ?_
 case hr1 => exact dR ((Upd.refl No w).alloc _) (fun _ _ q => q) HR1.out
 rintro e w_1 ⟨rfl, hR1, hu⟩
 rw [HC1.out]
 replace HR2 := Sd.mk (dR hu (fun b hb hg' => D1_2.out b hg' hb) (dR ((Upd.refl No w).alloc _) (fun _ _ q => q) HR2.out))
 replace HR3 := Sd.mk (dR hu (fun b hb hg' => D1_3.out b hg' hb) (dR ((Upd.refl No w).alloc _) (fun _ _ q => q) HR3.out))
 replace HR4 := Sd.mk (dR hu (fun b hb hg' => D1_4.out b hg' hb) (dR ((Upd.refl No w).alloc _) (fun _ _ q => q) HR4.out))
 replace HR1 := Sd.mk hR1
 have cc_1 := fun o => hu.bF (b := w.heap.size) kB (fun q => absurd (L1.out _ q) (Nat.lt_irrefl _)) o
 have hz_1 : w.heap.size + 1 ≤ w_1.heap.size := by have := hu.size; (try simp at this); omega
 have HU_1 : Sd (Upd F w w_1) := Sd.mk (Upd.trans ((Upd.refl No w).alloc _) hu (fun _ _ q => q.elim) (fun b _ q => I1.out b q))
 clear hu hR1
 go_wp2_with fail
 with_reducible refine (markS_Sent x.Loop _ P2 _ _ ?hr2 kO (by rw [HC2.out]; omega)).mono ?_
 case hr2 => exact HR2.out
 rintro e w_2 ⟨rfl, hR2, hu⟩
 rw [HC2.out]
 replace HR1 := Sd.mk (dR hu (fun b hb hg' => D1_2.out b hb hg') (HR1.out))
 replace HR3 := Sd.mk (dR hu (fun b hb hg' => D2_3.out b hg' hb) (HR3.out))
 replace HR4 := Sd.mk (dR hu (fun b hb hg' => D2_4.out b hg' hb) (HR4.out))
 replace HR2 := Sd.mk hR2
 have cc_2 := fun o => hu.bF (b := w.heap.size) kB (fun q => absurd (L2.out _ q) (Nat.lt_irrefl _)) o
 have hz_2 : w.heap.size + 1 ≤ w_2.heap.size := by have := hu.size; (try simp at this); omega
 have HU_2 : Sd (Upd F w w_2) := Sd.mk (HU_1.out.trans hu (fun _ _ q => q) (fun b _ q => I2.out b q))
 clear hu hR2
 go_wp2_with fail
 with_reducible refine (markS_Link x.aD _ P3 _ _ ?hr3 kO (by rw [HC3.out]; omega)).mono ?_
 case hr3 => exact HR3.out
 rintro e w_3 ⟨rfl, hR3, hu⟩
 rw [HC3.out]
 replace HR1 := Sd.mk (dR hu (fun b hb hg' => D1_3.out b hb hg') (HR1.out))
 replace HR2 := Sd.mk (dR hu (fun b hb hg' => D2_3.out b hb hg') (HR2.out))
 replace HR4 := Sd.mk (dR hu (fun b hb hg' => D3_4.out b hg' hb) (HR4.out))
 replace HR3 := Sd.mk hR3
 have cc_3 := fun o => hu.bF (b := w.heap.size) kB (fun q => absurd (L3.out _ q) (Nat.lt_irrefl _)) o
 have hz_3 : w.heap.size + 1 ≤ w_3.heap.size := by have := hu.size; (try simp at this); omega
 have HU_3 : Sd (Upd F w w_3) := Sd.mk (HU_2.out.trans hu (fun _ _ q => q) (fun b _ q => I3.out b q))
 clear hu hR3
 go_wp2_with fail
 with_reducible refine (markS_Outgoing x.Out _ P4 _ _ ?hr4 kO (by rw [HC4.out]; omega)).mono ?_
 case hr4 => exact HR4.out
 rintro e w_4 ⟨rfl, hR4, hu⟩
 rw [HC4.out]
 replace HR1 := Sd.mk (dR hu (fun b hb hg' => D1_4.out b hb hg') (HR1.out))
 replace HR2 := Sd.mk (dR hu (fun b hb hg' => D2_4.out b hb hg') (HR2.out))
 replace HR3 := Sd.mk (dR hu (fun b hb hg' => D3_4.out b hb hg') (HR3.out))
 replace HR4 := Sd.mk hR4
 have cc_4 := fun o => hu.bF (b := w.heap.size) kB (fun q => absurd (L4.out _ q) (Nat.lt_irrefl _)) o
 have hz_4 : w.heap.size + 1 ≤ w_4.heap.size := by have := hu.size; (try simp at this); omega
 have HU_4 : Sd (Upd F w w_4) := Sd.mk (HU_3.out.trans hu (fun _ _ q => q) (fun b _ q => I4.out b q))
 clear hu hR4
 have hy : (⟨x.Id, mkS jQ dN k x.aA, mkS j3 dJ (k + cn1) x.Loop, mkS mF dZ ((k + cn1) + cn2) x.aD, mkS iG cK (((k + cn1) + cn2) + cn3) x.Out⟩ : GVat) = bM k x := by simp only [bM, HC1.out, HC2.out, HC3.out, HC4.out]
 have hc : bL x = ((((0 + cn1) + cn2) + cn3) + cn4) := by simp only [bL, HC1.out, HC2.out, HC3.out, HC4.out]
 have HMM := ki_Vat_mk w_4 F (⟨x.Id, mkS jQ dN k x.aA, mkS j3 dJ (k + cn1) x.Loop, mkS mF dZ ((k + cn1) + cn2) x.aD, mkS iG cK (((k + cn1) + cn2) + cn3) x.Out⟩ : GVat) HR1.out HR2.out HR3.out HR4.out I1.out I2.out I3.out I4.out D1_2.out D1_3.out D1_4.out D2_3.out D2_4.out D3_4.out
 rw [hy] at HMM
 have HMM' := Sd.mk HMM
 have Hc := Sd.mk hc
 clear HMM hy hc
 go_wp2
 go_ret
 exact ⟨gJ (by rw [Hc.out]; omega), HMM'.out, HU_4.out⟩
theorem oD (x : GVat) (k : Int) (cs : List Value) (w : World) (h : aG.K w (bM k x) cs) (hk : 0 ≤ k) (hb : k + bL x ≤ 4611686018427387904) : Calls Tryz.prog 34 #[.agg cs.toArray, .int .i64 k] w (lQ (k + bL x) w) := by
 obtain ⟨A1, c1, A2, c2, A3, c3, A4, c4, rfl, hl1, hC1, hl2, hC2, hl3, hC3, hl4, hC4⟩ := kJ h
 clear h
 simp only [bM, dM] at hl1 hC1 hl2 hC2 hl3 hC3 hl4 hC4
 simp only [bM, dM]
 have nn1 := fE dN jK x.aA
 have nn2 := fE dJ iU x.Loop
 have nn3 := fE dZ kW x.aD
 have nn4 := fE cK iO x.Out
 unfold bL at hb
 generalize hcn1 : bU dN x.aA = cn1 at *
 have HN1 := Sd.mk hcn1
 clear hcn1
 have HC1 := Sd.mk hC1
 clear hC1
 generalize hcn2 : bU dJ x.Loop = cn2 at *
 have HN2 := Sd.mk hcn2
 clear hcn2
 have HC2 := Sd.mk hC2
 clear hC2
 generalize hcn3 : bU dZ x.aD = cn3 at *
 have HN3 := Sd.mk hcn3
 clear hcn3
 have HC3 := Sd.mk hC3
 clear hC3
 generalize hcn4 : bU cK x.Out = cn4 at *
 have HN4 := Sd.mk hcn4
 clear hcn4
 have HC4 := Sd.mk hC4
 clear hC4
 go_enter Tryz.func34, Tryz.ntmps34
 go_wp2_with fail
 with_reducible refine (heldS_Entity x.aA _ _ _ _ ?hc1 kO (by rw [HN1.out]; omega)).mono ?_
 case hc1 => exact bK kA HC1.out
 rintro e w_1 ⟨rfl, hu⟩
 rw [HN1.out]
 have HB_1 : Sd (Upd No w w_1) := Sd.mk (Upd.then kA hu)
 have cc_1 := fun o => hu.bF (b := w.heap.size) kB (fun q => q) o
 have hz_1 : w.heap.size + 1 ≤ w_1.heap.size := by have := hu.size; (try simp at this); omega
 clear hu
 go_wp2_with fail
 with_reducible refine (heldS_Sent x.Loop _ _ _ _ ?hc2 kO (by rw [HN2.out]; omega)).mono ?_
 case hc2 => exact bK (by repeat (with_reducible first | exact HB_1.out | apply Upd.dL | apply Upd.dK | apply Upd.dG | apply Upd.alloc | apply Upd.drewN | apply Upd.drew)) HC2.out
 rintro e w_2 ⟨rfl, hu⟩
 rw [HN2.out]
 have HB_2 : Sd (Upd No w w_2) := Sd.mk (Upd.then (by repeat (with_reducible first | exact HB_1.out | apply Upd.dL | apply Upd.dK | apply Upd.dG | apply Upd.alloc | apply Upd.drewN | apply Upd.drew)) hu)
 have cc_2 := fun o => hu.bF (b := w.heap.size) kB (fun q => q) o
 have hz_2 : w.heap.size + 1 ≤ w_2.heap.size := by have := hu.size; (try simp at this); omega
 clear hu
 go_wp2_with fail
 with_reducible refine (heldS_Link x.aD _ _ _ _ ?hc3 kO (by rw [HN3.out]; omega)).mono ?_
 case hc3 => exact bK (by repeat (with_reducible first | exact HB_2.out | apply Upd.dL | apply Upd.dK | apply Upd.dG | apply Upd.alloc | apply Upd.drewN | apply Upd.drew)) HC3.out
 rintro e w_3 ⟨rfl, hu⟩
 rw [HN3.out]
 have HB_3 : Sd (Upd No w w_3) := Sd.mk (Upd.then (by repeat (with_reducible first | exact HB_2.out | apply Upd.dL | apply Upd.dK | apply Upd.dG | apply Upd.alloc | apply Upd.drewN | apply Upd.drew)) hu)
 have cc_3 := fun o => hu.bF (b := w.heap.size) kB (fun q => q) o
 have hz_3 : w.heap.size + 1 ≤ w_3.heap.size := by have := hu.size; (try simp at this); omega
 clear hu
 go_wp2_with fail
 with_reducible refine (heldS_Outgoing x.Out _ _ _ _ ?hc4 kO (by rw [HN4.out]; omega)).mono ?_
 case hc4 => exact bK (by repeat (with_reducible first | exact HB_3.out | apply Upd.dL | apply Upd.dK | apply Upd.dG | apply Upd.alloc | apply Upd.drewN | apply Upd.drew)) HC4.out
 rintro e w_4 ⟨rfl, hu⟩
 rw [HN4.out]
 have HB_4 : Sd (Upd No w w_4) := Sd.mk (Upd.then (by repeat (with_reducible first | exact HB_3.out | apply Upd.dL | apply Upd.dK | apply Upd.dG | apply Upd.alloc | apply Upd.drewN | apply Upd.drew)) hu)
 have cc_4 := fun o => hu.bF (b := w.heap.size) kB (fun q => q) o
 have hz_4 : w.heap.size + 1 ≤ w_4.heap.size := by have := hu.size; (try simp at this); omega
 clear hu
 have Hc : Sd (bL x = ((((0 + cn1) + cn2) + cn3) + cn4)) := ⟨by simp only [bL, HN1.out, HN2.out, HN3.out, HN4.out]⟩
 go_wp2
 go_ret
 exact ⟨gJ (by rw [Hc.out]; omega), HB_4.out⟩
theorem flat_Value : Flat aT := by
 unfold aT
 repeat' first | apply flat_iso | apply flat_pair | apply mZ
theorem clone_Value (l : List GValue) (A : Option Addr) (c : Nat) (w : World) (h : C aT w A l) (hn : l.length ≤ 4194304) : Calls Tryz.prog 184 #[.slice A l.length c] w (lG aT 95 l w) := by
 have HC := Sd.mk (iM flat_Value h)
 have eqn := fun (w : World) a n c n' c' => Lib.run_eql_slice_nil (P := Tryz.prog) w 85 95 a n c n' c' Tryz.underlying85
 clear h
 go_enter Tryz.func184, Tryz.ntmps184
 rcases A with _ | ad
 ·have h0 : l = [] := by
   cases l with
   | nil => rfl
   | cons x l => obtain ⟨ad, q, _⟩ := HC.out.2 (by simp); cases q
  subst h0
  go_wp2
  go_ret
  exact ⟨_, rfl, l9, Upd.refl _ _⟩
 ·go_wp2_with (first | (at_builtin; refine kF (d := aT) (e := 95) (ys := l) (xs := []) (F := New w) rfl _ _ 85 _ _ rfl Tryz.underlying85 mW rfl kD kD (some ad) c (fun _ => No) rfl rfl (R_empty w) (CM_upd (Upd.alloc (Upd.refl _ _) _) HC.out) (fun _ _ q => q.elim) (fun _ _ _ q => q.elim) (by simp; omega) ?_) | fail)
  intro v1 w1 hR hU
  have hR' := Sd.mk hR
  have HU := Sd.mk (((Upd.refl No w).alloc (.cells #[] 95)).trans hU (fun _ _ q => q) (fun b hb q => absurd hb (by simp only [New] at q; omega)))
  clear hR hU
  go_wp2
  go_ret
  exact ⟨_, rfl, gM (fun b q => by rcases q with q | ⟨j, _, q⟩ | q <;> simp [New, No] at q ⊢ <;> omega) hR'.out, HU.out⟩
theorem flat_Asker : Flat eD := by
 unfold eD
 repeat' first | apply flat_iso | apply flat_pair | apply mZ
theorem clone_Asker (l : List GAsker) (A : Option Addr) (c : Nat) (w : World) (h : C eD w A l) (hn : l.length ≤ 4194304) : Calls Tryz.prog 209 #[.slice A l.length c] w (lG eD 285 l w) := by
 have HC := Sd.mk (iM flat_Asker h)
 have eqn := fun (w : World) a n c n' c' => Lib.run_eql_slice_nil (P := Tryz.prog) w 169 285 a n c n' c' Tryz.underlying169
 clear h
 go_enter Tryz.func209, Tryz.ntmps209
 rcases A with _ | ad
 ·have h0 : l = [] := by
   cases l with
   | nil => rfl
   | cons x l => obtain ⟨ad, q, _⟩ := HC.out.2 (by simp); cases q
  subst h0
  go_wp2
  go_ret
  exact ⟨_, rfl, l9, Upd.refl _ _⟩
 ·go_wp2_with (first | (at_builtin; refine kF (d := eD) (e := 285) (ys := l) (xs := []) (F := New w) rfl _ _ 169 _ _ rfl Tryz.underlying169 oI rfl kD kD (some ad) c (fun _ => No) rfl rfl (R_empty w) (CM_upd (Upd.alloc (Upd.refl _ _) _) HC.out) (fun _ _ q => q.elim) (fun _ _ _ q => q.elim) (by simp; omega) ?_) | fail)
  intro v1 w1 hR hU
  have hR' := Sd.mk hR
  have HU := Sd.mk (((Upd.refl No w).alloc (.cells #[] 285)).trans hU (fun _ _ q => q) (fun b hb q => absurd hb (by simp only [New] at q; omega)))
  clear hR hU
  go_wp2
  go_ret
  exact ⟨_, rfl, gM (fun b q => by rcases q with q | ⟨j, _, q⟩ | q <;> simp [New, No] at q ⊢ <;> omega) hR'.out, HU.out⟩
theorem flat_Export : Flat bC := by
 unfold bC
 repeat' first | apply flat_iso | apply flat_pair | apply mZ
theorem clone_Export (l : List GExport) (A : Option Addr) (c : Nat) (w : World) (h : C bC w A l) (hn : l.length ≤ 4194304) : Calls Tryz.prog 210 #[.slice A l.length c] w (lG bC 256 l w) := by
 have HC := Sd.mk (iM flat_Export h)
 have eqn := fun (w : World) a n c n' c' => Lib.run_eql_slice_nil (P := Tryz.prog) w 175 256 a n c n' c' Tryz.underlying175
 clear h
 go_enter Tryz.func210, Tryz.ntmps210
 rcases A with _ | ad
 ·have h0 : l = [] := by
   cases l with
   | nil => rfl
   | cons x l => obtain ⟨ad, q, _⟩ := HC.out.2 (by simp); cases q
  subst h0
  go_wp2
  go_ret
  exact ⟨_, rfl, l9, Upd.refl _ _⟩
 ·go_wp2_with (first | (at_builtin; refine kF (d := bC) (e := 256) (ys := l) (xs := []) (F := New w) rfl _ _ 175 _ _ rfl Tryz.underlying175 kX rfl kD kD (some ad) c (fun _ => No) rfl rfl (R_empty w) (CM_upd (Upd.alloc (Upd.refl _ _) _) HC.out) (fun _ _ q => q.elim) (fun _ _ _ q => q.elim) (by simp; omega) ?_) | fail)
  intro v1 w1 hR hU
  have hR' := Sd.mk hR
  have HU := Sd.mk (((Upd.refl No w).alloc (.cells #[] 256)).trans hU (fun _ _ q => q) (fun b hb q => absurd hb (by simp only [New] at q; omega)))
  clear hR hU
  go_wp2
  go_ret
  exact ⟨_, rfl, gM (fun b q => by rcases q with q | ⟨j, _, q⟩ | q <;> simp [New, No] at q ⊢ <;> omega) hR'.out, HU.out⟩
theorem oO : Flat aU := by
 unfold aU
 repeat' first | apply flat_iso | apply flat_pair | apply mZ
theorem clone_Question (l : List GQuestion) (A : Option Addr) (c : Nat) (w : World) (h : C aU w A l) (hn : l.length ≤ 4194304) : Calls Tryz.prog 211 #[.slice A l.length c] w (lG aU 289 l w) := by
 have HC := Sd.mk (iM oO h)
 have eqn := fun (w : World) a n c n' c' => Lib.run_eql_slice_nil (P := Tryz.prog) w 176 289 a n c n' c' Tryz.underlying176
 clear h
 go_enter Tryz.func211, Tryz.ntmps211
 rcases A with _ | ad
 ·have h0 : l = [] := by
   cases l with
   | nil => rfl
   | cons x l => obtain ⟨ad, q, _⟩ := HC.out.2 (by simp); cases q
  subst h0
  go_wp2
  go_ret
  exact ⟨_, rfl, l9, Upd.refl _ _⟩
 ·go_wp2_with (first | (at_builtin; refine kF (d := aU) (e := 289) (ys := l) (xs := []) (F := New w) rfl _ _ 176 _ _ rfl Tryz.underlying176 lD rfl kD kD (some ad) c (fun _ => No) rfl rfl (R_empty w) (CM_upd (Upd.alloc (Upd.refl _ _) _) HC.out) (fun _ _ q => q.elim) (fun _ _ _ q => q.elim) (by simp; omega) ?_) | fail)
  intro v1 w1 hR hU
  have hR' := Sd.mk hR
  have HU := Sd.mk (((Upd.refl No w).alloc (.cells #[] 289)).trans hU (fun _ _ q => q) (fun b hb q => absurd hb (by simp only [New] at q; omega)))
  clear hR hU
  go_wp2
  go_ret
  exact ⟨_, rfl, gM (fun b q => by rcases q with q | ⟨j, _, q⟩ | q <;> simp [New, No] at q ⊢ <;> omega) hR'.out, HU.out⟩
theorem flat_Wire : Flat bW := by
 unfold bW
 repeat' first | apply flat_iso | apply flat_pair | apply mZ
theorem clone_Wire (l : List GWire) (A : Option Addr) (c : Nat) (w : World) (h : C bW w A l) (hn : l.length ≤ 4194304) : Calls Tryz.prog 168 #[.slice A l.length c] w (lG bW 72 l w) := by
 have HC := Sd.mk (iM flat_Wire h)
 have eqn := fun (w : World) a n c n' c' => Lib.run_eql_slice_nil (P := Tryz.prog) w 71 72 a n c n' c' Tryz.underlying71
 clear h
 go_enter Tryz.func168, Tryz.ntmps168
 rcases A with _ | ad
 ·have h0 : l = [] := by
   cases l with
   | nil => rfl
   | cons x l => obtain ⟨ad, q, _⟩ := HC.out.2 (by simp); cases q
  subst h0
  go_wp2
  go_ret
  exact ⟨_, rfl, l9, Upd.refl _ _⟩
 ·go_wp2_with (first | (at_builtin; refine kF (d := bW) (e := 72) (ys := l) (xs := []) (F := New w) rfl _ _ 71 _ _ rfl Tryz.underlying71 mI rfl kD kD (some ad) c (fun _ => No) rfl rfl (R_empty w) (CM_upd (Upd.alloc (Upd.refl _ _) _) HC.out) (fun _ _ q => q.elim) (fun _ _ _ q => q.elim) (by simp; omega) ?_) | fail)
  intro v1 w1 hR hU
  have hR' := Sd.mk hR
  have HU := Sd.mk (((Upd.refl No w).alloc (.cells #[] 72)).trans hU (fun _ _ q => q) (fun b hb q => absurd hb (by simp only [New] at q; omega)))
  clear hR hU
  go_wp2
  go_ret
  exact ⟨_, rfl, gM (fun b q => by rcases q with q | ⟨j, _, q⟩ | q <;> simp [New, No] at q ⊢ <;> omega) hR'.out, HU.out⟩
end Go.Proofs.YtfnedoiplblldaaGreatFam
