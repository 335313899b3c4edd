/- What the row needs, packed. No conditions beyond those that each law names. -/
import Derived.Test.YtgaoabnnpjngcaaGreatZcu1
import Derived.Test.YtgaoabnnpjngcaaGreatProg
import Derived.WalkKit
import Derived.KernelRfl
import Derived.RowKit3
import Derived.Deep.LoopGhost
import Derived.Deep.QuietTactic
import Derived.BigQuiet
import Derived.StillTailTactics
import Derived.Deep.RegionHeld3
namespace Go.Proofs.YtgaoabnnpjngcaaGreatFam
open Go.RowKit Go.Proofs.YtgaoabnnpjngcaaGreatSep Go.Proofs.YtgaoabnnpjngcaaGreatT Go.Proofs.YtgaoabnnpjngcaaGreatK
set_option linter.unusedVariables false
set_option linter.unusedSimpArgs false
set_option maxHeartbeats 1000000
set_option maxRecDepth 100000
theorem kl_Script_Kmk (w : World) (x : GScript) {A1 : Option Addr} {c1 : Nat} (hl1 : x.Methods.length ≤ c1) (hC1 : C iF w A1 x.Methods) : jF.K w x [.string x.Name, .slice A1 x.Methods.length c1] := ⟨[_], [_], rfl, rfl, ⟨A1, c1, rfl, hl1, hC1⟩⟩
theorem ki_Script_Kmk (w : World) (x : GScript) {A1 : Option Addr} {c1 : Nat} (hl1 : x.Methods.length ≤ c1) (hC1 : C dV w A1 x.Methods) : eX.K w x [.string x.Name, .slice A1 x.Methods.length c1] := ⟨[_], [_], rfl, rfl, ⟨A1, c1, rfl, hl1, hC1⟩⟩
theorem to_Script (x : GScript) (cs : List Value) (w : World) (h : jF.K w x cs) (hs : eB x ≤ 1048576) : Calls Tryz.prog 52 #[.agg cs.toArray] w (jU eX x w) := by
 obtain ⟨A1, c1, rfl, hl1, hC1⟩ := kl_Script_K h
 have HC1 := Sd.mk hC1
 clear hC1
 have s_Methods : bB dZ x.Methods ≤ 1048576 := by unfold eB at hs; omega
 clear hs
 go_enter Tryz.func52, Tryz.ntmps52
 go_wp2_with fail
 with_reducible refine (toS_Method x.Methods _ _ _ ?hc_Methods s_Methods).mono ?_
 case hc_Methods => exact aM kA HC1.out
 rintro e w_Methods ⟨v1, rfl, hR1, hu⟩
 obtain ⟨B1, b1, rfl⟩ := aV hR1
 obtain ⟨P1, hR1', g1, l1⟩ := fP hR1 (w.heap.size + 1 + 1 + 1) kB
 have ge1 : ∀ b, P1 b → w.heap.size + 1 + 1 < b := fun b hb => by have := g1 b hb; omega
 have n1_1 : ¬ P1 (w.heap.size + 1) := fun q => by have := ge1 _ q; omega
 have n2_1 : ¬ P1 (w.heap.size + 1 + 1) := fun q => by have := ge1 _ q; omega
 have HR1 := Sd.mk hR1'
 have GE1 := Sd.mk ge1
 have LT1 := Sd.mk l1
 have GP1 := Sd.mk g1
 clear hR1 hR1' ge1 l1 g1
 have HB_Methods : Sd (Upd No w w_Methods) := Sd.mk (Upd.then kA hu)
 have cc0_Methods := fun o => hu.aI (b := w.heap.size) kB (fun q => q) o
 have cc1_Methods := fun o => hu.aI (b := w.heap.size + 1) kB (fun q => q) o
 have cf1_Methods := fun o => hu.bP (b := w.heap.size + 1) kB (fun q => q) o
 have cc2_Methods := fun o => hu.aI (b := w.heap.size + 1 + 1) kB (fun q => q) o
 have cf2_Methods := fun o => hu.bP (b := w.heap.size + 1 + 1) kB (fun q => q) o
 have hz_Methods : w.heap.size + 1 + 1 + 1 ≤ w_Methods.heap.size := by have := hu.size; (try simp at this); omega
 clear hu
 go_wp2
 refine bodyPost_ret (v := .agg #[.string x.Name, .slice B1 x.Methods.length b1]) (by simp [results, Tryz.results52, go_sem, cc1_Methods]) rfl ⟨_, rfl, ?_, (by repeat (with_reducible first | exact HB_Methods.out | apply Upd.aT | apply Upd.aS | apply Upd.aP | apply Upd.alloc | apply Upd.drewN | apply Upd.drew))⟩
 exact mZ _ _ _ (eH HR1.out (by repeat (with_reducible first | exact Upd.refl _ _ | apply Upd.eT n1_1 | apply Upd.eT n2_1 | apply Upd.alloc))) (fun k hk => by have := GE1.out k hk; simp only [New]; omega)
theorem toS_Script (l : List GScript) (A : Option Addr) (c : Nat) (w : World) (h : C jF w A l) (hs : bB eB l ≤ 1048576) : Calls Tryz.prog 25 #[.slice A l.length c] w (jH eX 73 l w) := by
 have hn : l.length ≤ 1048576 := by unfold bB at hs; omega
 have hmk := iB (P := Tryz.prog) _ _ _ Tryz.underlying30 ki_Script_info l.length hn kD
 have H := Sd.mk h
 have HS := Sd.mk hs
 clear h hs
 go_enter Tryz.func25, Tryz.ntmps25
 go_wp2
 clear hmk
 have HR : Sd (R eX 73 (w.alloc (eD (.agg #[.string ⟨#[]⟩, .slice none 0 0]) (l.length * 2) 73)) (New w) (.slice (some ⟨w.heap.size, 0, none⟩) l.length l.length) (List.replicate l.length zScript)) := Sd.mk (kL (d := eX) (e := 73) w (.agg #[.string ⟨#[]⟩, .slice none 0 0]) zScript rfl kD ki_Script_zero l.length hn)
 have HU := Sd.mk ((Upd.refl No w).alloc (eD (.agg #[.string ⟨#[]⟩, .slice none 0 0]) (l.length * 2) 73))
 go_loopg [4] l.length (fun k v wr => ∃ i : Nat, i + k = l.length ∧ v = .int .i64 i ∧ Sd (R eX 73 wr (New w) (.slice (some ⟨w.heap.size, 0, none⟩) l.length l.length) (upTo l (List.replicate l.length zScript) i)) ∧ Sd (Upd No w wr))
 case atStart => exact ⟨0, by omega, rfl, ⟨by rw [bX]; exact HR.out⟩, HU⟩
 case round =>
  clear HR HU
  obtain ⟨i, hi, rfl, HR, HU⟩ := hrel
  by_cases hlt : i < l.length
  ·obtain ⟨ad, A1, c1, rfl, a0, a1, hl1, hC1⟩ := kl_Script_at (aM HU.out H.out) i hlt
   have HC1 := Sd.mk hC1
   clear hC1
   have hsi : eB l[i] ≤ 1048576 := by have := HS.out; have := iZ eB l i hlt; unfold bB at *; omega
   go_wp2_with fail
   with_reducible refine (to_Script l[i] _ _ (kl_Script_Kmk _ _ hl1 HC1.out) hsi).mono ?_
   rintro e w1 ⟨cs, rfl, hM, hu⟩
   obtain ⟨v1, P1, rfl, hR1, i1⟩ := ki_Script_M (eX.M_lt hM)
   obtain ⟨D1, d1, rfl⟩ := aV hR1
   have HRowA := aO hu (fun _ _ q => q) (R_lt HR.out)
   have HU1 := Sd.mk (HU.out.then hu)
   have hzw := HU.out.size
   have HR1 := Sd.mk hR1
   have I1 := Sd.mk i1
   clear HR HU hM hu hR1 i1
   obtain ⟨g, cap, cur, ce, Fi, hv, hcap, hat, hM, hg, hFi, hFg, close⟩ := fV HRowA 2 l.length rfl (by rw [dH (by simp) (by simp; omega)]; simp) i zScript (by rw [eP (by simp) (by simpa using hlt)]; simp)
   cases hv
   obtain ⟨y1, _, rfl, -⟩ := ki_Script_M hM
   have HAT := Sd.mk hat
   have x0 := hat.cell0 _ rfl
   have x1 := hat.cell 1 _ rfl
   have f0 := hat.free (i * 2)
   have f1 := hat.free (i * 2 + 1)
   have CL := Sd.mk close
   clear hat close hM HRowA
   go_wp2
   have HA := (HAT.out.set0 kD (.string l[i].Name)).set 1 kD (.slice D1 l[i].Methods.length d1)
   have hD1 : ∀ b, P1 b → ¬ (b = w.heap.size ∨ Fi b) := by
    intro b hb q
    have h1 := (I1.out b hb).1
    simp only [New] at h1
    rcases q with rfl | q
    ·exact absurd hg.2 kO
    ·have h2 := (hFi b q).2
     omega
   have HM := mZ _ (fun b => P1 b) l[i] (aO HA.upd hD1 HR1.out) (fun k hk => hk)
   have hP1 : ∀ b, (P1 b) → New wr b := by
    intro b hb
    exact (I1.out b hb).1
   have HRowB := CL.out _ _ l[i] _ (New w) HA HM (fun b hb => .inr (fun q => by have h1 := hP1 b hb; have h2 := q.2; simp only [New] at h1; omega)) (fun _ q => q.1) (fun b hb => by have h1 := hP1 b hb; simp only [New] at h1 ⊢; omega)
   rw [dI (by simp) (by simpa using hlt)] at HRowB
   go_roundg (gk - 1)
   case measure => omega
   case rel => exact ⟨i + 1, by omega, by go_num, ⟨HRowB⟩, ⟨by repeat (with_reducible first | exact HU1.out | apply Upd.aP)⟩⟩
  ·go_wp2
   go_ret
   have HRowB := HR.out
   rw [dG (by simp) (by simp; omega)] at HRowB
   exact ⟨_, rfl, HRowB, HU.out⟩
theorem sz_Script (x : GScript) (cs : List Value) (n : Int) (w : World) (h : jF.K w x cs) (hb : Bd_Script x) (h0 : 0 ≤ n) (h1 : n ≤ 1048576) : Calls Tryz.prog 49 #[.agg cs.toArray, .int .i64 n] w (jA (eB x) n w) := by
 obtain ⟨A1, c1, rfl, hl1, hC1⟩ := kl_Script_K h
 have HC1 := Sd.mk hC1
 clear hC1
 obtain ⟨b_Name, b_Methods⟩ := hb
 have B_Methods := Sd.mk b_Methods
 clear b_Methods
 go_enter Tryz.func49, Tryz.ntmps49
 by_cases q_Name : ((x.Name.size : Nat) : Int) ≤ n
 case neg =>
  go_wp2
  go_ret
  exact ⟨_, rfl, .inr ⟨by unfold eB; omega, rfl⟩, kA⟩
 go_wp2_with fail
 with_reducible refine (szS_Method x.Methods _ _ _ _ ?hc_Methods B_Methods.out kO kO).mono ?_
 case hc_Methods => exact aM kA HC1.out
 rintro e w_Methods ⟨r_Methods, rfl, hr_Methods, hu⟩
 have HB_Methods : Sd (Upd No w w_Methods) := Sd.mk (Upd.then kA hu)
 have cc0_Methods := fun o => hu.aI (b := w.heap.size) kB (fun q => q) o
 have hz_Methods : w.heap.size + 1 ≤ w_Methods.heap.size := by have := hu.size; (try simp at this); omega
 clear hu
 rcases hr_Methods with ⟨q_Methods, rfl⟩ | ⟨q_Methods, rfl⟩
 case inr =>
  go_wp2
  go_ret
  exact ⟨_, rfl, .inr ⟨by unfold eB; omega, rfl⟩, (by repeat (with_reducible first | exact HB_Methods.out | apply Upd.aT | apply Upd.aS | apply Upd.aP | apply Upd.alloc | apply Upd.drewN | apply Upd.drew))⟩
 go_wp2
 go_ret
 exact ⟨_, rfl, .inl ⟨by unfold eB; omega, by unfold eB; omega⟩, (by repeat (with_reducible first | exact HB_Methods.out | apply Upd.aT | apply Upd.aS | apply Upd.aP | apply Upd.alloc | apply Upd.drewN | apply Upd.drew))⟩
theorem szS_Script (l : List GScript) (A : Option Addr) (c : Nat) (n : Int) (w : World) (h : C jF w A l) (hb : ∀ y ∈ l, Bd_Script y) (h0 : 0 ≤ n) (h1 : n ≤ 1048576) : Calls Tryz.prog 19 #[.slice A l.length c, .int .i64 n] w (jA (bB eB l) n w) := by
 have hn := h.1
 have H := Sd.mk h
 clear h
 have HBD := Sd.mk hb
 clear hb
 go_enter Tryz.func19, Tryz.ntmps19
 by_cases q0 : (l.length : Int) ≤ n
 case neg =>
  go_wp2
  go_ret
  exact ⟨_, rfl, .inr ⟨by unfold bB; omega, rfl⟩, Upd.refl _ _⟩
 go_wp2
 go_loopg [1, 5] l.length (fun k u v wr => ∃ i : Nat, i + k = l.length ∧ (eZ eB (l.take i) : Int) ≤ n - l.length ∧ u = .int .i64 (n - l.length - eZ eB (l.take i)) ∧ v = .int .i64 i ∧ Sd (Upd No w wr))
 case atStart => exact ⟨0, by omega, by simp [eZ]; omega, by simp [eZ], rfl, ⟨Upd.refl _ _⟩⟩
 case round =>
  obtain ⟨i, hi, hle, rfl, rfl, HU⟩ := hrel
  by_cases hlt : i < l.length
  ·obtain ⟨ad, A1, c1, rfl, a0, a1, hl1, hC1⟩ := kl_Script_at (aM HU.out H.out) i hlt
   have HC1 := Sd.mk hC1
   clear hC1
   have hst := jS eB l i hlt
   have HST := Sd.mk (iD eB l i hlt)
   generalize hs : eZ eB (l.take i) = s at *
   have HS := Sd.mk hs
   clear hs
   go_wp2_with fail
   with_reducible refine (sz_Script l[i] _ _ _ (kl_Script_Kmk _ _ hl1 HC1.out) (HBD.out _ (List.getElem_mem hlt)) kO kO).mono ?_
   rintro e w1 ⟨r, rfl, hr, hu⟩
   have HU1 := Sd.mk (HU.out.then hu)
   clear hu HU
   rcases hr with ⟨q, rfl⟩ | ⟨q, rfl⟩
   ·go_wp2
    go_roundg (gk - 1)
    case measure => omega
    case rel => exact ⟨i + 1, by omega, by rw [HST.out]; omega, by rw [HST.out]; exact congrArg (Value.int .i64) kO, by go_num, HU1⟩
   ·go_wp2
    go_ret
    exact ⟨_, rfl, .inr ⟨by unfold bB; omega, rfl⟩, HU1.out⟩
  ·go_wp2
   go_ret
   have e : l.take i = l := List.take_of_length_le kO
   rw [e] at hle
   exact ⟨_, rfl, .inl ⟨by unfold bB; omega, by rw [e]; unfold bB; omega⟩, HU.out⟩
theorem eq_Script (x : GScript) (cs cs' : List Value) (w : World) (h : eX.K w x cs) (h' : eX.K w x cs') : Calls Tryz.prog 58 #[.agg cs.toArray, .agg cs'.toArray] w (bU true w) := by
 obtain ⟨A1, c1, rfl, hl1, hC1⟩ := ki_Script_K h
 have HC1 := Sd.mk hC1
 clear hC1
 obtain ⟨B1, b1, rfl, hm1, hD1⟩ := ki_Script_K h'
 have HD1 := Sd.mk hD1
 clear hD1
 go_enter Tryz.func58, Tryz.ntmps58
 go_wp2_with fail
 with_reducible refine (eqS_Method x.Methods _ _ _ _ _ ?hc_Methods ?hd_Methods).mono ?_
 case hc_Methods => exact aM kA HC1.out
 case hd_Methods => exact aM kA HD1.out
 rintro e w_Methods ⟨rfl, hu⟩
 have HB_Methods : Sd (Upd No w w_Methods) := Sd.mk (Upd.then kA hu)
 have cc0_Methods := fun o => hu.aI (b := w.heap.size) kB (fun q => q) o
 have cc1_Methods := fun o => hu.aI (b := w.heap.size + 1) kB (fun q => q) o
 have hz_Methods : w.heap.size + 1 + 1 ≤ w_Methods.heap.size := by have := hu.size; (try simp at this); omega
 clear hu
 go_wp2
 go_ret
 exact ⟨rfl, (by repeat (with_reducible first | exact HB_Methods.out | apply Upd.aT | apply Upd.aS | apply Upd.aP | apply Upd.alloc | apply Upd.drewN | apply Upd.drew))⟩
theorem eqS_Script (l : List GScript) (A A' : Option Addr) (c c' : Nat) (w : World) (h : C eX w A l) (h' : C eX w A' l) : Calls Tryz.prog 30 #[.slice A l.length c, .slice A' l.length c'] w (bU true w) := by
 have hn := h.1
 have H := Sd.mk h
 have H' := Sd.mk h'
 clear h h'
 go_enter Tryz.func30, Tryz.ntmps30
 go_wp2
 go_loopg [5] l.length (fun k v wr => ∃ i : Nat, i + k = l.length ∧ v = .int .i64 i ∧ Sd (Upd No w wr))
 case atStart => exact ⟨0, by omega, rfl, ⟨Upd.refl _ _⟩⟩
 case round =>
  obtain ⟨i, hi, rfl, HU⟩ := hrel
  by_cases hlt : i < l.length
  ·obtain ⟨ad, A1, c1, rfl, a0, a1, hl1, hC1⟩ := ki_Script_at (aM HU.out H.out) i hlt
   obtain ⟨ad', B1, b1, rfl, z0, z1, hm1, hD1⟩ := ki_Script_at (aM HU.out H'.out) i hlt
   have HC1 := Sd.mk hC1
   have HD1 := Sd.mk hD1
   clear hC1 hD1
   go_wp2_with fail
   go_still_tail 8, kR
   change wpList _ _ _ _ _ wr.drew
   have HW : Sd (Upd No wr wr.drew) := ⟨(Upd.refl _ _).drew⟩
   have HU2 : Sd (Upd No w wr.drew) := ⟨HU.out.drew⟩
   generalize wr.drew = w2 at *
   go_wp2_with (go_at_call 58; (with_reducible refine (eq_Script l[i] _ _ _ (ki_Script_Kmk _ _ hl1 (aM HW.out HC1.out)) (ki_Script_Kmk _ _ hm1 (aM HW.out HD1.out))).mono ?_); rintro e w' ⟨rfl, hu⟩)
   have HU3 := Sd.mk (HU2.out.then hu)
   clear HU2 hu
   go_wp2
   go_roundg (gk - 1)
   case measure => omega
   case rel => exact ⟨i + 1, by omega, by go_num, HU3⟩
  ·go_wp2
   go_ret
   exact ⟨rfl, HU.out⟩
theorem markS_Script (l : List GScript) (k : Int) (F : Nat → Prop) (v : Value) (w : World) (h : R eX 73 w F v l) (hk : 0 ≤ k) (hb : k + aQ bR l ≤ 4611686018427387904) : Calls Tryz.prog 36 #[v, .int .i64 k] w (Marks eX 73 F v (k + aQ bR l) (mkS kV bR k l) w) := by
 obtain ⟨A, c, rfl⟩ := aV h
 have hn := R_len h
 have H := Sd.mk h
 clear h
 go_enter Tryz.func36, Tryz.ntmps36
 go_wp2
 go_loopg [1, 5] l.length (fun r u v wr => ∃ i : Nat, i + r = l.length ∧ u = .int .i64 (k + aQ bR (l.take i)) ∧ v = .int .i64 i ∧ Sd (R eX 73 wr F (.slice A l.length c) (upTo (mkS kV bR k l) l i)) ∧ Sd (Upd F w wr))
 case atStart => exact ⟨0, by omega, by simp [aQ], rfl, ⟨by rw [bX]; exact H.out⟩, ⟨Upd.refl _ _⟩⟩
 case round =>
  obtain ⟨i, hi, rfl, rfl, HR, HU⟩ := hrel
  by_cases hlt : i < l.length
  ·have hle := dJ bR mG l i
   have hst := fQ bR l i hlt
   have hle2 := dJ bR mG l (i + 1)
   rw [hst] at hle2
   have HST := Sd.mk hst
   clear hst
   have HMA := Sd.mk (jI kV bR l k i hlt)
   obtain ⟨g, cap, cur, ce, Fi, hv, hcap, hat, hM, hg, hFi, hFg, close⟩ := fV HR.out 2 l.length rfl (dH (aR _ _ _ _) kO) i l[i] (eP (aR _ _ _ _) hlt)
   cases hv
   obtain ⟨v1, P1, rfl, hR1, i1⟩ := ki_Script_M hM
   obtain ⟨B1, b1, rfl⟩ := aV hR1
   have HR1 := Sd.mk hR1
   have I1 := Sd.mk i1
   have N1 : ¬ P1 g := fun q => hFg (i1 g q)
   clear hR1 i1
   have nn1 := dB bV mF l[i].Methods
   have HCN : Sd (bR l[i] = bR l[i]) := ⟨rfl⟩
   simp only [bR] at hle2
   generalize hq : k + aQ bR (l.take i) = q at *
   have HQ := Sd.mk hq
   have hq0 : 0 ≤ q := by omega
   have hqb : q + ((0 + 1) + aQ bV l[i].Methods) ≤ 4611686018427387904 := by omega
   clear hq hle hle2 hb
   generalize hcn1 : aQ bV l[i].Methods = cn1 at *
   have HC1 := Sd.mk hcn1
   clear hcn1
   have HAT := Sd.mk hat
   have x0_s := hat.cell0 _ rfl
   have x1_s := hat.cell 1 _ rfl
   have f0_s := hat.free (i * 2)
   have f1_s := hat.free (i * 2 + 1)
   have CL := Sd.mk close
   clear hat close hM HR
   go_wp2_with fail
   with_reducible refine (l9 _ _ kO kO).mono ?_
   rintro e w_Name ⟨rfl, hu⟩
   replace HR1 := Sd.mk (aO hu (fun _ _ q => q) (aO (G := fun b => b = g) kC (fun b hb hg' => N1 (hg' ▸ hb)) HR1.out))
   replace HAT := Sd.mk (HAT.out.call hu (fun _ q => q.elim) hFg)
   clear hu x0_s f0_s x1_s f1_s
   have x0_Name := HAT.out.cell0 _ rfl
   have x1_Name := HAT.out.cell 1 _ rfl
   have f0_Name := HAT.out.free (i * 2)
   have f1_Name := HAT.out.free (i * 2 + 1)
   go_wp2_with fail
   with_reducible refine (markS_Method l[i].Methods _ P1 _ _ ?hr_Methods kO (by rw [HC1.out]; omega)).mono ?_
   case hr_Methods => exact (aO (G := fun b => b = g) kC (fun b hb hg' => N1 (hg' ▸ hb)) HR1.out)
   rintro e w_Methods ⟨rfl, hR1, hu⟩
   rw [HC1.out]
   replace HR1 := Sd.mk hR1
   replace HAT := Sd.mk ((HAT.out.set0 kD (.string (mtx (q)))).call hu I1.out hFg)
   clear hR1
   clear hu x0_Name f0_Name x1_Name f1_Name
   have x0_Methods := HAT.out.cell0 _ rfl
   have x1_Methods := HAT.out.cell 1 _ rfl
   have f0_Methods := HAT.out.free (i * 2)
   have f1_Methods := HAT.out.free (i * 2 + 1)
   go_wp2
   have HA := HAT.out
   have hy : (⟨mtx (q), mkS kE bV (q + 1) l[i].Methods⟩ : GScript) = (mkS kV bR k l)[i]'(by rw [aR]; exact hlt) := by rw [HMA.out]; simp only [kV, HC1.out]
   have HRowB := CL.out _ _ (⟨mtx (q), mkS kE bV (q + 1) l[i].Methods⟩ : GScript) Fi F HA (mZ _ Fi (⟨mtx (q), mkS kE bV (q + 1) l[i].Methods⟩ : GScript) (aO (G := fun b => b = g) kC (fun b hb hg' => N1 (hg' ▸ hb)) HR1.out) I1.out) (fun _ hb => .inl hb) (fun _ hb => hb) hFi
   rw [hy, dI (aR _ _ _ _) hlt] at HRowB
   go_roundg (gk - 1)
   case measure => omega
   case rel => exact ⟨i + 1, by omega, by rw [HST.out]; simp only [bR]; have := HQ.out; have := HC1.out; exact congrArg (Value.int .i64) kO, by go_num, ⟨HRowB⟩, ⟨HU.out.trans HA.upd (fun _ _ hb => hb) (fun b _ hb => by rcases hb with rfl | hb; exact hg; exact hFi b hb)⟩⟩
  ·go_wp2
   go_ret
   have HRowB := HR.out
   rw [dG (aR _ _ _ _) kO] at HRowB
   have e : l.take i = l := List.take_of_length_le kO
   exact ⟨gX (by rw [e]), HRowB, HU.out⟩
theorem kl_Value_Kmk (w : World) (x : GValue) : gP.K w x [.int .i64 x.Kind, .int .i64 x.N] := ⟨[_], [_], rfl, rfl, rfl⟩
theorem lS (w : World) (x : GValue) : dL.K w x [.int .i64 x.Kind, .int .i64 x.N] := ⟨[_], [_], rfl, rfl, rfl⟩
theorem to_Value (x : GValue) (cs : List Value) (w : World) (h : gP.K w x cs) (hs : gQ x ≤ 1048576) : Calls Tryz.prog 148 #[.agg cs.toArray] w (jU dL x w) := by
 obtain rfl := kl_Value_K h
 clear hs
 go_enter Tryz.func148, Tryz.ntmps148
 go_wp2
 refine bodyPost_ret (v := .agg #[.int .i64 x.Kind, .int .i64 x.N]) (by simp [results, Tryz.results148, go_sem]) rfl ⟨_, rfl, ?_, kA⟩
 exact mQ _ _ _
theorem toS_Value (l : List GValue) (A : Option Addr) (c : Nat) (w : World) (h : C gP w A l) (hs : bB gQ l ≤ 1048576) : Calls Tryz.prog 147 #[.slice A l.length c] w (jH dL 129 l w) := by
 have hn : l.length ≤ 1048576 := by unfold bB at hs; omega
 have hmk := iB (P := Tryz.prog) _ _ _ Tryz.underlying127 ki_Value_info l.length hn kD
 have H := Sd.mk h
 have HS := Sd.mk hs
 clear h hs
 go_enter Tryz.func147, Tryz.ntmps147
 go_wp2
 clear hmk
 have HR : Sd (R dL 129 (w.alloc (eD (.agg #[.int .i64 0, .int .i64 0]) (l.length * 2) 129)) (New w) (.slice (some ⟨w.heap.size, 0, none⟩) l.length l.length) (List.replicate l.length zValue)) := Sd.mk (kL (d := dL) (e := 129) w (.agg #[.int .i64 0, .int .i64 0]) zValue rfl kD ki_Value_zero l.length hn)
 have HU := Sd.mk ((Upd.refl No w).alloc (eD (.agg #[.int .i64 0, .int .i64 0]) (l.length * 2) 129))
 go_loopg [4] l.length (fun k v wr => ∃ i : Nat, i + k = l.length ∧ v = .int .i64 i ∧ Sd (R dL 129 wr (New w) (.slice (some ⟨w.heap.size, 0, none⟩) l.length l.length) (upTo l (List.replicate l.length zValue) i)) ∧ Sd (Upd No w wr))
 case atStart => exact ⟨0, by omega, rfl, ⟨by rw [bX]; exact HR.out⟩, HU⟩
 case round =>
  clear HR HU
  obtain ⟨i, hi, rfl, HR, HU⟩ := hrel
  by_cases hlt : i < l.length
  ·obtain ⟨ad, rfl, a0, a1⟩ := kl_Value_at (aM HU.out H.out) i hlt
   have hsi : gQ l[i] ≤ 1048576 := by have := HS.out; have := iZ gQ l i hlt; unfold bB at *; omega
   go_wp2_with fail
   with_reducible refine (to_Value l[i] _ _ (kl_Value_Kmk _ _) hsi).mono ?_
   rintro e w1 ⟨cs, rfl, hM, hu⟩
   obtain rfl := nN hM
   have HRowA := aO hu (fun _ _ q => q) (R_lt HR.out)
   have HU1 := Sd.mk (HU.out.then hu)
   have hzw := HU.out.size
   clear HR HU hM hu
   obtain ⟨g, cap, cur, ce, Fi, hv, hcap, hat, hM, hg, hFi, hFg, close⟩ := fV HRowA 2 l.length rfl (by rw [dH (by simp) (by simp; omega)]; simp) i zValue (by rw [eP (by simp) (by simpa using hlt)]; simp)
   cases hv
   obtain rfl := nN hM
   have HAT := Sd.mk hat
   have x0 := hat.cell0 _ rfl
   have x1 := hat.cell 1 _ rfl
   have f0 := hat.free (i * 2)
   have f1 := hat.free (i * 2 + 1)
   have CL := Sd.mk close
   clear hat close hM HRowA
   go_wp2
   have HA := (HAT.out.set0 kD (.int .i64 l[i].Kind)).set 1 kD (.int .i64 l[i].N)
   have HRowB := CL.out _ _ l[i] No (New w) HA (mQ _ _ _) (fun _ q => q.elim) (fun _ q => q.1) (fun _ q => q.elim)
   rw [dI (by simp) (by simpa using hlt)] at HRowB
   go_roundg (gk - 1)
   case measure => omega
   case rel => exact ⟨i + 1, by omega, by go_num, ⟨HRowB⟩, ⟨by repeat (with_reducible first | exact HU1.out | apply Upd.aP)⟩⟩
  ·go_wp2
   go_ret
   have HRowB := HR.out
   rw [dG (by simp) (by simp; omega)] at HRowB
   exact ⟨_, rfl, HRowB, HU.out⟩
theorem szS_Value (l : List GValue) (A : Option Addr) (c : Nat) (n : Int) (w : World) (h : C gP w A l) (h0 : 0 ≤ n) (h1 : n ≤ 1048576) : Calls Tryz.prog 141 #[.slice A l.length c, .int .i64 n] w (jA (bB gQ l) n w) := by
 have hn := h.1
 have H := Sd.mk h
 clear h
 go_enter Tryz.func141, Tryz.ntmps141
 by_cases q0 : (l.length : Int) ≤ n
 case neg =>
  go_wp2
  go_ret
  exact ⟨_, rfl, .inr ⟨by unfold bB; omega, rfl⟩, Upd.refl _ _⟩
 have hz : eZ gQ l = 0 := by
  clear q0 hn H
  induction l with
  | nil => rfl
  | cons x l ih => simp [eZ, gQ, ih]
 have HZ := Sd.mk hz
 clear hz
 go_wp2
 go_ret
 have hz := HZ.out
 exact ⟨_, rfl, .inl ⟨by unfold bB; omega, by unfold bB; omega⟩, Upd.refl _ _⟩
theorem eq_Value (x : GValue) (cs cs' : List Value) (w : World) (h : dL.K w x cs) (h' : dL.K w x cs') : Calls Tryz.prog 156 #[.agg cs.toArray, .agg cs'.toArray] w (bU true w) := by
 obtain rfl := nM h
 obtain rfl := nM h'
 go_enter Tryz.func156, Tryz.ntmps156
 go_wp2
 go_ret
 exact ⟨rfl, kA⟩
theorem eqS_Value (l : List GValue) (A A' : Option Addr) (c c' : Nat) (w : World) (h : C dL w A l) (h' : C dL w A' l) : Calls Tryz.prog 155 #[.slice A l.length c, .slice A' l.length c'] w (bU true w) := by
 have hn := h.1
 have H := Sd.mk h
 have H' := Sd.mk h'
 clear h h'
 go_enter Tryz.func155, Tryz.ntmps155
 go_wp2
 go_loopg [5] l.length (fun k v wr => ∃ i : Nat, i + k = l.length ∧ v = .int .i64 i ∧ Sd (Upd No w wr))
 case atStart => exact ⟨0, by omega, rfl, ⟨Upd.refl _ _⟩⟩
 case round =>
  obtain ⟨i, hi, rfl, HU⟩ := hrel
  by_cases hlt : i < l.length
  ·obtain ⟨ad, rfl, a0, a1⟩ := ki_Value_at (aM HU.out H.out) i hlt
   obtain ⟨ad', rfl, z0, z1⟩ := ki_Value_at (aM HU.out H'.out) i hlt
   go_wp2_with fail
   go_still_tail 8, kR
   change wpList _ _ _ _ _ wr.drew
   have HW : Sd (Upd No wr wr.drew) := ⟨(Upd.refl _ _).drew⟩
   have HU2 : Sd (Upd No w wr.drew) := ⟨HU.out.drew⟩
   generalize wr.drew = w2 at *
   go_wp2_with (go_at_call 156; (with_reducible refine (eq_Value l[i] _ _ _ (lS _ _) (lS _ _)).mono ?_); rintro e w' ⟨rfl, hu⟩)
   have HU3 := Sd.mk (HU2.out.then hu)
   clear HU2 hu
   go_wp2
   go_roundg (gk - 1)
   case measure => omega
   case rel => exact ⟨i + 1, by omega, by go_num, HU3⟩
  ·go_wp2
   go_ret
   exact ⟨rfl, HU.out⟩
theorem markS_Value (l : List GValue) (k : Int) (F : Nat → Prop) (v : Value) (w : World) (h : R dL 129 w F v l) (hk : 0 ≤ k) (hb : k + aQ aY l ≤ 4611686018427387904) : Calls Tryz.prog 108 #[v, .int .i64 k] w (Marks dL 129 F v (k + aQ aY l) (mkS jD aY k l) w) := by
 obtain ⟨A, c, rfl⟩ := aV h
 have hn := R_len h
 have H := Sd.mk h
 clear h
 go_enter Tryz.func108, Tryz.ntmps108
 go_wp2
 go_loopg [1, 5] l.length (fun r u v wr => ∃ i : Nat, i + r = l.length ∧ u = .int .i64 (k + aQ aY (l.take i)) ∧ v = .int .i64 i ∧ Sd (R dL 129 wr F (.slice A l.length c) (upTo (mkS jD aY k l) l i)) ∧ Sd (Upd F w wr))
 case atStart => exact ⟨0, by omega, by simp [aQ], rfl, ⟨by rw [bX]; exact H.out⟩, ⟨Upd.refl _ _⟩⟩
 case round =>
  obtain ⟨i, hi, rfl, rfl, HR, HU⟩ := hrel
  by_cases hlt : i < l.length
  ·have hle := dJ aY kF l i
   have hst := fQ aY l i hlt
   have hle2 := dJ aY kF l (i + 1)
   rw [hst] at hle2
   have HST := Sd.mk hst
   clear hst
   have HMA := Sd.mk (jI jD aY l k i hlt)
   obtain ⟨g, cap, cur, ce, Fi, hv, hcap, hat, hM, hg, hFi, hFg, close⟩ := fV HR.out 2 l.length rfl (dH (aR _ _ _ _) kO) i l[i] (eP (aR _ _ _ _) hlt)
   cases hv
   obtain rfl := nN hM
   have HCN : Sd (aY l[i] = aY l[i]) := ⟨rfl⟩
   simp only [aY] at hle2
   generalize hq : k + aQ aY (l.take i) = q at *
   have HQ := Sd.mk hq
   have hq0 : 0 ≤ q := by omega
   have hqb : q + ((0 + 1) + 1) ≤ 4611686018427387904 := by omega
   clear hq hle hle2 hb
   have HAT := Sd.mk hat
   have x0_s := hat.cell0 _ rfl
   have x1_s := hat.cell 1 _ rfl
   have f0_s := hat.free (i * 2)
   have f1_s := hat.free (i * 2 + 1)
   have CL := Sd.mk close
   clear hat close hM HR
   go_wp2
   have HA := ((HAT.out.set0 kD (.int .i64 (q))).set 1 kD (.int .i64 ((q + 1))))
   have hy : (⟨q, (q + 1)⟩ : GValue) = (mkS jD aY k l)[i]'(by rw [aR]; exact hlt) := by rw [HMA.out]; simp only [jD]
   have HRowB := CL.out _ _ (⟨q, (q + 1)⟩ : GValue) Fi F HA (mQ _ Fi (⟨q, (q + 1)⟩ : GValue)) (fun _ hb => .inl hb) (fun _ hb => hb) hFi
   rw [hy, dI (aR _ _ _ _) hlt] at HRowB
   go_roundg (gk - 1)
   case measure => omega
   case rel => exact ⟨i + 1, by omega, by rw [HST.out]; simp only [aY]; have := HQ.out; exact congrArg (Value.int .i64) kO, by go_num, ⟨HRowB⟩, ⟨HU.out.trans HA.upd (fun _ _ hb => hb) (fun b _ hb => by rcases hb with rfl | hb; exact hg; exact hFi b hb)⟩⟩
  ·go_wp2
   go_ret
   have HRowB := HR.out
   rw [dG (aR _ _ _ _) kO] at HRowB
   have e : l.take i = l := List.take_of_length_le kO
   exact ⟨gX (by rw [e]), HRowB, HU.out⟩
theorem mD (w : World) (x : GTag) : kl_Tag.K w x [.int .i64 x.Vat, .int .i64 x.Entity, .int .i64 x.Seq] := ⟨[_], [_, _], rfl, rfl, ⟨[_], [_], rfl, rfl, rfl⟩⟩
theorem eY (w : World) (x : GTag) : cZ.K w x [.int .i64 x.Vat, .int .i64 x.Entity, .int .i64 x.Seq] := ⟨[_], [_, _], rfl, rfl, ⟨[_], [_], rfl, rfl, rfl⟩⟩
theorem to_Tag (x : GTag) (cs : List Value) (w : World) (h : kl_Tag.K w x cs) (hs : mV x ≤ 1048576) : Calls Tryz.prog 99 #[.agg cs.toArray] w (jU cZ x w) := by
 obtain rfl := kl_Tag_K h
 clear hs
 go_enter Tryz.func99, Tryz.ntmps99
 go_wp2
 refine bodyPost_ret (v := .agg #[.int .i64 x.Vat, .int .i64 x.Entity, .int .i64 x.Seq]) (by simp [results, Tryz.results99, go_sem]) rfl ⟨_, rfl, ?_, kA⟩
 exact lC _ _ _
theorem eq_Tag (x : GTag) (cs cs' : List Value) (w : World) (h : cZ.K w x cs) (h' : cZ.K w x cs') : Calls Tryz.prog 35 #[.agg cs.toArray, .agg cs'.toArray] w (bU true w) := by
 obtain rfl := jX h
 obtain rfl := jX h'
 go_enter Tryz.func35, Tryz.ntmps35
 go_wp2
 go_ret
 exact ⟨rfl, kA⟩
theorem eqS_Tag (l : List GTag) (A A' : Option Addr) (c c' : Nat) (w : World) (h : C cZ w A l) (h' : C cZ w A' l) : Calls Tryz.prog 13 #[.slice A l.length c, .slice A' l.length c'] w (bU true w) := by
 have hn := h.1
 have H := Sd.mk h
 have H' := Sd.mk h'
 clear h h'
 go_enter Tryz.func13, Tryz.ntmps13
 go_wp2
 go_loopg [5] l.length (fun k v wr => ∃ i : Nat, i + k = l.length ∧ v = .int .i64 i ∧ Sd (Upd No w wr))
 case atStart => exact ⟨0, by omega, rfl, ⟨Upd.refl _ _⟩⟩
 case round =>
  obtain ⟨i, hi, rfl, HU⟩ := hrel
  by_cases hlt : i < l.length
  ·obtain ⟨ad, rfl, a0, a1, a2⟩ := ki_Tag_at (aM HU.out H.out) i hlt
   obtain ⟨ad', rfl, z0, z1, z2⟩ := ki_Tag_at (aM HU.out H'.out) i hlt
   go_wp2_with fail
   go_still_tail 8, kR
   change wpList _ _ _ _ _ wr.drew
   have HW : Sd (Upd No wr wr.drew) := ⟨(Upd.refl _ _).drew⟩
   have HU2 : Sd (Upd No w wr.drew) := ⟨HU.out.drew⟩
   generalize wr.drew = w2 at *
   go_wp2_with (go_at_call 35; (with_reducible refine (eq_Tag l[i] _ _ _ (eY _ _) (eY _ _)).mono ?_); rintro e w' ⟨rfl, hu⟩)
   have HU3 := Sd.mk (HU2.out.then hu)
   clear HU2 hu
   go_wp2
   go_roundg (gk - 1)
   case measure => omega
   case rel => exact ⟨i + 1, by omega, by go_num, HU3⟩
  ·go_wp2
   go_ret
   exact ⟨rfl, HU.out⟩
theorem markS_Tag (l : List GTag) (k : Int) (F : Nat → Prop) (v : Value) (w : World) (h : R cZ 50 w F v l) (hk : 0 ≤ k) (hb : k + aQ bS l ≤ 4611686018427387904) : Calls Tryz.prog 15 #[v, .int .i64 k] w (Marks cZ 50 F v (k + aQ bS l) (mkS mk_Tag bS k l) w) := by
 obtain ⟨A, c, rfl⟩ := aV h
 have hn := R_len h
 have H := Sd.mk h
 clear h
 go_enter Tryz.func15, Tryz.ntmps15
 go_wp2
 go_loopg [1, 5] l.length (fun r u v wr => ∃ i : Nat, i + r = l.length ∧ u = .int .i64 (k + aQ bS (l.take i)) ∧ v = .int .i64 i ∧ Sd (R cZ 50 wr F (.slice A l.length c) (upTo (mkS mk_Tag bS k l) l i)) ∧ Sd (Upd F w wr))
 case atStart => exact ⟨0, by omega, by simp [aQ], rfl, ⟨by rw [bX]; exact H.out⟩, ⟨Upd.refl _ _⟩⟩
 case round =>
  obtain ⟨i, hi, rfl, rfl, HR, HU⟩ := hrel
  by_cases hlt : i < l.length
  ·have hle := dJ bS nJ l i
   have hst := fQ bS l i hlt
   have hle2 := dJ bS nJ l (i + 1)
   rw [hst] at hle2
   have HST := Sd.mk hst
   clear hst
   have HMA := Sd.mk (jI mk_Tag bS l k i hlt)
   obtain ⟨g, cap, cur, ce, Fi, hv, hcap, hat, hM, hg, hFi, hFg, close⟩ := fV HR.out 3 l.length rfl (dH (aR _ _ _ _) kO) i l[i] (eP (aR _ _ _ _) hlt)
   cases hv
   obtain rfl := ki_Tag_M hM
   have HCN : Sd (bS l[i] = bS l[i]) := ⟨rfl⟩
   simp only [bS] at hle2
   generalize hq : k + aQ bS (l.take i) = q at *
   have HQ := Sd.mk hq
   have hq0 : 0 ≤ q := by omega
   have hqb : q + (((0 + 1) + 1) + 1) ≤ 4611686018427387904 := by omega
   clear hq hle hle2 hb
   have HAT := Sd.mk hat
   have x0_s := hat.cell0 _ rfl
   have x1_s := hat.cell 1 _ rfl
   have x2_s := hat.cell 2 _ rfl
   have f0_s := hat.free (i * 3)
   have f1_s := hat.free (i * 3 + 1)
   have f2_s := hat.free (i * 3 + 2)
   have CL := Sd.mk close
   clear hat close hM HR
   go_wp2
   have HA := (((HAT.out.set0 kD (.int .i64 (q))).set 1 kD (.int .i64 ((q + 1)))).set 2 kD (.int .i64 (((q + 1) + 1))))
   have hy : (⟨q, (q + 1), ((q + 1) + 1)⟩ : GTag) = (mkS mk_Tag bS k l)[i]'(by rw [aR]; exact hlt) := by rw [HMA.out]; simp only [mk_Tag]
   have HRowB := CL.out _ _ (⟨q, (q + 1), ((q + 1) + 1)⟩ : GTag) Fi F HA (lC _ Fi (⟨q, (q + 1), ((q + 1) + 1)⟩ : GTag)) (fun _ hb => .inl hb) (fun _ hb => hb) hFi
   rw [hy, dI (aR _ _ _ _) hlt] at HRowB
   go_roundg (gk - 1)
   case measure => omega
   case rel => exact ⟨i + 1, by omega, by rw [HST.out]; simp only [bS]; have := HQ.out; exact congrArg (Value.int .i64) kO, by go_num, ⟨HRowB⟩, ⟨HU.out.trans HA.upd (fun _ _ hb => hb) (fun b _ hb => by rcases hb with rfl | hb; exact hg; exact hFi b hb)⟩⟩
  ·go_wp2
   go_ret
   have HRowB := HR.out
   rw [dG (aR _ _ _ _) kO] at HRowB
   have e : l.take i = l := List.take_of_length_le kO
   exact ⟨gX (by rw [e]), HRowB, HU.out⟩
theorem heldS_Tag (l : List GTag) (k : Int) (A : Option Addr) (c : Nat) (w : World) (h : C cZ w A (mkS mk_Tag bS k l)) (hk : 0 ≤ k) (hb : k + aQ bS l ≤ 4611686018427387904) : Calls Tryz.prog 16 #[.slice A l.length c, .int .i64 k] w (RetInt (k + aQ bS l) w) := by
 have hn := h.1
 rw [aR] at hn
 have H := Sd.mk h
 clear h
 go_enter Tryz.func16, Tryz.ntmps16
 go_wp2
 go_loopg [1, 5] l.length (fun r u v wr => ∃ i : Nat, i + r = l.length ∧ u = .int .i64 (k + aQ bS (l.take i)) ∧ v = .int .i64 i ∧ Sd (Upd No w wr))
 case atStart => exact ⟨0, by omega, by simp [aQ], rfl, ⟨Upd.refl _ _⟩⟩
 case round =>
  obtain ⟨i, hi, rfl, rfl, HU⟩ := hrel
  by_cases hlt : i < l.length
  ·have hle := dJ bS nJ l i
   have hst := fQ bS l i hlt
   have hle2 := dJ bS nJ l (i + 1)
   rw [hst] at hle2
   have HST := Sd.mk hst
   clear hst
   obtain ⟨ad, rfl, a0, a1, a2⟩ := ki_Tag_at (aM HU.out H.out) i (by rw [aR]; exact hlt)
   rw [jI mk_Tag bS l k i hlt] at a0 a1 a2
   simp only [mk_Tag] at a0 a1 a2
   simp only [bS] at hle2
   generalize hq : k + aQ bS (l.take i) = q at *
   have HQ := Sd.mk hq
   have hq0 : 0 ≤ q := by omega
   have hqb : q + (((0 + 1) + 1) + 1) ≤ 4611686018427387904 := by omega
   clear hq hle hle2 hb
   have HX := Sd.mk (Upd.refl No wr)
   go_wp2
   go_roundg (gk - 1)
   case measure => omega
   case rel => exact ⟨i + 1, by omega, by rw [HST.out]; simp only [bS]; have := HQ.out; exact congrArg (Value.int .i64) kO, by go_num, ⟨HU.out.then HX.out⟩⟩
  ·go_wp2
   go_ret
   have e : l.take i = l := List.take_of_length_le kO
   exact ⟨gX (by rw [e]), HU.out⟩
theorem kl_Sent_Kmk (w : World) (x : GSent) {A2 : Option Addr} {c2 : Nat} (hl2 : x.bK.length ≤ c2) (hC2 : C gP w A2 x.bK) : iM.K w x [.int .i64 x.Target, .string x.Name, .slice A2 x.bK.length c2, .int .i64 x.Result, .int .i64 x.Tag.Vat, .int .i64 x.Tag.Entity, .int .i64 x.Tag.Seq] := ⟨[_], [_, _, _, _, _, _], rfl, rfl, ⟨[_], [_, _, _, _, _], rfl, rfl, ⟨[_], [_, _, _, _], rfl, ⟨A2, c2, rfl, hl2, hC2⟩, ⟨[_], [_, _, _], rfl, rfl, (mD w _)⟩⟩⟩⟩
theorem ki_Sent_Kmk (w : World) (x : GSent) {A2 : Option Addr} {c2 : Nat} (hl2 : x.bK.length ≤ c2) (hC2 : C dL w A2 x.bK) : fD.K w x [.int .i64 x.Target, .string x.Name, .slice A2 x.bK.length c2, .int .i64 x.Result, .int .i64 x.Tag.Vat, .int .i64 x.Tag.Entity, .int .i64 x.Tag.Seq] := ⟨[_], [_, _, _, _, _, _], rfl, rfl, ⟨[_], [_, _, _, _, _], rfl, rfl, ⟨[_], [_, _, _, _], rfl, ⟨A2, c2, rfl, hl2, hC2⟩, ⟨[_], [_, _, _], rfl, rfl, (eY w _)⟩⟩⟩⟩
theorem to_Sent (x : GSent) (cs : List Value) (w : World) (h : iM.K w x cs) (hs : fK x ≤ 1048576) : Calls Tryz.prog 130 #[.agg cs.toArray] w (jU fD x w) := by
 obtain ⟨A2, c2, rfl, hl2, hC2⟩ := kl_Sent_K h
 have HC2 := Sd.mk hC2
 clear hC2
 have s_Args : bB gQ x.bK ≤ 1048576 := by unfold fK at hs; omega
 clear hs
 go_enter Tryz.func130, Tryz.ntmps130
 go_wp2_with fail
 with_reducible refine (toS_Value x.bK _ _ _ ?hc_Args s_Args).mono ?_
 case hc_Args => exact aM kA HC2.out
 rintro e w_Args ⟨v2, rfl, hR2, hu⟩
 obtain ⟨B2, b2, rfl⟩ := aV hR2
 obtain ⟨P2, hR2', g2, l2⟩ := fP hR2 (w.heap.size + 1 + 1 + 1) kB
 have ge2 : ∀ b, P2 b → w.heap.size + 1 + 1 < b := fun b hb => by have := g2 b hb; omega
 have n1_2 : ¬ P2 (w.heap.size + 1) := fun q => by have := ge2 _ q; omega
 have n2_2 : ¬ P2 (w.heap.size + 1 + 1) := fun q => by have := ge2 _ q; omega
 have HR2 := Sd.mk hR2'
 have GE2 := Sd.mk ge2
 have LT2 := Sd.mk l2
 have GP2 := Sd.mk g2
 clear hR2 hR2' ge2 l2 g2
 have HB_Args : Sd (Upd No w w_Args) := Sd.mk (Upd.then kA hu)
 have cc0_Args := fun o => hu.aI (b := w.heap.size) kB (fun q => q) o
 have cc1_Args := fun o => hu.aI (b := w.heap.size + 1) kB (fun q => q) o
 have cf1_Args := fun o => hu.bP (b := w.heap.size + 1) kB (fun q => q) o
 have cc2_Args := fun o => hu.aI (b := w.heap.size + 1 + 1) kB (fun q => q) o
 have cf2_Args := fun o => hu.bP (b := w.heap.size + 1 + 1) kB (fun q => q) o
 have hz_Args : w.heap.size + 1 + 1 + 1 ≤ w_Args.heap.size := by have := hu.size; (try simp at this); omega
 clear hu
 go_wp2_with fail
 with_reducible refine (to_Tag x.Tag _ _ (mD _ _) (by simp [mV])).mono ?_
 rintro e w_Tag ⟨cs_Tag, rfl, hM, hu⟩
 obtain rfl := ki_Tag_M hM
 clear hM
 have HR2 := Sd.mk (aO hu (fun _ _ q => q) (eH HR2.out (by repeat (with_reducible first | exact Upd.refl _ _ | apply Upd.eT n1_2 | apply Upd.eT n2_2 | apply Upd.alloc))))
 have HB_Tag : Sd (Upd No w w_Tag) := Sd.mk (Upd.then (by repeat (with_reducible first | exact HB_Args.out | apply Upd.aT | apply Upd.aS | apply Upd.aP | apply Upd.alloc | apply Upd.drewN | apply Upd.drew)) hu)
 have cc0_Tag := fun o => hu.aI (b := w.heap.size) kB (fun q => q) o
 have cc1_Tag := fun o => hu.aI (b := w.heap.size + 1) kB (fun q => q) o
 have cf1_Tag := fun o => hu.bP (b := w.heap.size + 1) kB (fun q => q) o
 have cc2_Tag := fun o => hu.aI (b := w.heap.size + 1 + 1) kB (fun q => q) o
 have cf2_Tag := fun o => hu.bP (b := w.heap.size + 1 + 1) kB (fun q => q) o
 have hz_Tag : w.heap.size + 1 + 1 + 1 ≤ w_Tag.heap.size := by have := hu.size; (try simp at this); omega
 have hm_Tag : w_Args.heap.size ≤ w_Tag.heap.size := by have := hu.size; (try simp at this); omega
 clear hu
 go_wp2
 refine bodyPost_ret (v := .agg #[.int .i64 x.Target, .string x.Name, .slice B2 x.bK.length b2, .int .i64 x.Result, .int .i64 x.Tag.Vat, .int .i64 x.Tag.Entity, .int .i64 x.Tag.Seq]) (by simp [results, Tryz.results130, go_sem, cc1_Args, cc1_Tag]) rfl ⟨_, rfl, ?_, (by repeat (with_reducible first | exact HB_Tag.out | apply Upd.aT | apply Upd.aS | apply Upd.aP | apply Upd.alloc | apply Upd.drewN | apply Upd.drew))⟩
 exact ki_Sent_mk _ _ _ (eH HR2.out (by repeat (with_reducible first | exact Upd.refl _ _ | apply Upd.eT n1_2 | apply Upd.eT n2_2 | apply Upd.alloc))) (fun k hk => by have := GE2.out k hk; simp only [New]; omega)
theorem toS_Sent (l : List GSent) (A : Option Addr) (c : Nat) (w : World) (h : C iM w A l) (hs : bB fK l ≤ 1048576) : Calls Tryz.prog 95 #[.slice A l.length c] w (jH fD 178 l w) := by
 have hn : l.length ≤ 1048576 := by unfold bB at hs; omega
 have hmk := iB (P := Tryz.prog) _ _ _ Tryz.underlying76 ki_Sent_info l.length hn kD
 have H := Sd.mk h
 have HS := Sd.mk hs
 clear h hs
 go_enter Tryz.func95, Tryz.ntmps95
 go_wp2
 clear hmk
 have HR : Sd (R fD 178 (w.alloc (eD (.agg #[.int .i64 0, .string ⟨#[]⟩, .slice none 0 0, .int .i64 0, .int .i64 0, .int .i64 0, .int .i64 0]) (l.length * 7) 178)) (New w) (.slice (some ⟨w.heap.size, 0, none⟩) l.length l.length) (List.replicate l.length zSent)) := Sd.mk (kL (d := fD) (e := 178) w (.agg #[.int .i64 0, .string ⟨#[]⟩, .slice none 0 0, .int .i64 0, .int .i64 0, .int .i64 0, .int .i64 0]) zSent rfl kD ki_Sent_zero l.length hn)
 have HU := Sd.mk ((Upd.refl No w).alloc (eD (.agg #[.int .i64 0, .string ⟨#[]⟩, .slice none 0 0, .int .i64 0, .int .i64 0, .int .i64 0, .int .i64 0]) (l.length * 7) 178))
 go_loopg [4] l.length (fun k v wr => ∃ i : Nat, i + k = l.length ∧ v = .int .i64 i ∧ Sd (R fD 178 wr (New w) (.slice (some ⟨w.heap.size, 0, none⟩) l.length l.length) (upTo l (List.replicate l.length zSent) i)) ∧ Sd (Upd No w wr))
 case atStart => exact ⟨0, by omega, rfl, ⟨by rw [bX]; exact HR.out⟩, HU⟩
 case round =>
  clear HR HU
  obtain ⟨i, hi, rfl, HR, HU⟩ := hrel
  by_cases hlt : i < l.length
  ·obtain ⟨ad, A2, c2, rfl, a0, a1, a2, a3, a4, a5, a6, hl2, hC2⟩ := kl_Sent_at (aM HU.out H.out) i hlt
   have HC2 := Sd.mk hC2
   clear hC2
   have hsi : fK l[i] ≤ 1048576 := by have := HS.out; have := iZ fK l i hlt; unfold bB at *; omega
   go_wp2_with fail
   with_reducible refine (to_Sent l[i] _ _ (kl_Sent_Kmk _ _ hl2 HC2.out) hsi).mono ?_
   rintro e w1 ⟨cs, rfl, hM, hu⟩
   obtain ⟨v2, P2, rfl, hR2, i2⟩ := ki_Sent_M (fD.M_lt hM)
   obtain ⟨D2, d2, rfl⟩ := aV hR2
   have HRowA := aO hu (fun _ _ q => q) (R_lt HR.out)
   have HU1 := Sd.mk (HU.out.then hu)
   have hzw := HU.out.size
   have HR2 := Sd.mk hR2
   have I2 := Sd.mk i2
   clear HR HU hM hu hR2 i2
   obtain ⟨g, cap, cur, ce, Fi, hv, hcap, hat, hM, hg, hFi, hFg, close⟩ := fV HRowA 7 l.length rfl (by rw [dH (by simp) (by simp; omega)]; simp) i zSent (by rw [eP (by simp) (by simpa using hlt)]; simp)
   cases hv
   obtain ⟨y2, _, rfl, -⟩ := ki_Sent_M hM
   have HAT := Sd.mk hat
   have x0 := hat.cell0 _ rfl
   have x1 := hat.cell 1 _ rfl
   have x2 := hat.cell 2 _ rfl
   have x3 := hat.cell 3 _ rfl
   have x4 := hat.cell 4 _ rfl
   have x5 := hat.cell 5 _ rfl
   have x6 := hat.cell 6 _ rfl
   have f0 := hat.free (i * 7)
   have f1 := hat.free (i * 7 + 1)
   have f2 := hat.free (i * 7 + 2)
   have f3 := hat.free (i * 7 + 3)
   have f4 := hat.free (i * 7 + 4)
   have f5 := hat.free (i * 7 + 5)
   have f6 := hat.free (i * 7 + 6)
   have CL := Sd.mk close
   clear hat close hM HRowA
   go_wp2
   have HA := ((((((HAT.out.set0 kD (.int .i64 l[i].Target)).set 1 kD (.string l[i].Name)).set 2 kD (.slice D2 l[i].bK.length d2)).set 3 kD (.int .i64 l[i].Result)).set 4 kD (.int .i64 l[i].Tag.Vat)).set 5 kD (.int .i64 l[i].Tag.Entity)).set 6 kD (.int .i64 l[i].Tag.Seq)
   have hD2 : ∀ b, P2 b → ¬ (b = w.heap.size ∨ Fi b) := by
    intro b hb q
    have h1 := (I2.out b hb).1
    simp only [New] at h1
    rcases q with rfl | q
    ·exact absurd hg.2 kO
    ·have h2 := (hFi b q).2
     omega
   have HM := ki_Sent_mk _ (fun b => P2 b) l[i] (aO HA.upd hD2 HR2.out) (fun k hk => hk)
   have hP1 : ∀ b, (P2 b) → New wr b := by
    intro b hb
    exact (I2.out b hb).1
   have HRowB := CL.out _ _ l[i] _ (New w) HA HM (fun b hb => .inr (fun q => by have h1 := hP1 b hb; have h2 := q.2; simp only [New] at h1; omega)) (fun _ q => q.1) (fun b hb => by have h1 := hP1 b hb; simp only [New] at h1 ⊢; omega)
   rw [dI (by simp) (by simpa using hlt)] at HRowB
   go_roundg (gk - 1)
   case measure => omega
   case rel => exact ⟨i + 1, by omega, by go_num, ⟨HRowB⟩, ⟨by repeat (with_reducible first | exact HU1.out | apply Upd.aP)⟩⟩
  ·go_wp2
   go_ret
   have HRowB := HR.out
   rw [dG (by simp) (by simp; omega)] at HRowB
   exact ⟨_, rfl, HRowB, HU.out⟩
theorem sz_Sent (x : GSent) (cs : List Value) (n : Int) (w : World) (h : iM.K w x cs) (hb : Bd_Sent x) (h0 : 0 ≤ n) (h1 : n ≤ 1048576) : Calls Tryz.prog 124 #[.agg cs.toArray, .int .i64 n] w (jA (fK x) n w) := by
 obtain ⟨A2, c2, rfl, hl2, hC2⟩ := kl_Sent_K h
 have HC2 := Sd.mk hC2
 clear hC2
 have b_Name := hb
 unfold Bd_Sent at b_Name
 go_enter Tryz.func124, Tryz.ntmps124
 by_cases q_Name : ((x.Name.size : Nat) : Int) ≤ n
 case neg =>
  go_wp2
  go_ret
  exact ⟨_, rfl, .inr ⟨by unfold fK; omega, rfl⟩, kA⟩
 go_wp2_with fail
 with_reducible refine (szS_Value x.bK _ _ _ _ ?hc_Args kO kO).mono ?_
 case hc_Args => exact aM kA HC2.out
 rintro e w_Args ⟨r_Args, rfl, hr_Args, hu⟩
 have HB_Args : Sd (Upd No w w_Args) := Sd.mk (Upd.then kA hu)
 have cc0_Args := fun o => hu.aI (b := w.heap.size) kB (fun q => q) o
 have hz_Args : w.heap.size + 1 ≤ w_Args.heap.size := by have := hu.size; (try simp at this); omega
 clear hu
 rcases hr_Args with ⟨q_Args, rfl⟩ | ⟨q_Args, rfl⟩
 case inr =>
  go_wp2
  go_ret
  exact ⟨_, rfl, .inr ⟨by unfold fK; omega, rfl⟩, (by repeat (with_reducible first | exact HB_Args.out | apply Upd.aT | apply Upd.aS | apply Upd.aP | apply Upd.alloc | apply Upd.drewN | apply Upd.drew))⟩
 go_wp2
 go_ret
 exact ⟨_, rfl, .inl ⟨by unfold fK; omega, by unfold fK; omega⟩, (by repeat (with_reducible first | exact HB_Args.out | apply Upd.aT | apply Upd.aS | apply Upd.aP | apply Upd.alloc | apply Upd.drewN | apply Upd.drew))⟩
theorem szS_Sent (l : List GSent) (A : Option Addr) (c : Nat) (n : Int) (w : World) (h : C iM w A l) (hb : ∀ y ∈ l, Bd_Sent y) (h0 : 0 ≤ n) (h1 : n ≤ 1048576) : Calls Tryz.prog 89 #[.slice A l.length c, .int .i64 n] w (jA (bB fK l) n w) := by
 have hn := h.1
 have H := Sd.mk h
 clear h
 have HBD := Sd.mk hb
 clear hb
 go_enter Tryz.func89, Tryz.ntmps89
 by_cases q0 : (l.length : Int) ≤ n
 case neg =>
  go_wp2
  go_ret
  exact ⟨_, rfl, .inr ⟨by unfold bB; omega, rfl⟩, Upd.refl _ _⟩
 go_wp2
 go_loopg [1, 5] l.length (fun k u v wr => ∃ i : Nat, i + k = l.length ∧ (eZ fK (l.take i) : Int) ≤ n - l.length ∧ u = .int .i64 (n - l.length - eZ fK (l.take i)) ∧ v = .int .i64 i ∧ Sd (Upd No w wr))
 case atStart => exact ⟨0, by omega, by simp [eZ]; omega, by simp [eZ], rfl, ⟨Upd.refl _ _⟩⟩
 case round =>
  obtain ⟨i, hi, hle, rfl, rfl, HU⟩ := hrel
  by_cases hlt : i < l.length
  ·obtain ⟨ad, A2, c2, rfl, a0, a1, a2, a3, a4, a5, a6, hl2, hC2⟩ := kl_Sent_at (aM HU.out H.out) i hlt
   have HC2 := Sd.mk hC2
   clear hC2
   have hst := jS fK l i hlt
   have HST := Sd.mk (iD fK l i hlt)
   generalize hs : eZ fK (l.take i) = s at *
   have HS := Sd.mk hs
   clear hs
   go_wp2_with fail
   with_reducible refine (sz_Sent l[i] _ _ _ (kl_Sent_Kmk _ _ hl2 HC2.out) (HBD.out _ (List.getElem_mem hlt)) kO kO).mono ?_
   rintro e w1 ⟨r, rfl, hr, hu⟩
   have HU1 := Sd.mk (HU.out.then hu)
   clear hu HU
   rcases hr with ⟨q, rfl⟩ | ⟨q, rfl⟩
   ·go_wp2
    go_roundg (gk - 1)
    case measure => omega
    case rel => exact ⟨i + 1, by omega, by rw [HST.out]; omega, by rw [HST.out]; exact congrArg (Value.int .i64) kO, by go_num, HU1⟩
   ·go_wp2
    go_ret
    exact ⟨_, rfl, .inr ⟨by unfold bB; omega, rfl⟩, HU1.out⟩
  ·go_wp2
   go_ret
   have e : l.take i = l := List.take_of_length_le kO
   rw [e] at hle
   exact ⟨_, rfl, .inl ⟨by unfold bB; omega, by rw [e]; unfold bB; omega⟩, HU.out⟩
theorem eq_Sent (x : GSent) (cs cs' : List Value) (w : World) (h : fD.K w x cs) (h' : fD.K w x cs') : Calls Tryz.prog 136 #[.agg cs.toArray, .agg cs'.toArray] w (bU true w) := by
 obtain ⟨A2, c2, rfl, hl2, hC2⟩ := ki_Sent_K h
 have HC2 := Sd.mk hC2
 clear hC2
 obtain ⟨B2, b2, rfl, hm2, hD2⟩ := ki_Sent_K h'
 have HD2 := Sd.mk hD2
 clear hD2
 go_enter Tryz.func136, Tryz.ntmps136
 go_wp2_with fail
 with_reducible refine (eqS_Value x.bK _ _ _ _ _ ?hc_Args ?hd_Args).mono ?_
 case hc_Args => exact aM kA HC2.out
 case hd_Args => exact aM kA HD2.out
 rintro e w_Args ⟨rfl, hu⟩
 have HB_Args : Sd (Upd No w w_Args) := Sd.mk (Upd.then kA hu)
 have cc0_Args := fun o => hu.aI (b := w.heap.size) kB (fun q => q) o
 have cc1_Args := fun o => hu.aI (b := w.heap.size + 1) kB (fun q => q) o
 have hz_Args : w.heap.size + 1 + 1 ≤ w_Args.heap.size := by have := hu.size; (try simp at this); omega
 clear hu
 go_wp2_with fail
 with_reducible refine (eq_Tag x.Tag _ _ _ (eY _ _) (eY _ _)).mono ?_
 rintro e w_Tag ⟨rfl, hu⟩
 have HB_Tag : Sd (Upd No w w_Tag) := Sd.mk (Upd.then (by repeat (with_reducible first | exact HB_Args.out | apply Upd.aT | apply Upd.aS | apply Upd.aP | apply Upd.alloc | apply Upd.drewN | apply Upd.drew)) hu)
 have cc0_Tag := fun o => hu.aI (b := w.heap.size) kB (fun q => q) o
 have cc1_Tag := fun o => hu.aI (b := w.heap.size + 1) kB (fun q => q) o
 have hz_Tag : w.heap.size + 1 + 1 ≤ w_Tag.heap.size := by have := hu.size; (try simp at this); omega
 clear hu
 go_wp2
 go_ret
 exact ⟨rfl, (by repeat (with_reducible first | exact HB_Tag.out | apply Upd.aT | apply Upd.aS | apply Upd.aP | apply Upd.alloc | apply Upd.drewN | apply Upd.drew))⟩
theorem eqS_Sent (l : List GSent) (A A' : Option Addr) (c c' : Nat) (w : World) (h : C fD w A l) (h' : C fD w A' l) : Calls Tryz.prog 103 #[.slice A l.length c, .slice A' l.length c'] w (bU true w) := by
 have hn := h.1
 have H := Sd.mk h
 have H' := Sd.mk h'
 clear h h'
 go_enter Tryz.func103, Tryz.ntmps103
 go_wp2
 go_loopg [5] l.length (fun k v wr => ∃ i : Nat, i + k = l.length ∧ v = .int .i64 i ∧ Sd (Upd No w wr))
 case atStart => exact ⟨0, by omega, rfl, ⟨Upd.refl _ _⟩⟩
 case round =>
  obtain ⟨i, hi, rfl, HU⟩ := hrel
  by_cases hlt : i < l.length
  ·obtain ⟨ad, A2, c2, rfl, a0, a1, a2, a3, a4, a5, a6, hl2, hC2⟩ := ki_Sent_at (aM HU.out H.out) i hlt
   obtain ⟨ad', B2, b2, rfl, z0, z1, z2, z3, z4, z5, z6, hm2, hD2⟩ := ki_Sent_at (aM HU.out H'.out) i hlt
   have HC2 := Sd.mk hC2
   have HD2 := Sd.mk hD2
   clear hC2 hD2
   go_wp2_with fail
   go_still_tail 8, kR
   change wpList _ _ _ _ _ wr.drew
   have HW : Sd (Upd No wr wr.drew) := ⟨(Upd.refl _ _).drew⟩
   have HU2 : Sd (Upd No w wr.drew) := ⟨HU.out.drew⟩
   generalize wr.drew = w2 at *
   go_wp2_with (go_at_call 136; (with_reducible refine (eq_Sent l[i] _ _ _ (ki_Sent_Kmk _ _ hl2 (aM HW.out HC2.out)) (ki_Sent_Kmk _ _ hm2 (aM HW.out HD2.out))).mono ?_); rintro e w' ⟨rfl, hu⟩)
   have HU3 := Sd.mk (HU2.out.then hu)
   clear HU2 hu
   go_wp2
   go_roundg (gk - 1)
   case measure => omega
   case rel => exact ⟨i + 1, by omega, by go_num, HU3⟩
  ·go_wp2
   go_ret
   exact ⟨rfl, HU.out⟩
theorem markS_Sent (l : List GSent) (k : Int) (F : Nat → Prop) (v : Value) (w : World) (h : R fD 178 w F v l) (hk : 0 ≤ k) (hb : k + aQ bJ l ≤ 4611686018427387904) : Calls Tryz.prog 65 #[v, .int .i64 k] w (Marks fD 178 F v (k + aQ bJ l) (mkS kG bJ k l) w) := by
 obtain ⟨A, c, rfl⟩ := aV h
 have hn := R_len h
 have H := Sd.mk h
 clear h
 go_enter Tryz.func65, Tryz.ntmps65
 go_wp2
 go_loopg [1, 5] l.length (fun r u v wr => ∃ i : Nat, i + r = l.length ∧ u = .int .i64 (k + aQ bJ (l.take i)) ∧ v = .int .i64 i ∧ Sd (R fD 178 wr F (.slice A l.length c) (upTo (mkS kG bJ k l) l i)) ∧ Sd (Upd F w wr))
 case atStart => exact ⟨0, by omega, by simp [aQ], rfl, ⟨by rw [bX]; exact H.out⟩, ⟨Upd.refl _ _⟩⟩
 case round =>
  obtain ⟨i, hi, rfl, rfl, HR, HU⟩ := hrel
  by_cases hlt : i < l.length
  ·have hle := dJ bJ kW l i
   have hst := fQ bJ l i hlt
   have hle2 := dJ bJ kW l (i + 1)
   rw [hst] at hle2
   have HST := Sd.mk hst
   clear hst
   have HMA := Sd.mk (jI kG bJ l k i hlt)
   obtain ⟨g, cap, cur, ce, Fi, hv, hcap, hat, hM, hg, hFi, hFg, close⟩ := fV HR.out 7 l.length rfl (dH (aR _ _ _ _) kO) i l[i] (eP (aR _ _ _ _) hlt)
   cases hv
   obtain ⟨v2, P2, rfl, hR2, i2⟩ := ki_Sent_M hM
   obtain ⟨B2, b2, rfl⟩ := aV hR2
   have HR2 := Sd.mk hR2
   have I2 := Sd.mk i2
   have N2 : ¬ P2 g := fun q => hFg (i2 g q)
   clear hR2 i2
   have nn2 := dB aY kF l[i].bK
   have HCN : Sd (bJ l[i] = bJ l[i]) := ⟨rfl⟩
   simp only [bJ] at hle2
   generalize hq : k + aQ bJ (l.take i) = q at *
   have HQ := Sd.mk hq
   have hq0 : 0 ≤ q := by omega
   have hqb : q + (((((((0 + 1) + 1) + aQ aY l[i].bK) + 1) + 1) + 1) + 1) ≤ 4611686018427387904 := by omega
   clear hq hle hle2 hb
   generalize hcn2 : aQ aY l[i].bK = cn2 at *
   have HC2 := Sd.mk hcn2
   clear hcn2
   have HAT := Sd.mk hat
   have x0_s := hat.cell0 _ rfl
   have x1_s := hat.cell 1 _ rfl
   have x2_s := hat.cell 2 _ rfl
   have x3_s := hat.cell 3 _ rfl
   have x4_s := hat.cell 4 _ rfl
   have x5_s := hat.cell 5 _ rfl
   have x6_s := hat.cell 6 _ rfl
   have f0_s := hat.free (i * 7)
   have f1_s := hat.free (i * 7 + 1)
   have f2_s := hat.free (i * 7 + 2)
   have f3_s := hat.free (i * 7 + 3)
   have f4_s := hat.free (i * 7 + 4)
   have f5_s := hat.free (i * 7 + 5)
   have f6_s := hat.free (i * 7 + 6)
   have CL := Sd.mk close
   clear hat close hM HR
   go_wp2_with fail
   with_reducible refine (l9 _ _ kO kO).mono ?_
   rintro e w_Name ⟨rfl, hu⟩
   replace HR2 := Sd.mk (aO hu (fun _ _ q => q) (aO (G := fun b => b = g) kC (fun b hb hg' => N2 (hg' ▸ hb)) HR2.out))
   replace HAT := Sd.mk ((HAT.out.set0 kD (.int .i64 (q))).call hu (fun _ q => q.elim) hFg)
   clear hu x0_s f0_s x1_s f1_s x2_s f2_s x3_s f3_s x4_s f4_s x5_s f5_s x6_s f6_s
   have x0_Name := HAT.out.cell0 _ rfl
   have x1_Name := HAT.out.cell 1 _ rfl
   have x2_Name := HAT.out.cell 2 _ rfl
   have x3_Name := HAT.out.cell 3 _ rfl
   have x4_Name := HAT.out.cell 4 _ rfl
   have x5_Name := HAT.out.cell 5 _ rfl
   have x6_Name := HAT.out.cell 6 _ rfl
   have f0_Name := HAT.out.free (i * 7)
   have f1_Name := HAT.out.free (i * 7 + 1)
   have f2_Name := HAT.out.free (i * 7 + 2)
   have f3_Name := HAT.out.free (i * 7 + 3)
   have f4_Name := HAT.out.free (i * 7 + 4)
   have f5_Name := HAT.out.free (i * 7 + 5)
   have f6_Name := HAT.out.free (i * 7 + 6)
   go_wp2_with fail
   with_reducible refine (markS_Value l[i].bK _ P2 _ _ ?hr_Args kO (by rw [HC2.out]; omega)).mono ?_
   case hr_Args => exact (aO (G := fun b => b = g) kC (fun b hb hg' => N2 (hg' ▸ hb)) HR2.out)
   rintro e w_Args ⟨rfl, hR2, hu⟩
   rw [HC2.out]
   replace HR2 := Sd.mk hR2
   replace HAT := Sd.mk ((HAT.out.set 1 kD (.string (mtx ((q + 1))))).call hu I2.out hFg)
   clear hR2
   clear hu x0_Name f0_Name x1_Name f1_Name x2_Name f2_Name x3_Name f3_Name x4_Name f4_Name x5_Name f5_Name x6_Name f6_Name
   have x0_Args := HAT.out.cell0 _ rfl
   have x1_Args := HAT.out.cell 1 _ rfl
   have x2_Args := HAT.out.cell 2 _ rfl
   have x3_Args := HAT.out.cell 3 _ rfl
   have x4_Args := HAT.out.cell 4 _ rfl
   have x5_Args := HAT.out.cell 5 _ rfl
   have x6_Args := HAT.out.cell 6 _ rfl
   have f0_Args := HAT.out.free (i * 7)
   have f1_Args := HAT.out.free (i * 7 + 1)
   have f2_Args := HAT.out.free (i * 7 + 2)
   have f3_Args := HAT.out.free (i * 7 + 3)
   have f4_Args := HAT.out.free (i * 7 + 4)
   have f5_Args := HAT.out.free (i * 7 + 5)
   have f6_Args := HAT.out.free (i * 7 + 6)
   go_wp2
   have HA := ((((HAT.out.set 3 kD (.int .i64 ((((q + 1) + 1) + cn2)))).set 4 kD (.int .i64 (((((q + 1) + 1) + cn2) + 1)))).set 5 kD (.int .i64 ((((((q + 1) + 1) + cn2) + 1) + 1)))).set 6 kD (.int .i64 (((((((q + 1) + 1) + cn2) + 1) + 1) + 1))))
   have hy : (⟨q, mtx ((q + 1)), mkS jD aY ((q + 1) + 1) l[i].bK, (((q + 1) + 1) + cn2), ⟨((((q + 1) + 1) + cn2) + 1), (((((q + 1) + 1) + cn2) + 1) + 1), ((((((q + 1) + 1) + cn2) + 1) + 1) + 1)⟩⟩ : GSent) = (mkS kG bJ k l)[i]'(by rw [aR]; exact hlt) := by rw [HMA.out]; simp only [kG, HC2.out]
   have HRowB := CL.out _ _ (⟨q, mtx ((q + 1)), mkS jD aY ((q + 1) + 1) l[i].bK, (((q + 1) + 1) + cn2), ⟨((((q + 1) + 1) + cn2) + 1), (((((q + 1) + 1) + cn2) + 1) + 1), ((((((q + 1) + 1) + cn2) + 1) + 1) + 1)⟩⟩ : GSent) Fi F HA (ki_Sent_mk _ Fi (⟨q, mtx ((q + 1)), mkS jD aY ((q + 1) + 1) l[i].bK, (((q + 1) + 1) + cn2), ⟨((((q + 1) + 1) + cn2) + 1), (((((q + 1) + 1) + cn2) + 1) + 1), ((((((q + 1) + 1) + cn2) + 1) + 1) + 1)⟩⟩ : GSent) (aO (G := fun b => b = g) kC (fun b hb hg' => N2 (hg' ▸ hb)) HR2.out) I2.out) (fun _ hb => .inl hb) (fun _ hb => hb) hFi
   rw [hy, dI (aR _ _ _ _) hlt] at HRowB
   go_roundg (gk - 1)
   case measure => omega
   case rel => exact ⟨i + 1, by omega, by rw [HST.out]; simp only [bJ]; have := HQ.out; have := HC2.out; exact congrArg (Value.int .i64) kO, by go_num, ⟨HRowB⟩, ⟨HU.out.trans HA.upd (fun _ _ hb => hb) (fun b _ hb => by rcases hb with rfl | hb; exact hg; exact hFi b hb)⟩⟩
  ·go_wp2
   go_ret
   have HRowB := HR.out
   rw [dG (aR _ _ _ _) kO] at HRowB
   have e : l.take i = l := List.take_of_length_le kO
   exact ⟨gX (by rw [e]), HRowB, HU.out⟩
theorem kl_Asker_Kmk (w : World) (x : GAsker) : jR.K w x [.int .i64 x.iU, .int .i64 x.Question] := ⟨[_], [_], rfl, rfl, rfl⟩
theorem ki_Asker_Kmk (w : World) (x : GAsker) : fH.K w x [.int .i64 x.iU, .int .i64 x.Question] := ⟨[_], [_], rfl, rfl, rfl⟩
theorem to_Asker (x : GAsker) (cs : List Value) (w : World) (h : jR.K w x cs) (hs : iO x ≤ 1048576) : Calls Tryz.prog 164 #[.agg cs.toArray] w (jU fH x w) := by
 obtain rfl := kl_Asker_K h
 clear hs
 go_enter Tryz.func164, Tryz.ntmps164
 go_wp2
 refine bodyPost_ret (v := .agg #[.int .i64 x.iU, .int .i64 x.Question]) (by simp [results, Tryz.results164, go_sem]) rfl ⟨_, rfl, ?_, kA⟩
 exact nT _ _ _
theorem toS_Asker (l : List GAsker) (A : Option Addr) (c : Nat) (w : World) (h : C jR w A l) (hs : bB iO l ≤ 1048576) : Calls Tryz.prog 149 #[.slice A l.length c] w (jH fH 184 l w) := by
 have hn : l.length ≤ 1048576 := by unfold bB at hs; omega
 have hmk := iB (P := Tryz.prog) _ _ _ Tryz.underlying130 ki_Asker_info l.length hn kD
 have H := Sd.mk h
 have HS := Sd.mk hs
 clear h hs
 go_enter Tryz.func149, Tryz.ntmps149
 go_wp2
 clear hmk
 have HR : Sd (R fH 184 (w.alloc (eD (.agg #[.int .i64 0, .int .i64 0]) (l.length * 2) 184)) (New w) (.slice (some ⟨w.heap.size, 0, none⟩) l.length l.length) (List.replicate l.length zAsker)) := Sd.mk (kL (d := fH) (e := 184) w (.agg #[.int .i64 0, .int .i64 0]) zAsker rfl kD ki_Asker_zero l.length hn)
 have HU := Sd.mk ((Upd.refl No w).alloc (eD (.agg #[.int .i64 0, .int .i64 0]) (l.length * 2) 184))
 go_loopg [4] l.length (fun k v wr => ∃ i : Nat, i + k = l.length ∧ v = .int .i64 i ∧ Sd (R fH 184 wr (New w) (.slice (some ⟨w.heap.size, 0, none⟩) l.length l.length) (upTo l (List.replicate l.length zAsker) i)) ∧ Sd (Upd No w wr))
 case atStart => exact ⟨0, by omega, rfl, ⟨by rw [bX]; exact HR.out⟩, HU⟩
 case round =>
  clear HR HU
  obtain ⟨i, hi, rfl, HR, HU⟩ := hrel
  by_cases hlt : i < l.length
  ·obtain ⟨ad, rfl, a0, a1⟩ := kl_Asker_at (aM HU.out H.out) i hlt
   have hsi : iO l[i] ≤ 1048576 := by have := HS.out; have := iZ iO l i hlt; unfold bB at *; omega
   go_wp2_with fail
   with_reducible refine (to_Asker l[i] _ _ (kl_Asker_Kmk _ _) hsi).mono ?_
   rintro e w1 ⟨cs, rfl, hM, hu⟩
   obtain rfl := ki_Asker_M hM
   have HRowA := aO hu (fun _ _ q => q) (R_lt HR.out)
   have HU1 := Sd.mk (HU.out.then hu)
   have hzw := HU.out.size
   clear HR HU hM hu
   obtain ⟨g, cap, cur, ce, Fi, hv, hcap, hat, hM, hg, hFi, hFg, close⟩ := fV HRowA 2 l.length rfl (by rw [dH (by simp) (by simp; omega)]; simp) i zAsker (by rw [eP (by simp) (by simpa using hlt)]; simp)
   cases hv
   obtain rfl := ki_Asker_M hM
   have HAT := Sd.mk hat
   have x0 := hat.cell0 _ rfl
   have x1 := hat.cell 1 _ rfl
   have f0 := hat.free (i * 2)
   have f1 := hat.free (i * 2 + 1)
   have CL := Sd.mk close
   clear hat close hM HRowA
   go_wp2
   have HA := (HAT.out.set0 kD (.int .i64 l[i].iU)).set 1 kD (.int .i64 l[i].Question)
   have HRowB := CL.out _ _ l[i] No (New w) HA (nT _ _ _) (fun _ q => q.elim) (fun _ q => q.1) (fun _ q => q.elim)
   rw [dI (by simp) (by simpa using hlt)] at HRowB
   go_roundg (gk - 1)
   case measure => omega
   case rel => exact ⟨i + 1, by omega, by go_num, ⟨HRowB⟩, ⟨by repeat (with_reducible first | exact HU1.out | apply Upd.aP)⟩⟩
  ·go_wp2
   go_ret
   have HRowB := HR.out
   rw [dG (by simp) (by simp; omega)] at HRowB
   exact ⟨_, rfl, HRowB, HU.out⟩
theorem szS_Asker (l : List GAsker) (A : Option Addr) (c : Nat) (n : Int) (w : World) (h : C jR w A l) (h0 : 0 ≤ n) (h1 : n ≤ 1048576) : Calls Tryz.prog 142 #[.slice A l.length c, .int .i64 n] w (jA (bB iO l) n w) := by
 have hn := h.1
 have H := Sd.mk h
 clear h
 go_enter Tryz.func142, Tryz.ntmps142
 by_cases q0 : (l.length : Int) ≤ n
 case neg =>
  go_wp2
  go_ret
  exact ⟨_, rfl, .inr ⟨by unfold bB; omega, rfl⟩, Upd.refl _ _⟩
 have hz : eZ iO l = 0 := by
  clear q0 hn H
  induction l with
  | nil => rfl
  | cons x l ih => simp [eZ, iO, ih]
 have HZ := Sd.mk hz
 clear hz
 go_wp2
 go_ret
 have hz := HZ.out
 exact ⟨_, rfl, .inl ⟨by unfold bB; omega, by unfold bB; omega⟩, Upd.refl _ _⟩
theorem eq_Asker (x : GAsker) (cs cs' : List Value) (w : World) (h : fH.K w x cs) (h' : fH.K w x cs') : Calls Tryz.prog 168 #[.agg cs.toArray, .agg cs'.toArray] w (bU true w) := by
 obtain rfl := ki_Asker_K h
 obtain rfl := ki_Asker_K h'
 go_enter Tryz.func168, Tryz.ntmps168
 go_wp2
 go_ret
 exact ⟨rfl, kA⟩
theorem eqS_Asker (l : List GAsker) (A A' : Option Addr) (c c' : Nat) (w : World) (h : C fH w A l) (h' : C fH w A' l) : Calls Tryz.prog 157 #[.slice A l.length c, .slice A' l.length c'] w (bU true w) := by
 have hn := h.1
 have H := Sd.mk h
 have H' := Sd.mk h'
 clear h h'
 go_enter Tryz.func157, Tryz.ntmps157
 go_wp2
 go_loopg [5] l.length (fun k v wr => ∃ i : Nat, i + k = l.length ∧ v = .int .i64 i ∧ Sd (Upd No w wr))
 case atStart => exact ⟨0, by omega, rfl, ⟨Upd.refl _ _⟩⟩
 case round =>
  obtain ⟨i, hi, rfl, HU⟩ := hrel
  by_cases hlt : i < l.length
  ·obtain ⟨ad, rfl, a0, a1⟩ := ki_Asker_at (aM HU.out H.out) i hlt
   obtain ⟨ad', rfl, z0, z1⟩ := ki_Asker_at (aM HU.out H'.out) i hlt
   go_wp2_with fail
   go_still_tail 8, kR
   change wpList _ _ _ _ _ wr.drew
   have HW : Sd (Upd No wr wr.drew) := ⟨(Upd.refl _ _).drew⟩
   have HU2 : Sd (Upd No w wr.drew) := ⟨HU.out.drew⟩
   generalize wr.drew = w2 at *
   go_wp2_with (go_at_call 168; (with_reducible refine (eq_Asker l[i] _ _ _ (ki_Asker_Kmk _ _) (ki_Asker_Kmk _ _)).mono ?_); rintro e w' ⟨rfl, hu⟩)
   have HU3 := Sd.mk (HU2.out.then hu)
   clear HU2 hu
   go_wp2
   go_roundg (gk - 1)
   case measure => omega
   case rel => exact ⟨i + 1, by omega, by go_num, HU3⟩
  ·go_wp2
   go_ret
   exact ⟨rfl, HU.out⟩
theorem markS_Asker (l : List GAsker) (k : Int) (F : Nat → Prop) (v : Value) (w : World) (h : R fH 184 w F v l) (hk : 0 ≤ k) (hb : k + aQ bY l ≤ 4611686018427387904) : Calls Tryz.prog 109 #[v, .int .i64 k] w (Marks fH 184 F v (k + aQ bY l) (mkS lH bY k l) w) := by
 obtain ⟨A, c, rfl⟩ := aV h
 have hn := R_len h
 have H := Sd.mk h
 clear h
 go_enter Tryz.func109, Tryz.ntmps109
 go_wp2
 go_loopg [1, 5] l.length (fun r u v wr => ∃ i : Nat, i + r = l.length ∧ u = .int .i64 (k + aQ bY (l.take i)) ∧ v = .int .i64 i ∧ Sd (R fH 184 wr F (.slice A l.length c) (upTo (mkS lH bY k l) l i)) ∧ Sd (Upd F w wr))
 case atStart => exact ⟨0, by omega, by simp [aQ], rfl, ⟨by rw [bX]; exact H.out⟩, ⟨Upd.refl _ _⟩⟩
 case round =>
  obtain ⟨i, hi, rfl, rfl, HR, HU⟩ := hrel
  by_cases hlt : i < l.length
  ·have hle := dJ bY mW l i
   have hst := fQ bY l i hlt
   have hle2 := dJ bY mW l (i + 1)
   rw [hst] at hle2
   have HST := Sd.mk hst
   clear hst
   have HMA := Sd.mk (jI lH bY l k i hlt)
   obtain ⟨g, cap, cur, ce, Fi, hv, hcap, hat, hM, hg, hFi, hFg, close⟩ := fV HR.out 2 l.length rfl (dH (aR _ _ _ _) kO) i l[i] (eP (aR _ _ _ _) hlt)
   cases hv
   obtain rfl := ki_Asker_M hM
   have HCN : Sd (bY l[i] = bY l[i]) := ⟨rfl⟩
   simp only [bY] at hle2
   generalize hq : k + aQ bY (l.take i) = q at *
   have HQ := Sd.mk hq
   have hq0 : 0 ≤ q := by omega
   have hqb : q + ((0 + 1) + 1) ≤ 4611686018427387904 := by omega
   clear hq hle hle2 hb
   have HAT := Sd.mk hat
   have x0_s := hat.cell0 _ rfl
   have x1_s := hat.cell 1 _ rfl
   have f0_s := hat.free (i * 2)
   have f1_s := hat.free (i * 2 + 1)
   have CL := Sd.mk close
   clear hat close hM HR
   go_wp2
   have HA := ((HAT.out.set0 kD (.int .i64 (q))).set 1 kD (.int .i64 ((q + 1))))
   have hy : (⟨q, (q + 1)⟩ : GAsker) = (mkS lH bY k l)[i]'(by rw [aR]; exact hlt) := by rw [HMA.out]; simp only [lH]
   have HRowB := CL.out _ _ (⟨q, (q + 1)⟩ : GAsker) Fi F HA (nT _ Fi (⟨q, (q + 1)⟩ : GAsker)) (fun _ hb => .inl hb) (fun _ hb => hb) hFi
   rw [hy, dI (aR _ _ _ _) hlt] at HRowB
   go_roundg (gk - 1)
   case measure => omega
   case rel => exact ⟨i + 1, by omega, by rw [HST.out]; simp only [bY]; have := HQ.out; exact congrArg (Value.int .i64) kO, by go_num, ⟨HRowB⟩, ⟨HU.out.trans HA.upd (fun _ _ hb => hb) (fun b _ hb => by rcases hb with rfl | hb; exact hg; exact hFi b hb)⟩⟩
  ·go_wp2
   go_ret
   have HRowB := HR.out
   rw [dG (aR _ _ _ _) kO] at HRowB
   have e : l.take i = l := List.take_of_length_le kO
   exact ⟨gX (by rw [e]), HRowB, HU.out⟩
theorem kl_Entity_Kmk (w : World) (x : GEntity) {A2 : Option Addr} {c2 : Nat} (hl2 : x.fF.length ≤ c2) (hC2 : C gP w A2 x.fF) {A6 : Option Addr} {c6 : Nat} (hl6 : x.Queue.length ≤ c6) (hC6 : C iM w A6 x.Queue) {A7 : Option Addr} {c7 : Nat} (hl7 : x.dN.length ≤ c7) (hC7 : C jR w A7 x.dN) : iG.K w x [.int .i64 x.Kind, .int .i64 x.Script, .slice A2 x.fF.length c2, .int .i64 x.State, .int .i64 x.Value.Kind, .int .i64 x.Value.N, .slice A6 x.Queue.length c6, .slice A7 x.dN.length c7, .int .i64 x.iU, .int .i64 x.Pos, .int .i64 x.Count, .int .i64 x.Sent] := ⟨[_], [_, _, _, _, _, _, _, _, _, _, _], rfl, rfl, ⟨[_], [_, _, _, _, _, _, _, _, _, _], rfl, rfl, ⟨[_], [_, _, _, _, _, _, _, _, _], rfl, ⟨A2, c2, rfl, hl2, hC2⟩, ⟨[_], [_, _, _, _, _, _, _, _], rfl, rfl, ⟨[_, _], [_, _, _, _, _, _], rfl, (kl_Value_Kmk w _), ⟨[_], [_, _, _, _, _], rfl, ⟨A6, c6, rfl, hl6, hC6⟩, ⟨[_], [_, _, _, _], rfl, ⟨A7, c7, rfl, hl7, hC7⟩, ⟨[_], [_, _, _], rfl, rfl, ⟨[_], [_, _], rfl, rfl, ⟨[_], [_], rfl, rfl, rfl⟩⟩⟩⟩⟩⟩⟩⟩⟩⟩
theorem ki_Entity_Kmk (w : World) (x : GEntity) {A2 : Option Addr} {c2 : Nat} (hl2 : x.fF.length ≤ c2) (hC2 : C dL w A2 x.fF) {A6 : Option Addr} {c6 : Nat} (hl6 : x.Queue.length ≤ c6) (hC6 : C fD w A6 x.Queue) {A7 : Option Addr} {c7 : Nat} (hl7 : x.dN.length ≤ c7) (hC7 : C fH w A7 x.dN) : dW.K w x [.int .i64 x.Kind, .int .i64 x.Script, .slice A2 x.fF.length c2, .int .i64 x.State, .int .i64 x.Value.Kind, .int .i64 x.Value.N, .slice A6 x.Queue.length c6, .slice A7 x.dN.length c7, .int .i64 x.iU, .int .i64 x.Pos, .int .i64 x.Count, .int .i64 x.Sent] := ⟨[_], [_, _, _, _, _, _, _, _, _, _, _], rfl, rfl, ⟨[_], [_, _, _, _, _, _, _, _, _, _], rfl, rfl, ⟨[_], [_, _, _, _, _, _, _, _, _], rfl, ⟨A2, c2, rfl, hl2, hC2⟩, ⟨[_], [_, _, _, _, _, _, _, _], rfl, rfl, ⟨[_, _], [_, _, _, _, _, _], rfl, (lS w _), ⟨[_], [_, _, _, _, _], rfl, ⟨A6, c6, rfl, hl6, hC6⟩, ⟨[_], [_, _, _, _], rfl, ⟨A7, c7, rfl, hl7, hC7⟩, ⟨[_], [_, _, _], rfl, rfl, ⟨[_], [_, _], rfl, rfl, ⟨[_], [_], rfl, rfl, rfl⟩⟩⟩⟩⟩⟩⟩⟩⟩⟩
theorem to_Entity (x : GEntity) (cs : List Value) (w : World) (h : iG.K w x cs) (hs : dK x ≤ 1048576) : Calls Tryz.prog 129 #[.agg cs.toArray] w (jU dW x w) := by
 obtain ⟨A2, c2, A6, c6, A7, c7, rfl, hl2, hC2, hl6, hC6, hl7, hC7⟩ := kl_Entity_K h
 have HC2 := Sd.mk hC2
 have HC6 := Sd.mk hC6
 have HC7 := Sd.mk hC7
 clear hC2 hC6 hC7
 have s_Slots : bB gQ x.fF ≤ 1048576 := by unfold dK at hs; omega
 have s_Queue : bB fK x.Queue ≤ 1048576 := by unfold dK at hs; omega
 have s_Askers : bB iO x.dN ≤ 1048576 := by unfold dK at hs; omega
 clear hs
 go_enter Tryz.func129, Tryz.ntmps129
 go_wp2_with fail
 with_reducible refine (toS_Value x.fF _ _ _ ?hc_Slots s_Slots).mono ?_
 case hc_Slots => exact aM kA HC2.out
 rintro e w_Slots ⟨v2, rfl, hR2, hu⟩
 obtain ⟨B2, b2, rfl⟩ := aV hR2
 obtain ⟨P2, hR2', g2, l2⟩ := fP hR2 (w.heap.size + 1 + 1 + 1) kB
 have ge2 : ∀ b, P2 b → w.heap.size + 1 + 1 < b := fun b hb => by have := g2 b hb; omega
 have n1_2 : ¬ P2 (w.heap.size + 1) := fun q => by have := ge2 _ q; omega
 have n2_2 : ¬ P2 (w.heap.size + 1 + 1) := fun q => by have := ge2 _ q; omega
 have HR2 := Sd.mk hR2'
 have GE2 := Sd.mk ge2
 have LT2 := Sd.mk l2
 have GP2 := Sd.mk g2
 clear hR2 hR2' ge2 l2 g2
 have HB_Slots : Sd (Upd No w w_Slots) := Sd.mk (Upd.then kA hu)
 have cc0_Slots := fun o => hu.aI (b := w.heap.size) kB (fun q => q) o
 have cc1_Slots := fun o => hu.aI (b := w.heap.size + 1) kB (fun q => q) o
 have cf1_Slots := fun o => hu.bP (b := w.heap.size + 1) kB (fun q => q) o
 have cc2_Slots := fun o => hu.aI (b := w.heap.size + 1 + 1) kB (fun q => q) o
 have cf2_Slots := fun o => hu.bP (b := w.heap.size + 1 + 1) kB (fun q => q) o
 have hz_Slots : w.heap.size + 1 + 1 + 1 ≤ w_Slots.heap.size := by have := hu.size; (try simp at this); omega
 clear hu
 go_wp2_with fail
 with_reducible refine (to_Value x.Value _ _ (kl_Value_Kmk _ _) (by simp [gQ])).mono ?_
 rintro e w_Value ⟨cs_Value, rfl, hM, hu⟩
 obtain rfl := nN hM
 clear hM
 have HR2 := Sd.mk (aO hu (fun _ _ q => q) (eH HR2.out (by repeat (with_reducible first | exact Upd.refl _ _ | apply Upd.eT n1_2 | apply Upd.eT n2_2 | apply Upd.alloc))))
 have HB_Value : Sd (Upd No w w_Value) := Sd.mk (Upd.then (by repeat (with_reducible first | exact HB_Slots.out | apply Upd.aT | apply Upd.aS | apply Upd.aP | apply Upd.alloc | apply Upd.drewN | apply Upd.drew)) hu)
 have cc0_Value := fun o => hu.aI (b := w.heap.size) kB (fun q => q) o
 have cc1_Value := fun o => hu.aI (b := w.heap.size + 1) kB (fun q => q) o
 have cf1_Value := fun o => hu.bP (b := w.heap.size + 1) kB (fun q => q) o
 have cc2_Value := fun o => hu.aI (b := w.heap.size + 1 + 1) kB (fun q => q) o
 have cf2_Value := fun o => hu.bP (b := w.heap.size + 1 + 1) kB (fun q => q) o
 have hz_Value : w.heap.size + 1 + 1 + 1 ≤ w_Value.heap.size := by have := hu.size; (try simp at this); omega
 have hm_Value : w_Slots.heap.size ≤ w_Value.heap.size := by have := hu.size; (try simp at this); omega
 clear hu
 go_wp2_with fail
 with_reducible refine (toS_Sent x.Queue _ _ _ ?hc_Queue s_Queue).mono ?_
 case hc_Queue => exact aM (by repeat (with_reducible first | exact HB_Value.out | apply Upd.aT | apply Upd.aS | apply Upd.aP | apply Upd.alloc | apply Upd.drewN | apply Upd.drew)) HC6.out
 rintro e w_Queue ⟨v6, rfl, hR6, hu⟩
 obtain ⟨B6, b6, rfl⟩ := aV hR6
 obtain ⟨P6, hR6', g6, l6⟩ := fP hR6 (w_Value.heap.size) kB
 have ge6 : ∀ b, P6 b → w.heap.size + 1 + 1 < b := fun b hb => by have := g6 b hb; have := hz_Value; omega
 have n1_6 : ¬ P6 (w.heap.size + 1) := fun q => by have := ge6 _ q; omega
 have n2_6 : ¬ P6 (w.heap.size + 1 + 1) := fun q => by have := ge6 _ q; omega
 have HR6 := Sd.mk hR6'
 have GE6 := Sd.mk ge6
 have LT6 := Sd.mk l6
 have GP6 := Sd.mk g6
 clear hR6 hR6' ge6 l6 g6
 have HR2 := Sd.mk (aO hu (fun _ _ q => q) (eH HR2.out (by repeat (with_reducible first | exact Upd.refl _ _ | apply Upd.eT n1_2 | apply Upd.eT n2_2 | apply Upd.alloc))))
 have HB_Queue : Sd (Upd No w w_Queue) := Sd.mk (Upd.then (by repeat (with_reducible first | exact HB_Value.out | apply Upd.aT | apply Upd.aS | apply Upd.aP | apply Upd.alloc | apply Upd.drewN | apply Upd.drew)) hu)
 have cc0_Queue := fun o => hu.aI (b := w.heap.size) kB (fun q => q) o
 have cc1_Queue := fun o => hu.aI (b := w.heap.size + 1) kB (fun q => q) o
 have cf1_Queue := fun o => hu.bP (b := w.heap.size + 1) kB (fun q => q) o
 have cc2_Queue := fun o => hu.aI (b := w.heap.size + 1 + 1) kB (fun q => q) o
 have cf2_Queue := fun o => hu.bP (b := w.heap.size + 1 + 1) kB (fun q => q) o
 have hz_Queue : w.heap.size + 1 + 1 + 1 ≤ w_Queue.heap.size := by have := hu.size; (try simp at this); omega
 have hm_Queue : w_Value.heap.size ≤ w_Queue.heap.size := by have := hu.size; (try simp at this); omega
 clear hu
 go_wp2_with fail
 with_reducible refine (toS_Asker x.dN _ _ _ ?hc_Askers s_Askers).mono ?_
 case hc_Askers => exact aM (by repeat (with_reducible first | exact HB_Queue.out | apply Upd.aT | apply Upd.aS | apply Upd.aP | apply Upd.alloc | apply Upd.drewN | apply Upd.drew)) HC7.out
 rintro e w_Askers ⟨v7, rfl, hR7, hu⟩
 obtain ⟨B7, b7, rfl⟩ := aV hR7
 obtain ⟨P7, hR7', g7, l7⟩ := fP hR7 (w_Queue.heap.size) kB
 have ge7 : ∀ b, P7 b → w.heap.size + 1 + 1 < b := fun b hb => by have := g7 b hb; have := hz_Queue; omega
 have n1_7 : ¬ P7 (w.heap.size + 1) := fun q => by have := ge7 _ q; omega
 have n2_7 : ¬ P7 (w.heap.size + 1 + 1) := fun q => by have := ge7 _ q; omega
 have HR7 := Sd.mk hR7'
 have GE7 := Sd.mk ge7
 have LT7 := Sd.mk l7
 have GP7 := Sd.mk g7
 clear hR7 hR7' ge7 l7 g7
 have HR2 := Sd.mk (aO hu (fun _ _ q => q) (eH HR2.out (by repeat (with_reducible first | exact Upd.refl _ _ | apply Upd.eT n1_2 | apply Upd.eT n2_2 | apply Upd.alloc))))
 have HR6 := Sd.mk (aO hu (fun _ _ q => q) (eH HR6.out (by repeat (with_reducible first | exact Upd.refl _ _ | apply Upd.eT n1_6 | apply Upd.eT n2_6 | apply Upd.alloc))))
 have HB_Askers : Sd (Upd No w w_Askers) := Sd.mk (Upd.then (by repeat (with_reducible first | exact HB_Queue.out | apply Upd.aT | apply Upd.aS | apply Upd.aP | apply Upd.alloc | apply Upd.drewN | apply Upd.drew)) hu)
 have cc0_Askers := fun o => hu.aI (b := w.heap.size) kB (fun q => q) o
 have cc1_Askers := fun o => hu.aI (b := w.heap.size + 1) kB (fun q => q) o
 have cf1_Askers := fun o => hu.bP (b := w.heap.size + 1) kB (fun q => q) o
 have cc2_Askers := fun o => hu.aI (b := w.heap.size + 1 + 1) kB (fun q => q) o
 have cf2_Askers := fun o => hu.bP (b := w.heap.size + 1 + 1) kB (fun q => q) o
 have hz_Askers : w.heap.size + 1 + 1 + 1 ≤ w_Askers.heap.size := by have := hu.size; (try simp at this); omega
 have hm_Askers : w_Queue.heap.size ≤ w_Askers.heap.size := by have := hu.size; (try simp at this); omega
 clear hu
 go_wp2
 refine bodyPost_ret (v := .agg #[.int .i64 x.Kind, .int .i64 x.Script, .slice B2 x.fF.length b2, .int .i64 x.State, .int .i64 x.Value.Kind, .int .i64 x.Value.N, .slice B6 x.Queue.length b6, .slice B7 x.dN.length b7, .int .i64 x.iU, .int .i64 x.Pos, .int .i64 x.Count, .int .i64 x.Sent]) (by simp [results, Tryz.results129, go_sem, cc1_Slots, cc1_Value, cc1_Queue, cc1_Askers]) rfl ⟨_, rfl, ?_, (by repeat (with_reducible first | exact HB_Askers.out | apply Upd.aT | apply Upd.aS | apply Upd.aP | apply Upd.alloc | apply Upd.drewN | apply Upd.drew))⟩
 exact nA _ _ _ (eH HR2.out (by repeat (with_reducible first | exact Upd.refl _ _ | apply Upd.eT n1_2 | apply Upd.eT n2_2 | apply Upd.alloc))) (eH HR6.out (by repeat (with_reducible first | exact Upd.refl _ _ | apply Upd.eT n1_6 | apply Upd.eT n2_6 | apply Upd.alloc))) (eH HR7.out (by repeat (with_reducible first | exact Upd.refl _ _ | apply Upd.eT n1_7 | apply Upd.eT n2_7 | apply Upd.alloc))) (fun k hk => by have := GE2.out k hk; simp only [New]; omega) (fun k hk => by have := GE6.out k hk; simp only [New]; omega) (fun k hk => by have := GE7.out k hk; simp only [New]; omega) (fun k hk hk' => by have h1 := LT2.out k hk; have h2 := GP6.out k hk'; have := hm_Value; omega) (fun k hk hk' => by have h1 := LT2.out k hk; have h2 := GP7.out k hk'; have := hm_Value; have := hm_Queue; omega) (fun k hk hk' => by have h1 := LT6.out k hk; have h2 := GP7.out k hk'; omega)
theorem toS_Entity (l : List GEntity) (A : Option Addr) (c : Nat) (w : World) (h : C iG w A l) (hs : bB dK l ≤ 1048576) : Calls Tryz.prog 94 #[.slice A l.length c] w (jH dW 132 l w) := by
 have hn : l.length ≤ 1048576 := by unfold bB at hs; omega
 have hmk := iB (P := Tryz.prog) _ _ _ Tryz.underlying75 ki_Entity_info l.length hn kD
 have H := Sd.mk h
 have HS := Sd.mk hs
 clear h hs
 go_enter Tryz.func94, Tryz.ntmps94
 go_wp2
 clear hmk
 have HR : Sd (R dW 132 (w.alloc (eD (.agg #[.int .i64 0, .int .i64 0, .slice none 0 0, .int .i64 0, .int .i64 0, .int .i64 0, .slice none 0 0, .slice none 0 0, .int .i64 0, .int .i64 0, .int .i64 0, .int .i64 0]) (l.length * 12) 132)) (New w) (.slice (some ⟨w.heap.size, 0, none⟩) l.length l.length) (List.replicate l.length zEntity)) := Sd.mk (kL (d := dW) (e := 132) w (.agg #[.int .i64 0, .int .i64 0, .slice none 0 0, .int .i64 0, .int .i64 0, .int .i64 0, .slice none 0 0, .slice none 0 0, .int .i64 0, .int .i64 0, .int .i64 0, .int .i64 0]) zEntity rfl kD ki_Entity_zero l.length hn)
 have HU := Sd.mk ((Upd.refl No w).alloc (eD (.agg #[.int .i64 0, .int .i64 0, .slice none 0 0, .int .i64 0, .int .i64 0, .int .i64 0, .slice none 0 0, .slice none 0 0, .int .i64 0, .int .i64 0, .int .i64 0, .int .i64 0]) (l.length * 12) 132))
 go_loopg [4] l.length (fun k v wr => ∃ i : Nat, i + k = l.length ∧ v = .int .i64 i ∧ Sd (R dW 132 wr (New w) (.slice (some ⟨w.heap.size, 0, none⟩) l.length l.length) (upTo l (List.replicate l.length zEntity) i)) ∧ Sd (Upd No w wr))
 case atStart => exact ⟨0, by omega, rfl, ⟨by rw [bX]; exact HR.out⟩, HU⟩
 case round =>
  clear HR HU
  obtain ⟨i, hi, rfl, HR, HU⟩ := hrel
  by_cases hlt : i < l.length
  ·obtain ⟨ad, A2, c2, A6, c6, A7, c7, rfl, a0, a1, a2, a3, a4, a5, a6, a7, a8, a9, a10, a11, hl2, hC2, hl6, hC6, hl7, hC7⟩ := kl_Entity_at (aM HU.out H.out) i hlt
   have HC2 := Sd.mk hC2
   clear hC2
   have HC6 := Sd.mk hC6
   clear hC6
   have HC7 := Sd.mk hC7
   clear hC7
   have hsi : dK l[i] ≤ 1048576 := by have := HS.out; have := iZ dK l i hlt; unfold bB at *; omega
   go_wp2_with fail
   with_reducible refine (to_Entity l[i] _ _ (kl_Entity_Kmk _ _ hl2 HC2.out hl6 HC6.out hl7 HC7.out) hsi).mono ?_
   rintro e w1 ⟨cs, rfl, hM, hu⟩
   obtain ⟨v2, P2, v6, P6, v7, P7, rfl, hR2, hR6, hR7, i2, i6, i7, d2_6, d2_7, d6_7⟩ := ki_Entity_M (dW.M_lt hM)
   obtain ⟨D2, d2, rfl⟩ := aV hR2
   obtain ⟨D6, d6, rfl⟩ := aV hR6
   obtain ⟨D7, d7, rfl⟩ := aV hR7
   have HRowA := aO hu (fun _ _ q => q) (R_lt HR.out)
   have HU1 := Sd.mk (HU.out.then hu)
   have hzw := HU.out.size
   have HR2 := Sd.mk hR2
   have I2 := Sd.mk i2
   have HR6 := Sd.mk hR6
   have I6 := Sd.mk i6
   have HR7 := Sd.mk hR7
   have I7 := Sd.mk i7
   have D2_6 := Sd.mk d2_6
   have D2_7 := Sd.mk d2_7
   have D6_7 := Sd.mk d6_7
   clear HR HU hM hu hR2 i2 hR6 i6 hR7 i7 d2_6 d2_7 d6_7
   obtain ⟨g, cap, cur, ce, Fi, hv, hcap, hat, hM, hg, hFi, hFg, close⟩ := fV HRowA 12 l.length rfl (by rw [dH (by simp) (by simp; omega)]; simp) i zEntity (by rw [eP (by simp) (by simpa using hlt)]; simp)
   cases hv
   obtain ⟨y2, _, y6, _, y7, _, rfl, -⟩ := ki_Entity_M hM
   have HAT := Sd.mk hat
   have x0 := hat.cell0 _ rfl
   have x1 := hat.cell 1 _ rfl
   have x2 := hat.cell 2 _ rfl
   have x3 := hat.cell 3 _ rfl
   have x4 := hat.cell 4 _ rfl
   have x5 := hat.cell 5 _ rfl
   have x6 := hat.cell 6 _ rfl
   have x7 := hat.cell 7 _ rfl
   have x8 := hat.cell 8 _ rfl
   have x9 := hat.cell 9 _ rfl
   have x10 := hat.cell 10 _ rfl
   have x11 := hat.cell 11 _ rfl
   have f0 := hat.free (i * 12)
   have f1 := hat.free (i * 12 + 1)
   have f2 := hat.free (i * 12 + 2)
   have f3 := hat.free (i * 12 + 3)
   have f4 := hat.free (i * 12 + 4)
   have f5 := hat.free (i * 12 + 5)
   have f6 := hat.free (i * 12 + 6)
   have f7 := hat.free (i * 12 + 7)
   have f8 := hat.free (i * 12 + 8)
   have f9 := hat.free (i * 12 + 9)
   have f10 := hat.free (i * 12 + 10)
   have f11 := hat.free (i * 12 + 11)
   have CL := Sd.mk close
   clear hat close hM HRowA
   go_wp2
   have HA := (((((((((((HAT.out.set0 kD (.int .i64 l[i].Kind)).set 1 kD (.int .i64 l[i].Script)).set 2 kD (.slice D2 l[i].fF.length d2)).set 3 kD (.int .i64 l[i].State)).set 4 kD (.int .i64 l[i].Value.Kind)).set 5 kD (.int .i64 l[i].Value.N)).set 6 kD (.slice D6 l[i].Queue.length d6)).set 7 kD (.slice D7 l[i].dN.length d7)).set 8 kD (.int .i64 l[i].iU)).set 9 kD (.int .i64 l[i].Pos)).set 10 kD (.int .i64 l[i].Count)).set 11 kD (.int .i64 l[i].Sent)
   have hD2 : ∀ b, P2 b → ¬ (b = w.heap.size ∨ Fi b) := by
    intro b hb q
    have h1 := (I2.out b hb).1
    simp only [New] at h1
    rcases q with rfl | q
    ·exact absurd hg.2 kO
    ·have h2 := (hFi b q).2
     omega
   have hD6 : ∀ b, P6 b → ¬ (b = w.heap.size ∨ Fi b) := by
    intro b hb q
    have h1 := (I6.out b hb).1
    simp only [New] at h1
    rcases q with rfl | q
    ·exact absurd hg.2 kO
    ·have h2 := (hFi b q).2
     omega
   have hD7 : ∀ b, P7 b → ¬ (b = w.heap.size ∨ Fi b) := by
    intro b hb q
    have h1 := (I7.out b hb).1
    simp only [New] at h1
    rcases q with rfl | q
    ·exact absurd hg.2 kO
    ·have h2 := (hFi b q).2
     omega
   have HM := nA _ (fun b => P2 b ∨ P6 b ∨ P7 b) l[i] (aO HA.upd hD2 HR2.out) (aO HA.upd hD6 HR6.out) (aO HA.upd hD7 HR7.out) (fun k hk => Or.inl hk) (fun k hk => Or.inr (Or.inl hk)) (fun k hk => Or.inr (Or.inr (hk))) D2_6.out D2_7.out D6_7.out
   have hP1 : ∀ b, (P2 b ∨ P6 b ∨ P7 b) → New wr b := by
    intro b hb
    rcases hb with hb | hb | hb
    ·exact (I2.out b hb).1
    ·exact (I6.out b hb).1
    ·exact (I7.out b hb).1
   have HRowB := CL.out _ _ l[i] _ (New w) HA HM (fun b hb => .inr (fun q => by have h1 := hP1 b hb; have h2 := q.2; simp only [New] at h1; omega)) (fun _ q => q.1) (fun b hb => by have h1 := hP1 b hb; simp only [New] at h1 ⊢; omega)
   rw [dI (by simp) (by simpa using hlt)] at HRowB
   go_roundg (gk - 1)
   case measure => omega
   case rel => exact ⟨i + 1, by omega, by go_num, ⟨HRowB⟩, ⟨by repeat (with_reducible first | exact HU1.out | apply Upd.aP)⟩⟩
  ·go_wp2
   go_ret
   have HRowB := HR.out
   rw [dG (by simp) (by simp; omega)] at HRowB
   exact ⟨_, rfl, HRowB, HU.out⟩
theorem sz_Entity (x : GEntity) (cs : List Value) (n : Int) (w : World) (h : iG.K w x cs) (hb : Bd_Entity x) (h0 : 0 ≤ n) (h1 : n ≤ 1048576) : Calls Tryz.prog 123 #[.agg cs.toArray, .int .i64 n] w (jA (dK x) n w) := by
 obtain ⟨A2, c2, A6, c6, A7, c7, rfl, hl2, hC2, hl6, hC6, hl7, hC7⟩ := kl_Entity_K h
 have HC2 := Sd.mk hC2
 have HC6 := Sd.mk hC6
 have HC7 := Sd.mk hC7
 clear hC2 hC6 hC7
 have b_Queue := hb
 unfold Bd_Entity at b_Queue
 have B_Queue := Sd.mk b_Queue
 clear b_Queue
 go_enter Tryz.func123, Tryz.ntmps123
 go_wp2_with fail
 with_reducible refine (szS_Value x.fF _ _ _ _ ?hc_Slots kO kO).mono ?_
 case hc_Slots => exact aM kA HC2.out
 rintro e w_Slots ⟨r_Slots, rfl, hr_Slots, hu⟩
 have HB_Slots : Sd (Upd No w w_Slots) := Sd.mk (Upd.then kA hu)
 have cc0_Slots := fun o => hu.aI (b := w.heap.size) kB (fun q => q) o
 have hz_Slots : w.heap.size + 1 ≤ w_Slots.heap.size := by have := hu.size; (try simp at this); omega
 clear hu
 rcases hr_Slots with ⟨q_Slots, rfl⟩ | ⟨q_Slots, rfl⟩
 case inr =>
  go_wp2
  go_ret
  exact ⟨_, rfl, .inr ⟨by unfold dK; omega, rfl⟩, (by repeat (with_reducible first | exact HB_Slots.out | apply Upd.aT | apply Upd.aS | apply Upd.aP | apply Upd.alloc | apply Upd.drewN | apply Upd.drew))⟩
 go_wp2_with fail
 with_reducible refine (szS_Sent x.Queue _ _ _ _ ?hc_Queue B_Queue.out kO kO).mono ?_
 case hc_Queue => exact aM (by repeat (with_reducible first | exact HB_Slots.out | apply Upd.aT | apply Upd.aS | apply Upd.aP | apply Upd.alloc | apply Upd.drewN | apply Upd.drew)) HC6.out
 rintro e w_Queue ⟨r_Queue, rfl, hr_Queue, hu⟩
 have HB_Queue : Sd (Upd No w w_Queue) := Sd.mk (Upd.then (by repeat (with_reducible first | exact HB_Slots.out | apply Upd.aT | apply Upd.aS | apply Upd.aP | apply Upd.alloc | apply Upd.drewN | apply Upd.drew)) hu)
 have cc0_Queue := fun o => hu.aI (b := w.heap.size) kB (fun q => q) o
 have hz_Queue : w.heap.size + 1 ≤ w_Queue.heap.size := by have := hu.size; (try simp at this); omega
 clear hu
 rcases hr_Queue with ⟨q_Queue, rfl⟩ | ⟨q_Queue, rfl⟩
 case inr =>
  go_wp2
  go_ret
  exact ⟨_, rfl, .inr ⟨by unfold dK; omega, rfl⟩, (by repeat (with_reducible first | exact HB_Queue.out | apply Upd.aT | apply Upd.aS | apply Upd.aP | apply Upd.alloc | apply Upd.drewN | apply Upd.drew))⟩
 go_wp2_with fail
 with_reducible refine (szS_Asker x.dN _ _ _ _ ?hc_Askers kO kO).mono ?_
 case hc_Askers => exact aM (by repeat (with_reducible first | exact HB_Queue.out | apply Upd.aT | apply Upd.aS | apply Upd.aP | apply Upd.alloc | apply Upd.drewN | apply Upd.drew)) HC7.out
 rintro e w_Askers ⟨r_Askers, rfl, hr_Askers, hu⟩
 have HB_Askers : Sd (Upd No w w_Askers) := Sd.mk (Upd.then (by repeat (with_reducible first | exact HB_Queue.out | apply Upd.aT | apply Upd.aS | apply Upd.aP | apply Upd.alloc | apply Upd.drewN | apply Upd.drew)) hu)
 have cc0_Askers := fun o => hu.aI (b := w.heap.size) kB (fun q => q) o
 have hz_Askers : w.heap.size + 1 ≤ w_Askers.heap.size := by have := hu.size; (try simp at this); omega
 clear hu
 rcases hr_Askers with ⟨q_Askers, rfl⟩ | ⟨q_Askers, rfl⟩
 case inr =>
  go_wp2
  go_ret
  exact ⟨_, rfl, .inr ⟨by unfold dK; omega, rfl⟩, (by repeat (with_reducible first | exact HB_Askers.out | apply Upd.aT | apply Upd.aS | apply Upd.aP | apply Upd.alloc | apply Upd.drewN | apply Upd.drew))⟩
 go_wp2
 go_ret
 exact ⟨_, rfl, .inl ⟨by unfold dK; omega, by unfold dK; omega⟩, (by repeat (with_reducible first | exact HB_Askers.out | apply Upd.aT | apply Upd.aS | apply Upd.aP | apply Upd.alloc | apply Upd.drewN | apply Upd.drew))⟩
theorem szS_Entity (l : List GEntity) (A : Option Addr) (c : Nat) (n : Int) (w : World) (h : C iG w A l) (hb : ∀ y ∈ l, Bd_Entity y) (h0 : 0 ≤ n) (h1 : n ≤ 1048576) : Calls Tryz.prog 88 #[.slice A l.length c, .int .i64 n] w (jA (bB dK l) n w) := by
 have hn := h.1
 have H := Sd.mk h
 clear h
 have HBD := Sd.mk hb
 clear hb
 go_enter Tryz.func88, Tryz.ntmps88
 by_cases q0 : (l.length : Int) ≤ n
 case neg =>
  go_wp2
  go_ret
  exact ⟨_, rfl, .inr ⟨by unfold bB; omega, rfl⟩, Upd.refl _ _⟩
 go_wp2
 go_loopg [1, 5] l.length (fun k u v wr => ∃ i : Nat, i + k = l.length ∧ (eZ dK (l.take i) : Int) ≤ n - l.length ∧ u = .int .i64 (n - l.length - eZ dK (l.take i)) ∧ v = .int .i64 i ∧ Sd (Upd No w wr))
 case atStart => exact ⟨0, by omega, by simp [eZ]; omega, by simp [eZ], rfl, ⟨Upd.refl _ _⟩⟩
 case round =>
  obtain ⟨i, hi, hle, rfl, rfl, HU⟩ := hrel
  by_cases hlt : i < l.length
  ·obtain ⟨ad, A2, c2, A6, c6, A7, c7, rfl, a0, a1, a2, a3, a4, a5, a6, a7, a8, a9, a10, a11, hl2, hC2, hl6, hC6, hl7, hC7⟩ := kl_Entity_at (aM HU.out H.out) i hlt
   have HC2 := Sd.mk hC2
   clear hC2
   have HC6 := Sd.mk hC6
   clear hC6
   have HC7 := Sd.mk hC7
   clear hC7
   have hst := jS dK l i hlt
   have HST := Sd.mk (iD dK l i hlt)
   generalize hs : eZ dK (l.take i) = s at *
   have HS := Sd.mk hs
   clear hs
   go_wp2_with fail
   with_reducible refine (sz_Entity l[i] _ _ _ (kl_Entity_Kmk _ _ hl2 HC2.out hl6 HC6.out hl7 HC7.out) (HBD.out _ (List.getElem_mem hlt)) kO kO).mono ?_
   rintro e w1 ⟨r, rfl, hr, hu⟩
   have HU1 := Sd.mk (HU.out.then hu)
   clear hu HU
   rcases hr with ⟨q, rfl⟩ | ⟨q, rfl⟩
   ·go_wp2
    go_roundg (gk - 1)
    case measure => omega
    case rel => exact ⟨i + 1, by omega, by rw [HST.out]; omega, by rw [HST.out]; exact congrArg (Value.int .i64) kO, by go_num, HU1⟩
   ·go_wp2
    go_ret
    exact ⟨_, rfl, .inr ⟨by unfold bB; omega, rfl⟩, HU1.out⟩
  ·go_wp2
   go_ret
   have e : l.take i = l := List.take_of_length_le kO
   rw [e] at hle
   exact ⟨_, rfl, .inl ⟨by unfold bB; omega, by rw [e]; unfold bB; omega⟩, HU.out⟩
theorem eq_Entity (x : GEntity) (cs cs' : List Value) (w : World) (h : dW.K w x cs) (h' : dW.K w x cs') : Calls Tryz.prog 135 #[.agg cs.toArray, .agg cs'.toArray] w (bU true w) := by
 obtain ⟨A2, c2, A6, c6, A7, c7, rfl, hl2, hC2, hl6, hC6, hl7, hC7⟩ := ki_Entity_K h
 have HC2 := Sd.mk hC2
 have HC6 := Sd.mk hC6
 have HC7 := Sd.mk hC7
 clear hC2 hC6 hC7
 obtain ⟨B2, b2, B6, b6, B7, b7, rfl, hm2, hD2, hm6, hD6, hm7, hD7⟩ := ki_Entity_K h'
 have HD2 := Sd.mk hD2
 have HD6 := Sd.mk hD6
 have HD7 := Sd.mk hD7
 clear hD2 hD6 hD7
 go_enter Tryz.func135, Tryz.ntmps135
 go_wp2_with fail
 with_reducible refine (eqS_Value x.fF _ _ _ _ _ ?hc_Slots ?hd_Slots).mono ?_
 case hc_Slots => exact aM kA HC2.out
 case hd_Slots => exact aM kA HD2.out
 rintro e w_Slots ⟨rfl, hu⟩
 have HB_Slots : Sd (Upd No w w_Slots) := Sd.mk (Upd.then kA hu)
 have cc0_Slots := fun o => hu.aI (b := w.heap.size) kB (fun q => q) o
 have cc1_Slots := fun o => hu.aI (b := w.heap.size + 1) kB (fun q => q) o
 have hz_Slots : w.heap.size + 1 + 1 ≤ w_Slots.heap.size := by have := hu.size; (try simp at this); omega
 clear hu
 go_wp2_with fail
 with_reducible refine (eq_Value x.Value _ _ _ (lS _ _) (lS _ _)).mono ?_
 rintro e w_Value ⟨rfl, hu⟩
 have HB_Value : Sd (Upd No w w_Value) := Sd.mk (Upd.then (by repeat (with_reducible first | exact HB_Slots.out | apply Upd.aT | apply Upd.aS | apply Upd.aP | apply Upd.alloc | apply Upd.drewN | apply Upd.drew)) hu)
 have cc0_Value := fun o => hu.aI (b := w.heap.size) kB (fun q => q) o
 have cc1_Value := fun o => hu.aI (b := w.heap.size + 1) kB (fun q => q) o
 have hz_Value : w.heap.size + 1 + 1 ≤ w_Value.heap.size := by have := hu.size; (try simp at this); omega
 clear hu
 go_wp2_with fail
 with_reducible refine (eqS_Sent x.Queue _ _ _ _ _ ?hc_Queue ?hd_Queue).mono ?_
 case hc_Queue => exact aM (by repeat (with_reducible first | exact HB_Value.out | apply Upd.aT | apply Upd.aS | apply Upd.aP | apply Upd.alloc | apply Upd.drewN | apply Upd.drew)) HC6.out
 case hd_Queue => exact aM (by repeat (with_reducible first | exact HB_Value.out | apply Upd.aT | apply Upd.aS | apply Upd.aP | apply Upd.alloc | apply Upd.drewN | apply Upd.drew)) HD6.out
 rintro e w_Queue ⟨rfl, hu⟩
 have HB_Queue : Sd (Upd No w w_Queue) := Sd.mk (Upd.then (by repeat (with_reducible first | exact HB_Value.out | apply Upd.aT | apply Upd.aS | apply Upd.aP | apply Upd.alloc | apply Upd.drewN | apply Upd.drew)) hu)
 have cc0_Queue := fun o => hu.aI (b := w.heap.size) kB (fun q => q) o
 have cc1_Queue := fun o => hu.aI (b := w.heap.size + 1) kB (fun q => q) o
 have hz_Queue : w.heap.size + 1 + 1 ≤ w_Queue.heap.size := by have := hu.size; (try simp at this); omega
 clear hu
 go_wp2_with fail
 with_reducible refine (eqS_Asker x.dN _ _ _ _ _ ?hc_Askers ?hd_Askers).mono ?_
 case hc_Askers => exact aM (by repeat (with_reducible first | exact HB_Queue.out | apply Upd.aT | apply Upd.aS | apply Upd.aP | apply Upd.alloc | apply Upd.drewN | apply Upd.drew)) HC7.out
 case hd_Askers => exact aM (by repeat (with_reducible first | exact HB_Queue.out | apply Upd.aT | apply Upd.aS | apply Upd.aP | apply Upd.alloc | apply Upd.drewN | apply Upd.drew)) HD7.out
 rintro e w_Askers ⟨rfl, hu⟩
 have HB_Askers : Sd (Upd No w w_Askers) := Sd.mk (Upd.then (by repeat (with_reducible first | exact HB_Queue.out | apply Upd.aT | apply Upd.aS | apply Upd.aP | apply Upd.alloc | apply Upd.drewN | apply Upd.drew)) hu)
 have cc0_Askers := fun o => hu.aI (b := w.heap.size) kB (fun q => q) o
 have cc1_Askers := fun o => hu.aI (b := w.heap.size + 1) kB (fun q => q) o
 have hz_Askers : w.heap.size + 1 + 1 ≤ w_Askers.heap.size := by have := hu.size; (try simp at this); omega
 clear hu
 go_wp2
 go_ret
 exact ⟨rfl, (by repeat (with_reducible first | exact HB_Askers.out | apply Upd.aT | apply Upd.aS | apply Upd.aP | apply Upd.alloc | apply Upd.drewN | apply Upd.drew))⟩
theorem eqS_Entity (l : List GEntity) (A A' : Option Addr) (c c' : Nat) (w : World) (h : C dW w A l) (h' : C dW w A' l) : Calls Tryz.prog 102 #[.slice A l.length c, .slice A' l.length c'] w (bU true w) := by
 have hn := h.1
 have H := Sd.mk h
 have H' := Sd.mk h'
 clear h h'
 go_enter Tryz.func102, Tryz.ntmps102
 go_wp2
 go_loopg [5] l.length (fun k v wr => ∃ i : Nat, i + k = l.length ∧ v = .int .i64 i ∧ Sd (Upd No w wr))
 case atStart => exact ⟨0, by omega, rfl, ⟨Upd.refl _ _⟩⟩
 case round =>
  obtain ⟨i, hi, rfl, HU⟩ := hrel
  by_cases hlt : i < l.length
  ·obtain ⟨ad, A2, c2, A6, c6, A7, c7, rfl, a0, a1, a2, a3, a4, a5, a6, a7, a8, a9, a10, a11, hl2, hC2, hl6, hC6, hl7, hC7⟩ := ki_Entity_at (aM HU.out H.out) i hlt
   obtain ⟨ad', B2, b2, B6, b6, B7, b7, rfl, z0, z1, z2, z3, z4, z5, z6, z7, z8, z9, z10, z11, hm2, hD2, hm6, hD6, hm7, hD7⟩ := ki_Entity_at (aM HU.out H'.out) i hlt
   have HC2 := Sd.mk hC2
   have HD2 := Sd.mk hD2
   clear hC2 hD2
   have HC6 := Sd.mk hC6
   have HD6 := Sd.mk hD6
   clear hC6 hD6
   have HC7 := Sd.mk hC7
   have HD7 := Sd.mk hD7
   clear hC7 hD7
   go_wp2_with fail
   go_still_tail 8, kR
   change wpList _ _ _ _ _ wr.drew
   have HW : Sd (Upd No wr wr.drew) := ⟨(Upd.refl _ _).drew⟩
   have HU2 : Sd (Upd No w wr.drew) := ⟨HU.out.drew⟩
   generalize wr.drew = w2 at *
   go_wp2_with (go_at_call 135; (with_reducible refine (eq_Entity l[i] _ _ _ (ki_Entity_Kmk _ _ hl2 (aM HW.out HC2.out) hl6 (aM HW.out HC6.out) hl7 (aM HW.out HC7.out)) (ki_Entity_Kmk _ _ hm2 (aM HW.out HD2.out) hm6 (aM HW.out HD6.out) hm7 (aM HW.out HD7.out))).mono ?_); rintro e w' ⟨rfl, hu⟩)
   have HU3 := Sd.mk (HU2.out.then hu)
   clear HU2 hu
   go_wp2
   go_roundg (gk - 1)
   case measure => omega
   case rel => exact ⟨i + 1, by omega, by go_num, HU3⟩
  ·go_wp2
   go_ret
   exact ⟨rfl, HU.out⟩
theorem markS_Entity (l : List GEntity) (k : Int) (F : Nat → Prop) (v : Value) (w : World) (h : R dW 132 w F v l) (hk : 0 ≤ k) (hb : k + aQ bN l ≤ 4611686018427387904) : Calls Tryz.prog 64 #[v, .int .i64 k] w (Marks dW 132 F v (k + aQ bN l) (mkS kH bN k l) w) := by
 obtain ⟨A, c, rfl⟩ := aV h
 have hn := R_len h
 have H := Sd.mk h
 clear h
 go_enter Tryz.func64, Tryz.ntmps64
 go_wp2
 go_loopg [1, 5] l.length (fun r u v wr => ∃ i : Nat, i + r = l.length ∧ u = .int .i64 (k + aQ bN (l.take i)) ∧ v = .int .i64 i ∧ Sd (R dW 132 wr F (.slice A l.length c) (upTo (mkS kH bN k l) l i)) ∧ Sd (Upd F w wr))
 case atStart => exact ⟨0, by omega, by simp [aQ], rfl, ⟨by rw [bX]; exact H.out⟩, ⟨Upd.refl _ _⟩⟩
 case round =>
  obtain ⟨i, hi, rfl, rfl, HR, HU⟩ := hrel
  by_cases hlt : i < l.length
  ·have hle := dJ bN mH l i
   have hst := fQ bN l i hlt
   have hle2 := dJ bN mH l (i + 1)
   rw [hst] at hle2
   have HST := Sd.mk hst
   clear hst
   have HMA := Sd.mk (jI kH bN l k i hlt)
   obtain ⟨g, cap, cur, ce, Fi, hv, hcap, hat, hM, hg, hFi, hFg, close⟩ := fV HR.out 12 l.length rfl (dH (aR _ _ _ _) kO) i l[i] (eP (aR _ _ _ _) hlt)
   cases hv
   obtain ⟨v2, P2, v6, P6, v7, P7, rfl, hR2, hR6, hR7, i2, i6, i7, d2_6, d2_7, d6_7⟩ := ki_Entity_M hM
   obtain ⟨B2, b2, rfl⟩ := aV hR2
   have HR2 := Sd.mk hR2
   have I2 := Sd.mk i2
   have N2 : ¬ P2 g := fun q => hFg (i2 g q)
   clear hR2 i2
   have nn2 := dB aY kF l[i].fF
   obtain ⟨B6, b6, rfl⟩ := aV hR6
   have HR6 := Sd.mk hR6
   have I6 := Sd.mk i6
   have N6 : ¬ P6 g := fun q => hFg (i6 g q)
   clear hR6 i6
   have nn6 := dB bJ kW l[i].Queue
   obtain ⟨B7, b7, rfl⟩ := aV hR7
   have HR7 := Sd.mk hR7
   have I7 := Sd.mk i7
   have N7 : ¬ P7 g := fun q => hFg (i7 g q)
   clear hR7 i7
   have nn7 := dB bY mW l[i].dN
   have D2_6 := Sd.mk d2_6
   clear d2_6
   have D2_7 := Sd.mk d2_7
   clear d2_7
   have D6_7 := Sd.mk d6_7
   clear d6_7
   have HCN : Sd (bN l[i] = bN l[i]) := ⟨rfl⟩
   simp only [bN] at hle2
   generalize hq : k + aQ bN (l.take i) = q at *
   have HQ := Sd.mk hq
   have hq0 : 0 ≤ q := by omega
   have hqb : q + ((((((((((((0 + 1) + 1) + aQ aY l[i].fF) + 1) + 1) + 1) + aQ bJ l[i].Queue) + aQ bY l[i].dN) + 1) + 1) + 1) + 1) ≤ 4611686018427387904 := by omega
   clear hq hle hle2 hb
   generalize hcn2 : aQ aY l[i].fF = cn2 at *
   have HC2 := Sd.mk hcn2
   clear hcn2
   generalize hcn6 : aQ bJ l[i].Queue = cn6 at *
   have HC6 := Sd.mk hcn6
   clear hcn6
   generalize hcn7 : aQ bY l[i].dN = cn7 at *
   have HC7 := Sd.mk hcn7
   clear hcn7
   have HAT := Sd.mk hat
   have x0_s := hat.cell0 _ rfl
   have x1_s := hat.cell 1 _ rfl
   have x2_s := hat.cell 2 _ rfl
   have x3_s := hat.cell 3 _ rfl
   have x4_s := hat.cell 4 _ rfl
   have x5_s := hat.cell 5 _ rfl
   have x6_s := hat.cell 6 _ rfl
   have x7_s := hat.cell 7 _ rfl
   have x8_s := hat.cell 8 _ rfl
   have x9_s := hat.cell 9 _ rfl
   have x10_s := hat.cell 10 _ rfl
   have x11_s := hat.cell 11 _ rfl
   have f0_s := hat.free (i * 12)
   have f1_s := hat.free (i * 12 + 1)
   have f2_s := hat.free (i * 12 + 2)
   have f3_s := hat.free (i * 12 + 3)
   have f4_s := hat.free (i * 12 + 4)
   have f5_s := hat.free (i * 12 + 5)
   have f6_s := hat.free (i * 12 + 6)
   have f7_s := hat.free (i * 12 + 7)
   have f8_s := hat.free (i * 12 + 8)
   have f9_s := hat.free (i * 12 + 9)
   have f10_s := hat.free (i * 12 + 10)
   have f11_s := hat.free (i * 12 + 11)
   have CL := Sd.mk close
   clear hat close hM HR
   go_wp2_with fail
   with_reducible refine (markS_Value l[i].fF _ P2 _ _ ?hr_Slots kO (by rw [HC2.out]; omega)).mono ?_
   case hr_Slots => exact (aO (G := fun b => b = g) kC (fun b hb hg' => N2 (hg' ▸ hb)) HR2.out)
   rintro e w_Slots ⟨rfl, hR2, hu⟩
   rw [HC2.out]
   replace HR6 := Sd.mk (aO hu (fun b hb hg' => D2_6.out b hg' hb) (aO (G := fun b => b = g) kC (fun b hb hg' => N6 (hg' ▸ hb)) HR6.out))
   replace HR7 := Sd.mk (aO hu (fun b hb hg' => D2_7.out b hg' hb) (aO (G := fun b => b = g) kC (fun b hb hg' => N7 (hg' ▸ hb)) HR7.out))
   replace HR2 := Sd.mk hR2
   replace HAT := Sd.mk (((HAT.out.set0 kD (.int .i64 (q))).set 1 kD (.int .i64 ((q + 1)))).call hu I2.out hFg)
   clear hR2
   clear hu x0_s f0_s x1_s f1_s x2_s f2_s x3_s f3_s x4_s f4_s x5_s f5_s x6_s f6_s x7_s f7_s x8_s f8_s x9_s f9_s x10_s f10_s x11_s f11_s
   have x0_Slots := HAT.out.cell0 _ rfl
   have x1_Slots := HAT.out.cell 1 _ rfl
   have x2_Slots := HAT.out.cell 2 _ rfl
   have x3_Slots := HAT.out.cell 3 _ rfl
   have x4_Slots := HAT.out.cell 4 _ rfl
   have x5_Slots := HAT.out.cell 5 _ rfl
   have x6_Slots := HAT.out.cell 6 _ rfl
   have x7_Slots := HAT.out.cell 7 _ rfl
   have x8_Slots := HAT.out.cell 8 _ rfl
   have x9_Slots := HAT.out.cell 9 _ rfl
   have x10_Slots := HAT.out.cell 10 _ rfl
   have x11_Slots := HAT.out.cell 11 _ rfl
   have f0_Slots := HAT.out.free (i * 12)
   have f1_Slots := HAT.out.free (i * 12 + 1)
   have f2_Slots := HAT.out.free (i * 12 + 2)
   have f3_Slots := HAT.out.free (i * 12 + 3)
   have f4_Slots := HAT.out.free (i * 12 + 4)
   have f5_Slots := HAT.out.free (i * 12 + 5)
   have f6_Slots := HAT.out.free (i * 12 + 6)
   have f7_Slots := HAT.out.free (i * 12 + 7)
   have f8_Slots := HAT.out.free (i * 12 + 8)
   have f9_Slots := HAT.out.free (i * 12 + 9)
   have f10_Slots := HAT.out.free (i * 12 + 10)
   have f11_Slots := HAT.out.free (i * 12 + 11)
   go_wp2_with fail
   with_reducible refine (markS_Sent l[i].Queue _ P6 _ _ ?hr_Queue kO (by rw [HC6.out]; omega)).mono ?_
   case hr_Queue => exact (aO (G := fun b => b = g) kC (fun b hb hg' => N6 (hg' ▸ hb)) HR6.out)
   rintro e w_Queue ⟨rfl, hR6, hu⟩
   rw [HC6.out]
   replace HR2 := Sd.mk (aO hu (fun b hb hg' => D2_6.out b hb hg') (aO (G := fun b => b = g) kC (fun b hb hg' => N2 (hg' ▸ hb)) HR2.out))
   replace HR7 := Sd.mk (aO hu (fun b hb hg' => D6_7.out b hg' hb) (aO (G := fun b => b = g) kC (fun b hb hg' => N7 (hg' ▸ hb)) HR7.out))
   replace HR6 := Sd.mk hR6
   replace HAT := Sd.mk ((((HAT.out.set 3 kD (.int .i64 ((((q + 1) + 1) + cn2)))).set 4 kD (.int .i64 (((((q + 1) + 1) + cn2) + 1)))).set 5 kD (.int .i64 ((((((q + 1) + 1) + cn2) + 1) + 1)))).call hu I6.out hFg)
   clear hR6
   clear hu x0_Slots f0_Slots x1_Slots f1_Slots x2_Slots f2_Slots x3_Slots f3_Slots x4_Slots f4_Slots x5_Slots f5_Slots x6_Slots f6_Slots x7_Slots f7_Slots x8_Slots f8_Slots x9_Slots f9_Slots x10_Slots f10_Slots x11_Slots f11_Slots
   have x0_Queue := HAT.out.cell0 _ rfl
   have x1_Queue := HAT.out.cell 1 _ rfl
   have x2_Queue := HAT.out.cell 2 _ rfl
   have x3_Queue := HAT.out.cell 3 _ rfl
   have x4_Queue := HAT.out.cell 4 _ rfl
   have x5_Queue := HAT.out.cell 5 _ rfl
   have x6_Queue := HAT.out.cell 6 _ rfl
   have x7_Queue := HAT.out.cell 7 _ rfl
   have x8_Queue := HAT.out.cell 8 _ rfl
   have x9_Queue := HAT.out.cell 9 _ rfl
   have x10_Queue := HAT.out.cell 10 _ rfl
   have x11_Queue := HAT.out.cell 11 _ rfl
   have f0_Queue := HAT.out.free (i * 12)
   have f1_Queue := HAT.out.free (i * 12 + 1)
   have f2_Queue := HAT.out.free (i * 12 + 2)
   have f3_Queue := HAT.out.free (i * 12 + 3)
   have f4_Queue := HAT.out.free (i * 12 + 4)
   have f5_Queue := HAT.out.free (i * 12 + 5)
   have f6_Queue := HAT.out.free (i * 12 + 6)
   have f7_Queue := HAT.out.free (i * 12 + 7)
   have f8_Queue := HAT.out.free (i * 12 + 8)
   have f9_Queue := HAT.out.free (i * 12 + 9)
   have f10_Queue := HAT.out.free (i * 12 + 10)
   have f11_Queue := HAT.out.free (i * 12 + 11)
   go_wp2_with fail
   with_reducible refine (markS_Asker l[i].dN _ P7 _ _ ?hr_Askers kO (by rw [HC7.out]; omega)).mono ?_
   case hr_Askers => exact (aO (G := fun b => b = g) kC (fun b hb hg' => N7 (hg' ▸ hb)) HR7.out)
   rintro e w_Askers ⟨rfl, hR7, hu⟩
   rw [HC7.out]
   replace HR2 := Sd.mk (aO hu (fun b hb hg' => D2_7.out b hb hg') (aO (G := fun b => b = g) kC (fun b hb hg' => N2 (hg' ▸ hb)) HR2.out))
   replace HR6 := Sd.mk (aO hu (fun b hb hg' => D6_7.out b hb hg') (aO (G := fun b => b = g) kC (fun b hb hg' => N6 (hg' ▸ hb)) HR6.out))
   replace HR7 := Sd.mk hR7
   replace HAT := Sd.mk (HAT.out.call hu I7.out hFg)
   clear hR7
   clear hu x0_Queue f0_Queue x1_Queue f1_Queue x2_Queue f2_Queue x3_Queue f3_Queue x4_Queue f4_Queue x5_Queue f5_Queue x6_Queue f6_Queue x7_Queue f7_Queue x8_Queue f8_Queue x9_Queue f9_Queue x10_Queue f10_Queue x11_Queue f11_Queue
   have x0_Askers := HAT.out.cell0 _ rfl
   have x1_Askers := HAT.out.cell 1 _ rfl
   have x2_Askers := HAT.out.cell 2 _ rfl
   have x3_Askers := HAT.out.cell 3 _ rfl
   have x4_Askers := HAT.out.cell 4 _ rfl
   have x5_Askers := HAT.out.cell 5 _ rfl
   have x6_Askers := HAT.out.cell 6 _ rfl
   have x7_Askers := HAT.out.cell 7 _ rfl
   have x8_Askers := HAT.out.cell 8 _ rfl
   have x9_Askers := HAT.out.cell 9 _ rfl
   have x10_Askers := HAT.out.cell 10 _ rfl
   have x11_Askers := HAT.out.cell 11 _ rfl
   have f0_Askers := HAT.out.free (i * 12)
   have f1_Askers := HAT.out.free (i * 12 + 1)
   have f2_Askers := HAT.out.free (i * 12 + 2)
   have f3_Askers := HAT.out.free (i * 12 + 3)
   have f4_Askers := HAT.out.free (i * 12 + 4)
   have f5_Askers := HAT.out.free (i * 12 + 5)
   have f6_Askers := HAT.out.free (i * 12 + 6)
   have f7_Askers := HAT.out.free (i * 12 + 7)
   have f8_Askers := HAT.out.free (i * 12 + 8)
   have f9_Askers := HAT.out.free (i * 12 + 9)
   have f10_Askers := HAT.out.free (i * 12 + 10)
   have f11_Askers := HAT.out.free (i * 12 + 11)
   go_wp2
   have HA := ((((HAT.out.set 8 kD (.int .i64 (((((((((q + 1) + 1) + cn2) + 1) + 1) + 1) + cn6) + cn7)))).set 9 kD (.int .i64 ((((((((((q + 1) + 1) + cn2) + 1) + 1) + 1) + cn6) + cn7) + 1)))).set 10 kD (.int .i64 (((((((((((q + 1) + 1) + cn2) + 1) + 1) + 1) + cn6) + cn7) + 1) + 1)))).set 11 kD (.int .i64 ((((((((((((q + 1) + 1) + cn2) + 1) + 1) + 1) + cn6) + cn7) + 1) + 1) + 1))))
   have hy : (⟨q, (q + 1), mkS jD aY ((q + 1) + 1) l[i].fF, (((q + 1) + 1) + cn2), ⟨((((q + 1) + 1) + cn2) + 1), (((((q + 1) + 1) + cn2) + 1) + 1)⟩, mkS kG bJ ((((((q + 1) + 1) + cn2) + 1) + 1) + 1) l[i].Queue, mkS lH bY (((((((q + 1) + 1) + cn2) + 1) + 1) + 1) + cn6) l[i].dN, ((((((((q + 1) + 1) + cn2) + 1) + 1) + 1) + cn6) + cn7), (((((((((q + 1) + 1) + cn2) + 1) + 1) + 1) + cn6) + cn7) + 1), ((((((((((q + 1) + 1) + cn2) + 1) + 1) + 1) + cn6) + cn7) + 1) + 1), (((((((((((q + 1) + 1) + cn2) + 1) + 1) + 1) + cn6) + cn7) + 1) + 1) + 1)⟩ : GEntity) = (mkS kH bN k l)[i]'(by rw [aR]; exact hlt) := by rw [HMA.out]; simp only [kH, HC2.out, HC6.out, HC7.out]
   have HRowB := CL.out _ _ (⟨q, (q + 1), mkS jD aY ((q + 1) + 1) l[i].fF, (((q + 1) + 1) + cn2), ⟨((((q + 1) + 1) + cn2) + 1), (((((q + 1) + 1) + cn2) + 1) + 1)⟩, mkS kG bJ ((((((q + 1) + 1) + cn2) + 1) + 1) + 1) l[i].Queue, mkS lH bY (((((((q + 1) + 1) + cn2) + 1) + 1) + 1) + cn6) l[i].dN, ((((((((q + 1) + 1) + cn2) + 1) + 1) + 1) + cn6) + cn7), (((((((((q + 1) + 1) + cn2) + 1) + 1) + 1) + cn6) + cn7) + 1), ((((((((((q + 1) + 1) + cn2) + 1) + 1) + 1) + cn6) + cn7) + 1) + 1), (((((((((((q + 1) + 1) + cn2) + 1) + 1) + 1) + cn6) + cn7) + 1) + 1) + 1)⟩ : GEntity) Fi F HA (nA _ Fi (⟨q, (q + 1), mkS jD aY ((q + 1) + 1) l[i].fF, (((q + 1) + 1) + cn2), ⟨((((q + 1) + 1) + cn2) + 1), (((((q + 1) + 1) + cn2) + 1) + 1)⟩, mkS kG bJ ((((((q + 1) + 1) + cn2) + 1) + 1) + 1) l[i].Queue, mkS lH bY (((((((q + 1) + 1) + cn2) + 1) + 1) + 1) + cn6) l[i].dN, ((((((((q + 1) + 1) + cn2) + 1) + 1) + 1) + cn6) + cn7), (((((((((q + 1) + 1) + cn2) + 1) + 1) + 1) + cn6) + cn7) + 1), ((((((((((q + 1) + 1) + cn2) + 1) + 1) + 1) + cn6) + cn7) + 1) + 1), (((((((((((q + 1) + 1) + cn2) + 1) + 1) + 1) + cn6) + cn7) + 1) + 1) + 1)⟩ : GEntity) (aO (G := fun b => b = g) kC (fun b hb hg' => N2 (hg' ▸ hb)) HR2.out) (aO (G := fun b => b = g) kC (fun b hb hg' => N6 (hg' ▸ hb)) HR6.out) (aO (G := fun b => b = g) kC (fun b hb hg' => N7 (hg' ▸ hb)) HR7.out) I2.out I6.out I7.out D2_6.out D2_7.out D6_7.out) (fun _ hb => .inl hb) (fun _ hb => hb) hFi
   rw [hy, dI (aR _ _ _ _) hlt] at HRowB
   go_roundg (gk - 1)
   case measure => omega
   case rel => exact ⟨i + 1, by omega, by rw [HST.out]; simp only [bN]; have := HQ.out; have := HC2.out; have := HC6.out; have := HC7.out; exact congrArg (Value.int .i64) kO, by go_num, ⟨HRowB⟩, ⟨HU.out.trans HA.upd (fun _ _ hb => hb) (fun b _ hb => by rcases hb with rfl | hb; exact hg; exact hFi b hb)⟩⟩
  ·go_wp2
   go_ret
   have HRowB := HR.out
   rw [dG (aR _ _ _ _) kO] at HRowB
   have e : l.take i = l := List.take_of_length_le kO
   exact ⟨gX (by rw [e]), HRowB, HU.out⟩
theorem kl_Export_Kmk (w : World) (x : GExport) : iQ.K w x [.int .i64 x.Pos, .int .i64 x.Entity, .int .i64 x.Count] := ⟨[_], [_, _], rfl, rfl, ⟨[_], [_], rfl, rfl, rfl⟩⟩
theorem ki_Export_Kmk (w : World) (x : GExport) : dX.K w x [.int .i64 x.Pos, .int .i64 x.Entity, .int .i64 x.Count] := ⟨[_], [_, _], rfl, rfl, ⟨[_], [_], rfl, rfl, rfl⟩⟩
theorem to_Export (x : GExport) (cs : List Value) (w : World) (h : iQ.K w x cs) (hs : gZ x ≤ 1048576) : Calls Tryz.prog 165 #[.agg cs.toArray] w (jU dX x w) := by
 obtain rfl := kl_Export_K h
 clear hs
 go_enter Tryz.func165, Tryz.ntmps165
 go_wp2
 refine bodyPost_ret (v := .agg #[.int .i64 x.Pos, .int .i64 x.Entity, .int .i64 x.Count]) (by simp [results, Tryz.results165, go_sem]) rfl ⟨_, rfl, ?_, kA⟩
 exact nC _ _ _
theorem toS_Export (l : List GExport) (A : Option Addr) (c : Nat) (w : World) (h : C iQ w A l) (hs : bB gZ l ≤ 1048576) : Calls Tryz.prog 150 #[.slice A l.length c] w (jH dX 186 l w) := by
 have hn : l.length ≤ 1048576 := by unfold bB at hs; omega
 have hmk := iB (P := Tryz.prog) _ _ _ Tryz.underlying134 ki_Export_info l.length hn kD
 have H := Sd.mk h
 have HS := Sd.mk hs
 clear h hs
 go_enter Tryz.func150, Tryz.ntmps150
 go_wp2
 clear hmk
 have HR : Sd (R dX 186 (w.alloc (eD (.agg #[.int .i64 0, .int .i64 0, .int .i64 0]) (l.length * 3) 186)) (New w) (.slice (some ⟨w.heap.size, 0, none⟩) l.length l.length) (List.replicate l.length zExport)) := Sd.mk (kL (d := dX) (e := 186) w (.agg #[.int .i64 0, .int .i64 0, .int .i64 0]) zExport rfl kD ki_Export_zero l.length hn)
 have HU := Sd.mk ((Upd.refl No w).alloc (eD (.agg #[.int .i64 0, .int .i64 0, .int .i64 0]) (l.length * 3) 186))
 go_loopg [4] l.length (fun k v wr => ∃ i : Nat, i + k = l.length ∧ v = .int .i64 i ∧ Sd (R dX 186 wr (New w) (.slice (some ⟨w.heap.size, 0, none⟩) l.length l.length) (upTo l (List.replicate l.length zExport) i)) ∧ Sd (Upd No w wr))
 case atStart => exact ⟨0, by omega, rfl, ⟨by rw [bX]; exact HR.out⟩, HU⟩
 case round =>
  clear HR HU
  obtain ⟨i, hi, rfl, HR, HU⟩ := hrel
  by_cases hlt : i < l.length
  ·obtain ⟨ad, rfl, a0, a1, a2⟩ := kl_Export_at (aM HU.out H.out) i hlt
   have hsi : gZ l[i] ≤ 1048576 := by have := HS.out; have := iZ gZ l i hlt; unfold bB at *; omega
   go_wp2_with fail
   with_reducible refine (to_Export l[i] _ _ (kl_Export_Kmk _ _) hsi).mono ?_
   rintro e w1 ⟨cs, rfl, hM, hu⟩
   obtain rfl := ki_Export_M hM
   have HRowA := aO hu (fun _ _ q => q) (R_lt HR.out)
   have HU1 := Sd.mk (HU.out.then hu)
   have hzw := HU.out.size
   clear HR HU hM hu
   obtain ⟨g, cap, cur, ce, Fi, hv, hcap, hat, hM, hg, hFi, hFg, close⟩ := fV HRowA 3 l.length rfl (by rw [dH (by simp) (by simp; omega)]; simp) i zExport (by rw [eP (by simp) (by simpa using hlt)]; simp)
   cases hv
   obtain rfl := ki_Export_M hM
   have HAT := Sd.mk hat
   have x0 := hat.cell0 _ rfl
   have x1 := hat.cell 1 _ rfl
   have x2 := hat.cell 2 _ rfl
   have f0 := hat.free (i * 3)
   have f1 := hat.free (i * 3 + 1)
   have f2 := hat.free (i * 3 + 2)
   have CL := Sd.mk close
   clear hat close hM HRowA
   go_wp2
   have HA := ((HAT.out.set0 kD (.int .i64 l[i].Pos)).set 1 kD (.int .i64 l[i].Entity)).set 2 kD (.int .i64 l[i].Count)
   have HRowB := CL.out _ _ l[i] No (New w) HA (nC _ _ _) (fun _ q => q.elim) (fun _ q => q.1) (fun _ q => q.elim)
   rw [dI (by simp) (by simpa using hlt)] at HRowB
   go_roundg (gk - 1)
   case measure => omega
   case rel => exact ⟨i + 1, by omega, by go_num, ⟨HRowB⟩, ⟨by repeat (with_reducible first | exact HU1.out | apply Upd.aP)⟩⟩
  ·go_wp2
   go_ret
   have HRowB := HR.out
   rw [dG (by simp) (by simp; omega)] at HRowB
   exact ⟨_, rfl, HRowB, HU.out⟩
theorem szS_Export (l : List GExport) (A : Option Addr) (c : Nat) (n : Int) (w : World) (h : C iQ w A l) (h0 : 0 ≤ n) (h1 : n ≤ 1048576) : Calls Tryz.prog 143 #[.slice A l.length c, .int .i64 n] w (jA (bB gZ l) n w) := by
 have hn := h.1
 have H := Sd.mk h
 clear h
 go_enter Tryz.func143, Tryz.ntmps143
 by_cases q0 : (l.length : Int) ≤ n
 case neg =>
  go_wp2
  go_ret
  exact ⟨_, rfl, .inr ⟨by unfold bB; omega, rfl⟩, Upd.refl _ _⟩
 have hz : eZ gZ l = 0 := by
  clear q0 hn H
  induction l with
  | nil => rfl
  | cons x l ih => simp [eZ, gZ, ih]
 have HZ := Sd.mk hz
 clear hz
 go_wp2
 go_ret
 have hz := HZ.out
 exact ⟨_, rfl, .inl ⟨by unfold bB; omega, by unfold bB; omega⟩, Upd.refl _ _⟩
theorem eq_Export (x : GExport) (cs cs' : List Value) (w : World) (h : dX.K w x cs) (h' : dX.K w x cs') : Calls Tryz.prog 169 #[.agg cs.toArray, .agg cs'.toArray] w (bU true w) := by
 obtain rfl := nU h
 obtain rfl := nU h'
 go_enter Tryz.func169, Tryz.ntmps169
 go_wp2
 go_ret
 exact ⟨rfl, kA⟩
theorem eqS_Export (l : List GExport) (A A' : Option Addr) (c c' : Nat) (w : World) (h : C dX w A l) (h' : C dX w A' l) : Calls Tryz.prog 158 #[.slice A l.length c, .slice A' l.length c'] w (bU true w) := by
 have hn := h.1
 have H := Sd.mk h
 have H' := Sd.mk h'
 clear h h'
 go_enter Tryz.func158, Tryz.ntmps158
 go_wp2
 go_loopg [5] l.length (fun k v wr => ∃ i : Nat, i + k = l.length ∧ v = .int .i64 i ∧ Sd (Upd No w wr))
 case atStart => exact ⟨0, by omega, rfl, ⟨Upd.refl _ _⟩⟩
 case round =>
  obtain ⟨i, hi, rfl, HU⟩ := hrel
  by_cases hlt : i < l.length
  ·obtain ⟨ad, rfl, a0, a1, a2⟩ := ki_Export_at (aM HU.out H.out) i hlt
   obtain ⟨ad', rfl, z0, z1, z2⟩ := ki_Export_at (aM HU.out H'.out) i hlt
   go_wp2_with fail
   go_still_tail 8, kR
   change wpList _ _ _ _ _ wr.drew
   have HW : Sd (Upd No wr wr.drew) := ⟨(Upd.refl _ _).drew⟩
   have HU2 : Sd (Upd No w wr.drew) := ⟨HU.out.drew⟩
   generalize wr.drew = w2 at *
   go_wp2_with (go_at_call 169; (with_reducible refine (eq_Export l[i] _ _ _ (ki_Export_Kmk _ _) (ki_Export_Kmk _ _)).mono ?_); rintro e w' ⟨rfl, hu⟩)
   have HU3 := Sd.mk (HU2.out.then hu)
   clear HU2 hu
   go_wp2
   go_roundg (gk - 1)
   case measure => omega
   case rel => exact ⟨i + 1, by omega, by go_num, HU3⟩
  ·go_wp2
   go_ret
   exact ⟨rfl, HU.out⟩
theorem markS_Export (l : List GExport) (k : Int) (F : Nat → Prop) (v : Value) (w : World) (h : R dX 186 w F v l) (hk : 0 ≤ k) (hb : k + aQ bL l ≤ 4611686018427387904) : Calls Tryz.prog 110 #[v, .int .i64 k] w (Marks dX 186 F v (k + aQ bL l) (mkS kI bL k l) w) := by
 obtain ⟨A, c, rfl⟩ := aV h
 have hn := R_len h
 have H := Sd.mk h
 clear h
 go_enter Tryz.func110, Tryz.ntmps110
 go_wp2
 go_loopg [1, 5] l.length (fun r u v wr => ∃ i : Nat, i + r = l.length ∧ u = .int .i64 (k + aQ bL (l.take i)) ∧ v = .int .i64 i ∧ Sd (R dX 186 wr F (.slice A l.length c) (upTo (mkS kI bL k l) l i)) ∧ Sd (Upd F w wr))
 case atStart => exact ⟨0, by omega, by simp [aQ], rfl, ⟨by rw [bX]; exact H.out⟩, ⟨Upd.refl _ _⟩⟩
 case round =>
  obtain ⟨i, hi, rfl, rfl, HR, HU⟩ := hrel
  by_cases hlt : i < l.length
  ·have hle := dJ bL mI l i
   have hst := fQ bL l i hlt
   have hle2 := dJ bL mI l (i + 1)
   rw [hst] at hle2
   have HST := Sd.mk hst
   clear hst
   have HMA := Sd.mk (jI kI bL l k i hlt)
   obtain ⟨g, cap, cur, ce, Fi, hv, hcap, hat, hM, hg, hFi, hFg, close⟩ := fV HR.out 3 l.length rfl (dH (aR _ _ _ _) kO) i l[i] (eP (aR _ _ _ _) hlt)
   cases hv
   obtain rfl := ki_Export_M hM
   have HCN : Sd (bL l[i] = bL l[i]) := ⟨rfl⟩
   simp only [bL] at hle2
   generalize hq : k + aQ bL (l.take i) = q at *
   have HQ := Sd.mk hq
   have hq0 : 0 ≤ q := by omega
   have hqb : q + (((0 + 1) + 1) + 1) ≤ 4611686018427387904 := by omega
   clear hq hle hle2 hb
   have HAT := Sd.mk hat
   have x0_s := hat.cell0 _ rfl
   have x1_s := hat.cell 1 _ rfl
   have x2_s := hat.cell 2 _ rfl
   have f0_s := hat.free (i * 3)
   have f1_s := hat.free (i * 3 + 1)
   have f2_s := hat.free (i * 3 + 2)
   have CL := Sd.mk close
   clear hat close hM HR
   go_wp2
   have HA := (((HAT.out.set0 kD (.int .i64 (q))).set 1 kD (.int .i64 ((q + 1)))).set 2 kD (.int .i64 (((q + 1) + 1))))
   have hy : (⟨q, (q + 1), ((q + 1) + 1)⟩ : GExport) = (mkS kI bL k l)[i]'(by rw [aR]; exact hlt) := by rw [HMA.out]; simp only [kI]
   have HRowB := CL.out _ _ (⟨q, (q + 1), ((q + 1) + 1)⟩ : GExport) Fi F HA (nC _ Fi (⟨q, (q + 1), ((q + 1) + 1)⟩ : GExport)) (fun _ hb => .inl hb) (fun _ hb => hb) hFi
   rw [hy, dI (aR _ _ _ _) hlt] at HRowB
   go_roundg (gk - 1)
   case measure => omega
   case rel => exact ⟨i + 1, by omega, by rw [HST.out]; simp only [bL]; have := HQ.out; exact congrArg (Value.int .i64) kO, by go_num, ⟨HRowB⟩, ⟨HU.out.trans HA.upd (fun _ _ hb => hb) (fun b _ hb => by rcases hb with rfl | hb; exact hg; exact hFi b hb)⟩⟩
  ·go_wp2
   go_ret
   have HRowB := HR.out
   rw [dG (aR _ _ _ _) kO] at HRowB
   have e : l.take i = l := List.take_of_length_le kO
   exact ⟨gX (by rw [e]), HRowB, HU.out⟩
theorem kl_Question_Kmk (w : World) (x : GQuestion) : fA.K w x [.int .i64 x.Id, .int .i64 x.Promise] := ⟨[_], [_], rfl, rfl, rfl⟩
theorem ki_Question_Kmk (w : World) (x : GQuestion) : bI.K w x [.int .i64 x.Id, .int .i64 x.Promise] := ⟨[_], [_], rfl, rfl, rfl⟩
theorem to_Question (x : GQuestion) (cs : List Value) (w : World) (h : fA.K w x cs) (hs : fB x ≤ 1048576) : Calls Tryz.prog 166 #[.agg cs.toArray] w (jU bI x w) := by
 obtain rfl := kl_Question_K h
 clear hs
 go_enter Tryz.func166, Tryz.ntmps166
 go_wp2
 refine bodyPost_ret (v := .agg #[.int .i64 x.Id, .int .i64 x.Promise]) (by simp [results, Tryz.results166, go_sem]) rfl ⟨_, rfl, ?_, kA⟩
 exact lK _ _ _
theorem toS_Question (l : List GQuestion) (A : Option Addr) (c : Nat) (w : World) (h : C fA w A l) (hs : bB fB l ≤ 1048576) : Calls Tryz.prog 151 #[.slice A l.length c] w (jH bI 193 l w) := by
 have hn : l.length ≤ 1048576 := by unfold bB at hs; omega
 have hmk := iB (P := Tryz.prog) _ _ _ Tryz.underlying135 ki_Question_info l.length hn kD
 have H := Sd.mk h
 have HS := Sd.mk hs
 clear h hs
 go_enter Tryz.func151, Tryz.ntmps151
 go_wp2
 clear hmk
 have HR : Sd (R bI 193 (w.alloc (eD (.agg #[.int .i64 0, .int .i64 0]) (l.length * 2) 193)) (New w) (.slice (some ⟨w.heap.size, 0, none⟩) l.length l.length) (List.replicate l.length kX)) := Sd.mk (kL (d := bI) (e := 193) w (.agg #[.int .i64 0, .int .i64 0]) kX rfl kD ki_Question_zero l.length hn)
 have HU := Sd.mk ((Upd.refl No w).alloc (eD (.agg #[.int .i64 0, .int .i64 0]) (l.length * 2) 193))
 go_loopg [4] l.length (fun k v wr => ∃ i : Nat, i + k = l.length ∧ v = .int .i64 i ∧ Sd (R bI 193 wr (New w) (.slice (some ⟨w.heap.size, 0, none⟩) l.length l.length) (upTo l (List.replicate l.length kX) i)) ∧ Sd (Upd No w wr))
 case atStart => exact ⟨0, by omega, rfl, ⟨by rw [bX]; exact HR.out⟩, HU⟩
 case round =>
  clear HR HU
  obtain ⟨i, hi, rfl, HR, HU⟩ := hrel
  by_cases hlt : i < l.length
  ·obtain ⟨ad, rfl, a0, a1⟩ := kl_Question_at (aM HU.out H.out) i hlt
   have hsi : fB l[i] ≤ 1048576 := by have := HS.out; have := iZ fB l i hlt; unfold bB at *; omega
   go_wp2_with fail
   with_reducible refine (to_Question l[i] _ _ (kl_Question_Kmk _ _) hsi).mono ?_
   rintro e w1 ⟨cs, rfl, hM, hu⟩
   obtain rfl := nV hM
   have HRowA := aO hu (fun _ _ q => q) (R_lt HR.out)
   have HU1 := Sd.mk (HU.out.then hu)
   have hzw := HU.out.size
   clear HR HU hM hu
   obtain ⟨g, cap, cur, ce, Fi, hv, hcap, hat, hM, hg, hFi, hFg, close⟩ := fV HRowA 2 l.length rfl (by rw [dH (by simp) (by simp; omega)]; simp) i kX (by rw [eP (by simp) (by simpa using hlt)]; simp)
   cases hv
   obtain rfl := nV hM
   have HAT := Sd.mk hat
   have x0 := hat.cell0 _ rfl
   have x1 := hat.cell 1 _ rfl
   have f0 := hat.free (i * 2)
   have f1 := hat.free (i * 2 + 1)
   have CL := Sd.mk close
   clear hat close hM HRowA
   go_wp2
   have HA := (HAT.out.set0 kD (.int .i64 l[i].Id)).set 1 kD (.int .i64 l[i].Promise)
   have HRowB := CL.out _ _ l[i] No (New w) HA (lK _ _ _) (fun _ q => q.elim) (fun _ q => q.1) (fun _ q => q.elim)
   rw [dI (by simp) (by simpa using hlt)] at HRowB
   go_roundg (gk - 1)
   case measure => omega
   case rel => exact ⟨i + 1, by omega, by go_num, ⟨HRowB⟩, ⟨by repeat (with_reducible first | exact HU1.out | apply Upd.aP)⟩⟩
  ·go_wp2
   go_ret
   have HRowB := HR.out
   rw [dG (by simp) (by simp; omega)] at HRowB
   exact ⟨_, rfl, HRowB, HU.out⟩
theorem szS_Question (l : List GQuestion) (A : Option Addr) (c : Nat) (n : Int) (w : World) (h : C fA w A l) (h0 : 0 ≤ n) (h1 : n ≤ 1048576) : Calls Tryz.prog 144 #[.slice A l.length c, .int .i64 n] w (jA (bB fB l) n w) := by
 have hn := h.1
 have H := Sd.mk h
 clear h
 go_enter Tryz.func144, Tryz.ntmps144
 by_cases q0 : (l.length : Int) ≤ n
 case neg =>
  go_wp2
  go_ret
  exact ⟨_, rfl, .inr ⟨by unfold bB; omega, rfl⟩, Upd.refl _ _⟩
 have hz : eZ fB l = 0 := by
  clear q0 hn H
  induction l with
  | nil => rfl
  | cons x l ih => simp [eZ, fB, ih]
 have HZ := Sd.mk hz
 clear hz
 go_wp2
 go_ret
 have hz := HZ.out
 exact ⟨_, rfl, .inl ⟨by unfold bB; omega, by unfold bB; omega⟩, Upd.refl _ _⟩
theorem eq_Question (x : GQuestion) (cs cs' : List Value) (w : World) (h : bI.K w x cs) (h' : bI.K w x cs') : Calls Tryz.prog 170 #[.agg cs.toArray, .agg cs'.toArray] w (bU true w) := by
 obtain rfl := mJ h
 obtain rfl := mJ h'
 go_enter Tryz.func170, Tryz.ntmps170
 go_wp2
 go_ret
 exact ⟨rfl, kA⟩
theorem eqS_Question (l : List GQuestion) (A A' : Option Addr) (c c' : Nat) (w : World) (h : C bI w A l) (h' : C bI w A' l) : Calls Tryz.prog 159 #[.slice A l.length c, .slice A' l.length c'] w (bU true w) := by
 have hn := h.1
 have H := Sd.mk h
 have H' := Sd.mk h'
 clear h h'
 go_enter Tryz.func159, Tryz.ntmps159
 go_wp2
 go_loopg [5] l.length (fun k v wr => ∃ i : Nat, i + k = l.length ∧ v = .int .i64 i ∧ Sd (Upd No w wr))
 case atStart => exact ⟨0, by omega, rfl, ⟨Upd.refl _ _⟩⟩
 case round =>
  obtain ⟨i, hi, rfl, HU⟩ := hrel
  by_cases hlt : i < l.length
  ·obtain ⟨ad, rfl, a0, a1⟩ := ki_Question_at (aM HU.out H.out) i hlt
   obtain ⟨ad', rfl, z0, z1⟩ := ki_Question_at (aM HU.out H'.out) i hlt
   go_wp2_with fail
   go_still_tail 8, kR
   change wpList _ _ _ _ _ wr.drew
   have HW : Sd (Upd No wr wr.drew) := ⟨(Upd.refl _ _).drew⟩
   have HU2 : Sd (Upd No w wr.drew) := ⟨HU.out.drew⟩
   generalize wr.drew = w2 at *
   go_wp2_with (go_at_call 170; (with_reducible refine (eq_Question l[i] _ _ _ (ki_Question_Kmk _ _) (ki_Question_Kmk _ _)).mono ?_); rintro e w' ⟨rfl, hu⟩)
   have HU3 := Sd.mk (HU2.out.then hu)
   clear HU2 hu
   go_wp2
   go_roundg (gk - 1)
   case measure => omega
   case rel => exact ⟨i + 1, by omega, by go_num, HU3⟩
  ·go_wp2
   go_ret
   exact ⟨rfl, HU.out⟩
theorem markS_Question (l : List GQuestion) (k : Int) (F : Nat → Prop) (v : Value) (w : World) (h : R bI 193 w F v l) (hk : 0 ≤ k) (hb : k + aQ aU l ≤ 4611686018427387904) : Calls Tryz.prog 111 #[v, .int .i64 k] w (Marks bI 193 F v (k + aQ aU l) (mkS gK aU k l) w) := by
 obtain ⟨A, c, rfl⟩ := aV h
 have hn := R_len h
 have H := Sd.mk h
 clear h
 go_enter Tryz.func111, Tryz.ntmps111
 go_wp2
 go_loopg [1, 5] l.length (fun r u v wr => ∃ i : Nat, i + r = l.length ∧ u = .int .i64 (k + aQ aU (l.take i)) ∧ v = .int .i64 i ∧ Sd (R bI 193 wr F (.slice A l.length c) (upTo (mkS gK aU k l) l i)) ∧ Sd (Upd F w wr))
 case atStart => exact ⟨0, by omega, by simp [aQ], rfl, ⟨by rw [bX]; exact H.out⟩, ⟨Upd.refl _ _⟩⟩
 case round =>
  obtain ⟨i, hi, rfl, rfl, HR, HU⟩ := hrel
  by_cases hlt : i < l.length
  ·have hle := dJ aU iP l i
   have hst := fQ aU l i hlt
   have hle2 := dJ aU iP l (i + 1)
   rw [hst] at hle2
   have HST := Sd.mk hst
   clear hst
   have HMA := Sd.mk (jI gK aU l k i hlt)
   obtain ⟨g, cap, cur, ce, Fi, hv, hcap, hat, hM, hg, hFi, hFg, close⟩ := fV HR.out 2 l.length rfl (dH (aR _ _ _ _) kO) i l[i] (eP (aR _ _ _ _) hlt)
   cases hv
   obtain rfl := nV hM
   have HCN : Sd (aU l[i] = aU l[i]) := ⟨rfl⟩
   simp only [aU] at hle2
   generalize hq : k + aQ aU (l.take i) = q at *
   have HQ := Sd.mk hq
   have hq0 : 0 ≤ q := by omega
   have hqb : q + ((0 + 1) + 1) ≤ 4611686018427387904 := by omega
   clear hq hle hle2 hb
   have HAT := Sd.mk hat
   have x0_s := hat.cell0 _ rfl
   have x1_s := hat.cell 1 _ rfl
   have f0_s := hat.free (i * 2)
   have f1_s := hat.free (i * 2 + 1)
   have CL := Sd.mk close
   clear hat close hM HR
   go_wp2
   have HA := ((HAT.out.set0 kD (.int .i64 (q))).set 1 kD (.int .i64 ((q + 1))))
   have hy : (⟨q, (q + 1)⟩ : GQuestion) = (mkS gK aU k l)[i]'(by rw [aR]; exact hlt) := by rw [HMA.out]; simp only [gK]
   have HRowB := CL.out _ _ (⟨q, (q + 1)⟩ : GQuestion) Fi F HA (lK _ Fi (⟨q, (q + 1)⟩ : GQuestion)) (fun _ hb => .inl hb) (fun _ hb => hb) hFi
   rw [hy, dI (aR _ _ _ _) hlt] at HRowB
   go_roundg (gk - 1)
   case measure => omega
   case rel => exact ⟨i + 1, by omega, by rw [HST.out]; simp only [aU]; have := HQ.out; exact congrArg (Value.int .i64) kO, by go_num, ⟨HRowB⟩, ⟨HU.out.trans HA.upd (fun _ _ hb => hb) (fun b _ hb => by rcases hb with rfl | hb; exact hg; exact hFi b hb)⟩⟩
  ·go_wp2
   go_ret
   have HRowB := HR.out
   rw [dG (aR _ _ _ _) kO] at HRowB
   have e : l.take i = l := List.take_of_length_le kO
   exact ⟨gX (by rw [e]), HRowB, HU.out⟩
theorem kl_Link_Kmk (w : World) (x : GLink) {A2 : Option Addr} {c2 : Nat} (hl2 : x.bW.length ≤ c2) (hC2 : C iQ w A2 x.bW) {A4 : Option Addr} {c4 : Nat} (hl4 : x.bC.length ≤ c4) (hC4 : C fA w A4 x.bC) {A6 : Option Addr} {c6 : Nat} (hl6 : x.cO.length ≤ c6) (hC6 : C fA w A6 x.cO) : kK.K w x [.int .i64 x.iU, .bool x.Up, .slice A2 x.bW.length c2, .int .i64 x.Next, .slice A4 x.bC.length c4, .int .i64 x.Asked, .slice A6 x.cO.length c6] := ⟨[_], [_, _, _, _, _, _], rfl, rfl, ⟨[_], [_, _, _, _, _], rfl, rfl, ⟨[_], [_, _, _, _], rfl, ⟨A2, c2, rfl, hl2, hC2⟩, ⟨[_], [_, _, _], rfl, rfl, ⟨[_], [_, _], rfl, ⟨A4, c4, rfl, hl4, hC4⟩, ⟨[_], [_], rfl, rfl, ⟨A6, c6, rfl, hl6, hC6⟩⟩⟩⟩⟩⟩⟩
theorem ki_Link_Kmk (w : World) (x : GLink) {A2 : Option Addr} {c2 : Nat} (hl2 : x.bW.length ≤ c2) (hC2 : C dX w A2 x.bW) {A4 : Option Addr} {c4 : Nat} (hl4 : x.bC.length ≤ c4) (hC4 : C bI w A4 x.bC) {A6 : Option Addr} {c6 : Nat} (hl6 : x.cO.length ≤ c6) (hC6 : C bI w A6 x.cO) : gH.K w x [.int .i64 x.iU, .bool x.Up, .slice A2 x.bW.length c2, .int .i64 x.Next, .slice A4 x.bC.length c4, .int .i64 x.Asked, .slice A6 x.cO.length c6] := ⟨[_], [_, _, _, _, _, _], rfl, rfl, ⟨[_], [_, _, _, _, _], rfl, rfl, ⟨[_], [_, _, _, _], rfl, ⟨A2, c2, rfl, hl2, hC2⟩, ⟨[_], [_, _, _], rfl, rfl, ⟨[_], [_, _], rfl, ⟨A4, c4, rfl, hl4, hC4⟩, ⟨[_], [_], rfl, rfl, ⟨A6, c6, rfl, hl6, hC6⟩⟩⟩⟩⟩⟩⟩
theorem to_Link (x : GLink) (cs : List Value) (w : World) (h : kK.K w x cs) (hs : fM x ≤ 1048576) : Calls Tryz.prog 131 #[.agg cs.toArray] w (jU gH x w) := by
 obtain ⟨A2, c2, A4, c4, A6, c6, rfl, hl2, hC2, hl4, hC4, hl6, hC6⟩ := kl_Link_K h
 have HC2 := Sd.mk hC2
 have HC4 := Sd.mk hC4
 have HC6 := Sd.mk hC6
 clear hC2 hC4 hC6
 have s_Exports : bB gZ x.bW ≤ 1048576 := by unfold fM at hs; omega
 have s_Questions : bB fB x.bC ≤ 1048576 := by unfold fM at hs; omega
 have s_Answers : bB fB x.cO ≤ 1048576 := by unfold fM at hs; omega
 clear hs
 go_enter Tryz.func131, Tryz.ntmps131
 go_wp2_with fail
 with_reducible refine (toS_Export x.bW _ _ _ ?hc_Exports s_Exports).mono ?_
 case hc_Exports => exact aM kA HC2.out
 rintro e w_Exports ⟨v2, rfl, hR2, hu⟩
 obtain ⟨B2, b2, rfl⟩ := aV hR2
 obtain ⟨P2, hR2', g2, l2⟩ := fP hR2 (w.heap.size + 1 + 1 + 1) kB
 have ge2 : ∀ b, P2 b → w.heap.size + 1 + 1 < b := fun b hb => by have := g2 b hb; omega
 have n1_2 : ¬ P2 (w.heap.size + 1) := fun q => by have := ge2 _ q; omega
 have n2_2 : ¬ P2 (w.heap.size + 1 + 1) := fun q => by have := ge2 _ q; omega
 have HR2 := Sd.mk hR2'
 have GE2 := Sd.mk ge2
 have LT2 := Sd.mk l2
 have GP2 := Sd.mk g2
 clear hR2 hR2' ge2 l2 g2
 have HB_Exports : Sd (Upd No w w_Exports) := Sd.mk (Upd.then kA hu)
 have cc0_Exports := fun o => hu.aI (b := w.heap.size) kB (fun q => q) o
 have cc1_Exports := fun o => hu.aI (b := w.heap.size + 1) kB (fun q => q) o
 have cf1_Exports := fun o => hu.bP (b := w.heap.size + 1) kB (fun q => q) o
 have cc2_Exports := fun o => hu.aI (b := w.heap.size + 1 + 1) kB (fun q => q) o
 have cf2_Exports := fun o => hu.bP (b := w.heap.size + 1 + 1) kB (fun q => q) o
 have hz_Exports : w.heap.size + 1 + 1 + 1 ≤ w_Exports.heap.size := by have := hu.size; (try simp at this); omega
 clear hu
 go_wp2_with fail
 with_reducible refine (toS_Question x.bC _ _ _ ?hc_Questions s_Questions).mono ?_
 case hc_Questions => exact aM (by repeat (with_reducible first | exact HB_Exports.out | apply Upd.aT | apply Upd.aS | apply Upd.aP | apply Upd.alloc | apply Upd.drewN | apply Upd.drew)) HC4.out
 rintro e w_Questions ⟨v4, rfl, hR4, hu⟩
 obtain ⟨B4, b4, rfl⟩ := aV hR4
 obtain ⟨P4, hR4', g4, l4⟩ := fP hR4 (w_Exports.heap.size) kB
 have ge4 : ∀ b, P4 b → w.heap.size + 1 + 1 < b := fun b hb => by have := g4 b hb; have := hz_Exports; omega
 have n1_4 : ¬ P4 (w.heap.size + 1) := fun q => by have := ge4 _ q; omega
 have n2_4 : ¬ P4 (w.heap.size + 1 + 1) := fun q => by have := ge4 _ q; omega
 have HR4 := Sd.mk hR4'
 have GE4 := Sd.mk ge4
 have LT4 := Sd.mk l4
 have GP4 := Sd.mk g4
 clear hR4 hR4' ge4 l4 g4
 have HR2 := Sd.mk (aO hu (fun _ _ q => q) (eH HR2.out (by repeat (with_reducible first | exact Upd.refl _ _ | apply Upd.eT n1_2 | apply Upd.eT n2_2 | apply Upd.alloc))))
 have HB_Questions : Sd (Upd No w w_Questions) := Sd.mk (Upd.then (by repeat (with_reducible first | exact HB_Exports.out | apply Upd.aT | apply Upd.aS | apply Upd.aP | apply Upd.alloc | apply Upd.drewN | apply Upd.drew)) hu)
 have cc0_Questions := fun o => hu.aI (b := w.heap.size) kB (fun q => q) o
 have cc1_Questions := fun o => hu.aI (b := w.heap.size + 1) kB (fun q => q) o
 have cf1_Questions := fun o => hu.bP (b := w.heap.size + 1) kB (fun q => q) o
 have cc2_Questions := fun o => hu.aI (b := w.heap.size + 1 + 1) kB (fun q => q) o
 have cf2_Questions := fun o => hu.bP (b := w.heap.size + 1 + 1) kB (fun q => q) o
 have hz_Questions : w.heap.size + 1 + 1 + 1 ≤ w_Questions.heap.size := by have := hu.size; (try simp at this); omega
 have hm_Questions : w_Exports.heap.size ≤ w_Questions.heap.size := by have := hu.size; (try simp at this); omega
 clear hu
 go_wp2_with fail
 with_reducible refine (toS_Question x.cO _ _ _ ?hc_Answers s_Answers).mono ?_
 case hc_Answers => exact aM (by repeat (with_reducible first | exact HB_Questions.out | apply Upd.aT | apply Upd.aS | apply Upd.aP | apply Upd.alloc | apply Upd.drewN | apply Upd.drew)) HC6.out
 rintro e w_Answers ⟨v6, rfl, hR6, hu⟩
 obtain ⟨B6, b6, rfl⟩ := aV hR6
 obtain ⟨P6, hR6', g6, l6⟩ := fP hR6 (w_Questions.heap.size) kB
 have ge6 : ∀ b, P6 b → w.heap.size + 1 + 1 < b := fun b hb => by have := g6 b hb; have := hz_Questions; omega
 have n1_6 : ¬ P6 (w.heap.size + 1) := fun q => by have := ge6 _ q; omega
 have n2_6 : ¬ P6 (w.heap.size + 1 + 1) := fun q => by have := ge6 _ q; omega
 have HR6 := Sd.mk hR6'
 have GE6 := Sd.mk ge6
 have LT6 := Sd.mk l6
 have GP6 := Sd.mk g6
 clear hR6 hR6' ge6 l6 g6
 have HR2 := Sd.mk (aO hu (fun _ _ q => q) (eH HR2.out (by repeat (with_reducible first | exact Upd.refl _ _ | apply Upd.eT n1_2 | apply Upd.eT n2_2 | apply Upd.alloc))))
 have HR4 := Sd.mk (aO hu (fun _ _ q => q) (eH HR4.out (by repeat (with_reducible first | exact Upd.refl _ _ | apply Upd.eT n1_4 | apply Upd.eT n2_4 | apply Upd.alloc))))
 have HB_Answers : Sd (Upd No w w_Answers) := Sd.mk (Upd.then (by repeat (with_reducible first | exact HB_Questions.out | apply Upd.aT | apply Upd.aS | apply Upd.aP | apply Upd.alloc | apply Upd.drewN | apply Upd.drew)) hu)
 have cc0_Answers := fun o => hu.aI (b := w.heap.size) kB (fun q => q) o
 have cc1_Answers := fun o => hu.aI (b := w.heap.size + 1) kB (fun q => q) o
 have cf1_Answers := fun o => hu.bP (b := w.heap.size + 1) kB (fun q => q) o
 have cc2_Answers := fun o => hu.aI (b := w.heap.size + 1 + 1) kB (fun q => q) o
 have cf2_Answers := fun o => hu.bP (b := w.heap.size + 1 + 1) kB (fun q => q) o
 have hz_Answers : w.heap.size + 1 + 1 + 1 ≤ w_Answers.heap.size := by have := hu.size; (try simp at this); omega
 have hm_Answers : w_Questions.heap.size ≤ w_Answers.heap.size := by have := hu.size; (try simp at this); omega
 clear hu
 go_wp2
 refine bodyPost_ret (v := .agg #[.int .i64 x.iU, .bool x.Up, .slice B2 x.bW.length b2, .int .i64 x.Next, .slice B4 x.bC.length b4, .int .i64 x.Asked, .slice B6 x.cO.length b6]) (by simp [results, Tryz.results131, go_sem, cc1_Exports, cc1_Questions, cc1_Answers]) rfl ⟨_, rfl, ?_, (by repeat (with_reducible first | exact HB_Answers.out | apply Upd.aT | apply Upd.aS | apply Upd.aP | apply Upd.alloc | apply Upd.drewN | apply Upd.drew))⟩
 exact ki_Link_mk _ _ _ (eH HR2.out (by repeat (with_reducible first | exact Upd.refl _ _ | apply Upd.eT n1_2 | apply Upd.eT n2_2 | apply Upd.alloc))) (eH HR4.out (by repeat (with_reducible first | exact Upd.refl _ _ | apply Upd.eT n1_4 | apply Upd.eT n2_4 | apply Upd.alloc))) (eH HR6.out (by repeat (with_reducible first | exact Upd.refl _ _ | apply Upd.eT n1_6 | apply Upd.eT n2_6 | apply Upd.alloc))) (fun k hk => by have := GE2.out k hk; simp only [New]; omega) (fun k hk => by have := GE4.out k hk; simp only [New]; omega) (fun k hk => by have := GE6.out k hk; simp only [New]; omega) (fun k hk hk' => by have h1 := LT2.out k hk; have h2 := GP4.out k hk'; omega) (fun k hk hk' => by have h1 := LT2.out k hk; have h2 := GP6.out k hk'; have := hm_Questions; omega) (fun k hk hk' => by have h1 := LT4.out k hk; have h2 := GP6.out k hk'; omega)
theorem toS_Link (l : List GLink) (A : Option Addr) (c : Nat) (w : World) (h : C kK w A l) (hs : bB fM l ≤ 1048576) : Calls Tryz.prog 96 #[.slice A l.length c] w (jH gH 137 l w) := by
 have hn : l.length ≤ 1048576 := by unfold bB at hs; omega
 have hmk := iB (P := Tryz.prog) _ _ _ Tryz.underlying77 ki_Link_info l.length hn kD
 have H := Sd.mk h
 have HS := Sd.mk hs
 clear h hs
 go_enter Tryz.func96, Tryz.ntmps96
 go_wp2
 clear hmk
 have HR : Sd (R gH 137 (w.alloc (eD (.agg #[.int .i64 0, .bool false, .slice none 0 0, .int .i64 0, .slice none 0 0, .int .i64 0, .slice none 0 0]) (l.length * 7) 137)) (New w) (.slice (some ⟨w.heap.size, 0, none⟩) l.length l.length) (List.replicate l.length zLink)) := Sd.mk (kL (d := gH) (e := 137) w (.agg #[.int .i64 0, .bool false, .slice none 0 0, .int .i64 0, .slice none 0 0, .int .i64 0, .slice none 0 0]) zLink rfl kD ki_Link_zero l.length hn)
 have HU := Sd.mk ((Upd.refl No w).alloc (eD (.agg #[.int .i64 0, .bool false, .slice none 0 0, .int .i64 0, .slice none 0 0, .int .i64 0, .slice none 0 0]) (l.length * 7) 137))
 go_loopg [4] l.length (fun k v wr => ∃ i : Nat, i + k = l.length ∧ v = .int .i64 i ∧ Sd (R gH 137 wr (New w) (.slice (some ⟨w.heap.size, 0, none⟩) l.length l.length) (upTo l (List.replicate l.length zLink) i)) ∧ Sd (Upd No w wr))
 case atStart => exact ⟨0, by omega, rfl, ⟨by rw [bX]; exact HR.out⟩, HU⟩
 case round =>
  clear HR HU
  obtain ⟨i, hi, rfl, HR, HU⟩ := hrel
  by_cases hlt : i < l.length
  ·obtain ⟨ad, A2, c2, A4, c4, A6, c6, rfl, a0, a1, a2, a3, a4, a5, a6, hl2, hC2, hl4, hC4, hl6, hC6⟩ := kl_Link_at (aM HU.out H.out) i hlt
   have HC2 := Sd.mk hC2
   clear hC2
   have HC4 := Sd.mk hC4
   clear hC4
   have HC6 := Sd.mk hC6
   clear hC6
   have hsi : fM l[i] ≤ 1048576 := by have := HS.out; have := iZ fM l i hlt; unfold bB at *; omega
   go_wp2_with fail
   with_reducible refine (to_Link l[i] _ _ (kl_Link_Kmk _ _ hl2 HC2.out hl4 HC4.out hl6 HC6.out) hsi).mono ?_
   rintro e w1 ⟨cs, rfl, hM, hu⟩
   obtain ⟨v2, P2, v4, P4, v6, P6, rfl, hR2, hR4, hR6, i2, i4, i6, d2_4, d2_6, d4_6⟩ := ki_Link_M (gH.M_lt hM)
   obtain ⟨D2, d2, rfl⟩ := aV hR2
   obtain ⟨D4, d4, rfl⟩ := aV hR4
   obtain ⟨D6, d6, rfl⟩ := aV hR6
   have HRowA := aO hu (fun _ _ q => q) (R_lt HR.out)
   have HU1 := Sd.mk (HU.out.then hu)
   have hzw := HU.out.size
   have HR2 := Sd.mk hR2
   have I2 := Sd.mk i2
   have HR4 := Sd.mk hR4
   have I4 := Sd.mk i4
   have HR6 := Sd.mk hR6
   have I6 := Sd.mk i6
   have D2_4 := Sd.mk d2_4
   have D2_6 := Sd.mk d2_6
   have D4_6 := Sd.mk d4_6
   clear HR HU hM hu hR2 i2 hR4 i4 hR6 i6 d2_4 d2_6 d4_6
   obtain ⟨g, cap, cur, ce, Fi, hv, hcap, hat, hM, hg, hFi, hFg, close⟩ := fV HRowA 7 l.length rfl (by rw [dH (by simp) (by simp; omega)]; simp) i zLink (by rw [eP (by simp) (by simpa using hlt)]; simp)
   cases hv
   obtain ⟨y2, _, y4, _, y6, _, rfl, -⟩ := ki_Link_M hM
   have HAT := Sd.mk hat
   have x0 := hat.cell0 _ rfl
   have x1 := hat.cell 1 _ rfl
   have x2 := hat.cell 2 _ rfl
   have x3 := hat.cell 3 _ rfl
   have x4 := hat.cell 4 _ rfl
   have x5 := hat.cell 5 _ rfl
   have x6 := hat.cell 6 _ rfl
   have f0 := hat.free (i * 7)
   have f1 := hat.free (i * 7 + 1)
   have f2 := hat.free (i * 7 + 2)
   have f3 := hat.free (i * 7 + 3)
   have f4 := hat.free (i * 7 + 4)
   have f5 := hat.free (i * 7 + 5)
   have f6 := hat.free (i * 7 + 6)
   have CL := Sd.mk close
   clear hat close hM HRowA
   go_wp2
   have HA := ((((((HAT.out.set0 kD (.int .i64 l[i].iU)).set 1 kD (.bool l[i].Up)).set 2 kD (.slice D2 l[i].bW.length d2)).set 3 kD (.int .i64 l[i].Next)).set 4 kD (.slice D4 l[i].bC.length d4)).set 5 kD (.int .i64 l[i].Asked)).set 6 kD (.slice D6 l[i].cO.length d6)
   have hD2 : ∀ b, P2 b → ¬ (b = w.heap.size ∨ Fi b) := by
    intro b hb q
    have h1 := (I2.out b hb).1
    simp only [New] at h1
    rcases q with rfl | q
    ·exact absurd hg.2 kO
    ·have h2 := (hFi b q).2
     omega
   have hD4 : ∀ b, P4 b → ¬ (b = w.heap.size ∨ Fi b) := by
    intro b hb q
    have h1 := (I4.out b hb).1
    simp only [New] at h1
    rcases q with rfl | q
    ·exact absurd hg.2 kO
    ·have h2 := (hFi b q).2
     omega
   have hD6 : ∀ b, P6 b → ¬ (b = w.heap.size ∨ Fi b) := by
    intro b hb q
    have h1 := (I6.out b hb).1
    simp only [New] at h1
    rcases q with rfl | q
    ·exact absurd hg.2 kO
    ·have h2 := (hFi b q).2
     omega
   have HM := ki_Link_mk _ (fun b => P2 b ∨ P4 b ∨ P6 b) l[i] (aO HA.upd hD2 HR2.out) (aO HA.upd hD4 HR4.out) (aO HA.upd hD6 HR6.out) (fun k hk => Or.inl hk) (fun k hk => Or.inr (Or.inl hk)) (fun k hk => Or.inr (Or.inr (hk))) D2_4.out D2_6.out D4_6.out
   have hP1 : ∀ b, (P2 b ∨ P4 b ∨ P6 b) → New wr b := by
    intro b hb
    rcases hb with hb | hb | hb
    ·exact (I2.out b hb).1
    ·exact (I4.out b hb).1
    ·exact (I6.out b hb).1
   have HRowB := CL.out _ _ l[i] _ (New w) HA HM (fun b hb => .inr (fun q => by have h1 := hP1 b hb; have h2 := q.2; simp only [New] at h1; omega)) (fun _ q => q.1) (fun b hb => by have h1 := hP1 b hb; simp only [New] at h1 ⊢; omega)
   rw [dI (by simp) (by simpa using hlt)] at HRowB
   go_roundg (gk - 1)
   case measure => omega
   case rel => exact ⟨i + 1, by omega, by go_num, ⟨HRowB⟩, ⟨by repeat (with_reducible first | exact HU1.out | apply Upd.aP)⟩⟩
  ·go_wp2
   go_ret
   have HRowB := HR.out
   rw [dG (by simp) (by simp; omega)] at HRowB
   exact ⟨_, rfl, HRowB, HU.out⟩
theorem sz_Link (x : GLink) (cs : List Value) (n : Int) (w : World) (h : kK.K w x cs) (h0 : 0 ≤ n) (h1 : n ≤ 1048576) : Calls Tryz.prog 125 #[.agg cs.toArray, .int .i64 n] w (jA (fM x) n w) := by
 obtain ⟨A2, c2, A4, c4, A6, c6, rfl, hl2, hC2, hl4, hC4, hl6, hC6⟩ := kl_Link_K h
 have HC2 := Sd.mk hC2
 have HC4 := Sd.mk hC4
 have HC6 := Sd.mk hC6
 clear hC2 hC4 hC6
 go_enter Tryz.func125, Tryz.ntmps125
 go_wp2_with fail
 with_reducible refine (szS_Export x.bW _ _ _ _ ?hc_Exports kO kO).mono ?_
 case hc_Exports => exact aM kA HC2.out
 rintro e w_Exports ⟨r_Exports, rfl, hr_Exports, hu⟩
 have HB_Exports : Sd (Upd No w w_Exports) := Sd.mk (Upd.then kA hu)
 have cc0_Exports := fun o => hu.aI (b := w.heap.size) kB (fun q => q) o
 have hz_Exports : w.heap.size + 1 ≤ w_Exports.heap.size := by have := hu.size; (try simp at this); omega
 clear hu
 rcases hr_Exports with ⟨q_Exports, rfl⟩ | ⟨q_Exports, rfl⟩
 case inr =>
  go_wp2
  go_ret
  exact ⟨_, rfl, .inr ⟨by unfold fM; omega, rfl⟩, (by repeat (with_reducible first | exact HB_Exports.out | apply Upd.aT | apply Upd.aS | apply Upd.aP | apply Upd.alloc | apply Upd.drewN | apply Upd.drew))⟩
 go_wp2_with fail
 with_reducible refine (szS_Question x.bC _ _ _ _ ?hc_Questions kO kO).mono ?_
 case hc_Questions => exact aM (by repeat (with_reducible first | exact HB_Exports.out | apply Upd.aT | apply Upd.aS | apply Upd.aP | apply Upd.alloc | apply Upd.drewN | apply Upd.drew)) HC4.out
 rintro e w_Questions ⟨r_Questions, rfl, hr_Questions, hu⟩
 have HB_Questions : Sd (Upd No w w_Questions) := Sd.mk (Upd.then (by repeat (with_reducible first | exact HB_Exports.out | apply Upd.aT | apply Upd.aS | apply Upd.aP | apply Upd.alloc | apply Upd.drewN | apply Upd.drew)) hu)
 have cc0_Questions := fun o => hu.aI (b := w.heap.size) kB (fun q => q) o
 have hz_Questions : w.heap.size + 1 ≤ w_Questions.heap.size := by have := hu.size; (try simp at this); omega
 clear hu
 rcases hr_Questions with ⟨q_Questions, rfl⟩ | ⟨q_Questions, rfl⟩
 case inr =>
  go_wp2
  go_ret
  exact ⟨_, rfl, .inr ⟨by unfold fM; omega, rfl⟩, (by repeat (with_reducible first | exact HB_Questions.out | apply Upd.aT | apply Upd.aS | apply Upd.aP | apply Upd.alloc | apply Upd.drewN | apply Upd.drew))⟩
 go_wp2_with fail
 with_reducible refine (szS_Question x.cO _ _ _ _ ?hc_Answers kO kO).mono ?_
 case hc_Answers => exact aM (by repeat (with_reducible first | exact HB_Questions.out | apply Upd.aT | apply Upd.aS | apply Upd.aP | apply Upd.alloc | apply Upd.drewN | apply Upd.drew)) HC6.out
 rintro e w_Answers ⟨r_Answers, rfl, hr_Answers, hu⟩
 have HB_Answers : Sd (Upd No w w_Answers) := Sd.mk (Upd.then (by repeat (with_reducible first | exact HB_Questions.out | apply Upd.aT | apply Upd.aS | apply Upd.aP | apply Upd.alloc | apply Upd.drewN | apply Upd.drew)) hu)
 have cc0_Answers := fun o => hu.aI (b := w.heap.size) kB (fun q => q) o
 have hz_Answers : w.heap.size + 1 ≤ w_Answers.heap.size := by have := hu.size; (try simp at this); omega
 clear hu
 rcases hr_Answers with ⟨q_Answers, rfl⟩ | ⟨q_Answers, rfl⟩
 case inr =>
  go_wp2
  go_ret
  exact ⟨_, rfl, .inr ⟨by unfold fM; omega, rfl⟩, (by repeat (with_reducible first | exact HB_Answers.out | apply Upd.aT | apply Upd.aS | apply Upd.aP | apply Upd.alloc | apply Upd.drewN | apply Upd.drew))⟩
 go_wp2
 go_ret
 exact ⟨_, rfl, .inl ⟨by unfold fM; omega, by unfold fM; omega⟩, (by repeat (with_reducible first | exact HB_Answers.out | apply Upd.aT | apply Upd.aS | apply Upd.aP | apply Upd.alloc | apply Upd.drewN | apply Upd.drew))⟩
theorem szS_Link (l : List GLink) (A : Option Addr) (c : Nat) (n : Int) (w : World) (h : C kK w A l) (h0 : 0 ≤ n) (h1 : n ≤ 1048576) : Calls Tryz.prog 90 #[.slice A l.length c, .int .i64 n] w (jA (bB fM l) n w) := by
 have hn := h.1
 have H := Sd.mk h
 clear h
 go_enter Tryz.func90, Tryz.ntmps90
 by_cases q0 : (l.length : Int) ≤ n
 case neg =>
  go_wp2
  go_ret
  exact ⟨_, rfl, .inr ⟨by unfold bB; omega, rfl⟩, Upd.refl _ _⟩
 go_wp2
 go_loopg [1, 5] l.length (fun k u v wr => ∃ i : Nat, i + k = l.length ∧ (eZ fM (l.take i) : Int) ≤ n - l.length ∧ u = .int .i64 (n - l.length - eZ fM (l.take i)) ∧ v = .int .i64 i ∧ Sd (Upd No w wr))
 case atStart => exact ⟨0, by omega, by simp [eZ]; omega, by simp [eZ], rfl, ⟨Upd.refl _ _⟩⟩
 case round =>
  obtain ⟨i, hi, hle, rfl, rfl, HU⟩ := hrel
  by_cases hlt : i < l.length
  ·obtain ⟨ad, A2, c2, A4, c4, A6, c6, rfl, a0, a1, a2, a3, a4, a5, a6, hl2, hC2, hl4, hC4, hl6, hC6⟩ := kl_Link_at (aM HU.out H.out) i hlt
   have HC2 := Sd.mk hC2
   clear hC2
   have HC4 := Sd.mk hC4
   clear hC4
   have HC6 := Sd.mk hC6
   clear hC6
   have hst := jS fM l i hlt
   have HST := Sd.mk (iD fM l i hlt)
   generalize hs : eZ fM (l.take i) = s at *
   have HS := Sd.mk hs
   clear hs
   go_wp2_with fail
   with_reducible refine (sz_Link l[i] _ _ _ (kl_Link_Kmk _ _ hl2 HC2.out hl4 HC4.out hl6 HC6.out) kO kO).mono ?_
   rintro e w1 ⟨r, rfl, hr, hu⟩
   have HU1 := Sd.mk (HU.out.then hu)
   clear hu HU
   rcases hr with ⟨q, rfl⟩ | ⟨q, rfl⟩
   ·go_wp2
    go_roundg (gk - 1)
    case measure => omega
    case rel => exact ⟨i + 1, by omega, by rw [HST.out]; omega, by rw [HST.out]; exact congrArg (Value.int .i64) kO, by go_num, HU1⟩
   ·go_wp2
    go_ret
    exact ⟨_, rfl, .inr ⟨by unfold bB; omega, rfl⟩, HU1.out⟩
  ·go_wp2
   go_ret
   have e : l.take i = l := List.take_of_length_le kO
   rw [e] at hle
   exact ⟨_, rfl, .inl ⟨by unfold bB; omega, by rw [e]; unfold bB; omega⟩, HU.out⟩
theorem eq_Link (x : GLink) (cs cs' : List Value) (w : World) (h : gH.K w x cs) (h' : gH.K w x cs') : Calls Tryz.prog 137 #[.agg cs.toArray, .agg cs'.toArray] w (bU true w) := by
 obtain ⟨A2, c2, A4, c4, A6, c6, rfl, hl2, hC2, hl4, hC4, hl6, hC6⟩ := ki_Link_K h
 have HC2 := Sd.mk hC2
 have HC4 := Sd.mk hC4
 have HC6 := Sd.mk hC6
 clear hC2 hC4 hC6
 obtain ⟨B2, b2, B4, b4, B6, b6, rfl, hm2, hD2, hm4, hD4, hm6, hD6⟩ := ki_Link_K h'
 have HD2 := Sd.mk hD2
 have HD4 := Sd.mk hD4
 have HD6 := Sd.mk hD6
 clear hD2 hD4 hD6
 go_enter Tryz.func137, Tryz.ntmps137
 go_wp2_with fail
 with_reducible refine (eqS_Export x.bW _ _ _ _ _ ?hc_Exports ?hd_Exports).mono ?_
 case hc_Exports => exact aM kA HC2.out
 case hd_Exports => exact aM kA HD2.out
 rintro e w_Exports ⟨rfl, hu⟩
 have HB_Exports : Sd (Upd No w w_Exports) := Sd.mk (Upd.then kA hu)
 have cc0_Exports := fun o => hu.aI (b := w.heap.size) kB (fun q => q) o
 have cc1_Exports := fun o => hu.aI (b := w.heap.size + 1) kB (fun q => q) o
 have hz_Exports : w.heap.size + 1 + 1 ≤ w_Exports.heap.size := by have := hu.size; (try simp at this); omega
 clear hu
 go_wp2_with fail
 with_reducible refine (eqS_Question x.bC _ _ _ _ _ ?hc_Questions ?hd_Questions).mono ?_
 case hc_Questions => exact aM (by repeat (with_reducible first | exact HB_Exports.out | apply Upd.aT | apply Upd.aS | apply Upd.aP | apply Upd.alloc | apply Upd.drewN | apply Upd.drew)) HC4.out
 case hd_Questions => exact aM (by repeat (with_reducible first | exact HB_Exports.out | apply Upd.aT | apply Upd.aS | apply Upd.aP | apply Upd.alloc | apply Upd.drewN | apply Upd.drew)) HD4.out
 rintro e w_Questions ⟨rfl, hu⟩
 have HB_Questions : Sd (Upd No w w_Questions) := Sd.mk (Upd.then (by repeat (with_reducible first | exact HB_Exports.out | apply Upd.aT | apply Upd.aS | apply Upd.aP | apply Upd.alloc | apply Upd.drewN | apply Upd.drew)) hu)
 have cc0_Questions := fun o => hu.aI (b := w.heap.size) kB (fun q => q) o
 have cc1_Questions := fun o => hu.aI (b := w.heap.size + 1) kB (fun q => q) o
 have hz_Questions : w.heap.size + 1 + 1 ≤ w_Questions.heap.size := by have := hu.size; (try simp at this); omega
 clear hu
 go_wp2_with fail
 with_reducible refine (eqS_Question x.cO _ _ _ _ _ ?hc_Answers ?hd_Answers).mono ?_
 case hc_Answers => exact aM (by repeat (with_reducible first | exact HB_Questions.out | apply Upd.aT | apply Upd.aS | apply Upd.aP | apply Upd.alloc | apply Upd.drewN | apply Upd.drew)) HC6.out
 case hd_Answers => exact aM (by repeat (with_reducible first | exact HB_Questions.out | apply Upd.aT | apply Upd.aS | apply Upd.aP | apply Upd.alloc | apply Upd.drewN | apply Upd.drew)) HD6.out
 rintro e w_Answers ⟨rfl, hu⟩
 have HB_Answers : Sd (Upd No w w_Answers) := Sd.mk (Upd.then (by repeat (with_reducible first | exact HB_Questions.out | apply Upd.aT | apply Upd.aS | apply Upd.aP | apply Upd.alloc | apply Upd.drewN | apply Upd.drew)) hu)
 have cc0_Answers := fun o => hu.aI (b := w.heap.size) kB (fun q => q) o
 have cc1_Answers := fun o => hu.aI (b := w.heap.size + 1) kB (fun q => q) o
 have hz_Answers : w.heap.size + 1 + 1 ≤ w_Answers.heap.size := by have := hu.size; (try simp at this); omega
 clear hu
 go_wp2
 go_ret
 exact ⟨rfl, (by repeat (with_reducible first | exact HB_Answers.out | apply Upd.aT | apply Upd.aS | apply Upd.aP | apply Upd.alloc | apply Upd.drewN | apply Upd.drew))⟩
theorem eqS_Link (l : List GLink) (A A' : Option Addr) (c c' : Nat) (w : World) (h : C gH w A l) (h' : C gH w A' l) : Calls Tryz.prog 104 #[.slice A l.length c, .slice A' l.length c'] w (bU true w) := by
 have hn := h.1
 have H := Sd.mk h
 have H' := Sd.mk h'
 clear h h'
 go_enter Tryz.func104, Tryz.ntmps104
 go_wp2
 go_loopg [5] l.length (fun k v wr => ∃ i : Nat, i + k = l.length ∧ v = .int .i64 i ∧ Sd (Upd No w wr))
 case atStart => exact ⟨0, by omega, rfl, ⟨Upd.refl _ _⟩⟩
 case round =>
  obtain ⟨i, hi, rfl, HU⟩ := hrel
  by_cases hlt : i < l.length
  ·obtain ⟨ad, A2, c2, A4, c4, A6, c6, rfl, a0, a1, a2, a3, a4, a5, a6, hl2, hC2, hl4, hC4, hl6, hC6⟩ := ki_Link_at (aM HU.out H.out) i hlt
   obtain ⟨ad', B2, b2, B4, b4, B6, b6, rfl, z0, z1, z2, z3, z4, z5, z6, hm2, hD2, hm4, hD4, hm6, hD6⟩ := ki_Link_at (aM HU.out H'.out) i hlt
   have HC2 := Sd.mk hC2
   have HD2 := Sd.mk hD2
   clear hC2 hD2
   have HC4 := Sd.mk hC4
   have HD4 := Sd.mk hD4
   clear hC4 hD4
   have HC6 := Sd.mk hC6
   have HD6 := Sd.mk hD6
   clear hC6 hD6
   go_wp2_with fail
   go_still_tail 8, kR
   change wpList _ _ _ _ _ wr.drew
   have HW : Sd (Upd No wr wr.drew) := ⟨(Upd.refl _ _).drew⟩
   have HU2 : Sd (Upd No w wr.drew) := ⟨HU.out.drew⟩
   generalize wr.drew = w2 at *
   go_wp2_with (go_at_call 137; (with_reducible refine (eq_Link l[i] _ _ _ (ki_Link_Kmk _ _ hl2 (aM HW.out HC2.out) hl4 (aM HW.out HC4.out) hl6 (aM HW.out HC6.out)) (ki_Link_Kmk _ _ hm2 (aM HW.out HD2.out) hm4 (aM HW.out HD4.out) hm6 (aM HW.out HD6.out))).mono ?_); rintro e w' ⟨rfl, hu⟩)
   have HU3 := Sd.mk (HU2.out.then hu)
   clear HU2 hu
   go_wp2
   go_roundg (gk - 1)
   case measure => omega
   case rel => exact ⟨i + 1, by omega, by go_num, HU3⟩
  ·go_wp2
   go_ret
   exact ⟨rfl, HU.out⟩
theorem markS_Link (l : List GLink) (k : Int) (F : Nat → Prop) (v : Value) (w : World) (h : R gH 137 w F v l) (hk : 0 ≤ k) (hb : k + aQ dR l ≤ 4611686018427387904) : Calls Tryz.prog 66 #[v, .int .i64 k] w (Marks gH 137 F v (k + aQ dR l) (mkS mX dR k l) w) := by
 obtain ⟨A, c, rfl⟩ := aV h
 have hn := R_len h
 have H := Sd.mk h
 clear h
 go_enter Tryz.func66, Tryz.ntmps66
 go_wp2
 go_loopg [1, 5] l.length (fun r u v wr => ∃ i : Nat, i + r = l.length ∧ u = .int .i64 (k + aQ dR (l.take i)) ∧ v = .int .i64 i ∧ Sd (R gH 137 wr F (.slice A l.length c) (upTo (mkS mX dR k l) l i)) ∧ Sd (Upd F w wr))
 case atStart => exact ⟨0, by omega, by simp [aQ], rfl, ⟨by rw [bX]; exact H.out⟩, ⟨Upd.refl _ _⟩⟩
 case round =>
  obtain ⟨i, hi, rfl, rfl, HR, HU⟩ := hrel
  by_cases hlt : i < l.length
  ·have hle := dJ dR nQ l i
   have hst := fQ dR l i hlt
   have hle2 := dJ dR nQ l (i + 1)
   rw [hst] at hle2
   have HST := Sd.mk hst
   clear hst
   have HMA := Sd.mk (jI mX dR l k i hlt)
   obtain ⟨g, cap, cur, ce, Fi, hv, hcap, hat, hM, hg, hFi, hFg, close⟩ := fV HR.out 7 l.length rfl (dH (aR _ _ _ _) kO) i l[i] (eP (aR _ _ _ _) hlt)
   cases hv
   obtain ⟨v2, P2, v4, P4, v6, P6, rfl, hR2, hR4, hR6, i2, i4, i6, d2_4, d2_6, d4_6⟩ := ki_Link_M hM
   obtain ⟨B2, b2, rfl⟩ := aV hR2
   have HR2 := Sd.mk hR2
   have I2 := Sd.mk i2
   have N2 : ¬ P2 g := fun q => hFg (i2 g q)
   clear hR2 i2
   have nn2 := dB bL mI l[i].bW
   obtain ⟨B4, b4, rfl⟩ := aV hR4
   have HR4 := Sd.mk hR4
   have I4 := Sd.mk i4
   have N4 : ¬ P4 g := fun q => hFg (i4 g q)
   clear hR4 i4
   have nn4 := dB aU iP l[i].bC
   obtain ⟨B6, b6, rfl⟩ := aV hR6
   have HR6 := Sd.mk hR6
   have I6 := Sd.mk i6
   have N6 : ¬ P6 g := fun q => hFg (i6 g q)
   clear hR6 i6
   have nn6 := dB aU iP l[i].cO
   have D2_4 := Sd.mk d2_4
   clear d2_4
   have D2_6 := Sd.mk d2_6
   clear d2_6
   have D4_6 := Sd.mk d4_6
   clear d4_6
   have HCN : Sd (dR l[i] = dR l[i]) := ⟨rfl⟩
   simp only [dR] at hle2
   generalize hq : k + aQ dR (l.take i) = q at *
   have HQ := Sd.mk hq
   have hq0 : 0 ≤ q := by omega
   have hqb : q + (((((((0 + 1) + 1) + aQ bL l[i].bW) + 1) + aQ aU l[i].bC) + 1) + aQ aU l[i].cO) ≤ 4611686018427387904 := by omega
   clear hq hle hle2 hb
   generalize hcn2 : aQ bL l[i].bW = cn2 at *
   have HC2 := Sd.mk hcn2
   clear hcn2
   generalize hcn4 : aQ aU l[i].bC = cn4 at *
   have HC4 := Sd.mk hcn4
   clear hcn4
   generalize hcn6 : aQ aU l[i].cO = cn6 at *
   have HC6 := Sd.mk hcn6
   clear hcn6
   have HAT := Sd.mk hat
   have x0_s := hat.cell0 _ rfl
   have x1_s := hat.cell 1 _ rfl
   have x2_s := hat.cell 2 _ rfl
   have x3_s := hat.cell 3 _ rfl
   have x4_s := hat.cell 4 _ rfl
   have x5_s := hat.cell 5 _ rfl
   have x6_s := hat.cell 6 _ rfl
   have f0_s := hat.free (i * 7)
   have f1_s := hat.free (i * 7 + 1)
   have f2_s := hat.free (i * 7 + 2)
   have f3_s := hat.free (i * 7 + 3)
   have f4_s := hat.free (i * 7 + 4)
   have f5_s := hat.free (i * 7 + 5)
   have f6_s := hat.free (i * 7 + 6)
   have CL := Sd.mk close
   clear hat close hM HR
   go_wp2_with fail
   with_reducible refine (markS_Export l[i].bW _ P2 _ _ ?hr_Exports kO (by rw [HC2.out]; omega)).mono ?_
   case hr_Exports => exact (aO (G := fun b => b = g) kC (fun b hb hg' => N2 (hg' ▸ hb)) HR2.out)
   rintro e w_Exports ⟨rfl, hR2, hu⟩
   rw [HC2.out]
   replace HR4 := Sd.mk (aO hu (fun b hb hg' => D2_4.out b hg' hb) (aO (G := fun b => b = g) kC (fun b hb hg' => N4 (hg' ▸ hb)) HR4.out))
   replace HR6 := Sd.mk (aO hu (fun b hb hg' => D2_6.out b hg' hb) (aO (G := fun b => b = g) kC (fun b hb hg' => N6 (hg' ▸ hb)) HR6.out))
   replace HR2 := Sd.mk hR2
   replace HAT := Sd.mk (((HAT.out.set0 kD (.int .i64 (q))).set 1 kD (.bool ((q + 1) % 3 == 0))).call hu I2.out hFg)
   clear hR2
   clear hu x0_s f0_s x1_s f1_s x2_s f2_s x3_s f3_s x4_s f4_s x5_s f5_s x6_s f6_s
   have x0_Exports := HAT.out.cell0 _ rfl
   have x1_Exports := HAT.out.cell 1 _ rfl
   have x2_Exports := HAT.out.cell 2 _ rfl
   have x3_Exports := HAT.out.cell 3 _ rfl
   have x4_Exports := HAT.out.cell 4 _ rfl
   have x5_Exports := HAT.out.cell 5 _ rfl
   have x6_Exports := HAT.out.cell 6 _ rfl
   have f0_Exports := HAT.out.free (i * 7)
   have f1_Exports := HAT.out.free (i * 7 + 1)
   have f2_Exports := HAT.out.free (i * 7 + 2)
   have f3_Exports := HAT.out.free (i * 7 + 3)
   have f4_Exports := HAT.out.free (i * 7 + 4)
   have f5_Exports := HAT.out.free (i * 7 + 5)
   have f6_Exports := HAT.out.free (i * 7 + 6)
   go_wp2_with fail
   with_reducible refine (markS_Question l[i].bC _ P4 _ _ ?hr_Questions kO (by rw [HC4.out]; omega)).mono ?_
   case hr_Questions => exact (aO (G := fun b => b = g) kC (fun b hb hg' => N4 (hg' ▸ hb)) HR4.out)
   rintro e w_Questions ⟨rfl, hR4, hu⟩
   rw [HC4.out]
   replace HR2 := Sd.mk (aO hu (fun b hb hg' => D2_4.out b hb hg') (aO (G := fun b => b = g) kC (fun b hb hg' => N2 (hg' ▸ hb)) HR2.out))
   replace HR6 := Sd.mk (aO hu (fun b hb hg' => D4_6.out b hg' hb) (aO (G := fun b => b = g) kC (fun b hb hg' => N6 (hg' ▸ hb)) HR6.out))
   replace HR4 := Sd.mk hR4
   replace HAT := Sd.mk ((HAT.out.set 3 kD (.int .i64 ((((q + 1) + 1) + cn2)))).call hu I4.out hFg)
   clear hR4
   clear hu x0_Exports f0_Exports x1_Exports f1_Exports x2_Exports f2_Exports x3_Exports f3_Exports x4_Exports f4_Exports x5_Exports f5_Exports x6_Exports f6_Exports
   have x0_Questions := HAT.out.cell0 _ rfl
   have x1_Questions := HAT.out.cell 1 _ rfl
   have x2_Questions := HAT.out.cell 2 _ rfl
   have x3_Questions := HAT.out.cell 3 _ rfl
   have x4_Questions := HAT.out.cell 4 _ rfl
   have x5_Questions := HAT.out.cell 5 _ rfl
   have x6_Questions := HAT.out.cell 6 _ rfl
   have f0_Questions := HAT.out.free (i * 7)
   have f1_Questions := HAT.out.free (i * 7 + 1)
   have f2_Questions := HAT.out.free (i * 7 + 2)
   have f3_Questions := HAT.out.free (i * 7 + 3)
   have f4_Questions := HAT.out.free (i * 7 + 4)
   have f5_Questions := HAT.out.free (i * 7 + 5)
   have f6_Questions := HAT.out.free (i * 7 + 6)
   go_wp2_with fail
   with_reducible refine (markS_Question l[i].cO _ P6 _ _ ?hr_Answers kO (by rw [HC6.out]; omega)).mono ?_
   case hr_Answers => exact (aO (G := fun b => b = g) kC (fun b hb hg' => N6 (hg' ▸ hb)) HR6.out)
   rintro e w_Answers ⟨rfl, hR6, hu⟩
   rw [HC6.out]
   replace HR2 := Sd.mk (aO hu (fun b hb hg' => D2_6.out b hb hg') (aO (G := fun b => b = g) kC (fun b hb hg' => N2 (hg' ▸ hb)) HR2.out))
   replace HR4 := Sd.mk (aO hu (fun b hb hg' => D4_6.out b hb hg') (aO (G := fun b => b = g) kC (fun b hb hg' => N4 (hg' ▸ hb)) HR4.out))
   replace HR6 := Sd.mk hR6
   replace HAT := Sd.mk ((HAT.out.set 5 kD (.int .i64 ((((((q + 1) + 1) + cn2) + 1) + cn4)))).call hu I6.out hFg)
   clear hR6
   clear hu x0_Questions f0_Questions x1_Questions f1_Questions x2_Questions f2_Questions x3_Questions f3_Questions x4_Questions f4_Questions x5_Questions f5_Questions x6_Questions f6_Questions
   have x0_Answers := HAT.out.cell0 _ rfl
   have x1_Answers := HAT.out.cell 1 _ rfl
   have x2_Answers := HAT.out.cell 2 _ rfl
   have x3_Answers := HAT.out.cell 3 _ rfl
   have x4_Answers := HAT.out.cell 4 _ rfl
   have x5_Answers := HAT.out.cell 5 _ rfl
   have x6_Answers := HAT.out.cell 6 _ rfl
   have f0_Answers := HAT.out.free (i * 7)
   have f1_Answers := HAT.out.free (i * 7 + 1)
   have f2_Answers := HAT.out.free (i * 7 + 2)
   have f3_Answers := HAT.out.free (i * 7 + 3)
   have f4_Answers := HAT.out.free (i * 7 + 4)
   have f5_Answers := HAT.out.free (i * 7 + 5)
   have f6_Answers := HAT.out.free (i * 7 + 6)
   go_wp2
   have HA := HAT.out
   have hy : (⟨q, (((q + 1)) % 3 == 0), mkS kI bL ((q + 1) + 1) l[i].bW, (((q + 1) + 1) + cn2), mkS gK aU ((((q + 1) + 1) + cn2) + 1) l[i].bC, (((((q + 1) + 1) + cn2) + 1) + cn4), mkS gK aU ((((((q + 1) + 1) + cn2) + 1) + cn4) + 1) l[i].cO⟩ : GLink) = (mkS mX dR k l)[i]'(by rw [aR]; exact hlt) := by rw [HMA.out]; simp only [mX, HC2.out, HC4.out, HC6.out]
   have HRowB := CL.out _ _ (⟨q, (((q + 1)) % 3 == 0), mkS kI bL ((q + 1) + 1) l[i].bW, (((q + 1) + 1) + cn2), mkS gK aU ((((q + 1) + 1) + cn2) + 1) l[i].bC, (((((q + 1) + 1) + cn2) + 1) + cn4), mkS gK aU ((((((q + 1) + 1) + cn2) + 1) + cn4) + 1) l[i].cO⟩ : GLink) Fi F HA (ki_Link_mk _ Fi (⟨q, (((q + 1)) % 3 == 0), mkS kI bL ((q + 1) + 1) l[i].bW, (((q + 1) + 1) + cn2), mkS gK aU ((((q + 1) + 1) + cn2) + 1) l[i].bC, (((((q + 1) + 1) + cn2) + 1) + cn4), mkS gK aU ((((((q + 1) + 1) + cn2) + 1) + cn4) + 1) l[i].cO⟩ : GLink) (aO (G := fun b => b = g) kC (fun b hb hg' => N2 (hg' ▸ hb)) HR2.out) (aO (G := fun b => b = g) kC (fun b hb hg' => N4 (hg' ▸ hb)) HR4.out) (aO (G := fun b => b = g) kC (fun b hb hg' => N6 (hg' ▸ hb)) HR6.out) I2.out I4.out I6.out D2_4.out D2_6.out D4_6.out) (fun _ hb => .inl hb) (fun _ hb => hb) hFi
   rw [hy, dI (aR _ _ _ _) hlt] at HRowB
   go_roundg (gk - 1)
   case measure => omega
   case rel => exact ⟨i + 1, by omega, by rw [HST.out]; simp only [dR]; have := HQ.out; have := HC2.out; have := HC4.out; have := HC6.out; exact congrArg (Value.int .i64) kO, by go_num, ⟨HRowB⟩, ⟨HU.out.trans HA.upd (fun _ _ hb => hb) (fun b _ hb => by rcases hb with rfl | hb; exact hg; exact hFi b hb)⟩⟩
  ·go_wp2
   go_ret
   have HRowB := HR.out
   rw [dG (aR _ _ _ _) kO] at HRowB
   have e : l.take i = l := List.take_of_length_le kO
   exact ⟨gX (by rw [e]), HRowB, HU.out⟩
theorem kl_Wire_Kmk (w : World) (x : GWire) : iX.K w x [.int .i64 x.Kind, .int .i64 x.N] := ⟨[_], [_], rfl, rfl, rfl⟩
theorem mR (w : World) (x : GWire) : fE.K w x [.int .i64 x.Kind, .int .i64 x.N] := ⟨[_], [_], rfl, rfl, rfl⟩
theorem to_Wire (x : GWire) (cs : List Value) (w : World) (h : iX.K w x cs) (hs : iV x ≤ 1048576) : Calls Tryz.prog 153 #[.agg cs.toArray] w (jU fE x w) := by
 obtain rfl := kl_Wire_K h
 clear hs
 go_enter Tryz.func153, Tryz.ntmps153
 go_wp2
 refine bodyPost_ret (v := .agg #[.int .i64 x.Kind, .int .i64 x.N]) (by simp [results, Tryz.results153, go_sem]) rfl ⟨_, rfl, ?_, kA⟩
 exact nO _ _ _
theorem toS_Wire (l : List GWire) (A : Option Addr) (c : Nat) (w : World) (h : C iX w A l) (hs : bB iV l ≤ 1048576) : Calls Tryz.prog 152 #[.slice A l.length c] w (jH fE 139 l w) := by
 have hn : l.length ≤ 1048576 := by unfold bB at hs; omega
 have hmk := iB (P := Tryz.prog) _ _ _ Tryz.underlying138 ki_Wire_info l.length hn kD
 have H := Sd.mk h
 have HS := Sd.mk hs
 clear h hs
 go_enter Tryz.func152, Tryz.ntmps152
 go_wp2
 clear hmk
 have HR : Sd (R fE 139 (w.alloc (eD (.agg #[.int .i64 0, .int .i64 0]) (l.length * 2) 139)) (New w) (.slice (some ⟨w.heap.size, 0, none⟩) l.length l.length) (List.replicate l.length zWire)) := Sd.mk (kL (d := fE) (e := 139) w (.agg #[.int .i64 0, .int .i64 0]) zWire rfl kD ki_Wire_zero l.length hn)
 have HU := Sd.mk ((Upd.refl No w).alloc (eD (.agg #[.int .i64 0, .int .i64 0]) (l.length * 2) 139))
 go_loopg [4] l.length (fun k v wr => ∃ i : Nat, i + k = l.length ∧ v = .int .i64 i ∧ Sd (R fE 139 wr (New w) (.slice (some ⟨w.heap.size, 0, none⟩) l.length l.length) (upTo l (List.replicate l.length zWire) i)) ∧ Sd (Upd No w wr))
 case atStart => exact ⟨0, by omega, rfl, ⟨by rw [bX]; exact HR.out⟩, HU⟩
 case round =>
  clear HR HU
  obtain ⟨i, hi, rfl, HR, HU⟩ := hrel
  by_cases hlt : i < l.length
  ·obtain ⟨ad, rfl, a0, a1⟩ := kl_Wire_at (aM HU.out H.out) i hlt
   have hsi : iV l[i] ≤ 1048576 := by have := HS.out; have := iZ iV l i hlt; unfold bB at *; omega
   go_wp2_with fail
   with_reducible refine (to_Wire l[i] _ _ (kl_Wire_Kmk _ _) hsi).mono ?_
   rintro e w1 ⟨cs, rfl, hM, hu⟩
   obtain rfl := ki_Wire_M hM
   have HRowA := aO hu (fun _ _ q => q) (R_lt HR.out)
   have HU1 := Sd.mk (HU.out.then hu)
   have hzw := HU.out.size
   clear HR HU hM hu
   obtain ⟨g, cap, cur, ce, Fi, hv, hcap, hat, hM, hg, hFi, hFg, close⟩ := fV HRowA 2 l.length rfl (by rw [dH (by simp) (by simp; omega)]; simp) i zWire (by rw [eP (by simp) (by simpa using hlt)]; simp)
   cases hv
   obtain rfl := ki_Wire_M hM
   have HAT := Sd.mk hat
   have x0 := hat.cell0 _ rfl
   have x1 := hat.cell 1 _ rfl
   have f0 := hat.free (i * 2)
   have f1 := hat.free (i * 2 + 1)
   have CL := Sd.mk close
   clear hat close hM HRowA
   go_wp2
   have HA := (HAT.out.set0 kD (.int .i64 l[i].Kind)).set 1 kD (.int .i64 l[i].N)
   have HRowB := CL.out _ _ l[i] No (New w) HA (nO _ _ _) (fun _ q => q.elim) (fun _ q => q.1) (fun _ q => q.elim)
   rw [dI (by simp) (by simpa using hlt)] at HRowB
   go_roundg (gk - 1)
   case measure => omega
   case rel => exact ⟨i + 1, by omega, by go_num, ⟨HRowB⟩, ⟨by repeat (with_reducible first | exact HU1.out | apply Upd.aP)⟩⟩
  ·go_wp2
   go_ret
   have HRowB := HR.out
   rw [dG (by simp) (by simp; omega)] at HRowB
   exact ⟨_, rfl, HRowB, HU.out⟩
theorem szS_Wire (l : List GWire) (A : Option Addr) (c : Nat) (n : Int) (w : World) (h : C iX w A l) (h0 : 0 ≤ n) (h1 : n ≤ 1048576) : Calls Tryz.prog 145 #[.slice A l.length c, .int .i64 n] w (jA (bB iV l) n w) := by
 have hn := h.1
 have H := Sd.mk h
 clear h
 go_enter Tryz.func145, Tryz.ntmps145
 by_cases q0 : (l.length : Int) ≤ n
 case neg =>
  go_wp2
  go_ret
  exact ⟨_, rfl, .inr ⟨by unfold bB; omega, rfl⟩, Upd.refl _ _⟩
 have hz : eZ iV l = 0 := by
  clear q0 hn H
  induction l with
  | nil => rfl
  | cons x l ih => simp [eZ, iV, ih]
 have HZ := Sd.mk hz
 clear hz
 go_wp2
 go_ret
 have hz := HZ.out
 exact ⟨_, rfl, .inl ⟨by unfold bB; omega, by unfold bB; omega⟩, Upd.refl _ _⟩
theorem eq_Wire (x : GWire) (cs cs' : List Value) (w : World) (h : fE.K w x cs) (h' : fE.K w x cs') : Calls Tryz.prog 161 #[.agg cs.toArray, .agg cs'.toArray] w (bU true w) := by
 obtain rfl := ki_Wire_K h
 obtain rfl := ki_Wire_K h'
 go_enter Tryz.func161, Tryz.ntmps161
 go_wp2
 go_ret
 exact ⟨rfl, kA⟩
theorem eqS_Wire (l : List GWire) (A A' : Option Addr) (c c' : Nat) (w : World) (h : C fE w A l) (h' : C fE w A' l) : Calls Tryz.prog 160 #[.slice A l.length c, .slice A' l.length c'] w (bU true w) := by
 have hn := h.1
 have H := Sd.mk h
 have H' := Sd.mk h'
 clear h h'
 go_enter Tryz.func160, Tryz.ntmps160
 go_wp2
 go_loopg [5] l.length (fun k v wr => ∃ i : Nat, i + k = l.length ∧ v = .int .i64 i ∧ Sd (Upd No w wr))
 case atStart => exact ⟨0, by omega, rfl, ⟨Upd.refl _ _⟩⟩
 case round =>
  obtain ⟨i, hi, rfl, HU⟩ := hrel
  by_cases hlt : i < l.length
  ·obtain ⟨ad, rfl, a0, a1⟩ := ki_Wire_at (aM HU.out H.out) i hlt
   obtain ⟨ad', rfl, z0, z1⟩ := ki_Wire_at (aM HU.out H'.out) i hlt
   go_wp2_with fail
   go_still_tail 8, kR
   change wpList _ _ _ _ _ wr.drew
   have HW : Sd (Upd No wr wr.drew) := ⟨(Upd.refl _ _).drew⟩
   have HU2 : Sd (Upd No w wr.drew) := ⟨HU.out.drew⟩
   generalize wr.drew = w2 at *
   go_wp2_with (go_at_call 161; (with_reducible refine (eq_Wire l[i] _ _ _ (mR _ _) (mR _ _)).mono ?_); rintro e w' ⟨rfl, hu⟩)
   have HU3 := Sd.mk (HU2.out.then hu)
   clear HU2 hu
   go_wp2
   go_roundg (gk - 1)
   case measure => omega
   case rel => exact ⟨i + 1, by omega, by go_num, HU3⟩
  ·go_wp2
   go_ret
   exact ⟨rfl, HU.out⟩
theorem markS_Wire (l : List GWire) (k : Int) (F : Nat → Prop) (v : Value) (w : World) (h : R fE 139 w F v l) (hk : 0 ≤ k) (hb : k + aQ bE l ≤ 4611686018427387904) : Calls Tryz.prog 112 #[v, .int .i64 k] w (Marks fE 139 F v (k + aQ bE l) (mkS kJ bE k l) w) := by
 obtain ⟨A, c, rfl⟩ := aV h
 have hn := R_len h
 have H := Sd.mk h
 clear h
 go_enter Tryz.func112, Tryz.ntmps112
 go_wp2
 go_loopg [1, 5] l.length (fun r u v wr => ∃ i : Nat, i + r = l.length ∧ u = .int .i64 (k + aQ bE (l.take i)) ∧ v = .int .i64 i ∧ Sd (R fE 139 wr F (.slice A l.length c) (upTo (mkS kJ bE k l) l i)) ∧ Sd (Upd F w wr))
 case atStart => exact ⟨0, by omega, by simp [aQ], rfl, ⟨by rw [bX]; exact H.out⟩, ⟨Upd.refl _ _⟩⟩
 case round =>
  obtain ⟨i, hi, rfl, rfl, HR, HU⟩ := hrel
  by_cases hlt : i < l.length
  ·have hle := dJ bE kY l i
   have hst := fQ bE l i hlt
   have hle2 := dJ bE kY l (i + 1)
   rw [hst] at hle2
   have HST := Sd.mk hst
   clear hst
   have HMA := Sd.mk (jI kJ bE l k i hlt)
   obtain ⟨g, cap, cur, ce, Fi, hv, hcap, hat, hM, hg, hFi, hFg, close⟩ := fV HR.out 2 l.length rfl (dH (aR _ _ _ _) kO) i l[i] (eP (aR _ _ _ _) hlt)
   cases hv
   obtain rfl := ki_Wire_M hM
   have HCN : Sd (bE l[i] = bE l[i]) := ⟨rfl⟩
   simp only [bE] at hle2
   generalize hq : k + aQ bE (l.take i) = q at *
   have HQ := Sd.mk hq
   have hq0 : 0 ≤ q := by omega
   have hqb : q + ((0 + 1) + 1) ≤ 4611686018427387904 := by omega
   clear hq hle hle2 hb
   have HAT := Sd.mk hat
   have x0_s := hat.cell0 _ rfl
   have x1_s := hat.cell 1 _ rfl
   have f0_s := hat.free (i * 2)
   have f1_s := hat.free (i * 2 + 1)
   have CL := Sd.mk close
   clear hat close hM HR
   go_wp2
   have HA := ((HAT.out.set0 kD (.int .i64 (q))).set 1 kD (.int .i64 ((q + 1))))
   have hy : (⟨q, (q + 1)⟩ : GWire) = (mkS kJ bE k l)[i]'(by rw [aR]; exact hlt) := by rw [HMA.out]; simp only [kJ]
   have HRowB := CL.out _ _ (⟨q, (q + 1)⟩ : GWire) Fi F HA (nO _ Fi (⟨q, (q + 1)⟩ : GWire)) (fun _ hb => .inl hb) (fun _ hb => hb) hFi
   rw [hy, dI (aR _ _ _ _) hlt] at HRowB
   go_roundg (gk - 1)
   case measure => omega
   case rel => exact ⟨i + 1, by omega, by rw [HST.out]; simp only [bE]; have := HQ.out; exact congrArg (Value.int .i64) kO, by go_num, ⟨HRowB⟩, ⟨HU.out.trans HA.upd (fun _ _ hb => hb) (fun b _ hb => by rcases hb with rfl | hb; exact hg; exact hFi b hb)⟩⟩
  ·go_wp2
   go_ret
   have HRowB := HR.out
   rw [dG (aR _ _ _ _) kO] at HRowB
   have e : l.take i = l := List.take_of_length_le kO
   exact ⟨gX (by rw [e]), HRowB, HU.out⟩
theorem j3 (w : World) (x : GMessage) {A5 : Option Addr} {c5 : Nat} (hl5 : x.bK.length ≤ c5) (hC5 : C iX w A5 x.bK) : gI.K w x [.int .i64 x.Kind, .int .i64 x.Pos, .int .i64 x.iC, .int .i64 x.Question, .string x.Name, .slice A5 x.bK.length c5, .int .i64 x.Value.Kind, .int .i64 x.Value.N, .int .i64 x.Count, .int .i64 x.Tag.Vat, .int .i64 x.Tag.Entity, .int .i64 x.Tag.Seq] := ⟨[_], [_, _, _, _, _, _, _, _, _, _, _], rfl, rfl, ⟨[_], [_, _, _, _, _, _, _, _, _, _], rfl, rfl, ⟨[_], [_, _, _, _, _, _, _, _, _], rfl, rfl, ⟨[_], [_, _, _, _, _, _, _, _], rfl, rfl, ⟨[_], [_, _, _, _, _, _, _], rfl, rfl, ⟨[_], [_, _, _, _, _, _], rfl, ⟨A5, c5, rfl, hl5, hC5⟩, ⟨[_, _], [_, _, _, _], rfl, (kl_Wire_Kmk w _), ⟨[_], [_, _, _], rfl, rfl, (mD w _)⟩⟩⟩⟩⟩⟩⟩⟩
theorem j4 (w : World) (x : GMessage) {A5 : Option Addr} {c5 : Nat} (hl5 : x.bK.length ≤ c5) (hC5 : C fE w A5 x.bK) : dA.K w x [.int .i64 x.Kind, .int .i64 x.Pos, .int .i64 x.iC, .int .i64 x.Question, .string x.Name, .slice A5 x.bK.length c5, .int .i64 x.Value.Kind, .int .i64 x.Value.N, .int .i64 x.Count, .int .i64 x.Tag.Vat, .int .i64 x.Tag.Entity, .int .i64 x.Tag.Seq] := ⟨[_], [_, _, _, _, _, _, _, _, _, _, _], rfl, rfl, ⟨[_], [_, _, _, _, _, _, _, _, _, _], rfl, rfl, ⟨[_], [_, _, _, _, _, _, _, _, _], rfl, rfl, ⟨[_], [_, _, _, _, _, _, _, _], rfl, rfl, ⟨[_], [_, _, _, _, _, _, _], rfl, rfl, ⟨[_], [_, _, _, _, _, _], rfl, ⟨A5, c5, rfl, hl5, hC5⟩, ⟨[_, _], [_, _, _, _], rfl, (mR w _), ⟨[_], [_, _, _], rfl, rfl, (eY w _)⟩⟩⟩⟩⟩⟩⟩⟩
theorem to_Message (x : GMessage) (cs : List Value) (w : World) (h : gI.K w x cs) (hs : cK x ≤ 1048576) : Calls Tryz.prog 133 #[.agg cs.toArray] w (jU dA x w) := by
 obtain ⟨A5, c5, rfl, hl5, hC5⟩ := nD h
 have HC5 := Sd.mk hC5
 clear hC5
 have s_Args : bB iV x.bK ≤ 1048576 := by unfold cK at hs; omega
 clear hs
 go_enter Tryz.func133, Tryz.ntmps133
 go_wp2_with fail
 with_reducible refine (toS_Wire x.bK _ _ _ ?hc_Args s_Args).mono ?_
 case hc_Args => exact aM kA HC5.out
 rintro e w_Args ⟨v5, rfl, hR5, hu⟩
 obtain ⟨B5, b5, rfl⟩ := aV hR5
 obtain ⟨P5, hR5', g5, l5⟩ := fP hR5 (w.heap.size + 1 + 1 + 1) kB
 have ge5 : ∀ b, P5 b → w.heap.size + 1 + 1 < b := fun b hb => by have := g5 b hb; omega
 have n1_5 : ¬ P5 (w.heap.size + 1) := fun q => by have := ge5 _ q; omega
 have n2_5 : ¬ P5 (w.heap.size + 1 + 1) := fun q => by have := ge5 _ q; omega
 have HR5 := Sd.mk hR5'
 have GE5 := Sd.mk ge5
 have LT5 := Sd.mk l5
 have GP5 := Sd.mk g5
 clear hR5 hR5' ge5 l5 g5
 have HB_Args : Sd (Upd No w w_Args) := Sd.mk (Upd.then kA hu)
 have cc0_Args := fun o => hu.aI (b := w.heap.size) kB (fun q => q) o
 have cc1_Args := fun o => hu.aI (b := w.heap.size + 1) kB (fun q => q) o
 have cf1_Args := fun o => hu.bP (b := w.heap.size + 1) kB (fun q => q) o
 have cc2_Args := fun o => hu.aI (b := w.heap.size + 1 + 1) kB (fun q => q) o
 have cf2_Args := fun o => hu.bP (b := w.heap.size + 1 + 1) kB (fun q => q) o
 have hz_Args : w.heap.size + 1 + 1 + 1 ≤ w_Args.heap.size := by have := hu.size; (try simp at this); omega
 clear hu
 go_wp2_with fail
 with_reducible refine (to_Wire x.Value _ _ (kl_Wire_Kmk _ _) (by simp [iV])).mono ?_
 rintro e w_Value ⟨cs_Value, rfl, hM, hu⟩
 obtain rfl := ki_Wire_M hM
 clear hM
 have HR5 := Sd.mk (aO hu (fun _ _ q => q) (eH HR5.out (by repeat (with_reducible first | exact Upd.refl _ _ | apply Upd.eT n1_5 | apply Upd.eT n2_5 | apply Upd.alloc))))
 have HB_Value : Sd (Upd No w w_Value) := Sd.mk (Upd.then (by repeat (with_reducible first | exact HB_Args.out | apply Upd.aT | apply Upd.aS | apply Upd.aP | apply Upd.alloc | apply Upd.drewN | apply Upd.drew)) hu)
 have cc0_Value := fun o => hu.aI (b := w.heap.size) kB (fun q => q) o
 have cc1_Value := fun o => hu.aI (b := w.heap.size + 1) kB (fun q => q) o
 have cf1_Value := fun o => hu.bP (b := w.heap.size + 1) kB (fun q => q) o
 have cc2_Value := fun o => hu.aI (b := w.heap.size + 1 + 1) kB (fun q => q) o
 have cf2_Value := fun o => hu.bP (b := w.heap.size + 1 + 1) kB (fun q => q) o
 have hz_Value : w.heap.size + 1 + 1 + 1 ≤ w_Value.heap.size := by have := hu.size; (try simp at this); omega
 have hm_Value : w_Args.heap.size ≤ w_Value.heap.size := by have := hu.size; (try simp at this); omega
 clear hu
 go_wp2_with fail
 with_reducible refine (to_Tag x.Tag _ _ (mD _ _) (by simp [mV])).mono ?_
 rintro e w_Tag ⟨cs_Tag, rfl, hM, hu⟩
 obtain rfl := ki_Tag_M hM
 clear hM
 have HR5 := Sd.mk (aO hu (fun _ _ q => q) (eH HR5.out (by repeat (with_reducible first | exact Upd.refl _ _ | apply Upd.eT n1_5 | apply Upd.eT n2_5 | apply Upd.alloc))))
 have HB_Tag : Sd (Upd No w w_Tag) := Sd.mk (Upd.then (by repeat (with_reducible first | exact HB_Value.out | apply Upd.aT | apply Upd.aS | apply Upd.aP | apply Upd.alloc | apply Upd.drewN | apply Upd.drew)) hu)
 have cc0_Tag := fun o => hu.aI (b := w.heap.size) kB (fun q => q) o
 have cc1_Tag := fun o => hu.aI (b := w.heap.size + 1) kB (fun q => q) o
 have cf1_Tag := fun o => hu.bP (b := w.heap.size + 1) kB (fun q => q) o
 have cc2_Tag := fun o => hu.aI (b := w.heap.size + 1 + 1) kB (fun q => q) o
 have cf2_Tag := fun o => hu.bP (b := w.heap.size + 1 + 1) kB (fun q => q) o
 have hz_Tag : w.heap.size + 1 + 1 + 1 ≤ w_Tag.heap.size := by have := hu.size; (try simp at this); omega
 have hm_Tag : w_Value.heap.size ≤ w_Tag.heap.size := by have := hu.size; (try simp at this); omega
 clear hu
 go_wp2
 refine bodyPost_ret (v := .agg #[.int .i64 x.Kind, .int .i64 x.Pos, .int .i64 x.iC, .int .i64 x.Question, .string x.Name, .slice B5 x.bK.length b5, .int .i64 x.Value.Kind, .int .i64 x.Value.N, .int .i64 x.Count, .int .i64 x.Tag.Vat, .int .i64 x.Tag.Entity, .int .i64 x.Tag.Seq]) (by simp [results, Tryz.results133, go_sem, cc1_Args, cc1_Value, cc1_Tag]) rfl ⟨_, rfl, ?_, (by repeat (with_reducible first | exact HB_Tag.out | apply Upd.aT | apply Upd.aS | apply Upd.aP | apply Upd.alloc | apply Upd.drewN | apply Upd.drew))⟩
 exact kP _ _ _ (eH HR5.out (by repeat (with_reducible first | exact Upd.refl _ _ | apply Upd.eT n1_5 | apply Upd.eT n2_5 | apply Upd.alloc))) (fun k hk => by have := GE5.out k hk; simp only [New]; omega)
theorem toS_Message (l : List GMessage) (A : Option Addr) (c : Nat) (w : World) (h : C gI w A l) (hs : bB cK l ≤ 1048576) : Calls Tryz.prog 98 #[.slice A l.length c] w (jH dA 141 l w) := by
 have hn : l.length ≤ 1048576 := by unfold bB at hs; omega
 have hmk := iB (P := Tryz.prog) _ _ _ Tryz.underlying100 ki_Message_info l.length hn kD
 have H := Sd.mk h
 have HS := Sd.mk hs
 clear h hs
 go_enter Tryz.func98, Tryz.ntmps98
 go_wp2
 clear hmk
 have HR : Sd (R dA 141 (w.alloc (eD (.agg #[.int .i64 0, .int .i64 0, .int .i64 0, .int .i64 0, .string ⟨#[]⟩, .slice none 0 0, .int .i64 0, .int .i64 0, .int .i64 0, .int .i64 0, .int .i64 0, .int .i64 0]) (l.length * 12) 141)) (New w) (.slice (some ⟨w.heap.size, 0, none⟩) l.length l.length) (List.replicate l.length mO)) := Sd.mk (kL (d := dA) (e := 141) w (.agg #[.int .i64 0, .int .i64 0, .int .i64 0, .int .i64 0, .string ⟨#[]⟩, .slice none 0 0, .int .i64 0, .int .i64 0, .int .i64 0, .int .i64 0, .int .i64 0, .int .i64 0]) mO rfl kD ki_Message_zero l.length hn)
 have HU := Sd.mk ((Upd.refl No w).alloc (eD (.agg #[.int .i64 0, .int .i64 0, .int .i64 0, .int .i64 0, .string ⟨#[]⟩, .slice none 0 0, .int .i64 0, .int .i64 0, .int .i64 0, .int .i64 0, .int .i64 0, .int .i64 0]) (l.length * 12) 141))
 go_loopg [4] l.length (fun k v wr => ∃ i : Nat, i + k = l.length ∧ v = .int .i64 i ∧ Sd (R dA 141 wr (New w) (.slice (some ⟨w.heap.size, 0, none⟩) l.length l.length) (upTo l (List.replicate l.length mO) i)) ∧ Sd (Upd No w wr))
 case atStart => exact ⟨0, by omega, rfl, ⟨by rw [bX]; exact HR.out⟩, HU⟩
 case round =>
  clear HR HU
  obtain ⟨i, hi, rfl, HR, HU⟩ := hrel
  by_cases hlt : i < l.length
  ·obtain ⟨ad, A5, c5, rfl, a0, a1, a2, a3, a4, a5, a6, a7, a8, a9, a10, a11, hl5, hC5⟩ := kl_Message_at (aM HU.out H.out) i hlt
   have HC5 := Sd.mk hC5
   clear hC5
   have hsi : cK l[i] ≤ 1048576 := by have := HS.out; have := iZ cK l i hlt; unfold bB at *; omega
   go_wp2_with fail
   with_reducible refine (to_Message l[i] _ _ (j3 _ _ hl5 HC5.out) hsi).mono ?_
   rintro e w1 ⟨cs, rfl, hM, hu⟩
   obtain ⟨v5, P5, rfl, hR5, i5⟩ := lM (dA.M_lt hM)
   obtain ⟨D5, d5, rfl⟩ := aV hR5
   have HRowA := aO hu (fun _ _ q => q) (R_lt HR.out)
   have HU1 := Sd.mk (HU.out.then hu)
   have hzw := HU.out.size
   have HR5 := Sd.mk hR5
   have I5 := Sd.mk i5
   clear HR HU hM hu hR5 i5
   obtain ⟨g, cap, cur, ce, Fi, hv, hcap, hat, hM, hg, hFi, hFg, close⟩ := fV HRowA 12 l.length rfl (by rw [dH (by simp) (by simp; omega)]; simp) i mO (by rw [eP (by simp) (by simpa using hlt)]; simp)
   cases hv
   obtain ⟨y5, _, rfl, -⟩ := lM hM
   have HAT := Sd.mk hat
   have x0 := hat.cell0 _ rfl
   have x1 := hat.cell 1 _ rfl
   have x2 := hat.cell 2 _ rfl
   have x3 := hat.cell 3 _ rfl
   have x4 := hat.cell 4 _ rfl
   have x5 := hat.cell 5 _ rfl
   have x6 := hat.cell 6 _ rfl
   have x7 := hat.cell 7 _ rfl
   have x8 := hat.cell 8 _ rfl
   have x9 := hat.cell 9 _ rfl
   have x10 := hat.cell 10 _ rfl
   have x11 := hat.cell 11 _ rfl
   have f0 := hat.free (i * 12)
   have f1 := hat.free (i * 12 + 1)
   have f2 := hat.free (i * 12 + 2)
   have f3 := hat.free (i * 12 + 3)
   have f4 := hat.free (i * 12 + 4)
   have f5 := hat.free (i * 12 + 5)
   have f6 := hat.free (i * 12 + 6)
   have f7 := hat.free (i * 12 + 7)
   have f8 := hat.free (i * 12 + 8)
   have f9 := hat.free (i * 12 + 9)
   have f10 := hat.free (i * 12 + 10)
   have f11 := hat.free (i * 12 + 11)
   have CL := Sd.mk close
   clear hat close hM HRowA
   go_wp2
   have HA := (((((((((((HAT.out.set0 kD (.int .i64 l[i].Kind)).set 1 kD (.int .i64 l[i].Pos)).set 2 kD (.int .i64 l[i].iC)).set 3 kD (.int .i64 l[i].Question)).set 4 kD (.string l[i].Name)).set 5 kD (.slice D5 l[i].bK.length d5)).set 6 kD (.int .i64 l[i].Value.Kind)).set 7 kD (.int .i64 l[i].Value.N)).set 8 kD (.int .i64 l[i].Count)).set 9 kD (.int .i64 l[i].Tag.Vat)).set 10 kD (.int .i64 l[i].Tag.Entity)).set 11 kD (.int .i64 l[i].Tag.Seq)
   have hD5 : ∀ b, P5 b → ¬ (b = w.heap.size ∨ Fi b) := by
    intro b hb q
    have h1 := (I5.out b hb).1
    simp only [New] at h1
    rcases q with rfl | q
    ·exact absurd hg.2 kO
    ·have h2 := (hFi b q).2
     omega
   have HM := kP _ (fun b => P5 b) l[i] (aO HA.upd hD5 HR5.out) (fun k hk => hk)
   have hP1 : ∀ b, (P5 b) → New wr b := by
    intro b hb
    exact (I5.out b hb).1
   have HRowB := CL.out _ _ l[i] _ (New w) HA HM (fun b hb => .inr (fun q => by have h1 := hP1 b hb; have h2 := q.2; simp only [New] at h1; omega)) (fun _ q => q.1) (fun b hb => by have h1 := hP1 b hb; simp only [New] at h1 ⊢; omega)
   rw [dI (by simp) (by simpa using hlt)] at HRowB
   go_roundg (gk - 1)
   case measure => omega
   case rel => exact ⟨i + 1, by omega, by go_num, ⟨HRowB⟩, ⟨by repeat (with_reducible first | exact HU1.out | apply Upd.aP)⟩⟩
  ·go_wp2
   go_ret
   have HRowB := HR.out
   rw [dG (by simp) (by simp; omega)] at HRowB
   exact ⟨_, rfl, HRowB, HU.out⟩
theorem sz_Message (x : GMessage) (cs : List Value) (n : Int) (w : World) (h : gI.K w x cs) (hb : lY x) (h0 : 0 ≤ n) (h1 : n ≤ 1048576) : Calls Tryz.prog 127 #[.agg cs.toArray, .int .i64 n] w (jA (cK x) n w) := by
 obtain ⟨A5, c5, rfl, hl5, hC5⟩ := nD h
 have HC5 := Sd.mk hC5
 clear hC5
 have b_Name := hb
 unfold lY at b_Name
 go_enter Tryz.func127, Tryz.ntmps127
 by_cases q_Name : ((x.Name.size : Nat) : Int) ≤ n
 case neg =>
  go_wp2
  go_ret
  exact ⟨_, rfl, .inr ⟨by unfold cK; omega, rfl⟩, kA⟩
 go_wp2_with fail
 with_reducible refine (szS_Wire x.bK _ _ _ _ ?hc_Args kO kO).mono ?_
 case hc_Args => exact aM kA HC5.out
 rintro e w_Args ⟨r_Args, rfl, hr_Args, hu⟩
 have HB_Args : Sd (Upd No w w_Args) := Sd.mk (Upd.then kA hu)
 have cc0_Args := fun o => hu.aI (b := w.heap.size) kB (fun q => q) o
 have hz_Args : w.heap.size + 1 ≤ w_Args.heap.size := by have := hu.size; (try simp at this); omega
 clear hu
 rcases hr_Args with ⟨q_Args, rfl⟩ | ⟨q_Args, rfl⟩
 case inr =>
  go_wp2
  go_ret
  exact ⟨_, rfl, .inr ⟨by unfold cK; omega, rfl⟩, (by repeat (with_reducible first | exact HB_Args.out | apply Upd.aT | apply Upd.aS | apply Upd.aP | apply Upd.alloc | apply Upd.drewN | apply Upd.drew))⟩
 go_wp2
 go_ret
 exact ⟨_, rfl, .inl ⟨by unfold cK; omega, by unfold cK; omega⟩, (by repeat (with_reducible first | exact HB_Args.out | apply Upd.aT | apply Upd.aS | apply Upd.aP | apply Upd.alloc | apply Upd.drewN | apply Upd.drew))⟩
theorem szS_Message (l : List GMessage) (A : Option Addr) (c : Nat) (n : Int) (w : World) (h : C gI w A l) (hb : ∀ y ∈ l, lY y) (h0 : 0 ≤ n) (h1 : n ≤ 1048576) : Calls Tryz.prog 92 #[.slice A l.length c, .int .i64 n] w (jA (bB cK l) n w) := by
 have hn := h.1
 have H := Sd.mk h
 clear h
 have HBD := Sd.mk hb
 clear hb
 go_enter Tryz.func92, Tryz.ntmps92
 by_cases q0 : (l.length : Int) ≤ n
 case neg =>
  go_wp2
  go_ret
  exact ⟨_, rfl, .inr ⟨by unfold bB; omega, rfl⟩, Upd.refl _ _⟩
 go_wp2
 go_loopg [1, 5] l.length (fun k u v wr => ∃ i : Nat, i + k = l.length ∧ (eZ cK (l.take i) : Int) ≤ n - l.length ∧ u = .int .i64 (n - l.length - eZ cK (l.take i)) ∧ v = .int .i64 i ∧ Sd (Upd No w wr))
 case atStart => exact ⟨0, by omega, by simp [eZ]; omega, by simp [eZ], rfl, ⟨Upd.refl _ _⟩⟩
 case round =>
  obtain ⟨i, hi, hle, rfl, rfl, HU⟩ := hrel
  by_cases hlt : i < l.length
  ·obtain ⟨ad, A5, c5, rfl, a0, a1, a2, a3, a4, a5, a6, a7, a8, a9, a10, a11, hl5, hC5⟩ := kl_Message_at (aM HU.out H.out) i hlt
   have HC5 := Sd.mk hC5
   clear hC5
   have hst := jS cK l i hlt
   have HST := Sd.mk (iD cK l i hlt)
   generalize hs : eZ cK (l.take i) = s at *
   have HS := Sd.mk hs
   clear hs
   go_wp2_with fail
   with_reducible refine (sz_Message l[i] _ _ _ (j3 _ _ hl5 HC5.out) (HBD.out _ (List.getElem_mem hlt)) kO kO).mono ?_
   rintro e w1 ⟨r, rfl, hr, hu⟩
   have HU1 := Sd.mk (HU.out.then hu)
   clear hu HU
   rcases hr with ⟨q, rfl⟩ | ⟨q, rfl⟩
   ·go_wp2
    go_roundg (gk - 1)
    case measure => omega
    case rel => exact ⟨i + 1, by omega, by rw [HST.out]; omega, by rw [HST.out]; exact congrArg (Value.int .i64) kO, by go_num, HU1⟩
   ·go_wp2
    go_ret
    exact ⟨_, rfl, .inr ⟨by unfold bB; omega, rfl⟩, HU1.out⟩
  ·go_wp2
   go_ret
   have e : l.take i = l := List.take_of_length_le kO
   rw [e] at hle
   exact ⟨_, rfl, .inl ⟨by unfold bB; omega, by rw [e]; unfold bB; omega⟩, HU.out⟩
theorem eq_Message (x : GMessage) (cs cs' : List Value) (w : World) (h : dA.K w x cs) (h' : dA.K w x cs') : Calls Tryz.prog 139 #[.agg cs.toArray, .agg cs'.toArray] w (bU true w) := by
 obtain ⟨A5, c5, rfl, hl5, hC5⟩ := nE h
 have HC5 := Sd.mk hC5
 clear hC5
 obtain ⟨B5, b5, rfl, hm5, hD5⟩ := nE h'
 have HD5 := Sd.mk hD5
 clear hD5
 go_enter Tryz.func139, Tryz.ntmps139
 go_wp2_with fail
 with_reducible refine (eqS_Wire x.bK _ _ _ _ _ ?hc_Args ?hd_Args).mono ?_
 case hc_Args => exact aM kA HC5.out
 case hd_Args => exact aM kA HD5.out
 rintro e w_Args ⟨rfl, hu⟩
 have HB_Args : Sd (Upd No w w_Args) := Sd.mk (Upd.then kA hu)
 have cc0_Args := fun o => hu.aI (b := w.heap.size) kB (fun q => q) o
 have cc1_Args := fun o => hu.aI (b := w.heap.size + 1) kB (fun q => q) o
 have hz_Args : w.heap.size + 1 + 1 ≤ w_Args.heap.size := by have := hu.size; (try simp at this); omega
 clear hu
 go_wp2_with fail
 with_reducible refine (eq_Wire x.Value _ _ _ (mR _ _) (mR _ _)).mono ?_
 rintro e w_Value ⟨rfl, hu⟩
 have HB_Value : Sd (Upd No w w_Value) := Sd.mk (Upd.then (by repeat (with_reducible first | exact HB_Args.out | apply Upd.aT | apply Upd.aS | apply Upd.aP | apply Upd.alloc | apply Upd.drewN | apply Upd.drew)) hu)
 have cc0_Value := fun o => hu.aI (b := w.heap.size) kB (fun q => q) o
 have cc1_Value := fun o => hu.aI (b := w.heap.size + 1) kB (fun q => q) o
 have hz_Value : w.heap.size + 1 + 1 ≤ w_Value.heap.size := by have := hu.size; (try simp at this); omega
 clear hu
 go_wp2_with fail
 with_reducible refine (eq_Tag x.Tag _ _ _ (eY _ _) (eY _ _)).mono ?_
 rintro e w_Tag ⟨rfl, hu⟩
 have HB_Tag : Sd (Upd No w w_Tag) := Sd.mk (Upd.then (by repeat (with_reducible first | exact HB_Value.out | apply Upd.aT | apply Upd.aS | apply Upd.aP | apply Upd.alloc | apply Upd.drewN | apply Upd.drew)) hu)
 have cc0_Tag := fun o => hu.aI (b := w.heap.size) kB (fun q => q) o
 have cc1_Tag := fun o => hu.aI (b := w.heap.size + 1) kB (fun q => q) o
 have hz_Tag : w.heap.size + 1 + 1 ≤ w_Tag.heap.size := by have := hu.size; (try simp at this); omega
 clear hu
 go_wp2
 go_ret
 exact ⟨rfl, (by repeat (with_reducible first | exact HB_Tag.out | apply Upd.aT | apply Upd.aS | apply Upd.aP | apply Upd.alloc | apply Upd.drewN | apply Upd.drew))⟩
theorem eqS_Message (l : List GMessage) (A A' : Option Addr) (c c' : Nat) (w : World) (h : C dA w A l) (h' : C dA w A' l) : Calls Tryz.prog 106 #[.slice A l.length c, .slice A' l.length c'] w (bU true w) := by
 have hn := h.1
 have H := Sd.mk h
 have H' := Sd.mk h'
 clear h h'
 go_enter Tryz.func106, Tryz.ntmps106
 go_wp2
 go_loopg [5] l.length (fun k v wr => ∃ i : Nat, i + k = l.length ∧ v = .int .i64 i ∧ Sd (Upd No w wr))
 case atStart => exact ⟨0, by omega, rfl, ⟨Upd.refl _ _⟩⟩
 case round =>
  obtain ⟨i, hi, rfl, HU⟩ := hrel
  by_cases hlt : i < l.length
  ·obtain ⟨ad, A5, c5, rfl, a0, a1, a2, a3, a4, a5, a6, a7, a8, a9, a10, a11, hl5, hC5⟩ := ki_Message_at (aM HU.out H.out) i hlt
   obtain ⟨ad', B5, b5, rfl, z0, z1, z2, z3, z4, z5, z6, z7, z8, z9, z10, z11, hm5, hD5⟩ := ki_Message_at (aM HU.out H'.out) i hlt
   have HC5 := Sd.mk hC5
   have HD5 := Sd.mk hD5
   clear hC5 hD5
   go_wp2_with fail
   go_still_tail 8, kR
   change wpList _ _ _ _ _ wr.drew
   have HW : Sd (Upd No wr wr.drew) := ⟨(Upd.refl _ _).drew⟩
   have HU2 : Sd (Upd No w wr.drew) := ⟨HU.out.drew⟩
   generalize wr.drew = w2 at *
   go_wp2_with (go_at_call 139; (with_reducible refine (eq_Message l[i] _ _ _ (j4 _ _ hl5 (aM HW.out HC5.out)) (j4 _ _ hm5 (aM HW.out HD5.out))).mono ?_); rintro e w' ⟨rfl, hu⟩)
   have HU3 := Sd.mk (HU2.out.then hu)
   clear HU2 hu
   go_wp2
   go_roundg (gk - 1)
   case measure => omega
   case rel => exact ⟨i + 1, by omega, by go_num, HU3⟩
  ·go_wp2
   go_ret
   exact ⟨rfl, HU.out⟩
theorem markS_Message (l : List GMessage) (k : Int) (F : Nat → Prop) (v : Value) (w : World) (h : R dA 141 w F v l) (hk : 0 ≤ k) (hb : k + aQ bM l ≤ 4611686018427387904) : Calls Tryz.prog 68 #[v, .int .i64 k] w (Marks dA 141 F v (k + aQ bM l) (mkS jN bM k l) w) := by
 obtain ⟨A, c, rfl⟩ := aV h
 have hn := R_len h
 have H := Sd.mk h
 clear h
 go_enter Tryz.func68, Tryz.ntmps68
 go_wp2
 go_loopg [1, 5] l.length (fun r u v wr => ∃ i : Nat, i + r = l.length ∧ u = .int .i64 (k + aQ bM (l.take i)) ∧ v = .int .i64 i ∧ Sd (R dA 141 wr F (.slice A l.length c) (upTo (mkS jN bM k l) l i)) ∧ Sd (Upd F w wr))
 case atStart => exact ⟨0, by omega, by simp [aQ], rfl, ⟨by rw [bX]; exact H.out⟩, ⟨Upd.refl _ _⟩⟩
 case round =>
  obtain ⟨i, hi, rfl, rfl, HR, HU⟩ := hrel
  by_cases hlt : i < l.length
  ·have hle := dJ bM lI l i
   have hst := fQ bM l i hlt
   have hle2 := dJ bM lI l (i + 1)
   rw [hst] at hle2
   have HST := Sd.mk hst
   clear hst
   have HMA := Sd.mk (jI jN bM l k i hlt)
   obtain ⟨g, cap, cur, ce, Fi, hv, hcap, hat, hM, hg, hFi, hFg, close⟩ := fV HR.out 12 l.length rfl (dH (aR _ _ _ _) kO) i l[i] (eP (aR _ _ _ _) hlt)
   cases hv
   obtain ⟨v5, P5, rfl, hR5, i5⟩ := lM hM
   obtain ⟨B5, b5, rfl⟩ := aV hR5
   have HR5 := Sd.mk hR5
   have I5 := Sd.mk i5
   have N5 : ¬ P5 g := fun q => hFg (i5 g q)
   clear hR5 i5
   have nn5 := dB bE kY l[i].bK
   have HCN : Sd (bM l[i] = bM l[i]) := ⟨rfl⟩
   simp only [bM] at hle2
   generalize hq : k + aQ bM (l.take i) = q at *
   have HQ := Sd.mk hq
   have hq0 : 0 ≤ q := by omega
   have hqb : q + ((((((((((((0 + 1) + 1) + 1) + 1) + 1) + aQ bE l[i].bK) + 1) + 1) + 1) + 1) + 1) + 1) ≤ 4611686018427387904 := by omega
   clear hq hle hle2 hb
   generalize hcn5 : aQ bE l[i].bK = cn5 at *
   have HC5 := Sd.mk hcn5
   clear hcn5
   have HAT := Sd.mk hat
   have x0_s := hat.cell0 _ rfl
   have x1_s := hat.cell 1 _ rfl
   have x2_s := hat.cell 2 _ rfl
   have x3_s := hat.cell 3 _ rfl
   have x4_s := hat.cell 4 _ rfl
   have x5_s := hat.cell 5 _ rfl
   have x6_s := hat.cell 6 _ rfl
   have x7_s := hat.cell 7 _ rfl
   have x8_s := hat.cell 8 _ rfl
   have x9_s := hat.cell 9 _ rfl
   have x10_s := hat.cell 10 _ rfl
   have x11_s := hat.cell 11 _ rfl
   have f0_s := hat.free (i * 12)
   have f1_s := hat.free (i * 12 + 1)
   have f2_s := hat.free (i * 12 + 2)
   have f3_s := hat.free (i * 12 + 3)
   have f4_s := hat.free (i * 12 + 4)
   have f5_s := hat.free (i * 12 + 5)
   have f6_s := hat.free (i * 12 + 6)
   have f7_s := hat.free (i * 12 + 7)
   have f8_s := hat.free (i * 12 + 8)
   have f9_s := hat.free (i * 12 + 9)
   have f10_s := hat.free (i * 12 + 10)
   have f11_s := hat.free (i * 12 + 11)
   have CL := Sd.mk close
   clear hat close hM HR
   go_wp2_with fail
   with_reducible refine (l9 _ _ kO kO).mono ?_
   rintro e w_Name ⟨rfl, hu⟩
   replace HR5 := Sd.mk (aO hu (fun _ _ q => q) (aO (G := fun b => b = g) kC (fun b hb hg' => N5 (hg' ▸ hb)) HR5.out))
   replace HAT := Sd.mk (((((HAT.out.set0 kD (.int .i64 (q))).set 1 kD (.int .i64 ((q + 1)))).set 2 kD (.int .i64 (((q + 1) + 1)))).set 3 kD (.int .i64 ((((q + 1) + 1) + 1)))).call hu (fun _ q => q.elim) hFg)
   clear hu x0_s f0_s x1_s f1_s x2_s f2_s x3_s f3_s x4_s f4_s x5_s f5_s x6_s f6_s x7_s f7_s x8_s f8_s x9_s f9_s x10_s f10_s x11_s f11_s
   have x0_Name := HAT.out.cell0 _ rfl
   have x1_Name := HAT.out.cell 1 _ rfl
   have x2_Name := HAT.out.cell 2 _ rfl
   have x3_Name := HAT.out.cell 3 _ rfl
   have x4_Name := HAT.out.cell 4 _ rfl
   have x5_Name := HAT.out.cell 5 _ rfl
   have x6_Name := HAT.out.cell 6 _ rfl
   have x7_Name := HAT.out.cell 7 _ rfl
   have x8_Name := HAT.out.cell 8 _ rfl
   have x9_Name := HAT.out.cell 9 _ rfl
   have x10_Name := HAT.out.cell 10 _ rfl
   have x11_Name := HAT.out.cell 11 _ rfl
   have f0_Name := HAT.out.free (i * 12)
   have f1_Name := HAT.out.free (i * 12 + 1)
   have f2_Name := HAT.out.free (i * 12 + 2)
   have f3_Name := HAT.out.free (i * 12 + 3)
   have f4_Name := HAT.out.free (i * 12 + 4)
   have f5_Name := HAT.out.free (i * 12 + 5)
   have f6_Name := HAT.out.free (i * 12 + 6)
   have f7_Name := HAT.out.free (i * 12 + 7)
   have f8_Name := HAT.out.free (i * 12 + 8)
   have f9_Name := HAT.out.free (i * 12 + 9)
   have f10_Name := HAT.out.free (i * 12 + 10)
   have f11_Name := HAT.out.free (i * 12 + 11)
   go_wp2_with fail
   with_reducible refine (markS_Wire l[i].bK _ P5 _ _ ?hr_Args kO (by rw [HC5.out]; omega)).mono ?_
   case hr_Args => exact (aO (G := fun b => b = g) kC (fun b hb hg' => N5 (hg' ▸ hb)) HR5.out)
   rintro e w_Args ⟨rfl, hR5, hu⟩
   rw [HC5.out]
   replace HR5 := Sd.mk hR5
   replace HAT := Sd.mk ((HAT.out.set 4 kD (.string (mtx (((((q + 1) + 1) + 1) + 1))))).call hu I5.out hFg)
   clear hR5
   clear hu x0_Name f0_Name x1_Name f1_Name x2_Name f2_Name x3_Name f3_Name x4_Name f4_Name x5_Name f5_Name x6_Name f6_Name x7_Name f7_Name x8_Name f8_Name x9_Name f9_Name x10_Name f10_Name x11_Name f11_Name
   have x0_Args := HAT.out.cell0 _ rfl
   have x1_Args := HAT.out.cell 1 _ rfl
   have x2_Args := HAT.out.cell 2 _ rfl
   have x3_Args := HAT.out.cell 3 _ rfl
   have x4_Args := HAT.out.cell 4 _ rfl
   have x5_Args := HAT.out.cell 5 _ rfl
   have x6_Args := HAT.out.cell 6 _ rfl
   have x7_Args := HAT.out.cell 7 _ rfl
   have x8_Args := HAT.out.cell 8 _ rfl
   have x9_Args := HAT.out.cell 9 _ rfl
   have x10_Args := HAT.out.cell 10 _ rfl
   have x11_Args := HAT.out.cell 11 _ rfl
   have f0_Args := HAT.out.free (i * 12)
   have f1_Args := HAT.out.free (i * 12 + 1)
   have f2_Args := HAT.out.free (i * 12 + 2)
   have f3_Args := HAT.out.free (i * 12 + 3)
   have f4_Args := HAT.out.free (i * 12 + 4)
   have f5_Args := HAT.out.free (i * 12 + 5)
   have f6_Args := HAT.out.free (i * 12 + 6)
   have f7_Args := HAT.out.free (i * 12 + 7)
   have f8_Args := HAT.out.free (i * 12 + 8)
   have f9_Args := HAT.out.free (i * 12 + 9)
   have f10_Args := HAT.out.free (i * 12 + 10)
   have f11_Args := HAT.out.free (i * 12 + 11)
   go_wp2
   have HA := ((((((HAT.out.set 6 kD (.int .i64 (((((((q + 1) + 1) + 1) + 1) + 1) + cn5)))).set 7 kD (.int .i64 ((((((((q + 1) + 1) + 1) + 1) + 1) + cn5) + 1)))).set 8 kD (.int .i64 (((((((((q + 1) + 1) + 1) + 1) + 1) + cn5) + 1) + 1)))).set 9 kD (.int .i64 ((((((((((q + 1) + 1) + 1) + 1) + 1) + cn5) + 1) + 1) + 1)))).set 10 kD (.int .i64 (((((((((((q + 1) + 1) + 1) + 1) + 1) + cn5) + 1) + 1) + 1) + 1)))).set 11 kD (.int .i64 ((((((((((((q + 1) + 1) + 1) + 1) + 1) + cn5) + 1) + 1) + 1) + 1) + 1))))
   have hy : (⟨q, (q + 1), ((q + 1) + 1), (((q + 1) + 1) + 1), mtx (((((q + 1) + 1) + 1) + 1)), mkS kJ bE (((((q + 1) + 1) + 1) + 1) + 1) l[i].bK, ⟨((((((q + 1) + 1) + 1) + 1) + 1) + cn5), (((((((q + 1) + 1) + 1) + 1) + 1) + cn5) + 1)⟩, ((((((((q + 1) + 1) + 1) + 1) + 1) + cn5) + 1) + 1), ⟨(((((((((q + 1) + 1) + 1) + 1) + 1) + cn5) + 1) + 1) + 1), ((((((((((q + 1) + 1) + 1) + 1) + 1) + cn5) + 1) + 1) + 1) + 1), (((((((((((q + 1) + 1) + 1) + 1) + 1) + cn5) + 1) + 1) + 1) + 1) + 1)⟩⟩ : GMessage) = (mkS jN bM k l)[i]'(by rw [aR]; exact hlt) := by rw [HMA.out]; simp only [jN, HC5.out]
   have HRowB := CL.out _ _ (⟨q, (q + 1), ((q + 1) + 1), (((q + 1) + 1) + 1), mtx (((((q + 1) + 1) + 1) + 1)), mkS kJ bE (((((q + 1) + 1) + 1) + 1) + 1) l[i].bK, ⟨((((((q + 1) + 1) + 1) + 1) + 1) + cn5), (((((((q + 1) + 1) + 1) + 1) + 1) + cn5) + 1)⟩, ((((((((q + 1) + 1) + 1) + 1) + 1) + cn5) + 1) + 1), ⟨(((((((((q + 1) + 1) + 1) + 1) + 1) + cn5) + 1) + 1) + 1), ((((((((((q + 1) + 1) + 1) + 1) + 1) + cn5) + 1) + 1) + 1) + 1), (((((((((((q + 1) + 1) + 1) + 1) + 1) + cn5) + 1) + 1) + 1) + 1) + 1)⟩⟩ : GMessage) Fi F HA (kP _ Fi (⟨q, (q + 1), ((q + 1) + 1), (((q + 1) + 1) + 1), mtx (((((q + 1) + 1) + 1) + 1)), mkS kJ bE (((((q + 1) + 1) + 1) + 1) + 1) l[i].bK, ⟨((((((q + 1) + 1) + 1) + 1) + 1) + cn5), (((((((q + 1) + 1) + 1) + 1) + 1) + cn5) + 1)⟩, ((((((((q + 1) + 1) + 1) + 1) + 1) + cn5) + 1) + 1), ⟨(((((((((q + 1) + 1) + 1) + 1) + 1) + cn5) + 1) + 1) + 1), ((((((((((q + 1) + 1) + 1) + 1) + 1) + cn5) + 1) + 1) + 1) + 1), (((((((((((q + 1) + 1) + 1) + 1) + 1) + cn5) + 1) + 1) + 1) + 1) + 1)⟩⟩ : GMessage) (aO (G := fun b => b = g) kC (fun b hb hg' => N5 (hg' ▸ hb)) HR5.out) I5.out) (fun _ hb => .inl hb) (fun _ hb => hb) hFi
   rw [hy, dI (aR _ _ _ _) hlt] at HRowB
   go_roundg (gk - 1)
   case measure => omega
   case rel => exact ⟨i + 1, by omega, by rw [HST.out]; simp only [bM]; have := HQ.out; have := HC5.out; exact congrArg (Value.int .i64) kO, by go_num, ⟨HRowB⟩, ⟨HU.out.trans HA.upd (fun _ _ hb => hb) (fun b _ hb => by rcases hb with rfl | hb; exact hg; exact hFi b hb)⟩⟩
  ·go_wp2
   go_ret
   have HRowB := HR.out
   rw [dG (aR _ _ _ _) kO] at HRowB
   have e : l.take i = l := List.take_of_length_le kO
   exact ⟨gX (by rw [e]), HRowB, HU.out⟩
theorem kl_Outgoing_Kmk (w : World) (x : GOutgoing) {A6 : Option Addr} {c6 : Nat} (hl6 : x.Message.bK.length ≤ c6) (hC6 : C iX w A6 x.Message.bK) : gL.K w x [.int .i64 x.To, .int .i64 x.Message.Kind, .int .i64 x.Message.Pos, .int .i64 x.Message.iC, .int .i64 x.Message.Question, .string x.Message.Name, .slice A6 x.Message.bK.length c6, .int .i64 x.Message.Value.Kind, .int .i64 x.Message.Value.N, .int .i64 x.Message.Count, .int .i64 x.Message.Tag.Vat, .int .i64 x.Message.Tag.Entity, .int .i64 x.Message.Tag.Seq] := ⟨[_], [_, _, _, _, _, _, _, _, _, _, _, _], rfl, rfl, (j3 w _ hl6 hC6)⟩
theorem ki_Outgoing_Kmk (w : World) (x : GOutgoing) {A6 : Option Addr} {c6 : Nat} (hl6 : x.Message.bK.length ≤ c6) (hC6 : C fE w A6 x.Message.bK) : bZ.K w x [.int .i64 x.To, .int .i64 x.Message.Kind, .int .i64 x.Message.Pos, .int .i64 x.Message.iC, .int .i64 x.Message.Question, .string x.Message.Name, .slice A6 x.Message.bK.length c6, .int .i64 x.Message.Value.Kind, .int .i64 x.Message.Value.N, .int .i64 x.Message.Count, .int .i64 x.Message.Tag.Vat, .int .i64 x.Message.Tag.Entity, .int .i64 x.Message.Tag.Seq] := ⟨[_], [_, _, _, _, _, _, _, _, _, _, _, _], rfl, rfl, (j4 w _ hl6 hC6)⟩
theorem to_Outgoing (x : GOutgoing) (cs : List Value) (w : World) (h : gL.K w x cs) (hs : dF x ≤ 1048576) : Calls Tryz.prog 132 #[.agg cs.toArray] w (jU bZ x w) := by
 obtain ⟨A6, c6, rfl, hl6, hC6⟩ := nW h
 have HC6 := Sd.mk hC6
 clear hC6
 have s_Message : cK x.Message ≤ 1048576 := by unfold dF at hs; omega
 clear hs
 go_enter Tryz.func132, Tryz.ntmps132
 go_wp2_with fail
 with_reducible refine (to_Message x.Message _ _ (j3 _ _ hl6 ?hc_Message) s_Message).mono ?_
 case hc_Message => exact aM kA HC6.out
 rintro e w_Message ⟨cs_Message, rfl, hM, hu⟩
 obtain ⟨v6, Q6, rfl, hR6, i6⟩ := lM hM
 obtain ⟨B6, b6, rfl⟩ := aV hR6
 replace hR6 := R_mono i6 hR6
 clear i6 hM
 obtain ⟨P6, hR6', g6, l6⟩ := fP hR6 (w.heap.size + 1 + 1 + 1) kB
 have ge6 : ∀ b, P6 b → w.heap.size + 1 + 1 < b := fun b hb => by have := g6 b hb; omega
 have n1_6 : ¬ P6 (w.heap.size + 1) := fun q => by have := ge6 _ q; omega
 have n2_6 : ¬ P6 (w.heap.size + 1 + 1) := fun q => by have := ge6 _ q; omega
 have HR6 := Sd.mk hR6'
 have GE6 := Sd.mk ge6
 have LT6 := Sd.mk l6
 have GP6 := Sd.mk g6
 clear hR6 hR6' ge6 l6 g6
 have HB_Message : Sd (Upd No w w_Message) := Sd.mk (Upd.then kA hu)
 have cc0_Message := fun o => hu.aI (b := w.heap.size) kB (fun q => q) o
 have cc1_Message := fun o => hu.aI (b := w.heap.size + 1) kB (fun q => q) o
 have cf1_Message := fun o => hu.bP (b := w.heap.size + 1) kB (fun q => q) o
 have cc2_Message := fun o => hu.aI (b := w.heap.size + 1 + 1) kB (fun q => q) o
 have cf2_Message := fun o => hu.bP (b := w.heap.size + 1 + 1) kB (fun q => q) o
 have hz_Message : w.heap.size + 1 + 1 + 1 ≤ w_Message.heap.size := by have := hu.size; (try simp at this); omega
 clear hu
 go_wp2
 refine bodyPost_ret (v := .agg #[.int .i64 x.To, .int .i64 x.Message.Kind, .int .i64 x.Message.Pos, .int .i64 x.Message.iC, .int .i64 x.Message.Question, .string x.Message.Name, .slice B6 x.Message.bK.length b6, .int .i64 x.Message.Value.Kind, .int .i64 x.Message.Value.N, .int .i64 x.Message.Count, .int .i64 x.Message.Tag.Vat, .int .i64 x.Message.Tag.Entity, .int .i64 x.Message.Tag.Seq]) (by simp [results, Tryz.results132, go_sem, cc1_Message]) rfl ⟨_, rfl, ?_, (by repeat (with_reducible first | exact HB_Message.out | apply Upd.aT | apply Upd.aS | apply Upd.aP | apply Upd.alloc | apply Upd.drewN | apply Upd.drew))⟩
 exact lN _ _ _ (eH HR6.out (by repeat (with_reducible first | exact Upd.refl _ _ | apply Upd.eT n1_6 | apply Upd.eT n2_6 | apply Upd.alloc))) (fun k hk => by have := GE6.out k hk; simp only [New]; omega)
theorem toS_Outgoing (l : List GOutgoing) (A : Option Addr) (c : Nat) (w : World) (h : C gL w A l) (hs : bB dF l ≤ 1048576) : Calls Tryz.prog 97 #[.slice A l.length c] w (jH bZ 143 l w) := by
 have hn : l.length ≤ 1048576 := by unfold bB at hs; omega
 have hmk := iB (P := Tryz.prog) _ _ _ Tryz.underlying78 ki_Outgoing_info l.length hn kD
 have H := Sd.mk h
 have HS := Sd.mk hs
 clear h hs
 go_enter Tryz.func97, Tryz.ntmps97
 go_wp2
 clear hmk
 have HR : Sd (R bZ 143 (w.alloc (eD (.agg #[.int .i64 0, .int .i64 0, .int .i64 0, .int .i64 0, .int .i64 0, .string ⟨#[]⟩, .slice none 0 0, .int .i64 0, .int .i64 0, .int .i64 0, .int .i64 0, .int .i64 0, .int .i64 0]) (l.length * 13) 143)) (New w) (.slice (some ⟨w.heap.size, 0, none⟩) l.length l.length) (List.replicate l.length lZ)) := Sd.mk (kL (d := bZ) (e := 143) w (.agg #[.int .i64 0, .int .i64 0, .int .i64 0, .int .i64 0, .int .i64 0, .string ⟨#[]⟩, .slice none 0 0, .int .i64 0, .int .i64 0, .int .i64 0, .int .i64 0, .int .i64 0, .int .i64 0]) lZ rfl kD ki_Outgoing_zero l.length hn)
 have HU := Sd.mk ((Upd.refl No w).alloc (eD (.agg #[.int .i64 0, .int .i64 0, .int .i64 0, .int .i64 0, .int .i64 0, .string ⟨#[]⟩, .slice none 0 0, .int .i64 0, .int .i64 0, .int .i64 0, .int .i64 0, .int .i64 0, .int .i64 0]) (l.length * 13) 143))
 go_loopg [4] l.length (fun k v wr => ∃ i : Nat, i + k = l.length ∧ v = .int .i64 i ∧ Sd (R bZ 143 wr (New w) (.slice (some ⟨w.heap.size, 0, none⟩) l.length l.length) (upTo l (List.replicate l.length lZ) i)) ∧ Sd (Upd No w wr))
 case atStart => exact ⟨0, by omega, rfl, ⟨by rw [bX]; exact HR.out⟩, HU⟩
 case round =>
  clear HR HU
  obtain ⟨i, hi, rfl, HR, HU⟩ := hrel
  by_cases hlt : i < l.length
  ·obtain ⟨ad, A6, c6, rfl, a0, a1, a2, a3, a4, a5, a6, a7, a8, a9, a10, a11, a12, hl6, hC6⟩ := kl_Outgoing_at (aM HU.out H.out) i hlt
   have HC6 := Sd.mk hC6
   clear hC6
   have hsi : dF l[i] ≤ 1048576 := by have := HS.out; have := iZ dF l i hlt; unfold bB at *; omega
   go_wp2_with fail
   with_reducible refine (to_Outgoing l[i] _ _ (kl_Outgoing_Kmk _ _ hl6 HC6.out) hsi).mono ?_
   rintro e w1 ⟨cs, rfl, hM, hu⟩
   obtain ⟨v6, P6, rfl, hR6, i6⟩ := nY (bZ.M_lt hM)
   obtain ⟨D6, d6, rfl⟩ := aV hR6
   have HRowA := aO hu (fun _ _ q => q) (R_lt HR.out)
   have HU1 := Sd.mk (HU.out.then hu)
   have hzw := HU.out.size
   have HR6 := Sd.mk hR6
   have I6 := Sd.mk i6
   clear HR HU hM hu hR6 i6
   obtain ⟨g, cap, cur, ce, Fi, hv, hcap, hat, hM, hg, hFi, hFg, close⟩ := fV HRowA 13 l.length rfl (by rw [dH (by simp) (by simp; omega)]; simp) i lZ (by rw [eP (by simp) (by simpa using hlt)]; simp)
   cases hv
   obtain ⟨y6, _, rfl, -⟩ := nY hM
   have HAT := Sd.mk hat
   have x0 := hat.cell0 _ rfl
   have x1 := hat.cell 1 _ rfl
   have x2 := hat.cell 2 _ rfl
   have x3 := hat.cell 3 _ rfl
   have x4 := hat.cell 4 _ rfl
   have x5 := hat.cell 5 _ rfl
   have x6 := hat.cell 6 _ rfl
   have x7 := hat.cell 7 _ rfl
   have x8 := hat.cell 8 _ rfl
   have x9 := hat.cell 9 _ rfl
   have x10 := hat.cell 10 _ rfl
   have x11 := hat.cell 11 _ rfl
   have x12 := hat.cell 12 _ rfl
   have f0 := hat.free (i * 13)
   have f1 := hat.free (i * 13 + 1)
   have f2 := hat.free (i * 13 + 2)
   have f3 := hat.free (i * 13 + 3)
   have f4 := hat.free (i * 13 + 4)
   have f5 := hat.free (i * 13 + 5)
   have f6 := hat.free (i * 13 + 6)
   have f7 := hat.free (i * 13 + 7)
   have f8 := hat.free (i * 13 + 8)
   have f9 := hat.free (i * 13 + 9)
   have f10 := hat.free (i * 13 + 10)
   have f11 := hat.free (i * 13 + 11)
   have f12 := hat.free (i * 13 + 12)
   have CL := Sd.mk close
   clear hat close hM HRowA
   go_wp2
   have HA := ((((((((((((HAT.out.set0 kD (.int .i64 l[i].To)).set 1 kD (.int .i64 l[i].Message.Kind)).set 2 kD (.int .i64 l[i].Message.Pos)).set 3 kD (.int .i64 l[i].Message.iC)).set 4 kD (.int .i64 l[i].Message.Question)).set 5 kD (.string l[i].Message.Name)).set 6 kD (.slice D6 l[i].Message.bK.length d6)).set 7 kD (.int .i64 l[i].Message.Value.Kind)).set 8 kD (.int .i64 l[i].Message.Value.N)).set 9 kD (.int .i64 l[i].Message.Count)).set 10 kD (.int .i64 l[i].Message.Tag.Vat)).set 11 kD (.int .i64 l[i].Message.Tag.Entity)).set 12 kD (.int .i64 l[i].Message.Tag.Seq)
   have hD6 : ∀ b, P6 b → ¬ (b = w.heap.size ∨ Fi b) := by
    intro b hb q
    have h1 := (I6.out b hb).1
    simp only [New] at h1
    rcases q with rfl | q
    ·exact absurd hg.2 kO
    ·have h2 := (hFi b q).2
     omega
   have HM := lN _ (fun b => P6 b) l[i] (aO HA.upd hD6 HR6.out) (fun k hk => hk)
   have hP1 : ∀ b, (P6 b) → New wr b := by
    intro b hb
    exact (I6.out b hb).1
   have HRowB := CL.out _ _ l[i] _ (New w) HA HM (fun b hb => .inr (fun q => by have h1 := hP1 b hb; have h2 := q.2; simp only [New] at h1; omega)) (fun _ q => q.1) (fun b hb => by have h1 := hP1 b hb; simp only [New] at h1 ⊢; omega)
   rw [dI (by simp) (by simpa using hlt)] at HRowB
   go_roundg (gk - 1)
   case measure => omega
   case rel => exact ⟨i + 1, by omega, by go_num, ⟨HRowB⟩, ⟨by repeat (with_reducible first | exact HU1.out | apply Upd.aP)⟩⟩
  ·go_wp2
   go_ret
   have HRowB := HR.out
   rw [dG (by simp) (by simp; omega)] at HRowB
   exact ⟨_, rfl, HRowB, HU.out⟩
theorem sz_Outgoing (x : GOutgoing) (cs : List Value) (n : Int) (w : World) (h : gL.K w x cs) (hb : mP x) (h0 : 0 ≤ n) (h1 : n ≤ 1048576) : Calls Tryz.prog 126 #[.agg cs.toArray, .int .i64 n] w (jA (dF x) n w) := by
 obtain ⟨A6, c6, rfl, hl6, hC6⟩ := nW h
 have HC6 := Sd.mk hC6
 clear hC6
 have b_Message := hb
 unfold mP at b_Message
 have B_Message := Sd.mk b_Message
 clear b_Message
 go_enter Tryz.func126, Tryz.ntmps126
 go_wp2_with fail
 with_reducible refine (sz_Message x.Message _ _ _ (j3 _ _ hl6 ?hc_Message) B_Message.out kO kO).mono ?_
 case hc_Message => exact aM kA HC6.out
 rintro e w_Message ⟨r_Message, rfl, hr_Message, hu⟩
 have HB_Message : Sd (Upd No w w_Message) := Sd.mk (Upd.then kA hu)
 have cc0_Message := fun o => hu.aI (b := w.heap.size) kB (fun q => q) o
 have hz_Message : w.heap.size + 1 ≤ w_Message.heap.size := by have := hu.size; (try simp at this); omega
 clear hu
 rcases hr_Message with ⟨q_Message, rfl⟩ | ⟨q_Message, rfl⟩
 case inr =>
  go_wp2
  go_ret
  exact ⟨_, rfl, .inr ⟨by unfold dF; omega, rfl⟩, (by repeat (with_reducible first | exact HB_Message.out | apply Upd.aT | apply Upd.aS | apply Upd.aP | apply Upd.alloc | apply Upd.drewN | apply Upd.drew))⟩
 go_wp2
 go_ret
 exact ⟨_, rfl, .inl ⟨by unfold dF; omega, by unfold dF; omega⟩, (by repeat (with_reducible first | exact HB_Message.out | apply Upd.aT | apply Upd.aS | apply Upd.aP | apply Upd.alloc | apply Upd.drewN | apply Upd.drew))⟩
theorem szS_Outgoing (l : List GOutgoing) (A : Option Addr) (c : Nat) (n : Int) (w : World) (h : C gL w A l) (hb : ∀ y ∈ l, mP y) (h0 : 0 ≤ n) (h1 : n ≤ 1048576) : Calls Tryz.prog 91 #[.slice A l.length c, .int .i64 n] w (jA (bB dF l) n w) := by
 have hn := h.1
 have H := Sd.mk h
 clear h
 have HBD := Sd.mk hb
 clear hb
 go_enter Tryz.func91, Tryz.ntmps91
 by_cases q0 : (l.length : Int) ≤ n
 case neg =>
  go_wp2
  go_ret
  exact ⟨_, rfl, .inr ⟨by unfold bB; omega, rfl⟩, Upd.refl _ _⟩
 go_wp2
 go_loopg [1, 5] l.length (fun k u v wr => ∃ i : Nat, i + k = l.length ∧ (eZ dF (l.take i) : Int) ≤ n - l.length ∧ u = .int .i64 (n - l.length - eZ dF (l.take i)) ∧ v = .int .i64 i ∧ Sd (Upd No w wr))
 case atStart => exact ⟨0, by omega, by simp [eZ]; omega, by simp [eZ], rfl, ⟨Upd.refl _ _⟩⟩
 case round =>
  obtain ⟨i, hi, hle, rfl, rfl, HU⟩ := hrel
  by_cases hlt : i < l.length
  ·obtain ⟨ad, A6, c6, rfl, a0, a1, a2, a3, a4, a5, a6, a7, a8, a9, a10, a11, a12, hl6, hC6⟩ := kl_Outgoing_at (aM HU.out H.out) i hlt
   have HC6 := Sd.mk hC6
   clear hC6
   have hst := jS dF l i hlt
   have HST := Sd.mk (iD dF l i hlt)
   generalize hs : eZ dF (l.take i) = s at *
   have HS := Sd.mk hs
   clear hs
   go_wp2_with fail
   with_reducible refine (sz_Outgoing l[i] _ _ _ (kl_Outgoing_Kmk _ _ hl6 HC6.out) (HBD.out _ (List.getElem_mem hlt)) kO kO).mono ?_
   rintro e w1 ⟨r, rfl, hr, hu⟩
   have HU1 := Sd.mk (HU.out.then hu)
   clear hu HU
   rcases hr with ⟨q, rfl⟩ | ⟨q, rfl⟩
   ·go_wp2
    go_roundg (gk - 1)
    case measure => omega
    case rel => exact ⟨i + 1, by omega, by rw [HST.out]; omega, by rw [HST.out]; exact congrArg (Value.int .i64) kO, by go_num, HU1⟩
   ·go_wp2
    go_ret
    exact ⟨_, rfl, .inr ⟨by unfold bB; omega, rfl⟩, HU1.out⟩
  ·go_wp2
   go_ret
   have e : l.take i = l := List.take_of_length_le kO
   rw [e] at hle
   exact ⟨_, rfl, .inl ⟨by unfold bB; omega, by rw [e]; unfold bB; omega⟩, HU.out⟩
theorem eq_Outgoing (x : GOutgoing) (cs cs' : List Value) (w : World) (h : bZ.K w x cs) (h' : bZ.K w x cs') : Calls Tryz.prog 138 #[.agg cs.toArray, .agg cs'.toArray] w (bU true w) := by
 obtain ⟨A6, c6, rfl, hl6, hC6⟩ := nX h
 have HC6 := Sd.mk hC6
 clear hC6
 obtain ⟨B6, b6, rfl, hm6, hD6⟩ := nX h'
 have HD6 := Sd.mk hD6
 clear hD6
 go_enter Tryz.func138, Tryz.ntmps138
 go_wp2_with fail
 with_reducible refine (eq_Message x.Message _ _ _ (j4 _ _ hl6 ?hc_Message) (j4 _ _ hm6 ?hd_Message)).mono ?_
 case hc_Message => exact aM kA HC6.out
 case hd_Message => exact aM kA HD6.out
 rintro e w_Message ⟨rfl, hu⟩
 have HB_Message : Sd (Upd No w w_Message) := Sd.mk (Upd.then kA hu)
 have cc0_Message := fun o => hu.aI (b := w.heap.size) kB (fun q => q) o
 have cc1_Message := fun o => hu.aI (b := w.heap.size + 1) kB (fun q => q) o
 have hz_Message : w.heap.size + 1 + 1 ≤ w_Message.heap.size := by have := hu.size; (try simp at this); omega
 clear hu
 go_wp2
 go_ret
 exact ⟨rfl, (by repeat (with_reducible first | exact HB_Message.out | apply Upd.aT | apply Upd.aS | apply Upd.aP | apply Upd.alloc | apply Upd.drewN | apply Upd.drew))⟩
theorem eqS_Outgoing (l : List GOutgoing) (A A' : Option Addr) (c c' : Nat) (w : World) (h : C bZ w A l) (h' : C bZ w A' l) : Calls Tryz.prog 105 #[.slice A l.length c, .slice A' l.length c'] w (bU true w) := by
 have hn := h.1
 have H := Sd.mk h
 have H' := Sd.mk h'
 clear h h'
 go_enter Tryz.func105, Tryz.ntmps105
 go_wp2
 go_loopg [5] l.length (fun k v wr => ∃ i : Nat, i + k = l.length ∧ v = .int .i64 i ∧ Sd (Upd No w wr))
 case atStart => exact ⟨0, by omega, rfl, ⟨Upd.refl _ _⟩⟩
 case round =>
  obtain ⟨i, hi, rfl, HU⟩ := hrel
  by_cases hlt : i < l.length
  ·obtain ⟨ad, A6, c6, rfl, a0, a1, a2, a3, a4, a5, a6, a7, a8, a9, a10, a11, a12, hl6, hC6⟩ := ki_Outgoing_at (aM HU.out H.out) i hlt
   obtain ⟨ad', B6, b6, rfl, z0, z1, z2, z3, z4, z5, z6, z7, z8, z9, z10, z11, z12, hm6, hD6⟩ := ki_Outgoing_at (aM HU.out H'.out) i hlt
   have HC6 := Sd.mk hC6
   have HD6 := Sd.mk hD6
   clear hC6 hD6
   go_wp2_with fail
   go_still_tail 8, kR
   change wpList _ _ _ _ _ wr.drew
   have HW : Sd (Upd No wr wr.drew) := ⟨(Upd.refl _ _).drew⟩
   have HU2 : Sd (Upd No w wr.drew) := ⟨HU.out.drew⟩
   generalize wr.drew = w2 at *
   go_wp2_with (go_at_call 138; (with_reducible refine (eq_Outgoing l[i] _ _ _ (ki_Outgoing_Kmk _ _ hl6 (aM HW.out HC6.out)) (ki_Outgoing_Kmk _ _ hm6 (aM HW.out HD6.out))).mono ?_); rintro e w' ⟨rfl, hu⟩)
   have HU3 := Sd.mk (HU2.out.then hu)
   clear HU2 hu
   go_wp2
   go_roundg (gk - 1)
   case measure => omega
   case rel => exact ⟨i + 1, by omega, by go_num, HU3⟩
  ·go_wp2
   go_ret
   exact ⟨rfl, HU.out⟩
theorem markS_Outgoing (l : List GOutgoing) (k : Int) (F : Nat → Prop) (v : Value) (w : World) (h : R bZ 143 w F v l) (hk : 0 ≤ k) (hb : k + aQ bF l ≤ 4611686018427387904) : Calls Tryz.prog 67 #[v, .int .i64 k] w (Marks bZ 143 F v (k + aQ bF l) (mkS iW bF k l) w) := by
 obtain ⟨A, c, rfl⟩ := aV h
 have hn := R_len h
 have H := Sd.mk h
 clear h
 go_enter Tryz.func67, Tryz.ntmps67
 go_wp2
 go_loopg [1, 5] l.length (fun r u v wr => ∃ i : Nat, i + r = l.length ∧ u = .int .i64 (k + aQ bF (l.take i)) ∧ v = .int .i64 i ∧ Sd (R bZ 143 wr F (.slice A l.length c) (upTo (mkS iW bF k l) l i)) ∧ Sd (Upd F w wr))
 case atStart => exact ⟨0, by omega, by simp [aQ], rfl, ⟨by rw [bX]; exact H.out⟩, ⟨Upd.refl _ _⟩⟩
 case round =>
  obtain ⟨i, hi, rfl, rfl, HR, HU⟩ := hrel
  by_cases hlt : i < l.length
  ·have hle := dJ bF kT l i
   have hst := fQ bF l i hlt
   have hle2 := dJ bF kT l (i + 1)
   rw [hst] at hle2
   have HST := Sd.mk hst
   clear hst
   have HMA := Sd.mk (jI iW bF l k i hlt)
   obtain ⟨g, cap, cur, ce, Fi, hv, hcap, hat, hM, hg, hFi, hFg, close⟩ := fV HR.out 13 l.length rfl (dH (aR _ _ _ _) kO) i l[i] (eP (aR _ _ _ _) hlt)
   cases hv
   obtain ⟨v6, P6, rfl, hR6, i6⟩ := nY hM
   obtain ⟨B6, b6, rfl⟩ := aV hR6
   have HR6 := Sd.mk hR6
   have I6 := Sd.mk i6
   have N6 : ¬ P6 g := fun q => hFg (i6 g q)
   clear hR6 i6
   have nn6 := dB bE kY l[i].Message.bK
   have HCN : Sd (bF l[i] = bF l[i]) := ⟨rfl⟩
   simp only [bF] at hle2
   generalize hq : k + aQ bF (l.take i) = q at *
   have HQ := Sd.mk hq
   have hq0 : 0 ≤ q := by omega
   have hqb : q + (((((((((((((0 + 1) + 1) + 1) + 1) + 1) + 1) + aQ bE l[i].Message.bK) + 1) + 1) + 1) + 1) + 1) + 1) ≤ 4611686018427387904 := by omega
   clear hq hle hle2 hb
   generalize hcn6 : aQ bE l[i].Message.bK = cn6 at *
   have HC6 := Sd.mk hcn6
   clear hcn6
   have HAT := Sd.mk hat
   have x0_s := hat.cell0 _ rfl
   have x1_s := hat.cell 1 _ rfl
   have x2_s := hat.cell 2 _ rfl
   have x3_s := hat.cell 3 _ rfl
   have x4_s := hat.cell 4 _ rfl
   have x5_s := hat.cell 5 _ rfl
   have x6_s := hat.cell 6 _ rfl
   have x7_s := hat.cell 7 _ rfl
   have x8_s := hat.cell 8 _ rfl
   have x9_s := hat.cell 9 _ rfl
   have x10_s := hat.cell 10 _ rfl
   have x11_s := hat.cell 11 _ rfl
   have x12_s := hat.cell 12 _ rfl
   have f0_s := hat.free (i * 13)
   have f1_s := hat.free (i * 13 + 1)
   have f2_s := hat.free (i * 13 + 2)
   have f3_s := hat.free (i * 13 + 3)
   have f4_s := hat.free (i * 13 + 4)
   have f5_s := hat.free (i * 13 + 5)
   have f6_s := hat.free (i * 13 + 6)
   have f7_s := hat.free (i * 13 + 7)
   have f8_s := hat.free (i * 13 + 8)
   have f9_s := hat.free (i * 13 + 9)
   have f10_s := hat.free (i * 13 + 10)
   have f11_s := hat.free (i * 13 + 11)
   have f12_s := hat.free (i * 13 + 12)
   have CL := Sd.mk close
   clear hat close hM HR
   go_wp2_with fail
   with_reducible refine (l9 _ _ kO kO).mono ?_
   rintro e w_Message_Name ⟨rfl, hu⟩
   replace HR6 := Sd.mk (aO hu (fun _ _ q => q) (aO (G := fun b => b = g) kC (fun b hb hg' => N6 (hg' ▸ hb)) HR6.out))
   replace HAT := Sd.mk ((((((HAT.out.set0 kD (.int .i64 (q))).set 1 kD (.int .i64 ((q + 1)))).set 2 kD (.int .i64 (((q + 1) + 1)))).set 3 kD (.int .i64 ((((q + 1) + 1) + 1)))).set 4 kD (.int .i64 (((((q + 1) + 1) + 1) + 1)))).call hu (fun _ q => q.elim) hFg)
   clear hu x0_s f0_s x1_s f1_s x2_s f2_s x3_s f3_s x4_s f4_s x5_s f5_s x6_s f6_s x7_s f7_s x8_s f8_s x9_s f9_s x10_s f10_s x11_s f11_s x12_s f12_s
   have x0_Message_Name := HAT.out.cell0 _ rfl
   have x1_Message_Name := HAT.out.cell 1 _ rfl
   have x2_Message_Name := HAT.out.cell 2 _ rfl
   have x3_Message_Name := HAT.out.cell 3 _ rfl
   have x4_Message_Name := HAT.out.cell 4 _ rfl
   have x5_Message_Name := HAT.out.cell 5 _ rfl
   have x6_Message_Name := HAT.out.cell 6 _ rfl
   have x7_Message_Name := HAT.out.cell 7 _ rfl
   have x8_Message_Name := HAT.out.cell 8 _ rfl
   have x9_Message_Name := HAT.out.cell 9 _ rfl
   have x10_Message_Name := HAT.out.cell 10 _ rfl
   have x11_Message_Name := HAT.out.cell 11 _ rfl
   have x12_Message_Name := HAT.out.cell 12 _ rfl
   have f0_Message_Name := HAT.out.free (i * 13)
   have f1_Message_Name := HAT.out.free (i * 13 + 1)
   have f2_Message_Name := HAT.out.free (i * 13 + 2)
   have f3_Message_Name := HAT.out.free (i * 13 + 3)
   have f4_Message_Name := HAT.out.free (i * 13 + 4)
   have f5_Message_Name := HAT.out.free (i * 13 + 5)
   have f6_Message_Name := HAT.out.free (i * 13 + 6)
   have f7_Message_Name := HAT.out.free (i * 13 + 7)
   have f8_Message_Name := HAT.out.free (i * 13 + 8)
   have f9_Message_Name := HAT.out.free (i * 13 + 9)
   have f10_Message_Name := HAT.out.free (i * 13 + 10)
   have f11_Message_Name := HAT.out.free (i * 13 + 11)
   have f12_Message_Name := HAT.out.free (i * 13 + 12)
   go_wp2_with fail
   with_reducible refine (markS_Wire l[i].Message.bK _ P6 _ _ ?hr_Message_Args kO (by rw [HC6.out]; omega)).mono ?_
   case hr_Message_Args => exact (aO (G := fun b => b = g) kC (fun b hb hg' => N6 (hg' ▸ hb)) HR6.out)
   rintro e w_Message_Args ⟨rfl, hR6, hu⟩
   rw [HC6.out]
   replace HR6 := Sd.mk hR6
   replace HAT := Sd.mk ((HAT.out.set 5 kD (.string (mtx ((((((q + 1) + 1) + 1) + 1) + 1))))).call hu I6.out hFg)
   clear hR6
   clear hu x0_Message_Name f0_Message_Name x1_Message_Name f1_Message_Name x2_Message_Name f2_Message_Name x3_Message_Name f3_Message_Name x4_Message_Name f4_Message_Name x5_Message_Name f5_Message_Name x6_Message_Name f6_Message_Name x7_Message_Name f7_Message_Name x8_Message_Name f8_Message_Name x9_Message_Name f9_Message_Name x10_Message_Name f10_Message_Name x11_Message_Name f11_Message_Name x12_Message_Name f12_Message_Name
   have x0_Message_Args := HAT.out.cell0 _ rfl
   have x1_Message_Args := HAT.out.cell 1 _ rfl
   have x2_Message_Args := HAT.out.cell 2 _ rfl
   have x3_Message_Args := HAT.out.cell 3 _ rfl
   have x4_Message_Args := HAT.out.cell 4 _ rfl
   have x5_Message_Args := HAT.out.cell 5 _ rfl
   have x6_Message_Args := HAT.out.cell 6 _ rfl
   have x7_Message_Args := HAT.out.cell 7 _ rfl
   have x8_Message_Args := HAT.out.cell 8 _ rfl
   have x9_Message_Args := HAT.out.cell 9 _ rfl
   have x10_Message_Args := HAT.out.cell 10 _ rfl
   have x11_Message_Args := HAT.out.cell 11 _ rfl
   have x12_Message_Args := HAT.out.cell 12 _ rfl
   have f0_Message_Args := HAT.out.free (i * 13)
   have f1_Message_Args := HAT.out.free (i * 13 + 1)
   have f2_Message_Args := HAT.out.free (i * 13 + 2)
   have f3_Message_Args := HAT.out.free (i * 13 + 3)
   have f4_Message_Args := HAT.out.free (i * 13 + 4)
   have f5_Message_Args := HAT.out.free (i * 13 + 5)
   have f6_Message_Args := HAT.out.free (i * 13 + 6)
   have f7_Message_Args := HAT.out.free (i * 13 + 7)
   have f8_Message_Args := HAT.out.free (i * 13 + 8)
   have f9_Message_Args := HAT.out.free (i * 13 + 9)
   have f10_Message_Args := HAT.out.free (i * 13 + 10)
   have f11_Message_Args := HAT.out.free (i * 13 + 11)
   have f12_Message_Args := HAT.out.free (i * 13 + 12)
   go_wp2
   have HA := ((((((HAT.out.set 7 kD (.int .i64 ((((((((q + 1) + 1) + 1) + 1) + 1) + 1) + cn6)))).set 8 kD (.int .i64 (((((((((q + 1) + 1) + 1) + 1) + 1) + 1) + cn6) + 1)))).set 9 kD (.int .i64 ((((((((((q + 1) + 1) + 1) + 1) + 1) + 1) + cn6) + 1) + 1)))).set 10 kD (.int .i64 (((((((((((q + 1) + 1) + 1) + 1) + 1) + 1) + cn6) + 1) + 1) + 1)))).set 11 kD (.int .i64 ((((((((((((q + 1) + 1) + 1) + 1) + 1) + 1) + cn6) + 1) + 1) + 1) + 1)))).set 12 kD (.int .i64 (((((((((((((q + 1) + 1) + 1) + 1) + 1) + 1) + cn6) + 1) + 1) + 1) + 1) + 1))))
   have hy : (⟨q, ⟨(q + 1), ((q + 1) + 1), (((q + 1) + 1) + 1), ((((q + 1) + 1) + 1) + 1), mtx ((((((q + 1) + 1) + 1) + 1) + 1)), mkS kJ bE ((((((q + 1) + 1) + 1) + 1) + 1) + 1) l[i].Message.bK, ⟨(((((((q + 1) + 1) + 1) + 1) + 1) + 1) + cn6), ((((((((q + 1) + 1) + 1) + 1) + 1) + 1) + cn6) + 1)⟩, (((((((((q + 1) + 1) + 1) + 1) + 1) + 1) + cn6) + 1) + 1), ⟨((((((((((q + 1) + 1) + 1) + 1) + 1) + 1) + cn6) + 1) + 1) + 1), (((((((((((q + 1) + 1) + 1) + 1) + 1) + 1) + cn6) + 1) + 1) + 1) + 1), ((((((((((((q + 1) + 1) + 1) + 1) + 1) + 1) + cn6) + 1) + 1) + 1) + 1) + 1)⟩⟩⟩ : GOutgoing) = (mkS iW bF k l)[i]'(by rw [aR]; exact hlt) := by rw [HMA.out]; simp only [iW, HC6.out]
   have HRowB := CL.out _ _ (⟨q, ⟨(q + 1), ((q + 1) + 1), (((q + 1) + 1) + 1), ((((q + 1) + 1) + 1) + 1), mtx ((((((q + 1) + 1) + 1) + 1) + 1)), mkS kJ bE ((((((q + 1) + 1) + 1) + 1) + 1) + 1) l[i].Message.bK, ⟨(((((((q + 1) + 1) + 1) + 1) + 1) + 1) + cn6), ((((((((q + 1) + 1) + 1) + 1) + 1) + 1) + cn6) + 1)⟩, (((((((((q + 1) + 1) + 1) + 1) + 1) + 1) + cn6) + 1) + 1), ⟨((((((((((q + 1) + 1) + 1) + 1) + 1) + 1) + cn6) + 1) + 1) + 1), (((((((((((q + 1) + 1) + 1) + 1) + 1) + 1) + cn6) + 1) + 1) + 1) + 1), ((((((((((((q + 1) + 1) + 1) + 1) + 1) + 1) + cn6) + 1) + 1) + 1) + 1) + 1)⟩⟩⟩ : GOutgoing) Fi F HA (lN _ Fi (⟨q, ⟨(q + 1), ((q + 1) + 1), (((q + 1) + 1) + 1), ((((q + 1) + 1) + 1) + 1), mtx ((((((q + 1) + 1) + 1) + 1) + 1)), mkS kJ bE ((((((q + 1) + 1) + 1) + 1) + 1) + 1) l[i].Message.bK, ⟨(((((((q + 1) + 1) + 1) + 1) + 1) + 1) + cn6), ((((((((q + 1) + 1) + 1) + 1) + 1) + 1) + cn6) + 1)⟩, (((((((((q + 1) + 1) + 1) + 1) + 1) + 1) + cn6) + 1) + 1), ⟨((((((((((q + 1) + 1) + 1) + 1) + 1) + 1) + cn6) + 1) + 1) + 1), (((((((((((q + 1) + 1) + 1) + 1) + 1) + 1) + cn6) + 1) + 1) + 1) + 1), ((((((((((((q + 1) + 1) + 1) + 1) + 1) + 1) + cn6) + 1) + 1) + 1) + 1) + 1)⟩⟩⟩ : GOutgoing) (aO (G := fun b => b = g) kC (fun b hb hg' => N6 (hg' ▸ hb)) HR6.out) I6.out) (fun _ hb => .inl hb) (fun _ hb => hb) hFi
   rw [hy, dI (aR _ _ _ _) hlt] at HRowB
   go_roundg (gk - 1)
   case measure => omega
   case rel => exact ⟨i + 1, by omega, by rw [HST.out]; simp only [bF]; have := HQ.out; have := HC6.out; exact congrArg (Value.int .i64) kO, by go_num, ⟨HRowB⟩, ⟨HU.out.trans HA.upd (fun _ _ hb => hb) (fun b _ hb => by rcases hb with rfl | hb; exact hg; exact hFi b hb)⟩⟩
  ·go_wp2
   go_ret
   have HRowB := HR.out
   rw [dG (aR _ _ _ _) kO] at HRowB
   have e : l.take i = l := List.take_of_length_le kO
   exact ⟨gX (by rw [e]), HRowB, HU.out⟩
end Go.Proofs.YtgaoabnnpjngcaaGreatFam
