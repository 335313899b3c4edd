/- Nothing on its way: what the reference and the program compute. No conditions beyond the sizes that the contracts name. -/
import Derived.Test.YteffaeppagoogaaGreatProg
import Derived.Test.YteffaeppagoogaaGreatSep2
import Derived.Test.YteffaeppagoogaaGreatLst
import Derived.WalkKit
import Derived.KernelRfl
import Derived.RowKit3
import Derived.Deep.LoopGhost
import Derived.Deep.QuietTactic
import Derived.BigQuiet
import Derived.StillTailTactics
import Derived.Test.YteffaeppagoogaaGreatK
import Derived.Deep.RegionHeld3
import Derived.Test.YteffaeppagoogaaGreatFamChannel
import Derived.Test.YteffaeppagoogaaGreatFamVat
import Derived.Test.YteffaeppagoogaaGreatFamWorld
import Derived.Test.YteffaeppagoogaaGreatLst2
import Derived.Test.YteffaeppagoogaaGreatSep4
namespace Go.Proofs.YteffaeppagoogaaGreatFam
open Go.RowKit Go.Proofs.YteffaeppagoogaaGreatSep Go.Proofs.YteffaeppagoogaaGreatT Go.Proofs.YteffaeppagoogaaGreatK
set_option linter.unusedVariables false
set_option linter.unusedSimpArgs false
def cfF (n : Int) (c : GChannel) : Int := wrap64 (n + c.List.length)
def cfl (l : List GChannel) : Int := l.foldl cfF 0
def loopP (v : GVat) : Bool := decide (0 < v.Loop.length)
def qtW (x : GWorld) : Bool := cfl x.Channels == 0 && !(x.Vats.any loopP)
set_option maxHeartbeats 1000000 in
set_option maxRecDepth 100000 in
theorem countFlight_s (l : List GChannel) (A : Option Addr) (c : Nat) (w : World) (h : C ki_Channel w A l) (hn : l.length ≤ 1048576) : Calls Tryz.prog 61 #[.slice A l.length c] w (RetInt (l.foldl cfF 0) w) := by
  have H := Sd.mk h
  clear h
  go_enter Tryz.func61, Tryz.ntmps61
  go_wp2
  go_loopg [3, 4] l.length (fun r u v wr => ∃ i : Nat, i + r = l.length ∧ u = .int .i64 ((l.take i).foldl cfF 0) ∧ v = .int .i64 i ∧ Sd (Upd No w wr))
  case atStart => exact ⟨0, by omega, by simp, rfl, ⟨Upd.refl _ _⟩⟩
  case round =>
    obtain ⟨i, hi, rfl, rfl, HU⟩ := hrel
    by_cases hlt : i < l.length
    · obtain ⟨ad, A2, c2, rfl, a0, a1, a2, hl2, hC2⟩ := ki_Channel_at (C_upd HU.out H.out) i hlt
      have hst := Sd.mk (foldl_step cfF 0 l i hlt)
      generalize hq : (l.take i).foldl cfF 0 = q at *
      have HQ := Sd.mk hq
      clear hl2 hC2 hq
      have hv : Sd (cfF q l[i] = wrap64 (q + l[i].List.length)) := ⟨by simp [cfF]⟩
      go_wp2
      repeat (go_quiet (fail); try go_wp2)
      go_roundg (gk - 1)
      case measure => omega
      case rel => exact ⟨i + 1, by omega, by rw [hst.out, hv.out], by go_num, ⟨by repeat (with_reducible first | exact HU.out | apply Upd.alloc | apply Upd.drewN | apply Upd.drew)⟩⟩
    · have e : l.take i = l := List.take_of_length_le (by omega)
      rw [e]
      go_wp2
      go_ret
      exact ⟨rfl, HU.out⟩
set_option maxHeartbeats 1000000 in
set_option maxRecDepth 100000 in
theorem countFlight_i (l : List GChannel) (A : Option Addr) (c : Nat) (w : World) (h : C ki_Channel w A l) (hn : l.length ≤ 1048576) : Calls Tryz.prog 111 #[.slice A l.length c] w (RetInt (l.foldl cfF 0) w) := by
  have H := Sd.mk h
  clear h
  go_enter Tryz.func111, Tryz.ntmps111
  go_wp2
  go_loopg [3, 8] l.length (fun r u v wr => ∃ i : Nat, i + r = l.length ∧ u = .int .i64 ((l.take i).foldl cfF 0) ∧ v = .int .i64 i ∧ Sd (Upd No w wr))
  case atStart => exact ⟨0, by omega, by simp, rfl, ⟨Upd.refl _ _⟩⟩
  case round =>
    obtain ⟨i, hi, rfl, rfl, HU⟩ := hrel
    by_cases hlt : i < l.length
    · obtain ⟨ad, A2, c2, rfl, a0, a1, a2, hl2, hC2⟩ := ki_Channel_at (C_upd HU.out H.out) i hlt
      have hst := Sd.mk (foldl_step cfF 0 l i hlt)
      generalize hq : (l.take i).foldl cfF 0 = q at *
      have HQ := Sd.mk hq
      clear hl2 hC2 hq
      have hv : Sd (cfF q l[i] = wrap64 (q + l[i].List.length)) := ⟨by simp [cfF]⟩
      go_wp2
      repeat (go_quiet (fail); try go_wp2)
      go_roundg (gk - 1)
      case measure => omega
      case rel => exact ⟨i + 1, by omega, by rw [hst.out, hv.out], by go_num, ⟨by repeat (with_reducible first | exact HU.out | apply Upd.alloc | apply Upd.drewN | apply Upd.drew)⟩⟩
    · have e : l.take i = l := List.take_of_length_le (by omega)
      rw [e]
      go_wp2
      go_ret
      exact ⟨rfl, HU.out⟩
set_option maxHeartbeats 1000000 in
set_option maxRecDepth 100000 in
theorem vat0_idx (p : GVat → Bool) (l : List GVat) (A : Option Addr) (c : Nat) (w : World) (h : C ki_Vat w A l) (hf : ∀ (x : GVat) (cs : List Value) (w' : World), Upd No w w' → ki_Vat.K w' x cs → Calls Tryz.prog 113 #[.agg cs.toArray] w' (RetBool (p x) w')) : Calls Tryz.prog 183 #[.slice A l.length c, .func (.func 113) #[] #[]] w (RetInt (fidx p 0 l) w) := by
  have hn := h.1
  have H := Sd.mk h
  have HF := Sd.mk hf
  clear h hf
  go_enter Tryz.func183, Tryz.ntmps183
  go_wp2_with fail
  go_loopg [8] l.length (fun r v wr => ∃ i : Nat, i + r = l.length ∧ v = .int .i64 i ∧ Sd (fidx p 0 l = fidx p i (l.drop i)) ∧ Sd (Upd No w wr))
  case atStart => exact ⟨0, by omega, rfl, ⟨rfl⟩, ⟨Upd.refl _ _⟩⟩
  case round =>
    obtain ⟨i, hi, rfl, HE, HU⟩ := hrel
    by_cases hlt : i < l.length
    · obtain ⟨ad, A1, c1, A2, c2, A3, c3, A4, c4, rfl, a0, a1, a2, a3, a4, hl1, hC1, hl2, hC2, hl3, hC3, hl4, hC4⟩ := ki_Vat_at (C_upd HU.out H.out) i hlt
      have HC1 := Sd.mk hC1
      clear hC1
      have HC2 := Sd.mk hC2
      clear hC2
      have HC3 := Sd.mk hC3
      clear hC3
      have HC4 := Sd.mk hC4
      clear hC4
      go_wp2_with fail
      with_reducible refine (HF.out l[i] _ _ HU.out (ki_Vat_Kmk _ _ hl1 HC1.out hl2 HC2.out hl3 HC3.out hl4 HC4.out)).mono ?_
      rintro e w1 ⟨rfl, hu⟩
      have HU1 := Sd.mk (HU.out.then hu)
      clear hu HU
      have hy := Sd.mk (fidx_yes p l i hlt)
      have hno := Sd.mk (fidx_no p l i hlt)
      cases hb : p l[i]
      · have HBB := Sd.mk hb
        clear hb
        go_wp2_with fail
        go_roundg (gk - 1)
        case measure => omega
        case rel => exact ⟨i + 1, by omega, by go_num, ⟨HE.out.trans (hno.out HBB.out)⟩, HU1⟩
      · have HBB := Sd.mk hb
        clear hb
        go_wp2_with fail
        go_ret
        exact ⟨ret_int (by rw [HE.out, hy.out HBB.out]), HU1.out⟩
    · go_wp2_with fail
      go_ret
      exact ⟨ret_int (by rw [HE.out, fidx_end p l i (by omega)]), HU.out⟩
set_option maxHeartbeats 1000000 in
set_option maxRecDepth 100000 in
theorem vat0_has (p : GVat → Bool) (l : List GVat) (A : Option Addr) (c : Nat) (w : World) (h : C ki_Vat w A l) (hf : ∀ (x : GVat) (cs : List Value) (w' : World), Upd No w w' → ki_Vat.K w' x cs → Calls Tryz.prog 113 #[.agg cs.toArray] w' (RetBool (p x) w')) : Calls Tryz.prog 112 #[.slice A l.length c, .func (.func 113) #[] #[]] w (RetBool (l.any p) w) := by
  have H := Sd.mk h
  have HF := Sd.mk hf
  clear h hf
  go_enter Tryz.func112, Tryz.ntmps112
  go_wp2_with fail
  with_reducible refine (vat0_idx p l _ _ _ ?hc ?hf).mono ?_
  case hc => exact H.out
  case hf => exact HF.out
  rintro e w1 ⟨rfl, hu⟩
  have HX := Sd.mk (fidx_any p l 0 (Int.le_refl 0))
  have HU := Sd.mk hu
  clear hu
  go_wp2_with fail
  go_ret
  exact ⟨ret_bool HX.out, HU.out⟩
set_option maxHeartbeats 1000000 in
set_option maxRecDepth 100000 in
theorem quiet_f (x : GVat) (cs : List Value) (w : World) (h : ki_Vat.K w x cs) : Calls Tryz.prog 113 #[.agg cs.toArray] w (RetBool (loopP x) w) := by
  obtain ⟨A1, c1, A2, c2, A3, c3, A4, c4, rfl, -, hC1, hl2, hC2, -, hC3, -, hC4⟩ := ki_Vat_K h
  clear hC1 hC2 hC3 hC4 hl2 h
  go_enter Tryz.func113, Tryz.ntmps113
  go_wp2
  go_ret
  exact ⟨rfl, (Upd.refl _ _).alloc _⟩
set_option maxHeartbeats 1000000 in
set_option maxRecDepth 100000 in
theorem quiet_p (x : GWorld) (g : Nat) (A1 A2 : Option Addr) (c1 c2 : Nat) (w : World) (h1 : w.cell? ⟨g, 1, none⟩ = some (.slice A1 x.Vats.length c1)) (h2 : w.cell? ⟨g, 2, none⟩ = some (.slice A2 x.Channels.length c2)) (hC1 : C ki_Vat w A1 x.Vats) (hC2 : C ki_Channel w A2 x.Channels) (hn : x.Channels.length ≤ 1048576) :
    Calls Tryz.prog 62 #[.pointer (some ⟨g, 0, none⟩)] w (RetBool (qtW x) w) := by
  have H1 := Sd.mk hC1
  have H2 := Sd.mk hC2
  have P1 := Sd.mk h1
  clear hC1 hC2
  go_enter Tryz.func62, Tryz.ntmps62
  go_wp2_with fail
  with_reducible refine (countFlight_i x.Channels _ _ _ H2.out hn).mono ?_
  rintro e w1 ⟨rfl, hu⟩
  have HU := Sd.mk hu
  have p1 := hu.read P1.out
  clear hu
  by_cases hq : cfl x.Channels = 0
  · have e1 : (cfl x.Channels == 0) = true := beq_iff_eq.2 hq
    have HQ := Sd.mk e1
    change (x.Channels.foldl cfF 0 == 0) = true at e1
    clear hq
    go_wp2_with fail
    with_reducible refine (vat0_has loopP x.Vats _ _ _ (C_upd HU.out H1.out) (fun y cs w' _ hK => quiet_f y cs w' hK)).mono ?_
    rintro e w2 ⟨rfl, hu⟩
    have HU2 := Sd.mk (HU.out.then hu)
    clear hu
    go_wp2
    go_ret
    exact ⟨ret_bool (by simp only [qtW, HQ.out, Bool.true_and]), HU2.out⟩
  · have e1 : (cfl x.Channels == 0) = false := beq_eq_false_iff_ne.2 hq
    have HQ := Sd.mk e1
    change (x.Channels.foldl cfF 0 == 0) = false at e1
    clear hq
    go_wp2
    go_ret
    exact ⟨ret_bool (by simp only [qtW, HQ.out, Bool.false_and]), HU.out⟩
set_option maxHeartbeats 1000000 in
set_option maxRecDepth 100000 in
theorem isQuiet_i (x : GWorld) (cs : List Value) (w : World) (h : ki_World.K w x cs) (hn : x.Channels.length ≤ 1048576) : Calls Tryz.prog 22 #[.agg cs.toArray] w (RetBool (qtW x) w) := by
  obtain ⟨A0, c0, A1, c1, A2, c2, A3, c3, rfl, -, hC0, -, hC1, -, hC2, -, hC3⟩ := ki_World_K h
  have HC1 := Sd.mk hC1
  have HC2 := Sd.mk hC2
  clear h hC0 hC1 hC2 hC3
  go_enter Tryz.func22, Tryz.ntmps22
  go_wp2_with fail
  with_reducible refine (quiet_p x _ A1 A2 c1 c2 _ ?h1 ?h2 ?hc1 ?hc2 hn).mono ?_
  case h1 => simp
  case h2 => simp
  case hc1 => exact C_upd ((Upd.refl _ _).alloc _) HC1.out
  case hc2 => exact C_upd ((Upd.refl _ _).alloc _) HC2.out
  rintro e w1 ⟨rfl, hu⟩
  have HB : Sd (Upd No w w1) := Sd.mk (Upd.then ((Upd.refl _ _).alloc _) hu)
  clear hu
  go_wp2
  go_ret
  exact ⟨rfl, HB.out⟩
set_option maxHeartbeats 1000000 in
set_option maxRecDepth 100000 in
theorem isQuiet_s (x : GWorld) (cs : List Value) (w : World) (h : ki_World.K w x cs) (hn : x.Channels.length ≤ 1048576) (hv : x.Vats.length ≤ 1048576) : Calls Tryz.prog 21 #[.agg cs.toArray] w (RetBool (qtW x) w) := by
  obtain ⟨A0, c0, A1, c1, A2, c2, A3, c3, rfl, -, hC0, -, hC1, -, hC2, -, hC3⟩ := ki_World_K h
  have HC1 := Sd.mk hC1
  have HC2 := Sd.mk hC2
  clear h hC0 hC1 hC2 hC3
  go_enter Tryz.func21, Tryz.ntmps21
  go_wp2
  refine gen_box ?_
  intro wb hB hU0
  have HBX := Sd.mk hB
  have HU0 := Sd.mk hU0
  clear hB hU0
  go_loopg [3] x.Vats.length (fun r v wr => ∃ i : Nat, i + r = x.Vats.length ∧ v = .int .i64 i ∧ Sd (x.Vats.any loopP = (x.Vats.drop i).any loopP) ∧ Sd (Upd No wb wr))
  case atStart => exact ⟨0, by omega, rfl, ⟨rfl⟩, ⟨Upd.refl _ _⟩⟩
  case round =>
    obtain ⟨i, hi, rfl, HE, HU⟩ := hrel
    have t1 := (HBX.out.no HU.out).at 1 (v := .slice A1 x.Vats.length c1) rfl
    have t2 := (HBX.out.no HU.out).at 2 (v := .slice A2 x.Channels.length c2) rfl
    by_cases hlt : i < x.Vats.length
    · obtain ⟨ad, D1, d1, D2, d2, D3, d3, D4, d4, rfl, a0, a1, a2, a3, a4, hm1, hD1, hm2, hD2, hm3, hD3, hm4, hD4⟩ := ki_Vat_at (C_upd (HU0.out.then HU.out) HC1.out) i hlt
      clear hm1 hD1 hm2 hD2 hm3 hD3 hm4 hD4
      have hy := Sd.mk (any_yes loopP x.Vats i hlt)
      have hno := Sd.mk (any_no loopP x.Vats i hlt)
      by_cases hq : 0 < x.Vats[i].Loop.length
      · have hq' : (0 : Int) < (x.Vats[i].Loop.length : Int) := by omega
        have hz : Sd (x.Vats.any loopP = true) := ⟨HE.out.trans (hy.out (decide_eq_true hq))⟩
        clear hq
        go_wp2
        go_ret
        exact ⟨ret_bool (by simp only [qtW, hz.out, Bool.not_true, Bool.and_false]), HU0.out.then HU.out⟩
      · have hq' : (x.Vats[i].Loop.length : Int) ≤ 0 := by omega
        have hz := Sd.mk (hno.out (decide_eq_false hq))
        clear hq
        go_wp2
        go_roundg (gk - 1)
        case measure => omega
        case rel => exact ⟨i + 1, by omega, by go_num, ⟨HE.out.trans hz.out⟩, HU⟩
    · have hz := Sd.mk (HE.out.trans (any_end loopP x.Vats i (by omega)))
      go_wp2_with fail
      with_reducible refine (countFlight_s x.Channels _ _ _ (C_upd (HU0.out.then HU.out) HC2.out) hn).mono ?_
      rintro e w1 ⟨rfl, hu⟩
      have HU1 := Sd.mk ((HU0.out.then HU.out).then hu)
      clear hu
      go_wp2
      go_ret
      exact ⟨ret_bool (by simp only [qtW, hz.out, Bool.not_false, Bool.and_true]; rfl), HU1.out⟩
end Go.Proofs.YteffaeppagoogaaGreatFam
