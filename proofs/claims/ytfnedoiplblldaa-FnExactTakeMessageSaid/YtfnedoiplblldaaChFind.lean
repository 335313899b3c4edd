/- Searches of a row of channels. No conditions beyond the sizes that the contracts name. -/
import Derived.Test.YtfnedoiplblldaaProg
import Derived.Test.YtfnedoiplblldaaSep2
import Derived.Test.YtfnedoiplblldaaLst
import Derived.WalkKit
import Derived.KernelRfl
import Derived.RowKit3
import Derived.Deep.LoopGhost
import Derived.Deep.QuietTactic
import Derived.BigQuiet
import Derived.StillTailTactics
import Derived.Test.YtfnedoiplblldaaK
import Derived.Deep.RegionHeld3
import Derived.Test.YtfnedoiplblldaaFamChannel
import Derived.Test.YtfnedoiplblldaaLst2
import Derived.Test.YtfnedoiplblldaaSep4
namespace Go.Proofs.YtfnedoiplblldaaFam
open Go.RowKit Go.Proofs.YtfnedoiplblldaaSep Go.Proofs.YtfnedoiplblldaaT Go.Proofs.YtfnedoiplblldaaK
set_option linter.unusedVariables false
set_option linter.unusedSimpArgs false
set_option maxHeartbeats 1000000 in
set_option maxRecDepth 100000 in
theorem channel_idx (q0 : Value) (q1 : Value) (p : GChannel → Bool) (l : List GChannel) (A : Option Addr) (c : Nat) (w : World) (h : C ki_Channel w A l) (hf : ∀ (x : GChannel) (cs : List Value) (w' : World), Upd No w w' → ki_Channel.K w' x cs → Calls Try.prog 165 #[.agg cs.toArray, q0, q1] w' (RetBool (p x) w')) : Calls Try.prog 164 #[.slice A l.length c, .func (.func 165) #[] #[q0, q1]] w (RetInt (fidx p 0 l) w) := by
  have hn := h.1
  have H := Sd.mk h
  have HF := Sd.mk hf
  clear h hf
  go_enter Try.func164, Try.ntmps164
  go_wp2_with fail
  go_loopg [8] l.length (fun r v wr => ∃ i : Nat, i + r = l.length ∧ v = .int .i64 i ∧ Sd (fidx p 0 l = fidx p i (l.drop i)) ∧ Sd (Upd No w wr))
  case atStart => exact ⟨0, by omega, rfl, ⟨rfl⟩, ⟨Upd.refl _ _⟩⟩
  case round =>
    obtain ⟨i, hi, rfl, HE, HU⟩ := hrel
    by_cases hlt : i < l.length
    · obtain ⟨ad, A2, c2, rfl, a0, a1, a2, hl2, hC2⟩ := ki_Channel_at (C_upd HU.out H.out) i hlt
      have HC2 := Sd.mk hC2
      clear hC2
      go_wp2_with fail
      with_reducible refine (HF.out l[i] _ _ HU.out (ki_Channel_Kmk _ _ hl2 HC2.out)).mono ?_
      rintro e w1 ⟨rfl, hu⟩
      have HU1 := Sd.mk (HU.out.then hu)
      clear hu HU
      have hy := Sd.mk (fidx_yes p l i hlt)
      have hno := Sd.mk (fidx_no p l i hlt)
      cases hb : p l[i]
      · have HBB := Sd.mk hb
        clear hb
        go_wp2_with fail
        go_roundg (gk - 1)
        case measure => omega
        case rel => exact ⟨i + 1, by omega, by go_num, ⟨HE.out.trans (hno.out HBB.out)⟩, HU1⟩
      · have HBB := Sd.mk hb
        clear hb
        go_wp2_with fail
        go_ret
        exact ⟨ret_int (by rw [HE.out, hy.out HBB.out]), HU1.out⟩
    · go_wp2_with fail
      go_ret
      exact ⟨ret_int (by rw [HE.out, fidx_end p l i (by omega)]), HU.out⟩
def chP (a b : Int) (c : GChannel) : Bool := c.From == a && c.To == b
theorem channel_f (a b : Int) (g0 g1 : Nat) (x : GChannel) (cs : List Value) (w : World) (h : ki_Channel.K w x cs) (h0 : w.cell? ⟨g0, 0, none⟩ = some (.int .i64 a)) (h1 : w.cell? ⟨g1, 0, none⟩ = some (.int .i64 b)) (l0 : g0 < w.heap.size) (l1 : g1 < w.heap.size) :
    Calls Try.prog 165 #[.agg cs.toArray, .pointer (some ⟨g0, 0, none⟩), .pointer (some ⟨g1, 0, none⟩)] w (RetBool (chP a b x) w) := by
  obtain ⟨A5, c5, rfl, hl5, hC5⟩ := ki_Channel_K h
  clear h hC5
  by_cases hk : x.From = a
  · have e1 : (x.From == a) = true := beq_iff_eq.2 hk
    have HK := Sd.mk hk
    clear hk
    go_enter Try.func165, Try.ntmps165
    go_wp2
    repeat (go_quiet (fail); try go_wp2)
    go_ret
    exact ⟨ret_bool (by simp [e1, chP]), by repeat (with_reducible first | exact Upd.refl _ _ | apply Upd.alloc | apply Upd.drewN | apply Upd.drew)⟩
  · have e1 : (x.From == a) = false := beq_eq_false_iff_ne.2 hk
    have HK := Sd.mk hk
    clear hk
    go_enter Try.func165, Try.ntmps165
    go_wp2
    repeat (go_quiet (fail); try go_wp2)
    go_ret
    exact ⟨ret_bool (by simp [e1, chP]), by repeat (with_reducible first | exact Upd.refl _ _ | apply Upd.alloc | apply Upd.drewN | apply Upd.drew)⟩
set_option maxHeartbeats 1000000 in
set_option maxRecDepth 100000 in
theorem channel_i (l : List GChannel) (a b : Int) (A : Option Addr) (c : Nat) (w : World) (h : C ki_Channel w A l) : Calls Try.prog 141 #[.slice A l.length c, .int .i64 a, .int .i64 b] w (RetInt (fidx (chP a b) 0 l) w) := by
  have H := Sd.mk h
  clear h
  go_enter Try.func141, Try.ntmps141
  go_wp2_with fail
  with_reducible refine (channel_idx _ _ (chP a b) l _ _ _ ?hc ?hf).mono ?_
  case hc => exact C_upd (by repeat (with_reducible first | exact Upd.refl _ _ | apply Upd.alloc)) H.out
  case hf =>
    intro x cs w' hu hK
    exact channel_f a b _ _ x cs w' hK (hu.read (by simp)) (hu.read (by simp)) (Nat.lt_of_lt_of_le (by simp; omega) hu.size) (Nat.lt_of_lt_of_le (by simp) hu.size)
  rintro e w1 ⟨rfl, hu⟩
  have HB : Sd (Upd No w w1) := Sd.mk (Upd.then (by repeat (with_reducible first | exact Upd.refl _ _ | apply Upd.alloc)) hu)
  clear hu
  go_wp2
  go_ret
  exact ⟨rfl, HB.out⟩
set_option maxHeartbeats 1000000 in
set_option maxRecDepth 100000 in
theorem l20Find_s (l : List GChannel) (a b : Int) (A : Option Addr) (c : Nat) (w : World) (h : C ki_Channel w A l) (hn : l.length ≤ 1048576) : Calls Try.prog 87 #[.slice A l.length c, .int .i64 a, .int .i64 b] w (RetInt (fidx (chP a b) 0 l) w) := by
  have H := Sd.mk h
  clear h
  go_enter Try.func87, Try.ntmps87
  go_wp2
  go_loopg [7] l.length (fun r v wr => ∃ i : Nat, i + r = l.length ∧ v = .int .i64 i ∧ Sd (fidx (chP a b) 0 l = fidx (chP a b) i (l.drop i)) ∧ Sd (Upd No w wr))
  case atStart => exact ⟨0, by omega, rfl, ⟨rfl⟩, ⟨Upd.refl _ _⟩⟩
  case round =>
    obtain ⟨i, hi, rfl, HE, HU⟩ := hrel
    by_cases hlt : i < l.length
    · obtain ⟨ad, A5, c5, rfl, a0, a1, a2, hl5, hC5⟩ := ki_Channel_at (C_upd HU.out H.out) i hlt
      clear hl5 hC5
      have hy := Sd.mk (fidx_yes (chP a b) l i hlt)
      have hno := Sd.mk (fidx_no (chP a b) l i hlt)
      by_cases hk : l[i].From = a
      · have e1 : (l[i].From == a) = true := beq_iff_eq.2 hk
        have HK := Sd.mk hk
        clear hk
        by_cases hq : l[i].To = b
        · have e2 : (l[i].To == b) = true := beq_iff_eq.2 hq
          have HQ := Sd.mk hq
          clear hq
          have hv : Sd (fidx (chP a b) 0 l = i) := ⟨HE.out.trans (hy.out (by simp [chP, HK.out, HQ.out]))⟩
          go_wp2
          repeat (go_quiet (fail); try go_wp2)
          go_ret
          exact ⟨ret_int hv.out.symm, by repeat (with_reducible first | exact HU.out | apply Upd.alloc | apply Upd.drewN | apply Upd.drew)⟩
        · have e2 : (l[i].To == b) = false := beq_eq_false_iff_ne.2 hq
          have HQ := Sd.mk hq
          clear hq
          go_wp2
          repeat (go_quiet (fail); try go_wp2)
          go_roundg (gk - 1)
          case measure => omega
          case rel => exact ⟨i + 1, by omega, by go_num, ⟨HE.out.trans (hno.out (by simp [chP, HQ.out]))⟩, ⟨by repeat (with_reducible first | exact HU.out | apply Upd.alloc | apply Upd.drewN | apply Upd.drew)⟩⟩
      · have e1 : (l[i].From == a) = false := beq_eq_false_iff_ne.2 hk
        have HK := Sd.mk hk
        clear hk
        go_wp2
        repeat (go_quiet (fail); try go_wp2)
        go_roundg (gk - 1)
        case measure => omega
        case rel => exact ⟨i + 1, by omega, by go_num, ⟨HE.out.trans (hno.out (by simp [chP, HK.out]))⟩, ⟨by repeat (with_reducible first | exact HU.out | apply Upd.alloc | apply Upd.drewN | apply Upd.drew)⟩⟩
    · go_wp2
      go_ret
      exact ⟨ret_int (HE.out.trans (fidx_end _ _ _ (by omega) _)).symm, HU.out⟩
end Go.Proofs.YtfnedoiplblldaaFam
