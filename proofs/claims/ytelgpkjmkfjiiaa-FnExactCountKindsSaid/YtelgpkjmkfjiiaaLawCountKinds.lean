/- CountKinds: what the reference and the program compute, and the law's walk. No conditions beyond the sizes that the contracts name. -/
import Derived.Test.YtelgpkjmkfjiiaaProg
import Derived.Test.YtelgpkjmkfjiiaaSep2
import Derived.Test.YtelgpkjmkfjiiaaLst
import Derived.WalkKit
import Derived.KernelRfl
import Derived.RowKit3
import Derived.Deep.LoopGhost
import Derived.Deep.QuietTactic
import Derived.BigQuiet
import Derived.StillTailTactics
import Derived.Test.YtelgpkjmkfjiiaaK
import Derived.Deep.RegionHeld3
import Derived.Test.YtelgpkjmkfjiiaaFamEvent
import Derived.Test.YtelgpkjmkfjiiaaLst2
namespace Go.Proofs.YtelgpkjmkfjiiaaFam
open Go.RowKit Go.Proofs.YtelgpkjmkfjiiaaSep Go.Proofs.YtelgpkjmkfjiiaaT Go.Proofs.YtelgpkjmkfjiiaaK
set_option linter.unusedVariables false
set_option linter.unusedSimpArgs false
def ckF (k : Int) (n : Int) (x : GEvent) : Int := if x.Kind = k then wrap64 (n + 1) else n
set_option maxHeartbeats 1000000 in
set_option maxRecDepth 100000 in
theorem countKinds_s (l : List GEvent) (k : Int) (A : Option Addr) (c : Nat) (w : World) (h : C ki_Event w A l) (hn : l.length ≤ 1048576) : Calls Try.prog 28 #[.slice A l.length c, .int .i64 k] w (RetInt (l.foldl (ckF k) 0) w) := by
  have H := Sd.mk h
  clear h
  go_enter Try.func28, Try.ntmps28
  go_wp2
  go_loopg [5, 6] l.length (fun r u v wr => ∃ i : Nat, i + r = l.length ∧ u = .int .i64 ((l.take i).foldl (ckF k) 0) ∧ v = .int .i64 i ∧ Sd (Upd No w wr))
  case atStart => exact ⟨0, by omega, by simp, rfl, ⟨Upd.refl _ _⟩⟩
  case round =>
    obtain ⟨i, hi, rfl, rfl, HU⟩ := hrel
    by_cases hlt : i < l.length
    · obtain ⟨ad, A5, c5, rfl, a0, a1, a2, a3, a4, a5, hl5, hC5⟩ := ki_Event_at (C_upd HU.out H.out) i hlt
      have hst := Sd.mk (foldl_step (ckF k) 0 l i hlt)
      generalize hq : (l.take i).foldl (ckF k) 0 = q at *
      have HQ := Sd.mk hq
      clear hl5 hC5 hq
      by_cases h0 : l[i].Kind = k
      · have e0 : (l[i].Kind == k) = true := beq_iff_eq.2 h0
        have n0 : (l[i].Kind != k) = false := by simp [h0]
        have H0 := Sd.mk h0
        clear h0
        have hv : Sd ((ckF k) q l[i] = wrap64 (q + 1)) := ⟨by simp [ckF, H0.out]⟩
        go_wp2
        repeat (go_quiet (fail); try go_wp2)
        go_roundg (gk - 1)
        case measure => omega
        case rel => exact ⟨i + 1, by omega, by rw [hst.out, hv.out], by go_num, ⟨by repeat (with_reducible first | exact HU.out | apply Upd.alloc | apply Upd.drewN | apply Upd.drew)⟩⟩
      · have e0 : (l[i].Kind == k) = false := beq_eq_false_iff_ne.2 h0
        have n0 : (l[i].Kind != k) = true := by simp [h0]
        have H0 := Sd.mk h0
        clear h0
        have hv : Sd ((ckF k) q l[i] = q) := ⟨by simp [ckF, H0.out]⟩
        go_wp2
        repeat (go_quiet (fail); try go_wp2)
        go_roundg (gk - 1)
        case measure => omega
        case rel => exact ⟨i + 1, by omega, by rw [hst.out, hv.out], by go_num, ⟨by repeat (with_reducible first | exact HU.out | apply Upd.alloc | apply Upd.drewN | apply Upd.drew)⟩⟩
    · have e : l.take i = l := List.take_of_length_le (by omega)
      rw [e]
      go_wp2
      go_ret
      exact ⟨rfl, HU.out⟩
set_option maxHeartbeats 1000000 in
set_option maxRecDepth 100000 in
theorem countKinds_i (l : List GEvent) (k : Int) (A : Option Addr) (c : Nat) (w : World) (h : C ki_Event w A l) (hn : l.length ≤ 1048576) : Calls Try.prog 30 #[.slice A l.length c, .int .i64 k] w (RetInt (l.foldl (ckF k) 0) w) := by
  have H := Sd.mk h
  clear h
  go_enter Try.func30, Try.ntmps30
  go_wp2
  go_loopg [5, 10] l.length (fun r u v wr => ∃ i : Nat, i + r = l.length ∧ u = .int .i64 ((l.take i).foldl (ckF k) 0) ∧ v = .int .i64 i ∧ Sd (Upd No w wr))
  case atStart => exact ⟨0, by omega, by simp, rfl, ⟨Upd.refl _ _⟩⟩
  case round =>
    obtain ⟨i, hi, rfl, rfl, HU⟩ := hrel
    by_cases hlt : i < l.length
    · obtain ⟨ad, A5, c5, rfl, a0, a1, a2, a3, a4, a5, hl5, hC5⟩ := ki_Event_at (C_upd HU.out H.out) i hlt
      have hst := Sd.mk (foldl_step (ckF k) 0 l i hlt)
      generalize hq : (l.take i).foldl (ckF k) 0 = q at *
      have HQ := Sd.mk hq
      clear hl5 hC5 hq
      by_cases h0 : l[i].Kind = k
      · have e0 : (l[i].Kind == k) = true := beq_iff_eq.2 h0
        have n0 : (l[i].Kind != k) = false := by simp [h0]
        have H0 := Sd.mk h0
        clear h0
        have hv : Sd ((ckF k) q l[i] = wrap64 (q + 1)) := ⟨by simp [ckF, H0.out]⟩
        go_wp2
        repeat (go_quiet (fail); try go_wp2)
        go_roundg (gk - 1)
        case measure => omega
        case rel => exact ⟨i + 1, by omega, by rw [hst.out, hv.out], by go_num, ⟨by repeat (with_reducible first | exact HU.out | apply Upd.alloc | apply Upd.drewN | apply Upd.drew)⟩⟩
      · have e0 : (l[i].Kind == k) = false := beq_eq_false_iff_ne.2 h0
        have n0 : (l[i].Kind != k) = true := by simp [h0]
        have H0 := Sd.mk h0
        clear h0
        have hv : Sd ((ckF k) q l[i] = q) := ⟨by simp [ckF, H0.out]⟩
        go_wp2
        repeat (go_quiet (fail); try go_wp2)
        go_roundg (gk - 1)
        case measure => omega
        case rel => exact ⟨i + 1, by omega, by rw [hst.out, hv.out], by go_num, ⟨by repeat (with_reducible first | exact HU.out | apply Upd.alloc | apply Upd.drewN | apply Upd.drew)⟩⟩
    · have e : l.take i = l := List.take_of_length_le (by omega)
      rw [e]
      go_wp2
      go_ret
      exact ⟨rfl, HU.out⟩
set_option maxHeartbeats 1000000 in
set_option maxRecDepth 100000 in
theorem law_FnExactCountKinds (w : World) (l0 : List GEvent) (A0 : Option Addr) (c0 : Nat) (hC0 : C kl_Event w A0 l0) (hl0 : l0.length ≤ c0) (hG0 : l0.length ≤ 9223372036854775807 ∧ ∀ y ∈ l0, Gd_Event y) (a1 : Int) (w1 : (Lit.int .i64 a1).wf = true) : Calls Try.prog 7 #[.slice A0 l0.length c0, .int .i64 a1] w (RetBool true w) := by
  have HC0 := Sd.mk hC0
  clear hC0
  go_enter Try.func7, Try.ntmps7
  go_wp2_with fail
  with_reducible refine (szS_Event l0 _ _ _ _ ?hsz (fun y hy => Bd_of_Event (hG0.2 y hy)) (by omega) (by omega)).mono ?_
  case hsz => exact HC0.out
  rintro e w_0 ⟨r, rfl, hr, hu⟩
  have HB_0 : Sd (Upd No w w_0) := Sd.mk (Upd.then (by repeat (with_reducible first | exact Upd.refl _ _ | apply Upd.put2 | apply Upd.put1 | apply Upd.put0 | apply Upd.alloc | apply Upd.drewN | apply Upd.drew)) hu)
  replace HC0 := Sd.mk (C_upd hu HC0.out)
  clear hu
  rcases hr with ⟨hs, rfl⟩ | ⟨hs, rfl⟩
  case inr =>
    go_wp2
    go_ret
    exact ⟨rfl, HB_0.out⟩
  have hs' : sznS szn_Event l0 ≤ 1048576 := by omega
  have hn : l0.length ≤ 1048576 := by unfold sznS at hs'; omega
  go_wp2_with fail
  with_reducible refine (toS_Event l0 _ _ _ ?hs hs').mono ?_
  case hs => exact HC0.out
  rintro e w_1 ⟨v, rfl, hR, hu⟩
  have HB_1 : Sd (Upd No w w_1) := Sd.mk (Upd.then (by repeat (with_reducible first | exact HB_0.out | apply Upd.put2 | apply Upd.put1 | apply Upd.put0 | apply Upd.alloc | apply Upd.drewN | apply Upd.drew)) hu)
  replace HC0 := Sd.mk (C_upd hu HC0.out)
  obtain ⟨Bs, zzs, rfl⟩ := R_slice hR
  have Qs := Sd.mk (R_C hR)
  clear hR
  clear hu
  go_wp2_with fail
  with_reducible refine (countKinds_s l0 a1 _ _ _ ?hfs hn).mono ?_
  case hfs => exact Qs.out
  rintro e w_2 ⟨rfl, hu⟩
  have HB_2 : Sd (Upd No w w_2) := Sd.mk (Upd.then (by repeat (with_reducible first | exact HB_1.out | apply Upd.put2 | apply Upd.put1 | apply Upd.put0 | apply Upd.alloc | apply Upd.drewN | apply Upd.drew)) hu)
  replace HC0 := Sd.mk (C_upd hu HC0.out)
  replace Qs := Sd.mk (C_upd hu Qs.out)
  clear hu
  go_wp2_with fail
  with_reducible refine (toS_Event l0 _ _ _ ?hx hs').mono ?_
  case hx => exact HC0.out
  rintro e w_3 ⟨v, rfl, hR, hu⟩
  have HB_3 : Sd (Upd No w w_3) := Sd.mk (Upd.then (by repeat (with_reducible first | exact HB_2.out | apply Upd.put2 | apply Upd.put1 | apply Upd.put0 | apply Upd.alloc | apply Upd.drewN | apply Upd.drew)) hu)
  replace HC0 := Sd.mk (C_upd hu HC0.out)
  obtain ⟨Bx, zzx, rfl⟩ := R_slice hR
  have Qx := Sd.mk (R_C hR)
  clear hR
  clear hu
  go_wp2_with fail
  with_reducible refine (countKinds_i l0 a1 _ _ _ ?hfi hn).mono ?_
  case hfi => exact Qx.out
  rintro e w_4 ⟨rfl, hu⟩
  have HB_4 : Sd (Upd No w w_4) := Sd.mk (Upd.then (by repeat (with_reducible first | exact HB_3.out | apply Upd.put2 | apply Upd.put1 | apply Upd.put0 | apply Upd.alloc | apply Upd.drewN | apply Upd.drew)) hu)
  replace HC0 := Sd.mk (C_upd hu HC0.out)
  replace Qx := Sd.mk (C_upd hu Qx.out)
  clear hu
  go_wp2_with fail
  with_reducible refine (toS_Event l0 _ _ _ ?hy hs').mono ?_
  case hy => exact HC0.out
  rintro e w_5 ⟨v, rfl, hR, hu⟩
  have HB_5 : Sd (Upd No w w_5) := Sd.mk (Upd.then (by repeat (with_reducible first | exact HB_4.out | apply Upd.put2 | apply Upd.put1 | apply Upd.put0 | apply Upd.alloc | apply Upd.drewN | apply Upd.drew)) hu)
  replace HC0 := Sd.mk (C_upd hu HC0.out)
  replace Qx := Sd.mk (C_upd hu Qx.out)
  obtain ⟨By, zzy, rfl⟩ := R_slice hR
  have Qy := Sd.mk (R_C hR)
  clear hR
  clear hu
  go_wp2_with fail
  with_reducible refine (eqS_Event l0 _ _ _ _ _ ?he1 ?he2).mono ?_
  case he1 => exact Qx.out
  case he2 => exact Qy.out
  rintro e w_6 ⟨rfl, hu⟩
  have HB_6 : Sd (Upd No w w_6) := Sd.mk (Upd.then (by repeat (with_reducible first | exact HB_5.out | apply Upd.put2 | apply Upd.put1 | apply Upd.put0 | apply Upd.alloc | apply Upd.drewN | apply Upd.drew)) hu)
  replace HC0 := Sd.mk (C_upd hu HC0.out)
  replace Qx := Sd.mk (C_upd hu Qx.out)
  replace Qy := Sd.mk (C_upd hu Qy.out)
  clear hu
  go_wp2
  go_ret
  exact ⟨rfl, HB_6.out⟩
end Go.Proofs.YtelgpkjmkfjiiaaFam
