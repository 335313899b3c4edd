/- Functions over messages: what the reference and the program compute. No conditions beyond the sizes that the contracts name. -/
import Derived.Test.YtliejlcoeoiajaaProg
import Derived.Test.YtliejlcoeoiajaaSep2
import Derived.Test.YtliejlcoeoiajaaLst
import Derived.WalkKit
import Derived.KernelRfl
import Derived.RowKit3
import Derived.Deep.LoopGhost
import Derived.Deep.QuietTactic
import Derived.BigQuiet
import Derived.StillTailTactics
import Derived.Test.YtliejlcoeoiajaaK
import Derived.Deep.RegionHeld3
import Derived.Test.YtliejlcoeoiajaaFamMessage
import Derived.Test.YtliejlcoeoiajaaLst2
namespace Go.Proofs.YtliejlcoeoiajaaFam
open Go.RowKit Go.Proofs.YtliejlcoeoiajaaSep Go.Proofs.YtliejlcoeoiajaaT Go.Proofs.YtliejlcoeoiajaaK
set_option linter.unusedVariables false
set_option linter.unusedSimpArgs false
def relF (pos : Int) (n : Int) (m : GMessage) : Int := if m.Kind = 6 ∧ m.Pos = pos then wrap64 (n + m.Count) else n
set_option maxHeartbeats 1000000 in
set_option maxRecDepth 100000 in
theorem releasesOf_s (l : List GMessage) (pos : Int) (A : Option Addr) (c : Nat) (w : World) (h : C ki_Message w A l) (hn : l.length ≤ 1048576) : Calls Try.prog 20 #[.slice A l.length c, .int .i64 pos] w (RetInt (l.foldl (relF pos) 0) w) := by
  have H := Sd.mk h
  clear h
  go_enter Try.func20, Try.ntmps20
  go_wp2
  go_loopg [5, 6] l.length (fun r u v wr => ∃ i : Nat, i + r = l.length ∧ u = .int .i64 ((l.take i).foldl (relF pos) 0) ∧ v = .int .i64 i ∧ Sd (Upd No w wr))
  case atStart => exact ⟨0, by omega, by simp, rfl, ⟨Upd.refl _ _⟩⟩
  case round =>
    obtain ⟨i, hi, rfl, rfl, HU⟩ := hrel
    by_cases hlt : i < l.length
    · obtain ⟨ad, A5, c5, rfl, a0, a1, a2, a3, a4, a5, a6, a7, a8, a9, a10, a11, hl5, hC5⟩ := ki_Message_at (C_upd HU.out H.out) i hlt
      have hst := Sd.mk (foldl_step (relF pos) 0 l i hlt)
      generalize hq : (l.take i).foldl (relF pos) 0 = q at *
      have HQ := Sd.mk hq
      clear hl5 hC5 hq
      by_cases h0 : l[i].Kind = 6
      · have e0 : (l[i].Kind == 6) = true := beq_iff_eq.2 h0
        have n0 : (l[i].Kind != 6) = false := by simp [h0]
        have H0 := Sd.mk h0
        clear h0
        by_cases h1 : l[i].Pos = pos
        · have e1 : (l[i].Pos == pos) = true := beq_iff_eq.2 h1
          have n1 : (l[i].Pos != pos) = false := by simp [h1]
          have H1 := Sd.mk h1
          clear h1
          have hv : Sd ((relF pos) q l[i] = wrap64 (q + l[i].Count)) := ⟨by simp [relF, H0.out, H1.out]⟩
          go_wp2
          repeat (go_quiet (fail); try go_wp2)
          go_roundg (gk - 1)
          case measure => omega
          case rel => exact ⟨i + 1, by omega, by rw [hst.out, hv.out], by go_num, ⟨by repeat (with_reducible first | exact HU.out | apply Upd.alloc | apply Upd.drewN | apply Upd.drew)⟩⟩
        · have e1 : (l[i].Pos == pos) = false := beq_eq_false_iff_ne.2 h1
          have n1 : (l[i].Pos != pos) = true := by simp [h1]
          have H1 := Sd.mk h1
          clear h1
          have hv : Sd ((relF pos) q l[i] = q) := ⟨by simp [relF, H0.out, H1.out]⟩
          go_wp2
          repeat (go_quiet (fail); try go_wp2)
          go_roundg (gk - 1)
          case measure => omega
          case rel => exact ⟨i + 1, by omega, by rw [hst.out, hv.out], by go_num, ⟨by repeat (with_reducible first | exact HU.out | apply Upd.alloc | apply Upd.drewN | apply Upd.drew)⟩⟩
      · have e0 : (l[i].Kind == 6) = false := beq_eq_false_iff_ne.2 h0
        have n0 : (l[i].Kind != 6) = true := by simp [h0]
        have H0 := Sd.mk h0
        clear h0
        have hv : Sd ((relF pos) q l[i] = q) := ⟨by simp [relF, H0.out]⟩
        go_wp2
        repeat (go_quiet (fail); try go_wp2)
        go_roundg (gk - 1)
        case measure => omega
        case rel => exact ⟨i + 1, by omega, by rw [hst.out, hv.out], by go_num, ⟨by repeat (with_reducible first | exact HU.out | apply Upd.alloc | apply Upd.drewN | apply Upd.drew)⟩⟩
    · have e : l.take i = l := List.take_of_length_le (by omega)
      rw [e]
      go_wp2
      go_ret
      exact ⟨rfl, HU.out⟩
set_option maxHeartbeats 1000000 in
set_option maxRecDepth 100000 in
theorem releasesOf_i (l : List GMessage) (pos : Int) (A : Option Addr) (c : Nat) (w : World) (h : C ki_Message w A l) (hn : l.length ≤ 1048576) : Calls Try.prog 22 #[.slice A l.length c, .int .i64 pos] w (RetInt (l.foldl (relF pos) 0) w) := by
  have H := Sd.mk h
  clear h
  go_enter Try.func22, Try.ntmps22
  go_wp2
  go_loopg [5, 10] l.length (fun r u v wr => ∃ i : Nat, i + r = l.length ∧ u = .int .i64 ((l.take i).foldl (relF pos) 0) ∧ v = .int .i64 i ∧ Sd (Upd No w wr))
  case atStart => exact ⟨0, by omega, by simp, rfl, ⟨Upd.refl _ _⟩⟩
  case round =>
    obtain ⟨i, hi, rfl, rfl, HU⟩ := hrel
    by_cases hlt : i < l.length
    · obtain ⟨ad, A5, c5, rfl, a0, a1, a2, a3, a4, a5, a6, a7, a8, a9, a10, a11, hl5, hC5⟩ := ki_Message_at (C_upd HU.out H.out) i hlt
      have hst := Sd.mk (foldl_step (relF pos) 0 l i hlt)
      generalize hq : (l.take i).foldl (relF pos) 0 = q at *
      have HQ := Sd.mk hq
      clear hl5 hC5 hq
      by_cases h0 : l[i].Kind = 6
      · have e0 : (l[i].Kind == 6) = true := beq_iff_eq.2 h0
        have n0 : (l[i].Kind != 6) = false := by simp [h0]
        have H0 := Sd.mk h0
        clear h0
        by_cases h1 : l[i].Pos = pos
        · have e1 : (l[i].Pos == pos) = true := beq_iff_eq.2 h1
          have n1 : (l[i].Pos != pos) = false := by simp [h1]
          have H1 := Sd.mk h1
          clear h1
          have hv : Sd ((relF pos) q l[i] = wrap64 (q + l[i].Count)) := ⟨by simp [relF, H0.out, H1.out]⟩
          go_wp2
          repeat (go_quiet (fail); try go_wp2)
          go_roundg (gk - 1)
          case measure => omega
          case rel => exact ⟨i + 1, by omega, by rw [hst.out, hv.out], by go_num, ⟨by repeat (with_reducible first | exact HU.out | apply Upd.alloc | apply Upd.drewN | apply Upd.drew)⟩⟩
        · have e1 : (l[i].Pos == pos) = false := beq_eq_false_iff_ne.2 h1
          have n1 : (l[i].Pos != pos) = true := by simp [h1]
          have H1 := Sd.mk h1
          clear h1
          have hv : Sd ((relF pos) q l[i] = q) := ⟨by simp [relF, H0.out, H1.out]⟩
          go_wp2
          repeat (go_quiet (fail); try go_wp2)
          go_roundg (gk - 1)
          case measure => omega
          case rel => exact ⟨i + 1, by omega, by rw [hst.out, hv.out], by go_num, ⟨by repeat (with_reducible first | exact HU.out | apply Upd.alloc | apply Upd.drewN | apply Upd.drew)⟩⟩
      · have e0 : (l[i].Kind == 6) = false := beq_eq_false_iff_ne.2 h0
        have n0 : (l[i].Kind != 6) = true := by simp [h0]
        have H0 := Sd.mk h0
        clear h0
        have hv : Sd ((relF pos) q l[i] = q) := ⟨by simp [relF, H0.out]⟩
        go_wp2
        repeat (go_quiet (fail); try go_wp2)
        go_roundg (gk - 1)
        case measure => omega
        case rel => exact ⟨i + 1, by omega, by rw [hst.out, hv.out], by go_num, ⟨by repeat (with_reducible first | exact HU.out | apply Upd.alloc | apply Upd.drewN | apply Upd.drew)⟩⟩
    · have e : l.take i = l := List.take_of_length_le (by omega)
      rw [e]
      go_wp2
      go_ret
      exact ⟨rfl, HU.out⟩
set_option maxHeartbeats 1000000 in
set_option maxRecDepth 100000 in
theorem has_idx (q0 : Value) (q1 : Value) (p : GMessage → Bool) (l : List GMessage) (A : Option Addr) (c : Nat) (w : World) (h : C ki_Message w A l) (hf : ∀ (x : GMessage) (cs : List Value) (w' : World), Upd No w w' → ki_Message.K w' x cs → Calls Try.prog 147 #[.agg cs.toArray, q0, q1] w' (RetBool (p x) w')) : Calls Try.prog 170 #[.slice A l.length c, .func (.func 147) #[] #[q0, q1]] w (RetInt (fidx p 0 l) w) := by
  have hn := h.1
  have H := Sd.mk h
  have HF := Sd.mk hf
  clear h hf
  go_enter Try.func170, Try.ntmps170
  go_wp2_with fail
  go_loopg [8] l.length (fun r v wr => ∃ i : Nat, i + r = l.length ∧ v = .int .i64 i ∧ Sd (fidx p 0 l = fidx p i (l.drop i)) ∧ Sd (Upd No w wr))
  case atStart => exact ⟨0, by omega, rfl, ⟨rfl⟩, ⟨Upd.refl _ _⟩⟩
  case round =>
    obtain ⟨i, hi, rfl, HE, HU⟩ := hrel
    by_cases hlt : i < l.length
    · obtain ⟨ad, A5, c5, rfl, a0, a1, a2, a3, a4, a5, a6, a7, a8, a9, a10, a11, hl5, hC5⟩ := ki_Message_at (C_upd HU.out H.out) i hlt
      have HC5 := Sd.mk hC5
      clear hC5
      go_wp2_with fail
      with_reducible refine (HF.out l[i] _ _ HU.out (ki_Message_Kmk _ _ hl5 HC5.out)).mono ?_
      rintro e w1 ⟨rfl, hu⟩
      have HU1 := Sd.mk (HU.out.then hu)
      clear hu HU
      have hy := Sd.mk (fidx_yes p l i hlt)
      have hno := Sd.mk (fidx_no p l i hlt)
      cases hb : p l[i]
      · have HBB := Sd.mk hb
        clear hb
        go_wp2_with fail
        go_roundg (gk - 1)
        case measure => omega
        case rel => exact ⟨i + 1, by omega, by go_num, ⟨HE.out.trans (hno.out HBB.out)⟩, HU1⟩
      · have HBB := Sd.mk hb
        clear hb
        go_wp2_with fail
        go_ret
        exact ⟨ret_int (by rw [HE.out, hy.out HBB.out]), HU1.out⟩
    · go_wp2_with fail
      go_ret
      exact ⟨ret_int (by rw [HE.out, fidx_end p l i (by omega)]), HU.out⟩
set_option maxHeartbeats 1000000 in
set_option maxRecDepth 100000 in
theorem has_has (q0 : Value) (q1 : Value) (p : GMessage → Bool) (l : List GMessage) (A : Option Addr) (c : Nat) (w : World) (h : C ki_Message w A l) (hf : ∀ (x : GMessage) (cs : List Value) (w' : World), Upd No w w' → ki_Message.K w' x cs → Calls Try.prog 147 #[.agg cs.toArray, q0, q1] w' (RetBool (p x) w')) : Calls Try.prog 146 #[.slice A l.length c, .func (.func 147) #[] #[q0, q1]] w (RetBool (l.any p) w) := by
  have H := Sd.mk h
  have HF := Sd.mk hf
  clear h hf
  go_enter Try.func146, Try.ntmps146
  go_wp2_with fail
  with_reducible refine (has_idx q0 q1 p l _ _ _ ?hc ?hf).mono ?_
  case hc => exact H.out
  case hf => exact HF.out
  rintro e w1 ⟨rfl, hu⟩
  have HX := Sd.mk (fidx_any p l 0 (Int.le_refl 0))
  have HU := Sd.mk hu
  clear hu
  go_wp2_with fail
  go_ret
  exact ⟨ret_bool HX.out, HU.out⟩
set_option maxHeartbeats 1000000 in
set_option maxRecDepth 100000 in
theorem hasf (kind q : Int) (g0 g1 : Nat) (x : GMessage) (cs : List Value) (w : World) (h : ki_Message.K w x cs) (h0 : w.cell? ⟨g0, 0, none⟩ = some (.int .i64 kind)) (h1 : w.cell? ⟨g1, 0, none⟩ = some (.int .i64 q)) (l0 : g0 < w.heap.size) (l1 : g1 < w.heap.size) :
    Calls Try.prog 147 #[.agg cs.toArray, .pointer (some ⟨g0, 0, none⟩), .pointer (some ⟨g1, 0, none⟩)] w (RetBool (x.Kind == kind && x.Question == q) w) := by
  obtain ⟨A5, c5, rfl, hl5, hC5⟩ := ki_Message_K h
  clear h hC5
  by_cases hk : x.Kind = kind
  · have e1 : (x.Kind == kind) = true := beq_iff_eq.2 hk
    have HK := Sd.mk hk
    clear hk
    go_enter Try.func147, Try.ntmps147
    go_wp2
    repeat (go_quiet (fail); try go_wp2)
    go_ret
    exact ⟨ret_bool (by simp [e1]), by repeat (with_reducible first | exact Upd.refl _ _ | apply Upd.alloc | apply Upd.drewN | apply Upd.drew)⟩
  · have e1 : (x.Kind == kind) = false := beq_eq_false_iff_ne.2 hk
    have HK := Sd.mk hk
    clear hk
    go_enter Try.func147, Try.ntmps147
    go_wp2
    repeat (go_quiet (fail); try go_wp2)
    go_ret
    exact ⟨ret_bool (by simp [e1]), by repeat (with_reducible first | exact Upd.refl _ _ | apply Upd.alloc | apply Upd.drewN | apply Upd.drew)⟩
set_option maxHeartbeats 1000000 in
set_option maxRecDepth 100000 in
theorem has_i (l : List GMessage) (kind q : Int) (A : Option Addr) (c : Nat) (w : World) (h : C ki_Message w A l) : Calls Try.prog 82 #[.slice A l.length c, .int .i64 kind, .int .i64 q] w (RetBool (l.any fun m => m.Kind == kind && m.Question == q) w) := by
  have H := Sd.mk h
  clear h
  go_enter Try.func82, Try.ntmps82
  go_wp2_with fail
  with_reducible refine (has_has _ _ (fun m => m.Kind == kind && m.Question == q) l _ _ _ ?hc ?hf).mono ?_
  case hc => exact C_upd (by repeat (with_reducible first | exact Upd.refl _ _ | apply Upd.alloc)) H.out
  case hf =>
    intro x cs w' hu hK
    exact hasf kind q _ _ x cs w' hK (hu.read (by simp)) (hu.read (by simp)) (Nat.lt_of_lt_of_le (by simp; omega) hu.size) (Nat.lt_of_lt_of_le (by simp) hu.size)
  rintro e w1 ⟨rfl, hu⟩
  have HB : Sd (Upd No w w1) := Sd.mk (Upd.then (by repeat (with_reducible first | exact Upd.refl _ _ | apply Upd.alloc)) hu)
  clear hu
  go_wp2
  go_ret
  exact ⟨rfl, HB.out⟩
set_option maxHeartbeats 1000000 in
set_option maxRecDepth 100000 in
theorem isAsked_i (l : List GMessage) (q : Int) (A : Option Addr) (c : Nat) (w : World) (h : C ki_Message w A l) (hn : l.length ≤ 1048576) : Calls Try.prog 25 #[.slice A l.length c, .int .i64 q] w (RetBool (l.any fun m => m.Kind == 1 && m.Question == q) w) := by
  have H := Sd.mk h
  clear h
  go_enter Try.func25, Try.ntmps25
  go_wp2_with fail
  with_reducible refine (has_i l _ _ _ _ _ H.out).mono ?_
  rintro e w1 ⟨rfl, hu⟩
  have HB := Sd.mk hu
  clear hu
  go_wp2
  go_ret
  exact ⟨rfl, HB.out⟩
set_option maxHeartbeats 1000000 in
set_option maxRecDepth 100000 in
theorem l28Has_s (l : List GMessage) (kind q : Int) (A : Option Addr) (c : Nat) (w : World) (h : C ki_Message w A l) (hn : l.length ≤ 1048576) : Calls Try.prog 81 #[.slice A l.length c, .int .i64 kind, .int .i64 q] w (RetBool (l.any fun m => m.Kind == kind && m.Question == q) w) := by
  have H := Sd.mk h
  clear h
  go_enter Try.func81, Try.ntmps81
  go_wp2
  go_loopg [7] l.length (fun r v wr => ∃ i : Nat, i + r = l.length ∧ v = .int .i64 i ∧ Sd ((l.any fun m => m.Kind == kind && m.Question == q) = ((l.drop i).any fun m => m.Kind == kind && m.Question == q)) ∧ Sd (Upd No w wr))
  case atStart => exact ⟨0, by omega, rfl, ⟨rfl⟩, ⟨Upd.refl _ _⟩⟩
  case round =>
    obtain ⟨i, hi, rfl, HE, HU⟩ := hrel
    by_cases hlt : i < l.length
    · obtain ⟨ad, A5, c5, rfl, a0, a1, a2, a3, a4, a5, a6, a7, a8, a9, a10, a11, hl5, hC5⟩ := ki_Message_at (C_upd HU.out H.out) i hlt
      clear hl5 hC5
      by_cases hk : l[i].Kind = kind
      · have e1 : (l[i].Kind == kind) = true := beq_iff_eq.2 hk
        have HK := Sd.mk hk
        clear hk
        by_cases hq : l[i].Question = q
        · have e2 : (l[i].Question == q) = true := beq_iff_eq.2 hq
          have HQ := Sd.mk hq
          clear hq
          have hv : Sd ((l.any fun m => m.Kind == kind && m.Question == q) = true) := ⟨HE.out.trans (any_yes _ _ _ hlt (by simp [HK.out, HQ.out]))⟩
          go_wp2
          repeat (go_quiet (fail); try go_wp2)
          go_ret
          exact ⟨ret_bool hv.out.symm, by repeat (with_reducible first | exact HU.out | apply Upd.alloc | apply Upd.drewN | apply Upd.drew)⟩
        · have e2 : (l[i].Question == q) = false := beq_eq_false_iff_ne.2 hq
          have HQ := Sd.mk hq
          clear hq
          go_wp2
          repeat (go_quiet (fail); try go_wp2)
          go_roundg (gk - 1)
          case measure => omega
          case rel => exact ⟨i + 1, by omega, by go_num, ⟨HE.out.trans (any_no _ _ _ hlt (by simp [HQ.out]))⟩, ⟨by repeat (with_reducible first | exact HU.out | apply Upd.alloc | apply Upd.drewN | apply Upd.drew)⟩⟩
      · have e1 : (l[i].Kind == kind) = false := beq_eq_false_iff_ne.2 hk
        have HK := Sd.mk hk
        clear hk
        go_wp2
        repeat (go_quiet (fail); try go_wp2)
        go_roundg (gk - 1)
        case measure => omega
        case rel => exact ⟨i + 1, by omega, by go_num, ⟨HE.out.trans (any_no _ _ _ hlt (by simp [HK.out]))⟩, ⟨by repeat (with_reducible first | exact HU.out | apply Upd.alloc | apply Upd.drewN | apply Upd.drew)⟩⟩
    · go_wp2
      go_ret
      exact ⟨ret_bool (HE.out.trans (any_end _ _ _ (by omega))).symm, HU.out⟩
set_option maxHeartbeats 1000000 in
set_option maxRecDepth 100000 in
theorem isAsked_s (l : List GMessage) (q : Int) (A : Option Addr) (c : Nat) (w : World) (h : C ki_Message w A l) (hn : l.length ≤ 1048576) : Calls Try.prog 24 #[.slice A l.length c, .int .i64 q] w (RetBool (l.any fun m => m.Kind == 1 && m.Question == q) w) := by
  have H := Sd.mk h
  clear h
  go_enter Try.func24, Try.ntmps24
  go_wp2_with fail
  with_reducible refine (l28Has_s l _ _ _ _ _ H.out hn).mono ?_
  rintro e w1 ⟨rfl, hu⟩
  have HB := Sd.mk hu
  clear hu
  go_wp2
  go_ret
  exact ⟨rfl, HB.out⟩
end Go.Proofs.YtliejlcoeoiajaaFam
