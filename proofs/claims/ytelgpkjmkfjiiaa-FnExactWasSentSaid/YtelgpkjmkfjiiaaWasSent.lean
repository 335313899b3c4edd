/- WasSent: what the reference and the program compute. No conditions beyond the sizes that the contracts name. -/
import Derived.Test.YtelgpkjmkfjiiaaProg
import Derived.Test.YtelgpkjmkfjiiaaSep2
import Derived.Test.YtelgpkjmkfjiiaaLst
import Derived.WalkKit
import Derived.KernelRfl
import Derived.RowKit3
import Derived.Deep.LoopGhost
import Derived.Deep.QuietTactic
import Derived.BigQuiet
import Derived.StillTailTactics
import Derived.Test.YtelgpkjmkfjiiaaK
import Derived.Deep.RegionHeld3
import Derived.Test.YtelgpkjmkfjiiaaFamNote
import Derived.Test.YtelgpkjmkfjiiaaLst2
namespace Go.Proofs.YtelgpkjmkfjiiaaFam
open Go.RowKit Go.Proofs.YtelgpkjmkfjiiaaSep Go.Proofs.YtelgpkjmkfjiiaaT Go.Proofs.YtelgpkjmkfjiiaaK
set_option linter.unusedVariables false
set_option linter.unusedSimpArgs false
set_option maxHeartbeats 1000000 in
set_option maxRecDepth 100000 in
theorem wasSent_idx (q0 : Value) (p : GNote → Bool) (l : List GNote) (A : Option Addr) (c : Nat) (w : World) (h : C ki_Note w A l) (hf : ∀ (x : GNote) (cs : List Value) (w' : World), Upd No w w' → ki_Note.K w' x cs → Calls Try.prog 36 #[.agg cs.toArray, q0] w' (RetBool (p x) w')) : Calls Try.prog 41 #[.slice A l.length c, .func (.func 36) #[] #[q0]] w (RetInt (fidx p 0 l) w) := by
  have hn := h.1
  have H := Sd.mk h
  have HF := Sd.mk hf
  clear h hf
  go_enter Try.func41, Try.ntmps41
  go_wp2_with fail
  go_loopg [8] l.length (fun r v wr => ∃ i : Nat, i + r = l.length ∧ v = .int .i64 i ∧ Sd (fidx p 0 l = fidx p i (l.drop i)) ∧ Sd (Upd No w wr))
  case atStart => exact ⟨0, by omega, rfl, ⟨rfl⟩, ⟨Upd.refl _ _⟩⟩
  case round =>
    obtain ⟨i, hi, rfl, HE, HU⟩ := hrel
    by_cases hlt : i < l.length
    · obtain ⟨ad, rfl, a0, a1, a2, a3, a4, a5⟩ := ki_Note_at (C_upd HU.out H.out) i hlt
      go_wp2_with fail
      with_reducible refine (HF.out l[i] _ _ HU.out (ki_Note_Kmk _ _)).mono ?_
      rintro e w1 ⟨rfl, hu⟩
      have HU1 := Sd.mk (HU.out.then hu)
      clear hu HU
      have hy := Sd.mk (fidx_yes p l i hlt)
      have hno := Sd.mk (fidx_no p l i hlt)
      cases hb : p l[i]
      · have HBB := Sd.mk hb
        clear hb
        go_wp2_with fail
        go_roundg (gk - 1)
        case measure => omega
        case rel => exact ⟨i + 1, by omega, by go_num, ⟨HE.out.trans (hno.out HBB.out)⟩, HU1⟩
      · have HBB := Sd.mk hb
        clear hb
        go_wp2_with fail
        go_ret
        exact ⟨ret_int (by rw [HE.out, hy.out HBB.out]), HU1.out⟩
    · go_wp2_with fail
      go_ret
      exact ⟨ret_int (by rw [HE.out, fidx_end p l i (by omega)]), HU.out⟩
set_option maxHeartbeats 1000000 in
set_option maxRecDepth 100000 in
theorem wasSent_has (q0 : Value) (p : GNote → Bool) (l : List GNote) (A : Option Addr) (c : Nat) (w : World) (h : C ki_Note w A l) (hf : ∀ (x : GNote) (cs : List Value) (w' : World), Upd No w w' → ki_Note.K w' x cs → Calls Try.prog 36 #[.agg cs.toArray, q0] w' (RetBool (p x) w')) : Calls Try.prog 35 #[.slice A l.length c, .func (.func 36) #[] #[q0]] w (RetBool (l.any p) w) := by
  have H := Sd.mk h
  have HF := Sd.mk hf
  clear h hf
  go_enter Try.func35, Try.ntmps35
  go_wp2_with fail
  with_reducible refine (wasSent_idx q0 p l _ _ _ ?hc ?hf).mono ?_
  case hc => exact H.out
  case hf => exact HF.out
  rintro e w1 ⟨rfl, hu⟩
  have HX := Sd.mk (fidx_any p l 0 (Int.le_refl 0))
  have HU := Sd.mk hu
  clear hu
  go_wp2_with fail
  go_ret
  exact ⟨ret_bool HX.out, HU.out⟩
set_option maxHeartbeats 1000000 in
set_option maxRecDepth 100000 in
def tagEq (a b : GTag) : Bool := (a.Vat == b.Vat) && ((a.Entity == b.Entity) && (a.Seq == b.Seq))
def sentP (t : GTag) (n : GNote) : Bool := n.Kind == 1 && tagEq n.Tag t
theorem wasSent_f (t : GTag) (g0 : Nat) (x : GNote) (cs : List Value) (w : World) (h : ki_Note.K w x cs) (h0 : w.cell? ⟨g0, 0, none⟩ = some (.int .i64 t.Vat)) (h1 : w.cell? ⟨g0, 1, none⟩ = some (.int .i64 t.Entity)) (h2 : w.cell? ⟨g0, 2, none⟩ = some (.int .i64 t.Seq)) (l0 : g0 < w.heap.size) :
    Calls Try.prog 36 #[.agg cs.toArray, .pointer (some ⟨g0, 0, none⟩)] w (RetBool (sentP t x) w) := by
  obtain rfl := ki_Note_K h
  clear h
  by_cases hk : x.Kind = 1
  · have e1 : (x.Kind == 1) = true := beq_iff_eq.2 hk
    have HK := Sd.mk hk
    clear hk
    go_enter Try.func36, Try.ntmps36
    go_wp2
    repeat (go_quiet (fail); try go_wp2)
    all_goals go_ret
    all_goals exact ⟨ret_bool (by simp [e1, sentP, tagEq, *]), by repeat (with_reducible first | exact Upd.refl _ _ | apply Upd.alloc | apply Upd.drewN | apply Upd.drew)⟩
  · have e1 : (x.Kind == 1) = false := beq_eq_false_iff_ne.2 hk
    have HK := Sd.mk hk
    clear hk
    go_enter Try.func36, Try.ntmps36
    go_wp2
    repeat (go_quiet (fail); try go_wp2)
    all_goals go_ret
    all_goals exact ⟨ret_bool (by simp [e1, sentP, tagEq, *]), by repeat (with_reducible first | exact Upd.refl _ _ | apply Upd.alloc | apply Upd.drewN | apply Upd.drew)⟩
set_option maxHeartbeats 1000000 in
set_option maxRecDepth 100000 in
theorem wasSent_i (l : List GNote) (t : GTag) (A : Option Addr) (c : Nat) (w : World) (h : C ki_Note w A l) : Calls Try.prog 19 #[.slice A l.length c, .agg #[.int .i64 t.Vat, .int .i64 t.Entity, .int .i64 t.Seq]] w (RetBool (l.any (sentP t)) w) := by
  have H := Sd.mk h
  clear h
  go_enter Try.func19, Try.ntmps19
  go_wp2_with fail
  with_reducible refine (wasSent_has _ (sentP t) l _ _ _ ?hc ?hf).mono ?_
  case hc => exact C_upd (by repeat (with_reducible first | exact Upd.refl _ _ | apply Upd.alloc)) H.out
  case hf =>
    intro x cs w' hu hK
    exact wasSent_f t _ x cs w' hK (hu.read (by simp)) (hu.read (by simp)) (hu.read (by simp)) (Nat.lt_of_lt_of_le (by simp) hu.size)
  rintro e w1 ⟨rfl, hu⟩
  have HB : Sd (Upd No w w1) := Sd.mk (Upd.then (by repeat (with_reducible first | exact Upd.refl _ _ | apply Upd.alloc)) hu)
  clear hu
  go_wp2
  go_ret
  exact ⟨rfl, HB.out⟩
set_option maxHeartbeats 1000000 in
set_option maxRecDepth 100000 in
theorem wasSent_s (l : List GNote) (t : GTag) (A : Option Addr) (c : Nat) (w : World) (h : C ki_Note w A l) (hn : l.length ≤ 1048576) : Calls Try.prog 16 #[.slice A l.length c, .agg #[.int .i64 t.Vat, .int .i64 t.Entity, .int .i64 t.Seq]] w (RetBool (l.any (sentP t)) w) := by
  have H := Sd.mk h
  clear h
  go_enter Try.func16, Try.ntmps16
  go_wp2
  have r0 : (w.alloc (.cells #[.int .i64 t.Vat, .int .i64 t.Entity, .int .i64 t.Seq] 37)).cell? ⟨w.heap.size, 0, none⟩ = some (.int .i64 t.Vat) := by simp
  have r1 : (w.alloc (.cells #[.int .i64 t.Vat, .int .i64 t.Entity, .int .i64 t.Seq] 37)).cell? ⟨w.heap.size, 1, none⟩ = some (.int .i64 t.Entity) := by simp
  have r2 : (w.alloc (.cells #[.int .i64 t.Vat, .int .i64 t.Entity, .int .i64 t.Seq] 37)).cell? ⟨w.heap.size, 2, none⟩ = some (.int .i64 t.Seq) := by simp
  have HU0 : Sd (Upd No w (w.alloc (.cells #[.int .i64 t.Vat, .int .i64 t.Entity, .int .i64 t.Seq] 37))) := ⟨by repeat (with_reducible first | exact Upd.refl _ _ | apply Upd.alloc)⟩
  generalize w.alloc (.cells #[.int .i64 t.Vat, .int .i64 t.Entity, .int .i64 t.Seq] 37) = w1 at *
  go_loopg [5] l.length (fun r v wr => ∃ i : Nat, i + r = l.length ∧ v = .int .i64 i ∧ Sd ((l.any (sentP t)) = ((l.drop i).any (sentP t))) ∧ Sd (Upd No w1 wr))
  case atStart => exact ⟨0, by omega, rfl, ⟨rfl⟩, ⟨Upd.refl _ _⟩⟩
  case round =>
    obtain ⟨i, hi, rfl, HE, HU⟩ := hrel
    have s0 := HU.out.read r0
    have s1 := HU.out.read r1
    have s2 := HU.out.read r2
    by_cases hlt : i < l.length
    · obtain ⟨ad, rfl, a0, a1, a2, a3, a4, a5⟩ := ki_Note_at (C_upd (HU0.out.then HU.out) H.out) i hlt
      by_cases hk : l[i].Kind = 1
      · have e1 : (l[i].Kind == 1) = true := beq_iff_eq.2 hk
        have HK := Sd.mk hk
        clear hk
        by_cases h2 : l[i].Tag.Vat = t.Vat
        · have e2 : (l[i].Tag.Vat == t.Vat) = true := beq_iff_eq.2 h2
          by_cases h3 : l[i].Tag.Entity = t.Entity
          · have e3 : (l[i].Tag.Entity == t.Entity) = true := beq_iff_eq.2 h3
            by_cases h4 : l[i].Tag.Seq = t.Seq
            · have e4 : (l[i].Tag.Seq == t.Seq) = true := beq_iff_eq.2 h4
              go_wp2
              repeat (go_quiet (fail); try go_wp2)
              go_ret
              exact ⟨ret_bool (HE.out.trans (any_yes _ _ _ hlt (by simp [sentP, HK.out, tagEq, e2, e3, e4]))).symm, by repeat (with_reducible first | exact HU0.out.then HU.out | apply Upd.alloc | apply Upd.drewN | apply Upd.drew)⟩
            · have e4 : (l[i].Tag.Seq == t.Seq) = false := beq_eq_false_iff_ne.2 h4
              go_wp2
              repeat (go_quiet (fail); try go_wp2)
              go_roundg (gk - 1)
              case measure => omega
              case rel => exact ⟨i + 1, by omega, by go_num, ⟨HE.out.trans (any_no _ _ _ hlt (by simp [sentP, tagEq, e4]))⟩, ⟨by repeat (with_reducible first | exact HU.out | apply Upd.alloc | apply Upd.drewN | apply Upd.drew)⟩⟩
          · have e3 : (l[i].Tag.Entity == t.Entity) = false := beq_eq_false_iff_ne.2 h3
            go_wp2
            repeat (go_quiet (fail); try go_wp2)
            go_roundg (gk - 1)
            case measure => omega
            case rel => exact ⟨i + 1, by omega, by go_num, ⟨HE.out.trans (any_no _ _ _ hlt (by simp [sentP, tagEq, e3]))⟩, ⟨by repeat (with_reducible first | exact HU.out | apply Upd.alloc | apply Upd.drewN | apply Upd.drew)⟩⟩
        · have e2 : (l[i].Tag.Vat == t.Vat) = false := beq_eq_false_iff_ne.2 h2
          go_wp2
          repeat (go_quiet (fail); try go_wp2)
          go_roundg (gk - 1)
          case measure => omega
          case rel => exact ⟨i + 1, by omega, by go_num, ⟨HE.out.trans (any_no _ _ _ hlt (by simp [sentP, tagEq, e2]))⟩, ⟨by repeat (with_reducible first | exact HU.out | apply Upd.alloc | apply Upd.drewN | apply Upd.drew)⟩⟩
      · have e1 : (l[i].Kind == 1) = false := beq_eq_false_iff_ne.2 hk
        have HK := Sd.mk hk
        clear hk
        go_wp2
        repeat (go_quiet (fail); try go_wp2)
        go_roundg (gk - 1)
        case measure => omega
        case rel => exact ⟨i + 1, by omega, by go_num, ⟨HE.out.trans (any_no _ _ _ hlt (by simp [sentP, HK.out]))⟩, ⟨by repeat (with_reducible first | exact HU.out | apply Upd.alloc | apply Upd.drewN | apply Upd.drew)⟩⟩
    · go_wp2
      go_ret
      exact ⟨ret_bool (HE.out.trans (any_end _ _ _ (by omega))).symm, HU0.out.then HU.out⟩
end Go.Proofs.YtelgpkjmkfjiiaaFam
