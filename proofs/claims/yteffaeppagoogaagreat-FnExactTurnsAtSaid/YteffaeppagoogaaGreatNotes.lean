/- Counting notes: what the reference and the program compute. No conditions beyond the sizes that the contracts name. -/
import Derived.Test.YteffaeppagoogaaGreatProg
import Derived.Test.YteffaeppagoogaaGreatSep2
import Derived.Test.YteffaeppagoogaaGreatLst
import Derived.WalkKit
import Derived.KernelRfl
import Derived.RowKit3
import Derived.Deep.LoopGhost
import Derived.Deep.QuietTactic
import Derived.BigQuiet
import Derived.StillTailTactics
import Derived.Test.YteffaeppagoogaaGreatK
import Derived.Deep.RegionHeld3
import Derived.Test.YteffaeppagoogaaGreatFamNote
import Derived.Test.YteffaeppagoogaaGreatLst2
import Derived.Test.YteffaeppagoogaaGreatSep4
namespace Go.Proofs.YteffaeppagoogaaGreatFam
open Go.RowKit Go.Proofs.YteffaeppagoogaaGreatSep Go.Proofs.YteffaeppagoogaaGreatT Go.Proofs.YteffaeppagoogaaGreatK
set_option linter.unusedVariables false
set_option linter.unusedSimpArgs false
theorem filt_step {α β : Type} (p : α → Bool) (f : α → β) (l : List α) (i : Nat) (h : i < l.length) : ((l.take (i + 1)).filter p).map f = ((l.take i).filter p).map f ++ (if p l[i] then [f l[i]] else []) := by
  rw [List.take_succ_eq_append_getElem h, List.filter_append, List.map_append]
  congr 1
  cases hp : p l[i] <;> simp [hp]
theorem filt_len {α β : Type} (p : α → Bool) (f : α → β) (l : List α) (i : Nat) : (((l.take i).filter p).map f).length ≤ i := by
  rw [List.length_map]
  exact Nat.le_trans (List.length_filter_le _ _) (by rw [List.length_take]; omega)
theorem fold_cnt {α : Type} (p : α → Bool) : ∀ (l : List α) (n : Nat), n + l.length ≤ 1048576 → l.foldl (fun (z : Int) x => if p x then wrap64 (z + 1) else z) n = ((n + l.countP p : Nat) : Int)
  | [], n, _ => by simp
  | x :: l, n, h => by
    simp only [List.length_cons] at h
    cases hp : p x
    · rw [List.foldl_cons, hp, List.countP_cons_of_neg (by simp [hp])]
      exact fold_cnt p l n (by omega)
    · have e : wrap64 ((n : Int) + 1) = ((n + 1 : Nat) : Int) := by rw [IntWalk.wrap64_in _ (by omega)]; omega
      rw [List.foldl_cons, hp, if_pos rfl, e, List.countP_cons_of_pos hp, fold_cnt p l (n + 1) (by omega)]
      congr 1
      omega
theorem cntP_step {α : Type} (p : α → Bool) (l : List α) (i : Nat) (h : i < l.length) : (l.take (i + 1)).countP p = (l.take i).countP p + (if p l[i] then 1 else 0) := by
  rw [List.take_succ_eq_append_getElem h, List.countP_append, List.countP_cons, List.countP_nil]
  omega
def knP (k : Int) (n : GNote) : Bool := n.Kind == k
def sfP (v : Int) (n : GNote) : Bool := n.Kind == 1 && n.Vat == v
set_option maxHeartbeats 1000000 in
set_option maxRecDepth 100000 in
theorem countNotesCountNotes (q0 : Value) (p : GNote → Bool) (l : List GNote) (g c : Nat) (A : Option Addr) (w : World) (hc : w.cell? ⟨g, 3, none⟩ = some (.slice A l.length c)) (h : C ki_Note w A l) (hf : ∀ (x : GNote) (cs : List Value) (w' : World), Upd No w w' → ki_Note.K w' x cs → Calls Tryz.prog 56 #[.agg cs.toArray, q0] w' (RetBool (p x) w')) (hn : l.length ≤ 1048576) :
    Calls Tryz.prog 55 #[.pointer (some ⟨g, 0, none⟩), .func (.func 56) #[] #[q0]] w (RetInt (l.countP p) w) := by
  have H := Sd.mk h
  have HF := Sd.mk hf
  clear h hf
  go_enter Tryz.func55, Tryz.ntmps55
  go_wp2
  go_outline
  go_loopg [5, 13] l.length (fun r u v wr => ∃ i : Nat, i + r = l.length ∧ u = .int .i64 ((l.take i).countP p) ∧ v = .int .i64 i ∧ Sd (Upd No w wr))
  case atStart => exact ⟨0, by omega, by simp, rfl, ⟨Upd.refl _ _⟩⟩
  case round =>
    obtain ⟨i, hi, rfl, rfl, HU⟩ := hrel
    by_cases hlt : i < l.length
    · obtain ⟨ad, rfl, a0, a1, a2, a3, a4, a5⟩ := ki_Note_at (C_upd HU.out H.out) i hlt
      have hcs := Sd.mk (cntP_step p l i hlt)
      have hle : (l.take i).countP p ≤ 1048576 := Nat.le_trans (List.countP_le_length) (by rw [List.length_take]; omega)
      generalize hq : (l.take i).countP p = q at *
      have HQ := Sd.mk hq
      clear hq
      go_wp2_with fail
      refine gen_boxC ?_
      intro wm hB hUm
      with_reducible refine (HF.out l[i] _ _ (HU.out.then hUm) (ki_Note_Kmk _ _)).mono ?_
      rintro e w1 ⟨rfl, hu⟩
      have HU1 := Sd.mk ((HU.out.then hUm).then hu)
      clear hu hUm hB HU
      cases hb : p l[i]
      · have HBB : Sd ((l.take (i + 1)).countP p = q) := ⟨by rw [hcs.out, hb]; rfl⟩
        clear hb
        go_wp2
        go_roundg (gk - 1)
        case measure => omega
        case rel => exact ⟨i + 1, by omega, congrArg (Value.int .i64) (by rw [HBB.out]), by go_num, HU1⟩
      · have HBB : Sd ((l.take (i + 1)).countP p = q + 1) := ⟨by rw [hcs.out, hb]; rfl⟩
        clear hb
        go_wp2
        go_roundg (gk - 1)
        case measure => omega
        case rel => exact ⟨i + 1, by omega, congrArg (Value.int .i64) (by rw [HBB.out]; omega), by go_num, HU1⟩
    · have e : l.take i = l := List.take_of_length_le (by omega)
      rw [e]
      go_wp2
      go_ret
      exact ⟨rfl, HU.out⟩
set_option maxHeartbeats 1000000 in
set_option maxRecDepth 100000 in
theorem countNotesSentFrom (q0 : Value) (p : GNote → Bool) (l : List GNote) (g c : Nat) (A : Option Addr) (w : World) (hc : w.cell? ⟨g, 3, none⟩ = some (.slice A l.length c)) (h : C ki_Note w A l) (hf : ∀ (x : GNote) (cs : List Value) (w' : World), Upd No w w' → ki_Note.K w' x cs → Calls Tryz.prog 60 #[.agg cs.toArray, q0] w' (RetBool (p x) w')) (hn : l.length ≤ 1048576) :
    Calls Tryz.prog 55 #[.pointer (some ⟨g, 0, none⟩), .func (.func 60) #[] #[q0]] w (RetInt (l.countP p) w) := by
  have H := Sd.mk h
  have HF := Sd.mk hf
  clear h hf
  go_enter Tryz.func55, Tryz.ntmps55
  go_wp2
  go_outline
  go_loopg [5, 13] l.length (fun r u v wr => ∃ i : Nat, i + r = l.length ∧ u = .int .i64 ((l.take i).countP p) ∧ v = .int .i64 i ∧ Sd (Upd No w wr))
  case atStart => exact ⟨0, by omega, by simp, rfl, ⟨Upd.refl _ _⟩⟩
  case round =>
    obtain ⟨i, hi, rfl, rfl, HU⟩ := hrel
    by_cases hlt : i < l.length
    · obtain ⟨ad, rfl, a0, a1, a2, a3, a4, a5⟩ := ki_Note_at (C_upd HU.out H.out) i hlt
      have hcs := Sd.mk (cntP_step p l i hlt)
      have hle : (l.take i).countP p ≤ 1048576 := Nat.le_trans (List.countP_le_length) (by rw [List.length_take]; omega)
      generalize hq : (l.take i).countP p = q at *
      have HQ := Sd.mk hq
      clear hq
      go_wp2_with fail
      refine gen_boxC ?_
      intro wm hB hUm
      with_reducible refine (HF.out l[i] _ _ (HU.out.then hUm) (ki_Note_Kmk _ _)).mono ?_
      rintro e w1 ⟨rfl, hu⟩
      have HU1 := Sd.mk ((HU.out.then hUm).then hu)
      clear hu hUm hB HU
      cases hb : p l[i]
      · have HBB : Sd ((l.take (i + 1)).countP p = q) := ⟨by rw [hcs.out, hb]; rfl⟩
        clear hb
        go_wp2
        go_roundg (gk - 1)
        case measure => omega
        case rel => exact ⟨i + 1, by omega, congrArg (Value.int .i64) (by rw [HBB.out]), by go_num, HU1⟩
      · have HBB : Sd ((l.take (i + 1)).countP p = q + 1) := ⟨by rw [hcs.out, hb]; rfl⟩
        clear hb
        go_wp2
        go_roundg (gk - 1)
        case measure => omega
        case rel => exact ⟨i + 1, by omega, congrArg (Value.int .i64) (by rw [HBB.out]; omega), by go_num, HU1⟩
    · have e : l.take i = l := List.take_of_length_le (by omega)
      rw [e]
      go_wp2
      go_ret
      exact ⟨rfl, HU.out⟩
set_option maxHeartbeats 1000000 in
set_option maxRecDepth 100000 in
theorem knP_f (p : Int) (g0 : Nat) (x : GNote) (cs : List Value) (w : World) (h : ki_Note.K w x cs) (h0 : w.cell? ⟨g0, 0, none⟩ = some (.int .i64 p)) (l0 : g0 < w.heap.size) : Calls Tryz.prog 56 #[.agg cs.toArray, .pointer (some ⟨g0, 0, none⟩)] w (RetBool ((knP p) x) w) := by
  obtain rfl := ki_Note_K h
  clear h
  by_cases h0 : x.Kind = p
  · have e0 : (x.Kind == p) = true := beq_iff_eq.2 h0
    have n0 : (x.Kind != p) = false := by simp [h0]
    have H0 := Sd.mk h0
    clear h0
    go_enter Tryz.func56, Tryz.ntmps56
    go_wp2
    repeat (go_quiet (fail); try go_wp2)
    go_ret
    exact ⟨ret_bool (by simp [knP, H0.out]), (by repeat (with_reducible first | exact Upd.refl _ _ | apply Upd.alloc | apply Upd.drewN | apply Upd.drew))⟩
  · have e0 : (x.Kind == p) = false := beq_eq_false_iff_ne.2 h0
    have n0 : (x.Kind != p) = true := by simp [h0]
    have H0 := Sd.mk h0
    clear h0
    go_enter Tryz.func56, Tryz.ntmps56
    go_wp2
    repeat (go_quiet (fail); try go_wp2)
    go_ret
    exact ⟨ret_bool (by simp [knP, H0.out]), (by repeat (with_reducible first | exact Upd.refl _ _ | apply Upd.alloc | apply Upd.drewN | apply Upd.drew))⟩
set_option maxHeartbeats 1000000 in
set_option maxRecDepth 100000 in
theorem sfP_f (p : Int) (g0 : Nat) (x : GNote) (cs : List Value) (w : World) (h : ki_Note.K w x cs) (h0 : w.cell? ⟨g0, 0, none⟩ = some (.int .i64 p)) (l0 : g0 < w.heap.size) : Calls Tryz.prog 60 #[.agg cs.toArray, .pointer (some ⟨g0, 0, none⟩)] w (RetBool ((sfP p) x) w) := by
  obtain rfl := ki_Note_K h
  clear h
  by_cases h0 : x.Kind = 1
  · have e0 : (x.Kind == 1) = true := beq_iff_eq.2 h0
    have n0 : (x.Kind != 1) = false := by simp [h0]
    have H0 := Sd.mk h0
    clear h0
    by_cases h1 : x.Vat = p
    · have e1 : (x.Vat == p) = true := beq_iff_eq.2 h1
      have n1 : (x.Vat != p) = false := by simp [h1]
      have H1 := Sd.mk h1
      clear h1
      go_enter Tryz.func60, Tryz.ntmps60
      go_wp2
      repeat (go_quiet (fail); try go_wp2)
      go_ret
      exact ⟨ret_bool (by simp [sfP, H0.out, H1.out]), (by repeat (with_reducible first | exact Upd.refl _ _ | apply Upd.alloc | apply Upd.drewN | apply Upd.drew))⟩
    · have e1 : (x.Vat == p) = false := beq_eq_false_iff_ne.2 h1
      have n1 : (x.Vat != p) = true := by simp [h1]
      have H1 := Sd.mk h1
      clear h1
      go_enter Tryz.func60, Tryz.ntmps60
      go_wp2
      repeat (go_quiet (fail); try go_wp2)
      go_ret
      exact ⟨ret_bool (by simp [sfP, H0.out, H1.out]), (by repeat (with_reducible first | exact Upd.refl _ _ | apply Upd.alloc | apply Upd.drewN | apply Upd.drew))⟩
  · have e0 : (x.Kind == 1) = false := beq_eq_false_iff_ne.2 h0
    have n0 : (x.Kind != 1) = true := by simp [h0]
    have H0 := Sd.mk h0
    clear h0
    go_enter Tryz.func60, Tryz.ntmps60
    go_wp2
    repeat (go_quiet (fail); try go_wp2)
    go_ret
    exact ⟨ret_bool (by simp [sfP, H0.out]), (by repeat (with_reducible first | exact Upd.refl _ _ | apply Upd.alloc | apply Upd.drewN | apply Upd.drew))⟩
set_option maxHeartbeats 1000000 in
set_option maxRecDepth 100000 in
theorem countNotes_i (x : GWorld) (cs : List Value) (p : Int) (w : World) (h : ki_World.K w x cs) (hn : x.Notes.length ≤ 1048576) : Calls Tryz.prog 17 #[.agg cs.toArray, .int .i64 p] w (RetInt (x.Notes.countP (knP p)) w) := by
  obtain ⟨A0, c0, A1, c1, A2, c2, A3, c3, rfl, hl0, hC0, hl1, hC1, hl2, hC2, hl3, hC3⟩ := ki_World_K h
  have HC0 := Sd.mk hC0
  have HC1 := Sd.mk hC1
  have HC2 := Sd.mk hC2
  have HC3 := Sd.mk hC3
  clear hC0 hC1 hC2 hC3
  clear h
  go_enter Tryz.func17, Tryz.ntmps17
  go_wp2_with fail
  with_reducible refine (countNotesCountNotes _ (knP p) x.Notes _ c3 A3 _ ?hcell ?hc ?hf hn).mono ?_
  case hcell => simp
  case hc => exact C_upd (by repeat (with_reducible first | exact Upd.refl _ _ | apply Upd.alloc)) HC3.out
  case hf =>
    intro y cs w' hu hK
    exact knP_f p _ y cs w' hK (hu.read (by simp)) (Nat.lt_of_lt_of_le (by simp) hu.size)
  rintro e w1 ⟨rfl, hu⟩
  have HB : Sd (Upd No w w1) := Sd.mk (Upd.then (by repeat (with_reducible first | exact Upd.refl _ _ | apply Upd.alloc)) hu)
  clear hu
  go_wp2
  go_ret
  exact ⟨rfl, HB.out⟩
set_option maxHeartbeats 1000000 in
set_option maxRecDepth 100000 in
theorem sentFrom_i (x : GWorld) (cs : List Value) (p : Int) (w : World) (h : ki_World.K w x cs) (hn : x.Notes.length ≤ 1048576) : Calls Tryz.prog 20 #[.agg cs.toArray, .int .i64 p] w (RetInt (x.Notes.countP (sfP p)) w) := by
  obtain ⟨A0, c0, A1, c1, A2, c2, A3, c3, rfl, hl0, hC0, hl1, hC1, hl2, hC2, hl3, hC3⟩ := ki_World_K h
  have HC0 := Sd.mk hC0
  have HC1 := Sd.mk hC1
  have HC2 := Sd.mk hC2
  have HC3 := Sd.mk hC3
  clear hC0 hC1 hC2 hC3
  clear h
  go_enter Tryz.func20, Tryz.ntmps20
  go_wp2_with fail
  with_reducible refine (countNotesSentFrom _ (sfP p) x.Notes _ c3 A3 _ ?hcell ?hc ?hf hn).mono ?_
  case hcell => simp
  case hc => exact C_upd (by repeat (with_reducible first | exact Upd.refl _ _ | apply Upd.alloc)) HC3.out
  case hf =>
    intro y cs w' hu hK
    exact sfP_f p _ y cs w' hK (hu.read (by simp)) (Nat.lt_of_lt_of_le (by simp) hu.size)
  rintro e w1 ⟨rfl, hu⟩
  have HB : Sd (Upd No w w1) := Sd.mk (Upd.then (by repeat (with_reducible first | exact Upd.refl _ _ | apply Upd.alloc)) hu)
  clear hu
  go_wp2
  go_ret
  exact ⟨rfl, HB.out⟩
def knF (k : Int) (n : Int) (x : GNote) : Int := if knP k x then wrap64 (n + 1) else n
def sfF (v : Int) (n : Int) (x : GNote) : Int := if sfP v x then wrap64 (n + 1) else n
set_option maxHeartbeats 1000000 in
set_option maxRecDepth 100000 in
theorem countNotes_s0 (x : GWorld) (cs : List Value) (p : Int) (w : World) (h : ki_World.K w x cs) (hn : x.Notes.length ≤ 1048576) : Calls Tryz.prog 15 #[.agg cs.toArray, .int .i64 p] w (RetInt (x.Notes.foldl (knF p) 0) w) := by
  obtain ⟨A0, c0, A1, c1, A2, c2, A3, c3, rfl, hl0, hC0, hl1, hC1, hl2, hC2, hl3, hC3⟩ := ki_World_K h
  have HC0 := Sd.mk hC0
  have HC1 := Sd.mk hC1
  have HC2 := Sd.mk hC2
  have HC3 := Sd.mk hC3
  clear hC0 hC1 hC2 hC3
  have H := HC3
  clear h
  go_enter Tryz.func15, Tryz.ntmps15
  go_wp2
  refine gen_box ?_
  intro wb hB hU0
  have HBX := Sd.mk hB
  have HU0 := Sd.mk hU0
  clear hB hU0
  go_loopg [5, 6] x.Notes.length (fun r u v wr => ∃ i : Nat, i + r = x.Notes.length ∧ u = .int .i64 ((x.Notes.take i).foldl (knF p) 0) ∧ v = .int .i64 i ∧ Sd (Upd No wb wr))
  case atStart => exact ⟨0, by omega, by simp, rfl, ⟨Upd.refl _ _⟩⟩
  case round =>
    obtain ⟨i, hi, rfl, rfl, HU⟩ := hrel
    have t0 := (HBX.out.no HU.out).at 0 (v := .slice A0 x.Library.length c0) rfl
    have t1 := (HBX.out.no HU.out).at 1 (v := .slice A1 x.Vats.length c1) rfl
    have t2 := (HBX.out.no HU.out).at 2 (v := .slice A2 x.Channels.length c2) rfl
    have t3 := (HBX.out.no HU.out).at 3 (v := .slice A3 x.Notes.length c3) rfl
    have t4 := (HBX.out.no HU.out).at 4 (v := .int .i64 x.Strays) rfl
    by_cases hlt : i < x.Notes.length
    · obtain ⟨ad, rfl, a0, a1, a2, a3, a4, a5⟩ := ki_Note_at (C_upd (HU0.out.then HU.out) H.out) i hlt
      have hst := Sd.mk (foldl_step (knF p) 0 x.Notes i hlt)
      generalize hq : (x.Notes.take i).foldl (knF p) 0 = q at *
      have HQ := Sd.mk hq
      clear  hq
      by_cases h0 : x.Notes[i].Kind = p
      · have e0 : (x.Notes[i].Kind == p) = true := beq_iff_eq.2 h0
        have n0 : (x.Notes[i].Kind != p) = false := by simp [h0]
        have H0 := Sd.mk h0
        clear h0
        have hv : Sd ((knF p) q x.Notes[i] = wrap64 (q + 1)) := ⟨by simp [knF, knP, H0.out]⟩
        go_wp2
        repeat (go_quiet (fail); try go_wp2)
        go_roundg (gk - 1)
        case measure => omega
        case rel => exact ⟨i + 1, by omega, by rw [hst.out, hv.out], by go_num, ⟨by repeat (with_reducible first | exact HU.out | apply Upd.alloc | apply Upd.drewN | apply Upd.drew)⟩⟩
      · have e0 : (x.Notes[i].Kind == p) = false := beq_eq_false_iff_ne.2 h0
        have n0 : (x.Notes[i].Kind != p) = true := by simp [h0]
        have H0 := Sd.mk h0
        clear h0
        have hv : Sd ((knF p) q x.Notes[i] = q) := ⟨by simp [knF, knP, H0.out]⟩
        go_wp2
        repeat (go_quiet (fail); try go_wp2)
        go_roundg (gk - 1)
        case measure => omega
        case rel => exact ⟨i + 1, by omega, by rw [hst.out, hv.out], by go_num, ⟨by repeat (with_reducible first | exact HU.out | apply Upd.alloc | apply Upd.drewN | apply Upd.drew)⟩⟩
    · have e : x.Notes.take i = x.Notes := List.take_of_length_le (by omega)
      rw [e]
      go_wp2
      go_ret
      exact ⟨rfl, HU0.out.then HU.out⟩
set_option maxHeartbeats 1000000 in
set_option maxRecDepth 100000 in
theorem sentFrom_s0 (x : GWorld) (cs : List Value) (p : Int) (w : World) (h : ki_World.K w x cs) (hn : x.Notes.length ≤ 1048576) : Calls Tryz.prog 19 #[.agg cs.toArray, .int .i64 p] w (RetInt (x.Notes.foldl (sfF p) 0) w) := by
  obtain ⟨A0, c0, A1, c1, A2, c2, A3, c3, rfl, hl0, hC0, hl1, hC1, hl2, hC2, hl3, hC3⟩ := ki_World_K h
  have HC0 := Sd.mk hC0
  have HC1 := Sd.mk hC1
  have HC2 := Sd.mk hC2
  have HC3 := Sd.mk hC3
  clear hC0 hC1 hC2 hC3
  have H := HC3
  clear h
  go_enter Tryz.func19, Tryz.ntmps19
  go_wp2
  refine gen_box ?_
  intro wb hB hU0
  have HBX := Sd.mk hB
  have HU0 := Sd.mk hU0
  clear hB hU0
  go_loopg [5, 6] x.Notes.length (fun r u v wr => ∃ i : Nat, i + r = x.Notes.length ∧ u = .int .i64 ((x.Notes.take i).foldl (sfF p) 0) ∧ v = .int .i64 i ∧ Sd (Upd No wb wr))
  case atStart => exact ⟨0, by omega, by simp, rfl, ⟨Upd.refl _ _⟩⟩
  case round =>
    obtain ⟨i, hi, rfl, rfl, HU⟩ := hrel
    have t0 := (HBX.out.no HU.out).at 0 (v := .slice A0 x.Library.length c0) rfl
    have t1 := (HBX.out.no HU.out).at 1 (v := .slice A1 x.Vats.length c1) rfl
    have t2 := (HBX.out.no HU.out).at 2 (v := .slice A2 x.Channels.length c2) rfl
    have t3 := (HBX.out.no HU.out).at 3 (v := .slice A3 x.Notes.length c3) rfl
    have t4 := (HBX.out.no HU.out).at 4 (v := .int .i64 x.Strays) rfl
    by_cases hlt : i < x.Notes.length
    · obtain ⟨ad, rfl, a0, a1, a2, a3, a4, a5⟩ := ki_Note_at (C_upd (HU0.out.then HU.out) H.out) i hlt
      have hst := Sd.mk (foldl_step (sfF p) 0 x.Notes i hlt)
      generalize hq : (x.Notes.take i).foldl (sfF p) 0 = q at *
      have HQ := Sd.mk hq
      clear  hq
      by_cases h0 : x.Notes[i].Kind = 1
      · have e0 : (x.Notes[i].Kind == 1) = true := beq_iff_eq.2 h0
        have n0 : (x.Notes[i].Kind != 1) = false := by simp [h0]
        have H0 := Sd.mk h0
        clear h0
        by_cases h1 : x.Notes[i].Vat = p
        · have e1 : (x.Notes[i].Vat == p) = true := beq_iff_eq.2 h1
          have n1 : (x.Notes[i].Vat != p) = false := by simp [h1]
          have H1 := Sd.mk h1
          clear h1
          have hv : Sd ((sfF p) q x.Notes[i] = wrap64 (q + 1)) := ⟨by simp [sfF, sfP, H0.out, H1.out]⟩
          go_wp2
          repeat (go_quiet (fail); try go_wp2)
          go_roundg (gk - 1)
          case measure => omega
          case rel => exact ⟨i + 1, by omega, by rw [hst.out, hv.out], by go_num, ⟨by repeat (with_reducible first | exact HU.out | apply Upd.alloc | apply Upd.drewN | apply Upd.drew)⟩⟩
        · have e1 : (x.Notes[i].Vat == p) = false := beq_eq_false_iff_ne.2 h1
          have n1 : (x.Notes[i].Vat != p) = true := by simp [h1]
          have H1 := Sd.mk h1
          clear h1
          have hv : Sd ((sfF p) q x.Notes[i] = q) := ⟨by simp [sfF, sfP, H0.out, H1.out]⟩
          go_wp2
          repeat (go_quiet (fail); try go_wp2)
          go_roundg (gk - 1)
          case measure => omega
          case rel => exact ⟨i + 1, by omega, by rw [hst.out, hv.out], by go_num, ⟨by repeat (with_reducible first | exact HU.out | apply Upd.alloc | apply Upd.drewN | apply Upd.drew)⟩⟩
      · have e0 : (x.Notes[i].Kind == 1) = false := beq_eq_false_iff_ne.2 h0
        have n0 : (x.Notes[i].Kind != 1) = true := by simp [h0]
        have H0 := Sd.mk h0
        clear h0
        have hv : Sd ((sfF p) q x.Notes[i] = q) := ⟨by simp [sfF, sfP, H0.out]⟩
        go_wp2
        repeat (go_quiet (fail); try go_wp2)
        go_roundg (gk - 1)
        case measure => omega
        case rel => exact ⟨i + 1, by omega, by rw [hst.out, hv.out], by go_num, ⟨by repeat (with_reducible first | exact HU.out | apply Upd.alloc | apply Upd.drewN | apply Upd.drew)⟩⟩
    · have e : x.Notes.take i = x.Notes := List.take_of_length_le (by omega)
      rw [e]
      go_wp2
      go_ret
      exact ⟨rfl, HU0.out.then HU.out⟩
theorem countNotes_s (x : GWorld) (cs : List Value) (p : Int) (w : World) (h : ki_World.K w x cs) (hn : x.Notes.length ≤ 1048576) : Calls Tryz.prog 15 #[.agg cs.toArray, .int .i64 p] w (RetInt (x.Notes.countP (knP p)) w) := by
  have := fold_cnt (knP p) x.Notes 0 (by omega)
  rw [Nat.zero_add] at this
  rw [← this]
  exact countNotes_s0 x cs p w h hn
theorem sentFrom_s (x : GWorld) (cs : List Value) (p : Int) (w : World) (h : ki_World.K w x cs) (hn : x.Notes.length ≤ 1048576) : Calls Tryz.prog 19 #[.agg cs.toArray, .int .i64 p] w (RetInt (x.Notes.countP (sfP p)) w) := by
  have := fold_cnt (sfP p) x.Notes 0 (by omega)
  rw [Nat.zero_add] at this
  rw [← this]
  exact sentFrom_s0 x cs p w h hn
end Go.Proofs.YteffaeppagoogaaGreatFam
