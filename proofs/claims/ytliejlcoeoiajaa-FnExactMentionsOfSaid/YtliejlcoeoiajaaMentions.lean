/- MentionsOf: what the reference and the program compute. No conditions beyond the sizes that the contracts name. -/
import Derived.Test.YtliejlcoeoiajaaProg
import Derived.Test.YtliejlcoeoiajaaSep2
import Derived.Test.YtliejlcoeoiajaaLst
import Derived.WalkKit
import Derived.KernelRfl
import Derived.RowKit3
import Derived.Deep.LoopGhost
import Derived.Deep.QuietTactic
import Derived.BigQuiet
import Derived.StillTailTactics
import Derived.Test.YtliejlcoeoiajaaK
import Derived.Deep.RegionHeld3
import Derived.Test.YtliejlcoeoiajaaCopy
import Derived.Test.YtliejlcoeoiajaaFamMessage
import Derived.Test.YtliejlcoeoiajaaLst2
import Derived.Test.YtliejlcoeoiajaaSep4
namespace Go.Proofs.YtliejlcoeoiajaaFam
open Go.RowKit Go.Proofs.YtliejlcoeoiajaaSep Go.Proofs.YtliejlcoeoiajaaT Go.Proofs.YtliejlcoeoiajaaK
set_option linter.unusedVariables false
set_option linter.unusedSimpArgs false
set_option maxHeartbeats 1000000 in
set_option maxRecDepth 100000 in
def wireP (pos : Int) (x : GWire) : Bool := x.Kind == 1 && x.N == pos
def wOne (pos : Int) (x : GWire) : Nat := if wireP pos x then 1 else 0
theorem l27Wire_s (x : GWire) (pos : Int) (cs : List Value) (w : World) (h : ki_Wire.K w x cs) : Calls Try.prog 83 #[.agg cs.toArray, .int .i64 pos] w (RetInt (wOne pos x) w) := by
  obtain rfl := ki_Wire_K h
  clear h
  by_cases hk : x.Kind = 1
  · have e1 : (x.Kind == 1) = true := beq_iff_eq.2 hk
    have HK := Sd.mk hk
    clear hk
    by_cases hq : x.N = pos
    · have e2 : (x.N == pos) = true := beq_iff_eq.2 hq
      have HQ := Sd.mk hq
      clear hq
      have hc : Sd ((wOne pos x : Int) = 1) := ⟨by simp [wOne, wireP, e1, e2]⟩
      go_enter Try.func83, Try.ntmps83
      go_wp2
      repeat (go_quiet (fail); try go_wp2)
      go_ret
      exact ⟨ret_int hc.out.symm, by repeat (with_reducible first | exact Upd.refl _ _ | apply Upd.alloc | apply Upd.drewN | apply Upd.drew)⟩
    · have e2 : (x.N == pos) = false := beq_eq_false_iff_ne.2 hq
      have HQ := Sd.mk hq
      clear hq
      have hc : Sd ((wOne pos x : Int) = 0) := ⟨by simp [wOne, wireP, e1, e2]⟩
      go_enter Try.func83, Try.ntmps83
      go_wp2
      repeat (go_quiet (fail); try go_wp2)
      go_ret
      exact ⟨ret_int hc.out.symm, by repeat (with_reducible first | exact Upd.refl _ _ | apply Upd.alloc | apply Upd.drewN | apply Upd.drew)⟩
  · have e1 : (x.Kind == 1) = false := beq_eq_false_iff_ne.2 hk
    have HK := Sd.mk hk
    clear hk
    have hc : Sd ((wOne pos x : Int) = 0) := ⟨by simp [wOne, wireP, e1]⟩
    go_enter Try.func83, Try.ntmps83
    go_wp2
    repeat (go_quiet (fail); try go_wp2)
    go_ret
    exact ⟨ret_int hc.out.symm, by repeat (with_reducible first | exact Upd.refl _ _ | apply Upd.alloc | apply Upd.drewN | apply Upd.drew)⟩
def mC (pos : Int) (m : GMessage) : Nat := (m.Value :: m.Args).countP (wireP pos)
def mT (pos : Int) : List GMessage → Nat
  | [] => 0
  | m :: l => mC pos m + mT pos l
theorem mT_step (pos : Int) : ∀ (l : List GMessage) (i : Nat) (h : i < l.length), mT pos (l.take (i + 1)) = mT pos (l.take i) + mC pos l[i]
  | m :: l, 0, _ => by simp [mT]
  | m :: l, i + 1, h => by
    simp only [List.take_succ_cons, mT, List.getElem_cons_succ]
    rw [mT_step pos l i (by simpa using h)]
    omega
theorem mC_le (pos : Int) (m : GMessage) : mC pos m ≤ m.Args.length + 1 := by
  have := List.countP_le_length (p := wireP pos) (l := m.Value :: m.Args)
  simpa [mC] using this
theorem mT_le (pos : Int) : ∀ l : List GMessage, mT pos l ≤ sznS szn_Message l
  | [] => Nat.zero_le _
  | m :: l => by
    have h1 := mC_le pos m
    have h2 := mT_le pos l
    simp only [mT, sznS, sumS, List.length_cons, szn_Message] at *
    omega
theorem mT_take (pos : Int) : ∀ (l : List GMessage) (i : Nat), mT pos (l.take i) ≤ mT pos l
  | [], i => by simp
  | m :: l, 0 => Nat.zero_le _
  | m :: l, i + 1 => by
    have := mT_take pos l i
    simp only [List.take_succ_cons, mT]
    omega
theorem wOne_le (pos : Int) (x : GWire) : wOne pos x ≤ 1 := by unfold wOne; split <;> omega
theorem mC_val (pos : Int) (m : GMessage) : mC pos m = wOne pos m.Value + m.Args.countP (wireP pos) := by
  unfold mC wOne
  rw [List.countP_cons]
  split <;> omega
theorem cnt_step (pos : Int) (l : List GWire) (k : Nat) (h : k < l.length) : (l.take (k + 1)).countP (wireP pos) = (l.take k).countP (wireP pos) + wOne pos l[k] := by
  rw [List.take_succ_eq_append_getElem h, List.countP_append]
  unfold wOne
  simp [List.countP_cons]
theorem mC_vapp (pos : Int) (m : GMessage) : mC pos m = (m.Args ++ [m.Value]).countP (wireP pos) := by
  unfold mC
  rw [List.countP_append, List.countP_cons, List.countP_cons, List.countP_nil]
  omega
end Go.Proofs.YtliejlcoeoiajaaFam
