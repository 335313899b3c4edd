/- MessagesTo: what the reference and the program compute. No conditions beyond the sizes that the contracts name. -/
import Derived.Test.YtliejlcoeoiajaaProg
import Derived.Test.YtliejlcoeoiajaaSep2
import Derived.Test.YtliejlcoeoiajaaLst
import Derived.WalkKit
import Derived.KernelRfl
import Derived.RowKit3
import Derived.Deep.LoopGhost
import Derived.Deep.QuietTactic
import Derived.BigQuiet
import Derived.StillTailTactics
import Derived.Test.YtliejlcoeoiajaaK
import Derived.Deep.RegionHeld3
import Derived.Test.YtliejlcoeoiajaaFind
import Derived.Test.YtliejlcoeoiajaaCopy3
namespace Go.Proofs.YtliejlcoeoiajaaFam
open Go.RowKit Go.Proofs.YtliejlcoeoiajaaSep Go.Proofs.YtliejlcoeoiajaaT Go.Proofs.YtliejlcoeoiajaaK
set_option linter.unusedVariables false
set_option linter.unusedSimpArgs false
def msgsTo (a b : Int) (l : List GChannel) : List GMessage := if h : (fidx (chP a b) 0 l).toNat < l.length then (if fidx (chP a b) 0 l < 0 then [] else l[(fidx (chP a b) 0 l).toNat].List) else []
theorem fidx_cases {α : Type} (p : α → Bool) (l : List α) : fidx p 0 l = -1 ∨ ∃ i : Nat, i < l.length ∧ fidx p 0 l = i := by
  rcases fidx_range p l 0 with h | h
  · exact .inl h
  · exact .inr ⟨(fidx p 0 l).toNat, by omega, by omega⟩
theorem msgsTo_no (a b : Int) (l : List GChannel) (h : fidx (chP a b) 0 l = -1) : msgsTo a b l = [] := by simp [msgsTo, h]
theorem msgsTo_at (a b : Int) (l : List GChannel) (i : Nat) (hi : i < l.length) (h : fidx (chP a b) 0 l = i) : msgsTo a b l = l[i].List := by simp [msgsTo, h, hi, show ¬ (i : Int) < 0 by omega]
set_option maxHeartbeats 1000000 in
set_option maxRecDepth 100000 in
theorem messagesTo_s (l : List GChannel) (a b : Int) (A : Option Addr) (c : Nat) (w : World) (h : C ki_Channel w A l) (hn : l.length ≤ 1048576) (hb : ∀ y ∈ l, y.List.length ≤ 1048576 ∧ ∀ z ∈ y.List, z.Args.length ≤ 1048576) : Calls Try.prog 61 #[.slice A l.length c, .int .i64 a, .int .i64 b] w (RetRow ki_Message 46 (msgsTo a b l) w) := by
  have H := Sd.mk h
  clear h
  go_enter Try.func61, Try.ntmps61
  go_wp2_with fail
  with_reducible refine (l20Find_s l _ _ _ _ _ H.out hn).mono ?_
  rintro e w1 ⟨rfl, hu⟩
  have HB := Sd.mk hu
  clear hu
  rcases fidx_cases (chP a b) l with h0 | ⟨i, hi, h0⟩
  · rw [h0]
    have e0 := Sd.mk (msgsTo_no a b l h0)
    clear h0
    go_wp2
    go_ret
    exact ⟨_, rfl, by rw [e0.out]; exact R_mono (fun b hb => by have := HB.out.size; simp only [New] at hb ⊢; omega) (R_empty w1), HB.out.alloc _⟩
  · rw [h0]
    have e0 := Sd.mk (msgsTo_at a b l i hi h0)
    clear h0
    obtain ⟨ad, A2, c2, rfl, a0, a1, a2, hl2, hC2⟩ := ki_Channel_at (C_upd HB.out H.out) i hi
    have HC2 := Sd.mk hC2
    have hbi := hb _ (List.getElem_mem hi)
    clear hC2
    go_wp2_with fail
    with_reducible refine (l20CopyList_s l[i].List _ _ _ ?hc hbi.1 hbi.2).mono ?_
    case hc => exact C_upd (by repeat (with_reducible first | exact Upd.refl _ _ | apply Upd.alloc | apply Upd.drew)) HC2.out
    rintro e w2 ⟨v, rfl, hR, hu⟩
    have HB2 := Sd.mk (Upd.then (by repeat (with_reducible first | exact HB.out | apply Upd.alloc | apply Upd.drew)) hu)
    have HR := Sd.mk (R_mono (F' := New w) (fun b hb => by have := HB.out.size; simp only [New] at hb ⊢; omega) hR)
    clear hu hR
    go_wp2
    go_ret
    exact ⟨_, rfl, by rw [e0.out]; exact HR.out, HB2.out⟩
theorem fld_List (w : World) (p q : Int) (A : Option Addr) (n c : Nat) : (Instr.field 120 (.agg #[.int .i64 p, .int .i64 q, .slice A n c]) 2).run Try.prog w = .ok (.slice A n c) w := by
  simp [Instr.field, run_underlying Try.underlying120, asAgg, go_sem]
set_option maxHeartbeats 1000000 in
set_option maxRecDepth 100000 in
theorem messagesTo_i (l : List GChannel) (a b : Int) (A : Option Addr) (c : Nat) (w : World) (h : C ki_Channel w A l) (hn : l.length ≤ 1048576) (hb : ∀ y ∈ l, y.List.length ≤ 1048576 ∧ ∀ z ∈ y.List, z.Args.length ≤ 1048576) : Calls Try.prog 33 #[.slice A l.length c, .int .i64 a, .int .i64 b] w (RetRow ki_Message 46 (msgsTo a b l) w) := by
  have hfd := fld_List
  have H := Sd.mk h
  clear h
  go_enter Try.func33, Try.ntmps33
  go_wp2_with fail
  with_reducible refine (channel_i l _ _ _ _ _ H.out).mono ?_
  rintro e w1 ⟨rfl, hu⟩
  have HB := Sd.mk hu
  clear hu
  rcases fidx_cases (chP a b) l with h0 | ⟨i, hi, h0⟩
  · rw [h0]
    have e0 := Sd.mk (msgsTo_no a b l h0)
    clear h0
    go_wp2
    go_ret
    exact ⟨_, rfl, by rw [e0.out]; exact R_nil, HB.out⟩
  · rw [h0]
    have e0 := Sd.mk (msgsTo_at a b l i hi h0)
    clear h0
    obtain ⟨ad, A2, c2, rfl, a0, a1, a2, hl2, hC2⟩ := ki_Channel_at (C_upd HB.out H.out) i hi
    have HC2 := Sd.mk hC2
    have hbi := hb _ (List.getElem_mem hi)
    clear hC2
    go_wp2_with fail
    with_reducible refine (copied_Channel l[i] _ _ (ki_Channel_Kmk _ _ hl2 HC2.out) hbi.1 hbi.2).mono ?_
    rintro e w2 ⟨cs, rfl, hM, hu⟩
    obtain ⟨v2, P2, rfl, hR2, i2⟩ := ki_Channel_M hM
    obtain ⟨B2, b2, rfl⟩ := R_slice hR2
    have HB2 := Sd.mk (HB.out.then hu)
    have HR := Sd.mk (R_mono (F' := New w) (fun b hb => by have := HB.out.size; have := i2 b hb; simp only [New] at this ⊢; omega) hR2)
    clear hu hR2 hM i2
    go_wp2
    go_ret
    exact ⟨_, rfl, by rw [e0.out]; exact HR.out, HB2.out⟩
end Go.Proofs.YtliejlcoeoiajaaFam
