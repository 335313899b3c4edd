/- spec.ClearChannel. No conditions beyond the sizes that the contracts name. -/
import Derived.Test.YtliejlcoeoiajaaProg
import Derived.Test.YtliejlcoeoiajaaSep2
import Derived.Test.YtliejlcoeoiajaaLst
import Derived.WalkKit
import Derived.KernelRfl
import Derived.RowKit3
import Derived.Deep.LoopGhost
import Derived.Deep.QuietTactic
import Derived.BigQuiet
import Derived.StillTailTactics
import Derived.Test.YtliejlcoeoiajaaK
import Derived.Deep.RegionHeld3
import Derived.Test.YtliejlcoeoiajaaClear
namespace Go.Proofs.YtliejlcoeoiajaaFam
open Go.RowKit Go.Proofs.YtliejlcoeoiajaaSep Go.Proofs.YtliejlcoeoiajaaT Go.Proofs.YtliejlcoeoiajaaK
set_option linter.unusedVariables false
set_option linter.unusedSimpArgs false
set_option maxHeartbeats 1000000 in
set_option maxRecDepth 100000 in
theorem clearChannel_s (l : List GChannel) (a b : Int) (A : Option Addr) (c : Nat) (w : World) (h : C ki_Channel w A l) (hn : l.length ≤ 1048576) (hb : ∀ y ∈ l, y.List.length ≤ 1048576 ∧ ∀ z ∈ y.List, z.Args.length ≤ 1048576) : Calls Try.prog 67 #[.slice A l.length c, .int .i64 a, .int .i64 b] w (RetRow ki_Channel 120 (l.map (clr1 a b)) w) := by
  have H := Sd.mk h
  clear h
  go_enter Try.func67, Try.ntmps67
  go_wp2_with fail
  with_reducible refine (l20Copy_s l _ _ _ H.out hn hb).mono ?_
  rintro e w1 ⟨v, rfl, hR, hu⟩
  obtain ⟨B, z, rfl⟩ := R_slice hR
  have HB := Sd.mk hu
  have HR := Sd.mk hR
  clear hu hR
  go_wp2
  go_loopg [8] l.length (fun r v wr => ∃ i : Nat, i + r = l.length ∧ v = .int .i64 i ∧ Sd (R ki_Channel 120 wr (New w) (.slice B l.length z) (upTo (l.map (clr1 a b)) l i)) ∧ Sd (Upd No w wr))
  case atStart => exact ⟨0, by omega, rfl, ⟨by rw [upTo_zero]; exact HR.out⟩, HB⟩
  case round =>
    clear HR HB
    obtain ⟨i, hi, rfl, HR, HU⟩ := hrel
    by_cases hlt : i < l.length
    · have HUS : Sd ((upTo (l.map (clr1 a b)) l i).set i (clr1 a b l[i]) = upTo (l.map (clr1 a b)) l (i + 1)) := ⟨by have q := upTo_set (a := l.map (clr1 a b)) (b := l) (i := i) (by simp) hlt; rw [List.getElem_map] at q; exact q⟩
      obtain ⟨g, cap, cur, ce, Fi, hv, hcap, hat, hM, hg, hFi, hFg, close⟩ := R_elem (R_lt HR.out) 3 l.length rfl (upTo_len (by simp) (by omega)) i l[i] (upTo_at (by simp) hlt)
      cases hv
      have HMM := Sd.mk hM
      obtain ⟨v2, P2, rfl, hR2, i2⟩ := ki_Channel_M hM
      obtain ⟨B2, b2, rfl⟩ := R_slice hR2
      have HAT := Sd.mk hat
      have x0 := hat.cell0 _ rfl
      have x1 := hat.cell 1 _ rfl
      have x2 := hat.cell 2 _ rfl
      have f2 := hat.free (i * 3 + 2)
      have hgl := World.block_lt_of_cell? wr _ x0
      have CL := Sd.mk close
      have HR' := HR
      clear hat close hM HR hR2 i2
      by_cases h1 : l[i].From = a
      · have e1 : (l[i].From == a) = true := beq_iff_eq.2 h1
        have H1 := Sd.mk h1
        clear h1
        by_cases h2 : l[i].To = b
        · have e2 : (l[i].To == b) = true := beq_iff_eq.2 h2
          have H2 := Sd.mk h2
          clear h2
          have hc : Sd (clr1 a b l[i] = ⟨l[i].From, l[i].To, []⟩) := ⟨by simp only [clr1, clrP, e1, e2, Bool.and_true, Bool.true_and, Bool.and_false, Bool.false_and, Bool.or_true, Bool.or_false, Bool.true_or, Bool.false_or, Bool.or_self, Bool.and_self, Bool.false_eq_true, if_true, if_false, reduceIte]⟩
          go_wp2
          repeat (go_quiet (fail); try go_wp2)
          have HA := (HAT.out.set 2 (by decide) (.slice (some ⟨wr.heap.size, 0, none⟩) 0 0)).call ((Upd.refl No _).alloc (.cells #[] 46)) (fun _ q => q.elim) hFg
          have HRB := CL.out _ _ (clr1 a b l[i]) (fun b => wr.heap.size ≤ b) (New w) HA (by rw [hc.out]; exact ki_Channel_mk _ (fun b => wr.heap.size ≤ b) ⟨l[i].From, l[i].To, []⟩ (R_mono (fun b q => by simpa [New] using q) (R_emptyAt _ _ (by simp))) (fun _ q => q)) (fun b q => .inr (fun k => by have := k.2; omega)) (fun _ q => q.1) (fun b q => by have := HU.out.size; simp only [New]; omega)
          rw [HUS.out] at HRB
          go_roundg (gk - 1)
          case measure => omega
          case rel => exact ⟨i + 1, by omega, by go_num, ⟨HRB⟩, ⟨(HU.out.set ⟨g, i * 3 + 2, none⟩ (.slice (some ⟨wr.heap.size, 0, none⟩) 0 0) (.inl hg.1)).alloc _⟩⟩
        · have e2 : (l[i].To == b) = false := beq_eq_false_iff_ne.2 h2
          have H2 := Sd.mk h2
          clear h2
          by_cases h3 : l[i].From = b
          · have e3 : (l[i].From == b) = true := beq_iff_eq.2 h3
            have H3 := Sd.mk h3
            clear h3
            by_cases h4 : l[i].To = a
            · have e4 : (l[i].To == a) = true := beq_iff_eq.2 h4
              have H4 := Sd.mk h4
              clear h4
              have hc : Sd (clr1 a b l[i] = ⟨l[i].From, l[i].To, []⟩) := ⟨by simp only [clr1, clrP, e1, e2, e3, e4, Bool.and_true, Bool.true_and, Bool.and_false, Bool.false_and, Bool.or_true, Bool.or_false, Bool.true_or, Bool.false_or, Bool.or_self, Bool.and_self, Bool.false_eq_true, if_true, if_false, reduceIte]⟩
              go_wp2
              repeat (go_quiet (fail); try go_wp2)
              have HA := (HAT.out.set 2 (by decide) (.slice (some ⟨wr.heap.size, 0, none⟩) 0 0)).call ((Upd.refl No _).alloc (.cells #[] 46)) (fun _ q => q.elim) hFg
              have HRB := CL.out _ _ (clr1 a b l[i]) (fun b => wr.heap.size ≤ b) (New w) HA (by rw [hc.out]; exact ki_Channel_mk _ (fun b => wr.heap.size ≤ b) ⟨l[i].From, l[i].To, []⟩ (R_mono (fun b q => by simpa [New] using q) (R_emptyAt _ _ (by simp))) (fun _ q => q)) (fun b q => .inr (fun k => by have := k.2; omega)) (fun _ q => q.1) (fun b q => by have := HU.out.size; simp only [New]; omega)
              rw [HUS.out] at HRB
              go_roundg (gk - 1)
              case measure => omega
              case rel => exact ⟨i + 1, by omega, by go_num, ⟨HRB⟩, ⟨(HU.out.set ⟨g, i * 3 + 2, none⟩ (.slice (some ⟨wr.heap.size, 0, none⟩) 0 0) (.inl hg.1)).alloc _⟩⟩
            · have e4 : (l[i].To == a) = false := beq_eq_false_iff_ne.2 h4
              have H4 := Sd.mk h4
              clear h4
              have hc : Sd (clr1 a b l[i] = l[i]) := ⟨by simp only [clr1, clrP, e1, e2, e3, e4, Bool.and_true, Bool.true_and, Bool.and_false, Bool.false_and, Bool.or_true, Bool.or_false, Bool.true_or, Bool.false_or, Bool.or_self, Bool.and_self, Bool.false_eq_true, if_true, if_false, reduceIte]⟩
              have HRX : Sd (R ki_Channel 120 wr (New w) (.slice (some ⟨g, 0, none⟩) l.length z) (upTo (l.map (clr1 a b)) l (i + 1))) := ⟨by rw [← HUS.out, hc.out]; exact CL.out _ _ l[i] Fi (New w) HAT.out HMM.out (fun _ q => .inl q) (fun _ q => q.1) (fun _ q => (hFi _ q).1)⟩
              go_wp2
              repeat (go_quiet (fail); try go_wp2)
              go_roundg (gk - 1)
              case measure => omega
              case rel => exact ⟨i + 1, by omega, by go_num, ⟨R_upd (G := No) (by repeat (with_reducible first | exact Upd.refl _ _ | apply Upd.alloc | apply Upd.drewN | apply Upd.drew)) (fun _ _ q => q) HRX.out⟩, ⟨by repeat (with_reducible first | exact HU.out | apply Upd.alloc | apply Upd.drewN | apply Upd.drew)⟩⟩
          · have e3 : (l[i].From == b) = false := beq_eq_false_iff_ne.2 h3
            have H3 := Sd.mk h3
            clear h3
            have hc : Sd (clr1 a b l[i] = l[i]) := ⟨by simp only [clr1, clrP, e1, e2, e3, Bool.and_true, Bool.true_and, Bool.and_false, Bool.false_and, Bool.or_true, Bool.or_false, Bool.true_or, Bool.false_or, Bool.or_self, Bool.and_self, Bool.false_eq_true, if_true, if_false, reduceIte]⟩
            have HRX : Sd (R ki_Channel 120 wr (New w) (.slice (some ⟨g, 0, none⟩) l.length z) (upTo (l.map (clr1 a b)) l (i + 1))) := ⟨by rw [← HUS.out, hc.out]; exact CL.out _ _ l[i] Fi (New w) HAT.out HMM.out (fun _ q => .inl q) (fun _ q => q.1) (fun _ q => (hFi _ q).1)⟩
            go_wp2
            repeat (go_quiet (fail); try go_wp2)
            go_roundg (gk - 1)
            case measure => omega
            case rel => exact ⟨i + 1, by omega, by go_num, ⟨R_upd (G := No) (by repeat (with_reducible first | exact Upd.refl _ _ | apply Upd.alloc | apply Upd.drewN | apply Upd.drew)) (fun _ _ q => q) HRX.out⟩, ⟨by repeat (with_reducible first | exact HU.out | apply Upd.alloc | apply Upd.drewN | apply Upd.drew)⟩⟩
      · have e1 : (l[i].From == a) = false := beq_eq_false_iff_ne.2 h1
        have H1 := Sd.mk h1
        clear h1
        by_cases h3 : l[i].From = b
        · have e3 : (l[i].From == b) = true := beq_iff_eq.2 h3
          have H3 := Sd.mk h3
          clear h3
          by_cases h4 : l[i].To = a
          · have e4 : (l[i].To == a) = true := beq_iff_eq.2 h4
            have H4 := Sd.mk h4
            clear h4
            have hc : Sd (clr1 a b l[i] = ⟨l[i].From, l[i].To, []⟩) := ⟨by simp only [clr1, clrP, e1, e3, e4, Bool.and_true, Bool.true_and, Bool.and_false, Bool.false_and, Bool.or_true, Bool.or_false, Bool.true_or, Bool.false_or, Bool.or_self, Bool.and_self, Bool.false_eq_true, if_true, if_false, reduceIte]⟩
            go_wp2
            repeat (go_quiet (fail); try go_wp2)
            have HA := (HAT.out.set 2 (by decide) (.slice (some ⟨wr.heap.size, 0, none⟩) 0 0)).call ((Upd.refl No _).alloc (.cells #[] 46)) (fun _ q => q.elim) hFg
            have HRB := CL.out _ _ (clr1 a b l[i]) (fun b => wr.heap.size ≤ b) (New w) HA (by rw [hc.out]; exact ki_Channel_mk _ (fun b => wr.heap.size ≤ b) ⟨l[i].From, l[i].To, []⟩ (R_mono (fun b q => by simpa [New] using q) (R_emptyAt _ _ (by simp))) (fun _ q => q)) (fun b q => .inr (fun k => by have := k.2; omega)) (fun _ q => q.1) (fun b q => by have := HU.out.size; simp only [New]; omega)
            rw [HUS.out] at HRB
            go_roundg (gk - 1)
            case measure => omega
            case rel => exact ⟨i + 1, by omega, by go_num, ⟨HRB⟩, ⟨(HU.out.set ⟨g, i * 3 + 2, none⟩ (.slice (some ⟨wr.heap.size, 0, none⟩) 0 0) (.inl hg.1)).alloc _⟩⟩
          · have e4 : (l[i].To == a) = false := beq_eq_false_iff_ne.2 h4
            have H4 := Sd.mk h4
            clear h4
            have hc : Sd (clr1 a b l[i] = l[i]) := ⟨by simp only [clr1, clrP, e1, e3, e4, Bool.and_true, Bool.true_and, Bool.and_false, Bool.false_and, Bool.or_true, Bool.or_false, Bool.true_or, Bool.false_or, Bool.or_self, Bool.and_self, Bool.false_eq_true, if_true, if_false, reduceIte]⟩
            have HRX : Sd (R ki_Channel 120 wr (New w) (.slice (some ⟨g, 0, none⟩) l.length z) (upTo (l.map (clr1 a b)) l (i + 1))) := ⟨by rw [← HUS.out, hc.out]; exact CL.out _ _ l[i] Fi (New w) HAT.out HMM.out (fun _ q => .inl q) (fun _ q => q.1) (fun _ q => (hFi _ q).1)⟩
            go_wp2
            repeat (go_quiet (fail); try go_wp2)
            go_roundg (gk - 1)
            case measure => omega
            case rel => exact ⟨i + 1, by omega, by go_num, ⟨R_upd (G := No) (by repeat (with_reducible first | exact Upd.refl _ _ | apply Upd.alloc | apply Upd.drewN | apply Upd.drew)) (fun _ _ q => q) HRX.out⟩, ⟨by repeat (with_reducible first | exact HU.out | apply Upd.alloc | apply Upd.drewN | apply Upd.drew)⟩⟩
        · have e3 : (l[i].From == b) = false := beq_eq_false_iff_ne.2 h3
          have H3 := Sd.mk h3
          clear h3
          have hc : Sd (clr1 a b l[i] = l[i]) := ⟨by simp only [clr1, clrP, e1, e3, Bool.and_true, Bool.true_and, Bool.and_false, Bool.false_and, Bool.or_true, Bool.or_false, Bool.true_or, Bool.false_or, Bool.or_self, Bool.and_self, Bool.false_eq_true, if_true, if_false, reduceIte]⟩
          have HRX : Sd (R ki_Channel 120 wr (New w) (.slice (some ⟨g, 0, none⟩) l.length z) (upTo (l.map (clr1 a b)) l (i + 1))) := ⟨by rw [← HUS.out, hc.out]; exact CL.out _ _ l[i] Fi (New w) HAT.out HMM.out (fun _ q => .inl q) (fun _ q => q.1) (fun _ q => (hFi _ q).1)⟩
          go_wp2
          repeat (go_quiet (fail); try go_wp2)
          go_roundg (gk - 1)
          case measure => omega
          case rel => exact ⟨i + 1, by omega, by go_num, ⟨R_upd (G := No) (by repeat (with_reducible first | exact Upd.refl _ _ | apply Upd.alloc | apply Upd.drewN | apply Upd.drew)) (fun _ _ q => q) HRX.out⟩, ⟨by repeat (with_reducible first | exact HU.out | apply Upd.alloc | apply Upd.drewN | apply Upd.drew)⟩⟩
    · have hRR := HR.out
      rw [upTo_end (by simp) (by omega)] at hRR
      have HRR := Sd.mk hRR
      clear hRR
      go_wp2
      go_ret
      exact ⟨_, rfl, HRR.out, HU.out⟩
end Go.Proofs.YtliejlcoeoiajaaFam
