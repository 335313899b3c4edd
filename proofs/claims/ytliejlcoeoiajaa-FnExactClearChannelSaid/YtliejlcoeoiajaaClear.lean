/- ClearChannel: what the reference and the program compute. No conditions beyond the sizes that the contracts name. -/
import Derived.Test.YtliejlcoeoiajaaProg
import Derived.Test.YtliejlcoeoiajaaSep2
import Derived.Test.YtliejlcoeoiajaaLst
import Derived.WalkKit
import Derived.KernelRfl
import Derived.RowKit3
import Derived.Deep.LoopGhost
import Derived.Deep.QuietTactic
import Derived.BigQuiet
import Derived.StillTailTactics
import Derived.Test.YtliejlcoeoiajaaK
import Derived.Deep.RegionHeld3
import Derived.Test.YtliejlcoeoiajaaCopy3
import Derived.Test.YtliejlcoeoiajaaFamChannel
import Derived.Test.YtliejlcoeoiajaaLst2
namespace Go.Proofs.YtliejlcoeoiajaaFam
open Go.RowKit Go.Proofs.YtliejlcoeoiajaaSep Go.Proofs.YtliejlcoeoiajaaT Go.Proofs.YtliejlcoeoiajaaK
set_option linter.unusedVariables false
set_option linter.unusedSimpArgs false
def clrP (a b : Int) (c : GChannel) : Bool := (c.From == a && c.To == b) || (c.From == b && c.To == a)
def clr1 (a b : Int) (c : GChannel) : GChannel := if clrP a b c then ⟨c.From, c.To, []⟩ else c
set_option maxHeartbeats 1000000 in
set_option maxRecDepth 100000 in
theorem clearChannel_i (l : List GChannel) (a b : Int) (F : Nat → Prop) (A : Option Addr) (c : Nat) (w : World) (h : R ki_Channel 120 w F (.slice A l.length c) l) (hn : l.length ≤ 1048576) : Calls Try.prog 103 #[.slice A l.length c, .int .i64 a, .int .i64 b] w (fun e w' => e = .returned (.tuple #[]) ∧ R ki_Channel 120 w' F (.slice A l.length c) (l.map (clr1 a b)) ∧ Upd F w w') := by
  have H := Sd.mk h
  clear h
  go_enter Try.func103, Try.ntmps103
  go_wp2
  go_loopg [10] l.length (fun r v wr => ∃ i : Nat, i + r = l.length ∧ v = .int .i64 i ∧ Sd (R ki_Channel 120 wr F (.slice A l.length c) (upTo (l.map (clr1 a b)) l i)) ∧ Sd (Upd F w wr))
  case atStart => exact ⟨0, by omega, rfl, ⟨by rw [upTo_zero]; exact H.out⟩, ⟨Upd.refl _ _⟩⟩
  case round =>
    obtain ⟨i, hi, rfl, HR, HU⟩ := hrel
    by_cases hlt : i < l.length
    · have HUS : Sd ((upTo (l.map (clr1 a b)) l i).set i (clr1 a b l[i]) = upTo (l.map (clr1 a b)) l (i + 1)) := ⟨by have q := upTo_set (a := l.map (clr1 a b)) (b := l) (i := i) (by simp) hlt; rw [List.getElem_map] at q; exact q⟩
      obtain ⟨g, cap, cur, ce, Fi, hv, hcap, hat, hM, hg, hFi, hFg, close⟩ := R_elem HR.out 3 l.length rfl (upTo_len (by simp) (by omega)) i l[i] (upTo_at (by simp) hlt)
      cases hv
      have HMM := Sd.mk hM
      obtain ⟨v2, P2, rfl, hR2, i2⟩ := ki_Channel_M hM
      obtain ⟨B2, b2, rfl⟩ := R_slice hR2
      have HAT := Sd.mk hat
      have x0 := hat.cell0 _ rfl
      have x1 := hat.cell 1 _ rfl
      have x2 := hat.cell 2 _ rfl
      have f2 := hat.free (i * 3 + 2)
      have hgl := World.block_lt_of_cell? wr _ x0
      have CL := Sd.mk close
      clear hat close hM HR hR2 i2
      by_cases h1 : l[i].From = a
      · have e1 : (l[i].From == a) = true := beq_iff_eq.2 h1
        have H1 := Sd.mk h1
        clear h1
        by_cases h2 : l[i].To = b
        · have e2 : (l[i].To == b) = true := beq_iff_eq.2 h2
          have H2 := Sd.mk h2
          clear h2
          have hc : Sd (clr1 a b l[i] = ⟨l[i].From, l[i].To, []⟩) := ⟨by simp only [clr1, clrP, e1, e2, Bool.and_true, Bool.true_and, Bool.and_false, Bool.false_and, Bool.or_true, Bool.or_false, Bool.true_or, Bool.false_or, Bool.or_self, Bool.and_self, Bool.false_eq_true, if_true, if_false, reduceIte]⟩
          go_wp2
          repeat (go_quiet (fail); try go_wp2)
          have HA := (HAT.out.set 2 (by decide) (.slice none 0 0)).call ((Upd.refl No _).alloc (.cells #[.int .i64 l[i].From, .int .i64 l[i].To, .slice B2 l[i].List.length b2] 120)) (fun _ q => q.elim) hFg
          have HRB := CL.out _ _ (clr1 a b l[i]) No F HA (by rw [hc.out]; exact ki_Channel_mk _ No ⟨l[i].From, l[i].To, []⟩ (P2 := No) R_nil (fun _ q => q)) (fun _ q => q.elim) (fun _ q => q) (fun _ q => q.elim)
          rw [HUS.out] at HRB
          go_roundg (gk - 1)
          case measure => omega
          case rel => exact ⟨i + 1, by omega, by go_num, ⟨HRB⟩, ⟨(HU.out.set _ _ (.inr hg)).alloc _⟩⟩
        · have e2 : (l[i].To == b) = false := beq_eq_false_iff_ne.2 h2
          have H2 := Sd.mk h2
          clear h2
          by_cases h3 : l[i].From = b
          · have e3 : (l[i].From == b) = true := beq_iff_eq.2 h3
            have H3 := Sd.mk h3
            clear h3
            by_cases h4 : l[i].To = a
            · have e4 : (l[i].To == a) = true := beq_iff_eq.2 h4
              have H4 := Sd.mk h4
              clear h4
              have hc : Sd (clr1 a b l[i] = ⟨l[i].From, l[i].To, []⟩) := ⟨by simp only [clr1, clrP, e1, e2, e3, e4, Bool.and_true, Bool.true_and, Bool.and_false, Bool.false_and, Bool.or_true, Bool.or_false, Bool.true_or, Bool.false_or, Bool.or_self, Bool.and_self, Bool.false_eq_true, if_true, if_false, reduceIte]⟩
              go_wp2
              repeat (go_quiet (fail); try go_wp2)
              have HA := (HAT.out.set 2 (by decide) (.slice none 0 0)).call ((Upd.refl No _).alloc (.cells #[.int .i64 l[i].From, .int .i64 l[i].To, .slice B2 l[i].List.length b2] 120)) (fun _ q => q.elim) hFg
              have HRB := CL.out _ _ (clr1 a b l[i]) No F HA (by rw [hc.out]; exact ki_Channel_mk _ No ⟨l[i].From, l[i].To, []⟩ (P2 := No) R_nil (fun _ q => q)) (fun _ q => q.elim) (fun _ q => q) (fun _ q => q.elim)
              rw [HUS.out] at HRB
              go_roundg (gk - 1)
              case measure => omega
              case rel => exact ⟨i + 1, by omega, by go_num, ⟨HRB⟩, ⟨(HU.out.set _ _ (.inr hg)).alloc _⟩⟩
            · have e4 : (l[i].To == a) = false := beq_eq_false_iff_ne.2 h4
              have H4 := Sd.mk h4
              clear h4
              have hc : Sd (clr1 a b l[i] = l[i]) := ⟨by simp only [clr1, clrP, e1, e2, e3, e4, Bool.and_true, Bool.true_and, Bool.and_false, Bool.false_and, Bool.or_true, Bool.or_false, Bool.true_or, Bool.false_or, Bool.or_self, Bool.and_self, Bool.false_eq_true, if_true, if_false, reduceIte]⟩
              go_wp2
              repeat (go_quiet (fail); try go_wp2)
              have HA := HAT.out.call ((Upd.refl No _).alloc (.cells #[.int .i64 l[i].From, .int .i64 l[i].To, .slice B2 l[i].List.length b2] 120)) (fun _ q => q.elim) hFg
              have HRB := CL.out _ _ (clr1 a b l[i]) Fi F HA (by rw [hc.out]; exact M_upd ((Upd.refl No _).alloc _) (fun _ _ q => q) HMM.out) (fun _ q => .inl q) (fun _ q => q) hFi
              rw [HUS.out] at HRB
              go_roundg (gk - 1)
              case measure => omega
              case rel => exact ⟨i + 1, by omega, by go_num, ⟨HRB⟩, ⟨HU.out.alloc _⟩⟩
          · have e3 : (l[i].From == b) = false := beq_eq_false_iff_ne.2 h3
            have H3 := Sd.mk h3
            clear h3
            have hc : Sd (clr1 a b l[i] = l[i]) := ⟨by simp only [clr1, clrP, e1, e2, e3, Bool.and_true, Bool.true_and, Bool.and_false, Bool.false_and, Bool.or_true, Bool.or_false, Bool.true_or, Bool.false_or, Bool.or_self, Bool.and_self, Bool.false_eq_true, if_true, if_false, reduceIte]⟩
            go_wp2
            repeat (go_quiet (fail); try go_wp2)
            have HA := HAT.out.call ((Upd.refl No _).alloc (.cells #[.int .i64 l[i].From, .int .i64 l[i].To, .slice B2 l[i].List.length b2] 120)) (fun _ q => q.elim) hFg
            have HRB := CL.out _ _ (clr1 a b l[i]) Fi F HA (by rw [hc.out]; exact M_upd ((Upd.refl No _).alloc _) (fun _ _ q => q) HMM.out) (fun _ q => .inl q) (fun _ q => q) hFi
            rw [HUS.out] at HRB
            go_roundg (gk - 1)
            case measure => omega
            case rel => exact ⟨i + 1, by omega, by go_num, ⟨HRB⟩, ⟨HU.out.alloc _⟩⟩
      · have e1 : (l[i].From == a) = false := beq_eq_false_iff_ne.2 h1
        have H1 := Sd.mk h1
        clear h1
        by_cases h3 : l[i].From = b
        · have e3 : (l[i].From == b) = true := beq_iff_eq.2 h3
          have H3 := Sd.mk h3
          clear h3
          by_cases h4 : l[i].To = a
          · have e4 : (l[i].To == a) = true := beq_iff_eq.2 h4
            have H4 := Sd.mk h4
            clear h4
            have hc : Sd (clr1 a b l[i] = ⟨l[i].From, l[i].To, []⟩) := ⟨by simp only [clr1, clrP, e1, e3, e4, Bool.and_true, Bool.true_and, Bool.and_false, Bool.false_and, Bool.or_true, Bool.or_false, Bool.true_or, Bool.false_or, Bool.or_self, Bool.and_self, Bool.false_eq_true, if_true, if_false, reduceIte]⟩
            go_wp2
            repeat (go_quiet (fail); try go_wp2)
            have HA := (HAT.out.set 2 (by decide) (.slice none 0 0)).call ((Upd.refl No _).alloc (.cells #[.int .i64 l[i].From, .int .i64 l[i].To, .slice B2 l[i].List.length b2] 120)) (fun _ q => q.elim) hFg
            have HRB := CL.out _ _ (clr1 a b l[i]) No F HA (by rw [hc.out]; exact ki_Channel_mk _ No ⟨l[i].From, l[i].To, []⟩ (P2 := No) R_nil (fun _ q => q)) (fun _ q => q.elim) (fun _ q => q) (fun _ q => q.elim)
            rw [HUS.out] at HRB
            go_roundg (gk - 1)
            case measure => omega
            case rel => exact ⟨i + 1, by omega, by go_num, ⟨HRB⟩, ⟨(HU.out.set _ _ (.inr hg)).alloc _⟩⟩
          · have e4 : (l[i].To == a) = false := beq_eq_false_iff_ne.2 h4
            have H4 := Sd.mk h4
            clear h4
            have hc : Sd (clr1 a b l[i] = l[i]) := ⟨by simp only [clr1, clrP, e1, e3, e4, Bool.and_true, Bool.true_and, Bool.and_false, Bool.false_and, Bool.or_true, Bool.or_false, Bool.true_or, Bool.false_or, Bool.or_self, Bool.and_self, Bool.false_eq_true, if_true, if_false, reduceIte]⟩
            go_wp2
            repeat (go_quiet (fail); try go_wp2)
            have HA := HAT.out.call ((Upd.refl No _).alloc (.cells #[.int .i64 l[i].From, .int .i64 l[i].To, .slice B2 l[i].List.length b2] 120)) (fun _ q => q.elim) hFg
            have HRB := CL.out _ _ (clr1 a b l[i]) Fi F HA (by rw [hc.out]; exact M_upd ((Upd.refl No _).alloc _) (fun _ _ q => q) HMM.out) (fun _ q => .inl q) (fun _ q => q) hFi
            rw [HUS.out] at HRB
            go_roundg (gk - 1)
            case measure => omega
            case rel => exact ⟨i + 1, by omega, by go_num, ⟨HRB⟩, ⟨HU.out.alloc _⟩⟩
        · have e3 : (l[i].From == b) = false := beq_eq_false_iff_ne.2 h3
          have H3 := Sd.mk h3
          clear h3
          have hc : Sd (clr1 a b l[i] = l[i]) := ⟨by simp only [clr1, clrP, e1, e3, Bool.and_true, Bool.true_and, Bool.and_false, Bool.false_and, Bool.or_true, Bool.or_false, Bool.true_or, Bool.false_or, Bool.or_self, Bool.and_self, Bool.false_eq_true, if_true, if_false, reduceIte]⟩
          go_wp2
          repeat (go_quiet (fail); try go_wp2)
          have HA := HAT.out.call ((Upd.refl No _).alloc (.cells #[.int .i64 l[i].From, .int .i64 l[i].To, .slice B2 l[i].List.length b2] 120)) (fun _ q => q.elim) hFg
          have HRB := CL.out _ _ (clr1 a b l[i]) Fi F HA (by rw [hc.out]; exact M_upd ((Upd.refl No _).alloc _) (fun _ _ q => q) HMM.out) (fun _ q => .inl q) (fun _ q => q) hFi
          rw [HUS.out] at HRB
          go_roundg (gk - 1)
          case measure => omega
          case rel => exact ⟨i + 1, by omega, by go_num, ⟨HRB⟩, ⟨HU.out.alloc _⟩⟩
    · go_wp2
      have hRR := HR.out
      rw [upTo_end (by simp) (by omega)] at hRR
      exact bodyPost_end (v := .tuple #[]) (by simp [results, Try.results103]) rfl ⟨rfl, hRR, HU.out⟩
set_option maxHeartbeats 1000000 in
set_option maxRecDepth 100000 in
theorem clearChannel2_i (l : List GChannel) (a b : Int) (A : Option Addr) (c : Nat) (w : World) (h : C ki_Channel w A l) (hn : l.length ≤ 1048576) (hb : ∀ y ∈ l, y.List.length ≤ 1048576 ∧ ∀ z ∈ y.List, z.Args.length ≤ 1048576) : Calls Try.prog 37 #[.slice A l.length c, .int .i64 a, .int .i64 b] w (RetRow ki_Channel 120 (l.map (clr1 a b)) w) := by
  have H := Sd.mk h
  clear h
  go_enter Try.func37, Try.ntmps37
  go_wp2_with fail
  with_reducible refine (copiedChannels_i l _ _ _ H.out hn hb).mono ?_
  rintro e w1 ⟨v, rfl, hR, hu⟩
  obtain ⟨B, z, rfl⟩ := R_slice hR
  have HB := Sd.mk hu
  have HR := Sd.mk hR
  clear hu hR
  go_wp2_with fail
  with_reducible refine (clearChannel_i l _ _ _ _ _ _ HR.out hn).mono ?_
  rintro e w2 ⟨rfl, hR, hu⟩
  have HR2 := Sd.mk hR
  have HB2 : Sd (Upd No w w2) := Sd.mk (HB.out.trans hu (fun _ _ q => q) (fun b hb q => absurd hb (by simp only [New] at q; omega)))
  clear hu hR
  go_wp2
  go_ret
  exact ⟨_, rfl, HR2.out, HB2.out⟩
end Go.Proofs.YtliejlcoeoiajaaFam
