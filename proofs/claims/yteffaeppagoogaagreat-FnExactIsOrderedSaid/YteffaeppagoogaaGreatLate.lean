/- The first late tag: what the reference and the program compute. No conditions beyond the sizes that the contracts name. -/
import Derived.Test.YteffaeppagoogaaGreatProg
import Derived.Test.YteffaeppagoogaaGreatSep2
import Derived.Test.YteffaeppagoogaaGreatLst
import Derived.WalkKit
import Derived.KernelRfl
import Derived.RowKit3
import Derived.Deep.LoopGhost
import Derived.Deep.QuietTactic
import Derived.BigQuiet
import Derived.StillTailTactics
import Derived.Test.YteffaeppagoogaaGreatK
import Derived.Deep.RegionHeld3
import Derived.Test.YteffaeppagoogaaGreatFamTag
import Derived.Test.YteffaeppagoogaaGreatLst2
import Derived.Test.YteffaeppagoogaaGreatSep4
namespace Go.Proofs.YteffaeppagoogaaGreatFam
open Go.RowKit Go.Proofs.YteffaeppagoogaaGreatSep Go.Proofs.YteffaeppagoogaaGreatT Go.Proofs.YteffaeppagoogaaGreatK
set_option linter.unusedVariables false
set_option linter.unusedSimpArgs false
def lateB (t o : GTag) : Bool := o.Vat == t.Vat && o.Entity == t.Entity && decide (t.Seq ≤ o.Seq)
def flI : Nat → List GTag → List GTag → Int
  | _, _, [] => -1
  | n, pre, t :: l => if pre.any (lateB t) then n else flI (n + 1) (pre ++ [t]) l
theorem flI_yes (l : List GTag) (i : Nat) (h : i < l.length) (hp : (l.take i).any (lateB l[i]) = true) : flI i (l.take i) (l.drop i) = i := by
  rw [List.drop_eq_getElem_cons h]; simp only [flI, hp, if_true]
theorem flI_no (l : List GTag) (i : Nat) (h : i < l.length) (hp : (l.take i).any (lateB l[i]) = false) : flI i (l.take i) (l.drop i) = flI (i + 1) (l.take (i + 1)) (l.drop (i + 1)) := by
  rw [List.drop_eq_getElem_cons h, List.take_succ_eq_append_getElem h]; simp only [flI, hp]; rfl
theorem flI_end (l : List GTag) (i : Nat) (h : l.length ≤ i) : flI i (l.take i) (l.drop i) = -1 := by
  rw [List.drop_eq_nil_of_le h]; rfl
theorem take_any_no {α : Type} (f : α → Bool) (l : List α) (i j : Nat) (hj : j < i) (hi : i ≤ l.length) (hf : f (l[j]'(by omega)) = false) : ((l.take i).drop j).any f = ((l.take i).drop (j + 1)).any f := by
  have h : j < (l.take i).length := by rw [List.length_take]; omega
  rw [List.drop_eq_getElem_cons h, List.any_cons, List.getElem_take, hf, Bool.false_or]
theorem take_any_yes {α : Type} (f : α → Bool) (l : List α) (i j : Nat) (hj : j < i) (hi : i ≤ l.length) (hf : f (l[j]'(by omega)) = true) : ((l.take i).drop j).any f = true := by
  have h : j < (l.take i).length := by rw [List.length_take]; omega
  rw [List.drop_eq_getElem_cons h, List.any_cons, List.getElem_take, hf, Bool.true_or]
theorem take_any_end {α : Type} (f : α → Bool) (l : List α) (i j : Nat) (hj : i ≤ j) : ((l.take i).drop j).any f = false := by
  rw [List.drop_eq_nil_of_le (by rw [List.length_take]; omega)]; rfl
set_option maxHeartbeats 1000000 in
set_option maxRecDepth 100000 in
theorem firstLate_i (l : List GTag) (A : Option Addr) (c : Nat) (w : World) (h : C ki_Tag w A l) (hlc : l.length ≤ c) (hn : l.length ≤ 1048576) : Calls Tryz.prog 115 #[.slice A l.length c] w (RetInt (flI 0 [] l) w) := by
  have H := Sd.mk h
  clear h
  go_enter Tryz.func115, Tryz.ntmps115
  go_wp2
  go_loopg [9] l.length (fun r v wr => ∃ i : Nat, i + r = l.length ∧ v = .int .i64 i ∧ Sd (flI 0 [] l = flI i (l.take i) (l.drop i)) ∧ Sd (Upd No w wr))
  case atStart => exact ⟨0, by omega, rfl, ⟨rfl⟩, ⟨Upd.refl _ _⟩⟩
  case round =>
    obtain ⟨i, hi, rfl, HE, HU⟩ := hrel
    by_cases hlt : i < l.length
    · obtain ⟨ad, rfl, a0, a1, a2⟩ := ki_Tag_at (C_upd HU.out H.out) i hlt
      have hy := Sd.mk (flI_yes l i hlt)
      have hno := Sd.mk (flI_no l i hlt)
      go_wp2
      refine gen_box ?_
      intro wo hB hUo
      have HB := Sd.mk hB
      have HUo := Sd.mk (HU.out.then hUo)
      clear hB hUo HU a0 a1 a2
      obtain ⟨g0, hg0⟩ : ∃ g, g = gk := ⟨_, rfl⟩
      go_outline
      go_loopg [18] i (fun r v wr => ∃ j : Nat, j + r = i ∧ v = .int .i64 j ∧ Sd ((l.take i).any (lateB l[i]) = ((l.take i).drop j).any (lateB l[i])) ∧ Sd (Upd No wo wr))
      case atStart => exact ⟨0, by omega, rfl, ⟨rfl⟩, ⟨Upd.refl _ _⟩⟩
      case round =>
        obtain ⟨j, hj, rfl, HF, HV⟩ := hrel
        have b0 := fun ob => ((HB.out.no HV.out).alloc ob).at 0 (v := .int .i64 l[i].Vat) rfl
        have b1 := fun ob => ((HB.out.no HV.out).alloc ob).at 1 (v := .int .i64 l[i].Entity) rfl
        have b2 := fun ob => ((HB.out.no HV.out).alloc ob).at 2 (v := .int .i64 l[i].Seq) rfl
        by_cases hlj : j < i
        · have hjl : j < l.length := by omega
          obtain ⟨ae, he, d0, d1, d2⟩ := ki_Tag_at (C_upd (HUo.out.then HV.out) H.out) j hjl
          cases he
          by_cases h0 : l[j].Vat = l[i].Vat
          · have e0 : (l[j].Vat == l[i].Vat) = true := beq_iff_eq.2 h0
            have n0 : (l[j].Vat != l[i].Vat) = false := by simp [h0]
            have H0 := Sd.mk h0
            clear h0
            by_cases h1 : l[j].Entity = l[i].Entity
            · have e1 : (l[j].Entity == l[i].Entity) = true := beq_iff_eq.2 h1
              have n1 : (l[j].Entity != l[i].Entity) = false := by simp [h1]
              have H1 := Sd.mk h1
              clear h1
              by_cases hq : l[i].Seq ≤ l[j].Seq
              · have d3 : decide (l[i].Seq ≤ l[j].Seq) = true := decide_eq_true hq
                have hv : Sd (flI 0 [] l = i) := ⟨HE.out.trans (hy.out (HF.out.trans (take_any_yes _ l i j hlj (by omega) (by simp [lateB, H0.out, H1.out, hq]))))⟩
                go_wp2
                repeat (go_quiet (fail); try go_wp2)
                go_ret
                exact ⟨ret_int hv.out.symm, (by repeat (with_reducible first | exact (HUo.out.then HV.out) | apply Upd.alloc | apply Upd.drewN | apply Upd.drew))⟩
              · have d3 : decide (l[i].Seq ≤ l[j].Seq) = false := decide_eq_false hq
                have hq' : l[j].Seq < l[i].Seq := by omega
                have HQ := Sd.mk hq
                clear hq
                go_wp2
                repeat (go_quiet (fail); try go_wp2)
                go_roundg (gk - 1)
                case measure => omega
                case rel => exact ⟨j + 1, by omega, by go_num, ⟨HF.out.trans (take_any_no _ l i j hlj (by omega) (by simp [lateB, HQ.out]))⟩, ⟨(by repeat (with_reducible first | exact HV.out | apply Upd.alloc | apply Upd.drewN | apply Upd.drew))⟩⟩
            · have e1 : (l[j].Entity == l[i].Entity) = false := beq_eq_false_iff_ne.2 h1
              have n1 : (l[j].Entity != l[i].Entity) = true := by simp [h1]
              have H1 := Sd.mk h1
              clear h1
              go_wp2
              repeat (go_quiet (fail); try go_wp2)
              go_roundg (gk - 1)
              case measure => omega
              case rel => exact ⟨j + 1, by omega, by go_num, ⟨HF.out.trans (take_any_no _ l i j hlj (by omega) (by simp [lateB, H0.out, H1.out]))⟩, ⟨(by repeat (with_reducible first | exact HV.out | apply Upd.alloc | apply Upd.drewN | apply Upd.drew))⟩⟩
          · have e0 : (l[j].Vat == l[i].Vat) = false := beq_eq_false_iff_ne.2 h0
            have n0 : (l[j].Vat != l[i].Vat) = true := by simp [h0]
            have H0 := Sd.mk h0
            clear h0
            go_wp2
            repeat (go_quiet (fail); try go_wp2)
            go_roundg (gk - 1)
            case measure => omega
            case rel => exact ⟨j + 1, by omega, by go_num, ⟨HF.out.trans (take_any_no _ l i j hlj (by omega) (by simp [lateB, H0.out]))⟩, ⟨(by repeat (with_reducible first | exact HV.out | apply Upd.alloc | apply Upd.drewN | apply Upd.drew))⟩⟩
        · have hz := Sd.mk (hno.out (HF.out.trans (take_any_end _ l i j (by omega))))
          go_wp2
          go_roundg (g0 - 1)
          case measure => omega
          case rel => exact ⟨i + 1, by omega, by go_num, ⟨HE.out.trans hz.out⟩, ⟨HUo.out.then HV.out⟩⟩
    · go_wp2
      go_ret
      exact ⟨ret_int (HE.out.trans (flI_end l i (by omega))).symm, HU.out⟩
set_option maxHeartbeats 1000000 in
set_option maxRecDepth 100000 in
theorem firstLate_s (l : List GTag) (A : Option Addr) (c : Nat) (w : World) (h : C ki_Tag w A l) (hlc : l.length ≤ c) (hn : l.length ≤ 1048576) : Calls Tryz.prog 114 #[.slice A l.length c] w (RetInt (flI 0 [] l) w) := by
  have H := Sd.mk h
  clear h
  go_enter Tryz.func114, Tryz.ntmps114
  go_wp2
  go_loopg [3] l.length (fun r v wr => ∃ i : Nat, i + r = l.length ∧ v = .int .i64 i ∧ Sd (flI 0 [] l = flI i (l.take i) (l.drop i)) ∧ Sd (Upd No w wr))
  case atStart => exact ⟨0, by omega, rfl, ⟨rfl⟩, ⟨Upd.refl _ _⟩⟩
  case round =>
    obtain ⟨i, hi, rfl, HE, HU⟩ := hrel
    by_cases hlt : i < l.length
    · have hy := Sd.mk (flI_yes l i hlt)
      have hno := Sd.mk (flI_no l i hlt)
      go_wp2
      obtain ⟨wo, hwo⟩ : ∃ wo, wo = wr := ⟨_, rfl⟩
      subst hwo
      obtain ⟨g0, hg0⟩ : ∃ g, g = gk := ⟨_, rfl⟩
      go_loopg [4] i (fun r v wr => ∃ j : Nat, j + r = i ∧ v = .int .i64 j ∧ Sd ((l.take i).any (lateB l[i]) = ((l.take i).drop j).any (lateB l[i])) ∧ Sd (Upd No wo wr))
      case atStart => exact ⟨0, by omega, rfl, ⟨rfl⟩, ⟨Upd.refl _ _⟩⟩
      case round =>
        obtain ⟨j, hj, rfl, HF, HV⟩ := hrel
        by_cases hlj : j < i
        · have hjl : j < l.length := by omega
          obtain ⟨ad, rfl, a0, a1, a2⟩ := ki_Tag_at (C_upd (HU.out.then HV.out) H.out) i hlt
          obtain ⟨ae, he, d0, d1, d2⟩ := ki_Tag_at (C_upd (HU.out.then HV.out) H.out) j hjl
          cases he
          have hje : (j : Int) < l.length := by omega
          have hie : (i : Int) < l.length := by omega
          by_cases h0 : l[j].Vat = l[i].Vat
          · have e0 : (l[j].Vat == l[i].Vat) = true := beq_iff_eq.2 h0
            have n0 : (l[j].Vat != l[i].Vat) = false := by simp [h0]
            have H0 := Sd.mk h0
            clear h0
            by_cases h1 : l[j].Entity = l[i].Entity
            · have e1 : (l[j].Entity == l[i].Entity) = true := beq_iff_eq.2 h1
              have n1 : (l[j].Entity != l[i].Entity) = false := by simp [h1]
              have H1 := Sd.mk h1
              clear h1
              by_cases hq : l[i].Seq ≤ l[j].Seq
              · have d3 : decide (l[i].Seq ≤ l[j].Seq) = true := decide_eq_true hq
                have hv : Sd (flI 0 [] l = i) := ⟨HE.out.trans (hy.out (HF.out.trans (take_any_yes _ l i j hlj (by omega) (by simp [lateB, H0.out, H1.out, hq]))))⟩
                have HQ := Sd.mk hq
                clear hq
                go_wp2
                repeat (go_quiet (fail); try go_wp2)
                go_ret
                exact ⟨ret_int hv.out.symm, (by repeat (with_reducible first | exact (HU.out.then HV.out) | apply Upd.alloc | apply Upd.drewN | apply Upd.drew))⟩
              · have d3 : decide (l[i].Seq ≤ l[j].Seq) = false := decide_eq_false hq
                have HQ := Sd.mk hq
                clear hq
                go_wp2
                repeat (go_quiet (fail); try go_wp2)
                go_roundg (gk - 1)
                case measure => omega
                case rel => exact ⟨j + 1, by omega, by go_num, ⟨HF.out.trans (take_any_no _ l i j hlj (by omega) (by simp [lateB, HQ.out]))⟩, ⟨(by repeat (with_reducible first | exact HV.out | apply Upd.alloc | apply Upd.drewN | apply Upd.drew))⟩⟩
            · have e1 : (l[j].Entity == l[i].Entity) = false := beq_eq_false_iff_ne.2 h1
              have n1 : (l[j].Entity != l[i].Entity) = true := by simp [h1]
              have H1 := Sd.mk h1
              clear h1
              go_wp2
              repeat (go_quiet (fail); try go_wp2)
              go_roundg (gk - 1)
              case measure => omega
              case rel => exact ⟨j + 1, by omega, by go_num, ⟨HF.out.trans (take_any_no _ l i j hlj (by omega) (by simp [lateB, H0.out, H1.out]))⟩, ⟨(by repeat (with_reducible first | exact HV.out | apply Upd.alloc | apply Upd.drewN | apply Upd.drew))⟩⟩
          · have e0 : (l[j].Vat == l[i].Vat) = false := beq_eq_false_iff_ne.2 h0
            have n0 : (l[j].Vat != l[i].Vat) = true := by simp [h0]
            have H0 := Sd.mk h0
            clear h0
            go_wp2
            repeat (go_quiet (fail); try go_wp2)
            go_roundg (gk - 1)
            case measure => omega
            case rel => exact ⟨j + 1, by omega, by go_num, ⟨HF.out.trans (take_any_no _ l i j hlj (by omega) (by simp [lateB, H0.out]))⟩, ⟨(by repeat (with_reducible first | exact HV.out | apply Upd.alloc | apply Upd.drewN | apply Upd.drew))⟩⟩
        · have hz := Sd.mk (hno.out (HF.out.trans (take_any_end _ l i j (by omega))))
          go_wp2
          go_roundg (g0 - 1)
          case measure => omega
          case rel => exact ⟨i + 1, by omega, by go_num, ⟨HE.out.trans hz.out⟩, ⟨HU.out.then HV.out⟩⟩
    · go_wp2
      go_ret
      exact ⟨ret_int (HE.out.trans (flI_end l i (by omega))).symm, HU.out⟩
set_option maxHeartbeats 1000000 in
set_option maxRecDepth 100000 in
theorem inOrder_s (l : List GTag) (A : Option Addr) (c : Nat) (w : World) (h : C ki_Tag w A l) (hlc : l.length ≤ c) (hn : l.length ≤ 1048576) : Calls Tryz.prog 63 #[.slice A l.length c] w (RetBool (decide (flI 0 [] l < 0)) w) := by
  have H := Sd.mk h
  clear h
  go_enter Tryz.func63, Tryz.ntmps63
  go_wp2_with fail
  with_reducible refine (firstLate_s l _ _ _ H.out hlc hn).mono ?_
  rintro e w1 ⟨rfl, hu⟩
  have HU := Sd.mk hu
  clear hu
  generalize flI 0 [] l = q at *
  go_wp2_with fail
  go_ret
  exact ⟨rfl, HU.out⟩
set_option maxHeartbeats 1000000 in
set_option maxRecDepth 100000 in
theorem inOrder_i (l : List GTag) (A : Option Addr) (c : Nat) (w : World) (h : C ki_Tag w A l) (hlc : l.length ≤ c) (hn : l.length ≤ 1048576) : Calls Tryz.prog 64 #[.slice A l.length c] w (RetBool (decide (flI 0 [] l < 0)) w) := by
  have H := Sd.mk h
  clear h
  go_enter Tryz.func64, Tryz.ntmps64
  go_wp2_with fail
  with_reducible refine (firstLate_i l _ _ _ H.out hlc hn).mono ?_
  rintro e w1 ⟨rfl, hu⟩
  have HU := Sd.mk hu
  clear hu
  generalize flI 0 [] l = q at *
  go_wp2_with fail
  go_ret
  exact ⟨rfl, HU.out⟩
end Go.Proofs.YteffaeppagoogaaGreatFam
