/- HasCut: what the reference and the program compute, and the law's walk. No conditions beyond the sizes that the contracts name. -/
import Derived.Test.YtliejlcoeoiajaaProg
import Derived.Test.YtliejlcoeoiajaaSep2
import Derived.Test.YtliejlcoeoiajaaLst
import Derived.WalkKit
import Derived.KernelRfl
import Derived.RowKit3
import Derived.Deep.LoopGhost
import Derived.Deep.QuietTactic
import Derived.BigQuiet
import Derived.StillTailTactics
import Derived.Test.YtliejlcoeoiajaaK
import Derived.Deep.RegionHeld3
import Derived.Test.YtliejlcoeoiajaaFamEvent
namespace Go.Proofs.YtliejlcoeoiajaaFam
open Go.RowKit Go.Proofs.YtliejlcoeoiajaaSep Go.Proofs.YtliejlcoeoiajaaT Go.Proofs.YtliejlcoeoiajaaK
set_option linter.unusedVariables false
set_option linter.unusedSimpArgs false
set_option maxHeartbeats 1000000 in
set_option maxRecDepth 100000 in
theorem event0_idx (p : GEvent → Bool) (l : List GEvent) (A : Option Addr) (c : Nat) (w : World) (h : C ki_Event w A l) (hf : ∀ (x : GEvent) (cs : List Value) (w' : World), Upd No w w' → ki_Event.K w' x cs → Calls Try.prog 79 #[.agg cs.toArray] w' (RetBool (p x) w')) : Calls Try.prog 144 #[.slice A l.length c, .func (.func 79) #[] #[]] w (RetInt (fidx p 0 l) w) := by
  have hn := h.1
  have H := Sd.mk h
  have HF := Sd.mk hf
  clear h hf
  go_enter Try.func144, Try.ntmps144
  go_wp2_with fail
  go_loopg [8] l.length (fun r v wr => ∃ i : Nat, i + r = l.length ∧ v = .int .i64 i ∧ Sd (fidx p 0 l = fidx p i (l.drop i)) ∧ Sd (Upd No w wr))
  case atStart => exact ⟨0, by omega, rfl, ⟨rfl⟩, ⟨Upd.refl _ _⟩⟩
  case round =>
    obtain ⟨i, hi, rfl, HE, HU⟩ := hrel
    by_cases hlt : i < l.length
    · obtain ⟨ad, A5, c5, rfl, a0, a1, a2, a3, a4, a5, hl5, hC5⟩ := ki_Event_at (C_upd HU.out H.out) i hlt
      have HC5 := Sd.mk hC5
      clear hC5
      go_wp2_with fail
      with_reducible refine (HF.out l[i] _ _ HU.out (ki_Event_Kmk _ _ hl5 HC5.out)).mono ?_
      rintro e w1 ⟨rfl, hu⟩
      have HU1 := Sd.mk (HU.out.then hu)
      clear hu HU
      have hy := Sd.mk (fidx_yes p l i hlt)
      have hno := Sd.mk (fidx_no p l i hlt)
      cases hb : p l[i]
      · have HBB := Sd.mk hb
        clear hb
        go_wp2_with fail
        go_roundg (gk - 1)
        case measure => omega
        case rel => exact ⟨i + 1, by omega, by go_num, ⟨HE.out.trans (hno.out HBB.out)⟩, HU1⟩
      · have HBB := Sd.mk hb
        clear hb
        go_wp2_with fail
        go_ret
        exact ⟨ret_int (by rw [HE.out, hy.out HBB.out]), HU1.out⟩
    · go_wp2_with fail
      go_ret
      exact ⟨ret_int (by rw [HE.out, fidx_end p l i (by omega)]), HU.out⟩
set_option maxHeartbeats 1000000 in
set_option maxRecDepth 100000 in
theorem event0_has (p : GEvent → Bool) (l : List GEvent) (A : Option Addr) (c : Nat) (w : World) (h : C ki_Event w A l) (hf : ∀ (x : GEvent) (cs : List Value) (w' : World), Upd No w w' → ki_Event.K w' x cs → Calls Try.prog 79 #[.agg cs.toArray] w' (RetBool (p x) w')) : Calls Try.prog 78 #[.slice A l.length c, .func (.func 79) #[] #[]] w (RetBool (l.any p) w) := by
  have H := Sd.mk h
  have HF := Sd.mk hf
  clear h hf
  go_enter Try.func78, Try.ntmps78
  go_wp2_with fail
  with_reducible refine (event0_idx p l _ _ _ ?hc ?hf).mono ?_
  case hc => exact H.out
  case hf => exact HF.out
  rintro e w1 ⟨rfl, hu⟩
  have HX := Sd.mk (fidx_any p l 0 (Int.le_refl 0))
  have HU := Sd.mk hu
  clear hu
  go_wp2_with fail
  go_ret
  exact ⟨ret_bool HX.out, HU.out⟩
set_option maxHeartbeats 1000000 in
set_option maxRecDepth 100000 in
theorem hasCut_f (x : GEvent) (cs : List Value) (w : World) (h : ki_Event.K w x cs) : Calls Try.prog 79 #[.agg cs.toArray] w (RetBool (x.Kind == 4) w) := by
  obtain ⟨A5, c5, rfl, hl5, hC5⟩ := ki_Event_K h
  clear h hC5
  go_enter Try.func79, Try.ntmps79
  go_wp2
  go_ret
  exact ⟨rfl, (Upd.refl _ _).alloc _⟩
theorem hasCut_i (l : List GEvent) (A : Option Addr) (c : Nat) (w : World) (h : C ki_Event w A l) : Calls Try.prog 17 #[.slice A l.length c] w (RetBool (l.any fun x => x.Kind == 4) w) := by
  have H := Sd.mk h
  clear h
  go_enter Try.func17, Try.ntmps17
  go_wp2_with fail
  with_reducible refine (event0_has (fun x => x.Kind == 4) l _ _ _ H.out (fun x cs w' _ hK => hasCut_f x cs w' hK)).mono ?_
  rintro e w1 ⟨rfl, hu⟩
  go_wp2
  go_ret
  exact ⟨rfl, hu⟩
theorem countKinds_s (l : List GEvent) (A : Option Addr) (c : Nat) (k : Int) (w : World) (h : C ki_Event w A l) (hn : l.length ≤ 1048576) : Calls Try.prog 76 #[.slice A l.length c, .int .i64 k] w (RetInt (l.countP fun x => x.Kind == k) w) := by
  have H := Sd.mk h
  clear h
  go_enter Try.func76, Try.ntmps76
  go_wp2
  go_loopg [5, 6] l.length (fun r u v wr => ∃ i : Nat, i + r = l.length ∧ u = .int .i64 ((l.take i).countP fun x => x.Kind == k) ∧ v = .int .i64 i ∧ Sd (Upd No w wr))
  case atStart => exact ⟨0, by omega, by simp, rfl, ⟨Upd.refl _ _⟩⟩
  case round =>
    obtain ⟨i, hi, rfl, rfl, HU⟩ := hrel
    have hle : ((l.take i).countP fun x => x.Kind == k) ≤ 1048576 := Nat.le_trans List.countP_le_length (by rw [List.length_take]; omega)
    by_cases hlt : i < l.length
    · obtain ⟨ad, A5, c5, rfl, a0, a1, a2, a3, a4, a5, hl5, hC5⟩ := ki_Event_at (C_upd HU.out H.out) i hlt
      have hst : Sd (((l.take (i + 1)).countP fun x => x.Kind == k) = ((l.take i).countP fun x => x.Kind == k) + if l[i].Kind == k then 1 else 0) := ⟨by rw [List.take_succ_eq_append_getElem hlt, List.countP_append]; simp [List.countP_cons]⟩
      generalize hq : ((l.take i).countP fun x => x.Kind == k) = q at *
      clear hC5 hl5
      by_cases hk : l[i].Kind = k
      · have e1 : (l[i].Kind == k) = true := beq_iff_eq.2 hk
        have HK := Sd.mk hk
        clear hk
        go_wp2
        go_roundg (gk - 1)
        case measure => omega
        case rel => exact ⟨i + 1, by omega, by rw [hst.out, if_pos e1]; go_num, by go_num, HU⟩
      · have e1 : (l[i].Kind == k) = false := beq_eq_false_iff_ne.2 hk
        have HK := Sd.mk hk
        clear hk
        go_wp2
        go_roundg (gk - 1)
        case measure => omega
        case rel => exact ⟨i + 1, by omega, by rw [hst.out, if_neg (by rw [e1]; simp)]; go_num, by go_num, HU⟩
    · have e : l.take i = l := List.take_of_length_le (by omega)
      rw [e]
      go_wp2
      go_ret
      exact ⟨rfl, HU.out⟩
theorem hasCut_s (l : List GEvent) (A : Option Addr) (c : Nat) (w : World) (h : C ki_Event w A l) (hn : l.length ≤ 1048576) : Calls Try.prog 15 #[.slice A l.length c] w (RetBool (l.any fun x => x.Kind == 4) w) := by
  have H := Sd.mk h
  clear h
  have hcp : Sd ((0 < l.countP fun x => x.Kind == 4) ↔ (l.any fun x => x.Kind == 4) = true) := ⟨by rw [List.countP_pos_iff, List.any_eq_true]⟩
  go_enter Try.func15, Try.ntmps15
  go_wp2_with fail
  with_reducible refine (countKinds_s l _ _ _ _ H.out hn).mono ?_
  rintro e w1 ⟨rfl, hu⟩
  generalize hm : (l.countP fun x => x.Kind == 4) = m at *
  go_wp2
  go_ret
  have h2 := hcp.out
  refine ⟨ret_bool ?_, hu⟩
  rw [Bool.eq_iff_iff, ← h2]
  simp
set_option maxHeartbeats 1000000 in
set_option maxRecDepth 100000 in
theorem law_FnExactHasCut (w : World) (l0 : List GEvent) (A0 : Option Addr) (c0 : Nat) (hC0 : C kl_Event w A0 l0) (hl0 : l0.length ≤ c0) (hG0 : l0.length ≤ 9223372036854775807 ∧ ∀ y ∈ l0, Gd_Event y) : Calls Try.prog 3 #[.slice A0 l0.length c0] w (RetBool true w) := by
  have HC0 := Sd.mk hC0
  clear hC0
  go_enter Try.func3, Try.ntmps3
  go_wp2_with fail
  with_reducible refine (szS_Event l0 _ _ _ _ ?hsz (fun y hy => Bd_of_Event (hG0.2 y hy)) (by omega) (by omega)).mono ?_
  case hsz => exact HC0.out
  rintro e w_0 ⟨r, rfl, hr, hu⟩
  have HB_0 : Sd (Upd No w w_0) := Sd.mk (Upd.then (by repeat (with_reducible first | exact Upd.refl _ _ | apply Upd.put2 | apply Upd.put1 | apply Upd.put0 | apply Upd.alloc | apply Upd.drewN | apply Upd.drew)) hu)
  replace HC0 := Sd.mk (C_upd hu HC0.out)
  clear hu
  rcases hr with ⟨hs, rfl⟩ | ⟨hs, rfl⟩
  case inr =>
    go_wp2
    go_ret
    exact ⟨rfl, HB_0.out⟩
  have hs' : sznS szn_Event l0 ≤ 1048576 := by omega
  have hn : l0.length ≤ 1048576 := by unfold sznS at hs'; omega
  go_wp2_with fail
  with_reducible refine (toS_Event l0 _ _ _ ?hs hs').mono ?_
  case hs => exact HC0.out
  rintro e w_1 ⟨v, rfl, hR, hu⟩
  have HB_1 : Sd (Upd No w w_1) := Sd.mk (Upd.then (by repeat (with_reducible first | exact HB_0.out | apply Upd.put2 | apply Upd.put1 | apply Upd.put0 | apply Upd.alloc | apply Upd.drewN | apply Upd.drew)) hu)
  replace HC0 := Sd.mk (C_upd hu HC0.out)
  obtain ⟨Bs, zzs, rfl⟩ := R_slice hR
  have Qs := Sd.mk (R_C hR)
  clear hR
  clear hu
  go_wp2_with fail
  with_reducible refine (hasCut_s l0 _ _ _ ?hfs hn).mono ?_
  case hfs => exact Qs.out
  rintro e w_2 ⟨rfl, hu⟩
  have HB_2 : Sd (Upd No w w_2) := Sd.mk (Upd.then (by repeat (with_reducible first | exact HB_1.out | apply Upd.put2 | apply Upd.put1 | apply Upd.put0 | apply Upd.alloc | apply Upd.drewN | apply Upd.drew)) hu)
  replace HC0 := Sd.mk (C_upd hu HC0.out)
  replace Qs := Sd.mk (C_upd hu Qs.out)
  clear hu
  go_wp2_with fail
  with_reducible refine (toS_Event l0 _ _ _ ?hx hs').mono ?_
  case hx => exact HC0.out
  rintro e w_3 ⟨v, rfl, hR, hu⟩
  have HB_3 : Sd (Upd No w w_3) := Sd.mk (Upd.then (by repeat (with_reducible first | exact HB_2.out | apply Upd.put2 | apply Upd.put1 | apply Upd.put0 | apply Upd.alloc | apply Upd.drewN | apply Upd.drew)) hu)
  replace HC0 := Sd.mk (C_upd hu HC0.out)
  obtain ⟨Bx, zzx, rfl⟩ := R_slice hR
  have Qx := Sd.mk (R_C hR)
  clear hR
  clear hu
  go_wp2_with fail
  with_reducible refine (hasCut_i l0 _ _ _ ?hfi).mono ?_
  case hfi => exact Qx.out
  rintro e w_4 ⟨rfl, hu⟩
  have HB_4 : Sd (Upd No w w_4) := Sd.mk (Upd.then (by repeat (with_reducible first | exact HB_3.out | apply Upd.put2 | apply Upd.put1 | apply Upd.put0 | apply Upd.alloc | apply Upd.drewN | apply Upd.drew)) hu)
  replace HC0 := Sd.mk (C_upd hu HC0.out)
  replace Qx := Sd.mk (C_upd hu Qx.out)
  clear hu
  go_wp2_with fail
  with_reducible refine (toS_Event l0 _ _ _ ?hy hs').mono ?_
  case hy => exact HC0.out
  rintro e w_5 ⟨v, rfl, hR, hu⟩
  have HB_5 : Sd (Upd No w w_5) := Sd.mk (Upd.then (by repeat (with_reducible first | exact HB_4.out | apply Upd.put2 | apply Upd.put1 | apply Upd.put0 | apply Upd.alloc | apply Upd.drewN | apply Upd.drew)) hu)
  replace HC0 := Sd.mk (C_upd hu HC0.out)
  replace Qx := Sd.mk (C_upd hu Qx.out)
  obtain ⟨By, zzy, rfl⟩ := R_slice hR
  have Qy := Sd.mk (R_C hR)
  clear hR
  clear hu
  go_wp2_with fail
  with_reducible refine (eqS_Event l0 _ _ _ _ _ ?he1 ?he2).mono ?_
  case he1 => exact Qx.out
  case he2 => exact Qy.out
  rintro e w_6 ⟨rfl, hu⟩
  have HB_6 : Sd (Upd No w w_6) := Sd.mk (Upd.then (by repeat (with_reducible first | exact HB_5.out | apply Upd.put2 | apply Upd.put1 | apply Upd.put0 | apply Upd.alloc | apply Upd.drewN | apply Upd.drew)) hu)
  replace HC0 := Sd.mk (C_upd hu HC0.out)
  replace Qx := Sd.mk (C_upd hu Qx.out)
  replace Qy := Sd.mk (C_upd hu Qy.out)
  clear hu
  go_wp2
  go_ret
  exact ⟨rfl, HB_6.out⟩
end Go.Proofs.YtliejlcoeoiajaaFam
