/- The contracts of the laws' own functions over Tag: to, sz, eq, mark, held. No conditions beyond the sizes that the contracts name. -/
import Derived.Test.YteffaeppagoogaaGreatProg
import Derived.Test.YteffaeppagoogaaGreatSep2
import Derived.Test.YteffaeppagoogaaGreatLst
import Derived.WalkKit
import Derived.KernelRfl
import Derived.RowKit3
import Derived.Deep.LoopGhost
import Derived.Deep.QuietTactic
import Derived.BigQuiet
import Derived.StillTailTactics
import Derived.Test.YteffaeppagoogaaGreatK
import Derived.Deep.RegionHeld3
import Derived.Test.YteffaeppagoogaaGreatFamText
namespace Go.Proofs.YteffaeppagoogaaGreatFam
open Go.RowKit Go.Proofs.YteffaeppagoogaaGreatSep Go.Proofs.YteffaeppagoogaaGreatT Go.Proofs.YteffaeppagoogaaGreatK
set_option linter.unusedVariables false
set_option linter.unusedSimpArgs false
theorem kl_Tag_Kmk (w : World) (x : GTag) : kl_Tag.K w x [.int .i64 x.Vat, .int .i64 x.Entity, .int .i64 x.Seq] := ⟨[_], [_, _], rfl, rfl, ⟨[_], [_], rfl, rfl, rfl⟩⟩
theorem ki_Tag_Kmk (w : World) (x : GTag) : ki_Tag.K w x [.int .i64 x.Vat, .int .i64 x.Entity, .int .i64 x.Seq] := ⟨[_], [_, _], rfl, rfl, ⟨[_], [_], rfl, rfl, rfl⟩⟩
set_option maxHeartbeats 1000000 in
set_option maxRecDepth 100000 in
theorem to_Tag (x : GTag) (cs : List Value) (w : World) (h : kl_Tag.K w x cs) (hs : szn_Tag x ≤ 1048576) : Calls Tryz.prog 47 #[.agg cs.toArray] w (RetAgg ki_Tag x w) := by
  obtain rfl := kl_Tag_K h
  clear hs
  go_enter Tryz.func47, Tryz.ntmps47
  go_wp2
  refine bodyPost_ret (v := .agg #[.int .i64 x.Vat, .int .i64 x.Entity, .int .i64 x.Seq]) (by simp [results, Tryz.results47, go_sem]) rfl ⟨_, rfl, ?_, (by repeat (with_reducible first | exact Upd.refl _ _ | apply Upd.put2 | apply Upd.put1 | apply Upd.put0 | apply Upd.alloc | apply Upd.drewN | apply Upd.drew))⟩
  exact ki_Tag_mk _ _ _
set_option maxHeartbeats 1000000 in
set_option maxRecDepth 100000 in
theorem eq_Tag (x : GTag) (cs cs' : List Value) (w : World) (h : ki_Tag.K w x cs) (h' : ki_Tag.K w x cs') : Calls Tryz.prog 78 #[.agg cs.toArray, .agg cs'.toArray] w (RetBool true w) := by
  obtain rfl := ki_Tag_K h
  obtain rfl := ki_Tag_K h'
  go_enter Tryz.func78, Tryz.ntmps78
  go_wp2
  go_ret
  exact ⟨rfl, (by repeat (with_reducible first | exact Upd.refl _ _ | apply Upd.put2 | apply Upd.put1 | apply Upd.put0 | apply Upd.alloc | apply Upd.drewN | apply Upd.drew))⟩
set_option maxHeartbeats 1000000 in
set_option maxRecDepth 100000 in
theorem eqS_Tag (l : List GTag) (A A' : Option Addr) (c c' : Nat) (w : World) (h : C ki_Tag w A l) (h' : C ki_Tag w A' l) : Calls Tryz.prog 31 #[.slice A l.length c, .slice A' l.length c'] w (RetBool true w) := by
  have hn := h.1
  have H := Sd.mk h
  have H' := Sd.mk h'
  clear h h'
  go_enter Tryz.func31, Tryz.ntmps31
  go_wp2
  go_loopg [5] l.length (fun k v wr => ∃ i : Nat, i + k = l.length ∧ v = .int .i64 i ∧ Sd (Upd No w wr))
  case atStart => exact ⟨0, by omega, rfl, ⟨Upd.refl _ _⟩⟩
  case round =>
    obtain ⟨i, hi, rfl, HU⟩ := hrel
    by_cases hlt : i < l.length
    · obtain ⟨ad, rfl, a0, a1, a2⟩ := ki_Tag_at (C_upd HU.out H.out) i hlt
      obtain ⟨ad', rfl, z0, z1, z2⟩ := ki_Tag_at (C_upd HU.out H'.out) i hlt
      go_wp2_with fail
      go_still_tail 8, (by kernel_rfl)
      change wpList _ _ _ _ _ wr.drew
      have HW : Sd (Upd No wr wr.drew) := ⟨(Upd.refl _ _).drew⟩
      have HU2 : Sd (Upd No w wr.drew) := ⟨HU.out.drew⟩
      generalize wr.drew = w2 at *
      go_wp2_with (go_at_call 78; (with_reducible refine (eq_Tag l[i] _ _ _ (ki_Tag_Kmk _ _) (ki_Tag_Kmk _ _)).mono ?_); rintro e w' ⟨rfl, hu⟩)
      have HU3 := Sd.mk (HU2.out.then hu)
      clear HU2 hu
      go_wp2
      go_roundg (gk - 1)
      case measure => omega
      case rel => exact ⟨i + 1, by omega, by go_num, HU3⟩
    · go_wp2
      go_ret
      exact ⟨rfl, HU.out⟩
set_option maxHeartbeats 1000000 in
set_option maxRecDepth 100000 in
theorem markS_Tag (l : List GTag) (k : Int) (F : Nat → Prop) (v : Value) (w : World) (h : R ki_Tag 57 w F v l) (hk : 0 ≤ k) (hb : k + cntS cnt_Tag l ≤ 4611686018427387904) : Calls Tryz.prog 33 #[v, .int .i64 k] w (Marks ki_Tag 57 F v (k + cntS cnt_Tag l) (mkS mk_Tag cnt_Tag k l) w) := by
  obtain ⟨A, c, rfl⟩ := R_slice h
  have hn := R_len h
  have H := Sd.mk h
  clear h
  go_enter Tryz.func33, Tryz.ntmps33
  go_wp2
  go_loopg [1, 5] l.length (fun r u v wr => ∃ i : Nat, i + r = l.length ∧ u = .int .i64 (k + cntS cnt_Tag (l.take i)) ∧ v = .int .i64 i ∧ Sd (R ki_Tag 57 wr F (.slice A l.length c) (upTo (mkS mk_Tag cnt_Tag k l) l i)) ∧ Sd (Upd F w wr))
  case atStart => exact ⟨0, by omega, by simp [cntS], rfl, ⟨by rw [upTo_zero]; exact H.out⟩, ⟨Upd.refl _ _⟩⟩
  case round =>
    obtain ⟨i, hi, rfl, rfl, HR, HU⟩ := hrel
    by_cases hlt : i < l.length
    · have hle := cntS_le cnt_Tag cnt_Tag_nn l i
      have hst := cntS_take cnt_Tag l i hlt
      have hle2 := cntS_le cnt_Tag cnt_Tag_nn l (i + 1)
      rw [hst] at hle2
      have HST := Sd.mk hst
      clear hst
      have HMA := Sd.mk (mkS_at mk_Tag cnt_Tag l k i hlt)
      obtain ⟨g, cap, cur, ce, Fi, hv, hcap, hat, hM, hg, hFi, hFg, close⟩ := R_elem HR.out 3 l.length rfl (upTo_len (mkS_len _ _ _ _) (by omega)) i l[i] (upTo_at (mkS_len _ _ _ _) hlt)
      cases hv
      obtain rfl := ki_Tag_M hM
      have HCN : Sd (cnt_Tag l[i] = cnt_Tag l[i]) := ⟨rfl⟩
      simp only [cnt_Tag] at hle2
      generalize hq : k + cntS cnt_Tag (l.take i) = q at *
      have HQ := Sd.mk hq
      have hq0 : 0 ≤ q := by omega
      have hqb : q + (((0 + 1) + 1) + 1) ≤ 4611686018427387904 := by omega
      clear hq hle hle2 hb
      have HAT := Sd.mk hat
      have x0_s := hat.cell0 _ rfl
      have x1_s := hat.cell 1 _ rfl
      have x2_s := hat.cell 2 _ rfl
      have f0_s := hat.free (i * 3)
      have f1_s := hat.free (i * 3 + 1)
      have f2_s := hat.free (i * 3 + 2)
      have CL := Sd.mk close
      clear hat close hM HR
      go_wp2
      have HA := (((HAT.out.set0 (by decide) (.int .i64 (q))).set 1 (by decide) (.int .i64 ((q + 1)))).set 2 (by decide) (.int .i64 (((q + 1) + 1))))
      have hy : (⟨q, (q + 1), ((q + 1) + 1)⟩ : GTag) = (mkS mk_Tag cnt_Tag k l)[i]'(by rw [mkS_len]; exact hlt) := by rw [HMA.out]; simp only [mk_Tag]
      have HRowB := CL.out _ _ (⟨q, (q + 1), ((q + 1) + 1)⟩ : GTag) Fi F HA (ki_Tag_mk _ Fi (⟨q, (q + 1), ((q + 1) + 1)⟩ : GTag)) (fun _ hb => .inl hb) (fun _ hb => hb) hFi
      rw [hy, upTo_set (mkS_len _ _ _ _) hlt] at HRowB
      go_roundg (gk - 1)
      case measure => omega
      case rel => exact ⟨i + 1, by omega, by rw [HST.out]; simp only [cnt_Tag]; have := HQ.out; exact congrArg (Value.int .i64) (by omega), by go_num, ⟨HRowB⟩, ⟨HU.out.trans HA.upd (fun _ _ hb => hb) (fun b _ hb => by rcases hb with rfl | hb; exact hg; exact hFi b hb)⟩⟩
    · go_wp2
      go_ret
      have HRowB := HR.out
      rw [upTo_end (mkS_len _ _ _ _) (by omega)] at HRowB
      have e : l.take i = l := List.take_of_length_le (by omega)
      exact ⟨ret_int (by rw [e]), HRowB, HU.out⟩
set_option maxHeartbeats 1000000 in
set_option maxRecDepth 100000 in
theorem heldS_Tag (l : List GTag) (k : Int) (A : Option Addr) (c : Nat) (w : World) (h : C ki_Tag w A (mkS mk_Tag cnt_Tag k l)) (hk : 0 ≤ k) (hb : k + cntS cnt_Tag l ≤ 4611686018427387904) : Calls Tryz.prog 34 #[.slice A l.length c, .int .i64 k] w (RetInt (k + cntS cnt_Tag l) w) := by
  have hn := h.1
  rw [mkS_len] at hn
  have H := Sd.mk h
  clear h
  go_enter Tryz.func34, Tryz.ntmps34
  go_wp2
  go_loopg [1, 5] l.length (fun r u v wr => ∃ i : Nat, i + r = l.length ∧ u = .int .i64 (k + cntS cnt_Tag (l.take i)) ∧ v = .int .i64 i ∧ Sd (Upd No w wr))
  case atStart => exact ⟨0, by omega, by simp [cntS], rfl, ⟨Upd.refl _ _⟩⟩
  case round =>
    obtain ⟨i, hi, rfl, rfl, HU⟩ := hrel
    by_cases hlt : i < l.length
    · have hle := cntS_le cnt_Tag cnt_Tag_nn l i
      have hst := cntS_take cnt_Tag l i hlt
      have hle2 := cntS_le cnt_Tag cnt_Tag_nn l (i + 1)
      rw [hst] at hle2
      have HST := Sd.mk hst
      clear hst
      obtain ⟨ad, rfl, a0, a1, a2⟩ := ki_Tag_at (C_upd HU.out H.out) i (by rw [mkS_len]; exact hlt)
      rw [mkS_at mk_Tag cnt_Tag l k i hlt] at a0 a1 a2
      simp only [mk_Tag] at a0 a1 a2
      simp only [cnt_Tag] at hle2
      generalize hq : k + cntS cnt_Tag (l.take i) = q at *
      have HQ := Sd.mk hq
      have hq0 : 0 ≤ q := by omega
      have hqb : q + (((0 + 1) + 1) + 1) ≤ 4611686018427387904 := by omega
      clear hq hle hle2 hb
      have HX := Sd.mk (Upd.refl No wr)
      go_wp2
      go_roundg (gk - 1)
      case measure => omega
      case rel => exact ⟨i + 1, by omega, by rw [HST.out]; simp only [cnt_Tag]; have := HQ.out; exact congrArg (Value.int .i64) (by omega), by go_num, ⟨HU.out.then HX.out⟩⟩
    · go_wp2
      go_ret
      have e : l.take i = l := List.take_of_length_le (by omega)
      exact ⟨ret_int (by rw [e]), HU.out⟩
end Go.Proofs.YteffaeppagoogaaGreatFam
