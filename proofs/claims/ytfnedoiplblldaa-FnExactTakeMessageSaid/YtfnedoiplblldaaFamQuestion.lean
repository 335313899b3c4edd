/- The contracts of the laws' own functions over Question: to, sz, eq, mark, held. No conditions beyond the sizes that the contracts name. -/
import Derived.Test.YtfnedoiplblldaaProg
import Derived.Test.YtfnedoiplblldaaSep2
import Derived.Test.YtfnedoiplblldaaLst
import Derived.WalkKit
import Derived.KernelRfl
import Derived.RowKit3
import Derived.Deep.LoopGhost
import Derived.Deep.QuietTactic
import Derived.BigQuiet
import Derived.StillTailTactics
import Derived.Test.YtfnedoiplblldaaK
import Derived.Deep.RegionHeld3
import Derived.Test.YtfnedoiplblldaaFamText
namespace Go.Proofs.YtfnedoiplblldaaFam
open Go.RowKit Go.Proofs.YtfnedoiplblldaaSep Go.Proofs.YtfnedoiplblldaaT Go.Proofs.YtfnedoiplblldaaK
set_option linter.unusedVariables false
set_option linter.unusedSimpArgs false
theorem kl_Question_Kmk (w : World) (x : GQuestion) : kl_Question.K w x [.int .i64 x.Id, .int .i64 x.Promise] := ⟨[_], [_], rfl, rfl, rfl⟩
theorem ki_Question_Kmk (w : World) (x : GQuestion) : ki_Question.K w x [.int .i64 x.Id, .int .i64 x.Promise] := ⟨[_], [_], rfl, rfl, rfl⟩
set_option maxHeartbeats 1000000 in
set_option maxRecDepth 100000 in
theorem to_Question (x : GQuestion) (cs : List Value) (w : World) (h : kl_Question.K w x cs) (hs : szn_Question x ≤ 1048576) : Calls Try.prog 172 #[.agg cs.toArray] w (RetAgg ki_Question x w) := by
  obtain rfl := kl_Question_K h
  clear hs
  go_enter Try.func172, Try.ntmps172
  go_wp2
  refine bodyPost_ret (v := .agg #[.int .i64 x.Id, .int .i64 x.Promise]) (by simp [results, Try.results172, go_sem]) rfl ⟨_, rfl, ?_, (by repeat (with_reducible first | exact Upd.refl _ _ | apply Upd.put2 | apply Upd.put1 | apply Upd.put0 | apply Upd.alloc | apply Upd.drewN | apply Upd.drew))⟩
  exact ki_Question_mk _ _ _
set_option maxHeartbeats 1000000 in
set_option maxRecDepth 100000 in
theorem toS_Question (l : List GQuestion) (A : Option Addr) (c : Nat) (w : World) (h : C kl_Question w A l) (hs : sznS szn_Question l ≤ 1048576) : Calls Try.prog 158 #[.slice A l.length c] w (RetRow ki_Question 230 l w) := by
  have hn : l.length ≤ 1048576 := by unfold sznS at hs; omega
  have hmk := run_made (P := Try.prog) _ _ _ Try.underlying95 ki_Question_info l.length hn (by decide)
  have H := Sd.mk h
  have HS := Sd.mk hs
  clear h hs
  go_enter Try.func158, Try.ntmps158
  go_wp2
  clear hmk
  have HR : Sd (R ki_Question 230 (w.alloc (madeObj (.agg #[.int .i64 0, .int .i64 0]) (l.length * 2) 230)) (New w) (.slice (some ⟨w.heap.size, 0, none⟩) l.length l.length) (List.replicate l.length zQuestion)) := Sd.mk (R_made (d := ki_Question) (e := 230) w (.agg #[.int .i64 0, .int .i64 0]) zQuestion rfl (by decide) ki_Question_zero l.length hn)
  have HU := Sd.mk ((Upd.refl No w).alloc (madeObj (.agg #[.int .i64 0, .int .i64 0]) (l.length * 2) 230))
  go_loopg [4] l.length (fun k v wr => ∃ i : Nat, i + k = l.length ∧ v = .int .i64 i ∧ Sd (R ki_Question 230 wr (New w) (.slice (some ⟨w.heap.size, 0, none⟩) l.length l.length) (upTo l (List.replicate l.length zQuestion) i)) ∧ Sd (Upd No w wr))
  case atStart => exact ⟨0, by omega, rfl, ⟨by rw [upTo_zero]; exact HR.out⟩, HU⟩
  case round =>
    clear HR HU
    obtain ⟨i, hi, rfl, HR, HU⟩ := hrel
    by_cases hlt : i < l.length
    · obtain ⟨ad, rfl, a0, a1⟩ := kl_Question_at (C_upd HU.out H.out) i hlt
      have hsi : szn_Question l[i] ≤ 1048576 := by have := HS.out; have := sumS_at szn_Question l i hlt; unfold sznS at *; omega
      go_wp2_with fail
      with_reducible refine (to_Question l[i] _ _ (kl_Question_Kmk _ _) hsi).mono ?_
      rintro e w1 ⟨cs, rfl, hM, hu⟩
      obtain rfl := ki_Question_M hM
      have HRowA := R_upd hu (fun _ _ q => q) (R_lt HR.out)
      have HU1 := Sd.mk (HU.out.then hu)
      have hzw := HU.out.size
      clear HR HU hM hu
      obtain ⟨g, cap, cur, ce, Fi, hv, hcap, hat, hM, hg, hFi, hFg, close⟩ := R_elem HRowA 2 l.length rfl (by rw [upTo_len (by simp) (by simp; omega)]; simp) i zQuestion (by rw [upTo_at (by simp) (by simpa using hlt)]; simp)
      cases hv
      obtain rfl := ki_Question_M hM
      have HAT := Sd.mk hat
      have x0 := hat.cell0 _ rfl
      have x1 := hat.cell 1 _ rfl
      have f0 := hat.free (i * 2)
      have f1 := hat.free (i * 2 + 1)
      have CL := Sd.mk close
      clear hat close hM HRowA
      go_wp2
      have HA := (HAT.out.set0 (by decide) (.int .i64 l[i].Id)).set 1 (by decide) (.int .i64 l[i].Promise)
      have HRowB := CL.out _ _ l[i] No (New w) HA (ki_Question_mk _ _ _) (fun _ q => q.elim) (fun _ q => q.1) (fun _ q => q.elim)
      rw [upTo_set (by simp) (by simpa using hlt)] at HRowB
      go_roundg (gk - 1)
      case measure => omega
      case rel => exact ⟨i + 1, by omega, by go_num, ⟨HRowB⟩, ⟨by repeat (with_reducible first | exact HU1.out | apply Upd.put0)⟩⟩
    · go_wp2
      go_ret
      have HRowB := HR.out
      rw [upTo_end (by simp) (by simp; omega)] at HRowB
      exact ⟨_, rfl, HRowB, HU.out⟩
set_option maxHeartbeats 1000000 in
set_option maxRecDepth 100000 in
theorem szS_Question (l : List GQuestion) (A : Option Addr) (c : Nat) (n : Int) (w : World) (h : C kl_Question w A l) (h0 : 0 ≤ n) (h1 : n ≤ 1048576) : Calls Try.prog 154 #[.slice A l.length c, .int .i64 n] w (RetSz (sznS szn_Question l) n w) := by
  have hn := h.1
  have H := Sd.mk h
  clear h
  go_enter Try.func154, Try.ntmps154
  by_cases q0 : (l.length : Int) ≤ n
  case neg =>
    go_wp2
    go_ret
    exact ⟨_, rfl, .inr ⟨by unfold sznS; omega, rfl⟩, Upd.refl _ _⟩
  have hz : sumS szn_Question l = 0 := by
    clear q0 hn H
    induction l with
    | nil => rfl
    | cons x l ih => simp [sumS, szn_Question, ih]
  have HZ := Sd.mk hz
  clear hz
  go_wp2
  go_ret
  have hz := HZ.out
  exact ⟨_, rfl, .inl ⟨by unfold sznS; omega, by unfold sznS; omega⟩, Upd.refl _ _⟩
set_option maxHeartbeats 1000000 in
set_option maxRecDepth 100000 in
theorem eq_Question (x : GQuestion) (cs cs' : List Value) (w : World) (h : ki_Question.K w x cs) (h' : ki_Question.K w x cs') : Calls Try.prog 169 #[.agg cs.toArray, .agg cs'.toArray] w (RetBool true w) := by
  obtain rfl := ki_Question_K h
  obtain rfl := ki_Question_K h'
  go_enter Try.func169, Try.ntmps169
  go_wp2
  go_ret
  exact ⟨rfl, (by repeat (with_reducible first | exact Upd.refl _ _ | apply Upd.put2 | apply Upd.put1 | apply Upd.put0 | apply Upd.alloc | apply Upd.drewN | apply Upd.drew))⟩
set_option maxHeartbeats 1000000 in
set_option maxRecDepth 100000 in
theorem eqS_Question (l : List GQuestion) (A A' : Option Addr) (c c' : Nat) (w : World) (h : C ki_Question w A l) (h' : C ki_Question w A' l) : Calls Try.prog 152 #[.slice A l.length c, .slice A' l.length c'] w (RetBool true w) := by
  have hn := h.1
  have H := Sd.mk h
  have H' := Sd.mk h'
  clear h h'
  go_enter Try.func152, Try.ntmps152
  go_wp2
  go_loopg [5] l.length (fun k v wr => ∃ i : Nat, i + k = l.length ∧ v = .int .i64 i ∧ Sd (Upd No w wr))
  case atStart => exact ⟨0, by omega, rfl, ⟨Upd.refl _ _⟩⟩
  case round =>
    obtain ⟨i, hi, rfl, HU⟩ := hrel
    by_cases hlt : i < l.length
    · obtain ⟨ad, rfl, a0, a1⟩ := ki_Question_at (C_upd HU.out H.out) i hlt
      obtain ⟨ad', rfl, z0, z1⟩ := ki_Question_at (C_upd HU.out H'.out) i hlt
      go_wp2_with fail
      go_still_tail 8, (by kernel_rfl)
      change wpList _ _ _ _ _ wr.drew
      have HW : Sd (Upd No wr wr.drew) := ⟨(Upd.refl _ _).drew⟩
      have HU2 : Sd (Upd No w wr.drew) := ⟨HU.out.drew⟩
      generalize wr.drew = w2 at *
      go_wp2_with (go_at_call 169; (with_reducible refine (eq_Question l[i] _ _ _ (ki_Question_Kmk _ _) (ki_Question_Kmk _ _)).mono ?_); rintro e w' ⟨rfl, hu⟩)
      have HU3 := Sd.mk (HU2.out.then hu)
      clear HU2 hu
      go_wp2
      go_roundg (gk - 1)
      case measure => omega
      case rel => exact ⟨i + 1, by omega, by go_num, HU3⟩
    · go_wp2
      go_ret
      exact ⟨rfl, HU.out⟩
set_option maxHeartbeats 1000000 in
set_option maxRecDepth 100000 in
theorem markS_Question (l : List GQuestion) (k : Int) (F : Nat → Prop) (v : Value) (w : World) (h : R ki_Question 230 w F v l) (hk : 0 ≤ k) (hb : k + cntS cnt_Question l ≤ 4611686018427387904) : Calls Try.prog 120 #[v, .int .i64 k] w (Marks ki_Question 230 F v (k + cntS cnt_Question l) (mkS mk_Question cnt_Question k l) w) := by
  obtain ⟨A, c, rfl⟩ := R_slice h
  have hn := R_len h
  have H := Sd.mk h
  clear h
  go_enter Try.func120, Try.ntmps120
  go_wp2
  go_loopg [1, 5] l.length (fun r u v wr => ∃ i : Nat, i + r = l.length ∧ u = .int .i64 (k + cntS cnt_Question (l.take i)) ∧ v = .int .i64 i ∧ Sd (R ki_Question 230 wr F (.slice A l.length c) (upTo (mkS mk_Question cnt_Question k l) l i)) ∧ Sd (Upd F w wr))
  case atStart => exact ⟨0, by omega, by simp [cntS], rfl, ⟨by rw [upTo_zero]; exact H.out⟩, ⟨Upd.refl _ _⟩⟩
  case round =>
    obtain ⟨i, hi, rfl, rfl, HR, HU⟩ := hrel
    by_cases hlt : i < l.length
    · have hle := cntS_le cnt_Question cnt_Question_nn l i
      have hst := cntS_take cnt_Question l i hlt
      have hle2 := cntS_le cnt_Question cnt_Question_nn l (i + 1)
      rw [hst] at hle2
      have HST := Sd.mk hst
      clear hst
      have HMA := Sd.mk (mkS_at mk_Question cnt_Question l k i hlt)
      obtain ⟨g, cap, cur, ce, Fi, hv, hcap, hat, hM, hg, hFi, hFg, close⟩ := R_elem HR.out 2 l.length rfl (upTo_len (mkS_len _ _ _ _) (by omega)) i l[i] (upTo_at (mkS_len _ _ _ _) hlt)
      cases hv
      obtain rfl := ki_Question_M hM
      have HCN : Sd (cnt_Question l[i] = cnt_Question l[i]) := ⟨rfl⟩
      simp only [cnt_Question] at hle2
      generalize hq : k + cntS cnt_Question (l.take i) = q at *
      have HQ := Sd.mk hq
      have hq0 : 0 ≤ q := by omega
      have hqb : q + ((0 + 1) + 1) ≤ 4611686018427387904 := by omega
      clear hq hle hle2 hb
      have HAT := Sd.mk hat
      have x0_s := hat.cell0 _ rfl
      have x1_s := hat.cell 1 _ rfl
      have f0_s := hat.free (i * 2)
      have f1_s := hat.free (i * 2 + 1)
      have CL := Sd.mk close
      clear hat close hM HR
      go_wp2
      have HA := ((HAT.out.set0 (by decide) (.int .i64 (q))).set 1 (by decide) (.int .i64 ((q + 1))))
      have hy : (⟨q, (q + 1)⟩ : GQuestion) = (mkS mk_Question cnt_Question k l)[i]'(by rw [mkS_len]; exact hlt) := by rw [HMA.out]; simp only [mk_Question]
      have HRowB := CL.out _ _ (⟨q, (q + 1)⟩ : GQuestion) Fi F HA (ki_Question_mk _ Fi (⟨q, (q + 1)⟩ : GQuestion)) (fun _ hb => .inl hb) (fun _ hb => hb) hFi
      rw [hy, upTo_set (mkS_len _ _ _ _) hlt] at HRowB
      go_roundg (gk - 1)
      case measure => omega
      case rel => exact ⟨i + 1, by omega, by rw [HST.out]; simp only [cnt_Question]; have := HQ.out; exact congrArg (Value.int .i64) (by omega), by go_num, ⟨HRowB⟩, ⟨HU.out.trans HA.upd (fun _ _ hb => hb) (fun b _ hb => by rcases hb with rfl | hb; exact hg; exact hFi b hb)⟩⟩
    · go_wp2
      go_ret
      have HRowB := HR.out
      rw [upTo_end (mkS_len _ _ _ _) (by omega)] at HRowB
      have e : l.take i = l := List.take_of_length_le (by omega)
      exact ⟨ret_int (by rw [e]), HRowB, HU.out⟩
set_option maxHeartbeats 1000000 in
set_option maxRecDepth 100000 in
theorem heldS_Question (l : List GQuestion) (k : Int) (A : Option Addr) (c : Nat) (w : World) (h : C ki_Question w A (mkS mk_Question cnt_Question k l)) (hk : 0 ≤ k) (hb : k + cntS cnt_Question l ≤ 4611686018427387904) : Calls Try.prog 124 #[.slice A l.length c, .int .i64 k] w (RetInt (k + cntS cnt_Question l) w) := by
  have hn := h.1
  rw [mkS_len] at hn
  have H := Sd.mk h
  clear h
  go_enter Try.func124, Try.ntmps124
  go_wp2
  go_loopg [1, 5] l.length (fun r u v wr => ∃ i : Nat, i + r = l.length ∧ u = .int .i64 (k + cntS cnt_Question (l.take i)) ∧ v = .int .i64 i ∧ Sd (Upd No w wr))
  case atStart => exact ⟨0, by omega, by simp [cntS], rfl, ⟨Upd.refl _ _⟩⟩
  case round =>
    obtain ⟨i, hi, rfl, rfl, HU⟩ := hrel
    by_cases hlt : i < l.length
    · have hle := cntS_le cnt_Question cnt_Question_nn l i
      have hst := cntS_take cnt_Question l i hlt
      have hle2 := cntS_le cnt_Question cnt_Question_nn l (i + 1)
      rw [hst] at hle2
      have HST := Sd.mk hst
      clear hst
      obtain ⟨ad, rfl, a0, a1⟩ := ki_Question_at (C_upd HU.out H.out) i (by rw [mkS_len]; exact hlt)
      rw [mkS_at mk_Question cnt_Question l k i hlt] at a0 a1
      simp only [mk_Question] at a0 a1
      simp only [cnt_Question] at hle2
      generalize hq : k + cntS cnt_Question (l.take i) = q at *
      have HQ := Sd.mk hq
      have hq0 : 0 ≤ q := by omega
      have hqb : q + ((0 + 1) + 1) ≤ 4611686018427387904 := by omega
      clear hq hle hle2 hb
      have HX := Sd.mk (Upd.refl No wr)
      go_wp2
      go_roundg (gk - 1)
      case measure => omega
      case rel => exact ⟨i + 1, by omega, by rw [HST.out]; simp only [cnt_Question]; have := HQ.out; exact congrArg (Value.int .i64) (by omega), by go_num, ⟨HU.out.then HX.out⟩⟩
    · go_wp2
      go_ret
      have e : l.take i = l := List.take_of_length_le (by omega)
      exact ⟨ret_int (by rw [e]), HU.out⟩
end Go.Proofs.YtfnedoiplblldaaFam
