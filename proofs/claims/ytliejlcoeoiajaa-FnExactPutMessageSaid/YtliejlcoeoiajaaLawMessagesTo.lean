/- The law MessagesTo, walked. No conditions beyond the sizes that the contracts name. -/
import Derived.Test.YtliejlcoeoiajaaProg
import Derived.Test.YtliejlcoeoiajaaSep2
import Derived.Test.YtliejlcoeoiajaaLst
import Derived.WalkKit
import Derived.KernelRfl
import Derived.RowKit3
import Derived.Deep.LoopGhost
import Derived.Deep.QuietTactic
import Derived.BigQuiet
import Derived.StillTailTactics
import Derived.Test.YtliejlcoeoiajaaK
import Derived.Deep.RegionHeld3
import Derived.Test.YtliejlcoeoiajaaFamChannel
import Derived.Test.YtliejlcoeoiajaaMsgsTo
namespace Go.Proofs.YtliejlcoeoiajaaFam
open Go.RowKit Go.Proofs.YtliejlcoeoiajaaSep Go.Proofs.YtliejlcoeoiajaaT Go.Proofs.YtliejlcoeoiajaaK
set_option linter.unusedVariables false
set_option linter.unusedSimpArgs false
theorem bds (l : List GChannel) (h : sznS szn_Channel l ≤ 1048576) : ∀ y ∈ l, y.List.length ≤ 1048576 ∧ ∀ z ∈ y.List, z.Args.length ≤ 1048576 := by
  intro y hy
  obtain ⟨i, hi, rfl⟩ := List.mem_iff_getElem.1 hy
  have h1 := sumS_at szn_Channel l i hi
  have h2 : szn_Channel l[i] ≤ 1048576 := by unfold sznS at h; omega
  unfold szn_Channel at h2
  refine ⟨by unfold sznS at h2; omega, fun z hz => ?_⟩
  obtain ⟨j, hj, rfl⟩ := List.mem_iff_getElem.1 hz
  have h3 := sumS_at szn_Message l[i].List j hj
  have h4 : szn_Message l[i].List[j] ≤ 1048576 := by unfold sznS at h2; omega
  unfold szn_Message sznS at h4
  omega
theorem msgsTo_bd (a b : Int) (l : List GChannel) (h : sznS szn_Channel l ≤ 1048576) : sznS szn_Message (msgsTo a b l) ≤ 1048576 := by
  rcases fidx_cases (chP a b) l with h0 | ⟨i, hi, h0⟩
  · rw [msgsTo_no a b l h0]; simp [sznS, sumS]
  · rw [msgsTo_at a b l i hi h0]
    have h1 := sumS_at szn_Channel l i hi
    unfold sznS at h
    have h2 : szn_Channel l[i] ≤ 1048576 := by omega
    exact h2
set_option maxHeartbeats 1000000 in
set_option maxRecDepth 100000 in
theorem law_FnExactMessagesTo (w : World) (l0 : List GChannel) (A0 : Option Addr) (c0 : Nat) (hC0 : C kl_Channel w A0 l0) (hl0 : l0.length ≤ c0) (hG0 : l0.length ≤ 9223372036854775807 ∧ ∀ y ∈ l0, Gd_Channel y) (a1 : Int) (w1 : (Lit.int .i64 a1).wf = true) (a2 : Int) (w2 : (Lit.int .i64 a2).wf = true) : Calls Try.prog 10 #[.slice A0 l0.length c0, .int .i64 a1, .int .i64 a2] w (RetBool true w) := by
  have HC0 := Sd.mk hC0
  clear hC0
  go_enter Try.func10, Try.ntmps10
  try go_wp2_with fail
  with_reducible refine (szS_Channel l0 _ _ _ _ ?hsz (fun y hy => Bd_of_Channel (hG0.2 y hy)) (by omega) (by omega)).mono ?_
  case hsz => exact (C_upd (Upd.refl No w) HC0.out)
  rintro e w_0 ⟨r, rfl, hr, hu⟩
  have HS_0 := Sd.mk hu.size
  have HB_0 : Sd (Upd No w w_0) := Sd.mk (Upd.then (Upd.refl No w) hu)
  clear hu
  rcases hr with ⟨hs, rfl⟩ | ⟨hs, rfl⟩
  case inr =>
    go_wp2
    go_ret
    exact ⟨rfl, HB_0.out⟩
  have hs' : sznS szn_Channel l0 ≤ 1048576 := by omega
  have hn : l0.length ≤ 1048576 := by unfold sznS at hs'; omega
  have hbr : sznS szn_Message (msgsTo a1 a2 l0) ≤ 1048576 := msgsTo_bd a1 a2 l0 hs'
  have HCX := Sd.mk (cntS_bound cnt_Channel szn_Channel cnt_Channel_le l0)
  have HCR := Sd.mk (cntS_bound cnt_Message szn_Message cnt_Message_le (msgsTo a1 a2 l0))
  have nx := cntS_nn cnt_Channel cnt_Channel_nn l0
  have nr := cntS_nn cnt_Message cnt_Message_nn (msgsTo a1 a2 l0)
  try go_wp2_with fail
  with_reducible refine (toS_Channel l0 _ _ _ ?h hs').mono ?_
  case h => exact (C_upd HB_0.out HC0.out)
  rintro e w_1 ⟨v, rfl, hR, hu⟩
  have HS_1 := Sd.mk hu.size
  have HB_1 : Sd (Upd No w w_1) := Sd.mk (Upd.then HB_0.out hu)
  obtain ⟨BRs, zRs, rfl⟩ := R_slice hR
  have Rs := Sd.mk (R_iv hR)
  clear hR
  clear hu
  try go_wp2_with fail
  with_reducible refine (messagesTo_s l0 a1 a2 _ _ _ ?h hn (bds l0 hs')).mono ?_
  case h => exact (R_C Rs.out)
  rintro e w_2 ⟨v, rfl, hR, hu⟩
  have HS_2 := Sd.mk hu.size
  replace Rs := Sd.mk (R_upd hu (fun _ _ q => q) Rs.out)
  have HB_2 : Sd (Upd No w w_2) := Sd.mk (Upd.then HB_1.out hu)
  obtain ⟨BRw, zRw, rfl⟩ := R_slice hR
  have Rw := Sd.mk (R_iv hR)
  clear hR
  clear hu
  try go_wp2_with fail
  with_reducible refine (toS_Channel l0 _ _ _ ?h hs').mono ?_
  case h => exact (C_upd HB_2.out HC0.out)
  rintro e w_3 ⟨v, rfl, hR, hu⟩
  have HS_3 := Sd.mk hu.size
  replace Rs := Sd.mk (R_upd hu (fun _ _ q => q) Rs.out)
  replace Rw := Sd.mk (R_upd hu (fun _ _ q => q) Rw.out)
  have HB_3 : Sd (Upd No w w_3) := Sd.mk (Upd.then HB_2.out hu)
  obtain ⟨BRx, zRx, rfl⟩ := R_slice hR
  have Rx := Sd.mk (R_iv hR)
  clear hR
  clear hu
  try go_wp2_with fail
  with_reducible refine (messagesTo_i l0 a1 a2 _ _ _ ?h hn (bds l0 hs')).mono ?_
  case h => exact (R_C Rx.out)
  rintro e w_4 ⟨v, rfl, hR, hu⟩
  have HS_4 := Sd.mk hu.size
  replace Rs := Sd.mk (R_upd hu (fun _ _ q => q) Rs.out)
  replace Rw := Sd.mk (R_upd hu (fun _ _ q => q) Rw.out)
  replace Rx := Sd.mk (R_upd hu (fun _ _ q => q) Rx.out)
  have HB_4 : Sd (Upd No w w_4) := Sd.mk (Upd.then HB_3.out hu)
  obtain ⟨BRg, zRg, rfl⟩ := R_slice hR
  have Rg := Sd.mk (R_iv hR)
  clear hR
  clear hu
  try go_wp2_with fail
  with_reducible refine (eqS_Message (msgsTo a1 a2 l0) _ _ _ _ _ ?h1 ?h2).mono ?_
  case h1 => exact (R_C Rg.out)
  case h2 => exact (R_C Rw.out)
  rintro e w_5 ⟨rfl, hu⟩
  have HS_5 := Sd.mk hu.size
  replace Rs := Sd.mk (R_upd hu (fun _ _ q => q) Rs.out)
  replace Rw := Sd.mk (R_upd hu (fun _ _ q => q) Rw.out)
  replace Rx := Sd.mk (R_upd hu (fun _ _ q => q) Rx.out)
  replace Rg := Sd.mk (R_upd hu (fun _ _ q => q) Rg.out)
  have HB_5 : Sd (Upd No w w_5) := Sd.mk (Upd.then HB_4.out hu)
  clear hu
  try go_wp2_with fail
  with_reducible refine (toS_Channel l0 _ _ _ ?h hs').mono ?_
  case h => exact (C_upd HB_5.out HC0.out)
  rintro e w_6 ⟨v, rfl, hR, hu⟩
  have HS_6 := Sd.mk hu.size
  replace Rs := Sd.mk (R_upd hu (fun _ _ q => q) Rs.out)
  replace Rw := Sd.mk (R_upd hu (fun _ _ q => q) Rw.out)
  replace Rx := Sd.mk (R_upd hu (fun _ _ q => q) Rx.out)
  replace Rg := Sd.mk (R_upd hu (fun _ _ q => q) Rg.out)
  have HB_6 : Sd (Upd No w w_6) := Sd.mk (Upd.then HB_5.out hu)
  obtain ⟨BRy, zRy, rfl⟩ := R_slice hR
  have Ry := Sd.mk (R_iv hR)
  clear hR
  clear hu
  try go_wp2_with fail
  with_reducible refine (eqS_Channel l0 _ _ _ _ _ ?h1 ?h2).mono ?_
  case h1 => exact (R_C Rx.out)
  case h2 => exact (R_C Ry.out)
  rintro e w_7 ⟨rfl, hu⟩
  have HS_7 := Sd.mk hu.size
  replace Rs := Sd.mk (R_upd hu (fun _ _ q => q) Rs.out)
  replace Rw := Sd.mk (R_upd hu (fun _ _ q => q) Rw.out)
  replace Rx := Sd.mk (R_upd hu (fun _ _ q => q) Rx.out)
  replace Rg := Sd.mk (R_upd hu (fun _ _ q => q) Rg.out)
  replace Ry := Sd.mk (R_upd hu (fun _ _ q => q) Ry.out)
  have HB_7 : Sd (Upd No w w_7) := Sd.mk (Upd.then HB_6.out hu)
  clear hu
  try go_wp2_with fail
  with_reducible refine (markS_Channel l0 _ (Iv w_2.heap.size w_3.heap.size) _ _ ?h (by omega) (by have := HCX.out; omega)).mono ?_
  case h => exact Rx.out
  rintro e w_8 ⟨rfl, hR, hu⟩
  have HS_8 := Sd.mk hu.size
  replace Rs := Sd.mk (R_upd hu (Iv_apart (by first | (left; have := HS_0.out; have := HS_1.out; have := HS_2.out; have := HS_3.out; have := HS_4.out; have := HS_5.out; have := HS_6.out; have := HS_7.out; have := HS_8.out; omega) | (right; have := HS_0.out; have := HS_1.out; have := HS_2.out; have := HS_3.out; have := HS_4.out; have := HS_5.out; have := HS_6.out; have := HS_7.out; have := HS_8.out; omega))) Rs.out)
  replace Rw := Sd.mk (R_upd hu (Iv_apart (by first | (left; have := HS_0.out; have := HS_1.out; have := HS_2.out; have := HS_3.out; have := HS_4.out; have := HS_5.out; have := HS_6.out; have := HS_7.out; have := HS_8.out; omega) | (right; have := HS_0.out; have := HS_1.out; have := HS_2.out; have := HS_3.out; have := HS_4.out; have := HS_5.out; have := HS_6.out; have := HS_7.out; have := HS_8.out; omega))) Rw.out)
  replace Rg := Sd.mk (R_upd hu (Iv_apart (by first | (left; have := HS_0.out; have := HS_1.out; have := HS_2.out; have := HS_3.out; have := HS_4.out; have := HS_5.out; have := HS_6.out; have := HS_7.out; have := HS_8.out; omega) | (right; have := HS_0.out; have := HS_1.out; have := HS_2.out; have := HS_3.out; have := HS_4.out; have := HS_5.out; have := HS_6.out; have := HS_7.out; have := HS_8.out; omega))) Rg.out)
  replace Ry := Sd.mk (R_upd hu (Iv_apart (by first | (left; have := HS_0.out; have := HS_1.out; have := HS_2.out; have := HS_3.out; have := HS_4.out; have := HS_5.out; have := HS_6.out; have := HS_7.out; have := HS_8.out; omega) | (right; have := HS_0.out; have := HS_1.out; have := HS_2.out; have := HS_3.out; have := HS_4.out; have := HS_5.out; have := HS_6.out; have := HS_7.out; have := HS_8.out; omega))) Ry.out)
  have HB_8 : Sd (Upd No w w_8) := Sd.mk (Upd.iv HB_7.out hu (by have := HS_0.out; have := HS_1.out; have := HS_2.out; have := HS_3.out; have := HS_4.out; have := HS_5.out; have := HS_6.out; have := HS_7.out; have := HS_8.out; omega))
  clear Rx
  clear hu
  try go_wp2_with fail
  with_reducible refine (eqS_Message (msgsTo a1 a2 l0) _ _ _ _ _ ?h1 ?h2).mono ?_
  case h1 => exact (R_C Rg.out)
  case h2 => exact (R_C Rw.out)
  rintro e w_9 ⟨rfl, hu⟩
  have HS_9 := Sd.mk hu.size
  replace Rs := Sd.mk (R_upd hu (fun _ _ q => q) Rs.out)
  replace Rw := Sd.mk (R_upd hu (fun _ _ q => q) Rw.out)
  replace Rg := Sd.mk (R_upd hu (fun _ _ q => q) Rg.out)
  replace Ry := Sd.mk (R_upd hu (fun _ _ q => q) Ry.out)
  have HB_9 : Sd (Upd No w w_9) := Sd.mk (Upd.then HB_8.out hu)
  clear hu
  try go_wp2_with fail
  with_reducible refine (markS_Message (msgsTo a1 a2 l0) _ (Iv w_3.heap.size w_4.heap.size) _ _ ?h (by omega) (by have := HCR.out; omega)).mono ?_
  case h => exact Rg.out
  rintro e w_10 ⟨rfl, hR, hu⟩
  have HS_10 := Sd.mk hu.size
  replace Rs := Sd.mk (R_upd hu (Iv_apart (by first | (left; have := HS_0.out; have := HS_1.out; have := HS_2.out; have := HS_3.out; have := HS_4.out; have := HS_5.out; have := HS_6.out; have := HS_7.out; have := HS_8.out; have := HS_9.out; have := HS_10.out; omega) | (right; have := HS_0.out; have := HS_1.out; have := HS_2.out; have := HS_3.out; have := HS_4.out; have := HS_5.out; have := HS_6.out; have := HS_7.out; have := HS_8.out; have := HS_9.out; have := HS_10.out; omega))) Rs.out)
  replace Rw := Sd.mk (R_upd hu (Iv_apart (by first | (left; have := HS_0.out; have := HS_1.out; have := HS_2.out; have := HS_3.out; have := HS_4.out; have := HS_5.out; have := HS_6.out; have := HS_7.out; have := HS_8.out; have := HS_9.out; have := HS_10.out; omega) | (right; have := HS_0.out; have := HS_1.out; have := HS_2.out; have := HS_3.out; have := HS_4.out; have := HS_5.out; have := HS_6.out; have := HS_7.out; have := HS_8.out; have := HS_9.out; have := HS_10.out; omega))) Rw.out)
  replace Ry := Sd.mk (R_upd hu (Iv_apart (by first | (left; have := HS_0.out; have := HS_1.out; have := HS_2.out; have := HS_3.out; have := HS_4.out; have := HS_5.out; have := HS_6.out; have := HS_7.out; have := HS_8.out; have := HS_9.out; have := HS_10.out; omega) | (right; have := HS_0.out; have := HS_1.out; have := HS_2.out; have := HS_3.out; have := HS_4.out; have := HS_5.out; have := HS_6.out; have := HS_7.out; have := HS_8.out; have := HS_9.out; have := HS_10.out; omega))) Ry.out)
  have HB_10 : Sd (Upd No w w_10) := Sd.mk (Upd.iv HB_9.out hu (by have := HS_0.out; have := HS_1.out; have := HS_2.out; have := HS_3.out; have := HS_4.out; have := HS_5.out; have := HS_6.out; have := HS_7.out; have := HS_8.out; have := HS_9.out; have := HS_10.out; omega))
  clear Rg
  have Rm := Sd.mk hR
  clear hR
  clear hu
  try go_wp2_with fail
  with_reducible refine (heldS_Message (msgsTo a1 a2 l0) _ _ _ _ ?h (by omega) (by have := HCR.out; omega)).mono ?_
  case h => exact (R_C Rm.out)
  rintro e w_11 ⟨rfl, hu⟩
  have HS_11 := Sd.mk hu.size
  replace Rs := Sd.mk (R_upd hu (fun _ _ q => q) Rs.out)
  replace Rw := Sd.mk (R_upd hu (fun _ _ q => q) Rw.out)
  replace Ry := Sd.mk (R_upd hu (fun _ _ q => q) Ry.out)
  replace Rm := Sd.mk (R_upd hu (fun _ _ q => q) Rm.out)
  have HB_11 : Sd (Upd No w w_11) := Sd.mk (Upd.then HB_10.out hu)
  clear hu
  try go_wp2_with fail
  with_reducible refine (toS_Channel l0 _ _ _ ?h hs').mono ?_
  case h => exact (C_upd HB_11.out HC0.out)
  rintro e w_12 ⟨v, rfl, hR, hu⟩
  have HS_12 := Sd.mk hu.size
  replace Rs := Sd.mk (R_upd hu (fun _ _ q => q) Rs.out)
  replace Rw := Sd.mk (R_upd hu (fun _ _ q => q) Rw.out)
  replace Ry := Sd.mk (R_upd hu (fun _ _ q => q) Ry.out)
  replace Rm := Sd.mk (R_upd hu (fun _ _ q => q) Rm.out)
  have HB_12 : Sd (Upd No w w_12) := Sd.mk (Upd.then HB_11.out hu)
  obtain ⟨BRz, zRz, rfl⟩ := R_slice hR
  have Rz := Sd.mk (R_iv hR)
  clear hR
  clear hu
  try go_wp2_with fail
  with_reducible refine (messagesTo_i l0 a1 a2 _ _ _ ?h hn (bds l0 hs')).mono ?_
  case h => exact (R_C Rz.out)
  rintro e w_13 ⟨v, rfl, hR, hu⟩
  have HS_13 := Sd.mk hu.size
  replace Rs := Sd.mk (R_upd hu (fun _ _ q => q) Rs.out)
  replace Rw := Sd.mk (R_upd hu (fun _ _ q => q) Rw.out)
  replace Ry := Sd.mk (R_upd hu (fun _ _ q => q) Ry.out)
  replace Rm := Sd.mk (R_upd hu (fun _ _ q => q) Rm.out)
  replace Rz := Sd.mk (R_upd hu (fun _ _ q => q) Rz.out)
  have HB_13 : Sd (Upd No w w_13) := Sd.mk (Upd.then HB_12.out hu)
  obtain ⟨BRh, zRh, rfl⟩ := R_slice hR
  have Rh := Sd.mk (R_iv hR)
  clear hR
  clear hu
  try go_wp2_with fail
  with_reducible refine (eqS_Message (msgsTo a1 a2 l0) _ _ _ _ _ ?h1 ?h2).mono ?_
  case h1 => exact (R_C Rh.out)
  case h2 => exact (R_C Rw.out)
  rintro e w_14 ⟨rfl, hu⟩
  have HS_14 := Sd.mk hu.size
  replace Rs := Sd.mk (R_upd hu (fun _ _ q => q) Rs.out)
  replace Rw := Sd.mk (R_upd hu (fun _ _ q => q) Rw.out)
  replace Ry := Sd.mk (R_upd hu (fun _ _ q => q) Ry.out)
  replace Rm := Sd.mk (R_upd hu (fun _ _ q => q) Rm.out)
  replace Rz := Sd.mk (R_upd hu (fun _ _ q => q) Rz.out)
  replace Rh := Sd.mk (R_upd hu (fun _ _ q => q) Rh.out)
  have HB_14 : Sd (Upd No w w_14) := Sd.mk (Upd.then HB_13.out hu)
  clear hu
  try go_wp2_with fail
  with_reducible refine (heldS_Message (msgsTo a1 a2 l0) _ _ _ _ ?h (by omega) (by have := HCR.out; omega)).mono ?_
  case h => exact (R_C Rm.out)
  rintro e w_15 ⟨rfl, hu⟩
  have HS_15 := Sd.mk hu.size
  replace Rs := Sd.mk (R_upd hu (fun _ _ q => q) Rs.out)
  replace Rw := Sd.mk (R_upd hu (fun _ _ q => q) Rw.out)
  replace Ry := Sd.mk (R_upd hu (fun _ _ q => q) Ry.out)
  replace Rm := Sd.mk (R_upd hu (fun _ _ q => q) Rm.out)
  replace Rz := Sd.mk (R_upd hu (fun _ _ q => q) Rz.out)
  replace Rh := Sd.mk (R_upd hu (fun _ _ q => q) Rh.out)
  have HB_15 : Sd (Upd No w w_15) := Sd.mk (Upd.then HB_14.out hu)
  clear hu
  go_wp2
  go_ret
  exact ⟨rfl, HB_15.out⟩
end Go.Proofs.YtliejlcoeoiajaaFam
