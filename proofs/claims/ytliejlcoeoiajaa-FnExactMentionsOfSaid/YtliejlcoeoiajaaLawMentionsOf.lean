/- The law MentionsOf, walked. No conditions beyond the sizes that the contracts name. -/
import Derived.Test.YtliejlcoeoiajaaProg
import Derived.Test.YtliejlcoeoiajaaSep2
import Derived.Test.YtliejlcoeoiajaaLst
import Derived.WalkKit
import Derived.KernelRfl
import Derived.RowKit3
import Derived.Deep.LoopGhost
import Derived.Deep.QuietTactic
import Derived.BigQuiet
import Derived.StillTailTactics
import Derived.Test.YtliejlcoeoiajaaK
import Derived.Deep.RegionHeld3
import Derived.Test.YtliejlcoeoiajaaFamMessage
import Derived.Test.YtliejlcoeoiajaaMentionsS
import Derived.Test.YtliejlcoeoiajaaMentionsI
namespace Go.Proofs.YtliejlcoeoiajaaFam
open Go.RowKit Go.Proofs.YtliejlcoeoiajaaSep Go.Proofs.YtliejlcoeoiajaaT Go.Proofs.YtliejlcoeoiajaaK
set_option linter.unusedVariables false
set_option linter.unusedSimpArgs false
theorem bdm (l : List GMessage) (h : sznS szn_Message l ≤ 1048576) : ∀ z ∈ l, z.Args.length ≤ 1048576 := by
  intro z hz
  obtain ⟨j, hj, rfl⟩ := List.mem_iff_getElem.1 hz
  have h3 := sumS_at szn_Message l j hj
  have h4 : szn_Message l[j] ≤ 1048576 := by unfold sznS at h; omega
  unfold szn_Message sznS at h4
  omega
set_option maxHeartbeats 1000000 in
set_option maxRecDepth 100000 in
theorem law_FnExactMentionsOf (w : World) (l0 : List GMessage) (A0 : Option Addr) (c0 : Nat) (hC0 : C kl_Message w A0 l0) (hl0 : l0.length ≤ c0) (hG0 : l0.length ≤ 9223372036854775807 ∧ ∀ y ∈ l0, Gd_Message y) (a1 : Int) (w1 : (Lit.int .i64 a1).wf = true) : Calls Try.prog 6 #[.slice A0 l0.length c0, .int .i64 a1] w (RetBool true w) := by
  have HC0 := Sd.mk hC0
  clear hC0
  go_enter Try.func6, Try.ntmps6
  try go_wp2_with fail
  with_reducible refine (szS_Message l0 _ _ _ _ ?hsz (fun y hy => Bd_of_Message (hG0.2 y hy)) (by omega) (by omega)).mono ?_
  case hsz => exact HC0.out
  rintro e w_0 ⟨r, rfl, hr, hu⟩
  have HB_0 : Sd (Upd No w w_0) := Sd.mk (Upd.then (by repeat (with_reducible first | exact Upd.refl _ _ | apply Upd.put2 | apply Upd.put1 | apply Upd.put0 | apply Upd.alloc | apply Upd.drewN | apply Upd.drew)) hu)
  replace HC0 := Sd.mk (C_upd hu HC0.out)
  clear hu
  rcases hr with ⟨hs, rfl⟩ | ⟨hs, rfl⟩
  case inr =>
    go_wp2
    go_ret
    exact ⟨rfl, HB_0.out⟩
  have hs' : sznS szn_Message l0 ≤ 1048576 := by omega
  have hn : l0.length ≤ 1048576 := by unfold sznS at hs'; omega
  try go_wp2_with fail
  with_reducible refine (toS_Message l0 _ _ _ ?hs hs').mono ?_
  case hs => exact HC0.out
  rintro e w_1 ⟨v, rfl, hR, hu⟩
  have HB_1 : Sd (Upd No w w_1) := Sd.mk (Upd.then (by repeat (with_reducible first | exact HB_0.out | apply Upd.put2 | apply Upd.put1 | apply Upd.put0 | apply Upd.alloc | apply Upd.drewN | apply Upd.drew)) hu)
  replace HC0 := Sd.mk (C_upd hu HC0.out)
  obtain ⟨Bs, zzs, rfl⟩ := R_slice hR
  have Qs := Sd.mk (R_C hR)
  clear hR
  clear hu
  try go_wp2_with fail
  with_reducible refine (mentionsOf_s l0 a1 _ _ _ ?hfs hs').mono ?_
  case hfs => exact Qs.out
  rintro e w_2 ⟨rfl, hu⟩
  have HB_2 : Sd (Upd No w w_2) := Sd.mk (Upd.then (by repeat (with_reducible first | exact HB_1.out | apply Upd.put2 | apply Upd.put1 | apply Upd.put0 | apply Upd.alloc | apply Upd.drewN | apply Upd.drew)) hu)
  replace HC0 := Sd.mk (C_upd hu HC0.out)
  replace Qs := Sd.mk (C_upd hu Qs.out)
  clear hu
  try go_wp2_with fail
  with_reducible refine (toS_Message l0 _ _ _ ?hx hs').mono ?_
  case hx => exact HC0.out
  rintro e w_3 ⟨v, rfl, hR, hu⟩
  have HB_3 : Sd (Upd No w w_3) := Sd.mk (Upd.then (by repeat (with_reducible first | exact HB_2.out | apply Upd.put2 | apply Upd.put1 | apply Upd.put0 | apply Upd.alloc | apply Upd.drewN | apply Upd.drew)) hu)
  replace HC0 := Sd.mk (C_upd hu HC0.out)
  obtain ⟨Bx, zzx, rfl⟩ := R_slice hR
  have Qx := Sd.mk (R_C hR)
  clear hR
  clear hu
  try go_wp2_with fail
  with_reducible refine (mentionsOf_i l0 a1 _ _ _ ?hfi hs' (bdm l0 hs')).mono ?_
  case hfi => exact Qx.out
  rintro e w_4 ⟨rfl, hu⟩
  have HB_4 : Sd (Upd No w w_4) := Sd.mk (Upd.then (by repeat (with_reducible first | exact HB_3.out | apply Upd.put2 | apply Upd.put1 | apply Upd.put0 | apply Upd.alloc | apply Upd.drewN | apply Upd.drew)) hu)
  replace HC0 := Sd.mk (C_upd hu HC0.out)
  replace Qx := Sd.mk (C_upd hu Qx.out)
  clear hu
  try go_wp2_with fail
  with_reducible refine (toS_Message l0 _ _ _ ?hy hs').mono ?_
  case hy => exact HC0.out
  rintro e w_5 ⟨v, rfl, hR, hu⟩
  have HB_5 : Sd (Upd No w w_5) := Sd.mk (Upd.then (by repeat (with_reducible first | exact HB_4.out | apply Upd.put2 | apply Upd.put1 | apply Upd.put0 | apply Upd.alloc | apply Upd.drewN | apply Upd.drew)) hu)
  replace HC0 := Sd.mk (C_upd hu HC0.out)
  replace Qx := Sd.mk (C_upd hu Qx.out)
  obtain ⟨By, zzy, rfl⟩ := R_slice hR
  have Qy := Sd.mk (R_C hR)
  clear hR
  clear hu
  try go_wp2_with fail
  with_reducible refine (eqS_Message l0 _ _ _ _ _ ?he1 ?he2).mono ?_
  case he1 => exact Qx.out
  case he2 => exact Qy.out
  rintro e w_6 ⟨rfl, hu⟩
  have HB_6 : Sd (Upd No w w_6) := Sd.mk (Upd.then (by repeat (with_reducible first | exact HB_5.out | apply Upd.put2 | apply Upd.put1 | apply Upd.put0 | apply Upd.alloc | apply Upd.drewN | apply Upd.drew)) hu)
  replace HC0 := Sd.mk (C_upd hu HC0.out)
  replace Qx := Sd.mk (C_upd hu Qx.out)
  replace Qy := Sd.mk (C_upd hu Qy.out)
  clear hu
  go_wp2
  go_ret
  exact ⟨rfl, HB_6.out⟩
end Go.Proofs.YtliejlcoeoiajaaFam
