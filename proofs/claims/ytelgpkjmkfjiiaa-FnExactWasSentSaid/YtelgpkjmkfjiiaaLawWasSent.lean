/- The law WasSent, walked. No conditions beyond the sizes that the contracts name. -/
import Derived.Test.YtelgpkjmkfjiiaaProg
import Derived.Test.YtelgpkjmkfjiiaaSep2
import Derived.Test.YtelgpkjmkfjiiaaLst
import Derived.WalkKit
import Derived.KernelRfl
import Derived.RowKit3
import Derived.Deep.LoopGhost
import Derived.Deep.QuietTactic
import Derived.BigQuiet
import Derived.StillTailTactics
import Derived.Test.YtelgpkjmkfjiiaaK
import Derived.Deep.RegionHeld3
import Derived.Test.YtelgpkjmkfjiiaaFamNote
import Derived.Test.YtelgpkjmkfjiiaaWasSent
namespace Go.Proofs.YtelgpkjmkfjiiaaFam
open Go.RowKit Go.Proofs.YtelgpkjmkfjiiaaSep Go.Proofs.YtelgpkjmkfjiiaaT Go.Proofs.YtelgpkjmkfjiiaaK
set_option linter.unusedVariables false
set_option linter.unusedSimpArgs false
set_option maxHeartbeats 1000000 in
set_option maxRecDepth 100000 in
theorem law_FnExactWasSent (w : World) (l0 : List GNote) (A0 : Option Addr) (c0 : Nat) (hC0 : C kl_Note w A0 l0) (hl0 : l0.length ≤ c0) (hG0 : l0.length ≤ 9223372036854775807 ∧ ∀ y ∈ l0, Gd_Note y) (x1 : GTag) (cs1 : List Value) (hK1 : kl_Tag.K w x1 cs1) (hG1 : Gd_Tag x1) : Calls Try.prog 5 #[.slice A0 l0.length c0, .agg cs1.toArray] w (RetBool true w) := by
  obtain rfl := kl_Tag_K hK1
  have HC0 := Sd.mk hC0
  have HK1 := Sd.mk hK1
  clear hC0 hK1
  go_enter Try.func5, Try.ntmps5
  have r0 : Sd ((w.alloc (.cells #[.int .i64 x1.Vat, .int .i64 x1.Entity, .int .i64 x1.Seq] 32)).cell? ⟨w.heap.size, 0, none⟩ = some (.int .i64 x1.Vat)) := ⟨by simp⟩
  have r1 : Sd ((w.alloc (.cells #[.int .i64 x1.Vat, .int .i64 x1.Entity, .int .i64 x1.Seq] 32)).cell? ⟨w.heap.size, 1, none⟩ = some (.int .i64 x1.Entity)) := ⟨by simp⟩
  have r2 : Sd ((w.alloc (.cells #[.int .i64 x1.Vat, .int .i64 x1.Entity, .int .i64 x1.Seq] 32)).cell? ⟨w.heap.size, 2, none⟩ = some (.int .i64 x1.Seq)) := ⟨by simp⟩
  have HB : Sd (Upd No w (w.alloc (.cells #[.int .i64 x1.Vat, .int .i64 x1.Entity, .int .i64 x1.Seq] 32))) := ⟨by repeat (with_reducible first | exact Upd.refl _ _ | apply Upd.alloc)⟩
  go_wp2_with fail
  generalize (w.alloc (.cells #[.int .i64 x1.Vat, .int .i64 x1.Entity, .int .i64 x1.Seq] 32)) = wa at *
  replace HC0 := Sd.mk (C_upd HB.out HC0.out)
  replace HK1 := Sd.mk (K_upd HB.out HK1.out)
  try go_wp2_with fail
  with_reducible refine (szS_Note l0 _ _ _ _ ?hsz (by omega) (by omega)).mono ?_
  case hsz => exact HC0.out
  rintro e w_0 ⟨r, rfl, hr, hu⟩
  have HB_0 : Sd (Upd No w w_0) := Sd.mk (Upd.then (by repeat (with_reducible first | exact HB.out | apply Upd.put2 | apply Upd.put1 | apply Upd.put0 | apply Upd.alloc | apply Upd.drewN | apply Upd.drew)) hu)
  replace HC0 := Sd.mk (C_upd hu HC0.out)
  replace HK1 := Sd.mk (K_upd hu HK1.out)
  replace r0 := Sd.mk (hu.read r0.out)
  replace r1 := Sd.mk (hu.read r1.out)
  replace r2 := Sd.mk (hu.read r2.out)
  clear hu
  rcases hr with ⟨hs, rfl⟩ | ⟨hs, rfl⟩
  case inr =>
    go_wp2
    go_ret
    exact ⟨rfl, HB_0.out⟩
  have hs' : sznS szn_Note l0 ≤ 1048576 := by omega
  have hn : l0.length ≤ 1048576 := by unfold sznS at hs'; omega
  have HX := HB_0
  clear HB_0
  try go_wp2_with fail
  go_region_held3 (fun w' => w'.cell? ⟨w.heap.size, 0, none⟩ = some (.int .i64 x1.Vat) ∧ w'.cell? ⟨w.heap.size, 1, none⟩ = some (.int .i64 x1.Entity) ∧ w'.cell? ⟨w.heap.size, 2, none⟩ = some (.int .i64 x1.Seq)) (exact ⟨r0.out, r1.out, r2.out⟩) (first | (go_at_call 17; (with_reducible refine (toS_Note l0 _ _ _ (C_upd (by repeat (with_reducible first | exact Upd.refl _ _ | apply Upd.alloc | apply Upd.drewN | apply Upd.drew)) HC0.out) hs').mono ?_); rintro e was ⟨v, rfl, hR, hu⟩; have HY : Sd (Upd No w_0 was) := Sd.mk (Upd.then (by repeat (with_reducible first | exact Upd.refl _ _ | apply Upd.alloc | apply Upd.drewN | apply Upd.drew)) hu); clear hu; replace r0 := Sd.mk (HY.out.read r0.out); replace r1 := Sd.mk (HY.out.read r1.out); replace r2 := Sd.mk (HY.out.read r2.out); replace HX := Sd.mk (HX.out.then HY.out); replace HC0 := Sd.mk (C_upd HY.out HC0.out); replace HK1 := Sd.mk (K_upd HY.out HK1.out); clear HY; obtain ⟨Bs, zzs, rfl⟩ := R_slice hR; have Qs := Sd.mk (R_C hR); clear hR) | (go_at_call 18; (with_reducible refine (to_Tag x1 _ _ (K_upd (by repeat (with_reducible first | exact Upd.refl _ _ | apply Upd.alloc | apply Upd.drewN | apply Upd.drew)) HK1.out) (by simp [szn_Tag])).mono ?_); rintro e wbs ⟨css, rfl, hM, hu⟩; have HY : Sd (Upd No was wbs) := Sd.mk (Upd.then (by repeat (with_reducible first | exact Upd.refl _ _ | apply Upd.alloc | apply Upd.drewN | apply Upd.drew)) hu); clear hu; replace r0 := Sd.mk (HY.out.read r0.out); replace r1 := Sd.mk (HY.out.read r1.out); replace r2 := Sd.mk (HY.out.read r2.out); replace HX := Sd.mk (HX.out.then HY.out); replace HC0 := Sd.mk (C_upd HY.out HC0.out); replace HK1 := Sd.mk (K_upd HY.out HK1.out); replace Qs := Sd.mk (C_upd HY.out Qs.out); clear HY; obtain rfl := ki_Tag_M hM; clear hM) | (go_at_call 16; (with_reducible refine (wasSent_s l0 x1 _ _ _ (C_upd (by repeat (with_reducible first | exact Upd.refl _ _ | apply Upd.alloc | apply Upd.drewN | apply Upd.drew)) Qs.out) hn).mono ?_); rintro e wcs ⟨rfl, hu⟩; have HY : Sd (Upd No wbs wcs) := Sd.mk (Upd.then (by repeat (with_reducible first | exact Upd.refl _ _ | apply Upd.alloc | apply Upd.drewN | apply Upd.drew)) hu); clear hu; replace r0 := Sd.mk (HY.out.read r0.out); replace r1 := Sd.mk (HY.out.read r1.out); replace r2 := Sd.mk (HY.out.read r2.out); replace HX := Sd.mk (HX.out.then HY.out); replace HC0 := Sd.mk (C_upd HY.out HC0.out); replace HK1 := Sd.mk (K_upd HY.out HK1.out); replace Qs := Sd.mk (C_upd HY.out Qs.out); clear HY))
  all_goals
    rename_i hH
    clear hH
    try go_wp2_with fail
    with_reducible refine (toS_Note l0 _ _ _ ?hx hs').mono ?_
    case hx => exact HC0.out
    rintro e w_1 ⟨v, rfl, hR, hu⟩
    have HB_1 : Sd (Upd No w w_1) := Sd.mk (Upd.then (by repeat (with_reducible first | exact HX.out | apply Upd.put2 | apply Upd.put1 | apply Upd.put0 | apply Upd.alloc | apply Upd.drewN | apply Upd.drew)) hu)
    replace HC0 := Sd.mk (C_upd hu HC0.out)
    replace HK1 := Sd.mk (K_upd hu HK1.out)
    replace r0 := Sd.mk (hu.read r0.out)
    replace r1 := Sd.mk (hu.read r1.out)
    replace r2 := Sd.mk (hu.read r2.out)
    obtain ⟨Bx, zzx, rfl⟩ := R_slice hR
    have Qx := Sd.mk (R_C hR)
    clear hR
    clear hu
    have t0 := r0.out
    have t1 := r1.out
    have t2 := r2.out
    try go_wp2_with fail
    with_reducible refine (to_Tag x1 _ _ ?ht (by simp [szn_Tag])).mono ?_
    case ht => exact HK1.out
    rintro e w_2 ⟨cs, rfl, hM, hu⟩
    have HB_2 : Sd (Upd No w w_2) := Sd.mk (Upd.then (by repeat (with_reducible first | exact HB_1.out | apply Upd.put2 | apply Upd.put1 | apply Upd.put0 | apply Upd.alloc | apply Upd.drewN | apply Upd.drew)) hu)
    replace HC0 := Sd.mk (C_upd hu HC0.out)
    replace HK1 := Sd.mk (K_upd hu HK1.out)
    replace Qx := Sd.mk (C_upd hu Qx.out)
    replace r0 := Sd.mk (hu.read r0.out)
    replace r1 := Sd.mk (hu.read r1.out)
    replace r2 := Sd.mk (hu.read r2.out)
    obtain rfl := ki_Tag_M hM
    clear hM t0 t1 t2
    clear hu
    try go_wp2_with fail
    with_reducible refine (wasSent_i l0 x1 _ _ _ ?hfi).mono ?_
    case hfi => exact Qx.out
    rintro e w_3 ⟨rfl, hu⟩
    have HB_3 : Sd (Upd No w w_3) := Sd.mk (Upd.then (by repeat (with_reducible first | exact HB_2.out | apply Upd.put2 | apply Upd.put1 | apply Upd.put0 | apply Upd.alloc | apply Upd.drewN | apply Upd.drew)) hu)
    replace HC0 := Sd.mk (C_upd hu HC0.out)
    replace HK1 := Sd.mk (K_upd hu HK1.out)
    replace Qx := Sd.mk (C_upd hu Qx.out)
    replace r0 := Sd.mk (hu.read r0.out)
    replace r1 := Sd.mk (hu.read r1.out)
    replace r2 := Sd.mk (hu.read r2.out)
    clear hu
    try go_wp2_with fail
    with_reducible refine (toS_Note l0 _ _ _ ?hy hs').mono ?_
    case hy => exact HC0.out
    rintro e w_4 ⟨v, rfl, hR, hu⟩
    have HB_4 : Sd (Upd No w w_4) := Sd.mk (Upd.then (by repeat (with_reducible first | exact HB_3.out | apply Upd.put2 | apply Upd.put1 | apply Upd.put0 | apply Upd.alloc | apply Upd.drewN | apply Upd.drew)) hu)
    replace HC0 := Sd.mk (C_upd hu HC0.out)
    replace HK1 := Sd.mk (K_upd hu HK1.out)
    replace Qx := Sd.mk (C_upd hu Qx.out)
    replace r0 := Sd.mk (hu.read r0.out)
    replace r1 := Sd.mk (hu.read r1.out)
    replace r2 := Sd.mk (hu.read r2.out)
    obtain ⟨By, zzy, rfl⟩ := R_slice hR
    have Qy := Sd.mk (R_C hR)
    clear hR
    clear hu
    try go_wp2_with fail
    with_reducible refine (eqS_Note l0 _ _ _ _ _ ?he1 ?he2).mono ?_
    case he1 => exact Qx.out
    case he2 => exact Qy.out
    rintro e w_5 ⟨rfl, hu⟩
    have HB_5 : Sd (Upd No w w_5) := Sd.mk (Upd.then (by repeat (with_reducible first | exact HB_4.out | apply Upd.put2 | apply Upd.put1 | apply Upd.put0 | apply Upd.alloc | apply Upd.drewN | apply Upd.drew)) hu)
    replace HC0 := Sd.mk (C_upd hu HC0.out)
    replace HK1 := Sd.mk (K_upd hu HK1.out)
    replace Qx := Sd.mk (C_upd hu Qx.out)
    replace Qy := Sd.mk (C_upd hu Qy.out)
    clear hu
    go_wp2
    go_ret
    exact ⟨rfl, HB_5.out⟩
end Go.Proofs.YtelgpkjmkfjiiaaFam
