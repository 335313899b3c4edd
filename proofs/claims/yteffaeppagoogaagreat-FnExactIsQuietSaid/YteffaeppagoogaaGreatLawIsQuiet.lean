/- The law IsQuiet, walked. No conditions beyond the sizes that the contracts name. -/
import Derived.Test.YteffaeppagoogaaGreatProg
import Derived.Test.YteffaeppagoogaaGreatSep2
import Derived.Test.YteffaeppagoogaaGreatLst
import Derived.WalkKit
import Derived.KernelRfl
import Derived.RowKit3
import Derived.Deep.LoopGhost
import Derived.Deep.QuietTactic
import Derived.BigQuiet
import Derived.StillTailTactics
import Derived.Test.YteffaeppagoogaaGreatK
import Derived.Deep.RegionHeld3
import Derived.Test.YteffaeppagoogaaGreatFamWorld
import Derived.Test.YteffaeppagoogaaGreatQuiet
import Derived.Test.YteffaeppagoogaaGreatSep4
import Derived.Test.YteffaeppagoogaaGreatT2
namespace Go.Proofs.YteffaeppagoogaaGreatFam
open Go.RowKit Go.Proofs.YteffaeppagoogaaGreatSep Go.Proofs.YteffaeppagoogaaGreatT Go.Proofs.YteffaeppagoogaaGreatK
set_option linter.unusedVariables false
set_option linter.unusedSimpArgs false
set_option maxHeartbeats 1000000 in
set_option maxRecDepth 100000 in
theorem law_FnExactIsQuiet (w : World) (x0 : GWorld) (cs0 : List Value) (hK0 : kl_World.K w x0 cs0) (hG0 : Gd_World x0) : Calls Tryz.prog 5 #[.agg cs0.toArray] w (RetBool true w) := by
  have HK0 := Sd.mk hK0
  obtain ⟨A0_0, c0_0, A0_1, c0_1, A0_2, c0_2, A0_3, c0_3, rfl, -⟩ := kl_World_K hK0
  clear hK0
  go_enter Tryz.func5, Tryz.ntmps5
  try go_wp2_with fail
  have b0 : Sd (Blk (w.alloc (.cells #[.slice A0_0 x0.Library.length c0_0, .slice A0_1 x0.Vats.length c0_1, .slice A0_2 x0.Channels.length c0_2, .slice A0_3 x0.Notes.length c0_3, .int .i64 x0.Strays] 27)) (w.heap.size) 27 #[.slice A0_0 x0.Library.length c0_0, .slice A0_1 x0.Vats.length c0_1, .slice A0_2 x0.Channels.length c0_2, .slice A0_3 x0.Notes.length c0_3, .int .i64 x0.Strays]) := ⟨by repeat (first | (with_reducible exact Blk.new _ _ _) | (with_reducible exact Blk.newAt (by simp)) | (with_reducible refine Blk.alloc ?_ _))⟩
  have HB_wb : Sd (Upd No w (w.alloc (.cells #[.slice A0_0 x0.Library.length c0_0, .slice A0_1 x0.Vats.length c0_1, .slice A0_2 x0.Channels.length c0_2, .slice A0_3 x0.Notes.length c0_3, .int .i64 x0.Strays] 27))) := ⟨by repeat (with_reducible first | exact Upd.refl _ _ | apply Upd.alloc)⟩
  generalize (w.alloc (.cells #[.slice A0_0 x0.Library.length c0_0, .slice A0_1 x0.Vats.length c0_1, .slice A0_2 x0.Channels.length c0_2, .slice A0_3 x0.Notes.length c0_3, .int .i64 x0.Strays] 27)) = wb at *
  have HS_wb : Sd (w.heap.size + 1 ≤ wb.heap.size) := Sd.mk (by have := b0.out.lt; omega)
  try go_wp2_with fail
  (with_reducible refine (sz_World x0 _ _ _ (K_upd (by repeat (with_reducible first | exact HB_wb.out | apply Upd.alloc | apply Upd.drewN | apply Upd.drew)) HK0.out) (Bd_of_World hG0) (by omega) (by omega)).mono ?_)
  rintro e w_1 ⟨r, rfl, hr, hu⟩
  have HY_w_1 : Sd (Upd No wb w_1) := Sd.mk (Upd.then (by repeat (with_reducible first | exact Upd.refl _ _ | apply Upd.alloc | apply Upd.drewN | apply Upd.drew)) hu)
  replace b0 := Sd.mk (Blk.upd b0.out HY_w_1.out (fun q => q))
  have HS_w_1 : Sd (wb.heap.size ≤ w_1.heap.size) := Sd.mk HY_w_1.out.size
  have HB_w_1 : Sd (Upd No w w_1) := Sd.mk (Upd.then HB_wb.out HY_w_1.out)
  clear hu HY_w_1
  rcases hr with ⟨hs0, rfl⟩ | ⟨hs0, rfl⟩
  case inr =>
    go_wp2
    go_ret
    exact ⟨rfl, HB_w_1.out⟩
  have hs0' : szn_World x0 ≤ 1048576 := by omega
  have hev : x0.Vats.length ≤ 1048576 := by unfold szn_World sznS at hs0'; omega
  have hec : x0.Channels.length ≤ 1048576 := by unfold szn_World sznS at hs0'; omega
  have tb0_0 := b0.out.at 0 (v := .slice A0_0 x0.Library.length c0_0) rfl
  have tb0_1 := b0.out.at 1 (v := .slice A0_1 x0.Vats.length c0_1) rfl
  have tb0_2 := b0.out.at 2 (v := .slice A0_2 x0.Channels.length c0_2) rfl
  have tb0_3 := b0.out.at 3 (v := .slice A0_3 x0.Notes.length c0_3) rfl
  have tb0_4 := b0.out.at 4 (v := .int .i64 x0.Strays) rfl
  try go_wp2_with fail
  (with_reducible refine (to_World x0 _ _ (K_upd (by repeat (with_reducible first | exact HB_w_1.out | apply Upd.alloc | apply Upd.drewN | apply Upd.drew)) HK0.out) hs0').mono ?_)
  rintro e w_2 ⟨cs, rfl, hR, hu⟩
  have HY_w_2 : Sd (Upd No w_1 w_2) := Sd.mk (Upd.then (by repeat (with_reducible first | exact Upd.refl _ _ | apply Upd.alloc | apply Upd.drewN | apply Upd.drew)) hu)
  replace b0 := Sd.mk (Blk.upd b0.out HY_w_2.out (fun q => q))
  have HS_w_2 : Sd (w_1.heap.size ≤ w_2.heap.size) := Sd.mk HY_w_2.out.size
  have HB_w_2 : Sd (Upd No w w_2) := Sd.mk (Upd.then HB_w_1.out HY_w_2.out)
  have s0 : Sd (ki_World.M w_2 (Iv w_1.heap.size w_2.heap.size) _ _) := Sd.mk (ki_World.M_lt (ki_World.M_mono (F' := New w_1) (fun b q => Nat.le_trans (Upd.size ((by repeat (with_reducible first | exact Upd.refl _ _ | apply Upd.alloc | apply Upd.drewN | apply Upd.drew)) : Upd No w_1 _)) q) hR))
  have INs0 : Sd (∀ b, (Iv w_1.heap.size w_2.heap.size) b → w_1.heap.size ≤ b ∧ b < w_2.heap.size) := Sd.mk (fun b q => q)
  obtain ⟨vs0_0, ps0_0, vs0_1, ps0_1, vs0_2, ps0_2, vs0_3, ps0_3, rfl, rs0_0, rs0_1, rs0_2, rs0_3, -⟩ := ki_World_M hR
  obtain ⟨Bs0_0, zs0_0, rfl⟩ := R_slice rs0_0
  clear rs0_0 ps0_0
  obtain ⟨Bs0_1, zs0_1, rfl⟩ := R_slice rs0_1
  clear rs0_1 ps0_1
  obtain ⟨Bs0_2, zs0_2, rfl⟩ := R_slice rs0_2
  clear rs0_2 ps0_2
  obtain ⟨Bs0_3, zs0_3, rfl⟩ := R_slice rs0_3
  clear rs0_3 ps0_3
  clear hR
  clear hu HY_w_2
  clear tb0_0 tb0_1 tb0_2 tb0_3 tb0_4
  have tb0_0 := b0.out.at 0 (v := .slice A0_0 x0.Library.length c0_0) rfl
  have tb0_1 := b0.out.at 1 (v := .slice A0_1 x0.Vats.length c0_1) rfl
  have tb0_2 := b0.out.at 2 (v := .slice A0_2 x0.Channels.length c0_2) rfl
  have tb0_3 := b0.out.at 3 (v := .slice A0_3 x0.Notes.length c0_3) rfl
  have tb0_4 := b0.out.at 4 (v := .int .i64 x0.Strays) rfl
  try go_wp2_with fail
  clear tb0_0 tb0_1 tb0_2 tb0_3 tb0_4
  (with_reducible refine (isQuiet_s x0 _ _ (ki_World.K_of_M (M_no (by repeat (with_reducible first | exact Upd.refl _ _ | apply Upd.alloc | apply Upd.drewN | apply Upd.drew)) s0.out)) hec hev).mono ?_)
  rintro e w_3 ⟨rfl, hu⟩
  have HY_w_3 : Sd (Upd No w_2 w_3) := Sd.mk (Upd.then (by repeat (with_reducible first | exact Upd.refl _ _ | apply Upd.alloc | apply Upd.drewN | apply Upd.drew)) hu)
  replace s0 := Sd.mk (M_upd HY_w_3.out (fun _ _ q => q) s0.out)
  replace b0 := Sd.mk (Blk.upd b0.out HY_w_3.out (fun q => q))
  have HS_w_3 : Sd (w_2.heap.size ≤ w_3.heap.size) := Sd.mk HY_w_3.out.size
  have HB_w_3 : Sd (Upd No w w_3) := Sd.mk (Upd.then HB_w_2.out HY_w_3.out)
  clear hu HY_w_3
  clear s0
  have tb0_0 := b0.out.at 0 (v := .slice A0_0 x0.Library.length c0_0) rfl
  have tb0_1 := b0.out.at 1 (v := .slice A0_1 x0.Vats.length c0_1) rfl
  have tb0_2 := b0.out.at 2 (v := .slice A0_2 x0.Channels.length c0_2) rfl
  have tb0_3 := b0.out.at 3 (v := .slice A0_3 x0.Notes.length c0_3) rfl
  have tb0_4 := b0.out.at 4 (v := .int .i64 x0.Strays) rfl
  try go_wp2_with fail
  clear tb0_0 tb0_1 tb0_2 tb0_3 tb0_4
  (with_reducible refine (to_World x0 _ _ (K_upd (by repeat (with_reducible first | exact HB_w_3.out | apply Upd.alloc | apply Upd.drewN | apply Upd.drew)) HK0.out) hs0').mono ?_)
  rintro e w_4 ⟨cs, rfl, hR, hu⟩
  have HY_w_4 : Sd (Upd No w_3 w_4) := Sd.mk (Upd.then (by repeat (with_reducible first | exact Upd.refl _ _ | apply Upd.alloc | apply Upd.drewN | apply Upd.drew)) hu)
  replace b0 := Sd.mk (Blk.upd b0.out HY_w_4.out (fun q => q))
  have HS_w_4 : Sd (w_3.heap.size ≤ w_4.heap.size) := Sd.mk HY_w_4.out.size
  have HB_w_4 : Sd (Upd No w w_4) := Sd.mk (Upd.then HB_w_3.out HY_w_4.out)
  have x0_ : Sd (ki_World.M w_4 (Iv w_3.heap.size w_4.heap.size) _ _) := Sd.mk (ki_World.M_lt (ki_World.M_mono (F' := New w_3) (fun b q => Nat.le_trans (Upd.size ((by repeat (with_reducible first | exact Upd.refl _ _ | apply Upd.alloc | apply Upd.drewN | apply Upd.drew)) : Upd No w_3 _)) q) hR))
  have INx0_ : Sd (∀ b, (Iv w_3.heap.size w_4.heap.size) b → w_3.heap.size ≤ b ∧ b < w_4.heap.size) := Sd.mk (fun b q => q)
  obtain ⟨vx0__0, px0__0, vx0__1, px0__1, vx0__2, px0__2, vx0__3, px0__3, rfl, rx0__0, rx0__1, rx0__2, rx0__3, -⟩ := ki_World_M hR
  obtain ⟨Bx0__0, zx0__0, rfl⟩ := R_slice rx0__0
  clear rx0__0 px0__0
  obtain ⟨Bx0__1, zx0__1, rfl⟩ := R_slice rx0__1
  clear rx0__1 px0__1
  obtain ⟨Bx0__2, zx0__2, rfl⟩ := R_slice rx0__2
  clear rx0__2 px0__2
  obtain ⟨Bx0__3, zx0__3, rfl⟩ := R_slice rx0__3
  clear rx0__3 px0__3
  clear hR
  clear hu HY_w_4
  try go_wp2_with fail
  refine gen_boxC ?_
  intro w_5 hB hU
  have HY_w_5 := Sd.mk hU
  replace x0_ := Sd.mk (M_upd HY_w_5.out (fun _ _ q => q) x0_.out)
  replace b0 := Sd.mk (Blk.upd b0.out HY_w_5.out (fun q => q))
  have HS_w_5 : Sd (w_4.heap.size ≤ w_5.heap.size) := Sd.mk HY_w_5.out.size
  have HB_w_5 : Sd (Upd No w w_5) := Sd.mk (Upd.then HB_w_4.out HY_w_5.out)
  have bx0 : Sd (Blk w_5 w_4.heap.size 35 #[.slice Bx0__0 x0.Library.length zx0__0, .slice Bx0__1 x0.Vats.length zx0__1, .slice Bx0__2 x0.Channels.length zx0__2, .slice Bx0__3 x0.Notes.length zx0__3, .int .i64 x0.Strays]) := Sd.mk hB
  have HL_w_5 : Sd (w_4.heap.size < w_5.heap.size) := Sd.mk hB.lt
  clear hB hU HY_w_5
  have tbx0_0 := bx0.out.at 0 (v := .slice Bx0__0 x0.Library.length zx0__0) rfl
  have tbx0_1 := bx0.out.at 1 (v := .slice Bx0__1 x0.Vats.length zx0__1) rfl
  have tbx0_2 := bx0.out.at 2 (v := .slice Bx0__2 x0.Channels.length zx0__2) rfl
  have tbx0_3 := bx0.out.at 3 (v := .slice Bx0__3 x0.Notes.length zx0__3) rfl
  have tbx0_4 := bx0.out.at 4 (v := .int .i64 x0.Strays) rfl
  try go_wp2_with fail
  clear tbx0_0 tbx0_1 tbx0_2 tbx0_3 tbx0_4
  (with_reducible refine (isQuiet_i x0 _ _ (ki_World.K_of_M (M_no (by repeat (with_reducible first | exact Upd.refl _ _ | apply Upd.alloc | apply Upd.drewN | apply Upd.drew)) x0_.out)) hec).mono ?_)
  rintro e w_6 ⟨rfl, hu⟩
  have HY_w_6 : Sd (Upd No w_5 w_6) := Sd.mk (Upd.then (by repeat (with_reducible first | exact Upd.refl _ _ | apply Upd.alloc | apply Upd.drewN | apply Upd.drew)) hu)
  replace x0_ := Sd.mk (M_upd HY_w_6.out (fun _ _ q => q) x0_.out)
  replace b0 := Sd.mk (Blk.upd b0.out HY_w_6.out (fun q => q))
  replace bx0 := Sd.mk (Blk.upd bx0.out HY_w_6.out (fun q => q))
  have HS_w_6 : Sd (w_5.heap.size ≤ w_6.heap.size) := Sd.mk HY_w_6.out.size
  have HB_w_6 : Sd (Upd No w w_6) := Sd.mk (Upd.then HB_w_5.out HY_w_6.out)
  clear hu HY_w_6
  try go_wp2_with fail
  go_region_held3 (fun w' => w'.cell? ⟨w_4.heap.size, 0, none⟩ = some (.slice Bx0__0 x0.Library.length zx0__0) ∧ w'.cell? ⟨w_4.heap.size, 1, none⟩ = some (.slice Bx0__1 x0.Vats.length zx0__1) ∧ w'.cell? ⟨w_4.heap.size, 2, none⟩ = some (.slice Bx0__2 x0.Channels.length zx0__2) ∧ w'.cell? ⟨w_4.heap.size, 3, none⟩ = some (.slice Bx0__3 x0.Notes.length zx0__3) ∧ w'.cell? ⟨w_4.heap.size, 4, none⟩ = some (.int .i64 x0.Strays) ∧ w'.cell? ⟨(w.heap.size), 0, none⟩ = some (.slice A0_0 x0.Library.length c0_0) ∧ w'.cell? ⟨(w.heap.size), 1, none⟩ = some (.slice A0_1 x0.Vats.length c0_1) ∧ w'.cell? ⟨(w.heap.size), 2, none⟩ = some (.slice A0_2 x0.Channels.length c0_2) ∧ w'.cell? ⟨(w.heap.size), 3, none⟩ = some (.slice A0_3 x0.Notes.length c0_3) ∧ w'.cell? ⟨(w.heap.size), 4, none⟩ = some (.int .i64 x0.Strays)) (exact ⟨bx0.out.at 0 rfl, bx0.out.at 1 rfl, bx0.out.at 2 rfl, bx0.out.at 3 rfl, bx0.out.at 4 rfl, b0.out.at 0 rfl, b0.out.at 1 rfl, b0.out.at 2 rfl, b0.out.at 3 rfl, b0.out.at 4 rfl⟩) (first | (go_at_call 16; (with_reducible refine (to_World x0 _ _ (K_upd (by repeat (with_reducible first | exact HB_w_6.out | apply Upd.alloc | apply Upd.drewN | apply Upd.drew)) HK0.out) hs0').mono ?_); rintro e w_7 ⟨cs, rfl, hR, hu⟩; have HY_w_7 : Sd (Upd No w_6 w_7) := Sd.mk (Upd.then (by repeat (with_reducible first | exact Upd.refl _ _ | apply Upd.alloc | apply Upd.drewN | apply Upd.drew)) hu); replace x0_ := Sd.mk (M_upd HY_w_7.out (fun _ _ q => q) x0_.out); replace b0 := Sd.mk (Blk.upd b0.out HY_w_7.out (fun q => q)); replace bx0 := Sd.mk (Blk.upd bx0.out HY_w_7.out (fun q => q)); have HS_w_7 : Sd (w_6.heap.size ≤ w_7.heap.size) := Sd.mk HY_w_7.out.size; have HB_w_7 : Sd (Upd No w w_7) := Sd.mk (Upd.then HB_w_6.out HY_w_7.out); have y0 : Sd (ki_World.M w_7 (Iv w_6.heap.size w_7.heap.size) _ _) := Sd.mk (ki_World.M_lt (ki_World.M_mono (F' := New w_6) (fun b q => Nat.le_trans (Upd.size ((by repeat (with_reducible first | exact Upd.refl _ _ | apply Upd.alloc | apply Upd.drewN | apply Upd.drew)) : Upd No w_6 _)) q) hR)); have INy0 : Sd (∀ b, (Iv w_6.heap.size w_7.heap.size) b → w_6.heap.size ≤ b ∧ b < w_7.heap.size) := Sd.mk (fun b q => q); obtain ⟨vy0_0, py0_0, vy0_1, py0_1, vy0_2, py0_2, vy0_3, py0_3, rfl, ry0_0, ry0_1, ry0_2, ry0_3, -⟩ := ki_World_M hR; obtain ⟨By0_0, zy0_0, rfl⟩ := R_slice ry0_0; clear ry0_0 py0_0; obtain ⟨By0_1, zy0_1, rfl⟩ := R_slice ry0_1; clear ry0_1 py0_1; obtain ⟨By0_2, zy0_2, rfl⟩ := R_slice ry0_2; clear ry0_2 py0_2; obtain ⟨By0_3, zy0_3, rfl⟩ := R_slice ry0_3; clear ry0_3 py0_3; clear hR; clear hu HY_w_7) | (go_at_call 18; (with_reducible refine (eq_World x0 _ _ _ (ki_World.K_of_M (M_no (by repeat (with_reducible first | exact Upd.refl _ _ | apply Upd.alloc | apply Upd.drewN | apply Upd.drew)) x0_.out)) (ki_World.K_of_M (M_no (by repeat (with_reducible first | exact Upd.refl _ _ | apply Upd.alloc | apply Upd.drewN | apply Upd.drew)) y0.out))).mono ?_); rintro e w_8 ⟨rfl, hu⟩; have HY_w_8 : Sd (Upd No w_7 w_8) := Sd.mk (Upd.then (by repeat (with_reducible first | exact Upd.refl _ _ | apply Upd.alloc | apply Upd.drewN | apply Upd.drew)) hu); replace x0_ := Sd.mk (M_upd HY_w_8.out (fun _ _ q => q) x0_.out); replace y0 := Sd.mk (M_upd HY_w_8.out (fun _ _ q => q) y0.out); replace b0 := Sd.mk (Blk.upd b0.out HY_w_8.out (fun q => q)); replace bx0 := Sd.mk (Blk.upd bx0.out HY_w_8.out (fun q => q)); have HS_w_8 : Sd (w_7.heap.size ≤ w_8.heap.size) := Sd.mk HY_w_8.out.size; have HB_w_8 : Sd (Upd No w w_8) := Sd.mk (Upd.then HB_w_7.out HY_w_8.out); clear hu HY_w_8))
  all_goals
    rename_i hH
    clear hH
    clear y0
    go_wp2
    go_ret
    exact ⟨rfl, HB_w_8.out⟩
end Go.Proofs.YteffaeppagoogaaGreatFam
