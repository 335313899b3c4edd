/- The law PutMessage, walked. No conditions beyond the sizes that the contracts name. -/
import Derived.Test.YtliejlcoeoiajaaProg
import Derived.Test.YtliejlcoeoiajaaSep2
import Derived.Test.YtliejlcoeoiajaaLst
import Derived.WalkKit
import Derived.KernelRfl
import Derived.RowKit3
import Derived.Deep.LoopGhost
import Derived.Deep.QuietTactic
import Derived.BigQuiet
import Derived.StillTailTactics
import Derived.Test.YtliejlcoeoiajaaK
import Derived.Deep.RegionHeld3
import Derived.Test.YtliejlcoeoiajaaFamChannel
import Derived.Test.YtliejlcoeoiajaaLawMessagesTo
import Derived.Test.YtliejlcoeoiajaaPutS
import Derived.Test.YtliejlcoeoiajaaT2
namespace Go.Proofs.YtliejlcoeoiajaaFam
open Go.RowKit Go.Proofs.YtliejlcoeoiajaaSep Go.Proofs.YtliejlcoeoiajaaT Go.Proofs.YtliejlcoeoiajaaK
set_option linter.unusedVariables false
set_option linter.unusedSimpArgs false
theorem putC_bd (a b : Int) (m : GMessage) (l : List GChannel) (h : sznS szn_Channel l ≤ 1048576) (hm : szn_Message m ≤ 1048576) : sznS szn_Channel (putC a b m l) ≤ 4194304 := by
  unfold putC
  split
  · split
    · rename_i x hx
      obtain ⟨hi, rfl⟩ := List.getElem?_eq_some_iff.1 hx
      have h1 := sumS_set szn_Channel l (fidx (chP a b) 0 l).toNat hi (putX m l[(fidx (chP a b) 0 l).toNat])
      generalize l[(fidx (chP a b) 0 l).toNat] = y at *
      have h2 : szn_Channel (putX m y) = szn_Channel y + 1 + szn_Message m := by
        unfold szn_Channel putX sznS
        simp only [sumS_append, List.length_append, List.length_singleton, sumS]
        omega
      unfold sznS at h ⊢
      rw [List.length_set]
      omega
    · omega
  · omega
theorem argsBd (m : GMessage) (h : szn_Message m ≤ 1048576) : m.Args.length ≤ 1048576 := by unfold szn_Message sznS at h; omega
set_option maxHeartbeats 1000000 in
set_option maxRecDepth 100000 in
theorem law_FnExactPutMessage (w : World) (l0 : List GChannel) (A0 : Option Addr) (c0 : Nat) (hC0 : C kl_Channel w A0 l0) (hl0 : l0.length ≤ c0) (hG0 : l0.length ≤ 9223372036854775807 ∧ ∀ y ∈ l0, Gd_Channel y) (a1 : Int) (w1 : (Lit.int .i64 a1).wf = true) (a2 : Int) (w2 : (Lit.int .i64 a2).wf = true) (x3 : GMessage) (cs3 : List Value) (hK3 : kl_Message.K w x3 cs3) (hG3 : Gd_Message x3) : Calls Try.prog 12 #[.slice A0 l0.length c0, .int .i64 a1, .int .i64 a2, .agg cs3.toArray] w (RetBool true w) := by
  have HC0 := Sd.mk hC0
  clear hC0
  have HK3 := Sd.mk hK3
  obtain ⟨A3_5, c3_5, rfl, -⟩ := kl_Message_K hK3
  clear hK3
  go_enter Try.func12, Try.ntmps12
  try go_wp2_with fail
  have b3 : Sd (Blk (w.alloc (.cells #[.int .i64 x3.Kind, .int .i64 x3.Pos, .int .i64 x3.Answer, .int .i64 x3.Question, .string x3.Name, .slice A3_5 x3.Args.length c3_5, .int .i64 x3.Value.Kind, .int .i64 x3.Value.N, .int .i64 x3.Count, .int .i64 x3.Tag.Vat, .int .i64 x3.Tag.Entity, .int .i64 x3.Tag.Seq] 95)) (w.heap.size) 95 #[.int .i64 x3.Kind, .int .i64 x3.Pos, .int .i64 x3.Answer, .int .i64 x3.Question, .string x3.Name, .slice A3_5 x3.Args.length c3_5, .int .i64 x3.Value.Kind, .int .i64 x3.Value.N, .int .i64 x3.Count, .int .i64 x3.Tag.Vat, .int .i64 x3.Tag.Entity, .int .i64 x3.Tag.Seq]) := ⟨by repeat (first | (with_reducible exact Blk.new _ _ _) | (with_reducible exact Blk.newAt (by simp)) | (with_reducible refine Blk.alloc ?_ _))⟩
  have HB_wb : Sd (Upd No w (w.alloc (.cells #[.int .i64 x3.Kind, .int .i64 x3.Pos, .int .i64 x3.Answer, .int .i64 x3.Question, .string x3.Name, .slice A3_5 x3.Args.length c3_5, .int .i64 x3.Value.Kind, .int .i64 x3.Value.N, .int .i64 x3.Count, .int .i64 x3.Tag.Vat, .int .i64 x3.Tag.Entity, .int .i64 x3.Tag.Seq] 95))) := ⟨by repeat (with_reducible first | exact Upd.refl _ _ | apply Upd.alloc)⟩
  generalize (w.alloc (.cells #[.int .i64 x3.Kind, .int .i64 x3.Pos, .int .i64 x3.Answer, .int .i64 x3.Question, .string x3.Name, .slice A3_5 x3.Args.length c3_5, .int .i64 x3.Value.Kind, .int .i64 x3.Value.N, .int .i64 x3.Count, .int .i64 x3.Tag.Vat, .int .i64 x3.Tag.Entity, .int .i64 x3.Tag.Seq] 95)) = wb at *
  have HS_wb : Sd (w.heap.size + 1 ≤ wb.heap.size) := Sd.mk (by have := b3.out.lt; omega)
  try go_wp2_with fail
  (with_reducible refine (szS_Channel l0 _ _ _ _ (C_upd (by repeat (with_reducible first | exact HB_wb.out | apply Upd.alloc | apply Upd.drewN | apply Upd.drew)) HC0.out) (fun y hy => Bd_of_Channel (hG0.2 y hy)) (by omega) (by omega)).mono ?_)
  rintro e w_1 ⟨r, rfl, hr, hu⟩
  have HY_w_1 : Sd (Upd No wb w_1) := Sd.mk (Upd.then (by repeat (with_reducible first | exact Upd.refl _ _ | apply Upd.alloc | apply Upd.drewN | apply Upd.drew)) hu)
  replace b3 := Sd.mk (Blk.upd b3.out HY_w_1.out (fun q => q))
  have HS_w_1 : Sd (wb.heap.size ≤ w_1.heap.size) := Sd.mk HY_w_1.out.size
  have HB_w_1 : Sd (Upd No w w_1) := Sd.mk (Upd.then HB_wb.out HY_w_1.out)
  clear hu HY_w_1
  rcases hr with ⟨hs0, rfl⟩ | ⟨hs0, rfl⟩
  case inr =>
    go_wp2
    go_ret
    exact ⟨rfl, HB_w_1.out⟩
  have hs0' : sznS szn_Channel l0 ≤ 1048576 := by omega
  have hn0 : l0.length ≤ 1048576 := by unfold sznS at hs0'; omega
  have tb3_0 := b3.out.at 0 (v := .int .i64 x3.Kind) rfl
  have tb3_1 := b3.out.at 1 (v := .int .i64 x3.Pos) rfl
  have tb3_2 := b3.out.at 2 (v := .int .i64 x3.Answer) rfl
  have tb3_3 := b3.out.at 3 (v := .int .i64 x3.Question) rfl
  have tb3_4 := b3.out.at 4 (v := .string x3.Name) rfl
  have tb3_5 := b3.out.at 5 (v := .slice A3_5 x3.Args.length c3_5) rfl
  have tb3_6 := b3.out.at 6 (v := .int .i64 x3.Value.Kind) rfl
  have tb3_7 := b3.out.at 7 (v := .int .i64 x3.Value.N) rfl
  have tb3_8 := b3.out.at 8 (v := .int .i64 x3.Count) rfl
  have tb3_9 := b3.out.at 9 (v := .int .i64 x3.Tag.Vat) rfl
  have tb3_10 := b3.out.at 10 (v := .int .i64 x3.Tag.Entity) rfl
  have tb3_11 := b3.out.at 11 (v := .int .i64 x3.Tag.Seq) rfl
  try go_wp2_with fail
  clear tb3_0 tb3_1 tb3_2 tb3_3 tb3_4 tb3_5 tb3_6 tb3_7 tb3_8 tb3_9 tb3_10 tb3_11
  (with_reducible refine (sz_Message x3 _ _ _ (K_upd (by repeat (with_reducible first | exact HB_w_1.out | apply Upd.alloc | apply Upd.drewN | apply Upd.drew)) HK3.out) (Bd_of_Message hG3) (by omega) (by omega)).mono ?_)
  rintro e w_2 ⟨r, rfl, hr, hu⟩
  have HY_w_2 : Sd (Upd No w_1 w_2) := Sd.mk (Upd.then (by repeat (with_reducible first | exact Upd.refl _ _ | apply Upd.alloc | apply Upd.drewN | apply Upd.drew)) hu)
  replace b3 := Sd.mk (Blk.upd b3.out HY_w_2.out (fun q => q))
  have HS_w_2 : Sd (w_1.heap.size ≤ w_2.heap.size) := Sd.mk HY_w_2.out.size
  have HB_w_2 : Sd (Upd No w w_2) := Sd.mk (Upd.then HB_w_1.out HY_w_2.out)
  clear hu HY_w_2
  rcases hr with ⟨hs3, rfl⟩ | ⟨hs3, rfl⟩
  case inr =>
    go_wp2
    go_ret
    exact ⟨rfl, HB_w_2.out⟩
  have hs3' : szn_Message x3 ≤ 1048576 := by omega
  try go_wp2_with fail
  go_region_held3 (fun w' => w'.cell? ⟨(w.heap.size), 0, none⟩ = some (.int .i64 x3.Kind) ∧ w'.cell? ⟨(w.heap.size), 1, none⟩ = some (.int .i64 x3.Pos) ∧ w'.cell? ⟨(w.heap.size), 2, none⟩ = some (.int .i64 x3.Answer) ∧ w'.cell? ⟨(w.heap.size), 3, none⟩ = some (.int .i64 x3.Question) ∧ w'.cell? ⟨(w.heap.size), 4, none⟩ = some (.string x3.Name) ∧ w'.cell? ⟨(w.heap.size), 5, none⟩ = some (.slice A3_5 x3.Args.length c3_5) ∧ w'.cell? ⟨(w.heap.size), 6, none⟩ = some (.int .i64 x3.Value.Kind) ∧ w'.cell? ⟨(w.heap.size), 7, none⟩ = some (.int .i64 x3.Value.N) ∧ w'.cell? ⟨(w.heap.size), 8, none⟩ = some (.int .i64 x3.Count) ∧ w'.cell? ⟨(w.heap.size), 9, none⟩ = some (.int .i64 x3.Tag.Vat) ∧ w'.cell? ⟨(w.heap.size), 10, none⟩ = some (.int .i64 x3.Tag.Entity) ∧ w'.cell? ⟨(w.heap.size), 11, none⟩ = some (.int .i64 x3.Tag.Seq)) (exact ⟨b3.out.at 0 rfl, b3.out.at 1 rfl, b3.out.at 2 rfl, b3.out.at 3 rfl, b3.out.at 4 rfl, b3.out.at 5 rfl, b3.out.at 6 rfl, b3.out.at 7 rfl, b3.out.at 8 rfl, b3.out.at 9 rfl, b3.out.at 10 rfl, b3.out.at 11 rfl⟩) (first | (go_at_call 62; (with_reducible refine (toS_Channel l0 _ _ _ (C_upd (by repeat (with_reducible first | exact HB_w_2.out | apply Upd.alloc | apply Upd.drewN | apply Upd.drew)) HC0.out) hs0').mono ?_); rintro e w_3 ⟨v, rfl, hR, hu⟩; have HY_w_3 : Sd (Upd No w_2 w_3) := Sd.mk (Upd.then (by repeat (with_reducible first | exact Upd.refl _ _ | apply Upd.alloc | apply Upd.drewN | apply Upd.drew)) hu); replace b3 := Sd.mk (Blk.upd b3.out HY_w_3.out (fun q => q)); have HS_w_3 : Sd (w_2.heap.size ≤ w_3.heap.size) := Sd.mk HY_w_3.out.size; have HB_w_3 : Sd (Upd No w w_3) := Sd.mk (Upd.then HB_w_2.out HY_w_3.out); have s0 : Sd (R ki_Channel _ w_3 (Iv w_2.heap.size w_3.heap.size) _ _) := Sd.mk (R_lt (R_mono (F' := New w_2) (fun b q => Nat.le_trans (Upd.size ((by repeat (with_reducible first | exact Upd.refl _ _ | apply Upd.alloc | apply Upd.drewN | apply Upd.drew)) : Upd No w_2 _)) q) hR)); have INs0 : Sd (∀ b, (Iv w_2.heap.size w_3.heap.size) b → w_2.heap.size ≤ b ∧ b < w_3.heap.size) := Sd.mk (fun b q => q); obtain ⟨Bs0, zs0, rfl⟩ := R_slice hR; clear hR; clear hu HY_w_3) | (go_at_call 70; (with_reducible refine (to_Message x3 _ _ (K_upd (by repeat (with_reducible first | exact HB_w_3.out | apply Upd.alloc | apply Upd.drewN | apply Upd.drew)) HK3.out) hs3').mono ?_); rintro e w_4 ⟨cs, rfl, hR, hu⟩; have HY_w_4 : Sd (Upd No w_3 w_4) := Sd.mk (Upd.then (by repeat (with_reducible first | exact Upd.refl _ _ | apply Upd.alloc | apply Upd.drewN | apply Upd.drew)) hu); replace s0 := Sd.mk (R_upd HY_w_4.out (fun _ _ q => q) s0.out); replace b3 := Sd.mk (Blk.upd b3.out HY_w_4.out (fun q => q)); have HS_w_4 : Sd (w_3.heap.size ≤ w_4.heap.size) := Sd.mk HY_w_4.out.size; have HB_w_4 : Sd (Upd No w w_4) := Sd.mk (Upd.then HB_w_3.out HY_w_4.out); have s3 : Sd (ki_Message.M w_4 (Iv w_3.heap.size w_4.heap.size) _ _) := Sd.mk (ki_Message.M_lt (ki_Message.M_mono (F' := New w_3) (fun b q => Nat.le_trans (Upd.size ((by repeat (with_reducible first | exact Upd.refl _ _ | apply Upd.alloc | apply Upd.drewN | apply Upd.drew)) : Upd No w_3 _)) q) hR)); have INs3 : Sd (∀ b, (Iv w_3.heap.size w_4.heap.size) b → w_3.heap.size ≤ b ∧ b < w_4.heap.size) := Sd.mk (fun b q => q); obtain ⟨vs3_5, ps3_5, rfl, rs3_5, -⟩ := ki_Message_M hR; obtain ⟨Bs3_5, zs3_5, rfl⟩ := R_slice rs3_5; clear rs3_5 ps3_5; clear hR; clear hu HY_w_4) | (go_at_call 31; (with_reducible refine (putMessage_s l0 a1 a2 x3 _ _ _ _ (R_C (R_no (by repeat (with_reducible first | exact Upd.refl _ _ | apply Upd.alloc | apply Upd.drewN | apply Upd.drew)) s0.out)) (ki_Message.K_of_M (M_no (by repeat (with_reducible first | exact Upd.refl _ _ | apply Upd.alloc | apply Upd.drewN | apply Upd.drew)) s3.out)) hn0 (bds l0 hs0') (argsBd x3 hs3')).mono ?_); rintro e w_5 ⟨v0, rfl, hR0, hu⟩; have HY_w_5 : Sd (Upd No w_4 w_5) := Sd.mk (Upd.then (by repeat (with_reducible first | exact Upd.refl _ _ | apply Upd.alloc | apply Upd.drewN | apply Upd.drew)) hu); replace s0 := Sd.mk (R_upd HY_w_5.out (fun _ _ q => q) s0.out); replace s3 := Sd.mk (M_upd HY_w_5.out (fun _ _ q => q) s3.out); replace b3 := Sd.mk (Blk.upd b3.out HY_w_5.out (fun q => q)); have HS_w_5 : Sd (w_4.heap.size ≤ w_5.heap.size) := Sd.mk HY_w_5.out.size; have HB_w_5 : Sd (Upd No w w_5) := Sd.mk (Upd.then HB_w_4.out HY_w_5.out); have w0 : Sd (R ki_Channel _ w_5 (Iv w_4.heap.size w_5.heap.size) _ _) := Sd.mk (R_lt (R_mono (F' := New w_4) (fun b q => Nat.le_trans (Upd.size ((by repeat (with_reducible first | exact Upd.refl _ _ | apply Upd.alloc | apply Upd.drewN | apply Upd.drew)) : Upd No w_4 _)) q) hR0)); have INw0 : Sd (∀ b, (Iv w_4.heap.size w_5.heap.size) b → w_4.heap.size ≤ b ∧ b < w_5.heap.size) := Sd.mk (fun b q => q); obtain ⟨Bw0, zw0, rfl⟩ := R_slice hR0; clear hR0; clear hu HY_w_5))
  all_goals
    rename_i hH
    clear hH
    clear s0 s3
    try go_wp2_with fail
    (with_reducible refine (toS_Channel l0 _ _ _ (C_upd (by repeat (with_reducible first | exact HB_w_5.out | apply Upd.alloc | apply Upd.drewN | apply Upd.drew)) HC0.out) hs0').mono ?_)
    rintro e w_6 ⟨v, rfl, hR, hu⟩
    have HY_w_6 : Sd (Upd No w_5 w_6) := Sd.mk (Upd.then (by repeat (with_reducible first | exact Upd.refl _ _ | apply Upd.alloc | apply Upd.drewN | apply Upd.drew)) hu)
    replace w0 := Sd.mk (R_upd HY_w_6.out (fun _ _ q => q) w0.out)
    replace b3 := Sd.mk (Blk.upd b3.out HY_w_6.out (fun q => q))
    have HS_w_6 : Sd (w_5.heap.size ≤ w_6.heap.size) := Sd.mk HY_w_6.out.size
    have HB_w_6 : Sd (Upd No w w_6) := Sd.mk (Upd.then HB_w_5.out HY_w_6.out)
    have x0_ : Sd (R ki_Channel _ w_6 (Iv w_5.heap.size w_6.heap.size) _ _) := Sd.mk (R_lt (R_mono (F' := New w_5) (fun b q => Nat.le_trans (Upd.size ((by repeat (with_reducible first | exact Upd.refl _ _ | apply Upd.alloc | apply Upd.drewN | apply Upd.drew)) : Upd No w_5 _)) q) hR))
    have INx0_ : Sd (∀ b, (Iv w_5.heap.size w_6.heap.size) b → w_5.heap.size ≤ b ∧ b < w_6.heap.size) := Sd.mk (fun b q => q)
    obtain ⟨Bx0_, zx0_, rfl⟩ := R_slice hR
    clear hR
    clear hu HY_w_6
    have tb3_0 := b3.out.at 0 (v := .int .i64 x3.Kind) rfl
    have tb3_1 := b3.out.at 1 (v := .int .i64 x3.Pos) rfl
    have tb3_2 := b3.out.at 2 (v := .int .i64 x3.Answer) rfl
    have tb3_3 := b3.out.at 3 (v := .int .i64 x3.Question) rfl
    have tb3_4 := b3.out.at 4 (v := .string x3.Name) rfl
    have tb3_5 := b3.out.at 5 (v := .slice A3_5 x3.Args.length c3_5) rfl
    have tb3_6 := b3.out.at 6 (v := .int .i64 x3.Value.Kind) rfl
    have tb3_7 := b3.out.at 7 (v := .int .i64 x3.Value.N) rfl
    have tb3_8 := b3.out.at 8 (v := .int .i64 x3.Count) rfl
    have tb3_9 := b3.out.at 9 (v := .int .i64 x3.Tag.Vat) rfl
    have tb3_10 := b3.out.at 10 (v := .int .i64 x3.Tag.Entity) rfl
    have tb3_11 := b3.out.at 11 (v := .int .i64 x3.Tag.Seq) rfl
    try go_wp2_with fail
    clear tb3_0 tb3_1 tb3_2 tb3_3 tb3_4 tb3_5 tb3_6 tb3_7 tb3_8 tb3_9 tb3_10 tb3_11
    (with_reducible refine (to_Message x3 _ _ (K_upd (by repeat (with_reducible first | exact HB_w_6.out | apply Upd.alloc | apply Upd.drewN | apply Upd.drew)) HK3.out) hs3').mono ?_)
    rintro e w_7 ⟨cs, rfl, hR, hu⟩
    have HY_w_7 : Sd (Upd No w_6 w_7) := Sd.mk (Upd.then (by repeat (with_reducible first | exact Upd.refl _ _ | apply Upd.alloc | apply Upd.drewN | apply Upd.drew)) hu)
    replace w0 := Sd.mk (R_upd HY_w_7.out (fun _ _ q => q) w0.out)
    replace x0_ := Sd.mk (R_upd HY_w_7.out (fun _ _ q => q) x0_.out)
    replace b3 := Sd.mk (Blk.upd b3.out HY_w_7.out (fun q => q))
    have HS_w_7 : Sd (w_6.heap.size ≤ w_7.heap.size) := Sd.mk HY_w_7.out.size
    have HB_w_7 : Sd (Upd No w w_7) := Sd.mk (Upd.then HB_w_6.out HY_w_7.out)
    have x3_ : Sd (ki_Message.M w_7 (Iv w_6.heap.size w_7.heap.size) _ _) := Sd.mk (ki_Message.M_lt (ki_Message.M_mono (F' := New w_6) (fun b q => Nat.le_trans (Upd.size ((by repeat (with_reducible first | exact Upd.refl _ _ | apply Upd.alloc | apply Upd.drewN | apply Upd.drew)) : Upd No w_6 _)) q) hR))
    have INx3_ : Sd (∀ b, (Iv w_6.heap.size w_7.heap.size) b → w_6.heap.size ≤ b ∧ b < w_7.heap.size) := Sd.mk (fun b q => q)
    obtain ⟨vx3__5, px3__5, rfl, rx3__5, -⟩ := ki_Message_M hR
    obtain ⟨Bx3__5, zx3__5, rfl⟩ := R_slice rx3__5
    clear rx3__5 px3__5
    clear hR
    clear hu HY_w_7
    try go_wp2_with fail
    refine gen_boxC ?_
    intro w_8 hB hU
    have HY_w_8 := Sd.mk hU
    replace w0 := Sd.mk (R_upd HY_w_8.out (fun _ _ q => q) w0.out)
    replace x0_ := Sd.mk (R_upd HY_w_8.out (fun _ _ q => q) x0_.out)
    replace x3_ := Sd.mk (M_upd HY_w_8.out (fun _ _ q => q) x3_.out)
    replace b3 := Sd.mk (Blk.upd b3.out HY_w_8.out (fun q => q))
    have HS_w_8 : Sd (w_7.heap.size ≤ w_8.heap.size) := Sd.mk HY_w_8.out.size
    have HB_w_8 : Sd (Upd No w w_8) := Sd.mk (Upd.then HB_w_7.out HY_w_8.out)
    have bx3 : Sd (Blk w_8 w_7.heap.size 46 #[.int .i64 x3.Kind, .int .i64 x3.Pos, .int .i64 x3.Answer, .int .i64 x3.Question, .string x3.Name, .slice Bx3__5 x3.Args.length zx3__5, .int .i64 x3.Value.Kind, .int .i64 x3.Value.N, .int .i64 x3.Count, .int .i64 x3.Tag.Vat, .int .i64 x3.Tag.Entity, .int .i64 x3.Tag.Seq]) := Sd.mk hB
    have HL_w_8 : Sd (w_7.heap.size < w_8.heap.size) := Sd.mk hB.lt
    clear hB hU HY_w_8
    have tbx3_0 := bx3.out.at 0 (v := .int .i64 x3.Kind) rfl
    have tbx3_1 := bx3.out.at 1 (v := .int .i64 x3.Pos) rfl
    have tbx3_2 := bx3.out.at 2 (v := .int .i64 x3.Answer) rfl
    have tbx3_3 := bx3.out.at 3 (v := .int .i64 x3.Question) rfl
    have tbx3_4 := bx3.out.at 4 (v := .string x3.Name) rfl
    have tbx3_5 := bx3.out.at 5 (v := .slice Bx3__5 x3.Args.length zx3__5) rfl
    have tbx3_6 := bx3.out.at 6 (v := .int .i64 x3.Value.Kind) rfl
    have tbx3_7 := bx3.out.at 7 (v := .int .i64 x3.Value.N) rfl
    have tbx3_8 := bx3.out.at 8 (v := .int .i64 x3.Count) rfl
    have tbx3_9 := bx3.out.at 9 (v := .int .i64 x3.Tag.Vat) rfl
    have tbx3_10 := bx3.out.at 10 (v := .int .i64 x3.Tag.Entity) rfl
    have tbx3_11 := bx3.out.at 11 (v := .int .i64 x3.Tag.Seq) rfl
    try go_wp2_with fail
    clear tbx3_0 tbx3_1 tbx3_2 tbx3_3 tbx3_4 tbx3_5 tbx3_6 tbx3_7 tbx3_8 tbx3_9 tbx3_10 tbx3_11
    (with_reducible refine (putMessage2_i l0 a1 a2 x3 _ _ _ _ (R_C (R_no (by repeat (with_reducible first | exact Upd.refl _ _ | apply Upd.alloc | apply Upd.drewN | apply Upd.drew)) x0_.out)) (ki_Message.K_of_M (M_no (by repeat (with_reducible first | exact Upd.refl _ _ | apply Upd.alloc | apply Upd.drewN | apply Upd.drew)) x3_.out)) hn0 (bds l0 hs0') (argsBd x3 hs3')).mono ?_)
    rintro e w_9 ⟨v0, rfl, hR0, hu⟩
    have HY_w_9 : Sd (Upd No w_8 w_9) := Sd.mk (Upd.then (by repeat (with_reducible first | exact Upd.refl _ _ | apply Upd.alloc | apply Upd.drewN | apply Upd.drew)) hu)
    replace w0 := Sd.mk (R_upd HY_w_9.out (fun _ _ q => q) w0.out)
    replace x0_ := Sd.mk (R_upd HY_w_9.out (fun _ _ q => q) x0_.out)
    replace x3_ := Sd.mk (M_upd HY_w_9.out (fun _ _ q => q) x3_.out)
    replace b3 := Sd.mk (Blk.upd b3.out HY_w_9.out (fun q => q))
    replace bx3 := Sd.mk (Blk.upd bx3.out HY_w_9.out (fun q => q))
    have HS_w_9 : Sd (w_8.heap.size ≤ w_9.heap.size) := Sd.mk HY_w_9.out.size
    have HB_w_9 : Sd (Upd No w w_9) := Sd.mk (Upd.then HB_w_8.out HY_w_9.out)
    have g0 : Sd (R ki_Channel _ w_9 (Iv w_8.heap.size w_9.heap.size) _ _) := Sd.mk (R_lt (R_mono (F' := New w_8) (fun b q => Nat.le_trans (Upd.size ((by repeat (with_reducible first | exact Upd.refl _ _ | apply Upd.alloc | apply Upd.drewN | apply Upd.drew)) : Upd No w_8 _)) q) hR0))
    have INg0 : Sd (∀ b, (Iv w_8.heap.size w_9.heap.size) b → w_8.heap.size ≤ b ∧ b < w_9.heap.size) := Sd.mk (fun b q => q)
    obtain ⟨Bg0, zg0, rfl⟩ := R_slice hR0
    clear hR0
    clear hu HY_w_9
    try go_wp2_with fail
    (with_reducible refine (eqS_Channel (putC a1 a2 x3 l0) _ _ _ _ _ (R_C (R_no (by repeat (with_reducible first | exact Upd.refl _ _ | apply Upd.alloc | apply Upd.drewN | apply Upd.drew)) g0.out)) (R_C (R_no (by repeat (with_reducible first | exact Upd.refl _ _ | apply Upd.alloc | apply Upd.drewN | apply Upd.drew)) w0.out))).mono ?_)
    rintro e w_10 ⟨rfl, hu⟩
    have HY_w_10 : Sd (Upd No w_9 w_10) := Sd.mk (Upd.then (by repeat (with_reducible first | exact Upd.refl _ _ | apply Upd.alloc | apply Upd.drewN | apply Upd.drew)) hu)
    replace w0 := Sd.mk (R_upd HY_w_10.out (fun _ _ q => q) w0.out)
    replace x0_ := Sd.mk (R_upd HY_w_10.out (fun _ _ q => q) x0_.out)
    replace x3_ := Sd.mk (M_upd HY_w_10.out (fun _ _ q => q) x3_.out)
    replace g0 := Sd.mk (R_upd HY_w_10.out (fun _ _ q => q) g0.out)
    replace b3 := Sd.mk (Blk.upd b3.out HY_w_10.out (fun q => q))
    replace bx3 := Sd.mk (Blk.upd bx3.out HY_w_10.out (fun q => q))
    have HS_w_10 : Sd (w_9.heap.size ≤ w_10.heap.size) := Sd.mk HY_w_10.out.size
    have HB_w_10 : Sd (Upd No w w_10) := Sd.mk (Upd.then HB_w_9.out HY_w_10.out)
    clear hu HY_w_10
    try go_wp2_with fail
    (with_reducible refine (toS_Channel l0 _ _ _ (C_upd (by repeat (with_reducible first | exact HB_w_10.out | apply Upd.alloc | apply Upd.drewN | apply Upd.drew)) HC0.out) hs0').mono ?_)
    rintro e w_11 ⟨v, rfl, hR, hu⟩
    have HY_w_11 : Sd (Upd No w_10 w_11) := Sd.mk (Upd.then (by repeat (with_reducible first | exact Upd.refl _ _ | apply Upd.alloc | apply Upd.drewN | apply Upd.drew)) hu)
    replace w0 := Sd.mk (R_upd HY_w_11.out (fun _ _ q => q) w0.out)
    replace x0_ := Sd.mk (R_upd HY_w_11.out (fun _ _ q => q) x0_.out)
    replace x3_ := Sd.mk (M_upd HY_w_11.out (fun _ _ q => q) x3_.out)
    replace g0 := Sd.mk (R_upd HY_w_11.out (fun _ _ q => q) g0.out)
    replace b3 := Sd.mk (Blk.upd b3.out HY_w_11.out (fun q => q))
    replace bx3 := Sd.mk (Blk.upd bx3.out HY_w_11.out (fun q => q))
    have HS_w_11 : Sd (w_10.heap.size ≤ w_11.heap.size) := Sd.mk HY_w_11.out.size
    have HB_w_11 : Sd (Upd No w w_11) := Sd.mk (Upd.then HB_w_10.out HY_w_11.out)
    have y0 : Sd (R ki_Channel _ w_11 (Iv w_10.heap.size w_11.heap.size) _ _) := Sd.mk (R_lt (R_mono (F' := New w_10) (fun b q => Nat.le_trans (Upd.size ((by repeat (with_reducible first | exact Upd.refl _ _ | apply Upd.alloc | apply Upd.drewN | apply Upd.drew)) : Upd No w_10 _)) q) hR))
    have INy0 : Sd (∀ b, (Iv w_10.heap.size w_11.heap.size) b → w_10.heap.size ≤ b ∧ b < w_11.heap.size) := Sd.mk (fun b q => q)
    obtain ⟨By0, zy0, rfl⟩ := R_slice hR
    clear hR
    clear hu HY_w_11
    try go_wp2_with fail
    (with_reducible refine (eqS_Channel l0 _ _ _ _ _ (R_C (R_no (by repeat (with_reducible first | exact Upd.refl _ _ | apply Upd.alloc | apply Upd.drewN | apply Upd.drew)) x0_.out)) (R_C (R_no (by repeat (with_reducible first | exact Upd.refl _ _ | apply Upd.alloc | apply Upd.drewN | apply Upd.drew)) y0.out))).mono ?_)
    rintro e w_12 ⟨rfl, hu⟩
    have HY_w_12 : Sd (Upd No w_11 w_12) := Sd.mk (Upd.then (by repeat (with_reducible first | exact Upd.refl _ _ | apply Upd.alloc | apply Upd.drewN | apply Upd.drew)) hu)
    replace w0 := Sd.mk (R_upd HY_w_12.out (fun _ _ q => q) w0.out)
    replace x0_ := Sd.mk (R_upd HY_w_12.out (fun _ _ q => q) x0_.out)
    replace x3_ := Sd.mk (M_upd HY_w_12.out (fun _ _ q => q) x3_.out)
    replace g0 := Sd.mk (R_upd HY_w_12.out (fun _ _ q => q) g0.out)
    replace y0 := Sd.mk (R_upd HY_w_12.out (fun _ _ q => q) y0.out)
    replace b3 := Sd.mk (Blk.upd b3.out HY_w_12.out (fun q => q))
    replace bx3 := Sd.mk (Blk.upd bx3.out HY_w_12.out (fun q => q))
    have HS_w_12 : Sd (w_11.heap.size ≤ w_12.heap.size) := Sd.mk HY_w_12.out.size
    have HB_w_12 : Sd (Upd No w w_12) := Sd.mk (Upd.then HB_w_11.out HY_w_12.out)
    clear hu HY_w_12
    clear y0
    try go_wp2_with fail
    go_region_held3 (fun w' => w'.cell? ⟨w_7.heap.size, 0, none⟩ = some (.int .i64 x3.Kind) ∧ w'.cell? ⟨w_7.heap.size, 1, none⟩ = some (.int .i64 x3.Pos) ∧ w'.cell? ⟨w_7.heap.size, 2, none⟩ = some (.int .i64 x3.Answer) ∧ w'.cell? ⟨w_7.heap.size, 3, none⟩ = some (.int .i64 x3.Question) ∧ w'.cell? ⟨w_7.heap.size, 4, none⟩ = some (.string x3.Name) ∧ w'.cell? ⟨w_7.heap.size, 5, none⟩ = some (.slice Bx3__5 x3.Args.length zx3__5) ∧ w'.cell? ⟨w_7.heap.size, 6, none⟩ = some (.int .i64 x3.Value.Kind) ∧ w'.cell? ⟨w_7.heap.size, 7, none⟩ = some (.int .i64 x3.Value.N) ∧ w'.cell? ⟨w_7.heap.size, 8, none⟩ = some (.int .i64 x3.Count) ∧ w'.cell? ⟨w_7.heap.size, 9, none⟩ = some (.int .i64 x3.Tag.Vat) ∧ w'.cell? ⟨w_7.heap.size, 10, none⟩ = some (.int .i64 x3.Tag.Entity) ∧ w'.cell? ⟨w_7.heap.size, 11, none⟩ = some (.int .i64 x3.Tag.Seq) ∧ w'.cell? ⟨(w.heap.size), 0, none⟩ = some (.int .i64 x3.Kind) ∧ w'.cell? ⟨(w.heap.size), 1, none⟩ = some (.int .i64 x3.Pos) ∧ w'.cell? ⟨(w.heap.size), 2, none⟩ = some (.int .i64 x3.Answer) ∧ w'.cell? ⟨(w.heap.size), 3, none⟩ = some (.int .i64 x3.Question) ∧ w'.cell? ⟨(w.heap.size), 4, none⟩ = some (.string x3.Name) ∧ w'.cell? ⟨(w.heap.size), 5, none⟩ = some (.slice A3_5 x3.Args.length c3_5) ∧ w'.cell? ⟨(w.heap.size), 6, none⟩ = some (.int .i64 x3.Value.Kind) ∧ w'.cell? ⟨(w.heap.size), 7, none⟩ = some (.int .i64 x3.Value.N) ∧ w'.cell? ⟨(w.heap.size), 8, none⟩ = some (.int .i64 x3.Count) ∧ w'.cell? ⟨(w.heap.size), 9, none⟩ = some (.int .i64 x3.Tag.Vat) ∧ w'.cell? ⟨(w.heap.size), 10, none⟩ = some (.int .i64 x3.Tag.Entity) ∧ w'.cell? ⟨(w.heap.size), 11, none⟩ = some (.int .i64 x3.Tag.Seq)) (exact ⟨bx3.out.at 0 rfl, bx3.out.at 1 rfl, bx3.out.at 2 rfl, bx3.out.at 3 rfl, bx3.out.at 4 rfl, bx3.out.at 5 rfl, bx3.out.at 6 rfl, bx3.out.at 7 rfl, bx3.out.at 8 rfl, bx3.out.at 9 rfl, bx3.out.at 10 rfl, bx3.out.at 11 rfl, b3.out.at 0 rfl, b3.out.at 1 rfl, b3.out.at 2 rfl, b3.out.at 3 rfl, b3.out.at 4 rfl, b3.out.at 5 rfl, b3.out.at 6 rfl, b3.out.at 7 rfl, b3.out.at 8 rfl, b3.out.at 9 rfl, b3.out.at 10 rfl, b3.out.at 11 rfl⟩) (first | (go_at_call 70; (with_reducible refine (to_Message x3 _ _ (K_upd (by repeat (with_reducible first | exact HB_w_12.out | apply Upd.alloc | apply Upd.drewN | apply Upd.drew)) HK3.out) hs3').mono ?_); rintro e w_13 ⟨cs, rfl, hR, hu⟩; have HY_w_13 : Sd (Upd No w_12 w_13) := Sd.mk (Upd.then (by repeat (with_reducible first | exact Upd.refl _ _ | apply Upd.alloc | apply Upd.drewN | apply Upd.drew)) hu); replace w0 := Sd.mk (R_upd HY_w_13.out (fun _ _ q => q) w0.out); replace x0_ := Sd.mk (R_upd HY_w_13.out (fun _ _ q => q) x0_.out); replace x3_ := Sd.mk (M_upd HY_w_13.out (fun _ _ q => q) x3_.out); replace g0 := Sd.mk (R_upd HY_w_13.out (fun _ _ q => q) g0.out); replace b3 := Sd.mk (Blk.upd b3.out HY_w_13.out (fun q => q)); replace bx3 := Sd.mk (Blk.upd bx3.out HY_w_13.out (fun q => q)); have HS_w_13 : Sd (w_12.heap.size ≤ w_13.heap.size) := Sd.mk HY_w_13.out.size; have HB_w_13 : Sd (Upd No w w_13) := Sd.mk (Upd.then HB_w_12.out HY_w_13.out); have y3 : Sd (ki_Message.M w_13 (Iv w_12.heap.size w_13.heap.size) _ _) := Sd.mk (ki_Message.M_lt (ki_Message.M_mono (F' := New w_12) (fun b q => Nat.le_trans (Upd.size ((by repeat (with_reducible first | exact Upd.refl _ _ | apply Upd.alloc | apply Upd.drewN | apply Upd.drew)) : Upd No w_12 _)) q) hR)); have INy3 : Sd (∀ b, (Iv w_12.heap.size w_13.heap.size) b → w_12.heap.size ≤ b ∧ b < w_13.heap.size) := Sd.mk (fun b q => q); obtain ⟨vy3_5, py3_5, rfl, ry3_5, -⟩ := ki_Message_M hR; obtain ⟨By3_5, zy3_5, rfl⟩ := R_slice ry3_5; clear ry3_5 py3_5; clear hR; clear hu HY_w_13) | (go_at_call 71; (with_reducible refine (eq_Message x3 _ _ _ (ki_Message.K_of_M (M_no (by repeat (with_reducible first | exact Upd.refl _ _ | apply Upd.alloc | apply Upd.drewN | apply Upd.drew)) x3_.out)) (ki_Message.K_of_M (M_no (by repeat (with_reducible first | exact Upd.refl _ _ | apply Upd.alloc | apply Upd.drewN | apply Upd.drew)) y3.out))).mono ?_); rintro e w_14 ⟨rfl, hu⟩; have HY_w_14 : Sd (Upd No w_13 w_14) := Sd.mk (Upd.then (by repeat (with_reducible first | exact Upd.refl _ _ | apply Upd.alloc | apply Upd.drewN | apply Upd.drew)) hu); replace w0 := Sd.mk (R_upd HY_w_14.out (fun _ _ q => q) w0.out); replace x0_ := Sd.mk (R_upd HY_w_14.out (fun _ _ q => q) x0_.out); replace x3_ := Sd.mk (M_upd HY_w_14.out (fun _ _ q => q) x3_.out); replace g0 := Sd.mk (R_upd HY_w_14.out (fun _ _ q => q) g0.out); replace y3 := Sd.mk (M_upd HY_w_14.out (fun _ _ q => q) y3.out); replace b3 := Sd.mk (Blk.upd b3.out HY_w_14.out (fun q => q)); replace bx3 := Sd.mk (Blk.upd bx3.out HY_w_14.out (fun q => q)); have HS_w_14 : Sd (w_13.heap.size ≤ w_14.heap.size) := Sd.mk HY_w_14.out.size; have HB_w_14 : Sd (Upd No w w_14) := Sd.mk (Upd.then HB_w_13.out HY_w_14.out); clear hu HY_w_14))
    all_goals
      rename_i hH
      clear hH
      clear y3
      have nx0 := cntS_nn cnt_Channel cnt_Channel_nn l0
      have HX0 := Sd.mk (cntS_bound cnt_Channel szn_Channel cnt_Channel_le l0)
      have nx3 := cntv_Message_nn x3
      have HX3 := Sd.mk (cntv_Message_le x3)
      try go_wp2_with fail
      (with_reducible refine (markS_Channel l0 _ (Iv w_5.heap.size w_6.heap.size) _ _ (R_no (by repeat (with_reducible first | exact Upd.refl _ _ | apply Upd.alloc | apply Upd.drewN | apply Upd.drew)) x0_.out) (by omega) (by have := HX0.out; have := HX3.out; omega)).mono ?_)
      rintro e w_15 ⟨rfl, hR, hu⟩
      have HY_w_15 : Sd (Upd (Iv w_5.heap.size w_6.heap.size) w_14 w_15) := Sd.mk (Upd.trans ((by repeat (with_reducible first | exact Upd.refl _ _ | apply Upd.alloc | apply Upd.drewN | apply Upd.drew)) : Upd No w_14 _) hu (fun _ _ q => q.elim) (fun _ _ q => q))
      replace w0 := Sd.mk (R_upd HY_w_15.out (fun b q q' => (by have h1 := INw0.out b q; have h2 := INx0_.out b q'; have := HS_wb.out; have := HS_w_1.out; have := HS_w_2.out; have := HS_w_3.out; have := HS_w_4.out; have := HS_w_5.out; have := HS_w_6.out; have := HS_w_7.out; have := HS_w_8.out; have := HL_w_8.out; have := HS_w_9.out; have := HS_w_10.out; have := HS_w_11.out; have := HS_w_12.out; have := HS_w_13.out; have := HS_w_14.out; omega)) w0.out)
      replace x3_ := Sd.mk (M_upd HY_w_15.out (fun b q q' => (by have h1 := INx3_.out b q; have h2 := INx0_.out b q'; have := HS_wb.out; have := HS_w_1.out; have := HS_w_2.out; have := HS_w_3.out; have := HS_w_4.out; have := HS_w_5.out; have := HS_w_6.out; have := HS_w_7.out; have := HS_w_8.out; have := HL_w_8.out; have := HS_w_9.out; have := HS_w_10.out; have := HS_w_11.out; have := HS_w_12.out; have := HS_w_13.out; have := HS_w_14.out; omega)) x3_.out)
      replace g0 := Sd.mk (R_upd HY_w_15.out (fun b q q' => (by have h1 := INg0.out b q; have h2 := INx0_.out b q'; have := HS_wb.out; have := HS_w_1.out; have := HS_w_2.out; have := HS_w_3.out; have := HS_w_4.out; have := HS_w_5.out; have := HS_w_6.out; have := HS_w_7.out; have := HS_w_8.out; have := HL_w_8.out; have := HS_w_9.out; have := HS_w_10.out; have := HS_w_11.out; have := HS_w_12.out; have := HS_w_13.out; have := HS_w_14.out; omega)) g0.out)
      replace b3 := Sd.mk (Blk.upd b3.out HY_w_15.out (fun q => (by have h1 := INx0_.out _ q; have := HS_wb.out; have := HS_w_1.out; have := HS_w_2.out; have := HS_w_3.out; have := HS_w_4.out; have := HS_w_5.out; have := HS_w_6.out; have := HS_w_7.out; have := HS_w_8.out; have := HL_w_8.out; have := HS_w_9.out; have := HS_w_10.out; have := HS_w_11.out; have := HS_w_12.out; have := HS_w_13.out; have := HS_w_14.out; omega)))
      replace bx3 := Sd.mk (Blk.upd bx3.out HY_w_15.out (fun q => (by have h1 := INx0_.out _ q; have := HS_wb.out; have := HS_w_1.out; have := HS_w_2.out; have := HS_w_3.out; have := HS_w_4.out; have := HS_w_5.out; have := HS_w_6.out; have := HS_w_7.out; have := HS_w_8.out; have := HL_w_8.out; have := HS_w_9.out; have := HS_w_10.out; have := HS_w_11.out; have := HS_w_12.out; have := HS_w_13.out; have := HS_w_14.out; omega)))
      have HS_w_15 : Sd (w_14.heap.size ≤ w_15.heap.size) := Sd.mk HY_w_15.out.size
      have HB_w_15 : Sd (Upd No w w_15) := Sd.mk (Upd.trans HB_w_14.out HY_w_15.out (fun _ _ q => q) (fun b hb q => (by have h1 := INx0_.out b q; have := HS_wb.out; have := HS_w_1.out; have := HS_w_2.out; have := HS_w_3.out; have := HS_w_4.out; have := HS_w_5.out; have := HS_w_6.out; have := HS_w_7.out; have := HS_w_8.out; have := HL_w_8.out; have := HS_w_9.out; have := HS_w_10.out; have := HS_w_11.out; have := HS_w_12.out; have := HS_w_13.out; have := HS_w_14.out; omega)))
      clear hu HY_w_15
      clear hR x0_
      have tbx3_0 := bx3.out.at 0 (v := .int .i64 x3.Kind) rfl
      have tbx3_1 := bx3.out.at 1 (v := .int .i64 x3.Pos) rfl
      have tbx3_2 := bx3.out.at 2 (v := .int .i64 x3.Answer) rfl
      have tbx3_3 := bx3.out.at 3 (v := .int .i64 x3.Question) rfl
      have tbx3_4 := bx3.out.at 4 (v := .string x3.Name) rfl
      have tbx3_5 := bx3.out.at 5 (v := .slice Bx3__5 x3.Args.length zx3__5) rfl
      have tbx3_6 := bx3.out.at 6 (v := .int .i64 x3.Value.Kind) rfl
      have tbx3_7 := bx3.out.at 7 (v := .int .i64 x3.Value.N) rfl
      have tbx3_8 := bx3.out.at 8 (v := .int .i64 x3.Count) rfl
      have tbx3_9 := bx3.out.at 9 (v := .int .i64 x3.Tag.Vat) rfl
      have tbx3_10 := bx3.out.at 10 (v := .int .i64 x3.Tag.Entity) rfl
      have tbx3_11 := bx3.out.at 11 (v := .int .i64 x3.Tag.Seq) rfl
      try go_wp2_with fail
      clear tbx3_0 tbx3_1 tbx3_2 tbx3_3 tbx3_4 tbx3_5 tbx3_6 tbx3_7 tbx3_8 tbx3_9 tbx3_10 tbx3_11
      (with_reducible refine (markv_Message_c x3 _ (Iv w_6.heap.size w_7.heap.size) _ _ (M_no (by repeat (with_reducible first | exact Upd.refl _ _ | apply Upd.alloc | apply Upd.drewN | apply Upd.drew)) x3_.out) (by omega) (by have := HX0.out; have := HX3.out; omega)).mono ?_)
      rintro e w_16 ⟨rfl, hR, hu⟩
      have HY_w_16 : Sd (Upd (Iv w_6.heap.size w_7.heap.size) w_15 w_16) := Sd.mk (Upd.trans ((by repeat (with_reducible first | exact Upd.refl _ _ | apply Upd.alloc | apply Upd.drewN | apply Upd.drew)) : Upd No w_15 _) hu (fun _ _ q => q.elim) (fun _ _ q => q))
      replace w0 := Sd.mk (R_upd HY_w_16.out (fun b q q' => (by have h1 := INw0.out b q; have h2 := INx3_.out b q'; have := HS_wb.out; have := HS_w_1.out; have := HS_w_2.out; have := HS_w_3.out; have := HS_w_4.out; have := HS_w_5.out; have := HS_w_6.out; have := HS_w_7.out; have := HS_w_8.out; have := HL_w_8.out; have := HS_w_9.out; have := HS_w_10.out; have := HS_w_11.out; have := HS_w_12.out; have := HS_w_13.out; have := HS_w_14.out; have := HS_w_15.out; omega)) w0.out)
      replace g0 := Sd.mk (R_upd HY_w_16.out (fun b q q' => (by have h1 := INg0.out b q; have h2 := INx3_.out b q'; have := HS_wb.out; have := HS_w_1.out; have := HS_w_2.out; have := HS_w_3.out; have := HS_w_4.out; have := HS_w_5.out; have := HS_w_6.out; have := HS_w_7.out; have := HS_w_8.out; have := HL_w_8.out; have := HS_w_9.out; have := HS_w_10.out; have := HS_w_11.out; have := HS_w_12.out; have := HS_w_13.out; have := HS_w_14.out; have := HS_w_15.out; omega)) g0.out)
      replace b3 := Sd.mk (Blk.upd b3.out HY_w_16.out (fun q => (by have h1 := INx3_.out _ q; have := HS_wb.out; have := HS_w_1.out; have := HS_w_2.out; have := HS_w_3.out; have := HS_w_4.out; have := HS_w_5.out; have := HS_w_6.out; have := HS_w_7.out; have := HS_w_8.out; have := HL_w_8.out; have := HS_w_9.out; have := HS_w_10.out; have := HS_w_11.out; have := HS_w_12.out; have := HS_w_13.out; have := HS_w_14.out; have := HS_w_15.out; omega)))
      replace bx3 := Sd.mk (Blk.upd bx3.out HY_w_16.out (fun q => (by have h1 := INx3_.out _ q; have := HS_wb.out; have := HS_w_1.out; have := HS_w_2.out; have := HS_w_3.out; have := HS_w_4.out; have := HS_w_5.out; have := HS_w_6.out; have := HS_w_7.out; have := HS_w_8.out; have := HL_w_8.out; have := HS_w_9.out; have := HS_w_10.out; have := HS_w_11.out; have := HS_w_12.out; have := HS_w_13.out; have := HS_w_14.out; have := HS_w_15.out; omega)))
      have HS_w_16 : Sd (w_15.heap.size ≤ w_16.heap.size) := Sd.mk HY_w_16.out.size
      have HB_w_16 : Sd (Upd No w w_16) := Sd.mk (Upd.trans HB_w_15.out HY_w_16.out (fun _ _ q => q) (fun b hb q => (by have h1 := INx3_.out b q; have := HS_wb.out; have := HS_w_1.out; have := HS_w_2.out; have := HS_w_3.out; have := HS_w_4.out; have := HS_w_5.out; have := HS_w_6.out; have := HS_w_7.out; have := HS_w_8.out; have := HL_w_8.out; have := HS_w_9.out; have := HS_w_10.out; have := HS_w_11.out; have := HS_w_12.out; have := HS_w_13.out; have := HS_w_14.out; have := HS_w_15.out; omega)))
      clear hu HY_w_16
      clear hR x3_
      try go_wp2_with fail
      (with_reducible refine (eqS_Channel (putC a1 a2 x3 l0) _ _ _ _ _ (R_C (R_no (by repeat (with_reducible first | exact Upd.refl _ _ | apply Upd.alloc | apply Upd.drewN | apply Upd.drew)) g0.out)) (R_C (R_no (by repeat (with_reducible first | exact Upd.refl _ _ | apply Upd.alloc | apply Upd.drewN | apply Upd.drew)) w0.out))).mono ?_)
      rintro e w_17 ⟨rfl, hu⟩
      have HY_w_17 : Sd (Upd No w_16 w_17) := Sd.mk (Upd.then (by repeat (with_reducible first | exact Upd.refl _ _ | apply Upd.alloc | apply Upd.drewN | apply Upd.drew)) hu)
      replace w0 := Sd.mk (R_upd HY_w_17.out (fun _ _ q => q) w0.out)
      replace g0 := Sd.mk (R_upd HY_w_17.out (fun _ _ q => q) g0.out)
      replace b3 := Sd.mk (Blk.upd b3.out HY_w_17.out (fun q => q))
      replace bx3 := Sd.mk (Blk.upd bx3.out HY_w_17.out (fun q => q))
      have HS_w_17 : Sd (w_16.heap.size ≤ w_17.heap.size) := Sd.mk HY_w_17.out.size
      have HB_w_17 : Sd (Upd No w w_17) := Sd.mk (Upd.then HB_w_16.out HY_w_17.out)
      clear hu HY_w_17
      have nr0 := cntS_nn cnt_Channel cnt_Channel_nn (putC a1 a2 x3 l0)
      have HR_0 := Sd.mk (cntS_bound cnt_Channel szn_Channel cnt_Channel_le (putC a1 a2 x3 l0))
      have HRB0 : Sd (sznS szn_Channel (putC a1 a2 x3 l0) ≤ 4194304) := ⟨putC_bd a1 a2 x3 l0 hs0' hs3'⟩
      try go_wp2_with fail
      (with_reducible refine (markS_Channel (putC a1 a2 x3 l0) _ (Iv w_8.heap.size w_9.heap.size) _ _ (R_no (by repeat (with_reducible first | exact Upd.refl _ _ | apply Upd.alloc | apply Upd.drewN | apply Upd.drew)) g0.out) (by omega) (by have := HR_0.out; have := HRB0.out; omega)).mono ?_)
      rintro e w_18 ⟨rfl, hR, hu⟩
      have HY_w_18 : Sd (Upd (Iv w_8.heap.size w_9.heap.size) w_17 w_18) := Sd.mk (Upd.trans ((by repeat (with_reducible first | exact Upd.refl _ _ | apply Upd.alloc | apply Upd.drewN | apply Upd.drew)) : Upd No w_17 _) hu (fun _ _ q => q.elim) (fun _ _ q => q))
      replace w0 := Sd.mk (R_upd HY_w_18.out (fun b q q' => (by have h1 := INw0.out b q; have h2 := INg0.out b q'; have := HS_wb.out; have := HS_w_1.out; have := HS_w_2.out; have := HS_w_3.out; have := HS_w_4.out; have := HS_w_5.out; have := HS_w_6.out; have := HS_w_7.out; have := HS_w_8.out; have := HL_w_8.out; have := HS_w_9.out; have := HS_w_10.out; have := HS_w_11.out; have := HS_w_12.out; have := HS_w_13.out; have := HS_w_14.out; have := HS_w_15.out; have := HS_w_16.out; have := HS_w_17.out; omega)) w0.out)
      replace b3 := Sd.mk (Blk.upd b3.out HY_w_18.out (fun q => (by have h1 := INg0.out _ q; have := HS_wb.out; have := HS_w_1.out; have := HS_w_2.out; have := HS_w_3.out; have := HS_w_4.out; have := HS_w_5.out; have := HS_w_6.out; have := HS_w_7.out; have := HS_w_8.out; have := HL_w_8.out; have := HS_w_9.out; have := HS_w_10.out; have := HS_w_11.out; have := HS_w_12.out; have := HS_w_13.out; have := HS_w_14.out; have := HS_w_15.out; have := HS_w_16.out; have := HS_w_17.out; omega)))
      replace bx3 := Sd.mk (Blk.upd bx3.out HY_w_18.out (fun q => (by have h1 := INg0.out _ q; have := HS_wb.out; have := HS_w_1.out; have := HS_w_2.out; have := HS_w_3.out; have := HS_w_4.out; have := HS_w_5.out; have := HS_w_6.out; have := HS_w_7.out; have := HS_w_8.out; have := HL_w_8.out; have := HS_w_9.out; have := HS_w_10.out; have := HS_w_11.out; have := HS_w_12.out; have := HS_w_13.out; have := HS_w_14.out; have := HS_w_15.out; have := HS_w_16.out; have := HS_w_17.out; omega)))
      have HS_w_18 : Sd (w_17.heap.size ≤ w_18.heap.size) := Sd.mk HY_w_18.out.size
      have HB_w_18 : Sd (Upd No w w_18) := Sd.mk (Upd.trans HB_w_17.out HY_w_18.out (fun _ _ q => q) (fun b hb q => (by have h1 := INg0.out b q; have := HS_wb.out; have := HS_w_1.out; have := HS_w_2.out; have := HS_w_3.out; have := HS_w_4.out; have := HS_w_5.out; have := HS_w_6.out; have := HS_w_7.out; have := HS_w_8.out; have := HL_w_8.out; have := HS_w_9.out; have := HS_w_10.out; have := HS_w_11.out; have := HS_w_12.out; have := HS_w_13.out; have := HS_w_14.out; have := HS_w_15.out; have := HS_w_16.out; have := HS_w_17.out; omega)))
      clear hu HY_w_18
      replace g0 := Sd.mk hR
      clear hR
      try go_wp2_with fail
      (with_reducible refine (heldS_Channel (putC a1 a2 x3 l0) _ _ _ _ (R_C (R_no (by repeat (with_reducible first | exact Upd.refl _ _ | apply Upd.alloc | apply Upd.drewN | apply Upd.drew)) g0.out)) (by omega) (by have := HR_0.out; have := HRB0.out; omega)).mono ?_)
      rintro e w_19 ⟨rfl, hu⟩
      have HY_w_19 : Sd (Upd No w_18 w_19) := Sd.mk (Upd.then (by repeat (with_reducible first | exact Upd.refl _ _ | apply Upd.alloc | apply Upd.drewN | apply Upd.drew)) hu)
      replace w0 := Sd.mk (R_upd HY_w_19.out (fun _ _ q => q) w0.out)
      replace g0 := Sd.mk (R_upd HY_w_19.out (fun _ _ q => q) g0.out)
      replace b3 := Sd.mk (Blk.upd b3.out HY_w_19.out (fun q => q))
      replace bx3 := Sd.mk (Blk.upd bx3.out HY_w_19.out (fun q => q))
      have HS_w_19 : Sd (w_18.heap.size ≤ w_19.heap.size) := Sd.mk HY_w_19.out.size
      have HB_w_19 : Sd (Upd No w w_19) := Sd.mk (Upd.then HB_w_18.out HY_w_19.out)
      clear hu HY_w_19
      try go_wp2_with fail
      go_region_held3 (fun w' => w'.cell? ⟨(w.heap.size), 0, none⟩ = some (.int .i64 x3.Kind) ∧ w'.cell? ⟨(w.heap.size), 1, none⟩ = some (.int .i64 x3.Pos) ∧ w'.cell? ⟨(w.heap.size), 2, none⟩ = some (.int .i64 x3.Answer) ∧ w'.cell? ⟨(w.heap.size), 3, none⟩ = some (.int .i64 x3.Question) ∧ w'.cell? ⟨(w.heap.size), 4, none⟩ = some (.string x3.Name) ∧ w'.cell? ⟨(w.heap.size), 5, none⟩ = some (.slice A3_5 x3.Args.length c3_5) ∧ w'.cell? ⟨(w.heap.size), 6, none⟩ = some (.int .i64 x3.Value.Kind) ∧ w'.cell? ⟨(w.heap.size), 7, none⟩ = some (.int .i64 x3.Value.N) ∧ w'.cell? ⟨(w.heap.size), 8, none⟩ = some (.int .i64 x3.Count) ∧ w'.cell? ⟨(w.heap.size), 9, none⟩ = some (.int .i64 x3.Tag.Vat) ∧ w'.cell? ⟨(w.heap.size), 10, none⟩ = some (.int .i64 x3.Tag.Entity) ∧ w'.cell? ⟨(w.heap.size), 11, none⟩ = some (.int .i64 x3.Tag.Seq)) (exact ⟨b3.out.at 0 rfl, b3.out.at 1 rfl, b3.out.at 2 rfl, b3.out.at 3 rfl, b3.out.at 4 rfl, b3.out.at 5 rfl, b3.out.at 6 rfl, b3.out.at 7 rfl, b3.out.at 8 rfl, b3.out.at 9 rfl, b3.out.at 10 rfl, b3.out.at 11 rfl⟩) (first | (go_at_call 62; (with_reducible refine (toS_Channel l0 _ _ _ (C_upd (by repeat (with_reducible first | exact HB_w_19.out | apply Upd.alloc | apply Upd.drewN | apply Upd.drew)) HC0.out) hs0').mono ?_); rintro e w_20 ⟨v, rfl, hR, hu⟩; have HY_w_20 : Sd (Upd No w_19 w_20) := Sd.mk (Upd.then (by repeat (with_reducible first | exact Upd.refl _ _ | apply Upd.alloc | apply Upd.drewN | apply Upd.drew)) hu); replace w0 := Sd.mk (R_upd HY_w_20.out (fun _ _ q => q) w0.out); replace g0 := Sd.mk (R_upd HY_w_20.out (fun _ _ q => q) g0.out); replace b3 := Sd.mk (Blk.upd b3.out HY_w_20.out (fun q => q)); replace bx3 := Sd.mk (Blk.upd bx3.out HY_w_20.out (fun q => q)); have HS_w_20 : Sd (w_19.heap.size ≤ w_20.heap.size) := Sd.mk HY_w_20.out.size; have HB_w_20 : Sd (Upd No w w_20) := Sd.mk (Upd.then HB_w_19.out HY_w_20.out); have z0 : Sd (R ki_Channel _ w_20 (Iv w_19.heap.size w_20.heap.size) _ _) := Sd.mk (R_lt (R_mono (F' := New w_19) (fun b q => Nat.le_trans (Upd.size ((by repeat (with_reducible first | exact Upd.refl _ _ | apply Upd.alloc | apply Upd.drewN | apply Upd.drew)) : Upd No w_19 _)) q) hR)); have INz0 : Sd (∀ b, (Iv w_19.heap.size w_20.heap.size) b → w_19.heap.size ≤ b ∧ b < w_20.heap.size) := Sd.mk (fun b q => q); obtain ⟨Bz0, zz0, rfl⟩ := R_slice hR; clear hR; clear hu HY_w_20) | (go_at_call 70; (with_reducible refine (to_Message x3 _ _ (K_upd (by repeat (with_reducible first | exact HB_w_20.out | apply Upd.alloc | apply Upd.drewN | apply Upd.drew)) HK3.out) hs3').mono ?_); rintro e w_21 ⟨cs, rfl, hR, hu⟩; have HY_w_21 : Sd (Upd No w_20 w_21) := Sd.mk (Upd.then (by repeat (with_reducible first | exact Upd.refl _ _ | apply Upd.alloc | apply Upd.drewN | apply Upd.drew)) hu); replace w0 := Sd.mk (R_upd HY_w_21.out (fun _ _ q => q) w0.out); replace g0 := Sd.mk (R_upd HY_w_21.out (fun _ _ q => q) g0.out); replace z0 := Sd.mk (R_upd HY_w_21.out (fun _ _ q => q) z0.out); replace b3 := Sd.mk (Blk.upd b3.out HY_w_21.out (fun q => q)); replace bx3 := Sd.mk (Blk.upd bx3.out HY_w_21.out (fun q => q)); have HS_w_21 : Sd (w_20.heap.size ≤ w_21.heap.size) := Sd.mk HY_w_21.out.size; have HB_w_21 : Sd (Upd No w w_21) := Sd.mk (Upd.then HB_w_20.out HY_w_21.out); have z3 : Sd (ki_Message.M w_21 (Iv w_20.heap.size w_21.heap.size) _ _) := Sd.mk (ki_Message.M_lt (ki_Message.M_mono (F' := New w_20) (fun b q => Nat.le_trans (Upd.size ((by repeat (with_reducible first | exact Upd.refl _ _ | apply Upd.alloc | apply Upd.drewN | apply Upd.drew)) : Upd No w_20 _)) q) hR)); have INz3 : Sd (∀ b, (Iv w_20.heap.size w_21.heap.size) b → w_20.heap.size ≤ b ∧ b < w_21.heap.size) := Sd.mk (fun b q => q); obtain ⟨vz3_5, pz3_5, rfl, rz3_5, -⟩ := ki_Message_M hR; obtain ⟨Bz3_5, zz3_5, rfl⟩ := R_slice rz3_5; clear rz3_5 pz3_5; clear hR; clear hu HY_w_21) | (go_at_call 30; (with_reducible refine (putMessage2_i l0 a1 a2 x3 _ _ _ _ (R_C (R_no (by repeat (with_reducible first | exact Upd.refl _ _ | apply Upd.alloc | apply Upd.drewN | apply Upd.drew)) z0.out)) (ki_Message.K_of_M (M_no (by repeat (with_reducible first | exact Upd.refl _ _ | apply Upd.alloc | apply Upd.drewN | apply Upd.drew)) z3.out)) hn0 (bds l0 hs0') (argsBd x3 hs3')).mono ?_); rintro e w_22 ⟨v0, rfl, hR0, hu⟩; have HY_w_22 : Sd (Upd No w_21 w_22) := Sd.mk (Upd.then (by repeat (with_reducible first | exact Upd.refl _ _ | apply Upd.alloc | apply Upd.drewN | apply Upd.drew)) hu); replace w0 := Sd.mk (R_upd HY_w_22.out (fun _ _ q => q) w0.out); replace g0 := Sd.mk (R_upd HY_w_22.out (fun _ _ q => q) g0.out); replace z0 := Sd.mk (R_upd HY_w_22.out (fun _ _ q => q) z0.out); replace z3 := Sd.mk (M_upd HY_w_22.out (fun _ _ q => q) z3.out); replace b3 := Sd.mk (Blk.upd b3.out HY_w_22.out (fun q => q)); replace bx3 := Sd.mk (Blk.upd bx3.out HY_w_22.out (fun q => q)); have HS_w_22 : Sd (w_21.heap.size ≤ w_22.heap.size) := Sd.mk HY_w_22.out.size; have HB_w_22 : Sd (Upd No w w_22) := Sd.mk (Upd.then HB_w_21.out HY_w_22.out); have h0 : Sd (R ki_Channel _ w_22 (Iv w_21.heap.size w_22.heap.size) _ _) := Sd.mk (R_lt (R_mono (F' := New w_21) (fun b q => Nat.le_trans (Upd.size ((by repeat (with_reducible first | exact Upd.refl _ _ | apply Upd.alloc | apply Upd.drewN | apply Upd.drew)) : Upd No w_21 _)) q) hR0)); have INh0 : Sd (∀ b, (Iv w_21.heap.size w_22.heap.size) b → w_21.heap.size ≤ b ∧ b < w_22.heap.size) := Sd.mk (fun b q => q); obtain ⟨Bh0, zh0, rfl⟩ := R_slice hR0; clear hR0; clear hu HY_w_22))
      all_goals
        rename_i hH
        clear hH
        try go_wp2_with fail
        (with_reducible refine (eqS_Channel (putC a1 a2 x3 l0) _ _ _ _ _ (R_C (R_no (by repeat (with_reducible first | exact Upd.refl _ _ | apply Upd.alloc | apply Upd.drewN | apply Upd.drew)) h0.out)) (R_C (R_no (by repeat (with_reducible first | exact Upd.refl _ _ | apply Upd.alloc | apply Upd.drewN | apply Upd.drew)) w0.out))).mono ?_)
        rintro e w_23 ⟨rfl, hu⟩
        have HY_w_23 : Sd (Upd No w_22 w_23) := Sd.mk (Upd.then (by repeat (with_reducible first | exact Upd.refl _ _ | apply Upd.alloc | apply Upd.drewN | apply Upd.drew)) hu)
        replace w0 := Sd.mk (R_upd HY_w_23.out (fun _ _ q => q) w0.out)
        replace g0 := Sd.mk (R_upd HY_w_23.out (fun _ _ q => q) g0.out)
        replace z0 := Sd.mk (R_upd HY_w_23.out (fun _ _ q => q) z0.out)
        replace z3 := Sd.mk (M_upd HY_w_23.out (fun _ _ q => q) z3.out)
        replace h0 := Sd.mk (R_upd HY_w_23.out (fun _ _ q => q) h0.out)
        replace b3 := Sd.mk (Blk.upd b3.out HY_w_23.out (fun q => q))
        replace bx3 := Sd.mk (Blk.upd bx3.out HY_w_23.out (fun q => q))
        have HS_w_23 : Sd (w_22.heap.size ≤ w_23.heap.size) := Sd.mk HY_w_23.out.size
        have HB_w_23 : Sd (Upd No w w_23) := Sd.mk (Upd.then HB_w_22.out HY_w_23.out)
        clear hu HY_w_23
        try go_wp2_with fail
        (with_reducible refine (heldS_Channel (putC a1 a2 x3 l0) _ _ _ _ (R_C (R_no (by repeat (with_reducible first | exact Upd.refl _ _ | apply Upd.alloc | apply Upd.drewN | apply Upd.drew)) g0.out)) (by omega) (by have := HR_0.out; have := HRB0.out; omega)).mono ?_)
        rintro e w_24 ⟨rfl, hu⟩
        have HY_w_24 : Sd (Upd No w_23 w_24) := Sd.mk (Upd.then (by repeat (with_reducible first | exact Upd.refl _ _ | apply Upd.alloc | apply Upd.drewN | apply Upd.drew)) hu)
        replace w0 := Sd.mk (R_upd HY_w_24.out (fun _ _ q => q) w0.out)
        replace g0 := Sd.mk (R_upd HY_w_24.out (fun _ _ q => q) g0.out)
        replace z0 := Sd.mk (R_upd HY_w_24.out (fun _ _ q => q) z0.out)
        replace z3 := Sd.mk (M_upd HY_w_24.out (fun _ _ q => q) z3.out)
        replace h0 := Sd.mk (R_upd HY_w_24.out (fun _ _ q => q) h0.out)
        replace b3 := Sd.mk (Blk.upd b3.out HY_w_24.out (fun q => q))
        replace bx3 := Sd.mk (Blk.upd bx3.out HY_w_24.out (fun q => q))
        have HS_w_24 : Sd (w_23.heap.size ≤ w_24.heap.size) := Sd.mk HY_w_24.out.size
        have HB_w_24 : Sd (Upd No w w_24) := Sd.mk (Upd.then HB_w_23.out HY_w_24.out)
        clear hu HY_w_24
        go_wp2
        go_ret
        exact ⟨rfl, HB_w_24.out⟩
end Go.Proofs.YtliejlcoeoiajaaFam
