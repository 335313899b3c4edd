/- spec.PutMessage. No conditions beyond the sizes that the contracts name. -/
import Derived.Test.YtliejlcoeoiajaaProg
import Derived.Test.YtliejlcoeoiajaaSep2
import Derived.Test.YtliejlcoeoiajaaLst
import Derived.WalkKit
import Derived.KernelRfl
import Derived.RowKit3
import Derived.Deep.LoopGhost
import Derived.Deep.QuietTactic
import Derived.BigQuiet
import Derived.StillTailTactics
import Derived.Test.YtliejlcoeoiajaaK
import Derived.Deep.RegionHeld3
import Derived.Deep.RegionLaw
import Derived.Test.YtliejlcoeoiajaaPut2
namespace Go.Proofs.YtliejlcoeoiajaaFam
open Go.RowKit Go.Proofs.YtliejlcoeoiajaaSep Go.Proofs.YtliejlcoeoiajaaT Go.Proofs.YtliejlcoeoiajaaK
set_option linter.unusedVariables false
set_option linter.unusedSimpArgs false
set_option maxHeartbeats 2000000 in
set_option maxRecDepth 100000 in
theorem putMessage_s (l : List GChannel) (a b : Int) (m : GMessage) (A : Option Addr) (c : Nat) (cs : List Value) (w : World) (h : C ki_Channel w A l) (hm : ki_Message.K w m cs) (hn : l.length ≤ 1048576) (hb : ∀ y ∈ l, y.List.length ≤ 1048576 ∧ ∀ z ∈ y.List, z.Args.length ≤ 1048576) (hna : m.Args.length ≤ 1048576) :
    Calls Try.prog 31 #[.slice A l.length c, .int .i64 a, .int .i64 b, .agg cs.toArray] w (RetRowB ki_Channel 120 (putC a b m l) (putOk a b l) w) := by
  obtain ⟨A5, c5, rfl, hl5, hC5⟩ := ki_Message_K hm
  have HC5 := Sd.mk hC5
  have H := Sd.mk h
  clear h hm hC5
  go_enter Try.func31, Try.ntmps31
  go_wp2_with fail
  refine gen_boxC ?_
  intro w0 hB hU0
  with_reducible refine (l20Copy_s l _ _ _ (C_upd hU0 H.out) hn hb).mono ?_
  rintro e w1 ⟨v, rfl, hR, hu⟩
  obtain ⟨B, z, rfl⟩ := R_slice hR
  have HB := Sd.mk (hB.no hu)
  have HU0 := Sd.mk hU0
  have HU1 := Sd.mk (hU0.then hu)
  have hz10 := hu.size
  have HR := Sd.mk (R_lt hR)
  clear hu hR hU0 hB
  go_wp2_with fail
  with_reducible refine (l20Find_s l a b _ _ w1 (C_upd HU1.out H.out) hn).mono ?_
  rintro e w2 ⟨rfl, hu⟩
  replace HB := Sd.mk (HB.out.no hu)
  have HU2 := Sd.mk (HU1.out.then hu)
  replace HR := Sd.mk (R_no hu HR.out)
  have hz21 := hu.size
  have hz0 := HU0.out.size
  clear hu
  rcases fidx_cases (chP a b) l with h0 | ⟨i, hi, h0⟩
  · have e0 := Sd.mk (put_no a b m l h0)
    rw [h0]
    clear h0
    go_wp2
    refine bodyPost_ret (v := .tuple #[.slice B l.length z, .bool false]) (by simp [results, Try.results31, go_sem]) rfl ⟨_, by rw [e0.out.1], by rw [e0.out.2]; exact R_mono (fun b q => by simp only [New] at q ⊢; omega) HR.out, HU2.out⟩
  · have hf := Sd.mk (put_full a b m l i hi h0)
    have ha := Sd.mk (put_at a b m l i hi h0)
    rw [h0]
    clear h0
    obtain ⟨ad, A2, c2, rfl, a0, a1, a2, hl2, hC2⟩ := ki_Channel_at (C_upd HU2.out H.out) i hi
    clear hC2
    obtain ⟨g, cap, cur, ce, Fi, hv, hcap, hat, hM, hg, hFi, hFg, close⟩ := R_elem HR.out 3 l.length rfl rfl i l[i] (List.getElem?_eq_getElem hi)
    cases hv
    obtain ⟨v2, P2, rfl, hR2, i2⟩ := ki_Channel_M hM
    obtain ⟨B2, b2, rfl⟩ := R_slice hR2
    have HAT := Sd.mk hat
    have x0 := hat.cell0 _ rfl
    have x1 := hat.cell 1 _ rfl
    have x2 := hat.cell 2 _ rfl
    have f2 := hat.free (i * 3 + 2)
    have hgl := World.block_lt_of_cell? w2 _ x0
    have CL := Sd.mk close
    have HR2 := Sd.mk hR2
    have I2 := Sd.mk i2
    have hl2' := R_len hR2
    clear hat close hM hR2 i2
    by_cases hl : l[i].List.length < 200
    · have hli : (l[i].List.length : Int) < 200 := by omega
      have e0 := Sd.mk (ha.out hl)
      clear ha hf
      have c0' := HB.out.at 0 (v := .int .i64 m.Kind) rfl
      have c1' := HB.out.at 1 (v := .int .i64 m.Pos) rfl
      have c2' := HB.out.at 2 (v := .int .i64 m.Answer) rfl
      have c3' := HB.out.at 3 (v := .int .i64 m.Question) rfl
      have c4' := HB.out.at 4 (v := .string m.Name) rfl
      have c5' := HB.out.at 5 (v := .slice A5 m.Args.length c5) rfl
      have c6' := HB.out.at 6 (v := .int .i64 m.Value.Kind) rfl
      have c7' := HB.out.at 7 (v := .int .i64 m.Value.N) rfl
      have c8' := HB.out.at 8 (v := .int .i64 m.Count) rfl
      have c9' := HB.out.at 9 (v := .int .i64 m.Tag.Vat) rfl
      have c10' := HB.out.at 10 (v := .int .i64 m.Tag.Entity) rfl
      have c11' := HB.out.at 11 (v := .int .i64 m.Tag.Seq) rfl
      go_wp2_with fail
      go_region_law
        (first
          | (go_simp; go_at_call 95; (with_reducible refine (l11Copy_s m _ _ (ki_Message_Kmk _ _ hl5 (C_upd (by repeat (with_reducible first | exact HU2.out | apply Upd.alloc | apply Upd.drewN | apply Upd.drew)) HC5.out)) hna).mono ?_); rintro e w3 ⟨cs, rfl, hM, hu⟩; obtain ⟨v6, P6, rfl, hR6, -⟩ := ki_Message_M hM; obtain ⟨B6, b6, rfl⟩ := R_slice hR6; have HY : Sd (Upd No w2 w3) := Sd.mk (Upd.then (by repeat (with_reducible first | exact Upd.refl _ _ | apply Upd.alloc | apply Upd.drewN | apply Upd.drew)) hu); have HRA := Sd.mk (R_no HY.out HR2.out); have HM := Sd.mk (ki_Message.M_mono (F' := fun b => w2.heap.size ≤ b) (fun b hb => (by simp [New] at hb; omega)) hM); have c1 := HY.out.read x2; have hz3 := HY.out.size; have hg3 : g < w3.heap.size := (by omega); clear hM hR6 hu)
          | (refine R_appAtStep (d := ki_Message) (e := 46) rfl _ _ 32 _ _ rfl Try.underlying32 ki_Message_info rfl (by decide) (by decide) m _ _ _ rfl rfl (by repeat (with_reducible first | exact Blk.new _ _ _ | apply Blk.drew | apply Blk.drewN | apply Blk.alloc)) (R_no (by repeat (with_reducible first | exact Upd.refl _ _ | apply Upd.alloc | apply Upd.drewN | apply Upd.drew)) HRA.out) (M_no (by repeat (with_reducible first | exact Upd.refl _ _ | apply Upd.alloc | apply Upd.drewN | apply Upd.drew)) HM.out) (fun b q q' => absurd (hFi _ (I2.out _ q')).2 (by omega)) (by omega) ?_; intro v1 w4 hR hu2; obtain ⟨Bv, bv, rfl⟩ := R_slice hR; simp only [List.length_append, List.length_cons, List.length_nil, Nat.zero_add] at hR; have HX : Sd (Upd P2 w2 w4) := Sd.mk (Upd.trans (F := No) (Upd.then HY.out (by repeat (with_reducible first | exact Upd.refl _ _ | apply Upd.alloc | apply Upd.drewN | apply Upd.drew))) hu2 (fun _ _ q => q.elim) (fun _ _ q => q)); have z2 := (HX.out.cellsF hgl (fun q => hFg (I2.out _ q)) (i * 3 + 2)).trans x2; have zf2 := (HX.out.frozenF hgl (fun q => hFg (I2.out _ q)) (i * 3 + 2)).trans f2; have HRN := Sd.mk (R_mono (F' := fun b => P2 b ∨ w2.heap.size ≤ b) (fun b q => (by rcases q with q | q | q; exact .inl q; exact .inr q; exact .inr (Nat.le_trans (Nat.le_trans hz3 (Upd.size (by repeat (with_reducible first | exact Upd.refl No _ | apply Upd.alloc | apply Upd.drewN | apply Upd.drew)))) q))) hR); clear hR hu2))
      all_goals
        go_wp2
        have HA := ((HAT.out.call HX.out (fun b q => I2.out b q) hFg).set 2 (by decide) (.slice Bv (l[i].List.length + 1) bv))
        have HRS := R_upd ((Upd.refl (fun b => b = g) w4).set ⟨g, i * 3 + 2, none⟩ (.slice Bv (l[i].List.length + 1) bv) (.inr rfl)) (fun b q e => by subst e; rcases q with q | q; exact hFg (I2.out _ q); omega) HRN.out
        have HRB := CL.out _ _ (putX m l[i]) (fun b => P2 b ∨ w2.heap.size ≤ b) (New w) HA (ki_Channel_mk _ _ (putX m l[i]) HRS (fun _ q => q)) (fun b q => by rcases q with q | q; exact .inl (I2.out _ q); exact .inr (fun k => by have := k.2; omega)) (fun b q => by have := q.1; simp only [New] at this ⊢; omega) (fun b q => by rcases q with q | q; (have := (hFi _ (I2.out _ q)).1; simp only [New] at this ⊢; omega); (simp only [New]; omega))
        refine bodyPost_ret (v := .tuple #[.slice (some ⟨g, 0, none⟩) l.length z, .bool true]) (by simp [results, Try.results31, go_sem]) rfl ⟨_, by rw [e0.out.1], by rw [e0.out.2]; exact HRB, (HU2.out.trans HX.out (fun _ _ q => q) (fun b hb q => absurd hb (by have := (hFi _ (I2.out _ q)).1; simp only [New] at this; omega))).set _ _ (.inl (by have := hg.1; simp only [New] at this; dsimp only; omega))⟩
    · have hli : (200 : Int) ≤ (l[i].List.length : Int) := by omega
      have e0 := Sd.mk (hf.out (by omega))
      clear ha hf
      go_wp2
      refine bodyPost_ret (v := .tuple #[.slice (some ⟨g, 0, none⟩) l.length z, .bool false]) (by simp [results, Try.results31, go_sem]) rfl ⟨_, by rw [e0.out.1], by rw [e0.out.2]; exact R_mono (fun b q => by simp only [New] at q ⊢; omega) HR.out, HU2.out⟩
end Go.Proofs.YtliejlcoeoiajaaFam
