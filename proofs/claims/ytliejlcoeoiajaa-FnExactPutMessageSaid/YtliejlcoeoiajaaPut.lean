/- putMessage. No conditions beyond the sizes that the contracts name. -/
import Derived.Test.YtliejlcoeoiajaaProg
import Derived.Test.YtliejlcoeoiajaaSep2
import Derived.Test.YtliejlcoeoiajaaLst
import Derived.WalkKit
import Derived.KernelRfl
import Derived.RowKit3
import Derived.Deep.LoopGhost
import Derived.Deep.QuietTactic
import Derived.BigQuiet
import Derived.StillTailTactics
import Derived.Test.YtliejlcoeoiajaaK
import Derived.Deep.RegionHeld3
import Derived.Deep.RegionLaw
import Derived.Test.YtliejlcoeoiajaaMsgsTo
import Derived.Test.YtliejlcoeoiajaaSep4
namespace Go.Proofs.YtliejlcoeoiajaaFam
open Go.RowKit Go.Proofs.YtliejlcoeoiajaaSep Go.Proofs.YtliejlcoeoiajaaT Go.Proofs.YtliejlcoeoiajaaK
set_option linter.unusedVariables false
set_option linter.unusedSimpArgs false
def putX (m : GMessage) (c : GChannel) : GChannel := ⟨c.From, c.To, c.List ++ [m]⟩
def chLen (a b : Int) (l : List GChannel) : Nat := (msgsTo a b l).length
def putOk (a b : Int) (l : List GChannel) : Bool := decide (0 ≤ fidx (chP a b) 0 l) && decide (chLen a b l < 200)
def putC (a b : Int) (m : GMessage) (l : List GChannel) : List GChannel := if putOk a b l then (match l[(fidx (chP a b) 0 l).toNat]? with | some x => l.set (fidx (chP a b) 0 l).toNat (putX m x) | none => l) else l
theorem put_no (a b : Int) (m : GMessage) (l : List GChannel) (h : fidx (chP a b) 0 l = -1) : putOk a b l = false ∧ putC a b m l = l := by simp [putC, putOk, h]
theorem put_full (a b : Int) (m : GMessage) (l : List GChannel) (i : Nat) (hi : i < l.length) (h : fidx (chP a b) 0 l = i) (hl : 200 ≤ l[i].List.length) : putOk a b l = false ∧ putC a b m l = l := by
  have : putOk a b l = false := by simp [putOk, chLen, msgsTo_at a b l i hi h]; omega
  exact ⟨this, by simp [putC, this]⟩
theorem put_at (a b : Int) (m : GMessage) (l : List GChannel) (i : Nat) (hi : i < l.length) (h : fidx (chP a b) 0 l = i) (hl : l[i].List.length < 200) : putOk a b l = true ∧ putC a b m l = l.set i (putX m l[i]) := by
  have : putOk a b l = true := by simp [putOk, chLen, msgsTo_at a b l i hi h, h]; omega
  refine ⟨this, ?_⟩
  unfold putC
  rw [if_pos this, h, Int.toNat_natCast, List.getElem?_eq_getElem hi]
set_option maxHeartbeats 1000000 in
set_option maxRecDepth 100000 in
theorem putMessage_i (l : List GChannel) (a b : Int) (m : GMessage) (F Fm : Nat → Prop) (A : Option Addr) (c : Nat) (cs : List Value) (w : World) (h : R ki_Channel 120 w F (.slice A l.length c) l) (hm : ki_Message.M w Fm m cs) (hd : ∀ b, Fm b → ¬ F b) (hn : l.length ≤ 1048576) :
    Calls Try.prog 91 #[.slice A l.length c, .int .i64 a, .int .i64 b, .agg cs.toArray] w (fun e w' => e = .returned (.bool (putOk a b l)) ∧ R ki_Channel 120 w' (fun b => F b ∨ Fm b ∨ w.heap.size ≤ b) (.slice A l.length c) (putC a b m l) ∧ Upd F w w') := by
  obtain ⟨v5, P5, rfl, hR5, i5⟩ := ki_Message_M (ki_Message.M_lt hm)
  obtain ⟨B5, b5, rfl⟩ := R_slice hR5
  have H := Sd.mk (R_lt h)
  have HR5 := Sd.mk hR5
  have I5 := Sd.mk i5
  have HD := Sd.mk hd
  clear h hm hR5 i5 hd
  go_enter Try.func91, Try.ntmps91
  go_wp2_with fail
  refine gen_boxC ?_
  intro wm hB hUm
  with_reducible refine (channel_i l a b _ _ wm (C_upd hUm (R_C H.out))).mono ?_
  rintro e w1 ⟨rfl, hu⟩
  have HU := Sd.mk (hUm.then hu)
  have HB := Sd.mk (hB.no hu)
  clear hB hUm hu
  rcases fidx_cases (chP a b) l with h0 | ⟨i, hi, h0⟩
  · have e0 := Sd.mk (put_no a b m l h0)
    rw [h0]
    clear h0
    go_wp2
    go_ret
    exact ⟨ret_bool e0.out.1.symm, by rw [e0.out.2]; exact R_mono (fun _ q => .inl q.1) (R_upd HU.out (fun _ _ q => q) H.out), HU.out.mono (fun _ _ q => q.elim)⟩
  · have hf := Sd.mk (put_full a b m l i hi h0)
    have ha := Sd.mk (put_at a b m l i hi h0)
    rw [h0]
    clear h0
    have HR := Sd.mk (R_upd HU.out (fun _ _ q => q) H.out)
    obtain ⟨g, cap, cur, ce, Fi, hv, hcap, hat, hM, hg, hFi, hFg, close⟩ := R_elem HR.out 3 l.length rfl rfl i l[i] (List.getElem?_eq_getElem hi)
    cases hv
    have HMM := Sd.mk hM
    obtain ⟨v2, P2, rfl, hR2, i2⟩ := ki_Channel_M hM
    obtain ⟨B2, b2, rfl⟩ := R_slice hR2
    have HAT := Sd.mk hat
    have x0 := hat.cell0 _ rfl
    have x1 := hat.cell 1 _ rfl
    have x2 := hat.cell 2 _ rfl
    have f2 := hat.free (i * 3 + 2)
    have hgl := World.block_lt_of_cell? w1 _ x0
    have CL := Sd.mk close
    have HR2 := Sd.mk hR2
    have I2 := Sd.mk i2
    have hl2 := R_len hR2
    clear hat close hM hR2 i2
    by_cases hl : l[i].List.length < 200
    · have hli : (l[i].List.length : Int) < 200 := by omega
      have e0 := Sd.mk (ha.out hl)
      clear ha hf
      have xa2 : ∀ ob, (w1.alloc ob).cell? ⟨g, i * 3 + 2, none⟩ = some (.slice B2 l[i].List.length b2) := fun ob => ((Upd.refl No w1).alloc ob).read x2
      have fa2 : ∀ ob, (w1.alloc ob).frozen? ⟨g, i * 3 + 2, none⟩ = false := fun ob => (((Upd.refl No w1).alloc ob).frozenF hgl (fun q => q) _).trans f2
      have c0 := HB.out.at 0 (v := .int .i64 m.Kind) rfl
      have c1 := HB.out.at 1 (v := .int .i64 m.Pos) rfl
      have c2 := HB.out.at 2 (v := .int .i64 m.Answer) rfl
      have c3 := HB.out.at 3 (v := .int .i64 m.Question) rfl
      have c4 := HB.out.at 4 (v := .string m.Name) rfl
      have c5 := HB.out.at 5 (v := .slice B5 m.Args.length b5) rfl
      have c6 := HB.out.at 6 (v := .int .i64 m.Value.Kind) rfl
      have c7 := HB.out.at 7 (v := .int .i64 m.Value.N) rfl
      have c8 := HB.out.at 8 (v := .int .i64 m.Count) rfl
      have c9 := HB.out.at 9 (v := .int .i64 m.Tag.Vat) rfl
      have c10 := HB.out.at 10 (v := .int .i64 m.Tag.Entity) rfl
      have c11 := HB.out.at 11 (v := .int .i64 m.Tag.Seq) rfl
      have HM1 := Sd.mk (ki_Message_mk w1 P5 m (R_upd HU.out (fun _ _ q => q) HR5.out) (fun _ q => q))
      have HD2 : Sd (∀ b, P5 b → ¬ P2 b) := ⟨fun b q q' => HD.out b (I5.out b q).1 (hFi b (I2.out b q')).1⟩
      go_wp2_with fail
      go_region_law (refine R_appAtStep (d := ki_Message) (e := 46) rfl _ _ 32 _ _ rfl Try.underlying32 ki_Message_info rfl (by decide) (by decide) m _ _ _ rfl rfl (by repeat (with_reducible first | exact Blk.new _ _ _ | apply Blk.drew | apply Blk.drewN | apply Blk.alloc)) (R_upd (by repeat (with_reducible first | exact Upd.refl _ _ | apply Upd.alloc | apply Upd.drewN | apply Upd.drew)) (fun _ _ q => q) HR2.out) (M_upd (by repeat (with_reducible first | exact Upd.refl _ _ | apply Upd.alloc | apply Upd.drewN | apply Upd.drew)) (fun _ _ q => q) HM1.out) HD2.out (by omega) ?_; intro v1 w2 hR hu2; obtain ⟨Bv, bv, rfl⟩ := R_slice hR; simp only [List.length_append, List.length_cons, List.length_nil, Nat.zero_add] at hR; have HX : Sd (Upd P2 w1 w2) := Sd.mk (Upd.trans (F := No) (by repeat (with_reducible first | exact Upd.refl No _ | apply Upd.alloc | apply Upd.drewN | apply Upd.drew)) hu2 (fun _ _ q => q.elim) (fun _ _ q => q)); have z2 := (HX.out.cellsF hgl (fun q => hFg (I2.out _ q)) (i * 3 + 2)).trans x2; have zf2 := (HX.out.frozenF hgl (fun q => hFg (I2.out _ q)) (i * 3 + 2)).trans f2; have HRN := Sd.mk (R_mono (F' := fun b => P2 b ∨ P5 b ∨ w1.heap.size ≤ b) (fun b q => (by rcases q with q | q | q; exact .inl q; exact .inr (.inl q); exact .inr (.inr (Nat.le_trans (Upd.size (by repeat (with_reducible first | exact Upd.refl No _ | apply Upd.alloc | apply Upd.drewN | apply Upd.drew)) ) q)))) hR); clear hR hu2)
      all_goals
        go_wp2
        go_ret
        have hzw := HU.out.size
        have HA := ((HAT.out.call HX.out (fun b q => I2.out b q) hFg).set 2 (by decide) (.slice Bv (l[i].List.length + 1) bv))
        have HRS := R_upd ((Upd.refl (fun b => b = g) w2).set ⟨g, i * 3 + 2, none⟩ (.slice Bv (l[i].List.length + 1) bv) (.inr rfl)) (fun b q e => by subst e; rcases q with q | q | q; exact hFg (I2.out _ q); exact HD.out _ (I5.out _ q).1 hg.1; omega) HRN.out
        have HRB := CL.out _ _ (putX m l[i]) (fun b => P2 b ∨ P5 b ∨ w1.heap.size ≤ b) (fun b => F b ∨ Fm b ∨ w.heap.size ≤ b) HA (ki_Channel_mk _ _ (putX m l[i]) HRS (fun _ q => q)) (fun b q => by rcases q with q | q | q; exact .inl (I2.out _ q); exact .inr (fun k => HD.out _ (I5.out _ q).1 k.1); exact .inr (fun k => by omega)) (fun _ q => .inl q.1) (fun b q => by rcases q with q | q | q; exact .inl (hFi _ (I2.out _ q)).1; exact .inr (.inl (I5.out _ q).1); exact .inr (.inr (by omega)))
        exact ⟨ret_bool e0.out.1.symm, by rw [e0.out.2]; exact HRB, (((HU.out.mono (fun _ _ q => q.elim)).trans HX.out (fun _ _ q => q) (fun b _ q => (hFi _ (I2.out _ q)).1)).set _ _ (.inr hg.1))⟩
    · have hli : (200 : Int) ≤ (l[i].List.length : Int) := by omega
      have e0 := Sd.mk (hf.out (by omega))
      clear ha hf
      go_wp2
      go_ret
      exact ⟨ret_bool e0.out.1.symm, by rw [e0.out.2]; exact R_mono (fun _ q => .inl q.1) HR.out, HU.out.mono (fun _ _ q => q.elim)⟩
end Go.Proofs.YtliejlcoeoiajaaFam
