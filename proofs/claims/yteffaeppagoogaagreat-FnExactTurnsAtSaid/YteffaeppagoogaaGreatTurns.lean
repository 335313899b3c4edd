/- The tags of turns: what the reference and the program compute. No conditions beyond the sizes that the contracts name. -/
import Derived.Test.YteffaeppagoogaaGreatProg
import Derived.Test.YteffaeppagoogaaGreatSep2
import Derived.Test.YteffaeppagoogaaGreatLst
import Derived.WalkKit
import Derived.KernelRfl
import Derived.RowKit3
import Derived.Deep.LoopGhost
import Derived.Deep.QuietTactic
import Derived.BigQuiet
import Derived.StillTailTactics
import Derived.Test.YteffaeppagoogaaGreatK
import Derived.Deep.RegionHeld3
import Derived.Test.YteffaeppagoogaaGreatFamTag
import Derived.Test.YteffaeppagoogaaGreatNotes
import Derived.Test.YteffaeppagoogaaGreatSep4
namespace Go.Proofs.YteffaeppagoogaaGreatFam
open Go.RowKit Go.Proofs.YteffaeppagoogaaGreatSep Go.Proofs.YteffaeppagoogaaGreatT Go.Proofs.YteffaeppagoogaaGreatK
set_option linter.unusedVariables false
set_option linter.unusedSimpArgs false
def tuP (a b : Int) (n : GNote) : Bool := n.Kind == 2 && n.Vat == a && n.Entity == b
def ttP (n : GNote) : Bool := n.Kind == 2
set_option maxHeartbeats 1000000 in
set_option maxRecDepth 100000 in
theorem turnsAt_s (x : GWorld) (cs : List Value) (p : Int) (r : Int) (w : World) (h : ki_World.K w x cs) (hn : x.Notes.length ≤ 1048576) : Calls Tryz.prog 29 #[.agg cs.toArray, .int .i64 p, .int .i64 r] w (RetRow ki_Tag 57 ((x.Notes.filter (tuP p r)).map GNote.Tag) w) := by
  obtain ⟨A0, c0, A1, c1, A2, c2, A3, c3, rfl, hl0, hC0, hl1, hC1, hl2, hC2, hl3, hC3⟩ := ki_World_K h
  have HC0 := Sd.mk hC0
  have HC1 := Sd.mk hC1
  have HC2 := Sd.mk hC2
  have HC3 := Sd.mk hC3
  clear hC0 hC1 hC2 hC3
  have H := HC3
  clear h
  have hstep : ∀ i (hi : i < x.Notes.length), (((x.Notes.take (i + 1)).filter (tuP p r)).map GNote.Tag) = (((x.Notes.take i).filter (tuP p r)).map GNote.Tag) ++ (if (tuP p r) x.Notes[i] then [GNote.Tag x.Notes[i]] else []) := fun i hi => filt_step (tuP p r) GNote.Tag x.Notes i hi
  have hlen : ∀ i, (((x.Notes.take i).filter (tuP p r)).map GNote.Tag).length ≤ i := fun i => filt_len (tuP p r) GNote.Tag x.Notes i
  go_enter Tryz.func29, Tryz.ntmps29
  go_wp2
  have HBX : Sd (Blk ((w.alloc (.cells #[.slice A0 x.Library.length c0, .slice A1 x.Vats.length c1, .slice A2 x.Channels.length c2, .slice A3 x.Notes.length c3, .int .i64 x.Strays] 35)).alloc (.cells #[] 57)) w.heap.size 35 #[.slice A0 x.Library.length c0, .slice A1 x.Vats.length c1, .slice A2 x.Channels.length c2, .slice A3 x.Notes.length c3, .int .i64 x.Strays]) := ⟨(Blk.new _ _ _).alloc _⟩
  have HR0 : Sd (R ki_Tag 57 ((w.alloc (.cells #[.slice A0 x.Library.length c0, .slice A1 x.Vats.length c1, .slice A2 x.Channels.length c2, .slice A3 x.Notes.length c3, .int .i64 x.Strays] 35)).alloc (.cells #[] 57)) (fun b => w.heap.size + 1 ≤ b) (.slice (some ⟨w.heap.size + 1, 0, none⟩) 0 0) []) := ⟨R_mono (F' := fun b => w.heap.size + 1 ≤ b) (fun b q => by simpa [New] using q) (R_emptyAt (w.alloc (.cells #[.slice A0 x.Library.length c0, .slice A1 x.Vats.length c1, .slice A2 x.Channels.length c2, .slice A3 x.Notes.length c3, .int .i64 x.Strays] 35)) (w.heap.size + 1) (by simp))⟩
  have HU0 : Sd (Upd No w ((w.alloc (.cells #[.slice A0 x.Library.length c0, .slice A1 x.Vats.length c1, .slice A2 x.Channels.length c2, .slice A3 x.Notes.length c3, .int .i64 x.Strays] 35)).alloc (.cells #[] 57))) := ⟨by repeat (with_reducible first | exact Upd.refl _ _ | apply Upd.alloc)⟩
  have HZ0 : Sd (w.heap.size + 1 ≤ ((w.alloc (.cells #[.slice A0 x.Library.length c0, .slice A1 x.Vats.length c1, .slice A2 x.Channels.length c2, .slice A3 x.Notes.length c3, .int .i64 x.Strays] 35)).alloc (.cells #[] 57)).heap.size) := ⟨by simp <;> omega⟩
  generalize ((w.alloc (.cells #[.slice A0 x.Library.length c0, .slice A1 x.Vats.length c1, .slice A2 x.Channels.length c2, .slice A3 x.Notes.length c3, .int .i64 x.Strays] 35)).alloc (.cells #[] 57)) = wb at *
  go_loopg [7, 8] x.Notes.length (fun rr u v wr => ∃ i : Nat, i + rr = x.Notes.length ∧ v = .int .i64 i ∧ Sd (R ki_Tag 57 wr (fun b => w.heap.size + 1 ≤ b) u (((x.Notes.take i).filter (tuP p r)).map GNote.Tag)) ∧ Sd (Blk wr w.heap.size 35 #[.slice A0 x.Library.length c0, .slice A1 x.Vats.length c1, .slice A2 x.Channels.length c2, .slice A3 x.Notes.length c3, .int .i64 x.Strays]) ∧ Sd (w.heap.size + 1 ≤ wr.heap.size) ∧ Sd (Upd No w wr))
  case atStart => exact ⟨0, by omega, rfl, HR0, HBX, HZ0, HU0⟩
  case round =>
    clear HR0 HU0 HZ0 HBX
    obtain ⟨i, hi, rfl, HR, HBX, HZ, HU⟩ := hrel
    have t0 := HBX.out.at 0 (v := .slice A0 x.Library.length c0) rfl
    have t1 := HBX.out.at 1 (v := .slice A1 x.Vats.length c1) rfl
    have t2 := HBX.out.at 2 (v := .slice A2 x.Channels.length c2) rfl
    have t3 := HBX.out.at 3 (v := .slice A3 x.Notes.length c3) rfl
    have t4 := HBX.out.at 4 (v := .int .i64 x.Strays) rfl
    by_cases hlt : i < x.Notes.length
    · obtain ⟨ad, rfl, a0, a1, a2, a3, a4, a5⟩ := ki_Note_at (C_upd HU.out H.out) i hlt
      have hst := Sd.mk (hstep i hlt)
      have hle := hlen i
      generalize hq : (((x.Notes.take i).filter (tuP p r)).map GNote.Tag) = q at *
      have HQ := Sd.mk hq
      clear hq
      by_cases h0 : x.Notes[i].Kind = 2
      · have e0 : (x.Notes[i].Kind == 2) = true := beq_iff_eq.2 h0
        have n0 : (x.Notes[i].Kind != 2) = false := by simp [h0]
        have H0 := Sd.mk h0
        clear h0
        by_cases h1 : x.Notes[i].Vat = p
        · have e1 : (x.Notes[i].Vat == p) = true := beq_iff_eq.2 h1
          have n1 : (x.Notes[i].Vat != p) = false := by simp [h1]
          have H1 := Sd.mk h1
          clear h1
          by_cases h2 : x.Notes[i].Entity = r
          · have e2 : (x.Notes[i].Entity == r) = true := beq_iff_eq.2 h2
            have n2 : (x.Notes[i].Entity != r) = false := by simp [h2]
            have H2 := Sd.mk h2
            clear h2
            have hv : Sd ((tuP p r) x.Notes[i] = true) := ⟨by simp [tuP, H0.out, H1.out, H2.out]⟩
            have HRL := Sd.mk (R_lt HR.out)
            go_wp2_with (first | (at_builtin; refine R_appOne (d := ki_Tag) (e := 57) rfl _ _ 42 _ _ rfl Tryz.underlying42 ki_Tag_info rfl (by decide) (by decide) (GNote.Tag x.Notes[i]) _ No _ (by first | rfl | simp) rfl rfl (R_no (by repeat (with_reducible first | exact Upd.refl _ _ | apply Upd.alloc | apply Upd.drewN | apply Upd.drew)) HRL.out) (ki_Tag_mk _ No (GNote.Tag x.Notes[i])) (fun b hb q => hb) (by omega) ?_) | fail)
            intro v1 w2 hR hu
            have HZW : Sd (wr.heap.size ≤ w2.heap.size) := ⟨by have := hu.size; (try simp at this); omega⟩
            have hR' : Sd (R ki_Tag 57 w2 (fun b => w.heap.size + 1 ≤ b) v1 (q ++ [GNote.Tag x.Notes[i]])) := ⟨R_mono (F' := fun b => w.heap.size + 1 ≤ b) (fun b z => by have := HZW.out; have := HZ.out; rcases z with z | z | z; exact z.1; exact z.elim; (try simp at z); omega) hR⟩
            have HU2 : Sd (Upd No w w2) := ⟨Upd.trans (by repeat (with_reducible first | exact HU.out | apply Upd.alloc | apply Upd.drewN | apply Upd.drew)) hu (fun _ _ z => z) (fun b hb z => by have := z.1; omega)⟩
            have HZ2 : Sd (w.heap.size + 1 ≤ w2.heap.size) := ⟨Nat.le_trans HZ.out HZW.out⟩
            have HB2 : Sd (Blk w2 w.heap.size 35 #[.slice A0 x.Library.length c0, .slice A1 x.Vats.length c1, .slice A2 x.Channels.length c2, .slice (some ad) x.Notes.length c3, .int .i64 x.Strays]) := ⟨Blk.upd (by repeat (with_reducible first | exact HBX.out | apply Blk.alloc | apply Blk.drew | apply Blk.drewN)) hu (fun z => by have := z.1; omega)⟩
            clear hR hu
            go_wp2
            go_roundg (gk - 1)
            case measure => omega
            case rel => exact ⟨i + 1, by omega, by go_num, ⟨by rw [hst.out, if_pos hv.out]; exact hR'.out⟩, HB2, HZ2, HU2⟩
          · have e2 : (x.Notes[i].Entity == r) = false := beq_eq_false_iff_ne.2 h2
            have n2 : (x.Notes[i].Entity != r) = true := by simp [h2]
            have H2 := Sd.mk h2
            clear h2
            go_wp2
            repeat (go_quiet (fail); try go_wp2)
            go_roundg (gk - 1)
            case measure => omega
            case rel => exact ⟨i + 1, by omega, by go_num, ⟨by rw [hst.out, if_neg (by simp [tuP, H0.out, H1.out, H2.out]), List.append_nil]; exact R_no (by repeat (with_reducible first | exact Upd.refl _ _ | apply Upd.alloc | apply Upd.drewN | apply Upd.drew)) HR.out⟩, ⟨by repeat (with_reducible first | exact HBX.out | apply Blk.alloc | apply Blk.drew | apply Blk.drewN)⟩, ⟨Nat.le_trans HZ.out (Upd.size ((by repeat (with_reducible first | exact Upd.refl _ _ | apply Upd.alloc | apply Upd.drewN | apply Upd.drew)) : Upd No _ _))⟩, ⟨(by repeat (with_reducible first | exact HU.out | apply Upd.alloc | apply Upd.drewN | apply Upd.drew))⟩⟩
        · have e1 : (x.Notes[i].Vat == p) = false := beq_eq_false_iff_ne.2 h1
          have n1 : (x.Notes[i].Vat != p) = true := by simp [h1]
          have H1 := Sd.mk h1
          clear h1
          go_wp2
          repeat (go_quiet (fail); try go_wp2)
          go_roundg (gk - 1)
          case measure => omega
          case rel => exact ⟨i + 1, by omega, by go_num, ⟨by rw [hst.out, if_neg (by simp [tuP, H0.out, H1.out]), List.append_nil]; exact R_no (by repeat (with_reducible first | exact Upd.refl _ _ | apply Upd.alloc | apply Upd.drewN | apply Upd.drew)) HR.out⟩, ⟨by repeat (with_reducible first | exact HBX.out | apply Blk.alloc | apply Blk.drew | apply Blk.drewN)⟩, ⟨Nat.le_trans HZ.out (Upd.size ((by repeat (with_reducible first | exact Upd.refl _ _ | apply Upd.alloc | apply Upd.drewN | apply Upd.drew)) : Upd No _ _))⟩, ⟨(by repeat (with_reducible first | exact HU.out | apply Upd.alloc | apply Upd.drewN | apply Upd.drew))⟩⟩
      · have e0 : (x.Notes[i].Kind == 2) = false := beq_eq_false_iff_ne.2 h0
        have n0 : (x.Notes[i].Kind != 2) = true := by simp [h0]
        have H0 := Sd.mk h0
        clear h0
        go_wp2
        repeat (go_quiet (fail); try go_wp2)
        go_roundg (gk - 1)
        case measure => omega
        case rel => exact ⟨i + 1, by omega, by go_num, ⟨by rw [hst.out, if_neg (by simp [tuP, H0.out]), List.append_nil]; exact R_no (by repeat (with_reducible first | exact Upd.refl _ _ | apply Upd.alloc | apply Upd.drewN | apply Upd.drew)) HR.out⟩, ⟨by repeat (with_reducible first | exact HBX.out | apply Blk.alloc | apply Blk.drew | apply Blk.drewN)⟩, ⟨Nat.le_trans HZ.out (Upd.size ((by repeat (with_reducible first | exact Upd.refl _ _ | apply Upd.alloc | apply Upd.drewN | apply Upd.drew)) : Upd No _ _))⟩, ⟨(by repeat (with_reducible first | exact HU.out | apply Upd.alloc | apply Upd.drewN | apply Upd.drew))⟩⟩
    · have e : x.Notes.take i = x.Notes := List.take_of_length_le (by omega)
      rw [e] at HR
      go_wp2
      go_ret
      exact ⟨_, rfl, R_mono (F' := New w) (fun b z => by simp only [New]; omega) HR.out, HU.out⟩
set_option maxHeartbeats 1000000 in
set_option maxRecDepth 100000 in
theorem turnsAt_i (x : GWorld) (cs : List Value) (p : Int) (r : Int) (w : World) (h : ki_World.K w x cs) (hn : x.Notes.length ≤ 1048576) : Calls Tryz.prog 30 #[.agg cs.toArray, .int .i64 p, .int .i64 r] w (RetRow ki_Tag 57 ((x.Notes.filter (tuP p r)).map GNote.Tag) w) := by
  obtain ⟨A0, c0, A1, c1, A2, c2, A3, c3, rfl, hl0, hC0, hl1, hC1, hl2, hC2, hl3, hC3⟩ := ki_World_K h
  have HC0 := Sd.mk hC0
  have HC1 := Sd.mk hC1
  have HC2 := Sd.mk hC2
  have HC3 := Sd.mk hC3
  clear hC0 hC1 hC2 hC3
  have H := HC3
  clear h
  have hstep : ∀ i (hi : i < x.Notes.length), (((x.Notes.take (i + 1)).filter (tuP p r)).map GNote.Tag) = (((x.Notes.take i).filter (tuP p r)).map GNote.Tag) ++ (if (tuP p r) x.Notes[i] then [GNote.Tag x.Notes[i]] else []) := fun i hi => filt_step (tuP p r) GNote.Tag x.Notes i hi
  have hlen : ∀ i, (((x.Notes.take i).filter (tuP p r)).map GNote.Tag).length ≤ i := fun i => filt_len (tuP p r) GNote.Tag x.Notes i
  go_enter Tryz.func30, Tryz.ntmps30
  go_wp2
  have HBX : Sd (Blk ((w.alloc (.cells #[.slice A0 x.Library.length c0, .slice A1 x.Vats.length c1, .slice A2 x.Channels.length c2, .slice A3 x.Notes.length c3, .int .i64 x.Strays] 35)).alloc (.cells #[] 57)) w.heap.size 35 #[.slice A0 x.Library.length c0, .slice A1 x.Vats.length c1, .slice A2 x.Channels.length c2, .slice A3 x.Notes.length c3, .int .i64 x.Strays]) := ⟨(Blk.new _ _ _).alloc _⟩
  have HR0 : Sd (R ki_Tag 57 ((w.alloc (.cells #[.slice A0 x.Library.length c0, .slice A1 x.Vats.length c1, .slice A2 x.Channels.length c2, .slice A3 x.Notes.length c3, .int .i64 x.Strays] 35)).alloc (.cells #[] 57)) (fun b => w.heap.size + 1 ≤ b) (.slice (some ⟨w.heap.size + 1, 0, none⟩) 0 0) []) := ⟨R_mono (F' := fun b => w.heap.size + 1 ≤ b) (fun b q => by simpa [New] using q) (R_emptyAt (w.alloc (.cells #[.slice A0 x.Library.length c0, .slice A1 x.Vats.length c1, .slice A2 x.Channels.length c2, .slice A3 x.Notes.length c3, .int .i64 x.Strays] 35)) (w.heap.size + 1) (by simp))⟩
  have HU0 : Sd (Upd No w ((w.alloc (.cells #[.slice A0 x.Library.length c0, .slice A1 x.Vats.length c1, .slice A2 x.Channels.length c2, .slice A3 x.Notes.length c3, .int .i64 x.Strays] 35)).alloc (.cells #[] 57))) := ⟨by repeat (with_reducible first | exact Upd.refl _ _ | apply Upd.alloc)⟩
  have HZ0 : Sd (w.heap.size + 1 ≤ ((w.alloc (.cells #[.slice A0 x.Library.length c0, .slice A1 x.Vats.length c1, .slice A2 x.Channels.length c2, .slice A3 x.Notes.length c3, .int .i64 x.Strays] 35)).alloc (.cells #[] 57)).heap.size) := ⟨by simp <;> omega⟩
  generalize ((w.alloc (.cells #[.slice A0 x.Library.length c0, .slice A1 x.Vats.length c1, .slice A2 x.Channels.length c2, .slice A3 x.Notes.length c3, .int .i64 x.Strays] 35)).alloc (.cells #[] 57)) = wb at *
  go_loopg [7, 14] x.Notes.length (fun rr u v wr => ∃ i : Nat, i + rr = x.Notes.length ∧ v = .int .i64 i ∧ Sd (R ki_Tag 57 wr (fun b => w.heap.size + 1 ≤ b) u (((x.Notes.take i).filter (tuP p r)).map GNote.Tag)) ∧ Sd (Blk wr w.heap.size 35 #[.slice A0 x.Library.length c0, .slice A1 x.Vats.length c1, .slice A2 x.Channels.length c2, .slice A3 x.Notes.length c3, .int .i64 x.Strays]) ∧ Sd (w.heap.size + 1 ≤ wr.heap.size) ∧ Sd (Upd No w wr))
  case atStart => exact ⟨0, by omega, rfl, HR0, HBX, HZ0, HU0⟩
  case round =>
    clear HR0 HU0 HZ0 HBX
    obtain ⟨i, hi, rfl, HR, HBX, HZ, HU⟩ := hrel
    have t0 := HBX.out.at 0 (v := .slice A0 x.Library.length c0) rfl
    have t1 := HBX.out.at 1 (v := .slice A1 x.Vats.length c1) rfl
    have t2 := HBX.out.at 2 (v := .slice A2 x.Channels.length c2) rfl
    have t3 := HBX.out.at 3 (v := .slice A3 x.Notes.length c3) rfl
    have t4 := HBX.out.at 4 (v := .int .i64 x.Strays) rfl
    by_cases hlt : i < x.Notes.length
    · obtain ⟨ad, rfl, a0, a1, a2, a3, a4, a5⟩ := ki_Note_at (C_upd HU.out H.out) i hlt
      have hst := Sd.mk (hstep i hlt)
      have hle := hlen i
      generalize hq : (((x.Notes.take i).filter (tuP p r)).map GNote.Tag) = q at *
      have HQ := Sd.mk hq
      clear hq
      by_cases h0 : x.Notes[i].Kind = 2
      · have e0 : (x.Notes[i].Kind == 2) = true := beq_iff_eq.2 h0
        have n0 : (x.Notes[i].Kind != 2) = false := by simp [h0]
        have H0 := Sd.mk h0
        clear h0
        by_cases h1 : x.Notes[i].Vat = p
        · have e1 : (x.Notes[i].Vat == p) = true := beq_iff_eq.2 h1
          have n1 : (x.Notes[i].Vat != p) = false := by simp [h1]
          have H1 := Sd.mk h1
          clear h1
          by_cases h2 : x.Notes[i].Entity = r
          · have e2 : (x.Notes[i].Entity == r) = true := beq_iff_eq.2 h2
            have n2 : (x.Notes[i].Entity != r) = false := by simp [h2]
            have H2 := Sd.mk h2
            clear h2
            have hv : Sd ((tuP p r) x.Notes[i] = true) := ⟨by simp [tuP, H0.out, H1.out, H2.out]⟩
            have HRL := Sd.mk (R_lt HR.out)
            go_wp2_with (first | (at_builtin; refine R_appOne (d := ki_Tag) (e := 57) rfl _ _ 42 _ _ rfl Tryz.underlying42 ki_Tag_info rfl (by decide) (by decide) (GNote.Tag x.Notes[i]) _ No _ (by first | rfl | simp) rfl rfl (R_no (by repeat (with_reducible first | exact Upd.refl _ _ | apply Upd.alloc | apply Upd.drewN | apply Upd.drew)) HRL.out) (ki_Tag_mk _ No (GNote.Tag x.Notes[i])) (fun b hb q => hb) (by omega) ?_) | fail)
            intro v1 w2 hR hu
            have HZW : Sd (wr.heap.size ≤ w2.heap.size) := ⟨by have := hu.size; (try simp at this); omega⟩
            have hR' : Sd (R ki_Tag 57 w2 (fun b => w.heap.size + 1 ≤ b) v1 (q ++ [GNote.Tag x.Notes[i]])) := ⟨R_mono (F' := fun b => w.heap.size + 1 ≤ b) (fun b z => by have := HZW.out; have := HZ.out; rcases z with z | z | z; exact z.1; exact z.elim; (try simp at z); omega) hR⟩
            have HU2 : Sd (Upd No w w2) := ⟨Upd.trans (by repeat (with_reducible first | exact HU.out | apply Upd.alloc | apply Upd.drewN | apply Upd.drew)) hu (fun _ _ z => z) (fun b hb z => by have := z.1; omega)⟩
            have HZ2 : Sd (w.heap.size + 1 ≤ w2.heap.size) := ⟨Nat.le_trans HZ.out HZW.out⟩
            have HB2 : Sd (Blk w2 w.heap.size 35 #[.slice A0 x.Library.length c0, .slice A1 x.Vats.length c1, .slice A2 x.Channels.length c2, .slice (some ad) x.Notes.length c3, .int .i64 x.Strays]) := ⟨Blk.upd (by repeat (with_reducible first | exact HBX.out | apply Blk.alloc | apply Blk.drew | apply Blk.drewN)) hu (fun z => by have := z.1; omega)⟩
            clear hR hu
            go_wp2
            go_roundg (gk - 1)
            case measure => omega
            case rel => exact ⟨i + 1, by omega, by go_num, ⟨by rw [hst.out, if_pos hv.out]; exact hR'.out⟩, HB2, HZ2, HU2⟩
          · have e2 : (x.Notes[i].Entity == r) = false := beq_eq_false_iff_ne.2 h2
            have n2 : (x.Notes[i].Entity != r) = true := by simp [h2]
            have H2 := Sd.mk h2
            clear h2
            go_wp2
            repeat (go_quiet (fail); try go_wp2)
            go_roundg (gk - 1)
            case measure => omega
            case rel => exact ⟨i + 1, by omega, by go_num, ⟨by rw [hst.out, if_neg (by simp [tuP, H0.out, H1.out, H2.out]), List.append_nil]; exact R_no (by repeat (with_reducible first | exact Upd.refl _ _ | apply Upd.alloc | apply Upd.drewN | apply Upd.drew)) HR.out⟩, ⟨by repeat (with_reducible first | exact HBX.out | apply Blk.alloc | apply Blk.drew | apply Blk.drewN)⟩, ⟨Nat.le_trans HZ.out (Upd.size ((by repeat (with_reducible first | exact Upd.refl _ _ | apply Upd.alloc | apply Upd.drewN | apply Upd.drew)) : Upd No _ _))⟩, ⟨(by repeat (with_reducible first | exact HU.out | apply Upd.alloc | apply Upd.drewN | apply Upd.drew))⟩⟩
        · have e1 : (x.Notes[i].Vat == p) = false := beq_eq_false_iff_ne.2 h1
          have n1 : (x.Notes[i].Vat != p) = true := by simp [h1]
          have H1 := Sd.mk h1
          clear h1
          go_wp2
          repeat (go_quiet (fail); try go_wp2)
          go_roundg (gk - 1)
          case measure => omega
          case rel => exact ⟨i + 1, by omega, by go_num, ⟨by rw [hst.out, if_neg (by simp [tuP, H0.out, H1.out]), List.append_nil]; exact R_no (by repeat (with_reducible first | exact Upd.refl _ _ | apply Upd.alloc | apply Upd.drewN | apply Upd.drew)) HR.out⟩, ⟨by repeat (with_reducible first | exact HBX.out | apply Blk.alloc | apply Blk.drew | apply Blk.drewN)⟩, ⟨Nat.le_trans HZ.out (Upd.size ((by repeat (with_reducible first | exact Upd.refl _ _ | apply Upd.alloc | apply Upd.drewN | apply Upd.drew)) : Upd No _ _))⟩, ⟨(by repeat (with_reducible first | exact HU.out | apply Upd.alloc | apply Upd.drewN | apply Upd.drew))⟩⟩
      · have e0 : (x.Notes[i].Kind == 2) = false := beq_eq_false_iff_ne.2 h0
        have n0 : (x.Notes[i].Kind != 2) = true := by simp [h0]
        have H0 := Sd.mk h0
        clear h0
        go_wp2
        repeat (go_quiet (fail); try go_wp2)
        go_roundg (gk - 1)
        case measure => omega
        case rel => exact ⟨i + 1, by omega, by go_num, ⟨by rw [hst.out, if_neg (by simp [tuP, H0.out]), List.append_nil]; exact R_no (by repeat (with_reducible first | exact Upd.refl _ _ | apply Upd.alloc | apply Upd.drewN | apply Upd.drew)) HR.out⟩, ⟨by repeat (with_reducible first | exact HBX.out | apply Blk.alloc | apply Blk.drew | apply Blk.drewN)⟩, ⟨Nat.le_trans HZ.out (Upd.size ((by repeat (with_reducible first | exact Upd.refl _ _ | apply Upd.alloc | apply Upd.drewN | apply Upd.drew)) : Upd No _ _))⟩, ⟨(by repeat (with_reducible first | exact HU.out | apply Upd.alloc | apply Upd.drewN | apply Upd.drew))⟩⟩
    · have e : x.Notes.take i = x.Notes := List.take_of_length_le (by omega)
      rw [e] at HR
      go_wp2
      go_ret
      exact ⟨_, rfl, R_mono (F' := New w) (fun b z => by simp only [New]; omega) HR.out, HU.out⟩
set_option maxHeartbeats 1000000 in
set_option maxRecDepth 100000 in
theorem turnTags_s (x : GWorld) (cs : List Value) (w : World) (h : ki_World.K w x cs) (hn : x.Notes.length ≤ 1048576) : Calls Tryz.prog 35 #[.agg cs.toArray] w (RetRow ki_Tag 57 ((x.Notes.filter ttP).map GNote.Tag) w) := by
  obtain ⟨A0, c0, A1, c1, A2, c2, A3, c3, rfl, hl0, hC0, hl1, hC1, hl2, hC2, hl3, hC3⟩ := ki_World_K h
  have HC0 := Sd.mk hC0
  have HC1 := Sd.mk hC1
  have HC2 := Sd.mk hC2
  have HC3 := Sd.mk hC3
  clear hC0 hC1 hC2 hC3
  have H := HC3
  clear h
  have hstep : ∀ i (hi : i < x.Notes.length), (((x.Notes.take (i + 1)).filter ttP).map GNote.Tag) = (((x.Notes.take i).filter ttP).map GNote.Tag) ++ (if ttP x.Notes[i] then [GNote.Tag x.Notes[i]] else []) := fun i hi => filt_step ttP GNote.Tag x.Notes i hi
  have hlen : ∀ i, (((x.Notes.take i).filter ttP).map GNote.Tag).length ≤ i := fun i => filt_len ttP GNote.Tag x.Notes i
  go_enter Tryz.func35, Tryz.ntmps35
  go_wp2
  have HBX : Sd (Blk ((w.alloc (.cells #[.slice A0 x.Library.length c0, .slice A1 x.Vats.length c1, .slice A2 x.Channels.length c2, .slice A3 x.Notes.length c3, .int .i64 x.Strays] 35)).alloc (.cells #[] 57)) w.heap.size 35 #[.slice A0 x.Library.length c0, .slice A1 x.Vats.length c1, .slice A2 x.Channels.length c2, .slice A3 x.Notes.length c3, .int .i64 x.Strays]) := ⟨(Blk.new _ _ _).alloc _⟩
  have HR0 : Sd (R ki_Tag 57 ((w.alloc (.cells #[.slice A0 x.Library.length c0, .slice A1 x.Vats.length c1, .slice A2 x.Channels.length c2, .slice A3 x.Notes.length c3, .int .i64 x.Strays] 35)).alloc (.cells #[] 57)) (fun b => w.heap.size + 1 ≤ b) (.slice (some ⟨w.heap.size + 1, 0, none⟩) 0 0) []) := ⟨R_mono (F' := fun b => w.heap.size + 1 ≤ b) (fun b q => by simpa [New] using q) (R_emptyAt (w.alloc (.cells #[.slice A0 x.Library.length c0, .slice A1 x.Vats.length c1, .slice A2 x.Channels.length c2, .slice A3 x.Notes.length c3, .int .i64 x.Strays] 35)) (w.heap.size + 1) (by simp))⟩
  have HU0 : Sd (Upd No w ((w.alloc (.cells #[.slice A0 x.Library.length c0, .slice A1 x.Vats.length c1, .slice A2 x.Channels.length c2, .slice A3 x.Notes.length c3, .int .i64 x.Strays] 35)).alloc (.cells #[] 57))) := ⟨by repeat (with_reducible first | exact Upd.refl _ _ | apply Upd.alloc)⟩
  have HZ0 : Sd (w.heap.size + 1 ≤ ((w.alloc (.cells #[.slice A0 x.Library.length c0, .slice A1 x.Vats.length c1, .slice A2 x.Channels.length c2, .slice A3 x.Notes.length c3, .int .i64 x.Strays] 35)).alloc (.cells #[] 57)).heap.size) := ⟨by simp <;> omega⟩
  generalize ((w.alloc (.cells #[.slice A0 x.Library.length c0, .slice A1 x.Vats.length c1, .slice A2 x.Channels.length c2, .slice A3 x.Notes.length c3, .int .i64 x.Strays] 35)).alloc (.cells #[] 57)) = wb at *
  go_loopg [3, 4] x.Notes.length (fun r u v wr => ∃ i : Nat, i + r = x.Notes.length ∧ v = .int .i64 i ∧ Sd (R ki_Tag 57 wr (fun b => w.heap.size + 1 ≤ b) u (((x.Notes.take i).filter ttP).map GNote.Tag)) ∧ Sd (Blk wr w.heap.size 35 #[.slice A0 x.Library.length c0, .slice A1 x.Vats.length c1, .slice A2 x.Channels.length c2, .slice A3 x.Notes.length c3, .int .i64 x.Strays]) ∧ Sd (w.heap.size + 1 ≤ wr.heap.size) ∧ Sd (Upd No w wr))
  case atStart => exact ⟨0, by omega, rfl, HR0, HBX, HZ0, HU0⟩
  case round =>
    clear HR0 HU0 HZ0 HBX
    obtain ⟨i, hi, rfl, HR, HBX, HZ, HU⟩ := hrel
    have t0 := HBX.out.at 0 (v := .slice A0 x.Library.length c0) rfl
    have t1 := HBX.out.at 1 (v := .slice A1 x.Vats.length c1) rfl
    have t2 := HBX.out.at 2 (v := .slice A2 x.Channels.length c2) rfl
    have t3 := HBX.out.at 3 (v := .slice A3 x.Notes.length c3) rfl
    have t4 := HBX.out.at 4 (v := .int .i64 x.Strays) rfl
    by_cases hlt : i < x.Notes.length
    · obtain ⟨ad, rfl, a0, a1, a2, a3, a4, a5⟩ := ki_Note_at (C_upd HU.out H.out) i hlt
      have hst := Sd.mk (hstep i hlt)
      have hle := hlen i
      generalize hq : (((x.Notes.take i).filter ttP).map GNote.Tag) = q at *
      have HQ := Sd.mk hq
      clear hq
      by_cases h0 : x.Notes[i].Kind = 2
      · have e0 : (x.Notes[i].Kind == 2) = true := beq_iff_eq.2 h0
        have n0 : (x.Notes[i].Kind != 2) = false := by simp [h0]
        have H0 := Sd.mk h0
        clear h0
        have hv : Sd (ttP x.Notes[i] = true) := ⟨by simp [ttP, H0.out]⟩
        have HRL := Sd.mk (R_lt HR.out)
        go_wp2_with (first | (at_builtin; refine R_appOne (d := ki_Tag) (e := 57) rfl _ _ 42 _ _ rfl Tryz.underlying42 ki_Tag_info rfl (by decide) (by decide) (GNote.Tag x.Notes[i]) _ No _ (by first | rfl | simp) rfl rfl (R_no (by repeat (with_reducible first | exact Upd.refl _ _ | apply Upd.alloc | apply Upd.drewN | apply Upd.drew)) HRL.out) (ki_Tag_mk _ No (GNote.Tag x.Notes[i])) (fun b hb q => hb) (by omega) ?_) | fail)
        intro v1 w2 hR hu
        have HZW : Sd (wr.heap.size ≤ w2.heap.size) := ⟨by have := hu.size; (try simp at this); omega⟩
        have hR' : Sd (R ki_Tag 57 w2 (fun b => w.heap.size + 1 ≤ b) v1 (q ++ [GNote.Tag x.Notes[i]])) := ⟨R_mono (F' := fun b => w.heap.size + 1 ≤ b) (fun b z => by have := HZW.out; have := HZ.out; rcases z with z | z | z; exact z.1; exact z.elim; (try simp at z); omega) hR⟩
        have HU2 : Sd (Upd No w w2) := ⟨Upd.trans (by repeat (with_reducible first | exact HU.out | apply Upd.alloc | apply Upd.drewN | apply Upd.drew)) hu (fun _ _ z => z) (fun b hb z => by have := z.1; omega)⟩
        have HZ2 : Sd (w.heap.size + 1 ≤ w2.heap.size) := ⟨Nat.le_trans HZ.out HZW.out⟩
        have HB2 : Sd (Blk w2 w.heap.size 35 #[.slice A0 x.Library.length c0, .slice A1 x.Vats.length c1, .slice A2 x.Channels.length c2, .slice (some ad) x.Notes.length c3, .int .i64 x.Strays]) := ⟨Blk.upd (by repeat (with_reducible first | exact HBX.out | apply Blk.alloc | apply Blk.drew | apply Blk.drewN)) hu (fun z => by have := z.1; omega)⟩
        clear hR hu
        go_wp2
        go_roundg (gk - 1)
        case measure => omega
        case rel => exact ⟨i + 1, by omega, by go_num, ⟨by rw [hst.out, if_pos hv.out]; exact hR'.out⟩, HB2, HZ2, HU2⟩
      · have e0 : (x.Notes[i].Kind == 2) = false := beq_eq_false_iff_ne.2 h0
        have n0 : (x.Notes[i].Kind != 2) = true := by simp [h0]
        have H0 := Sd.mk h0
        clear h0
        go_wp2
        repeat (go_quiet (fail); try go_wp2)
        go_roundg (gk - 1)
        case measure => omega
        case rel => exact ⟨i + 1, by omega, by go_num, ⟨by rw [hst.out, if_neg (by simp [ttP, H0.out]), List.append_nil]; exact R_no (by repeat (with_reducible first | exact Upd.refl _ _ | apply Upd.alloc | apply Upd.drewN | apply Upd.drew)) HR.out⟩, ⟨by repeat (with_reducible first | exact HBX.out | apply Blk.alloc | apply Blk.drew | apply Blk.drewN)⟩, ⟨Nat.le_trans HZ.out (Upd.size ((by repeat (with_reducible first | exact Upd.refl _ _ | apply Upd.alloc | apply Upd.drewN | apply Upd.drew)) : Upd No _ _))⟩, ⟨(by repeat (with_reducible first | exact HU.out | apply Upd.alloc | apply Upd.drewN | apply Upd.drew))⟩⟩
    · have e : x.Notes.take i = x.Notes := List.take_of_length_le (by omega)
      rw [e] at HR
      go_wp2
      go_ret
      exact ⟨_, rfl, R_mono (F' := New w) (fun b z => by simp only [New]; omega) HR.out, HU.out⟩
set_option maxHeartbeats 1000000 in
set_option maxRecDepth 100000 in
theorem turnTags_p (x : GWorld) (g : Nat) (A3 : Option Addr) (c3 : Nat) (w : World) (h : w.cell? ⟨g, 3, none⟩ = some (.slice A3 x.Notes.length c3)) (hC : C ki_Note w A3 x.Notes) (hn : x.Notes.length ≤ 1048576) : Calls Tryz.prog 65 #[.pointer (some ⟨g, 0, none⟩)] w (RetRow ki_Tag 57 ((x.Notes.filter ttP).map GNote.Tag) w) := by
  have H := Sd.mk hC
  have HP := Sd.mk h
  clear hC h
  have hstep : ∀ i (hi : i < x.Notes.length), (((x.Notes.take (i + 1)).filter ttP).map GNote.Tag) = (((x.Notes.take i).filter ttP).map GNote.Tag) ++ (if ttP x.Notes[i] then [GNote.Tag x.Notes[i]] else []) := fun i hi => filt_step ttP GNote.Tag x.Notes i hi
  have hlen : ∀ i, (((x.Notes.take i).filter ttP).map GNote.Tag).length ≤ i := fun i => filt_len ttP GNote.Tag x.Notes i
  have h := HP.out
  have h2 := ((Upd.refl No w).alloc (.cells #[] 57)).read h
  go_enter Tryz.func65, Tryz.ntmps65
  go_wp2
  have HR0 : Sd (R ki_Tag 57 (w.alloc (.cells #[] 57)) (fun b => w.heap.size ≤ b) (.slice (some ⟨w.heap.size, 0, none⟩) 0 0) []) := ⟨R_mono (F' := fun b => w.heap.size ≤ b) (fun b q => by simpa [New] using q) (R_emptyAt w (w.heap.size) (by simp))⟩
  have HU0 : Sd (Upd No w (w.alloc (.cells #[] 57))) := ⟨by repeat (with_reducible first | exact Upd.refl _ _ | apply Upd.alloc)⟩
  have HZ0 : Sd (w.heap.size ≤ (w.alloc (.cells #[] 57)).heap.size) := ⟨by simp <;> omega⟩
  have HG : Sd (g < w.heap.size) := ⟨World.block_lt_of_cell? w _ h⟩
  clear h h2
  generalize (w.alloc (.cells #[] 57)) = wb at *
  go_loopg [3, 12] x.Notes.length (fun r u v wr => ∃ i : Nat, i + r = x.Notes.length ∧ v = .int .i64 i ∧ Sd (R ki_Tag 57 wr (fun b => w.heap.size ≤ b) u (((x.Notes.take i).filter ttP).map GNote.Tag)) ∧ Sd (w.heap.size ≤ wr.heap.size) ∧ Sd (Upd No w wr))
  case atStart => exact ⟨0, by omega, rfl, HR0, HZ0, HU0⟩
  case round =>
    clear HR0 HU0 HZ0
    obtain ⟨i, hi, rfl, HR, HZ, HU⟩ := hrel
    have t := HU.out.read HP.out
    by_cases hlt : i < x.Notes.length
    · obtain ⟨ad, rfl, a0, a1, a2, a3, a4, a5⟩ := ki_Note_at (C_upd HU.out H.out) i hlt
      have hst := Sd.mk (hstep i hlt)
      have hle := hlen i
      generalize hq : (((x.Notes.take i).filter ttP).map GNote.Tag) = q at *
      have HQ := Sd.mk hq
      clear hq
      by_cases h0 : x.Notes[i].Kind = 2
      · have e0 : (x.Notes[i].Kind == 2) = true := beq_iff_eq.2 h0
        have n0 : (x.Notes[i].Kind != 2) = false := by simp [h0]
        have H0 := Sd.mk h0
        clear h0
        have hv : Sd (ttP x.Notes[i] = true) := ⟨by simp [ttP, H0.out]⟩
        have HRL := Sd.mk (R_lt HR.out)
        go_wp2_with (first | (at_builtin; refine R_appOne (d := ki_Tag) (e := 57) rfl _ _ 42 _ _ rfl Tryz.underlying42 ki_Tag_info rfl (by decide) (by decide) (GNote.Tag x.Notes[i]) _ No _ (by first | rfl | simp) rfl rfl (R_no (by repeat (with_reducible first | exact Upd.refl _ _ | apply Upd.alloc | apply Upd.drewN | apply Upd.drew)) HRL.out) (ki_Tag_mk _ No (GNote.Tag x.Notes[i])) (fun b hb q => hb) (by omega) ?_) | fail)
        intro v1 w2 hR hu
        have HZW : Sd (wr.heap.size ≤ w2.heap.size) := ⟨by have := hu.size; (try simp at this); omega⟩
        have hR' : Sd (R ki_Tag 57 w2 (fun b => w.heap.size ≤ b) v1 (q ++ [GNote.Tag x.Notes[i]])) := ⟨R_mono (F' := fun b => w.heap.size ≤ b) (fun b z => by have := HZW.out; have := HZ.out; rcases z with z | z | z; exact z.1; exact z.elim; (try simp at z); omega) hR⟩
        have HU2 : Sd (Upd No w w2) := ⟨Upd.trans (by repeat (with_reducible first | exact HU.out | apply Upd.alloc | apply Upd.drewN | apply Upd.drew)) hu (fun _ _ z => z) (fun b hb z => by have := z.1; omega)⟩
        have HZ2 : Sd (w.heap.size ≤ w2.heap.size) := ⟨Nat.le_trans HZ.out HZW.out⟩
        clear hR hu
        go_wp2
        go_roundg (gk - 1)
        case measure => omega
        case rel => exact ⟨i + 1, by omega, by go_num, ⟨by rw [hst.out, if_pos hv.out]; exact hR'.out⟩, HZ2, HU2⟩
      · have e0 : (x.Notes[i].Kind == 2) = false := beq_eq_false_iff_ne.2 h0
        have n0 : (x.Notes[i].Kind != 2) = true := by simp [h0]
        have H0 := Sd.mk h0
        clear h0
        go_wp2
        repeat (go_quiet (fail); try go_wp2)
        go_roundg (gk - 1)
        case measure => omega
        case rel => exact ⟨i + 1, by omega, by go_num, ⟨by rw [hst.out, if_neg (by simp [ttP, H0.out]), List.append_nil]; exact R_no (by repeat (with_reducible first | exact Upd.refl _ _ | apply Upd.alloc | apply Upd.drewN | apply Upd.drew)) HR.out⟩, ⟨Nat.le_trans HZ.out (Upd.size ((by repeat (with_reducible first | exact Upd.refl _ _ | apply Upd.alloc | apply Upd.drewN | apply Upd.drew)) : Upd No _ _))⟩, ⟨(by repeat (with_reducible first | exact HU.out | apply Upd.alloc | apply Upd.drewN | apply Upd.drew))⟩⟩
    · have e : x.Notes.take i = x.Notes := List.take_of_length_le (by omega)
      rw [e] at HR
      go_wp2
      go_ret
      exact ⟨_, rfl, R_mono (F' := New w) (fun b z => by simp only [New]; omega) HR.out, HU.out⟩
set_option maxHeartbeats 1000000 in
set_option maxRecDepth 100000 in
theorem turnTags_i (x : GWorld) (cs : List Value) (w : World) (h : ki_World.K w x cs) (hn : x.Notes.length ≤ 1048576) : Calls Tryz.prog 36 #[.agg cs.toArray] w (RetRow ki_Tag 57 ((x.Notes.filter ttP).map GNote.Tag) w) := by
  obtain ⟨A0, c0, A1, c1, A2, c2, A3, c3, rfl, hl0, hC0, hl1, hC1, hl2, hC2, hl3, hC3⟩ := ki_World_K h
  have HC0 := Sd.mk hC0
  have HC1 := Sd.mk hC1
  have HC2 := Sd.mk hC2
  have HC3 := Sd.mk hC3
  clear hC0 hC1 hC2 hC3
  clear h
  go_enter Tryz.func36, Tryz.ntmps36
  go_wp2_with fail
  with_reducible refine (turnTags_p x _ A3 c3 _ ?hcell ?hc hn).mono ?_
  case hcell => simp
  case hc => exact C_upd (by repeat (with_reducible first | exact Upd.refl _ _ | apply Upd.alloc)) HC3.out
  rintro e w1 ⟨v, rfl, hR, hu⟩
  have HB : Sd (Upd No w w1) := Sd.mk (Upd.then (by repeat (with_reducible first | exact Upd.refl _ _ | apply Upd.alloc)) hu)
  have HR := Sd.mk (R_mono (F' := New w) (fun b z => by simp only [New] at z ⊢; simp at z; omega) hR)
  clear hu hR
  go_wp2
  go_ret
  exact ⟨_, rfl, HR.out, HB.out⟩
def ttL (l : List GNote) : List GTag := (l.filter ttP).map GNote.Tag
def tuL (a b : Int) (l : List GNote) : List GTag := (l.filter (tuP a b)).map GNote.Tag
theorem turnTagsL_s (x : GWorld) (cs : List Value) (w : World) (h : ki_World.K w x cs) (hn : x.Notes.length ≤ 1048576) : Calls Tryz.prog 35 #[.agg cs.toArray] w (RetRow ki_Tag 57 (ttL x.Notes) w) := turnTags_s x cs w h hn
theorem turnTagsL_i (x : GWorld) (cs : List Value) (w : World) (h : ki_World.K w x cs) (hn : x.Notes.length ≤ 1048576) : Calls Tryz.prog 36 #[.agg cs.toArray] w (RetRow ki_Tag 57 (ttL x.Notes) w) := turnTags_i x cs w h hn
theorem turnsAtL_s (x : GWorld) (cs : List Value) (p r : Int) (w : World) (h : ki_World.K w x cs) (hn : x.Notes.length ≤ 1048576) : Calls Tryz.prog 29 #[.agg cs.toArray, .int .i64 p, .int .i64 r] w (RetRow ki_Tag 57 (tuL p r x.Notes) w) := turnsAt_s x cs p r w h hn
theorem turnsAtL_i (x : GWorld) (cs : List Value) (p r : Int) (w : World) (h : ki_World.K w x cs) (hn : x.Notes.length ≤ 1048576) : Calls Tryz.prog 30 #[.agg cs.toArray, .int .i64 p, .int .i64 r] w (RetRow ki_Tag 57 (tuL p r x.Notes) w) := turnsAt_i x cs p r w h hn
end Go.Proofs.YteffaeppagoogaaGreatFam
