/- The contracts of the laws' own functions over Link: to, sz, eq, mark, held. No conditions beyond the sizes that the contracts name. -/
import Derived.Test.YtfnedoiplblldaaProg
import Derived.Test.YtfnedoiplblldaaSep2
import Derived.Test.YtfnedoiplblldaaLst
import Derived.WalkKit
import Derived.KernelRfl
import Derived.RowKit3
import Derived.Deep.LoopGhost
import Derived.Deep.QuietTactic
import Derived.BigQuiet
import Derived.StillTailTactics
import Derived.Test.YtfnedoiplblldaaK
import Derived.Deep.RegionHeld3
import Derived.Test.YtfnedoiplblldaaFamExport
import Derived.Test.YtfnedoiplblldaaFamQuestion
import Derived.Test.YtfnedoiplblldaaFamText
namespace Go.Proofs.YtfnedoiplblldaaFam
open Go.RowKit Go.Proofs.YtfnedoiplblldaaSep Go.Proofs.YtfnedoiplblldaaT Go.Proofs.YtfnedoiplblldaaK
set_option linter.unusedVariables false
set_option linter.unusedSimpArgs false
theorem kl_Link_Kmk (w : World) (x : GLink) {A2 : Option Addr} {c2 : Nat} (hl2 : x.Exports.length ≤ c2) (hC2 : C kl_Export w A2 x.Exports) {A4 : Option Addr} {c4 : Nat} (hl4 : x.Questions.length ≤ c4) (hC4 : C kl_Question w A4 x.Questions) {A6 : Option Addr} {c6 : Nat} (hl6 : x.Answers.length ≤ c6) (hC6 : C kl_Question w A6 x.Answers) : kl_Link.K w x [.int .i64 x.Peer, .bool x.Up, .slice A2 x.Exports.length c2, .int .i64 x.Next, .slice A4 x.Questions.length c4, .int .i64 x.Asked, .slice A6 x.Answers.length c6] := ⟨[_], [_, _, _, _, _, _], rfl, rfl, ⟨[_], [_, _, _, _, _], rfl, rfl, ⟨[_], [_, _, _, _], rfl, ⟨A2, c2, rfl, hl2, hC2⟩, ⟨[_], [_, _, _], rfl, rfl, ⟨[_], [_, _], rfl, ⟨A4, c4, rfl, hl4, hC4⟩, ⟨[_], [_], rfl, rfl, ⟨A6, c6, rfl, hl6, hC6⟩⟩⟩⟩⟩⟩⟩
theorem ki_Link_Kmk (w : World) (x : GLink) {A2 : Option Addr} {c2 : Nat} (hl2 : x.Exports.length ≤ c2) (hC2 : C ki_Export w A2 x.Exports) {A4 : Option Addr} {c4 : Nat} (hl4 : x.Questions.length ≤ c4) (hC4 : C ki_Question w A4 x.Questions) {A6 : Option Addr} {c6 : Nat} (hl6 : x.Answers.length ≤ c6) (hC6 : C ki_Question w A6 x.Answers) : ki_Link.K w x [.int .i64 x.Peer, .bool x.Up, .slice A2 x.Exports.length c2, .int .i64 x.Next, .slice A4 x.Questions.length c4, .int .i64 x.Asked, .slice A6 x.Answers.length c6] := ⟨[_], [_, _, _, _, _, _], rfl, rfl, ⟨[_], [_, _, _, _, _], rfl, rfl, ⟨[_], [_, _, _, _], rfl, ⟨A2, c2, rfl, hl2, hC2⟩, ⟨[_], [_, _, _], rfl, rfl, ⟨[_], [_, _], rfl, ⟨A4, c4, rfl, hl4, hC4⟩, ⟨[_], [_], rfl, rfl, ⟨A6, c6, rfl, hl6, hC6⟩⟩⟩⟩⟩⟩⟩
set_option maxHeartbeats 1000000 in
set_option maxRecDepth 100000 in
theorem to_Link (x : GLink) (cs : List Value) (w : World) (h : kl_Link.K w x cs) (hs : szn_Link x ≤ 1048576) : Calls Try.prog 130 #[.agg cs.toArray] w (RetAgg ki_Link x w) := by
  obtain ⟨A2, c2, A4, c4, A6, c6, rfl, hl2, hC2, hl4, hC4, hl6, hC6⟩ := kl_Link_K h
  have HC2 := Sd.mk hC2
  have HC4 := Sd.mk hC4
  have HC6 := Sd.mk hC6
  clear hC2 hC4 hC6
  have s_Exports : sznS szn_Export x.Exports ≤ 1048576 := by unfold szn_Link at hs; omega
  have s_Questions : sznS szn_Question x.Questions ≤ 1048576 := by unfold szn_Link at hs; omega
  have s_Answers : sznS szn_Question x.Answers ≤ 1048576 := by unfold szn_Link at hs; omega
  clear hs
  go_enter Try.func130, Try.ntmps130
  go_wp2_with fail
  with_reducible refine (toS_Export x.Exports _ _ _ ?hc_Exports s_Exports).mono ?_
  case hc_Exports => exact C_upd (by repeat (with_reducible first | exact Upd.refl _ _ | apply Upd.put2 | apply Upd.put1 | apply Upd.put0 | apply Upd.alloc | apply Upd.drewN | apply Upd.drew)) HC2.out
  rintro e w_Exports ⟨v2, rfl, hR2, hu⟩
  obtain ⟨B2, b2, rfl⟩ := R_slice hR2
  obtain ⟨P2, hR2', g2, l2⟩ := fresh_row hR2 (w.heap.size + 1 + 1 + 1) (by first | omega | (simp; done) | (simp; omega))
  have ge2 : ∀ b, P2 b → w.heap.size + 1 + 1 < b := fun b hb => by have := g2 b hb; omega
  have n1_2 : ¬ P2 (w.heap.size + 1) := fun q => by have := ge2 _ q; omega
  have n2_2 : ¬ P2 (w.heap.size + 1 + 1) := fun q => by have := ge2 _ q; omega
  have HR2 := Sd.mk hR2'
  have GE2 := Sd.mk ge2
  have LT2 := Sd.mk l2
  have GP2 := Sd.mk g2
  clear hR2 hR2' ge2 l2 g2
  have HB_Exports : Sd (Upd No w w_Exports) := Sd.mk (Upd.then (by repeat (with_reducible first | exact Upd.refl _ _ | apply Upd.put2 | apply Upd.put1 | apply Upd.put0 | apply Upd.alloc | apply Upd.drewN | apply Upd.drew)) hu)
  have cc0_Exports := fun o => hu.cellsF (b := w.heap.size) (by first | omega | (simp; done) | (simp; omega)) (fun q => q) o
  have cc1_Exports := fun o => hu.cellsF (b := w.heap.size + 1) (by first | omega | (simp; done) | (simp; omega)) (fun q => q) o
  have cf1_Exports := fun o => hu.frozenF (b := w.heap.size + 1) (by first | omega | (simp; done) | (simp; omega)) (fun q => q) o
  have cc2_Exports := fun o => hu.cellsF (b := w.heap.size + 1 + 1) (by first | omega | (simp; done) | (simp; omega)) (fun q => q) o
  have cf2_Exports := fun o => hu.frozenF (b := w.heap.size + 1 + 1) (by first | omega | (simp; done) | (simp; omega)) (fun q => q) o
  have hz_Exports : w.heap.size + 1 + 1 + 1 ≤ w_Exports.heap.size := by have := hu.size; (try simp at this); omega
  clear hu
  go_wp2_with fail
  with_reducible refine (toS_Question x.Questions _ _ _ ?hc_Questions s_Questions).mono ?_
  case hc_Questions => exact C_upd (by repeat (with_reducible first | exact HB_Exports.out | apply Upd.put2 | apply Upd.put1 | apply Upd.put0 | apply Upd.alloc | apply Upd.drewN | apply Upd.drew)) HC4.out
  rintro e w_Questions ⟨v4, rfl, hR4, hu⟩
  obtain ⟨B4, b4, rfl⟩ := R_slice hR4
  obtain ⟨P4, hR4', g4, l4⟩ := fresh_row hR4 (w_Exports.heap.size) (by first | omega | (simp; done) | (simp; omega))
  have ge4 : ∀ b, P4 b → w.heap.size + 1 + 1 < b := fun b hb => by have := g4 b hb; have := hz_Exports; omega
  have n1_4 : ¬ P4 (w.heap.size + 1) := fun q => by have := ge4 _ q; omega
  have n2_4 : ¬ P4 (w.heap.size + 1 + 1) := fun q => by have := ge4 _ q; omega
  have HR4 := Sd.mk hR4'
  have GE4 := Sd.mk ge4
  have LT4 := Sd.mk l4
  have GP4 := Sd.mk g4
  clear hR4 hR4' ge4 l4 g4
  have HR2 := Sd.mk (R_upd hu (fun _ _ q => q) (R_keep HR2.out (by repeat (with_reducible first | exact Upd.refl _ _ | apply Upd.putP n1_2 | apply Upd.putP n2_2 | apply Upd.alloc))))
  have HB_Questions : Sd (Upd No w w_Questions) := Sd.mk (Upd.then (by repeat (with_reducible first | exact HB_Exports.out | apply Upd.put2 | apply Upd.put1 | apply Upd.put0 | apply Upd.alloc | apply Upd.drewN | apply Upd.drew)) hu)
  have cc0_Questions := fun o => hu.cellsF (b := w.heap.size) (by first | omega | (simp; done) | (simp; omega)) (fun q => q) o
  have cc1_Questions := fun o => hu.cellsF (b := w.heap.size + 1) (by first | omega | (simp; done) | (simp; omega)) (fun q => q) o
  have cf1_Questions := fun o => hu.frozenF (b := w.heap.size + 1) (by first | omega | (simp; done) | (simp; omega)) (fun q => q) o
  have cc2_Questions := fun o => hu.cellsF (b := w.heap.size + 1 + 1) (by first | omega | (simp; done) | (simp; omega)) (fun q => q) o
  have cf2_Questions := fun o => hu.frozenF (b := w.heap.size + 1 + 1) (by first | omega | (simp; done) | (simp; omega)) (fun q => q) o
  have hz_Questions : w.heap.size + 1 + 1 + 1 ≤ w_Questions.heap.size := by have := hu.size; (try simp at this); omega
  have hm_Questions : w_Exports.heap.size ≤ w_Questions.heap.size := by have := hu.size; (try simp at this); omega
  clear hu
  go_wp2_with fail
  with_reducible refine (toS_Question x.Answers _ _ _ ?hc_Answers s_Answers).mono ?_
  case hc_Answers => exact C_upd (by repeat (with_reducible first | exact HB_Questions.out | apply Upd.put2 | apply Upd.put1 | apply Upd.put0 | apply Upd.alloc | apply Upd.drewN | apply Upd.drew)) HC6.out
  rintro e w_Answers ⟨v6, rfl, hR6, hu⟩
  obtain ⟨B6, b6, rfl⟩ := R_slice hR6
  obtain ⟨P6, hR6', g6, l6⟩ := fresh_row hR6 (w_Questions.heap.size) (by first | omega | (simp; done) | (simp; omega))
  have ge6 : ∀ b, P6 b → w.heap.size + 1 + 1 < b := fun b hb => by have := g6 b hb; have := hz_Questions; omega
  have n1_6 : ¬ P6 (w.heap.size + 1) := fun q => by have := ge6 _ q; omega
  have n2_6 : ¬ P6 (w.heap.size + 1 + 1) := fun q => by have := ge6 _ q; omega
  have HR6 := Sd.mk hR6'
  have GE6 := Sd.mk ge6
  have LT6 := Sd.mk l6
  have GP6 := Sd.mk g6
  clear hR6 hR6' ge6 l6 g6
  have HR2 := Sd.mk (R_upd hu (fun _ _ q => q) (R_keep HR2.out (by repeat (with_reducible first | exact Upd.refl _ _ | apply Upd.putP n1_2 | apply Upd.putP n2_2 | apply Upd.alloc))))
  have HR4 := Sd.mk (R_upd hu (fun _ _ q => q) (R_keep HR4.out (by repeat (with_reducible first | exact Upd.refl _ _ | apply Upd.putP n1_4 | apply Upd.putP n2_4 | apply Upd.alloc))))
  have HB_Answers : Sd (Upd No w w_Answers) := Sd.mk (Upd.then (by repeat (with_reducible first | exact HB_Questions.out | apply Upd.put2 | apply Upd.put1 | apply Upd.put0 | apply Upd.alloc | apply Upd.drewN | apply Upd.drew)) hu)
  have cc0_Answers := fun o => hu.cellsF (b := w.heap.size) (by first | omega | (simp; done) | (simp; omega)) (fun q => q) o
  have cc1_Answers := fun o => hu.cellsF (b := w.heap.size + 1) (by first | omega | (simp; done) | (simp; omega)) (fun q => q) o
  have cf1_Answers := fun o => hu.frozenF (b := w.heap.size + 1) (by first | omega | (simp; done) | (simp; omega)) (fun q => q) o
  have cc2_Answers := fun o => hu.cellsF (b := w.heap.size + 1 + 1) (by first | omega | (simp; done) | (simp; omega)) (fun q => q) o
  have cf2_Answers := fun o => hu.frozenF (b := w.heap.size + 1 + 1) (by first | omega | (simp; done) | (simp; omega)) (fun q => q) o
  have hz_Answers : w.heap.size + 1 + 1 + 1 ≤ w_Answers.heap.size := by have := hu.size; (try simp at this); omega
  have hm_Answers : w_Questions.heap.size ≤ w_Answers.heap.size := by have := hu.size; (try simp at this); omega
  clear hu
  go_wp2
  refine bodyPost_ret (v := .agg #[.int .i64 x.Peer, .bool x.Up, .slice B2 x.Exports.length b2, .int .i64 x.Next, .slice B4 x.Questions.length b4, .int .i64 x.Asked, .slice B6 x.Answers.length b6]) (by simp [results, Try.results130, go_sem, cc1_Exports, cc1_Questions, cc1_Answers]) rfl ⟨_, rfl, ?_, (by repeat (with_reducible first | exact HB_Answers.out | apply Upd.put2 | apply Upd.put1 | apply Upd.put0 | apply Upd.alloc | apply Upd.drewN | apply Upd.drew))⟩
  exact ki_Link_mk _ _ _ (R_keep HR2.out (by repeat (with_reducible first | exact Upd.refl _ _ | apply Upd.putP n1_2 | apply Upd.putP n2_2 | apply Upd.alloc))) (R_keep HR4.out (by repeat (with_reducible first | exact Upd.refl _ _ | apply Upd.putP n1_4 | apply Upd.putP n2_4 | apply Upd.alloc))) (R_keep HR6.out (by repeat (with_reducible first | exact Upd.refl _ _ | apply Upd.putP n1_6 | apply Upd.putP n2_6 | apply Upd.alloc))) (fun k hk => by have := GE2.out k hk; simp only [New]; omega) (fun k hk => by have := GE4.out k hk; simp only [New]; omega) (fun k hk => by have := GE6.out k hk; simp only [New]; omega) (fun k hk hk' => by have h1 := LT2.out k hk; have h2 := GP4.out k hk'; omega) (fun k hk hk' => by have h1 := LT2.out k hk; have h2 := GP6.out k hk'; have := hm_Questions; omega) (fun k hk hk' => by have h1 := LT4.out k hk; have h2 := GP6.out k hk'; omega)
set_option maxHeartbeats 1000000 in
set_option maxRecDepth 100000 in
theorem toS_Link (l : List GLink) (A : Option Addr) (c : Nat) (w : World) (h : C kl_Link w A l) (hs : sznS szn_Link l ≤ 1048576) : Calls Try.prog 72 #[.slice A l.length c] w (RetRow ki_Link 97 l w) := by
  have hn : l.length ≤ 1048576 := by unfold sznS at hs; omega
  have hmk := run_made (P := Try.prog) _ _ _ Try.underlying25 ki_Link_info l.length hn (by decide)
  have H := Sd.mk h
  have HS := Sd.mk hs
  clear h hs
  go_enter Try.func72, Try.ntmps72
  go_wp2
  clear hmk
  have HR : Sd (R ki_Link 97 (w.alloc (madeObj (.agg #[.int .i64 0, .bool false, .slice none 0 0, .int .i64 0, .slice none 0 0, .int .i64 0, .slice none 0 0]) (l.length * 7) 97)) (New w) (.slice (some ⟨w.heap.size, 0, none⟩) l.length l.length) (List.replicate l.length zLink)) := Sd.mk (R_made (d := ki_Link) (e := 97) w (.agg #[.int .i64 0, .bool false, .slice none 0 0, .int .i64 0, .slice none 0 0, .int .i64 0, .slice none 0 0]) zLink rfl (by decide) ki_Link_zero l.length hn)
  have HU := Sd.mk ((Upd.refl No w).alloc (madeObj (.agg #[.int .i64 0, .bool false, .slice none 0 0, .int .i64 0, .slice none 0 0, .int .i64 0, .slice none 0 0]) (l.length * 7) 97))
  go_loopg [4] l.length (fun k v wr => ∃ i : Nat, i + k = l.length ∧ v = .int .i64 i ∧ Sd (R ki_Link 97 wr (New w) (.slice (some ⟨w.heap.size, 0, none⟩) l.length l.length) (upTo l (List.replicate l.length zLink) i)) ∧ Sd (Upd No w wr))
  case atStart => exact ⟨0, by omega, rfl, ⟨by rw [upTo_zero]; exact HR.out⟩, HU⟩
  case round =>
    clear HR HU
    obtain ⟨i, hi, rfl, HR, HU⟩ := hrel
    by_cases hlt : i < l.length
    · obtain ⟨ad, A2, c2, A4, c4, A6, c6, rfl, a0, a1, a2, a3, a4, a5, a6, hl2, hC2, hl4, hC4, hl6, hC6⟩ := kl_Link_at (C_upd HU.out H.out) i hlt
      have HC2 := Sd.mk hC2
      clear hC2
      have HC4 := Sd.mk hC4
      clear hC4
      have HC6 := Sd.mk hC6
      clear hC6
      have hsi : szn_Link l[i] ≤ 1048576 := by have := HS.out; have := sumS_at szn_Link l i hlt; unfold sznS at *; omega
      go_wp2_with fail
      with_reducible refine (to_Link l[i] _ _ (kl_Link_Kmk _ _ hl2 HC2.out hl4 HC4.out hl6 HC6.out) hsi).mono ?_
      rintro e w1 ⟨cs, rfl, hM, hu⟩
      obtain ⟨v2, P2, v4, P4, v6, P6, rfl, hR2, hR4, hR6, i2, i4, i6, d2_4, d2_6, d4_6⟩ := ki_Link_M (ki_Link.M_lt hM)
      obtain ⟨D2, d2, rfl⟩ := R_slice hR2
      obtain ⟨D4, d4, rfl⟩ := R_slice hR4
      obtain ⟨D6, d6, rfl⟩ := R_slice hR6
      have HRowA := R_upd hu (fun _ _ q => q) (R_lt HR.out)
      have HU1 := Sd.mk (HU.out.then hu)
      have hzw := HU.out.size
      have HR2 := Sd.mk hR2
      have I2 := Sd.mk i2
      have HR4 := Sd.mk hR4
      have I4 := Sd.mk i4
      have HR6 := Sd.mk hR6
      have I6 := Sd.mk i6
      have D2_4 := Sd.mk d2_4
      have D2_6 := Sd.mk d2_6
      have D4_6 := Sd.mk d4_6
      clear HR HU hM hu hR2 i2 hR4 i4 hR6 i6 d2_4 d2_6 d4_6
      obtain ⟨g, cap, cur, ce, Fi, hv, hcap, hat, hM, hg, hFi, hFg, close⟩ := R_elem HRowA 7 l.length rfl (by rw [upTo_len (by simp) (by simp; omega)]; simp) i zLink (by rw [upTo_at (by simp) (by simpa using hlt)]; simp)
      cases hv
      obtain ⟨y2, _, y4, _, y6, _, rfl, -⟩ := ki_Link_M hM
      have HAT := Sd.mk hat
      have x0 := hat.cell0 _ rfl
      have x1 := hat.cell 1 _ rfl
      have x2 := hat.cell 2 _ rfl
      have x3 := hat.cell 3 _ rfl
      have x4 := hat.cell 4 _ rfl
      have x5 := hat.cell 5 _ rfl
      have x6 := hat.cell 6 _ rfl
      have f0 := hat.free (i * 7)
      have f1 := hat.free (i * 7 + 1)
      have f2 := hat.free (i * 7 + 2)
      have f3 := hat.free (i * 7 + 3)
      have f4 := hat.free (i * 7 + 4)
      have f5 := hat.free (i * 7 + 5)
      have f6 := hat.free (i * 7 + 6)
      have CL := Sd.mk close
      clear hat close hM HRowA
      go_wp2
      have HA := ((((((HAT.out.set0 (by decide) (.int .i64 l[i].Peer)).set 1 (by decide) (.bool l[i].Up)).set 2 (by decide) (.slice D2 l[i].Exports.length d2)).set 3 (by decide) (.int .i64 l[i].Next)).set 4 (by decide) (.slice D4 l[i].Questions.length d4)).set 5 (by decide) (.int .i64 l[i].Asked)).set 6 (by decide) (.slice D6 l[i].Answers.length d6)
      have hD2 : ∀ b, P2 b → ¬ (b = w.heap.size ∨ Fi b) := by
        intro b hb q
        have h1 := (I2.out b hb).1
        simp only [New] at h1
        rcases q with rfl | q
        · exact absurd hg.2 (by omega)
        · have h2 := (hFi b q).2
          omega
      have hD4 : ∀ b, P4 b → ¬ (b = w.heap.size ∨ Fi b) := by
        intro b hb q
        have h1 := (I4.out b hb).1
        simp only [New] at h1
        rcases q with rfl | q
        · exact absurd hg.2 (by omega)
        · have h2 := (hFi b q).2
          omega
      have hD6 : ∀ b, P6 b → ¬ (b = w.heap.size ∨ Fi b) := by
        intro b hb q
        have h1 := (I6.out b hb).1
        simp only [New] at h1
        rcases q with rfl | q
        · exact absurd hg.2 (by omega)
        · have h2 := (hFi b q).2
          omega
      have HM := ki_Link_mk _ (fun b => P2 b ∨ P4 b ∨ P6 b) l[i] (R_upd HA.upd hD2 HR2.out) (R_upd HA.upd hD4 HR4.out) (R_upd HA.upd hD6 HR6.out) (fun k hk => Or.inl hk) (fun k hk => Or.inr (Or.inl hk)) (fun k hk => Or.inr (Or.inr (hk))) D2_4.out D2_6.out D4_6.out
      have hP1 : ∀ b, (P2 b ∨ P4 b ∨ P6 b) → New wr b := by
        intro b hb
        rcases hb with hb | hb | hb
        · exact (I2.out b hb).1
        · exact (I4.out b hb).1
        · exact (I6.out b hb).1
      have HRowB := CL.out _ _ l[i] _ (New w) HA HM (fun b hb => .inr (fun q => by have h1 := hP1 b hb; have h2 := q.2; simp only [New] at h1; omega)) (fun _ q => q.1) (fun b hb => by have h1 := hP1 b hb; simp only [New] at h1 ⊢; omega)
      rw [upTo_set (by simp) (by simpa using hlt)] at HRowB
      go_roundg (gk - 1)
      case measure => omega
      case rel => exact ⟨i + 1, by omega, by go_num, ⟨HRowB⟩, ⟨by repeat (with_reducible first | exact HU1.out | apply Upd.put0)⟩⟩
    · go_wp2
      go_ret
      have HRowB := HR.out
      rw [upTo_end (by simp) (by simp; omega)] at HRowB
      exact ⟨_, rfl, HRowB, HU.out⟩
set_option maxHeartbeats 1000000 in
set_option maxRecDepth 100000 in
theorem sz_Link (x : GLink) (cs : List Value) (n : Int) (w : World) (h : kl_Link.K w x cs) (h0 : 0 ≤ n) (h1 : n ≤ 1048576) : Calls Try.prog 126 #[.agg cs.toArray, .int .i64 n] w (RetSz (szn_Link x) n w) := by
  obtain ⟨A2, c2, A4, c4, A6, c6, rfl, hl2, hC2, hl4, hC4, hl6, hC6⟩ := kl_Link_K h
  have HC2 := Sd.mk hC2
  have HC4 := Sd.mk hC4
  have HC6 := Sd.mk hC6
  clear hC2 hC4 hC6
  go_enter Try.func126, Try.ntmps126
  go_wp2_with fail
  with_reducible refine (szS_Export x.Exports _ _ _ _ ?hc_Exports (by omega) (by omega)).mono ?_
  case hc_Exports => exact C_upd (by repeat (with_reducible first | exact Upd.refl _ _ | apply Upd.put2 | apply Upd.put1 | apply Upd.put0 | apply Upd.alloc | apply Upd.drewN | apply Upd.drew)) HC2.out
  rintro e w_Exports ⟨r_Exports, rfl, hr_Exports, hu⟩
  have HB_Exports : Sd (Upd No w w_Exports) := Sd.mk (Upd.then (by repeat (with_reducible first | exact Upd.refl _ _ | apply Upd.put2 | apply Upd.put1 | apply Upd.put0 | apply Upd.alloc | apply Upd.drewN | apply Upd.drew)) hu)
  have cc0_Exports := fun o => hu.cellsF (b := w.heap.size) (by first | omega | (simp; done) | (simp; omega)) (fun q => q) o
  have hz_Exports : w.heap.size + 1 ≤ w_Exports.heap.size := by have := hu.size; (try simp at this); omega
  clear hu
  rcases hr_Exports with ⟨q_Exports, rfl⟩ | ⟨q_Exports, rfl⟩
  case inr =>
    go_wp2
    go_ret
    exact ⟨_, rfl, .inr ⟨by unfold szn_Link; omega, rfl⟩, (by repeat (with_reducible first | exact HB_Exports.out | apply Upd.put2 | apply Upd.put1 | apply Upd.put0 | apply Upd.alloc | apply Upd.drewN | apply Upd.drew))⟩
  go_wp2_with fail
  with_reducible refine (szS_Question x.Questions _ _ _ _ ?hc_Questions (by omega) (by omega)).mono ?_
  case hc_Questions => exact C_upd (by repeat (with_reducible first | exact HB_Exports.out | apply Upd.put2 | apply Upd.put1 | apply Upd.put0 | apply Upd.alloc | apply Upd.drewN | apply Upd.drew)) HC4.out
  rintro e w_Questions ⟨r_Questions, rfl, hr_Questions, hu⟩
  have HB_Questions : Sd (Upd No w w_Questions) := Sd.mk (Upd.then (by repeat (with_reducible first | exact HB_Exports.out | apply Upd.put2 | apply Upd.put1 | apply Upd.put0 | apply Upd.alloc | apply Upd.drewN | apply Upd.drew)) hu)
  have cc0_Questions := fun o => hu.cellsF (b := w.heap.size) (by first | omega | (simp; done) | (simp; omega)) (fun q => q) o
  have hz_Questions : w.heap.size + 1 ≤ w_Questions.heap.size := by have := hu.size; (try simp at this); omega
  clear hu
  rcases hr_Questions with ⟨q_Questions, rfl⟩ | ⟨q_Questions, rfl⟩
  case inr =>
    go_wp2
    go_ret
    exact ⟨_, rfl, .inr ⟨by unfold szn_Link; omega, rfl⟩, (by repeat (with_reducible first | exact HB_Questions.out | apply Upd.put2 | apply Upd.put1 | apply Upd.put0 | apply Upd.alloc | apply Upd.drewN | apply Upd.drew))⟩
  go_wp2_with fail
  with_reducible refine (szS_Question x.Answers _ _ _ _ ?hc_Answers (by omega) (by omega)).mono ?_
  case hc_Answers => exact C_upd (by repeat (with_reducible first | exact HB_Questions.out | apply Upd.put2 | apply Upd.put1 | apply Upd.put0 | apply Upd.alloc | apply Upd.drewN | apply Upd.drew)) HC6.out
  rintro e w_Answers ⟨r_Answers, rfl, hr_Answers, hu⟩
  have HB_Answers : Sd (Upd No w w_Answers) := Sd.mk (Upd.then (by repeat (with_reducible first | exact HB_Questions.out | apply Upd.put2 | apply Upd.put1 | apply Upd.put0 | apply Upd.alloc | apply Upd.drewN | apply Upd.drew)) hu)
  have cc0_Answers := fun o => hu.cellsF (b := w.heap.size) (by first | omega | (simp; done) | (simp; omega)) (fun q => q) o
  have hz_Answers : w.heap.size + 1 ≤ w_Answers.heap.size := by have := hu.size; (try simp at this); omega
  clear hu
  rcases hr_Answers with ⟨q_Answers, rfl⟩ | ⟨q_Answers, rfl⟩
  case inr =>
    go_wp2
    go_ret
    exact ⟨_, rfl, .inr ⟨by unfold szn_Link; omega, rfl⟩, (by repeat (with_reducible first | exact HB_Answers.out | apply Upd.put2 | apply Upd.put1 | apply Upd.put0 | apply Upd.alloc | apply Upd.drewN | apply Upd.drew))⟩
  go_wp2
  go_ret
  exact ⟨_, rfl, .inl ⟨by unfold szn_Link; omega, by unfold szn_Link; omega⟩, (by repeat (with_reducible first | exact HB_Answers.out | apply Upd.put2 | apply Upd.put1 | apply Upd.put0 | apply Upd.alloc | apply Upd.drewN | apply Upd.drew))⟩
set_option maxHeartbeats 1000000 in
set_option maxRecDepth 100000 in
theorem szS_Link (l : List GLink) (A : Option Addr) (c : Nat) (n : Int) (w : World) (h : C kl_Link w A l) (h0 : 0 ≤ n) (h1 : n ≤ 1048576) : Calls Try.prog 64 #[.slice A l.length c, .int .i64 n] w (RetSz (sznS szn_Link l) n w) := by
  have hn := h.1
  have H := Sd.mk h
  clear h
  go_enter Try.func64, Try.ntmps64
  by_cases q0 : (l.length : Int) ≤ n
  case neg =>
    go_wp2
    go_ret
    exact ⟨_, rfl, .inr ⟨by unfold sznS; omega, rfl⟩, Upd.refl _ _⟩
  go_wp2
  go_loopg [1, 5] l.length (fun k u v wr => ∃ i : Nat, i + k = l.length ∧ (sumS szn_Link (l.take i) : Int) ≤ n - l.length ∧ u = .int .i64 (n - l.length - sumS szn_Link (l.take i)) ∧ v = .int .i64 i ∧ Sd (Upd No w wr))
  case atStart => exact ⟨0, by omega, by simp [sumS]; omega, by simp [sumS], rfl, ⟨Upd.refl _ _⟩⟩
  case round =>
    obtain ⟨i, hi, hle, rfl, rfl, HU⟩ := hrel
    by_cases hlt : i < l.length
    · obtain ⟨ad, A2, c2, A4, c4, A6, c6, rfl, a0, a1, a2, a3, a4, a5, a6, hl2, hC2, hl4, hC4, hl6, hC6⟩ := kl_Link_at (C_upd HU.out H.out) i hlt
      have HC2 := Sd.mk hC2
      clear hC2
      have HC4 := Sd.mk hC4
      clear hC4
      have HC6 := Sd.mk hC6
      clear hC6
      have hst := sumS_step szn_Link l i hlt
      have HST := Sd.mk (sumS_take szn_Link l i hlt)
      generalize hs : sumS szn_Link (l.take i) = s at *
      have HS := Sd.mk hs
      clear hs
      go_wp2_with fail
      with_reducible refine (sz_Link l[i] _ _ _ (kl_Link_Kmk _ _ hl2 HC2.out hl4 HC4.out hl6 HC6.out) (by omega) (by omega)).mono ?_
      rintro e w1 ⟨r, rfl, hr, hu⟩
      have HU1 := Sd.mk (HU.out.then hu)
      clear hu HU
      rcases hr with ⟨q, rfl⟩ | ⟨q, rfl⟩
      · go_wp2
        go_roundg (gk - 1)
        case measure => omega
        case rel => exact ⟨i + 1, by omega, by rw [HST.out]; omega, by rw [HST.out]; exact congrArg (Value.int .i64) (by omega), by go_num, HU1⟩
      · go_wp2
        go_ret
        exact ⟨_, rfl, .inr ⟨by unfold sznS; omega, rfl⟩, HU1.out⟩
    · go_wp2
      go_ret
      have e : l.take i = l := List.take_of_length_le (by omega)
      rw [e] at hle
      exact ⟨_, rfl, .inl ⟨by unfold sznS; omega, by rw [e]; unfold sznS; omega⟩, HU.out⟩
set_option maxHeartbeats 1000000 in
set_option maxRecDepth 100000 in
theorem eq_Link (x : GLink) (cs cs' : List Value) (w : World) (h : ki_Link.K w x cs) (h' : ki_Link.K w x cs') : Calls Try.prog 117 #[.agg cs.toArray, .agg cs'.toArray] w (RetBool true w) := by
  obtain ⟨A2, c2, A4, c4, A6, c6, rfl, hl2, hC2, hl4, hC4, hl6, hC6⟩ := ki_Link_K h
  have HC2 := Sd.mk hC2
  have HC4 := Sd.mk hC4
  have HC6 := Sd.mk hC6
  clear hC2 hC4 hC6
  obtain ⟨B2, b2, B4, b4, B6, b6, rfl, hm2, hD2, hm4, hD4, hm6, hD6⟩ := ki_Link_K h'
  have HD2 := Sd.mk hD2
  have HD4 := Sd.mk hD4
  have HD6 := Sd.mk hD6
  clear hD2 hD4 hD6
  go_enter Try.func117, Try.ntmps117
  go_wp2_with fail
  with_reducible refine (eqS_Export x.Exports _ _ _ _ _ ?hc_Exports ?hd_Exports).mono ?_
  case hc_Exports => exact C_upd (by repeat (with_reducible first | exact Upd.refl _ _ | apply Upd.put2 | apply Upd.put1 | apply Upd.put0 | apply Upd.alloc | apply Upd.drewN | apply Upd.drew)) HC2.out
  case hd_Exports => exact C_upd (by repeat (with_reducible first | exact Upd.refl _ _ | apply Upd.put2 | apply Upd.put1 | apply Upd.put0 | apply Upd.alloc | apply Upd.drewN | apply Upd.drew)) HD2.out
  rintro e w_Exports ⟨rfl, hu⟩
  have HB_Exports : Sd (Upd No w w_Exports) := Sd.mk (Upd.then (by repeat (with_reducible first | exact Upd.refl _ _ | apply Upd.put2 | apply Upd.put1 | apply Upd.put0 | apply Upd.alloc | apply Upd.drewN | apply Upd.drew)) hu)
  have cc0_Exports := fun o => hu.cellsF (b := w.heap.size) (by first | omega | (simp; done) | (simp; omega)) (fun q => q) o
  have cc1_Exports := fun o => hu.cellsF (b := w.heap.size + 1) (by first | omega | (simp; done) | (simp; omega)) (fun q => q) o
  have hz_Exports : w.heap.size + 1 + 1 ≤ w_Exports.heap.size := by have := hu.size; (try simp at this); omega
  clear hu
  go_wp2_with fail
  with_reducible refine (eqS_Question x.Questions _ _ _ _ _ ?hc_Questions ?hd_Questions).mono ?_
  case hc_Questions => exact C_upd (by repeat (with_reducible first | exact HB_Exports.out | apply Upd.put2 | apply Upd.put1 | apply Upd.put0 | apply Upd.alloc | apply Upd.drewN | apply Upd.drew)) HC4.out
  case hd_Questions => exact C_upd (by repeat (with_reducible first | exact HB_Exports.out | apply Upd.put2 | apply Upd.put1 | apply Upd.put0 | apply Upd.alloc | apply Upd.drewN | apply Upd.drew)) HD4.out
  rintro e w_Questions ⟨rfl, hu⟩
  have HB_Questions : Sd (Upd No w w_Questions) := Sd.mk (Upd.then (by repeat (with_reducible first | exact HB_Exports.out | apply Upd.put2 | apply Upd.put1 | apply Upd.put0 | apply Upd.alloc | apply Upd.drewN | apply Upd.drew)) hu)
  have cc0_Questions := fun o => hu.cellsF (b := w.heap.size) (by first | omega | (simp; done) | (simp; omega)) (fun q => q) o
  have cc1_Questions := fun o => hu.cellsF (b := w.heap.size + 1) (by first | omega | (simp; done) | (simp; omega)) (fun q => q) o
  have hz_Questions : w.heap.size + 1 + 1 ≤ w_Questions.heap.size := by have := hu.size; (try simp at this); omega
  clear hu
  go_wp2_with fail
  with_reducible refine (eqS_Question x.Answers _ _ _ _ _ ?hc_Answers ?hd_Answers).mono ?_
  case hc_Answers => exact C_upd (by repeat (with_reducible first | exact HB_Questions.out | apply Upd.put2 | apply Upd.put1 | apply Upd.put0 | apply Upd.alloc | apply Upd.drewN | apply Upd.drew)) HC6.out
  case hd_Answers => exact C_upd (by repeat (with_reducible first | exact HB_Questions.out | apply Upd.put2 | apply Upd.put1 | apply Upd.put0 | apply Upd.alloc | apply Upd.drewN | apply Upd.drew)) HD6.out
  rintro e w_Answers ⟨rfl, hu⟩
  have HB_Answers : Sd (Upd No w w_Answers) := Sd.mk (Upd.then (by repeat (with_reducible first | exact HB_Questions.out | apply Upd.put2 | apply Upd.put1 | apply Upd.put0 | apply Upd.alloc | apply Upd.drewN | apply Upd.drew)) hu)
  have cc0_Answers := fun o => hu.cellsF (b := w.heap.size) (by first | omega | (simp; done) | (simp; omega)) (fun q => q) o
  have cc1_Answers := fun o => hu.cellsF (b := w.heap.size + 1) (by first | omega | (simp; done) | (simp; omega)) (fun q => q) o
  have hz_Answers : w.heap.size + 1 + 1 ≤ w_Answers.heap.size := by have := hu.size; (try simp at this); omega
  clear hu
  go_wp2
  go_ret
  exact ⟨rfl, (by repeat (with_reducible first | exact HB_Answers.out | apply Upd.put2 | apply Upd.put1 | apply Upd.put0 | apply Upd.alloc | apply Upd.drewN | apply Upd.drew))⟩
set_option maxHeartbeats 1000000 in
set_option maxRecDepth 100000 in
theorem eqS_Link (l : List GLink) (A A' : Option Addr) (c c' : Nat) (w : World) (h : C ki_Link w A l) (h' : C ki_Link w A' l) : Calls Try.prog 52 #[.slice A l.length c, .slice A' l.length c'] w (RetBool true w) := by
  have hn := h.1
  have H := Sd.mk h
  have H' := Sd.mk h'
  clear h h'
  go_enter Try.func52, Try.ntmps52
  go_wp2
  go_loopg [5] l.length (fun k v wr => ∃ i : Nat, i + k = l.length ∧ v = .int .i64 i ∧ Sd (Upd No w wr))
  case atStart => exact ⟨0, by omega, rfl, ⟨Upd.refl _ _⟩⟩
  case round =>
    obtain ⟨i, hi, rfl, HU⟩ := hrel
    by_cases hlt : i < l.length
    · obtain ⟨ad, A2, c2, A4, c4, A6, c6, rfl, a0, a1, a2, a3, a4, a5, a6, hl2, hC2, hl4, hC4, hl6, hC6⟩ := ki_Link_at (C_upd HU.out H.out) i hlt
      obtain ⟨ad', B2, b2, B4, b4, B6, b6, rfl, z0, z1, z2, z3, z4, z5, z6, hm2, hD2, hm4, hD4, hm6, hD6⟩ := ki_Link_at (C_upd HU.out H'.out) i hlt
      have HC2 := Sd.mk hC2
      have HD2 := Sd.mk hD2
      clear hC2 hD2
      have HC4 := Sd.mk hC4
      have HD4 := Sd.mk hD4
      clear hC4 hD4
      have HC6 := Sd.mk hC6
      have HD6 := Sd.mk hD6
      clear hC6 hD6
      go_wp2_with fail
      go_still_tail 8, (by kernel_rfl)
      change wpList _ _ _ _ _ wr.drew
      have HW : Sd (Upd No wr wr.drew) := ⟨(Upd.refl _ _).drew⟩
      have HU2 : Sd (Upd No w wr.drew) := ⟨HU.out.drew⟩
      generalize wr.drew = w2 at *
      go_wp2_with (go_at_call 117; (with_reducible refine (eq_Link l[i] _ _ _ (ki_Link_Kmk _ _ hl2 (C_upd HW.out HC2.out) hl4 (C_upd HW.out HC4.out) hl6 (C_upd HW.out HC6.out)) (ki_Link_Kmk _ _ hm2 (C_upd HW.out HD2.out) hm4 (C_upd HW.out HD4.out) hm6 (C_upd HW.out HD6.out))).mono ?_); rintro e w' ⟨rfl, hu⟩)
      have HU3 := Sd.mk (HU2.out.then hu)
      clear HU2 hu
      go_wp2
      go_roundg (gk - 1)
      case measure => omega
      case rel => exact ⟨i + 1, by omega, by go_num, HU3⟩
    · go_wp2
      go_ret
      exact ⟨rfl, HU.out⟩
set_option maxHeartbeats 1000000 in
set_option maxRecDepth 100000 in
theorem markS_Link (l : List GLink) (k : Int) (F : Nat → Prop) (v : Value) (w : World) (h : R ki_Link 97 w F v l) (hk : 0 ≤ k) (hb : k + cntS cnt_Link l ≤ 4611686018427387904) : Calls Try.prog 56 #[v, .int .i64 k] w (Marks ki_Link 97 F v (k + cntS cnt_Link l) (mkS mk_Link cnt_Link k l) w) := by
  obtain ⟨A, c, rfl⟩ := R_slice h
  have hn := R_len h
  have H := Sd.mk h
  clear h
  go_enter Try.func56, Try.ntmps56
  go_wp2
  go_loopg [1, 5] l.length (fun r u v wr => ∃ i : Nat, i + r = l.length ∧ u = .int .i64 (k + cntS cnt_Link (l.take i)) ∧ v = .int .i64 i ∧ Sd (R ki_Link 97 wr F (.slice A l.length c) (upTo (mkS mk_Link cnt_Link k l) l i)) ∧ Sd (Upd F w wr))
  case atStart => exact ⟨0, by omega, by simp [cntS], rfl, ⟨by rw [upTo_zero]; exact H.out⟩, ⟨Upd.refl _ _⟩⟩
  case round =>
    obtain ⟨i, hi, rfl, rfl, HR, HU⟩ := hrel
    by_cases hlt : i < l.length
    · have hle := cntS_le cnt_Link cnt_Link_nn l i
      have hst := cntS_take cnt_Link l i hlt
      have hle2 := cntS_le cnt_Link cnt_Link_nn l (i + 1)
      rw [hst] at hle2
      have HST := Sd.mk hst
      clear hst
      have HMA := Sd.mk (mkS_at mk_Link cnt_Link l k i hlt)
      obtain ⟨g, cap, cur, ce, Fi, hv, hcap, hat, hM, hg, hFi, hFg, close⟩ := R_elem HR.out 7 l.length rfl (upTo_len (mkS_len _ _ _ _) (by omega)) i l[i] (upTo_at (mkS_len _ _ _ _) hlt)
      cases hv
      obtain ⟨v2, P2, v4, P4, v6, P6, rfl, hR2, hR4, hR6, i2, i4, i6, d2_4, d2_6, d4_6⟩ := ki_Link_M hM
      obtain ⟨B2, b2, rfl⟩ := R_slice hR2
      have HR2 := Sd.mk hR2
      have I2 := Sd.mk i2
      have N2 : ¬ P2 g := fun q => hFg (i2 g q)
      clear hR2 i2
      have nn2 := cntS_nn cnt_Export cnt_Export_nn l[i].Exports
      obtain ⟨B4, b4, rfl⟩ := R_slice hR4
      have HR4 := Sd.mk hR4
      have I4 := Sd.mk i4
      have N4 : ¬ P4 g := fun q => hFg (i4 g q)
      clear hR4 i4
      have nn4 := cntS_nn cnt_Question cnt_Question_nn l[i].Questions
      obtain ⟨B6, b6, rfl⟩ := R_slice hR6
      have HR6 := Sd.mk hR6
      have I6 := Sd.mk i6
      have N6 : ¬ P6 g := fun q => hFg (i6 g q)
      clear hR6 i6
      have nn6 := cntS_nn cnt_Question cnt_Question_nn l[i].Answers
      have D2_4 := Sd.mk d2_4
      clear d2_4
      have D2_6 := Sd.mk d2_6
      clear d2_6
      have D4_6 := Sd.mk d4_6
      clear d4_6
      have HCN : Sd (cnt_Link l[i] = cnt_Link l[i]) := ⟨rfl⟩
      simp only [cnt_Link] at hle2
      generalize hq : k + cntS cnt_Link (l.take i) = q at *
      have HQ := Sd.mk hq
      have hq0 : 0 ≤ q := by omega
      have hqb : q + (((((((0 + 1) + 1) + cntS cnt_Export l[i].Exports) + 1) + cntS cnt_Question l[i].Questions) + 1) + cntS cnt_Question l[i].Answers) ≤ 4611686018427387904 := by omega
      clear hq hle hle2 hb
      generalize hcn2 : cntS cnt_Export l[i].Exports = cn2 at *
      have HC2 := Sd.mk hcn2
      clear hcn2
      generalize hcn4 : cntS cnt_Question l[i].Questions = cn4 at *
      have HC4 := Sd.mk hcn4
      clear hcn4
      generalize hcn6 : cntS cnt_Question l[i].Answers = cn6 at *
      have HC6 := Sd.mk hcn6
      clear hcn6
      have HAT := Sd.mk hat
      have x0_s := hat.cell0 _ rfl
      have x1_s := hat.cell 1 _ rfl
      have x2_s := hat.cell 2 _ rfl
      have x3_s := hat.cell 3 _ rfl
      have x4_s := hat.cell 4 _ rfl
      have x5_s := hat.cell 5 _ rfl
      have x6_s := hat.cell 6 _ rfl
      have f0_s := hat.free (i * 7)
      have f1_s := hat.free (i * 7 + 1)
      have f2_s := hat.free (i * 7 + 2)
      have f3_s := hat.free (i * 7 + 3)
      have f4_s := hat.free (i * 7 + 4)
      have f5_s := hat.free (i * 7 + 5)
      have f6_s := hat.free (i * 7 + 6)
      have CL := Sd.mk close
      clear hat close hM HR
      go_wp2_with fail
      with_reducible refine (markS_Export l[i].Exports _ P2 _ _ ?hr_Exports (by omega) (by rw [HC2.out]; omega)).mono ?_
      case hr_Exports => exact (R_upd (G := fun b => b = g) (by repeat (with_reducible first | exact Upd.refl _ _ | apply Upd.setg)) (fun b hb hg' => N2 (hg' ▸ hb)) HR2.out)
      rintro e w_Exports ⟨rfl, hR2, hu⟩
      rw [HC2.out]
      replace HR4 := Sd.mk (R_upd hu (fun b hb hg' => D2_4.out b hg' hb) (R_upd (G := fun b => b = g) (by repeat (with_reducible first | exact Upd.refl _ _ | apply Upd.setg)) (fun b hb hg' => N4 (hg' ▸ hb)) HR4.out))
      replace HR6 := Sd.mk (R_upd hu (fun b hb hg' => D2_6.out b hg' hb) (R_upd (G := fun b => b = g) (by repeat (with_reducible first | exact Upd.refl _ _ | apply Upd.setg)) (fun b hb hg' => N6 (hg' ▸ hb)) HR6.out))
      replace HR2 := Sd.mk hR2
      replace HAT := Sd.mk (((HAT.out.set0 (by decide) (.int .i64 (q))).set 1 (by decide) (.bool ((q + 1) % 3 == 0))).call hu I2.out hFg)
      clear hR2
      clear hu x0_s f0_s x1_s f1_s x2_s f2_s x3_s f3_s x4_s f4_s x5_s f5_s x6_s f6_s
      have x0_Exports := HAT.out.cell0 _ rfl
      have x1_Exports := HAT.out.cell 1 _ rfl
      have x2_Exports := HAT.out.cell 2 _ rfl
      have x3_Exports := HAT.out.cell 3 _ rfl
      have x4_Exports := HAT.out.cell 4 _ rfl
      have x5_Exports := HAT.out.cell 5 _ rfl
      have x6_Exports := HAT.out.cell 6 _ rfl
      have f0_Exports := HAT.out.free (i * 7)
      have f1_Exports := HAT.out.free (i * 7 + 1)
      have f2_Exports := HAT.out.free (i * 7 + 2)
      have f3_Exports := HAT.out.free (i * 7 + 3)
      have f4_Exports := HAT.out.free (i * 7 + 4)
      have f5_Exports := HAT.out.free (i * 7 + 5)
      have f6_Exports := HAT.out.free (i * 7 + 6)
      go_wp2_with fail
      with_reducible refine (markS_Question l[i].Questions _ P4 _ _ ?hr_Questions (by omega) (by rw [HC4.out]; omega)).mono ?_
      case hr_Questions => exact (R_upd (G := fun b => b = g) (by repeat (with_reducible first | exact Upd.refl _ _ | apply Upd.setg)) (fun b hb hg' => N4 (hg' ▸ hb)) HR4.out)
      rintro e w_Questions ⟨rfl, hR4, hu⟩
      rw [HC4.out]
      replace HR2 := Sd.mk (R_upd hu (fun b hb hg' => D2_4.out b hb hg') (R_upd (G := fun b => b = g) (by repeat (with_reducible first | exact Upd.refl _ _ | apply Upd.setg)) (fun b hb hg' => N2 (hg' ▸ hb)) HR2.out))
      replace HR6 := Sd.mk (R_upd hu (fun b hb hg' => D4_6.out b hg' hb) (R_upd (G := fun b => b = g) (by repeat (with_reducible first | exact Upd.refl _ _ | apply Upd.setg)) (fun b hb hg' => N6 (hg' ▸ hb)) HR6.out))
      replace HR4 := Sd.mk hR4
      replace HAT := Sd.mk ((HAT.out.set 3 (by decide) (.int .i64 ((((q + 1) + 1) + cn2)))).call hu I4.out hFg)
      clear hR4
      clear hu x0_Exports f0_Exports x1_Exports f1_Exports x2_Exports f2_Exports x3_Exports f3_Exports x4_Exports f4_Exports x5_Exports f5_Exports x6_Exports f6_Exports
      have x0_Questions := HAT.out.cell0 _ rfl
      have x1_Questions := HAT.out.cell 1 _ rfl
      have x2_Questions := HAT.out.cell 2 _ rfl
      have x3_Questions := HAT.out.cell 3 _ rfl
      have x4_Questions := HAT.out.cell 4 _ rfl
      have x5_Questions := HAT.out.cell 5 _ rfl
      have x6_Questions := HAT.out.cell 6 _ rfl
      have f0_Questions := HAT.out.free (i * 7)
      have f1_Questions := HAT.out.free (i * 7 + 1)
      have f2_Questions := HAT.out.free (i * 7 + 2)
      have f3_Questions := HAT.out.free (i * 7 + 3)
      have f4_Questions := HAT.out.free (i * 7 + 4)
      have f5_Questions := HAT.out.free (i * 7 + 5)
      have f6_Questions := HAT.out.free (i * 7 + 6)
      go_wp2_with fail
      with_reducible refine (markS_Question l[i].Answers _ P6 _ _ ?hr_Answers (by omega) (by rw [HC6.out]; omega)).mono ?_
      case hr_Answers => exact (R_upd (G := fun b => b = g) (by repeat (with_reducible first | exact Upd.refl _ _ | apply Upd.setg)) (fun b hb hg' => N6 (hg' ▸ hb)) HR6.out)
      rintro e w_Answers ⟨rfl, hR6, hu⟩
      rw [HC6.out]
      replace HR2 := Sd.mk (R_upd hu (fun b hb hg' => D2_6.out b hb hg') (R_upd (G := fun b => b = g) (by repeat (with_reducible first | exact Upd.refl _ _ | apply Upd.setg)) (fun b hb hg' => N2 (hg' ▸ hb)) HR2.out))
      replace HR4 := Sd.mk (R_upd hu (fun b hb hg' => D4_6.out b hb hg') (R_upd (G := fun b => b = g) (by repeat (with_reducible first | exact Upd.refl _ _ | apply Upd.setg)) (fun b hb hg' => N4 (hg' ▸ hb)) HR4.out))
      replace HR6 := Sd.mk hR6
      replace HAT := Sd.mk ((HAT.out.set 5 (by decide) (.int .i64 ((((((q + 1) + 1) + cn2) + 1) + cn4)))).call hu I6.out hFg)
      clear hR6
      clear hu x0_Questions f0_Questions x1_Questions f1_Questions x2_Questions f2_Questions x3_Questions f3_Questions x4_Questions f4_Questions x5_Questions f5_Questions x6_Questions f6_Questions
      have x0_Answers := HAT.out.cell0 _ rfl
      have x1_Answers := HAT.out.cell 1 _ rfl
      have x2_Answers := HAT.out.cell 2 _ rfl
      have x3_Answers := HAT.out.cell 3 _ rfl
      have x4_Answers := HAT.out.cell 4 _ rfl
      have x5_Answers := HAT.out.cell 5 _ rfl
      have x6_Answers := HAT.out.cell 6 _ rfl
      have f0_Answers := HAT.out.free (i * 7)
      have f1_Answers := HAT.out.free (i * 7 + 1)
      have f2_Answers := HAT.out.free (i * 7 + 2)
      have f3_Answers := HAT.out.free (i * 7 + 3)
      have f4_Answers := HAT.out.free (i * 7 + 4)
      have f5_Answers := HAT.out.free (i * 7 + 5)
      have f6_Answers := HAT.out.free (i * 7 + 6)
      go_wp2
      have HA := HAT.out
      have hy : (⟨q, (((q + 1)) % 3 == 0), mkS mk_Export cnt_Export ((q + 1) + 1) l[i].Exports, (((q + 1) + 1) + cn2), mkS mk_Question cnt_Question ((((q + 1) + 1) + cn2) + 1) l[i].Questions, (((((q + 1) + 1) + cn2) + 1) + cn4), mkS mk_Question cnt_Question ((((((q + 1) + 1) + cn2) + 1) + cn4) + 1) l[i].Answers⟩ : GLink) = (mkS mk_Link cnt_Link k l)[i]'(by rw [mkS_len]; exact hlt) := by rw [HMA.out]; simp only [mk_Link, HC2.out, HC4.out, HC6.out]
      have HRowB := CL.out _ _ (⟨q, (((q + 1)) % 3 == 0), mkS mk_Export cnt_Export ((q + 1) + 1) l[i].Exports, (((q + 1) + 1) + cn2), mkS mk_Question cnt_Question ((((q + 1) + 1) + cn2) + 1) l[i].Questions, (((((q + 1) + 1) + cn2) + 1) + cn4), mkS mk_Question cnt_Question ((((((q + 1) + 1) + cn2) + 1) + cn4) + 1) l[i].Answers⟩ : GLink) Fi F HA (ki_Link_mk _ Fi (⟨q, (((q + 1)) % 3 == 0), mkS mk_Export cnt_Export ((q + 1) + 1) l[i].Exports, (((q + 1) + 1) + cn2), mkS mk_Question cnt_Question ((((q + 1) + 1) + cn2) + 1) l[i].Questions, (((((q + 1) + 1) + cn2) + 1) + cn4), mkS mk_Question cnt_Question ((((((q + 1) + 1) + cn2) + 1) + cn4) + 1) l[i].Answers⟩ : GLink) (R_upd (G := fun b => b = g) (by repeat (with_reducible first | exact Upd.refl _ _ | apply Upd.setg)) (fun b hb hg' => N2 (hg' ▸ hb)) HR2.out) (R_upd (G := fun b => b = g) (by repeat (with_reducible first | exact Upd.refl _ _ | apply Upd.setg)) (fun b hb hg' => N4 (hg' ▸ hb)) HR4.out) (R_upd (G := fun b => b = g) (by repeat (with_reducible first | exact Upd.refl _ _ | apply Upd.setg)) (fun b hb hg' => N6 (hg' ▸ hb)) HR6.out) I2.out I4.out I6.out D2_4.out D2_6.out D4_6.out) (fun _ hb => .inl hb) (fun _ hb => hb) hFi
      rw [hy, upTo_set (mkS_len _ _ _ _) hlt] at HRowB
      go_roundg (gk - 1)
      case measure => omega
      case rel => exact ⟨i + 1, by omega, by rw [HST.out]; simp only [cnt_Link]; have := HQ.out; have := HC2.out; have := HC4.out; have := HC6.out; exact congrArg (Value.int .i64) (by omega), by go_num, ⟨HRowB⟩, ⟨HU.out.trans HA.upd (fun _ _ hb => hb) (fun b _ hb => by rcases hb with rfl | hb; exact hg; exact hFi b hb)⟩⟩
    · go_wp2
      go_ret
      have HRowB := HR.out
      rw [upTo_end (mkS_len _ _ _ _) (by omega)] at HRowB
      have e : l.take i = l := List.take_of_length_le (by omega)
      exact ⟨ret_int (by rw [e]), HRowB, HU.out⟩
set_option maxHeartbeats 1000000 in
set_option maxRecDepth 100000 in
theorem heldS_Link (l : List GLink) (k : Int) (A : Option Addr) (c : Nat) (w : World) (h : C ki_Link w A (mkS mk_Link cnt_Link k l)) (hk : 0 ≤ k) (hb : k + cntS cnt_Link l ≤ 4611686018427387904) : Calls Try.prog 60 #[.slice A l.length c, .int .i64 k] w (RetInt (k + cntS cnt_Link l) w) := by
  have hn := h.1
  rw [mkS_len] at hn
  have H := Sd.mk h
  clear h
  go_enter Try.func60, Try.ntmps60
  go_wp2
  go_loopg [1, 5] l.length (fun r u v wr => ∃ i : Nat, i + r = l.length ∧ u = .int .i64 (k + cntS cnt_Link (l.take i)) ∧ v = .int .i64 i ∧ Sd (Upd No w wr))
  case atStart => exact ⟨0, by omega, by simp [cntS], rfl, ⟨Upd.refl _ _⟩⟩
  case round =>
    obtain ⟨i, hi, rfl, rfl, HU⟩ := hrel
    by_cases hlt : i < l.length
    · have hle := cntS_le cnt_Link cnt_Link_nn l i
      have hst := cntS_take cnt_Link l i hlt
      have hle2 := cntS_le cnt_Link cnt_Link_nn l (i + 1)
      rw [hst] at hle2
      have HST := Sd.mk hst
      clear hst
      obtain ⟨ad, A2, c2, A4, c4, A6, c6, rfl, a0, a1, a2, a3, a4, a5, a6, hl2, hC2, hl4, hC4, hl6, hC6⟩ := ki_Link_at (C_upd HU.out H.out) i (by rw [mkS_len]; exact hlt)
      rw [mkS_at mk_Link cnt_Link l k i hlt] at a0 a1 a2 a3 a4 a5 a6 hl2 hC2 hl4 hC4 hl6 hC6
      simp only [mk_Link, mkS_len] at a0 a1 a2 a3 a4 a5 a6 hl2 hC2 hl4 hC4 hl6 hC6
      have nn2 := cntS_nn cnt_Export cnt_Export_nn l[i].Exports
      have nn4 := cntS_nn cnt_Question cnt_Question_nn l[i].Questions
      have nn6 := cntS_nn cnt_Question cnt_Question_nn l[i].Answers
      simp only [cnt_Link] at hle2
      generalize hq : k + cntS cnt_Link (l.take i) = q at *
      have HQ := Sd.mk hq
      have hq0 : 0 ≤ q := by omega
      have hqb : q + (((((((0 + 1) + 1) + cntS cnt_Export l[i].Exports) + 1) + cntS cnt_Question l[i].Questions) + 1) + cntS cnt_Question l[i].Answers) ≤ 4611686018427387904 := by omega
      clear hq hle hle2 hb
      generalize hcn2 : cntS cnt_Export l[i].Exports = cn2 at *
      have HN2 := Sd.mk hcn2
      clear hcn2
      have HC2 := Sd.mk hC2
      clear hC2
      generalize hcn4 : cntS cnt_Question l[i].Questions = cn4 at *
      have HN4 := Sd.mk hcn4
      clear hcn4
      have HC4 := Sd.mk hC4
      clear hC4
      generalize hcn6 : cntS cnt_Question l[i].Answers = cn6 at *
      have HN6 := Sd.mk hcn6
      clear hcn6
      have HC6 := Sd.mk hC6
      clear hC6
      have HX := Sd.mk (Upd.refl No wr)
      go_wp2_with fail
      with_reducible refine (heldS_Export l[i].Exports _ _ _ _ ?hc_Exports (by omega) (by rw [HN2.out]; omega)).mono ?_
      case hc_Exports => exact HC2.out
      rintro e w_Exports ⟨rfl, hu⟩
      rw [HN2.out]
      replace a0 := hu.read a0
      replace a1 := hu.read a1
      replace a2 := hu.read a2
      replace a3 := hu.read a3
      replace a4 := hu.read a4
      replace a5 := hu.read a5
      replace a6 := hu.read a6
      replace HC2 := Sd.mk (C_upd hu HC2.out)
      replace HC4 := Sd.mk (C_upd hu HC4.out)
      replace HC6 := Sd.mk (C_upd hu HC6.out)
      replace HX := Sd.mk (HX.out.then hu)
      clear hu
      go_wp2_with fail
      with_reducible refine (heldS_Question l[i].Questions _ _ _ _ ?hc_Questions (by omega) (by rw [HN4.out]; omega)).mono ?_
      case hc_Questions => exact HC4.out
      rintro e w_Questions ⟨rfl, hu⟩
      rw [HN4.out]
      replace a0 := hu.read a0
      replace a1 := hu.read a1
      replace a2 := hu.read a2
      replace a3 := hu.read a3
      replace a4 := hu.read a4
      replace a5 := hu.read a5
      replace a6 := hu.read a6
      replace HC2 := Sd.mk (C_upd hu HC2.out)
      replace HC4 := Sd.mk (C_upd hu HC4.out)
      replace HC6 := Sd.mk (C_upd hu HC6.out)
      replace HX := Sd.mk (HX.out.then hu)
      clear hu
      go_wp2_with fail
      with_reducible refine (heldS_Question l[i].Answers _ _ _ _ ?hc_Answers (by omega) (by rw [HN6.out]; omega)).mono ?_
      case hc_Answers => exact HC6.out
      rintro e w_Answers ⟨rfl, hu⟩
      rw [HN6.out]
      replace a0 := hu.read a0
      replace a1 := hu.read a1
      replace a2 := hu.read a2
      replace a3 := hu.read a3
      replace a4 := hu.read a4
      replace a5 := hu.read a5
      replace a6 := hu.read a6
      replace HC2 := Sd.mk (C_upd hu HC2.out)
      replace HC4 := Sd.mk (C_upd hu HC4.out)
      replace HC6 := Sd.mk (C_upd hu HC6.out)
      replace HX := Sd.mk (HX.out.then hu)
      clear hu
      go_wp2
      go_roundg (gk - 1)
      case measure => omega
      case rel => exact ⟨i + 1, by omega, by rw [HST.out]; simp only [cnt_Link]; have := HQ.out; have := HN2.out; have := HN4.out; have := HN6.out; exact congrArg (Value.int .i64) (by omega), by go_num, ⟨HU.out.then HX.out⟩⟩
    · go_wp2
      go_ret
      have e : l.take i = l := List.take_of_length_le (by omega)
      exact ⟨ret_int (by rw [e]), HU.out⟩
end Go.Proofs.YtfnedoiplblldaaFam
