/- The contracts of the laws' own functions over Sent: to, sz, eq, mark, held. No conditions beyond the sizes that the contracts name. -/
import Derived.Test.YtfnedoiplblldaaProg
import Derived.Test.YtfnedoiplblldaaSep2
import Derived.Test.YtfnedoiplblldaaLst
import Derived.WalkKit
import Derived.KernelRfl
import Derived.RowKit3
import Derived.Deep.LoopGhost
import Derived.Deep.QuietTactic
import Derived.BigQuiet
import Derived.StillTailTactics
import Derived.Test.YtfnedoiplblldaaK
import Derived.Deep.RegionHeld3
import Derived.Test.YtfnedoiplblldaaFamValue
import Derived.Test.YtfnedoiplblldaaFamTag
import Derived.Test.YtfnedoiplblldaaFamText
namespace Go.Proofs.YtfnedoiplblldaaFam
open Go.RowKit Go.Proofs.YtfnedoiplblldaaSep Go.Proofs.YtfnedoiplblldaaT Go.Proofs.YtfnedoiplblldaaK
set_option linter.unusedVariables false
set_option linter.unusedSimpArgs false
theorem kl_Sent_Kmk (w : World) (x : GSent) {A2 : Option Addr} {c2 : Nat} (hl2 : x.Args.length ≤ c2) (hC2 : C kl_Value w A2 x.Args) : kl_Sent.K w x [.int .i64 x.Target, .string x.Name, .slice A2 x.Args.length c2, .int .i64 x.Result, .int .i64 x.Tag.Vat, .int .i64 x.Tag.Entity, .int .i64 x.Tag.Seq] := ⟨[_], [_, _, _, _, _, _], rfl, rfl, ⟨[_], [_, _, _, _, _], rfl, rfl, ⟨[_], [_, _, _, _], rfl, ⟨A2, c2, rfl, hl2, hC2⟩, ⟨[_], [_, _, _], rfl, rfl, (kl_Tag_Kmk w _)⟩⟩⟩⟩
theorem ki_Sent_Kmk (w : World) (x : GSent) {A2 : Option Addr} {c2 : Nat} (hl2 : x.Args.length ≤ c2) (hC2 : C ki_Value w A2 x.Args) : ki_Sent.K w x [.int .i64 x.Target, .string x.Name, .slice A2 x.Args.length c2, .int .i64 x.Result, .int .i64 x.Tag.Vat, .int .i64 x.Tag.Entity, .int .i64 x.Tag.Seq] := ⟨[_], [_, _, _, _, _, _], rfl, rfl, ⟨[_], [_, _, _, _, _], rfl, rfl, ⟨[_], [_, _, _, _], rfl, ⟨A2, c2, rfl, hl2, hC2⟩, ⟨[_], [_, _, _], rfl, rfl, (ki_Tag_Kmk w _)⟩⟩⟩⟩
set_option maxHeartbeats 1000000 in
set_option maxRecDepth 100000 in
theorem to_Sent (x : GSent) (cs : List Value) (w : World) (h : kl_Sent.K w x cs) (hs : szn_Sent x ≤ 1048576) : Calls Try.prog 129 #[.agg cs.toArray] w (RetAgg ki_Sent x w) := by
  obtain ⟨A2, c2, rfl, hl2, hC2⟩ := kl_Sent_K h
  have HC2 := Sd.mk hC2
  clear hC2
  have s_Args : sznS szn_Value x.Args ≤ 1048576 := by unfold szn_Sent at hs; omega
  clear hs
  go_enter Try.func129, Try.ntmps129
  go_wp2_with fail
  with_reducible refine (toS_Value x.Args _ _ _ ?hc_Args s_Args).mono ?_
  case hc_Args => exact C_upd (by repeat (with_reducible first | exact Upd.refl _ _ | apply Upd.put2 | apply Upd.put1 | apply Upd.put0 | apply Upd.alloc | apply Upd.drewN | apply Upd.drew)) HC2.out
  rintro e w_Args ⟨v2, rfl, hR2, hu⟩
  obtain ⟨B2, b2, rfl⟩ := R_slice hR2
  obtain ⟨P2, hR2', g2, l2⟩ := fresh_row hR2 (w.heap.size + 1 + 1 + 1) (by first | omega | (simp; done) | (simp; omega))
  have ge2 : ∀ b, P2 b → w.heap.size + 1 + 1 < b := fun b hb => by have := g2 b hb; omega
  have n1_2 : ¬ P2 (w.heap.size + 1) := fun q => by have := ge2 _ q; omega
  have n2_2 : ¬ P2 (w.heap.size + 1 + 1) := fun q => by have := ge2 _ q; omega
  have HR2 := Sd.mk hR2'
  have GE2 := Sd.mk ge2
  have LT2 := Sd.mk l2
  have GP2 := Sd.mk g2
  clear hR2 hR2' ge2 l2 g2
  have HB_Args : Sd (Upd No w w_Args) := Sd.mk (Upd.then (by repeat (with_reducible first | exact Upd.refl _ _ | apply Upd.put2 | apply Upd.put1 | apply Upd.put0 | apply Upd.alloc | apply Upd.drewN | apply Upd.drew)) hu)
  have cc0_Args := fun o => hu.cellsF (b := w.heap.size) (by first | omega | (simp; done) | (simp; omega)) (fun q => q) o
  have cc1_Args := fun o => hu.cellsF (b := w.heap.size + 1) (by first | omega | (simp; done) | (simp; omega)) (fun q => q) o
  have cf1_Args := fun o => hu.frozenF (b := w.heap.size + 1) (by first | omega | (simp; done) | (simp; omega)) (fun q => q) o
  have cc2_Args := fun o => hu.cellsF (b := w.heap.size + 1 + 1) (by first | omega | (simp; done) | (simp; omega)) (fun q => q) o
  have cf2_Args := fun o => hu.frozenF (b := w.heap.size + 1 + 1) (by first | omega | (simp; done) | (simp; omega)) (fun q => q) o
  have hz_Args : w.heap.size + 1 + 1 + 1 ≤ w_Args.heap.size := by have := hu.size; (try simp at this); omega
  clear hu
  go_wp2_with fail
  with_reducible refine (to_Tag x.Tag _ _ (kl_Tag_Kmk _ _) (by simp [szn_Tag])).mono ?_
  rintro e w_Tag ⟨cs_Tag, rfl, hM, hu⟩
  obtain rfl := ki_Tag_M hM
  clear hM
  have HR2 := Sd.mk (R_upd hu (fun _ _ q => q) (R_keep HR2.out (by repeat (with_reducible first | exact Upd.refl _ _ | apply Upd.putP n1_2 | apply Upd.putP n2_2 | apply Upd.alloc))))
  have HB_Tag : Sd (Upd No w w_Tag) := Sd.mk (Upd.then (by repeat (with_reducible first | exact HB_Args.out | apply Upd.put2 | apply Upd.put1 | apply Upd.put0 | apply Upd.alloc | apply Upd.drewN | apply Upd.drew)) hu)
  have cc0_Tag := fun o => hu.cellsF (b := w.heap.size) (by first | omega | (simp; done) | (simp; omega)) (fun q => q) o
  have cc1_Tag := fun o => hu.cellsF (b := w.heap.size + 1) (by first | omega | (simp; done) | (simp; omega)) (fun q => q) o
  have cf1_Tag := fun o => hu.frozenF (b := w.heap.size + 1) (by first | omega | (simp; done) | (simp; omega)) (fun q => q) o
  have cc2_Tag := fun o => hu.cellsF (b := w.heap.size + 1 + 1) (by first | omega | (simp; done) | (simp; omega)) (fun q => q) o
  have cf2_Tag := fun o => hu.frozenF (b := w.heap.size + 1 + 1) (by first | omega | (simp; done) | (simp; omega)) (fun q => q) o
  have hz_Tag : w.heap.size + 1 + 1 + 1 ≤ w_Tag.heap.size := by have := hu.size; (try simp at this); omega
  have hm_Tag : w_Args.heap.size ≤ w_Tag.heap.size := by have := hu.size; (try simp at this); omega
  clear hu
  go_wp2
  refine bodyPost_ret (v := .agg #[.int .i64 x.Target, .string x.Name, .slice B2 x.Args.length b2, .int .i64 x.Result, .int .i64 x.Tag.Vat, .int .i64 x.Tag.Entity, .int .i64 x.Tag.Seq]) (by simp [results, Try.results129, go_sem, cc1_Args, cc1_Tag]) rfl ⟨_, rfl, ?_, (by repeat (with_reducible first | exact HB_Tag.out | apply Upd.put2 | apply Upd.put1 | apply Upd.put0 | apply Upd.alloc | apply Upd.drewN | apply Upd.drew))⟩
  exact ki_Sent_mk _ _ _ (R_keep HR2.out (by repeat (with_reducible first | exact Upd.refl _ _ | apply Upd.putP n1_2 | apply Upd.putP n2_2 | apply Upd.alloc))) (fun k hk => by have := GE2.out k hk; simp only [New]; omega)
set_option maxHeartbeats 1000000 in
set_option maxRecDepth 100000 in
theorem toS_Sent (l : List GSent) (A : Option Addr) (c : Nat) (w : World) (h : C kl_Sent w A l) (hs : sznS szn_Sent l ≤ 1048576) : Calls Try.prog 71 #[.slice A l.length c] w (RetRow ki_Sent 177 l w) := by
  have hn : l.length ≤ 1048576 := by unfold sznS at hs; omega
  have hmk := run_made (P := Try.prog) _ _ _ Try.underlying24 ki_Sent_info l.length hn (by decide)
  have H := Sd.mk h
  have HS := Sd.mk hs
  clear h hs
  go_enter Try.func71, Try.ntmps71
  go_wp2
  clear hmk
  have HR : Sd (R ki_Sent 177 (w.alloc (madeObj (.agg #[.int .i64 0, .string ⟨#[]⟩, .slice none 0 0, .int .i64 0, .int .i64 0, .int .i64 0, .int .i64 0]) (l.length * 7) 177)) (New w) (.slice (some ⟨w.heap.size, 0, none⟩) l.length l.length) (List.replicate l.length zSent)) := Sd.mk (R_made (d := ki_Sent) (e := 177) w (.agg #[.int .i64 0, .string ⟨#[]⟩, .slice none 0 0, .int .i64 0, .int .i64 0, .int .i64 0, .int .i64 0]) zSent rfl (by decide) ki_Sent_zero l.length hn)
  have HU := Sd.mk ((Upd.refl No w).alloc (madeObj (.agg #[.int .i64 0, .string ⟨#[]⟩, .slice none 0 0, .int .i64 0, .int .i64 0, .int .i64 0, .int .i64 0]) (l.length * 7) 177))
  go_loopg [4] l.length (fun k v wr => ∃ i : Nat, i + k = l.length ∧ v = .int .i64 i ∧ Sd (R ki_Sent 177 wr (New w) (.slice (some ⟨w.heap.size, 0, none⟩) l.length l.length) (upTo l (List.replicate l.length zSent) i)) ∧ Sd (Upd No w wr))
  case atStart => exact ⟨0, by omega, rfl, ⟨by rw [upTo_zero]; exact HR.out⟩, HU⟩
  case round =>
    clear HR HU
    obtain ⟨i, hi, rfl, HR, HU⟩ := hrel
    by_cases hlt : i < l.length
    · obtain ⟨ad, A2, c2, rfl, a0, a1, a2, a3, a4, a5, a6, hl2, hC2⟩ := kl_Sent_at (C_upd HU.out H.out) i hlt
      have HC2 := Sd.mk hC2
      clear hC2
      have hsi : szn_Sent l[i] ≤ 1048576 := by have := HS.out; have := sumS_at szn_Sent l i hlt; unfold sznS at *; omega
      go_wp2_with fail
      with_reducible refine (to_Sent l[i] _ _ (kl_Sent_Kmk _ _ hl2 HC2.out) hsi).mono ?_
      rintro e w1 ⟨cs, rfl, hM, hu⟩
      obtain ⟨v2, P2, rfl, hR2, i2⟩ := ki_Sent_M (ki_Sent.M_lt hM)
      obtain ⟨D2, d2, rfl⟩ := R_slice hR2
      have HRowA := R_upd hu (fun _ _ q => q) (R_lt HR.out)
      have HU1 := Sd.mk (HU.out.then hu)
      have hzw := HU.out.size
      have HR2 := Sd.mk hR2
      have I2 := Sd.mk i2
      clear HR HU hM hu hR2 i2
      obtain ⟨g, cap, cur, ce, Fi, hv, hcap, hat, hM, hg, hFi, hFg, close⟩ := R_elem HRowA 7 l.length rfl (by rw [upTo_len (by simp) (by simp; omega)]; simp) i zSent (by rw [upTo_at (by simp) (by simpa using hlt)]; simp)
      cases hv
      obtain ⟨y2, _, rfl, -⟩ := ki_Sent_M hM
      have HAT := Sd.mk hat
      have x0 := hat.cell0 _ rfl
      have x1 := hat.cell 1 _ rfl
      have x2 := hat.cell 2 _ rfl
      have x3 := hat.cell 3 _ rfl
      have x4 := hat.cell 4 _ rfl
      have x5 := hat.cell 5 _ rfl
      have x6 := hat.cell 6 _ rfl
      have f0 := hat.free (i * 7)
      have f1 := hat.free (i * 7 + 1)
      have f2 := hat.free (i * 7 + 2)
      have f3 := hat.free (i * 7 + 3)
      have f4 := hat.free (i * 7 + 4)
      have f5 := hat.free (i * 7 + 5)
      have f6 := hat.free (i * 7 + 6)
      have CL := Sd.mk close
      clear hat close hM HRowA
      go_wp2
      have HA := ((((((HAT.out.set0 (by decide) (.int .i64 l[i].Target)).set 1 (by decide) (.string l[i].Name)).set 2 (by decide) (.slice D2 l[i].Args.length d2)).set 3 (by decide) (.int .i64 l[i].Result)).set 4 (by decide) (.int .i64 l[i].Tag.Vat)).set 5 (by decide) (.int .i64 l[i].Tag.Entity)).set 6 (by decide) (.int .i64 l[i].Tag.Seq)
      have hD2 : ∀ b, P2 b → ¬ (b = w.heap.size ∨ Fi b) := by
        intro b hb q
        have h1 := (I2.out b hb).1
        simp only [New] at h1
        rcases q with rfl | q
        · exact absurd hg.2 (by omega)
        · have h2 := (hFi b q).2
          omega
      have HM := ki_Sent_mk _ (fun b => P2 b) l[i] (R_upd HA.upd hD2 HR2.out) (fun k hk => hk)
      have hP1 : ∀ b, (P2 b) → New wr b := by
        intro b hb
        exact (I2.out b hb).1
      have HRowB := CL.out _ _ l[i] _ (New w) HA HM (fun b hb => .inr (fun q => by have h1 := hP1 b hb; have h2 := q.2; simp only [New] at h1; omega)) (fun _ q => q.1) (fun b hb => by have h1 := hP1 b hb; simp only [New] at h1 ⊢; omega)
      rw [upTo_set (by simp) (by simpa using hlt)] at HRowB
      go_roundg (gk - 1)
      case measure => omega
      case rel => exact ⟨i + 1, by omega, by go_num, ⟨HRowB⟩, ⟨by repeat (with_reducible first | exact HU1.out | apply Upd.put0)⟩⟩
    · go_wp2
      go_ret
      have HRowB := HR.out
      rw [upTo_end (by simp) (by simp; omega)] at HRowB
      exact ⟨_, rfl, HRowB, HU.out⟩
set_option maxHeartbeats 1000000 in
set_option maxRecDepth 100000 in
theorem sz_Sent (x : GSent) (cs : List Value) (n : Int) (w : World) (h : kl_Sent.K w x cs) (hb : Bd_Sent x) (h0 : 0 ≤ n) (h1 : n ≤ 1048576) : Calls Try.prog 125 #[.agg cs.toArray, .int .i64 n] w (RetSz (szn_Sent x) n w) := by
  obtain ⟨A2, c2, rfl, hl2, hC2⟩ := kl_Sent_K h
  have HC2 := Sd.mk hC2
  clear hC2
  have b_Name := hb
  unfold Bd_Sent at b_Name
  go_enter Try.func125, Try.ntmps125
  by_cases q_Name : ((x.Name.size : Nat) : Int) ≤ n
  case neg =>
    go_wp2
    go_ret
    exact ⟨_, rfl, .inr ⟨by unfold szn_Sent; omega, rfl⟩, (by repeat (with_reducible first | exact Upd.refl _ _ | apply Upd.put2 | apply Upd.put1 | apply Upd.put0 | apply Upd.alloc | apply Upd.drewN | apply Upd.drew))⟩
  go_wp2_with fail
  with_reducible refine (szS_Value x.Args _ _ _ _ ?hc_Args (by omega) (by omega)).mono ?_
  case hc_Args => exact C_upd (by repeat (with_reducible first | exact Upd.refl _ _ | apply Upd.put2 | apply Upd.put1 | apply Upd.put0 | apply Upd.alloc | apply Upd.drewN | apply Upd.drew)) HC2.out
  rintro e w_Args ⟨r_Args, rfl, hr_Args, hu⟩
  have HB_Args : Sd (Upd No w w_Args) := Sd.mk (Upd.then (by repeat (with_reducible first | exact Upd.refl _ _ | apply Upd.put2 | apply Upd.put1 | apply Upd.put0 | apply Upd.alloc | apply Upd.drewN | apply Upd.drew)) hu)
  have cc0_Args := fun o => hu.cellsF (b := w.heap.size) (by first | omega | (simp; done) | (simp; omega)) (fun q => q) o
  have hz_Args : w.heap.size + 1 ≤ w_Args.heap.size := by have := hu.size; (try simp at this); omega
  clear hu
  rcases hr_Args with ⟨q_Args, rfl⟩ | ⟨q_Args, rfl⟩
  case inr =>
    go_wp2
    go_ret
    exact ⟨_, rfl, .inr ⟨by unfold szn_Sent; omega, rfl⟩, (by repeat (with_reducible first | exact HB_Args.out | apply Upd.put2 | apply Upd.put1 | apply Upd.put0 | apply Upd.alloc | apply Upd.drewN | apply Upd.drew))⟩
  go_wp2
  go_ret
  exact ⟨_, rfl, .inl ⟨by unfold szn_Sent; omega, by unfold szn_Sent; omega⟩, (by repeat (with_reducible first | exact HB_Args.out | apply Upd.put2 | apply Upd.put1 | apply Upd.put0 | apply Upd.alloc | apply Upd.drewN | apply Upd.drew))⟩
set_option maxHeartbeats 1000000 in
set_option maxRecDepth 100000 in
theorem szS_Sent (l : List GSent) (A : Option Addr) (c : Nat) (n : Int) (w : World) (h : C kl_Sent w A l) (hb : ∀ y ∈ l, Bd_Sent y) (h0 : 0 ≤ n) (h1 : n ≤ 1048576) : Calls Try.prog 63 #[.slice A l.length c, .int .i64 n] w (RetSz (sznS szn_Sent l) n w) := by
  have hn := h.1
  have H := Sd.mk h
  clear h
  have HBD := Sd.mk hb
  clear hb
  go_enter Try.func63, Try.ntmps63
  by_cases q0 : (l.length : Int) ≤ n
  case neg =>
    go_wp2
    go_ret
    exact ⟨_, rfl, .inr ⟨by unfold sznS; omega, rfl⟩, Upd.refl _ _⟩
  go_wp2
  go_loopg [1, 5] l.length (fun k u v wr => ∃ i : Nat, i + k = l.length ∧ (sumS szn_Sent (l.take i) : Int) ≤ n - l.length ∧ u = .int .i64 (n - l.length - sumS szn_Sent (l.take i)) ∧ v = .int .i64 i ∧ Sd (Upd No w wr))
  case atStart => exact ⟨0, by omega, by simp [sumS]; omega, by simp [sumS], rfl, ⟨Upd.refl _ _⟩⟩
  case round =>
    obtain ⟨i, hi, hle, rfl, rfl, HU⟩ := hrel
    by_cases hlt : i < l.length
    · obtain ⟨ad, A2, c2, rfl, a0, a1, a2, a3, a4, a5, a6, hl2, hC2⟩ := kl_Sent_at (C_upd HU.out H.out) i hlt
      have HC2 := Sd.mk hC2
      clear hC2
      have hst := sumS_step szn_Sent l i hlt
      have HST := Sd.mk (sumS_take szn_Sent l i hlt)
      generalize hs : sumS szn_Sent (l.take i) = s at *
      have HS := Sd.mk hs
      clear hs
      go_wp2_with fail
      with_reducible refine (sz_Sent l[i] _ _ _ (kl_Sent_Kmk _ _ hl2 HC2.out) (HBD.out _ (List.getElem_mem hlt)) (by omega) (by omega)).mono ?_
      rintro e w1 ⟨r, rfl, hr, hu⟩
      have HU1 := Sd.mk (HU.out.then hu)
      clear hu HU
      rcases hr with ⟨q, rfl⟩ | ⟨q, rfl⟩
      · go_wp2
        go_roundg (gk - 1)
        case measure => omega
        case rel => exact ⟨i + 1, by omega, by rw [HST.out]; omega, by rw [HST.out]; exact congrArg (Value.int .i64) (by omega), by go_num, HU1⟩
      · go_wp2
        go_ret
        exact ⟨_, rfl, .inr ⟨by unfold sznS; omega, rfl⟩, HU1.out⟩
    · go_wp2
      go_ret
      have e : l.take i = l := List.take_of_length_le (by omega)
      rw [e] at hle
      exact ⟨_, rfl, .inl ⟨by unfold sznS; omega, by rw [e]; unfold sznS; omega⟩, HU.out⟩
set_option maxHeartbeats 1000000 in
set_option maxRecDepth 100000 in
theorem eq_Sent (x : GSent) (cs cs' : List Value) (w : World) (h : ki_Sent.K w x cs) (h' : ki_Sent.K w x cs') : Calls Try.prog 116 #[.agg cs.toArray, .agg cs'.toArray] w (RetBool true w) := by
  obtain ⟨A2, c2, rfl, hl2, hC2⟩ := ki_Sent_K h
  have HC2 := Sd.mk hC2
  clear hC2
  obtain ⟨B2, b2, rfl, hm2, hD2⟩ := ki_Sent_K h'
  have HD2 := Sd.mk hD2
  clear hD2
  go_enter Try.func116, Try.ntmps116
  go_wp2_with fail
  with_reducible refine (eqS_Value x.Args _ _ _ _ _ ?hc_Args ?hd_Args).mono ?_
  case hc_Args => exact C_upd (by repeat (with_reducible first | exact Upd.refl _ _ | apply Upd.put2 | apply Upd.put1 | apply Upd.put0 | apply Upd.alloc | apply Upd.drewN | apply Upd.drew)) HC2.out
  case hd_Args => exact C_upd (by repeat (with_reducible first | exact Upd.refl _ _ | apply Upd.put2 | apply Upd.put1 | apply Upd.put0 | apply Upd.alloc | apply Upd.drewN | apply Upd.drew)) HD2.out
  rintro e w_Args ⟨rfl, hu⟩
  have HB_Args : Sd (Upd No w w_Args) := Sd.mk (Upd.then (by repeat (with_reducible first | exact Upd.refl _ _ | apply Upd.put2 | apply Upd.put1 | apply Upd.put0 | apply Upd.alloc | apply Upd.drewN | apply Upd.drew)) hu)
  have cc0_Args := fun o => hu.cellsF (b := w.heap.size) (by first | omega | (simp; done) | (simp; omega)) (fun q => q) o
  have cc1_Args := fun o => hu.cellsF (b := w.heap.size + 1) (by first | omega | (simp; done) | (simp; omega)) (fun q => q) o
  have hz_Args : w.heap.size + 1 + 1 ≤ w_Args.heap.size := by have := hu.size; (try simp at this); omega
  clear hu
  go_wp2_with fail
  with_reducible refine (eq_Tag x.Tag _ _ _ (ki_Tag_Kmk _ _) (ki_Tag_Kmk _ _)).mono ?_
  rintro e w_Tag ⟨rfl, hu⟩
  have HB_Tag : Sd (Upd No w w_Tag) := Sd.mk (Upd.then (by repeat (with_reducible first | exact HB_Args.out | apply Upd.put2 | apply Upd.put1 | apply Upd.put0 | apply Upd.alloc | apply Upd.drewN | apply Upd.drew)) hu)
  have cc0_Tag := fun o => hu.cellsF (b := w.heap.size) (by first | omega | (simp; done) | (simp; omega)) (fun q => q) o
  have cc1_Tag := fun o => hu.cellsF (b := w.heap.size + 1) (by first | omega | (simp; done) | (simp; omega)) (fun q => q) o
  have hz_Tag : w.heap.size + 1 + 1 ≤ w_Tag.heap.size := by have := hu.size; (try simp at this); omega
  clear hu
  go_wp2
  go_ret
  exact ⟨rfl, (by repeat (with_reducible first | exact HB_Tag.out | apply Upd.put2 | apply Upd.put1 | apply Upd.put0 | apply Upd.alloc | apply Upd.drewN | apply Upd.drew))⟩
set_option maxHeartbeats 1000000 in
set_option maxRecDepth 100000 in
theorem eqS_Sent (l : List GSent) (A A' : Option Addr) (c c' : Nat) (w : World) (h : C ki_Sent w A l) (h' : C ki_Sent w A' l) : Calls Try.prog 51 #[.slice A l.length c, .slice A' l.length c'] w (RetBool true w) := by
  have hn := h.1
  have H := Sd.mk h
  have H' := Sd.mk h'
  clear h h'
  go_enter Try.func51, Try.ntmps51
  go_wp2
  go_loopg [5] l.length (fun k v wr => ∃ i : Nat, i + k = l.length ∧ v = .int .i64 i ∧ Sd (Upd No w wr))
  case atStart => exact ⟨0, by omega, rfl, ⟨Upd.refl _ _⟩⟩
  case round =>
    obtain ⟨i, hi, rfl, HU⟩ := hrel
    by_cases hlt : i < l.length
    · obtain ⟨ad, A2, c2, rfl, a0, a1, a2, a3, a4, a5, a6, hl2, hC2⟩ := ki_Sent_at (C_upd HU.out H.out) i hlt
      obtain ⟨ad', B2, b2, rfl, z0, z1, z2, z3, z4, z5, z6, hm2, hD2⟩ := ki_Sent_at (C_upd HU.out H'.out) i hlt
      have HC2 := Sd.mk hC2
      have HD2 := Sd.mk hD2
      clear hC2 hD2
      go_wp2_with fail
      go_still_tail 8, (by kernel_rfl)
      change wpList _ _ _ _ _ wr.drew
      have HW : Sd (Upd No wr wr.drew) := ⟨(Upd.refl _ _).drew⟩
      have HU2 : Sd (Upd No w wr.drew) := ⟨HU.out.drew⟩
      generalize wr.drew = w2 at *
      go_wp2_with (go_at_call 116; (with_reducible refine (eq_Sent l[i] _ _ _ (ki_Sent_Kmk _ _ hl2 (C_upd HW.out HC2.out)) (ki_Sent_Kmk _ _ hm2 (C_upd HW.out HD2.out))).mono ?_); rintro e w' ⟨rfl, hu⟩)
      have HU3 := Sd.mk (HU2.out.then hu)
      clear HU2 hu
      go_wp2
      go_roundg (gk - 1)
      case measure => omega
      case rel => exact ⟨i + 1, by omega, by go_num, HU3⟩
    · go_wp2
      go_ret
      exact ⟨rfl, HU.out⟩
set_option maxHeartbeats 1000000 in
set_option maxRecDepth 100000 in
theorem markS_Sent (l : List GSent) (k : Int) (F : Nat → Prop) (v : Value) (w : World) (h : R ki_Sent 177 w F v l) (hk : 0 ≤ k) (hb : k + cntS cnt_Sent l ≤ 4611686018427387904) : Calls Try.prog 55 #[v, .int .i64 k] w (Marks ki_Sent 177 F v (k + cntS cnt_Sent l) (mkS mk_Sent cnt_Sent k l) w) := by
  obtain ⟨A, c, rfl⟩ := R_slice h
  have hn := R_len h
  have H := Sd.mk h
  clear h
  go_enter Try.func55, Try.ntmps55
  go_wp2
  go_loopg [1, 5] l.length (fun r u v wr => ∃ i : Nat, i + r = l.length ∧ u = .int .i64 (k + cntS cnt_Sent (l.take i)) ∧ v = .int .i64 i ∧ Sd (R ki_Sent 177 wr F (.slice A l.length c) (upTo (mkS mk_Sent cnt_Sent k l) l i)) ∧ Sd (Upd F w wr))
  case atStart => exact ⟨0, by omega, by simp [cntS], rfl, ⟨by rw [upTo_zero]; exact H.out⟩, ⟨Upd.refl _ _⟩⟩
  case round =>
    obtain ⟨i, hi, rfl, rfl, HR, HU⟩ := hrel
    by_cases hlt : i < l.length
    · have hle := cntS_le cnt_Sent cnt_Sent_nn l i
      have hst := cntS_take cnt_Sent l i hlt
      have hle2 := cntS_le cnt_Sent cnt_Sent_nn l (i + 1)
      rw [hst] at hle2
      have HST := Sd.mk hst
      clear hst
      have HMA := Sd.mk (mkS_at mk_Sent cnt_Sent l k i hlt)
      obtain ⟨g, cap, cur, ce, Fi, hv, hcap, hat, hM, hg, hFi, hFg, close⟩ := R_elem HR.out 7 l.length rfl (upTo_len (mkS_len _ _ _ _) (by omega)) i l[i] (upTo_at (mkS_len _ _ _ _) hlt)
      cases hv
      obtain ⟨v2, P2, rfl, hR2, i2⟩ := ki_Sent_M hM
      obtain ⟨B2, b2, rfl⟩ := R_slice hR2
      have HR2 := Sd.mk hR2
      have I2 := Sd.mk i2
      have N2 : ¬ P2 g := fun q => hFg (i2 g q)
      clear hR2 i2
      have nn2 := cntS_nn cnt_Value cnt_Value_nn l[i].Args
      have HCN : Sd (cnt_Sent l[i] = cnt_Sent l[i]) := ⟨rfl⟩
      simp only [cnt_Sent] at hle2
      generalize hq : k + cntS cnt_Sent (l.take i) = q at *
      have HQ := Sd.mk hq
      have hq0 : 0 ≤ q := by omega
      have hqb : q + (((((((0 + 1) + 1) + cntS cnt_Value l[i].Args) + 1) + 1) + 1) + 1) ≤ 4611686018427387904 := by omega
      clear hq hle hle2 hb
      generalize hcn2 : cntS cnt_Value l[i].Args = cn2 at *
      have HC2 := Sd.mk hcn2
      clear hcn2
      have HAT := Sd.mk hat
      have x0_s := hat.cell0 _ rfl
      have x1_s := hat.cell 1 _ rfl
      have x2_s := hat.cell 2 _ rfl
      have x3_s := hat.cell 3 _ rfl
      have x4_s := hat.cell 4 _ rfl
      have x5_s := hat.cell 5 _ rfl
      have x6_s := hat.cell 6 _ rfl
      have f0_s := hat.free (i * 7)
      have f1_s := hat.free (i * 7 + 1)
      have f2_s := hat.free (i * 7 + 2)
      have f3_s := hat.free (i * 7 + 3)
      have f4_s := hat.free (i * 7 + 4)
      have f5_s := hat.free (i * 7 + 5)
      have f6_s := hat.free (i * 7 + 6)
      have CL := Sd.mk close
      clear hat close hM HR
      go_wp2_with fail
      with_reducible refine (markText_c _ _ (by omega) (by omega)).mono ?_
      rintro e w_Name ⟨rfl, hu⟩
      replace HR2 := Sd.mk (R_upd hu (fun _ _ q => q) (R_upd (G := fun b => b = g) (by repeat (with_reducible first | exact Upd.refl _ _ | apply Upd.setg)) (fun b hb hg' => N2 (hg' ▸ hb)) HR2.out))
      replace HAT := Sd.mk ((HAT.out.set0 (by decide) (.int .i64 (q))).call hu (fun _ q => q.elim) hFg)
      clear hu x0_s f0_s x1_s f1_s x2_s f2_s x3_s f3_s x4_s f4_s x5_s f5_s x6_s f6_s
      have x0_Name := HAT.out.cell0 _ rfl
      have x1_Name := HAT.out.cell 1 _ rfl
      have x2_Name := HAT.out.cell 2 _ rfl
      have x3_Name := HAT.out.cell 3 _ rfl
      have x4_Name := HAT.out.cell 4 _ rfl
      have x5_Name := HAT.out.cell 5 _ rfl
      have x6_Name := HAT.out.cell 6 _ rfl
      have f0_Name := HAT.out.free (i * 7)
      have f1_Name := HAT.out.free (i * 7 + 1)
      have f2_Name := HAT.out.free (i * 7 + 2)
      have f3_Name := HAT.out.free (i * 7 + 3)
      have f4_Name := HAT.out.free (i * 7 + 4)
      have f5_Name := HAT.out.free (i * 7 + 5)
      have f6_Name := HAT.out.free (i * 7 + 6)
      go_wp2_with fail
      with_reducible refine (markS_Value l[i].Args _ P2 _ _ ?hr_Args (by omega) (by rw [HC2.out]; omega)).mono ?_
      case hr_Args => exact (R_upd (G := fun b => b = g) (by repeat (with_reducible first | exact Upd.refl _ _ | apply Upd.setg)) (fun b hb hg' => N2 (hg' ▸ hb)) HR2.out)
      rintro e w_Args ⟨rfl, hR2, hu⟩
      rw [HC2.out]
      replace HR2 := Sd.mk hR2
      replace HAT := Sd.mk ((HAT.out.set 1 (by decide) (.string (mtx ((q + 1))))).call hu I2.out hFg)
      clear hR2
      clear hu x0_Name f0_Name x1_Name f1_Name x2_Name f2_Name x3_Name f3_Name x4_Name f4_Name x5_Name f5_Name x6_Name f6_Name
      have x0_Args := HAT.out.cell0 _ rfl
      have x1_Args := HAT.out.cell 1 _ rfl
      have x2_Args := HAT.out.cell 2 _ rfl
      have x3_Args := HAT.out.cell 3 _ rfl
      have x4_Args := HAT.out.cell 4 _ rfl
      have x5_Args := HAT.out.cell 5 _ rfl
      have x6_Args := HAT.out.cell 6 _ rfl
      have f0_Args := HAT.out.free (i * 7)
      have f1_Args := HAT.out.free (i * 7 + 1)
      have f2_Args := HAT.out.free (i * 7 + 2)
      have f3_Args := HAT.out.free (i * 7 + 3)
      have f4_Args := HAT.out.free (i * 7 + 4)
      have f5_Args := HAT.out.free (i * 7 + 5)
      have f6_Args := HAT.out.free (i * 7 + 6)
      go_wp2
      have HA := ((((HAT.out.set 3 (by decide) (.int .i64 ((((q + 1) + 1) + cn2)))).set 4 (by decide) (.int .i64 (((((q + 1) + 1) + cn2) + 1)))).set 5 (by decide) (.int .i64 ((((((q + 1) + 1) + cn2) + 1) + 1)))).set 6 (by decide) (.int .i64 (((((((q + 1) + 1) + cn2) + 1) + 1) + 1))))
      have hy : (⟨q, mtx ((q + 1)), mkS mk_Value cnt_Value ((q + 1) + 1) l[i].Args, (((q + 1) + 1) + cn2), ⟨((((q + 1) + 1) + cn2) + 1), (((((q + 1) + 1) + cn2) + 1) + 1), ((((((q + 1) + 1) + cn2) + 1) + 1) + 1)⟩⟩ : GSent) = (mkS mk_Sent cnt_Sent k l)[i]'(by rw [mkS_len]; exact hlt) := by rw [HMA.out]; simp only [mk_Sent, HC2.out]
      have HRowB := CL.out _ _ (⟨q, mtx ((q + 1)), mkS mk_Value cnt_Value ((q + 1) + 1) l[i].Args, (((q + 1) + 1) + cn2), ⟨((((q + 1) + 1) + cn2) + 1), (((((q + 1) + 1) + cn2) + 1) + 1), ((((((q + 1) + 1) + cn2) + 1) + 1) + 1)⟩⟩ : GSent) Fi F HA (ki_Sent_mk _ Fi (⟨q, mtx ((q + 1)), mkS mk_Value cnt_Value ((q + 1) + 1) l[i].Args, (((q + 1) + 1) + cn2), ⟨((((q + 1) + 1) + cn2) + 1), (((((q + 1) + 1) + cn2) + 1) + 1), ((((((q + 1) + 1) + cn2) + 1) + 1) + 1)⟩⟩ : GSent) (R_upd (G := fun b => b = g) (by repeat (with_reducible first | exact Upd.refl _ _ | apply Upd.setg)) (fun b hb hg' => N2 (hg' ▸ hb)) HR2.out) I2.out) (fun _ hb => .inl hb) (fun _ hb => hb) hFi
      rw [hy, upTo_set (mkS_len _ _ _ _) hlt] at HRowB
      go_roundg (gk - 1)
      case measure => omega
      case rel => exact ⟨i + 1, by omega, by rw [HST.out]; simp only [cnt_Sent]; have := HQ.out; have := HC2.out; exact congrArg (Value.int .i64) (by omega), by go_num, ⟨HRowB⟩, ⟨HU.out.trans HA.upd (fun _ _ hb => hb) (fun b _ hb => by rcases hb with rfl | hb; exact hg; exact hFi b hb)⟩⟩
    · go_wp2
      go_ret
      have HRowB := HR.out
      rw [upTo_end (mkS_len _ _ _ _) (by omega)] at HRowB
      have e : l.take i = l := List.take_of_length_le (by omega)
      exact ⟨ret_int (by rw [e]), HRowB, HU.out⟩
set_option maxHeartbeats 1000000 in
set_option maxRecDepth 100000 in
theorem heldS_Sent (l : List GSent) (k : Int) (A : Option Addr) (c : Nat) (w : World) (h : C ki_Sent w A (mkS mk_Sent cnt_Sent k l)) (hk : 0 ≤ k) (hb : k + cntS cnt_Sent l ≤ 4611686018427387904) : Calls Try.prog 59 #[.slice A l.length c, .int .i64 k] w (RetInt (k + cntS cnt_Sent l) w) := by
  have hn := h.1
  rw [mkS_len] at hn
  have H := Sd.mk h
  clear h
  go_enter Try.func59, Try.ntmps59
  go_wp2
  go_loopg [1, 5] l.length (fun r u v wr => ∃ i : Nat, i + r = l.length ∧ u = .int .i64 (k + cntS cnt_Sent (l.take i)) ∧ v = .int .i64 i ∧ Sd (Upd No w wr))
  case atStart => exact ⟨0, by omega, by simp [cntS], rfl, ⟨Upd.refl _ _⟩⟩
  case round =>
    obtain ⟨i, hi, rfl, rfl, HU⟩ := hrel
    by_cases hlt : i < l.length
    · have hle := cntS_le cnt_Sent cnt_Sent_nn l i
      have hst := cntS_take cnt_Sent l i hlt
      have hle2 := cntS_le cnt_Sent cnt_Sent_nn l (i + 1)
      rw [hst] at hle2
      have HST := Sd.mk hst
      clear hst
      obtain ⟨ad, A2, c2, rfl, a0, a1, a2, a3, a4, a5, a6, hl2, hC2⟩ := ki_Sent_at (C_upd HU.out H.out) i (by rw [mkS_len]; exact hlt)
      rw [mkS_at mk_Sent cnt_Sent l k i hlt] at a0 a1 a2 a3 a4 a5 a6 hl2 hC2
      simp only [mk_Sent, mkS_len] at a0 a1 a2 a3 a4 a5 a6 hl2 hC2
      have nn2 := cntS_nn cnt_Value cnt_Value_nn l[i].Args
      simp only [cnt_Sent] at hle2
      generalize hq : k + cntS cnt_Sent (l.take i) = q at *
      have HQ := Sd.mk hq
      have hq0 : 0 ≤ q := by omega
      have hqb : q + (((((((0 + 1) + 1) + cntS cnt_Value l[i].Args) + 1) + 1) + 1) + 1) ≤ 4611686018427387904 := by omega
      clear hq hle hle2 hb
      generalize hcn2 : cntS cnt_Value l[i].Args = cn2 at *
      have HN2 := Sd.mk hcn2
      clear hcn2
      have HC2 := Sd.mk hC2
      clear hC2
      have HX := Sd.mk (Upd.refl No wr)
      go_wp2_with fail
      go_region_held3 (fun w' => w'.cell? ⟨(ad.add (i * 7)).block, (ad.add (i * 7)).off + 1, none⟩ = some (.string (mtx (q + 1)))) (first | exact a1 | exact hu_Name.read a1) (first | (go_at_call 109; (with_reducible refine (markText_c _ _ (by omega) (by omega)).mono ?_); rintro e w_Name ⟨rfl, hu_Name⟩))
      rename_i hH_Name
      clear hH_Name
      have HY : Sd (Upd No wr w_Name) := Sd.mk ((Upd.refl _ _).drew.then hu_Name)
      clear hu_Name
      replace a0 := HY.out.read a0
      replace a1 := HY.out.read a1
      replace a2 := HY.out.read a2
      replace a3 := HY.out.read a3
      replace a4 := HY.out.read a4
      replace a5 := HY.out.read a5
      replace a6 := HY.out.read a6
      replace HC2 := Sd.mk (C_upd HY.out HC2.out)
      replace HX := Sd.mk (HX.out.then HY.out)
      clear HY
      go_wp2_with fail
      with_reducible refine (heldS_Value l[i].Args _ _ _ _ ?hc_Args (by omega) (by rw [HN2.out]; omega)).mono ?_
      case hc_Args => exact HC2.out
      rintro e w_Args ⟨rfl, hu⟩
      rw [HN2.out]
      replace a0 := hu.read a0
      replace a1 := hu.read a1
      replace a2 := hu.read a2
      replace a3 := hu.read a3
      replace a4 := hu.read a4
      replace a5 := hu.read a5
      replace a6 := hu.read a6
      replace HC2 := Sd.mk (C_upd hu HC2.out)
      replace HX := Sd.mk (HX.out.then hu)
      clear hu
      go_wp2
      go_roundg (gk - 1)
      case measure => omega
      case rel => exact ⟨i + 1, by omega, by rw [HST.out]; simp only [cnt_Sent]; have := HQ.out; have := HN2.out; exact congrArg (Value.int .i64) (by omega), by go_num, ⟨HU.out.then HX.out⟩⟩
    · go_wp2
      go_ret
      have e : l.take i = l := List.take_of_length_le (by omega)
      exact ⟨ret_int (by rw [e]), HU.out⟩
end Go.Proofs.YtfnedoiplblldaaFam
