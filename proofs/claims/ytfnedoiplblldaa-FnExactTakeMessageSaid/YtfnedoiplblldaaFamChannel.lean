/- The contracts of the laws' own functions over Channel: to, sz, eq, mark, held. No conditions beyond the sizes that the contracts name. -/
import Derived.Test.YtfnedoiplblldaaProg
import Derived.Test.YtfnedoiplblldaaSep2
import Derived.Test.YtfnedoiplblldaaLst
import Derived.WalkKit
import Derived.KernelRfl
import Derived.RowKit3
import Derived.Deep.LoopGhost
import Derived.Deep.QuietTactic
import Derived.BigQuiet
import Derived.StillTailTactics
import Derived.Test.YtfnedoiplblldaaK
import Derived.Deep.RegionHeld3
import Derived.Test.YtfnedoiplblldaaFamWire
import Derived.Test.YtfnedoiplblldaaFamTag
import Derived.Test.YtfnedoiplblldaaFamMessage
import Derived.Test.YtfnedoiplblldaaFamText
namespace Go.Proofs.YtfnedoiplblldaaFam
open Go.RowKit Go.Proofs.YtfnedoiplblldaaSep Go.Proofs.YtfnedoiplblldaaT Go.Proofs.YtfnedoiplblldaaK
set_option linter.unusedVariables false
set_option linter.unusedSimpArgs false
theorem kl_Channel_Kmk (w : World) (x : GChannel) {A2 : Option Addr} {c2 : Nat} (hl2 : x.List.length ≤ c2) (hC2 : C kl_Message w A2 x.List) : kl_Channel.K w x [.int .i64 x.From, .int .i64 x.To, .slice A2 x.List.length c2] := ⟨[_], [_, _], rfl, rfl, ⟨[_], [_], rfl, rfl, ⟨A2, c2, rfl, hl2, hC2⟩⟩⟩
theorem ki_Channel_Kmk (w : World) (x : GChannel) {A2 : Option Addr} {c2 : Nat} (hl2 : x.List.length ≤ c2) (hC2 : C ki_Message w A2 x.List) : ki_Channel.K w x [.int .i64 x.From, .int .i64 x.To, .slice A2 x.List.length c2] := ⟨[_], [_, _], rfl, rfl, ⟨[_], [_], rfl, rfl, ⟨A2, c2, rfl, hl2, hC2⟩⟩⟩
set_option maxHeartbeats 1000000 in
set_option maxRecDepth 100000 in
theorem to_Channel (x : GChannel) (cs : List Value) (w : World) (h : kl_Channel.K w x cs) (hs : szn_Channel x ≤ 1048576) : Calls Try.prog 90 #[.agg cs.toArray] w (RetAgg ki_Channel x w) := by
  obtain ⟨A2, c2, rfl, hl2, hC2⟩ := kl_Channel_K h
  have HC2 := Sd.mk hC2
  clear hC2
  have s_List : sznS szn_Message x.List ≤ 1048576 := by unfold szn_Channel at hs; omega
  clear hs
  go_enter Try.func90, Try.ntmps90
  go_wp2_with fail
  with_reducible refine (toS_Message x.List _ _ _ ?hc_List s_List).mono ?_
  case hc_List => exact C_upd (by repeat (with_reducible first | exact Upd.refl _ _ | apply Upd.put2 | apply Upd.put1 | apply Upd.put0 | apply Upd.alloc | apply Upd.drewN | apply Upd.drew)) HC2.out
  rintro e w_List ⟨v2, rfl, hR2, hu⟩
  obtain ⟨B2, b2, rfl⟩ := R_slice hR2
  obtain ⟨P2, hR2', g2, l2⟩ := fresh_row hR2 (w.heap.size + 1 + 1 + 1) (by first | omega | (simp; done) | (simp; omega))
  have ge2 : ∀ b, P2 b → w.heap.size + 1 + 1 < b := fun b hb => by have := g2 b hb; omega
  have n1_2 : ¬ P2 (w.heap.size + 1) := fun q => by have := ge2 _ q; omega
  have n2_2 : ¬ P2 (w.heap.size + 1 + 1) := fun q => by have := ge2 _ q; omega
  have HR2 := Sd.mk hR2'
  have GE2 := Sd.mk ge2
  have LT2 := Sd.mk l2
  have GP2 := Sd.mk g2
  clear hR2 hR2' ge2 l2 g2
  have HB_List : Sd (Upd No w w_List) := Sd.mk (Upd.then (by repeat (with_reducible first | exact Upd.refl _ _ | apply Upd.put2 | apply Upd.put1 | apply Upd.put0 | apply Upd.alloc | apply Upd.drewN | apply Upd.drew)) hu)
  have cc0_List := fun o => hu.cellsF (b := w.heap.size) (by first | omega | (simp; done) | (simp; omega)) (fun q => q) o
  have cc1_List := fun o => hu.cellsF (b := w.heap.size + 1) (by first | omega | (simp; done) | (simp; omega)) (fun q => q) o
  have cf1_List := fun o => hu.frozenF (b := w.heap.size + 1) (by first | omega | (simp; done) | (simp; omega)) (fun q => q) o
  have cc2_List := fun o => hu.cellsF (b := w.heap.size + 1 + 1) (by first | omega | (simp; done) | (simp; omega)) (fun q => q) o
  have cf2_List := fun o => hu.frozenF (b := w.heap.size + 1 + 1) (by first | omega | (simp; done) | (simp; omega)) (fun q => q) o
  have hz_List : w.heap.size + 1 + 1 + 1 ≤ w_List.heap.size := by have := hu.size; (try simp at this); omega
  clear hu
  go_wp2
  refine bodyPost_ret (v := .agg #[.int .i64 x.From, .int .i64 x.To, .slice B2 x.List.length b2]) (by simp [results, Try.results90, go_sem, cc1_List]) rfl ⟨_, rfl, ?_, (by repeat (with_reducible first | exact HB_List.out | apply Upd.put2 | apply Upd.put1 | apply Upd.put0 | apply Upd.alloc | apply Upd.drewN | apply Upd.drew))⟩
  exact ki_Channel_mk _ _ _ (R_keep HR2.out (by repeat (with_reducible first | exact Upd.refl _ _ | apply Upd.putP n1_2 | apply Upd.putP n2_2 | apply Upd.alloc))) (fun k hk => by have := GE2.out k hk; simp only [New]; omega)
set_option maxHeartbeats 1000000 in
set_option maxRecDepth 100000 in
theorem toS_Channel (l : List GChannel) (A : Option Addr) (c : Nat) (w : World) (h : C kl_Channel w A l) (hs : sznS szn_Channel l ≤ 1048576) : Calls Try.prog 25 #[.slice A l.length c] w (RetRow ki_Channel 142 l w) := by
  have hn : l.length ≤ 1048576 := by unfold sznS at hs; omega
  have hmk := run_made (P := Try.prog) _ _ _ Try.underlying64 ki_Channel_info l.length hn (by decide)
  have H := Sd.mk h
  have HS := Sd.mk hs
  clear h hs
  go_enter Try.func25, Try.ntmps25
  go_wp2
  clear hmk
  have HR : Sd (R ki_Channel 142 (w.alloc (madeObj (.agg #[.int .i64 0, .int .i64 0, .slice none 0 0]) (l.length * 3) 142)) (New w) (.slice (some ⟨w.heap.size, 0, none⟩) l.length l.length) (List.replicate l.length zChannel)) := Sd.mk (R_made (d := ki_Channel) (e := 142) w (.agg #[.int .i64 0, .int .i64 0, .slice none 0 0]) zChannel rfl (by decide) ki_Channel_zero l.length hn)
  have HU := Sd.mk ((Upd.refl No w).alloc (madeObj (.agg #[.int .i64 0, .int .i64 0, .slice none 0 0]) (l.length * 3) 142))
  go_loopg [4] l.length (fun k v wr => ∃ i : Nat, i + k = l.length ∧ v = .int .i64 i ∧ Sd (R ki_Channel 142 wr (New w) (.slice (some ⟨w.heap.size, 0, none⟩) l.length l.length) (upTo l (List.replicate l.length zChannel) i)) ∧ Sd (Upd No w wr))
  case atStart => exact ⟨0, by omega, rfl, ⟨by rw [upTo_zero]; exact HR.out⟩, HU⟩
  case round =>
    clear HR HU
    obtain ⟨i, hi, rfl, HR, HU⟩ := hrel
    by_cases hlt : i < l.length
    · obtain ⟨ad, A2, c2, rfl, a0, a1, a2, hl2, hC2⟩ := kl_Channel_at (C_upd HU.out H.out) i hlt
      have HC2 := Sd.mk hC2
      clear hC2
      have hsi : szn_Channel l[i] ≤ 1048576 := by have := HS.out; have := sumS_at szn_Channel l i hlt; unfold sznS at *; omega
      go_wp2_with fail
      with_reducible refine (to_Channel l[i] _ _ (kl_Channel_Kmk _ _ hl2 HC2.out) hsi).mono ?_
      rintro e w1 ⟨cs, rfl, hM, hu⟩
      obtain ⟨v2, P2, rfl, hR2, i2⟩ := ki_Channel_M (ki_Channel.M_lt hM)
      obtain ⟨D2, d2, rfl⟩ := R_slice hR2
      have HRowA := R_upd hu (fun _ _ q => q) (R_lt HR.out)
      have HU1 := Sd.mk (HU.out.then hu)
      have hzw := HU.out.size
      have HR2 := Sd.mk hR2
      have I2 := Sd.mk i2
      clear HR HU hM hu hR2 i2
      obtain ⟨g, cap, cur, ce, Fi, hv, hcap, hat, hM, hg, hFi, hFg, close⟩ := R_elem HRowA 3 l.length rfl (by rw [upTo_len (by simp) (by simp; omega)]; simp) i zChannel (by rw [upTo_at (by simp) (by simpa using hlt)]; simp)
      cases hv
      obtain ⟨y2, _, rfl, -⟩ := ki_Channel_M hM
      have HAT := Sd.mk hat
      have x0 := hat.cell0 _ rfl
      have x1 := hat.cell 1 _ rfl
      have x2 := hat.cell 2 _ rfl
      have f0 := hat.free (i * 3)
      have f1 := hat.free (i * 3 + 1)
      have f2 := hat.free (i * 3 + 2)
      have CL := Sd.mk close
      clear hat close hM HRowA
      go_wp2
      have HA := ((HAT.out.set0 (by decide) (.int .i64 l[i].From)).set 1 (by decide) (.int .i64 l[i].To)).set 2 (by decide) (.slice D2 l[i].List.length d2)
      have hD2 : ∀ b, P2 b → ¬ (b = w.heap.size ∨ Fi b) := by
        intro b hb q
        have h1 := (I2.out b hb).1
        simp only [New] at h1
        rcases q with rfl | q
        · exact absurd hg.2 (by omega)
        · have h2 := (hFi b q).2
          omega
      have HM := ki_Channel_mk _ (fun b => P2 b) l[i] (R_upd HA.upd hD2 HR2.out) (fun k hk => hk)
      have hP1 : ∀ b, (P2 b) → New wr b := by
        intro b hb
        exact (I2.out b hb).1
      have HRowB := CL.out _ _ l[i] _ (New w) HA HM (fun b hb => .inr (fun q => by have h1 := hP1 b hb; have h2 := q.2; simp only [New] at h1; omega)) (fun _ q => q.1) (fun b hb => by have h1 := hP1 b hb; simp only [New] at h1 ⊢; omega)
      rw [upTo_set (by simp) (by simpa using hlt)] at HRowB
      go_roundg (gk - 1)
      case measure => omega
      case rel => exact ⟨i + 1, by omega, by go_num, ⟨HRowB⟩, ⟨by repeat (with_reducible first | exact HU1.out | apply Upd.put0)⟩⟩
    · go_wp2
      go_ret
      have HRowB := HR.out
      rw [upTo_end (by simp) (by simp; omega)] at HRowB
      exact ⟨_, rfl, HRowB, HU.out⟩
set_option maxHeartbeats 1000000 in
set_option maxRecDepth 100000 in
theorem sz_Channel (x : GChannel) (cs : List Value) (n : Int) (w : World) (h : kl_Channel.K w x cs) (hb : Bd_Channel x) (h0 : 0 ≤ n) (h1 : n ≤ 1048576) : Calls Try.prog 85 #[.agg cs.toArray, .int .i64 n] w (RetSz (szn_Channel x) n w) := by
  obtain ⟨A2, c2, rfl, hl2, hC2⟩ := kl_Channel_K h
  have HC2 := Sd.mk hC2
  clear hC2
  have b_List := hb
  unfold Bd_Channel at b_List
  have B_List := Sd.mk b_List
  clear b_List
  go_enter Try.func85, Try.ntmps85
  go_wp2_with fail
  with_reducible refine (szS_Message x.List _ _ _ _ ?hc_List B_List.out (by omega) (by omega)).mono ?_
  case hc_List => exact C_upd (by repeat (with_reducible first | exact Upd.refl _ _ | apply Upd.put2 | apply Upd.put1 | apply Upd.put0 | apply Upd.alloc | apply Upd.drewN | apply Upd.drew)) HC2.out
  rintro e w_List ⟨r_List, rfl, hr_List, hu⟩
  have HB_List : Sd (Upd No w w_List) := Sd.mk (Upd.then (by repeat (with_reducible first | exact Upd.refl _ _ | apply Upd.put2 | apply Upd.put1 | apply Upd.put0 | apply Upd.alloc | apply Upd.drewN | apply Upd.drew)) hu)
  have cc0_List := fun o => hu.cellsF (b := w.heap.size) (by first | omega | (simp; done) | (simp; omega)) (fun q => q) o
  have hz_List : w.heap.size + 1 ≤ w_List.heap.size := by have := hu.size; (try simp at this); omega
  clear hu
  rcases hr_List with ⟨q_List, rfl⟩ | ⟨q_List, rfl⟩
  case inr =>
    go_wp2
    go_ret
    exact ⟨_, rfl, .inr ⟨by unfold szn_Channel; omega, rfl⟩, (by repeat (with_reducible first | exact HB_List.out | apply Upd.put2 | apply Upd.put1 | apply Upd.put0 | apply Upd.alloc | apply Upd.drewN | apply Upd.drew))⟩
  go_wp2
  go_ret
  exact ⟨_, rfl, .inl ⟨by unfold szn_Channel; omega, by unfold szn_Channel; omega⟩, (by repeat (with_reducible first | exact HB_List.out | apply Upd.put2 | apply Upd.put1 | apply Upd.put0 | apply Upd.alloc | apply Upd.drewN | apply Upd.drew))⟩
set_option maxHeartbeats 1000000 in
set_option maxRecDepth 100000 in
theorem szS_Channel (l : List GChannel) (A : Option Addr) (c : Nat) (n : Int) (w : World) (h : C kl_Channel w A l) (hb : ∀ y ∈ l, Bd_Channel y) (h0 : 0 ≤ n) (h1 : n ≤ 1048576) : Calls Try.prog 23 #[.slice A l.length c, .int .i64 n] w (RetSz (sznS szn_Channel l) n w) := by
  have hn := h.1
  have H := Sd.mk h
  clear h
  have HBD := Sd.mk hb
  clear hb
  go_enter Try.func23, Try.ntmps23
  by_cases q0 : (l.length : Int) ≤ n
  case neg =>
    go_wp2
    go_ret
    exact ⟨_, rfl, .inr ⟨by unfold sznS; omega, rfl⟩, Upd.refl _ _⟩
  go_wp2
  go_loopg [1, 5] l.length (fun k u v wr => ∃ i : Nat, i + k = l.length ∧ (sumS szn_Channel (l.take i) : Int) ≤ n - l.length ∧ u = .int .i64 (n - l.length - sumS szn_Channel (l.take i)) ∧ v = .int .i64 i ∧ Sd (Upd No w wr))
  case atStart => exact ⟨0, by omega, by simp [sumS]; omega, by simp [sumS], rfl, ⟨Upd.refl _ _⟩⟩
  case round =>
    obtain ⟨i, hi, hle, rfl, rfl, HU⟩ := hrel
    by_cases hlt : i < l.length
    · obtain ⟨ad, A2, c2, rfl, a0, a1, a2, hl2, hC2⟩ := kl_Channel_at (C_upd HU.out H.out) i hlt
      have HC2 := Sd.mk hC2
      clear hC2
      have hst := sumS_step szn_Channel l i hlt
      have HST := Sd.mk (sumS_take szn_Channel l i hlt)
      generalize hs : sumS szn_Channel (l.take i) = s at *
      have HS := Sd.mk hs
      clear hs
      go_wp2_with fail
      with_reducible refine (sz_Channel l[i] _ _ _ (kl_Channel_Kmk _ _ hl2 HC2.out) (HBD.out _ (List.getElem_mem hlt)) (by omega) (by omega)).mono ?_
      rintro e w1 ⟨r, rfl, hr, hu⟩
      have HU1 := Sd.mk (HU.out.then hu)
      clear hu HU
      rcases hr with ⟨q, rfl⟩ | ⟨q, rfl⟩
      · go_wp2
        go_roundg (gk - 1)
        case measure => omega
        case rel => exact ⟨i + 1, by omega, by rw [HST.out]; omega, by rw [HST.out]; exact congrArg (Value.int .i64) (by omega), by go_num, HU1⟩
      · go_wp2
        go_ret
        exact ⟨_, rfl, .inr ⟨by unfold sznS; omega, rfl⟩, HU1.out⟩
    · go_wp2
      go_ret
      have e : l.take i = l := List.take_of_length_le (by omega)
      rw [e] at hle
      exact ⟨_, rfl, .inl ⟨by unfold sznS; omega, by rw [e]; unfold sznS; omega⟩, HU.out⟩
set_option maxHeartbeats 1000000 in
set_option maxRecDepth 100000 in
theorem eq_Channel (x : GChannel) (cs cs' : List Value) (w : World) (h : ki_Channel.K w x cs) (h' : ki_Channel.K w x cs') : Calls Try.prog 93 #[.agg cs.toArray, .agg cs'.toArray] w (RetBool true w) := by
  obtain ⟨A2, c2, rfl, hl2, hC2⟩ := ki_Channel_K h
  have HC2 := Sd.mk hC2
  clear hC2
  obtain ⟨B2, b2, rfl, hm2, hD2⟩ := ki_Channel_K h'
  have HD2 := Sd.mk hD2
  clear hD2
  go_enter Try.func93, Try.ntmps93
  go_wp2_with fail
  with_reducible refine (eqS_Message x.List _ _ _ _ _ ?hc_List ?hd_List).mono ?_
  case hc_List => exact C_upd (by repeat (with_reducible first | exact Upd.refl _ _ | apply Upd.put2 | apply Upd.put1 | apply Upd.put0 | apply Upd.alloc | apply Upd.drewN | apply Upd.drew)) HC2.out
  case hd_List => exact C_upd (by repeat (with_reducible first | exact Upd.refl _ _ | apply Upd.put2 | apply Upd.put1 | apply Upd.put0 | apply Upd.alloc | apply Upd.drewN | apply Upd.drew)) HD2.out
  rintro e w_List ⟨rfl, hu⟩
  have HB_List : Sd (Upd No w w_List) := Sd.mk (Upd.then (by repeat (with_reducible first | exact Upd.refl _ _ | apply Upd.put2 | apply Upd.put1 | apply Upd.put0 | apply Upd.alloc | apply Upd.drewN | apply Upd.drew)) hu)
  have cc0_List := fun o => hu.cellsF (b := w.heap.size) (by first | omega | (simp; done) | (simp; omega)) (fun q => q) o
  have cc1_List := fun o => hu.cellsF (b := w.heap.size + 1) (by first | omega | (simp; done) | (simp; omega)) (fun q => q) o
  have hz_List : w.heap.size + 1 + 1 ≤ w_List.heap.size := by have := hu.size; (try simp at this); omega
  clear hu
  go_wp2
  go_ret
  exact ⟨rfl, (by repeat (with_reducible first | exact HB_List.out | apply Upd.put2 | apply Upd.put1 | apply Upd.put0 | apply Upd.alloc | apply Upd.drewN | apply Upd.drew))⟩
set_option maxHeartbeats 1000000 in
set_option maxRecDepth 100000 in
theorem eqS_Channel (l : List GChannel) (A A' : Option Addr) (c c' : Nat) (w : World) (h : C ki_Channel w A l) (h' : C ki_Channel w A' l) : Calls Try.prog 27 #[.slice A l.length c, .slice A' l.length c'] w (RetBool true w) := by
  have hn := h.1
  have H := Sd.mk h
  have H' := Sd.mk h'
  clear h h'
  go_enter Try.func27, Try.ntmps27
  go_wp2
  go_loopg [5] l.length (fun k v wr => ∃ i : Nat, i + k = l.length ∧ v = .int .i64 i ∧ Sd (Upd No w wr))
  case atStart => exact ⟨0, by omega, rfl, ⟨Upd.refl _ _⟩⟩
  case round =>
    obtain ⟨i, hi, rfl, HU⟩ := hrel
    by_cases hlt : i < l.length
    · obtain ⟨ad, A2, c2, rfl, a0, a1, a2, hl2, hC2⟩ := ki_Channel_at (C_upd HU.out H.out) i hlt
      obtain ⟨ad', B2, b2, rfl, z0, z1, z2, hm2, hD2⟩ := ki_Channel_at (C_upd HU.out H'.out) i hlt
      have HC2 := Sd.mk hC2
      have HD2 := Sd.mk hD2
      clear hC2 hD2
      go_wp2_with fail
      go_still_tail 8, (by kernel_rfl)
      change wpList _ _ _ _ _ wr.drew
      have HW : Sd (Upd No wr wr.drew) := ⟨(Upd.refl _ _).drew⟩
      have HU2 : Sd (Upd No w wr.drew) := ⟨HU.out.drew⟩
      generalize wr.drew = w2 at *
      go_wp2_with (go_at_call 93; (with_reducible refine (eq_Channel l[i] _ _ _ (ki_Channel_Kmk _ _ hl2 (C_upd HW.out HC2.out)) (ki_Channel_Kmk _ _ hm2 (C_upd HW.out HD2.out))).mono ?_); rintro e w' ⟨rfl, hu⟩)
      have HU3 := Sd.mk (HU2.out.then hu)
      clear HU2 hu
      go_wp2
      go_roundg (gk - 1)
      case measure => omega
      case rel => exact ⟨i + 1, by omega, by go_num, HU3⟩
    · go_wp2
      go_ret
      exact ⟨rfl, HU.out⟩
set_option maxHeartbeats 1000000 in
set_option maxRecDepth 100000 in
theorem markS_Channel (l : List GChannel) (k : Int) (F : Nat → Prop) (v : Value) (w : World) (h : R ki_Channel 142 w F v l) (hk : 0 ≤ k) (hb : k + cntS cnt_Channel l ≤ 4611686018427387904) : Calls Try.prog 29 #[v, .int .i64 k] w (Marks ki_Channel 142 F v (k + cntS cnt_Channel l) (mkS mk_Channel cnt_Channel k l) w) := by
  obtain ⟨A, c, rfl⟩ := R_slice h
  have hn := R_len h
  have H := Sd.mk h
  clear h
  go_enter Try.func29, Try.ntmps29
  go_wp2
  go_loopg [1, 5] l.length (fun r u v wr => ∃ i : Nat, i + r = l.length ∧ u = .int .i64 (k + cntS cnt_Channel (l.take i)) ∧ v = .int .i64 i ∧ Sd (R ki_Channel 142 wr F (.slice A l.length c) (upTo (mkS mk_Channel cnt_Channel k l) l i)) ∧ Sd (Upd F w wr))
  case atStart => exact ⟨0, by omega, by simp [cntS], rfl, ⟨by rw [upTo_zero]; exact H.out⟩, ⟨Upd.refl _ _⟩⟩
  case round =>
    obtain ⟨i, hi, rfl, rfl, HR, HU⟩ := hrel
    by_cases hlt : i < l.length
    · have hle := cntS_le cnt_Channel cnt_Channel_nn l i
      have hst := cntS_take cnt_Channel l i hlt
      have hle2 := cntS_le cnt_Channel cnt_Channel_nn l (i + 1)
      rw [hst] at hle2
      have HST := Sd.mk hst
      clear hst
      have HMA := Sd.mk (mkS_at mk_Channel cnt_Channel l k i hlt)
      obtain ⟨g, cap, cur, ce, Fi, hv, hcap, hat, hM, hg, hFi, hFg, close⟩ := R_elem HR.out 3 l.length rfl (upTo_len (mkS_len _ _ _ _) (by omega)) i l[i] (upTo_at (mkS_len _ _ _ _) hlt)
      cases hv
      obtain ⟨v2, P2, rfl, hR2, i2⟩ := ki_Channel_M hM
      obtain ⟨B2, b2, rfl⟩ := R_slice hR2
      have HR2 := Sd.mk hR2
      have I2 := Sd.mk i2
      have N2 : ¬ P2 g := fun q => hFg (i2 g q)
      clear hR2 i2
      have nn2 := cntS_nn cnt_Message cnt_Message_nn l[i].List
      have HCN : Sd (cnt_Channel l[i] = cnt_Channel l[i]) := ⟨rfl⟩
      simp only [cnt_Channel] at hle2
      generalize hq : k + cntS cnt_Channel (l.take i) = q at *
      have HQ := Sd.mk hq
      have hq0 : 0 ≤ q := by omega
      have hqb : q + (((0 + 1) + 1) + cntS cnt_Message l[i].List) ≤ 4611686018427387904 := by omega
      clear hq hle hle2 hb
      generalize hcn2 : cntS cnt_Message l[i].List = cn2 at *
      have HC2 := Sd.mk hcn2
      clear hcn2
      have HAT := Sd.mk hat
      have x0_s := hat.cell0 _ rfl
      have x1_s := hat.cell 1 _ rfl
      have x2_s := hat.cell 2 _ rfl
      have f0_s := hat.free (i * 3)
      have f1_s := hat.free (i * 3 + 1)
      have f2_s := hat.free (i * 3 + 2)
      have CL := Sd.mk close
      clear hat close hM HR
      go_wp2_with fail
      with_reducible refine (markS_Message l[i].List _ P2 _ _ ?hr_List (by omega) (by rw [HC2.out]; omega)).mono ?_
      case hr_List => exact (R_upd (G := fun b => b = g) (by repeat (with_reducible first | exact Upd.refl _ _ | apply Upd.setg)) (fun b hb hg' => N2 (hg' ▸ hb)) HR2.out)
      rintro e w_List ⟨rfl, hR2, hu⟩
      rw [HC2.out]
      replace HR2 := Sd.mk hR2
      replace HAT := Sd.mk (((HAT.out.set0 (by decide) (.int .i64 (q))).set 1 (by decide) (.int .i64 ((q + 1)))).call hu I2.out hFg)
      clear hR2
      clear hu x0_s f0_s x1_s f1_s x2_s f2_s
      have x0_List := HAT.out.cell0 _ rfl
      have x1_List := HAT.out.cell 1 _ rfl
      have x2_List := HAT.out.cell 2 _ rfl
      have f0_List := HAT.out.free (i * 3)
      have f1_List := HAT.out.free (i * 3 + 1)
      have f2_List := HAT.out.free (i * 3 + 2)
      go_wp2
      have HA := HAT.out
      have hy : (⟨q, (q + 1), mkS mk_Message cnt_Message ((q + 1) + 1) l[i].List⟩ : GChannel) = (mkS mk_Channel cnt_Channel k l)[i]'(by rw [mkS_len]; exact hlt) := by rw [HMA.out]; simp only [mk_Channel, HC2.out]
      have HRowB := CL.out _ _ (⟨q, (q + 1), mkS mk_Message cnt_Message ((q + 1) + 1) l[i].List⟩ : GChannel) Fi F HA (ki_Channel_mk _ Fi (⟨q, (q + 1), mkS mk_Message cnt_Message ((q + 1) + 1) l[i].List⟩ : GChannel) (R_upd (G := fun b => b = g) (by repeat (with_reducible first | exact Upd.refl _ _ | apply Upd.setg)) (fun b hb hg' => N2 (hg' ▸ hb)) HR2.out) I2.out) (fun _ hb => .inl hb) (fun _ hb => hb) hFi
      rw [hy, upTo_set (mkS_len _ _ _ _) hlt] at HRowB
      go_roundg (gk - 1)
      case measure => omega
      case rel => exact ⟨i + 1, by omega, by rw [HST.out]; simp only [cnt_Channel]; have := HQ.out; have := HC2.out; exact congrArg (Value.int .i64) (by omega), by go_num, ⟨HRowB⟩, ⟨HU.out.trans HA.upd (fun _ _ hb => hb) (fun b _ hb => by rcases hb with rfl | hb; exact hg; exact hFi b hb)⟩⟩
    · go_wp2
      go_ret
      have HRowB := HR.out
      rw [upTo_end (mkS_len _ _ _ _) (by omega)] at HRowB
      have e : l.take i = l := List.take_of_length_le (by omega)
      exact ⟨ret_int (by rw [e]), HRowB, HU.out⟩
set_option maxHeartbeats 1000000 in
set_option maxRecDepth 100000 in
theorem heldS_Channel (l : List GChannel) (k : Int) (A : Option Addr) (c : Nat) (w : World) (h : C ki_Channel w A (mkS mk_Channel cnt_Channel k l)) (hk : 0 ≤ k) (hb : k + cntS cnt_Channel l ≤ 4611686018427387904) : Calls Try.prog 31 #[.slice A l.length c, .int .i64 k] w (RetInt (k + cntS cnt_Channel l) w) := by
  have hn := h.1
  rw [mkS_len] at hn
  have H := Sd.mk h
  clear h
  go_enter Try.func31, Try.ntmps31
  go_wp2
  go_loopg [1, 5] l.length (fun r u v wr => ∃ i : Nat, i + r = l.length ∧ u = .int .i64 (k + cntS cnt_Channel (l.take i)) ∧ v = .int .i64 i ∧ Sd (Upd No w wr))
  case atStart => exact ⟨0, by omega, by simp [cntS], rfl, ⟨Upd.refl _ _⟩⟩
  case round =>
    obtain ⟨i, hi, rfl, rfl, HU⟩ := hrel
    by_cases hlt : i < l.length
    · have hle := cntS_le cnt_Channel cnt_Channel_nn l i
      have hst := cntS_take cnt_Channel l i hlt
      have hle2 := cntS_le cnt_Channel cnt_Channel_nn l (i + 1)
      rw [hst] at hle2
      have HST := Sd.mk hst
      clear hst
      obtain ⟨ad, A2, c2, rfl, a0, a1, a2, hl2, hC2⟩ := ki_Channel_at (C_upd HU.out H.out) i (by rw [mkS_len]; exact hlt)
      rw [mkS_at mk_Channel cnt_Channel l k i hlt] at a0 a1 a2 hl2 hC2
      simp only [mk_Channel, mkS_len] at a0 a1 a2 hl2 hC2
      have nn2 := cntS_nn cnt_Message cnt_Message_nn l[i].List
      simp only [cnt_Channel] at hle2
      generalize hq : k + cntS cnt_Channel (l.take i) = q at *
      have HQ := Sd.mk hq
      have hq0 : 0 ≤ q := by omega
      have hqb : q + (((0 + 1) + 1) + cntS cnt_Message l[i].List) ≤ 4611686018427387904 := by omega
      clear hq hle hle2 hb
      generalize hcn2 : cntS cnt_Message l[i].List = cn2 at *
      have HN2 := Sd.mk hcn2
      clear hcn2
      have HC2 := Sd.mk hC2
      clear hC2
      have HX := Sd.mk (Upd.refl No wr)
      go_wp2_with fail
      with_reducible refine (heldS_Message l[i].List _ _ _ _ ?hc_List (by omega) (by rw [HN2.out]; omega)).mono ?_
      case hc_List => exact HC2.out
      rintro e w_List ⟨rfl, hu⟩
      rw [HN2.out]
      replace a0 := hu.read a0
      replace a1 := hu.read a1
      replace a2 := hu.read a2
      replace HC2 := Sd.mk (C_upd hu HC2.out)
      replace HX := Sd.mk (HX.out.then hu)
      clear hu
      go_wp2
      go_roundg (gk - 1)
      case measure => omega
      case rel => exact ⟨i + 1, by omega, by rw [HST.out]; simp only [cnt_Channel]; have := HQ.out; have := HN2.out; exact congrArg (Value.int .i64) (by omega), by go_num, ⟨HU.out.then HX.out⟩⟩
    · go_wp2
      go_ret
      have e : l.take i = l := List.take_of_length_le (by omega)
      exact ⟨ret_int (by rw [e]), HU.out⟩
end Go.Proofs.YtfnedoiplblldaaFam
