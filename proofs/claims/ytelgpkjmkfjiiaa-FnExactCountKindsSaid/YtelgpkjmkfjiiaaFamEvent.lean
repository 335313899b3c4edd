/- The contracts of the laws' own functions over Event: to, sz, eq, mark, held. No conditions beyond the sizes that the contracts name. -/
import Derived.Test.YtelgpkjmkfjiiaaProg
import Derived.Test.YtelgpkjmkfjiiaaSep2
import Derived.Test.YtelgpkjmkfjiiaaLst
import Derived.WalkKit
import Derived.KernelRfl
import Derived.RowKit3
import Derived.Deep.LoopGhost
import Derived.Deep.QuietTactic
import Derived.BigQuiet
import Derived.StillTailTactics
import Derived.Test.YtelgpkjmkfjiiaaK
import Derived.Deep.RegionHeld3
import Derived.Test.YtelgpkjmkfjiiaaFamValue
namespace Go.Proofs.YtelgpkjmkfjiiaaFam
open Go.RowKit Go.Proofs.YtelgpkjmkfjiiaaSep Go.Proofs.YtelgpkjmkfjiiaaT Go.Proofs.YtelgpkjmkfjiiaaK
set_option linter.unusedVariables false
set_option linter.unusedSimpArgs false
theorem kl_Event_Kmk (w : World) (x : GEvent) {A5 : Option Addr} {c5 : Nat} (hl5 : x.Args.length ≤ c5) (hC5 : C kl_Value w A5 x.Args) : kl_Event.K w x [.int .i64 x.Kind, .int .i64 x.A, .int .i64 x.B, .int .i64 x.N, .string x.Name, .slice A5 x.Args.length c5] := ⟨[_], [_, _, _, _, _], rfl, rfl, ⟨[_], [_, _, _, _], rfl, rfl, ⟨[_], [_, _, _], rfl, rfl, ⟨[_], [_, _], rfl, rfl, ⟨[_], [_], rfl, rfl, ⟨A5, c5, rfl, hl5, hC5⟩⟩⟩⟩⟩⟩
theorem ki_Event_Kmk (w : World) (x : GEvent) {A5 : Option Addr} {c5 : Nat} (hl5 : x.Args.length ≤ c5) (hC5 : C ki_Value w A5 x.Args) : ki_Event.K w x [.int .i64 x.Kind, .int .i64 x.A, .int .i64 x.B, .int .i64 x.N, .string x.Name, .slice A5 x.Args.length c5] := ⟨[_], [_, _, _, _, _], rfl, rfl, ⟨[_], [_, _, _, _], rfl, rfl, ⟨[_], [_, _, _], rfl, rfl, ⟨[_], [_, _], rfl, rfl, ⟨[_], [_], rfl, rfl, ⟨A5, c5, rfl, hl5, hC5⟩⟩⟩⟩⟩⟩
set_option maxHeartbeats 1000000 in
set_option maxRecDepth 100000 in
theorem to_Event (x : GEvent) (cs : List Value) (w : World) (h : kl_Event.K w x cs) (hs : szn_Event x ≤ 1048576) : Calls Try.prog 39 #[.agg cs.toArray] w (RetAgg ki_Event x w) := by
  obtain ⟨A5, c5, rfl, hl5, hC5⟩ := kl_Event_K h
  have HC5 := Sd.mk hC5
  clear hC5
  have s_Args : sznS szn_Value x.Args ≤ 1048576 := by unfold szn_Event at hs; omega
  clear hs
  go_enter Try.func39, Try.ntmps39
  go_wp2_with fail
  with_reducible refine (toS_Value x.Args _ _ _ ?hc_Args s_Args).mono ?_
  case hc_Args => exact C_upd (by repeat (with_reducible first | exact Upd.refl _ _ | apply Upd.put2 | apply Upd.put1 | apply Upd.put0 | apply Upd.alloc | apply Upd.drewN | apply Upd.drew)) HC5.out
  rintro e w_Args ⟨v5, rfl, hR5, hu⟩
  obtain ⟨B5, b5, rfl⟩ := R_slice hR5
  obtain ⟨P5, hR5', g5, l5⟩ := fresh_row hR5 (w.heap.size + 1 + 1 + 1) (by first | omega | (simp; done) | (simp; omega))
  have ge5 : ∀ b, P5 b → w.heap.size + 1 + 1 < b := fun b hb => by have := g5 b hb; omega
  have n1_5 : ¬ P5 (w.heap.size + 1) := fun q => by have := ge5 _ q; omega
  have n2_5 : ¬ P5 (w.heap.size + 1 + 1) := fun q => by have := ge5 _ q; omega
  have HR5 := Sd.mk hR5'
  have GE5 := Sd.mk ge5
  have LT5 := Sd.mk l5
  have GP5 := Sd.mk g5
  clear hR5 hR5' ge5 l5 g5
  have HB_Args : Sd (Upd No w w_Args) := Sd.mk (Upd.then (by repeat (with_reducible first | exact Upd.refl _ _ | apply Upd.put2 | apply Upd.put1 | apply Upd.put0 | apply Upd.alloc | apply Upd.drewN | apply Upd.drew)) hu)
  have cc0_Args := fun o => hu.cellsF (b := w.heap.size) (by first | omega | (simp; done) | (simp; omega)) (fun q => q) o
  have cc1_Args := fun o => hu.cellsF (b := w.heap.size + 1) (by first | omega | (simp; done) | (simp; omega)) (fun q => q) o
  have cf1_Args := fun o => hu.frozenF (b := w.heap.size + 1) (by first | omega | (simp; done) | (simp; omega)) (fun q => q) o
  have cc2_Args := fun o => hu.cellsF (b := w.heap.size + 1 + 1) (by first | omega | (simp; done) | (simp; omega)) (fun q => q) o
  have cf2_Args := fun o => hu.frozenF (b := w.heap.size + 1 + 1) (by first | omega | (simp; done) | (simp; omega)) (fun q => q) o
  have hz_Args : w.heap.size + 1 + 1 + 1 ≤ w_Args.heap.size := by have := hu.size; (try simp at this); omega
  clear hu
  go_wp2
  refine bodyPost_ret (v := .agg #[.int .i64 x.Kind, .int .i64 x.A, .int .i64 x.B, .int .i64 x.N, .string x.Name, .slice B5 x.Args.length b5]) (by simp [results, Try.results39, go_sem, cc1_Args]) rfl ⟨_, rfl, ?_, (by repeat (with_reducible first | exact HB_Args.out | apply Upd.put2 | apply Upd.put1 | apply Upd.put0 | apply Upd.alloc | apply Upd.drewN | apply Upd.drew))⟩
  exact ki_Event_mk _ _ _ (R_keep HR5.out (by repeat (with_reducible first | exact Upd.refl _ _ | apply Upd.putP n1_5 | apply Upd.putP n2_5 | apply Upd.alloc))) (fun k hk => by have := GE5.out k hk; simp only [New]; omega)
set_option maxHeartbeats 1000000 in
set_option maxRecDepth 100000 in
theorem toS_Event (l : List GEvent) (A : Option Addr) (c : Nat) (w : World) (h : C kl_Event w A l) (hs : sznS szn_Event l ≤ 1048576) : Calls Try.prog 29 #[.slice A l.length c] w (RetRow ki_Event 69 l w) := by
  have hn : l.length ≤ 1048576 := by unfold sznS at hs; omega
  have hmk := run_made (P := Try.prog) _ _ _ Try.underlying50 ki_Event_info l.length hn (by decide)
  have H := Sd.mk h
  have HS := Sd.mk hs
  clear h hs
  go_enter Try.func29, Try.ntmps29
  go_wp2
  clear hmk
  have HR : Sd (R ki_Event 69 (w.alloc (madeObj (.agg #[.int .i64 0, .int .i64 0, .int .i64 0, .int .i64 0, .string ⟨#[]⟩, .slice none 0 0]) (l.length * 6) 69)) (New w) (.slice (some ⟨w.heap.size, 0, none⟩) l.length l.length) (List.replicate l.length zEvent)) := Sd.mk (R_made (d := ki_Event) (e := 69) w (.agg #[.int .i64 0, .int .i64 0, .int .i64 0, .int .i64 0, .string ⟨#[]⟩, .slice none 0 0]) zEvent rfl (by decide) ki_Event_zero l.length hn)
  have HU := Sd.mk ((Upd.refl No w).alloc (madeObj (.agg #[.int .i64 0, .int .i64 0, .int .i64 0, .int .i64 0, .string ⟨#[]⟩, .slice none 0 0]) (l.length * 6) 69))
  go_loopg [4] l.length (fun k v wr => ∃ i : Nat, i + k = l.length ∧ v = .int .i64 i ∧ Sd (R ki_Event 69 wr (New w) (.slice (some ⟨w.heap.size, 0, none⟩) l.length l.length) (upTo l (List.replicate l.length zEvent) i)) ∧ Sd (Upd No w wr))
  case atStart => exact ⟨0, by omega, rfl, ⟨by rw [upTo_zero]; exact HR.out⟩, HU⟩
  case round =>
    clear HR HU
    obtain ⟨i, hi, rfl, HR, HU⟩ := hrel
    by_cases hlt : i < l.length
    · obtain ⟨ad, A5, c5, rfl, a0, a1, a2, a3, a4, a5, hl5, hC5⟩ := kl_Event_at (C_upd HU.out H.out) i hlt
      have HC5 := Sd.mk hC5
      clear hC5
      have hsi : szn_Event l[i] ≤ 1048576 := by have := HS.out; have := sumS_at szn_Event l i hlt; unfold sznS at *; omega
      go_wp2_with fail
      with_reducible refine (to_Event l[i] _ _ (kl_Event_Kmk _ _ hl5 HC5.out) hsi).mono ?_
      rintro e w1 ⟨cs, rfl, hM, hu⟩
      obtain ⟨v5, P5, rfl, hR5, i5⟩ := ki_Event_M (ki_Event.M_lt hM)
      obtain ⟨D5, d5, rfl⟩ := R_slice hR5
      have HRowA := R_upd hu (fun _ _ q => q) (R_lt HR.out)
      have HU1 := Sd.mk (HU.out.then hu)
      have hzw := HU.out.size
      have HR5 := Sd.mk hR5
      have I5 := Sd.mk i5
      clear HR HU hM hu hR5 i5
      obtain ⟨g, cap, cur, ce, Fi, hv, hcap, hat, hM, hg, hFi, hFg, close⟩ := R_elem HRowA 6 l.length rfl (by rw [upTo_len (by simp) (by simp; omega)]; simp) i zEvent (by rw [upTo_at (by simp) (by simpa using hlt)]; simp)
      cases hv
      obtain ⟨y5, _, rfl, -⟩ := ki_Event_M hM
      have HAT := Sd.mk hat
      have x0 := hat.cell0 _ rfl
      have x1 := hat.cell 1 _ rfl
      have x2 := hat.cell 2 _ rfl
      have x3 := hat.cell 3 _ rfl
      have x4 := hat.cell 4 _ rfl
      have x5 := hat.cell 5 _ rfl
      have f0 := hat.free (i * 6)
      have f1 := hat.free (i * 6 + 1)
      have f2 := hat.free (i * 6 + 2)
      have f3 := hat.free (i * 6 + 3)
      have f4 := hat.free (i * 6 + 4)
      have f5 := hat.free (i * 6 + 5)
      have CL := Sd.mk close
      clear hat close hM HRowA
      go_wp2
      have HA := (((((HAT.out.set0 (by decide) (.int .i64 l[i].Kind)).set 1 (by decide) (.int .i64 l[i].A)).set 2 (by decide) (.int .i64 l[i].B)).set 3 (by decide) (.int .i64 l[i].N)).set 4 (by decide) (.string l[i].Name)).set 5 (by decide) (.slice D5 l[i].Args.length d5)
      have hD5 : ∀ b, P5 b → ¬ (b = w.heap.size ∨ Fi b) := by
        intro b hb q
        have h1 := (I5.out b hb).1
        simp only [New] at h1
        rcases q with rfl | q
        · exact absurd hg.2 (by omega)
        · have h2 := (hFi b q).2
          omega
      have HM := ki_Event_mk _ (fun b => P5 b) l[i] (R_upd HA.upd hD5 HR5.out) (fun k hk => hk)
      have hP1 : ∀ b, (P5 b) → New wr b := by
        intro b hb
        exact (I5.out b hb).1
      have HRowB := CL.out _ _ l[i] _ (New w) HA HM (fun b hb => .inr (fun q => by have h1 := hP1 b hb; have h2 := q.2; simp only [New] at h1; omega)) (fun _ q => q.1) (fun b hb => by have h1 := hP1 b hb; simp only [New] at h1 ⊢; omega)
      rw [upTo_set (by simp) (by simpa using hlt)] at HRowB
      go_roundg (gk - 1)
      case measure => omega
      case rel => exact ⟨i + 1, by omega, by go_num, ⟨HRowB⟩, ⟨by repeat (with_reducible first | exact HU1.out | apply Upd.put0)⟩⟩
    · go_wp2
      go_ret
      have HRowB := HR.out
      rw [upTo_end (by simp) (by simp; omega)] at HRowB
      exact ⟨_, rfl, HRowB, HU.out⟩
set_option maxHeartbeats 1000000 in
set_option maxRecDepth 100000 in
theorem sz_Event (x : GEvent) (cs : List Value) (n : Int) (w : World) (h : kl_Event.K w x cs) (hb : Bd_Event x) (h0 : 0 ≤ n) (h1 : n ≤ 1048576) : Calls Try.prog 38 #[.agg cs.toArray, .int .i64 n] w (RetSz (szn_Event x) n w) := by
  obtain ⟨A5, c5, rfl, hl5, hC5⟩ := kl_Event_K h
  have HC5 := Sd.mk hC5
  clear hC5
  have b_Name := hb
  unfold Bd_Event at b_Name
  go_enter Try.func38, Try.ntmps38
  by_cases q_Name : ((x.Name.size : Nat) : Int) ≤ n
  case neg =>
    go_wp2
    go_ret
    exact ⟨_, rfl, .inr ⟨by unfold szn_Event; omega, rfl⟩, (by repeat (with_reducible first | exact Upd.refl _ _ | apply Upd.put2 | apply Upd.put1 | apply Upd.put0 | apply Upd.alloc | apply Upd.drewN | apply Upd.drew))⟩
  go_wp2_with fail
  with_reducible refine (szS_Value x.Args _ _ _ _ ?hc_Args (by omega) (by omega)).mono ?_
  case hc_Args => exact C_upd (by repeat (with_reducible first | exact Upd.refl _ _ | apply Upd.put2 | apply Upd.put1 | apply Upd.put0 | apply Upd.alloc | apply Upd.drewN | apply Upd.drew)) HC5.out
  rintro e w_Args ⟨r_Args, rfl, hr_Args, hu⟩
  have HB_Args : Sd (Upd No w w_Args) := Sd.mk (Upd.then (by repeat (with_reducible first | exact Upd.refl _ _ | apply Upd.put2 | apply Upd.put1 | apply Upd.put0 | apply Upd.alloc | apply Upd.drewN | apply Upd.drew)) hu)
  have cc0_Args := fun o => hu.cellsF (b := w.heap.size) (by first | omega | (simp; done) | (simp; omega)) (fun q => q) o
  have hz_Args : w.heap.size + 1 ≤ w_Args.heap.size := by have := hu.size; (try simp at this); omega
  clear hu
  rcases hr_Args with ⟨q_Args, rfl⟩ | ⟨q_Args, rfl⟩
  case inr =>
    go_wp2
    go_ret
    exact ⟨_, rfl, .inr ⟨by unfold szn_Event; omega, rfl⟩, (by repeat (with_reducible first | exact HB_Args.out | apply Upd.put2 | apply Upd.put1 | apply Upd.put0 | apply Upd.alloc | apply Upd.drewN | apply Upd.drew))⟩
  go_wp2
  go_ret
  exact ⟨_, rfl, .inl ⟨by unfold szn_Event; omega, by unfold szn_Event; omega⟩, (by repeat (with_reducible first | exact HB_Args.out | apply Upd.put2 | apply Upd.put1 | apply Upd.put0 | apply Upd.alloc | apply Upd.drewN | apply Upd.drew))⟩
set_option maxHeartbeats 1000000 in
set_option maxRecDepth 100000 in
theorem szS_Event (l : List GEvent) (A : Option Addr) (c : Nat) (n : Int) (w : World) (h : C kl_Event w A l) (hb : ∀ y ∈ l, Bd_Event y) (h0 : 0 ≤ n) (h1 : n ≤ 1048576) : Calls Try.prog 27 #[.slice A l.length c, .int .i64 n] w (RetSz (sznS szn_Event l) n w) := by
  have hn := h.1
  have H := Sd.mk h
  clear h
  have HBD := Sd.mk hb
  clear hb
  go_enter Try.func27, Try.ntmps27
  by_cases q0 : (l.length : Int) ≤ n
  case neg =>
    go_wp2
    go_ret
    exact ⟨_, rfl, .inr ⟨by unfold sznS; omega, rfl⟩, Upd.refl _ _⟩
  go_wp2
  go_loopg [1, 5] l.length (fun k u v wr => ∃ i : Nat, i + k = l.length ∧ (sumS szn_Event (l.take i) : Int) ≤ n - l.length ∧ u = .int .i64 (n - l.length - sumS szn_Event (l.take i)) ∧ v = .int .i64 i ∧ Sd (Upd No w wr))
  case atStart => exact ⟨0, by omega, by simp [sumS]; omega, by simp [sumS], rfl, ⟨Upd.refl _ _⟩⟩
  case round =>
    obtain ⟨i, hi, hle, rfl, rfl, HU⟩ := hrel
    by_cases hlt : i < l.length
    · obtain ⟨ad, A5, c5, rfl, a0, a1, a2, a3, a4, a5, hl5, hC5⟩ := kl_Event_at (C_upd HU.out H.out) i hlt
      have HC5 := Sd.mk hC5
      clear hC5
      have hst := sumS_step szn_Event l i hlt
      have HST := Sd.mk (sumS_take szn_Event l i hlt)
      generalize hs : sumS szn_Event (l.take i) = s at *
      have HS := Sd.mk hs
      clear hs
      go_wp2_with fail
      with_reducible refine (sz_Event l[i] _ _ _ (kl_Event_Kmk _ _ hl5 HC5.out) (HBD.out _ (List.getElem_mem hlt)) (by omega) (by omega)).mono ?_
      rintro e w1 ⟨r, rfl, hr, hu⟩
      have HU1 := Sd.mk (HU.out.then hu)
      clear hu HU
      rcases hr with ⟨q, rfl⟩ | ⟨q, rfl⟩
      · go_wp2
        go_roundg (gk - 1)
        case measure => omega
        case rel => exact ⟨i + 1, by omega, by rw [HST.out]; omega, by rw [HST.out]; exact congrArg (Value.int .i64) (by omega), by go_num, HU1⟩
      · go_wp2
        go_ret
        exact ⟨_, rfl, .inr ⟨by unfold sznS; omega, rfl⟩, HU1.out⟩
    · go_wp2
      go_ret
      have e : l.take i = l := List.take_of_length_le (by omega)
      rw [e] at hle
      exact ⟨_, rfl, .inl ⟨by unfold sznS; omega, by rw [e]; unfold sznS; omega⟩, HU.out⟩
set_option maxHeartbeats 1000000 in
set_option maxRecDepth 100000 in
theorem eq_Event (x : GEvent) (cs cs' : List Value) (w : World) (h : ki_Event.K w x cs) (h' : ki_Event.K w x cs') : Calls Try.prog 40 #[.agg cs.toArray, .agg cs'.toArray] w (RetBool true w) := by
  obtain ⟨A5, c5, rfl, hl5, hC5⟩ := ki_Event_K h
  have HC5 := Sd.mk hC5
  clear hC5
  obtain ⟨B5, b5, rfl, hm5, hD5⟩ := ki_Event_K h'
  have HD5 := Sd.mk hD5
  clear hD5
  go_enter Try.func40, Try.ntmps40
  go_wp2_with fail
  with_reducible refine (eqS_Value x.Args _ _ _ _ _ ?hc_Args ?hd_Args).mono ?_
  case hc_Args => exact C_upd (by repeat (with_reducible first | exact Upd.refl _ _ | apply Upd.put2 | apply Upd.put1 | apply Upd.put0 | apply Upd.alloc | apply Upd.drewN | apply Upd.drew)) HC5.out
  case hd_Args => exact C_upd (by repeat (with_reducible first | exact Upd.refl _ _ | apply Upd.put2 | apply Upd.put1 | apply Upd.put0 | apply Upd.alloc | apply Upd.drewN | apply Upd.drew)) HD5.out
  rintro e w_Args ⟨rfl, hu⟩
  have HB_Args : Sd (Upd No w w_Args) := Sd.mk (Upd.then (by repeat (with_reducible first | exact Upd.refl _ _ | apply Upd.put2 | apply Upd.put1 | apply Upd.put0 | apply Upd.alloc | apply Upd.drewN | apply Upd.drew)) hu)
  have cc0_Args := fun o => hu.cellsF (b := w.heap.size) (by first | omega | (simp; done) | (simp; omega)) (fun q => q) o
  have cc1_Args := fun o => hu.cellsF (b := w.heap.size + 1) (by first | omega | (simp; done) | (simp; omega)) (fun q => q) o
  have hz_Args : w.heap.size + 1 + 1 ≤ w_Args.heap.size := by have := hu.size; (try simp at this); omega
  clear hu
  go_wp2
  go_ret
  exact ⟨rfl, (by repeat (with_reducible first | exact HB_Args.out | apply Upd.put2 | apply Upd.put1 | apply Upd.put0 | apply Upd.alloc | apply Upd.drewN | apply Upd.drew))⟩
set_option maxHeartbeats 1000000 in
set_option maxRecDepth 100000 in
theorem eqS_Event (l : List GEvent) (A A' : Option Addr) (c c' : Nat) (w : World) (h : C ki_Event w A l) (h' : C ki_Event w A' l) : Calls Try.prog 31 #[.slice A l.length c, .slice A' l.length c'] w (RetBool true w) := by
  have hn := h.1
  have H := Sd.mk h
  have H' := Sd.mk h'
  clear h h'
  go_enter Try.func31, Try.ntmps31
  go_wp2
  go_loopg [5] l.length (fun k v wr => ∃ i : Nat, i + k = l.length ∧ v = .int .i64 i ∧ Sd (Upd No w wr))
  case atStart => exact ⟨0, by omega, rfl, ⟨Upd.refl _ _⟩⟩
  case round =>
    obtain ⟨i, hi, rfl, HU⟩ := hrel
    by_cases hlt : i < l.length
    · obtain ⟨ad, A5, c5, rfl, a0, a1, a2, a3, a4, a5, hl5, hC5⟩ := ki_Event_at (C_upd HU.out H.out) i hlt
      obtain ⟨ad', B5, b5, rfl, z0, z1, z2, z3, z4, z5, hm5, hD5⟩ := ki_Event_at (C_upd HU.out H'.out) i hlt
      have HC5 := Sd.mk hC5
      have HD5 := Sd.mk hD5
      clear hC5 hD5
      go_wp2_with fail
      go_still_tail 8, (by kernel_rfl)
      change wpList _ _ _ _ _ wr.drew
      have HW : Sd (Upd No wr wr.drew) := ⟨(Upd.refl _ _).drew⟩
      have HU2 : Sd (Upd No w wr.drew) := ⟨HU.out.drew⟩
      generalize wr.drew = w2 at *
      go_wp2_with (go_at_call 40; (with_reducible refine (eq_Event l[i] _ _ _ (ki_Event_Kmk _ _ hl5 (C_upd HW.out HC5.out)) (ki_Event_Kmk _ _ hm5 (C_upd HW.out HD5.out))).mono ?_); rintro e w' ⟨rfl, hu⟩)
      have HU3 := Sd.mk (HU2.out.then hu)
      clear HU2 hu
      go_wp2
      go_roundg (gk - 1)
      case measure => omega
      case rel => exact ⟨i + 1, by omega, by go_num, HU3⟩
    · go_wp2
      go_ret
      exact ⟨rfl, HU.out⟩
end Go.Proofs.YtelgpkjmkfjiiaaFam
