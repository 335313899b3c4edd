/- The contracts of the laws' own functions over Method: to, sz, eq, mark, held. No conditions beyond the sizes that the contracts name. -/
import Derived.Test.YtfnedoiplblldaaProg
import Derived.Test.YtfnedoiplblldaaSep2
import Derived.Test.YtfnedoiplblldaaLst
import Derived.WalkKit
import Derived.KernelRfl
import Derived.RowKit3
import Derived.Deep.LoopGhost
import Derived.Deep.QuietTactic
import Derived.BigQuiet
import Derived.StillTailTactics
import Derived.Test.YtfnedoiplblldaaK
import Derived.Deep.RegionHeld3
import Derived.Test.YtfnedoiplblldaaFamInstr
import Derived.Test.YtfnedoiplblldaaFamText
namespace Go.Proofs.YtfnedoiplblldaaFam
open Go.RowKit Go.Proofs.YtfnedoiplblldaaSep Go.Proofs.YtfnedoiplblldaaT Go.Proofs.YtfnedoiplblldaaK
set_option linter.unusedVariables false
set_option linter.unusedSimpArgs false
theorem kl_Method_Kmk (w : World) (x : GMethod) {A1 : Option Addr} {c1 : Nat} (hl1 : x.Code.length ≤ c1) (hC1 : C kl_Instr w A1 x.Code) : kl_Method.K w x [.string x.Name, .slice A1 x.Code.length c1] := ⟨[_], [_], rfl, rfl, ⟨A1, c1, rfl, hl1, hC1⟩⟩
theorem ki_Method_Kmk (w : World) (x : GMethod) {A1 : Option Addr} {c1 : Nat} (hl1 : x.Code.length ≤ c1) (hC1 : C ki_Instr w A1 x.Code) : ki_Method.K w x [.string x.Name, .slice A1 x.Code.length c1] := ⟨[_], [_], rfl, rfl, ⟨A1, c1, rfl, hl1, hC1⟩⟩
set_option maxHeartbeats 1000000 in
set_option maxRecDepth 100000 in
theorem to_Method (x : GMethod) (cs : List Value) (w : World) (h : kl_Method.K w x cs) (hs : szn_Method x ≤ 1048576) : Calls Try.prog 167 #[.agg cs.toArray] w (RetAgg ki_Method x w) := by
  obtain ⟨A1, c1, rfl, hl1, hC1⟩ := kl_Method_K h
  have HC1 := Sd.mk hC1
  clear hC1
  have s_Code : sznS szn_Instr x.Code ≤ 1048576 := by unfold szn_Method at hs; omega
  clear hs
  go_enter Try.func167, Try.ntmps167
  go_wp2_with fail
  with_reducible refine (toS_Instr x.Code _ _ _ ?hc_Code s_Code).mono ?_
  case hc_Code => exact C_upd (by repeat (with_reducible first | exact Upd.refl _ _ | apply Upd.put2 | apply Upd.put1 | apply Upd.put0 | apply Upd.alloc | apply Upd.drewN | apply Upd.drew)) HC1.out
  rintro e w_Code ⟨v1, rfl, hR1, hu⟩
  obtain ⟨B1, b1, rfl⟩ := R_slice hR1
  obtain ⟨P1, hR1', g1, l1⟩ := fresh_row hR1 (w.heap.size + 1 + 1 + 1) (by first | omega | (simp; done) | (simp; omega))
  have ge1 : ∀ b, P1 b → w.heap.size + 1 + 1 < b := fun b hb => by have := g1 b hb; omega
  have n1_1 : ¬ P1 (w.heap.size + 1) := fun q => by have := ge1 _ q; omega
  have n2_1 : ¬ P1 (w.heap.size + 1 + 1) := fun q => by have := ge1 _ q; omega
  have HR1 := Sd.mk hR1'
  have GE1 := Sd.mk ge1
  have LT1 := Sd.mk l1
  have GP1 := Sd.mk g1
  clear hR1 hR1' ge1 l1 g1
  have HB_Code : Sd (Upd No w w_Code) := Sd.mk (Upd.then (by repeat (with_reducible first | exact Upd.refl _ _ | apply Upd.put2 | apply Upd.put1 | apply Upd.put0 | apply Upd.alloc | apply Upd.drewN | apply Upd.drew)) hu)
  have cc0_Code := fun o => hu.cellsF (b := w.heap.size) (by first | omega | (simp; done) | (simp; omega)) (fun q => q) o
  have cc1_Code := fun o => hu.cellsF (b := w.heap.size + 1) (by first | omega | (simp; done) | (simp; omega)) (fun q => q) o
  have cf1_Code := fun o => hu.frozenF (b := w.heap.size + 1) (by first | omega | (simp; done) | (simp; omega)) (fun q => q) o
  have cc2_Code := fun o => hu.cellsF (b := w.heap.size + 1 + 1) (by first | omega | (simp; done) | (simp; omega)) (fun q => q) o
  have cf2_Code := fun o => hu.frozenF (b := w.heap.size + 1 + 1) (by first | omega | (simp; done) | (simp; omega)) (fun q => q) o
  have hz_Code : w.heap.size + 1 + 1 + 1 ≤ w_Code.heap.size := by have := hu.size; (try simp at this); omega
  clear hu
  go_wp2
  refine bodyPost_ret (v := .agg #[.string x.Name, .slice B1 x.Code.length b1]) (by simp [results, Try.results167, go_sem, cc1_Code]) rfl ⟨_, rfl, ?_, (by repeat (with_reducible first | exact HB_Code.out | apply Upd.put2 | apply Upd.put1 | apply Upd.put0 | apply Upd.alloc | apply Upd.drewN | apply Upd.drew))⟩
  exact ki_Method_mk _ _ _ (R_keep HR1.out (by repeat (with_reducible first | exact Upd.refl _ _ | apply Upd.putP n1_1 | apply Upd.putP n2_1 | apply Upd.alloc))) (fun k hk => by have := GE1.out k hk; simp only [New]; omega)
set_option maxHeartbeats 1000000 in
set_option maxRecDepth 100000 in
theorem toS_Method (l : List GMethod) (A : Option Addr) (c : Nat) (w : World) (h : C kl_Method w A l) (hs : sznS szn_Method l ≤ 1048576) : Calls Try.prog 145 #[.slice A l.length c] w (RetRow ki_Method 83 l w) := by
  have hn : l.length ≤ 1048576 := by unfold sznS at hs; omega
  have hmk := run_made (P := Try.prog) _ _ _ Try.underlying159 ki_Method_info l.length hn (by decide)
  have H := Sd.mk h
  have HS := Sd.mk hs
  clear h hs
  go_enter Try.func145, Try.ntmps145
  go_wp2
  clear hmk
  have HR : Sd (R ki_Method 83 (w.alloc (madeObj (.agg #[.string ⟨#[]⟩, .slice none 0 0]) (l.length * 2) 83)) (New w) (.slice (some ⟨w.heap.size, 0, none⟩) l.length l.length) (List.replicate l.length zMethod)) := Sd.mk (R_made (d := ki_Method) (e := 83) w (.agg #[.string ⟨#[]⟩, .slice none 0 0]) zMethod rfl (by decide) ki_Method_zero l.length hn)
  have HU := Sd.mk ((Upd.refl No w).alloc (madeObj (.agg #[.string ⟨#[]⟩, .slice none 0 0]) (l.length * 2) 83))
  go_loopg [4] l.length (fun k v wr => ∃ i : Nat, i + k = l.length ∧ v = .int .i64 i ∧ Sd (R ki_Method 83 wr (New w) (.slice (some ⟨w.heap.size, 0, none⟩) l.length l.length) (upTo l (List.replicate l.length zMethod) i)) ∧ Sd (Upd No w wr))
  case atStart => exact ⟨0, by omega, rfl, ⟨by rw [upTo_zero]; exact HR.out⟩, HU⟩
  case round =>
    clear HR HU
    obtain ⟨i, hi, rfl, HR, HU⟩ := hrel
    by_cases hlt : i < l.length
    · obtain ⟨ad, A1, c1, rfl, a0, a1, hl1, hC1⟩ := kl_Method_at (C_upd HU.out H.out) i hlt
      have HC1 := Sd.mk hC1
      clear hC1
      have hsi : szn_Method l[i] ≤ 1048576 := by have := HS.out; have := sumS_at szn_Method l i hlt; unfold sznS at *; omega
      go_wp2_with fail
      with_reducible refine (to_Method l[i] _ _ (kl_Method_Kmk _ _ hl1 HC1.out) hsi).mono ?_
      rintro e w1 ⟨cs, rfl, hM, hu⟩
      obtain ⟨v1, P1, rfl, hR1, i1⟩ := ki_Method_M (ki_Method.M_lt hM)
      obtain ⟨D1, d1, rfl⟩ := R_slice hR1
      have HRowA := R_upd hu (fun _ _ q => q) (R_lt HR.out)
      have HU1 := Sd.mk (HU.out.then hu)
      have hzw := HU.out.size
      have HR1 := Sd.mk hR1
      have I1 := Sd.mk i1
      clear HR HU hM hu hR1 i1
      obtain ⟨g, cap, cur, ce, Fi, hv, hcap, hat, hM, hg, hFi, hFg, close⟩ := R_elem HRowA 2 l.length rfl (by rw [upTo_len (by simp) (by simp; omega)]; simp) i zMethod (by rw [upTo_at (by simp) (by simpa using hlt)]; simp)
      cases hv
      obtain ⟨y1, _, rfl, -⟩ := ki_Method_M hM
      have HAT := Sd.mk hat
      have x0 := hat.cell0 _ rfl
      have x1 := hat.cell 1 _ rfl
      have f0 := hat.free (i * 2)
      have f1 := hat.free (i * 2 + 1)
      have CL := Sd.mk close
      clear hat close hM HRowA
      go_wp2
      have HA := (HAT.out.set0 (by decide) (.string l[i].Name)).set 1 (by decide) (.slice D1 l[i].Code.length d1)
      have hD1 : ∀ b, P1 b → ¬ (b = w.heap.size ∨ Fi b) := by
        intro b hb q
        have h1 := (I1.out b hb).1
        simp only [New] at h1
        rcases q with rfl | q
        · exact absurd hg.2 (by omega)
        · have h2 := (hFi b q).2
          omega
      have HM := ki_Method_mk _ (fun b => P1 b) l[i] (R_upd HA.upd hD1 HR1.out) (fun k hk => hk)
      have hP1 : ∀ b, (P1 b) → New wr b := by
        intro b hb
        exact (I1.out b hb).1
      have HRowB := CL.out _ _ l[i] _ (New w) HA HM (fun b hb => .inr (fun q => by have h1 := hP1 b hb; have h2 := q.2; simp only [New] at h1; omega)) (fun _ q => q.1) (fun b hb => by have h1 := hP1 b hb; simp only [New] at h1 ⊢; omega)
      rw [upTo_set (by simp) (by simpa using hlt)] at HRowB
      go_roundg (gk - 1)
      case measure => omega
      case rel => exact ⟨i + 1, by omega, by go_num, ⟨HRowB⟩, ⟨by repeat (with_reducible first | exact HU1.out | apply Upd.put0)⟩⟩
    · go_wp2
      go_ret
      have HRowB := HR.out
      rw [upTo_end (by simp) (by simp; omega)] at HRowB
      exact ⟨_, rfl, HRowB, HU.out⟩
set_option maxHeartbeats 1000000 in
set_option maxRecDepth 100000 in
theorem sz_Method (x : GMethod) (cs : List Value) (n : Int) (w : World) (h : kl_Method.K w x cs) (hb : Bd_Method x) (h0 : 0 ≤ n) (h1 : n ≤ 1048576) : Calls Try.prog 166 #[.agg cs.toArray, .int .i64 n] w (RetSz (szn_Method x) n w) := by
  obtain ⟨A1, c1, rfl, hl1, hC1⟩ := kl_Method_K h
  have HC1 := Sd.mk hC1
  clear hC1
  obtain ⟨b_Name, b_Code⟩ := hb
  have B_Code := Sd.mk b_Code
  clear b_Code
  go_enter Try.func166, Try.ntmps166
  by_cases q_Name : ((x.Name.size : Nat) : Int) ≤ n
  case neg =>
    go_wp2
    go_ret
    exact ⟨_, rfl, .inr ⟨by unfold szn_Method; omega, rfl⟩, (by repeat (with_reducible first | exact Upd.refl _ _ | apply Upd.put2 | apply Upd.put1 | apply Upd.put0 | apply Upd.alloc | apply Upd.drewN | apply Upd.drew))⟩
  go_wp2_with fail
  with_reducible refine (szS_Instr x.Code _ _ _ _ ?hc_Code B_Code.out (by omega) (by omega)).mono ?_
  case hc_Code => exact C_upd (by repeat (with_reducible first | exact Upd.refl _ _ | apply Upd.put2 | apply Upd.put1 | apply Upd.put0 | apply Upd.alloc | apply Upd.drewN | apply Upd.drew)) HC1.out
  rintro e w_Code ⟨r_Code, rfl, hr_Code, hu⟩
  have HB_Code : Sd (Upd No w w_Code) := Sd.mk (Upd.then (by repeat (with_reducible first | exact Upd.refl _ _ | apply Upd.put2 | apply Upd.put1 | apply Upd.put0 | apply Upd.alloc | apply Upd.drewN | apply Upd.drew)) hu)
  have cc0_Code := fun o => hu.cellsF (b := w.heap.size) (by first | omega | (simp; done) | (simp; omega)) (fun q => q) o
  have hz_Code : w.heap.size + 1 ≤ w_Code.heap.size := by have := hu.size; (try simp at this); omega
  clear hu
  rcases hr_Code with ⟨q_Code, rfl⟩ | ⟨q_Code, rfl⟩
  case inr =>
    go_wp2
    go_ret
    exact ⟨_, rfl, .inr ⟨by unfold szn_Method; omega, rfl⟩, (by repeat (with_reducible first | exact HB_Code.out | apply Upd.put2 | apply Upd.put1 | apply Upd.put0 | apply Upd.alloc | apply Upd.drewN | apply Upd.drew))⟩
  go_wp2
  go_ret
  exact ⟨_, rfl, .inl ⟨by unfold szn_Method; omega, by unfold szn_Method; omega⟩, (by repeat (with_reducible first | exact HB_Code.out | apply Upd.put2 | apply Upd.put1 | apply Upd.put0 | apply Upd.alloc | apply Upd.drewN | apply Upd.drew))⟩
set_option maxHeartbeats 1000000 in
set_option maxRecDepth 100000 in
theorem szS_Method (l : List GMethod) (A : Option Addr) (c : Nat) (n : Int) (w : World) (h : C kl_Method w A l) (hb : ∀ y ∈ l, Bd_Method y) (h0 : 0 ≤ n) (h1 : n ≤ 1048576) : Calls Try.prog 144 #[.slice A l.length c, .int .i64 n] w (RetSz (sznS szn_Method l) n w) := by
  have hn := h.1
  have H := Sd.mk h
  clear h
  have HBD := Sd.mk hb
  clear hb
  go_enter Try.func144, Try.ntmps144
  by_cases q0 : (l.length : Int) ≤ n
  case neg =>
    go_wp2
    go_ret
    exact ⟨_, rfl, .inr ⟨by unfold sznS; omega, rfl⟩, Upd.refl _ _⟩
  go_wp2
  go_loopg [1, 5] l.length (fun k u v wr => ∃ i : Nat, i + k = l.length ∧ (sumS szn_Method (l.take i) : Int) ≤ n - l.length ∧ u = .int .i64 (n - l.length - sumS szn_Method (l.take i)) ∧ v = .int .i64 i ∧ Sd (Upd No w wr))
  case atStart => exact ⟨0, by omega, by simp [sumS]; omega, by simp [sumS], rfl, ⟨Upd.refl _ _⟩⟩
  case round =>
    obtain ⟨i, hi, hle, rfl, rfl, HU⟩ := hrel
    by_cases hlt : i < l.length
    · obtain ⟨ad, A1, c1, rfl, a0, a1, hl1, hC1⟩ := kl_Method_at (C_upd HU.out H.out) i hlt
      have HC1 := Sd.mk hC1
      clear hC1
      have hst := sumS_step szn_Method l i hlt
      have HST := Sd.mk (sumS_take szn_Method l i hlt)
      generalize hs : sumS szn_Method (l.take i) = s at *
      have HS := Sd.mk hs
      clear hs
      go_wp2_with fail
      with_reducible refine (sz_Method l[i] _ _ _ (kl_Method_Kmk _ _ hl1 HC1.out) (HBD.out _ (List.getElem_mem hlt)) (by omega) (by omega)).mono ?_
      rintro e w1 ⟨r, rfl, hr, hu⟩
      have HU1 := Sd.mk (HU.out.then hu)
      clear hu HU
      rcases hr with ⟨q, rfl⟩ | ⟨q, rfl⟩
      · go_wp2
        go_roundg (gk - 1)
        case measure => omega
        case rel => exact ⟨i + 1, by omega, by rw [HST.out]; omega, by rw [HST.out]; exact congrArg (Value.int .i64) (by omega), by go_num, HU1⟩
      · go_wp2
        go_ret
        exact ⟨_, rfl, .inr ⟨by unfold sznS; omega, rfl⟩, HU1.out⟩
    · go_wp2
      go_ret
      have e : l.take i = l := List.take_of_length_le (by omega)
      rw [e] at hle
      exact ⟨_, rfl, .inl ⟨by unfold sznS; omega, by rw [e]; unfold sznS; omega⟩, HU.out⟩
set_option maxHeartbeats 1000000 in
set_option maxRecDepth 100000 in
theorem eq_Method (x : GMethod) (cs cs' : List Value) (w : World) (h : ki_Method.K w x cs) (h' : ki_Method.K w x cs') : Calls Try.prog 37 #[.agg cs.toArray, .agg cs'.toArray] w (RetBool true w) := by
  obtain ⟨A1, c1, rfl, hl1, hC1⟩ := ki_Method_K h
  have HC1 := Sd.mk hC1
  clear hC1
  obtain ⟨B1, b1, rfl, hm1, hD1⟩ := ki_Method_K h'
  have HD1 := Sd.mk hD1
  clear hD1
  go_enter Try.func37, Try.ntmps37
  go_wp2_with fail
  with_reducible refine (eqS_Instr x.Code _ _ _ _ _ ?hc_Code ?hd_Code).mono ?_
  case hc_Code => exact C_upd (by repeat (with_reducible first | exact Upd.refl _ _ | apply Upd.put2 | apply Upd.put1 | apply Upd.put0 | apply Upd.alloc | apply Upd.drewN | apply Upd.drew)) HC1.out
  case hd_Code => exact C_upd (by repeat (with_reducible first | exact Upd.refl _ _ | apply Upd.put2 | apply Upd.put1 | apply Upd.put0 | apply Upd.alloc | apply Upd.drewN | apply Upd.drew)) HD1.out
  rintro e w_Code ⟨rfl, hu⟩
  have HB_Code : Sd (Upd No w w_Code) := Sd.mk (Upd.then (by repeat (with_reducible first | exact Upd.refl _ _ | apply Upd.put2 | apply Upd.put1 | apply Upd.put0 | apply Upd.alloc | apply Upd.drewN | apply Upd.drew)) hu)
  have cc0_Code := fun o => hu.cellsF (b := w.heap.size) (by first | omega | (simp; done) | (simp; omega)) (fun q => q) o
  have cc1_Code := fun o => hu.cellsF (b := w.heap.size + 1) (by first | omega | (simp; done) | (simp; omega)) (fun q => q) o
  have hz_Code : w.heap.size + 1 + 1 ≤ w_Code.heap.size := by have := hu.size; (try simp at this); omega
  clear hu
  go_wp2
  go_ret
  exact ⟨rfl, (by repeat (with_reducible first | exact HB_Code.out | apply Upd.put2 | apply Upd.put1 | apply Upd.put0 | apply Upd.alloc | apply Upd.drewN | apply Upd.drew))⟩
set_option maxHeartbeats 1000000 in
set_option maxRecDepth 100000 in
theorem eqS_Method (l : List GMethod) (A A' : Option Addr) (c c' : Nat) (w : World) (h : C ki_Method w A l) (h' : C ki_Method w A' l) : Calls Try.prog 148 #[.slice A l.length c, .slice A' l.length c'] w (RetBool true w) := by
  have hn := h.1
  have H := Sd.mk h
  have H' := Sd.mk h'
  clear h h'
  go_enter Try.func148, Try.ntmps148
  go_wp2
  go_loopg [5] l.length (fun k v wr => ∃ i : Nat, i + k = l.length ∧ v = .int .i64 i ∧ Sd (Upd No w wr))
  case atStart => exact ⟨0, by omega, rfl, ⟨Upd.refl _ _⟩⟩
  case round =>
    obtain ⟨i, hi, rfl, HU⟩ := hrel
    by_cases hlt : i < l.length
    · obtain ⟨ad, A1, c1, rfl, a0, a1, hl1, hC1⟩ := ki_Method_at (C_upd HU.out H.out) i hlt
      obtain ⟨ad', B1, b1, rfl, z0, z1, hm1, hD1⟩ := ki_Method_at (C_upd HU.out H'.out) i hlt
      have HC1 := Sd.mk hC1
      have HD1 := Sd.mk hD1
      clear hC1 hD1
      go_wp2_with fail
      go_still_tail 8, (by kernel_rfl)
      change wpList _ _ _ _ _ wr.drew
      have HW : Sd (Upd No wr wr.drew) := ⟨(Upd.refl _ _).drew⟩
      have HU2 : Sd (Upd No w wr.drew) := ⟨HU.out.drew⟩
      generalize wr.drew = w2 at *
      go_wp2_with (go_at_call 37; (with_reducible refine (eq_Method l[i] _ _ _ (ki_Method_Kmk _ _ hl1 (C_upd HW.out HC1.out)) (ki_Method_Kmk _ _ hm1 (C_upd HW.out HD1.out))).mono ?_); rintro e w' ⟨rfl, hu⟩)
      have HU3 := Sd.mk (HU2.out.then hu)
      clear HU2 hu
      go_wp2
      go_roundg (gk - 1)
      case measure => omega
      case rel => exact ⟨i + 1, by omega, by go_num, HU3⟩
    · go_wp2
      go_ret
      exact ⟨rfl, HU.out⟩
set_option maxHeartbeats 1000000 in
set_option maxRecDepth 100000 in
theorem markS_Method (l : List GMethod) (k : Int) (F : Nat → Prop) (v : Value) (w : World) (h : R ki_Method 83 w F v l) (hk : 0 ≤ k) (hb : k + cntS cnt_Method l ≤ 4611686018427387904) : Calls Try.prog 110 #[v, .int .i64 k] w (Marks ki_Method 83 F v (k + cntS cnt_Method l) (mkS mk_Method cnt_Method k l) w) := by
  obtain ⟨A, c, rfl⟩ := R_slice h
  have hn := R_len h
  have H := Sd.mk h
  clear h
  go_enter Try.func110, Try.ntmps110
  go_wp2
  go_loopg [1, 5] l.length (fun r u v wr => ∃ i : Nat, i + r = l.length ∧ u = .int .i64 (k + cntS cnt_Method (l.take i)) ∧ v = .int .i64 i ∧ Sd (R ki_Method 83 wr F (.slice A l.length c) (upTo (mkS mk_Method cnt_Method k l) l i)) ∧ Sd (Upd F w wr))
  case atStart => exact ⟨0, by omega, by simp [cntS], rfl, ⟨by rw [upTo_zero]; exact H.out⟩, ⟨Upd.refl _ _⟩⟩
  case round =>
    obtain ⟨i, hi, rfl, rfl, HR, HU⟩ := hrel
    by_cases hlt : i < l.length
    · have hle := cntS_le cnt_Method cnt_Method_nn l i
      have hst := cntS_take cnt_Method l i hlt
      have hle2 := cntS_le cnt_Method cnt_Method_nn l (i + 1)
      rw [hst] at hle2
      have HST := Sd.mk hst
      clear hst
      have HMA := Sd.mk (mkS_at mk_Method cnt_Method l k i hlt)
      obtain ⟨g, cap, cur, ce, Fi, hv, hcap, hat, hM, hg, hFi, hFg, close⟩ := R_elem HR.out 2 l.length rfl (upTo_len (mkS_len _ _ _ _) (by omega)) i l[i] (upTo_at (mkS_len _ _ _ _) hlt)
      cases hv
      obtain ⟨v1, P1, rfl, hR1, i1⟩ := ki_Method_M hM
      obtain ⟨B1, b1, rfl⟩ := R_slice hR1
      have HR1 := Sd.mk hR1
      have I1 := Sd.mk i1
      have N1 : ¬ P1 g := fun q => hFg (i1 g q)
      clear hR1 i1
      have nn1 := cntS_nn cnt_Instr cnt_Instr_nn l[i].Code
      have HCN : Sd (cnt_Method l[i] = cnt_Method l[i]) := ⟨rfl⟩
      simp only [cnt_Method] at hle2
      generalize hq : k + cntS cnt_Method (l.take i) = q at *
      have HQ := Sd.mk hq
      have hq0 : 0 ≤ q := by omega
      have hqb : q + ((0 + 1) + cntS cnt_Instr l[i].Code) ≤ 4611686018427387904 := by omega
      clear hq hle hle2 hb
      generalize hcn1 : cntS cnt_Instr l[i].Code = cn1 at *
      have HC1 := Sd.mk hcn1
      clear hcn1
      have HAT := Sd.mk hat
      have x0_s := hat.cell0 _ rfl
      have x1_s := hat.cell 1 _ rfl
      have f0_s := hat.free (i * 2)
      have f1_s := hat.free (i * 2 + 1)
      have CL := Sd.mk close
      clear hat close hM HR
      go_wp2_with fail
      with_reducible refine (markText_c _ _ (by omega) (by omega)).mono ?_
      rintro e w_Name ⟨rfl, hu⟩
      replace HR1 := Sd.mk (R_upd hu (fun _ _ q => q) (R_upd (G := fun b => b = g) (by repeat (with_reducible first | exact Upd.refl _ _ | apply Upd.setg)) (fun b hb hg' => N1 (hg' ▸ hb)) HR1.out))
      replace HAT := Sd.mk (HAT.out.call hu (fun _ q => q.elim) hFg)
      clear hu x0_s f0_s x1_s f1_s
      have x0_Name := HAT.out.cell0 _ rfl
      have x1_Name := HAT.out.cell 1 _ rfl
      have f0_Name := HAT.out.free (i * 2)
      have f1_Name := HAT.out.free (i * 2 + 1)
      go_wp2_with fail
      with_reducible refine (markS_Instr l[i].Code _ P1 _ _ ?hr_Code (by omega) (by rw [HC1.out]; omega)).mono ?_
      case hr_Code => exact (R_upd (G := fun b => b = g) (by repeat (with_reducible first | exact Upd.refl _ _ | apply Upd.setg)) (fun b hb hg' => N1 (hg' ▸ hb)) HR1.out)
      rintro e w_Code ⟨rfl, hR1, hu⟩
      rw [HC1.out]
      replace HR1 := Sd.mk hR1
      replace HAT := Sd.mk ((HAT.out.set0 (by decide) (.string (mtx (q)))).call hu I1.out hFg)
      clear hR1
      clear hu x0_Name f0_Name x1_Name f1_Name
      have x0_Code := HAT.out.cell0 _ rfl
      have x1_Code := HAT.out.cell 1 _ rfl
      have f0_Code := HAT.out.free (i * 2)
      have f1_Code := HAT.out.free (i * 2 + 1)
      go_wp2
      have HA := HAT.out
      have hy : (⟨mtx (q), mkS mk_Instr cnt_Instr (q + 1) l[i].Code⟩ : GMethod) = (mkS mk_Method cnt_Method k l)[i]'(by rw [mkS_len]; exact hlt) := by rw [HMA.out]; simp only [mk_Method, HC1.out]
      have HRowB := CL.out _ _ (⟨mtx (q), mkS mk_Instr cnt_Instr (q + 1) l[i].Code⟩ : GMethod) Fi F HA (ki_Method_mk _ Fi (⟨mtx (q), mkS mk_Instr cnt_Instr (q + 1) l[i].Code⟩ : GMethod) (R_upd (G := fun b => b = g) (by repeat (with_reducible first | exact Upd.refl _ _ | apply Upd.setg)) (fun b hb hg' => N1 (hg' ▸ hb)) HR1.out) I1.out) (fun _ hb => .inl hb) (fun _ hb => hb) hFi
      rw [hy, upTo_set (mkS_len _ _ _ _) hlt] at HRowB
      go_roundg (gk - 1)
      case measure => omega
      case rel => exact ⟨i + 1, by omega, by rw [HST.out]; simp only [cnt_Method]; have := HQ.out; have := HC1.out; exact congrArg (Value.int .i64) (by omega), by go_num, ⟨HRowB⟩, ⟨HU.out.trans HA.upd (fun _ _ hb => hb) (fun b _ hb => by rcases hb with rfl | hb; exact hg; exact hFi b hb)⟩⟩
    · go_wp2
      go_ret
      have HRowB := HR.out
      rw [upTo_end (mkS_len _ _ _ _) (by omega)] at HRowB
      have e : l.take i = l := List.take_of_length_le (by omega)
      exact ⟨ret_int (by rw [e]), HRowB, HU.out⟩
set_option maxHeartbeats 1000000 in
set_option maxRecDepth 100000 in
theorem markv_Method_c (x : GMethod) (k : Int) (F : Nat → Prop) (cs : List Value) (w : World) (h : ki_Method.M w F x cs) (hk : 0 ≤ k) (hb : k + cntv_Method x ≤ 4611686018427387904) : Calls Try.prog 40 #[.agg cs.toArray, .int .i64 k] w (MarksV ki_Method F cs (k + cntv_Method x) (mkv_Method k x) w) := by
  obtain ⟨v1, P1, rfl, hR1, i1⟩ := ki_Method_M (ki_Method.M_lt h)
  obtain ⟨B1, b1, rfl⟩ := R_slice hR1
  have HR1 := Sd.mk hR1
  have I1 := Sd.mk (fun b q => (i1 b q).1)
  have L1 := Sd.mk (fun b q => (i1 b q).2)
  clear hR1 i1
  have nn1 := cntS_nn cnt_Instr cnt_Instr_nn x.Code
  clear h
  unfold cntv_Method at hb
  generalize hcn1 : cntS cnt_Instr x.Code = cn1 at *
  have HC1 := Sd.mk hcn1
  clear hcn1
  go_enter Try.func40, Try.ntmps40
  go_wp2_with fail
  with_reducible refine (markS_Instr x.Code _ P1 _ _ ?hr1 (by omega) (by rw [HC1.out]; omega)).mono ?_
  case hr1 => exact R_upd ((Upd.refl No w).alloc _) (fun _ _ q => q) HR1.out
  rintro e w_1 ⟨rfl, hR1, hu⟩
  rw [HC1.out]
  replace HR1 := Sd.mk hR1
  have cc_1 := fun o => hu.cellsF (b := w.heap.size) (by first | omega | (simp; done) | (simp; omega)) (fun q => absurd (L1.out _ q) (Nat.lt_irrefl _)) o
  have hz_1 : w.heap.size + 1 ≤ w_1.heap.size := by have := hu.size; (try simp at this); omega
  have HU_1 : Sd (Upd F w w_1) := Sd.mk (Upd.trans ((Upd.refl No w).alloc _) hu (fun _ _ q => q.elim) (fun b _ q => I1.out b q))
  clear hu hR1
  have hy : (⟨x.Name, mkS mk_Instr cnt_Instr k x.Code⟩ : GMethod) = mkv_Method k x := by simp only [mkv_Method, HC1.out]
  have hc : cntv_Method x = (0 + cn1) := by simp only [cntv_Method, HC1.out]
  have HMM := ki_Method_mk w_1 F (⟨x.Name, mkS mk_Instr cnt_Instr k x.Code⟩ : GMethod) HR1.out I1.out
  rw [hy] at HMM
  have HMM' := Sd.mk HMM
  have Hc := Sd.mk hc
  clear HMM hy hc
  go_wp2
  go_ret
  exact ⟨ret_int (by rw [Hc.out]; omega), HMM'.out, HU_1.out⟩
set_option maxHeartbeats 1000000 in
set_option maxRecDepth 100000 in
theorem heldv_Method_c (x : GMethod) (k : Int) (cs : List Value) (w : World) (h : ki_Method.K w (mkv_Method k x) cs) (hk : 0 ≤ k) (hb : k + cntv_Method x ≤ 4611686018427387904) : Calls Try.prog 41 #[.agg cs.toArray, .int .i64 k] w (RetInt (k + cntv_Method x) w) := by
  obtain ⟨A1, c1, rfl, hl1, hC1⟩ := ki_Method_K h
  clear h
  simp only [mkv_Method, mkS_len] at hl1 hC1
  simp only [mkv_Method, mkS_len]
  have nn1 := cntS_nn cnt_Instr cnt_Instr_nn x.Code
  unfold cntv_Method at hb
  generalize hcn1 : cntS cnt_Instr x.Code = cn1 at *
  have HN1 := Sd.mk hcn1
  clear hcn1
  have HC1 := Sd.mk hC1
  clear hC1
  go_enter Try.func41, Try.ntmps41
  go_wp2_with fail
  with_reducible refine (heldS_Instr x.Code _ _ _ _ ?hc1 (by omega) (by rw [HN1.out]; omega)).mono ?_
  case hc1 => exact C_upd (by repeat (with_reducible first | exact Upd.refl _ _ | apply Upd.put2 | apply Upd.put1 | apply Upd.put0 | apply Upd.alloc | apply Upd.drewN | apply Upd.drew)) HC1.out
  rintro e w_1 ⟨rfl, hu⟩
  rw [HN1.out]
  have HB_1 : Sd (Upd No w w_1) := Sd.mk (Upd.then (by repeat (with_reducible first | exact Upd.refl _ _ | apply Upd.put2 | apply Upd.put1 | apply Upd.put0 | apply Upd.alloc | apply Upd.drewN | apply Upd.drew)) hu)
  have cc_1 := fun o => hu.cellsF (b := w.heap.size) (by first | omega | (simp; done) | (simp; omega)) (fun q => q) o
  have hz_1 : w.heap.size + 1 ≤ w_1.heap.size := by have := hu.size; (try simp at this); omega
  clear hu
  have Hc : Sd (cntv_Method x = (0 + cn1)) := ⟨by simp only [cntv_Method, HN1.out]⟩
  go_wp2
  go_ret
  exact ⟨ret_int (by rw [Hc.out]; omega), HB_1.out⟩
end Go.Proofs.YtfnedoiplblldaaFam
