/- The contracts of the laws' own functions over Instr: to, sz, eq, mark, held. No conditions beyond the sizes that the contracts name. -/
import Derived.Test.YtfnedoiplblldaaProg
import Derived.Test.YtfnedoiplblldaaSep2
import Derived.Test.YtfnedoiplblldaaLst
import Derived.WalkKit
import Derived.KernelRfl
import Derived.RowKit3
import Derived.Deep.LoopGhost
import Derived.Deep.QuietTactic
import Derived.BigQuiet
import Derived.StillTailTactics
import Derived.Test.YtfnedoiplblldaaK
import Derived.Deep.RegionHeld3
import Derived.Test.YtfnedoiplblldaaFamText
namespace Go.Proofs.YtfnedoiplblldaaFam
open Go.RowKit Go.Proofs.YtfnedoiplblldaaSep Go.Proofs.YtfnedoiplblldaaT Go.Proofs.YtfnedoiplblldaaK
set_option linter.unusedVariables false
set_option linter.unusedSimpArgs false
theorem kl_Instr_Kmk (w : World) (x : GInstr) : kl_Instr.K w x [.int .i64 x.Op, .int .i64 x.A, .int .i64 x.B, .int .i64 x.C, .int .i64 x.D, .string x.Name] := ⟨[_], [_, _, _, _, _], rfl, rfl, ⟨[_], [_, _, _, _], rfl, rfl, ⟨[_], [_, _, _], rfl, rfl, ⟨[_], [_, _], rfl, rfl, ⟨[_], [_], rfl, rfl, rfl⟩⟩⟩⟩⟩
theorem ki_Instr_Kmk (w : World) (x : GInstr) : ki_Instr.K w x [.int .i64 x.Op, .int .i64 x.A, .int .i64 x.B, .int .i64 x.C, .int .i64 x.D, .string x.Name] := ⟨[_], [_, _, _, _, _], rfl, rfl, ⟨[_], [_, _, _, _], rfl, rfl, ⟨[_], [_, _, _], rfl, rfl, ⟨[_], [_, _], rfl, rfl, ⟨[_], [_], rfl, rfl, rfl⟩⟩⟩⟩⟩
set_option maxHeartbeats 1000000 in
set_option maxRecDepth 100000 in
theorem to_Instr (x : GInstr) (cs : List Value) (w : World) (h : kl_Instr.K w x cs) (hs : szn_Instr x ≤ 1048576) : Calls Try.prog 178 #[.agg cs.toArray] w (RetAgg ki_Instr x w) := by
  obtain rfl := kl_Instr_K h
  clear hs
  go_enter Try.func178, Try.ntmps178
  go_wp2
  refine bodyPost_ret (v := .agg #[.int .i64 x.Op, .int .i64 x.A, .int .i64 x.B, .int .i64 x.C, .int .i64 x.D, .string x.Name]) (by simp [results, Try.results178, go_sem]) rfl ⟨_, rfl, ?_, (by repeat (with_reducible first | exact Upd.refl _ _ | apply Upd.put2 | apply Upd.put1 | apply Upd.put0 | apply Upd.alloc | apply Upd.drewN | apply Upd.drew))⟩
  exact ki_Instr_mk _ _ _
set_option maxHeartbeats 1000000 in
set_option maxRecDepth 100000 in
theorem toS_Instr (l : List GInstr) (A : Option Addr) (c : Nat) (w : World) (h : C kl_Instr w A l) (hs : sznS szn_Instr l ≤ 1048576) : Calls Try.prog 176 #[.slice A l.length c] w (RetRow ki_Instr 221 l w) := by
  have hn : l.length ≤ 1048576 := by unfold sznS at hs; omega
  have hmk := run_made (P := Try.prog) _ _ _ Try.underlying81 ki_Instr_info l.length hn (by decide)
  have H := Sd.mk h
  have HS := Sd.mk hs
  clear h hs
  go_enter Try.func176, Try.ntmps176
  go_wp2
  clear hmk
  have HR : Sd (R ki_Instr 221 (w.alloc (madeObj (.agg #[.int .i64 0, .int .i64 0, .int .i64 0, .int .i64 0, .int .i64 0, .string ⟨#[]⟩]) (l.length * 6) 221)) (New w) (.slice (some ⟨w.heap.size, 0, none⟩) l.length l.length) (List.replicate l.length zInstr)) := Sd.mk (R_made (d := ki_Instr) (e := 221) w (.agg #[.int .i64 0, .int .i64 0, .int .i64 0, .int .i64 0, .int .i64 0, .string ⟨#[]⟩]) zInstr rfl (by decide) ki_Instr_zero l.length hn)
  have HU := Sd.mk ((Upd.refl No w).alloc (madeObj (.agg #[.int .i64 0, .int .i64 0, .int .i64 0, .int .i64 0, .int .i64 0, .string ⟨#[]⟩]) (l.length * 6) 221))
  go_loopg [4] l.length (fun k v wr => ∃ i : Nat, i + k = l.length ∧ v = .int .i64 i ∧ Sd (R ki_Instr 221 wr (New w) (.slice (some ⟨w.heap.size, 0, none⟩) l.length l.length) (upTo l (List.replicate l.length zInstr) i)) ∧ Sd (Upd No w wr))
  case atStart => exact ⟨0, by omega, rfl, ⟨by rw [upTo_zero]; exact HR.out⟩, HU⟩
  case round =>
    clear HR HU
    obtain ⟨i, hi, rfl, HR, HU⟩ := hrel
    by_cases hlt : i < l.length
    · obtain ⟨ad, rfl, a0, a1, a2, a3, a4, a5⟩ := kl_Instr_at (C_upd HU.out H.out) i hlt
      have hsi : szn_Instr l[i] ≤ 1048576 := by have := HS.out; have := sumS_at szn_Instr l i hlt; unfold sznS at *; omega
      go_wp2_with fail
      with_reducible refine (to_Instr l[i] _ _ (kl_Instr_Kmk _ _) hsi).mono ?_
      rintro e w1 ⟨cs, rfl, hM, hu⟩
      obtain rfl := ki_Instr_M hM
      have HRowA := R_upd hu (fun _ _ q => q) (R_lt HR.out)
      have HU1 := Sd.mk (HU.out.then hu)
      have hzw := HU.out.size
      clear HR HU hM hu
      obtain ⟨g, cap, cur, ce, Fi, hv, hcap, hat, hM, hg, hFi, hFg, close⟩ := R_elem HRowA 6 l.length rfl (by rw [upTo_len (by simp) (by simp; omega)]; simp) i zInstr (by rw [upTo_at (by simp) (by simpa using hlt)]; simp)
      cases hv
      obtain rfl := ki_Instr_M hM
      have HAT := Sd.mk hat
      have x0 := hat.cell0 _ rfl
      have x1 := hat.cell 1 _ rfl
      have x2 := hat.cell 2 _ rfl
      have x3 := hat.cell 3 _ rfl
      have x4 := hat.cell 4 _ rfl
      have x5 := hat.cell 5 _ rfl
      have f0 := hat.free (i * 6)
      have f1 := hat.free (i * 6 + 1)
      have f2 := hat.free (i * 6 + 2)
      have f3 := hat.free (i * 6 + 3)
      have f4 := hat.free (i * 6 + 4)
      have f5 := hat.free (i * 6 + 5)
      have CL := Sd.mk close
      clear hat close hM HRowA
      go_wp2
      have HA := (((((HAT.out.set0 (by decide) (.int .i64 l[i].Op)).set 1 (by decide) (.int .i64 l[i].A)).set 2 (by decide) (.int .i64 l[i].B)).set 3 (by decide) (.int .i64 l[i].C)).set 4 (by decide) (.int .i64 l[i].D)).set 5 (by decide) (.string l[i].Name)
      have HRowB := CL.out _ _ l[i] No (New w) HA (ki_Instr_mk _ _ _) (fun _ q => q.elim) (fun _ q => q.1) (fun _ q => q.elim)
      rw [upTo_set (by simp) (by simpa using hlt)] at HRowB
      go_roundg (gk - 1)
      case measure => omega
      case rel => exact ⟨i + 1, by omega, by go_num, ⟨HRowB⟩, ⟨by repeat (with_reducible first | exact HU1.out | apply Upd.put0)⟩⟩
    · go_wp2
      go_ret
      have HRowB := HR.out
      rw [upTo_end (by simp) (by simp; omega)] at HRowB
      exact ⟨_, rfl, HRowB, HU.out⟩
set_option maxHeartbeats 1000000 in
set_option maxRecDepth 100000 in
theorem sz_Instr (x : GInstr) (cs : List Value) (n : Int) (w : World) (h : kl_Instr.K w x cs) (hb : Bd_Instr x) (h0 : 0 ≤ n) (h1 : n ≤ 1048576) : Calls Try.prog 177 #[.agg cs.toArray, .int .i64 n] w (RetSz (szn_Instr x) n w) := by
  obtain rfl := kl_Instr_K h
  have b_Name := hb
  unfold Bd_Instr at b_Name
  go_enter Try.func177, Try.ntmps177
  by_cases q_Name : ((x.Name.size : Nat) : Int) ≤ n
  case neg =>
    go_wp2
    go_ret
    exact ⟨_, rfl, .inr ⟨by unfold szn_Instr; omega, rfl⟩, (by repeat (with_reducible first | exact Upd.refl _ _ | apply Upd.put2 | apply Upd.put1 | apply Upd.put0 | apply Upd.alloc | apply Upd.drewN | apply Upd.drew))⟩
  go_wp2
  go_ret
  exact ⟨_, rfl, .inl ⟨by unfold szn_Instr; omega, by unfold szn_Instr; omega⟩, (by repeat (with_reducible first | exact Upd.refl _ _ | apply Upd.put2 | apply Upd.put1 | apply Upd.put0 | apply Upd.alloc | apply Upd.drewN | apply Upd.drew))⟩
set_option maxHeartbeats 1000000 in
set_option maxRecDepth 100000 in
theorem szS_Instr (l : List GInstr) (A : Option Addr) (c : Nat) (n : Int) (w : World) (h : C kl_Instr w A l) (hb : ∀ y ∈ l, Bd_Instr y) (h0 : 0 ≤ n) (h1 : n ≤ 1048576) : Calls Try.prog 175 #[.slice A l.length c, .int .i64 n] w (RetSz (sznS szn_Instr l) n w) := by
  have hn := h.1
  have H := Sd.mk h
  clear h
  have HBD := Sd.mk hb
  clear hb
  go_enter Try.func175, Try.ntmps175
  by_cases q0 : (l.length : Int) ≤ n
  case neg =>
    go_wp2
    go_ret
    exact ⟨_, rfl, .inr ⟨by unfold sznS; omega, rfl⟩, Upd.refl _ _⟩
  go_wp2
  go_loopg [1, 5] l.length (fun k u v wr => ∃ i : Nat, i + k = l.length ∧ (sumS szn_Instr (l.take i) : Int) ≤ n - l.length ∧ u = .int .i64 (n - l.length - sumS szn_Instr (l.take i)) ∧ v = .int .i64 i ∧ Sd (Upd No w wr))
  case atStart => exact ⟨0, by omega, by simp [sumS]; omega, by simp [sumS], rfl, ⟨Upd.refl _ _⟩⟩
  case round =>
    obtain ⟨i, hi, hle, rfl, rfl, HU⟩ := hrel
    by_cases hlt : i < l.length
    · obtain ⟨ad, rfl, a0, a1, a2, a3, a4, a5⟩ := kl_Instr_at (C_upd HU.out H.out) i hlt
      have hst := sumS_step szn_Instr l i hlt
      have HST := Sd.mk (sumS_take szn_Instr l i hlt)
      generalize hs : sumS szn_Instr (l.take i) = s at *
      have HS := Sd.mk hs
      clear hs
      go_wp2_with fail
      with_reducible refine (sz_Instr l[i] _ _ _ (kl_Instr_Kmk _ _) (HBD.out _ (List.getElem_mem hlt)) (by omega) (by omega)).mono ?_
      rintro e w1 ⟨r, rfl, hr, hu⟩
      have HU1 := Sd.mk (HU.out.then hu)
      clear hu HU
      rcases hr with ⟨q, rfl⟩ | ⟨q, rfl⟩
      · go_wp2
        go_roundg (gk - 1)
        case measure => omega
        case rel => exact ⟨i + 1, by omega, by rw [HST.out]; omega, by rw [HST.out]; exact congrArg (Value.int .i64) (by omega), by go_num, HU1⟩
      · go_wp2
        go_ret
        exact ⟨_, rfl, .inr ⟨by unfold sznS; omega, rfl⟩, HU1.out⟩
    · go_wp2
      go_ret
      have e : l.take i = l := List.take_of_length_le (by omega)
      rw [e] at hle
      exact ⟨_, rfl, .inl ⟨by unfold sznS; omega, by rw [e]; unfold sznS; omega⟩, HU.out⟩
set_option maxHeartbeats 1000000 in
set_option maxRecDepth 100000 in
theorem eq_Instr (x : GInstr) (cs cs' : List Value) (w : World) (h : ki_Instr.K w x cs) (h' : ki_Instr.K w x cs') : Calls Try.prog 147 #[.agg cs.toArray, .agg cs'.toArray] w (RetBool true w) := by
  obtain rfl := ki_Instr_K h
  obtain rfl := ki_Instr_K h'
  go_enter Try.func147, Try.ntmps147
  go_wp2
  go_ret
  exact ⟨rfl, (by repeat (with_reducible first | exact Upd.refl _ _ | apply Upd.put2 | apply Upd.put1 | apply Upd.put0 | apply Upd.alloc | apply Upd.drewN | apply Upd.drew))⟩
set_option maxHeartbeats 1000000 in
set_option maxRecDepth 100000 in
theorem eqS_Instr (l : List GInstr) (A A' : Option Addr) (c c' : Nat) (w : World) (h : C ki_Instr w A l) (h' : C ki_Instr w A' l) : Calls Try.prog 107 #[.slice A l.length c, .slice A' l.length c'] w (RetBool true w) := by
  have hn := h.1
  have H := Sd.mk h
  have H' := Sd.mk h'
  clear h h'
  go_enter Try.func107, Try.ntmps107
  go_wp2
  go_loopg [5] l.length (fun k v wr => ∃ i : Nat, i + k = l.length ∧ v = .int .i64 i ∧ Sd (Upd No w wr))
  case atStart => exact ⟨0, by omega, rfl, ⟨Upd.refl _ _⟩⟩
  case round =>
    obtain ⟨i, hi, rfl, HU⟩ := hrel
    by_cases hlt : i < l.length
    · obtain ⟨ad, rfl, a0, a1, a2, a3, a4, a5⟩ := ki_Instr_at (C_upd HU.out H.out) i hlt
      obtain ⟨ad', rfl, z0, z1, z2, z3, z4, z5⟩ := ki_Instr_at (C_upd HU.out H'.out) i hlt
      go_wp2_with fail
      go_still_tail 8, (by kernel_rfl)
      change wpList _ _ _ _ _ wr.drew
      have HW : Sd (Upd No wr wr.drew) := ⟨(Upd.refl _ _).drew⟩
      have HU2 : Sd (Upd No w wr.drew) := ⟨HU.out.drew⟩
      generalize wr.drew = w2 at *
      go_wp2_with (go_at_call 147; (with_reducible refine (eq_Instr l[i] _ _ _ (ki_Instr_Kmk _ _) (ki_Instr_Kmk _ _)).mono ?_); rintro e w' ⟨rfl, hu⟩)
      have HU3 := Sd.mk (HU2.out.then hu)
      clear HU2 hu
      go_wp2
      go_roundg (gk - 1)
      case measure => omega
      case rel => exact ⟨i + 1, by omega, by go_num, HU3⟩
    · go_wp2
      go_ret
      exact ⟨rfl, HU.out⟩
set_option maxHeartbeats 1000000 in
set_option maxRecDepth 100000 in
theorem markS_Instr (l : List GInstr) (k : Int) (F : Nat → Prop) (v : Value) (w : World) (h : R ki_Instr 221 w F v l) (hk : 0 ≤ k) (hb : k + cntS cnt_Instr l ≤ 4611686018427387904) : Calls Try.prog 111 #[v, .int .i64 k] w (Marks ki_Instr 221 F v (k + cntS cnt_Instr l) (mkS mk_Instr cnt_Instr k l) w) := by
  obtain ⟨A, c, rfl⟩ := R_slice h
  have hn := R_len h
  have H := Sd.mk h
  clear h
  go_enter Try.func111, Try.ntmps111
  go_wp2
  go_loopg [1, 5] l.length (fun r u v wr => ∃ i : Nat, i + r = l.length ∧ u = .int .i64 (k + cntS cnt_Instr (l.take i)) ∧ v = .int .i64 i ∧ Sd (R ki_Instr 221 wr F (.slice A l.length c) (upTo (mkS mk_Instr cnt_Instr k l) l i)) ∧ Sd (Upd F w wr))
  case atStart => exact ⟨0, by omega, by simp [cntS], rfl, ⟨by rw [upTo_zero]; exact H.out⟩, ⟨Upd.refl _ _⟩⟩
  case round =>
    obtain ⟨i, hi, rfl, rfl, HR, HU⟩ := hrel
    by_cases hlt : i < l.length
    · have hle := cntS_le cnt_Instr cnt_Instr_nn l i
      have hst := cntS_take cnt_Instr l i hlt
      have hle2 := cntS_le cnt_Instr cnt_Instr_nn l (i + 1)
      rw [hst] at hle2
      have HST := Sd.mk hst
      clear hst
      have HMA := Sd.mk (mkS_at mk_Instr cnt_Instr l k i hlt)
      obtain ⟨g, cap, cur, ce, Fi, hv, hcap, hat, hM, hg, hFi, hFg, close⟩ := R_elem HR.out 6 l.length rfl (upTo_len (mkS_len _ _ _ _) (by omega)) i l[i] (upTo_at (mkS_len _ _ _ _) hlt)
      cases hv
      obtain rfl := ki_Instr_M hM
      have HCN : Sd (cnt_Instr l[i] = cnt_Instr l[i]) := ⟨rfl⟩
      simp only [cnt_Instr] at hle2
      generalize hq : k + cntS cnt_Instr (l.take i) = q at *
      have HQ := Sd.mk hq
      have hq0 : 0 ≤ q := by omega
      have hqb : q + ((((((0 + 1) + 1) + 1) + 1) + 1) + 1) ≤ 4611686018427387904 := by omega
      clear hq hle hle2 hb
      have HAT := Sd.mk hat
      have x0_s := hat.cell0 _ rfl
      have x1_s := hat.cell 1 _ rfl
      have x2_s := hat.cell 2 _ rfl
      have x3_s := hat.cell 3 _ rfl
      have x4_s := hat.cell 4 _ rfl
      have x5_s := hat.cell 5 _ rfl
      have f0_s := hat.free (i * 6)
      have f1_s := hat.free (i * 6 + 1)
      have f2_s := hat.free (i * 6 + 2)
      have f3_s := hat.free (i * 6 + 3)
      have f4_s := hat.free (i * 6 + 4)
      have f5_s := hat.free (i * 6 + 5)
      have CL := Sd.mk close
      clear hat close hM HR
      go_wp2_with fail
      with_reducible refine (markText_c _ _ (by omega) (by omega)).mono ?_
      rintro e w_Name ⟨rfl, hu⟩
      replace HAT := Sd.mk ((((((HAT.out.set0 (by decide) (.int .i64 (q))).set 1 (by decide) (.int .i64 ((q + 1)))).set 2 (by decide) (.int .i64 (((q + 1) + 1)))).set 3 (by decide) (.int .i64 ((((q + 1) + 1) + 1)))).set 4 (by decide) (.int .i64 (((((q + 1) + 1) + 1) + 1)))).call hu (fun _ q => q.elim) hFg)
      clear hu x0_s f0_s x1_s f1_s x2_s f2_s x3_s f3_s x4_s f4_s x5_s f5_s
      have x0_Name := HAT.out.cell0 _ rfl
      have x1_Name := HAT.out.cell 1 _ rfl
      have x2_Name := HAT.out.cell 2 _ rfl
      have x3_Name := HAT.out.cell 3 _ rfl
      have x4_Name := HAT.out.cell 4 _ rfl
      have x5_Name := HAT.out.cell 5 _ rfl
      have f0_Name := HAT.out.free (i * 6)
      have f1_Name := HAT.out.free (i * 6 + 1)
      have f2_Name := HAT.out.free (i * 6 + 2)
      have f3_Name := HAT.out.free (i * 6 + 3)
      have f4_Name := HAT.out.free (i * 6 + 4)
      have f5_Name := HAT.out.free (i * 6 + 5)
      go_wp2
      have HA := (HAT.out.set 5 (by decide) (.string (mtx ((((((q + 1) + 1) + 1) + 1) + 1)))))
      have hy : (⟨q, (q + 1), ((q + 1) + 1), (((q + 1) + 1) + 1), ((((q + 1) + 1) + 1) + 1), mtx ((((((q + 1) + 1) + 1) + 1) + 1))⟩ : GInstr) = (mkS mk_Instr cnt_Instr k l)[i]'(by rw [mkS_len]; exact hlt) := by rw [HMA.out]; simp only [mk_Instr]
      have HRowB := CL.out _ _ (⟨q, (q + 1), ((q + 1) + 1), (((q + 1) + 1) + 1), ((((q + 1) + 1) + 1) + 1), mtx ((((((q + 1) + 1) + 1) + 1) + 1))⟩ : GInstr) Fi F HA (ki_Instr_mk _ Fi (⟨q, (q + 1), ((q + 1) + 1), (((q + 1) + 1) + 1), ((((q + 1) + 1) + 1) + 1), mtx ((((((q + 1) + 1) + 1) + 1) + 1))⟩ : GInstr)) (fun _ hb => .inl hb) (fun _ hb => hb) hFi
      rw [hy, upTo_set (mkS_len _ _ _ _) hlt] at HRowB
      go_roundg (gk - 1)
      case measure => omega
      case rel => exact ⟨i + 1, by omega, by rw [HST.out]; simp only [cnt_Instr]; have := HQ.out; exact congrArg (Value.int .i64) (by omega), by go_num, ⟨HRowB⟩, ⟨HU.out.trans HA.upd (fun _ _ hb => hb) (fun b _ hb => by rcases hb with rfl | hb; exact hg; exact hFi b hb)⟩⟩
    · go_wp2
      go_ret
      have HRowB := HR.out
      rw [upTo_end (mkS_len _ _ _ _) (by omega)] at HRowB
      have e : l.take i = l := List.take_of_length_le (by omega)
      exact ⟨ret_int (by rw [e]), HRowB, HU.out⟩
set_option maxHeartbeats 1000000 in
set_option maxRecDepth 100000 in
theorem heldS_Instr (l : List GInstr) (k : Int) (A : Option Addr) (c : Nat) (w : World) (h : C ki_Instr w A (mkS mk_Instr cnt_Instr k l)) (hk : 0 ≤ k) (hb : k + cntS cnt_Instr l ≤ 4611686018427387904) : Calls Try.prog 112 #[.slice A l.length c, .int .i64 k] w (RetInt (k + cntS cnt_Instr l) w) := by
  have hn := h.1
  rw [mkS_len] at hn
  have H := Sd.mk h
  clear h
  go_enter Try.func112, Try.ntmps112
  go_wp2
  go_loopg [1, 5] l.length (fun r u v wr => ∃ i : Nat, i + r = l.length ∧ u = .int .i64 (k + cntS cnt_Instr (l.take i)) ∧ v = .int .i64 i ∧ Sd (Upd No w wr))
  case atStart => exact ⟨0, by omega, by simp [cntS], rfl, ⟨Upd.refl _ _⟩⟩
  case round =>
    obtain ⟨i, hi, rfl, rfl, HU⟩ := hrel
    by_cases hlt : i < l.length
    · have hle := cntS_le cnt_Instr cnt_Instr_nn l i
      have hst := cntS_take cnt_Instr l i hlt
      have hle2 := cntS_le cnt_Instr cnt_Instr_nn l (i + 1)
      rw [hst] at hle2
      have HST := Sd.mk hst
      clear hst
      obtain ⟨ad, rfl, a0, a1, a2, a3, a4, a5⟩ := ki_Instr_at (C_upd HU.out H.out) i (by rw [mkS_len]; exact hlt)
      rw [mkS_at mk_Instr cnt_Instr l k i hlt] at a0 a1 a2 a3 a4 a5
      simp only [mk_Instr] at a0 a1 a2 a3 a4 a5
      simp only [cnt_Instr] at hle2
      generalize hq : k + cntS cnt_Instr (l.take i) = q at *
      have HQ := Sd.mk hq
      have hq0 : 0 ≤ q := by omega
      have hqb : q + ((((((0 + 1) + 1) + 1) + 1) + 1) + 1) ≤ 4611686018427387904 := by omega
      clear hq hle hle2 hb
      have HX := Sd.mk (Upd.refl No wr)
      go_wp2_with fail
      go_region_held3 (fun w' => w'.cell? ⟨(ad.add (i * 6)).block, (ad.add (i * 6)).off + 5, none⟩ = some (.string (mtx (((((q + 1) + 1) + 1) + 1) + 1)))) (first | exact a5 | exact hu_Name.read a5) (first | (go_at_call 109; (with_reducible refine (markText_c _ _ (by omega) (by omega)).mono ?_); rintro e w_Name ⟨rfl, hu_Name⟩))
      rename_i hH_Name
      clear hH_Name
      have HY : Sd (Upd No wr w_Name) := Sd.mk ((Upd.refl _ _).drew.then hu_Name)
      clear hu_Name
      replace a0 := HY.out.read a0
      replace a1 := HY.out.read a1
      replace a2 := HY.out.read a2
      replace a3 := HY.out.read a3
      replace a4 := HY.out.read a4
      replace a5 := HY.out.read a5
      replace HX := Sd.mk (HX.out.then HY.out)
      clear HY
      go_wp2
      go_roundg (gk - 1)
      case measure => omega
      case rel => exact ⟨i + 1, by omega, by rw [HST.out]; simp only [cnt_Instr]; have := HQ.out; exact congrArg (Value.int .i64) (by omega), by go_num, ⟨HU.out.then HX.out⟩⟩
    · go_wp2
      go_ret
      have e : l.take i = l := List.take_of_length_le (by omega)
      exact ⟨ret_int (by rw [e]), HU.out⟩
end Go.Proofs.YtfnedoiplblldaaFam
