/- The contracts of the laws' own functions over Outgoing: to, sz, eq, mark, held. No conditions beyond the sizes that the contracts name. -/
import Derived.Test.YtfnedoiplblldaaGreatProg
import Derived.Test.YtfnedoiplblldaaGreatSep2
import Derived.Test.YtfnedoiplblldaaGreatLst
import Derived.WalkKit
import Derived.KernelRfl
import Derived.RowKit3
import Derived.Deep.LoopGhost
import Derived.Deep.QuietTactic
import Derived.BigQuiet
import Derived.StillTailTactics
import Derived.Test.YtfnedoiplblldaaGreatK
import Derived.Deep.RegionHeld3
import Derived.Test.YtfnedoiplblldaaGreatFamWire
import Derived.Test.YtfnedoiplblldaaGreatFamTag
import Derived.Test.YtfnedoiplblldaaGreatFamMessage
import Derived.Test.YtfnedoiplblldaaGreatFamText
namespace Go.Proofs.YtfnedoiplblldaaGreatFam
open Go.RowKit Go.Proofs.YtfnedoiplblldaaGreatSep Go.Proofs.YtfnedoiplblldaaGreatT Go.Proofs.YtfnedoiplblldaaGreatK
set_option linter.unusedVariables false
set_option linter.unusedSimpArgs false
theorem kl_Outgoing_Kmk (w : World) (x : GOutgoing) {A6 : Option Addr} {c6 : Nat} (hl6 : x.Message.Args.length ≤ c6) (hC6 : C kl_Wire w A6 x.Message.Args) : kl_Outgoing.K w x [.int .i64 x.To, .int .i64 x.Message.Kind, .int .i64 x.Message.Pos, .int .i64 x.Message.Answer, .int .i64 x.Message.Question, .string x.Message.Name, .slice A6 x.Message.Args.length c6, .int .i64 x.Message.Value.Kind, .int .i64 x.Message.Value.N, .int .i64 x.Message.Count, .int .i64 x.Message.Tag.Vat, .int .i64 x.Message.Tag.Entity, .int .i64 x.Message.Tag.Seq] := ⟨[_], [_, _, _, _, _, _, _, _, _, _, _, _], rfl, rfl, (kl_Message_Kmk w _ hl6 hC6)⟩
theorem ki_Outgoing_Kmk (w : World) (x : GOutgoing) {A6 : Option Addr} {c6 : Nat} (hl6 : x.Message.Args.length ≤ c6) (hC6 : C ki_Wire w A6 x.Message.Args) : ki_Outgoing.K w x [.int .i64 x.To, .int .i64 x.Message.Kind, .int .i64 x.Message.Pos, .int .i64 x.Message.Answer, .int .i64 x.Message.Question, .string x.Message.Name, .slice A6 x.Message.Args.length c6, .int .i64 x.Message.Value.Kind, .int .i64 x.Message.Value.N, .int .i64 x.Message.Count, .int .i64 x.Message.Tag.Vat, .int .i64 x.Message.Tag.Entity, .int .i64 x.Message.Tag.Seq] := ⟨[_], [_, _, _, _, _, _, _, _, _, _, _, _], rfl, rfl, (ki_Message_Kmk w _ hl6 hC6)⟩
set_option maxHeartbeats 1000000 in
set_option maxRecDepth 100000 in
theorem to_Outgoing (x : GOutgoing) (cs : List Value) (w : World) (h : kl_Outgoing.K w x cs) (hs : szn_Outgoing x ≤ 1048576) : Calls Tryz.prog 163 #[.agg cs.toArray] w (RetAgg ki_Outgoing x w) := by
  obtain ⟨A6, c6, rfl, hl6, hC6⟩ := kl_Outgoing_K h
  have HC6 := Sd.mk hC6
  clear hC6
  have s_Message : szn_Message x.Message ≤ 1048576 := by unfold szn_Outgoing at hs; omega
  clear hs
  go_enter Tryz.func163, Tryz.ntmps163
  go_wp2_with fail
  with_reducible refine (to_Message x.Message _ _ (kl_Message_Kmk _ _ hl6 ?hc_Message) s_Message).mono ?_
  case hc_Message => exact C_upd (by repeat (with_reducible first | exact Upd.refl _ _ | apply Upd.put2 | apply Upd.put1 | apply Upd.put0 | apply Upd.alloc | apply Upd.drewN | apply Upd.drew)) HC6.out
  rintro e w_Message ⟨cs_Message, rfl, hM, hu⟩
  obtain ⟨v6, Q6, rfl, hR6, i6⟩ := ki_Message_M hM
  obtain ⟨B6, b6, rfl⟩ := R_slice hR6
  replace hR6 := R_mono i6 hR6
  clear i6 hM
  obtain ⟨P6, hR6', g6, l6⟩ := fresh_row hR6 (w.heap.size + 1 + 1 + 1) (by first | omega | (simp; done) | (simp; omega))
  have ge6 : ∀ b, P6 b → w.heap.size + 1 + 1 < b := fun b hb => by have := g6 b hb; omega
  have n1_6 : ¬ P6 (w.heap.size + 1) := fun q => by have := ge6 _ q; omega
  have n2_6 : ¬ P6 (w.heap.size + 1 + 1) := fun q => by have := ge6 _ q; omega
  have HR6 := Sd.mk hR6'
  have GE6 := Sd.mk ge6
  have LT6 := Sd.mk l6
  have GP6 := Sd.mk g6
  clear hR6 hR6' ge6 l6 g6
  have HB_Message : Sd (Upd No w w_Message) := Sd.mk (Upd.then (by repeat (with_reducible first | exact Upd.refl _ _ | apply Upd.put2 | apply Upd.put1 | apply Upd.put0 | apply Upd.alloc | apply Upd.drewN | apply Upd.drew)) hu)
  have cc0_Message := fun o => hu.cellsF (b := w.heap.size) (by first | omega | (simp; done) | (simp; omega)) (fun q => q) o
  have cc1_Message := fun o => hu.cellsF (b := w.heap.size + 1) (by first | omega | (simp; done) | (simp; omega)) (fun q => q) o
  have cf1_Message := fun o => hu.frozenF (b := w.heap.size + 1) (by first | omega | (simp; done) | (simp; omega)) (fun q => q) o
  have cc2_Message := fun o => hu.cellsF (b := w.heap.size + 1 + 1) (by first | omega | (simp; done) | (simp; omega)) (fun q => q) o
  have cf2_Message := fun o => hu.frozenF (b := w.heap.size + 1 + 1) (by first | omega | (simp; done) | (simp; omega)) (fun q => q) o
  have hz_Message : w.heap.size + 1 + 1 + 1 ≤ w_Message.heap.size := by have := hu.size; (try simp at this); omega
  clear hu
  go_wp2
  refine bodyPost_ret (v := .agg #[.int .i64 x.To, .int .i64 x.Message.Kind, .int .i64 x.Message.Pos, .int .i64 x.Message.Answer, .int .i64 x.Message.Question, .string x.Message.Name, .slice B6 x.Message.Args.length b6, .int .i64 x.Message.Value.Kind, .int .i64 x.Message.Value.N, .int .i64 x.Message.Count, .int .i64 x.Message.Tag.Vat, .int .i64 x.Message.Tag.Entity, .int .i64 x.Message.Tag.Seq]) (by simp [results, Tryz.results163, go_sem, cc1_Message]) rfl ⟨_, rfl, ?_, (by repeat (with_reducible first | exact HB_Message.out | apply Upd.put2 | apply Upd.put1 | apply Upd.put0 | apply Upd.alloc | apply Upd.drewN | apply Upd.drew))⟩
  exact ki_Outgoing_mk _ _ _ (R_keep HR6.out (by repeat (with_reducible first | exact Upd.refl _ _ | apply Upd.putP n1_6 | apply Upd.putP n2_6 | apply Upd.alloc))) (fun k hk => by have := GE6.out k hk; simp only [New]; omega)
set_option maxHeartbeats 1000000 in
set_option maxRecDepth 100000 in
theorem toS_Outgoing (l : List GOutgoing) (A : Option Addr) (c : Nat) (w : World) (h : C kl_Outgoing w A l) (hs : sznS szn_Outgoing l ≤ 1048576) : Calls Tryz.prog 96 #[.slice A l.length c] w (RetRow ki_Outgoing 147 l w) := by
  have hn : l.length ≤ 1048576 := by unfold sznS at hs; omega
  have hmk := run_made (P := Tryz.prog) _ _ _ Tryz.underlying66 ki_Outgoing_info l.length hn (by decide)
  have H := Sd.mk h
  have HS := Sd.mk hs
  clear h hs
  go_enter Tryz.func96, Tryz.ntmps96
  go_wp2
  clear hmk
  have HR : Sd (R ki_Outgoing 147 (w.alloc (madeObj (.agg #[.int .i64 0, .int .i64 0, .int .i64 0, .int .i64 0, .int .i64 0, .string ⟨#[]⟩, .slice none 0 0, .int .i64 0, .int .i64 0, .int .i64 0, .int .i64 0, .int .i64 0, .int .i64 0]) (l.length * 13) 147)) (New w) (.slice (some ⟨w.heap.size, 0, none⟩) l.length l.length) (List.replicate l.length zOutgoing)) := Sd.mk (R_made (d := ki_Outgoing) (e := 147) w (.agg #[.int .i64 0, .int .i64 0, .int .i64 0, .int .i64 0, .int .i64 0, .string ⟨#[]⟩, .slice none 0 0, .int .i64 0, .int .i64 0, .int .i64 0, .int .i64 0, .int .i64 0, .int .i64 0]) zOutgoing rfl (by decide) ki_Outgoing_zero l.length hn)
  have HU := Sd.mk ((Upd.refl No w).alloc (madeObj (.agg #[.int .i64 0, .int .i64 0, .int .i64 0, .int .i64 0, .int .i64 0, .string ⟨#[]⟩, .slice none 0 0, .int .i64 0, .int .i64 0, .int .i64 0, .int .i64 0, .int .i64 0, .int .i64 0]) (l.length * 13) 147))
  go_loopg [4] l.length (fun k v wr => ∃ i : Nat, i + k = l.length ∧ v = .int .i64 i ∧ Sd (R ki_Outgoing 147 wr (New w) (.slice (some ⟨w.heap.size, 0, none⟩) l.length l.length) (upTo l (List.replicate l.length zOutgoing) i)) ∧ Sd (Upd No w wr))
  case atStart => exact ⟨0, by omega, rfl, ⟨by rw [upTo_zero]; exact HR.out⟩, HU⟩
  case round =>
    clear HR HU
    obtain ⟨i, hi, rfl, HR, HU⟩ := hrel
    by_cases hlt : i < l.length
    · obtain ⟨ad, A6, c6, rfl, a0, a1, a2, a3, a4, a5, a6, a7, a8, a9, a10, a11, a12, hl6, hC6⟩ := kl_Outgoing_at (C_upd HU.out H.out) i hlt
      have HC6 := Sd.mk hC6
      clear hC6
      have hsi : szn_Outgoing l[i] ≤ 1048576 := by have := HS.out; have := sumS_at szn_Outgoing l i hlt; unfold sznS at *; omega
      go_wp2_with fail
      with_reducible refine (to_Outgoing l[i] _ _ (kl_Outgoing_Kmk _ _ hl6 HC6.out) hsi).mono ?_
      rintro e w1 ⟨cs, rfl, hM, hu⟩
      obtain ⟨v6, P6, rfl, hR6, i6⟩ := ki_Outgoing_M (ki_Outgoing.M_lt hM)
      obtain ⟨D6, d6, rfl⟩ := R_slice hR6
      have HRowA := R_upd hu (fun _ _ q => q) (R_lt HR.out)
      have HU1 := Sd.mk (HU.out.then hu)
      have hzw := HU.out.size
      have HR6 := Sd.mk hR6
      have I6 := Sd.mk i6
      clear HR HU hM hu hR6 i6
      obtain ⟨g, cap, cur, ce, Fi, hv, hcap, hat, hM, hg, hFi, hFg, close⟩ := R_elem HRowA 13 l.length rfl (by rw [upTo_len (by simp) (by simp; omega)]; simp) i zOutgoing (by rw [upTo_at (by simp) (by simpa using hlt)]; simp)
      cases hv
      obtain ⟨y6, _, rfl, -⟩ := ki_Outgoing_M hM
      have HAT := Sd.mk hat
      have x0 := hat.cell0 _ rfl
      have x1 := hat.cell 1 _ rfl
      have x2 := hat.cell 2 _ rfl
      have x3 := hat.cell 3 _ rfl
      have x4 := hat.cell 4 _ rfl
      have x5 := hat.cell 5 _ rfl
      have x6 := hat.cell 6 _ rfl
      have x7 := hat.cell 7 _ rfl
      have x8 := hat.cell 8 _ rfl
      have x9 := hat.cell 9 _ rfl
      have x10 := hat.cell 10 _ rfl
      have x11 := hat.cell 11 _ rfl
      have x12 := hat.cell 12 _ rfl
      have f0 := hat.free (i * 13)
      have f1 := hat.free (i * 13 + 1)
      have f2 := hat.free (i * 13 + 2)
      have f3 := hat.free (i * 13 + 3)
      have f4 := hat.free (i * 13 + 4)
      have f5 := hat.free (i * 13 + 5)
      have f6 := hat.free (i * 13 + 6)
      have f7 := hat.free (i * 13 + 7)
      have f8 := hat.free (i * 13 + 8)
      have f9 := hat.free (i * 13 + 9)
      have f10 := hat.free (i * 13 + 10)
      have f11 := hat.free (i * 13 + 11)
      have f12 := hat.free (i * 13 + 12)
      have CL := Sd.mk close
      clear hat close hM HRowA
      go_wp2
      have HA := ((((((((((((HAT.out.set0 (by decide) (.int .i64 l[i].To)).set 1 (by decide) (.int .i64 l[i].Message.Kind)).set 2 (by decide) (.int .i64 l[i].Message.Pos)).set 3 (by decide) (.int .i64 l[i].Message.Answer)).set 4 (by decide) (.int .i64 l[i].Message.Question)).set 5 (by decide) (.string l[i].Message.Name)).set 6 (by decide) (.slice D6 l[i].Message.Args.length d6)).set 7 (by decide) (.int .i64 l[i].Message.Value.Kind)).set 8 (by decide) (.int .i64 l[i].Message.Value.N)).set 9 (by decide) (.int .i64 l[i].Message.Count)).set 10 (by decide) (.int .i64 l[i].Message.Tag.Vat)).set 11 (by decide) (.int .i64 l[i].Message.Tag.Entity)).set 12 (by decide) (.int .i64 l[i].Message.Tag.Seq)
      have hD6 : ∀ b, P6 b → ¬ (b = w.heap.size ∨ Fi b) := by
        intro b hb q
        have h1 := (I6.out b hb).1
        simp only [New] at h1
        rcases q with rfl | q
        · exact absurd hg.2 (by omega)
        · have h2 := (hFi b q).2
          omega
      have HM := ki_Outgoing_mk _ (fun b => P6 b) l[i] (R_upd HA.upd hD6 HR6.out) (fun k hk => hk)
      have hP1 : ∀ b, (P6 b) → New wr b := by
        intro b hb
        exact (I6.out b hb).1
      have HRowB := CL.out _ _ l[i] _ (New w) HA HM (fun b hb => .inr (fun q => by have h1 := hP1 b hb; have h2 := q.2; simp only [New] at h1; omega)) (fun _ q => q.1) (fun b hb => by have h1 := hP1 b hb; simp only [New] at h1 ⊢; omega)
      rw [upTo_set (by simp) (by simpa using hlt)] at HRowB
      go_roundg (gk - 1)
      case measure => omega
      case rel => exact ⟨i + 1, by omega, by go_num, ⟨HRowB⟩, ⟨by repeat (with_reducible first | exact HU1.out | apply Upd.put0)⟩⟩
    · go_wp2
      go_ret
      have HRowB := HR.out
      rw [upTo_end (by simp) (by simp; omega)] at HRowB
      exact ⟨_, rfl, HRowB, HU.out⟩
set_option maxHeartbeats 1000000 in
set_option maxRecDepth 100000 in
theorem sz_Outgoing (x : GOutgoing) (cs : List Value) (n : Int) (w : World) (h : kl_Outgoing.K w x cs) (hb : Bd_Outgoing x) (h0 : 0 ≤ n) (h1 : n ≤ 1048576) : Calls Tryz.prog 156 #[.agg cs.toArray, .int .i64 n] w (RetSz (szn_Outgoing x) n w) := by
  obtain ⟨A6, c6, rfl, hl6, hC6⟩ := kl_Outgoing_K h
  have HC6 := Sd.mk hC6
  clear hC6
  have b_Message := hb
  unfold Bd_Outgoing at b_Message
  have B_Message := Sd.mk b_Message
  clear b_Message
  go_enter Tryz.func156, Tryz.ntmps156
  go_wp2_with fail
  with_reducible refine (sz_Message x.Message _ _ _ (kl_Message_Kmk _ _ hl6 ?hc_Message) B_Message.out (by omega) (by omega)).mono ?_
  case hc_Message => exact C_upd (by repeat (with_reducible first | exact Upd.refl _ _ | apply Upd.put2 | apply Upd.put1 | apply Upd.put0 | apply Upd.alloc | apply Upd.drewN | apply Upd.drew)) HC6.out
  rintro e w_Message ⟨r_Message, rfl, hr_Message, hu⟩
  have HB_Message : Sd (Upd No w w_Message) := Sd.mk (Upd.then (by repeat (with_reducible first | exact Upd.refl _ _ | apply Upd.put2 | apply Upd.put1 | apply Upd.put0 | apply Upd.alloc | apply Upd.drewN | apply Upd.drew)) hu)
  have cc0_Message := fun o => hu.cellsF (b := w.heap.size) (by first | omega | (simp; done) | (simp; omega)) (fun q => q) o
  have hz_Message : w.heap.size + 1 ≤ w_Message.heap.size := by have := hu.size; (try simp at this); omega
  clear hu
  rcases hr_Message with ⟨q_Message, rfl⟩ | ⟨q_Message, rfl⟩
  case inr =>
    go_wp2
    go_ret
    exact ⟨_, rfl, .inr ⟨by unfold szn_Outgoing; omega, rfl⟩, (by repeat (with_reducible first | exact HB_Message.out | apply Upd.put2 | apply Upd.put1 | apply Upd.put0 | apply Upd.alloc | apply Upd.drewN | apply Upd.drew))⟩
  go_wp2
  go_ret
  exact ⟨_, rfl, .inl ⟨by unfold szn_Outgoing; omega, by unfold szn_Outgoing; omega⟩, (by repeat (with_reducible first | exact HB_Message.out | apply Upd.put2 | apply Upd.put1 | apply Upd.put0 | apply Upd.alloc | apply Upd.drewN | apply Upd.drew))⟩
set_option maxHeartbeats 1000000 in
set_option maxRecDepth 100000 in
theorem szS_Outgoing (l : List GOutgoing) (A : Option Addr) (c : Nat) (n : Int) (w : World) (h : C kl_Outgoing w A l) (hb : ∀ y ∈ l, Bd_Outgoing y) (h0 : 0 ≤ n) (h1 : n ≤ 1048576) : Calls Tryz.prog 88 #[.slice A l.length c, .int .i64 n] w (RetSz (sznS szn_Outgoing l) n w) := by
  have hn := h.1
  have H := Sd.mk h
  clear h
  have HBD := Sd.mk hb
  clear hb
  go_enter Tryz.func88, Tryz.ntmps88
  by_cases q0 : (l.length : Int) ≤ n
  case neg =>
    go_wp2
    go_ret
    exact ⟨_, rfl, .inr ⟨by unfold sznS; omega, rfl⟩, Upd.refl _ _⟩
  go_wp2
  go_loopg [1, 5] l.length (fun k u v wr => ∃ i : Nat, i + k = l.length ∧ (sumS szn_Outgoing (l.take i) : Int) ≤ n - l.length ∧ u = .int .i64 (n - l.length - sumS szn_Outgoing (l.take i)) ∧ v = .int .i64 i ∧ Sd (Upd No w wr))
  case atStart => exact ⟨0, by omega, by simp [sumS]; omega, by simp [sumS], rfl, ⟨Upd.refl _ _⟩⟩
  case round =>
    obtain ⟨i, hi, hle, rfl, rfl, HU⟩ := hrel
    by_cases hlt : i < l.length
    · obtain ⟨ad, A6, c6, rfl, a0, a1, a2, a3, a4, a5, a6, a7, a8, a9, a10, a11, a12, hl6, hC6⟩ := kl_Outgoing_at (C_upd HU.out H.out) i hlt
      have HC6 := Sd.mk hC6
      clear hC6
      have hst := sumS_step szn_Outgoing l i hlt
      have HST := Sd.mk (sumS_take szn_Outgoing l i hlt)
      generalize hs : sumS szn_Outgoing (l.take i) = s at *
      have HS := Sd.mk hs
      clear hs
      go_wp2_with fail
      with_reducible refine (sz_Outgoing l[i] _ _ _ (kl_Outgoing_Kmk _ _ hl6 HC6.out) (HBD.out _ (List.getElem_mem hlt)) (by omega) (by omega)).mono ?_
      rintro e w1 ⟨r, rfl, hr, hu⟩
      have HU1 := Sd.mk (HU.out.then hu)
      clear hu HU
      rcases hr with ⟨q, rfl⟩ | ⟨q, rfl⟩
      · go_wp2
        go_roundg (gk - 1)
        case measure => omega
        case rel => exact ⟨i + 1, by omega, by rw [HST.out]; omega, by rw [HST.out]; exact congrArg (Value.int .i64) (by omega), by go_num, HU1⟩
      · go_wp2
        go_ret
        exact ⟨_, rfl, .inr ⟨by unfold sznS; omega, rfl⟩, HU1.out⟩
    · go_wp2
      go_ret
      have e : l.take i = l := List.take_of_length_le (by omega)
      rw [e] at hle
      exact ⟨_, rfl, .inl ⟨by unfold sznS; omega, by rw [e]; unfold sznS; omega⟩, HU.out⟩
set_option maxHeartbeats 1000000 in
set_option maxRecDepth 100000 in
theorem eq_Outgoing (x : GOutgoing) (cs cs' : List Value) (w : World) (h : ki_Outgoing.K w x cs) (h' : ki_Outgoing.K w x cs') : Calls Tryz.prog 172 #[.agg cs.toArray, .agg cs'.toArray] w (RetBool true w) := by
  obtain ⟨A6, c6, rfl, hl6, hC6⟩ := ki_Outgoing_K h
  have HC6 := Sd.mk hC6
  clear hC6
  obtain ⟨B6, b6, rfl, hm6, hD6⟩ := ki_Outgoing_K h'
  have HD6 := Sd.mk hD6
  clear hD6
  go_enter Tryz.func172, Tryz.ntmps172
  go_wp2_with fail
  with_reducible refine (eq_Message x.Message _ _ _ (ki_Message_Kmk _ _ hl6 ?hc_Message) (ki_Message_Kmk _ _ hm6 ?hd_Message)).mono ?_
  case hc_Message => exact C_upd (by repeat (with_reducible first | exact Upd.refl _ _ | apply Upd.put2 | apply Upd.put1 | apply Upd.put0 | apply Upd.alloc | apply Upd.drewN | apply Upd.drew)) HC6.out
  case hd_Message => exact C_upd (by repeat (with_reducible first | exact Upd.refl _ _ | apply Upd.put2 | apply Upd.put1 | apply Upd.put0 | apply Upd.alloc | apply Upd.drewN | apply Upd.drew)) HD6.out
  rintro e w_Message ⟨rfl, hu⟩
  have HB_Message : Sd (Upd No w w_Message) := Sd.mk (Upd.then (by repeat (with_reducible first | exact Upd.refl _ _ | apply Upd.put2 | apply Upd.put1 | apply Upd.put0 | apply Upd.alloc | apply Upd.drewN | apply Upd.drew)) hu)
  have cc0_Message := fun o => hu.cellsF (b := w.heap.size) (by first | omega | (simp; done) | (simp; omega)) (fun q => q) o
  have cc1_Message := fun o => hu.cellsF (b := w.heap.size + 1) (by first | omega | (simp; done) | (simp; omega)) (fun q => q) o
  have hz_Message : w.heap.size + 1 + 1 ≤ w_Message.heap.size := by have := hu.size; (try simp at this); omega
  clear hu
  go_wp2
  go_ret
  exact ⟨rfl, (by repeat (with_reducible first | exact HB_Message.out | apply Upd.put2 | apply Upd.put1 | apply Upd.put0 | apply Upd.alloc | apply Upd.drewN | apply Upd.drew))⟩
set_option maxHeartbeats 1000000 in
set_option maxRecDepth 100000 in
theorem eqS_Outgoing (l : List GOutgoing) (A A' : Option Addr) (c c' : Nat) (w : World) (h : C ki_Outgoing w A l) (h' : C ki_Outgoing w A' l) : Calls Tryz.prog 105 #[.slice A l.length c, .slice A' l.length c'] w (RetBool true w) := by
  have hn := h.1
  have H := Sd.mk h
  have H' := Sd.mk h'
  clear h h'
  go_enter Tryz.func105, Tryz.ntmps105
  go_wp2
  go_loopg [5] l.length (fun k v wr => ∃ i : Nat, i + k = l.length ∧ v = .int .i64 i ∧ Sd (Upd No w wr))
  case atStart => exact ⟨0, by omega, rfl, ⟨Upd.refl _ _⟩⟩
  case round =>
    obtain ⟨i, hi, rfl, HU⟩ := hrel
    by_cases hlt : i < l.length
    · obtain ⟨ad, A6, c6, rfl, a0, a1, a2, a3, a4, a5, a6, a7, a8, a9, a10, a11, a12, hl6, hC6⟩ := ki_Outgoing_at (C_upd HU.out H.out) i hlt
      obtain ⟨ad', B6, b6, rfl, z0, z1, z2, z3, z4, z5, z6, z7, z8, z9, z10, z11, z12, hm6, hD6⟩ := ki_Outgoing_at (C_upd HU.out H'.out) i hlt
      have HC6 := Sd.mk hC6
      have HD6 := Sd.mk hD6
      clear hC6 hD6
      go_wp2_with fail
      go_still_tail 8, (by kernel_rfl)
      change wpList _ _ _ _ _ wr.drew
      have HW : Sd (Upd No wr wr.drew) := ⟨(Upd.refl _ _).drew⟩
      have HU2 : Sd (Upd No w wr.drew) := ⟨HU.out.drew⟩
      generalize wr.drew = w2 at *
      go_wp2_with (go_at_call 172; (with_reducible refine (eq_Outgoing l[i] _ _ _ (ki_Outgoing_Kmk _ _ hl6 (C_upd HW.out HC6.out)) (ki_Outgoing_Kmk _ _ hm6 (C_upd HW.out HD6.out))).mono ?_); rintro e w' ⟨rfl, hu⟩)
      have HU3 := Sd.mk (HU2.out.then hu)
      clear HU2 hu
      go_wp2
      go_roundg (gk - 1)
      case measure => omega
      case rel => exact ⟨i + 1, by omega, by go_num, HU3⟩
    · go_wp2
      go_ret
      exact ⟨rfl, HU.out⟩
set_option maxHeartbeats 1000000 in
set_option maxRecDepth 100000 in
theorem markS_Outgoing (l : List GOutgoing) (k : Int) (F : Nat → Prop) (v : Value) (w : World) (h : R ki_Outgoing 147 w F v l) (hk : 0 ≤ k) (hb : k + cntS cnt_Outgoing l ≤ 4611686018427387904) : Calls Tryz.prog 110 #[v, .int .i64 k] w (Marks ki_Outgoing 147 F v (k + cntS cnt_Outgoing l) (mkS mk_Outgoing cnt_Outgoing k l) w) := by
  obtain ⟨A, c, rfl⟩ := R_slice h
  have hn := R_len h
  have H := Sd.mk h
  clear h
  go_enter Tryz.func110, Tryz.ntmps110
  go_wp2
  go_loopg [1, 5] l.length (fun r u v wr => ∃ i : Nat, i + r = l.length ∧ u = .int .i64 (k + cntS cnt_Outgoing (l.take i)) ∧ v = .int .i64 i ∧ Sd (R ki_Outgoing 147 wr F (.slice A l.length c) (upTo (mkS mk_Outgoing cnt_Outgoing k l) l i)) ∧ Sd (Upd F w wr))
  case atStart => exact ⟨0, by omega, by simp [cntS], rfl, ⟨by rw [upTo_zero]; exact H.out⟩, ⟨Upd.refl _ _⟩⟩
  case round =>
    obtain ⟨i, hi, rfl, rfl, HR, HU⟩ := hrel
    by_cases hlt : i < l.length
    · have hle := cntS_le cnt_Outgoing cnt_Outgoing_nn l i
      have hst := cntS_take cnt_Outgoing l i hlt
      have hle2 := cntS_le cnt_Outgoing cnt_Outgoing_nn l (i + 1)
      rw [hst] at hle2
      have HST := Sd.mk hst
      clear hst
      have HMA := Sd.mk (mkS_at mk_Outgoing cnt_Outgoing l k i hlt)
      obtain ⟨g, cap, cur, ce, Fi, hv, hcap, hat, hM, hg, hFi, hFg, close⟩ := R_elem HR.out 13 l.length rfl (upTo_len (mkS_len _ _ _ _) (by omega)) i l[i] (upTo_at (mkS_len _ _ _ _) hlt)
      cases hv
      obtain ⟨v6, P6, rfl, hR6, i6⟩ := ki_Outgoing_M hM
      obtain ⟨B6, b6, rfl⟩ := R_slice hR6
      have HR6 := Sd.mk hR6
      have I6 := Sd.mk i6
      have N6 : ¬ P6 g := fun q => hFg (i6 g q)
      clear hR6 i6
      have nn6 := cntS_nn cnt_Wire cnt_Wire_nn l[i].Message.Args
      have HCN : Sd (cnt_Outgoing l[i] = cnt_Outgoing l[i]) := ⟨rfl⟩
      simp only [cnt_Outgoing] at hle2
      generalize hq : k + cntS cnt_Outgoing (l.take i) = q at *
      have HQ := Sd.mk hq
      have hq0 : 0 ≤ q := by omega
      have hqb : q + (((((((((((((0 + 1) + 1) + 1) + 1) + 1) + 1) + cntS cnt_Wire l[i].Message.Args) + 1) + 1) + 1) + 1) + 1) + 1) ≤ 4611686018427387904 := by omega
      clear hq hle hle2 hb
      generalize hcn6 : cntS cnt_Wire l[i].Message.Args = cn6 at *
      have HC6 := Sd.mk hcn6
      clear hcn6
      have HAT := Sd.mk hat
      have x0_s := hat.cell0 _ rfl
      have x1_s := hat.cell 1 _ rfl
      have x2_s := hat.cell 2 _ rfl
      have x3_s := hat.cell 3 _ rfl
      have x4_s := hat.cell 4 _ rfl
      have x5_s := hat.cell 5 _ rfl
      have x6_s := hat.cell 6 _ rfl
      have x7_s := hat.cell 7 _ rfl
      have x8_s := hat.cell 8 _ rfl
      have x9_s := hat.cell 9 _ rfl
      have x10_s := hat.cell 10 _ rfl
      have x11_s := hat.cell 11 _ rfl
      have x12_s := hat.cell 12 _ rfl
      have f0_s := hat.free (i * 13)
      have f1_s := hat.free (i * 13 + 1)
      have f2_s := hat.free (i * 13 + 2)
      have f3_s := hat.free (i * 13 + 3)
      have f4_s := hat.free (i * 13 + 4)
      have f5_s := hat.free (i * 13 + 5)
      have f6_s := hat.free (i * 13 + 6)
      have f7_s := hat.free (i * 13 + 7)
      have f8_s := hat.free (i * 13 + 8)
      have f9_s := hat.free (i * 13 + 9)
      have f10_s := hat.free (i * 13 + 10)
      have f11_s := hat.free (i * 13 + 11)
      have f12_s := hat.free (i * 13 + 12)
      have CL := Sd.mk close
      clear hat close hM HR
      go_wp2_with fail
      with_reducible refine (markText_c _ _ (by omega) (by omega)).mono ?_
      rintro e w_Message_Name ⟨rfl, hu⟩
      replace HR6 := Sd.mk (R_upd hu (fun _ _ q => q) (R_upd (G := fun b => b = g) (by repeat (with_reducible first | exact Upd.refl _ _ | apply Upd.setg)) (fun b hb hg' => N6 (hg' ▸ hb)) HR6.out))
      replace HAT := Sd.mk ((((((HAT.out.set0 (by decide) (.int .i64 (q))).set 1 (by decide) (.int .i64 ((q + 1)))).set 2 (by decide) (.int .i64 (((q + 1) + 1)))).set 3 (by decide) (.int .i64 ((((q + 1) + 1) + 1)))).set 4 (by decide) (.int .i64 (((((q + 1) + 1) + 1) + 1)))).call hu (fun _ q => q.elim) hFg)
      clear hu x0_s f0_s x1_s f1_s x2_s f2_s x3_s f3_s x4_s f4_s x5_s f5_s x6_s f6_s x7_s f7_s x8_s f8_s x9_s f9_s x10_s f10_s x11_s f11_s x12_s f12_s
      have x0_Message_Name := HAT.out.cell0 _ rfl
      have x1_Message_Name := HAT.out.cell 1 _ rfl
      have x2_Message_Name := HAT.out.cell 2 _ rfl
      have x3_Message_Name := HAT.out.cell 3 _ rfl
      have x4_Message_Name := HAT.out.cell 4 _ rfl
      have x5_Message_Name := HAT.out.cell 5 _ rfl
      have x6_Message_Name := HAT.out.cell 6 _ rfl
      have x7_Message_Name := HAT.out.cell 7 _ rfl
      have x8_Message_Name := HAT.out.cell 8 _ rfl
      have x9_Message_Name := HAT.out.cell 9 _ rfl
      have x10_Message_Name := HAT.out.cell 10 _ rfl
      have x11_Message_Name := HAT.out.cell 11 _ rfl
      have x12_Message_Name := HAT.out.cell 12 _ rfl
      have f0_Message_Name := HAT.out.free (i * 13)
      have f1_Message_Name := HAT.out.free (i * 13 + 1)
      have f2_Message_Name := HAT.out.free (i * 13 + 2)
      have f3_Message_Name := HAT.out.free (i * 13 + 3)
      have f4_Message_Name := HAT.out.free (i * 13 + 4)
      have f5_Message_Name := HAT.out.free (i * 13 + 5)
      have f6_Message_Name := HAT.out.free (i * 13 + 6)
      have f7_Message_Name := HAT.out.free (i * 13 + 7)
      have f8_Message_Name := HAT.out.free (i * 13 + 8)
      have f9_Message_Name := HAT.out.free (i * 13 + 9)
      have f10_Message_Name := HAT.out.free (i * 13 + 10)
      have f11_Message_Name := HAT.out.free (i * 13 + 11)
      have f12_Message_Name := HAT.out.free (i * 13 + 12)
      go_wp2_with fail
      with_reducible refine (markS_Wire l[i].Message.Args _ P6 _ _ ?hr_Message_Args (by omega) (by rw [HC6.out]; omega)).mono ?_
      case hr_Message_Args => exact (R_upd (G := fun b => b = g) (by repeat (with_reducible first | exact Upd.refl _ _ | apply Upd.setg)) (fun b hb hg' => N6 (hg' ▸ hb)) HR6.out)
      rintro e w_Message_Args ⟨rfl, hR6, hu⟩
      rw [HC6.out]
      replace HR6 := Sd.mk hR6
      replace HAT := Sd.mk ((HAT.out.set 5 (by decide) (.string (mtx ((((((q + 1) + 1) + 1) + 1) + 1))))).call hu I6.out hFg)
      clear hR6
      clear hu x0_Message_Name f0_Message_Name x1_Message_Name f1_Message_Name x2_Message_Name f2_Message_Name x3_Message_Name f3_Message_Name x4_Message_Name f4_Message_Name x5_Message_Name f5_Message_Name x6_Message_Name f6_Message_Name x7_Message_Name f7_Message_Name x8_Message_Name f8_Message_Name x9_Message_Name f9_Message_Name x10_Message_Name f10_Message_Name x11_Message_Name f11_Message_Name x12_Message_Name f12_Message_Name
      have x0_Message_Args := HAT.out.cell0 _ rfl
      have x1_Message_Args := HAT.out.cell 1 _ rfl
      have x2_Message_Args := HAT.out.cell 2 _ rfl
      have x3_Message_Args := HAT.out.cell 3 _ rfl
      have x4_Message_Args := HAT.out.cell 4 _ rfl
      have x5_Message_Args := HAT.out.cell 5 _ rfl
      have x6_Message_Args := HAT.out.cell 6 _ rfl
      have x7_Message_Args := HAT.out.cell 7 _ rfl
      have x8_Message_Args := HAT.out.cell 8 _ rfl
      have x9_Message_Args := HAT.out.cell 9 _ rfl
      have x10_Message_Args := HAT.out.cell 10 _ rfl
      have x11_Message_Args := HAT.out.cell 11 _ rfl
      have x12_Message_Args := HAT.out.cell 12 _ rfl
      have f0_Message_Args := HAT.out.free (i * 13)
      have f1_Message_Args := HAT.out.free (i * 13 + 1)
      have f2_Message_Args := HAT.out.free (i * 13 + 2)
      have f3_Message_Args := HAT.out.free (i * 13 + 3)
      have f4_Message_Args := HAT.out.free (i * 13 + 4)
      have f5_Message_Args := HAT.out.free (i * 13 + 5)
      have f6_Message_Args := HAT.out.free (i * 13 + 6)
      have f7_Message_Args := HAT.out.free (i * 13 + 7)
      have f8_Message_Args := HAT.out.free (i * 13 + 8)
      have f9_Message_Args := HAT.out.free (i * 13 + 9)
      have f10_Message_Args := HAT.out.free (i * 13 + 10)
      have f11_Message_Args := HAT.out.free (i * 13 + 11)
      have f12_Message_Args := HAT.out.free (i * 13 + 12)
      go_wp2
      have HA := ((((((HAT.out.set 7 (by decide) (.int .i64 ((((((((q + 1) + 1) + 1) + 1) + 1) + 1) + cn6)))).set 8 (by decide) (.int .i64 (((((((((q + 1) + 1) + 1) + 1) + 1) + 1) + cn6) + 1)))).set 9 (by decide) (.int .i64 ((((((((((q + 1) + 1) + 1) + 1) + 1) + 1) + cn6) + 1) + 1)))).set 10 (by decide) (.int .i64 (((((((((((q + 1) + 1) + 1) + 1) + 1) + 1) + cn6) + 1) + 1) + 1)))).set 11 (by decide) (.int .i64 ((((((((((((q + 1) + 1) + 1) + 1) + 1) + 1) + cn6) + 1) + 1) + 1) + 1)))).set 12 (by decide) (.int .i64 (((((((((((((q + 1) + 1) + 1) + 1) + 1) + 1) + cn6) + 1) + 1) + 1) + 1) + 1))))
      have hy : (⟨q, ⟨(q + 1), ((q + 1) + 1), (((q + 1) + 1) + 1), ((((q + 1) + 1) + 1) + 1), mtx ((((((q + 1) + 1) + 1) + 1) + 1)), mkS mk_Wire cnt_Wire ((((((q + 1) + 1) + 1) + 1) + 1) + 1) l[i].Message.Args, ⟨(((((((q + 1) + 1) + 1) + 1) + 1) + 1) + cn6), ((((((((q + 1) + 1) + 1) + 1) + 1) + 1) + cn6) + 1)⟩, (((((((((q + 1) + 1) + 1) + 1) + 1) + 1) + cn6) + 1) + 1), ⟨((((((((((q + 1) + 1) + 1) + 1) + 1) + 1) + cn6) + 1) + 1) + 1), (((((((((((q + 1) + 1) + 1) + 1) + 1) + 1) + cn6) + 1) + 1) + 1) + 1), ((((((((((((q + 1) + 1) + 1) + 1) + 1) + 1) + cn6) + 1) + 1) + 1) + 1) + 1)⟩⟩⟩ : GOutgoing) = (mkS mk_Outgoing cnt_Outgoing k l)[i]'(by rw [mkS_len]; exact hlt) := by rw [HMA.out]; simp only [mk_Outgoing, HC6.out]
      have HRowB := CL.out _ _ (⟨q, ⟨(q + 1), ((q + 1) + 1), (((q + 1) + 1) + 1), ((((q + 1) + 1) + 1) + 1), mtx ((((((q + 1) + 1) + 1) + 1) + 1)), mkS mk_Wire cnt_Wire ((((((q + 1) + 1) + 1) + 1) + 1) + 1) l[i].Message.Args, ⟨(((((((q + 1) + 1) + 1) + 1) + 1) + 1) + cn6), ((((((((q + 1) + 1) + 1) + 1) + 1) + 1) + cn6) + 1)⟩, (((((((((q + 1) + 1) + 1) + 1) + 1) + 1) + cn6) + 1) + 1), ⟨((((((((((q + 1) + 1) + 1) + 1) + 1) + 1) + cn6) + 1) + 1) + 1), (((((((((((q + 1) + 1) + 1) + 1) + 1) + 1) + cn6) + 1) + 1) + 1) + 1), ((((((((((((q + 1) + 1) + 1) + 1) + 1) + 1) + cn6) + 1) + 1) + 1) + 1) + 1)⟩⟩⟩ : GOutgoing) Fi F HA (ki_Outgoing_mk _ Fi (⟨q, ⟨(q + 1), ((q + 1) + 1), (((q + 1) + 1) + 1), ((((q + 1) + 1) + 1) + 1), mtx ((((((q + 1) + 1) + 1) + 1) + 1)), mkS mk_Wire cnt_Wire ((((((q + 1) + 1) + 1) + 1) + 1) + 1) l[i].Message.Args, ⟨(((((((q + 1) + 1) + 1) + 1) + 1) + 1) + cn6), ((((((((q + 1) + 1) + 1) + 1) + 1) + 1) + cn6) + 1)⟩, (((((((((q + 1) + 1) + 1) + 1) + 1) + 1) + cn6) + 1) + 1), ⟨((((((((((q + 1) + 1) + 1) + 1) + 1) + 1) + cn6) + 1) + 1) + 1), (((((((((((q + 1) + 1) + 1) + 1) + 1) + 1) + cn6) + 1) + 1) + 1) + 1), ((((((((((((q + 1) + 1) + 1) + 1) + 1) + 1) + cn6) + 1) + 1) + 1) + 1) + 1)⟩⟩⟩ : GOutgoing) (R_upd (G := fun b => b = g) (by repeat (with_reducible first | exact Upd.refl _ _ | apply Upd.setg)) (fun b hb hg' => N6 (hg' ▸ hb)) HR6.out) I6.out) (fun _ hb => .inl hb) (fun _ hb => hb) hFi
      rw [hy, upTo_set (mkS_len _ _ _ _) hlt] at HRowB
      go_roundg (gk - 1)
      case measure => omega
      case rel => exact ⟨i + 1, by omega, by rw [HST.out]; simp only [cnt_Outgoing]; have := HQ.out; have := HC6.out; exact congrArg (Value.int .i64) (by omega), by go_num, ⟨HRowB⟩, ⟨HU.out.trans HA.upd (fun _ _ hb => hb) (fun b _ hb => by rcases hb with rfl | hb; exact hg; exact hFi b hb)⟩⟩
    · go_wp2
      go_ret
      have HRowB := HR.out
      rw [upTo_end (mkS_len _ _ _ _) (by omega)] at HRowB
      have e : l.take i = l := List.take_of_length_le (by omega)
      exact ⟨ret_int (by rw [e]), HRowB, HU.out⟩
set_option maxHeartbeats 1000000 in
set_option maxRecDepth 100000 in
theorem heldS_Outgoing (l : List GOutgoing) (k : Int) (A : Option Addr) (c : Nat) (w : World) (h : C ki_Outgoing w A (mkS mk_Outgoing cnt_Outgoing k l)) (hk : 0 ≤ k) (hb : k + cntS cnt_Outgoing l ≤ 4611686018427387904) : Calls Tryz.prog 114 #[.slice A l.length c, .int .i64 k] w (RetInt (k + cntS cnt_Outgoing l) w) := by
  have hn := h.1
  rw [mkS_len] at hn
  have H := Sd.mk h
  clear h
  go_enter Tryz.func114, Tryz.ntmps114
  go_wp2
  go_loopg [1, 5] l.length (fun r u v wr => ∃ i : Nat, i + r = l.length ∧ u = .int .i64 (k + cntS cnt_Outgoing (l.take i)) ∧ v = .int .i64 i ∧ Sd (Upd No w wr))
  case atStart => exact ⟨0, by omega, by simp [cntS], rfl, ⟨Upd.refl _ _⟩⟩
  case round =>
    obtain ⟨i, hi, rfl, rfl, HU⟩ := hrel
    by_cases hlt : i < l.length
    · have hle := cntS_le cnt_Outgoing cnt_Outgoing_nn l i
      have hst := cntS_take cnt_Outgoing l i hlt
      have hle2 := cntS_le cnt_Outgoing cnt_Outgoing_nn l (i + 1)
      rw [hst] at hle2
      have HST := Sd.mk hst
      clear hst
      obtain ⟨ad, A6, c6, rfl, a0, a1, a2, a3, a4, a5, a6, a7, a8, a9, a10, a11, a12, hl6, hC6⟩ := ki_Outgoing_at (C_upd HU.out H.out) i (by rw [mkS_len]; exact hlt)
      rw [mkS_at mk_Outgoing cnt_Outgoing l k i hlt] at a0 a1 a2 a3 a4 a5 a6 a7 a8 a9 a10 a11 a12 hl6 hC6
      simp only [mk_Outgoing, mkS_len] at a0 a1 a2 a3 a4 a5 a6 a7 a8 a9 a10 a11 a12 hl6 hC6
      have nn6 := cntS_nn cnt_Wire cnt_Wire_nn l[i].Message.Args
      simp only [cnt_Outgoing] at hle2
      generalize hq : k + cntS cnt_Outgoing (l.take i) = q at *
      have HQ := Sd.mk hq
      have hq0 : 0 ≤ q := by omega
      have hqb : q + (((((((((((((0 + 1) + 1) + 1) + 1) + 1) + 1) + cntS cnt_Wire l[i].Message.Args) + 1) + 1) + 1) + 1) + 1) + 1) ≤ 4611686018427387904 := by omega
      clear hq hle hle2 hb
      generalize hcn6 : cntS cnt_Wire l[i].Message.Args = cn6 at *
      have HN6 := Sd.mk hcn6
      clear hcn6
      have HC6 := Sd.mk hC6
      clear hC6
      have HX := Sd.mk (Upd.refl No wr)
      go_wp2_with fail
      go_region_held3 (fun w' => w'.cell? ⟨(ad.add (i * 13)).block, (ad.add (i * 13)).off + 5, none⟩ = some (.string (mtx (((((q + 1) + 1) + 1) + 1) + 1)))) (first | exact a5 | exact hu_Message_Name.read a5) (first | (go_at_call 83; (with_reducible refine (markText_c _ _ (by omega) (by omega)).mono ?_); rintro e w_Message_Name ⟨rfl, hu_Message_Name⟩))
      rename_i hH_Message_Name
      clear hH_Message_Name
      have HY : Sd (Upd No wr w_Message_Name) := Sd.mk ((Upd.refl _ _).drew.then hu_Message_Name)
      clear hu_Message_Name
      replace a0 := HY.out.read a0
      replace a1 := HY.out.read a1
      replace a2 := HY.out.read a2
      replace a3 := HY.out.read a3
      replace a4 := HY.out.read a4
      replace a5 := HY.out.read a5
      replace a6 := HY.out.read a6
      replace a7 := HY.out.read a7
      replace a8 := HY.out.read a8
      replace a9 := HY.out.read a9
      replace a10 := HY.out.read a10
      replace a11 := HY.out.read a11
      replace a12 := HY.out.read a12
      replace HC6 := Sd.mk (C_upd HY.out HC6.out)
      replace HX := Sd.mk (HX.out.then HY.out)
      clear HY
      go_wp2_with fail
      with_reducible refine (heldS_Wire l[i].Message.Args _ _ _ _ ?hc_Message_Args (by omega) (by rw [HN6.out]; omega)).mono ?_
      case hc_Message_Args => exact HC6.out
      rintro e w_Message_Args ⟨rfl, hu⟩
      rw [HN6.out]
      replace a0 := hu.read a0
      replace a1 := hu.read a1
      replace a2 := hu.read a2
      replace a3 := hu.read a3
      replace a4 := hu.read a4
      replace a5 := hu.read a5
      replace a6 := hu.read a6
      replace a7 := hu.read a7
      replace a8 := hu.read a8
      replace a9 := hu.read a9
      replace a10 := hu.read a10
      replace a11 := hu.read a11
      replace a12 := hu.read a12
      replace HC6 := Sd.mk (C_upd hu HC6.out)
      replace HX := Sd.mk (HX.out.then hu)
      clear hu
      go_wp2
      go_roundg (gk - 1)
      case measure => omega
      case rel => exact ⟨i + 1, by omega, by rw [HST.out]; simp only [cnt_Outgoing]; have := HQ.out; have := HN6.out; exact congrArg (Value.int .i64) (by omega), by go_num, ⟨HU.out.then HX.out⟩⟩
    · go_wp2
      go_ret
      have e : l.take i = l := List.take_of_length_le (by omega)
      exact ⟨ret_int (by rw [e]), HU.out⟩
end Go.Proofs.YtfnedoiplblldaaGreatFam
