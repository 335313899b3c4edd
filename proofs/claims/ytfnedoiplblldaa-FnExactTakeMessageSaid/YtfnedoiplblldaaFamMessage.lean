/- The contracts of the laws' own functions over Message: to, sz, eq, mark, held. No conditions beyond the sizes that the contracts name. -/
import Derived.Test.YtfnedoiplblldaaProg
import Derived.Test.YtfnedoiplblldaaSep2
import Derived.Test.YtfnedoiplblldaaLst
import Derived.WalkKit
import Derived.KernelRfl
import Derived.RowKit3
import Derived.Deep.LoopGhost
import Derived.Deep.QuietTactic
import Derived.BigQuiet
import Derived.StillTailTactics
import Derived.Test.YtfnedoiplblldaaK
import Derived.Deep.RegionHeld3
import Derived.Test.YtfnedoiplblldaaFamWire
import Derived.Test.YtfnedoiplblldaaFamTag
import Derived.Test.YtfnedoiplblldaaFamText
namespace Go.Proofs.YtfnedoiplblldaaFam
open Go.RowKit Go.Proofs.YtfnedoiplblldaaSep Go.Proofs.YtfnedoiplblldaaT Go.Proofs.YtfnedoiplblldaaK
set_option linter.unusedVariables false
set_option linter.unusedSimpArgs false
theorem kl_Message_Kmk (w : World) (x : GMessage) {A5 : Option Addr} {c5 : Nat} (hl5 : x.Args.length ≤ c5) (hC5 : C kl_Wire w A5 x.Args) : kl_Message.K w x [.int .i64 x.Kind, .int .i64 x.Pos, .int .i64 x.Answer, .int .i64 x.Question, .string x.Name, .slice A5 x.Args.length c5, .int .i64 x.Value.Kind, .int .i64 x.Value.N, .int .i64 x.Count, .int .i64 x.Tag.Vat, .int .i64 x.Tag.Entity, .int .i64 x.Tag.Seq] := ⟨[_], [_, _, _, _, _, _, _, _, _, _, _], rfl, rfl, ⟨[_], [_, _, _, _, _, _, _, _, _, _], rfl, rfl, ⟨[_], [_, _, _, _, _, _, _, _, _], rfl, rfl, ⟨[_], [_, _, _, _, _, _, _, _], rfl, rfl, ⟨[_], [_, _, _, _, _, _, _], rfl, rfl, ⟨[_], [_, _, _, _, _, _], rfl, ⟨A5, c5, rfl, hl5, hC5⟩, ⟨[_, _], [_, _, _, _], rfl, (kl_Wire_Kmk w _), ⟨[_], [_, _, _], rfl, rfl, (kl_Tag_Kmk w _)⟩⟩⟩⟩⟩⟩⟩⟩
theorem ki_Message_Kmk (w : World) (x : GMessage) {A5 : Option Addr} {c5 : Nat} (hl5 : x.Args.length ≤ c5) (hC5 : C ki_Wire w A5 x.Args) : ki_Message.K w x [.int .i64 x.Kind, .int .i64 x.Pos, .int .i64 x.Answer, .int .i64 x.Question, .string x.Name, .slice A5 x.Args.length c5, .int .i64 x.Value.Kind, .int .i64 x.Value.N, .int .i64 x.Count, .int .i64 x.Tag.Vat, .int .i64 x.Tag.Entity, .int .i64 x.Tag.Seq] := ⟨[_], [_, _, _, _, _, _, _, _, _, _, _], rfl, rfl, ⟨[_], [_, _, _, _, _, _, _, _, _, _], rfl, rfl, ⟨[_], [_, _, _, _, _, _, _, _, _], rfl, rfl, ⟨[_], [_, _, _, _, _, _, _, _], rfl, rfl, ⟨[_], [_, _, _, _, _, _, _], rfl, rfl, ⟨[_], [_, _, _, _, _, _], rfl, ⟨A5, c5, rfl, hl5, hC5⟩, ⟨[_, _], [_, _, _, _], rfl, (ki_Wire_Kmk w _), ⟨[_], [_, _, _], rfl, rfl, (ki_Tag_Kmk w _)⟩⟩⟩⟩⟩⟩⟩⟩
set_option maxHeartbeats 1000000 in
set_option maxRecDepth 100000 in
theorem to_Message (x : GMessage) (cs : List Value) (w : World) (h : kl_Message.K w x cs) (hs : szn_Message x ≤ 1048576) : Calls Try.prog 159 #[.agg cs.toArray] w (RetAgg ki_Message x w) := by
  obtain ⟨A5, c5, rfl, hl5, hC5⟩ := kl_Message_K h
  have HC5 := Sd.mk hC5
  clear hC5
  have s_Args : sznS szn_Wire x.Args ≤ 1048576 := by unfold szn_Message at hs; omega
  clear hs
  go_enter Try.func159, Try.ntmps159
  go_wp2_with fail
  with_reducible refine (toS_Wire x.Args _ _ _ ?hc_Args s_Args).mono ?_
  case hc_Args => exact C_upd (by repeat (with_reducible first | exact Upd.refl _ _ | apply Upd.put2 | apply Upd.put1 | apply Upd.put0 | apply Upd.alloc | apply Upd.drewN | apply Upd.drew)) HC5.out
  rintro e w_Args ⟨v5, rfl, hR5, hu⟩
  obtain ⟨B5, b5, rfl⟩ := R_slice hR5
  obtain ⟨P5, hR5', g5, l5⟩ := fresh_row hR5 (w.heap.size + 1 + 1 + 1) (by first | omega | (simp; done) | (simp; omega))
  have ge5 : ∀ b, P5 b → w.heap.size + 1 + 1 < b := fun b hb => by have := g5 b hb; omega
  have n1_5 : ¬ P5 (w.heap.size + 1) := fun q => by have := ge5 _ q; omega
  have n2_5 : ¬ P5 (w.heap.size + 1 + 1) := fun q => by have := ge5 _ q; omega
  have HR5 := Sd.mk hR5'
  have GE5 := Sd.mk ge5
  have LT5 := Sd.mk l5
  have GP5 := Sd.mk g5
  clear hR5 hR5' ge5 l5 g5
  have HB_Args : Sd (Upd No w w_Args) := Sd.mk (Upd.then (by repeat (with_reducible first | exact Upd.refl _ _ | apply Upd.put2 | apply Upd.put1 | apply Upd.put0 | apply Upd.alloc | apply Upd.drewN | apply Upd.drew)) hu)
  have cc0_Args := fun o => hu.cellsF (b := w.heap.size) (by first | omega | (simp; done) | (simp; omega)) (fun q => q) o
  have cc1_Args := fun o => hu.cellsF (b := w.heap.size + 1) (by first | omega | (simp; done) | (simp; omega)) (fun q => q) o
  have cf1_Args := fun o => hu.frozenF (b := w.heap.size + 1) (by first | omega | (simp; done) | (simp; omega)) (fun q => q) o
  have cc2_Args := fun o => hu.cellsF (b := w.heap.size + 1 + 1) (by first | omega | (simp; done) | (simp; omega)) (fun q => q) o
  have cf2_Args := fun o => hu.frozenF (b := w.heap.size + 1 + 1) (by first | omega | (simp; done) | (simp; omega)) (fun q => q) o
  have hz_Args : w.heap.size + 1 + 1 + 1 ≤ w_Args.heap.size := by have := hu.size; (try simp at this); omega
  clear hu
  go_wp2_with fail
  with_reducible refine (to_Wire x.Value _ _ (kl_Wire_Kmk _ _) (by simp [szn_Wire])).mono ?_
  rintro e w_Value ⟨cs_Value, rfl, hM, hu⟩
  obtain rfl := ki_Wire_M hM
  clear hM
  have HR5 := Sd.mk (R_upd hu (fun _ _ q => q) (R_keep HR5.out (by repeat (with_reducible first | exact Upd.refl _ _ | apply Upd.putP n1_5 | apply Upd.putP n2_5 | apply Upd.alloc))))
  have HB_Value : Sd (Upd No w w_Value) := Sd.mk (Upd.then (by repeat (with_reducible first | exact HB_Args.out | apply Upd.put2 | apply Upd.put1 | apply Upd.put0 | apply Upd.alloc | apply Upd.drewN | apply Upd.drew)) hu)
  have cc0_Value := fun o => hu.cellsF (b := w.heap.size) (by first | omega | (simp; done) | (simp; omega)) (fun q => q) o
  have cc1_Value := fun o => hu.cellsF (b := w.heap.size + 1) (by first | omega | (simp; done) | (simp; omega)) (fun q => q) o
  have cf1_Value := fun o => hu.frozenF (b := w.heap.size + 1) (by first | omega | (simp; done) | (simp; omega)) (fun q => q) o
  have cc2_Value := fun o => hu.cellsF (b := w.heap.size + 1 + 1) (by first | omega | (simp; done) | (simp; omega)) (fun q => q) o
  have cf2_Value := fun o => hu.frozenF (b := w.heap.size + 1 + 1) (by first | omega | (simp; done) | (simp; omega)) (fun q => q) o
  have hz_Value : w.heap.size + 1 + 1 + 1 ≤ w_Value.heap.size := by have := hu.size; (try simp at this); omega
  have hm_Value : w_Args.heap.size ≤ w_Value.heap.size := by have := hu.size; (try simp at this); omega
  clear hu
  go_wp2_with fail
  with_reducible refine (to_Tag x.Tag _ _ (kl_Tag_Kmk _ _) (by simp [szn_Tag])).mono ?_
  rintro e w_Tag ⟨cs_Tag, rfl, hM, hu⟩
  obtain rfl := ki_Tag_M hM
  clear hM
  have HR5 := Sd.mk (R_upd hu (fun _ _ q => q) (R_keep HR5.out (by repeat (with_reducible first | exact Upd.refl _ _ | apply Upd.putP n1_5 | apply Upd.putP n2_5 | apply Upd.alloc))))
  have HB_Tag : Sd (Upd No w w_Tag) := Sd.mk (Upd.then (by repeat (with_reducible first | exact HB_Value.out | apply Upd.put2 | apply Upd.put1 | apply Upd.put0 | apply Upd.alloc | apply Upd.drewN | apply Upd.drew)) hu)
  have cc0_Tag := fun o => hu.cellsF (b := w.heap.size) (by first | omega | (simp; done) | (simp; omega)) (fun q => q) o
  have cc1_Tag := fun o => hu.cellsF (b := w.heap.size + 1) (by first | omega | (simp; done) | (simp; omega)) (fun q => q) o
  have cf1_Tag := fun o => hu.frozenF (b := w.heap.size + 1) (by first | omega | (simp; done) | (simp; omega)) (fun q => q) o
  have cc2_Tag := fun o => hu.cellsF (b := w.heap.size + 1 + 1) (by first | omega | (simp; done) | (simp; omega)) (fun q => q) o
  have cf2_Tag := fun o => hu.frozenF (b := w.heap.size + 1 + 1) (by first | omega | (simp; done) | (simp; omega)) (fun q => q) o
  have hz_Tag : w.heap.size + 1 + 1 + 1 ≤ w_Tag.heap.size := by have := hu.size; (try simp at this); omega
  have hm_Tag : w_Value.heap.size ≤ w_Tag.heap.size := by have := hu.size; (try simp at this); omega
  clear hu
  go_wp2
  refine bodyPost_ret (v := .agg #[.int .i64 x.Kind, .int .i64 x.Pos, .int .i64 x.Answer, .int .i64 x.Question, .string x.Name, .slice B5 x.Args.length b5, .int .i64 x.Value.Kind, .int .i64 x.Value.N, .int .i64 x.Count, .int .i64 x.Tag.Vat, .int .i64 x.Tag.Entity, .int .i64 x.Tag.Seq]) (by simp [results, Try.results159, go_sem, cc1_Args, cc1_Value, cc1_Tag]) rfl ⟨_, rfl, ?_, (by repeat (with_reducible first | exact HB_Tag.out | apply Upd.put2 | apply Upd.put1 | apply Upd.put0 | apply Upd.alloc | apply Upd.drewN | apply Upd.drew))⟩
  exact ki_Message_mk _ _ _ (R_keep HR5.out (by repeat (with_reducible first | exact Upd.refl _ _ | apply Upd.putP n1_5 | apply Upd.putP n2_5 | apply Upd.alloc))) (fun k hk => by have := GE5.out k hk; simp only [New]; omega)
set_option maxHeartbeats 1000000 in
set_option maxRecDepth 100000 in
theorem toS_Message (l : List GMessage) (A : Option Addr) (c : Nat) (w : World) (h : C kl_Message w A l) (hs : sznS szn_Message l ≤ 1048576) : Calls Try.prog 139 #[.slice A l.length c] w (RetRow ki_Message 70 l w) := by
  have hn : l.length ≤ 1048576 := by unfold sznS at hs; omega
  have hmk := run_made (P := Try.prog) _ _ _ Try.underlying140 ki_Message_info l.length hn (by decide)
  have H := Sd.mk h
  have HS := Sd.mk hs
  clear h hs
  go_enter Try.func139, Try.ntmps139
  go_wp2
  clear hmk
  have HR : Sd (R ki_Message 70 (w.alloc (madeObj (.agg #[.int .i64 0, .int .i64 0, .int .i64 0, .int .i64 0, .string ⟨#[]⟩, .slice none 0 0, .int .i64 0, .int .i64 0, .int .i64 0, .int .i64 0, .int .i64 0, .int .i64 0]) (l.length * 12) 70)) (New w) (.slice (some ⟨w.heap.size, 0, none⟩) l.length l.length) (List.replicate l.length zMessage)) := Sd.mk (R_made (d := ki_Message) (e := 70) w (.agg #[.int .i64 0, .int .i64 0, .int .i64 0, .int .i64 0, .string ⟨#[]⟩, .slice none 0 0, .int .i64 0, .int .i64 0, .int .i64 0, .int .i64 0, .int .i64 0, .int .i64 0]) zMessage rfl (by decide) ki_Message_zero l.length hn)
  have HU := Sd.mk ((Upd.refl No w).alloc (madeObj (.agg #[.int .i64 0, .int .i64 0, .int .i64 0, .int .i64 0, .string ⟨#[]⟩, .slice none 0 0, .int .i64 0, .int .i64 0, .int .i64 0, .int .i64 0, .int .i64 0, .int .i64 0]) (l.length * 12) 70))
  go_loopg [4] l.length (fun k v wr => ∃ i : Nat, i + k = l.length ∧ v = .int .i64 i ∧ Sd (R ki_Message 70 wr (New w) (.slice (some ⟨w.heap.size, 0, none⟩) l.length l.length) (upTo l (List.replicate l.length zMessage) i)) ∧ Sd (Upd No w wr))
  case atStart => exact ⟨0, by omega, rfl, ⟨by rw [upTo_zero]; exact HR.out⟩, HU⟩
  case round =>
    clear HR HU
    obtain ⟨i, hi, rfl, HR, HU⟩ := hrel
    by_cases hlt : i < l.length
    · obtain ⟨ad, A5, c5, rfl, a0, a1, a2, a3, a4, a5, a6, a7, a8, a9, a10, a11, hl5, hC5⟩ := kl_Message_at (C_upd HU.out H.out) i hlt
      have HC5 := Sd.mk hC5
      clear hC5
      have hsi : szn_Message l[i] ≤ 1048576 := by have := HS.out; have := sumS_at szn_Message l i hlt; unfold sznS at *; omega
      go_wp2_with fail
      with_reducible refine (to_Message l[i] _ _ (kl_Message_Kmk _ _ hl5 HC5.out) hsi).mono ?_
      rintro e w1 ⟨cs, rfl, hM, hu⟩
      obtain ⟨v5, P5, rfl, hR5, i5⟩ := ki_Message_M (ki_Message.M_lt hM)
      obtain ⟨D5, d5, rfl⟩ := R_slice hR5
      have HRowA := R_upd hu (fun _ _ q => q) (R_lt HR.out)
      have HU1 := Sd.mk (HU.out.then hu)
      have hzw := HU.out.size
      have HR5 := Sd.mk hR5
      have I5 := Sd.mk i5
      clear HR HU hM hu hR5 i5
      obtain ⟨g, cap, cur, ce, Fi, hv, hcap, hat, hM, hg, hFi, hFg, close⟩ := R_elem HRowA 12 l.length rfl (by rw [upTo_len (by simp) (by simp; omega)]; simp) i zMessage (by rw [upTo_at (by simp) (by simpa using hlt)]; simp)
      cases hv
      obtain ⟨y5, _, rfl, -⟩ := ki_Message_M hM
      have HAT := Sd.mk hat
      have x0 := hat.cell0 _ rfl
      have x1 := hat.cell 1 _ rfl
      have x2 := hat.cell 2 _ rfl
      have x3 := hat.cell 3 _ rfl
      have x4 := hat.cell 4 _ rfl
      have x5 := hat.cell 5 _ rfl
      have x6 := hat.cell 6 _ rfl
      have x7 := hat.cell 7 _ rfl
      have x8 := hat.cell 8 _ rfl
      have x9 := hat.cell 9 _ rfl
      have x10 := hat.cell 10 _ rfl
      have x11 := hat.cell 11 _ rfl
      have f0 := hat.free (i * 12)
      have f1 := hat.free (i * 12 + 1)
      have f2 := hat.free (i * 12 + 2)
      have f3 := hat.free (i * 12 + 3)
      have f4 := hat.free (i * 12 + 4)
      have f5 := hat.free (i * 12 + 5)
      have f6 := hat.free (i * 12 + 6)
      have f7 := hat.free (i * 12 + 7)
      have f8 := hat.free (i * 12 + 8)
      have f9 := hat.free (i * 12 + 9)
      have f10 := hat.free (i * 12 + 10)
      have f11 := hat.free (i * 12 + 11)
      have CL := Sd.mk close
      clear hat close hM HRowA
      go_wp2
      have HA := (((((((((((HAT.out.set0 (by decide) (.int .i64 l[i].Kind)).set 1 (by decide) (.int .i64 l[i].Pos)).set 2 (by decide) (.int .i64 l[i].Answer)).set 3 (by decide) (.int .i64 l[i].Question)).set 4 (by decide) (.string l[i].Name)).set 5 (by decide) (.slice D5 l[i].Args.length d5)).set 6 (by decide) (.int .i64 l[i].Value.Kind)).set 7 (by decide) (.int .i64 l[i].Value.N)).set 8 (by decide) (.int .i64 l[i].Count)).set 9 (by decide) (.int .i64 l[i].Tag.Vat)).set 10 (by decide) (.int .i64 l[i].Tag.Entity)).set 11 (by decide) (.int .i64 l[i].Tag.Seq)
      have hD5 : ∀ b, P5 b → ¬ (b = w.heap.size ∨ Fi b) := by
        intro b hb q
        have h1 := (I5.out b hb).1
        simp only [New] at h1
        rcases q with rfl | q
        · exact absurd hg.2 (by omega)
        · have h2 := (hFi b q).2
          omega
      have HM := ki_Message_mk _ (fun b => P5 b) l[i] (R_upd HA.upd hD5 HR5.out) (fun k hk => hk)
      have hP1 : ∀ b, (P5 b) → New wr b := by
        intro b hb
        exact (I5.out b hb).1
      have HRowB := CL.out _ _ l[i] _ (New w) HA HM (fun b hb => .inr (fun q => by have h1 := hP1 b hb; have h2 := q.2; simp only [New] at h1; omega)) (fun _ q => q.1) (fun b hb => by have h1 := hP1 b hb; simp only [New] at h1 ⊢; omega)
      rw [upTo_set (by simp) (by simpa using hlt)] at HRowB
      go_roundg (gk - 1)
      case measure => omega
      case rel => exact ⟨i + 1, by omega, by go_num, ⟨HRowB⟩, ⟨by repeat (with_reducible first | exact HU1.out | apply Upd.put0)⟩⟩
    · go_wp2
      go_ret
      have HRowB := HR.out
      rw [upTo_end (by simp) (by simp; omega)] at HRowB
      exact ⟨_, rfl, HRowB, HU.out⟩
set_option maxHeartbeats 1000000 in
set_option maxRecDepth 100000 in
theorem sz_Message (x : GMessage) (cs : List Value) (n : Int) (w : World) (h : kl_Message.K w x cs) (hb : Bd_Message x) (h0 : 0 ≤ n) (h1 : n ≤ 1048576) : Calls Try.prog 155 #[.agg cs.toArray, .int .i64 n] w (RetSz (szn_Message x) n w) := by
  obtain ⟨A5, c5, rfl, hl5, hC5⟩ := kl_Message_K h
  have HC5 := Sd.mk hC5
  clear hC5
  have b_Name := hb
  unfold Bd_Message at b_Name
  go_enter Try.func155, Try.ntmps155
  by_cases q_Name : ((x.Name.size : Nat) : Int) ≤ n
  case neg =>
    go_wp2
    go_ret
    exact ⟨_, rfl, .inr ⟨by unfold szn_Message; omega, rfl⟩, (by repeat (with_reducible first | exact Upd.refl _ _ | apply Upd.put2 | apply Upd.put1 | apply Upd.put0 | apply Upd.alloc | apply Upd.drewN | apply Upd.drew))⟩
  go_wp2_with fail
  with_reducible refine (szS_Wire x.Args _ _ _ _ ?hc_Args (by omega) (by omega)).mono ?_
  case hc_Args => exact C_upd (by repeat (with_reducible first | exact Upd.refl _ _ | apply Upd.put2 | apply Upd.put1 | apply Upd.put0 | apply Upd.alloc | apply Upd.drewN | apply Upd.drew)) HC5.out
  rintro e w_Args ⟨r_Args, rfl, hr_Args, hu⟩
  have HB_Args : Sd (Upd No w w_Args) := Sd.mk (Upd.then (by repeat (with_reducible first | exact Upd.refl _ _ | apply Upd.put2 | apply Upd.put1 | apply Upd.put0 | apply Upd.alloc | apply Upd.drewN | apply Upd.drew)) hu)
  have cc0_Args := fun o => hu.cellsF (b := w.heap.size) (by first | omega | (simp; done) | (simp; omega)) (fun q => q) o
  have hz_Args : w.heap.size + 1 ≤ w_Args.heap.size := by have := hu.size; (try simp at this); omega
  clear hu
  rcases hr_Args with ⟨q_Args, rfl⟩ | ⟨q_Args, rfl⟩
  case inr =>
    go_wp2
    go_ret
    exact ⟨_, rfl, .inr ⟨by unfold szn_Message; omega, rfl⟩, (by repeat (with_reducible first | exact HB_Args.out | apply Upd.put2 | apply Upd.put1 | apply Upd.put0 | apply Upd.alloc | apply Upd.drewN | apply Upd.drew))⟩
  go_wp2
  go_ret
  exact ⟨_, rfl, .inl ⟨by unfold szn_Message; omega, by unfold szn_Message; omega⟩, (by repeat (with_reducible first | exact HB_Args.out | apply Upd.put2 | apply Upd.put1 | apply Upd.put0 | apply Upd.alloc | apply Upd.drewN | apply Upd.drew))⟩
set_option maxHeartbeats 1000000 in
set_option maxRecDepth 100000 in
theorem szS_Message (l : List GMessage) (A : Option Addr) (c : Nat) (n : Int) (w : World) (h : C kl_Message w A l) (hb : ∀ y ∈ l, Bd_Message y) (h0 : 0 ≤ n) (h1 : n ≤ 1048576) : Calls Try.prog 138 #[.slice A l.length c, .int .i64 n] w (RetSz (sznS szn_Message l) n w) := by
  have hn := h.1
  have H := Sd.mk h
  clear h
  have HBD := Sd.mk hb
  clear hb
  go_enter Try.func138, Try.ntmps138
  by_cases q0 : (l.length : Int) ≤ n
  case neg =>
    go_wp2
    go_ret
    exact ⟨_, rfl, .inr ⟨by unfold sznS; omega, rfl⟩, Upd.refl _ _⟩
  go_wp2
  go_loopg [1, 5] l.length (fun k u v wr => ∃ i : Nat, i + k = l.length ∧ (sumS szn_Message (l.take i) : Int) ≤ n - l.length ∧ u = .int .i64 (n - l.length - sumS szn_Message (l.take i)) ∧ v = .int .i64 i ∧ Sd (Upd No w wr))
  case atStart => exact ⟨0, by omega, by simp [sumS]; omega, by simp [sumS], rfl, ⟨Upd.refl _ _⟩⟩
  case round =>
    obtain ⟨i, hi, hle, rfl, rfl, HU⟩ := hrel
    by_cases hlt : i < l.length
    · obtain ⟨ad, A5, c5, rfl, a0, a1, a2, a3, a4, a5, a6, a7, a8, a9, a10, a11, hl5, hC5⟩ := kl_Message_at (C_upd HU.out H.out) i hlt
      have HC5 := Sd.mk hC5
      clear hC5
      have hst := sumS_step szn_Message l i hlt
      have HST := Sd.mk (sumS_take szn_Message l i hlt)
      generalize hs : sumS szn_Message (l.take i) = s at *
      have HS := Sd.mk hs
      clear hs
      go_wp2_with fail
      with_reducible refine (sz_Message l[i] _ _ _ (kl_Message_Kmk _ _ hl5 HC5.out) (HBD.out _ (List.getElem_mem hlt)) (by omega) (by omega)).mono ?_
      rintro e w1 ⟨r, rfl, hr, hu⟩
      have HU1 := Sd.mk (HU.out.then hu)
      clear hu HU
      rcases hr with ⟨q, rfl⟩ | ⟨q, rfl⟩
      · go_wp2
        go_roundg (gk - 1)
        case measure => omega
        case rel => exact ⟨i + 1, by omega, by rw [HST.out]; omega, by rw [HST.out]; exact congrArg (Value.int .i64) (by omega), by go_num, HU1⟩
      · go_wp2
        go_ret
        exact ⟨_, rfl, .inr ⟨by unfold sznS; omega, rfl⟩, HU1.out⟩
    · go_wp2
      go_ret
      have e : l.take i = l := List.take_of_length_le (by omega)
      rw [e] at hle
      exact ⟨_, rfl, .inl ⟨by unfold sznS; omega, by rw [e]; unfold sznS; omega⟩, HU.out⟩
set_option maxHeartbeats 1000000 in
set_option maxRecDepth 100000 in
theorem eq_Message (x : GMessage) (cs cs' : List Value) (w : World) (h : ki_Message.K w x cs) (h' : ki_Message.K w x cs') : Calls Try.prog 28 #[.agg cs.toArray, .agg cs'.toArray] w (RetBool true w) := by
  obtain ⟨A5, c5, rfl, hl5, hC5⟩ := ki_Message_K h
  have HC5 := Sd.mk hC5
  clear hC5
  obtain ⟨B5, b5, rfl, hm5, hD5⟩ := ki_Message_K h'
  have HD5 := Sd.mk hD5
  clear hD5
  go_enter Try.func28, Try.ntmps28
  go_wp2_with fail
  with_reducible refine (eqS_Wire x.Args _ _ _ _ _ ?hc_Args ?hd_Args).mono ?_
  case hc_Args => exact C_upd (by repeat (with_reducible first | exact Upd.refl _ _ | apply Upd.put2 | apply Upd.put1 | apply Upd.put0 | apply Upd.alloc | apply Upd.drewN | apply Upd.drew)) HC5.out
  case hd_Args => exact C_upd (by repeat (with_reducible first | exact Upd.refl _ _ | apply Upd.put2 | apply Upd.put1 | apply Upd.put0 | apply Upd.alloc | apply Upd.drewN | apply Upd.drew)) HD5.out
  rintro e w_Args ⟨rfl, hu⟩
  have HB_Args : Sd (Upd No w w_Args) := Sd.mk (Upd.then (by repeat (with_reducible first | exact Upd.refl _ _ | apply Upd.put2 | apply Upd.put1 | apply Upd.put0 | apply Upd.alloc | apply Upd.drewN | apply Upd.drew)) hu)
  have cc0_Args := fun o => hu.cellsF (b := w.heap.size) (by first | omega | (simp; done) | (simp; omega)) (fun q => q) o
  have cc1_Args := fun o => hu.cellsF (b := w.heap.size + 1) (by first | omega | (simp; done) | (simp; omega)) (fun q => q) o
  have hz_Args : w.heap.size + 1 + 1 ≤ w_Args.heap.size := by have := hu.size; (try simp at this); omega
  clear hu
  go_wp2_with fail
  with_reducible refine (eq_Wire x.Value _ _ _ (ki_Wire_Kmk _ _) (ki_Wire_Kmk _ _)).mono ?_
  rintro e w_Value ⟨rfl, hu⟩
  have HB_Value : Sd (Upd No w w_Value) := Sd.mk (Upd.then (by repeat (with_reducible first | exact HB_Args.out | apply Upd.put2 | apply Upd.put1 | apply Upd.put0 | apply Upd.alloc | apply Upd.drewN | apply Upd.drew)) hu)
  have cc0_Value := fun o => hu.cellsF (b := w.heap.size) (by first | omega | (simp; done) | (simp; omega)) (fun q => q) o
  have cc1_Value := fun o => hu.cellsF (b := w.heap.size + 1) (by first | omega | (simp; done) | (simp; omega)) (fun q => q) o
  have hz_Value : w.heap.size + 1 + 1 ≤ w_Value.heap.size := by have := hu.size; (try simp at this); omega
  clear hu
  go_wp2_with fail
  with_reducible refine (eq_Tag x.Tag _ _ _ (ki_Tag_Kmk _ _) (ki_Tag_Kmk _ _)).mono ?_
  rintro e w_Tag ⟨rfl, hu⟩
  have HB_Tag : Sd (Upd No w w_Tag) := Sd.mk (Upd.then (by repeat (with_reducible first | exact HB_Value.out | apply Upd.put2 | apply Upd.put1 | apply Upd.put0 | apply Upd.alloc | apply Upd.drewN | apply Upd.drew)) hu)
  have cc0_Tag := fun o => hu.cellsF (b := w.heap.size) (by first | omega | (simp; done) | (simp; omega)) (fun q => q) o
  have cc1_Tag := fun o => hu.cellsF (b := w.heap.size + 1) (by first | omega | (simp; done) | (simp; omega)) (fun q => q) o
  have hz_Tag : w.heap.size + 1 + 1 ≤ w_Tag.heap.size := by have := hu.size; (try simp at this); omega
  clear hu
  go_wp2
  go_ret
  exact ⟨rfl, (by repeat (with_reducible first | exact HB_Tag.out | apply Upd.put2 | apply Upd.put1 | apply Upd.put0 | apply Upd.alloc | apply Upd.drewN | apply Upd.drew))⟩
set_option maxHeartbeats 1000000 in
set_option maxRecDepth 100000 in
theorem eqS_Message (l : List GMessage) (A A' : Option Addr) (c c' : Nat) (w : World) (h : C ki_Message w A l) (h' : C ki_Message w A' l) : Calls Try.prog 143 #[.slice A l.length c, .slice A' l.length c'] w (RetBool true w) := by
  have hn := h.1
  have H := Sd.mk h
  have H' := Sd.mk h'
  clear h h'
  go_enter Try.func143, Try.ntmps143
  go_wp2
  go_loopg [5] l.length (fun k v wr => ∃ i : Nat, i + k = l.length ∧ v = .int .i64 i ∧ Sd (Upd No w wr))
  case atStart => exact ⟨0, by omega, rfl, ⟨Upd.refl _ _⟩⟩
  case round =>
    obtain ⟨i, hi, rfl, HU⟩ := hrel
    by_cases hlt : i < l.length
    · obtain ⟨ad, A5, c5, rfl, a0, a1, a2, a3, a4, a5, a6, a7, a8, a9, a10, a11, hl5, hC5⟩ := ki_Message_at (C_upd HU.out H.out) i hlt
      obtain ⟨ad', B5, b5, rfl, z0, z1, z2, z3, z4, z5, z6, z7, z8, z9, z10, z11, hm5, hD5⟩ := ki_Message_at (C_upd HU.out H'.out) i hlt
      have HC5 := Sd.mk hC5
      have HD5 := Sd.mk hD5
      clear hC5 hD5
      go_wp2_with fail
      go_still_tail 8, (by kernel_rfl)
      change wpList _ _ _ _ _ wr.drew
      have HW : Sd (Upd No wr wr.drew) := ⟨(Upd.refl _ _).drew⟩
      have HU2 : Sd (Upd No w wr.drew) := ⟨HU.out.drew⟩
      generalize wr.drew = w2 at *
      go_wp2_with (go_at_call 28; (with_reducible refine (eq_Message l[i] _ _ _ (ki_Message_Kmk _ _ hl5 (C_upd HW.out HC5.out)) (ki_Message_Kmk _ _ hm5 (C_upd HW.out HD5.out))).mono ?_); rintro e w' ⟨rfl, hu⟩)
      have HU3 := Sd.mk (HU2.out.then hu)
      clear HU2 hu
      go_wp2
      go_roundg (gk - 1)
      case measure => omega
      case rel => exact ⟨i + 1, by omega, by go_num, HU3⟩
    · go_wp2
      go_ret
      exact ⟨rfl, HU.out⟩
set_option maxHeartbeats 1000000 in
set_option maxRecDepth 100000 in
theorem markS_Message (l : List GMessage) (k : Int) (F : Nat → Prop) (v : Value) (w : World) (h : R ki_Message 70 w F v l) (hk : 0 ≤ k) (hb : k + cntS cnt_Message l ≤ 4611686018427387904) : Calls Try.prog 97 #[v, .int .i64 k] w (Marks ki_Message 70 F v (k + cntS cnt_Message l) (mkS mk_Message cnt_Message k l) w) := by
  obtain ⟨A, c, rfl⟩ := R_slice h
  have hn := R_len h
  have H := Sd.mk h
  clear h
  go_enter Try.func97, Try.ntmps97
  go_wp2
  go_loopg [1, 5] l.length (fun r u v wr => ∃ i : Nat, i + r = l.length ∧ u = .int .i64 (k + cntS cnt_Message (l.take i)) ∧ v = .int .i64 i ∧ Sd (R ki_Message 70 wr F (.slice A l.length c) (upTo (mkS mk_Message cnt_Message k l) l i)) ∧ Sd (Upd F w wr))
  case atStart => exact ⟨0, by omega, by simp [cntS], rfl, ⟨by rw [upTo_zero]; exact H.out⟩, ⟨Upd.refl _ _⟩⟩
  case round =>
    obtain ⟨i, hi, rfl, rfl, HR, HU⟩ := hrel
    by_cases hlt : i < l.length
    · have hle := cntS_le cnt_Message cnt_Message_nn l i
      have hst := cntS_take cnt_Message l i hlt
      have hle2 := cntS_le cnt_Message cnt_Message_nn l (i + 1)
      rw [hst] at hle2
      have HST := Sd.mk hst
      clear hst
      have HMA := Sd.mk (mkS_at mk_Message cnt_Message l k i hlt)
      obtain ⟨g, cap, cur, ce, Fi, hv, hcap, hat, hM, hg, hFi, hFg, close⟩ := R_elem HR.out 12 l.length rfl (upTo_len (mkS_len _ _ _ _) (by omega)) i l[i] (upTo_at (mkS_len _ _ _ _) hlt)
      cases hv
      obtain ⟨v5, P5, rfl, hR5, i5⟩ := ki_Message_M hM
      obtain ⟨B5, b5, rfl⟩ := R_slice hR5
      have HR5 := Sd.mk hR5
      have I5 := Sd.mk i5
      have N5 : ¬ P5 g := fun q => hFg (i5 g q)
      clear hR5 i5
      have nn5 := cntS_nn cnt_Wire cnt_Wire_nn l[i].Args
      have HCN : Sd (cnt_Message l[i] = cnt_Message l[i]) := ⟨rfl⟩
      simp only [cnt_Message] at hle2
      generalize hq : k + cntS cnt_Message (l.take i) = q at *
      have HQ := Sd.mk hq
      have hq0 : 0 ≤ q := by omega
      have hqb : q + ((((((((((((0 + 1) + 1) + 1) + 1) + 1) + cntS cnt_Wire l[i].Args) + 1) + 1) + 1) + 1) + 1) + 1) ≤ 4611686018427387904 := by omega
      clear hq hle hle2 hb
      generalize hcn5 : cntS cnt_Wire l[i].Args = cn5 at *
      have HC5 := Sd.mk hcn5
      clear hcn5
      have HAT := Sd.mk hat
      have x0_s := hat.cell0 _ rfl
      have x1_s := hat.cell 1 _ rfl
      have x2_s := hat.cell 2 _ rfl
      have x3_s := hat.cell 3 _ rfl
      have x4_s := hat.cell 4 _ rfl
      have x5_s := hat.cell 5 _ rfl
      have x6_s := hat.cell 6 _ rfl
      have x7_s := hat.cell 7 _ rfl
      have x8_s := hat.cell 8 _ rfl
      have x9_s := hat.cell 9 _ rfl
      have x10_s := hat.cell 10 _ rfl
      have x11_s := hat.cell 11 _ rfl
      have f0_s := hat.free (i * 12)
      have f1_s := hat.free (i * 12 + 1)
      have f2_s := hat.free (i * 12 + 2)
      have f3_s := hat.free (i * 12 + 3)
      have f4_s := hat.free (i * 12 + 4)
      have f5_s := hat.free (i * 12 + 5)
      have f6_s := hat.free (i * 12 + 6)
      have f7_s := hat.free (i * 12 + 7)
      have f8_s := hat.free (i * 12 + 8)
      have f9_s := hat.free (i * 12 + 9)
      have f10_s := hat.free (i * 12 + 10)
      have f11_s := hat.free (i * 12 + 11)
      have CL := Sd.mk close
      clear hat close hM HR
      go_wp2_with fail
      with_reducible refine (markText_c _ _ (by omega) (by omega)).mono ?_
      rintro e w_Name ⟨rfl, hu⟩
      replace HR5 := Sd.mk (R_upd hu (fun _ _ q => q) (R_upd (G := fun b => b = g) (by repeat (with_reducible first | exact Upd.refl _ _ | apply Upd.setg)) (fun b hb hg' => N5 (hg' ▸ hb)) HR5.out))
      replace HAT := Sd.mk (((((HAT.out.set0 (by decide) (.int .i64 (q))).set 1 (by decide) (.int .i64 ((q + 1)))).set 2 (by decide) (.int .i64 (((q + 1) + 1)))).set 3 (by decide) (.int .i64 ((((q + 1) + 1) + 1)))).call hu (fun _ q => q.elim) hFg)
      clear hu x0_s f0_s x1_s f1_s x2_s f2_s x3_s f3_s x4_s f4_s x5_s f5_s x6_s f6_s x7_s f7_s x8_s f8_s x9_s f9_s x10_s f10_s x11_s f11_s
      have x0_Name := HAT.out.cell0 _ rfl
      have x1_Name := HAT.out.cell 1 _ rfl
      have x2_Name := HAT.out.cell 2 _ rfl
      have x3_Name := HAT.out.cell 3 _ rfl
      have x4_Name := HAT.out.cell 4 _ rfl
      have x5_Name := HAT.out.cell 5 _ rfl
      have x6_Name := HAT.out.cell 6 _ rfl
      have x7_Name := HAT.out.cell 7 _ rfl
      have x8_Name := HAT.out.cell 8 _ rfl
      have x9_Name := HAT.out.cell 9 _ rfl
      have x10_Name := HAT.out.cell 10 _ rfl
      have x11_Name := HAT.out.cell 11 _ rfl
      have f0_Name := HAT.out.free (i * 12)
      have f1_Name := HAT.out.free (i * 12 + 1)
      have f2_Name := HAT.out.free (i * 12 + 2)
      have f3_Name := HAT.out.free (i * 12 + 3)
      have f4_Name := HAT.out.free (i * 12 + 4)
      have f5_Name := HAT.out.free (i * 12 + 5)
      have f6_Name := HAT.out.free (i * 12 + 6)
      have f7_Name := HAT.out.free (i * 12 + 7)
      have f8_Name := HAT.out.free (i * 12 + 8)
      have f9_Name := HAT.out.free (i * 12 + 9)
      have f10_Name := HAT.out.free (i * 12 + 10)
      have f11_Name := HAT.out.free (i * 12 + 11)
      go_wp2_with fail
      with_reducible refine (markS_Wire l[i].Args _ P5 _ _ ?hr_Args (by omega) (by rw [HC5.out]; omega)).mono ?_
      case hr_Args => exact (R_upd (G := fun b => b = g) (by repeat (with_reducible first | exact Upd.refl _ _ | apply Upd.setg)) (fun b hb hg' => N5 (hg' ▸ hb)) HR5.out)
      rintro e w_Args ⟨rfl, hR5, hu⟩
      rw [HC5.out]
      replace HR5 := Sd.mk hR5
      replace HAT := Sd.mk ((HAT.out.set 4 (by decide) (.string (mtx (((((q + 1) + 1) + 1) + 1))))).call hu I5.out hFg)
      clear hR5
      clear hu x0_Name f0_Name x1_Name f1_Name x2_Name f2_Name x3_Name f3_Name x4_Name f4_Name x5_Name f5_Name x6_Name f6_Name x7_Name f7_Name x8_Name f8_Name x9_Name f9_Name x10_Name f10_Name x11_Name f11_Name
      have x0_Args := HAT.out.cell0 _ rfl
      have x1_Args := HAT.out.cell 1 _ rfl
      have x2_Args := HAT.out.cell 2 _ rfl
      have x3_Args := HAT.out.cell 3 _ rfl
      have x4_Args := HAT.out.cell 4 _ rfl
      have x5_Args := HAT.out.cell 5 _ rfl
      have x6_Args := HAT.out.cell 6 _ rfl
      have x7_Args := HAT.out.cell 7 _ rfl
      have x8_Args := HAT.out.cell 8 _ rfl
      have x9_Args := HAT.out.cell 9 _ rfl
      have x10_Args := HAT.out.cell 10 _ rfl
      have x11_Args := HAT.out.cell 11 _ rfl
      have f0_Args := HAT.out.free (i * 12)
      have f1_Args := HAT.out.free (i * 12 + 1)
      have f2_Args := HAT.out.free (i * 12 + 2)
      have f3_Args := HAT.out.free (i * 12 + 3)
      have f4_Args := HAT.out.free (i * 12 + 4)
      have f5_Args := HAT.out.free (i * 12 + 5)
      have f6_Args := HAT.out.free (i * 12 + 6)
      have f7_Args := HAT.out.free (i * 12 + 7)
      have f8_Args := HAT.out.free (i * 12 + 8)
      have f9_Args := HAT.out.free (i * 12 + 9)
      have f10_Args := HAT.out.free (i * 12 + 10)
      have f11_Args := HAT.out.free (i * 12 + 11)
      go_wp2
      have HA := ((((((HAT.out.set 6 (by decide) (.int .i64 (((((((q + 1) + 1) + 1) + 1) + 1) + cn5)))).set 7 (by decide) (.int .i64 ((((((((q + 1) + 1) + 1) + 1) + 1) + cn5) + 1)))).set 8 (by decide) (.int .i64 (((((((((q + 1) + 1) + 1) + 1) + 1) + cn5) + 1) + 1)))).set 9 (by decide) (.int .i64 ((((((((((q + 1) + 1) + 1) + 1) + 1) + cn5) + 1) + 1) + 1)))).set 10 (by decide) (.int .i64 (((((((((((q + 1) + 1) + 1) + 1) + 1) + cn5) + 1) + 1) + 1) + 1)))).set 11 (by decide) (.int .i64 ((((((((((((q + 1) + 1) + 1) + 1) + 1) + cn5) + 1) + 1) + 1) + 1) + 1))))
      have hy : (⟨q, (q + 1), ((q + 1) + 1), (((q + 1) + 1) + 1), mtx (((((q + 1) + 1) + 1) + 1)), mkS mk_Wire cnt_Wire (((((q + 1) + 1) + 1) + 1) + 1) l[i].Args, ⟨((((((q + 1) + 1) + 1) + 1) + 1) + cn5), (((((((q + 1) + 1) + 1) + 1) + 1) + cn5) + 1)⟩, ((((((((q + 1) + 1) + 1) + 1) + 1) + cn5) + 1) + 1), ⟨(((((((((q + 1) + 1) + 1) + 1) + 1) + cn5) + 1) + 1) + 1), ((((((((((q + 1) + 1) + 1) + 1) + 1) + cn5) + 1) + 1) + 1) + 1), (((((((((((q + 1) + 1) + 1) + 1) + 1) + cn5) + 1) + 1) + 1) + 1) + 1)⟩⟩ : GMessage) = (mkS mk_Message cnt_Message k l)[i]'(by rw [mkS_len]; exact hlt) := by rw [HMA.out]; simp only [mk_Message, HC5.out]
      have HRowB := CL.out _ _ (⟨q, (q + 1), ((q + 1) + 1), (((q + 1) + 1) + 1), mtx (((((q + 1) + 1) + 1) + 1)), mkS mk_Wire cnt_Wire (((((q + 1) + 1) + 1) + 1) + 1) l[i].Args, ⟨((((((q + 1) + 1) + 1) + 1) + 1) + cn5), (((((((q + 1) + 1) + 1) + 1) + 1) + cn5) + 1)⟩, ((((((((q + 1) + 1) + 1) + 1) + 1) + cn5) + 1) + 1), ⟨(((((((((q + 1) + 1) + 1) + 1) + 1) + cn5) + 1) + 1) + 1), ((((((((((q + 1) + 1) + 1) + 1) + 1) + cn5) + 1) + 1) + 1) + 1), (((((((((((q + 1) + 1) + 1) + 1) + 1) + cn5) + 1) + 1) + 1) + 1) + 1)⟩⟩ : GMessage) Fi F HA (ki_Message_mk _ Fi (⟨q, (q + 1), ((q + 1) + 1), (((q + 1) + 1) + 1), mtx (((((q + 1) + 1) + 1) + 1)), mkS mk_Wire cnt_Wire (((((q + 1) + 1) + 1) + 1) + 1) l[i].Args, ⟨((((((q + 1) + 1) + 1) + 1) + 1) + cn5), (((((((q + 1) + 1) + 1) + 1) + 1) + cn5) + 1)⟩, ((((((((q + 1) + 1) + 1) + 1) + 1) + cn5) + 1) + 1), ⟨(((((((((q + 1) + 1) + 1) + 1) + 1) + cn5) + 1) + 1) + 1), ((((((((((q + 1) + 1) + 1) + 1) + 1) + cn5) + 1) + 1) + 1) + 1), (((((((((((q + 1) + 1) + 1) + 1) + 1) + cn5) + 1) + 1) + 1) + 1) + 1)⟩⟩ : GMessage) (R_upd (G := fun b => b = g) (by repeat (with_reducible first | exact Upd.refl _ _ | apply Upd.setg)) (fun b hb hg' => N5 (hg' ▸ hb)) HR5.out) I5.out) (fun _ hb => .inl hb) (fun _ hb => hb) hFi
      rw [hy, upTo_set (mkS_len _ _ _ _) hlt] at HRowB
      go_roundg (gk - 1)
      case measure => omega
      case rel => exact ⟨i + 1, by omega, by rw [HST.out]; simp only [cnt_Message]; have := HQ.out; have := HC5.out; exact congrArg (Value.int .i64) (by omega), by go_num, ⟨HRowB⟩, ⟨HU.out.trans HA.upd (fun _ _ hb => hb) (fun b _ hb => by rcases hb with rfl | hb; exact hg; exact hFi b hb)⟩⟩
    · go_wp2
      go_ret
      have HRowB := HR.out
      rw [upTo_end (mkS_len _ _ _ _) (by omega)] at HRowB
      have e : l.take i = l := List.take_of_length_le (by omega)
      exact ⟨ret_int (by rw [e]), HRowB, HU.out⟩
set_option maxHeartbeats 1000000 in
set_option maxRecDepth 100000 in
theorem markv_Message_c (x : GMessage) (k : Int) (F : Nat → Prop) (cs : List Value) (w : World) (h : ki_Message.M w F x cs) (hk : 0 ≤ k) (hb : k + cntv_Message x ≤ 4611686018427387904) : Calls Try.prog 30 #[.agg cs.toArray, .int .i64 k] w (MarksV ki_Message F cs (k + cntv_Message x) (mkv_Message k x) w) := by
  obtain ⟨v5, P5, rfl, hR5, i5⟩ := ki_Message_M (ki_Message.M_lt h)
  obtain ⟨B5, b5, rfl⟩ := R_slice hR5
  have HR5 := Sd.mk hR5
  have I5 := Sd.mk (fun b q => (i5 b q).1)
  have L5 := Sd.mk (fun b q => (i5 b q).2)
  clear hR5 i5
  have nn5 := cntS_nn cnt_Wire cnt_Wire_nn x.Args
  clear h
  unfold cntv_Message at hb
  generalize hcn5 : cntS cnt_Wire x.Args = cn5 at *
  have HC5 := Sd.mk hcn5
  clear hcn5
  go_enter Try.func30, Try.ntmps30
  go_wp2_with fail
  with_reducible refine (markS_Wire x.Args _ P5 _ _ ?hr5 (by omega) (by rw [HC5.out]; omega)).mono ?_
  case hr5 => exact R_upd ((Upd.refl No w).alloc _) (fun _ _ q => q) HR5.out
  rintro e w_5 ⟨rfl, hR5, hu⟩
  rw [HC5.out]
  replace HR5 := Sd.mk hR5
  have cc_5 := fun o => hu.cellsF (b := w.heap.size) (by first | omega | (simp; done) | (simp; omega)) (fun q => absurd (L5.out _ q) (Nat.lt_irrefl _)) o
  have hz_5 : w.heap.size + 1 ≤ w_5.heap.size := by have := hu.size; (try simp at this); omega
  have HU_5 : Sd (Upd F w w_5) := Sd.mk (Upd.trans ((Upd.refl No w).alloc _) hu (fun _ _ q => q.elim) (fun b _ q => I5.out b q))
  clear hu hR5
  have hy : (⟨x.Kind, x.Pos, x.Answer, x.Question, x.Name, mkS mk_Wire cnt_Wire k x.Args, ⟨x.Value.Kind, x.Value.N⟩, x.Count, ⟨x.Tag.Vat, x.Tag.Entity, x.Tag.Seq⟩⟩ : GMessage) = mkv_Message k x := by simp only [mkv_Message, HC5.out]
  have hc : cntv_Message x = (0 + cn5) := by simp only [cntv_Message, HC5.out]
  have HMM := ki_Message_mk w_5 F (⟨x.Kind, x.Pos, x.Answer, x.Question, x.Name, mkS mk_Wire cnt_Wire k x.Args, ⟨x.Value.Kind, x.Value.N⟩, x.Count, ⟨x.Tag.Vat, x.Tag.Entity, x.Tag.Seq⟩⟩ : GMessage) HR5.out I5.out
  rw [hy] at HMM
  have HMM' := Sd.mk HMM
  have Hc := Sd.mk hc
  clear HMM hy hc
  go_wp2
  go_ret
  exact ⟨ret_int (by rw [Hc.out]; omega), HMM'.out, HU_5.out⟩
set_option maxHeartbeats 1000000 in
set_option maxRecDepth 100000 in
theorem heldS_Message (l : List GMessage) (k : Int) (A : Option Addr) (c : Nat) (w : World) (h : C ki_Message w A (mkS mk_Message cnt_Message k l)) (hk : 0 ≤ k) (hb : k + cntS cnt_Message l ≤ 4611686018427387904) : Calls Try.prog 99 #[.slice A l.length c, .int .i64 k] w (RetInt (k + cntS cnt_Message l) w) := by
  have hn := h.1
  rw [mkS_len] at hn
  have H := Sd.mk h
  clear h
  go_enter Try.func99, Try.ntmps99
  go_wp2
  go_loopg [1, 5] l.length (fun r u v wr => ∃ i : Nat, i + r = l.length ∧ u = .int .i64 (k + cntS cnt_Message (l.take i)) ∧ v = .int .i64 i ∧ Sd (Upd No w wr))
  case atStart => exact ⟨0, by omega, by simp [cntS], rfl, ⟨Upd.refl _ _⟩⟩
  case round =>
    obtain ⟨i, hi, rfl, rfl, HU⟩ := hrel
    by_cases hlt : i < l.length
    · have hle := cntS_le cnt_Message cnt_Message_nn l i
      have hst := cntS_take cnt_Message l i hlt
      have hle2 := cntS_le cnt_Message cnt_Message_nn l (i + 1)
      rw [hst] at hle2
      have HST := Sd.mk hst
      clear hst
      obtain ⟨ad, A5, c5, rfl, a0, a1, a2, a3, a4, a5, a6, a7, a8, a9, a10, a11, hl5, hC5⟩ := ki_Message_at (C_upd HU.out H.out) i (by rw [mkS_len]; exact hlt)
      rw [mkS_at mk_Message cnt_Message l k i hlt] at a0 a1 a2 a3 a4 a5 a6 a7 a8 a9 a10 a11 hl5 hC5
      simp only [mk_Message, mkS_len] at a0 a1 a2 a3 a4 a5 a6 a7 a8 a9 a10 a11 hl5 hC5
      have nn5 := cntS_nn cnt_Wire cnt_Wire_nn l[i].Args
      simp only [cnt_Message] at hle2
      generalize hq : k + cntS cnt_Message (l.take i) = q at *
      have HQ := Sd.mk hq
      have hq0 : 0 ≤ q := by omega
      have hqb : q + ((((((((((((0 + 1) + 1) + 1) + 1) + 1) + cntS cnt_Wire l[i].Args) + 1) + 1) + 1) + 1) + 1) + 1) ≤ 4611686018427387904 := by omega
      clear hq hle hle2 hb
      generalize hcn5 : cntS cnt_Wire l[i].Args = cn5 at *
      have HN5 := Sd.mk hcn5
      clear hcn5
      have HC5 := Sd.mk hC5
      clear hC5
      have HX := Sd.mk (Upd.refl No wr)
      go_wp2_with fail
      go_region_held3 (fun w' => w'.cell? ⟨(ad.add (i * 12)).block, (ad.add (i * 12)).off + 4, none⟩ = some (.string (mtx ((((q + 1) + 1) + 1) + 1)))) (first | exact a4 | exact hu_Name.read a4) (first | (go_at_call 109; (with_reducible refine (markText_c _ _ (by omega) (by omega)).mono ?_); rintro e w_Name ⟨rfl, hu_Name⟩))
      rename_i hH_Name
      clear hH_Name
      have HY : Sd (Upd No wr w_Name) := Sd.mk ((Upd.refl _ _).drew.then hu_Name)
      clear hu_Name
      replace a0 := HY.out.read a0
      replace a1 := HY.out.read a1
      replace a2 := HY.out.read a2
      replace a3 := HY.out.read a3
      replace a4 := HY.out.read a4
      replace a5 := HY.out.read a5
      replace a6 := HY.out.read a6
      replace a7 := HY.out.read a7
      replace a8 := HY.out.read a8
      replace a9 := HY.out.read a9
      replace a10 := HY.out.read a10
      replace a11 := HY.out.read a11
      replace HC5 := Sd.mk (C_upd HY.out HC5.out)
      replace HX := Sd.mk (HX.out.then HY.out)
      clear HY
      go_wp2_with fail
      with_reducible refine (heldS_Wire l[i].Args _ _ _ _ ?hc_Args (by omega) (by rw [HN5.out]; omega)).mono ?_
      case hc_Args => exact HC5.out
      rintro e w_Args ⟨rfl, hu⟩
      rw [HN5.out]
      replace a0 := hu.read a0
      replace a1 := hu.read a1
      replace a2 := hu.read a2
      replace a3 := hu.read a3
      replace a4 := hu.read a4
      replace a5 := hu.read a5
      replace a6 := hu.read a6
      replace a7 := hu.read a7
      replace a8 := hu.read a8
      replace a9 := hu.read a9
      replace a10 := hu.read a10
      replace a11 := hu.read a11
      replace HC5 := Sd.mk (C_upd hu HC5.out)
      replace HX := Sd.mk (HX.out.then hu)
      clear hu
      go_wp2
      go_roundg (gk - 1)
      case measure => omega
      case rel => exact ⟨i + 1, by omega, by rw [HST.out]; simp only [cnt_Message]; have := HQ.out; have := HN5.out; exact congrArg (Value.int .i64) (by omega), by go_num, ⟨HU.out.then HX.out⟩⟩
    · go_wp2
      go_ret
      have e : l.take i = l := List.take_of_length_le (by omega)
      exact ⟨ret_int (by rw [e]), HU.out⟩
set_option maxHeartbeats 1000000 in
set_option maxRecDepth 100000 in
theorem heldv_Message_c (x : GMessage) (k : Int) (cs : List Value) (w : World) (h : ki_Message.K w (mkv_Message k x) cs) (hk : 0 ≤ k) (hb : k + cntv_Message x ≤ 4611686018427387904) : Calls Try.prog 32 #[.agg cs.toArray, .int .i64 k] w (RetInt (k + cntv_Message x) w) := by
  obtain ⟨A5, c5, rfl, hl5, hC5⟩ := ki_Message_K h
  clear h
  simp only [mkv_Message, mkS_len] at hl5 hC5
  simp only [mkv_Message, mkS_len]
  have nn5 := cntS_nn cnt_Wire cnt_Wire_nn x.Args
  unfold cntv_Message at hb
  generalize hcn5 : cntS cnt_Wire x.Args = cn5 at *
  have HN5 := Sd.mk hcn5
  clear hcn5
  have HC5 := Sd.mk hC5
  clear hC5
  go_enter Try.func32, Try.ntmps32
  go_wp2_with fail
  with_reducible refine (heldS_Wire x.Args _ _ _ _ ?hc5 (by omega) (by rw [HN5.out]; omega)).mono ?_
  case hc5 => exact C_upd (by repeat (with_reducible first | exact Upd.refl _ _ | apply Upd.put2 | apply Upd.put1 | apply Upd.put0 | apply Upd.alloc | apply Upd.drewN | apply Upd.drew)) HC5.out
  rintro e w_5 ⟨rfl, hu⟩
  rw [HN5.out]
  have HB_5 : Sd (Upd No w w_5) := Sd.mk (Upd.then (by repeat (with_reducible first | exact Upd.refl _ _ | apply Upd.put2 | apply Upd.put1 | apply Upd.put0 | apply Upd.alloc | apply Upd.drewN | apply Upd.drew)) hu)
  have cc_5 := fun o => hu.cellsF (b := w.heap.size) (by first | omega | (simp; done) | (simp; omega)) (fun q => q) o
  have hz_5 : w.heap.size + 1 ≤ w_5.heap.size := by have := hu.size; (try simp at this); omega
  clear hu
  have Hc : Sd (cntv_Message x = (0 + cn5)) := ⟨by simp only [cntv_Message, HN5.out]⟩
  go_wp2
  go_ret
  exact ⟨ret_int (by rw [Hc.out]; omega), HB_5.out⟩
end Go.Proofs.YtfnedoiplblldaaFam
