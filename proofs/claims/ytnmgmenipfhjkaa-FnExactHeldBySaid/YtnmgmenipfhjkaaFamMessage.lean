/- The contracts of the laws' own functions over Message: to, sz, eq, mark, held. No conditions beyond the sizes that the contracts name. -/
import Derived.Test.YtnmgmenipfhjkaaProg
import Derived.Test.YtnmgmenipfhjkaaSep2
import Derived.Test.YtnmgmenipfhjkaaLst
import Derived.WalkKit
import Derived.KernelRfl
import Derived.RowKit3
import Derived.Deep.LoopGhost
import Derived.Deep.QuietTactic
import Derived.BigQuiet
import Derived.StillTailTactics
import Derived.Test.YtnmgmenipfhjkaaK
import Derived.Deep.RegionHeld3
import Derived.Test.YtnmgmenipfhjkaaFamWire
import Derived.Test.YtnmgmenipfhjkaaFamTag
import Derived.Test.YtnmgmenipfhjkaaFamText
namespace Go.Proofs.YtnmgmenipfhjkaaFam
open Go.RowKit Go.Proofs.YtnmgmenipfhjkaaSep Go.Proofs.YtnmgmenipfhjkaaT Go.Proofs.YtnmgmenipfhjkaaK
set_option linter.unusedVariables false
set_option linter.unusedSimpArgs false
theorem kl_Message_Kmk (w : World) (x : GMessage) {A5 : Option Addr} {c5 : Nat} (hl5 : x.Args.length ≤ c5) (hC5 : C kl_Wire w A5 x.Args) : kl_Message.K w x [.int .i64 x.Kind, .int .i64 x.Pos, .int .i64 x.Answer, .int .i64 x.Question, .string x.Name, .slice A5 x.Args.length c5, .int .i64 x.Value.Kind, .int .i64 x.Value.N, .int .i64 x.Count, .int .i64 x.Tag.Vat, .int .i64 x.Tag.Entity, .int .i64 x.Tag.Seq] := ⟨[_], [_, _, _, _, _, _, _, _, _, _, _], rfl, rfl, ⟨[_], [_, _, _, _, _, _, _, _, _, _], rfl, rfl, ⟨[_], [_, _, _, _, _, _, _, _, _], rfl, rfl, ⟨[_], [_, _, _, _, _, _, _, _], rfl, rfl, ⟨[_], [_, _, _, _, _, _, _], rfl, rfl, ⟨[_], [_, _, _, _, _, _], rfl, ⟨A5, c5, rfl, hl5, hC5⟩, ⟨[_, _], [_, _, _, _], rfl, (kl_Wire_Kmk w _), ⟨[_], [_, _, _], rfl, rfl, (kl_Tag_Kmk w _)⟩⟩⟩⟩⟩⟩⟩⟩
theorem ki_Message_Kmk (w : World) (x : GMessage) {A5 : Option Addr} {c5 : Nat} (hl5 : x.Args.length ≤ c5) (hC5 : C ki_Wire w A5 x.Args) : ki_Message.K w x [.int .i64 x.Kind, .int .i64 x.Pos, .int .i64 x.Answer, .int .i64 x.Question, .string x.Name, .slice A5 x.Args.length c5, .int .i64 x.Value.Kind, .int .i64 x.Value.N, .int .i64 x.Count, .int .i64 x.Tag.Vat, .int .i64 x.Tag.Entity, .int .i64 x.Tag.Seq] := ⟨[_], [_, _, _, _, _, _, _, _, _, _, _], rfl, rfl, ⟨[_], [_, _, _, _, _, _, _, _, _, _], rfl, rfl, ⟨[_], [_, _, _, _, _, _, _, _, _], rfl, rfl, ⟨[_], [_, _, _, _, _, _, _, _], rfl, rfl, ⟨[_], [_, _, _, _, _, _, _], rfl, rfl, ⟨[_], [_, _, _, _, _, _], rfl, ⟨A5, c5, rfl, hl5, hC5⟩, ⟨[_, _], [_, _, _, _], rfl, (ki_Wire_Kmk w _), ⟨[_], [_, _, _], rfl, rfl, (ki_Tag_Kmk w _)⟩⟩⟩⟩⟩⟩⟩⟩
set_option maxHeartbeats 1000000 in
set_option maxRecDepth 100000 in
theorem to_Message (x : GMessage) (cs : List Value) (w : World) (h : kl_Message.K w x cs) (hs : szn_Message x ≤ 1048576) : Calls Try.prog 102 #[.agg cs.toArray] w (RetAgg ki_Message x w) := by
  obtain ⟨A5, c5, rfl, hl5, hC5⟩ := kl_Message_K h
  have HC5 := Sd.mk hC5
  clear hC5
  have s_Args : sznS szn_Wire x.Args ≤ 1048576 := by unfold szn_Message at hs; omega
  clear hs
  go_enter Try.func102, Try.ntmps102
  go_wp2_with fail
  with_reducible refine (toS_Wire x.Args _ _ _ ?hc_Args s_Args).mono ?_
  case hc_Args => exact C_upd (by repeat (with_reducible first | exact Upd.refl _ _ | apply Upd.put2 | apply Upd.put1 | apply Upd.put0 | apply Upd.alloc | apply Upd.drewN | apply Upd.drew)) HC5.out
  rintro e w_Args ⟨v5, rfl, hR5, hu⟩
  obtain ⟨B5, b5, rfl⟩ := R_slice hR5
  obtain ⟨P5, hR5', g5, l5⟩ := fresh_row hR5 (w.heap.size + 1 + 1 + 1) (by first | omega | (simp; done) | (simp; omega))
  have ge5 : ∀ b, P5 b → w.heap.size + 1 + 1 < b := fun b hb => by have := g5 b hb; omega
  have n1_5 : ¬ P5 (w.heap.size + 1) := fun q => by have := ge5 _ q; omega
  have n2_5 : ¬ P5 (w.heap.size + 1 + 1) := fun q => by have := ge5 _ q; omega
  have HR5 := Sd.mk hR5'
  have GE5 := Sd.mk ge5
  have LT5 := Sd.mk l5
  have GP5 := Sd.mk g5
  clear hR5 hR5' ge5 l5 g5
  have HB_Args : Sd (Upd No w w_Args) := Sd.mk (Upd.then (by repeat (with_reducible first | exact Upd.refl _ _ | apply Upd.put2 | apply Upd.put1 | apply Upd.put0 | apply Upd.alloc | apply Upd.drewN | apply Upd.drew)) hu)
  have cc0_Args := fun o => hu.cellsF (b := w.heap.size) (by first | omega | (simp; done) | (simp; omega)) (fun q => q) o
  have cc1_Args := fun o => hu.cellsF (b := w.heap.size + 1) (by first | omega | (simp; done) | (simp; omega)) (fun q => q) o
  have cf1_Args := fun o => hu.frozenF (b := w.heap.size + 1) (by first | omega | (simp; done) | (simp; omega)) (fun q => q) o
  have cc2_Args := fun o => hu.cellsF (b := w.heap.size + 1 + 1) (by first | omega | (simp; done) | (simp; omega)) (fun q => q) o
  have cf2_Args := fun o => hu.frozenF (b := w.heap.size + 1 + 1) (by first | omega | (simp; done) | (simp; omega)) (fun q => q) o
  have hz_Args : w.heap.size + 1 + 1 + 1 ≤ w_Args.heap.size := by have := hu.size; (try simp at this); omega
  clear hu
  go_wp2_with fail
  with_reducible refine (to_Wire x.Value _ _ (kl_Wire_Kmk _ _) (by simp [szn_Wire])).mono ?_
  rintro e w_Value ⟨cs_Value, rfl, hM, hu⟩
  obtain rfl := ki_Wire_M hM
  clear hM
  have HR5 := Sd.mk (R_upd hu (fun _ _ q => q) (R_keep HR5.out (by repeat (with_reducible first | exact Upd.refl _ _ | apply Upd.putP n1_5 | apply Upd.putP n2_5 | apply Upd.alloc))))
  have HB_Value : Sd (Upd No w w_Value) := Sd.mk (Upd.then (by repeat (with_reducible first | exact HB_Args.out | apply Upd.put2 | apply Upd.put1 | apply Upd.put0 | apply Upd.alloc | apply Upd.drewN | apply Upd.drew)) hu)
  have cc0_Value := fun o => hu.cellsF (b := w.heap.size) (by first | omega | (simp; done) | (simp; omega)) (fun q => q) o
  have cc1_Value := fun o => hu.cellsF (b := w.heap.size + 1) (by first | omega | (simp; done) | (simp; omega)) (fun q => q) o
  have cf1_Value := fun o => hu.frozenF (b := w.heap.size + 1) (by first | omega | (simp; done) | (simp; omega)) (fun q => q) o
  have cc2_Value := fun o => hu.cellsF (b := w.heap.size + 1 + 1) (by first | omega | (simp; done) | (simp; omega)) (fun q => q) o
  have cf2_Value := fun o => hu.frozenF (b := w.heap.size + 1 + 1) (by first | omega | (simp; done) | (simp; omega)) (fun q => q) o
  have hz_Value : w.heap.size + 1 + 1 + 1 ≤ w_Value.heap.size := by have := hu.size; (try simp at this); omega
  have hm_Value : w_Args.heap.size ≤ w_Value.heap.size := by have := hu.size; (try simp at this); omega
  clear hu
  go_wp2_with fail
  with_reducible refine (to_Tag x.Tag _ _ (kl_Tag_Kmk _ _) (by simp [szn_Tag])).mono ?_
  rintro e w_Tag ⟨cs_Tag, rfl, hM, hu⟩
  obtain rfl := ki_Tag_M hM
  clear hM
  have HR5 := Sd.mk (R_upd hu (fun _ _ q => q) (R_keep HR5.out (by repeat (with_reducible first | exact Upd.refl _ _ | apply Upd.putP n1_5 | apply Upd.putP n2_5 | apply Upd.alloc))))
  have HB_Tag : Sd (Upd No w w_Tag) := Sd.mk (Upd.then (by repeat (with_reducible first | exact HB_Value.out | apply Upd.put2 | apply Upd.put1 | apply Upd.put0 | apply Upd.alloc | apply Upd.drewN | apply Upd.drew)) hu)
  have cc0_Tag := fun o => hu.cellsF (b := w.heap.size) (by first | omega | (simp; done) | (simp; omega)) (fun q => q) o
  have cc1_Tag := fun o => hu.cellsF (b := w.heap.size + 1) (by first | omega | (simp; done) | (simp; omega)) (fun q => q) o
  have cf1_Tag := fun o => hu.frozenF (b := w.heap.size + 1) (by first | omega | (simp; done) | (simp; omega)) (fun q => q) o
  have cc2_Tag := fun o => hu.cellsF (b := w.heap.size + 1 + 1) (by first | omega | (simp; done) | (simp; omega)) (fun q => q) o
  have cf2_Tag := fun o => hu.frozenF (b := w.heap.size + 1 + 1) (by first | omega | (simp; done) | (simp; omega)) (fun q => q) o
  have hz_Tag : w.heap.size + 1 + 1 + 1 ≤ w_Tag.heap.size := by have := hu.size; (try simp at this); omega
  have hm_Tag : w_Value.heap.size ≤ w_Tag.heap.size := by have := hu.size; (try simp at this); omega
  clear hu
  go_wp2
  refine bodyPost_ret (v := .agg #[.int .i64 x.Kind, .int .i64 x.Pos, .int .i64 x.Answer, .int .i64 x.Question, .string x.Name, .slice B5 x.Args.length b5, .int .i64 x.Value.Kind, .int .i64 x.Value.N, .int .i64 x.Count, .int .i64 x.Tag.Vat, .int .i64 x.Tag.Entity, .int .i64 x.Tag.Seq]) (by simp [results, Try.results102, go_sem, cc1_Args, cc1_Value, cc1_Tag]) rfl ⟨_, rfl, ?_, (by repeat (with_reducible first | exact HB_Tag.out | apply Upd.put2 | apply Upd.put1 | apply Upd.put0 | apply Upd.alloc | apply Upd.drewN | apply Upd.drew))⟩
  exact ki_Message_mk _ _ _ (R_keep HR5.out (by repeat (with_reducible first | exact Upd.refl _ _ | apply Upd.putP n1_5 | apply Upd.putP n2_5 | apply Upd.alloc))) (fun k hk => by have := GE5.out k hk; simp only [New]; omega)
set_option maxHeartbeats 1000000 in
set_option maxRecDepth 100000 in
theorem sz_Message (x : GMessage) (cs : List Value) (n : Int) (w : World) (h : kl_Message.K w x cs) (hb : Bd_Message x) (h0 : 0 ≤ n) (h1 : n ≤ 1048576) : Calls Try.prog 98 #[.agg cs.toArray, .int .i64 n] w (RetSz (szn_Message x) n w) := by
  obtain ⟨A5, c5, rfl, hl5, hC5⟩ := kl_Message_K h
  have HC5 := Sd.mk hC5
  clear hC5
  have b_Name := hb
  unfold Bd_Message at b_Name
  go_enter Try.func98, Try.ntmps98
  by_cases q_Name : ((x.Name.size : Nat) : Int) ≤ n
  case neg =>
    go_wp2
    go_ret
    exact ⟨_, rfl, .inr ⟨by unfold szn_Message; omega, rfl⟩, (by repeat (with_reducible first | exact Upd.refl _ _ | apply Upd.put2 | apply Upd.put1 | apply Upd.put0 | apply Upd.alloc | apply Upd.drewN | apply Upd.drew))⟩
  go_wp2_with fail
  with_reducible refine (szS_Wire x.Args _ _ _ _ ?hc_Args (by omega) (by omega)).mono ?_
  case hc_Args => exact C_upd (by repeat (with_reducible first | exact Upd.refl _ _ | apply Upd.put2 | apply Upd.put1 | apply Upd.put0 | apply Upd.alloc | apply Upd.drewN | apply Upd.drew)) HC5.out
  rintro e w_Args ⟨r_Args, rfl, hr_Args, hu⟩
  have HB_Args : Sd (Upd No w w_Args) := Sd.mk (Upd.then (by repeat (with_reducible first | exact Upd.refl _ _ | apply Upd.put2 | apply Upd.put1 | apply Upd.put0 | apply Upd.alloc | apply Upd.drewN | apply Upd.drew)) hu)
  have cc0_Args := fun o => hu.cellsF (b := w.heap.size) (by first | omega | (simp; done) | (simp; omega)) (fun q => q) o
  have hz_Args : w.heap.size + 1 ≤ w_Args.heap.size := by have := hu.size; (try simp at this); omega
  clear hu
  rcases hr_Args with ⟨q_Args, rfl⟩ | ⟨q_Args, rfl⟩
  case inr =>
    go_wp2
    go_ret
    exact ⟨_, rfl, .inr ⟨by unfold szn_Message; omega, rfl⟩, (by repeat (with_reducible first | exact HB_Args.out | apply Upd.put2 | apply Upd.put1 | apply Upd.put0 | apply Upd.alloc | apply Upd.drewN | apply Upd.drew))⟩
  go_wp2
  go_ret
  exact ⟨_, rfl, .inl ⟨by unfold szn_Message; omega, by unfold szn_Message; omega⟩, (by repeat (with_reducible first | exact HB_Args.out | apply Upd.put2 | apply Upd.put1 | apply Upd.put0 | apply Upd.alloc | apply Upd.drewN | apply Upd.drew))⟩
set_option maxHeartbeats 1000000 in
set_option maxRecDepth 100000 in
theorem eq_Message (x : GMessage) (cs cs' : List Value) (w : World) (h : ki_Message.K w x cs) (h' : ki_Message.K w x cs') : Calls Try.prog 106 #[.agg cs.toArray, .agg cs'.toArray] w (RetBool true w) := by
  obtain ⟨A5, c5, rfl, hl5, hC5⟩ := ki_Message_K h
  have HC5 := Sd.mk hC5
  clear hC5
  obtain ⟨B5, b5, rfl, hm5, hD5⟩ := ki_Message_K h'
  have HD5 := Sd.mk hD5
  clear hD5
  go_enter Try.func106, Try.ntmps106
  go_wp2_with fail
  with_reducible refine (eqS_Wire x.Args _ _ _ _ _ ?hc_Args ?hd_Args).mono ?_
  case hc_Args => exact C_upd (by repeat (with_reducible first | exact Upd.refl _ _ | apply Upd.put2 | apply Upd.put1 | apply Upd.put0 | apply Upd.alloc | apply Upd.drewN | apply Upd.drew)) HC5.out
  case hd_Args => exact C_upd (by repeat (with_reducible first | exact Upd.refl _ _ | apply Upd.put2 | apply Upd.put1 | apply Upd.put0 | apply Upd.alloc | apply Upd.drewN | apply Upd.drew)) HD5.out
  rintro e w_Args ⟨rfl, hu⟩
  have HB_Args : Sd (Upd No w w_Args) := Sd.mk (Upd.then (by repeat (with_reducible first | exact Upd.refl _ _ | apply Upd.put2 | apply Upd.put1 | apply Upd.put0 | apply Upd.alloc | apply Upd.drewN | apply Upd.drew)) hu)
  have cc0_Args := fun o => hu.cellsF (b := w.heap.size) (by first | omega | (simp; done) | (simp; omega)) (fun q => q) o
  have cc1_Args := fun o => hu.cellsF (b := w.heap.size + 1) (by first | omega | (simp; done) | (simp; omega)) (fun q => q) o
  have hz_Args : w.heap.size + 1 + 1 ≤ w_Args.heap.size := by have := hu.size; (try simp at this); omega
  clear hu
  go_wp2_with fail
  with_reducible refine (eq_Wire x.Value _ _ _ (ki_Wire_Kmk _ _) (ki_Wire_Kmk _ _)).mono ?_
  rintro e w_Value ⟨rfl, hu⟩
  have HB_Value : Sd (Upd No w w_Value) := Sd.mk (Upd.then (by repeat (with_reducible first | exact HB_Args.out | apply Upd.put2 | apply Upd.put1 | apply Upd.put0 | apply Upd.alloc | apply Upd.drewN | apply Upd.drew)) hu)
  have cc0_Value := fun o => hu.cellsF (b := w.heap.size) (by first | omega | (simp; done) | (simp; omega)) (fun q => q) o
  have cc1_Value := fun o => hu.cellsF (b := w.heap.size + 1) (by first | omega | (simp; done) | (simp; omega)) (fun q => q) o
  have hz_Value : w.heap.size + 1 + 1 ≤ w_Value.heap.size := by have := hu.size; (try simp at this); omega
  clear hu
  go_wp2_with fail
  with_reducible refine (eq_Tag x.Tag _ _ _ (ki_Tag_Kmk _ _) (ki_Tag_Kmk _ _)).mono ?_
  rintro e w_Tag ⟨rfl, hu⟩
  have HB_Tag : Sd (Upd No w w_Tag) := Sd.mk (Upd.then (by repeat (with_reducible first | exact HB_Value.out | apply Upd.put2 | apply Upd.put1 | apply Upd.put0 | apply Upd.alloc | apply Upd.drewN | apply Upd.drew)) hu)
  have cc0_Tag := fun o => hu.cellsF (b := w.heap.size) (by first | omega | (simp; done) | (simp; omega)) (fun q => q) o
  have cc1_Tag := fun o => hu.cellsF (b := w.heap.size + 1) (by first | omega | (simp; done) | (simp; omega)) (fun q => q) o
  have hz_Tag : w.heap.size + 1 + 1 ≤ w_Tag.heap.size := by have := hu.size; (try simp at this); omega
  clear hu
  go_wp2
  go_ret
  exact ⟨rfl, (by repeat (with_reducible first | exact HB_Tag.out | apply Upd.put2 | apply Upd.put1 | apply Upd.put0 | apply Upd.alloc | apply Upd.drewN | apply Upd.drew))⟩
end Go.Proofs.YtnmgmenipfhjkaaFam
