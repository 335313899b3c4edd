/- Copies. No conditions beyond the sizes that the contracts name. -/
import Derived.Test.YtliejlcoeoiajaaProg
import Derived.Test.YtliejlcoeoiajaaSep2
import Derived.Test.YtliejlcoeoiajaaLst
import Derived.WalkKit
import Derived.KernelRfl
import Derived.RowKit3
import Derived.Deep.LoopGhost
import Derived.Deep.QuietTactic
import Derived.BigQuiet
import Derived.StillTailTactics
import Derived.Test.YtliejlcoeoiajaaK
import Derived.Deep.RegionHeld3
import Derived.Test.YtliejlcoeoiajaaFamMessage
import Derived.Test.YtliejlcoeoiajaaFamChannel
import Derived.Test.YtliejlcoeoiajaaLst2
import Derived.Test.YtliejlcoeoiajaaSep3
namespace Go.Proofs.YtliejlcoeoiajaaFam
open Go.RowKit Go.Proofs.YtliejlcoeoiajaaSep Go.Proofs.YtliejlcoeoiajaaT Go.Proofs.YtliejlcoeoiajaaK
set_option linter.unusedVariables false
set_option linter.unusedSimpArgs false
set_option maxHeartbeats 1000000 in
set_option maxRecDepth 100000 in
theorem flat_Wire : Flat ki_Wire := by
  unfold ki_Wire
  repeat' first | apply flat_iso | apply flat_pair | apply flat_scalar
theorem clone_Wire (l : List GWire) (A : Option Addr) (c : Nat) (w : World) (h : C ki_Wire w A l) (hn : l.length ≤ 1048576) : Calls Try.prog 84 #[.slice A l.length c] w (RetRow ki_Wire 42 l w) := by
  have HC := Sd.mk (CM_of_flat flat_Wire h)
  have eqn := fun (w : World) a n c n' c' => Lib.run_eql_slice_nil (P := Try.prog) w 40 42 a n c n' c' Try.underlying40
  clear h
  go_enter Try.func84, Try.ntmps84
  rcases A with _ | ad
  · have h0 : l = [] := by
      cases l with
      | nil => rfl
      | cons x l => obtain ⟨ad, q, _⟩ := HC.out.2 (by simp); cases q
    subst h0
    go_wp2
    go_ret
    exact ⟨_, rfl, R_nil, Upd.refl _ _⟩
  · go_wp2_with (first | (at_builtin; refine R_appAny (d := ki_Wire) (e := 42) (ys := l) (xs := []) (F := New w) rfl _ _ 40 _ _ rfl Try.underlying40 ki_Wire_info rfl (by decide) (by decide) (some ad) c (fun _ => No) rfl rfl (R_empty w) (CM_upd (Upd.alloc (Upd.refl _ _) _) HC.out) (fun _ _ q => q.elim) (fun _ _ _ q => q.elim) (by simp; omega) ?_) | fail)
    intro v1 w1 hR hU
    have hR' := Sd.mk hR
    have HU := Sd.mk (((Upd.refl No w).alloc (.cells #[] 42)).trans hU (fun _ _ q => q) (fun b hb q => absurd hb (by simp only [New] at q; omega)))
    clear hR hU
    go_wp2
    go_ret
    exact ⟨_, rfl, R_mono (fun b q => by rcases q with q | ⟨j, _, q⟩ | q <;> simp [New, No] at q ⊢ <;> omega) hR'.out, HU.out⟩
set_option maxHeartbeats 1000000 in
set_option maxRecDepth 100000 in
theorem copied_Message (x : GMessage) (cs : List Value) (w : World) (h : ki_Message.K w x cs) (hn : x.Args.length ≤ 1048576) : Calls Try.prog 92 #[.agg cs.toArray] w (RetAgg ki_Message x w) := by
  obtain ⟨A5, c5, rfl, hl5, hC5⟩ := ki_Message_K h
  have HC5 := Sd.mk hC5
  clear h hC5
  go_enter Try.func92, Try.ntmps92
  go_wp2_with fail
  with_reducible refine (clone_Wire x.Args _ _ _ ?hc hn).mono ?_
  case hc => exact C_upd (by repeat (with_reducible first | exact Upd.refl _ _ | apply Upd.alloc)) HC5.out
  rintro e w1 ⟨v5, rfl, hR5, hu⟩
  obtain ⟨B5, b5, rfl⟩ := R_slice hR5
  obtain ⟨P5, hR5', g5, l5⟩ := fresh_row hR5 (w.heap.size + 1 + 1) (by first | omega | (simp; done) | (simp; omega))
  have n0_5 : ¬ P5 w.heap.size := fun q => by have := g5 _ q; omega
  have n1_5 : ¬ P5 (w.heap.size + 1) := fun q => by have := g5 _ q; omega
  have HR5 := Sd.mk hR5'
  have GP5 := Sd.mk g5
  have HB : Sd (Upd No w w1) := Sd.mk (Upd.then (by repeat (with_reducible first | exact Upd.refl _ _ | apply Upd.alloc)) hu)
  have cc0 := fun o => hu.cellsF (b := w.heap.size) (by first | omega | (simp; done) | (simp; omega)) (fun q => q) o
  have cf0 := fun o => hu.frozenF (b := w.heap.size) (by first | omega | (simp; done) | (simp; omega)) (fun q => q) o
  have cc1 := fun o => hu.cellsF (b := w.heap.size + 1) (by first | omega | (simp; done) | (simp; omega)) (fun q => q) o
  have cf1 := fun o => hu.frozenF (b := w.heap.size + 1) (by first | omega | (simp; done) | (simp; omega)) (fun q => q) o
  clear hu hR5 hR5' g5 l5
  go_wp2
  refine bodyPost_ret (v := .agg #[.int .i64 x.Kind, .int .i64 x.Pos, .int .i64 x.Answer, .int .i64 x.Question, .string x.Name, .slice B5 x.Args.length b5, .int .i64 x.Value.Kind, .int .i64 x.Value.N, .int .i64 x.Count, .int .i64 x.Tag.Vat, .int .i64 x.Tag.Entity, .int .i64 x.Tag.Seq]) (by simp [results, Try.results92, go_sem, cc1]) rfl ⟨_, rfl, ?_, by repeat (with_reducible first | exact HB.out | apply Upd.put1 | apply Upd.put0)⟩
  exact ki_Message_mk _ _ _ (R_keep HR5.out (by repeat (with_reducible first | exact Upd.refl _ _ | apply Upd.putP n0_5 | apply Upd.putP n1_5))) (fun k hk => by have := GP5.out k hk; simp only [New]; omega)
set_option maxHeartbeats 1000000 in
set_option maxRecDepth 100000 in
theorem l11Copy_s (x : GMessage) (cs : List Value) (w : World) (h : ki_Message.K w x cs) (hn : x.Args.length ≤ 1048576) : Calls Try.prog 95 #[.agg cs.toArray] w (RetAgg ki_Message x w) := by
  obtain ⟨A5, c5, rfl, hl5, hC5⟩ := ki_Message_K h
  have HC5 := Sd.mk (CM_of_flat flat_Wire hC5)
  clear h hC5
  go_enter Try.func95, Try.ntmps95
  go_wp2_with (first | (at_builtin; refine R_appAny (d := ki_Wire) (e := 42) (ys := x.Args) (xs := []) (F := New _) rfl _ _ 40 _ _ rfl Try.underlying40 ki_Wire_info rfl (by decide) (by decide) A5 c5 (fun _ => No) rfl rfl (R_emptyAt _ _ (by simp)) (CM_upd (by repeat (with_reducible first | exact Upd.refl _ _ | apply Upd.put0 | apply Upd.put1 | apply Upd.put2 | apply Upd.alloc | apply Upd.drewN | apply Upd.drew)) HC5.out) (fun _ _ q => q.elim) (fun _ _ _ q => q.elim) (by simp; omega) ?_) | fail)
  intro v5 w1 hR5 hu
  obtain ⟨B5, b5, rfl⟩ := R_slice hR5
  have hR5' : R ki_Wire 42 w1 (fun b => w.heap.size + 1 + 1 + 1 ≤ b) (.slice B5 x.Args.length b5) x.Args := R_mono (fun b q => by simp [New, No] at q; omega) hR5
  have n1_5 : ¬ w.heap.size + 1 + 1 + 1 ≤ w.heap.size + 1 := by omega
  have n2_5 : ¬ w.heap.size + 1 + 1 + 1 ≤ w.heap.size + 1 + 1 := by omega
  have HR5 := Sd.mk hR5'
  have HB : Sd (Upd No w w1) := Sd.mk (Upd.trans (by repeat (with_reducible first | exact Upd.refl No _ | apply Upd.put0 | apply Upd.put1 | apply Upd.put2 | apply Upd.alloc)) hu (fun _ _ q => q) (fun b hb q => by simp [New] at q; omega))
  have cc1 := fun o => hu.cellsF (b := w.heap.size + 1) (by first | (simp; done) | (simp; omega)) (by first | (simp [New]; done) | (simp [New]; omega)) o
  have cf1 := fun o => hu.frozenF (b := w.heap.size + 1) (by first | (simp; done) | (simp; omega)) (by first | (simp [New]; done) | (simp [New]; omega)) o
  have cc2 := fun o => hu.cellsF (b := w.heap.size + 1 + 1) (by first | (simp; done) | (simp; omega)) (by first | (simp [New]; done) | (simp [New]; omega)) o
  have cf2 := fun o => hu.frozenF (b := w.heap.size + 1 + 1) (by first | (simp; done) | (simp; omega)) (by first | (simp [New]; done) | (simp [New]; omega)) o
  clear hu hR5 hR5'
  go_wp2
  refine bodyPost_ret (v := .agg #[.int .i64 x.Kind, .int .i64 x.Pos, .int .i64 x.Answer, .int .i64 x.Question, .string x.Name, .slice B5 x.Args.length b5, .int .i64 x.Value.Kind, .int .i64 x.Value.N, .int .i64 x.Count, .int .i64 x.Tag.Vat, .int .i64 x.Tag.Entity, .int .i64 x.Tag.Seq]) (by simp [results, Try.results95, go_sem, cc1, cc2]) rfl ⟨_, rfl, ?_, by repeat (with_reducible first | exact HB.out | apply Upd.put2 | apply Upd.put1 | apply Upd.put0)⟩
  exact ki_Message_mk _ _ _ (R_keep HR5.out (by repeat (with_reducible first | exact Upd.refl _ _ | apply Upd.putP n1_5 | apply Upd.putP n2_5))) (fun k hk => by simp only [New]; omega)
end Go.Proofs.YtliejlcoeoiajaaFam
