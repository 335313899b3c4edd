/- What the row needs, packed. No conditions beyond those that each law names. -/
import Derived.Test.YtfnedoiplblldaaGreatZtw2
import Derived.Test.YtfnedoiplblldaaGreatProg
import Derived.Test.YtfnedoiplblldaaGreatZtw1
import Derived.WalkKit
import Derived.KernelRfl
import Derived.RowKit3
import Derived.Deep.LoopGhost
import Derived.Deep.QuietTactic
import Derived.BigQuiet
import Derived.StillTailTactics
import Derived.Deep.RegionHeld3
import Derived.Deep.RegionLaw
import Derived.Deep.DeepCutAuto
namespace Go.Proofs.YtfnedoiplblldaaGreatFam
open Go.RowKit Go.Proofs.YtfnedoiplblldaaGreatSep Go.Proofs.YtfnedoiplblldaaGreatT Go.Proofs.YtfnedoiplblldaaGreatK
set_option linter.unusedVariables false
set_option linter.unusedSimpArgs false
set_option maxHeartbeats 1000000
set_option maxRecDepth 100000
theorem l11Copy_s (x : GMessage) (cs : List Value) (w : World) (h : iE.K w x cs) (hs : fU x ≤ 4194304) : Calls Tryz.prog 92 #[.agg cs.toArray] w (jJ iE x w) := by
 obtain ⟨A5, c5, rfl, hl5, hC5⟩ := mJ h
 have HC5 := Sd.mk hC5
 clear hC5
 clear h
 have s_Args : bN iD x.dI ≤ 4194304 := by unfold fU at hs; omega
 have HCM5 := Sd.mk (iM flat_Wire HC5.out)
 have n_Args : x.dI.length ≤ 4194304 := by unfold bN at s_Args; omega
 have S_Args := Sd.mk s_Args
 clear hs s_Args
 go_enter Tryz.func92, Tryz.ntmps92
 go_wp2_with (first | (at_builtin; refine kF (d := bW) (e := 72) (ys := x.dI) (xs := []) (F := New _) rfl _ _ 71 _ _ rfl Tryz.underlying71 mI rfl kD kD A5 c5 (fun _ => No) rfl rfl (mM _ _ (by simp)) (CM_upd (by repeat (with_reducible first | exact Upd.refl No _ | apply Upd.dL | apply Upd.dK | apply Upd.dG | apply Upd.alloc | apply Upd.drewN | apply Upd.drew)) HCM5.out) (fun _ _ q => q.elim) (fun _ _ _ q => q.elim) (by simp; omega) ?_) | fail)
 intro v5 w_Args hR5 hu
 obtain ⟨B5, b5, rfl⟩ := dA hR5
 obtain ⟨P5, hR5', g5, l5⟩ : ∃ P : Nat → Prop, R bW 72 w_Args P (.slice B5 x.dI.length b5) x.dI ∧ (∀ b, P b → w.heap.size + 1 + 1 + 1 ≤ b) ∧ (∀ b, P b → b < w_Args.heap.size) := ⟨_, R_lt (gM (F' := fun b => w.heap.size + 1 + 1 + 1 ≤ b) (fun b q => (by simp [New, No] at q; omega)) hR5), fun b q => q.1, fun b q => q.2⟩
 have n0_5 : ¬ P5 (w.heap.size) := fun q => (by have := g5 _ q; omega)
 have n1_5 : ¬ P5 (w.heap.size + 1) := fun q => (by have := g5 _ q; omega)
 have n2_5 : ¬ P5 (w.heap.size + 1 + 1) := fun q => (by have := g5 _ q; omega)
 have HR5 := Sd.mk hR5'
 have GP5 := Sd.mk g5
 have LT5 := Sd.mk l5
 clear hR5 hR5' g5 l5
 have HB_Args : Sd (Upd No w w_Args) := Sd.mk (Upd.trans (F := No) (by repeat (with_reducible first | exact Upd.refl No _ | apply Upd.dL | apply Upd.dK | apply Upd.dG | apply Upd.alloc | apply Upd.drewN | apply Upd.drew)) hu (fun _ _ q => q) (fun b hb q => (by simp [New] at q; omega)))
 have cc0_Args := fun o => hu.bF (b := w.heap.size) kB (by first | (simp [New]; done) | (simp [New]; omega)) o
 have cf0_Args := fun o => hu.bV (b := w.heap.size) kB (by first | (simp [New]; done) | (simp [New]; omega)) o
 have cc1_Args := fun o => hu.bF (b := w.heap.size + 1) kB (by first | (simp [New]; done) | (simp [New]; omega)) o
 have cf1_Args := fun o => hu.bV (b := w.heap.size + 1) kB (by first | (simp [New]; done) | (simp [New]; omega)) o
 have cc2_Args := fun o => hu.bF (b := w.heap.size + 1 + 1) kB (by first | (simp [New]; done) | (simp [New]; omega)) o
 have cf2_Args := fun o => hu.bV (b := w.heap.size + 1 + 1) kB (by first | (simp [New]; done) | (simp [New]; omega)) o
 have ca0_Args : ∀ p u ob o, ((w_Args.setCell p u).alloc ob).cell? ⟨w.heap.size, o, none⟩ = (w_Args.setCell p u).cell? ⟨w.heap.size, o, none⟩ := fun p u ob o => ((Upd.refl No _).alloc ob).bF (b := w.heap.size) (by have := hu.size; simp at this ⊢; omega) (fun q => q) o
 have cb0_Args : ∀ p u ob o, ((w_Args.setCell p u).alloc ob).frozen? ⟨w.heap.size, o, none⟩ = (w_Args.setCell p u).frozen? ⟨w.heap.size, o, none⟩ := fun p u ob o => ((Upd.refl No _).alloc ob).bV (b := w.heap.size) (by have := hu.size; simp at this ⊢; omega) (fun q => q) o
 have ca1_Args : ∀ p u ob o, ((w_Args.setCell p u).alloc ob).cell? ⟨w.heap.size + 1, o, none⟩ = (w_Args.setCell p u).cell? ⟨w.heap.size + 1, o, none⟩ := fun p u ob o => ((Upd.refl No _).alloc ob).bF (b := w.heap.size + 1) (by have := hu.size; simp at this ⊢; omega) (fun q => q) o
 have cb1_Args : ∀ p u ob o, ((w_Args.setCell p u).alloc ob).frozen? ⟨w.heap.size + 1, o, none⟩ = (w_Args.setCell p u).frozen? ⟨w.heap.size + 1, o, none⟩ := fun p u ob o => ((Upd.refl No _).alloc ob).bV (b := w.heap.size + 1) (by have := hu.size; simp at this ⊢; omega) (fun q => q) o
 have ca2_Args : ∀ p u ob o, ((w_Args.setCell p u).alloc ob).cell? ⟨w.heap.size + 1 + 1, o, none⟩ = (w_Args.setCell p u).cell? ⟨w.heap.size + 1 + 1, o, none⟩ := fun p u ob o => ((Upd.refl No _).alloc ob).bF (b := w.heap.size + 1 + 1) (by have := hu.size; simp at this ⊢; omega) (fun q => q) o
 have cb2_Args : ∀ p u ob o, ((w_Args.setCell p u).alloc ob).frozen? ⟨w.heap.size + 1 + 1, o, none⟩ = (w_Args.setCell p u).frozen? ⟨w.heap.size + 1 + 1, o, none⟩ := fun p u ob o => ((Upd.refl No _).alloc ob).bV (b := w.heap.size + 1 + 1) (by have := hu.size; simp at this ⊢; omega) (fun q => q) o
 have hz_Args : w.heap.size + 1 + 1 + 1 ≤ w_Args.heap.size := (by have := hu.size; (try simp at this); omega)
 clear hu
 go_wp2
 refine bodyPost_ret (v := .agg #[.int .i64 x.Kind, .int .i64 x.Pos, .int .i64 x.eU, .int .i64 x.Question, .string x.Name, .slice B5 x.dI.length b5, .int .i64 x.Value.Kind, .int .i64 x.Value.N, .int .i64 x.Count, .int .i64 x.Tag.Vat, .int .i64 x.Tag.Entity, .int .i64 x.Tag.Seq]) (by simp [results, Tryz.results92, go_sem, cc1_Args, ca1_Args, cc2_Args, ca2_Args]) rfl ⟨_, rfl, ?_, (by repeat (with_reducible first | exact HB_Args.out | apply Upd.dL | apply Upd.dK | apply Upd.dG | apply Upd.alloc | apply Upd.drewN | apply Upd.drew))⟩
 exact mY _ _ x (fH HR5.out (by repeat (with_reducible first | exact Upd.refl _ _ | apply Upd.eZ n0_5 | apply Upd.eZ n1_5 | apply Upd.eZ n2_5 | apply Upd.alloc | apply Upd.drewN | apply Upd.drew))) (fun k hk => by have := GP5.out k hk; simp only [New]; omega)
theorem l10Copy_s (x : GLink) (cs : List Value) (w : World) (h : aO.K w x cs) (hs : bQ x ≤ 4194304) : Calls Tryz.prog 159 #[.agg cs.toArray] w (jJ aO x w) := by
 obtain ⟨A2, c2, A4, c4, A6, c6, rfl, hl2, hC2, hl4, hC4, hl6, hC6⟩ := kL h
 have HC2 := Sd.mk hC2
 have HC4 := Sd.mk hC4
 have HC6 := Sd.mk hC6
 clear hC2 hC4 hC6
 clear h
 have s_Exports : bN fK x.aH ≤ 4194304 := by unfold bQ at hs; omega
 have HCM2 := Sd.mk (iM flat_Export HC2.out)
 have n_Exports : x.aH.length ≤ 4194304 := by unfold bN at s_Exports; omega
 have S_Exports := Sd.mk s_Exports
 have s_Questions : bN eT x.aI ≤ 4194304 := by unfold bQ at hs; omega
 have HCM4 := Sd.mk (iM oO HC4.out)
 have n_Questions : x.aI.length ≤ 4194304 := by unfold bN at s_Questions; omega
 have S_Questions := Sd.mk s_Questions
 have s_Answers : bN eT x.aQ ≤ 4194304 := by unfold bQ at hs; omega
 have HCM6 := Sd.mk (iM oO HC6.out)
 have n_Answers : x.aQ.length ≤ 4194304 := by unfold bN at s_Answers; omega
 have S_Answers := Sd.mk s_Answers
 clear hs s_Exports s_Questions s_Answers
 go_enter Tryz.func159, Tryz.ntmps159
 go_wp2_with (first | (at_builtin; refine kF (d := bC) (e := 256) (ys := x.aH) (xs := []) (F := New _) rfl _ _ 175 _ _ rfl Tryz.underlying175 kX rfl kD kD A2 c2 (fun _ => No) rfl rfl (mM _ _ (by simp)) (CM_upd (by repeat (with_reducible first | exact Upd.refl No _ | apply Upd.dL | apply Upd.dK | apply Upd.dG | apply Upd.alloc | apply Upd.drewN | apply Upd.drew)) HCM2.out) (fun _ _ q => q.elim) (fun _ _ _ q => q.elim) (by simp; omega) ?_) | fail)
 intro v2 w_Exports hR2 hu
 obtain ⟨B2, b2, rfl⟩ := dA hR2
 obtain ⟨P2, hR2', g2, l2⟩ : ∃ P : Nat → Prop, R bC 256 w_Exports P (.slice B2 x.aH.length b2) x.aH ∧ (∀ b, P b → w.heap.size + 1 + 1 + 1 ≤ b) ∧ (∀ b, P b → b < w_Exports.heap.size) := ⟨_, R_lt (gM (F' := fun b => w.heap.size + 1 + 1 + 1 ≤ b) (fun b q => (by simp [New, No] at q; omega)) hR2), fun b q => q.1, fun b q => q.2⟩
 have n0_2 : ¬ P2 (w.heap.size) := fun q => (by have := g2 _ q; omega)
 have n1_2 : ¬ P2 (w.heap.size + 1) := fun q => (by have := g2 _ q; omega)
 have n2_2 : ¬ P2 (w.heap.size + 1 + 1) := fun q => (by have := g2 _ q; omega)
 have HR2 := Sd.mk hR2'
 have GP2 := Sd.mk g2
 have LT2 := Sd.mk l2
 clear hR2 hR2' g2 l2
 have HB_Exports : Sd (Upd No w w_Exports) := Sd.mk (Upd.trans (F := No) (by repeat (with_reducible first | exact Upd.refl No _ | apply Upd.dL | apply Upd.dK | apply Upd.dG | apply Upd.alloc | apply Upd.drewN | apply Upd.drew)) hu (fun _ _ q => q) (fun b hb q => (by simp [New] at q; omega)))
 have cc0_Exports := fun o => hu.bF (b := w.heap.size) kB (by first | (simp [New]; done) | (simp [New]; omega)) o
 have cf0_Exports := fun o => hu.bV (b := w.heap.size) kB (by first | (simp [New]; done) | (simp [New]; omega)) o
 have cc1_Exports := fun o => hu.bF (b := w.heap.size + 1) kB (by first | (simp [New]; done) | (simp [New]; omega)) o
 have cf1_Exports := fun o => hu.bV (b := w.heap.size + 1) kB (by first | (simp [New]; done) | (simp [New]; omega)) o
 have cc2_Exports := fun o => hu.bF (b := w.heap.size + 1 + 1) kB (by first | (simp [New]; done) | (simp [New]; omega)) o
 have cf2_Exports := fun o => hu.bV (b := w.heap.size + 1 + 1) kB (by first | (simp [New]; done) | (simp [New]; omega)) o
 have ca0_Exports : ∀ p u ob o, ((w_Exports.setCell p u).alloc ob).cell? ⟨w.heap.size, o, none⟩ = (w_Exports.setCell p u).cell? ⟨w.heap.size, o, none⟩ := fun p u ob o => ((Upd.refl No _).alloc ob).bF (b := w.heap.size) (by have := hu.size; simp at this ⊢; omega) (fun q => q) o
 have cb0_Exports : ∀ p u ob o, ((w_Exports.setCell p u).alloc ob).frozen? ⟨w.heap.size, o, none⟩ = (w_Exports.setCell p u).frozen? ⟨w.heap.size, o, none⟩ := fun p u ob o => ((Upd.refl No _).alloc ob).bV (b := w.heap.size) (by have := hu.size; simp at this ⊢; omega) (fun q => q) o
 have ca1_Exports : ∀ p u ob o, ((w_Exports.setCell p u).alloc ob).cell? ⟨w.heap.size + 1, o, none⟩ = (w_Exports.setCell p u).cell? ⟨w.heap.size + 1, o, none⟩ := fun p u ob o => ((Upd.refl No _).alloc ob).bF (b := w.heap.size + 1) (by have := hu.size; simp at this ⊢; omega) (fun q => q) o
 have cb1_Exports : ∀ p u ob o, ((w_Exports.setCell p u).alloc ob).frozen? ⟨w.heap.size + 1, o, none⟩ = (w_Exports.setCell p u).frozen? ⟨w.heap.size + 1, o, none⟩ := fun p u ob o => ((Upd.refl No _).alloc ob).bV (b := w.heap.size + 1) (by have := hu.size; simp at this ⊢; omega) (fun q => q) o
 have ca2_Exports : ∀ p u ob o, ((w_Exports.setCell p u).alloc ob).cell? ⟨w.heap.size + 1 + 1, o, none⟩ = (w_Exports.setCell p u).cell? ⟨w.heap.size + 1 + 1, o, none⟩ := fun p u ob o => ((Upd.refl No _).alloc ob).bF (b := w.heap.size + 1 + 1) (by have := hu.size; simp at this ⊢; omega) (fun q => q) o
 have cb2_Exports : ∀ p u ob o, ((w_Exports.setCell p u).alloc ob).frozen? ⟨w.heap.size + 1 + 1, o, none⟩ = (w_Exports.setCell p u).frozen? ⟨w.heap.size + 1 + 1, o, none⟩ := fun p u ob o => ((Upd.refl No _).alloc ob).bV (b := w.heap.size + 1 + 1) (by have := hu.size; simp at this ⊢; omega) (fun q => q) o
 have hz_Exports : w.heap.size + 1 + 1 + 1 ≤ w_Exports.heap.size := (by have := hu.size; (try simp at this); omega)
 clear hu
 go_wp2_with (first | (at_builtin; refine kF (d := aU) (e := 289) (ys := x.aI) (xs := []) (F := New _) rfl _ _ 176 _ _ rfl Tryz.underlying176 lD rfl kD kD A4 c4 (fun _ => No) rfl rfl (mM _ _ (by simp)) (CM_upd (by repeat (with_reducible first | exact HB_Exports.out | apply Upd.dL | apply Upd.dK | apply Upd.dG | apply Upd.alloc | apply Upd.drewN | apply Upd.drew)) HCM4.out) (fun _ _ q => q.elim) (fun _ _ _ q => q.elim) (by simp; omega) ?_) | fail)
 intro v4 w_Questions hR4 hu
 obtain ⟨B4, b4, rfl⟩ := dA hR4
 obtain ⟨P4, hR4', g4, l4⟩ : ∃ P : Nat → Prop, R aU 289 w_Questions P (.slice B4 x.aI.length b4) x.aI ∧ (∀ b, P b → w_Exports.heap.size ≤ b) ∧ (∀ b, P b → b < w_Questions.heap.size) := ⟨_, R_lt (gM (F' := fun b => w_Exports.heap.size ≤ b) (fun b q => (by simp [New, No] at q; omega)) hR4), fun b q => q.1, fun b q => q.2⟩
 have n0_4 : ¬ P4 (w.heap.size) := fun q => (by have := g4 _ q; omega)
 have n1_4 : ¬ P4 (w.heap.size + 1) := fun q => (by have := g4 _ q; omega)
 have n2_4 : ¬ P4 (w.heap.size + 1 + 1) := fun q => (by have := g4 _ q; omega)
 have HR4 := Sd.mk hR4'
 have GP4 := Sd.mk g4
 have LT4 := Sd.mk l4
 clear hR4 hR4' g4 l4
 replace HR2 := Sd.mk (dR hu (fun b hb q => (by have := LT2.out b hb; simp [New] at q; omega)) (fH HR2.out (by repeat (with_reducible first | exact Upd.refl _ _ | apply Upd.eZ n0_2 | apply Upd.eZ n1_2 | apply Upd.eZ n2_2 | apply Upd.alloc | apply Upd.drewN | apply Upd.drew))))
 have HB_Questions : Sd (Upd No w w_Questions) := Sd.mk (Upd.trans (F := No) (by repeat (with_reducible first | exact HB_Exports.out | apply Upd.dL | apply Upd.dK | apply Upd.dG | apply Upd.alloc | apply Upd.drewN | apply Upd.drew)) hu (fun _ _ q => q) (fun b hb q => (by simp [New] at q; omega)))
 have cc0_Questions := fun o => hu.bF (b := w.heap.size) kB (by first | (simp [New]; done) | (simp [New]; omega)) o
 have cf0_Questions := fun o => hu.bV (b := w.heap.size) kB (by first | (simp [New]; done) | (simp [New]; omega)) o
 have cc1_Questions := fun o => hu.bF (b := w.heap.size + 1) kB (by first | (simp [New]; done) | (simp [New]; omega)) o
 have cf1_Questions := fun o => hu.bV (b := w.heap.size + 1) kB (by first | (simp [New]; done) | (simp [New]; omega)) o
 have cc2_Questions := fun o => hu.bF (b := w.heap.size + 1 + 1) kB (by first | (simp [New]; done) | (simp [New]; omega)) o
 have cf2_Questions := fun o => hu.bV (b := w.heap.size + 1 + 1) kB (by first | (simp [New]; done) | (simp [New]; omega)) o
 have ca0_Questions : ∀ p u ob o, ((w_Questions.setCell p u).alloc ob).cell? ⟨w.heap.size, o, none⟩ = (w_Questions.setCell p u).cell? ⟨w.heap.size, o, none⟩ := fun p u ob o => ((Upd.refl No _).alloc ob).bF (b := w.heap.size) (by have := hu.size; simp at this ⊢; omega) (fun q => q) o
 have cb0_Questions : ∀ p u ob o, ((w_Questions.setCell p u).alloc ob).frozen? ⟨w.heap.size, o, none⟩ = (w_Questions.setCell p u).frozen? ⟨w.heap.size, o, none⟩ := fun p u ob o => ((Upd.refl No _).alloc ob).bV (b := w.heap.size) (by have := hu.size; simp at this ⊢; omega) (fun q => q) o
 have ca1_Questions : ∀ p u ob o, ((w_Questions.setCell p u).alloc ob).cell? ⟨w.heap.size + 1, o, none⟩ = (w_Questions.setCell p u).cell? ⟨w.heap.size + 1, o, none⟩ := fun p u ob o => ((Upd.refl No _).alloc ob).bF (b := w.heap.size + 1) (by have := hu.size; simp at this ⊢; omega) (fun q => q) o
 have cb1_Questions : ∀ p u ob o, ((w_Questions.setCell p u).alloc ob).frozen? ⟨w.heap.size + 1, o, none⟩ = (w_Questions.setCell p u).frozen? ⟨w.heap.size + 1, o, none⟩ := fun p u ob o => ((Upd.refl No _).alloc ob).bV (b := w.heap.size + 1) (by have := hu.size; simp at this ⊢; omega) (fun q => q) o
 have ca2_Questions : ∀ p u ob o, ((w_Questions.setCell p u).alloc ob).cell? ⟨w.heap.size + 1 + 1, o, none⟩ = (w_Questions.setCell p u).cell? ⟨w.heap.size + 1 + 1, o, none⟩ := fun p u ob o => ((Upd.refl No _).alloc ob).bF (b := w.heap.size + 1 + 1) (by have := hu.size; simp at this ⊢; omega) (fun q => q) o
 have cb2_Questions : ∀ p u ob o, ((w_Questions.setCell p u).alloc ob).frozen? ⟨w.heap.size + 1 + 1, o, none⟩ = (w_Questions.setCell p u).frozen? ⟨w.heap.size + 1 + 1, o, none⟩ := fun p u ob o => ((Upd.refl No _).alloc ob).bV (b := w.heap.size + 1 + 1) (by have := hu.size; simp at this ⊢; omega) (fun q => q) o
 have hz_Questions : w.heap.size + 1 + 1 + 1 ≤ w_Questions.heap.size := (by have := hu.size; (try simp at this); omega)
 have hm_Questions : w_Exports.heap.size ≤ w_Questions.heap.size := (by have := hu.size; (try simp at this); omega)
 clear hu
 go_wp2_with (first | (at_builtin; refine kF (d := aU) (e := 289) (ys := x.aQ) (xs := []) (F := New _) rfl _ _ 176 _ _ rfl Tryz.underlying176 lD rfl kD kD A6 c6 (fun _ => No) rfl rfl (mM _ _ (by simp)) (CM_upd (by repeat (with_reducible first | exact HB_Questions.out | apply Upd.dL | apply Upd.dK | apply Upd.dG | apply Upd.alloc | apply Upd.drewN | apply Upd.drew)) HCM6.out) (fun _ _ q => q.elim) (fun _ _ _ q => q.elim) (by simp; omega) ?_) | fail)
 intro v6 w_Answers hR6 hu
 obtain ⟨B6, b6, rfl⟩ := dA hR6
 obtain ⟨P6, hR6', g6, l6⟩ : ∃ P : Nat → Prop, R aU 289 w_Answers P (.slice B6 x.aQ.length b6) x.aQ ∧ (∀ b, P b → w_Questions.heap.size ≤ b) ∧ (∀ b, P b → b < w_Answers.heap.size) := ⟨_, R_lt (gM (F' := fun b => w_Questions.heap.size ≤ b) (fun b q => (by simp [New, No] at q; omega)) hR6), fun b q => q.1, fun b q => q.2⟩
 have n0_6 : ¬ P6 (w.heap.size) := fun q => (by have := g6 _ q; omega)
 have n1_6 : ¬ P6 (w.heap.size + 1) := fun q => (by have := g6 _ q; omega)
 have n2_6 : ¬ P6 (w.heap.size + 1 + 1) := fun q => (by have := g6 _ q; omega)
 have HR6 := Sd.mk hR6'
 have GP6 := Sd.mk g6
 have LT6 := Sd.mk l6
 clear hR6 hR6' g6 l6
 replace HR2 := Sd.mk (dR hu (fun b hb q => (by have := LT2.out b hb; simp [New] at q; omega)) (fH HR2.out (by repeat (with_reducible first | exact Upd.refl _ _ | apply Upd.eZ n0_2 | apply Upd.eZ n1_2 | apply Upd.eZ n2_2 | apply Upd.alloc | apply Upd.drewN | apply Upd.drew))))
 replace HR4 := Sd.mk (dR hu (fun b hb q => (by have := LT4.out b hb; simp [New] at q; omega)) (fH HR4.out (by repeat (with_reducible first | exact Upd.refl _ _ | apply Upd.eZ n0_4 | apply Upd.eZ n1_4 | apply Upd.eZ n2_4 | apply Upd.alloc | apply Upd.drewN | apply Upd.drew))))
 have HB_Answers : Sd (Upd No w w_Answers) := Sd.mk (Upd.trans (F := No) (by repeat (with_reducible first | exact HB_Questions.out | apply Upd.dL | apply Upd.dK | apply Upd.dG | apply Upd.alloc | apply Upd.drewN | apply Upd.drew)) hu (fun _ _ q => q) (fun b hb q => (by simp [New] at q; omega)))
 have cc0_Answers := fun o => hu.bF (b := w.heap.size) kB (by first | (simp [New]; done) | (simp [New]; omega)) o
 have cf0_Answers := fun o => hu.bV (b := w.heap.size) kB (by first | (simp [New]; done) | (simp [New]; omega)) o
 have cc1_Answers := fun o => hu.bF (b := w.heap.size + 1) kB (by first | (simp [New]; done) | (simp [New]; omega)) o
 have cf1_Answers := fun o => hu.bV (b := w.heap.size + 1) kB (by first | (simp [New]; done) | (simp [New]; omega)) o
 have cc2_Answers := fun o => hu.bF (b := w.heap.size + 1 + 1) kB (by first | (simp [New]; done) | (simp [New]; omega)) o
 have cf2_Answers := fun o => hu.bV (b := w.heap.size + 1 + 1) kB (by first | (simp [New]; done) | (simp [New]; omega)) o
 have ca0_Answers : ∀ p u ob o, ((w_Answers.setCell p u).alloc ob).cell? ⟨w.heap.size, o, none⟩ = (w_Answers.setCell p u).cell? ⟨w.heap.size, o, none⟩ := fun p u ob o => ((Upd.refl No _).alloc ob).bF (b := w.heap.size) (by have := hu.size; simp at this ⊢; omega) (fun q => q) o
 have cb0_Answers : ∀ p u ob o, ((w_Answers.setCell p u).alloc ob).frozen? ⟨w.heap.size, o, none⟩ = (w_Answers.setCell p u).frozen? ⟨w.heap.size, o, none⟩ := fun p u ob o => ((Upd.refl No _).alloc ob).bV (b := w.heap.size) (by have := hu.size; simp at this ⊢; omega) (fun q => q) o
 have ca1_Answers : ∀ p u ob o, ((w_Answers.setCell p u).alloc ob).cell? ⟨w.heap.size + 1, o, none⟩ = (w_Answers.setCell p u).cell? ⟨w.heap.size + 1, o, none⟩ := fun p u ob o => ((Upd.refl No _).alloc ob).bF (b := w.heap.size + 1) (by have := hu.size; simp at this ⊢; omega) (fun q => q) o
 have cb1_Answers : ∀ p u ob o, ((w_Answers.setCell p u).alloc ob).frozen? ⟨w.heap.size + 1, o, none⟩ = (w_Answers.setCell p u).frozen? ⟨w.heap.size + 1, o, none⟩ := fun p u ob o => ((Upd.refl No _).alloc ob).bV (b := w.heap.size + 1) (by have := hu.size; simp at this ⊢; omega) (fun q => q) o
 have ca2_Answers : ∀ p u ob o, ((w_Answers.setCell p u).alloc ob).cell? ⟨w.heap.size + 1 + 1, o, none⟩ = (w_Answers.setCell p u).cell? ⟨w.heap.size + 1 + 1, o, none⟩ := fun p u ob o => ((Upd.refl No _).alloc ob).bF (b := w.heap.size + 1 + 1) (by have := hu.size; simp at this ⊢; omega) (fun q => q) o
 have cb2_Answers : ∀ p u ob o, ((w_Answers.setCell p u).alloc ob).frozen? ⟨w.heap.size + 1 + 1, o, none⟩ = (w_Answers.setCell p u).frozen? ⟨w.heap.size + 1 + 1, o, none⟩ := fun p u ob o => ((Upd.refl No _).alloc ob).bV (b := w.heap.size + 1 + 1) (by have := hu.size; simp at this ⊢; omega) (fun q => q) o
 have hz_Answers : w.heap.size + 1 + 1 + 1 ≤ w_Answers.heap.size := (by have := hu.size; (try simp at this); omega)
 have hm_Answers : w_Questions.heap.size ≤ w_Answers.heap.size := (by have := hu.size; (try simp at this); omega)
 clear hu
 go_wp2
 refine bodyPost_ret (v := .agg #[.int .i64 x.bT, .bool x.Up, .slice B2 x.aH.length b2, .int .i64 x.Next, .slice B4 x.aI.length b4, .int .i64 x.bZ, .slice B6 x.aQ.length b6]) (by simp [results, Tryz.results159, go_sem, cc1_Exports, ca1_Exports, cc2_Exports, ca2_Exports, cc1_Questions, ca1_Questions, cc2_Questions, ca2_Questions, cc1_Answers, ca1_Answers, cc2_Answers, ca2_Answers]) rfl ⟨_, rfl, ?_, (by repeat (with_reducible first | exact HB_Answers.out | apply Upd.dL | apply Upd.dK | apply Upd.dG | apply Upd.alloc | apply Upd.drewN | apply Upd.drew))⟩
 exact lU _ _ x (fH HR2.out (by repeat (with_reducible first | exact Upd.refl _ _ | apply Upd.eZ n0_2 | apply Upd.eZ n1_2 | apply Upd.eZ n2_2 | apply Upd.alloc | apply Upd.drewN | apply Upd.drew))) (fH HR4.out (by repeat (with_reducible first | exact Upd.refl _ _ | apply Upd.eZ n0_4 | apply Upd.eZ n1_4 | apply Upd.eZ n2_4 | apply Upd.alloc | apply Upd.drewN | apply Upd.drew))) (fH HR6.out (by repeat (with_reducible first | exact Upd.refl _ _ | apply Upd.eZ n0_6 | apply Upd.eZ n1_6 | apply Upd.eZ n2_6 | apply Upd.alloc | apply Upd.drewN | apply Upd.drew))) (fun k hk => by have := GP2.out k hk; simp only [New]; omega) (fun k hk => by have := GP4.out k hk; simp only [New]; omega) (fun k hk => by have := GP6.out k hk; simp only [New]; omega) (fun k hk hk' => by have h1 := LT2.out k hk; have h2 := GP4.out k hk'; omega) (fun k hk hk' => by have h1 := LT2.out k hk; have h2 := GP6.out k hk'; have := hm_Questions; omega) (fun k hk hk' => by have h1 := LT4.out k hk; have h2 := GP6.out k hk'; omega)
theorem copied_Message (x : GMessage) (cs : List Value) (w : World) (h : iE.K w x cs) (hs : fU x ≤ 4194304) : Calls Tryz.prog 101 #[.agg cs.toArray] w (jJ iE x w) := by
 obtain ⟨A5, c5, rfl, hl5, hC5⟩ := mJ h
 have HC5 := Sd.mk hC5
 clear hC5
 clear h
 have s_Args : bN iD x.dI ≤ 4194304 := by unfold fU at hs; omega
 have n_Args : x.dI.length ≤ 4194304 := by unfold bN at s_Args; omega
 have S_Args := Sd.mk s_Args
 clear hs s_Args
 go_enter Tryz.func101, Tryz.ntmps101
 go_wp2_with fail
 with_reducible refine (clone_Wire x.dI _ _ _ ?hc_Args n_Args).mono ?_
 case hc_Args => exact bK (by repeat (with_reducible first | exact Upd.refl No _ | apply Upd.dL | apply Upd.dK | apply Upd.dG | apply Upd.alloc | apply Upd.drewN | apply Upd.drew)) HC5.out
 rintro e w_Args ⟨v5, rfl, hR5, hu⟩
 obtain ⟨B5, b5, rfl⟩ := dA hR5
 obtain ⟨P5, hR5', g5, l5⟩ : ∃ P : Nat → Prop, R bW 72 w_Args P (.slice B5 x.dI.length b5) x.dI ∧ (∀ b, P b → w.heap.size + 1 + 1 ≤ b) ∧ (∀ b, P b → b < w_Args.heap.size) := ⟨_, R_lt (gM (F' := fun b => w.heap.size + 1 + 1 ≤ b) (fun b q => (by simp [New, No] at q; omega)) hR5), fun b q => q.1, fun b q => q.2⟩
 have n0_5 : ¬ P5 (w.heap.size) := fun q => (by have := g5 _ q; omega)
 have n1_5 : ¬ P5 (w.heap.size + 1) := fun q => (by have := g5 _ q; omega)
 have HR5 := Sd.mk hR5'
 have GP5 := Sd.mk g5
 have LT5 := Sd.mk l5
 clear hR5 hR5' g5 l5
 have HB_Args : Sd (Upd No w w_Args) := Sd.mk (Upd.then (by repeat (with_reducible first | exact Upd.refl No _ | apply Upd.dL | apply Upd.dK | apply Upd.dG | apply Upd.alloc | apply Upd.drewN | apply Upd.drew)) hu)
 have cc0_Args := fun o => hu.bF (b := w.heap.size) kB (fun q => q) o
 have cf0_Args := fun o => hu.bV (b := w.heap.size) kB (fun q => q) o
 have cc1_Args := fun o => hu.bF (b := w.heap.size + 1) kB (fun q => q) o
 have cf1_Args := fun o => hu.bV (b := w.heap.size + 1) kB (fun q => q) o
 have ca0_Args : ∀ p u ob o, ((w_Args.setCell p u).alloc ob).cell? ⟨w.heap.size, o, none⟩ = (w_Args.setCell p u).cell? ⟨w.heap.size, o, none⟩ := fun p u ob o => ((Upd.refl No _).alloc ob).bF (b := w.heap.size) (by have := hu.size; simp at this ⊢; omega) (fun q => q) o
 have cb0_Args : ∀ p u ob o, ((w_Args.setCell p u).alloc ob).frozen? ⟨w.heap.size, o, none⟩ = (w_Args.setCell p u).frozen? ⟨w.heap.size, o, none⟩ := fun p u ob o => ((Upd.refl No _).alloc ob).bV (b := w.heap.size) (by have := hu.size; simp at this ⊢; omega) (fun q => q) o
 have ca1_Args : ∀ p u ob o, ((w_Args.setCell p u).alloc ob).cell? ⟨w.heap.size + 1, o, none⟩ = (w_Args.setCell p u).cell? ⟨w.heap.size + 1, o, none⟩ := fun p u ob o => ((Upd.refl No _).alloc ob).bF (b := w.heap.size + 1) (by have := hu.size; simp at this ⊢; omega) (fun q => q) o
 have cb1_Args : ∀ p u ob o, ((w_Args.setCell p u).alloc ob).frozen? ⟨w.heap.size + 1, o, none⟩ = (w_Args.setCell p u).frozen? ⟨w.heap.size + 1, o, none⟩ := fun p u ob o => ((Upd.refl No _).alloc ob).bV (b := w.heap.size + 1) (by have := hu.size; simp at this ⊢; omega) (fun q => q) o
 have hz_Args : w.heap.size + 1 + 1 ≤ w_Args.heap.size := (by have := hu.size; (try simp at this); omega)
 clear hu
 go_wp2
 refine bodyPost_ret (v := .agg #[.int .i64 x.Kind, .int .i64 x.Pos, .int .i64 x.eU, .int .i64 x.Question, .string x.Name, .slice B5 x.dI.length b5, .int .i64 x.Value.Kind, .int .i64 x.Value.N, .int .i64 x.Count, .int .i64 x.Tag.Vat, .int .i64 x.Tag.Entity, .int .i64 x.Tag.Seq]) (by simp [results, Tryz.results101, go_sem, cc1_Args, ca1_Args]) rfl ⟨_, rfl, ?_, (by repeat (with_reducible first | exact HB_Args.out | apply Upd.dL | apply Upd.dK | apply Upd.dG | apply Upd.alloc | apply Upd.drewN | apply Upd.drew))⟩
 exact mY _ _ x (fH HR5.out (by repeat (with_reducible first | exact Upd.refl _ _ | apply Upd.eZ n0_5 | apply Upd.eZ n1_5 | apply Upd.alloc | apply Upd.drewN | apply Upd.drew))) (fun k hk => by have := GP5.out k hk; simp only [New]; omega)
theorem copied_Sent (x : GSent) (cs : List Value) (w : World) (h : aX.K w x cs) (hs : dX x ≤ 4194304) : Calls Tryz.prog 208 #[.agg cs.toArray] w (jJ aX x w) := by
 obtain ⟨A2, c2, rfl, hl2, hC2⟩ := ki_Sent_K h
 have HC2 := Sd.mk hC2
 clear hC2
 clear h
 have s_Args : bN dO x.dI ≤ 4194304 := by unfold dX at hs; omega
 have n_Args : x.dI.length ≤ 4194304 := by unfold bN at s_Args; omega
 have S_Args := Sd.mk s_Args
 clear hs s_Args
 go_enter Tryz.func208, Tryz.ntmps208
 go_wp2_with fail
 with_reducible refine (clone_Value x.dI _ _ _ ?hc_Args n_Args).mono ?_
 case hc_Args => exact bK (by repeat (with_reducible first | exact Upd.refl No _ | apply Upd.dL | apply Upd.dK | apply Upd.dG | apply Upd.alloc | apply Upd.drewN | apply Upd.drew)) HC2.out
 rintro e w_Args ⟨v2, rfl, hR2, hu⟩
 obtain ⟨B2, b2, rfl⟩ := dA hR2
 obtain ⟨P2, hR2', g2, l2⟩ : ∃ P : Nat → Prop, R aT 95 w_Args P (.slice B2 x.dI.length b2) x.dI ∧ (∀ b, P b → w.heap.size + 1 + 1 ≤ b) ∧ (∀ b, P b → b < w_Args.heap.size) := ⟨_, R_lt (gM (F' := fun b => w.heap.size + 1 + 1 ≤ b) (fun b q => (by simp [New, No] at q; omega)) hR2), fun b q => q.1, fun b q => q.2⟩
 have n0_2 : ¬ P2 (w.heap.size) := fun q => (by have := g2 _ q; omega)
 have n1_2 : ¬ P2 (w.heap.size + 1) := fun q => (by have := g2 _ q; omega)
 have HR2 := Sd.mk hR2'
 have GP2 := Sd.mk g2
 have LT2 := Sd.mk l2
 clear hR2 hR2' g2 l2
 have HB_Args : Sd (Upd No w w_Args) := Sd.mk (Upd.then (by repeat (with_reducible first | exact Upd.refl No _ | apply Upd.dL | apply Upd.dK | apply Upd.dG | apply Upd.alloc | apply Upd.drewN | apply Upd.drew)) hu)
 have cc0_Args := fun o => hu.bF (b := w.heap.size) kB (fun q => q) o
 have cf0_Args := fun o => hu.bV (b := w.heap.size) kB (fun q => q) o
 have cc1_Args := fun o => hu.bF (b := w.heap.size + 1) kB (fun q => q) o
 have cf1_Args := fun o => hu.bV (b := w.heap.size + 1) kB (fun q => q) o
 have ca0_Args : ∀ p u ob o, ((w_Args.setCell p u).alloc ob).cell? ⟨w.heap.size, o, none⟩ = (w_Args.setCell p u).cell? ⟨w.heap.size, o, none⟩ := fun p u ob o => ((Upd.refl No _).alloc ob).bF (b := w.heap.size) (by have := hu.size; simp at this ⊢; omega) (fun q => q) o
 have cb0_Args : ∀ p u ob o, ((w_Args.setCell p u).alloc ob).frozen? ⟨w.heap.size, o, none⟩ = (w_Args.setCell p u).frozen? ⟨w.heap.size, o, none⟩ := fun p u ob o => ((Upd.refl No _).alloc ob).bV (b := w.heap.size) (by have := hu.size; simp at this ⊢; omega) (fun q => q) o
 have ca1_Args : ∀ p u ob o, ((w_Args.setCell p u).alloc ob).cell? ⟨w.heap.size + 1, o, none⟩ = (w_Args.setCell p u).cell? ⟨w.heap.size + 1, o, none⟩ := fun p u ob o => ((Upd.refl No _).alloc ob).bF (b := w.heap.size + 1) (by have := hu.size; simp at this ⊢; omega) (fun q => q) o
 have cb1_Args : ∀ p u ob o, ((w_Args.setCell p u).alloc ob).frozen? ⟨w.heap.size + 1, o, none⟩ = (w_Args.setCell p u).frozen? ⟨w.heap.size + 1, o, none⟩ := fun p u ob o => ((Upd.refl No _).alloc ob).bV (b := w.heap.size + 1) (by have := hu.size; simp at this ⊢; omega) (fun q => q) o
 have hz_Args : w.heap.size + 1 + 1 ≤ w_Args.heap.size := (by have := hu.size; (try simp at this); omega)
 clear hu
 go_wp2
 refine bodyPost_ret (v := .agg #[.int .i64 x.Target, .string x.Name, .slice B2 x.dI.length b2, .int .i64 x.Result, .int .i64 x.Tag.Vat, .int .i64 x.Tag.Entity, .int .i64 x.Tag.Seq]) (by simp [results, Tryz.results208, go_sem, cc1_Args, ca1_Args]) rfl ⟨_, rfl, ?_, (by repeat (with_reducible first | exact HB_Args.out | apply Upd.dL | apply Upd.dK | apply Upd.dG | apply Upd.alloc | apply Upd.drewN | apply Upd.drew))⟩
 exact mQ _ _ x (fH HR2.out (by repeat (with_reducible first | exact Upd.refl _ _ | apply Upd.eZ n0_2 | apply Upd.eZ n1_2 | apply Upd.alloc | apply Upd.drewN | apply Upd.drew))) (fun k hk => by have := GP2.out k hk; simp only [New]; omega)
theorem copied_Link (x : GLink) (cs : List Value) (w : World) (h : aO.K w x cs) (hs : bQ x ≤ 4194304) : Calls Tryz.prog 166 #[.agg cs.toArray] w (jJ aO x w) := by
 obtain ⟨A2, c2, A4, c4, A6, c6, rfl, hl2, hC2, hl4, hC4, hl6, hC6⟩ := kL h
 have HC2 := Sd.mk hC2
 have HC4 := Sd.mk hC4
 have HC6 := Sd.mk hC6
 clear hC2 hC4 hC6
 clear h
 have s_Exports : bN fK x.aH ≤ 4194304 := by unfold bQ at hs; omega
 have n_Exports : x.aH.length ≤ 4194304 := by unfold bN at s_Exports; omega
 have S_Exports := Sd.mk s_Exports
 have s_Questions : bN eT x.aI ≤ 4194304 := by unfold bQ at hs; omega
 have n_Questions : x.aI.length ≤ 4194304 := by unfold bN at s_Questions; omega
 have S_Questions := Sd.mk s_Questions
 have s_Answers : bN eT x.aQ ≤ 4194304 := by unfold bQ at hs; omega
 have n_Answers : x.aQ.length ≤ 4194304 := by unfold bN at s_Answers; omega
 have S_Answers := Sd.mk s_Answers
 clear hs s_Exports s_Questions s_Answers
 go_enter Tryz.func166, Tryz.ntmps166
 try go_wp2_with fail
 have hb0 : Sd (Blk ((w.alloc (.cells #[.int .i64 x.bT, .bool x.Up, .slice A2 x.aH.length c2, .int .i64 x.Next, .slice A4 x.aI.length c4, .int .i64 x.bZ, .slice A6 x.aQ.length c6] 178)).alloc (.cells #[.int .i64 0, .bool false, .slice none 0 0, .int .i64 0, .slice none 0 0, .int .i64 0, .slice none 0 0] 178)) w.heap.size 178 #[.int .i64 x.bT, .bool x.Up, .slice A2 x.aH.length c2, .int .i64 x.Next, .slice A4 x.aI.length c4, .int .i64 x.bZ, .slice A6 x.aQ.length c6]) := ⟨(Blk.new _ _ _).alloc _⟩
 have hb1 : Sd (Blk ((w.alloc (.cells #[.int .i64 x.bT, .bool x.Up, .slice A2 x.aH.length c2, .int .i64 x.Next, .slice A4 x.aI.length c4, .int .i64 x.bZ, .slice A6 x.aQ.length c6] 178)).alloc (.cells #[.int .i64 0, .bool false, .slice none 0 0, .int .i64 0, .slice none 0 0, .int .i64 0, .slice none 0 0] 178)) (w.heap.size + 1) 178 #[.int .i64 0, .bool false, .slice none 0 0, .int .i64 0, .slice none 0 0, .int .i64 0, .slice none 0 0]) := ⟨Blk.newAt (by simp)⟩
 have HBB : Sd (Upd No w ((w.alloc (.cells #[.int .i64 x.bT, .bool x.Up, .slice A2 x.aH.length c2, .int .i64 x.Next, .slice A4 x.aI.length c4, .int .i64 x.bZ, .slice A6 x.aQ.length c6] 178)).alloc (.cells #[.int .i64 0, .bool false, .slice none 0 0, .int .i64 0, .slice none 0 0, .int .i64 0, .slice none 0 0] 178))) := ⟨((Upd.refl _ _).alloc _).alloc _⟩
 generalize ((w.alloc (.cells #[.int .i64 x.bT, .bool x.Up, .slice A2 x.aH.length c2, .int .i64 x.Next, .slice A4 x.aI.length c4, .int .i64 x.bZ, .slice A6 x.aQ.length c6] 178)).alloc (.cells #[.int .i64 0, .bool false, .slice none 0 0, .int .i64 0, .slice none 0 0, .int .i64 0, .slice none 0 0] 178)) = wb at *
 have hzb : w.heap.size + 1 + 1 ≤ wb.heap.size := by have := hb1.out.lt; omega
 have q0_2 := hb0.out.at 2 (v := .slice A2 x.aH.length c2) rfl
 have q0_4 := hb0.out.at 4 (v := .slice A4 x.aI.length c4) rfl
 have q0_6 := hb0.out.at 6 (v := .slice A6 x.aQ.length c6) rfl
 have ff0 := hb0.out.free
 go_region_law (first | (go_simp; go_at_call 210; (with_reducible refine (clone_Export x.aH _ _ _ (bK (by repeat (with_reducible first | exact HBB.out | apply Upd.dL | apply Upd.dK | apply Upd.dG | apply Upd.alloc | apply Upd.drewN | apply Upd.drew)) HC2.out) n_Exports).mono ?_); rintro e w_Exports ⟨v2, rfl, hR2, hu⟩; have HY_Exports : Sd (Upd No wb w_Exports) := Sd.mk (Upd.then (by repeat (with_reducible first | exact Upd.refl _ _ | apply Upd.alloc | apply Upd.drewN | apply Upd.drew)) hu); have hz_Exports := HY_Exports.out.size; have hb0_Exports := Sd.mk (hb0.out.no HY_Exports.out); have hb1_Exports := Sd.mk (hb1.out.no HY_Exports.out); obtain ⟨B2, b2, rfl⟩ := dA hR2; have HR2 : Sd (R bC 256 w_Exports (Iv wb.heap.size w_Exports.heap.size) (.slice B2 x.aH.length b2) x.aH) := Sd.mk (R_lt (gM (F' := New wb) (fun b q => Nat.le_trans (Upd.size ((by repeat (with_reducible first | exact Upd.refl _ _ | apply Upd.alloc | apply Upd.drewN | apply Upd.drew)) : Upd No wb _)) q) hR2)); have HB_Exports : Sd (Upd No w w_Exports) := Sd.mk (Upd.then HBB.out HY_Exports.out); clear hu hR2; have c2_Exports := hb0_Exports.out.at 2 (v := .slice A2 x.aH.length c2) rfl; have c4_Exports := hb0_Exports.out.at 4 (v := .slice A4 x.aI.length c4) rfl; have c6_Exports := hb0_Exports.out.at 6 (v := .slice A6 x.aQ.length c6) rfl; have ff_Exports := hb0_Exports.out.free) | (go_simp; go_at_call 211; (with_reducible refine (clone_Question x.aI _ _ _ (bK (by repeat (with_reducible first | exact HB_Exports.out | apply Upd.dL | apply Upd.dK | apply Upd.dG | apply Upd.alloc | apply Upd.drewN | apply Upd.drew)) HC4.out) n_Questions).mono ?_); rintro e w_Questions ⟨v4, rfl, hR4, hu⟩; have HY_Questions : Sd (Upd No w_Exports w_Questions) := Sd.mk (Upd.then (by repeat (with_reducible first | exact Upd.refl _ _ | apply Upd.alloc | apply Upd.drewN | apply Upd.drew)) hu); have hz_Questions := HY_Questions.out.size; have hb0_Questions := Sd.mk (hb0_Exports.out.no HY_Questions.out); have hb1_Questions := Sd.mk (hb1_Exports.out.no HY_Questions.out); obtain ⟨B4, b4, rfl⟩ := dA hR4; have HR4 : Sd (R aU 289 w_Questions (Iv w_Exports.heap.size w_Questions.heap.size) (.slice B4 x.aI.length b4) x.aI) := Sd.mk (R_lt (gM (F' := New w_Exports) (fun b q => Nat.le_trans (Upd.size ((by repeat (with_reducible first | exact Upd.refl _ _ | apply Upd.alloc | apply Upd.drewN | apply Upd.drew)) : Upd No w_Exports _)) q) hR4)); replace HR2 := Sd.mk (R_no HY_Questions.out HR2.out); have HB_Questions : Sd (Upd No w w_Questions) := Sd.mk (Upd.then HB_Exports.out HY_Questions.out); clear hu hR4; have c2_Questions := hb0_Questions.out.at 2 (v := .slice A2 x.aH.length c2) rfl; have c4_Questions := hb0_Questions.out.at 4 (v := .slice A4 x.aI.length c4) rfl; have c6_Questions := hb0_Questions.out.at 6 (v := .slice A6 x.aQ.length c6) rfl; have ff_Questions := hb0_Questions.out.free) | (go_simp; go_at_call 211; (with_reducible refine (clone_Question x.aQ _ _ _ (bK (by repeat (with_reducible first | exact HB_Questions.out | apply Upd.dL | apply Upd.dK | apply Upd.dG | apply Upd.alloc | apply Upd.drewN | apply Upd.drew)) HC6.out) n_Answers).mono ?_); rintro e w_Answers ⟨v6, rfl, hR6, hu⟩; have HY_Answers : Sd (Upd No w_Questions w_Answers) := Sd.mk (Upd.then (by repeat (with_reducible first | exact Upd.refl _ _ | apply Upd.alloc | apply Upd.drewN | apply Upd.drew)) hu); have hz_Answers := HY_Answers.out.size; have hb0_Answers := Sd.mk (hb0_Questions.out.no HY_Answers.out); have hb1_Answers := Sd.mk (hb1_Questions.out.no HY_Answers.out); obtain ⟨B6, b6, rfl⟩ := dA hR6; have HR6 : Sd (R aU 289 w_Answers (Iv w_Questions.heap.size w_Answers.heap.size) (.slice B6 x.aQ.length b6) x.aQ) := Sd.mk (R_lt (gM (F' := New w_Questions) (fun b q => Nat.le_trans (Upd.size ((by repeat (with_reducible first | exact Upd.refl _ _ | apply Upd.alloc | apply Upd.drewN | apply Upd.drew)) : Upd No w_Questions _)) q) hR6)); replace HR2 := Sd.mk (R_no HY_Answers.out HR2.out); replace HR4 := Sd.mk (R_no HY_Answers.out HR4.out); have HB_Answers : Sd (Upd No w w_Answers) := Sd.mk (Upd.then HB_Questions.out HY_Answers.out); clear hu hR6; have c2_Answers := hb0_Answers.out.at 2 (v := .slice A2 x.aH.length c2) rfl; have c4_Answers := hb0_Answers.out.at 4 (v := .slice A4 x.aI.length c4) rfl; have c6_Answers := hb0_Answers.out.at 6 (v := .slice A6 x.aQ.length c6) rfl; have ff_Answers := hb0_Answers.out.free))
 all_goals
  clear q0_2 q0_4 q0_6
  have q0_0 := hb0_Answers.out.at 0 (v := .int .i64 x.bT) rfl
  have q0_1 := hb0_Answers.out.at 1 (v := .bool x.Up) rfl
  have q0_2 := hb0_Answers.out.at 2 (v := .slice A2 x.aH.length c2) rfl
  have q0_3 := hb0_Answers.out.at 3 (v := .int .i64 x.Next) rfl
  have q0_4 := hb0_Answers.out.at 4 (v := .slice A4 x.aI.length c4) rfl
  have q0_5 := hb0_Answers.out.at 5 (v := .int .i64 x.bZ) rfl
  have q0_6 := hb0_Answers.out.at 6 (v := .slice A6 x.aQ.length c6) rfl
  have q1_0 := hb1_Answers.out.at 0 (v := .int .i64 0) rfl
  have q1_1 := hb1_Answers.out.at 1 (v := .bool false) rfl
  have q1_2 := hb1_Answers.out.at 2 (v := .slice none 0 0) rfl
  have q1_3 := hb1_Answers.out.at 3 (v := .int .i64 0) rfl
  have q1_4 := hb1_Answers.out.at 4 (v := .slice none 0 0) rfl
  have q1_5 := hb1_Answers.out.at 5 (v := .int .i64 0) rfl
  have q1_6 := hb1_Answers.out.at 6 (v := .slice none 0 0) rfl
  have f0 := hb0_Answers.out.free
  have f1 := hb1_Answers.out.free
  go_wp2
  refine bodyPost_ret (v := .agg #[.int .i64 x.bT, .bool x.Up, .slice B2 x.aH.length b2, .int .i64 x.Next, .slice B4 x.aI.length b4, .int .i64 x.bZ, .slice B6 x.aQ.length b6]) (by simp [results, Tryz.results166, go_sem, q1_0, q1_1, q1_2, q1_3, q1_4, q1_5, q1_6]) rfl ⟨_, rfl, ?_, ?_⟩
  ·exact lU _ _ x (dR ((by repeat (first | (with_reducible exact Upd.refl _ _) | (with_reducible refine Upd.alloc ?_ _) | (refine Upd.set ?_ _ _ (.inr (by first | exact .inl rfl | exact .inr rfl))))) : Upd (fun b => b = w.heap.size ∨ b = w.heap.size + 1) w_Answers _) (fun b q z => by simp only [Iv] at q; have := hz_Exports; have := hz_Questions; have := hz_Answers; omega) HR2.out) (dR ((by repeat (first | (with_reducible exact Upd.refl _ _) | (with_reducible refine Upd.alloc ?_ _) | (refine Upd.set ?_ _ _ (.inr (by first | exact .inl rfl | exact .inr rfl))))) : Upd (fun b => b = w.heap.size ∨ b = w.heap.size + 1) w_Answers _) (fun b q z => by simp only [Iv] at q; have := hz_Exports; have := hz_Questions; have := hz_Answers; omega) HR4.out) (dR ((by repeat (first | (with_reducible exact Upd.refl _ _) | (with_reducible refine Upd.alloc ?_ _) | (refine Upd.set ?_ _ _ (.inr (by first | exact .inl rfl | exact .inr rfl))))) : Upd (fun b => b = w.heap.size ∨ b = w.heap.size + 1) w_Answers _) (fun b q z => by simp only [Iv] at q; have := hz_Exports; have := hz_Questions; have := hz_Answers; omega) HR6.out) (fun k hk => by simp only [Iv] at hk; simp only [New]; have := hz_Exports; have := hz_Questions; have := hz_Answers; omega) (fun k hk => by simp only [Iv] at hk; simp only [New]; have := hz_Exports; have := hz_Questions; have := hz_Answers; omega) (fun k hk => by simp only [Iv] at hk; simp only [New]; have := hz_Exports; have := hz_Questions; have := hz_Answers; omega) (fun k hk hk' => by simp only [Iv] at hk hk'; have := hz_Exports; have := hz_Questions; have := hz_Answers; omega) (fun k hk hk' => by simp only [Iv] at hk hk'; have := hz_Exports; have := hz_Questions; have := hz_Answers; omega) (fun k hk hk' => by simp only [Iv] at hk hk'; have := hz_Exports; have := hz_Questions; have := hz_Answers; omega)
  ·exact Upd.trans HB_Answers.out ((by repeat (first | (with_reducible exact Upd.refl _ _) | (with_reducible refine Upd.alloc ?_ _) | (refine Upd.set ?_ _ _ (.inr (by first | exact .inl rfl | exact .inr rfl))))) : Upd (fun b => b = w.heap.size ∨ b = w.heap.size + 1) w_Answers _) (fun _ _ q => q) (fun b hb q => by rcases q with q | q <;> omega)
theorem oP (l : List GSent) (A : Option Addr) (c : Nat) (w : World) (h : C aX w A l) (hs : bN dX l ≤ 4194304) : Calls Tryz.prog 157 #[.slice A l.length c] w (lG aX 235 l w) := by
 have hn : l.length ≤ 4194304 := by unfold bN at hs; omega
 have H := Sd.mk h
 have HS := Sd.mk hs
 clear h hs
 go_enter Tryz.func157, Tryz.ntmps157
 go_wp2
 have hR0 : Sd (R aX 235 (w.alloc (.cells #[] 235)) (New w) (.slice (some ⟨w.heap.size, 0, none⟩) 0 0) []) := ⟨R_empty w⟩
 have hU0 : Sd (Upd No w (w.alloc (.cells #[] 235))) := ⟨(Upd.refl _ _).alloc _⟩
 go_loopg [3, 4] l.length (fun r u v wr => ∃ i : Nat, i + r = l.length ∧ v = .int .i64 i ∧ Sd (R aX 235 wr (New w) u (l.take i)) ∧ Sd (Upd No w wr))
 case atStart => exact ⟨0, by omega, rfl, hR0, hU0⟩
 case round =>
  clear hR0 hU0
  obtain ⟨i, hi, rfl, HR, HU⟩ := hrel
  by_cases hlt : i < l.length
  ·obtain ⟨ad, A2, c2, rfl, a0, a1, a2, a3, a4, a5, a6, hl2, hC2⟩ := nO (bK HU.out H.out) i hlt
   have HCM := Sd.mk (iM flat_Value hC2)
   clear hC2
   have hsi : dX l[i] ≤ 4194304 := by have := gT dX l i hlt; have := HS.out; unfold bN at *; omega
   have hna : l[i].dI.length ≤ 4194304 := by unfold dX bN at hsi; omega
   have p2 := fun ob ob' => (((Upd.refl No wr).alloc ob).alloc ob').read a2
   have HRL := Sd.mk (R_lt HR.out)
   go_wp2_with (first | (at_builtin; refine kF (d := aT) (e := 95) (ys := l[i].dI) (xs := []) (F := New _) rfl _ _ 85 _ _ rfl Tryz.underlying85 mW rfl kD kD A2 c2 (fun _ => No) rfl rfl (mM _ _ (by simp)) (CM_upd (by repeat (with_reducible first | exact Upd.refl _ _ | apply Upd.alloc | apply Upd.drewN | apply Upd.drew)) HCM.out) (fun _ _ q => q.elim) (fun _ _ _ q => q.elim) (by simp; omega) ?_) | fail)
   intro vA w1 hRA hu
   obtain ⟨B2, b2, rfl⟩ := dA hRA
   have hz1 : wr.heap.size + 1 + 1 ≤ w1.heap.size := by have := hu.size; (try simp at this); omega
   have HRA : Sd (R aT 95 w1 (fun b => wr.heap.size + 1 ≤ b) (.slice B2 l[i].dI.length b2) l[i].dI) := ⟨gM (fun b q => by simp [New, No] at q; omega) hRA⟩
   have cc := fun o => hu.bF (b := wr.heap.size) (by first | (simp; done) | (simp; omega)) (by first | (simp [New]; done) | (simp [New]; omega)) o
   have cf := fun o => hu.bV (b := wr.heap.size) (by first | (simp; done) | (simp; omega)) (by first | (simp [New]; done) | (simp [New]; omega)) o
   have HU1 : Sd (Upd No wr w1) := Sd.mk (Upd.trans (F := No) (by repeat (with_reducible first | exact Upd.refl _ _ | apply Upd.alloc)) hu (fun _ _ q => q) (fun b hb q => by simp [New] at q; omega))
   have HR1 := Sd.mk (R_no HU1.out HRL.out)
   clear hu hRA a0 a1 a2 a3 a4 a5 a6 p2 HR HRL
   go_wp2_with (first | (at_builtin; refine R_appOne (d := aX) (e := 235) rfl _ _ 64 _ _ rfl Tryz.underlying64 ki_Sent_info rfl kD kD l[i] _ (fun b => wr.heap.size + 1 ≤ b) _ (by first | rfl | simp) rfl rfl (dR (F := fun b => New w b ∧ b < wr.heap.size) (G := fun b => b = wr.heap.size) (by repeat (first | (with_reducible exact Upd.refl _ _) | (refine Upd.set ?_ _ _ (.inr rfl)))) (fun b q z => by omega) HR1.out) (mQ _ _ l[i] (dR (G := fun b => b = wr.heap.size) (by repeat (first | (with_reducible exact Upd.refl _ _) | (refine Upd.set ?_ _ _ (.inr rfl)))) (fun b q z => by omega) HRA.out) (fun _ q => q)) (fun b hb q => by have := q.2; omega) (by rw [List.length_take, Nat.min_eq_left kO]; omega) ?_) | fail)
   intro v1 w2 hR hu
   have hz := HU.out.size
   have hR' := Sd.mk (gM (F' := New w) (fun b q => by rcases q with q | q | q; exact q.1; (simp only [New]; omega); ((try simp at q); simp only [New]; omega)) hR)
   have HU2 : Sd (Upd No w w2) := Sd.mk (Upd.trans (F := fun b => b = wr.heap.size) (Upd.trans (F := No) (HU.out.then HU1.out) (by repeat (first | (with_reducible exact Upd.refl _ _) | (refine Upd.set ?_ _ _ (.inr rfl)))) (fun _ _ q => q.elim) (fun _ _ q => q)) hu (fun b hb q => absurd hb kO) (fun b hb q => absurd hb (by have := q.1; simp only [New] at this; omega)))
   clear hR hu
   go_wp2
   go_roundg (gk - 1)
   case measure => omega
   case rel => exact ⟨i + 1, by omega, by go_num, hR', HU2⟩
  ·go_wp2
   go_ret
   have hRR := HR.out
   rw [List.take_of_length_le kO] at hRR
   exact ⟨_, rfl, hRR, HU.out⟩
theorem l9Copy_s (x : GEntity) (cs : List Value) (w : World) (h : aJ.K w x cs) (hs : dD x ≤ 4194304) : Calls Tryz.prog 158 #[.agg cs.toArray] w (jJ aJ x w) := by
 obtain ⟨A2, c2, A6, c6, A7, c7, rfl, hl2, hC2, hl6, hC6, hl7, hC7⟩ := jU h
 have HC2 := Sd.mk hC2
 have HC6 := Sd.mk hC6
 have HC7 := Sd.mk hC7
 clear hC2 hC6 hC7
 clear h
 have s_Slots : bN dO x.dP ≤ 4194304 := by unfold dD at hs; omega
 have HCM2 := Sd.mk (iM flat_Value HC2.out)
 have n_Slots : x.dP.length ≤ 4194304 := by unfold bN at s_Slots; omega
 have S_Slots := Sd.mk s_Slots
 have s_Queue : bN dX x.Queue ≤ 4194304 := by unfold dD at hs; omega
 have n_Queue : x.Queue.length ≤ 4194304 := by unfold bN at s_Queue; omega
 have S_Queue := Sd.mk s_Queue
 have s_Askers : bN iL x.bS ≤ 4194304 := by unfold dD at hs; omega
 have HCM7 := Sd.mk (iM flat_Asker HC7.out)
 have n_Askers : x.bS.length ≤ 4194304 := by unfold bN at s_Askers; omega
 have S_Askers := Sd.mk s_Askers
 clear hs s_Slots s_Queue s_Askers
 go_enter Tryz.func158, Tryz.ntmps158
 go_wp2_with (first | (at_builtin; refine kF (d := aT) (e := 95) (ys := x.dP) (xs := []) (F := New _) rfl _ _ 85 _ _ rfl Tryz.underlying85 mW rfl kD kD A2 c2 (fun _ => No) rfl rfl (mM _ _ (by simp)) (CM_upd (by repeat (with_reducible first | exact Upd.refl No _ | apply Upd.dL | apply Upd.dK | apply Upd.dG | apply Upd.alloc | apply Upd.drewN | apply Upd.drew)) HCM2.out) (fun _ _ q => q.elim) (fun _ _ _ q => q.elim) (by simp; omega) ?_) | fail)
 intro v2 w_Slots hR2 hu
 obtain ⟨B2, b2, rfl⟩ := dA hR2
 obtain ⟨P2, hR2', g2, l2⟩ : ∃ P : Nat → Prop, R aT 95 w_Slots P (.slice B2 x.dP.length b2) x.dP ∧ (∀ b, P b → w.heap.size + 1 + 1 + 1 ≤ b) ∧ (∀ b, P b → b < w_Slots.heap.size) := ⟨_, R_lt (gM (F' := fun b => w.heap.size + 1 + 1 + 1 ≤ b) (fun b q => (by simp [New, No] at q; omega)) hR2), fun b q => q.1, fun b q => q.2⟩
 have n0_2 : ¬ P2 (w.heap.size) := fun q => (by have := g2 _ q; omega)
 have n1_2 : ¬ P2 (w.heap.size + 1) := fun q => (by have := g2 _ q; omega)
 have n2_2 : ¬ P2 (w.heap.size + 1 + 1) := fun q => (by have := g2 _ q; omega)
 have HR2 := Sd.mk hR2'
 have GP2 := Sd.mk g2
 have LT2 := Sd.mk l2
 clear hR2 hR2' g2 l2
 have HB_Slots : Sd (Upd No w w_Slots) := Sd.mk (Upd.trans (F := No) (by repeat (with_reducible first | exact Upd.refl No _ | apply Upd.dL | apply Upd.dK | apply Upd.dG | apply Upd.alloc | apply Upd.drewN | apply Upd.drew)) hu (fun _ _ q => q) (fun b hb q => (by simp [New] at q; omega)))
 have cc0_Slots := fun o => hu.bF (b := w.heap.size) kB (by first | (simp [New]; done) | (simp [New]; omega)) o
 have cf0_Slots := fun o => hu.bV (b := w.heap.size) kB (by first | (simp [New]; done) | (simp [New]; omega)) o
 have cc1_Slots := fun o => hu.bF (b := w.heap.size + 1) kB (by first | (simp [New]; done) | (simp [New]; omega)) o
 have cf1_Slots := fun o => hu.bV (b := w.heap.size + 1) kB (by first | (simp [New]; done) | (simp [New]; omega)) o
 have cc2_Slots := fun o => hu.bF (b := w.heap.size + 1 + 1) kB (by first | (simp [New]; done) | (simp [New]; omega)) o
 have cf2_Slots := fun o => hu.bV (b := w.heap.size + 1 + 1) kB (by first | (simp [New]; done) | (simp [New]; omega)) o
 have ca0_Slots : ∀ p u ob o, ((w_Slots.setCell p u).alloc ob).cell? ⟨w.heap.size, o, none⟩ = (w_Slots.setCell p u).cell? ⟨w.heap.size, o, none⟩ := fun p u ob o => ((Upd.refl No _).alloc ob).bF (b := w.heap.size) (by have := hu.size; simp at this ⊢; omega) (fun q => q) o
 have cb0_Slots : ∀ p u ob o, ((w_Slots.setCell p u).alloc ob).frozen? ⟨w.heap.size, o, none⟩ = (w_Slots.setCell p u).frozen? ⟨w.heap.size, o, none⟩ := fun p u ob o => ((Upd.refl No _).alloc ob).bV (b := w.heap.size) (by have := hu.size; simp at this ⊢; omega) (fun q => q) o
 have ca1_Slots : ∀ p u ob o, ((w_Slots.setCell p u).alloc ob).cell? ⟨w.heap.size + 1, o, none⟩ = (w_Slots.setCell p u).cell? ⟨w.heap.size + 1, o, none⟩ := fun p u ob o => ((Upd.refl No _).alloc ob).bF (b := w.heap.size + 1) (by have := hu.size; simp at this ⊢; omega) (fun q => q) o
 have cb1_Slots : ∀ p u ob o, ((w_Slots.setCell p u).alloc ob).frozen? ⟨w.heap.size + 1, o, none⟩ = (w_Slots.setCell p u).frozen? ⟨w.heap.size + 1, o, none⟩ := fun p u ob o => ((Upd.refl No _).alloc ob).bV (b := w.heap.size + 1) (by have := hu.size; simp at this ⊢; omega) (fun q => q) o
 have ca2_Slots : ∀ p u ob o, ((w_Slots.setCell p u).alloc ob).cell? ⟨w.heap.size + 1 + 1, o, none⟩ = (w_Slots.setCell p u).cell? ⟨w.heap.size + 1 + 1, o, none⟩ := fun p u ob o => ((Upd.refl No _).alloc ob).bF (b := w.heap.size + 1 + 1) (by have := hu.size; simp at this ⊢; omega) (fun q => q) o
 have cb2_Slots : ∀ p u ob o, ((w_Slots.setCell p u).alloc ob).frozen? ⟨w.heap.size + 1 + 1, o, none⟩ = (w_Slots.setCell p u).frozen? ⟨w.heap.size + 1 + 1, o, none⟩ := fun p u ob o => ((Upd.refl No _).alloc ob).bV (b := w.heap.size + 1 + 1) (by have := hu.size; simp at this ⊢; omega) (fun q => q) o
 have hz_Slots : w.heap.size + 1 + 1 + 1 ≤ w_Slots.heap.size := (by have := hu.size; (try simp at this); omega)
 clear hu
 go_wp2_with fail
 with_reducible refine (oP x.Queue _ _ _ ?hc_Queue S_Queue.out).mono ?_
 case hc_Queue => exact bK (by repeat (with_reducible first | exact HB_Slots.out | apply Upd.dL | apply Upd.dK | apply Upd.dG | apply Upd.alloc | apply Upd.drewN | apply Upd.drew)) HC6.out
 rintro e w_Queue ⟨v6, rfl, hR6, hu⟩
 obtain ⟨B6, b6, rfl⟩ := dA hR6
 obtain ⟨P6, hR6', g6, l6⟩ : ∃ P : Nat → Prop, R aX 235 w_Queue P (.slice B6 x.Queue.length b6) x.Queue ∧ (∀ b, P b → w_Slots.heap.size ≤ b) ∧ (∀ b, P b → b < w_Queue.heap.size) := ⟨_, R_lt (gM (F' := fun b => w_Slots.heap.size ≤ b) (fun b q => (by simp [New, No] at q; omega)) hR6), fun b q => q.1, fun b q => q.2⟩
 have n0_6 : ¬ P6 (w.heap.size) := fun q => (by have := g6 _ q; omega)
 have n1_6 : ¬ P6 (w.heap.size + 1) := fun q => (by have := g6 _ q; omega)
 have n2_6 : ¬ P6 (w.heap.size + 1 + 1) := fun q => (by have := g6 _ q; omega)
 have HR6 := Sd.mk hR6'
 have GP6 := Sd.mk g6
 have LT6 := Sd.mk l6
 clear hR6 hR6' g6 l6
 replace HR2 := Sd.mk (dR hu (fun b hb q => q) (fH HR2.out (by repeat (with_reducible first | exact Upd.refl _ _ | apply Upd.eZ n0_2 | apply Upd.eZ n1_2 | apply Upd.eZ n2_2 | apply Upd.alloc | apply Upd.drewN | apply Upd.drew))))
 have HB_Queue : Sd (Upd No w w_Queue) := Sd.mk (Upd.then (by repeat (with_reducible first | exact HB_Slots.out | apply Upd.dL | apply Upd.dK | apply Upd.dG | apply Upd.alloc | apply Upd.drewN | apply Upd.drew)) hu)
 have cc0_Queue := fun o => hu.bF (b := w.heap.size) kB (fun q => q) o
 have cf0_Queue := fun o => hu.bV (b := w.heap.size) kB (fun q => q) o
 have cc1_Queue := fun o => hu.bF (b := w.heap.size + 1) kB (fun q => q) o
 have cf1_Queue := fun o => hu.bV (b := w.heap.size + 1) kB (fun q => q) o
 have cc2_Queue := fun o => hu.bF (b := w.heap.size + 1 + 1) kB (fun q => q) o
 have cf2_Queue := fun o => hu.bV (b := w.heap.size + 1 + 1) kB (fun q => q) o
 have ca0_Queue : ∀ p u ob o, ((w_Queue.setCell p u).alloc ob).cell? ⟨w.heap.size, o, none⟩ = (w_Queue.setCell p u).cell? ⟨w.heap.size, o, none⟩ := fun p u ob o => ((Upd.refl No _).alloc ob).bF (b := w.heap.size) (by have := hu.size; simp at this ⊢; omega) (fun q => q) o
 have cb0_Queue : ∀ p u ob o, ((w_Queue.setCell p u).alloc ob).frozen? ⟨w.heap.size, o, none⟩ = (w_Queue.setCell p u).frozen? ⟨w.heap.size, o, none⟩ := fun p u ob o => ((Upd.refl No _).alloc ob).bV (b := w.heap.size) (by have := hu.size; simp at this ⊢; omega) (fun q => q) o
 have ca1_Queue : ∀ p u ob o, ((w_Queue.setCell p u).alloc ob).cell? ⟨w.heap.size + 1, o, none⟩ = (w_Queue.setCell p u).cell? ⟨w.heap.size + 1, o, none⟩ := fun p u ob o => ((Upd.refl No _).alloc ob).bF (b := w.heap.size + 1) (by have := hu.size; simp at this ⊢; omega) (fun q => q) o
 have cb1_Queue : ∀ p u ob o, ((w_Queue.setCell p u).alloc ob).frozen? ⟨w.heap.size + 1, o, none⟩ = (w_Queue.setCell p u).frozen? ⟨w.heap.size + 1, o, none⟩ := fun p u ob o => ((Upd.refl No _).alloc ob).bV (b := w.heap.size + 1) (by have := hu.size; simp at this ⊢; omega) (fun q => q) o
 have ca2_Queue : ∀ p u ob o, ((w_Queue.setCell p u).alloc ob).cell? ⟨w.heap.size + 1 + 1, o, none⟩ = (w_Queue.setCell p u).cell? ⟨w.heap.size + 1 + 1, o, none⟩ := fun p u ob o => ((Upd.refl No _).alloc ob).bF (b := w.heap.size + 1 + 1) (by have := hu.size; simp at this ⊢; omega) (fun q => q) o
 have cb2_Queue : ∀ p u ob o, ((w_Queue.setCell p u).alloc ob).frozen? ⟨w.heap.size + 1 + 1, o, none⟩ = (w_Queue.setCell p u).frozen? ⟨w.heap.size + 1 + 1, o, none⟩ := fun p u ob o => ((Upd.refl No _).alloc ob).bV (b := w.heap.size + 1 + 1) (by have := hu.size; simp at this ⊢; omega) (fun q => q) o
 have hz_Queue : w.heap.size + 1 + 1 + 1 ≤ w_Queue.heap.size := (by have := hu.size; (try simp at this); omega)
 have hm_Queue : w_Slots.heap.size ≤ w_Queue.heap.size := (by have := hu.size; (try simp at this); omega)
 clear hu
 go_wp2_with (first | (at_builtin; refine kF (d := eD) (e := 285) (ys := x.bS) (xs := []) (F := New _) rfl _ _ 169 _ _ rfl Tryz.underlying169 oI rfl kD kD A7 c7 (fun _ => No) rfl rfl (mM _ _ (by simp)) (CM_upd (by repeat (with_reducible first | exact HB_Queue.out | apply Upd.dL | apply Upd.dK | apply Upd.dG | apply Upd.alloc | apply Upd.drewN | apply Upd.drew)) HCM7.out) (fun _ _ q => q.elim) (fun _ _ _ q => q.elim) (by simp; omega) ?_) | fail)
 intro v7 w_Askers hR7 hu
 obtain ⟨B7, b7, rfl⟩ := dA hR7
 obtain ⟨P7, hR7', g7, l7⟩ : ∃ P : Nat → Prop, R eD 285 w_Askers P (.slice B7 x.bS.length b7) x.bS ∧ (∀ b, P b → w_Queue.heap.size ≤ b) ∧ (∀ b, P b → b < w_Askers.heap.size) := ⟨_, R_lt (gM (F' := fun b => w_Queue.heap.size ≤ b) (fun b q => (by simp [New, No] at q; omega)) hR7), fun b q => q.1, fun b q => q.2⟩
 have n0_7 : ¬ P7 (w.heap.size) := fun q => (by have := g7 _ q; omega)
 have n1_7 : ¬ P7 (w.heap.size + 1) := fun q => (by have := g7 _ q; omega)
 have n2_7 : ¬ P7 (w.heap.size + 1 + 1) := fun q => (by have := g7 _ q; omega)
 have HR7 := Sd.mk hR7'
 have GP7 := Sd.mk g7
 have LT7 := Sd.mk l7
 clear hR7 hR7' g7 l7
 replace HR2 := Sd.mk (dR hu (fun b hb q => (by have := LT2.out b hb; simp [New] at q; omega)) (fH HR2.out (by repeat (with_reducible first | exact Upd.refl _ _ | apply Upd.eZ n0_2 | apply Upd.eZ n1_2 | apply Upd.eZ n2_2 | apply Upd.alloc | apply Upd.drewN | apply Upd.drew))))
 replace HR6 := Sd.mk (dR hu (fun b hb q => (by have := LT6.out b hb; simp [New] at q; omega)) (fH HR6.out (by repeat (with_reducible first | exact Upd.refl _ _ | apply Upd.eZ n0_6 | apply Upd.eZ n1_6 | apply Upd.eZ n2_6 | apply Upd.alloc | apply Upd.drewN | apply Upd.drew))))
 have HB_Askers : Sd (Upd No w w_Askers) := Sd.mk (Upd.trans (F := No) (by repeat (with_reducible first | exact HB_Queue.out | apply Upd.dL | apply Upd.dK | apply Upd.dG | apply Upd.alloc | apply Upd.drewN | apply Upd.drew)) hu (fun _ _ q => q) (fun b hb q => (by simp [New] at q; omega)))
 have cc0_Askers := fun o => hu.bF (b := w.heap.size) kB (by first | (simp [New]; done) | (simp [New]; omega)) o
 have cf0_Askers := fun o => hu.bV (b := w.heap.size) kB (by first | (simp [New]; done) | (simp [New]; omega)) o
 have cc1_Askers := fun o => hu.bF (b := w.heap.size + 1) kB (by first | (simp [New]; done) | (simp [New]; omega)) o
 have cf1_Askers := fun o => hu.bV (b := w.heap.size + 1) kB (by first | (simp [New]; done) | (simp [New]; omega)) o
 have cc2_Askers := fun o => hu.bF (b := w.heap.size + 1 + 1) kB (by first | (simp [New]; done) | (simp [New]; omega)) o
 have cf2_Askers := fun o => hu.bV (b := w.heap.size + 1 + 1) kB (by first | (simp [New]; done) | (simp [New]; omega)) o
 have ca0_Askers : ∀ p u ob o, ((w_Askers.setCell p u).alloc ob).cell? ⟨w.heap.size, o, none⟩ = (w_Askers.setCell p u).cell? ⟨w.heap.size, o, none⟩ := fun p u ob o => ((Upd.refl No _).alloc ob).bF (b := w.heap.size) (by have := hu.size; simp at this ⊢; omega) (fun q => q) o
 have cb0_Askers : ∀ p u ob o, ((w_Askers.setCell p u).alloc ob).frozen? ⟨w.heap.size, o, none⟩ = (w_Askers.setCell p u).frozen? ⟨w.heap.size, o, none⟩ := fun p u ob o => ((Upd.refl No _).alloc ob).bV (b := w.heap.size) (by have := hu.size; simp at this ⊢; omega) (fun q => q) o
 have ca1_Askers : ∀ p u ob o, ((w_Askers.setCell p u).alloc ob).cell? ⟨w.heap.size + 1, o, none⟩ = (w_Askers.setCell p u).cell? ⟨w.heap.size + 1, o, none⟩ := fun p u ob o => ((Upd.refl No _).alloc ob).bF (b := w.heap.size + 1) (by have := hu.size; simp at this ⊢; omega) (fun q => q) o
 have cb1_Askers : ∀ p u ob o, ((w_Askers.setCell p u).alloc ob).frozen? ⟨w.heap.size + 1, o, none⟩ = (w_Askers.setCell p u).frozen? ⟨w.heap.size + 1, o, none⟩ := fun p u ob o => ((Upd.refl No _).alloc ob).bV (b := w.heap.size + 1) (by have := hu.size; simp at this ⊢; omega) (fun q => q) o
 have ca2_Askers : ∀ p u ob o, ((w_Askers.setCell p u).alloc ob).cell? ⟨w.heap.size + 1 + 1, o, none⟩ = (w_Askers.setCell p u).cell? ⟨w.heap.size + 1 + 1, o, none⟩ := fun p u ob o => ((Upd.refl No _).alloc ob).bF (b := w.heap.size + 1 + 1) (by have := hu.size; simp at this ⊢; omega) (fun q => q) o
 have cb2_Askers : ∀ p u ob o, ((w_Askers.setCell p u).alloc ob).frozen? ⟨w.heap.size + 1 + 1, o, none⟩ = (w_Askers.setCell p u).frozen? ⟨w.heap.size + 1 + 1, o, none⟩ := fun p u ob o => ((Upd.refl No _).alloc ob).bV (b := w.heap.size + 1 + 1) (by have := hu.size; simp at this ⊢; omega) (fun q => q) o
 have hz_Askers : w.heap.size + 1 + 1 + 1 ≤ w_Askers.heap.size := (by have := hu.size; (try simp at this); omega)
 have hm_Askers : w_Queue.heap.size ≤ w_Askers.heap.size := (by have := hu.size; (try simp at this); omega)
 clear hu
 go_wp2
 refine bodyPost_ret (v := .agg #[.int .i64 x.Kind, .int .i64 x.Script, .slice B2 x.dP.length b2, .int .i64 x.State, .int .i64 x.Value.Kind, .int .i64 x.Value.N, .slice B6 x.Queue.length b6, .slice B7 x.bS.length b7, .int .i64 x.bT, .int .i64 x.Pos, .int .i64 x.Count, .int .i64 x.iN]) (by simp [results, Tryz.results158, go_sem, cc1_Slots, ca1_Slots, cc2_Slots, ca2_Slots, cc1_Queue, ca1_Queue, cc2_Queue, ca2_Queue, cc1_Askers, ca1_Askers, cc2_Askers, ca2_Askers]) rfl ⟨_, rfl, ?_, (by repeat (with_reducible first | exact HB_Askers.out | apply Upd.dL | apply Upd.dK | apply Upd.dG | apply Upd.alloc | apply Upd.drewN | apply Upd.drew))⟩
 exact kE _ _ x (fH HR2.out (by repeat (with_reducible first | exact Upd.refl _ _ | apply Upd.eZ n0_2 | apply Upd.eZ n1_2 | apply Upd.eZ n2_2 | apply Upd.alloc | apply Upd.drewN | apply Upd.drew))) (fH HR6.out (by repeat (with_reducible first | exact Upd.refl _ _ | apply Upd.eZ n0_6 | apply Upd.eZ n1_6 | apply Upd.eZ n2_6 | apply Upd.alloc | apply Upd.drewN | apply Upd.drew))) (fH HR7.out (by repeat (with_reducible first | exact Upd.refl _ _ | apply Upd.eZ n0_7 | apply Upd.eZ n1_7 | apply Upd.eZ n2_7 | apply Upd.alloc | apply Upd.drewN | apply Upd.drew))) (fun k hk => by have := GP2.out k hk; simp only [New]; omega) (fun k hk => by have := GP6.out k hk; simp only [New]; omega) (fun k hk => by have := GP7.out k hk; simp only [New]; omega) (fun k hk hk' => by have h1 := LT2.out k hk; have h2 := GP6.out k hk'; omega) (fun k hk hk' => by have h1 := LT2.out k hk; have h2 := GP7.out k hk'; have := hm_Queue; omega) (fun k hk hk' => by have h1 := LT6.out k hk; have h2 := GP7.out k hk'; omega)
theorem oQ (l : List GSent) (A : Option Addr) (c : Nat) (w : World) (h : C aX w A l) (hs : bN dX l ≤ 4194304) : Calls Tryz.prog 164 #[.slice A l.length c] w (lG aX 235 l w) := by
 have hn : l.length ≤ 4194304 := by unfold bN at hs; omega
 have H := Sd.mk h
 have HS := Sd.mk hs
 clear h hs
 go_enter Tryz.func164, Tryz.ntmps164
 go_wp2
 have hR0 : Sd (R aX 235 (w.alloc (.cells #[] 235)) (New w) (.slice (some ⟨w.heap.size, 0, none⟩) 0 0) []) := ⟨R_empty w⟩
 have hU0 : Sd (Upd No w (w.alloc (.cells #[] 235))) := ⟨(Upd.refl _ _).alloc _⟩
 go_loopg [3, 9] l.length (fun r u v wr => ∃ i : Nat, i + r = l.length ∧ v = .int .i64 i ∧ Sd (R aX 235 wr (New w) u (l.take i)) ∧ Sd (Upd No w wr))
 case atStart => exact ⟨0, by omega, rfl, hR0, hU0⟩
 case round =>
  clear hR0 hU0
  obtain ⟨i, hi, rfl, HR, HU⟩ := hrel
  by_cases hlt : i < l.length
  ·obtain ⟨ad, A2, c2, rfl, a0, a1, a2, a3, a4, a5, a6, hl2, hC2⟩ := nO (bK HU.out H.out) i hlt
   have HC2 := Sd.mk hC2
   clear hC2
   have hsi : dX l[i] ≤ 4194304 := by have := gT dX l i hlt; have := HS.out; unfold bN at *; omega
   go_wp2_with fail
   with_reducible refine (copied_Sent l[i] _ _ (ki_Sent_Kmk _ _ hl2 ?hc2) hsi).mono ?_
   case hc2 => exact bK (by repeat (with_reducible first | exact Upd.refl _ _ | apply Upd.alloc | apply Upd.drewN | apply Upd.drew)) HC2.out
   rintro e w1 ⟨cs, rfl, hM, hu⟩
   obtain ⟨v2, P2, rfl, r2, -⟩ := ki_Sent_M hM
   obtain ⟨B2, b2, rfl⟩ := dA r2
   clear r2
   have hu' : Upd No wr w1 := Upd.then (by repeat (with_reducible first | exact Upd.refl _ _ | apply Upd.alloc | apply Upd.drewN | apply Upd.drew)) hu
   have hz := HU.out.size
   have hz1 := hu'.size
   have HRA := Sd.mk (dR hu' (fun _ _ q => q) (R_lt HR.out))
   have HM := Sd.mk (aX.kM (F' := fun b => wr.heap.size ≤ b) (fun b hb => by simp [New] at hb; omega) hM)
   have HU1 := Sd.mk (HU.out.then hu')
   clear HR hM hu hu' HU a0 a1 a2 a3 a4 a5 a6
   go_wp2_with (first | (at_builtin; refine R_appOne (d := aX) (e := 235) rfl _ _ 64 _ _ rfl Tryz.underlying64 ki_Sent_info rfl kD kD l[i] _ _ _ rfl rfl rfl HRA.out HM.out (fun b hb q => absurd q.2 kO) (by rw [List.length_take, Nat.min_eq_left kO]; omega) ?_) | fail)
   intro v1 w2 hR hu
   have hR' := Sd.mk (gM (F' := New w) (fun b q => by simp only [New] at q ⊢; omega) hR)
   have HU2 : Sd (Upd No w w2) := Sd.mk (HU1.out.trans hu (fun _ _ q => q) (fun b hb q => absurd hb (by have := q.1; simp only [New] at this; omega)))
   clear hR hu
   go_wp2
   go_roundg (gk - 1)
   case measure => omega
   case rel => exact ⟨i + 1, by omega, by go_num, hR', HU2⟩
  ·go_wp2
   go_ret
   have hRR := HR.out
   rw [List.take_of_length_le kO] at hRR
   exact ⟨_, rfl, hRR, HU.out⟩
theorem copied_Entity (x : GEntity) (cs : List Value) (w : World) (h : aJ.K w x cs) (hs : dD x ≤ 4194304) : Calls Tryz.prog 165 #[.agg cs.toArray] w (jJ aJ x w) := by
 obtain ⟨A2, c2, A6, c6, A7, c7, rfl, hl2, hC2, hl6, hC6, hl7, hC7⟩ := jU h
 have HC2 := Sd.mk hC2
 have HC6 := Sd.mk hC6
 have HC7 := Sd.mk hC7
 clear hC2 hC6 hC7
 clear h
 have s_Slots : bN dO x.dP ≤ 4194304 := by unfold dD at hs; omega
 have n_Slots : x.dP.length ≤ 4194304 := by unfold bN at s_Slots; omega
 have S_Slots := Sd.mk s_Slots
 have s_Queue : bN dX x.Queue ≤ 4194304 := by unfold dD at hs; omega
 have n_Queue : x.Queue.length ≤ 4194304 := by unfold bN at s_Queue; omega
 have S_Queue := Sd.mk s_Queue
 have s_Askers : bN iL x.bS ≤ 4194304 := by unfold dD at hs; omega
 have n_Askers : x.bS.length ≤ 4194304 := by unfold bN at s_Askers; omega
 have S_Askers := Sd.mk s_Askers
 clear hs s_Slots s_Queue s_Askers
 go_enter Tryz.func165, Tryz.ntmps165
 try go_wp2_with fail
 have hb0 : Sd (Blk ((w.alloc (.cells #[.int .i64 x.Kind, .int .i64 x.Script, .slice A2 x.dP.length c2, .int .i64 x.State, .int .i64 x.Value.Kind, .int .i64 x.Value.N, .slice A6 x.Queue.length c6, .slice A7 x.bS.length c7, .int .i64 x.bT, .int .i64 x.Pos, .int .i64 x.Count, .int .i64 x.iN] 171)).alloc (.cells #[.int .i64 0, .int .i64 0, .slice none 0 0, .int .i64 0, .int .i64 0, .int .i64 0, .slice none 0 0, .slice none 0 0, .int .i64 0, .int .i64 0, .int .i64 0, .int .i64 0] 171)) w.heap.size 171 #[.int .i64 x.Kind, .int .i64 x.Script, .slice A2 x.dP.length c2, .int .i64 x.State, .int .i64 x.Value.Kind, .int .i64 x.Value.N, .slice A6 x.Queue.length c6, .slice A7 x.bS.length c7, .int .i64 x.bT, .int .i64 x.Pos, .int .i64 x.Count, .int .i64 x.iN]) := ⟨(Blk.new _ _ _).alloc _⟩
 have hb1 : Sd (Blk ((w.alloc (.cells #[.int .i64 x.Kind, .int .i64 x.Script, .slice A2 x.dP.length c2, .int .i64 x.State, .int .i64 x.Value.Kind, .int .i64 x.Value.N, .slice A6 x.Queue.length c6, .slice A7 x.bS.length c7, .int .i64 x.bT, .int .i64 x.Pos, .int .i64 x.Count, .int .i64 x.iN] 171)).alloc (.cells #[.int .i64 0, .int .i64 0, .slice none 0 0, .int .i64 0, .int .i64 0, .int .i64 0, .slice none 0 0, .slice none 0 0, .int .i64 0, .int .i64 0, .int .i64 0, .int .i64 0] 171)) (w.heap.size + 1) 171 #[.int .i64 0, .int .i64 0, .slice none 0 0, .int .i64 0, .int .i64 0, .int .i64 0, .slice none 0 0, .slice none 0 0, .int .i64 0, .int .i64 0, .int .i64 0, .int .i64 0]) := ⟨Blk.newAt (by simp)⟩
 have HBB : Sd (Upd No w ((w.alloc (.cells #[.int .i64 x.Kind, .int .i64 x.Script, .slice A2 x.dP.length c2, .int .i64 x.State, .int .i64 x.Value.Kind, .int .i64 x.Value.N, .slice A6 x.Queue.length c6, .slice A7 x.bS.length c7, .int .i64 x.bT, .int .i64 x.Pos, .int .i64 x.Count, .int .i64 x.iN] 171)).alloc (.cells #[.int .i64 0, .int .i64 0, .slice none 0 0, .int .i64 0, .int .i64 0, .int .i64 0, .slice none 0 0, .slice none 0 0, .int .i64 0, .int .i64 0, .int .i64 0, .int .i64 0] 171))) := ⟨((Upd.refl _ _).alloc _).alloc _⟩
 generalize ((w.alloc (.cells #[.int .i64 x.Kind, .int .i64 x.Script, .slice A2 x.dP.length c2, .int .i64 x.State, .int .i64 x.Value.Kind, .int .i64 x.Value.N, .slice A6 x.Queue.length c6, .slice A7 x.bS.length c7, .int .i64 x.bT, .int .i64 x.Pos, .int .i64 x.Count, .int .i64 x.iN] 171)).alloc (.cells #[.int .i64 0, .int .i64 0, .slice none 0 0, .int .i64 0, .int .i64 0, .int .i64 0, .slice none 0 0, .slice none 0 0, .int .i64 0, .int .i64 0, .int .i64 0, .int .i64 0] 171)) = wb at *
 have hzb : w.heap.size + 1 + 1 ≤ wb.heap.size := by have := hb1.out.lt; omega
 have q0_2 := hb0.out.at 2 (v := .slice A2 x.dP.length c2) rfl
 have q0_6 := hb0.out.at 6 (v := .slice A6 x.Queue.length c6) rfl
 have q0_7 := hb0.out.at 7 (v := .slice A7 x.bS.length c7) rfl
 have ff0 := hb0.out.free
 go_region_law (first | (go_simp; go_at_call 184; (with_reducible refine (clone_Value x.dP _ _ _ (bK (by repeat (with_reducible first | exact HBB.out | apply Upd.dL | apply Upd.dK | apply Upd.dG | apply Upd.alloc | apply Upd.drewN | apply Upd.drew)) HC2.out) n_Slots).mono ?_); rintro e w_Slots ⟨v2, rfl, hR2, hu⟩; have HY_Slots : Sd (Upd No wb w_Slots) := Sd.mk (Upd.then (by repeat (with_reducible first | exact Upd.refl _ _ | apply Upd.alloc | apply Upd.drewN | apply Upd.drew)) hu); have hz_Slots := HY_Slots.out.size; have hb0_Slots := Sd.mk (hb0.out.no HY_Slots.out); have hb1_Slots := Sd.mk (hb1.out.no HY_Slots.out); obtain ⟨B2, b2, rfl⟩ := dA hR2; have HR2 : Sd (R aT 95 w_Slots (Iv wb.heap.size w_Slots.heap.size) (.slice B2 x.dP.length b2) x.dP) := Sd.mk (R_lt (gM (F' := New wb) (fun b q => Nat.le_trans (Upd.size ((by repeat (with_reducible first | exact Upd.refl _ _ | apply Upd.alloc | apply Upd.drewN | apply Upd.drew)) : Upd No wb _)) q) hR2)); have HB_Slots : Sd (Upd No w w_Slots) := Sd.mk (Upd.then HBB.out HY_Slots.out); clear hu hR2; have c2_Slots := hb0_Slots.out.at 2 (v := .slice A2 x.dP.length c2) rfl; have c6_Slots := hb0_Slots.out.at 6 (v := .slice A6 x.Queue.length c6) rfl; have c7_Slots := hb0_Slots.out.at 7 (v := .slice A7 x.bS.length c7) rfl; have ff_Slots := hb0_Slots.out.free) | (go_simp; go_at_call 164; (with_reducible refine (oQ x.Queue _ _ _ (bK (by repeat (with_reducible first | exact HB_Slots.out | apply Upd.dL | apply Upd.dK | apply Upd.dG | apply Upd.alloc | apply Upd.drewN | apply Upd.drew)) HC6.out) S_Queue.out).mono ?_); rintro e w_Queue ⟨v6, rfl, hR6, hu⟩; have HY_Queue : Sd (Upd No w_Slots w_Queue) := Sd.mk (Upd.then (by repeat (with_reducible first | exact Upd.refl _ _ | apply Upd.alloc | apply Upd.drewN | apply Upd.drew)) hu); have hz_Queue := HY_Queue.out.size; have hb0_Queue := Sd.mk (hb0_Slots.out.no HY_Queue.out); have hb1_Queue := Sd.mk (hb1_Slots.out.no HY_Queue.out); obtain ⟨B6, b6, rfl⟩ := dA hR6; have HR6 : Sd (R aX 235 w_Queue (Iv w_Slots.heap.size w_Queue.heap.size) (.slice B6 x.Queue.length b6) x.Queue) := Sd.mk (R_lt (gM (F' := New w_Slots) (fun b q => Nat.le_trans (Upd.size ((by repeat (with_reducible first | exact Upd.refl _ _ | apply Upd.alloc | apply Upd.drewN | apply Upd.drew)) : Upd No w_Slots _)) q) hR6)); replace HR2 := Sd.mk (R_no HY_Queue.out HR2.out); have HB_Queue : Sd (Upd No w w_Queue) := Sd.mk (Upd.then HB_Slots.out HY_Queue.out); clear hu hR6; have c2_Queue := hb0_Queue.out.at 2 (v := .slice A2 x.dP.length c2) rfl; have c6_Queue := hb0_Queue.out.at 6 (v := .slice A6 x.Queue.length c6) rfl; have c7_Queue := hb0_Queue.out.at 7 (v := .slice A7 x.bS.length c7) rfl; have ff_Queue := hb0_Queue.out.free) | (go_simp; go_at_call 209; (with_reducible refine (clone_Asker x.bS _ _ _ (bK (by repeat (with_reducible first | exact HB_Queue.out | apply Upd.dL | apply Upd.dK | apply Upd.dG | apply Upd.alloc | apply Upd.drewN | apply Upd.drew)) HC7.out) n_Askers).mono ?_); rintro e w_Askers ⟨v7, rfl, hR7, hu⟩; have HY_Askers : Sd (Upd No w_Queue w_Askers) := Sd.mk (Upd.then (by repeat (with_reducible first | exact Upd.refl _ _ | apply Upd.alloc | apply Upd.drewN | apply Upd.drew)) hu); have hz_Askers := HY_Askers.out.size; have hb0_Askers := Sd.mk (hb0_Queue.out.no HY_Askers.out); have hb1_Askers := Sd.mk (hb1_Queue.out.no HY_Askers.out); obtain ⟨B7, b7, rfl⟩ := dA hR7; have HR7 : Sd (R eD 285 w_Askers (Iv w_Queue.heap.size w_Askers.heap.size) (.slice B7 x.bS.length b7) x.bS) := Sd.mk (R_lt (gM (F' := New w_Queue) (fun b q => Nat.le_trans (Upd.size ((by repeat (with_reducible first | exact Upd.refl _ _ | apply Upd.alloc | apply Upd.drewN | apply Upd.drew)) : Upd No w_Queue _)) q) hR7)); replace HR2 := Sd.mk (R_no HY_Askers.out HR2.out); replace HR6 := Sd.mk (R_no HY_Askers.out HR6.out); have HB_Askers : Sd (Upd No w w_Askers) := Sd.mk (Upd.then HB_Queue.out HY_Askers.out); clear hu hR7; have c2_Askers := hb0_Askers.out.at 2 (v := .slice A2 x.dP.length c2) rfl; have c6_Askers := hb0_Askers.out.at 6 (v := .slice A6 x.Queue.length c6) rfl; have c7_Askers := hb0_Askers.out.at 7 (v := .slice A7 x.bS.length c7) rfl; have ff_Askers := hb0_Askers.out.free))
 all_goals
  clear q0_2 q0_6 q0_7
  have q0_0 := hb0_Askers.out.at 0 (v := .int .i64 x.Kind) rfl
  have q0_1 := hb0_Askers.out.at 1 (v := .int .i64 x.Script) rfl
  have q0_2 := hb0_Askers.out.at 2 (v := .slice A2 x.dP.length c2) rfl
  have q0_3 := hb0_Askers.out.at 3 (v := .int .i64 x.State) rfl
  have q0_4 := hb0_Askers.out.at 4 (v := .int .i64 x.Value.Kind) rfl
  have q0_5 := hb0_Askers.out.at 5 (v := .int .i64 x.Value.N) rfl
  have q0_6 := hb0_Askers.out.at 6 (v := .slice A6 x.Queue.length c6) rfl
  have q0_7 := hb0_Askers.out.at 7 (v := .slice A7 x.bS.length c7) rfl
  have q0_8 := hb0_Askers.out.at 8 (v := .int .i64 x.bT) rfl
  have q0_9 := hb0_Askers.out.at 9 (v := .int .i64 x.Pos) rfl
  have q0_10 := hb0_Askers.out.at 10 (v := .int .i64 x.Count) rfl
  have q0_11 := hb0_Askers.out.at 11 (v := .int .i64 x.iN) rfl
  have q1_0 := hb1_Askers.out.at 0 (v := .int .i64 0) rfl
  have q1_1 := hb1_Askers.out.at 1 (v := .int .i64 0) rfl
  have q1_2 := hb1_Askers.out.at 2 (v := .slice none 0 0) rfl
  have q1_3 := hb1_Askers.out.at 3 (v := .int .i64 0) rfl
  have q1_4 := hb1_Askers.out.at 4 (v := .int .i64 0) rfl
  have q1_5 := hb1_Askers.out.at 5 (v := .int .i64 0) rfl
  have q1_6 := hb1_Askers.out.at 6 (v := .slice none 0 0) rfl
  have q1_7 := hb1_Askers.out.at 7 (v := .slice none 0 0) rfl
  have q1_8 := hb1_Askers.out.at 8 (v := .int .i64 0) rfl
  have q1_9 := hb1_Askers.out.at 9 (v := .int .i64 0) rfl
  have q1_10 := hb1_Askers.out.at 10 (v := .int .i64 0) rfl
  have q1_11 := hb1_Askers.out.at 11 (v := .int .i64 0) rfl
  have f0 := hb0_Askers.out.free
  have f1 := hb1_Askers.out.free
  go_wp2
  refine bodyPost_ret (v := .agg #[.int .i64 x.Kind, .int .i64 x.Script, .slice B2 x.dP.length b2, .int .i64 x.State, .int .i64 x.Value.Kind, .int .i64 x.Value.N, .slice B6 x.Queue.length b6, .slice B7 x.bS.length b7, .int .i64 x.bT, .int .i64 x.Pos, .int .i64 x.Count, .int .i64 x.iN]) (by simp [results, Tryz.results165, go_sem, q1_0, q1_1, q1_2, q1_3, q1_4, q1_5, q1_6, q1_7, q1_8, q1_9, q1_10, q1_11]) rfl ⟨_, rfl, ?_, ?_⟩
  ·exact kE _ _ x (dR ((by repeat (first | (with_reducible exact Upd.refl _ _) | (with_reducible refine Upd.alloc ?_ _) | (refine Upd.set ?_ _ _ (.inr (by first | exact .inl rfl | exact .inr rfl))))) : Upd (fun b => b = w.heap.size ∨ b = w.heap.size + 1) w_Askers _) (fun b q z => by simp only [Iv] at q; have := hz_Slots; have := hz_Queue; have := hz_Askers; omega) HR2.out) (dR ((by repeat (first | (with_reducible exact Upd.refl _ _) | (with_reducible refine Upd.alloc ?_ _) | (refine Upd.set ?_ _ _ (.inr (by first | exact .inl rfl | exact .inr rfl))))) : Upd (fun b => b = w.heap.size ∨ b = w.heap.size + 1) w_Askers _) (fun b q z => by simp only [Iv] at q; have := hz_Slots; have := hz_Queue; have := hz_Askers; omega) HR6.out) (dR ((by repeat (first | (with_reducible exact Upd.refl _ _) | (with_reducible refine Upd.alloc ?_ _) | (refine Upd.set ?_ _ _ (.inr (by first | exact .inl rfl | exact .inr rfl))))) : Upd (fun b => b = w.heap.size ∨ b = w.heap.size + 1) w_Askers _) (fun b q z => by simp only [Iv] at q; have := hz_Slots; have := hz_Queue; have := hz_Askers; omega) HR7.out) (fun k hk => by simp only [Iv] at hk; simp only [New]; have := hz_Slots; have := hz_Queue; have := hz_Askers; omega) (fun k hk => by simp only [Iv] at hk; simp only [New]; have := hz_Slots; have := hz_Queue; have := hz_Askers; omega) (fun k hk => by simp only [Iv] at hk; simp only [New]; have := hz_Slots; have := hz_Queue; have := hz_Askers; omega) (fun k hk hk' => by simp only [Iv] at hk hk'; have := hz_Slots; have := hz_Queue; have := hz_Askers; omega) (fun k hk hk' => by simp only [Iv] at hk hk'; have := hz_Slots; have := hz_Queue; have := hz_Askers; omega) (fun k hk hk' => by simp only [Iv] at hk hk'; have := hz_Slots; have := hz_Queue; have := hz_Askers; omega)
  ·exact Upd.trans HB_Askers.out ((by repeat (first | (with_reducible exact Upd.refl _ _) | (with_reducible refine Upd.alloc ?_ _) | (refine Upd.set ?_ _ _ (.inr (by first | exact .inl rfl | exact .inr rfl))))) : Upd (fun b => b = w.heap.size ∨ b = w.heap.size + 1) w_Askers _) (fun _ _ q => q) (fun b hb q => by rcases q with q | q <;> omega)
end Go.Proofs.YtfnedoiplblldaaGreatFam
namespace Go.Proofs.YtfnedoiplblldaaGreatFam
open Go.ChangeShapes Go.WideShapes Go.RowKit Go.Proofs.YtfnedoiplblldaaGreatSep Go.Proofs.YtfnedoiplblldaaGreatT Go.Proofs.YtfnedoiplblldaaGreatK
set_option linter.unusedVariables false
set_option linter.unusedSimpArgs false
attribute [local irreducible] wpOps wpOp
set_option maxHeartbeats 4000000
set_option maxRecDepth 100000
theorem l12Copy_s (x : GVat) (cs : List Value) (w : World) (h : aG.K w x cs) (hs : bR x ≤ 4194304) : Calls Tryz.prog 90 #[.agg cs.toArray] w (jJ aG x w) := by
 obtain ⟨Ax1, cx1, Ax2, cx2, Ax3, cx3, Ax4, cx4, rfl, hlx1, hCx1, hlx2, hCx2, hlx3, hCx3, hlx4, hCx4⟩ := kJ h
 have s_Entities : bN dD x.aA ≤ 4194304 := by unfold bR at hs; omega
 have n_Entities : x.aA.length ≤ 4194304 := by unfold bN at s_Entities; omega
 have s_Loop : bN dX x.Loop ≤ 4194304 := by unfold bR at hs; omega
 have n_Loop : x.Loop.length ≤ 4194304 := by unfold bN at s_Loop; omega
 have s_Links : bN bQ x.aD ≤ 4194304 := by unfold bR at hs; omega
 have n_Links : x.aD.length ≤ 4194304 := by unfold bN at s_Links; omega
 have s_Out : bN dH x.Out ≤ 4194304 := by unfold bR at hs; omega
 have n_Out : x.Out.length ≤ 4194304 := by unfold bN at s_Out; omega
 refine enter 76 [(0, .agg #[.int .i64 (x.Id), .slice Ax1 x.aA.length cx1, .slice Ax2 x.Loop.length cx2, .slice Ax3 x.aD.length cx3, .slice Ax4 x.Out.length cx4])] Tryz.func90 rfl kR ?_
 intro xj
 have H1 : St w No [] w := St.enter
 refine wp_seq ?_
 refine aS [0, 1] rfl ?_
 refine aB ?_
 refine gG rfl rfl rfl rfl H1 ?_
 intro g_0_0 W2 hu3 Ha4; clear H1; clear hu3
 refine aB ?_
 refine bA rfl Tryz.zeroValue68 rfl rfl Ha4 ?_
 intro g_0_1 W6 hu7 Ha8; clear Ha4; clear hu7
 refine aN ?_
 refine aM ?_
 refine wp_seq ?_
 refine lC (fun a' W' => ∃ (B_1_4 : Option Addr) (c_1_4 : Nat) (g_1_6 : Nat) (x' : Nat → Value), a' = bO 76 x' [(1, .pointer (some ⟨g_0_0, 0, none⟩)), (2, .pointer (some ⟨g_0_1, 0, none⟩)), (3, .pointer (some ⟨g_1_6, 0, none⟩))] ∧ St w No [hB g_1_6 68 #[.int .i64 (x.Id), .slice none 0 0, .slice B_1_4 x.Loop.length c_1_4, .slice none 0 0, .slice none 0 0], hR aX 235 (.slice B_1_4 x.Loop.length c_1_4) x.Loop, hB g_0_1 68 #[.int .i64 (0), .slice none 0 0, .slice none 0 0, .slice none 0 0, .slice none 0 0], hB g_0_0 68 #[.int .i64 (x.Id), .slice Ax1 x.aA.length cx1, .slice Ax2 x.Loop.length cx2, .slice Ax3 x.aD.length cx3, .slice Ax4 x.Out.length cx4]] W') ?_ ?_
 ·refine eH (fun W' => Blk W' g_0_0 68 #[.int .i64 (x.Id), .slice Ax1 x.aA.length cx1, .slice Ax2 x.Loop.length cx2, .slice Ax3 x.aD.length cx3, .slice Ax4 x.Out.length cx4]) 8 kR ?_
  have H10 := Ha8.drew; clear Ha8
  have hS11 : Blk W6.drew g_0_0 68 #[.int .i64 (x.Id), .slice Ax1 x.aA.length cx1, .slice Ax2 x.Loop.length cx2, .slice Ax3 x.aD.length cx3, .slice Ax4 x.Out.length cx4] := H10.blk 1 rfl
  refine aF (i := 0) rfl kR kR kR kR kR (fun _ _ _ h => h) rfl rfl hS11 (fun W' hs' => bB fa_68_0 rfl) ?_
  refine aF (i := 1) rfl kR kR kR kR kR (fun _ _ _ h => h) rfl rfl hS11 (fun W' hs' => bG (k := 0) (v := .int .i64 (x.Id)) Tryz.isAgg3 rfl hs' rfl) ?_
  refine aF (i := 2) rfl kR kR kR kR kR (fun _ _ _ h => h) rfl rfl hS11 (fun W' hs' => bB fa_68_2 rfl) ?_
  refine aF (i := 3) rfl kR kR kR kR kR (fun _ _ _ h => h) rfl rfl hS11 (fun W' hs' => bG (k := 2) (v := .slice Ax2 x.Loop.length cx2) Tryz.isAgg64 rfl hs' rfl) ?_
  refine dY (i := 4) (i2 := 6) kR ?_ ?_
  ·refine aV rfl Tryz.call157 (vs := #[.slice Ax2 x.Loop.length cx2]) rfl rfl rfl (oP x.Loop _ _ _ (bK H10.1 hCx2) s_Loop) ?_
   rintro e16 W15 ⟨v12, rfl, hR13, hu14⟩; refine ⟨_, rfl, ?_⟩
   obtain ⟨B_1_4, c_1_4, rfl⟩ := dA hR13
   have H17 := H10.new (q := hR aX 235 (.slice B_1_4 x.Loop.length c_1_4) x.Loop) hu14 hR13; clear H10
   have hS18 := H17.blk 2 rfl; refine ⟨fun _ => hS18, ?_⟩
   refine aF (i := 5) rfl kR kR kR kR kR (fun _ _ _ h => h) rfl rfl hS18 (fun W' hs' => fJ (vs := [(0, .int .i64 (x.Id)), (2, .slice B_1_4 x.Loop.length c_1_4)]) (cells := #[.int .i64 (x.Id), .slice none 0 0, .slice B_1_4 x.Loop.length c_1_4, .slice none 0 0, .slice none 0 0]) rfl kR) ?_
   refine aL (i := 6) kR ?_
   refine bA rfl Tryz.zeroValue68 rfl rfl H17 ?_
   intro g_1_6 W19 hu20 Ha21; clear H17; clear hu20
   have hS23 := Ha21.blk 3 rfl; refine ⟨fun _ => hS23, ?_⟩
   refine aL (i := 7) kR ?_
   refine aR rfl Tryz.sizeOf68 rfl rfl rfl rfl kS Ha21 ?_
   intro W24 hu25 Ha26; clear Ha21; clear hu25
   have hS28 := Ha26.blk 3 rfl; refine ⟨fun _ => hS28, ?_⟩
   refine bD kR ?_ _
   exact (aZ [(1, .pointer (some ⟨g_0_0, 0, none⟩)), (2, .pointer (some ⟨g_0_1, 0, none⟩)), (3, .pointer (some ⟨g_1_6, 0, none⟩))] rfl).elim fun x' hx => ⟨B_1_4, c_1_4, g_1_6, x', hx, Ha26⟩
  refine bA rfl Tryz.zeroValue68 rfl rfl H10 ?_
  intro g_1_6 W29 hu30 Ha31; clear H10; clear hu30
  have hS33 := Ha31.blk 2 rfl; refine ⟨fun _ => hS33, ?_⟩
  refine aL (i := 4) kR ?_
  refine aV rfl Tryz.call157 (vs := #[.slice Ax2 x.Loop.length cx2]) rfl rfl rfl (oP x.Loop _ _ _ (bK Ha31.1 hCx2) s_Loop) ?_
  rintro e38 W37 ⟨v34, rfl, hR35, hu36⟩; refine ⟨_, rfl, ?_⟩
  obtain ⟨B_1_4, c_1_4, rfl⟩ := dA hR35
  have H39 := Ha31.new (q := hR aX 235 (.slice B_1_4 x.Loop.length c_1_4) x.Loop) hu36 hR35; clear Ha31
  have hS40 := H39.blk 3 rfl; refine ⟨fun _ => hS40, ?_⟩
  refine aF (i := 5) rfl kR kR kR kR kR (fun _ _ _ h => h) rfl rfl hS40 (fun W' hs' => fJ (vs := [(0, .int .i64 (x.Id)), (2, .slice B_1_4 x.Loop.length c_1_4)]) (cells := #[.int .i64 (x.Id), .slice none 0 0, .slice B_1_4 x.Loop.length c_1_4, .slice none 0 0, .slice none 0 0]) rfl kR) ?_
  refine aL (i := 7) kR ?_
  have H44 : St w No [hB g_1_6 68 #[.int .i64 (0), .slice none 0 0, .slice none 0 0, .slice none 0 0, .slice none 0 0], hR aX 235 (.slice B_1_4 x.Loop.length c_1_4) x.Loop, hB g_0_1 68 #[.int .i64 (0), .slice none 0 0, .slice none 0 0, .slice none 0 0, .slice none 0 0], hB g_0_0 68 #[.int .i64 (x.Id), .slice Ax1 x.aA.length cx1, .slice Ax2 x.Loop.length cx2, .slice Ax3 x.aD.length cx3, .slice Ax4 x.Out.length cx4]] W37 := H39.pick [1, 0, 2, 3] kD rfl; clear H39
  refine aR rfl Tryz.sizeOf68 rfl rfl rfl rfl kS H44 ?_
  intro W41 hu42 Ha43; clear H44; clear hu42
  have hS46 := Ha43.blk 3 rfl; refine ⟨fun _ => hS46, ?_⟩
  refine bD kR ?_ _
  exact (aZ [(1, .pointer (some ⟨g_0_0, 0, none⟩)), (2, .pointer (some ⟨g_0_1, 0, none⟩)), (3, .pointer (some ⟨g_1_6, 0, none⟩))] rfl).elim fun x' hx => ⟨B_1_4, c_1_4, g_1_6, x', hx, Ha43⟩
 ·rintro _ W48 ⟨B_1_4, c_1_4, g_1_6, x49, rfl, H47⟩
  refine aM ?_
  refine wp_seq ?_
  refine wp_seq ?_
  refine aS [0] rfl ?_
  refine aB ?_
  refine aC rfl (aW rfl) rfl rfl ?_
  refine aN ?_
  refine aM ?_
  refine wp_block ?_
  have H50 : St w No [hR aJ 171 (.slice none 0 0) ([]), hB g_1_6 68 #[.int .i64 (x.Id), .slice none 0 0, .slice B_1_4 x.Loop.length c_1_4, .slice none 0 0, .slice none 0 0], hR aX 235 (.slice B_1_4 x.Loop.length c_1_4) x.Loop, hB g_0_1 68 #[.int .i64 (0), .slice none 0 0, .slice none 0 0, .slice none 0 0, .slice none 0 0], hB g_0_0 68 #[.int .i64 (x.Id), .slice Ax1 x.aA.length cx1, .slice Ax2 x.Loop.length cx2, .slice Ax3 x.aD.length cx3, .slice Ax4 x.Out.length cx4]] W48 := H47.add0 (q := hR aJ 171 (.slice none 0 0) []) l9; clear H47
  refine wp_loop_ghost (fun r a' W' => ∃ (i1 : Nat) (A_1 : Option Addr) (c_1 : Nat) (x' : Nat → Value), a' = bO 76 x' [(1, .pointer (some ⟨g_0_0, 0, none⟩)), (2, .pointer (some ⟨g_0_1, 0, none⟩)), (3, .pointer (some ⟨g_1_6, 0, none⟩)), (4, .int .i64 (((i1 : Nat) : Int)))] ∧ (i1 + r = x.aA.length) ∧ St w No [hR aJ 171 (.slice A_1 i1 c_1) (x.aA.take i1), hB g_1_6 68 #[.int .i64 (x.Id), .slice A_1 i1 c_1, .slice B_1_4 x.Loop.length c_1_4, .slice none 0 0, .slice none 0 0], hR aX 235 (.slice B_1_4 x.Loop.length c_1_4) x.Loop, hB g_0_1 68 #[.int .i64 (0), .slice none 0 0, .slice none 0 0, .slice none 0 0, .slice none 0 0], hB g_0_0 68 #[.int .i64 (x.Id), .slice Ax1 x.aA.length cx1, .slice Ax2 x.Loop.length cx2, .slice Ax3 x.aD.length cx3, .slice Ax4 x.Out.length cx4]] W') x.aA.length ?_ ?_
  ·exact (aZ [(1, .pointer (some ⟨g_0_0, 0, none⟩)), (2, .pointer (some ⟨g_0_1, 0, none⟩)), (3, .pointer (some ⟨g_1_6, 0, none⟩)), (4, .int .i64 (((0 : Nat) : Int)))] rfl).elim fun x' hx => ⟨0, none, 0, x', hx, kO, H50⟩
  ·rintro r51 _ W52 ⟨i1, A_1, c_1, x53, rfl, hi1, H54⟩; clear H50
   refine wp_seq ?_
   refine wp_seq ?_
   refine aS [0, 1, 2, 3, 4] rfl ?_
   refine aB ?_
   refine aC rfl (aK rfl) rfl rfl ?_
   refine aB ?_
   refine aC rfl (bB iY rfl) rfl rfl ?_
   refine aB ?_
   refine aC rfl (bG (k := 1) (v := .slice Ax1 x.aA.length cx1) Tryz.isAgg63 rfl (H54.blk 4 rfl) rfl) rfl rfl ?_
   refine aB ?_
   refine aC rfl (jY Tryz.runUnderlying63 rfl) rfl rfl ?_
   refine aB ?_
   refine aC rfl (iW rfl rfl) rfl rfl ?_
   refine aN ?_
   refine aM ?_
   refine gU rfl (fun hc55 => ?_) (fun hc55 => ?_)
   ·have hlt1 : i1 < x.aA.length := by omega
    obtain ⟨ade56, cse56, hAe56, hKe56, hce56⟩ := lS hCx1 i1 hlt1
    have hle56 := lK hKe56
    have hoe56 := oM hKe56
    have hsi1 : dD x.aA[i1] ≤ 4194304 := by have h1 := gT dD x.aA i1 hlt1; have h2 := s_Entities; unfold bN at h2; omega
    refine wp_skip ?_
    refine aM ?_
    refine wp_seq ?_
    refine wp_block ?_
    refine eH (fun W' => Blk W' g_1_6 68 #[.int .i64 (x.Id), .slice A_1 i1 c_1, .slice B_1_4 x.Loop.length c_1_4, .slice none 0 0, .slice none 0 0] ∧ Blk W' g_0_0 68 #[.int .i64 (x.Id), .slice Ax1 x.aA.length cx1, .slice Ax2 x.Loop.length cx2, .slice Ax3 x.aD.length cx3, .slice Ax4 x.Out.length cx4] ∧ Cat W' (Addr.add ade56 (i1 * 12)) cse56) 11 kR ?_
    have H57 := H54.drew; clear H54
    have hS58 : Blk W52.drew g_1_6 68 #[.int .i64 (x.Id), .slice A_1 i1 c_1, .slice B_1_4 x.Loop.length c_1_4, .slice none 0 0, .slice none 0 0] ∧ Blk W52.drew g_0_0 68 #[.int .i64 (x.Id), .slice Ax1 x.aA.length cx1, .slice Ax2 x.Loop.length cx2, .slice Ax3 x.aD.length cx3, .slice Ax4 x.Out.length cx4] ∧ Cat W52.drew (Addr.add ade56 (i1 * 12)) cse56 := ⟨H57.blk 1 rfl, H57.blk 4 rfl, (Cat.upd hce56 H57.1)⟩
    refine aF (i := 0) rfl kR kR kR kR kR (fun _ _ _ h => h) rfl rfl hS58 (fun W' hs' => bB iY rfl) ?_
    refine aF (i := 1) rfl kR kR kR kR kR (fun _ _ _ h => h) rfl rfl hS58 (fun W' hs' => bG (k := 1) (v := .slice A_1 i1 c_1) Tryz.isAgg63 rfl hs'.1 rfl) ?_
    refine aF (i := 2) rfl kR kR kR kR kR (fun _ _ _ h => h) rfl rfl hS58 (fun W' hs' => bB iY rfl) ?_
    refine aF (i := 3) rfl kR kR kR kR kR (fun _ _ _ h => h) rfl rfl hS58 (fun W' hs' => bG (k := 1) (v := .slice Ax1 x.aA.length cx1) Tryz.isAgg63 rfl hs'.2.1 rfl) ?_
    refine aF (i := 4) rfl kR kR kR kR kR (fun _ _ _ h => h) rfl rfl hS58 (fun W' hs' => aK rfl) ?_
    refine aF (i := 5) rfl kR kR kR kR kR (fun _ _ _ h => h) rfl rfl hS58 (fun W' hs' => fD (k := i1) Tryz.runUnderlying63 Tryz.sizeOf171 rfl rfl hAe56 hlt1) ?_
    refine aF (i := 6) rfl kR kR kR kR kR (fun _ _ _ h => h) rfl rfl hS58 (fun W' hs' => jF Tryz.isAgg171 Tryz.sizeOf171 rfl hs'.2.2 hle56) ?_
    refine aL (i := 7) kR ?_
    refine aV rfl Tryz.call158 (vs := #[.agg (List.toArray cse56)]) rfl rfl rfl (l9Copy_s x.aA[i1] _ _ (fV H57.1 hKe56) hsi1) ?_
    rintro e62 W61 ⟨cs_5_7, rfl, hM59, hu60⟩; refine ⟨_, rfl, ?_⟩
    have H65 := H57.new (q := hM aJ (x.aA[i1]) cs_5_7) hu60 hM59; clear H57
    have hS66 := And.intro (H65.blk 2 rfl) (And.intro (H65.blk 5 rfl) ((Cat.upd hce56 H65.1))); refine ⟨fun _ => hS66, ?_⟩
    refine aL (i := 8) kR ?_
    refine kK rfl Tryz.runUnderlying63 Tryz.sizeOf171 kD Tryz.zeroValue171 rfl (lK (H65.kn 0 rfl)) rfl rfl H65 ?_
    intro g_5_8 W67 hu68 Ha69; clear H65; clear hu68
    have hS71 := And.intro (Ha69.blk 3 rfl) (And.intro (Ha69.blk 6 rfl) ((Cat.upd hce56 Ha69.1))); refine ⟨fun _ => hS71, ?_⟩
    refine aL (i := 9) kR ?_
    have H74 : St w No [hR aJ 171 (.slice A_1 i1 c_1) (x.aA.take i1), hB g_5_8 171 (List.toArray cs_5_7), hM aJ (x.aA[i1]) cs_5_7, hB g_1_6 68 #[.int .i64 (x.Id), .slice A_1 i1 c_1, .slice B_1_4 x.Loop.length c_1_4, .slice none 0 0, .slice none 0 0], hR aX 235 (.slice B_1_4 x.Loop.length c_1_4) x.Loop, hB g_0_1 68 #[.int .i64 (0), .slice none 0 0, .slice none 0 0, .slice none 0 0, .slice none 0 0], hB g_0_0 68 #[.int .i64 (x.Id), .slice Ax1 x.aA.length cx1, .slice Ax2 x.Loop.length cx2, .slice Ax3 x.aD.length cx3, .slice Ax4 x.Out.length cx4]] W67 := Ha69.pick [2, 0, 1, 3, 4, 5, 6] kD rfl; clear Ha69
    refine lX (xs := (x.aA.take i1)) (p := x.aA[i1]) (n' := (i1 + 1)) (ys := (x.aA.take (i1 + 1))) rfl Tryz.underlying63 nP rfl kD kD rfl rfl (by rw [List.length_take, Nat.min_eq_left kO]; omega) (by rw [List.length_take, Nat.min_eq_left kO]) (List.take_succ_eq_append_getElem hlt1).symm rfl rfl H74 ?_
    intro B_5_9 c_5_9 W72 Ha73; clear H74
    have hS76 := And.intro (Ha73.blk 1 rfl) (And.intro (Ha73.blk 4 rfl) ((Cat.upd hce56 Ha73.1))); refine ⟨fun _ => hS76, ?_⟩
    refine aF (i := 10) rfl kR kR kR kR kR (fun _ _ _ h => h) rfl rfl hS76 (fun W' hs' => bB iY rfl) ?_
    refine aL (i := 11) kR ?_
    have H80 : St w No [hB g_1_6 68 #[.int .i64 (x.Id), .slice A_1 i1 c_1, .slice B_1_4 x.Loop.length c_1_4, .slice none 0 0, .slice none 0 0], hR aJ 171 (.slice B_5_9 (i1 + 1) c_5_9) (x.aA.take (i1 + 1)), hR aX 235 (.slice B_1_4 x.Loop.length c_1_4) x.Loop, hB g_0_1 68 #[.int .i64 (0), .slice none 0 0, .slice none 0 0, .slice none 0 0, .slice none 0 0], hB g_0_0 68 #[.int .i64 (x.Id), .slice Ax1 x.aA.length cx1, .slice Ax2 x.Loop.length cx2, .slice Ax3 x.aD.length cx3, .slice Ax4 x.Out.length cx4]] W72 := Ha73.pick [1, 0, 2, 3, 4] kD rfl; clear Ha73
    refine mE rfl Tryz.sizeOf63 rfl rfl rfl (Nat.le_of_ble_eq_true rfl) (by simp [Value.cells, Value.oneCell']) H80 ?_
    intro W77 hu78 Ha79; clear H80; clear hu78
    refine ⟨fun h => absS kR h, ?_⟩
    refine bD kR ?_ _
    refine inB_n ?_
    refine aM ?_
    refine aS [0, 1, 2] rfl ?_
    refine aB ?_
    refine aC rfl (aK rfl) rfl rfl ?_
    refine aB ?_
    refine aC rfl (lT (k := i1) rfl rfl kO) rfl rfl ?_
    refine aB ?_
    refine aC rfl (aW rfl) rfl rfl ?_
    refine aN ?_
    refine aM ?_
    exact (aZ [(1, .pointer (some ⟨g_0_0, 0, none⟩)), (2, .pointer (some ⟨g_0_1, 0, none⟩)), (3, .pointer (some ⟨g_1_6, 0, none⟩)), (4, .int .i64 (((i1 + 1 : Nat) : Int)))] rfl).elim fun x' hx => ⟨r51 - 1, kO, i1 + 1, B_5_9, c_5_9, x', hx, kO, Ha79.pick [1, 0, 2, 3, 4] kD rfl⟩
   ·obtain rfl : i1 = x.aA.length := by omega
    rw [List.take_length] at H54
    have H82 : St w No [hR aJ 171 (.slice A_1 x.aA.length c_1) x.aA, hB g_1_6 68 #[.int .i64 (x.Id), .slice A_1 x.aA.length c_1, .slice B_1_4 x.Loop.length c_1_4, .slice none 0 0, .slice none 0 0], hR aX 235 (.slice B_1_4 x.Loop.length c_1_4) x.Loop, hB g_0_1 68 #[.int .i64 (0), .slice none 0 0, .slice none 0 0, .slice none 0 0, .slice none 0 0], hB g_0_0 68 #[.int .i64 (x.Id), .slice Ax1 x.aA.length cx1, .slice Ax2 x.Loop.length cx2, .slice Ax3 x.aD.length cx3, .slice Ax4 x.Out.length cx4]] W52 := H54; clear H54
    refine wp_exit ?_
    refine iF ?_
    refine iF ?_
    refine inB_x ?_
    refine aM ?_
    refine wp_seq ?_
    refine wp_seq ?_
    refine aS [0] rfl ?_
    refine aB ?_
    refine aC rfl (aW rfl) rfl rfl ?_
    refine aN ?_
    refine aM ?_
    refine wp_block ?_
    have H83 : St w No [hR aO 178 (.slice none 0 0) ([]), hR aJ 171 (.slice A_1 x.aA.length c_1) x.aA, hB g_1_6 68 #[.int .i64 (x.Id), .slice A_1 x.aA.length c_1, .slice B_1_4 x.Loop.length c_1_4, .slice none 0 0, .slice none 0 0], hR aX 235 (.slice B_1_4 x.Loop.length c_1_4) x.Loop, hB g_0_1 68 #[.int .i64 (0), .slice none 0 0, .slice none 0 0, .slice none 0 0, .slice none 0 0], hB g_0_0 68 #[.int .i64 (x.Id), .slice Ax1 x.aA.length cx1, .slice Ax2 x.Loop.length cx2, .slice Ax3 x.aD.length cx3, .slice Ax4 x.Out.length cx4]] W52 := H82.add0 (q := hR aO 178 (.slice none 0 0) []) l9; clear H82
    refine wp_loop_ghost (fun r a' W' => ∃ (i2 : Nat) (A_2 : Option Addr) (c_2 : Nat) (x' : Nat → Value), a' = bO 76 x' [(1, .pointer (some ⟨g_0_0, 0, none⟩)), (2, .pointer (some ⟨g_0_1, 0, none⟩)), (3, .pointer (some ⟨g_1_6, 0, none⟩)), (5, .int .i64 (((i2 : Nat) : Int)))] ∧ (i2 + r = x.aD.length) ∧ St w No [hR aO 178 (.slice A_2 i2 c_2) (x.aD.take i2), hR aJ 171 (.slice A_1 x.aA.length c_1) x.aA, hB g_1_6 68 #[.int .i64 (x.Id), .slice A_1 x.aA.length c_1, .slice B_1_4 x.Loop.length c_1_4, .slice A_2 i2 c_2, .slice none 0 0], hR aX 235 (.slice B_1_4 x.Loop.length c_1_4) x.Loop, hB g_0_1 68 #[.int .i64 (0), .slice none 0 0, .slice none 0 0, .slice none 0 0, .slice none 0 0], hB g_0_0 68 #[.int .i64 (x.Id), .slice Ax1 x.aA.length cx1, .slice Ax2 x.Loop.length cx2, .slice Ax3 x.aD.length cx3, .slice Ax4 x.Out.length cx4]] W') x.aD.length ?_ ?_
    ·exact (aZ [(1, .pointer (some ⟨g_0_0, 0, none⟩)), (2, .pointer (some ⟨g_0_1, 0, none⟩)), (3, .pointer (some ⟨g_1_6, 0, none⟩)), (5, .int .i64 (((0 : Nat) : Int)))] rfl).elim fun x' hx => ⟨0, none, 0, x', hx, kO, H83⟩
    ·rintro r84 _ W85 ⟨i2, A_2, c_2, x86, rfl, hi2, H87⟩; clear H83
     refine wp_seq ?_
     refine wp_seq ?_
     refine aS [0, 1, 2, 3, 4] rfl ?_
     refine aB ?_
     refine aC rfl (aK rfl) rfl rfl ?_
     refine aB ?_
     refine aC rfl (bB iK rfl) rfl rfl ?_
     refine aB ?_
     refine aC rfl (bG (k := 3) (v := .slice Ax3 x.aD.length cx3) Tryz.isAgg65 rfl (H87.blk 5 rfl) rfl) rfl rfl ?_
     refine aB ?_
     refine aC rfl (jY Tryz.runUnderlying65 rfl) rfl rfl ?_
     refine aB ?_
     refine aC rfl (iW rfl rfl) rfl rfl ?_
     refine aN ?_
     refine aM ?_
     refine gU rfl (fun hc88 => ?_) (fun hc88 => ?_)
     ·have hlt2 : i2 < x.aD.length := by omega
      obtain ⟨ade89, cse89, hAe89, hKe89, hce89⟩ := lS hCx3 i2 hlt2
      have hle89 := lZ hKe89
      have hoe89 := nW hKe89
      have hsi2 : bQ x.aD[i2] ≤ 4194304 := by have h1 := gT bQ x.aD i2 hlt2; have h2 := s_Links; unfold bN at h2; omega
      refine wp_skip ?_
      refine aM ?_
      refine wp_seq ?_
      refine wp_block ?_
      refine eH (fun W' => Blk W' g_1_6 68 #[.int .i64 (x.Id), .slice A_1 x.aA.length c_1, .slice B_1_4 x.Loop.length c_1_4, .slice A_2 i2 c_2, .slice none 0 0] ∧ Blk W' g_0_0 68 #[.int .i64 (x.Id), .slice Ax1 x.aA.length cx1, .slice Ax2 x.Loop.length cx2, .slice Ax3 x.aD.length cx3, .slice Ax4 x.Out.length cx4] ∧ Cat W' (Addr.add ade89 (i2 * 7)) cse89) 11 kR ?_
      have H90 := H87.drew; clear H87
      have hS91 : Blk W85.drew g_1_6 68 #[.int .i64 (x.Id), .slice A_1 x.aA.length c_1, .slice B_1_4 x.Loop.length c_1_4, .slice A_2 i2 c_2, .slice none 0 0] ∧ Blk W85.drew g_0_0 68 #[.int .i64 (x.Id), .slice Ax1 x.aA.length cx1, .slice Ax2 x.Loop.length cx2, .slice Ax3 x.aD.length cx3, .slice Ax4 x.Out.length cx4] ∧ Cat W85.drew (Addr.add ade89 (i2 * 7)) cse89 := ⟨H90.blk 2 rfl, H90.blk 5 rfl, (Cat.upd hce89 H90.1)⟩
      refine aF (i := 0) rfl kR kR kR kR kR (fun _ _ _ h => h) rfl rfl hS91 (fun W' hs' => bB iK rfl) ?_
      refine aF (i := 1) rfl kR kR kR kR kR (fun _ _ _ h => h) rfl rfl hS91 (fun W' hs' => bG (k := 3) (v := .slice A_2 i2 c_2) Tryz.isAgg65 rfl hs'.1 rfl) ?_
      refine aF (i := 2) rfl kR kR kR kR kR (fun _ _ _ h => h) rfl rfl hS91 (fun W' hs' => bB iK rfl) ?_
      refine aF (i := 3) rfl kR kR kR kR kR (fun _ _ _ h => h) rfl rfl hS91 (fun W' hs' => bG (k := 3) (v := .slice Ax3 x.aD.length cx3) Tryz.isAgg65 rfl hs'.2.1 rfl) ?_
      refine aF (i := 4) rfl kR kR kR kR kR (fun _ _ _ h => h) rfl rfl hS91 (fun W' hs' => aK rfl) ?_
      refine aF (i := 5) rfl kR kR kR kR kR (fun _ _ _ h => h) rfl rfl hS91 (fun W' hs' => fD (k := i2) Tryz.runUnderlying65 Tryz.sizeOf178 rfl rfl hAe89 hlt2) ?_
      refine aF (i := 6) rfl kR kR kR kR kR (fun _ _ _ h => h) rfl rfl hS91 (fun W' hs' => jF Tryz.isAgg178 Tryz.sizeOf178 rfl hs'.2.2 hle89) ?_
      refine aL (i := 7) kR ?_
      refine aV rfl Tryz.call159 (vs := #[.agg (List.toArray cse89)]) rfl rfl rfl (l10Copy_s x.aD[i2] _ _ (fV H90.1 hKe89) hsi2) ?_
      rintro e95 W94 ⟨cs_9_7, rfl, hM92, hu93⟩; refine ⟨_, rfl, ?_⟩
      have H98 := H90.new (q := hM aO (x.aD[i2]) cs_9_7) hu93 hM92; clear H90
      have hS99 := And.intro (H98.blk 3 rfl) (And.intro (H98.blk 6 rfl) ((Cat.upd hce89 H98.1))); refine ⟨fun _ => hS99, ?_⟩
      refine aL (i := 8) kR ?_
      refine kK rfl Tryz.runUnderlying65 Tryz.sizeOf178 kD Tryz.zeroValue178 rfl (lZ (H98.kn 0 rfl)) rfl rfl H98 ?_
      intro g_9_8 W100 hu101 Ha102; clear H98; clear hu101
      have hS104 := And.intro (Ha102.blk 4 rfl) (And.intro (Ha102.blk 7 rfl) ((Cat.upd hce89 Ha102.1))); refine ⟨fun _ => hS104, ?_⟩
      refine aL (i := 9) kR ?_
      have H107 : St w No [hR aO 178 (.slice A_2 i2 c_2) (x.aD.take i2), hB g_9_8 178 (List.toArray cs_9_7), hM aO (x.aD[i2]) cs_9_7, hR aJ 171 (.slice A_1 x.aA.length c_1) x.aA, hB g_1_6 68 #[.int .i64 (x.Id), .slice A_1 x.aA.length c_1, .slice B_1_4 x.Loop.length c_1_4, .slice A_2 i2 c_2, .slice none 0 0], hR aX 235 (.slice B_1_4 x.Loop.length c_1_4) x.Loop, hB g_0_1 68 #[.int .i64 (0), .slice none 0 0, .slice none 0 0, .slice none 0 0, .slice none 0 0], hB g_0_0 68 #[.int .i64 (x.Id), .slice Ax1 x.aA.length cx1, .slice Ax2 x.Loop.length cx2, .slice Ax3 x.aD.length cx3, .slice Ax4 x.Out.length cx4]] W100 := Ha102.pick [2, 0, 1, 3, 4, 5, 6, 7] kD rfl; clear Ha102
      refine lX (xs := (x.aD.take i2)) (p := x.aD[i2]) (n' := (i2 + 1)) (ys := (x.aD.take (i2 + 1))) rfl Tryz.underlying65 ki_Link_info rfl kD kD rfl rfl (by rw [List.length_take, Nat.min_eq_left kO]; omega) (by rw [List.length_take, Nat.min_eq_left kO]) (List.take_succ_eq_append_getElem hlt2).symm rfl rfl H107 ?_
      intro B_9_9 c_9_9 W105 Ha106; clear H107
      have hS109 := And.intro (Ha106.blk 2 rfl) (And.intro (Ha106.blk 5 rfl) ((Cat.upd hce89 Ha106.1))); refine ⟨fun _ => hS109, ?_⟩
      refine aF (i := 10) rfl kR kR kR kR kR (fun _ _ _ h => h) rfl rfl hS109 (fun W' hs' => bB iK rfl) ?_
      refine aL (i := 11) kR ?_
      have H113 : St w No [hB g_1_6 68 #[.int .i64 (x.Id), .slice A_1 x.aA.length c_1, .slice B_1_4 x.Loop.length c_1_4, .slice A_2 i2 c_2, .slice none 0 0], hR aO 178 (.slice B_9_9 (i2 + 1) c_9_9) (x.aD.take (i2 + 1)), hR aJ 171 (.slice A_1 x.aA.length c_1) x.aA, hR aX 235 (.slice B_1_4 x.Loop.length c_1_4) x.Loop, hB g_0_1 68 #[.int .i64 (0), .slice none 0 0, .slice none 0 0, .slice none 0 0, .slice none 0 0], hB g_0_0 68 #[.int .i64 (x.Id), .slice Ax1 x.aA.length cx1, .slice Ax2 x.Loop.length cx2, .slice Ax3 x.aD.length cx3, .slice Ax4 x.Out.length cx4]] W105 := Ha106.pick [2, 0, 1, 3, 4, 5] kD rfl; clear Ha106
      refine mE rfl Tryz.sizeOf65 rfl rfl rfl (Nat.le_of_ble_eq_true rfl) (by simp [Value.cells, Value.oneCell']) H113 ?_
      intro W110 hu111 Ha112; clear H113; clear hu111
      refine ⟨fun h => absS kR h, ?_⟩
      refine bD kR ?_ _
      refine inB_n ?_
      refine aM ?_
      refine aS [0, 1, 2] rfl ?_
      refine aB ?_
      refine aC rfl (aK rfl) rfl rfl ?_
      refine aB ?_
      refine aC rfl (lT (k := i2) rfl rfl kO) rfl rfl ?_
      refine aB ?_
      refine aC rfl (aW rfl) rfl rfl ?_
      refine aN ?_
      refine aM ?_
      exact (aZ [(1, .pointer (some ⟨g_0_0, 0, none⟩)), (2, .pointer (some ⟨g_0_1, 0, none⟩)), (3, .pointer (some ⟨g_1_6, 0, none⟩)), (5, .int .i64 (((i2 + 1 : Nat) : Int)))] rfl).elim fun x' hx => ⟨r84 - 1, kO, i2 + 1, B_9_9, c_9_9, x', hx, kO, Ha112.pick [1, 2, 0, 3, 4, 5] kD rfl⟩
     ·obtain rfl : i2 = x.aD.length := by omega
      rw [List.take_length] at H87
      have H115 : St w No [hR aO 178 (.slice A_2 x.aD.length c_2) x.aD, hR aJ 171 (.slice A_1 x.aA.length c_1) x.aA, hB g_1_6 68 #[.int .i64 (x.Id), .slice A_1 x.aA.length c_1, .slice B_1_4 x.Loop.length c_1_4, .slice A_2 x.aD.length c_2, .slice none 0 0], hR aX 235 (.slice B_1_4 x.Loop.length c_1_4) x.Loop, hB g_0_1 68 #[.int .i64 (0), .slice none 0 0, .slice none 0 0, .slice none 0 0, .slice none 0 0], hB g_0_0 68 #[.int .i64 (x.Id), .slice Ax1 x.aA.length cx1, .slice Ax2 x.Loop.length cx2, .slice Ax3 x.aD.length cx3, .slice Ax4 x.Out.length cx4]] W85 := H87; clear H87
      refine wp_exit ?_
      refine iF ?_
      refine iF ?_
      refine inB_x ?_
      refine aM ?_
      refine wp_seq ?_
      refine wp_seq ?_
      refine aS [0] rfl ?_
      refine aB ?_
      refine aC rfl (aW rfl) rfl rfl ?_
      refine aN ?_
      refine aM ?_
      refine wp_block ?_
      have H116 : St w No [hR aP 147 (.slice none 0 0) ([]), hR aO 178 (.slice A_2 x.aD.length c_2) x.aD, hR aJ 171 (.slice A_1 x.aA.length c_1) x.aA, hB g_1_6 68 #[.int .i64 (x.Id), .slice A_1 x.aA.length c_1, .slice B_1_4 x.Loop.length c_1_4, .slice A_2 x.aD.length c_2, .slice none 0 0], hR aX 235 (.slice B_1_4 x.Loop.length c_1_4) x.Loop, hB g_0_1 68 #[.int .i64 (0), .slice none 0 0, .slice none 0 0, .slice none 0 0, .slice none 0 0], hB g_0_0 68 #[.int .i64 (x.Id), .slice Ax1 x.aA.length cx1, .slice Ax2 x.Loop.length cx2, .slice Ax3 x.aD.length cx3, .slice Ax4 x.Out.length cx4]] W85 := H115.add0 (q := hR aP 147 (.slice none 0 0) []) l9; clear H115
      refine wp_loop_ghost (fun r a' W' => ∃ (i3 : Nat) (A_3 : Option Addr) (c_3 : Nat) (x' : Nat → Value), a' = bO 76 x' [(1, .pointer (some ⟨g_0_0, 0, none⟩)), (2, .pointer (some ⟨g_0_1, 0, none⟩)), (3, .pointer (some ⟨g_1_6, 0, none⟩)), (6, .int .i64 (((i3 : Nat) : Int)))] ∧ (i3 + r = x.Out.length) ∧ St w No [hR aP 147 (.slice A_3 i3 c_3) (x.Out.take i3), hR aO 178 (.slice A_2 x.aD.length c_2) x.aD, hR aJ 171 (.slice A_1 x.aA.length c_1) x.aA, hB g_1_6 68 #[.int .i64 (x.Id), .slice A_1 x.aA.length c_1, .slice B_1_4 x.Loop.length c_1_4, .slice A_2 x.aD.length c_2, .slice A_3 i3 c_3], hR aX 235 (.slice B_1_4 x.Loop.length c_1_4) x.Loop, hB g_0_1 68 #[.int .i64 (0), .slice none 0 0, .slice none 0 0, .slice none 0 0, .slice none 0 0], hB g_0_0 68 #[.int .i64 (x.Id), .slice Ax1 x.aA.length cx1, .slice Ax2 x.Loop.length cx2, .slice Ax3 x.aD.length cx3, .slice Ax4 x.Out.length cx4]] W') x.Out.length ?_ ?_
      ·exact (aZ [(1, .pointer (some ⟨g_0_0, 0, none⟩)), (2, .pointer (some ⟨g_0_1, 0, none⟩)), (3, .pointer (some ⟨g_1_6, 0, none⟩)), (6, .int .i64 (((0 : Nat) : Int)))] rfl).elim fun x' hx => ⟨0, none, 0, x', hx, kO, H116⟩
      ·rintro r117 _ W118 ⟨i3, A_3, c_3, x119, rfl, hi3, H120⟩; clear H116
       refine wp_seq ?_
       refine wp_seq ?_
       refine aS [0, 1, 2, 3, 4] rfl ?_
       refine aB ?_
       refine aC rfl (aK rfl) rfl rfl ?_
       refine aB ?_
       refine aC rfl (bB fa_68_4 rfl) rfl rfl ?_
       refine aB ?_
       refine aC rfl (bG (k := 4) (v := .slice Ax4 x.Out.length cx4) Tryz.isAgg66 rfl (H120.blk 6 rfl) rfl) rfl rfl ?_
       refine aB ?_
       refine aC rfl (jY Tryz.runUnderlying66 rfl) rfl rfl ?_
       refine aB ?_
       refine aC rfl (iW rfl rfl) rfl rfl ?_
       refine aN ?_
       refine aM ?_
       refine gU rfl (fun hc121 => ?_) (fun hc121 => ?_)
       ·have hlt3 : i3 < x.Out.length := by omega
        obtain ⟨ade122, cse122, hAe122, hKe122, hce122⟩ := lS hCx4 i3 hlt3
        have hle122 := ki_Outgoing_len hKe122
        have hoe122 := ki_Outgoing_one hKe122
        have hsi3 : dH x.Out[i3] ≤ 4194304 := by have h1 := gT dH x.Out i3 hlt3; have h2 := s_Out; unfold bN at h2; omega
        obtain ⟨Aade122_6, cade122_6, rfl, hlade122_6, hCade122_6⟩ := lJ hKe122
        have hsw : fU x.Out[i3].Message ≤ 4194304 := by have h1 := hsi3; unfold dH at h1; omega
        refine wp_skip ?_
        refine aM ?_
        refine wp_seq ?_
        refine wp_block ?_
        refine eH (fun W' => Blk W' g_1_6 68 #[.int .i64 (x.Id), .slice A_1 x.aA.length c_1, .slice B_1_4 x.Loop.length c_1_4, .slice A_2 x.aD.length c_2, .slice A_3 i3 c_3] ∧ Blk W' g_0_0 68 #[.int .i64 (x.Id), .slice Ax1 x.aA.length cx1, .slice Ax2 x.Loop.length cx2, .slice Ax3 x.aD.length cx3, .slice Ax4 x.Out.length cx4] ∧ Cat W' (Addr.add ade122 (i3 * 13)) [.int .i64 (x.Out[i3].To), .int .i64 (x.Out[i3].Message.Kind), .int .i64 (x.Out[i3].Message.Pos), .int .i64 (x.Out[i3].Message.eU), .int .i64 (x.Out[i3].Message.Question), .string (x.Out[i3].Message.Name), .slice Aade122_6 (x.Out[i3].Message.dI.length) cade122_6, .int .i64 (x.Out[i3].Message.Value.Kind), .int .i64 (x.Out[i3].Message.Value.N), .int .i64 (x.Out[i3].Message.Count), .int .i64 (x.Out[i3].Message.Tag.Vat), .int .i64 (x.Out[i3].Message.Tag.Entity), .int .i64 (x.Out[i3].Message.Tag.Seq)]) 19 kR ?_
        have H123 := H120.drew; clear H120
        have hS124 : Blk W118.drew g_1_6 68 #[.int .i64 (x.Id), .slice A_1 x.aA.length c_1, .slice B_1_4 x.Loop.length c_1_4, .slice A_2 x.aD.length c_2, .slice A_3 i3 c_3] ∧ Blk W118.drew g_0_0 68 #[.int .i64 (x.Id), .slice Ax1 x.aA.length cx1, .slice Ax2 x.Loop.length cx2, .slice Ax3 x.aD.length cx3, .slice Ax4 x.Out.length cx4] ∧ Cat W118.drew (Addr.add ade122 (i3 * 13)) [.int .i64 (x.Out[i3].To), .int .i64 (x.Out[i3].Message.Kind), .int .i64 (x.Out[i3].Message.Pos), .int .i64 (x.Out[i3].Message.eU), .int .i64 (x.Out[i3].Message.Question), .string (x.Out[i3].Message.Name), .slice Aade122_6 (x.Out[i3].Message.dI.length) cade122_6, .int .i64 (x.Out[i3].Message.Value.Kind), .int .i64 (x.Out[i3].Message.Value.N), .int .i64 (x.Out[i3].Message.Count), .int .i64 (x.Out[i3].Message.Tag.Vat), .int .i64 (x.Out[i3].Message.Tag.Entity), .int .i64 (x.Out[i3].Message.Tag.Seq)] := ⟨H123.blk 3 rfl, H123.blk 6 rfl, (Cat.upd hce122 H123.1)⟩
        refine aF (i := 0) rfl kR kR kR kR kR (fun _ _ _ h => h) rfl rfl hS124 (fun W' hs' => bB fa_68_4 rfl) ?_
        refine aF (i := 1) rfl kR kR kR kR kR (fun _ _ _ h => h) rfl rfl hS124 (fun W' hs' => bG (k := 4) (v := .slice A_3 i3 c_3) Tryz.isAgg66 rfl hs'.1 rfl) ?_
        refine aF (i := 2) rfl kR kR kR kR kR (fun _ _ _ h => h) rfl rfl hS124 (fun W' hs' => bB fa_68_4 rfl) ?_
        refine aF (i := 3) rfl kR kR kR kR kR (fun _ _ _ h => h) rfl rfl hS124 (fun W' hs' => bG (k := 4) (v := .slice Ax4 x.Out.length cx4) Tryz.isAgg66 rfl hs'.2.1 rfl) ?_
        refine aF (i := 4) rfl kR kR kR kR kR (fun _ _ _ h => h) rfl rfl hS124 (fun W' hs' => aK rfl) ?_
        refine aF (i := 5) rfl kR kR kR kR kR (fun _ _ _ h => h) rfl rfl hS124 (fun W' hs' => fD (k := i3) Tryz.runUnderlying66 Tryz.sizeOf147 rfl rfl hAe122 hlt3) ?_
        refine aF (i := 6) rfl kR kR kR kR kR (fun _ _ _ h => h) rfl rfl hS124 (fun W' hs' => bB fa_147_0 rfl) ?_
        refine aF (i := 7) rfl kR kR kR kR kR (fun _ _ _ h => h) rfl rfl hS124 (fun W' hs' => gI (v := .int .i64 (x.Out[i3].To)) Tryz.isAgg3 rfl hs'.2.2 rfl) ?_
        refine aF (i := 8) rfl kR kR kR kR kR (fun _ _ _ h => h) rfl rfl hS124 (fun W' hs' => bB fa_68_4 rfl) ?_
        refine aF (i := 9) rfl kR kR kR kR kR (fun _ _ _ h => h) rfl rfl hS124 (fun W' hs' => bG (k := 4) (v := .slice Ax4 x.Out.length cx4) Tryz.isAgg66 rfl hs'.2.1 rfl) ?_
        refine aF (i := 10) rfl kR kR kR kR kR (fun _ _ _ h => h) rfl rfl hS124 (fun W' hs' => aK rfl) ?_
        refine aF (i := 11) rfl kR kR kR kR kR (fun _ _ _ h => h) rfl rfl hS124 (fun W' hs' => fD (k := i3) Tryz.runUnderlying66 Tryz.sizeOf147 rfl rfl hAe122 hlt3) ?_
        refine aF (i := 12) rfl kR kR kR kR kR (fun _ _ _ h => h) rfl rfl hS124 (fun W' hs' => bB fa_147_1 rfl) ?_
        refine aF (i := 13) rfl kR kR kR kR kR (fun _ _ _ h => h) rfl rfl hS124 (fun W' hs' => rn_loadES (sub := [.int .i64 (x.Out[i3].Message.Kind), .int .i64 (x.Out[i3].Message.Pos), .int .i64 (x.Out[i3].Message.eU), .int .i64 (x.Out[i3].Message.Question), .string (x.Out[i3].Message.Name), .slice Aade122_6 (x.Out[i3].Message.dI.length) cade122_6, .int .i64 (x.Out[i3].Message.Value.Kind), .int .i64 (x.Out[i3].Message.Value.N), .int .i64 (x.Out[i3].Message.Count), .int .i64 (x.Out[i3].Message.Tag.Vat), .int .i64 (x.Out[i3].Message.Tag.Entity), .int .i64 (x.Out[i3].Message.Tag.Seq)]) Tryz.isAgg74 Tryz.sizeOf74 rfl hs'.2.2 rfl rfl) ?_
        refine aL (i := 14) kR ?_
        refine aV rfl Tryz.call92 (vs := #[.agg #[.int .i64 (x.Out[i3].Message.Kind), .int .i64 (x.Out[i3].Message.Pos), .int .i64 (x.Out[i3].Message.eU), .int .i64 (x.Out[i3].Message.Question), .string (x.Out[i3].Message.Name), .slice Aade122_6 (x.Out[i3].Message.dI.length) cade122_6, .int .i64 (x.Out[i3].Message.Value.Kind), .int .i64 (x.Out[i3].Message.Value.N), .int .i64 (x.Out[i3].Message.Count), .int .i64 (x.Out[i3].Message.Tag.Vat), .int .i64 (x.Out[i3].Message.Tag.Entity), .int .i64 (x.Out[i3].Message.Tag.Seq)]]) rfl rfl rfl (l11Copy_s x.Out[i3].Message _ _ (kZ _ (x.Out[i3].Message) hlade122_6 (bK H123.1 hCade122_6)) hsw) ?_
        rintro e130 W129 ⟨cs125, rfl, hM126, hu127⟩; refine ⟨_, rfl, ?_⟩
        obtain ⟨B_13_14_5, c_13_14_5, rfl, hst128⟩ := ki_Message_open hM126
        have H131 := H123.news hu127 hst128; clear H123
        have hS132 := And.intro (H131.blk 4 rfl) (And.intro (H131.blk 7 rfl) ((Cat.upd hce122 H131.1))); refine ⟨fun _ => hS132, ?_⟩
        refine aF (i := 15) rfl kR kR kR kR kR (fun _ _ _ h => h) rfl rfl hS132 (fun W' hs' => fJ (vs := [(0, .int .i64 (x.Out[i3].To)), (1, .agg #[.int .i64 (x.Out[i3].Message.Kind), .int .i64 (x.Out[i3].Message.Pos), .int .i64 (x.Out[i3].Message.eU), .int .i64 (x.Out[i3].Message.Question), .string (x.Out[i3].Message.Name), .slice B_13_14_5 (x.Out[i3].Message.dI.length) c_13_14_5, .int .i64 (x.Out[i3].Message.Value.Kind), .int .i64 (x.Out[i3].Message.Value.N), .int .i64 (x.Out[i3].Message.Count), .int .i64 (x.Out[i3].Message.Tag.Vat), .int .i64 (x.Out[i3].Message.Tag.Entity), .int .i64 (x.Out[i3].Message.Tag.Seq)])]) (cells := #[.int .i64 (x.Out[i3].To), .int .i64 (x.Out[i3].Message.Kind), .int .i64 (x.Out[i3].Message.Pos), .int .i64 (x.Out[i3].Message.eU), .int .i64 (x.Out[i3].Message.Question), .string (x.Out[i3].Message.Name), .slice B_13_14_5 (x.Out[i3].Message.dI.length) c_13_14_5, .int .i64 (x.Out[i3].Message.Value.Kind), .int .i64 (x.Out[i3].Message.Value.N), .int .i64 (x.Out[i3].Message.Count), .int .i64 (x.Out[i3].Message.Tag.Vat), .int .i64 (x.Out[i3].Message.Tag.Entity), .int .i64 (x.Out[i3].Message.Tag.Seq)]) rfl kR) ?_
        refine aL (i := 16) kR ?_
        refine kK rfl Tryz.runUnderlying66 Tryz.sizeOf147 kD Tryz.zeroValue147 rfl rfl rfl rfl H131 ?_
        intro g_13_16 W133 hu134 Ha135; clear H131; clear hu134
        have hS137 := And.intro (Ha135.blk 5 rfl) (And.intro (Ha135.blk 8 rfl) ((Cat.upd hce122 Ha135.1))); refine ⟨fun _ => hS137, ?_⟩
        refine aL (i := 17) kR ?_
        have H140 : St w No [hR bW 72 (.slice B_13_14_5 (x.Out[i3].Message.dI.length) c_13_14_5) (x.Out[i3].Message.dI), hB g_13_16 147 #[.int .i64 (x.Out[i3].To), .int .i64 (x.Out[i3].Message.Kind), .int .i64 (x.Out[i3].Message.Pos), .int .i64 (x.Out[i3].Message.eU), .int .i64 (x.Out[i3].Message.Question), .string (x.Out[i3].Message.Name), .slice B_13_14_5 (x.Out[i3].Message.dI.length) c_13_14_5, .int .i64 (x.Out[i3].Message.Value.Kind), .int .i64 (x.Out[i3].Message.Value.N), .int .i64 (x.Out[i3].Message.Count), .int .i64 (x.Out[i3].Message.Tag.Vat), .int .i64 (x.Out[i3].Message.Tag.Entity), .int .i64 (x.Out[i3].Message.Tag.Seq)], hR aP 147 (.slice A_3 i3 c_3) (x.Out.take i3), hR aO 178 (.slice A_2 x.aD.length c_2) x.aD, hR aJ 171 (.slice A_1 x.aA.length c_1) x.aA, hB g_1_6 68 #[.int .i64 (x.Id), .slice A_1 x.aA.length c_1, .slice B_1_4 x.Loop.length c_1_4, .slice A_2 x.aD.length c_2, .slice A_3 i3 c_3], hR aX 235 (.slice B_1_4 x.Loop.length c_1_4) x.Loop, hB g_0_1 68 #[.int .i64 (0), .slice none 0 0, .slice none 0 0, .slice none 0 0, .slice none 0 0], hB g_0_0 68 #[.int .i64 (x.Id), .slice Ax1 x.aA.length cx1, .slice Ax2 x.Loop.length cx2, .slice Ax3 x.aD.length cx3, .slice Ax4 x.Out.length cx4]] W133 := Ha135.pick [1, 0, 2, 3, 4, 5, 6, 7, 8] kD rfl; clear Ha135
        have H141 : St w No [hM aP (x.Out[i3]) [.int .i64 (x.Out[i3].To), .int .i64 (x.Out[i3].Message.Kind), .int .i64 (x.Out[i3].Message.Pos), .int .i64 (x.Out[i3].Message.eU), .int .i64 (x.Out[i3].Message.Question), .string (x.Out[i3].Message.Name), .slice B_13_14_5 (x.Out[i3].Message.dI.length) c_13_14_5, .int .i64 (x.Out[i3].Message.Value.Kind), .int .i64 (x.Out[i3].Message.Value.N), .int .i64 (x.Out[i3].Message.Count), .int .i64 (x.Out[i3].Message.Tag.Vat), .int .i64 (x.Out[i3].Message.Tag.Entity), .int .i64 (x.Out[i3].Message.Tag.Seq)], hB g_13_16 147 #[.int .i64 (x.Out[i3].To), .int .i64 (x.Out[i3].Message.Kind), .int .i64 (x.Out[i3].Message.Pos), .int .i64 (x.Out[i3].Message.eU), .int .i64 (x.Out[i3].Message.Question), .string (x.Out[i3].Message.Name), .slice B_13_14_5 (x.Out[i3].Message.dI.length) c_13_14_5, .int .i64 (x.Out[i3].Message.Value.Kind), .int .i64 (x.Out[i3].Message.Value.N), .int .i64 (x.Out[i3].Message.Count), .int .i64 (x.Out[i3].Message.Tag.Vat), .int .i64 (x.Out[i3].Message.Tag.Entity), .int .i64 (x.Out[i3].Message.Tag.Seq)], hR aP 147 (.slice A_3 i3 c_3) (x.Out.take i3), hR aO 178 (.slice A_2 x.aD.length c_2) x.aD, hR aJ 171 (.slice A_1 x.aA.length c_1) x.aA, hB g_1_6 68 #[.int .i64 (x.Id), .slice A_1 x.aA.length c_1, .slice B_1_4 x.Loop.length c_1_4, .slice A_2 x.aD.length c_2, .slice A_3 i3 c_3], hR aX 235 (.slice B_1_4 x.Loop.length c_1_4) x.Loop, hB g_0_1 68 #[.int .i64 (0), .slice none 0 0, .slice none 0 0, .slice none 0 0, .slice none 0 0], hB g_0_0 68 #[.int .i64 (x.Id), .slice Ax1 x.aA.length cx1, .slice Ax2 x.Loop.length cx2, .slice Ax3 x.aD.length cx3, .slice Ax4 x.Out.length cx4]] W133 := H140.swap (l0 := [hR bW 72 (.slice B_13_14_5 (x.Out[i3].Message.dI.length) c_13_14_5) (x.Out[i3].Message.dI)]) (l' := [hM aP (x.Out[i3]) [.int .i64 (x.Out[i3].To), .int .i64 (x.Out[i3].Message.Kind), .int .i64 (x.Out[i3].Message.Pos), .int .i64 (x.Out[i3].Message.eU), .int .i64 (x.Out[i3].Message.Question), .string (x.Out[i3].Message.Name), .slice B_13_14_5 (x.Out[i3].Message.dI.length) c_13_14_5, .int .i64 (x.Out[i3].Message.Value.Kind), .int .i64 (x.Out[i3].Message.Value.N), .int .i64 (x.Out[i3].Message.Count), .int .i64 (x.Out[i3].Message.Tag.Vat), .int .i64 (x.Out[i3].Message.Tag.Entity), .int .i64 (x.Out[i3].Message.Tag.Seq)]]) (fun _ h => Star.one (nX (x := x.Out[i3]) h)); clear H140
        have H142 : St w No [hR aP 147 (.slice A_3 i3 c_3) (x.Out.take i3), hB g_13_16 147 #[.int .i64 (x.Out[i3].To), .int .i64 (x.Out[i3].Message.Kind), .int .i64 (x.Out[i3].Message.Pos), .int .i64 (x.Out[i3].Message.eU), .int .i64 (x.Out[i3].Message.Question), .string (x.Out[i3].Message.Name), .slice B_13_14_5 (x.Out[i3].Message.dI.length) c_13_14_5, .int .i64 (x.Out[i3].Message.Value.Kind), .int .i64 (x.Out[i3].Message.Value.N), .int .i64 (x.Out[i3].Message.Count), .int .i64 (x.Out[i3].Message.Tag.Vat), .int .i64 (x.Out[i3].Message.Tag.Entity), .int .i64 (x.Out[i3].Message.Tag.Seq)], hM aP (x.Out[i3]) [.int .i64 (x.Out[i3].To), .int .i64 (x.Out[i3].Message.Kind), .int .i64 (x.Out[i3].Message.Pos), .int .i64 (x.Out[i3].Message.eU), .int .i64 (x.Out[i3].Message.Question), .string (x.Out[i3].Message.Name), .slice B_13_14_5 (x.Out[i3].Message.dI.length) c_13_14_5, .int .i64 (x.Out[i3].Message.Value.Kind), .int .i64 (x.Out[i3].Message.Value.N), .int .i64 (x.Out[i3].Message.Count), .int .i64 (x.Out[i3].Message.Tag.Vat), .int .i64 (x.Out[i3].Message.Tag.Entity), .int .i64 (x.Out[i3].Message.Tag.Seq)], hR aO 178 (.slice A_2 x.aD.length c_2) x.aD, hR aJ 171 (.slice A_1 x.aA.length c_1) x.aA, hB g_1_6 68 #[.int .i64 (x.Id), .slice A_1 x.aA.length c_1, .slice B_1_4 x.Loop.length c_1_4, .slice A_2 x.aD.length c_2, .slice A_3 i3 c_3], hR aX 235 (.slice B_1_4 x.Loop.length c_1_4) x.Loop, hB g_0_1 68 #[.int .i64 (0), .slice none 0 0, .slice none 0 0, .slice none 0 0, .slice none 0 0], hB g_0_0 68 #[.int .i64 (x.Id), .slice Ax1 x.aA.length cx1, .slice Ax2 x.Loop.length cx2, .slice Ax3 x.aD.length cx3, .slice Ax4 x.Out.length cx4]] W133 := H141.pick [2, 1, 0, 3, 4, 5, 6, 7, 8] kD rfl; clear H141
        refine lX (xs := (x.Out.take i3)) (p := x.Out[i3]) (n' := (i3 + 1)) (ys := (x.Out.take (i3 + 1))) rfl Tryz.underlying66 mR rfl kD kD rfl rfl (by rw [List.length_take, Nat.min_eq_left kO]; omega) (by rw [List.length_take, Nat.min_eq_left kO]) (List.take_succ_eq_append_getElem hlt3).symm rfl rfl H142 ?_
        intro B_13_17 c_13_17 W138 Ha139; clear H142
        have hS144 := And.intro (Ha139.blk 3 rfl) (And.intro (Ha139.blk 6 rfl) ((Cat.upd hce122 Ha139.1))); refine ⟨fun _ => hS144, ?_⟩
        refine aF (i := 18) rfl kR kR kR kR kR (fun _ _ _ h => h) rfl rfl hS144 (fun W' hs' => bB fa_68_4 rfl) ?_
        refine aL (i := 19) kR ?_
        have H148 : St w No [hB g_1_6 68 #[.int .i64 (x.Id), .slice A_1 x.aA.length c_1, .slice B_1_4 x.Loop.length c_1_4, .slice A_2 x.aD.length c_2, .slice A_3 i3 c_3], hR aP 147 (.slice B_13_17 (i3 + 1) c_13_17) (x.Out.take (i3 + 1)), hR aO 178 (.slice A_2 x.aD.length c_2) x.aD, hR aJ 171 (.slice A_1 x.aA.length c_1) x.aA, hR aX 235 (.slice B_1_4 x.Loop.length c_1_4) x.Loop, hB g_0_1 68 #[.int .i64 (0), .slice none 0 0, .slice none 0 0, .slice none 0 0, .slice none 0 0], hB g_0_0 68 #[.int .i64 (x.Id), .slice Ax1 x.aA.length cx1, .slice Ax2 x.Loop.length cx2, .slice Ax3 x.aD.length cx3, .slice Ax4 x.Out.length cx4]] W138 := Ha139.pick [3, 0, 1, 2, 4, 5, 6] kD rfl; clear Ha139
        refine mE rfl Tryz.sizeOf66 rfl rfl rfl (Nat.le_of_ble_eq_true rfl) (by simp [Value.cells, Value.oneCell']) H148 ?_
        intro W145 hu146 Ha147; clear H148; clear hu146
        refine ⟨fun h => absS kR h, ?_⟩
        refine bD kR ?_ _
        refine inB_n ?_
        refine aM ?_
        refine aS [0, 1, 2] rfl ?_
        refine aB ?_
        refine aC rfl (aK rfl) rfl rfl ?_
        refine aB ?_
        refine aC rfl (lT (k := i3) rfl rfl kO) rfl rfl ?_
        refine aB ?_
        refine aC rfl (aW rfl) rfl rfl ?_
        refine aN ?_
        refine aM ?_
        exact (aZ [(1, .pointer (some ⟨g_0_0, 0, none⟩)), (2, .pointer (some ⟨g_0_1, 0, none⟩)), (3, .pointer (some ⟨g_1_6, 0, none⟩)), (6, .int .i64 (((i3 + 1 : Nat) : Int)))] rfl).elim fun x' hx => ⟨r117 - 1, kO, i3 + 1, B_13_17, c_13_17, x', hx, kO, Ha147.pick [1, 2, 3, 0, 4, 5, 6] kD rfl⟩
       ·obtain rfl : i3 = x.Out.length := by omega
        rw [List.take_length] at H120
        have H150 : St w No [hR aP 147 (.slice A_3 x.Out.length c_3) x.Out, hR aO 178 (.slice A_2 x.aD.length c_2) x.aD, hR aJ 171 (.slice A_1 x.aA.length c_1) x.aA, hB g_1_6 68 #[.int .i64 (x.Id), .slice A_1 x.aA.length c_1, .slice B_1_4 x.Loop.length c_1_4, .slice A_2 x.aD.length c_2, .slice A_3 x.Out.length c_3], hR aX 235 (.slice B_1_4 x.Loop.length c_1_4) x.Loop, hB g_0_1 68 #[.int .i64 (0), .slice none 0 0, .slice none 0 0, .slice none 0 0, .slice none 0 0], hB g_0_0 68 #[.int .i64 (x.Id), .slice Ax1 x.aA.length cx1, .slice Ax2 x.Loop.length cx2, .slice Ax3 x.aD.length cx3, .slice Ax4 x.Out.length cx4]] W118 := H120; clear H120
        refine wp_exit ?_
        refine iF ?_
        refine iF ?_
        refine inB_x ?_
        refine aM ?_
        refine wp_seq ?_
        refine aS [0, 1] rfl ?_
        refine aB ?_
        refine aC rfl (bI Tryz.isAgg68 Tryz.sizeOf68 rfl (H150.blk 3 rfl) rfl) rfl rfl ?_
        refine aB ?_
        have H154 : St w No [hB g_0_1 68 #[.int .i64 (0), .slice none 0 0, .slice none 0 0, .slice none 0 0, .slice none 0 0], hR aP 147 (.slice A_3 x.Out.length c_3) x.Out, hR aO 178 (.slice A_2 x.aD.length c_2) x.aD, hR aJ 171 (.slice A_1 x.aA.length c_1) x.aA, hB g_1_6 68 #[.int .i64 (x.Id), .slice A_1 x.aA.length c_1, .slice B_1_4 x.Loop.length c_1_4, .slice A_2 x.aD.length c_2, .slice A_3 x.Out.length c_3], hR aX 235 (.slice B_1_4 x.Loop.length c_1_4) x.Loop, hB g_0_0 68 #[.int .i64 (x.Id), .slice Ax1 x.aA.length cx1, .slice Ax2 x.Loop.length cx2, .slice Ax3 x.aD.length cx3, .slice Ax4 x.Out.length cx4]] W118 := H150.pick [5, 0, 1, 2, 3, 4, 6] kD rfl; clear H150
        refine aR rfl Tryz.sizeOf68 rfl rfl rfl rfl kS H154 ?_
        intro W151 hu152 Ha153; clear H154; clear hu152
        refine aN ?_
        refine aM ?_
        refine wp_ret ?_
        refine eP (.inl rfl) Tryz.results90 Tryz.isAgg68 Tryz.sizeOf68 rfl (Ha153.blk 0 rfl) rfl ?_
        exact ⟨_, rfl, lF (Ha153.pick [3, 5, 2, 1] kD rfl).star, Ha153.1⟩
theorem copied_Vat (x : GVat) (cs : List Value) (w : World) (h : aG.K w x cs) (hs : bR x ≤ 4194304) : Calls Tryz.prog 99 #[.agg cs.toArray] w (jJ aG x w) := by
 obtain ⟨Ax1, cx1, Ax2, cx2, Ax3, cx3, Ax4, cx4, rfl, hlx1, hCx1, hlx2, hCx2, hlx3, hCx3, hlx4, hCx4⟩ := kJ h
 have s_Entities : bN dD x.aA ≤ 4194304 := by unfold bR at hs; omega
 have n_Entities : x.aA.length ≤ 4194304 := by unfold bN at s_Entities; omega
 have s_Loop : bN dX x.Loop ≤ 4194304 := by unfold bR at hs; omega
 have n_Loop : x.Loop.length ≤ 4194304 := by unfold bN at s_Loop; omega
 have s_Links : bN bQ x.aD ≤ 4194304 := by unfold bR at hs; omega
 have n_Links : x.aD.length ≤ 4194304 := by unfold bN at s_Links; omega
 have s_Out : bN dH x.Out ≤ 4194304 := by unfold bR at hs; omega
 have n_Out : x.Out.length ≤ 4194304 := by unfold bN at s_Out; omega
 refine enter 66 [(0, .agg #[.int .i64 (x.Id), .slice Ax1 x.aA.length cx1, .slice Ax2 x.Loop.length cx2, .slice Ax3 x.aD.length cx3, .slice Ax4 x.Out.length cx4])] Tryz.func99 rfl kR ?_
 intro xj
 have H1 : St w No [] w := St.enter
 refine wp_seq ?_
 refine aS [0, 1] rfl ?_
 refine aB ?_
 refine gG rfl rfl rfl rfl H1 ?_
 intro g_0_0 W2 hu3 Ha4; clear H1; clear hu3
 refine aB ?_
 refine bA rfl Tryz.zeroValue68 rfl rfl Ha4 ?_
 intro g_0_1 W6 hu7 Ha8; clear Ha4; clear hu7
 refine aN ?_
 refine aM ?_
 refine wp_seq ?_
 refine lC (fun a' W' => ∃ (B_1_4 : Option Addr) (c_1_4 : Nat) (g_1_6 : Nat) (x' : Nat → Value), a' = bO 66 x' [(1, .pointer (some ⟨g_0_0, 0, none⟩)), (2, .pointer (some ⟨g_0_1, 0, none⟩)), (3, .pointer (some ⟨g_1_6, 0, none⟩))] ∧ St w No [hB g_1_6 68 #[.int .i64 (x.Id), .slice none 0 0, .slice B_1_4 x.Loop.length c_1_4, .slice none 0 0, .slice none 0 0], hR aX 235 (.slice B_1_4 x.Loop.length c_1_4) x.Loop, hB g_0_1 68 #[.int .i64 (0), .slice none 0 0, .slice none 0 0, .slice none 0 0, .slice none 0 0], hB g_0_0 68 #[.int .i64 (x.Id), .slice Ax1 x.aA.length cx1, .slice Ax2 x.Loop.length cx2, .slice Ax3 x.aD.length cx3, .slice Ax4 x.Out.length cx4]] W') ?_ ?_
 ·refine eH (fun W' => Blk W' g_0_0 68 #[.int .i64 (x.Id), .slice Ax1 x.aA.length cx1, .slice Ax2 x.Loop.length cx2, .slice Ax3 x.aD.length cx3, .slice Ax4 x.Out.length cx4]) 8 kR ?_
  have H10 := Ha8.drew; clear Ha8
  have hS11 : Blk W6.drew g_0_0 68 #[.int .i64 (x.Id), .slice Ax1 x.aA.length cx1, .slice Ax2 x.Loop.length cx2, .slice Ax3 x.aD.length cx3, .slice Ax4 x.Out.length cx4] := H10.blk 1 rfl
  refine aF (i := 0) rfl kR kR kR kR kR (fun _ _ _ h => h) rfl rfl hS11 (fun W' hs' => bB fa_68_0 rfl) ?_
  refine aF (i := 1) rfl kR kR kR kR kR (fun _ _ _ h => h) rfl rfl hS11 (fun W' hs' => bG (k := 0) (v := .int .i64 (x.Id)) Tryz.isAgg3 rfl hs' rfl) ?_
  refine aF (i := 2) rfl kR kR kR kR kR (fun _ _ _ h => h) rfl rfl hS11 (fun W' hs' => bB fa_68_2 rfl) ?_
  refine aF (i := 3) rfl kR kR kR kR kR (fun _ _ _ h => h) rfl rfl hS11 (fun W' hs' => bG (k := 2) (v := .slice Ax2 x.Loop.length cx2) Tryz.isAgg64 rfl hs' rfl) ?_
  refine dY (i := 4) (i2 := 6) kR ?_ ?_
  ·refine aV rfl Tryz.call164 (vs := #[.slice Ax2 x.Loop.length cx2]) rfl rfl rfl (oQ x.Loop _ _ _ (bK H10.1 hCx2) s_Loop) ?_
   rintro e16 W15 ⟨v12, rfl, hR13, hu14⟩; refine ⟨_, rfl, ?_⟩
   obtain ⟨B_1_4, c_1_4, rfl⟩ := dA hR13
   have H17 := H10.new (q := hR aX 235 (.slice B_1_4 x.Loop.length c_1_4) x.Loop) hu14 hR13; clear H10
   have hS18 := H17.blk 2 rfl; refine ⟨fun _ => hS18, ?_⟩
   refine aF (i := 5) rfl kR kR kR kR kR (fun _ _ _ h => h) rfl rfl hS18 (fun W' hs' => fJ (vs := [(0, .int .i64 (x.Id)), (2, .slice B_1_4 x.Loop.length c_1_4)]) (cells := #[.int .i64 (x.Id), .slice none 0 0, .slice B_1_4 x.Loop.length c_1_4, .slice none 0 0, .slice none 0 0]) rfl kR) ?_
   refine aL (i := 6) kR ?_
   refine bA rfl Tryz.zeroValue68 rfl rfl H17 ?_
   intro g_1_6 W19 hu20 Ha21; clear H17; clear hu20
   have hS23 := Ha21.blk 3 rfl; refine ⟨fun _ => hS23, ?_⟩
   refine aL (i := 7) kR ?_
   refine aR rfl Tryz.sizeOf68 rfl rfl rfl rfl kS Ha21 ?_
   intro W24 hu25 Ha26; clear Ha21; clear hu25
   have hS28 := Ha26.blk 3 rfl; refine ⟨fun _ => hS28, ?_⟩
   refine bD kR ?_ _
   exact (aZ [(1, .pointer (some ⟨g_0_0, 0, none⟩)), (2, .pointer (some ⟨g_0_1, 0, none⟩)), (3, .pointer (some ⟨g_1_6, 0, none⟩))] rfl).elim fun x' hx => ⟨B_1_4, c_1_4, g_1_6, x', hx, Ha26⟩
  refine bA rfl Tryz.zeroValue68 rfl rfl H10 ?_
  intro g_1_6 W29 hu30 Ha31; clear H10; clear hu30
  have hS33 := Ha31.blk 2 rfl; refine ⟨fun _ => hS33, ?_⟩
  refine aL (i := 4) kR ?_
  refine aV rfl Tryz.call164 (vs := #[.slice Ax2 x.Loop.length cx2]) rfl rfl rfl (oQ x.Loop _ _ _ (bK Ha31.1 hCx2) s_Loop) ?_
  rintro e38 W37 ⟨v34, rfl, hR35, hu36⟩; refine ⟨_, rfl, ?_⟩
  obtain ⟨B_1_4, c_1_4, rfl⟩ := dA hR35
  have H39 := Ha31.new (q := hR aX 235 (.slice B_1_4 x.Loop.length c_1_4) x.Loop) hu36 hR35; clear Ha31
  have hS40 := H39.blk 3 rfl; refine ⟨fun _ => hS40, ?_⟩
  refine aF (i := 5) rfl kR kR kR kR kR (fun _ _ _ h => h) rfl rfl hS40 (fun W' hs' => fJ (vs := [(0, .int .i64 (x.Id)), (2, .slice B_1_4 x.Loop.length c_1_4)]) (cells := #[.int .i64 (x.Id), .slice none 0 0, .slice B_1_4 x.Loop.length c_1_4, .slice none 0 0, .slice none 0 0]) rfl kR) ?_
  refine aL (i := 7) kR ?_
  have H44 : St w No [hB g_1_6 68 #[.int .i64 (0), .slice none 0 0, .slice none 0 0, .slice none 0 0, .slice none 0 0], hR aX 235 (.slice B_1_4 x.Loop.length c_1_4) x.Loop, hB g_0_1 68 #[.int .i64 (0), .slice none 0 0, .slice none 0 0, .slice none 0 0, .slice none 0 0], hB g_0_0 68 #[.int .i64 (x.Id), .slice Ax1 x.aA.length cx1, .slice Ax2 x.Loop.length cx2, .slice Ax3 x.aD.length cx3, .slice Ax4 x.Out.length cx4]] W37 := H39.pick [1, 0, 2, 3] kD rfl; clear H39
  refine aR rfl Tryz.sizeOf68 rfl rfl rfl rfl kS H44 ?_
  intro W41 hu42 Ha43; clear H44; clear hu42
  have hS46 := Ha43.blk 3 rfl; refine ⟨fun _ => hS46, ?_⟩
  refine bD kR ?_ _
  exact (aZ [(1, .pointer (some ⟨g_0_0, 0, none⟩)), (2, .pointer (some ⟨g_0_1, 0, none⟩)), (3, .pointer (some ⟨g_1_6, 0, none⟩))] rfl).elim fun x' hx => ⟨B_1_4, c_1_4, g_1_6, x', hx, Ha43⟩
 ·rintro _ W48 ⟨B_1_4, c_1_4, g_1_6, x49, rfl, H47⟩
  refine aM ?_
  refine wp_seq ?_
  refine wp_seq ?_
  refine aS [0, 1, 2, 3] rfl ?_
  refine aB ?_
  refine aC rfl (bB iY rfl) rfl rfl ?_
  refine aB ?_
  refine aC rfl (bG (k := 1) (v := .slice Ax1 x.aA.length cx1) Tryz.isAgg63 rfl (H47.blk 3 rfl) rfl) rfl rfl ?_
  refine aB ?_
  refine aC rfl (jY Tryz.runUnderlying63 rfl) rfl rfl ?_
  refine aB ?_
  refine aC rfl (aK rfl) rfl rfl ?_
  refine aN ?_
  refine aM ?_
  refine wp_block ?_
  have H50 : St w No [hR aJ 171 (.slice none 0 0) ([]), hB g_1_6 68 #[.int .i64 (x.Id), .slice none 0 0, .slice B_1_4 x.Loop.length c_1_4, .slice none 0 0, .slice none 0 0], hR aX 235 (.slice B_1_4 x.Loop.length c_1_4) x.Loop, hB g_0_1 68 #[.int .i64 (0), .slice none 0 0, .slice none 0 0, .slice none 0 0, .slice none 0 0], hB g_0_0 68 #[.int .i64 (x.Id), .slice Ax1 x.aA.length cx1, .slice Ax2 x.Loop.length cx2, .slice Ax3 x.aD.length cx3, .slice Ax4 x.Out.length cx4]] W48 := H47.add0 (q := hR aJ 171 (.slice none 0 0) []) l9; clear H47
  refine wp_loop_ghost (fun r a' W' => ∃ (i1 : Nat) (A_1 : Option Addr) (c_1 : Nat) (x' : Nat → Value), a' = bO 66 x' [(1, .pointer (some ⟨g_0_0, 0, none⟩)), (2, .pointer (some ⟨g_0_1, 0, none⟩)), (3, .pointer (some ⟨g_1_6, 0, none⟩)), (17, .slice Ax1 x.aA.length cx1), (18, .int .i64 ((x.aA.length : Nat))), (19, .int .i64 (((i1 : Nat) : Int)))] ∧ (i1 + r = x.aA.length) ∧ St w No [hR aJ 171 (.slice A_1 i1 c_1) (x.aA.take i1), hB g_1_6 68 #[.int .i64 (x.Id), .slice A_1 i1 c_1, .slice B_1_4 x.Loop.length c_1_4, .slice none 0 0, .slice none 0 0], hR aX 235 (.slice B_1_4 x.Loop.length c_1_4) x.Loop, hB g_0_1 68 #[.int .i64 (0), .slice none 0 0, .slice none 0 0, .slice none 0 0, .slice none 0 0], hB g_0_0 68 #[.int .i64 (x.Id), .slice Ax1 x.aA.length cx1, .slice Ax2 x.Loop.length cx2, .slice Ax3 x.aD.length cx3, .slice Ax4 x.Out.length cx4]] W') x.aA.length ?_ ?_
  ·exact (aZ [(1, .pointer (some ⟨g_0_0, 0, none⟩)), (2, .pointer (some ⟨g_0_1, 0, none⟩)), (3, .pointer (some ⟨g_1_6, 0, none⟩)), (17, .slice Ax1 x.aA.length cx1), (18, .int .i64 ((x.aA.length : Nat))), (19, .int .i64 (((0 : Nat) : Int)))] rfl).elim fun x' hx => ⟨0, none, 0, x', hx, kO, H50⟩
  ·rintro r51 _ W52 ⟨i1, A_1, c_1, x53, rfl, hi1, H54⟩; clear H50
   refine wp_seq ?_
   refine aS [0] rfl ?_
   refine aB ?_
   refine aC rfl (iW rfl rfl) rfl rfl ?_
   refine aN ?_
   refine aM ?_
   refine wp_seq ?_
   refine gU rfl (fun hc55 => ?_) (fun hc55 => ?_)
   ·have hlt1 : i1 < x.aA.length := by omega
    obtain ⟨ade56, cse56, hAe56, hKe56, hce56⟩ := lS hCx1 i1 hlt1
    have hle56 := lK hKe56
    have hoe56 := oM hKe56
    have hsi1 : dD x.aA[i1] ≤ 4194304 := by have h1 := gT dD x.aA i1 hlt1; have h2 := s_Entities; unfold bN at h2; omega
    refine wp_skip ?_
    refine aM ?_
    refine wp_seq ?_
    refine wp_block ?_
    refine wp_seq ?_
    refine aS [0, 1, 2, 3] rfl ?_
    refine aB ?_
    refine aC rfl (fD (k := i1) Tryz.runUnderlying63 Tryz.sizeOf171 rfl rfl hAe56 hlt1) rfl rfl ?_
    refine aB ?_
    refine aC rfl (jF Tryz.isAgg171 Tryz.sizeOf171 rfl (Cat.upd hce56 H54.1) hle56) rfl rfl ?_
    refine aB ?_
    refine bA rfl Tryz.zeroValue171 rfl rfl H54 ?_
    intro g_4_2 W57 hu58 Ha59; clear H54; clear hu58
    refine aB ?_
    refine aR rfl Tryz.sizeOf171 rfl rfl hle56 rfl hoe56 Ha59 ?_
    intro W61 hu62 Ha63; clear Ha59; clear hu62
    refine aN ?_
    refine aM ?_
    refine eH (fun W' => Blk W' g_1_6 68 #[.int .i64 (x.Id), .slice A_1 i1 c_1, .slice B_1_4 x.Loop.length c_1_4, .slice none 0 0, .slice none 0 0] ∧ Blk W' g_4_2 171 (List.toArray cse56)) 7 kR ?_
    have H65 := Ha63.drew; clear Ha63
    have hS66 : Blk W61.drew g_1_6 68 #[.int .i64 (x.Id), .slice A_1 i1 c_1, .slice B_1_4 x.Loop.length c_1_4, .slice none 0 0, .slice none 0 0] ∧ Blk W61.drew g_4_2 171 (List.toArray cse56) := ⟨H65.blk 2 rfl, H65.blk 0 rfl⟩
    refine aF (i := 0) rfl kR kR kR kR kR (fun _ _ _ h => h) rfl rfl hS66 (fun W' hs' => bB iY rfl) ?_
    refine aF (i := 1) rfl kR kR kR kR kR (fun _ _ _ h => h) rfl rfl hS66 (fun W' hs' => bG (k := 1) (v := .slice A_1 i1 c_1) Tryz.isAgg63 rfl hs'.1 rfl) ?_
    refine aF (i := 2) rfl kR kR kR kR kR (fun _ _ _ h => h) rfl rfl hS66 (fun W' hs' => bI Tryz.isAgg171 Tryz.sizeOf171 rfl hs'.2 hle56) ?_
    refine aL (i := 3) kR ?_
    refine aV rfl Tryz.call165 (vs := #[.agg (List.toArray cse56)]) rfl rfl rfl (copied_Entity x.aA[i1] _ _ (fV H65.1 hKe56) hsi1) ?_
    rintro e70 W69 ⟨cs_5_3, rfl, hM67, hu68⟩; refine ⟨_, rfl, ?_⟩
    have H73 := H65.new (q := hM aJ (x.aA[i1]) cs_5_3) hu68 hM67; clear H65
    have hS74 := And.intro (H73.blk 3 rfl) (H73.blk 1 rfl); refine ⟨fun _ => hS74, ?_⟩
    refine aL (i := 4) kR ?_
    refine kK rfl Tryz.runUnderlying63 Tryz.sizeOf171 kD Tryz.zeroValue171 rfl (lK (H73.kn 0 rfl)) rfl rfl H73 ?_
    intro g_5_4 W75 hu76 Ha77; clear H73; clear hu76
    have hS79 := And.intro (Ha77.blk 4 rfl) (Ha77.blk 2 rfl); refine ⟨fun _ => hS79, ?_⟩
    refine aL (i := 5) kR ?_
    have H82 : St w No [hR aJ 171 (.slice A_1 i1 c_1) (x.aA.take i1), hB g_5_4 171 (List.toArray cs_5_3), hM aJ (x.aA[i1]) cs_5_3, hB g_4_2 171 (List.toArray cse56), hB g_1_6 68 #[.int .i64 (x.Id), .slice A_1 i1 c_1, .slice B_1_4 x.Loop.length c_1_4, .slice none 0 0, .slice none 0 0], hR aX 235 (.slice B_1_4 x.Loop.length c_1_4) x.Loop, hB g_0_1 68 #[.int .i64 (0), .slice none 0 0, .slice none 0 0, .slice none 0 0, .slice none 0 0], hB g_0_0 68 #[.int .i64 (x.Id), .slice Ax1 x.aA.length cx1, .slice Ax2 x.Loop.length cx2, .slice Ax3 x.aD.length cx3, .slice Ax4 x.Out.length cx4]] W75 := Ha77.pick [3, 0, 1, 2, 4, 5, 6, 7] kD rfl; clear Ha77
    refine lX (xs := (x.aA.take i1)) (p := x.aA[i1]) (n' := (i1 + 1)) (ys := (x.aA.take (i1 + 1))) rfl Tryz.underlying63 nP rfl kD kD rfl rfl (by rw [List.length_take, Nat.min_eq_left kO]; omega) (by rw [List.length_take, Nat.min_eq_left kO]) (List.take_succ_eq_append_getElem hlt1).symm rfl rfl H82 ?_
    intro B_5_5 c_5_5 W80 Ha81; clear H82
    have hS84 := And.intro (Ha81.blk 2 rfl) (Ha81.blk 1 rfl); refine ⟨fun _ => hS84, ?_⟩
    refine aF (i := 6) rfl kR kR kR kR kR (fun _ _ _ h => h) rfl rfl hS84 (fun W' hs' => bB iY rfl) ?_
    refine aL (i := 7) kR ?_
    have H88 : St w No [hB g_1_6 68 #[.int .i64 (x.Id), .slice A_1 i1 c_1, .slice B_1_4 x.Loop.length c_1_4, .slice none 0 0, .slice none 0 0], hR aJ 171 (.slice B_5_5 (i1 + 1) c_5_5) (x.aA.take (i1 + 1)), hB g_4_2 171 (List.toArray cse56), hR aX 235 (.slice B_1_4 x.Loop.length c_1_4) x.Loop, hB g_0_1 68 #[.int .i64 (0), .slice none 0 0, .slice none 0 0, .slice none 0 0, .slice none 0 0], hB g_0_0 68 #[.int .i64 (x.Id), .slice Ax1 x.aA.length cx1, .slice Ax2 x.Loop.length cx2, .slice Ax3 x.aD.length cx3, .slice Ax4 x.Out.length cx4]] W80 := Ha81.pick [2, 0, 1, 3, 4, 5] kD rfl; clear Ha81
    refine mE rfl Tryz.sizeOf63 rfl rfl rfl (Nat.le_of_ble_eq_true rfl) (by simp [Value.cells, Value.oneCell']) H88 ?_
    intro W85 hu86 Ha87; clear H88; clear hu86
    refine ⟨fun h => absS kR h, ?_⟩
    refine bD kR ?_ _
    refine inB_n ?_
    refine aM ?_
    refine aS [0, 1] rfl ?_
    refine aB ?_
    refine aC rfl (lT (k := i1) rfl rfl kO) rfl rfl ?_
    refine aB ?_
    refine aC rfl (aK rfl) rfl rfl ?_
    refine aN ?_
    refine aM ?_
    exact (aZ [(1, .pointer (some ⟨g_0_0, 0, none⟩)), (2, .pointer (some ⟨g_0_1, 0, none⟩)), (3, .pointer (some ⟨g_1_6, 0, none⟩)), (17, .slice Ax1 x.aA.length cx1), (18, .int .i64 ((x.aA.length : Nat))), (19, .int .i64 (((i1 + 1 : Nat) : Int)))] rfl).elim fun x' hx => ⟨r51 - 1, kO, i1 + 1, B_5_5, c_5_5, x', hx, kO, Ha87.pick [1, 0, 3, 4, 5] kD rfl⟩
   ·obtain rfl : i1 = x.aA.length := by omega
    rw [List.take_length] at H54
    have H90 : St w No [hR aJ 171 (.slice A_1 x.aA.length c_1) x.aA, hB g_1_6 68 #[.int .i64 (x.Id), .slice A_1 x.aA.length c_1, .slice B_1_4 x.Loop.length c_1_4, .slice none 0 0, .slice none 0 0], hR aX 235 (.slice B_1_4 x.Loop.length c_1_4) x.Loop, hB g_0_1 68 #[.int .i64 (0), .slice none 0 0, .slice none 0 0, .slice none 0 0, .slice none 0 0], hB g_0_0 68 #[.int .i64 (x.Id), .slice Ax1 x.aA.length cx1, .slice Ax2 x.Loop.length cx2, .slice Ax3 x.aD.length cx3, .slice Ax4 x.Out.length cx4]] W52 := H54; clear H54
    refine wp_exit ?_
    refine iF ?_
    refine iF ?_
    refine inB_x ?_
    refine aM ?_
    refine wp_seq ?_
    refine wp_seq ?_
    refine aS [0, 1, 2, 3] rfl ?_
    refine aB ?_
    refine aC rfl (bB iK rfl) rfl rfl ?_
    refine aB ?_
    refine aC rfl (bG (k := 3) (v := .slice Ax3 x.aD.length cx3) Tryz.isAgg65 rfl (H90.blk 4 rfl) rfl) rfl rfl ?_
    refine aB ?_
    refine aC rfl (jY Tryz.runUnderlying65 rfl) rfl rfl ?_
    refine aB ?_
    refine aC rfl (aK rfl) rfl rfl ?_
    refine aN ?_
    refine aM ?_
    refine wp_block ?_
    have H91 : St w No [hR aO 178 (.slice none 0 0) ([]), hR aJ 171 (.slice A_1 x.aA.length c_1) x.aA, hB g_1_6 68 #[.int .i64 (x.Id), .slice A_1 x.aA.length c_1, .slice B_1_4 x.Loop.length c_1_4, .slice none 0 0, .slice none 0 0], hR aX 235 (.slice B_1_4 x.Loop.length c_1_4) x.Loop, hB g_0_1 68 #[.int .i64 (0), .slice none 0 0, .slice none 0 0, .slice none 0 0, .slice none 0 0], hB g_0_0 68 #[.int .i64 (x.Id), .slice Ax1 x.aA.length cx1, .slice Ax2 x.Loop.length cx2, .slice Ax3 x.aD.length cx3, .slice Ax4 x.Out.length cx4]] W52 := H90.add0 (q := hR aO 178 (.slice none 0 0) []) l9; clear H90
    refine wp_loop_ghost (fun r a' W' => ∃ (i2 : Nat) (A_2 : Option Addr) (c_2 : Nat) (x' : Nat → Value), a' = bO 66 x' [(1, .pointer (some ⟨g_0_0, 0, none⟩)), (2, .pointer (some ⟨g_0_1, 0, none⟩)), (3, .pointer (some ⟨g_1_6, 0, none⟩)), (32, .slice Ax3 x.aD.length cx3), (33, .int .i64 ((x.aD.length : Nat))), (34, .int .i64 (((i2 : Nat) : Int)))] ∧ (i2 + r = x.aD.length) ∧ St w No [hR aO 178 (.slice A_2 i2 c_2) (x.aD.take i2), hR aJ 171 (.slice A_1 x.aA.length c_1) x.aA, hB g_1_6 68 #[.int .i64 (x.Id), .slice A_1 x.aA.length c_1, .slice B_1_4 x.Loop.length c_1_4, .slice A_2 i2 c_2, .slice none 0 0], hR aX 235 (.slice B_1_4 x.Loop.length c_1_4) x.Loop, hB g_0_1 68 #[.int .i64 (0), .slice none 0 0, .slice none 0 0, .slice none 0 0, .slice none 0 0], hB g_0_0 68 #[.int .i64 (x.Id), .slice Ax1 x.aA.length cx1, .slice Ax2 x.Loop.length cx2, .slice Ax3 x.aD.length cx3, .slice Ax4 x.Out.length cx4]] W') x.aD.length ?_ ?_
    ·exact (aZ [(1, .pointer (some ⟨g_0_0, 0, none⟩)), (2, .pointer (some ⟨g_0_1, 0, none⟩)), (3, .pointer (some ⟨g_1_6, 0, none⟩)), (32, .slice Ax3 x.aD.length cx3), (33, .int .i64 ((x.aD.length : Nat))), (34, .int .i64 (((0 : Nat) : Int)))] rfl).elim fun x' hx => ⟨0, none, 0, x', hx, kO, H91⟩
    ·rintro r92 _ W93 ⟨i2, A_2, c_2, x94, rfl, hi2, H95⟩; clear H91
     refine wp_seq ?_
     refine aS [0] rfl ?_
     refine aB ?_
     refine aC rfl (iW rfl rfl) rfl rfl ?_
     refine aN ?_
     refine aM ?_
     refine wp_seq ?_
     refine gU rfl (fun hc96 => ?_) (fun hc96 => ?_)
     ·have hlt2 : i2 < x.aD.length := by omega
      obtain ⟨ade97, cse97, hAe97, hKe97, hce97⟩ := lS hCx3 i2 hlt2
      have hle97 := lZ hKe97
      have hoe97 := nW hKe97
      have hsi2 : bQ x.aD[i2] ≤ 4194304 := by have h1 := gT bQ x.aD i2 hlt2; have h2 := s_Links; unfold bN at h2; omega
      refine wp_skip ?_
      refine aM ?_
      refine wp_seq ?_
      refine wp_block ?_
      refine wp_seq ?_
      refine aS [0, 1, 2, 3] rfl ?_
      refine aB ?_
      refine aC rfl (fD (k := i2) Tryz.runUnderlying65 Tryz.sizeOf178 rfl rfl hAe97 hlt2) rfl rfl ?_
      refine aB ?_
      refine aC rfl (jF Tryz.isAgg178 Tryz.sizeOf178 rfl (Cat.upd hce97 H95.1) hle97) rfl rfl ?_
      refine aB ?_
      refine bA rfl Tryz.zeroValue178 rfl rfl H95 ?_
      intro g_9_2 W98 hu99 Ha100; clear H95; clear hu99
      refine aB ?_
      refine aR rfl Tryz.sizeOf178 rfl rfl hle97 rfl hoe97 Ha100 ?_
      intro W102 hu103 Ha104; clear Ha100; clear hu103
      refine aN ?_
      refine aM ?_
      refine eH (fun W' => Blk W' g_1_6 68 #[.int .i64 (x.Id), .slice A_1 x.aA.length c_1, .slice B_1_4 x.Loop.length c_1_4, .slice A_2 i2 c_2, .slice none 0 0] ∧ Blk W' g_9_2 178 (List.toArray cse97)) 7 kR ?_
      have H106 := Ha104.drew; clear Ha104
      have hS107 : Blk W102.drew g_1_6 68 #[.int .i64 (x.Id), .slice A_1 x.aA.length c_1, .slice B_1_4 x.Loop.length c_1_4, .slice A_2 i2 c_2, .slice none 0 0] ∧ Blk W102.drew g_9_2 178 (List.toArray cse97) := ⟨H106.blk 3 rfl, H106.blk 0 rfl⟩
      refine aF (i := 0) rfl kR kR kR kR kR (fun _ _ _ h => h) rfl rfl hS107 (fun W' hs' => bB iK rfl) ?_
      refine aF (i := 1) rfl kR kR kR kR kR (fun _ _ _ h => h) rfl rfl hS107 (fun W' hs' => bG (k := 3) (v := .slice A_2 i2 c_2) Tryz.isAgg65 rfl hs'.1 rfl) ?_
      refine aF (i := 2) rfl kR kR kR kR kR (fun _ _ _ h => h) rfl rfl hS107 (fun W' hs' => bI Tryz.isAgg178 Tryz.sizeOf178 rfl hs'.2 hle97) ?_
      refine aL (i := 3) kR ?_
      refine aV rfl Tryz.call166 (vs := #[.agg (List.toArray cse97)]) rfl rfl rfl (copied_Link x.aD[i2] _ _ (fV H106.1 hKe97) hsi2) ?_
      rintro e111 W110 ⟨cs_10_3, rfl, hM108, hu109⟩; refine ⟨_, rfl, ?_⟩
      have H114 := H106.new (q := hM aO (x.aD[i2]) cs_10_3) hu109 hM108; clear H106
      have hS115 := And.intro (H114.blk 4 rfl) (H114.blk 1 rfl); refine ⟨fun _ => hS115, ?_⟩
      refine aL (i := 4) kR ?_
      refine kK rfl Tryz.runUnderlying65 Tryz.sizeOf178 kD Tryz.zeroValue178 rfl (lZ (H114.kn 0 rfl)) rfl rfl H114 ?_
      intro g_10_4 W116 hu117 Ha118; clear H114; clear hu117
      have hS120 := And.intro (Ha118.blk 5 rfl) (Ha118.blk 2 rfl); refine ⟨fun _ => hS120, ?_⟩
      refine aL (i := 5) kR ?_
      have H123 : St w No [hR aO 178 (.slice A_2 i2 c_2) (x.aD.take i2), hB g_10_4 178 (List.toArray cs_10_3), hM aO (x.aD[i2]) cs_10_3, hB g_9_2 178 (List.toArray cse97), hR aJ 171 (.slice A_1 x.aA.length c_1) x.aA, hB g_1_6 68 #[.int .i64 (x.Id), .slice A_1 x.aA.length c_1, .slice B_1_4 x.Loop.length c_1_4, .slice A_2 i2 c_2, .slice none 0 0], hR aX 235 (.slice B_1_4 x.Loop.length c_1_4) x.Loop, hB g_0_1 68 #[.int .i64 (0), .slice none 0 0, .slice none 0 0, .slice none 0 0, .slice none 0 0], hB g_0_0 68 #[.int .i64 (x.Id), .slice Ax1 x.aA.length cx1, .slice Ax2 x.Loop.length cx2, .slice Ax3 x.aD.length cx3, .slice Ax4 x.Out.length cx4]] W116 := Ha118.pick [3, 0, 1, 2, 4, 5, 6, 7, 8] kD rfl; clear Ha118
      refine lX (xs := (x.aD.take i2)) (p := x.aD[i2]) (n' := (i2 + 1)) (ys := (x.aD.take (i2 + 1))) rfl Tryz.underlying65 ki_Link_info rfl kD kD rfl rfl (by rw [List.length_take, Nat.min_eq_left kO]; omega) (by rw [List.length_take, Nat.min_eq_left kO]) (List.take_succ_eq_append_getElem hlt2).symm rfl rfl H123 ?_
      intro B_10_5 c_10_5 W121 Ha122; clear H123
      have hS125 := And.intro (Ha122.blk 3 rfl) (Ha122.blk 1 rfl); refine ⟨fun _ => hS125, ?_⟩
      refine aF (i := 6) rfl kR kR kR kR kR (fun _ _ _ h => h) rfl rfl hS125 (fun W' hs' => bB iK rfl) ?_
      refine aL (i := 7) kR ?_
      have H129 : St w No [hB g_1_6 68 #[.int .i64 (x.Id), .slice A_1 x.aA.length c_1, .slice B_1_4 x.Loop.length c_1_4, .slice A_2 i2 c_2, .slice none 0 0], hR aO 178 (.slice B_10_5 (i2 + 1) c_10_5) (x.aD.take (i2 + 1)), hB g_9_2 178 (List.toArray cse97), hR aJ 171 (.slice A_1 x.aA.length c_1) x.aA, hR aX 235 (.slice B_1_4 x.Loop.length c_1_4) x.Loop, hB g_0_1 68 #[.int .i64 (0), .slice none 0 0, .slice none 0 0, .slice none 0 0, .slice none 0 0], hB g_0_0 68 #[.int .i64 (x.Id), .slice Ax1 x.aA.length cx1, .slice Ax2 x.Loop.length cx2, .slice Ax3 x.aD.length cx3, .slice Ax4 x.Out.length cx4]] W121 := Ha122.pick [3, 0, 1, 2, 4, 5, 6] kD rfl; clear Ha122
      refine mE rfl Tryz.sizeOf65 rfl rfl rfl (Nat.le_of_ble_eq_true rfl) (by simp [Value.cells, Value.oneCell']) H129 ?_
      intro W126 hu127 Ha128; clear H129; clear hu127
      refine ⟨fun h => absS kR h, ?_⟩
      refine bD kR ?_ _
      refine inB_n ?_
      refine aM ?_
      refine aS [0, 1] rfl ?_
      refine aB ?_
      refine aC rfl (lT (k := i2) rfl rfl kO) rfl rfl ?_
      refine aB ?_
      refine aC rfl (aK rfl) rfl rfl ?_
      refine aN ?_
      refine aM ?_
      exact (aZ [(1, .pointer (some ⟨g_0_0, 0, none⟩)), (2, .pointer (some ⟨g_0_1, 0, none⟩)), (3, .pointer (some ⟨g_1_6, 0, none⟩)), (32, .slice Ax3 x.aD.length cx3), (33, .int .i64 ((x.aD.length : Nat))), (34, .int .i64 (((i2 + 1 : Nat) : Int)))] rfl).elim fun x' hx => ⟨r92 - 1, kO, i2 + 1, B_10_5, c_10_5, x', hx, kO, Ha128.pick [1, 3, 0, 4, 5, 6] kD rfl⟩
     ·obtain rfl : i2 = x.aD.length := by omega
      rw [List.take_length] at H95
      have H131 : St w No [hR aO 178 (.slice A_2 x.aD.length c_2) x.aD, hR aJ 171 (.slice A_1 x.aA.length c_1) x.aA, hB g_1_6 68 #[.int .i64 (x.Id), .slice A_1 x.aA.length c_1, .slice B_1_4 x.Loop.length c_1_4, .slice A_2 x.aD.length c_2, .slice none 0 0], hR aX 235 (.slice B_1_4 x.Loop.length c_1_4) x.Loop, hB g_0_1 68 #[.int .i64 (0), .slice none 0 0, .slice none 0 0, .slice none 0 0, .slice none 0 0], hB g_0_0 68 #[.int .i64 (x.Id), .slice Ax1 x.aA.length cx1, .slice Ax2 x.Loop.length cx2, .slice Ax3 x.aD.length cx3, .slice Ax4 x.Out.length cx4]] W93 := H95; clear H95
      refine wp_exit ?_
      refine iF ?_
      refine iF ?_
      refine inB_x ?_
      refine aM ?_
      refine wp_seq ?_
      refine wp_seq ?_
      refine aS [0, 1, 2, 3] rfl ?_
      refine aB ?_
      refine aC rfl (bB fa_68_4 rfl) rfl rfl ?_
      refine aB ?_
      refine aC rfl (bG (k := 4) (v := .slice Ax4 x.Out.length cx4) Tryz.isAgg66 rfl (H131.blk 5 rfl) rfl) rfl rfl ?_
      refine aB ?_
      refine aC rfl (jY Tryz.runUnderlying66 rfl) rfl rfl ?_
      refine aB ?_
      refine aC rfl (aK rfl) rfl rfl ?_
      refine aN ?_
      refine aM ?_
      refine wp_block ?_
      have H132 : St w No [hR aP 147 (.slice none 0 0) ([]), hR aO 178 (.slice A_2 x.aD.length c_2) x.aD, hR aJ 171 (.slice A_1 x.aA.length c_1) x.aA, hB g_1_6 68 #[.int .i64 (x.Id), .slice A_1 x.aA.length c_1, .slice B_1_4 x.Loop.length c_1_4, .slice A_2 x.aD.length c_2, .slice none 0 0], hR aX 235 (.slice B_1_4 x.Loop.length c_1_4) x.Loop, hB g_0_1 68 #[.int .i64 (0), .slice none 0 0, .slice none 0 0, .slice none 0 0, .slice none 0 0], hB g_0_0 68 #[.int .i64 (x.Id), .slice Ax1 x.aA.length cx1, .slice Ax2 x.Loop.length cx2, .slice Ax3 x.aD.length cx3, .slice Ax4 x.Out.length cx4]] W93 := H131.add0 (q := hR aP 147 (.slice none 0 0) []) l9; clear H131
      refine wp_loop_ghost (fun r a' W' => ∃ (i3 : Nat) (A_3 : Option Addr) (c_3 : Nat) (x' : Nat → Value), a' = bO 66 x' [(2, .pointer (some ⟨g_0_1, 0, none⟩)), (3, .pointer (some ⟨g_1_6, 0, none⟩)), (47, .slice Ax4 x.Out.length cx4), (48, .int .i64 ((x.Out.length : Nat))), (49, .int .i64 (((i3 : Nat) : Int)))] ∧ (i3 + r = x.Out.length) ∧ St w No [hR aP 147 (.slice A_3 i3 c_3) (x.Out.take i3), hR aO 178 (.slice A_2 x.aD.length c_2) x.aD, hR aJ 171 (.slice A_1 x.aA.length c_1) x.aA, hB g_1_6 68 #[.int .i64 (x.Id), .slice A_1 x.aA.length c_1, .slice B_1_4 x.Loop.length c_1_4, .slice A_2 x.aD.length c_2, .slice A_3 i3 c_3], hR aX 235 (.slice B_1_4 x.Loop.length c_1_4) x.Loop, hB g_0_1 68 #[.int .i64 (0), .slice none 0 0, .slice none 0 0, .slice none 0 0, .slice none 0 0], hB g_0_0 68 #[.int .i64 (x.Id), .slice Ax1 x.aA.length cx1, .slice Ax2 x.Loop.length cx2, .slice Ax3 x.aD.length cx3, .slice Ax4 x.Out.length cx4]] W') x.Out.length ?_ ?_
      ·exact (aZ [(2, .pointer (some ⟨g_0_1, 0, none⟩)), (3, .pointer (some ⟨g_1_6, 0, none⟩)), (47, .slice Ax4 x.Out.length cx4), (48, .int .i64 ((x.Out.length : Nat))), (49, .int .i64 (((0 : Nat) : Int)))] rfl).elim fun x' hx => ⟨0, none, 0, x', hx, kO, H132⟩
      ·rintro r133 _ W134 ⟨i3, A_3, c_3, x135, rfl, hi3, H136⟩; clear H132
       refine wp_seq ?_
       refine aS [0] rfl ?_
       refine aB ?_
       refine aC rfl (iW rfl rfl) rfl rfl ?_
       refine aN ?_
       refine aM ?_
       refine wp_seq ?_
       refine gU rfl (fun hc137 => ?_) (fun hc137 => ?_)
       ·have hlt3 : i3 < x.Out.length := by omega
        obtain ⟨ade138, cse138, hAe138, hKe138, hce138⟩ := lS hCx4 i3 hlt3
        have hle138 := ki_Outgoing_len hKe138
        have hoe138 := ki_Outgoing_one hKe138
        have hsi3 : dH x.Out[i3] ≤ 4194304 := by have h1 := gT dH x.Out i3 hlt3; have h2 := s_Out; unfold bN at h2; omega
        obtain ⟨Aade138_6, cade138_6, rfl, hlade138_6, hCade138_6⟩ := lJ hKe138
        have hsw : fU x.Out[i3].Message ≤ 4194304 := by have h1 := hsi3; unfold dH at h1; omega
        refine wp_skip ?_
        refine aM ?_
        refine wp_seq ?_
        refine wp_block ?_
        refine wp_seq ?_
        refine aS [0, 1, 2, 3] rfl ?_
        refine aB ?_
        refine aC rfl (fD (k := i3) Tryz.runUnderlying66 Tryz.sizeOf147 rfl rfl hAe138 hlt3) rfl rfl ?_
        refine aB ?_
        refine aC rfl (jF Tryz.isAgg147 Tryz.sizeOf147 rfl (Cat.upd hce138 H136.1) rfl) rfl rfl ?_
        refine aB ?_
        refine bA rfl Tryz.zeroValue147 rfl rfl H136 ?_
        intro g_14_2 W139 hu140 Ha141; clear H136; clear hu140
        refine aB ?_
        refine aR rfl Tryz.sizeOf147 rfl rfl rfl rfl kS Ha141 ?_
        intro W143 hu144 Ha145; clear Ha141; clear hu144
        refine aN ?_
        refine aM ?_
        refine eH (fun W' => Blk W' g_1_6 68 #[.int .i64 (x.Id), .slice A_1 x.aA.length c_1, .slice B_1_4 x.Loop.length c_1_4, .slice A_2 x.aD.length c_2, .slice A_3 i3 c_3] ∧ Blk W' g_14_2 147 #[.int .i64 (x.Out[i3].To), .int .i64 (x.Out[i3].Message.Kind), .int .i64 (x.Out[i3].Message.Pos), .int .i64 (x.Out[i3].Message.eU), .int .i64 (x.Out[i3].Message.Question), .string (x.Out[i3].Message.Name), .slice Aade138_6 (x.Out[i3].Message.dI.length) cade138_6, .int .i64 (x.Out[i3].Message.Value.Kind), .int .i64 (x.Out[i3].Message.Value.N), .int .i64 (x.Out[i3].Message.Count), .int .i64 (x.Out[i3].Message.Tag.Vat), .int .i64 (x.Out[i3].Message.Tag.Entity), .int .i64 (x.Out[i3].Message.Tag.Seq)]) 11 kR ?_
        have H147 := Ha145.drew; clear Ha145
        have hS148 : Blk W143.drew g_1_6 68 #[.int .i64 (x.Id), .slice A_1 x.aA.length c_1, .slice B_1_4 x.Loop.length c_1_4, .slice A_2 x.aD.length c_2, .slice A_3 i3 c_3] ∧ Blk W143.drew g_14_2 147 #[.int .i64 (x.Out[i3].To), .int .i64 (x.Out[i3].Message.Kind), .int .i64 (x.Out[i3].Message.Pos), .int .i64 (x.Out[i3].Message.eU), .int .i64 (x.Out[i3].Message.Question), .string (x.Out[i3].Message.Name), .slice Aade138_6 (x.Out[i3].Message.dI.length) cade138_6, .int .i64 (x.Out[i3].Message.Value.Kind), .int .i64 (x.Out[i3].Message.Value.N), .int .i64 (x.Out[i3].Message.Count), .int .i64 (x.Out[i3].Message.Tag.Vat), .int .i64 (x.Out[i3].Message.Tag.Entity), .int .i64 (x.Out[i3].Message.Tag.Seq)] := ⟨H147.blk 4 rfl, H147.blk 0 rfl⟩
        refine aF (i := 0) rfl kR kR kR kR kR (fun _ _ _ h => h) rfl rfl hS148 (fun W' hs' => bB fa_68_4 rfl) ?_
        refine aF (i := 1) rfl kR kR kR kR kR (fun _ _ _ h => h) rfl rfl hS148 (fun W' hs' => bG (k := 4) (v := .slice A_3 i3 c_3) Tryz.isAgg66 rfl hs'.1 rfl) ?_
        refine aF (i := 2) rfl kR kR kR kR kR (fun _ _ _ h => h) rfl rfl hS148 (fun W' hs' => bB fa_147_0 rfl) ?_
        refine aF (i := 3) rfl kR kR kR kR kR (fun _ _ _ h => h) rfl rfl hS148 (fun W' hs' => bG (k := 0) (v := .int .i64 (x.Out[i3].To)) Tryz.isAgg3 rfl hs'.2 rfl) ?_
        refine aF (i := 4) rfl kR kR kR kR kR (fun _ _ _ h => h) rfl rfl hS148 (fun W' hs' => bB fa_147_1 rfl) ?_
        refine aF (i := 5) rfl kR kR kR kR kR (fun _ _ _ h => h) rfl rfl hS148 (fun W' hs' => rn_loadS (sub := #[.int .i64 (x.Out[i3].Message.Kind), .int .i64 (x.Out[i3].Message.Pos), .int .i64 (x.Out[i3].Message.eU), .int .i64 (x.Out[i3].Message.Question), .string (x.Out[i3].Message.Name), .slice Aade138_6 (x.Out[i3].Message.dI.length) cade138_6, .int .i64 (x.Out[i3].Message.Value.Kind), .int .i64 (x.Out[i3].Message.Value.N), .int .i64 (x.Out[i3].Message.Count), .int .i64 (x.Out[i3].Message.Tag.Vat), .int .i64 (x.Out[i3].Message.Tag.Entity), .int .i64 (x.Out[i3].Message.Tag.Seq)]) Tryz.isAgg74 Tryz.sizeOf74 rfl hs'.2 rfl rfl) ?_
        refine aL (i := 6) kR ?_
        refine aV rfl Tryz.call101 (vs := #[.agg #[.int .i64 (x.Out[i3].Message.Kind), .int .i64 (x.Out[i3].Message.Pos), .int .i64 (x.Out[i3].Message.eU), .int .i64 (x.Out[i3].Message.Question), .string (x.Out[i3].Message.Name), .slice Aade138_6 (x.Out[i3].Message.dI.length) cade138_6, .int .i64 (x.Out[i3].Message.Value.Kind), .int .i64 (x.Out[i3].Message.Value.N), .int .i64 (x.Out[i3].Message.Count), .int .i64 (x.Out[i3].Message.Tag.Vat), .int .i64 (x.Out[i3].Message.Tag.Entity), .int .i64 (x.Out[i3].Message.Tag.Seq)]]) rfl rfl rfl (copied_Message x.Out[i3].Message _ _ (kZ _ (x.Out[i3].Message) hlade138_6 (bK H147.1 hCade138_6)) hsw) ?_
        rintro e154 W153 ⟨cs149, rfl, hM150, hu151⟩; refine ⟨_, rfl, ?_⟩
        obtain ⟨B_15_6_5, c_15_6_5, rfl, hst152⟩ := ki_Message_open hM150
        have H155 := H147.news hu151 hst152; clear H147
        have hS156 := And.intro (H155.blk 5 rfl) (H155.blk 1 rfl); refine ⟨fun _ => hS156, ?_⟩
        refine aF (i := 7) rfl kR kR kR kR kR (fun _ _ _ h => h) rfl rfl hS156 (fun W' hs' => fJ (vs := [(0, .int .i64 (x.Out[i3].To)), (1, .agg #[.int .i64 (x.Out[i3].Message.Kind), .int .i64 (x.Out[i3].Message.Pos), .int .i64 (x.Out[i3].Message.eU), .int .i64 (x.Out[i3].Message.Question), .string (x.Out[i3].Message.Name), .slice B_15_6_5 (x.Out[i3].Message.dI.length) c_15_6_5, .int .i64 (x.Out[i3].Message.Value.Kind), .int .i64 (x.Out[i3].Message.Value.N), .int .i64 (x.Out[i3].Message.Count), .int .i64 (x.Out[i3].Message.Tag.Vat), .int .i64 (x.Out[i3].Message.Tag.Entity), .int .i64 (x.Out[i3].Message.Tag.Seq)])]) (cells := #[.int .i64 (x.Out[i3].To), .int .i64 (x.Out[i3].Message.Kind), .int .i64 (x.Out[i3].Message.Pos), .int .i64 (x.Out[i3].Message.eU), .int .i64 (x.Out[i3].Message.Question), .string (x.Out[i3].Message.Name), .slice B_15_6_5 (x.Out[i3].Message.dI.length) c_15_6_5, .int .i64 (x.Out[i3].Message.Value.Kind), .int .i64 (x.Out[i3].Message.Value.N), .int .i64 (x.Out[i3].Message.Count), .int .i64 (x.Out[i3].Message.Tag.Vat), .int .i64 (x.Out[i3].Message.Tag.Entity), .int .i64 (x.Out[i3].Message.Tag.Seq)]) rfl kR) ?_
        refine aL (i := 8) kR ?_
        refine kK rfl Tryz.runUnderlying66 Tryz.sizeOf147 kD Tryz.zeroValue147 rfl rfl rfl rfl H155 ?_
        intro g_15_8 W157 hu158 Ha159; clear H155; clear hu158
        have hS161 := And.intro (Ha159.blk 6 rfl) (Ha159.blk 2 rfl); refine ⟨fun _ => hS161, ?_⟩
        refine aL (i := 9) kR ?_
        have H164 : St w No [hR bW 72 (.slice B_15_6_5 (x.Out[i3].Message.dI.length) c_15_6_5) (x.Out[i3].Message.dI), hB g_15_8 147 #[.int .i64 (x.Out[i3].To), .int .i64 (x.Out[i3].Message.Kind), .int .i64 (x.Out[i3].Message.Pos), .int .i64 (x.Out[i3].Message.eU), .int .i64 (x.Out[i3].Message.Question), .string (x.Out[i3].Message.Name), .slice B_15_6_5 (x.Out[i3].Message.dI.length) c_15_6_5, .int .i64 (x.Out[i3].Message.Value.Kind), .int .i64 (x.Out[i3].Message.Value.N), .int .i64 (x.Out[i3].Message.Count), .int .i64 (x.Out[i3].Message.Tag.Vat), .int .i64 (x.Out[i3].Message.Tag.Entity), .int .i64 (x.Out[i3].Message.Tag.Seq)], hB g_14_2 147 #[.int .i64 (x.Out[i3].To), .int .i64 (x.Out[i3].Message.Kind), .int .i64 (x.Out[i3].Message.Pos), .int .i64 (x.Out[i3].Message.eU), .int .i64 (x.Out[i3].Message.Question), .string (x.Out[i3].Message.Name), .slice Aade138_6 (x.Out[i3].Message.dI.length) cade138_6, .int .i64 (x.Out[i3].Message.Value.Kind), .int .i64 (x.Out[i3].Message.Value.N), .int .i64 (x.Out[i3].Message.Count), .int .i64 (x.Out[i3].Message.Tag.Vat), .int .i64 (x.Out[i3].Message.Tag.Entity), .int .i64 (x.Out[i3].Message.Tag.Seq)], hR aP 147 (.slice A_3 i3 c_3) (x.Out.take i3), hR aO 178 (.slice A_2 x.aD.length c_2) x.aD, hR aJ 171 (.slice A_1 x.aA.length c_1) x.aA, hB g_1_6 68 #[.int .i64 (x.Id), .slice A_1 x.aA.length c_1, .slice B_1_4 x.Loop.length c_1_4, .slice A_2 x.aD.length c_2, .slice A_3 i3 c_3], hR aX 235 (.slice B_1_4 x.Loop.length c_1_4) x.Loop, hB g_0_1 68 #[.int .i64 (0), .slice none 0 0, .slice none 0 0, .slice none 0 0, .slice none 0 0], hB g_0_0 68 #[.int .i64 (x.Id), .slice Ax1 x.aA.length cx1, .slice Ax2 x.Loop.length cx2, .slice Ax3 x.aD.length cx3, .slice Ax4 x.Out.length cx4]] W157 := Ha159.pick [1, 0, 2, 3, 4, 5, 6, 7, 8, 9] kD rfl; clear Ha159
        have H165 : St w No [hM aP (x.Out[i3]) [.int .i64 (x.Out[i3].To), .int .i64 (x.Out[i3].Message.Kind), .int .i64 (x.Out[i3].Message.Pos), .int .i64 (x.Out[i3].Message.eU), .int .i64 (x.Out[i3].Message.Question), .string (x.Out[i3].Message.Name), .slice B_15_6_5 (x.Out[i3].Message.dI.length) c_15_6_5, .int .i64 (x.Out[i3].Message.Value.Kind), .int .i64 (x.Out[i3].Message.Value.N), .int .i64 (x.Out[i3].Message.Count), .int .i64 (x.Out[i3].Message.Tag.Vat), .int .i64 (x.Out[i3].Message.Tag.Entity), .int .i64 (x.Out[i3].Message.Tag.Seq)], hB g_15_8 147 #[.int .i64 (x.Out[i3].To), .int .i64 (x.Out[i3].Message.Kind), .int .i64 (x.Out[i3].Message.Pos), .int .i64 (x.Out[i3].Message.eU), .int .i64 (x.Out[i3].Message.Question), .string (x.Out[i3].Message.Name), .slice B_15_6_5 (x.Out[i3].Message.dI.length) c_15_6_5, .int .i64 (x.Out[i3].Message.Value.Kind), .int .i64 (x.Out[i3].Message.Value.N), .int .i64 (x.Out[i3].Message.Count), .int .i64 (x.Out[i3].Message.Tag.Vat), .int .i64 (x.Out[i3].Message.Tag.Entity), .int .i64 (x.Out[i3].Message.Tag.Seq)], hB g_14_2 147 #[.int .i64 (x.Out[i3].To), .int .i64 (x.Out[i3].Message.Kind), .int .i64 (x.Out[i3].Message.Pos), .int .i64 (x.Out[i3].Message.eU), .int .i64 (x.Out[i3].Message.Question), .string (x.Out[i3].Message.Name), .slice Aade138_6 (x.Out[i3].Message.dI.length) cade138_6, .int .i64 (x.Out[i3].Message.Value.Kind), .int .i64 (x.Out[i3].Message.Value.N), .int .i64 (x.Out[i3].Message.Count), .int .i64 (x.Out[i3].Message.Tag.Vat), .int .i64 (x.Out[i3].Message.Tag.Entity), .int .i64 (x.Out[i3].Message.Tag.Seq)], hR aP 147 (.slice A_3 i3 c_3) (x.Out.take i3), hR aO 178 (.slice A_2 x.aD.length c_2) x.aD, hR aJ 171 (.slice A_1 x.aA.length c_1) x.aA, hB g_1_6 68 #[.int .i64 (x.Id), .slice A_1 x.aA.length c_1, .slice B_1_4 x.Loop.length c_1_4, .slice A_2 x.aD.length c_2, .slice A_3 i3 c_3], hR aX 235 (.slice B_1_4 x.Loop.length c_1_4) x.Loop, hB g_0_1 68 #[.int .i64 (0), .slice none 0 0, .slice none 0 0, .slice none 0 0, .slice none 0 0], hB g_0_0 68 #[.int .i64 (x.Id), .slice Ax1 x.aA.length cx1, .slice Ax2 x.Loop.length cx2, .slice Ax3 x.aD.length cx3, .slice Ax4 x.Out.length cx4]] W157 := H164.swap (l0 := [hR bW 72 (.slice B_15_6_5 (x.Out[i3].Message.dI.length) c_15_6_5) (x.Out[i3].Message.dI)]) (l' := [hM aP (x.Out[i3]) [.int .i64 (x.Out[i3].To), .int .i64 (x.Out[i3].Message.Kind), .int .i64 (x.Out[i3].Message.Pos), .int .i64 (x.Out[i3].Message.eU), .int .i64 (x.Out[i3].Message.Question), .string (x.Out[i3].Message.Name), .slice B_15_6_5 (x.Out[i3].Message.dI.length) c_15_6_5, .int .i64 (x.Out[i3].Message.Value.Kind), .int .i64 (x.Out[i3].Message.Value.N), .int .i64 (x.Out[i3].Message.Count), .int .i64 (x.Out[i3].Message.Tag.Vat), .int .i64 (x.Out[i3].Message.Tag.Entity), .int .i64 (x.Out[i3].Message.Tag.Seq)]]) (fun _ h => Star.one (nX (x := x.Out[i3]) h)); clear H164
        have H166 : St w No [hR aP 147 (.slice A_3 i3 c_3) (x.Out.take i3), hB g_15_8 147 #[.int .i64 (x.Out[i3].To), .int .i64 (x.Out[i3].Message.Kind), .int .i64 (x.Out[i3].Message.Pos), .int .i64 (x.Out[i3].Message.eU), .int .i64 (x.Out[i3].Message.Question), .string (x.Out[i3].Message.Name), .slice B_15_6_5 (x.Out[i3].Message.dI.length) c_15_6_5, .int .i64 (x.Out[i3].Message.Value.Kind), .int .i64 (x.Out[i3].Message.Value.N), .int .i64 (x.Out[i3].Message.Count), .int .i64 (x.Out[i3].Message.Tag.Vat), .int .i64 (x.Out[i3].Message.Tag.Entity), .int .i64 (x.Out[i3].Message.Tag.Seq)], hM aP (x.Out[i3]) [.int .i64 (x.Out[i3].To), .int .i64 (x.Out[i3].Message.Kind), .int .i64 (x.Out[i3].Message.Pos), .int .i64 (x.Out[i3].Message.eU), .int .i64 (x.Out[i3].Message.Question), .string (x.Out[i3].Message.Name), .slice B_15_6_5 (x.Out[i3].Message.dI.length) c_15_6_5, .int .i64 (x.Out[i3].Message.Value.Kind), .int .i64 (x.Out[i3].Message.Value.N), .int .i64 (x.Out[i3].Message.Count), .int .i64 (x.Out[i3].Message.Tag.Vat), .int .i64 (x.Out[i3].Message.Tag.Entity), .int .i64 (x.Out[i3].Message.Tag.Seq)], hB g_14_2 147 #[.int .i64 (x.Out[i3].To), .int .i64 (x.Out[i3].Message.Kind), .int .i64 (x.Out[i3].Message.Pos), .int .i64 (x.Out[i3].Message.eU), .int .i64 (x.Out[i3].Message.Question), .string (x.Out[i3].Message.Name), .slice Aade138_6 (x.Out[i3].Message.dI.length) cade138_6, .int .i64 (x.Out[i3].Message.Value.Kind), .int .i64 (x.Out[i3].Message.Value.N), .int .i64 (x.Out[i3].Message.Count), .int .i64 (x.Out[i3].Message.Tag.Vat), .int .i64 (x.Out[i3].Message.Tag.Entity), .int .i64 (x.Out[i3].Message.Tag.Seq)], hR aO 178 (.slice A_2 x.aD.length c_2) x.aD, hR aJ 171 (.slice A_1 x.aA.length c_1) x.aA, hB g_1_6 68 #[.int .i64 (x.Id), .slice A_1 x.aA.length c_1, .slice B_1_4 x.Loop.length c_1_4, .slice A_2 x.aD.length c_2, .slice A_3 i3 c_3], hR aX 235 (.slice B_1_4 x.Loop.length c_1_4) x.Loop, hB g_0_1 68 #[.int .i64 (0), .slice none 0 0, .slice none 0 0, .slice none 0 0, .slice none 0 0], hB g_0_0 68 #[.int .i64 (x.Id), .slice Ax1 x.aA.length cx1, .slice Ax2 x.Loop.length cx2, .slice Ax3 x.aD.length cx3, .slice Ax4 x.Out.length cx4]] W157 := H165.pick [3, 1, 0, 2, 4, 5, 6, 7, 8, 9] kD rfl; clear H165
        refine lX (xs := (x.Out.take i3)) (p := x.Out[i3]) (n' := (i3 + 1)) (ys := (x.Out.take (i3 + 1))) rfl Tryz.underlying66 mR rfl kD kD rfl rfl (by rw [List.length_take, Nat.min_eq_left kO]; omega) (by rw [List.length_take, Nat.min_eq_left kO]) (List.take_succ_eq_append_getElem hlt3).symm rfl rfl H166 ?_
        intro B_15_9 c_15_9 W162 Ha163; clear H166
        have hS168 := And.intro (Ha163.blk 4 rfl) (Ha163.blk 1 rfl); refine ⟨fun _ => hS168, ?_⟩
        refine aF (i := 10) rfl kR kR kR kR kR (fun _ _ _ h => h) rfl rfl hS168 (fun W' hs' => bB fa_68_4 rfl) ?_
        refine aL (i := 11) kR ?_
        have H172 : St w No [hB g_1_6 68 #[.int .i64 (x.Id), .slice A_1 x.aA.length c_1, .slice B_1_4 x.Loop.length c_1_4, .slice A_2 x.aD.length c_2, .slice A_3 i3 c_3], hR aP 147 (.slice B_15_9 (i3 + 1) c_15_9) (x.Out.take (i3 + 1)), hB g_14_2 147 #[.int .i64 (x.Out[i3].To), .int .i64 (x.Out[i3].Message.Kind), .int .i64 (x.Out[i3].Message.Pos), .int .i64 (x.Out[i3].Message.eU), .int .i64 (x.Out[i3].Message.Question), .string (x.Out[i3].Message.Name), .slice Aade138_6 (x.Out[i3].Message.dI.length) cade138_6, .int .i64 (x.Out[i3].Message.Value.Kind), .int .i64 (x.Out[i3].Message.Value.N), .int .i64 (x.Out[i3].Message.Count), .int .i64 (x.Out[i3].Message.Tag.Vat), .int .i64 (x.Out[i3].Message.Tag.Entity), .int .i64 (x.Out[i3].Message.Tag.Seq)], hR aO 178 (.slice A_2 x.aD.length c_2) x.aD, hR aJ 171 (.slice A_1 x.aA.length c_1) x.aA, hR aX 235 (.slice B_1_4 x.Loop.length c_1_4) x.Loop, hB g_0_1 68 #[.int .i64 (0), .slice none 0 0, .slice none 0 0, .slice none 0 0, .slice none 0 0], hB g_0_0 68 #[.int .i64 (x.Id), .slice Ax1 x.aA.length cx1, .slice Ax2 x.Loop.length cx2, .slice Ax3 x.aD.length cx3, .slice Ax4 x.Out.length cx4]] W162 := Ha163.pick [4, 0, 1, 2, 3, 5, 6, 7] kD rfl; clear Ha163
        refine mE rfl Tryz.sizeOf66 rfl rfl rfl (Nat.le_of_ble_eq_true rfl) (by simp [Value.cells, Value.oneCell']) H172 ?_
        intro W169 hu170 Ha171; clear H172; clear hu170
        refine ⟨fun h => absS kR h, ?_⟩
        refine bD kR ?_ _
        refine inB_n ?_
        refine aM ?_
        refine aS [0, 1] rfl ?_
        refine aB ?_
        refine aC rfl (lT (k := i3) rfl rfl kO) rfl rfl ?_
        refine aB ?_
        refine aC rfl (aK rfl) rfl rfl ?_
        refine aN ?_
        refine aM ?_
        exact (aZ [(2, .pointer (some ⟨g_0_1, 0, none⟩)), (3, .pointer (some ⟨g_1_6, 0, none⟩)), (47, .slice Ax4 x.Out.length cx4), (48, .int .i64 ((x.Out.length : Nat))), (49, .int .i64 (((i3 + 1 : Nat) : Int)))] rfl).elim fun x' hx => ⟨r133 - 1, kO, i3 + 1, B_15_9, c_15_9, x', hx, kO, Ha171.pick [1, 3, 4, 0, 5, 6, 7] kD rfl⟩
       ·obtain rfl : i3 = x.Out.length := by omega
        rw [List.take_length] at H136
        have H174 : St w No [hR aP 147 (.slice A_3 x.Out.length c_3) x.Out, hR aO 178 (.slice A_2 x.aD.length c_2) x.aD, hR aJ 171 (.slice A_1 x.aA.length c_1) x.aA, hB g_1_6 68 #[.int .i64 (x.Id), .slice A_1 x.aA.length c_1, .slice B_1_4 x.Loop.length c_1_4, .slice A_2 x.aD.length c_2, .slice A_3 x.Out.length c_3], hR aX 235 (.slice B_1_4 x.Loop.length c_1_4) x.Loop, hB g_0_1 68 #[.int .i64 (0), .slice none 0 0, .slice none 0 0, .slice none 0 0, .slice none 0 0], hB g_0_0 68 #[.int .i64 (x.Id), .slice Ax1 x.aA.length cx1, .slice Ax2 x.Loop.length cx2, .slice Ax3 x.aD.length cx3, .slice Ax4 x.Out.length cx4]] W134 := H136; clear H136
        refine wp_exit ?_
        refine iF ?_
        refine iF ?_
        refine inB_x ?_
        refine aM ?_
        refine wp_seq ?_
        refine aS [0, 1] rfl ?_
        refine aB ?_
        refine aC rfl (bI Tryz.isAgg68 Tryz.sizeOf68 rfl (H174.blk 3 rfl) rfl) rfl rfl ?_
        refine aB ?_
        have H178 : St w No [hB g_0_1 68 #[.int .i64 (0), .slice none 0 0, .slice none 0 0, .slice none 0 0, .slice none 0 0], hR aP 147 (.slice A_3 x.Out.length c_3) x.Out, hR aO 178 (.slice A_2 x.aD.length c_2) x.aD, hR aJ 171 (.slice A_1 x.aA.length c_1) x.aA, hB g_1_6 68 #[.int .i64 (x.Id), .slice A_1 x.aA.length c_1, .slice B_1_4 x.Loop.length c_1_4, .slice A_2 x.aD.length c_2, .slice A_3 x.Out.length c_3], hR aX 235 (.slice B_1_4 x.Loop.length c_1_4) x.Loop, hB g_0_0 68 #[.int .i64 (x.Id), .slice Ax1 x.aA.length cx1, .slice Ax2 x.Loop.length cx2, .slice Ax3 x.aD.length cx3, .slice Ax4 x.Out.length cx4]] W134 := H174.pick [5, 0, 1, 2, 3, 4, 6] kD rfl; clear H174
        refine aR rfl Tryz.sizeOf68 rfl rfl rfl rfl kS H178 ?_
        intro W175 hu176 Ha177; clear H178; clear hu176
        refine aN ?_
        refine aM ?_
        refine wp_ret ?_
        refine eP (.inl rfl) Tryz.results99 Tryz.isAgg68 Tryz.sizeOf68 rfl (Ha177.blk 0 rfl) rfl ?_
        exact ⟨_, rfl, lF (Ha177.pick [3, 5, 2, 1] kD rfl).star, Ha177.1⟩
end Go.Proofs.YtfnedoiplblldaaGreatFam
namespace Go.Proofs.YtfnedoiplblldaaGreatFam
open Go.ChangeShapes Go.WideShapes Go.RowKit Go.Proofs.YtfnedoiplblldaaGreatSep Go.Proofs.YtfnedoiplblldaaGreatT Go.Proofs.YtfnedoiplblldaaGreatK
set_option linter.unusedVariables false
set_option linter.unusedSimpArgs false
attribute [local irreducible] wpOps wpOp
def RetAI {α : Type} (d : Kn α) (x : α) (n : Int) (w : World) (e : Ending) (w' : World) : Prop := ∃ cs, e = .returned (.tuple #[.agg cs.toArray, .int .i64 n]) ∧ d.M w' (New w) x cs ∧ Upd No w w'
end Go.Proofs.YtfnedoiplblldaaGreatFam
namespace Go.Proofs.YtfnedoiplblldaaGreatFam
open Go.ChangeShapes Go.WideShapes Go.RowKit Go.Proofs.YtfnedoiplblldaaGreatSep Go.Proofs.YtfnedoiplblldaaGreatT Go.Proofs.YtfnedoiplblldaaGreatK
set_option linter.unusedVariables false
set_option linter.unusedSimpArgs false
attribute [local irreducible] wpOps wpOp
set_option maxHeartbeats 4000000
set_option maxRecDepth 100000
def exP (n : Int) : GExport → Bool := fun x => decide (x.Entity = n)
def exUp (e : GExport) : GExport := ⟨e.Pos, e.Entity, IntKind.i64.wrap (e.Count + 1)⟩
def pxL (n : Int) (l : List GExport) (nx : Int) : List GExport := if 0 ≤ fidx (exP n) 0 l then l.set (fidx (exP n) 0 l).toNat (exUp (l.getD (fidx (exP n) 0 l).toNat ⟨0, 0, 0⟩)) else l ++ [⟨IntKind.i64.wrap (nx + 1), n, 1⟩]
def pxX (n : Int) (l : List GExport) (nx : Int) : Int := if 0 ≤ fidx (exP n) 0 l then nx else IntKind.i64.wrap (nx + 1)
def pxN (n : Int) (l : List GExport) (nx : Int) : Int := if 0 ≤ fidx (exP n) 0 l then (l.getD (fidx (exP n) 0 l).toNat ⟨0, 0, 0⟩).Pos else IntKind.i64.wrap (nx + 1)
def pxV (n : Int) (x : GLink) : GLink := ⟨x.bT, x.Up, pxL n x.aH x.Next, pxX n x.aH x.Next, x.aI, x.bZ, x.aQ⟩
theorem px_yes (n : Int) (l : List GExport) (nx : Int) (k : Nat) (hk : k < l.length) (hf : fidx (exP n) 0 l = (k : Int)) : pxL n l nx = l.set k (exUp l[k]) ∧ pxX n l nx = nx ∧ pxN n l nx = l[k].Pos := by
 have h0 : (0 : Int) ≤ (k : Int) := by omega
 have hd : l.getD k ⟨0, 0, 0⟩ = l[k] := by simp [List.getD, hk]
 unfold pxL pxX pxN
 simp only [hf, if_pos h0, Int.toNat_natCast, hd, and_self]
theorem px_no (n : Int) (l : List GExport) (nx : Int) (hf : fidx (exP n) 0 l = -1) : pxL n l nx = l ++ [⟨IntKind.i64.wrap (nx + 1), n, 1⟩] ∧ pxX n l nx = IntKind.i64.wrap (nx + 1) ∧ pxN n l nx = IntKind.i64.wrap (nx + 1) := by
 have h0 : ¬ (0 : Int) ≤ -1 := by omega
 unfold pxL pxX pxN
 simp only [hf, if_neg h0, and_self]
theorem px_len (n : Int) (l : List GExport) (nx : Int) : (pxL n l nx).length ≤ l.length + 1 := by
 unfold pxL
 split
 ·rw [List.length_set]
  omega
 ·rw [List.length_append]
  exact Nat.le_refl _
theorem fidx_case {α : Type} (p : α → Bool) (l : List α) : fidx p 0 l = -1 ∨ ∃ k : Nat, k < l.length ∧ fidx p 0 l = (k : Int) := by
 rcases fidx_range p l 0 with h | h
 ·exact .inl h
 ·exact .inr ⟨(fidx p 0 l).toNat, by omega, by omega⟩
theorem link_closeN {W : World} {F : Nat → Prop} {x : GLink} {n : Nat} {B2 : Option Addr} {c2 : Nat} {B4 : Option Addr} {c4 : Nat} {B6 : Option Addr} {c6 : Nat} (hn : n = x.aH.length) (h : Star [hR bC 256 (.slice B2 n c2) x.aH, hR aU 289 (.slice B4 x.aI.length c4) x.aI, hR aU 289 (.slice B6 x.aQ.length c6) x.aQ] W F) : aO.M W F x [.int .i64 (x.bT), .bool (x.Up), .slice B2 n c2, .int .i64 (x.Next), .slice B4 x.aI.length c4, .int .i64 (x.bZ), .slice B6 x.aQ.length c6] := by
 subst hn
 exact lM h
theorem exF_clo (x : GExport) (cs : List Value) (p : Int) (g : Nat) (w : World) (h : bC.K w x cs) (hc : w.cell? ⟨g, 0, none⟩ = some (.int .i64 p)) : Calls Tryz.prog 225 #[.agg cs.toArray, .pointer (some ⟨g, 0, none⟩)] w (eX (exP p x) w) := by
 obtain rfl := jV h
 refine enter 8 [(0, .agg #[.int .i64 (x.Pos), .int .i64 (x.Entity), .int .i64 (x.Count)]), (1, .pointer (some ⟨g, 0, none⟩))] Tryz.func225 rfl kR ?_
 intro xj
 have H1 : St w No [] w := St.enter
 refine wp_seq ?_
 refine aS [0, 1] rfl ?_
 refine aB ?_
 refine gG rfl rfl rfl rfl H1 ?_
 intro g_0_0 W2 hu3 Ha4; clear H1; clear hu3
 refine aB ?_
 refine aC rfl (aW rfl) rfl rfl ?_
 refine aN ?_
 refine aM ?_
 refine wp_seq ?_
 refine aS [0, 1, 2, 3, 4] rfl ?_
 refine aB ?_
 refine aC rfl (bB fa_256_1 rfl) rfl rfl ?_
 refine aB ?_
 refine aC rfl (bG (k := 1) (v := .int .i64 (x.Entity)) Tryz.isAgg3 rfl (Ha4.blk 0 rfl) rfl) rfl rfl ?_
 refine aB ?_
 refine aC rfl (rn_load (v := .int .i64 (p)) Tryz.isAgg3 rfl (Ha4.1.read hc)) rfl rfl ?_
 refine aB ?_
 refine aC rfl (iQ rfl rfl) rfl rfl ?_
 refine aB ?_
 refine aC rfl (aW rfl) rfl rfl ?_
 refine aN ?_
 refine aM ?_
 refine wp_ret ?_
 refine eY (.inl rfl) Tryz.results225 rfl ?_
 exact ⟨rfl, Ha4.1⟩
theorem oF (x : GLink) (n : Int) (cs : List Value) (w : World) (h : aO.K w x cs) (hs : bQ x ≤ 4194304) : Calls Tryz.prog 126 #[.agg cs.toArray, .int .i64 n] w (RetAI aO (pxV n x) (pxN n x.aH x.Next) w) := by
 obtain ⟨Ax2, cx2, Ax4, cx4, Ax6, cx6, rfl, hlx2, hCx2, hlx4, hCx4, hlx6, hCx6⟩ := kL h
 have s_Exports : bN fK x.aH ≤ 4194304 := by unfold bQ at hs; omega
 have n_Exports : x.aH.length ≤ 4194304 := by unfold bN at s_Exports; omega
 have s_Questions : bN eT x.aI ≤ 4194304 := by unfold bQ at hs; omega
 have n_Questions : x.aI.length ≤ 4194304 := by unfold bN at s_Questions; omega
 have s_Answers : bN eT x.aQ ≤ 4194304 := by unfold bQ at hs; omega
 have n_Answers : x.aQ.length ≤ 4194304 := by unfold bN at s_Answers; omega
 refine enter 60 [(0, .agg #[.int .i64 (x.bT), .bool (x.Up), .slice Ax2 x.aH.length cx2, .int .i64 (x.Next), .slice Ax4 x.aI.length cx4, .int .i64 (x.bZ), .slice Ax6 x.aQ.length cx6]), (1, .int .i64 (n))] Tryz.func126 rfl kR ?_
 intro xj
 have H1 : St w No [] w := St.enter
 refine wp_seq ?_
 refine aS [0, 1, 2] rfl ?_
 refine aB ?_
 refine gG rfl rfl rfl rfl H1 ?_
 intro g_0_0 W2 hu3 Ha4; clear H1; clear hu3
 refine aB ?_
 refine bA rfl Tryz.zeroValue178 rfl rfl Ha4 ?_
 intro g_0_1 W6 hu7 Ha8; clear Ha4; clear hu7
 refine aB ?_
 refine aC rfl (aW rfl) rfl rfl ?_
 refine aN ?_
 refine aM ?_
 refine wp_seq ?_
 refine aS [0, 1, 2, 3] rfl ?_
 refine aB ?_
 refine aC rfl (bI Tryz.isAgg178 Tryz.sizeOf178 rfl (Ha8.blk 1 rfl) rfl) rfl rfl ?_
 refine aB ?_
 refine aV rfl Tryz.call159 (vs := #[.agg #[.int .i64 (x.bT), .bool (x.Up), .slice Ax2 x.aH.length cx2, .int .i64 (x.Next), .slice Ax4 x.aI.length cx4, .int .i64 (x.bZ), .slice Ax6 x.aQ.length cx6]]) rfl rfl rfl (l10Copy_s x _ _ (jI _ x hlx2 (bK Ha8.1 hCx2) hlx4 (bK Ha8.1 hCx4) hlx6 (bK Ha8.1 hCx6)) hs) ?_
 rintro e15 W14 ⟨cs10, rfl, hM11, hu12⟩; refine ⟨_, rfl, ?_⟩
 obtain ⟨B_1_1_2, c_1_1_2, B_1_1_4, c_1_1_4, B_1_1_6, c_1_1_6, rfl, hst13⟩ := iT hM11
 have H16 := Ha8.news hu12 hst13; clear Ha8
 refine aB ?_
 refine bA rfl Tryz.zeroValue178 rfl rfl H16 ?_
 intro g_1_2 W17 hu18 Ha19; clear H16; clear hu18
 refine aB ?_
 refine aR rfl Tryz.sizeOf178 rfl rfl rfl rfl kS Ha19 ?_
 intro W21 hu22 Ha23; clear Ha19; clear hu22
 refine aN ?_
 refine aM ?_
 refine wp_seq ?_
 refine wp_seq ?_
 refine aS [0] rfl ?_
 refine aB ?_
 refine aC rfl (aW rfl) rfl rfl ?_
 refine aN ?_
 refine aM ?_
 refine wp_block ?_
 refine wp_loop_ghost (fun r a' W' => ∃ (i1 : Nat) (x' : Nat → Value), a' = bO 60 x' [(1, .int .i64 (n)), (2, .pointer (some ⟨g_0_0, 0, none⟩)), (4, .pointer (some ⟨g_0_1, 0, none⟩)), (6, .pointer (some ⟨g_1_2, 0, none⟩)), (7, .int .i64 (((i1 : Nat) : Int)))] ∧ (i1 + r = x.aH.length) ∧ (fidx (exP n) 0 x.aH = fidx (exP n) ((i1 : Nat) : Int) (x.aH.drop i1)) ∧ St w No [hB g_1_2 178 #[.int .i64 (x.bT), .bool (x.Up), .slice B_1_1_2 x.aH.length c_1_1_2, .int .i64 (x.Next), .slice B_1_1_4 x.aI.length c_1_1_4, .int .i64 (x.bZ), .slice B_1_1_6 x.aQ.length c_1_1_6], hR bC 256 (.slice B_1_1_2 x.aH.length c_1_1_2) x.aH, hR aU 289 (.slice B_1_1_4 x.aI.length c_1_1_4) x.aI, hR aU 289 (.slice B_1_1_6 x.aQ.length c_1_1_6) x.aQ, hB g_0_1 178 #[.int .i64 (0), .bool (false), .slice none 0 0, .int .i64 (0), .slice none 0 0, .int .i64 (0), .slice none 0 0], hB g_0_0 178 #[.int .i64 (x.bT), .bool (x.Up), .slice Ax2 x.aH.length cx2, .int .i64 (x.Next), .slice Ax4 x.aI.length cx4, .int .i64 (x.bZ), .slice Ax6 x.aQ.length cx6]] W') x.aH.length ?_ ?_
 ·exact (aZ [(1, .int .i64 (n)), (2, .pointer (some ⟨g_0_0, 0, none⟩)), (4, .pointer (some ⟨g_0_1, 0, none⟩)), (6, .pointer (some ⟨g_1_2, 0, none⟩)), (7, .int .i64 (((0 : Nat) : Int)))] rfl).elim fun x' hx => ⟨0, x', hx, kO, (by rw [List.drop_zero]; rfl), Ha23⟩
 ·rintro r25 _ W26 ⟨i1, x27, rfl, hi1, hf1, H28⟩; clear Ha23
  refine wp_seq ?_
  refine wp_seq ?_
  refine aS [0, 1, 2, 3, 4] rfl ?_
  refine aB ?_
  refine aC rfl (aK rfl) rfl rfl ?_
  refine aB ?_
  refine aC rfl (bB kG rfl) rfl rfl ?_
  refine aB ?_
  refine aC rfl (bG (k := 2) (v := .slice Ax2 x.aH.length cx2) Tryz.isAgg175 rfl (H28.blk 5 rfl) rfl) rfl rfl ?_
  refine aB ?_
  refine aC rfl (jY Tryz.runUnderlying175 rfl) rfl rfl ?_
  refine aB ?_
  refine aC rfl (iW rfl rfl) rfl rfl ?_
  refine aN ?_
  refine aM ?_
  refine gU rfl (fun hc29 => ?_) (fun hc29 => ?_)
  ·have hlt1 : i1 < x.aH.length := by omega
   obtain ⟨ade30, cse30, hAe30, hKe30, hce30⟩ := lS hCx2 i1 hlt1
   have hle30 := ki_Export_len hKe30
   have hoe30 := ki_Export_one hKe30
   obtain rfl := jV hKe30
   refine wp_skip ?_
   refine aM ?_
   refine wp_seq ?_
   refine wp_block ?_
   refine wp_seq ?_
   refine aS [0, 1, 2, 3, 4, 5, 6, 7] rfl ?_
   refine aB ?_
   refine aC rfl (bB kG rfl) rfl rfl ?_
   refine aB ?_
   refine aC rfl (bG (k := 2) (v := .slice Ax2 x.aH.length cx2) Tryz.isAgg175 rfl (H28.blk 5 rfl) rfl) rfl rfl ?_
   refine aB ?_
   refine aC rfl (aK rfl) rfl rfl ?_
   refine aB ?_
   refine aC rfl (fD (k := i1) Tryz.runUnderlying175 Tryz.sizeOf256 rfl rfl hAe30 hlt1) rfl rfl ?_
   refine aB ?_
   refine aC rfl (bB fa_256_1 rfl) rfl rfl ?_
   refine aB ?_
   refine aC rfl (gI (v := .int .i64 (x.aH[i1].Entity)) Tryz.isAgg3 rfl (Cat.upd hce30 H28.1) rfl) rfl rfl ?_
   refine aB ?_
   refine aC rfl (aK rfl) rfl rfl ?_
   refine aB ?_
   refine aC rfl (iQ rfl rfl) rfl rfl ?_
   refine aN ?_
   refine aM ?_
   refine gU rfl (fun hc31 => ?_) (fun hc31 => ?_)
   ·refine wp_seq ?_
    have H32 : St w No [hR bC 256 (.slice B_1_1_2 x.aH.length c_1_1_2) x.aH, hB g_1_2 178 #[.int .i64 (x.bT), .bool (x.Up), .slice B_1_1_2 x.aH.length c_1_1_2, .int .i64 (x.Next), .slice B_1_1_4 x.aI.length c_1_1_4, .int .i64 (x.bZ), .slice B_1_1_6 x.aQ.length c_1_1_6], hR aU 289 (.slice B_1_1_4 x.aI.length c_1_1_4) x.aI, hR aU 289 (.slice B_1_1_6 x.aQ.length c_1_1_6) x.aQ, hB g_0_1 178 #[.int .i64 (0), .bool (false), .slice none 0 0, .int .i64 (0), .slice none 0 0, .int .i64 (0), .slice none 0 0], hB g_0_0 178 #[.int .i64 (x.bT), .bool (x.Up), .slice Ax2 x.aH.length cx2, .int .i64 (x.Next), .slice Ax4 x.aI.length cx4, .int .i64 (x.bZ), .slice Ax6 x.aQ.length cx6]] W26 := H28.pick [1, 0, 2, 3, 4, 5] kD rfl; clear H28
    obtain ⟨gf33, rfl⟩ := H32.openS (q := i1) hlt1
    obtain ⟨ce34, hn35, H36⟩ := H32.openG (q := i1) hlt1; clear H32
    have H37 : St w No [hE bC 256 gf33 c_1_1_2 i1 ce34 x.aH, hM bC (x.aH[i1]) ce34, hB g_1_2 178 #[.int .i64 (x.bT), .bool (x.Up), .slice (some ⟨gf33, 0, none⟩) x.aH.length c_1_1_2, .int .i64 (x.Next), .slice B_1_1_4 x.aI.length c_1_1_4, .int .i64 (x.bZ), .slice B_1_1_6 x.aQ.length c_1_1_6], hR aU 289 (.slice B_1_1_4 x.aI.length c_1_1_4) x.aI, hR aU 289 (.slice B_1_1_6 x.aQ.length c_1_1_6) x.aQ, hB g_0_1 178 #[.int .i64 (0), .bool (false), .slice none 0 0, .int .i64 (0), .slice none 0 0, .int .i64 (0), .slice none 0 0], hB g_0_0 178 #[.int .i64 (x.bT), .bool (x.Up), .slice Ax2 x.aH.length cx2, .int .i64 (x.Next), .slice Ax4 x.aI.length cx4, .int .i64 (x.bZ), .slice Ax6 x.aQ.length cx6]] W26 := H36; clear H36
    obtain rfl := jV (H37.kn 1 rfl)
    have H38 : St w No [hE bC 256 gf33 c_1_1_2 i1 [.int .i64 ((x.aH[i1]).Pos), .int .i64 ((x.aH[i1]).Entity), .int .i64 ((x.aH[i1]).Count)] x.aH, hB g_1_2 178 #[.int .i64 (x.bT), .bool (x.Up), .slice (some ⟨gf33, 0, none⟩) x.aH.length c_1_1_2, .int .i64 (x.Next), .slice B_1_1_4 x.aI.length c_1_1_4, .int .i64 (x.bZ), .slice B_1_1_6 x.aQ.length c_1_1_6], hR aU 289 (.slice B_1_1_4 x.aI.length c_1_1_4) x.aI, hR aU 289 (.slice B_1_1_6 x.aQ.length c_1_1_6) x.aQ, hB g_0_1 178 #[.int .i64 (0), .bool (false), .slice none 0 0, .int .i64 (0), .slice none 0 0, .int .i64 (0), .slice none 0 0], hB g_0_0 178 #[.int .i64 (x.bT), .bool (x.Up), .slice Ax2 x.aH.length cx2, .int .i64 (x.Next), .slice Ax4 x.aI.length cx4, .int .i64 (x.bZ), .slice Ax6 x.aQ.length cx6]] W26 := H37.pick [0, 2, 3, 4, 5, 6] kD rfl; clear H37
    refine eH (fun W' => Blk W' g_1_2 178 #[.int .i64 (x.bT), .bool (x.Up), .slice (some ⟨gf33, 0, none⟩) x.aH.length c_1_1_2, .int .i64 (x.Next), .slice B_1_1_4 x.aI.length c_1_1_4, .int .i64 (x.bZ), .slice B_1_1_6 x.aQ.length c_1_1_6] ∧ Blk W' g_0_0 178 #[.int .i64 (x.bT), .bool (x.Up), .slice Ax2 x.aH.length cx2, .int .i64 (x.Next), .slice Ax4 x.aI.length cx4, .int .i64 (x.bZ), .slice Ax6 x.aQ.length cx6] ∧ Cat W' (Addr.add ade30 (i1 * 3)) [.int .i64 (x.aH[i1].Pos), .int .i64 (x.aH[i1].Entity), .int .i64 (x.aH[i1].Count)]) 13 kR ?_
    have H39 := H38.drew; clear H38
    have hS40 : Blk W26.drew g_1_2 178 #[.int .i64 (x.bT), .bool (x.Up), .slice (some ⟨gf33, 0, none⟩) x.aH.length c_1_1_2, .int .i64 (x.Next), .slice B_1_1_4 x.aI.length c_1_1_4, .int .i64 (x.bZ), .slice B_1_1_6 x.aQ.length c_1_1_6] ∧ Blk W26.drew g_0_0 178 #[.int .i64 (x.bT), .bool (x.Up), .slice Ax2 x.aH.length cx2, .int .i64 (x.Next), .slice Ax4 x.aI.length cx4, .int .i64 (x.bZ), .slice Ax6 x.aQ.length cx6] ∧ Cat W26.drew (Addr.add ade30 (i1 * 3)) [.int .i64 (x.aH[i1].Pos), .int .i64 (x.aH[i1].Entity), .int .i64 (x.aH[i1].Count)] := ⟨H39.blk 1 rfl, H39.blk 5 rfl, (Cat.upd hce30 H39.1)⟩
    refine aF (i := 0) rfl kR kR kR kR kR (fun _ _ _ h => h) rfl rfl hS40 (fun W' hs' => bB kG rfl) ?_
    refine aF (i := 1) rfl kR kR kR kR kR (fun _ _ _ h => h) rfl rfl hS40 (fun W' hs' => bG (k := 2) (v := .slice (some ⟨gf33, 0, none⟩) x.aH.length c_1_1_2) Tryz.isAgg175 rfl hs'.1 rfl) ?_
    refine aF (i := 2) rfl kR kR kR kR kR (fun _ _ _ h => h) rfl rfl hS40 (fun W' hs' => aK rfl) ?_
    refine aF (i := 3) rfl kR kR kR kR kR (fun _ _ _ h => h) rfl rfl hS40 (fun W' hs' => bB kG rfl) ?_
    refine aF (i := 4) rfl kR kR kR kR kR (fun _ _ _ h => h) rfl rfl hS40 (fun W' hs' => bG (k := 2) (v := .slice Ax2 x.aH.length cx2) Tryz.isAgg175 rfl hs'.2.1 rfl) ?_
    refine aF (i := 5) rfl kR kR kR kR kR (fun _ _ _ h => h) rfl rfl hS40 (fun W' hs' => aK rfl) ?_
    refine aF (i := 6) rfl kR kR kR kR kR (fun _ _ _ h => h) rfl rfl hS40 (fun W' hs' => fD (k := i1) Tryz.runUnderlying175 Tryz.sizeOf256 rfl rfl hAe30 hlt1) ?_
    refine aF (i := 7) rfl kR kR kR kR kR (fun _ _ _ h => h) rfl rfl hS40 (fun W' hs' => bB fa_256_2 rfl) ?_
    refine aF (i := 8) rfl kR kR kR kR kR (fun _ _ _ h => h) rfl rfl hS40 (fun W' hs' => gI (v := .int .i64 (x.aH[i1].Count)) Tryz.isAgg3 rfl hs'.2.2 rfl) ?_
    refine aF (i := 9) rfl kR kR kR kR kR (fun _ _ _ h => h) rfl rfl hS40 (fun W' hs' => rn_addW rfl rfl) ?_
    refine aF (i := 10) rfl kR kR kR kR kR (fun _ _ _ h => h) rfl rfl hS40 (fun W' hs' => fD (k := i1) Tryz.runUnderlying175 Tryz.sizeOf256 rfl rfl rfl (Nat.lt_of_lt_of_eq hlt1 hn35.symm)) ?_
    refine aF (i := 11) rfl kR kR kR kR kR (fun _ _ _ h => h) rfl rfl hS40 (fun W' hs' => bB fa_256_2 rfl) ?_
    refine aL (i := 12) kR ?_
    refine nK (dk := bC) (k := 2) (ce' := [.int .i64 ((x.aH[i1]).Pos), .int .i64 ((x.aH[i1]).Entity), .int .i64 (IntKind.i64.wrap ((x.aH[i1].Count) + 1))]) rfl Tryz.sizeOf3 rfl rfl rfl rfl (Nat.le_of_ble_eq_true rfl) (by simp [Value.cells, Value.oneCell']) rfl H39 ?_
    intro W41 hu42 Ha43; clear H39; clear hu42
    have hS45 := And.intro (Ha43.blk 1 rfl) (And.intro (Ha43.blk 5 rfl) ((Cat.upd hce30 Ha43.1))); refine ⟨fun _ => hS45, ?_⟩
    refine bD kR ?_ _
    have H46 : St w No [hM bC (exUp x.aH[i1]) [.int .i64 ((x.aH[i1]).Pos), .int .i64 ((x.aH[i1]).Entity), .int .i64 (IntKind.i64.wrap ((x.aH[i1].Count) + 1))], hE bC 256 gf33 c_1_1_2 i1 [.int .i64 ((x.aH[i1]).Pos), .int .i64 ((x.aH[i1]).Entity), .int .i64 (IntKind.i64.wrap ((x.aH[i1].Count) + 1))] x.aH, hB g_1_2 178 #[.int .i64 (x.bT), .bool (x.Up), .slice (some ⟨gf33, 0, none⟩) x.aH.length c_1_1_2, .int .i64 (x.Next), .slice B_1_1_4 x.aI.length c_1_1_4, .int .i64 (x.bZ), .slice B_1_1_6 x.aQ.length c_1_1_6], hR aU 289 (.slice B_1_1_4 x.aI.length c_1_1_4) x.aI, hR aU 289 (.slice B_1_1_6 x.aQ.length c_1_1_6) x.aQ, hB g_0_1 178 #[.int .i64 (0), .bool (false), .slice none 0 0, .int .i64 (0), .slice none 0 0, .int .i64 (0), .slice none 0 0], hB g_0_0 178 #[.int .i64 (x.bT), .bool (x.Up), .slice Ax2 x.aH.length cx2, .int .i64 (x.Next), .slice Ax4 x.aI.length cx4, .int .i64 (x.bZ), .slice Ax6 x.aQ.length cx6]] W41 := Ha43.add0 (q := hM bC (exUp x.aH[i1]) [.int .i64 ((x.aH[i1]).Pos), .int .i64 ((x.aH[i1]).Entity), .int .i64 (IntKind.i64.wrap ((x.aH[i1].Count) + 1))]) (jH _ No (exUp x.aH[i1])); clear Ha43
    have H47 : St w No [hE bC 256 gf33 c_1_1_2 i1 [.int .i64 ((x.aH[i1]).Pos), .int .i64 ((x.aH[i1]).Entity), .int .i64 (IntKind.i64.wrap ((x.aH[i1].Count) + 1))] x.aH, hM bC (exUp x.aH[i1]) [.int .i64 ((x.aH[i1]).Pos), .int .i64 ((x.aH[i1]).Entity), .int .i64 (IntKind.i64.wrap ((x.aH[i1].Count) + 1))], hB g_1_2 178 #[.int .i64 (x.bT), .bool (x.Up), .slice (some ⟨gf33, 0, none⟩) x.aH.length c_1_1_2, .int .i64 (x.Next), .slice B_1_1_4 x.aI.length c_1_1_4, .int .i64 (x.bZ), .slice B_1_1_6 x.aQ.length c_1_1_6], hR aU 289 (.slice B_1_1_4 x.aI.length c_1_1_4) x.aI, hR aU 289 (.slice B_1_1_6 x.aQ.length c_1_1_6) x.aQ, hB g_0_1 178 #[.int .i64 (0), .bool (false), .slice none 0 0, .int .i64 (0), .slice none 0 0, .int .i64 (0), .slice none 0 0], hB g_0_0 178 #[.int .i64 (x.bT), .bool (x.Up), .slice Ax2 x.aH.length cx2, .int .i64 (x.Next), .slice Ax4 x.aI.length cx4, .int .i64 (x.bZ), .slice Ax6 x.aQ.length cx6]] W41 := H46.pick [1, 0, 2, 3, 4, 5, 6] kD rfl; clear H46
    have H48 : St w No [hR bC 256 (.slice (some ⟨gf33, 0, none⟩) x.aH.length c_1_1_2) (x.aH.set i1 (exUp x.aH[i1])), hB g_1_2 178 #[.int .i64 (x.bT), .bool (x.Up), .slice (some ⟨gf33, 0, none⟩) x.aH.length c_1_1_2, .int .i64 (x.Next), .slice B_1_1_4 x.aI.length c_1_1_4, .int .i64 (x.bZ), .slice B_1_1_6 x.aQ.length c_1_1_6], hR aU 289 (.slice B_1_1_4 x.aI.length c_1_1_4) x.aI, hR aU 289 (.slice B_1_1_6 x.aQ.length c_1_1_6) x.aQ, hB g_0_1 178 #[.int .i64 (0), .bool (false), .slice none 0 0, .int .i64 (0), .slice none 0 0, .int .i64 (0), .slice none 0 0], hB g_0_0 178 #[.int .i64 (x.bT), .bool (x.Up), .slice Ax2 x.aH.length cx2, .int .i64 (x.Next), .slice Ax4 x.aI.length cx4, .int .i64 (x.bZ), .slice Ax6 x.aQ.length cx6]] W41 := H47.closeG rfl (by rw [List.length_set]); clear H47
    refine aM ?_
    refine wp_seq ?_
    refine eH (fun W' => Blk W' g_1_2 178 #[.int .i64 (x.bT), .bool (x.Up), .slice (some ⟨gf33, 0, none⟩) x.aH.length c_1_1_2, .int .i64 (x.Next), .slice B_1_1_4 x.aI.length c_1_1_4, .int .i64 (x.bZ), .slice B_1_1_6 x.aQ.length c_1_1_6] ∧ Blk W' g_0_0 178 #[.int .i64 (x.bT), .bool (x.Up), .slice Ax2 x.aH.length cx2, .int .i64 (x.Next), .slice Ax4 x.aI.length cx4, .int .i64 (x.bZ), .slice Ax6 x.aQ.length cx6] ∧ Cat W' (Addr.add ade30 (i1 * 3)) [.int .i64 (x.aH[i1].Pos), .int .i64 (x.aH[i1].Entity), .int .i64 (x.aH[i1].Count)]) 9 kR ?_
    have H49 := H48.drew; clear H48
    have hS50 : Blk W41.drew g_1_2 178 #[.int .i64 (x.bT), .bool (x.Up), .slice (some ⟨gf33, 0, none⟩) x.aH.length c_1_1_2, .int .i64 (x.Next), .slice B_1_1_4 x.aI.length c_1_1_4, .int .i64 (x.bZ), .slice B_1_1_6 x.aQ.length c_1_1_6] ∧ Blk W41.drew g_0_0 178 #[.int .i64 (x.bT), .bool (x.Up), .slice Ax2 x.aH.length cx2, .int .i64 (x.Next), .slice Ax4 x.aI.length cx4, .int .i64 (x.bZ), .slice Ax6 x.aQ.length cx6] ∧ Cat W41.drew (Addr.add ade30 (i1 * 3)) [.int .i64 (x.aH[i1].Pos), .int .i64 (x.aH[i1].Entity), .int .i64 (x.aH[i1].Count)] := ⟨H49.blk 1 rfl, H49.blk 5 rfl, (Cat.upd hce30 H49.1)⟩
    refine aF (i := 0) rfl kR kR kR kR kR (fun _ _ _ h => h) rfl rfl hS50 (fun W' hs' => bI Tryz.isAgg178 Tryz.sizeOf178 rfl hs'.1 rfl) ?_
    refine aF (i := 1) rfl kR kR kR kR kR (fun _ _ _ h => h) rfl rfl hS50 (fun W' hs' => bB kG rfl) ?_
    refine aF (i := 2) rfl kR kR kR kR kR (fun _ _ _ h => h) rfl rfl hS50 (fun W' hs' => bG (k := 2) (v := .slice Ax2 x.aH.length cx2) Tryz.isAgg175 rfl hs'.2.1 rfl) ?_
    refine aF (i := 3) rfl kR kR kR kR kR (fun _ _ _ h => h) rfl rfl hS50 (fun W' hs' => aK rfl) ?_
    refine aF (i := 4) rfl kR kR kR kR kR (fun _ _ _ h => h) rfl rfl hS50 (fun W' hs' => fD (k := i1) Tryz.runUnderlying175 Tryz.sizeOf256 rfl rfl hAe30 hlt1) ?_
    refine aF (i := 5) rfl kR kR kR kR kR (fun _ _ _ h => h) rfl rfl hS50 (fun W' hs' => bB fa_256_0 rfl) ?_
    refine aF (i := 6) rfl kR kR kR kR kR (fun _ _ _ h => h) rfl rfl hS50 (fun W' hs' => gI (v := .int .i64 (x.aH[i1].Pos)) Tryz.isAgg3 rfl hs'.2.2 rfl) ?_
    refine aL (i := 7) kR ?_
    have H54 : St w No [hB g_0_1 178 #[.int .i64 (0), .bool (false), .slice none 0 0, .int .i64 (0), .slice none 0 0, .int .i64 (0), .slice none 0 0], hR bC 256 (.slice (some ⟨gf33, 0, none⟩) x.aH.length c_1_1_2) (x.aH.set i1 (exUp x.aH[i1])), hB g_1_2 178 #[.int .i64 (x.bT), .bool (x.Up), .slice (some ⟨gf33, 0, none⟩) x.aH.length c_1_1_2, .int .i64 (x.Next), .slice B_1_1_4 x.aI.length c_1_1_4, .int .i64 (x.bZ), .slice B_1_1_6 x.aQ.length c_1_1_6], hR aU 289 (.slice B_1_1_4 x.aI.length c_1_1_4) x.aI, hR aU 289 (.slice B_1_1_6 x.aQ.length c_1_1_6) x.aQ, hB g_0_0 178 #[.int .i64 (x.bT), .bool (x.Up), .slice Ax2 x.aH.length cx2, .int .i64 (x.Next), .slice Ax4 x.aI.length cx4, .int .i64 (x.bZ), .slice Ax6 x.aQ.length cx6]] W41.drew := H49.pick [4, 0, 1, 2, 3, 5] kD rfl; clear H49
    refine aR rfl Tryz.sizeOf178 rfl rfl rfl rfl kS H54 ?_
    intro W51 hu52 Ha53; clear H54; clear hu52
    have hS56 := And.intro (Ha53.blk 2 rfl) (And.intro (Ha53.blk 5 rfl) ((Cat.upd hce30 Ha53.1))); refine ⟨fun _ => hS56, ?_⟩
    refine aF (i := 8) rfl kR kR kR kR kR (fun _ _ _ h => h) rfl rfl hS56 (fun W' hs' => aW rfl) ?_
    refine bD kR ?_ _
    refine aM ?_
    refine wp_ret ?_
    refine kQ ?_
    refine eB ?_
    refine eB ?_
    refine kQ ?_
    refine eB ?_
    obtain ⟨e1, e2, e3⟩ := px_yes n x.aH x.Next i1 hlt1 (hf1.trans (fidx_yes (exP n) x.aH i1 hlt1 (decide_eq_true hc31)))
    refine mV (.inl rfl) Tryz.results126 Tryz.isAgg178 Tryz.sizeOf178 rfl rfl (Ha53.blk 0 rfl) rfl ?_
    refine ⟨[.int .i64 (x.bT), .bool (x.Up), .slice (some ⟨gf33, 0, none⟩) x.aH.length c_1_1_2, .int .i64 (x.Next), .slice B_1_1_4 x.aI.length c_1_1_4, .int .i64 (x.bZ), .slice B_1_1_6 x.aQ.length c_1_1_6], by rw [e3], ?_, Ha53.1⟩
    unfold pxV
    rw [e1, e2]
    exact link_closeN ((List.length_set ..).symm) (Ha53.pick [1, 3, 4] kD rfl).star
   ·refine wp_skip ?_
    refine inB_n ?_
    refine aM ?_
    refine aS [0, 1, 2] rfl ?_
    refine aB ?_
    refine aC rfl (aK rfl) rfl rfl ?_
    refine aB ?_
    refine aC rfl (lT (k := i1) rfl rfl kO) rfl rfl ?_
    refine aB ?_
    refine aC rfl (aW rfl) rfl rfl ?_
    refine aN ?_
    refine aM ?_
    exact (aZ [(1, .int .i64 (n)), (2, .pointer (some ⟨g_0_0, 0, none⟩)), (4, .pointer (some ⟨g_0_1, 0, none⟩)), (6, .pointer (some ⟨g_1_2, 0, none⟩)), (7, .int .i64 (((i1 + 1 : Nat) : Int)))] rfl).elim fun x' hx => ⟨r25 - 1, kO, i1 + 1, x', hx, kO, (hf1.trans (fidx_no (exP n) x.aH i1 hlt1 (decide_eq_false (by assumption)))), H28⟩
  ·have hge1 : x.aH.length ≤ i1 := by omega
   refine wp_exit ?_
   refine iF ?_
   refine iF ?_
   refine inB_x ?_
   refine aM ?_
   refine wp_seq ?_
   refine aS [0, 1, 2, 3, 4] rfl ?_
   refine aB ?_
   refine aC rfl (bB nA rfl) rfl rfl ?_
   refine aB ?_
   refine aC rfl (bG (k := 3) (v := .int .i64 (x.Next)) Tryz.isAgg3 rfl (H28.blk 5 rfl) rfl) rfl rfl ?_
   refine aB ?_
   refine aC rfl (rn_addW rfl rfl) rfl rfl ?_
   refine aB ?_
   refine aC rfl (bB nA rfl) rfl rfl ?_
   refine aB ?_
   refine mE rfl Tryz.sizeOf3 rfl rfl rfl (Nat.le_of_ble_eq_true rfl) (by simp [Value.cells, Value.oneCell']) H28 ?_
   intro W57 hu58 Ha59; clear H28; clear hu58
   refine aN ?_
   refine aM ?_
   refine wp_seq ?_
   refine aS [0, 1, 2, 3, 4, 5, 6, 7, 8, 9] rfl ?_
   refine aB ?_
   refine aC rfl (bB kG rfl) rfl rfl ?_
   refine aB ?_
   refine aC rfl (bG (k := 2) (v := .slice B_1_1_2 x.aH.length c_1_1_2) Tryz.isAgg175 rfl (Ha59.blk 0 rfl) rfl) rfl rfl ?_
   refine aB ?_
   refine aC rfl (bB nA rfl) rfl rfl ?_
   refine aB ?_
   refine aC rfl (bG (k := 3) (v := .int .i64 (IntKind.i64.wrap (x.Next + 1))) Tryz.isAgg3 rfl (Ha59.blk 0 rfl) rfl) rfl rfl ?_
   refine aB ?_
   refine aC rfl (aK rfl) rfl rfl ?_
   refine aB ?_
   refine aC rfl (fJ (vs := [(0, .int .i64 (IntKind.i64.wrap (x.Next + 1))), (1, .int .i64 (n)), (2, .int .i64 (1))]) (cells := #[.int .i64 (IntKind.i64.wrap (x.Next + 1)), .int .i64 (n), .int .i64 (1)]) rfl kR) rfl rfl ?_
   refine aB ?_
   refine kK rfl Tryz.runUnderlying175 Tryz.sizeOf256 kD Tryz.zeroValue256 rfl rfl rfl rfl Ha59 ?_
   intro g_9_6 W61 hu62 Ha63; clear Ha59; clear hu62
   refine aB ?_
   have H67 : St w No [hR bC 256 (.slice B_1_1_2 x.aH.length c_1_1_2) x.aH, hB g_9_6 256 #[.int .i64 (IntKind.i64.wrap (x.Next + 1)), .int .i64 (n), .int .i64 (1)], hB g_1_2 178 #[.int .i64 (x.bT), .bool (x.Up), .slice B_1_1_2 x.aH.length c_1_1_2, .int .i64 (IntKind.i64.wrap (x.Next + 1)), .slice B_1_1_4 x.aI.length c_1_1_4, .int .i64 (x.bZ), .slice B_1_1_6 x.aQ.length c_1_1_6], hR aU 289 (.slice B_1_1_4 x.aI.length c_1_1_4) x.aI, hR aU 289 (.slice B_1_1_6 x.aQ.length c_1_1_6) x.aQ, hB g_0_1 178 #[.int .i64 (0), .bool (false), .slice none 0 0, .int .i64 (0), .slice none 0 0, .int .i64 (0), .slice none 0 0], hB g_0_0 178 #[.int .i64 (x.bT), .bool (x.Up), .slice Ax2 x.aH.length cx2, .int .i64 (x.Next), .slice Ax4 x.aI.length cx4, .int .i64 (x.bZ), .slice Ax6 x.aQ.length cx6]] W61 := Ha63.pick [2, 0, 1, 3, 4, 5, 6] kD rfl; clear Ha63
   refine nG (xs := x.aH) (p := (⟨IntKind.i64.wrap (x.Next + 1), n, 1⟩ : GExport)) (n' := (x.aH.length + 1)) (ys := (x.aH ++ [(⟨IntKind.i64.wrap (x.Next + 1), n, 1⟩ : GExport)])) rfl Tryz.underlying175 kX rfl kD kD rfl rfl (jH _ No (⟨IntKind.i64.wrap (x.Next + 1), n, 1⟩ : GExport)) kO rfl rfl rfl rfl H67 ?_
   intro B_9_7 c_9_7 W65 Ha66; clear H67
   refine aB ?_
   refine aC rfl (bB kG rfl) rfl rfl ?_
   refine aB ?_
   have H72 : St w No [hB g_1_2 178 #[.int .i64 (x.bT), .bool (x.Up), .slice B_1_1_2 x.aH.length c_1_1_2, .int .i64 (IntKind.i64.wrap (x.Next + 1)), .slice B_1_1_4 x.aI.length c_1_1_4, .int .i64 (x.bZ), .slice B_1_1_6 x.aQ.length c_1_1_6], hR bC 256 (.slice B_9_7 (x.aH.length + 1) c_9_7) (x.aH ++ [(⟨IntKind.i64.wrap (x.Next + 1), n, 1⟩ : GExport)]), hR aU 289 (.slice B_1_1_4 x.aI.length c_1_1_4) x.aI, hR aU 289 (.slice B_1_1_6 x.aQ.length c_1_1_6) x.aQ, hB g_0_1 178 #[.int .i64 (0), .bool (false), .slice none 0 0, .int .i64 (0), .slice none 0 0, .int .i64 (0), .slice none 0 0], hB g_0_0 178 #[.int .i64 (x.bT), .bool (x.Up), .slice Ax2 x.aH.length cx2, .int .i64 (x.Next), .slice Ax4 x.aI.length cx4, .int .i64 (x.bZ), .slice Ax6 x.aQ.length cx6]] W65 := Ha66.pick [1, 0, 2, 3, 4, 5] kD rfl; clear Ha66
   refine mE rfl Tryz.sizeOf175 rfl rfl rfl (Nat.le_of_ble_eq_true rfl) (by simp [Value.cells, Value.oneCell']) H72 ?_
   intro W69 hu70 Ha71; clear H72; clear hu70
   refine aN ?_
   refine aM ?_
   refine wp_seq ?_
   refine eH (fun W' => Blk W' g_1_2 178 #[.int .i64 (x.bT), .bool (x.Up), .slice B_9_7 (x.aH.length + 1) c_9_7, .int .i64 (IntKind.i64.wrap (x.Next + 1)), .slice B_1_1_4 x.aI.length c_1_1_4, .int .i64 (x.bZ), .slice B_1_1_6 x.aQ.length c_1_1_6]) 5 kR ?_
   have H74 := Ha71.drew; clear Ha71
   have hS75 : Blk W69.drew g_1_2 178 #[.int .i64 (x.bT), .bool (x.Up), .slice B_9_7 (x.aH.length + 1) c_9_7, .int .i64 (IntKind.i64.wrap (x.Next + 1)), .slice B_1_1_4 x.aI.length c_1_1_4, .int .i64 (x.bZ), .slice B_1_1_6 x.aQ.length c_1_1_6] := H74.blk 0 rfl
   refine aF (i := 0) rfl kR kR kR kR kR (fun _ _ _ h => h) rfl rfl hS75 (fun W' hs' => bI Tryz.isAgg178 Tryz.sizeOf178 rfl hs' rfl) ?_
   refine aF (i := 1) rfl kR kR kR kR kR (fun _ _ _ h => h) rfl rfl hS75 (fun W' hs' => bB nA rfl) ?_
   refine aF (i := 2) rfl kR kR kR kR kR (fun _ _ _ h => h) rfl rfl hS75 (fun W' hs' => bG (k := 3) (v := .int .i64 (IntKind.i64.wrap (x.Next + 1))) Tryz.isAgg3 rfl hs' rfl) ?_
   refine aL (i := 3) kR ?_
   have H79 : St w No [hB g_0_1 178 #[.int .i64 (0), .bool (false), .slice none 0 0, .int .i64 (0), .slice none 0 0, .int .i64 (0), .slice none 0 0], hB g_1_2 178 #[.int .i64 (x.bT), .bool (x.Up), .slice B_9_7 (x.aH.length + 1) c_9_7, .int .i64 (IntKind.i64.wrap (x.Next + 1)), .slice B_1_1_4 x.aI.length c_1_1_4, .int .i64 (x.bZ), .slice B_1_1_6 x.aQ.length c_1_1_6], hR bC 256 (.slice B_9_7 (x.aH.length + 1) c_9_7) (x.aH ++ [(⟨IntKind.i64.wrap (x.Next + 1), n, 1⟩ : GExport)]), hR aU 289 (.slice B_1_1_4 x.aI.length c_1_1_4) x.aI, hR aU 289 (.slice B_1_1_6 x.aQ.length c_1_1_6) x.aQ, hB g_0_0 178 #[.int .i64 (x.bT), .bool (x.Up), .slice Ax2 x.aH.length cx2, .int .i64 (x.Next), .slice Ax4 x.aI.length cx4, .int .i64 (x.bZ), .slice Ax6 x.aQ.length cx6]] W69.drew := H74.pick [4, 0, 1, 2, 3, 5] kD rfl; clear H74
   refine aR rfl Tryz.sizeOf178 rfl rfl rfl rfl kS H79 ?_
   intro W76 hu77 Ha78; clear H79; clear hu77
   have hS81 := Ha78.blk 1 rfl; refine ⟨fun _ => hS81, ?_⟩
   refine aF (i := 4) rfl kR kR kR kR kR (fun _ _ _ h => h) rfl rfl hS81 (fun W' hs' => aW rfl) ?_
   refine bD kR ?_ _
   refine aM ?_
   refine wp_ret ?_
   obtain ⟨e1, e2, e3⟩ := px_no n x.aH x.Next (hf1.trans (fidx_end (exP n) x.aH _ hge1 _))
   refine mV (.inl rfl) Tryz.results126 Tryz.isAgg178 Tryz.sizeOf178 rfl rfl (Ha78.blk 0 rfl) rfl ?_
   refine ⟨[.int .i64 (x.bT), .bool (x.Up), .slice B_9_7 (x.aH.length + 1) c_9_7, .int .i64 (IntKind.i64.wrap (x.Next + 1)), .slice B_1_1_4 x.aI.length c_1_1_4, .int .i64 (x.bZ), .slice B_1_1_6 x.aQ.length c_1_1_6], by rw [e3], ?_, Ha78.1⟩
   unfold pxV
   rw [e1, e2]
   exact link_closeN ((by simp)) (Ha78.pick [2, 3, 4] kD rfl).star
end Go.Proofs.YtfnedoiplblldaaGreatFam
namespace Go.Proofs.YtfnedoiplblldaaGreatFam
open Go.ChangeShapes Go.WideShapes Go.RowKit Go.Proofs.YtfnedoiplblldaaGreatSep Go.Proofs.YtfnedoiplblldaaGreatT Go.Proofs.YtfnedoiplblldaaGreatK
set_option linter.unusedVariables false
set_option linter.unusedSimpArgs false
attribute [local irreducible] wpOps wpOp
def zL (p : Int) : GLink := ⟨p, true, [], 0, [], 0, []⟩
end Go.Proofs.YtfnedoiplblldaaGreatFam
namespace Go.Proofs.YtfnedoiplblldaaGreatFam
open Go.RowKit Go.Proofs.YtfnedoiplblldaaGreatSep Go.Proofs.YtfnedoiplblldaaGreatT Go.Proofs.YtfnedoiplblldaaGreatK
set_option linter.unusedVariables false
set_option linter.unusedSimpArgs false
set_option maxHeartbeats 1000000
set_option maxRecDepth 100000
theorem lkU_idx (q0 : Value) (p : GLink → Bool) (l : List GLink) (A : Option Addr) (c : Nat) (w : World) (h : C aO w A l) (hf : ∀ (x : GLink) (cs : List Value) (w' : World), Upd No w w' → aO.K w' x cs → Calls Tryz.prog 213 #[.agg cs.toArray, q0] w' (eX (p x) w')) : Calls Tryz.prog 218 #[.slice A l.length c, .func (.func 213) #[] #[q0]] w (lQ (fidx p 0 l) w) := by
 have hn := h.1
 have H := Sd.mk h
 have HF := Sd.mk hf
 clear h hf
 go_enter Tryz.func218, Tryz.ntmps218
 go_wp2_with fail
 go_loopg [8] l.length (fun r v wr => ∃ i : Nat, i + r = l.length ∧ v = .int .i64 i ∧ Sd (fidx p 0 l = fidx p i (l.drop i)) ∧ Sd (Upd No w wr))
 case atStart => exact ⟨0, by omega, rfl, ⟨rfl⟩, ⟨Upd.refl _ _⟩⟩
 case round =>
  obtain ⟨i, hi, rfl, HE, HU⟩ := hrel
  by_cases hlt : i < l.length
  ·obtain ⟨ad, A2, c2, A4, c4, A6, c6, rfl, a0, a1, a2, a3, a4, a5, a6, hl2, hC2, hl4, hC4, hl6, hC6⟩ := nR (bK HU.out H.out) i hlt
   have HC2 := Sd.mk hC2
   clear hC2
   have HC4 := Sd.mk hC4
   clear hC4
   have HC6 := Sd.mk hC6
   clear hC6
   go_wp2_with fail
   with_reducible refine (HF.out l[i] _ _ HU.out (jI _ _ hl2 HC2.out hl4 HC4.out hl6 HC6.out)).mono ?_
   rintro e w1 ⟨rfl, hu⟩
   have HU1 := Sd.mk (HU.out.then hu)
   clear hu HU
   have hy := Sd.mk (fidx_yes p l i hlt)
   have hno := Sd.mk (fidx_no p l i hlt)
   cases hb : p l[i]
   ·have HBB := Sd.mk hb
    clear hb
    go_wp2_with fail
    go_roundg (gk - 1)
    case measure => omega
    case rel => exact ⟨i + 1, by omega, by go_num, ⟨HE.out.trans (hno.out HBB.out)⟩, HU1⟩
   ·have HBB := Sd.mk hb
    clear hb
    go_wp2_with fail
    go_ret
    exact ⟨gJ (by rw [HE.out, hy.out HBB.out]), HU1.out⟩
  ·go_wp2_with fail
   go_ret
   exact ⟨gJ (by rw [HE.out, fidx_end p l i kO]), HU.out⟩
theorem lkU_has (q0 : Value) (p : GLink → Bool) (l : List GLink) (A : Option Addr) (c : Nat) (w : World) (h : C aO w A l) (hf : ∀ (x : GLink) (cs : List Value) (w' : World), Upd No w w' → aO.K w' x cs → Calls Tryz.prog 213 #[.agg cs.toArray, q0] w' (eX (p x) w')) : Calls Tryz.prog 212 #[.slice A l.length c, .func (.func 213) #[] #[q0]] w (eX (l.any p) w) := by
 have H := Sd.mk h
 have HF := Sd.mk hf
 clear h hf
 go_enter Tryz.func212, Tryz.ntmps212
 go_wp2_with fail
 with_reducible refine (lkU_idx q0 p l _ _ _ ?hc ?hf).mono ?_
 case hc => exact H.out
 case hf => exact HF.out
 rintro e w1 ⟨rfl, hu⟩
 have HX := Sd.mk (fidx_any p l 0 (Int.le_refl 0))
 have HU := Sd.mk hu
 clear hu
 go_wp2_with fail
 go_ret
 exact ⟨ret_bool HX.out, HU.out⟩
theorem lkP_idx (q0 : Value) (p : GLink → Bool) (l : List GLink) (A : Option Addr) (c : Nat) (w : World) (h : C aO w A l) (hf : ∀ (x : GLink) (cs : List Value) (w' : World), Upd No w w' → aO.K w' x cs → Calls Tryz.prog 219 #[.agg cs.toArray, q0] w' (eX (p x) w')) : Calls Tryz.prog 218 #[.slice A l.length c, .func (.func 219) #[] #[q0]] w (lQ (fidx p 0 l) w) := by
 have hn := h.1
 have H := Sd.mk h
 have HF := Sd.mk hf
 clear h hf
 go_enter Tryz.func218, Tryz.ntmps218
 go_wp2_with fail
 go_loopg [8] l.length (fun r v wr => ∃ i : Nat, i + r = l.length ∧ v = .int .i64 i ∧ Sd (fidx p 0 l = fidx p i (l.drop i)) ∧ Sd (Upd No w wr))
 case atStart => exact ⟨0, by omega, rfl, ⟨rfl⟩, ⟨Upd.refl _ _⟩⟩
 case round =>
  obtain ⟨i, hi, rfl, HE, HU⟩ := hrel
  by_cases hlt : i < l.length
  ·obtain ⟨ad, A2, c2, A4, c4, A6, c6, rfl, a0, a1, a2, a3, a4, a5, a6, hl2, hC2, hl4, hC4, hl6, hC6⟩ := nR (bK HU.out H.out) i hlt
   have HC2 := Sd.mk hC2
   clear hC2
   have HC4 := Sd.mk hC4
   clear hC4
   have HC6 := Sd.mk hC6
   clear hC6
   go_wp2_with fail
   with_reducible refine (HF.out l[i] _ _ HU.out (jI _ _ hl2 HC2.out hl4 HC4.out hl6 HC6.out)).mono ?_
   rintro e w1 ⟨rfl, hu⟩
   have HU1 := Sd.mk (HU.out.then hu)
   clear hu HU
   have hy := Sd.mk (fidx_yes p l i hlt)
   have hno := Sd.mk (fidx_no p l i hlt)
   cases hb : p l[i]
   ·have HBB := Sd.mk hb
    clear hb
    go_wp2_with fail
    go_roundg (gk - 1)
    case measure => omega
    case rel => exact ⟨i + 1, by omega, by go_num, ⟨HE.out.trans (hno.out HBB.out)⟩, HU1⟩
   ·have HBB := Sd.mk hb
    clear hb
    go_wp2_with fail
    go_ret
    exact ⟨gJ (by rw [HE.out, hy.out HBB.out]), HU1.out⟩
  ·go_wp2_with fail
   go_ret
   exact ⟨gJ (by rw [HE.out, fidx_end p l i kO]), HU.out⟩
end Go.Proofs.YtfnedoiplblldaaGreatFam
namespace Go.Proofs.YtfnedoiplblldaaGreatFam
open Go.ChangeShapes Go.WideShapes Go.RowKit Go.Proofs.YtfnedoiplblldaaGreatSep Go.Proofs.YtfnedoiplblldaaGreatT Go.Proofs.YtfnedoiplblldaaGreatK
set_option linter.unusedVariables false
set_option linter.unusedSimpArgs false
attribute [local irreducible] wpOps wpOp
set_option maxHeartbeats 4000000
set_option maxRecDepth 100000
def peP (p : Int) : GLink → Bool := fun x => decide (x.bT = p)
def upP (p : Int) : GLink → Bool := fun x => decide (x.bT = p) && x.Up
theorem up_pe (p : Int) (l : List GLink) (h : l.any (upP p) = true) : ∃ k : Nat, k < l.length ∧ fidx (peP p) 0 l = k := by
 have h1 := fidx_any (peP p) l 0 (Int.le_refl 0)
 have h2 : l.any (peP p) = true := by
  obtain ⟨x, hx, hp⟩ := List.any_eq_true.1 h
  refine List.any_eq_true.2 ⟨x, hx, ?_⟩
  simp only [upP, Bool.and_eq_true] at hp
  exact hp.1
 rw [h2] at h1
 have h3 : 0 ≤ fidx (peP p) 0 l := of_decide_eq_true h1
 rcases fidx_range (peP p) l 0 with h4 | h4
 ·omega
 ·exact ⟨(fidx (peP p) 0 l).toNat, by omega, by omega⟩
theorem any_no {α : Type} (p : α → Bool) (l : List α) (i : Nat) (h : i < l.length) (hp : p l[i] = false) : (l.drop i).any p = (l.drop (i + 1)).any p := by
 rw [List.drop_eq_getElem_cons h, List.any_cons, hp, Bool.false_or]
theorem any_yes {α : Type} (p : α → Bool) (l : List α) (i : Nat) (h : i < l.length) (hp : p l[i] = true) : (l.drop i).any p = true := by
 rw [List.drop_eq_getElem_cons h, List.any_cons, hp, Bool.true_or]
theorem any_end {α : Type} (p : α → Bool) (l : List α) (i : Nat) (h : l.length ≤ i) : (l.drop i).any p = false := by
 rw [List.drop_eq_nil_of_le h]; rfl
theorem lkU_clo (x : GLink) (cs : List Value) (p : Int) (g : Nat) (w : World) (h : aO.K w x cs) (hc : w.cell? ⟨g, 0, none⟩ = some (.int .i64 p)) : Calls Tryz.prog 213 #[.agg cs.toArray, .pointer (some ⟨g, 0, none⟩)] w (eX (upP p x) w) := by
 obtain ⟨Ax2, cx2, Ax4, cx4, Ax6, cx6, rfl, hlx2, hCx2, hlx4, hCx4, hlx6, hCx6⟩ := kL h
 refine enter 12 [(0, .agg #[.int .i64 (x.bT), .bool (x.Up), .slice Ax2 x.aH.length cx2, .int .i64 (x.Next), .slice Ax4 x.aI.length cx4, .int .i64 (x.bZ), .slice Ax6 x.aQ.length cx6]), (1, .pointer (some ⟨g, 0, none⟩))] Tryz.func213 rfl kR ?_
 intro xj
 have H1 : St w No [] w := St.enter
 refine wp_seq ?_
 refine aS [0, 1] rfl ?_
 refine aB ?_
 refine gG rfl rfl rfl rfl H1 ?_
 intro g_0_0 W2 hu3 Ha4; clear H1; clear hu3
 refine aB ?_
 refine aC rfl (aW rfl) rfl rfl ?_
 refine aN ?_
 refine aM ?_
 refine wp_seq ?_
 refine aS [0, 1, 2, 3, 4, 5, 6, 7, 8] rfl ?_
 refine aB ?_
 refine aC rfl (bB fa_178_0 rfl) rfl rfl ?_
 refine aB ?_
 refine aC rfl (bG (k := 0) (v := .int .i64 (x.bT)) Tryz.isAgg3 rfl (Ha4.blk 0 rfl) rfl) rfl rfl ?_
 refine aB ?_
 refine aC rfl (rn_load (v := .int .i64 (p)) Tryz.isAgg3 rfl (Ha4.1.read hc)) rfl rfl ?_
 by_cases hg6 : (x.bT : Int) = p
 ·refine aB ?_
  refine aC rfl (gH hg6 (iQ rfl rfl)) rfl rfl ?_
  refine aB ?_
  refine aC rfl (aK rfl) rfl rfl ?_
  refine aB ?_
  refine eO rfl rfl rfl rfl (fun _ ho7 => ?_)
  refine aC ho7 (bB fa_178_1 rfl) rfl rfl ?_
  by_cases hg8 : x.Up = true
  ·refine aB ?_
   refine eO rfl rfl rfl rfl (fun _ ho9 => ?_)
   refine aC ho9 (rn_bool (b := x.Up) hg8 (bG (k := 1) (v := .bool (x.Up)) Tryz.isAgg4 rfl (Ha4.blk 0 rfl) rfl)) rfl rfl ?_
   refine aB ?_
   refine aC rfl (dS (v := .bool (true)) (b := true) rfl rfl rfl rfl) rfl rfl ?_
   refine aB ?_
   refine aC rfl (aW rfl) rfl rfl ?_
   refine aN ?_
   refine aM ?_
   refine wp_ret ?_
   refine eY (.inl rfl) Tryz.results213 rfl ?_
   exact ⟨congrArg (fun z => Ending.returned (Value.bool z)) (by simp [upP, *]), Ha4.1⟩
  ·refine aB ?_
   refine eO rfl rfl rfl rfl (fun _ ho10 => ?_)
   refine aC ho10 (rn_bool (b := x.Up) (eq_false_of_ne_true hg8) (bG (k := 1) (v := .bool (x.Up)) Tryz.isAgg4 rfl (Ha4.blk 0 rfl) rfl)) rfl rfl ?_
   refine aB ?_
   refine aC rfl (dS (v := .bool (false)) (b := true) rfl rfl rfl rfl) rfl rfl ?_
   refine aB ?_
   refine aC rfl (aW rfl) rfl rfl ?_
   refine aN ?_
   refine aM ?_
   refine wp_ret ?_
   refine eY (.inl rfl) Tryz.results213 rfl ?_
   exact ⟨congrArg (fun z => Ending.returned (Value.bool z)) (by simp [upP, *]), Ha4.1⟩
 ·refine aB ?_
  refine aC rfl (fB hg6 (iQ rfl rfl)) rfl rfl ?_
  refine aB ?_
  refine aC rfl (aK rfl) rfl rfl ?_
  refine aB ?_
  refine bX rfl rfl rfl rfl rfl rfl rfl ?_
  refine aB ?_
  refine bX rfl rfl rfl rfl rfl rfl rfl ?_
  refine aB ?_
  refine aC rfl (dS (v := .bool (false)) (b := false) rfl rfl rfl rfl) rfl rfl ?_
  refine aB ?_
  refine aC rfl (aW rfl) rfl rfl ?_
  refine aN ?_
  refine aM ?_
  refine wp_ret ?_
  refine eY (.inl rfl) Tryz.results213 rfl ?_
  exact ⟨congrArg (fun z => Ending.returned (Value.bool z)) (by simp [upP, *]), Ha4.1⟩
theorem lkP_clo (x : GLink) (cs : List Value) (p : Int) (g : Nat) (w : World) (h : aO.K w x cs) (hc : w.cell? ⟨g, 0, none⟩ = some (.int .i64 p)) : Calls Tryz.prog 219 #[.agg cs.toArray, .pointer (some ⟨g, 0, none⟩)] w (eX (peP p x) w) := by
 obtain ⟨Ax2, cx2, Ax4, cx4, Ax6, cx6, rfl, hlx2, hCx2, hlx4, hCx4, hlx6, hCx6⟩ := kL h
 refine enter 8 [(0, .agg #[.int .i64 (x.bT), .bool (x.Up), .slice Ax2 x.aH.length cx2, .int .i64 (x.Next), .slice Ax4 x.aI.length cx4, .int .i64 (x.bZ), .slice Ax6 x.aQ.length cx6]), (1, .pointer (some ⟨g, 0, none⟩))] Tryz.func219 rfl kR ?_
 intro xj
 have H1 : St w No [] w := St.enter
 refine wp_seq ?_
 refine aS [0, 1] rfl ?_
 refine aB ?_
 refine gG rfl rfl rfl rfl H1 ?_
 intro g_0_0 W2 hu3 Ha4; clear H1; clear hu3
 refine aB ?_
 refine aC rfl (aW rfl) rfl rfl ?_
 refine aN ?_
 refine aM ?_
 refine wp_seq ?_
 refine aS [0, 1, 2, 3, 4] rfl ?_
 refine aB ?_
 refine aC rfl (bB fa_178_0 rfl) rfl rfl ?_
 refine aB ?_
 refine aC rfl (bG (k := 0) (v := .int .i64 (x.bT)) Tryz.isAgg3 rfl (Ha4.blk 0 rfl) rfl) rfl rfl ?_
 refine aB ?_
 refine aC rfl (rn_load (v := .int .i64 (p)) Tryz.isAgg3 rfl (Ha4.1.read hc)) rfl rfl ?_
 refine aB ?_
 refine aC rfl (iQ rfl rfl) rfl rfl ?_
 refine aB ?_
 refine aC rfl (aW rfl) rfl rfl ?_
 refine aN ?_
 refine aM ?_
 refine wp_ret ?_
 refine eY (.inl rfl) Tryz.results219 rfl ?_
 exact ⟨congrArg (fun z => Ending.returned (Value.bool z)) (by simp [peP, *]), Ha4.1⟩
theorem linkTo_i (l : List GLink) (p : Int) (u0 u1 u2 u4 : Value) (A : Option Addr) (c : Nat) (w : World) (h : C aO w A l) : Calls Tryz.prog 185 #[.agg #[u0, u1, u2, .slice A l.length c, u4], .int .i64 p] w (lQ (fidx (peP p) 0 l) w) := by
 refine enter 9 [(0, .agg #[u0, u1, u2, .slice A l.length c, u4]), (1, .int .i64 (p))] Tryz.func185 rfl kR ?_
 intro xj
 have H1 : St w No [] w := St.enter
 refine wp_seq ?_
 refine aS [0, 1, 2] rfl ?_
 refine aB ?_
 refine gG rfl rfl rfl rfl H1 ?_
 intro g_0_0 W2 hu3 Ha4; clear H1; clear hu3
 refine aB ?_
 refine gG rfl rfl rfl rfl Ha4 ?_
 intro g_0_1 W6 hu7 Ha8; clear Ha4; clear hu7
 refine aB ?_
 refine aC rfl (aW rfl) rfl rfl ?_
 refine aN ?_
 refine aM ?_
 refine wp_seq ?_
 refine aS [0, 1, 2, 3, 4] rfl ?_
 refine aB ?_
 refine aC rfl (bB iK rfl) rfl rfl ?_
 refine aB ?_
 refine aC rfl (bG (k := 3) (v := .slice A l.length c) Tryz.isAgg65 rfl (Ha8.blk 1 rfl) rfl) rfl rfl ?_
 refine aB ?_
 refine aC rfl (nZ (us := #[]) (vs := #[.pointer (some ⟨g_0_1, 0, none⟩)]) rfl rfl) rfl rfl ?_
 refine aB ?_
 refine aV rfl Tryz.call218 (vs := #[.slice A l.length c, .func (.func 219) #[] #[.pointer (some ⟨g_0_1, 0, none⟩)]]) rfl rfl rfl (lkP_idx (.pointer (some ⟨g_0_1, 0, none⟩)) (peP p) l _ _ _ (bK Ha8.1 h) (fun x cs w' hu hK => lkP_clo x cs p _ w' hK (hu.read ((Ha8.blk 0 rfl).at 0 rfl)))) ?_
 rintro e12 W11 ⟨rfl, hu10⟩; refine ⟨_, rfl, ?_⟩
 have H13 := Ha8.no hu10; clear Ha8
 refine aB ?_
 refine aC rfl (aW rfl) rfl rfl ?_
 refine aN ?_
 refine aM ?_
 refine wp_ret ?_
 refine eY (.inl rfl) Tryz.results185 rfl ?_
 exact ⟨rfl, H13.1⟩
theorem link_yes (l : List GLink) (p : Int) (g c0 : Nat) (A0 : Option Addr) (u0 u1 u2 u4 : Value) (F0 : Nat → Prop) (w : World) (h : Star [hB g 68 #[u0, u1, u2, .slice A0 l.length c0, u4], hR aO 178 (.slice A0 l.length c0) l] w F0) (hup : l.any (upP p) = true) (k : Nat) (hk : k < l.length) (hf : fidx (peP p) 0 l = k) : Calls Tryz.prog 167 #[.pointer (some ⟨g, 0, none⟩), .int .i64 p] w (fun e' w' => ∃ a, A0 = some a ∧ e' = .returned (.pointer (some (Addr.add a (k * 7)))) ∧ St w F0 [hB g 68 #[u0, u1, u2, .slice A0 l.length c0, u4], hR aO 178 (.slice A0 l.length c0) l] w') := by
 refine enter 29 [(0, .pointer (some ⟨g, 0, none⟩)), (1, .int .i64 (p))] Tryz.func167 rfl kR ?_
 intro xj
 have H1 : St w F0 [hB g 68 #[u0, u1, u2, .slice A0 l.length c0, u4], hR aO 178 (.slice A0 l.length c0) l] w := St.kP h
 refine wp_seq ?_
 refine aS [0, 1] rfl ?_
 refine aB ?_
 refine gG rfl rfl rfl rfl H1 ?_
 intro g_0_0 W2 hu3 Ha4; clear H1; clear hu3
 refine aB ?_
 refine aC rfl (aW rfl) rfl rfl ?_
 refine aN ?_
 refine aM ?_
 refine wp_seq ?_
 refine aS [0, 1, 2, 3, 4, 5, 6] rfl ?_
 refine aB ?_
 refine aC rfl (aK rfl) rfl rfl ?_
 refine aB ?_
 refine aC rfl (dB rfl) rfl rfl ?_
 refine aB ?_
 refine aC rfl (bB iK rfl) rfl rfl ?_
 refine aB ?_
 refine aC rfl (bG (k := 3) (v := .slice A0 l.length c0) Tryz.isAgg65 rfl (Ha4.blk 1 rfl) rfl) rfl rfl ?_
 refine aB ?_
 refine aC rfl (nZ (us := #[]) (vs := #[.pointer (some ⟨g_0_0, 0, none⟩)]) rfl rfl) rfl rfl ?_
 refine aB ?_
 refine aV rfl Tryz.call212 (vs := #[.slice A0 l.length c0, .func (.func 213) #[] #[.pointer (some ⟨g_0_0, 0, none⟩)]]) rfl rfl rfl (retb (lkU_has (.pointer (some ⟨g_0_0, 0, none⟩)) (upP p) l _ _ _ (Ha4.fC 2 rfl) (fun x cs w' hu hK => lkU_clo x cs p _ w' hK (hu.read ((Ha4.blk 0 rfl).at 0 rfl)))) hup) ?_
 rintro e8 W7 ⟨rfl, hu6⟩; refine ⟨_, rfl, ?_⟩
 have H9 := Ha4.no hu6; clear Ha4
 refine aB ?_
 refine aC rfl (aW rfl) rfl rfl ?_
 refine aN ?_
 refine aM ?_
 refine wp_seq ?_
 refine wp_seq ?_
 refine eH (fun W' => Blk W' g 68 #[u0, u1, u2, .slice A0 l.length c0, u4] ∧ Blk W' g_0_0 3 #[.int .i64 (p)]) 6 kR ?_
 have H10 := H9.drew; clear H9
 have hS11 : Blk W7.drew g 68 #[u0, u1, u2, .slice A0 l.length c0, u4] ∧ Blk W7.drew g_0_0 3 #[.int .i64 (p)] := ⟨H10.blk 1 rfl, H10.blk 0 rfl⟩
 refine aF (i := 0) rfl kR kR kR kR kR (fun _ _ _ h => h) rfl rfl hS11 (fun W' hs' => aK rfl) ?_
 refine aF (i := 1) rfl kR kR kR kR kR (fun _ _ _ h => h) rfl rfl hS11 (fun W' hs' => dB rfl) ?_
 refine aF (i := 2) rfl kR kR kR kR kR (fun _ _ _ h => h) rfl rfl hS11 (fun W' hs' => bI Tryz.isAgg68 Tryz.sizeOf68 rfl hs'.1 rfl) ?_
 refine aF (i := 3) rfl kR kR kR kR kR (fun _ _ _ h => h) rfl rfl hS11 (fun W' hs' => bG (k := 0) (v := .int .i64 (p)) Tryz.isAgg3 rfl hs'.2 rfl) ?_
 refine aL (i := 4) kR ?_
 refine aV rfl Tryz.call185 (vs := #[.agg #[u0, u1, u2, .slice A0 l.length c0, u4], .int .i64 (p)]) rfl rfl rfl (hf ▸ (linkTo_i l p _ _ _ _ _ _ _ (H10.fC 2 rfl))) ?_
 rintro e14 W13 ⟨rfl, hu12⟩; refine ⟨_, rfl, ?_⟩
 have H15 := H10.no hu12; clear H10
 have hS16 := And.intro (H15.blk 1 rfl) (H15.blk 0 rfl); refine ⟨fun _ => hS16, ?_⟩
 refine aF (i := 5) rfl kR kR kR kR kR (fun _ _ _ h => h) rfl rfl hS16 (fun W' hs' => aW rfl) ?_
 refine bD kR ?_ _
 refine aM ?_
 refine wp_seq ?_
 refine aS [0, 1, 2, 3, 4] rfl ?_
 refine aB ?_
 refine aC rfl (aK rfl) rfl rfl ?_
 refine aB ?_
 refine aC rfl (gH (p := (0 : Int) ≤ ((k : Nat) : Int)) kO (rn_geq (p := ((k : Nat) : Int)) (q := 0) rfl rfl)) rfl rfl ?_
 refine aB ?_
 refine aC rfl (aK rfl) rfl rfl ?_
 refine aB ?_
 refine eO rfl rfl rfl rfl (fun _ ho17 => ?_)
 refine aC ho17 (aK rfl) rfl rfl ?_
 refine aB ?_
 refine aC rfl (dS (v := .bool (true)) (b := true) rfl rfl rfl rfl) rfl rfl ?_
 refine aN ?_
 refine aM ?_
 refine jB rfl ?_
 refine wp_seq ?_
 obtain ⟨ad, cse, hA, hKe, hce⟩ := lS (H15.fC 2 rfl) k hk
 refine aS [0, 1, 2, 3, 4, 5, 6] rfl ?_
 refine aB ?_
 refine aC rfl (aK rfl) rfl rfl ?_
 refine aB ?_
 refine aC rfl (dB rfl) rfl rfl ?_
 refine aB ?_
 refine aC rfl (bB iK rfl) rfl rfl ?_
 refine aB ?_
 refine aC rfl (bG (k := 3) (v := .slice A0 l.length c0) Tryz.isAgg65 rfl (H15.blk 1 rfl) rfl) rfl rfl ?_
 refine aB ?_
 refine aC rfl (aK rfl) rfl rfl ?_
 refine aB ?_
 refine aC rfl (fD (k := k) Tryz.runUnderlying65 Tryz.sizeOf178 rfl rfl hA hk) rfl rfl ?_
 refine aB ?_
 refine aC rfl (aW rfl) rfl rfl ?_
 refine aN ?_
 refine aM ?_
 refine wp_ret ?_
 refine eB ?_
 refine eY (.inl rfl) Tryz.results167 rfl ?_
 exact ⟨_, hA, rfl, H15.pick [1, 2] kD rfl⟩
theorem link_no (l : List GLink) (p : Int) (g c0 : Nat) (A0 : Option Addr) (u0 u1 u2 u4 : Value) (F0 : Nat → Prop) (w : World) (h : Star [hB g 68 #[u0, u1, u2, .slice A0 l.length c0, u4], hR aO 178 (.slice A0 l.length c0) l] w F0) (hup : l.any (upP p) = false) : Calls Tryz.prog 167 #[.pointer (some ⟨g, 0, none⟩), .int .i64 p] w (fun e' w' => e' = .returned (.pointer none) ∧ St w F0 [hB g 68 #[u0, u1, u2, .slice A0 l.length c0, u4], hR aO 178 (.slice A0 l.length c0) l] w') := by
 refine enter 29 [(0, .pointer (some ⟨g, 0, none⟩)), (1, .int .i64 (p))] Tryz.func167 rfl kR ?_
 intro xj
 have H1 : St w F0 [hB g 68 #[u0, u1, u2, .slice A0 l.length c0, u4], hR aO 178 (.slice A0 l.length c0) l] w := St.kP h
 refine wp_seq ?_
 refine aS [0, 1] rfl ?_
 refine aB ?_
 refine gG rfl rfl rfl rfl H1 ?_
 intro g_0_0 W2 hu3 Ha4; clear H1; clear hu3
 refine aB ?_
 refine aC rfl (aW rfl) rfl rfl ?_
 refine aN ?_
 refine aM ?_
 refine wp_seq ?_
 refine aS [0, 1, 2, 3, 4, 5, 6] rfl ?_
 refine aB ?_
 refine aC rfl (aK rfl) rfl rfl ?_
 refine aB ?_
 refine aC rfl (dB rfl) rfl rfl ?_
 refine aB ?_
 refine aC rfl (bB iK rfl) rfl rfl ?_
 refine aB ?_
 refine aC rfl (bG (k := 3) (v := .slice A0 l.length c0) Tryz.isAgg65 rfl (Ha4.blk 1 rfl) rfl) rfl rfl ?_
 refine aB ?_
 refine aC rfl (nZ (us := #[]) (vs := #[.pointer (some ⟨g_0_0, 0, none⟩)]) rfl rfl) rfl rfl ?_
 refine aB ?_
 refine aV rfl Tryz.call212 (vs := #[.slice A0 l.length c0, .func (.func 213) #[] #[.pointer (some ⟨g_0_0, 0, none⟩)]]) rfl rfl rfl (retb (lkU_has (.pointer (some ⟨g_0_0, 0, none⟩)) (upP p) l _ _ _ (Ha4.fC 2 rfl) (fun x cs w' hu hK => lkU_clo x cs p _ w' hK (hu.read ((Ha4.blk 0 rfl).at 0 rfl)))) hup) ?_
 rintro e8 W7 ⟨rfl, hu6⟩; refine ⟨_, rfl, ?_⟩
 have H9 := Ha4.no hu6; clear Ha4
 refine aB ?_
 refine aC rfl (aW rfl) rfl rfl ?_
 refine aN ?_
 refine aM ?_
 refine wp_seq ?_
 refine wp_seq ?_
 refine eH (fun W' => Blk W' g 68 #[u0, u1, u2, .slice A0 l.length c0, u4] ∧ Blk W' g_0_0 3 #[.int .i64 (p)]) 6 kR ?_
 have H10 := H9.drew; clear H9
 have hS11 : Blk W7.drew g 68 #[u0, u1, u2, .slice A0 l.length c0, u4] ∧ Blk W7.drew g_0_0 3 #[.int .i64 (p)] := ⟨H10.blk 1 rfl, H10.blk 0 rfl⟩
 refine aF (i := 0) rfl kR kR kR kR kR (fun _ _ _ h => h) rfl rfl hS11 (fun W' hs' => aK rfl) ?_
 refine aF (i := 1) rfl kR kR kR kR kR (fun _ _ _ h => h) rfl rfl hS11 (fun W' hs' => dB rfl) ?_
 refine aF (i := 2) rfl kR kR kR kR kR (fun _ _ _ h => h) rfl rfl hS11 (fun W' hs' => bI Tryz.isAgg68 Tryz.sizeOf68 rfl hs'.1 rfl) ?_
 refine aF (i := 3) rfl kR kR kR kR kR (fun _ _ _ h => h) rfl rfl hS11 (fun W' hs' => bG (k := 0) (v := .int .i64 (p)) Tryz.isAgg3 rfl hs'.2 rfl) ?_
 refine aL (i := 4) kR ?_
 refine aV rfl Tryz.call185 (vs := #[.agg #[u0, u1, u2, .slice A0 l.length c0, u4], .int .i64 (p)]) rfl rfl rfl (linkTo_i l p _ _ _ _ _ _ _ (H10.fC 2 rfl)) ?_
 rintro e14 W13 ⟨rfl, hu12⟩; refine ⟨_, rfl, ?_⟩
 have H15 := H10.no hu12; clear H10
 have hS16 := And.intro (H15.blk 1 rfl) (H15.blk 0 rfl); refine ⟨fun _ => hS16, ?_⟩
 refine aF (i := 5) rfl kR kR kR kR kR (fun _ _ _ h => h) rfl rfl hS16 (fun W' hs' => aW rfl) ?_
 refine bD kR ?_ _
 refine aM ?_
 refine wp_seq ?_
 refine aS [0, 1, 2, 3, 4] rfl ?_
 refine aB ?_
 refine aC rfl (aK rfl) rfl rfl ?_
 by_cases hg17 : (0 : Int) ≤ (fidx (peP p) 0 l)
 ·refine aB ?_
  refine aC rfl (gH hg17 (rn_geq rfl rfl)) rfl rfl ?_
  refine aB ?_
  refine aC rfl (aK rfl) rfl rfl ?_
  refine aB ?_
  refine eO rfl rfl rfl rfl (fun _ ho18 => ?_)
  refine aC ho18 (aK rfl) rfl rfl ?_
  refine aB ?_
  refine aC rfl (dS (v := .bool (false)) (b := true) rfl rfl rfl rfl) rfl rfl ?_
  refine aN ?_
  refine aM ?_
  refine fO rfl ?_
  refine wp_skip ?_
  refine aM ?_
  refine wp_seq ?_
  refine aS [0] rfl ?_
  refine aB ?_
  refine aC rfl (aW rfl) rfl rfl ?_
  refine aN ?_
  refine aM ?_
  refine wp_ret ?_
  refine eY (.inl rfl) Tryz.results167 rfl ?_
  exact ⟨rfl, H15.pick [1, 2] kD rfl⟩
 ·refine aB ?_
  refine aC rfl (fB hg17 (rn_geq rfl rfl)) rfl rfl ?_
  refine aB ?_
  refine aC rfl (aK rfl) rfl rfl ?_
  refine aB ?_
  refine bX rfl rfl rfl rfl rfl rfl rfl ?_
  refine aB ?_
  refine aC rfl (dS (v := .bool (false)) (b := false) rfl rfl rfl rfl) rfl rfl ?_
  refine aN ?_
  refine aM ?_
  refine fO rfl ?_
  refine wp_skip ?_
  refine aM ?_
  refine wp_seq ?_
  refine aS [0] rfl ?_
  refine aB ?_
  refine aC rfl (aW rfl) rfl rfl ?_
  refine aN ?_
  refine aM ?_
  refine wp_ret ?_
  refine eY (.inl rfl) Tryz.results167 rfl ?_
  exact ⟨rfl, H15.pick [1, 2] kD rfl⟩
theorem isUp_s (x : GVat) (p : Int) (cs : List Value) (hl : x.aD.length ≤ 4194304) (w : World) (h : aG.K w x cs) : Calls Tryz.prog 91 #[.agg cs.toArray, .int .i64 p] w (eX (x.aD.any (upP p)) w) := by
 obtain ⟨Ax1, cx1, Ax2, cx2, Ax3, cx3, Ax4, cx4, rfl, hlx1, hCx1, hlx2, hCx2, hlx3, hCx3, hlx4, hCx4⟩ := kJ h
 refine enter 29 [(0, .agg #[.int .i64 (x.Id), .slice Ax1 x.aA.length cx1, .slice Ax2 x.Loop.length cx2, .slice Ax3 x.aD.length cx3, .slice Ax4 x.Out.length cx4]), (1, .int .i64 (p))] Tryz.func91 rfl kR ?_
 intro xj
 have H1 : St w No [] w := St.enter
 refine wp_seq ?_
 refine aS [0, 1] rfl ?_
 refine aB ?_
 refine gG rfl rfl rfl rfl H1 ?_
 intro g_0_0 W2 hu3 Ha4; clear H1; clear hu3
 refine aB ?_
 refine aC rfl (aW rfl) rfl rfl ?_
 refine aN ?_
 refine aM ?_
 refine wp_seq ?_
 refine wp_seq ?_
 refine aS [0] rfl ?_
 refine aB ?_
 refine aC rfl (aW rfl) rfl rfl ?_
 refine aN ?_
 refine aM ?_
 refine wp_block ?_
 refine wp_loop_ghost (fun r a' W' => ∃ (i1 : Nat) (x' : Nat → Value), a' = bO 29 x' [(1, .int .i64 (p)), (2, .pointer (some ⟨g_0_0, 0, none⟩)), (5, .int .i64 (((i1 : Nat) : Int)))] ∧ (i1 + r = x.aD.length) ∧ (x.aD.any (upP p) = (x.aD.drop i1).any (upP p)) ∧ St w No [hB g_0_0 68 #[.int .i64 (x.Id), .slice Ax1 x.aA.length cx1, .slice Ax2 x.Loop.length cx2, .slice Ax3 x.aD.length cx3, .slice Ax4 x.Out.length cx4]] W') x.aD.length ?_ ?_
 ·exact (aZ [(1, .int .i64 (p)), (2, .pointer (some ⟨g_0_0, 0, none⟩)), (5, .int .i64 (((0 : Nat) : Int)))] rfl).elim fun x' hx => ⟨0, x', hx, kO, (by rw [List.drop_zero]), Ha4⟩
 ·rintro r6 _ W7 ⟨i1, x8, rfl, hi1, hf1, H9⟩; clear Ha4
  refine wp_seq ?_
  refine wp_seq ?_
  refine aS [0, 1, 2, 3, 4] rfl ?_
  refine aB ?_
  refine aC rfl (aK rfl) rfl rfl ?_
  refine aB ?_
  refine aC rfl (bB iK rfl) rfl rfl ?_
  refine aB ?_
  refine aC rfl (bG (k := 3) (v := .slice Ax3 x.aD.length cx3) Tryz.isAgg65 rfl (H9.blk 0 rfl) rfl) rfl rfl ?_
  refine aB ?_
  refine aC rfl (jY Tryz.runUnderlying65 rfl) rfl rfl ?_
  refine aB ?_
  refine aC rfl (iW rfl rfl) rfl rfl ?_
  refine aN ?_
  refine aM ?_
  refine gU rfl (fun hc10 => ?_) (fun hc10 => ?_)
  ·have hlt1 : i1 < x.aD.length := by omega
   obtain ⟨ade11, cse11, hAe11, hKe11, hce11⟩ := lS hCx3 i1 hlt1
   have hle11 := lZ hKe11
   have hoe11 := nW hKe11
   obtain ⟨Aade11_2, cade11_2, Aade11_4, cade11_4, Aade11_6, cade11_6, rfl, hlade11_2, hCade11_2, hlade11_4, hCade11_4, hlade11_6, hCade11_6⟩ := kL hKe11
   refine wp_skip ?_
   refine aM ?_
   refine wp_seq ?_
   refine wp_block ?_
   refine wp_seq ?_
   refine aS [0, 1, 2, 3, 4, 5, 6, 7, 8, 9, 10, 11, 12, 13, 14, 15] rfl ?_
   refine aB ?_
   refine aC rfl (bB iK rfl) rfl rfl ?_
   refine aB ?_
   refine aC rfl (bG (k := 3) (v := .slice Ax3 x.aD.length cx3) Tryz.isAgg65 rfl (H9.blk 0 rfl) rfl) rfl rfl ?_
   refine aB ?_
   refine aC rfl (aK rfl) rfl rfl ?_
   refine aB ?_
   refine aC rfl (fD (k := i1) Tryz.runUnderlying65 Tryz.sizeOf178 rfl rfl hAe11 hlt1) rfl rfl ?_
   refine aB ?_
   refine aC rfl (bB fa_178_0 rfl) rfl rfl ?_
   refine aB ?_
   refine aC rfl (gI (v := .int .i64 (x.aD[i1].bT)) Tryz.isAgg3 rfl (Cat.upd hce11 H9.1) rfl) rfl rfl ?_
   refine aB ?_
   refine aC rfl (aK rfl) rfl rfl ?_
   by_cases hg12 : ((x.aD[i1].bT) : Int) = p
   ·refine aB ?_
    refine aC rfl (gH hg12 (iQ rfl rfl)) rfl rfl ?_
    refine aB ?_
    refine aC rfl (aK rfl) rfl rfl ?_
    refine aB ?_
    refine eO rfl rfl rfl rfl (fun _ ho13 => ?_)
    refine aC ho13 (bB iK rfl) rfl rfl ?_
    refine aB ?_
    refine eO rfl rfl rfl rfl (fun _ ho14 => ?_)
    refine aC ho14 (bG (k := 3) (v := .slice Ax3 x.aD.length cx3) Tryz.isAgg65 rfl (H9.blk 0 rfl) rfl) rfl rfl ?_
    refine aB ?_
    refine eO rfl rfl rfl rfl (fun _ ho15 => ?_)
    refine aC ho15 (aK rfl) rfl rfl ?_
    refine aB ?_
    refine eO rfl rfl rfl rfl (fun _ ho16 => ?_)
    refine aC ho16 (fD (k := i1) Tryz.runUnderlying65 Tryz.sizeOf178 rfl rfl hAe11 hlt1) rfl rfl ?_
    refine aB ?_
    refine eO rfl rfl rfl rfl (fun _ ho17 => ?_)
    refine aC ho17 (bB fa_178_1 rfl) rfl rfl ?_
    by_cases hg18 : (x.aD[i1].Up) = true
    ·refine aB ?_
     refine eO rfl rfl rfl rfl (fun _ ho19 => ?_)
     refine aC ho19 (rn_bool (b := x.aD[i1].Up) hg18 (gI (v := .bool (x.aD[i1].Up)) Tryz.isAgg4 rfl (Cat.upd hce11 H9.1) rfl)) rfl rfl ?_
     refine aB ?_
     refine aC rfl (dS (v := .bool (true)) (b := true) rfl rfl rfl rfl) rfl rfl ?_
     refine aN ?_
     refine aM ?_
     refine jB rfl ?_
     refine wp_seq ?_
     refine aS [0] rfl ?_
     refine aB ?_
     refine aC rfl (aW rfl) rfl rfl ?_
     refine aN ?_
     refine aM ?_
     refine wp_ret ?_
     refine kQ ?_
     refine eB ?_
     refine eB ?_
     refine kQ ?_
     refine eB ?_
     refine eY (.inl rfl) Tryz.results91 rfl ?_
     exact ⟨by rw [hf1, any_yes (upP p) x.aD _ hlt1 (by simp only [upP, Bool.and_eq_true]; exact ⟨decide_eq_true (by assumption), by assumption⟩)], H9.1⟩
    ·refine aB ?_
     refine eO rfl rfl rfl rfl (fun _ ho20 => ?_)
     refine aC ho20 (rn_bool (b := x.aD[i1].Up) (eq_false_of_ne_true hg18) (gI (v := .bool (x.aD[i1].Up)) Tryz.isAgg4 rfl (Cat.upd hce11 H9.1) rfl)) rfl rfl ?_
     refine aB ?_
     refine aC rfl (dS (v := .bool (false)) (b := true) rfl rfl rfl rfl) rfl rfl ?_
     refine aN ?_
     refine aM ?_
     refine fO rfl ?_
     refine wp_skip ?_
     refine inB_n ?_
     refine aM ?_
     refine aS [0, 1, 2] rfl ?_
     refine aB ?_
     refine aC rfl (aK rfl) rfl rfl ?_
     refine aB ?_
     refine aC rfl (lT (k := i1) rfl rfl kO) rfl rfl ?_
     refine aB ?_
     refine aC rfl (aW rfl) rfl rfl ?_
     refine aN ?_
     refine aM ?_
     exact (aZ [(1, .int .i64 (p)), (2, .pointer (some ⟨g_0_0, 0, none⟩)), (5, .int .i64 (((i1 + 1 : Nat) : Int)))] rfl).elim fun x' hx => ⟨r6 - 1, kO, i1 + 1, x', hx, kO, (hf1.trans (any_no (upP p) x.aD i1 hlt1 (by simp only [upP, Bool.and_eq_false_iff]; first | exact .inl (decide_eq_false (by assumption)) | exact .inr (Bool.eq_false_iff.2 (by assumption))))), H9⟩
   ·refine aB ?_
    refine aC rfl (fB hg12 (iQ rfl rfl)) rfl rfl ?_
    refine aB ?_
    refine aC rfl (aK rfl) rfl rfl ?_
    refine aB ?_
    refine bX rfl rfl rfl rfl rfl rfl rfl ?_
    refine aB ?_
    refine bX rfl rfl rfl rfl rfl rfl rfl ?_
    refine aB ?_
    refine bX rfl rfl rfl rfl rfl rfl rfl ?_
    refine aB ?_
    refine bX rfl rfl rfl rfl rfl rfl rfl ?_
    refine aB ?_
    refine bX rfl rfl rfl rfl rfl rfl rfl ?_
    refine aB ?_
    refine bX rfl rfl rfl rfl rfl rfl rfl ?_
    refine aB ?_
    refine aC rfl (dS (v := .bool (false)) (b := false) rfl rfl rfl rfl) rfl rfl ?_
    refine aN ?_
    refine aM ?_
    refine fO rfl ?_
    refine wp_skip ?_
    refine inB_n ?_
    refine aM ?_
    refine aS [0, 1, 2] rfl ?_
    refine aB ?_
    refine aC rfl (aK rfl) rfl rfl ?_
    refine aB ?_
    refine aC rfl (lT (k := i1) rfl rfl kO) rfl rfl ?_
    refine aB ?_
    refine aC rfl (aW rfl) rfl rfl ?_
    refine aN ?_
    refine aM ?_
    exact (aZ [(1, .int .i64 (p)), (2, .pointer (some ⟨g_0_0, 0, none⟩)), (5, .int .i64 (((i1 + 1 : Nat) : Int)))] rfl).elim fun x' hx => ⟨r6 - 1, kO, i1 + 1, x', hx, kO, (hf1.trans (any_no (upP p) x.aD i1 hlt1 (by simp only [upP, Bool.and_eq_false_iff]; first | exact .inl (decide_eq_false (by assumption)) | exact .inr (Bool.eq_false_iff.2 (by assumption))))), H9⟩
  ·have hge1 : x.aD.length ≤ i1 := by omega
   refine wp_exit ?_
   refine iF ?_
   refine iF ?_
   refine inB_x ?_
   refine aM ?_
   refine wp_seq ?_
   refine aS [0] rfl ?_
   refine aB ?_
   refine aC rfl (aW rfl) rfl rfl ?_
   refine aN ?_
   refine aM ?_
   refine wp_ret ?_
   refine eY (.inl rfl) Tryz.results91 rfl ?_
   exact ⟨by rw [hf1, any_end (upP p) x.aD _ hge1], H9.1⟩
theorem l1In_s (x lo hi : Int) (w : World) : Calls Tryz.prog 115 #[.int .i64 x, .int .i64 lo, .int .i64 hi] w (eX (decide (lo ≤ x ∧ x ≤ hi)) w) := by
 by_cases h1 : lo ≤ x
 ·by_cases h2 : x ≤ hi
  ·refine enter 15 [(0, .int .i64 (x)), (1, .int .i64 (lo)), (2, .int .i64 (hi))] Tryz.func115 rfl kR ?_
   intro xj
   have H1 : St w No [] w := St.enter
   refine wp_seq ?_
   refine aS [0] rfl ?_
   refine aB ?_
   refine aC rfl (aW rfl) rfl rfl ?_
   refine aN ?_
   refine aM ?_
   refine wp_seq ?_
   refine aS [0, 1, 2, 3, 4, 5, 6, 7, 8] rfl ?_
   refine aB ?_
   refine aC rfl (aK rfl) rfl rfl ?_
   refine aB ?_
   refine aC rfl (aK rfl) rfl rfl ?_
   refine aB ?_
   refine aC rfl (gH (p := (lo : Int) ≤ x) h1 (rn_geq (p := x) (q := lo) rfl rfl)) rfl rfl ?_
   refine aB ?_
   refine aC rfl (aK rfl) rfl rfl ?_
   refine aB ?_
   refine eO rfl rfl rfl rfl (fun _ ho2 => ?_)
   refine aC ho2 (aK rfl) rfl rfl ?_
   refine aB ?_
   refine eO rfl rfl rfl rfl (fun _ ho3 => ?_)
   refine aC ho3 (aK rfl) rfl rfl ?_
   refine aB ?_
   refine eO rfl rfl rfl rfl (fun _ ho4 => ?_)
   refine aC ho4 (gH (p := (x : Int) ≤ hi) h2 (rn_leq (p := x) (q := hi) rfl rfl)) rfl rfl ?_
   refine aB ?_
   refine aC rfl (dS (v := .bool (true)) (b := true) rfl rfl rfl rfl) rfl rfl ?_
   refine aB ?_
   refine aC rfl (aW rfl) rfl rfl ?_
   refine aN ?_
   refine aM ?_
   refine wp_ret ?_
   refine eY (.inl rfl) Tryz.results115 rfl ?_
   exact ⟨by rw [decide_eq_true (⟨h1, h2⟩ : lo ≤ x ∧ x ≤ hi)], H1.1⟩
  ·refine enter 15 [(0, .int .i64 (x)), (1, .int .i64 (lo)), (2, .int .i64 (hi))] Tryz.func115 rfl kR ?_
   intro xj
   have H1 : St w No [] w := St.enter
   refine wp_seq ?_
   refine aS [0] rfl ?_
   refine aB ?_
   refine aC rfl (aW rfl) rfl rfl ?_
   refine aN ?_
   refine aM ?_
   refine wp_seq ?_
   refine aS [0, 1, 2, 3, 4, 5, 6, 7, 8] rfl ?_
   refine aB ?_
   refine aC rfl (aK rfl) rfl rfl ?_
   refine aB ?_
   refine aC rfl (aK rfl) rfl rfl ?_
   refine aB ?_
   refine aC rfl (gH (p := (lo : Int) ≤ x) h1 (rn_geq (p := x) (q := lo) rfl rfl)) rfl rfl ?_
   refine aB ?_
   refine aC rfl (aK rfl) rfl rfl ?_
   refine aB ?_
   refine eO rfl rfl rfl rfl (fun _ ho2 => ?_)
   refine aC ho2 (aK rfl) rfl rfl ?_
   refine aB ?_
   refine eO rfl rfl rfl rfl (fun _ ho3 => ?_)
   refine aC ho3 (aK rfl) rfl rfl ?_
   refine aB ?_
   refine eO rfl rfl rfl rfl (fun _ ho4 => ?_)
   refine aC ho4 (fB (p := (x : Int) ≤ hi) h2 (rn_leq (p := x) (q := hi) rfl rfl)) rfl rfl ?_
   refine aB ?_
   refine aC rfl (dS (v := .bool (false)) (b := true) rfl rfl rfl rfl) rfl rfl ?_
   refine aB ?_
   refine aC rfl (aW rfl) rfl rfl ?_
   refine aN ?_
   refine aM ?_
   refine wp_ret ?_
   refine eY (.inl rfl) Tryz.results115 rfl ?_
   exact ⟨by rw [decide_eq_false (fun q : lo ≤ x ∧ x ≤ hi => h2 q.2)], H1.1⟩
 ·refine enter 15 [(0, .int .i64 (x)), (1, .int .i64 (lo)), (2, .int .i64 (hi))] Tryz.func115 rfl kR ?_
  intro xj
  have H1 : St w No [] w := St.enter
  refine wp_seq ?_
  refine aS [0] rfl ?_
  refine aB ?_
  refine aC rfl (aW rfl) rfl rfl ?_
  refine aN ?_
  refine aM ?_
  refine wp_seq ?_
  refine aS [0, 1, 2, 3, 4, 5, 6, 7, 8] rfl ?_
  refine aB ?_
  refine aC rfl (aK rfl) rfl rfl ?_
  refine aB ?_
  refine aC rfl (aK rfl) rfl rfl ?_
  refine aB ?_
  refine aC rfl (fB (p := (lo : Int) ≤ x) h1 (rn_geq (p := x) (q := lo) rfl rfl)) rfl rfl ?_
  refine aB ?_
  refine aC rfl (aK rfl) rfl rfl ?_
  refine aB ?_
  refine bX rfl rfl rfl rfl rfl rfl rfl ?_
  refine aB ?_
  refine bX rfl rfl rfl rfl rfl rfl rfl ?_
  refine aB ?_
  refine bX rfl rfl rfl rfl rfl rfl rfl ?_
  refine aB ?_
  refine aC rfl (dS (v := .bool (false)) (b := false) rfl rfl rfl rfl) rfl rfl ?_
  refine aB ?_
  refine aC rfl (aW rfl) rfl rfl ?_
  refine aN ?_
  refine aM ?_
  refine wp_ret ?_
  refine eY (.inl rfl) Tryz.results115 rfl ?_
  exact ⟨by rw [decide_eq_false (fun q : lo ≤ x ∧ x ≤ hi => h1 q.1)], H1.1⟩
theorem l1In_s_t (x lo hi : Int) (w : World) (h : lo ≤ x ∧ x ≤ hi) : Calls Tryz.prog 115 #[.int .i64 x, .int .i64 lo, .int .i64 hi] w (eX true w) := by
 have := l1In_s x lo hi w
 rwa [decide_eq_true h] at this
theorem l1In_s_f (x lo hi : Int) (w : World) (h : ¬ (lo ≤ x ∧ x ≤ hi)) : Calls Tryz.prog 115 #[.int .i64 x, .int .i64 lo, .int .i64 hi] w (eX false w) := by
 have := l1In_s x lo hi w
 rwa [decide_eq_false h] at this
theorem in_i (x lo hi : Int) (w : World) : Calls Tryz.prog 119 #[.int .i64 x, .int .i64 lo, .int .i64 hi] w (eX (decide (lo ≤ x ∧ x ≤ hi)) w) := by
 by_cases h1 : lo ≤ x
 ·by_cases h2 : x ≤ hi
  ·refine enter 15 [(0, .int .i64 (x)), (1, .int .i64 (lo)), (2, .int .i64 (hi))] Tryz.func119 rfl kR ?_
   intro xj
   have H1 : St w No [] w := St.enter
   refine wp_seq ?_
   refine aS [0] rfl ?_
   refine aB ?_
   refine aC rfl (aW rfl) rfl rfl ?_
   refine aN ?_
   refine aM ?_
   refine wp_seq ?_
   refine aS [0, 1, 2, 3, 4, 5, 6, 7, 8] rfl ?_
   refine aB ?_
   refine aC rfl (aK rfl) rfl rfl ?_
   refine aB ?_
   refine aC rfl (aK rfl) rfl rfl ?_
   refine aB ?_
   refine aC rfl (gH (p := (lo : Int) ≤ x) h1 (rn_leq (p := lo) (q := x) rfl rfl)) rfl rfl ?_
   refine aB ?_
   refine aC rfl (aK rfl) rfl rfl ?_
   refine aB ?_
   refine eO rfl rfl rfl rfl (fun _ ho2 => ?_)
   refine aC ho2 (aK rfl) rfl rfl ?_
   refine aB ?_
   refine eO rfl rfl rfl rfl (fun _ ho3 => ?_)
   refine aC ho3 (aK rfl) rfl rfl ?_
   refine aB ?_
   refine eO rfl rfl rfl rfl (fun _ ho4 => ?_)
   refine aC ho4 (gH (p := (x : Int) ≤ hi) h2 (rn_leq (p := x) (q := hi) rfl rfl)) rfl rfl ?_
   refine aB ?_
   refine aC rfl (dS (v := .bool (true)) (b := true) rfl rfl rfl rfl) rfl rfl ?_
   refine aB ?_
   refine aC rfl (aW rfl) rfl rfl ?_
   refine aN ?_
   refine aM ?_
   refine wp_ret ?_
   refine eY (.inl rfl) Tryz.results119 rfl ?_
   exact ⟨by rw [decide_eq_true (⟨h1, h2⟩ : lo ≤ x ∧ x ≤ hi)], H1.1⟩
  ·refine enter 15 [(0, .int .i64 (x)), (1, .int .i64 (lo)), (2, .int .i64 (hi))] Tryz.func119 rfl kR ?_
   intro xj
   have H1 : St w No [] w := St.enter
   refine wp_seq ?_
   refine aS [0] rfl ?_
   refine aB ?_
   refine aC rfl (aW rfl) rfl rfl ?_
   refine aN ?_
   refine aM ?_
   refine wp_seq ?_
   refine aS [0, 1, 2, 3, 4, 5, 6, 7, 8] rfl ?_
   refine aB ?_
   refine aC rfl (aK rfl) rfl rfl ?_
   refine aB ?_
   refine aC rfl (aK rfl) rfl rfl ?_
   refine aB ?_
   refine aC rfl (gH (p := (lo : Int) ≤ x) h1 (rn_leq (p := lo) (q := x) rfl rfl)) rfl rfl ?_
   refine aB ?_
   refine aC rfl (aK rfl) rfl rfl ?_
   refine aB ?_
   refine eO rfl rfl rfl rfl (fun _ ho2 => ?_)
   refine aC ho2 (aK rfl) rfl rfl ?_
   refine aB ?_
   refine eO rfl rfl rfl rfl (fun _ ho3 => ?_)
   refine aC ho3 (aK rfl) rfl rfl ?_
   refine aB ?_
   refine eO rfl rfl rfl rfl (fun _ ho4 => ?_)
   refine aC ho4 (fB (p := (x : Int) ≤ hi) h2 (rn_leq (p := x) (q := hi) rfl rfl)) rfl rfl ?_
   refine aB ?_
   refine aC rfl (dS (v := .bool (false)) (b := true) rfl rfl rfl rfl) rfl rfl ?_
   refine aB ?_
   refine aC rfl (aW rfl) rfl rfl ?_
   refine aN ?_
   refine aM ?_
   refine wp_ret ?_
   refine eY (.inl rfl) Tryz.results119 rfl ?_
   exact ⟨by rw [decide_eq_false (fun q : lo ≤ x ∧ x ≤ hi => h2 q.2)], H1.1⟩
 ·refine enter 15 [(0, .int .i64 (x)), (1, .int .i64 (lo)), (2, .int .i64 (hi))] Tryz.func119 rfl kR ?_
  intro xj
  have H1 : St w No [] w := St.enter
  refine wp_seq ?_
  refine aS [0] rfl ?_
  refine aB ?_
  refine aC rfl (aW rfl) rfl rfl ?_
  refine aN ?_
  refine aM ?_
  refine wp_seq ?_
  refine aS [0, 1, 2, 3, 4, 5, 6, 7, 8] rfl ?_
  refine aB ?_
  refine aC rfl (aK rfl) rfl rfl ?_
  refine aB ?_
  refine aC rfl (aK rfl) rfl rfl ?_
  refine aB ?_
  refine aC rfl (fB (p := (lo : Int) ≤ x) h1 (rn_leq (p := lo) (q := x) rfl rfl)) rfl rfl ?_
  refine aB ?_
  refine aC rfl (aK rfl) rfl rfl ?_
  refine aB ?_
  refine bX rfl rfl rfl rfl rfl rfl rfl ?_
  refine aB ?_
  refine bX rfl rfl rfl rfl rfl rfl rfl ?_
  refine aB ?_
  refine bX rfl rfl rfl rfl rfl rfl rfl ?_
  refine aB ?_
  refine aC rfl (dS (v := .bool (false)) (b := false) rfl rfl rfl rfl) rfl rfl ?_
  refine aB ?_
  refine aC rfl (aW rfl) rfl rfl ?_
  refine aN ?_
  refine aM ?_
  refine wp_ret ?_
  refine eY (.inl rfl) Tryz.results119 rfl ?_
  exact ⟨by rw [decide_eq_false (fun q : lo ≤ x ∧ x ≤ hi => h1 q.1)], H1.1⟩
theorem in_i_t (x lo hi : Int) (w : World) (h : lo ≤ x ∧ x ≤ hi) : Calls Tryz.prog 119 #[.int .i64 x, .int .i64 lo, .int .i64 hi] w (eX true w) := by
 have := in_i x lo hi w
 rwa [decide_eq_true h] at this
theorem in_i_f (x lo hi : Int) (w : World) (h : ¬ (lo ≤ x ∧ x ≤ hi)) : Calls Tryz.prog 119 #[.int .i64 x, .int .i64 lo, .int .i64 hi] w (eX false w) := by
 have := in_i x lo hi w
 rwa [decide_eq_false h] at this
end Go.Proofs.YtfnedoiplblldaaGreatFam
namespace Go.Proofs.YtfnedoiplblldaaGreatSep
open Go.ChangeShapes Go.WideShapes Go.RowKit
section
variable {P : Program} {ops : Array Oper} {Q : Exit → Act → World → Prop} {md : Region.Mode} {S : World → Prop} {t : Nat}
theorem dV {i d n : Nat} {x : Nat → Value} {live : List (Nat × Value)} {dst : Option Nat} {op : Op} {ty : Nat} {pos : String} {aft : Array Edge} {v : Value} {fuel : Nat} {listed : Array Bool} {w : World} {j dj : Nat} {want : Bool} {oj : Oper} (hi : ops[i]? = some ⟨dst, op, ty, pos, aft, some (j, want)⟩)
 (hj : ops[j]? = some oj) (hdj : oj.dst = some dj) (hv : evl n live (.tmp dj) = some (.bool want))
 (hs : Region.noSelect ops = true) (hf : Region.free md ops listed i = true) (hr : (Region.ready md ops listed).contains i = true) (hw : waits md ops t i = true) (ht : listed.getD t false = false)
 (hQ : ∀ c a w, Q (.panic c) (a.put dst v) w → Q (.panic c) a w) (hd : dst = some d) (hdn : decide (d < n) = true) (hS : S w) (hy : ∀ W, S W → Rn P ⟨dst, op, ty, pos, aft, none⟩ (bO n x live) W v)
 (h : wpAnyS P md ops Q S t fuel (listed.setIfInBounds i true) (bO n x ((d, v) :: live)) w) : wpAnyS P md ops Q S t (fuel + 1) listed (bO n x live) w := by
 subst hd
 exact anyS_first hi (Region.noSelect_spec hs) hw hQ fuel listed _ w (Region.free_spec hi hf) (by simpa using hr) (.inl ⟨by rw [wanted_G rfl hj hdj hv]; simp, fun W hSW => hy W hSW⟩) hS ht (by rw [jP (of_decide_eq_true hdn)]; exact h)
theorem dU {i d n : Nat} {x : Nat → Value} {live : List (Nat × Value)} {dst : Option Nat} {op : Op} {ty : Nat} {pos : String} {aft : Array Edge} {fuel : Nat} {listed : Array Bool} {w : World} {j dj : Nat} {want b : Bool} {oj : Oper} (hi : ops[i]? = some ⟨dst, op, ty, pos, aft, some (j, want)⟩)
 (hj : ops[j]? = some oj) (hdj : oj.dst = some dj) (hv : evl n live (.tmp dj) = some (.bool b)) (hb : (b == want) = false)
 (hs : Region.noSelect ops = true) (hf : Region.free md ops listed i = true) (hr : (Region.ready md ops listed).contains i = true) (hw : waits md ops t i = true) (ht : listed.getD t false = false)
 (hQ : ∀ c a w, Q (.panic c) (a.put dst undef) w → Q (.panic c) a w) (hd : dst = some d) (hdn : decide (d < n) = true) (hS : S w)
 (h : wpAnyS P md ops Q S t fuel (listed.setIfInBounds i true) (bO n x ((d, undef) :: live)) w) : wpAnyS P md ops Q S t (fuel + 1) listed (bO n x live) w := by
 subst hd
 exact anyS_first hi (Region.noSelect_spec hs) hw hQ fuel listed _ w (Region.free_spec hi hf) (by simpa using hr) (.inr ⟨by rw [wanted_G rfl hj hdj hv, hb], rfl⟩) hS ht (by rw [jP (of_decide_eq_true hdn)]; exact h)
end
section
variable {P : Program} {n ty : Nat} {x : Nat → Value} {live : List (Nat × Value)} {W : World} {pos : String} {aft : Array Edge} {y z : Operand} {dst : Option Nat} {xt yt e : Nat}
theorem rn_eqlNilF {a : Addr} (hu : ∀ w, (underlying xt).run P w = .ok (.pointer e) w) (hx : evl n live y = some (.pointer (some a))) (hz : evl n live z = some (.pointer none)) : Rn P ⟨dst, .binOp .eql xt y z yt, ty, pos, aft, none⟩ (bO n x live) W (.bool false) := by
 unfold Rn
 have e1 : Op.equal xt (.pointer (some a)) (.pointer none) = Op.equalIn (9999 + 1) xt (.pointer (some a)) (.pointer none) := rfl
 have e2 : (Op.equal xt (.pointer (some a)) (.pointer none)).run P W = .ok false W := by
  rw [e1, Op.equalIn]
  simp [hu]
 simp [execOp, fG hx, fG hz, eqGuard_at_pointer, binOp, e2]
theorem rn_eqlNilT (hu : ∀ w, (underlying xt).run P w = .ok (.pointer e) w) (hx : evl n live y = some (.pointer none)) (hz : evl n live z = some (.pointer none)) : Rn P ⟨dst, .binOp .eql xt y z yt, ty, pos, aft, none⟩ (bO n x live) W (.bool true) := by
 unfold Rn
 have e1 : Op.equal xt (.pointer none) (.pointer none) = Op.equalIn (9999 + 1) xt (.pointer none) (.pointer none) := rfl
 have e2 : (Op.equal xt (.pointer none) (.pointer none)).run P W = .ok true W := by
  rw [e1, Op.equalIn]
  simp [hu]
 simp [execOp, fG hx, fG hz, eqGuard_at_pointer, binOp, e2]
theorem C_elemA {α : Type} {d : Kn α} {w : World} {ad : Addr} {xs : List α} (h : C d w (some ad) xs) (i : Nat) (hi : i < xs.length) : ∃ cs, d.K w xs[i] cs ∧ Cat w (ad.add (i * d.sz)) cs := by
 obtain ⟨ad', cs, hA, hK, hc⟩ := lS h i hi
 cases hA
 exact ⟨cs, hK, hc⟩
end
end Go.Proofs.YtfnedoiplblldaaGreatSep
