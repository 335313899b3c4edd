/- Structs copied. No conditions beyond the sizes that the contracts name. -/
import Derived.Test.YtfnedoiplblldaaProg
import Derived.Test.YtfnedoiplblldaaSep2
import Derived.Test.YtfnedoiplblldaaLst
import Derived.WalkKit
import Derived.KernelRfl
import Derived.RowKit3
import Derived.Deep.LoopGhost
import Derived.Deep.QuietTactic
import Derived.BigQuiet
import Derived.StillTailTactics
import Derived.Test.YtfnedoiplblldaaK
import Derived.Deep.RegionHeld3
import Derived.Deep.RegionLaw
import Derived.Test.YtfnedoiplblldaaFamMessage
import Derived.Test.YtfnedoiplblldaaFamSent
import Derived.Test.YtfnedoiplblldaaFamEntity
import Derived.Test.YtfnedoiplblldaaFamLink
import Derived.Test.YtfnedoiplblldaaFamMethod
import Derived.Test.YtfnedoiplblldaaClones
namespace Go.Proofs.YtfnedoiplblldaaFam
open Go.RowKit Go.Proofs.YtfnedoiplblldaaSep Go.Proofs.YtfnedoiplblldaaT Go.Proofs.YtfnedoiplblldaaK
set_option linter.unusedVariables false
set_option linter.unusedSimpArgs false
set_option maxHeartbeats 1000000 in
set_option maxRecDepth 100000 in
theorem l11Copy_s (x : GMessage) (cs : List Value) (w : World) (h : ki_Message.K w x cs) (hs : szn_Message x ≤ 4194304) : Calls Try.prog 89 #[.agg cs.toArray] w (RetAgg ki_Message x w) := by
  obtain ⟨A5, c5, rfl, hl5, hC5⟩ := ki_Message_K h
  have HC5 := Sd.mk hC5
  clear hC5
  clear h
  have s_Args : sznS szn_Wire x.Args ≤ 4194304 := by unfold szn_Message at hs; omega
  have HCM5 := Sd.mk (CM_of_flat flat_Wire HC5.out)
  have n_Args : x.Args.length ≤ 4194304 := by unfold sznS at s_Args; omega
  have S_Args := Sd.mk s_Args
  clear hs s_Args
  go_enter Try.func89, Try.ntmps89
  go_wp2_with (first | (at_builtin; refine R_appAny (d := ki_Wire) (e := 66) (ys := x.Args) (xs := []) (F := New _) rfl _ _ 65 _ _ rfl Try.underlying65 ki_Wire_info rfl (by decide) (by decide) A5 c5 (fun _ => No) rfl rfl (R_emptyAt _ _ (by simp)) (CM_upd (by repeat (with_reducible first | exact Upd.refl No _ | apply Upd.put2 | apply Upd.put1 | apply Upd.put0 | apply Upd.alloc | apply Upd.drewN | apply Upd.drew)) HCM5.out) (fun _ _ q => q.elim) (fun _ _ _ q => q.elim) (by simp; omega) ?_) | fail)
  intro v5 w_Args hR5 hu
  obtain ⟨B5, b5, rfl⟩ := R_slice hR5
  obtain ⟨P5, hR5', g5, l5⟩ : ∃ P : Nat → Prop, R ki_Wire 66 w_Args P (.slice B5 x.Args.length b5) x.Args ∧ (∀ b, P b → w.heap.size + 1 + 1 + 1 ≤ b) ∧ (∀ b, P b → b < w_Args.heap.size) := ⟨_, R_lt (R_mono (F' := fun b => w.heap.size + 1 + 1 + 1 ≤ b) (fun b q => (by simp [New, No] at q; omega)) hR5), fun b q => q.1, fun b q => q.2⟩
  have n0_5 : ¬ P5 (w.heap.size) := fun q => (by have := g5 _ q; omega)
  have n1_5 : ¬ P5 (w.heap.size + 1) := fun q => (by have := g5 _ q; omega)
  have n2_5 : ¬ P5 (w.heap.size + 1 + 1) := fun q => (by have := g5 _ q; omega)
  have HR5 := Sd.mk hR5'
  have GP5 := Sd.mk g5
  have LT5 := Sd.mk l5
  clear hR5 hR5' g5 l5
  have HB_Args : Sd (Upd No w w_Args) := Sd.mk (Upd.trans (F := No) (by repeat (with_reducible first | exact Upd.refl No _ | apply Upd.put2 | apply Upd.put1 | apply Upd.put0 | apply Upd.alloc | apply Upd.drewN | apply Upd.drew)) hu (fun _ _ q => q) (fun b hb q => (by simp [New] at q; omega)))
  have cc0_Args := fun o => hu.cellsF (b := w.heap.size) (by first | omega | (simp; done) | (simp; omega)) (by first | (simp [New]; done) | (simp [New]; omega)) o
  have cf0_Args := fun o => hu.frozenF (b := w.heap.size) (by first | omega | (simp; done) | (simp; omega)) (by first | (simp [New]; done) | (simp [New]; omega)) o
  have cc1_Args := fun o => hu.cellsF (b := w.heap.size + 1) (by first | omega | (simp; done) | (simp; omega)) (by first | (simp [New]; done) | (simp [New]; omega)) o
  have cf1_Args := fun o => hu.frozenF (b := w.heap.size + 1) (by first | omega | (simp; done) | (simp; omega)) (by first | (simp [New]; done) | (simp [New]; omega)) o
  have cc2_Args := fun o => hu.cellsF (b := w.heap.size + 1 + 1) (by first | omega | (simp; done) | (simp; omega)) (by first | (simp [New]; done) | (simp [New]; omega)) o
  have cf2_Args := fun o => hu.frozenF (b := w.heap.size + 1 + 1) (by first | omega | (simp; done) | (simp; omega)) (by first | (simp [New]; done) | (simp [New]; omega)) o
  have ca0_Args : ∀ p u ob o, ((w_Args.setCell p u).alloc ob).cell? ⟨w.heap.size, o, none⟩ = (w_Args.setCell p u).cell? ⟨w.heap.size, o, none⟩ := fun p u ob o => ((Upd.refl No _).alloc ob).cellsF (b := w.heap.size) (by have := hu.size; simp at this ⊢; omega) (fun q => q) o
  have cb0_Args : ∀ p u ob o, ((w_Args.setCell p u).alloc ob).frozen? ⟨w.heap.size, o, none⟩ = (w_Args.setCell p u).frozen? ⟨w.heap.size, o, none⟩ := fun p u ob o => ((Upd.refl No _).alloc ob).frozenF (b := w.heap.size) (by have := hu.size; simp at this ⊢; omega) (fun q => q) o
  have ca1_Args : ∀ p u ob o, ((w_Args.setCell p u).alloc ob).cell? ⟨w.heap.size + 1, o, none⟩ = (w_Args.setCell p u).cell? ⟨w.heap.size + 1, o, none⟩ := fun p u ob o => ((Upd.refl No _).alloc ob).cellsF (b := w.heap.size + 1) (by have := hu.size; simp at this ⊢; omega) (fun q => q) o
  have cb1_Args : ∀ p u ob o, ((w_Args.setCell p u).alloc ob).frozen? ⟨w.heap.size + 1, o, none⟩ = (w_Args.setCell p u).frozen? ⟨w.heap.size + 1, o, none⟩ := fun p u ob o => ((Upd.refl No _).alloc ob).frozenF (b := w.heap.size + 1) (by have := hu.size; simp at this ⊢; omega) (fun q => q) o
  have ca2_Args : ∀ p u ob o, ((w_Args.setCell p u).alloc ob).cell? ⟨w.heap.size + 1 + 1, o, none⟩ = (w_Args.setCell p u).cell? ⟨w.heap.size + 1 + 1, o, none⟩ := fun p u ob o => ((Upd.refl No _).alloc ob).cellsF (b := w.heap.size + 1 + 1) (by have := hu.size; simp at this ⊢; omega) (fun q => q) o
  have cb2_Args : ∀ p u ob o, ((w_Args.setCell p u).alloc ob).frozen? ⟨w.heap.size + 1 + 1, o, none⟩ = (w_Args.setCell p u).frozen? ⟨w.heap.size + 1 + 1, o, none⟩ := fun p u ob o => ((Upd.refl No _).alloc ob).frozenF (b := w.heap.size + 1 + 1) (by have := hu.size; simp at this ⊢; omega) (fun q => q) o
  have hz_Args : w.heap.size + 1 + 1 + 1 ≤ w_Args.heap.size := (by have := hu.size; (try simp at this); omega)
  clear hu
  go_wp2
  refine bodyPost_ret (v := .agg #[.int .i64 x.Kind, .int .i64 x.Pos, .int .i64 x.Answer, .int .i64 x.Question, .string x.Name, .slice B5 x.Args.length b5, .int .i64 x.Value.Kind, .int .i64 x.Value.N, .int .i64 x.Count, .int .i64 x.Tag.Vat, .int .i64 x.Tag.Entity, .int .i64 x.Tag.Seq]) (by simp [results, Try.results89, go_sem, cc1_Args, ca1_Args, cc2_Args, ca2_Args]) rfl ⟨_, rfl, ?_, (by repeat (with_reducible first | exact HB_Args.out | apply Upd.put2 | apply Upd.put1 | apply Upd.put0 | apply Upd.alloc | apply Upd.drewN | apply Upd.drew))⟩
  exact ki_Message_mk _ _ x (R_keep HR5.out (by repeat (with_reducible first | exact Upd.refl _ _ | apply Upd.putP n0_5 | apply Upd.putP n1_5 | apply Upd.putP n2_5 | apply Upd.alloc | apply Upd.drewN | apply Upd.drew))) (fun k hk => by have := GP5.out k hk; simp only [New]; omega)
set_option maxHeartbeats 1000000 in
set_option maxRecDepth 100000 in
theorem l10Copy_s (x : GLink) (cs : List Value) (w : World) (h : ki_Link.K w x cs) (hs : szn_Link x ≤ 4194304) : Calls Try.prog 113 #[.agg cs.toArray] w (RetAgg ki_Link x w) := by
  obtain ⟨A2, c2, A4, c4, A6, c6, rfl, hl2, hC2, hl4, hC4, hl6, hC6⟩ := ki_Link_K h
  have HC2 := Sd.mk hC2
  have HC4 := Sd.mk hC4
  have HC6 := Sd.mk hC6
  clear hC2 hC4 hC6
  clear h
  have s_Exports : sznS szn_Export x.Exports ≤ 4194304 := by unfold szn_Link at hs; omega
  have HCM2 := Sd.mk (CM_of_flat flat_Export HC2.out)
  have n_Exports : x.Exports.length ≤ 4194304 := by unfold sznS at s_Exports; omega
  have S_Exports := Sd.mk s_Exports
  have s_Questions : sznS szn_Question x.Questions ≤ 4194304 := by unfold szn_Link at hs; omega
  have HCM4 := Sd.mk (CM_of_flat flat_Question HC4.out)
  have n_Questions : x.Questions.length ≤ 4194304 := by unfold sznS at s_Questions; omega
  have S_Questions := Sd.mk s_Questions
  have s_Answers : sznS szn_Question x.Answers ≤ 4194304 := by unfold szn_Link at hs; omega
  have HCM6 := Sd.mk (CM_of_flat flat_Question HC6.out)
  have n_Answers : x.Answers.length ≤ 4194304 := by unfold sznS at s_Answers; omega
  have S_Answers := Sd.mk s_Answers
  clear hs s_Exports s_Questions s_Answers
  go_enter Try.func113, Try.ntmps113
  go_wp2_with (first | (at_builtin; refine R_appAny (d := ki_Export) (e := 172) (ys := x.Exports) (xs := []) (F := New _) rfl _ _ 94 _ _ rfl Try.underlying94 ki_Export_info rfl (by decide) (by decide) A2 c2 (fun _ => No) rfl rfl (R_emptyAt _ _ (by simp)) (CM_upd (by repeat (with_reducible first | exact Upd.refl No _ | apply Upd.put2 | apply Upd.put1 | apply Upd.put0 | apply Upd.alloc | apply Upd.drewN | apply Upd.drew)) HCM2.out) (fun _ _ q => q.elim) (fun _ _ _ q => q.elim) (by simp; omega) ?_) | fail)
  intro v2 w_Exports hR2 hu
  obtain ⟨B2, b2, rfl⟩ := R_slice hR2
  obtain ⟨P2, hR2', g2, l2⟩ : ∃ P : Nat → Prop, R ki_Export 172 w_Exports P (.slice B2 x.Exports.length b2) x.Exports ∧ (∀ b, P b → w.heap.size + 1 + 1 + 1 ≤ b) ∧ (∀ b, P b → b < w_Exports.heap.size) := ⟨_, R_lt (R_mono (F' := fun b => w.heap.size + 1 + 1 + 1 ≤ b) (fun b q => (by simp [New, No] at q; omega)) hR2), fun b q => q.1, fun b q => q.2⟩
  have n0_2 : ¬ P2 (w.heap.size) := fun q => (by have := g2 _ q; omega)
  have n1_2 : ¬ P2 (w.heap.size + 1) := fun q => (by have := g2 _ q; omega)
  have n2_2 : ¬ P2 (w.heap.size + 1 + 1) := fun q => (by have := g2 _ q; omega)
  have HR2 := Sd.mk hR2'
  have GP2 := Sd.mk g2
  have LT2 := Sd.mk l2
  clear hR2 hR2' g2 l2
  have HB_Exports : Sd (Upd No w w_Exports) := Sd.mk (Upd.trans (F := No) (by repeat (with_reducible first | exact Upd.refl No _ | apply Upd.put2 | apply Upd.put1 | apply Upd.put0 | apply Upd.alloc | apply Upd.drewN | apply Upd.drew)) hu (fun _ _ q => q) (fun b hb q => (by simp [New] at q; omega)))
  have cc0_Exports := fun o => hu.cellsF (b := w.heap.size) (by first | omega | (simp; done) | (simp; omega)) (by first | (simp [New]; done) | (simp [New]; omega)) o
  have cf0_Exports := fun o => hu.frozenF (b := w.heap.size) (by first | omega | (simp; done) | (simp; omega)) (by first | (simp [New]; done) | (simp [New]; omega)) o
  have cc1_Exports := fun o => hu.cellsF (b := w.heap.size + 1) (by first | omega | (simp; done) | (simp; omega)) (by first | (simp [New]; done) | (simp [New]; omega)) o
  have cf1_Exports := fun o => hu.frozenF (b := w.heap.size + 1) (by first | omega | (simp; done) | (simp; omega)) (by first | (simp [New]; done) | (simp [New]; omega)) o
  have cc2_Exports := fun o => hu.cellsF (b := w.heap.size + 1 + 1) (by first | omega | (simp; done) | (simp; omega)) (by first | (simp [New]; done) | (simp [New]; omega)) o
  have cf2_Exports := fun o => hu.frozenF (b := w.heap.size + 1 + 1) (by first | omega | (simp; done) | (simp; omega)) (by first | (simp [New]; done) | (simp [New]; omega)) o
  have ca0_Exports : ∀ p u ob o, ((w_Exports.setCell p u).alloc ob).cell? ⟨w.heap.size, o, none⟩ = (w_Exports.setCell p u).cell? ⟨w.heap.size, o, none⟩ := fun p u ob o => ((Upd.refl No _).alloc ob).cellsF (b := w.heap.size) (by have := hu.size; simp at this ⊢; omega) (fun q => q) o
  have cb0_Exports : ∀ p u ob o, ((w_Exports.setCell p u).alloc ob).frozen? ⟨w.heap.size, o, none⟩ = (w_Exports.setCell p u).frozen? ⟨w.heap.size, o, none⟩ := fun p u ob o => ((Upd.refl No _).alloc ob).frozenF (b := w.heap.size) (by have := hu.size; simp at this ⊢; omega) (fun q => q) o
  have ca1_Exports : ∀ p u ob o, ((w_Exports.setCell p u).alloc ob).cell? ⟨w.heap.size + 1, o, none⟩ = (w_Exports.setCell p u).cell? ⟨w.heap.size + 1, o, none⟩ := fun p u ob o => ((Upd.refl No _).alloc ob).cellsF (b := w.heap.size + 1) (by have := hu.size; simp at this ⊢; omega) (fun q => q) o
  have cb1_Exports : ∀ p u ob o, ((w_Exports.setCell p u).alloc ob).frozen? ⟨w.heap.size + 1, o, none⟩ = (w_Exports.setCell p u).frozen? ⟨w.heap.size + 1, o, none⟩ := fun p u ob o => ((Upd.refl No _).alloc ob).frozenF (b := w.heap.size + 1) (by have := hu.size; simp at this ⊢; omega) (fun q => q) o
  have ca2_Exports : ∀ p u ob o, ((w_Exports.setCell p u).alloc ob).cell? ⟨w.heap.size + 1 + 1, o, none⟩ = (w_Exports.setCell p u).cell? ⟨w.heap.size + 1 + 1, o, none⟩ := fun p u ob o => ((Upd.refl No _).alloc ob).cellsF (b := w.heap.size + 1 + 1) (by have := hu.size; simp at this ⊢; omega) (fun q => q) o
  have cb2_Exports : ∀ p u ob o, ((w_Exports.setCell p u).alloc ob).frozen? ⟨w.heap.size + 1 + 1, o, none⟩ = (w_Exports.setCell p u).frozen? ⟨w.heap.size + 1 + 1, o, none⟩ := fun p u ob o => ((Upd.refl No _).alloc ob).frozenF (b := w.heap.size + 1 + 1) (by have := hu.size; simp at this ⊢; omega) (fun q => q) o
  have hz_Exports : w.heap.size + 1 + 1 + 1 ≤ w_Exports.heap.size := (by have := hu.size; (try simp at this); omega)
  clear hu
  go_wp2_with (first | (at_builtin; refine R_appAny (d := ki_Question) (e := 230) (ys := x.Questions) (xs := []) (F := New _) rfl _ _ 95 _ _ rfl Try.underlying95 ki_Question_info rfl (by decide) (by decide) A4 c4 (fun _ => No) rfl rfl (R_emptyAt _ _ (by simp)) (CM_upd (by repeat (with_reducible first | exact HB_Exports.out | apply Upd.put2 | apply Upd.put1 | apply Upd.put0 | apply Upd.alloc | apply Upd.drewN | apply Upd.drew)) HCM4.out) (fun _ _ q => q.elim) (fun _ _ _ q => q.elim) (by simp; omega) ?_) | fail)
  intro v4 w_Questions hR4 hu
  obtain ⟨B4, b4, rfl⟩ := R_slice hR4
  obtain ⟨P4, hR4', g4, l4⟩ : ∃ P : Nat → Prop, R ki_Question 230 w_Questions P (.slice B4 x.Questions.length b4) x.Questions ∧ (∀ b, P b → w_Exports.heap.size ≤ b) ∧ (∀ b, P b → b < w_Questions.heap.size) := ⟨_, R_lt (R_mono (F' := fun b => w_Exports.heap.size ≤ b) (fun b q => (by simp [New, No] at q; omega)) hR4), fun b q => q.1, fun b q => q.2⟩
  have n0_4 : ¬ P4 (w.heap.size) := fun q => (by have := g4 _ q; omega)
  have n1_4 : ¬ P4 (w.heap.size + 1) := fun q => (by have := g4 _ q; omega)
  have n2_4 : ¬ P4 (w.heap.size + 1 + 1) := fun q => (by have := g4 _ q; omega)
  have HR4 := Sd.mk hR4'
  have GP4 := Sd.mk g4
  have LT4 := Sd.mk l4
  clear hR4 hR4' g4 l4
  replace HR2 := Sd.mk (R_upd hu (fun b hb q => (by have := LT2.out b hb; simp [New] at q; omega)) (R_keep HR2.out (by repeat (with_reducible first | exact Upd.refl _ _ | apply Upd.putP n0_2 | apply Upd.putP n1_2 | apply Upd.putP n2_2 | apply Upd.alloc | apply Upd.drewN | apply Upd.drew))))
  have HB_Questions : Sd (Upd No w w_Questions) := Sd.mk (Upd.trans (F := No) (by repeat (with_reducible first | exact HB_Exports.out | apply Upd.put2 | apply Upd.put1 | apply Upd.put0 | apply Upd.alloc | apply Upd.drewN | apply Upd.drew)) hu (fun _ _ q => q) (fun b hb q => (by simp [New] at q; omega)))
  have cc0_Questions := fun o => hu.cellsF (b := w.heap.size) (by first | omega | (simp; done) | (simp; omega)) (by first | (simp [New]; done) | (simp [New]; omega)) o
  have cf0_Questions := fun o => hu.frozenF (b := w.heap.size) (by first | omega | (simp; done) | (simp; omega)) (by first | (simp [New]; done) | (simp [New]; omega)) o
  have cc1_Questions := fun o => hu.cellsF (b := w.heap.size + 1) (by first | omega | (simp; done) | (simp; omega)) (by first | (simp [New]; done) | (simp [New]; omega)) o
  have cf1_Questions := fun o => hu.frozenF (b := w.heap.size + 1) (by first | omega | (simp; done) | (simp; omega)) (by first | (simp [New]; done) | (simp [New]; omega)) o
  have cc2_Questions := fun o => hu.cellsF (b := w.heap.size + 1 + 1) (by first | omega | (simp; done) | (simp; omega)) (by first | (simp [New]; done) | (simp [New]; omega)) o
  have cf2_Questions := fun o => hu.frozenF (b := w.heap.size + 1 + 1) (by first | omega | (simp; done) | (simp; omega)) (by first | (simp [New]; done) | (simp [New]; omega)) o
  have ca0_Questions : ∀ p u ob o, ((w_Questions.setCell p u).alloc ob).cell? ⟨w.heap.size, o, none⟩ = (w_Questions.setCell p u).cell? ⟨w.heap.size, o, none⟩ := fun p u ob o => ((Upd.refl No _).alloc ob).cellsF (b := w.heap.size) (by have := hu.size; simp at this ⊢; omega) (fun q => q) o
  have cb0_Questions : ∀ p u ob o, ((w_Questions.setCell p u).alloc ob).frozen? ⟨w.heap.size, o, none⟩ = (w_Questions.setCell p u).frozen? ⟨w.heap.size, o, none⟩ := fun p u ob o => ((Upd.refl No _).alloc ob).frozenF (b := w.heap.size) (by have := hu.size; simp at this ⊢; omega) (fun q => q) o
  have ca1_Questions : ∀ p u ob o, ((w_Questions.setCell p u).alloc ob).cell? ⟨w.heap.size + 1, o, none⟩ = (w_Questions.setCell p u).cell? ⟨w.heap.size + 1, o, none⟩ := fun p u ob o => ((Upd.refl No _).alloc ob).cellsF (b := w.heap.size + 1) (by have := hu.size; simp at this ⊢; omega) (fun q => q) o
  have cb1_Questions : ∀ p u ob o, ((w_Questions.setCell p u).alloc ob).frozen? ⟨w.heap.size + 1, o, none⟩ = (w_Questions.setCell p u).frozen? ⟨w.heap.size + 1, o, none⟩ := fun p u ob o => ((Upd.refl No _).alloc ob).frozenF (b := w.heap.size + 1) (by have := hu.size; simp at this ⊢; omega) (fun q => q) o
  have ca2_Questions : ∀ p u ob o, ((w_Questions.setCell p u).alloc ob).cell? ⟨w.heap.size + 1 + 1, o, none⟩ = (w_Questions.setCell p u).cell? ⟨w.heap.size + 1 + 1, o, none⟩ := fun p u ob o => ((Upd.refl No _).alloc ob).cellsF (b := w.heap.size + 1 + 1) (by have := hu.size; simp at this ⊢; omega) (fun q => q) o
  have cb2_Questions : ∀ p u ob o, ((w_Questions.setCell p u).alloc ob).frozen? ⟨w.heap.size + 1 + 1, o, none⟩ = (w_Questions.setCell p u).frozen? ⟨w.heap.size + 1 + 1, o, none⟩ := fun p u ob o => ((Upd.refl No _).alloc ob).frozenF (b := w.heap.size + 1 + 1) (by have := hu.size; simp at this ⊢; omega) (fun q => q) o
  have hz_Questions : w.heap.size + 1 + 1 + 1 ≤ w_Questions.heap.size := (by have := hu.size; (try simp at this); omega)
  have hm_Questions : w_Exports.heap.size ≤ w_Questions.heap.size := (by have := hu.size; (try simp at this); omega)
  clear hu
  go_wp2_with (first | (at_builtin; refine R_appAny (d := ki_Question) (e := 230) (ys := x.Answers) (xs := []) (F := New _) rfl _ _ 95 _ _ rfl Try.underlying95 ki_Question_info rfl (by decide) (by decide) A6 c6 (fun _ => No) rfl rfl (R_emptyAt _ _ (by simp)) (CM_upd (by repeat (with_reducible first | exact HB_Questions.out | apply Upd.put2 | apply Upd.put1 | apply Upd.put0 | apply Upd.alloc | apply Upd.drewN | apply Upd.drew)) HCM6.out) (fun _ _ q => q.elim) (fun _ _ _ q => q.elim) (by simp; omega) ?_) | fail)
  intro v6 w_Answers hR6 hu
  obtain ⟨B6, b6, rfl⟩ := R_slice hR6
  obtain ⟨P6, hR6', g6, l6⟩ : ∃ P : Nat → Prop, R ki_Question 230 w_Answers P (.slice B6 x.Answers.length b6) x.Answers ∧ (∀ b, P b → w_Questions.heap.size ≤ b) ∧ (∀ b, P b → b < w_Answers.heap.size) := ⟨_, R_lt (R_mono (F' := fun b => w_Questions.heap.size ≤ b) (fun b q => (by simp [New, No] at q; omega)) hR6), fun b q => q.1, fun b q => q.2⟩
  have n0_6 : ¬ P6 (w.heap.size) := fun q => (by have := g6 _ q; omega)
  have n1_6 : ¬ P6 (w.heap.size + 1) := fun q => (by have := g6 _ q; omega)
  have n2_6 : ¬ P6 (w.heap.size + 1 + 1) := fun q => (by have := g6 _ q; omega)
  have HR6 := Sd.mk hR6'
  have GP6 := Sd.mk g6
  have LT6 := Sd.mk l6
  clear hR6 hR6' g6 l6
  replace HR2 := Sd.mk (R_upd hu (fun b hb q => (by have := LT2.out b hb; simp [New] at q; omega)) (R_keep HR2.out (by repeat (with_reducible first | exact Upd.refl _ _ | apply Upd.putP n0_2 | apply Upd.putP n1_2 | apply Upd.putP n2_2 | apply Upd.alloc | apply Upd.drewN | apply Upd.drew))))
  replace HR4 := Sd.mk (R_upd hu (fun b hb q => (by have := LT4.out b hb; simp [New] at q; omega)) (R_keep HR4.out (by repeat (with_reducible first | exact Upd.refl _ _ | apply Upd.putP n0_4 | apply Upd.putP n1_4 | apply Upd.putP n2_4 | apply Upd.alloc | apply Upd.drewN | apply Upd.drew))))
  have HB_Answers : Sd (Upd No w w_Answers) := Sd.mk (Upd.trans (F := No) (by repeat (with_reducible first | exact HB_Questions.out | apply Upd.put2 | apply Upd.put1 | apply Upd.put0 | apply Upd.alloc | apply Upd.drewN | apply Upd.drew)) hu (fun _ _ q => q) (fun b hb q => (by simp [New] at q; omega)))
  have cc0_Answers := fun o => hu.cellsF (b := w.heap.size) (by first | omega | (simp; done) | (simp; omega)) (by first | (simp [New]; done) | (simp [New]; omega)) o
  have cf0_Answers := fun o => hu.frozenF (b := w.heap.size) (by first | omega | (simp; done) | (simp; omega)) (by first | (simp [New]; done) | (simp [New]; omega)) o
  have cc1_Answers := fun o => hu.cellsF (b := w.heap.size + 1) (by first | omega | (simp; done) | (simp; omega)) (by first | (simp [New]; done) | (simp [New]; omega)) o
  have cf1_Answers := fun o => hu.frozenF (b := w.heap.size + 1) (by first | omega | (simp; done) | (simp; omega)) (by first | (simp [New]; done) | (simp [New]; omega)) o
  have cc2_Answers := fun o => hu.cellsF (b := w.heap.size + 1 + 1) (by first | omega | (simp; done) | (simp; omega)) (by first | (simp [New]; done) | (simp [New]; omega)) o
  have cf2_Answers := fun o => hu.frozenF (b := w.heap.size + 1 + 1) (by first | omega | (simp; done) | (simp; omega)) (by first | (simp [New]; done) | (simp [New]; omega)) o
  have ca0_Answers : ∀ p u ob o, ((w_Answers.setCell p u).alloc ob).cell? ⟨w.heap.size, o, none⟩ = (w_Answers.setCell p u).cell? ⟨w.heap.size, o, none⟩ := fun p u ob o => ((Upd.refl No _).alloc ob).cellsF (b := w.heap.size) (by have := hu.size; simp at this ⊢; omega) (fun q => q) o
  have cb0_Answers : ∀ p u ob o, ((w_Answers.setCell p u).alloc ob).frozen? ⟨w.heap.size, o, none⟩ = (w_Answers.setCell p u).frozen? ⟨w.heap.size, o, none⟩ := fun p u ob o => ((Upd.refl No _).alloc ob).frozenF (b := w.heap.size) (by have := hu.size; simp at this ⊢; omega) (fun q => q) o
  have ca1_Answers : ∀ p u ob o, ((w_Answers.setCell p u).alloc ob).cell? ⟨w.heap.size + 1, o, none⟩ = (w_Answers.setCell p u).cell? ⟨w.heap.size + 1, o, none⟩ := fun p u ob o => ((Upd.refl No _).alloc ob).cellsF (b := w.heap.size + 1) (by have := hu.size; simp at this ⊢; omega) (fun q => q) o
  have cb1_Answers : ∀ p u ob o, ((w_Answers.setCell p u).alloc ob).frozen? ⟨w.heap.size + 1, o, none⟩ = (w_Answers.setCell p u).frozen? ⟨w.heap.size + 1, o, none⟩ := fun p u ob o => ((Upd.refl No _).alloc ob).frozenF (b := w.heap.size + 1) (by have := hu.size; simp at this ⊢; omega) (fun q => q) o
  have ca2_Answers : ∀ p u ob o, ((w_Answers.setCell p u).alloc ob).cell? ⟨w.heap.size + 1 + 1, o, none⟩ = (w_Answers.setCell p u).cell? ⟨w.heap.size + 1 + 1, o, none⟩ := fun p u ob o => ((Upd.refl No _).alloc ob).cellsF (b := w.heap.size + 1 + 1) (by have := hu.size; simp at this ⊢; omega) (fun q => q) o
  have cb2_Answers : ∀ p u ob o, ((w_Answers.setCell p u).alloc ob).frozen? ⟨w.heap.size + 1 + 1, o, none⟩ = (w_Answers.setCell p u).frozen? ⟨w.heap.size + 1 + 1, o, none⟩ := fun p u ob o => ((Upd.refl No _).alloc ob).frozenF (b := w.heap.size + 1 + 1) (by have := hu.size; simp at this ⊢; omega) (fun q => q) o
  have hz_Answers : w.heap.size + 1 + 1 + 1 ≤ w_Answers.heap.size := (by have := hu.size; (try simp at this); omega)
  have hm_Answers : w_Questions.heap.size ≤ w_Answers.heap.size := (by have := hu.size; (try simp at this); omega)
  clear hu
  go_wp2
  refine bodyPost_ret (v := .agg #[.int .i64 x.Peer, .bool x.Up, .slice B2 x.Exports.length b2, .int .i64 x.Next, .slice B4 x.Questions.length b4, .int .i64 x.Asked, .slice B6 x.Answers.length b6]) (by simp [results, Try.results113, go_sem, cc1_Exports, ca1_Exports, cc2_Exports, ca2_Exports, cc1_Questions, ca1_Questions, cc2_Questions, ca2_Questions, cc1_Answers, ca1_Answers, cc2_Answers, ca2_Answers]) rfl ⟨_, rfl, ?_, (by repeat (with_reducible first | exact HB_Answers.out | apply Upd.put2 | apply Upd.put1 | apply Upd.put0 | apply Upd.alloc | apply Upd.drewN | apply Upd.drew))⟩
  exact ki_Link_mk _ _ x (R_keep HR2.out (by repeat (with_reducible first | exact Upd.refl _ _ | apply Upd.putP n0_2 | apply Upd.putP n1_2 | apply Upd.putP n2_2 | apply Upd.alloc | apply Upd.drewN | apply Upd.drew))) (R_keep HR4.out (by repeat (with_reducible first | exact Upd.refl _ _ | apply Upd.putP n0_4 | apply Upd.putP n1_4 | apply Upd.putP n2_4 | apply Upd.alloc | apply Upd.drewN | apply Upd.drew))) (R_keep HR6.out (by repeat (with_reducible first | exact Upd.refl _ _ | apply Upd.putP n0_6 | apply Upd.putP n1_6 | apply Upd.putP n2_6 | apply Upd.alloc | apply Upd.drewN | apply Upd.drew))) (fun k hk => by have := GP2.out k hk; simp only [New]; omega) (fun k hk => by have := GP4.out k hk; simp only [New]; omega) (fun k hk => by have := GP6.out k hk; simp only [New]; omega) (fun k hk hk' => by have h1 := LT2.out k hk; have h2 := GP4.out k hk'; omega) (fun k hk hk' => by have h1 := LT2.out k hk; have h2 := GP6.out k hk'; have := hm_Questions; omega) (fun k hk hk' => by have h1 := LT4.out k hk; have h2 := GP6.out k hk'; omega)
set_option maxHeartbeats 1000000 in
set_option maxRecDepth 100000 in
theorem copied_Message (x : GMessage) (cs : List Value) (w : World) (h : ki_Message.K w x cs) (hs : szn_Message x ≤ 4194304) : Calls Try.prog 135 #[.agg cs.toArray] w (RetAgg ki_Message x w) := by
  obtain ⟨A5, c5, rfl, hl5, hC5⟩ := ki_Message_K h
  have HC5 := Sd.mk hC5
  clear hC5
  clear h
  have s_Args : sznS szn_Wire x.Args ≤ 4194304 := by unfold szn_Message at hs; omega
  have n_Args : x.Args.length ≤ 4194304 := by unfold sznS at s_Args; omega
  have S_Args := Sd.mk s_Args
  clear hs s_Args
  go_enter Try.func135, Try.ntmps135
  go_wp2_with fail
  with_reducible refine (clone_Wire x.Args _ _ _ ?hc_Args n_Args).mono ?_
  case hc_Args => exact C_upd (by repeat (with_reducible first | exact Upd.refl No _ | apply Upd.put2 | apply Upd.put1 | apply Upd.put0 | apply Upd.alloc | apply Upd.drewN | apply Upd.drew)) HC5.out
  rintro e w_Args ⟨v5, rfl, hR5, hu⟩
  obtain ⟨B5, b5, rfl⟩ := R_slice hR5
  obtain ⟨P5, hR5', g5, l5⟩ : ∃ P : Nat → Prop, R ki_Wire 66 w_Args P (.slice B5 x.Args.length b5) x.Args ∧ (∀ b, P b → w.heap.size + 1 + 1 ≤ b) ∧ (∀ b, P b → b < w_Args.heap.size) := ⟨_, R_lt (R_mono (F' := fun b => w.heap.size + 1 + 1 ≤ b) (fun b q => (by simp [New, No] at q; omega)) hR5), fun b q => q.1, fun b q => q.2⟩
  have n0_5 : ¬ P5 (w.heap.size) := fun q => (by have := g5 _ q; omega)
  have n1_5 : ¬ P5 (w.heap.size + 1) := fun q => (by have := g5 _ q; omega)
  have HR5 := Sd.mk hR5'
  have GP5 := Sd.mk g5
  have LT5 := Sd.mk l5
  clear hR5 hR5' g5 l5
  have HB_Args : Sd (Upd No w w_Args) := Sd.mk (Upd.then (by repeat (with_reducible first | exact Upd.refl No _ | apply Upd.put2 | apply Upd.put1 | apply Upd.put0 | apply Upd.alloc | apply Upd.drewN | apply Upd.drew)) hu)
  have cc0_Args := fun o => hu.cellsF (b := w.heap.size) (by first | omega | (simp; done) | (simp; omega)) (fun q => q) o
  have cf0_Args := fun o => hu.frozenF (b := w.heap.size) (by first | omega | (simp; done) | (simp; omega)) (fun q => q) o
  have cc1_Args := fun o => hu.cellsF (b := w.heap.size + 1) (by first | omega | (simp; done) | (simp; omega)) (fun q => q) o
  have cf1_Args := fun o => hu.frozenF (b := w.heap.size + 1) (by first | omega | (simp; done) | (simp; omega)) (fun q => q) o
  have ca0_Args : ∀ p u ob o, ((w_Args.setCell p u).alloc ob).cell? ⟨w.heap.size, o, none⟩ = (w_Args.setCell p u).cell? ⟨w.heap.size, o, none⟩ := fun p u ob o => ((Upd.refl No _).alloc ob).cellsF (b := w.heap.size) (by have := hu.size; simp at this ⊢; omega) (fun q => q) o
  have cb0_Args : ∀ p u ob o, ((w_Args.setCell p u).alloc ob).frozen? ⟨w.heap.size, o, none⟩ = (w_Args.setCell p u).frozen? ⟨w.heap.size, o, none⟩ := fun p u ob o => ((Upd.refl No _).alloc ob).frozenF (b := w.heap.size) (by have := hu.size; simp at this ⊢; omega) (fun q => q) o
  have ca1_Args : ∀ p u ob o, ((w_Args.setCell p u).alloc ob).cell? ⟨w.heap.size + 1, o, none⟩ = (w_Args.setCell p u).cell? ⟨w.heap.size + 1, o, none⟩ := fun p u ob o => ((Upd.refl No _).alloc ob).cellsF (b := w.heap.size + 1) (by have := hu.size; simp at this ⊢; omega) (fun q => q) o
  have cb1_Args : ∀ p u ob o, ((w_Args.setCell p u).alloc ob).frozen? ⟨w.heap.size + 1, o, none⟩ = (w_Args.setCell p u).frozen? ⟨w.heap.size + 1, o, none⟩ := fun p u ob o => ((Upd.refl No _).alloc ob).frozenF (b := w.heap.size + 1) (by have := hu.size; simp at this ⊢; omega) (fun q => q) o
  have hz_Args : w.heap.size + 1 + 1 ≤ w_Args.heap.size := (by have := hu.size; (try simp at this); omega)
  clear hu
  go_wp2
  refine bodyPost_ret (v := .agg #[.int .i64 x.Kind, .int .i64 x.Pos, .int .i64 x.Answer, .int .i64 x.Question, .string x.Name, .slice B5 x.Args.length b5, .int .i64 x.Value.Kind, .int .i64 x.Value.N, .int .i64 x.Count, .int .i64 x.Tag.Vat, .int .i64 x.Tag.Entity, .int .i64 x.Tag.Seq]) (by simp [results, Try.results135, go_sem, cc1_Args, ca1_Args]) rfl ⟨_, rfl, ?_, (by repeat (with_reducible first | exact HB_Args.out | apply Upd.put2 | apply Upd.put1 | apply Upd.put0 | apply Upd.alloc | apply Upd.drewN | apply Upd.drew))⟩
  exact ki_Message_mk _ _ x (R_keep HR5.out (by repeat (with_reducible first | exact Upd.refl _ _ | apply Upd.putP n0_5 | apply Upd.putP n1_5 | apply Upd.alloc | apply Upd.drewN | apply Upd.drew))) (fun k hk => by have := GP5.out k hk; simp only [New]; omega)
set_option maxHeartbeats 1000000 in
set_option maxRecDepth 100000 in
theorem copied_Sent (x : GSent) (cs : List Value) (w : World) (h : ki_Sent.K w x cs) (hs : szn_Sent x ≤ 4194304) : Calls Try.prog 160 #[.agg cs.toArray] w (RetAgg ki_Sent x w) := by
  obtain ⟨A2, c2, rfl, hl2, hC2⟩ := ki_Sent_K h
  have HC2 := Sd.mk hC2
  clear hC2
  clear h
  have s_Args : sznS szn_Value x.Args ≤ 4194304 := by unfold szn_Sent at hs; omega
  have n_Args : x.Args.length ≤ 4194304 := by unfold sznS at s_Args; omega
  have S_Args := Sd.mk s_Args
  clear hs s_Args
  go_enter Try.func160, Try.ntmps160
  go_wp2_with fail
  with_reducible refine (clone_Value x.Args _ _ _ ?hc_Args n_Args).mono ?_
  case hc_Args => exact C_upd (by repeat (with_reducible first | exact Upd.refl No _ | apply Upd.put2 | apply Upd.put1 | apply Upd.put0 | apply Upd.alloc | apply Upd.drewN | apply Upd.drew)) HC2.out
  rintro e w_Args ⟨v2, rfl, hR2, hu⟩
  obtain ⟨B2, b2, rfl⟩ := R_slice hR2
  obtain ⟨P2, hR2', g2, l2⟩ : ∃ P : Nat → Prop, R ki_Value 54 w_Args P (.slice B2 x.Args.length b2) x.Args ∧ (∀ b, P b → w.heap.size + 1 + 1 ≤ b) ∧ (∀ b, P b → b < w_Args.heap.size) := ⟨_, R_lt (R_mono (F' := fun b => w.heap.size + 1 + 1 ≤ b) (fun b q => (by simp [New, No] at q; omega)) hR2), fun b q => q.1, fun b q => q.2⟩
  have n0_2 : ¬ P2 (w.heap.size) := fun q => (by have := g2 _ q; omega)
  have n1_2 : ¬ P2 (w.heap.size + 1) := fun q => (by have := g2 _ q; omega)
  have HR2 := Sd.mk hR2'
  have GP2 := Sd.mk g2
  have LT2 := Sd.mk l2
  clear hR2 hR2' g2 l2
  have HB_Args : Sd (Upd No w w_Args) := Sd.mk (Upd.then (by repeat (with_reducible first | exact Upd.refl No _ | apply Upd.put2 | apply Upd.put1 | apply Upd.put0 | apply Upd.alloc | apply Upd.drewN | apply Upd.drew)) hu)
  have cc0_Args := fun o => hu.cellsF (b := w.heap.size) (by first | omega | (simp; done) | (simp; omega)) (fun q => q) o
  have cf0_Args := fun o => hu.frozenF (b := w.heap.size) (by first | omega | (simp; done) | (simp; omega)) (fun q => q) o
  have cc1_Args := fun o => hu.cellsF (b := w.heap.size + 1) (by first | omega | (simp; done) | (simp; omega)) (fun q => q) o
  have cf1_Args := fun o => hu.frozenF (b := w.heap.size + 1) (by first | omega | (simp; done) | (simp; omega)) (fun q => q) o
  have ca0_Args : ∀ p u ob o, ((w_Args.setCell p u).alloc ob).cell? ⟨w.heap.size, o, none⟩ = (w_Args.setCell p u).cell? ⟨w.heap.size, o, none⟩ := fun p u ob o => ((Upd.refl No _).alloc ob).cellsF (b := w.heap.size) (by have := hu.size; simp at this ⊢; omega) (fun q => q) o
  have cb0_Args : ∀ p u ob o, ((w_Args.setCell p u).alloc ob).frozen? ⟨w.heap.size, o, none⟩ = (w_Args.setCell p u).frozen? ⟨w.heap.size, o, none⟩ := fun p u ob o => ((Upd.refl No _).alloc ob).frozenF (b := w.heap.size) (by have := hu.size; simp at this ⊢; omega) (fun q => q) o
  have ca1_Args : ∀ p u ob o, ((w_Args.setCell p u).alloc ob).cell? ⟨w.heap.size + 1, o, none⟩ = (w_Args.setCell p u).cell? ⟨w.heap.size + 1, o, none⟩ := fun p u ob o => ((Upd.refl No _).alloc ob).cellsF (b := w.heap.size + 1) (by have := hu.size; simp at this ⊢; omega) (fun q => q) o
  have cb1_Args : ∀ p u ob o, ((w_Args.setCell p u).alloc ob).frozen? ⟨w.heap.size + 1, o, none⟩ = (w_Args.setCell p u).frozen? ⟨w.heap.size + 1, o, none⟩ := fun p u ob o => ((Upd.refl No _).alloc ob).frozenF (b := w.heap.size + 1) (by have := hu.size; simp at this ⊢; omega) (fun q => q) o
  have hz_Args : w.heap.size + 1 + 1 ≤ w_Args.heap.size := (by have := hu.size; (try simp at this); omega)
  clear hu
  go_wp2
  refine bodyPost_ret (v := .agg #[.int .i64 x.Target, .string x.Name, .slice B2 x.Args.length b2, .int .i64 x.Result, .int .i64 x.Tag.Vat, .int .i64 x.Tag.Entity, .int .i64 x.Tag.Seq]) (by simp [results, Try.results160, go_sem, cc1_Args, ca1_Args]) rfl ⟨_, rfl, ?_, (by repeat (with_reducible first | exact HB_Args.out | apply Upd.put2 | apply Upd.put1 | apply Upd.put0 | apply Upd.alloc | apply Upd.drewN | apply Upd.drew))⟩
  exact ki_Sent_mk _ _ x (R_keep HR2.out (by repeat (with_reducible first | exact Upd.refl _ _ | apply Upd.putP n0_2 | apply Upd.putP n1_2 | apply Upd.alloc | apply Upd.drewN | apply Upd.drew))) (fun k hk => by have := GP2.out k hk; simp only [New]; omega)
set_option maxHeartbeats 1000000 in
set_option maxRecDepth 100000 in
theorem copied_Link (x : GLink) (cs : List Value) (w : World) (h : ki_Link.K w x cs) (hs : szn_Link x ≤ 4194304) : Calls Try.prog 134 #[.agg cs.toArray] w (RetAgg ki_Link x w) := by
  obtain ⟨A2, c2, A4, c4, A6, c6, rfl, hl2, hC2, hl4, hC4, hl6, hC6⟩ := ki_Link_K h
  have HC2 := Sd.mk hC2
  have HC4 := Sd.mk hC4
  have HC6 := Sd.mk hC6
  clear hC2 hC4 hC6
  clear h
  have s_Exports : sznS szn_Export x.Exports ≤ 4194304 := by unfold szn_Link at hs; omega
  have n_Exports : x.Exports.length ≤ 4194304 := by unfold sznS at s_Exports; omega
  have S_Exports := Sd.mk s_Exports
  have s_Questions : sznS szn_Question x.Questions ≤ 4194304 := by unfold szn_Link at hs; omega
  have n_Questions : x.Questions.length ≤ 4194304 := by unfold sznS at s_Questions; omega
  have S_Questions := Sd.mk s_Questions
  have s_Answers : sznS szn_Question x.Answers ≤ 4194304 := by unfold szn_Link at hs; omega
  have n_Answers : x.Answers.length ≤ 4194304 := by unfold sznS at s_Answers; omega
  have S_Answers := Sd.mk s_Answers
  clear hs s_Exports s_Questions s_Answers
  go_enter Try.func134, Try.ntmps134
  try go_wp2_with fail
  have hb0 : Sd (Blk ((w.alloc (.cells #[.int .i64 x.Peer, .bool x.Up, .slice A2 x.Exports.length c2, .int .i64 x.Next, .slice A4 x.Questions.length c4, .int .i64 x.Asked, .slice A6 x.Answers.length c6] 97)).alloc (.cells #[.int .i64 0, .bool false, .slice none 0 0, .int .i64 0, .slice none 0 0, .int .i64 0, .slice none 0 0] 97)) w.heap.size 97 #[.int .i64 x.Peer, .bool x.Up, .slice A2 x.Exports.length c2, .int .i64 x.Next, .slice A4 x.Questions.length c4, .int .i64 x.Asked, .slice A6 x.Answers.length c6]) := ⟨(Blk.new _ _ _).alloc _⟩
  have hb1 : Sd (Blk ((w.alloc (.cells #[.int .i64 x.Peer, .bool x.Up, .slice A2 x.Exports.length c2, .int .i64 x.Next, .slice A4 x.Questions.length c4, .int .i64 x.Asked, .slice A6 x.Answers.length c6] 97)).alloc (.cells #[.int .i64 0, .bool false, .slice none 0 0, .int .i64 0, .slice none 0 0, .int .i64 0, .slice none 0 0] 97)) (w.heap.size + 1) 97 #[.int .i64 0, .bool false, .slice none 0 0, .int .i64 0, .slice none 0 0, .int .i64 0, .slice none 0 0]) := ⟨Blk.newAt (by simp)⟩
  have HBB : Sd (Upd No w ((w.alloc (.cells #[.int .i64 x.Peer, .bool x.Up, .slice A2 x.Exports.length c2, .int .i64 x.Next, .slice A4 x.Questions.length c4, .int .i64 x.Asked, .slice A6 x.Answers.length c6] 97)).alloc (.cells #[.int .i64 0, .bool false, .slice none 0 0, .int .i64 0, .slice none 0 0, .int .i64 0, .slice none 0 0] 97))) := ⟨((Upd.refl _ _).alloc _).alloc _⟩
  generalize ((w.alloc (.cells #[.int .i64 x.Peer, .bool x.Up, .slice A2 x.Exports.length c2, .int .i64 x.Next, .slice A4 x.Questions.length c4, .int .i64 x.Asked, .slice A6 x.Answers.length c6] 97)).alloc (.cells #[.int .i64 0, .bool false, .slice none 0 0, .int .i64 0, .slice none 0 0, .int .i64 0, .slice none 0 0] 97)) = wb at *
  have hzb : w.heap.size + 1 + 1 ≤ wb.heap.size := by have := hb1.out.lt; omega
  have q0_2 := hb0.out.at 2 (v := .slice A2 x.Exports.length c2) rfl
  have q0_4 := hb0.out.at 4 (v := .slice A4 x.Questions.length c4) rfl
  have q0_6 := hb0.out.at 6 (v := .slice A6 x.Answers.length c6) rfl
  have ff0 := hb0.out.free
  go_region_law (first | (go_simp; go_at_call 161; (with_reducible refine (clone_Export x.Exports _ _ _ (C_upd (by repeat (with_reducible first | exact HBB.out | apply Upd.put2 | apply Upd.put1 | apply Upd.put0 | apply Upd.alloc | apply Upd.drewN | apply Upd.drew)) HC2.out) n_Exports).mono ?_); rintro e w_Exports ⟨v2, rfl, hR2, hu⟩; have HY_Exports : Sd (Upd No wb w_Exports) := Sd.mk (Upd.then (by repeat (with_reducible first | exact Upd.refl _ _ | apply Upd.alloc | apply Upd.drewN | apply Upd.drew)) hu); have hz_Exports := HY_Exports.out.size; have hb0_Exports := Sd.mk (hb0.out.no HY_Exports.out); have hb1_Exports := Sd.mk (hb1.out.no HY_Exports.out); obtain ⟨B2, b2, rfl⟩ := R_slice hR2; have HR2 : Sd (R ki_Export 172 w_Exports (Iv wb.heap.size w_Exports.heap.size) (.slice B2 x.Exports.length b2) x.Exports) := Sd.mk (R_lt (R_mono (F' := New wb) (fun b q => Nat.le_trans (Upd.size ((by repeat (with_reducible first | exact Upd.refl _ _ | apply Upd.alloc | apply Upd.drewN | apply Upd.drew)) : Upd No wb _)) q) hR2)); have HB_Exports : Sd (Upd No w w_Exports) := Sd.mk (Upd.then HBB.out HY_Exports.out); clear hu hR2; have c2_Exports := hb0_Exports.out.at 2 (v := .slice A2 x.Exports.length c2) rfl; have c4_Exports := hb0_Exports.out.at 4 (v := .slice A4 x.Questions.length c4) rfl; have c6_Exports := hb0_Exports.out.at 6 (v := .slice A6 x.Answers.length c6) rfl; have ff_Exports := hb0_Exports.out.free) | (go_simp; go_at_call 162; (with_reducible refine (clone_Question x.Questions _ _ _ (C_upd (by repeat (with_reducible first | exact HB_Exports.out | apply Upd.put2 | apply Upd.put1 | apply Upd.put0 | apply Upd.alloc | apply Upd.drewN | apply Upd.drew)) HC4.out) n_Questions).mono ?_); rintro e w_Questions ⟨v4, rfl, hR4, hu⟩; have HY_Questions : Sd (Upd No w_Exports w_Questions) := Sd.mk (Upd.then (by repeat (with_reducible first | exact Upd.refl _ _ | apply Upd.alloc | apply Upd.drewN | apply Upd.drew)) hu); have hz_Questions := HY_Questions.out.size; have hb0_Questions := Sd.mk (hb0_Exports.out.no HY_Questions.out); have hb1_Questions := Sd.mk (hb1_Exports.out.no HY_Questions.out); obtain ⟨B4, b4, rfl⟩ := R_slice hR4; have HR4 : Sd (R ki_Question 230 w_Questions (Iv w_Exports.heap.size w_Questions.heap.size) (.slice B4 x.Questions.length b4) x.Questions) := Sd.mk (R_lt (R_mono (F' := New w_Exports) (fun b q => Nat.le_trans (Upd.size ((by repeat (with_reducible first | exact Upd.refl _ _ | apply Upd.alloc | apply Upd.drewN | apply Upd.drew)) : Upd No w_Exports _)) q) hR4)); replace HR2 := Sd.mk (R_no HY_Questions.out HR2.out); have HB_Questions : Sd (Upd No w w_Questions) := Sd.mk (Upd.then HB_Exports.out HY_Questions.out); clear hu hR4; have c2_Questions := hb0_Questions.out.at 2 (v := .slice A2 x.Exports.length c2) rfl; have c4_Questions := hb0_Questions.out.at 4 (v := .slice A4 x.Questions.length c4) rfl; have c6_Questions := hb0_Questions.out.at 6 (v := .slice A6 x.Answers.length c6) rfl; have ff_Questions := hb0_Questions.out.free) | (go_simp; go_at_call 162; (with_reducible refine (clone_Question x.Answers _ _ _ (C_upd (by repeat (with_reducible first | exact HB_Questions.out | apply Upd.put2 | apply Upd.put1 | apply Upd.put0 | apply Upd.alloc | apply Upd.drewN | apply Upd.drew)) HC6.out) n_Answers).mono ?_); rintro e w_Answers ⟨v6, rfl, hR6, hu⟩; have HY_Answers : Sd (Upd No w_Questions w_Answers) := Sd.mk (Upd.then (by repeat (with_reducible first | exact Upd.refl _ _ | apply Upd.alloc | apply Upd.drewN | apply Upd.drew)) hu); have hz_Answers := HY_Answers.out.size; have hb0_Answers := Sd.mk (hb0_Questions.out.no HY_Answers.out); have hb1_Answers := Sd.mk (hb1_Questions.out.no HY_Answers.out); obtain ⟨B6, b6, rfl⟩ := R_slice hR6; have HR6 : Sd (R ki_Question 230 w_Answers (Iv w_Questions.heap.size w_Answers.heap.size) (.slice B6 x.Answers.length b6) x.Answers) := Sd.mk (R_lt (R_mono (F' := New w_Questions) (fun b q => Nat.le_trans (Upd.size ((by repeat (with_reducible first | exact Upd.refl _ _ | apply Upd.alloc | apply Upd.drewN | apply Upd.drew)) : Upd No w_Questions _)) q) hR6)); replace HR2 := Sd.mk (R_no HY_Answers.out HR2.out); replace HR4 := Sd.mk (R_no HY_Answers.out HR4.out); have HB_Answers : Sd (Upd No w w_Answers) := Sd.mk (Upd.then HB_Questions.out HY_Answers.out); clear hu hR6; have c2_Answers := hb0_Answers.out.at 2 (v := .slice A2 x.Exports.length c2) rfl; have c4_Answers := hb0_Answers.out.at 4 (v := .slice A4 x.Questions.length c4) rfl; have c6_Answers := hb0_Answers.out.at 6 (v := .slice A6 x.Answers.length c6) rfl; have ff_Answers := hb0_Answers.out.free))
  all_goals
    clear q0_2 q0_4 q0_6
    have q0_0 := hb0_Answers.out.at 0 (v := .int .i64 x.Peer) rfl
    have q0_1 := hb0_Answers.out.at 1 (v := .bool x.Up) rfl
    have q0_2 := hb0_Answers.out.at 2 (v := .slice A2 x.Exports.length c2) rfl
    have q0_3 := hb0_Answers.out.at 3 (v := .int .i64 x.Next) rfl
    have q0_4 := hb0_Answers.out.at 4 (v := .slice A4 x.Questions.length c4) rfl
    have q0_5 := hb0_Answers.out.at 5 (v := .int .i64 x.Asked) rfl
    have q0_6 := hb0_Answers.out.at 6 (v := .slice A6 x.Answers.length c6) rfl
    have q1_0 := hb1_Answers.out.at 0 (v := .int .i64 0) rfl
    have q1_1 := hb1_Answers.out.at 1 (v := .bool false) rfl
    have q1_2 := hb1_Answers.out.at 2 (v := .slice none 0 0) rfl
    have q1_3 := hb1_Answers.out.at 3 (v := .int .i64 0) rfl
    have q1_4 := hb1_Answers.out.at 4 (v := .slice none 0 0) rfl
    have q1_5 := hb1_Answers.out.at 5 (v := .int .i64 0) rfl
    have q1_6 := hb1_Answers.out.at 6 (v := .slice none 0 0) rfl
    have f0 := hb0_Answers.out.free
    have f1 := hb1_Answers.out.free
    go_wp2
    refine bodyPost_ret (v := .agg #[.int .i64 x.Peer, .bool x.Up, .slice B2 x.Exports.length b2, .int .i64 x.Next, .slice B4 x.Questions.length b4, .int .i64 x.Asked, .slice B6 x.Answers.length b6]) (by simp [results, Try.results134, go_sem, q1_0, q1_1, q1_2, q1_3, q1_4, q1_5, q1_6]) rfl ⟨_, rfl, ?_, ?_⟩
    · exact ki_Link_mk _ _ x (R_upd ((by repeat (first | (with_reducible exact Upd.refl _ _) | (with_reducible refine Upd.alloc ?_ _) | (refine Upd.set ?_ _ _ (.inr (by first | exact .inl rfl | exact .inr rfl))))) : Upd (fun b => b = w.heap.size ∨ b = w.heap.size + 1) w_Answers _) (fun b q z => by simp only [Iv] at q; have := hz_Exports; have := hz_Questions; have := hz_Answers; omega) HR2.out) (R_upd ((by repeat (first | (with_reducible exact Upd.refl _ _) | (with_reducible refine Upd.alloc ?_ _) | (refine Upd.set ?_ _ _ (.inr (by first | exact .inl rfl | exact .inr rfl))))) : Upd (fun b => b = w.heap.size ∨ b = w.heap.size + 1) w_Answers _) (fun b q z => by simp only [Iv] at q; have := hz_Exports; have := hz_Questions; have := hz_Answers; omega) HR4.out) (R_upd ((by repeat (first | (with_reducible exact Upd.refl _ _) | (with_reducible refine Upd.alloc ?_ _) | (refine Upd.set ?_ _ _ (.inr (by first | exact .inl rfl | exact .inr rfl))))) : Upd (fun b => b = w.heap.size ∨ b = w.heap.size + 1) w_Answers _) (fun b q z => by simp only [Iv] at q; have := hz_Exports; have := hz_Questions; have := hz_Answers; omega) HR6.out) (fun k hk => by simp only [Iv] at hk; simp only [New]; have := hz_Exports; have := hz_Questions; have := hz_Answers; omega) (fun k hk => by simp only [Iv] at hk; simp only [New]; have := hz_Exports; have := hz_Questions; have := hz_Answers; omega) (fun k hk => by simp only [Iv] at hk; simp only [New]; have := hz_Exports; have := hz_Questions; have := hz_Answers; omega) (fun k hk hk' => by simp only [Iv] at hk hk'; have := hz_Exports; have := hz_Questions; have := hz_Answers; omega) (fun k hk hk' => by simp only [Iv] at hk hk'; have := hz_Exports; have := hz_Questions; have := hz_Answers; omega) (fun k hk hk' => by simp only [Iv] at hk hk'; have := hz_Exports; have := hz_Questions; have := hz_Answers; omega)
    · exact Upd.trans HB_Answers.out ((by repeat (first | (with_reducible exact Upd.refl _ _) | (with_reducible refine Upd.alloc ?_ _) | (refine Upd.set ?_ _ _ (.inr (by first | exact .inl rfl | exact .inr rfl))))) : Upd (fun b => b = w.heap.size ∨ b = w.heap.size + 1) w_Answers _) (fun _ _ q => q) (fun b hb q => by rcases q with q | q <;> omega)
end Go.Proofs.YtfnedoiplblldaaFam
