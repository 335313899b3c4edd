/- Structs copied: methods. No conditions beyond the sizes that the contracts name. -/
import Derived.Test.YtfnedoiplblldaaGreatProg
import Derived.Test.YtfnedoiplblldaaGreatSep2
import Derived.Test.YtfnedoiplblldaaGreatLst
import Derived.WalkKit
import Derived.KernelRfl
import Derived.RowKit3
import Derived.Deep.LoopGhost
import Derived.Deep.QuietTactic
import Derived.BigQuiet
import Derived.StillTailTactics
import Derived.Test.YtfnedoiplblldaaGreatK
import Derived.Deep.RegionHeld3
import Derived.Deep.RegionLaw
import Derived.Deep.DeepCutAuto
import Derived.Test.YtfnedoiplblldaaGreatCp1
namespace Go.Proofs.YtfnedoiplblldaaGreatFam
open Go.RowKit Go.Proofs.YtfnedoiplblldaaGreatSep Go.Proofs.YtfnedoiplblldaaGreatT Go.Proofs.YtfnedoiplblldaaGreatK
set_option linter.unusedVariables false
set_option linter.unusedSimpArgs false
set_option maxHeartbeats 1000000 in
set_option maxRecDepth 100000 in
theorem copied_Method (x : GMethod) (cs : List Value) (w : World) (h : ki_Method.K w x cs) (hs : szn_Method x ≤ 4194304) : Calls Tryz.prog 147 #[.agg cs.toArray] w (RetAgg ki_Method x w) := by
  obtain ⟨A1, c1, rfl, hl1, hC1⟩ := ki_Method_K h
  have HC1 := Sd.mk hC1
  clear hC1
  clear h
  have s_Code : sznS szn_Instr x.Code ≤ 4194304 := by unfold szn_Method at hs; omega
  have n_Code : x.Code.length ≤ 4194304 := by unfold sznS at s_Code; omega
  have S_Code := Sd.mk s_Code
  clear hs s_Code
  go_enter Tryz.func147, Tryz.ntmps147
  try go_wp2_with fail
  have hb0 : Sd (Blk ((w.alloc (.cells #[.string x.Name, .slice A1 x.Code.length c1] 210)).alloc (.cells #[.string ⟨#[]⟩, .slice none 0 0] 210)) w.heap.size 210 #[.string x.Name, .slice A1 x.Code.length c1]) := ⟨(Blk.new _ _ _).alloc _⟩
  have hb1 : Sd (Blk ((w.alloc (.cells #[.string x.Name, .slice A1 x.Code.length c1] 210)).alloc (.cells #[.string ⟨#[]⟩, .slice none 0 0] 210)) (w.heap.size + 1) 210 #[.string ⟨#[]⟩, .slice none 0 0]) := ⟨Blk.newAt (by simp)⟩
  have HBB : Sd (Upd No w ((w.alloc (.cells #[.string x.Name, .slice A1 x.Code.length c1] 210)).alloc (.cells #[.string ⟨#[]⟩, .slice none 0 0] 210))) := ⟨((Upd.refl _ _).alloc _).alloc _⟩
  generalize ((w.alloc (.cells #[.string x.Name, .slice A1 x.Code.length c1] 210)).alloc (.cells #[.string ⟨#[]⟩, .slice none 0 0] 210)) = wb at *
  have hzb : w.heap.size + 1 + 1 ≤ wb.heap.size := by have := hb1.out.lt; omega
  have q0_0 := hb0.out.at 0 (v := .string x.Name) rfl
  have q0_1 := hb0.out.at 1 (v := .slice A1 x.Code.length c1) rfl
  have ff0 := hb0.out.free
  go_region_law (first | (go_simp; go_at_call 199; (with_reducible refine (clone_Instr x.Code _ _ _ (C_upd (by repeat (with_reducible first | exact HBB.out | apply Upd.put2 | apply Upd.put1 | apply Upd.put0 | apply Upd.alloc | apply Upd.drewN | apply Upd.drew)) HC1.out) n_Code).mono ?_); rintro e w_Code ⟨v1, rfl, hR1, hu⟩; have HY_Code : Sd (Upd No wb w_Code) := Sd.mk (Upd.then (by repeat (with_reducible first | exact Upd.refl _ _ | apply Upd.alloc | apply Upd.drewN | apply Upd.drew)) hu); have hz_Code := HY_Code.out.size; have hb0_Code := Sd.mk (hb0.out.no HY_Code.out); have hb1_Code := Sd.mk (hb1.out.no HY_Code.out); obtain ⟨B1, b1, rfl⟩ := R_slice hR1; have HR1 : Sd (R ki_Instr 274 w_Code (Iv wb.heap.size w_Code.heap.size) (.slice B1 x.Code.length b1) x.Code) := Sd.mk (R_lt (R_mono (F' := New wb) (fun b q => Nat.le_trans (Upd.size ((by repeat (with_reducible first | exact Upd.refl _ _ | apply Upd.alloc | apply Upd.drewN | apply Upd.drew)) : Upd No wb _)) q) hR1)); have HB_Code : Sd (Upd No w w_Code) := Sd.mk (Upd.then HBB.out HY_Code.out); clear hu hR1; have c0_Code := hb0_Code.out.at 0 (v := .string x.Name) rfl; have c1_Code := hb0_Code.out.at 1 (v := .slice A1 x.Code.length c1) rfl; have ff_Code := hb0_Code.out.free; have d0_Code := hb1_Code.out.at 0 (v := .string ⟨#[]⟩) rfl; have d1_Code := hb1_Code.out.at 1 (v := .slice none 0 0) rfl; have fg_Code := hb1_Code.out.free))
  all_goals
    clear q0_0 q0_1
    have q1_0 := hb1_Code.out.at 0 (v := .string ⟨#[]⟩) rfl
    have q1_1 := hb1_Code.out.at 1 (v := .slice none 0 0) rfl
    have f0 := hb0_Code.out.free
    have f1 := hb1_Code.out.free
    go_wp2
    refine bodyPost_ret (v := .agg #[.string x.Name, .slice B1 x.Code.length b1]) (by simp [results, Tryz.results147, go_sem, q1_0, q1_1]) rfl ⟨_, rfl, ?_, ?_⟩
    · exact ki_Method_mk _ _ x (R_upd ((by repeat (first | (with_reducible exact Upd.refl _ _) | (with_reducible refine Upd.alloc ?_ _) | (refine Upd.set ?_ _ _ (.inr (by first | exact .inl rfl | exact .inr rfl))))) : Upd (fun b => b = w.heap.size ∨ b = w.heap.size + 1) w_Code _) (fun b q z => by simp only [Iv] at q; have := hz_Code; omega) HR1.out) (fun k hk => by simp only [Iv] at hk; simp only [New]; have := hz_Code; omega)
    · exact Upd.trans HB_Code.out ((by repeat (first | (with_reducible exact Upd.refl _ _) | (with_reducible refine Upd.alloc ?_ _) | (refine Upd.set ?_ _ _ (.inr (by first | exact .inl rfl | exact .inr rfl))))) : Upd (fun b => b = w.heap.size ∨ b = w.heap.size + 1) w_Code _) (fun _ _ q => q) (fun b hb q => by rcases q with q | q <;> omega)
end Go.Proofs.YtfnedoiplblldaaGreatFam
