/- Scripts copied. No conditions beyond the sizes that the contracts name. -/
import Derived.Test.YtfnedoiplblldaaGreatProg
import Derived.Test.YtfnedoiplblldaaGreatSep2
import Derived.Test.YtfnedoiplblldaaGreatLst
import Derived.WalkKit
import Derived.KernelRfl
import Derived.RowKit3
import Derived.Deep.LoopGhost
import Derived.Deep.QuietTactic
import Derived.BigQuiet
import Derived.StillTailTactics
import Derived.Test.YtfnedoiplblldaaGreatK
import Derived.Deep.RegionHeld3
import Derived.Deep.RegionLaw
import Derived.Deep.DeepCutAuto
import Derived.Test.YtfnedoiplblldaaGreatFamScript
import Derived.Test.YtfnedoiplblldaaGreatCp3
import Derived.Test.YtfnedoiplblldaaGreatSep5
namespace Go.Proofs.YtfnedoiplblldaaGreatFam
open Go.RowKit Go.Proofs.YtfnedoiplblldaaGreatSep Go.Proofs.YtfnedoiplblldaaGreatT Go.Proofs.YtfnedoiplblldaaGreatK
set_option linter.unusedVariables false
set_option linter.unusedSimpArgs false
set_option maxHeartbeats 1000000 in
set_option maxRecDepth 100000 in
theorem l6CopyMethod_s (x : GMethod) (cs : List Value) (w : World) (h : ki_Method.K w x cs) (hs : szn_Method x ≤ 4194304) : Calls Tryz.prog 197 #[.agg cs.toArray] w (RetAgg ki_Method x w) := by
  obtain ⟨A1, c1, rfl, hl1, hC1⟩ := ki_Method_K h
  have HCM := Sd.mk (CM_of_flat flat_Instr hC1)
  have hn : x.Code.length ≤ 4194304 := by unfold szn_Method sznS at hs; omega
  clear h hC1 hs
  go_enter Tryz.func197, Tryz.ntmps197
  try go_wp2_with fail
  have hb0 : Sd (Blk ((w.alloc (.cells #[.string x.Name, .slice A1 x.Code.length c1] 210)).alloc (.cells #[.string ⟨#[]⟩, .slice none 0 0] 210)) w.heap.size 210 #[.string x.Name, .slice A1 x.Code.length c1]) := ⟨(Blk.new _ _ _).alloc _⟩
  have hb1 : Sd (Blk ((w.alloc (.cells #[.string x.Name, .slice A1 x.Code.length c1] 210)).alloc (.cells #[.string ⟨#[]⟩, .slice none 0 0] 210)) (w.heap.size + 1) 210 #[.string ⟨#[]⟩, .slice none 0 0]) := ⟨Blk.newAt (by simp)⟩
  have HBB : Sd (Upd No w ((w.alloc (.cells #[.string x.Name, .slice A1 x.Code.length c1] 210)).alloc (.cells #[.string ⟨#[]⟩, .slice none 0 0] 210))) := ⟨((Upd.refl _ _).alloc _).alloc _⟩
  generalize ((w.alloc (.cells #[.string x.Name, .slice A1 x.Code.length c1] 210)).alloc (.cells #[.string ⟨#[]⟩, .slice none 0 0] 210)) = wb at *
  have hzb : w.heap.size + 1 + 1 ≤ wb.heap.size := by have := hb1.out.lt; omega
  have q0 := hb0.out.at 0 (v := .string x.Name) rfl
  have q1 := hb0.out.at 1 (v := .slice A1 x.Code.length c1) rfl
  have qa0 := fun ob => (hb0.out.alloc ob).at 0 (v := .string x.Name) rfl
  have qa1 := fun ob => (hb0.out.alloc ob).at 1 (v := .slice A1 x.Code.length c1) rfl
  go_region_law ((refine R_appAnyStep (d := ki_Instr) (e := 274) (ys := x.Code) (xs := []) (F := fun b => wb.heap.size ≤ b) rfl _ _ 208 _ _ rfl Tryz.underlying208 ki_Instr_info rfl (by decide) (by decide) A1 c1 (fun _ => No) rfl rfl (by first | exact R_mono (fun b q => (by simpa [New] using q)) (R_emptyAt _ _ (by simp)) | exact R_drew (R_mono (fun b q => (by simpa [New] using q)) (R_emptyAt _ _ (by simp)))) (CM_upd (by repeat (with_reducible first | exact HBB.out | apply Upd.alloc | apply Upd.drewN | apply Upd.drew)) HCM.out) (fun _ _ q => q.elim) (fun _ _ _ q => q.elim) (by simp; omega) ?_); intro v1 w1 hR hu; have HY : Sd (Upd No wb w1) := Sd.mk (Upd.trans (F := No) (by repeat (with_reducible first | exact Upd.refl _ _ | apply Upd.alloc | apply Upd.drewN | apply Upd.drew)) hu (fun _ _ q => q) (fun b hb q => absurd hb (by omega))); obtain ⟨B1, b1, rfl⟩ := R_slice hR; have HR1 : Sd (R ki_Instr 274 w1 (fun b => wb.heap.size ≤ b) (.slice B1 x.Code.length b1) x.Code) := Sd.mk (R_mono (fun b q => (by rcases q with q | ⟨_, _, q⟩ | q; exact q; exact q.elim; (simp at q; omega))) hR); have c0 := (hb0.out.no HY.out).at 0 (v := .string x.Name) rfl; have d0 := (hb1.out.no HY.out).at 0 (v := .string ⟨#[]⟩) rfl; have d1 := (hb1.out.no HY.out).at 1 (v := .slice none 0 0) rfl; have ff := (hb1.out.no HY.out).free; clear hu hR)
  all_goals
    go_wp2
    refine bodyPost_ret (v := .agg #[.string x.Name, .slice B1 x.Code.length b1]) (by simp [results, Tryz.results197, go_sem, d0, d1]) rfl ⟨_, rfl, ?_, ?_⟩
    · exact ki_Method_mk _ _ x (R_upd ((by repeat (first | (with_reducible exact Upd.refl _ _) | (refine Upd.set ?_ _ _ (.inr rfl)))) : Upd (fun b => b = w.heap.size + 1) w1 _) (fun b q z => by omega) HR1.out) (fun k hk => by simp only [New]; omega)
    · exact Upd.trans (HBB.out.then HY.out) ((by repeat (first | (with_reducible exact Upd.refl _ _) | (refine Upd.set ?_ _ _ (.inr rfl)))) : Upd (fun b => b = w.heap.size + 1) w1 _) (fun _ _ q => q) (fun b hb q => by omega)
set_option maxHeartbeats 8000000 in
set_option maxRecDepth 100000 in
theorem l6Copy_s (x : GScript) (cs : List Value) (w : World) (h : ki_Script.K w x cs) (hs : szn_Script x ≤ 4194304) : Calls Tryz.prog 145 #[.agg cs.toArray] w (RetAgg ki_Script x w) := by
  obtain ⟨A1, c1, rfl, hl1, hC1⟩ := ki_Script_K h
  have HC1 := Sd.mk hC1
  clear hC1
  clear h
  have s_Methods : sznS szn_Method x.Methods ≤ 4194304 := by unfold szn_Script at hs; omega
  have n_Methods : x.Methods.length ≤ 4194304 := by unfold sznS at s_Methods; omega
  have S_Methods := Sd.mk s_Methods
  clear hs s_Methods
  go_enter Tryz.func145, Tryz.ntmps145
  go_wp2
  have hb0 : Sd (Blk (((w.alloc (.cells #[.string x.Name, .slice A1 x.Methods.length c1] 133)).alloc (.cells #[.string ⟨#[]⟩, .slice none 0 0] 133)).alloc (.cells #[.string x.Name, .slice none 0 0] 133)) w.heap.size 133 #[.string x.Name, .slice A1 x.Methods.length c1]) := ⟨((Blk.new _ _ _).alloc _).alloc _⟩
  have hb1 : Sd (Blk (((w.alloc (.cells #[.string x.Name, .slice A1 x.Methods.length c1] 133)).alloc (.cells #[.string ⟨#[]⟩, .slice none 0 0] 133)).alloc (.cells #[.string x.Name, .slice none 0 0] 133)) (w.heap.size + 1) 133 #[.string ⟨#[]⟩, .slice none 0 0]) := ⟨(Blk.newAt (by simp)).alloc _⟩
  have hb2 : Sd (Blk (((w.alloc (.cells #[.string x.Name, .slice A1 x.Methods.length c1] 133)).alloc (.cells #[.string ⟨#[]⟩, .slice none 0 0] 133)).alloc (.cells #[.string x.Name, .slice none 0 0] 133)) (w.heap.size + 1 + 1) 133 #[.string x.Name, .slice none 0 0]) := ⟨Blk.newAt (by simp)⟩
  have HBW : Sd (Upd No w (((w.alloc (.cells #[.string x.Name, .slice A1 x.Methods.length c1] 133)).alloc (.cells #[.string ⟨#[]⟩, .slice none 0 0] 133)).alloc (.cells #[.string x.Name, .slice none 0 0] 133))) := ⟨(((Upd.refl _ _).alloc _).alloc _).alloc _⟩
  generalize (((w.alloc (.cells #[.string x.Name, .slice A1 x.Methods.length c1] 133)).alloc (.cells #[.string ⟨#[]⟩, .slice none 0 0] 133)).alloc (.cells #[.string x.Name, .slice none 0 0] 133)) = ws0 at *
  have hz_0 : w.heap.size + 1 + 1 < ws0.heap.size := hb2.out.lt
  have t0_0 := hb0.out.at 0 (v := .string x.Name) rfl
  have t0_1 := hb0.out.at 1 (v := .slice A1 x.Methods.length c1) rfl
  go_wp2
  clear t0_0 t0_1
  go_loopg [4] x.Methods.length (fun r v wr0 => ∃ (i : Nat) (u0 : Value), i + r = x.Methods.length ∧ v = .int .i64 i ∧ Sd (Blk wr0 (w.heap.size + 1 + 1) 133 #[.string x.Name, u0]) ∧ Sd (R ki_Method 210 wr0 (New ws0) u0 (x.Methods.take i)) ∧ Sd (Upd (fun b => b = (w.heap.size + 1 + 1)) ws0 wr0))
  case atStart => exact ⟨0, .slice none 0 0, by omega, rfl, hb2, ⟨R_nil⟩, ⟨Upd.refl _ _⟩⟩
  case round =>
    obtain ⟨i0, u0, hi0, rfl, HB2, HR, HU⟩ := hrel
    obtain ⟨wr0, rfl⟩ : ∃ z, z = wr := ⟨_, rfl⟩
    have HW : Sd (Upd No w wr0) := ⟨Upd.trans HBW.out HU.out (fun _ _ q => q) (fun b hb q => absurd hb (by omega))⟩
    have hzr0 := HU.out.size
    by_cases hlt : i0 < x.Methods.length
    · obtain ⟨ad, D1, d1, rfl, a0, a1, hm1, hD1⟩ := ki_Method_at (C_upd HW.out HC1.out) i0 hlt
      have HD1 := Sd.mk hD1
      clear hD1
      have hsi : szn_Method x.Methods[i0] ≤ 4194304 := by have := sumS_at szn_Method x.Methods i0 hlt; have := S_Methods.out; unfold sznS at *; omega
      obtain ⟨Bu, bu, hv⟩ := R_slice HR.out
      rw [List.length_take, Nat.min_eq_left (by omega)] at hv
      subst hv
      have hbx := hb0.out.upd HU.out (by omega)
      have t0_0 := hbx.at 0 (v := .string x.Name) rfl
      have t0_1 := hbx.at 1 (v := .slice (some ad) x.Methods.length c1) rfl
      clear hbx
      have HUm : Sd (Upd No wr0 wr0) := ⟨Upd.refl _ _⟩
      have HBo := HB2
      have HR1 := Sd.mk (R_lt HR.out)
      go_wp2_with fail
      have so := HBo.out.at 1 (v := .slice Bu i0 bu) rfl
      have fo := HBo.out.free 1
      clear HR HB2
      go_region_law (first | (go_simp; go_at_call 197; (with_reducible refine (l6CopyMethod_s x.Methods[i0] _ _ (ki_Method_Kmk _ _ hm1 (C_upd (by repeat (with_reducible first | exact Upd.refl _ _ | apply Upd.alloc | apply Upd.drewN | apply Upd.drew)) HD1.out)) hsi).mono ?_); rintro e w1 ⟨cs, rfl, hM, hu⟩; have HM := Sd.mk (ki_Method.M_mono (F' := fun b => wr0.heap.size ≤ b) (fun b q => Nat.le_trans (Upd.size ((by repeat (with_reducible first | exact Upd.refl _ _ | apply Upd.alloc | apply Upd.drewN | apply Upd.drew)) : Upd No wr0 _)) q) hM); obtain ⟨v1, P1, rfl, r1, -⟩ := ki_Method_M hM; obtain ⟨Bz1, bz1, rfl⟩ := R_slice r1; clear r1; have HY : Sd (Upd No wr0 w1) := Sd.mk (Upd.then (by repeat (with_reducible first | exact Upd.refl _ _ | apply Upd.alloc | apply Upd.drewN | apply Upd.drew)) hu); skip; have HRA := Sd.mk (R_no HY.out HR1.out); have hz1 := HY.out.size; have HBp := Sd.mk (HBo.out.no HY.out); have so1 := HBp.out.at 1 (v := .slice Bu i0 bu) rfl; have fo1 := HBp.out.free 1; have sa1 := (fun ob => (HBp.out.alloc ob).at 1 (v := .slice Bu i0 bu) rfl); clear hu hM) | ((refine R_appStep (d := ki_Method) (e := 210) rfl _ _ 131 _ _ rfl Tryz.underlying131 ki_Method_info rfl (by decide) (by decide) x.Methods[i0] _ _ _ rfl rfl rfl HRA.out HM.out (fun b hb q => absurd q.2 (by omega)) (by rw [List.length_take, Nat.min_eq_left (by omega)]; omega) ?_); intro v2 w2 hR hu2; rw [← List.take_succ_eq_append_getElem hlt] at hR; obtain ⟨B2, b2, hv2⟩ := R_slice hR; rw [List.length_take, Nat.min_eq_left (by omega)] at hv2; subst hv2; have HBq := Sd.mk (HBp.out.upd hu2 (fun q => absurd q.1 (by simp only [New]; omega))); have so2 := HBq.out.at 1 (v := .slice Bu i0 bu) rfl; have fo2 := HBq.out.free 1; have hz2 := hu2.size; have hR3 := Sd.mk (R_mono (F' := New ws0) (fun b q => (by simp only [New] at q ⊢; omega)) hR); have HX2 : Sd (Upd (fun b => b = (w.heap.size + 1 + 1)) ws0 w2) := Sd.mk (HU.out.trans (Upd.trans (H := fun b => ws0.heap.size ≤ b) (HUm.out.then HY.out) hu2 (fun _ _ q => q.elim) (fun b hb q => (by have := q.1; simp only [New] at this; omega))) (fun _ _ q => q) (fun b hb q => absurd hb (by omega))); clear hR hu2))
      all_goals
        go_wp2
        go_roundg (gk - 1)
        case measure => omega
        case rel =>
          refine ⟨i0 + 1, .slice B2 (i0 + 1) b2, by omega, by go_num, ⟨?_⟩, ⟨?_⟩, ⟨?_⟩⟩
          · exact Blk.put HBq.out 1 _ rfl
          · exact R_upd (Upd.set (F := fun b => b = (w.heap.size + 1 + 1)) (Upd.refl _ _) _ _ (.inr rfl)) (fun b q z => by simp only [New] at q; omega) hR3.out
          · exact Upd.set HX2.out _ _ (.inr rfl)
    · have hie : i0 = x.Methods.length := by omega
      rw [hie, List.take_length] at HR
      obtain ⟨B1, b1, hv⟩ := R_slice HR.out
      subst hv
      clear hie
      replace HBW := HW
      replace hb0 := Sd.mk (hb0.out.upd HU.out (by omega))
      replace hb1 := Sd.mk (hb1.out.upd HU.out (by omega))
      replace hb2 := HB2
      have HR1 : Sd (R ki_Method 210 wr0 (Iv ws0.heap.size wr0.heap.size) (.slice B1 x.Methods.length b1) x.Methods) := Sd.mk (R_lt HR.out)
      clear HR HU HB2 HW
      have t2_0 := hb2.out.at 0 (v := .string x.Name) rfl
      have t2_1 := hb2.out.at 1 (v := .slice B1 x.Methods.length b1) rfl
      have t1_0 := hb1.out.at 0 (v := .string ⟨#[]⟩) rfl
      have t1_1 := hb1.out.at 1 (v := .slice none 0 0) rfl
      have t0_0 := hb0.out.at 0 (v := .string x.Name) rfl
      have t0_1 := hb0.out.at 1 (v := .slice A1 x.Methods.length c1) rfl
      have f1 := hb1.out.free
      go_wp2
      refine bodyPost_ret (v := .agg #[.string x.Name, .slice B1 x.Methods.length b1]) (by simp [results, Tryz.results145, go_sem, t1_0, t1_1]) rfl ⟨_, rfl, ?_, ?_⟩
      · exact ki_Script_mk _ _ x (R_upd ((by repeat (first | (with_reducible exact Upd.refl _ _) | (refine Upd.set ?_ _ _ (.inr rfl)))) : Upd (fun b => b = (w.heap.size + 1)) wr0 _) (fun b q z => by (try simp only [Iv] at q); (try dsimp only at q); omega) HR1.out) (fun k hk => by (try simp only [Iv] at hk); (try dsimp only at hk); simp only [New]; omega)
      · exact Upd.trans HBW.out ((by repeat (first | (with_reducible exact Upd.refl _ _) | (refine Upd.set ?_ _ _ (.inr rfl)))) : Upd (fun b => b = (w.heap.size + 1)) wr0 _) (fun _ _ q => q) (fun b hb q => by omega)
set_option maxHeartbeats 1000000 in
set_option maxRecDepth 100000 in
theorem l6CopyAll_s (l : List GScript) (A : Option Addr) (c : Nat) (w : World) (h : C ki_Script w A l) (hs : sznS szn_Script l ≤ 4194304) : Calls Tryz.prog 75 #[.slice A l.length c] w (RetRow ki_Script 133 l w) := by
  have hn : l.length ≤ 4194304 := by unfold sznS at hs; omega
  have H := Sd.mk h
  have HS := Sd.mk hs
  clear h hs
  go_enter Tryz.func75, Tryz.ntmps75
  go_wp2
  have hR0 : Sd (R ki_Script 133 (w.alloc (.cells #[] 133)) (New w) (.slice (some ⟨w.heap.size, 0, none⟩) 0 0) []) := ⟨R_empty w⟩
  have hU0 : Sd (Upd No w (w.alloc (.cells #[] 133))) := ⟨(Upd.refl _ _).alloc _⟩
  go_loopg [3, 4] l.length (fun r u v wr => ∃ i : Nat, i + r = l.length ∧ v = .int .i64 i ∧ Sd (R ki_Script 133 wr (New w) u (l.take i)) ∧ Sd (Upd No w wr))
  case atStart => exact ⟨0, by omega, rfl, hR0, hU0⟩
  case round =>
    clear hR0 hU0
    obtain ⟨i, hi, rfl, HR, HU⟩ := hrel
    by_cases hlt : i < l.length
    · obtain ⟨ad, A1, c1, rfl, a0, a1, hl1, hC1⟩ := ki_Script_at (C_upd HU.out H.out) i hlt
      have HC1 := Sd.mk hC1
      clear hC1
      have hsi : szn_Script l[i] ≤ 4194304 := by have := sumS_at szn_Script l i hlt; have := HS.out; unfold sznS at *; omega
      go_wp2_with fail
      with_reducible refine (l6Copy_s l[i] _ _ (ki_Script_Kmk _ _ hl1 ?hc1) hsi).mono ?_
      case hc1 => exact C_upd (by repeat (with_reducible first | exact Upd.refl _ _ | apply Upd.alloc | apply Upd.drewN | apply Upd.drew)) HC1.out
      rintro e w1 ⟨cs, rfl, hM, hu⟩
      obtain ⟨v1, P1, rfl, r1, -⟩ := ki_Script_M hM
      obtain ⟨B1, b1, rfl⟩ := R_slice r1
      clear r1
      have hu' : Upd No wr w1 := Upd.then (by repeat (with_reducible first | exact Upd.refl _ _ | apply Upd.alloc | apply Upd.drewN | apply Upd.drew)) hu
      have hz := HU.out.size
      have hz1 := hu'.size
      have HRA := Sd.mk (R_upd hu' (fun _ _ q => q) (R_lt HR.out))
      have HM := Sd.mk (ki_Script.M_mono (F' := fun b => wr.heap.size ≤ b) (fun b hb => by simp [New] at hb; omega) hM)
      have HU1 := Sd.mk (HU.out.then hu')
      clear HR hM hu hu' HU a0 a1
      go_wp2_with (first | (at_builtin; refine R_appOne (d := ki_Script) (e := 133) rfl _ _ 31 _ _ rfl Tryz.underlying31 ki_Script_info rfl (by decide) (by decide) l[i] _ _ _ rfl rfl rfl HRA.out HM.out (fun b hb q => absurd q.2 (by omega)) (by rw [List.length_take, Nat.min_eq_left (by omega)]; omega) ?_) | fail)
      intro v1 w2 hR hu
      have hR' := Sd.mk (R_mono (F' := New w) (fun b q => by simp only [New] at q ⊢; omega) hR)
      have HU2 : Sd (Upd No w w2) := Sd.mk (HU1.out.trans hu (fun _ _ q => q) (fun b hb q => absurd hb (by have := q.1; simp only [New] at this; omega)))
      clear hR hu
      go_wp2
      go_roundg (gk - 1)
      case measure => omega
      case rel => exact ⟨i + 1, by omega, by go_num, hR', HU2⟩
    · go_wp2
      go_ret
      have hRR := HR.out
      rw [List.take_of_length_le (by omega)] at hRR
      exact ⟨_, rfl, hRR, HU.out⟩
end Go.Proofs.YtfnedoiplblldaaGreatFam
