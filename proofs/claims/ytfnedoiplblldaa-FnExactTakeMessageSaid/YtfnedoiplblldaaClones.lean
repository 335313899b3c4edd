/- Flat rows copied. No conditions beyond the sizes that the contracts name. -/
import Derived.Test.YtfnedoiplblldaaProg
import Derived.Test.YtfnedoiplblldaaSep2
import Derived.Test.YtfnedoiplblldaaLst
import Derived.WalkKit
import Derived.KernelRfl
import Derived.RowKit3
import Derived.Deep.LoopGhost
import Derived.Deep.QuietTactic
import Derived.BigQuiet
import Derived.StillTailTactics
import Derived.Deep.RegionHeld3
import Derived.Test.YtfnedoiplblldaaK
import Derived.Test.YtfnedoiplblldaaLst2
import Derived.Test.YtfnedoiplblldaaSep4
namespace Go.Proofs.YtfnedoiplblldaaFam
open Go.RowKit Go.Proofs.YtfnedoiplblldaaSep Go.Proofs.YtfnedoiplblldaaT Go.Proofs.YtfnedoiplblldaaK
set_option linter.unusedVariables false
set_option linter.unusedSimpArgs false
set_option maxHeartbeats 1000000 in
set_option maxRecDepth 100000 in
theorem flat_Instr : Flat ki_Instr := by
  unfold ki_Instr
  repeat' first | apply flat_iso | apply flat_pair | apply flat_scalar
theorem clone_Instr (l : List GInstr) (A : Option Addr) (c : Nat) (w : World) (h : C ki_Instr w A l) (hn : l.length ≤ 4194304) : Calls Try.prog 146 #[.slice A l.length c] w (RetRow ki_Instr 221 l w) := by
  have HC := Sd.mk (CM_of_flat flat_Instr h)
  have eqn := fun (w : World) a n c n' c' => Lib.run_eql_slice_nil (P := Try.prog) w 81 221 a n c n' c' Try.underlying81
  clear h
  go_enter Try.func146, Try.ntmps146
  rcases A with _ | ad
  · have h0 : l = [] := by
      cases l with
      | nil => rfl
      | cons x l => obtain ⟨ad, q, _⟩ := HC.out.2 (by simp); cases q
    subst h0
    go_wp2
    go_ret
    exact ⟨_, rfl, R_nil, Upd.refl _ _⟩
  · go_wp2_with (first | (at_builtin; refine R_appAny (d := ki_Instr) (e := 221) (ys := l) (xs := []) (F := New w) rfl _ _ 81 _ _ rfl Try.underlying81 ki_Instr_info rfl (by decide) (by decide) (some ad) c (fun _ => No) rfl rfl (R_empty w) (CM_upd (Upd.alloc (Upd.refl _ _) _) HC.out) (fun _ _ q => q.elim) (fun _ _ _ q => q.elim) (by simp; omega) ?_) | fail)
    intro v1 w1 hR hU
    have hR' := Sd.mk hR
    have HU := Sd.mk (((Upd.refl No w).alloc (.cells #[] 221)).trans hU (fun _ _ q => q) (fun b hb q => absurd hb (by simp only [New] at q; omega)))
    clear hR hU
    go_wp2
    go_ret
    exact ⟨_, rfl, R_mono (fun b q => by rcases q with q | ⟨j, _, q⟩ | q <;> simp [New, No] at q ⊢ <;> omega) hR'.out, HU.out⟩
set_option maxHeartbeats 1000000 in
set_option maxRecDepth 100000 in
theorem flat_Value : Flat ki_Value := by
  unfold ki_Value
  repeat' first | apply flat_iso | apply flat_pair | apply flat_scalar
theorem clone_Value (l : List GValue) (A : Option Addr) (c : Nat) (w : World) (h : C ki_Value w A l) (hn : l.length ≤ 4194304) : Calls Try.prog 114 #[.slice A l.length c] w (RetRow ki_Value 54 l w) := by
  have HC := Sd.mk (CM_of_flat flat_Value h)
  have eqn := fun (w : World) a n c n' c' => Lib.run_eql_slice_nil (P := Try.prog) w 53 54 a n c n' c' Try.underlying53
  clear h
  go_enter Try.func114, Try.ntmps114
  rcases A with _ | ad
  · have h0 : l = [] := by
      cases l with
      | nil => rfl
      | cons x l => obtain ⟨ad, q, _⟩ := HC.out.2 (by simp); cases q
    subst h0
    go_wp2
    go_ret
    exact ⟨_, rfl, R_nil, Upd.refl _ _⟩
  · go_wp2_with (first | (at_builtin; refine R_appAny (d := ki_Value) (e := 54) (ys := l) (xs := []) (F := New w) rfl _ _ 53 _ _ rfl Try.underlying53 ki_Value_info rfl (by decide) (by decide) (some ad) c (fun _ => No) rfl rfl (R_empty w) (CM_upd (Upd.alloc (Upd.refl _ _) _) HC.out) (fun _ _ q => q.elim) (fun _ _ _ q => q.elim) (by simp; omega) ?_) | fail)
    intro v1 w1 hR hU
    have hR' := Sd.mk hR
    have HU := Sd.mk (((Upd.refl No w).alloc (.cells #[] 54)).trans hU (fun _ _ q => q) (fun b hb q => absurd hb (by simp only [New] at q; omega)))
    clear hR hU
    go_wp2
    go_ret
    exact ⟨_, rfl, R_mono (fun b q => by rcases q with q | ⟨j, _, q⟩ | q <;> simp [New, No] at q ⊢ <;> omega) hR'.out, HU.out⟩
set_option maxHeartbeats 1000000 in
set_option maxRecDepth 100000 in
theorem flat_Asker : Flat ki_Asker := by
  unfold ki_Asker
  repeat' first | apply flat_iso | apply flat_pair | apply flat_scalar
theorem clone_Asker (l : List GAsker) (A : Option Addr) (c : Nat) (w : World) (h : C ki_Asker w A l) (hn : l.length ≤ 4194304) : Calls Try.prog 136 #[.slice A l.length c] w (RetRow ki_Asker 205 l w) := by
  have HC := Sd.mk (CM_of_flat flat_Asker h)
  have eqn := fun (w : World) a n c n' c' => Lib.run_eql_slice_nil (P := Try.prog) w 55 205 a n c n' c' Try.underlying55
  clear h
  go_enter Try.func136, Try.ntmps136
  rcases A with _ | ad
  · have h0 : l = [] := by
      cases l with
      | nil => rfl
      | cons x l => obtain ⟨ad, q, _⟩ := HC.out.2 (by simp); cases q
    subst h0
    go_wp2
    go_ret
    exact ⟨_, rfl, R_nil, Upd.refl _ _⟩
  · go_wp2_with (first | (at_builtin; refine R_appAny (d := ki_Asker) (e := 205) (ys := l) (xs := []) (F := New w) rfl _ _ 55 _ _ rfl Try.underlying55 ki_Asker_info rfl (by decide) (by decide) (some ad) c (fun _ => No) rfl rfl (R_empty w) (CM_upd (Upd.alloc (Upd.refl _ _) _) HC.out) (fun _ _ q => q.elim) (fun _ _ _ q => q.elim) (by simp; omega) ?_) | fail)
    intro v1 w1 hR hU
    have hR' := Sd.mk hR
    have HU := Sd.mk (((Upd.refl No w).alloc (.cells #[] 205)).trans hU (fun _ _ q => q) (fun b hb q => absurd hb (by simp only [New] at q; omega)))
    clear hR hU
    go_wp2
    go_ret
    exact ⟨_, rfl, R_mono (fun b q => by rcases q with q | ⟨j, _, q⟩ | q <;> simp [New, No] at q ⊢ <;> omega) hR'.out, HU.out⟩
set_option maxHeartbeats 1000000 in
set_option maxRecDepth 100000 in
theorem flat_Export : Flat ki_Export := by
  unfold ki_Export
  repeat' first | apply flat_iso | apply flat_pair | apply flat_scalar
theorem clone_Export (l : List GExport) (A : Option Addr) (c : Nat) (w : World) (h : C ki_Export w A l) (hn : l.length ≤ 4194304) : Calls Try.prog 161 #[.slice A l.length c] w (RetRow ki_Export 172 l w) := by
  have HC := Sd.mk (CM_of_flat flat_Export h)
  have eqn := fun (w : World) a n c n' c' => Lib.run_eql_slice_nil (P := Try.prog) w 94 172 a n c n' c' Try.underlying94
  clear h
  go_enter Try.func161, Try.ntmps161
  rcases A with _ | ad
  · have h0 : l = [] := by
      cases l with
      | nil => rfl
      | cons x l => obtain ⟨ad, q, _⟩ := HC.out.2 (by simp); cases q
    subst h0
    go_wp2
    go_ret
    exact ⟨_, rfl, R_nil, Upd.refl _ _⟩
  · go_wp2_with (first | (at_builtin; refine R_appAny (d := ki_Export) (e := 172) (ys := l) (xs := []) (F := New w) rfl _ _ 94 _ _ rfl Try.underlying94 ki_Export_info rfl (by decide) (by decide) (some ad) c (fun _ => No) rfl rfl (R_empty w) (CM_upd (Upd.alloc (Upd.refl _ _) _) HC.out) (fun _ _ q => q.elim) (fun _ _ _ q => q.elim) (by simp; omega) ?_) | fail)
    intro v1 w1 hR hU
    have hR' := Sd.mk hR
    have HU := Sd.mk (((Upd.refl No w).alloc (.cells #[] 172)).trans hU (fun _ _ q => q) (fun b hb q => absurd hb (by simp only [New] at q; omega)))
    clear hR hU
    go_wp2
    go_ret
    exact ⟨_, rfl, R_mono (fun b q => by rcases q with q | ⟨j, _, q⟩ | q <;> simp [New, No] at q ⊢ <;> omega) hR'.out, HU.out⟩
set_option maxHeartbeats 1000000 in
set_option maxRecDepth 100000 in
theorem flat_Question : Flat ki_Question := by
  unfold ki_Question
  repeat' first | apply flat_iso | apply flat_pair | apply flat_scalar
theorem clone_Question (l : List GQuestion) (A : Option Addr) (c : Nat) (w : World) (h : C ki_Question w A l) (hn : l.length ≤ 4194304) : Calls Try.prog 162 #[.slice A l.length c] w (RetRow ki_Question 230 l w) := by
  have HC := Sd.mk (CM_of_flat flat_Question h)
  have eqn := fun (w : World) a n c n' c' => Lib.run_eql_slice_nil (P := Try.prog) w 95 230 a n c n' c' Try.underlying95
  clear h
  go_enter Try.func162, Try.ntmps162
  rcases A with _ | ad
  · have h0 : l = [] := by
      cases l with
      | nil => rfl
      | cons x l => obtain ⟨ad, q, _⟩ := HC.out.2 (by simp); cases q
    subst h0
    go_wp2
    go_ret
    exact ⟨_, rfl, R_nil, Upd.refl _ _⟩
  · go_wp2_with (first | (at_builtin; refine R_appAny (d := ki_Question) (e := 230) (ys := l) (xs := []) (F := New w) rfl _ _ 95 _ _ rfl Try.underlying95 ki_Question_info rfl (by decide) (by decide) (some ad) c (fun _ => No) rfl rfl (R_empty w) (CM_upd (Upd.alloc (Upd.refl _ _) _) HC.out) (fun _ _ q => q.elim) (fun _ _ _ q => q.elim) (by simp; omega) ?_) | fail)
    intro v1 w1 hR hU
    have hR' := Sd.mk hR
    have HU := Sd.mk (((Upd.refl No w).alloc (.cells #[] 230)).trans hU (fun _ _ q => q) (fun b hb q => absurd hb (by simp only [New] at q; omega)))
    clear hR hU
    go_wp2
    go_ret
    exact ⟨_, rfl, R_mono (fun b q => by rcases q with q | ⟨j, _, q⟩ | q <;> simp [New, No] at q ⊢ <;> omega) hR'.out, HU.out⟩
set_option maxHeartbeats 1000000 in
set_option maxRecDepth 100000 in
theorem flat_Wire : Flat ki_Wire := by
  unfold ki_Wire
  repeat' first | apply flat_iso | apply flat_pair | apply flat_scalar
theorem clone_Wire (l : List GWire) (A : Option Addr) (c : Nat) (w : World) (h : C ki_Wire w A l) (hn : l.length ≤ 4194304) : Calls Try.prog 163 #[.slice A l.length c] w (RetRow ki_Wire 66 l w) := by
  have HC := Sd.mk (CM_of_flat flat_Wire h)
  have eqn := fun (w : World) a n c n' c' => Lib.run_eql_slice_nil (P := Try.prog) w 65 66 a n c n' c' Try.underlying65
  clear h
  go_enter Try.func163, Try.ntmps163
  rcases A with _ | ad
  · have h0 : l = [] := by
      cases l with
      | nil => rfl
      | cons x l => obtain ⟨ad, q, _⟩ := HC.out.2 (by simp); cases q
    subst h0
    go_wp2
    go_ret
    exact ⟨_, rfl, R_nil, Upd.refl _ _⟩
  · go_wp2_with (first | (at_builtin; refine R_appAny (d := ki_Wire) (e := 66) (ys := l) (xs := []) (F := New w) rfl _ _ 65 _ _ rfl Try.underlying65 ki_Wire_info rfl (by decide) (by decide) (some ad) c (fun _ => No) rfl rfl (R_empty w) (CM_upd (Upd.alloc (Upd.refl _ _) _) HC.out) (fun _ _ q => q.elim) (fun _ _ _ q => q.elim) (by simp; omega) ?_) | fail)
    intro v1 w1 hR hU
    have hR' := Sd.mk hR
    have HU := Sd.mk (((Upd.refl No w).alloc (.cells #[] 66)).trans hU (fun _ _ q => q) (fun b hb q => absurd hb (by simp only [New] at q; omega)))
    clear hR hU
    go_wp2
    go_ret
    exact ⟨_, rfl, R_mono (fun b q => by rcases q with q | ⟨j, _, q⟩ | q <;> simp [New, No] at q ⊢ <;> omega) hR'.out, HU.out⟩
end Go.Proofs.YtfnedoiplblldaaFam
