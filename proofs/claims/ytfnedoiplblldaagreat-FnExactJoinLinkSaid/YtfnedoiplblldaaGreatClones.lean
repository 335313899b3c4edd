/- Flat rows copied. No conditions beyond the sizes that the contracts name. -/
import Derived.Test.YtfnedoiplblldaaGreatProg
import Derived.Test.YtfnedoiplblldaaGreatSep2
import Derived.Test.YtfnedoiplblldaaGreatLst
import Derived.WalkKit
import Derived.KernelRfl
import Derived.RowKit3
import Derived.Deep.LoopGhost
import Derived.Deep.QuietTactic
import Derived.BigQuiet
import Derived.StillTailTactics
import Derived.Deep.RegionHeld3
import Derived.Test.YtfnedoiplblldaaGreatK
import Derived.Test.YtfnedoiplblldaaGreatLst2
import Derived.Test.YtfnedoiplblldaaGreatSep4
namespace Go.Proofs.YtfnedoiplblldaaGreatFam
open Go.RowKit Go.Proofs.YtfnedoiplblldaaGreatSep Go.Proofs.YtfnedoiplblldaaGreatT Go.Proofs.YtfnedoiplblldaaGreatK
set_option linter.unusedVariables false
set_option linter.unusedSimpArgs false
set_option maxHeartbeats 1000000 in
set_option maxRecDepth 100000 in
theorem flat_Instr : Flat ki_Instr := by
  unfold ki_Instr
  repeat' first | apply flat_iso | apply flat_pair | apply flat_scalar
theorem clone_Instr (l : List GInstr) (A : Option Addr) (c : Nat) (w : World) (h : C ki_Instr w A l) (hn : l.length ≤ 4194304) : Calls Tryz.prog 199 #[.slice A l.length c] w (RetRow ki_Instr 274 l w) := by
  have HC := Sd.mk (CM_of_flat flat_Instr h)
  have eqn := fun (w : World) a n c n' c' => Lib.run_eql_slice_nil (P := Tryz.prog) w 208 274 a n c n' c' Tryz.underlying208
  clear h
  go_enter Tryz.func199, Tryz.ntmps199
  rcases A with _ | ad
  · have h0 : l = [] := by
      cases l with
      | nil => rfl
      | cons x l => obtain ⟨ad, q, _⟩ := HC.out.2 (by simp); cases q
    subst h0
    go_wp2
    go_ret
    exact ⟨_, rfl, R_nil, Upd.refl _ _⟩
  · go_wp2_with (first | (at_builtin; refine R_appAny (d := ki_Instr) (e := 274) (ys := l) (xs := []) (F := New w) rfl _ _ 208 _ _ rfl Tryz.underlying208 ki_Instr_info rfl (by decide) (by decide) (some ad) c (fun _ => No) rfl rfl (R_empty w) (CM_upd (Upd.alloc (Upd.refl _ _) _) HC.out) (fun _ _ q => q.elim) (fun _ _ _ q => q.elim) (by simp; omega) ?_) | fail)
    intro v1 w1 hR hU
    have hR' := Sd.mk hR
    have HU := Sd.mk (((Upd.refl No w).alloc (.cells #[] 274)).trans hU (fun _ _ q => q) (fun b hb q => absurd hb (by simp only [New] at q; omega)))
    clear hR hU
    go_wp2
    go_ret
    exact ⟨_, rfl, R_mono (fun b q => by rcases q with q | ⟨j, _, q⟩ | q <;> simp [New, No] at q ⊢ <;> omega) hR'.out, HU.out⟩
set_option maxHeartbeats 1000000 in
set_option maxRecDepth 100000 in
theorem flat_Value : Flat ki_Value := by
  unfold ki_Value
  repeat' first | apply flat_iso | apply flat_pair | apply flat_scalar
theorem clone_Value (l : List GValue) (A : Option Addr) (c : Nat) (w : World) (h : C ki_Value w A l) (hn : l.length ≤ 4194304) : Calls Tryz.prog 184 #[.slice A l.length c] w (RetRow ki_Value 95 l w) := by
  have HC := Sd.mk (CM_of_flat flat_Value h)
  have eqn := fun (w : World) a n c n' c' => Lib.run_eql_slice_nil (P := Tryz.prog) w 85 95 a n c n' c' Tryz.underlying85
  clear h
  go_enter Tryz.func184, Tryz.ntmps184
  rcases A with _ | ad
  · have h0 : l = [] := by
      cases l with
      | nil => rfl
      | cons x l => obtain ⟨ad, q, _⟩ := HC.out.2 (by simp); cases q
    subst h0
    go_wp2
    go_ret
    exact ⟨_, rfl, R_nil, Upd.refl _ _⟩
  · go_wp2_with (first | (at_builtin; refine R_appAny (d := ki_Value) (e := 95) (ys := l) (xs := []) (F := New w) rfl _ _ 85 _ _ rfl Tryz.underlying85 ki_Value_info rfl (by decide) (by decide) (some ad) c (fun _ => No) rfl rfl (R_empty w) (CM_upd (Upd.alloc (Upd.refl _ _) _) HC.out) (fun _ _ q => q.elim) (fun _ _ _ q => q.elim) (by simp; omega) ?_) | fail)
    intro v1 w1 hR hU
    have hR' := Sd.mk hR
    have HU := Sd.mk (((Upd.refl No w).alloc (.cells #[] 95)).trans hU (fun _ _ q => q) (fun b hb q => absurd hb (by simp only [New] at q; omega)))
    clear hR hU
    go_wp2
    go_ret
    exact ⟨_, rfl, R_mono (fun b q => by rcases q with q | ⟨j, _, q⟩ | q <;> simp [New, No] at q ⊢ <;> omega) hR'.out, HU.out⟩
set_option maxHeartbeats 1000000 in
set_option maxRecDepth 100000 in
theorem flat_Asker : Flat ki_Asker := by
  unfold ki_Asker
  repeat' first | apply flat_iso | apply flat_pair | apply flat_scalar
theorem clone_Asker (l : List GAsker) (A : Option Addr) (c : Nat) (w : World) (h : C ki_Asker w A l) (hn : l.length ≤ 4194304) : Calls Tryz.prog 209 #[.slice A l.length c] w (RetRow ki_Asker 285 l w) := by
  have HC := Sd.mk (CM_of_flat flat_Asker h)
  have eqn := fun (w : World) a n c n' c' => Lib.run_eql_slice_nil (P := Tryz.prog) w 169 285 a n c n' c' Tryz.underlying169
  clear h
  go_enter Tryz.func209, Tryz.ntmps209
  rcases A with _ | ad
  · have h0 : l = [] := by
      cases l with
      | nil => rfl
      | cons x l => obtain ⟨ad, q, _⟩ := HC.out.2 (by simp); cases q
    subst h0
    go_wp2
    go_ret
    exact ⟨_, rfl, R_nil, Upd.refl _ _⟩
  · go_wp2_with (first | (at_builtin; refine R_appAny (d := ki_Asker) (e := 285) (ys := l) (xs := []) (F := New w) rfl _ _ 169 _ _ rfl Tryz.underlying169 ki_Asker_info rfl (by decide) (by decide) (some ad) c (fun _ => No) rfl rfl (R_empty w) (CM_upd (Upd.alloc (Upd.refl _ _) _) HC.out) (fun _ _ q => q.elim) (fun _ _ _ q => q.elim) (by simp; omega) ?_) | fail)
    intro v1 w1 hR hU
    have hR' := Sd.mk hR
    have HU := Sd.mk (((Upd.refl No w).alloc (.cells #[] 285)).trans hU (fun _ _ q => q) (fun b hb q => absurd hb (by simp only [New] at q; omega)))
    clear hR hU
    go_wp2
    go_ret
    exact ⟨_, rfl, R_mono (fun b q => by rcases q with q | ⟨j, _, q⟩ | q <;> simp [New, No] at q ⊢ <;> omega) hR'.out, HU.out⟩
set_option maxHeartbeats 1000000 in
set_option maxRecDepth 100000 in
theorem flat_Export : Flat ki_Export := by
  unfold ki_Export
  repeat' first | apply flat_iso | apply flat_pair | apply flat_scalar
theorem clone_Export (l : List GExport) (A : Option Addr) (c : Nat) (w : World) (h : C ki_Export w A l) (hn : l.length ≤ 4194304) : Calls Tryz.prog 210 #[.slice A l.length c] w (RetRow ki_Export 256 l w) := by
  have HC := Sd.mk (CM_of_flat flat_Export h)
  have eqn := fun (w : World) a n c n' c' => Lib.run_eql_slice_nil (P := Tryz.prog) w 175 256 a n c n' c' Tryz.underlying175
  clear h
  go_enter Tryz.func210, Tryz.ntmps210
  rcases A with _ | ad
  · have h0 : l = [] := by
      cases l with
      | nil => rfl
      | cons x l => obtain ⟨ad, q, _⟩ := HC.out.2 (by simp); cases q
    subst h0
    go_wp2
    go_ret
    exact ⟨_, rfl, R_nil, Upd.refl _ _⟩
  · go_wp2_with (first | (at_builtin; refine R_appAny (d := ki_Export) (e := 256) (ys := l) (xs := []) (F := New w) rfl _ _ 175 _ _ rfl Tryz.underlying175 ki_Export_info rfl (by decide) (by decide) (some ad) c (fun _ => No) rfl rfl (R_empty w) (CM_upd (Upd.alloc (Upd.refl _ _) _) HC.out) (fun _ _ q => q.elim) (fun _ _ _ q => q.elim) (by simp; omega) ?_) | fail)
    intro v1 w1 hR hU
    have hR' := Sd.mk hR
    have HU := Sd.mk (((Upd.refl No w).alloc (.cells #[] 256)).trans hU (fun _ _ q => q) (fun b hb q => absurd hb (by simp only [New] at q; omega)))
    clear hR hU
    go_wp2
    go_ret
    exact ⟨_, rfl, R_mono (fun b q => by rcases q with q | ⟨j, _, q⟩ | q <;> simp [New, No] at q ⊢ <;> omega) hR'.out, HU.out⟩
set_option maxHeartbeats 1000000 in
set_option maxRecDepth 100000 in
theorem flat_Question : Flat ki_Question := by
  unfold ki_Question
  repeat' first | apply flat_iso | apply flat_pair | apply flat_scalar
theorem clone_Question (l : List GQuestion) (A : Option Addr) (c : Nat) (w : World) (h : C ki_Question w A l) (hn : l.length ≤ 4194304) : Calls Tryz.prog 211 #[.slice A l.length c] w (RetRow ki_Question 289 l w) := by
  have HC := Sd.mk (CM_of_flat flat_Question h)
  have eqn := fun (w : World) a n c n' c' => Lib.run_eql_slice_nil (P := Tryz.prog) w 176 289 a n c n' c' Tryz.underlying176
  clear h
  go_enter Tryz.func211, Tryz.ntmps211
  rcases A with _ | ad
  · have h0 : l = [] := by
      cases l with
      | nil => rfl
      | cons x l => obtain ⟨ad, q, _⟩ := HC.out.2 (by simp); cases q
    subst h0
    go_wp2
    go_ret
    exact ⟨_, rfl, R_nil, Upd.refl _ _⟩
  · go_wp2_with (first | (at_builtin; refine R_appAny (d := ki_Question) (e := 289) (ys := l) (xs := []) (F := New w) rfl _ _ 176 _ _ rfl Tryz.underlying176 ki_Question_info rfl (by decide) (by decide) (some ad) c (fun _ => No) rfl rfl (R_empty w) (CM_upd (Upd.alloc (Upd.refl _ _) _) HC.out) (fun _ _ q => q.elim) (fun _ _ _ q => q.elim) (by simp; omega) ?_) | fail)
    intro v1 w1 hR hU
    have hR' := Sd.mk hR
    have HU := Sd.mk (((Upd.refl No w).alloc (.cells #[] 289)).trans hU (fun _ _ q => q) (fun b hb q => absurd hb (by simp only [New] at q; omega)))
    clear hR hU
    go_wp2
    go_ret
    exact ⟨_, rfl, R_mono (fun b q => by rcases q with q | ⟨j, _, q⟩ | q <;> simp [New, No] at q ⊢ <;> omega) hR'.out, HU.out⟩
set_option maxHeartbeats 1000000 in
set_option maxRecDepth 100000 in
theorem flat_Wire : Flat ki_Wire := by
  unfold ki_Wire
  repeat' first | apply flat_iso | apply flat_pair | apply flat_scalar
theorem clone_Wire (l : List GWire) (A : Option Addr) (c : Nat) (w : World) (h : C ki_Wire w A l) (hn : l.length ≤ 4194304) : Calls Tryz.prog 168 #[.slice A l.length c] w (RetRow ki_Wire 72 l w) := by
  have HC := Sd.mk (CM_of_flat flat_Wire h)
  have eqn := fun (w : World) a n c n' c' => Lib.run_eql_slice_nil (P := Tryz.prog) w 71 72 a n c n' c' Tryz.underlying71
  clear h
  go_enter Tryz.func168, Tryz.ntmps168
  rcases A with _ | ad
  · have h0 : l = [] := by
      cases l with
      | nil => rfl
      | cons x l => obtain ⟨ad, q, _⟩ := HC.out.2 (by simp); cases q
    subst h0
    go_wp2
    go_ret
    exact ⟨_, rfl, R_nil, Upd.refl _ _⟩
  · go_wp2_with (first | (at_builtin; refine R_appAny (d := ki_Wire) (e := 72) (ys := l) (xs := []) (F := New w) rfl _ _ 71 _ _ rfl Tryz.underlying71 ki_Wire_info rfl (by decide) (by decide) (some ad) c (fun _ => No) rfl rfl (R_empty w) (CM_upd (Upd.alloc (Upd.refl _ _) _) HC.out) (fun _ _ q => q.elim) (fun _ _ _ q => q.elim) (by simp; omega) ?_) | fail)
    intro v1 w1 hR hU
    have hR' := Sd.mk hR
    have HU := Sd.mk (((Upd.refl No w).alloc (.cells #[] 72)).trans hU (fun _ _ q => q) (fun b hb q => absurd hb (by simp only [New] at q; omega)))
    clear hR hU
    go_wp2
    go_ret
    exact ⟨_, rfl, R_mono (fun b q => by rcases q with q | ⟨j, _, q⟩ | q <;> simp [New, No] at q ⊢ <;> omega) hR'.out, HU.out⟩
set_option maxHeartbeats 1000000 in
set_option maxRecDepth 100000 in
theorem flat_Note : Flat ki_Note := by
  unfold ki_Note
  repeat' first | apply flat_iso | apply flat_pair | apply flat_scalar
theorem clone_Note (l : List GNote) (A : Option Addr) (c : Nat) (w : World) (h : C ki_Note w A l) (hn : l.length ≤ 4194304) : Calls Tryz.prog 138 #[.slice A l.length c] w (RetRow ki_Note 110 l w) := by
  have HC := Sd.mk (CM_of_flat flat_Note h)
  have eqn := fun (w : World) a n c n' c' => Lib.run_eql_slice_nil (P := Tryz.prog) w 34 110 a n c n' c' Tryz.underlying34
  clear h
  go_enter Tryz.func138, Tryz.ntmps138
  rcases A with _ | ad
  · have h0 : l = [] := by
      cases l with
      | nil => rfl
      | cons x l => obtain ⟨ad, q, _⟩ := HC.out.2 (by simp); cases q
    subst h0
    go_wp2
    go_ret
    exact ⟨_, rfl, R_nil, Upd.refl _ _⟩
  · go_wp2_with (first | (at_builtin; refine R_appAny (d := ki_Note) (e := 110) (ys := l) (xs := []) (F := New w) rfl _ _ 34 _ _ rfl Tryz.underlying34 ki_Note_info rfl (by decide) (by decide) (some ad) c (fun _ => No) rfl rfl (R_empty w) (CM_upd (Upd.alloc (Upd.refl _ _) _) HC.out) (fun _ _ q => q.elim) (fun _ _ _ q => q.elim) (by simp; omega) ?_) | fail)
    intro v1 w1 hR hU
    have hR' := Sd.mk hR
    have HU := Sd.mk (((Upd.refl No w).alloc (.cells #[] 110)).trans hU (fun _ _ q => q) (fun b hb q => absurd hb (by simp only [New] at q; omega)))
    clear hR hU
    go_wp2
    go_ret
    exact ⟨_, rfl, R_mono (fun b q => by rcases q with q | ⟨j, _, q⟩ | q <;> simp [New, No] at q ⊢ <;> omega) hR'.out, HU.out⟩
end Go.Proofs.YtfnedoiplblldaaGreatFam
