/- EventName: what the reference and the program return. No conditions. -/
import Derived.Test.YtjmkciiifiajeaaDoorProg
import Derived.WalkKit
import Derived.KernelRfl
import Derived.Below
namespace Go.Proofs.YtjmkciiifiajeaaDoor.ev
open Go.RowKit
def nmD : Nat → ByteArray
  | 1 => ⟨#[115, 101, 110, 100]⟩
  | 2 => ⟨#[116, 117, 114, 110]⟩
  | 3 => ⟨#[100, 101, 108, 105, 118, 101, 114]⟩
  | 4 => ⟨#[99, 117, 116]⟩
  | 5 => ⟨#[106, 111, 105, 110]⟩
  | 6 => ⟨#[115, 119, 101, 101, 112]⟩
  | 7 => ⟨#[109, 97, 107, 101]⟩
  | _ => ⟨#[]⟩
theorem cases7 (k : Int) (h1 : 1 ≤ k) (h2 : k ≤ 7) : k = 1 ∨ k = 2 ∨ k = 3 ∨ k = 4 ∨ k = 5 ∨ k = 6 ∨ k = 7 := by omega
def cellsAt (w : World) : Prop := w.cell? ⟨0, 0, none⟩ = some (.string ⟨#[]⟩) ∧ w.cell? ⟨0, 1, none⟩ = some (.string ⟨#[115, 101, 110, 100]⟩) ∧ w.cell? ⟨0, 2, none⟩ = some (.string ⟨#[116, 117, 114, 110]⟩) ∧ w.cell? ⟨0, 3, none⟩ = some (.string ⟨#[100, 101, 108, 105, 118, 101, 114]⟩) ∧ w.cell? ⟨0, 4, none⟩ = some (.string ⟨#[99, 117, 116]⟩) ∧ w.cell? ⟨0, 5, none⟩ = some (.string ⟨#[106, 111, 105, 110]⟩) ∧ w.cell? ⟨0, 6, none⟩ = some (.string ⟨#[115, 119, 101, 101, 112]⟩) ∧ w.cell? ⟨0, 7, none⟩ = some (.string ⟨#[109, 97, 107, 101]⟩)
set_option maxHeartbeats 1000000 in
set_option maxRecDepth 100000 in
theorem ev_s1 (w : World) : Calls Tryd.prog 4 #[.int .i64 1] w (fun e w' => e = .returned (.string (nmD 1)) ∧ Below w.heap.size w w') := by
  go_enter Tryd.func4, Tryd.ntmps4
  go_wp2
  go_ret
  exact ⟨rfl, by repeat (first | exact Below.refl _ _ | apply Below.drew | (refine Below.alloc ?_ (by simp) _) | (refine Below.setCell ?_ (by simp) _))⟩
set_option maxHeartbeats 1000000 in
set_option maxRecDepth 100000 in
theorem ev_s2 (w : World) : Calls Tryd.prog 4 #[.int .i64 2] w (fun e w' => e = .returned (.string (nmD 2)) ∧ Below w.heap.size w w') := by
  go_enter Tryd.func4, Tryd.ntmps4
  go_wp2
  go_ret
  exact ⟨rfl, by repeat (first | exact Below.refl _ _ | apply Below.drew | (refine Below.alloc ?_ (by simp) _) | (refine Below.setCell ?_ (by simp) _))⟩
set_option maxHeartbeats 1000000 in
set_option maxRecDepth 100000 in
theorem ev_s3 (w : World) : Calls Tryd.prog 4 #[.int .i64 3] w (fun e w' => e = .returned (.string (nmD 3)) ∧ Below w.heap.size w w') := by
  go_enter Tryd.func4, Tryd.ntmps4
  go_wp2
  go_ret
  exact ⟨rfl, by repeat (first | exact Below.refl _ _ | apply Below.drew | (refine Below.alloc ?_ (by simp) _) | (refine Below.setCell ?_ (by simp) _))⟩
set_option maxHeartbeats 1000000 in
set_option maxRecDepth 100000 in
theorem ev_s4 (w : World) : Calls Tryd.prog 4 #[.int .i64 4] w (fun e w' => e = .returned (.string (nmD 4)) ∧ Below w.heap.size w w') := by
  go_enter Tryd.func4, Tryd.ntmps4
  go_wp2
  go_ret
  exact ⟨rfl, by repeat (first | exact Below.refl _ _ | apply Below.drew | (refine Below.alloc ?_ (by simp) _) | (refine Below.setCell ?_ (by simp) _))⟩
set_option maxHeartbeats 1000000 in
set_option maxRecDepth 100000 in
theorem ev_s5 (w : World) : Calls Tryd.prog 4 #[.int .i64 5] w (fun e w' => e = .returned (.string (nmD 5)) ∧ Below w.heap.size w w') := by
  go_enter Tryd.func4, Tryd.ntmps4
  go_wp2
  go_ret
  exact ⟨rfl, by repeat (first | exact Below.refl _ _ | apply Below.drew | (refine Below.alloc ?_ (by simp) _) | (refine Below.setCell ?_ (by simp) _))⟩
set_option maxHeartbeats 1000000 in
set_option maxRecDepth 100000 in
theorem ev_s6 (w : World) : Calls Tryd.prog 4 #[.int .i64 6] w (fun e w' => e = .returned (.string (nmD 6)) ∧ Below w.heap.size w w') := by
  go_enter Tryd.func4, Tryd.ntmps4
  go_wp2
  go_ret
  exact ⟨rfl, by repeat (first | exact Below.refl _ _ | apply Below.drew | (refine Below.alloc ?_ (by simp) _) | (refine Below.setCell ?_ (by simp) _))⟩
set_option maxHeartbeats 1000000 in
set_option maxRecDepth 100000 in
theorem ev_s7 (w : World) : Calls Tryd.prog 4 #[.int .i64 7] w (fun e w' => e = .returned (.string (nmD 7)) ∧ Below w.heap.size w w') := by
  go_enter Tryd.func4, Tryd.ntmps4
  go_wp2
  go_ret
  exact ⟨rfl, by repeat (first | exact Below.refl _ _ | apply Below.drew | (refine Below.alloc ?_ (by simp) _) | (refine Below.setCell ?_ (by simp) _))⟩
set_option maxHeartbeats 1000000 in
set_option maxRecDepth 100000 in
theorem ev_sx (k : Int) (hk : ¬ (1 ≤ k ∧ k ≤ 7)) (w : World) : Calls Tryd.prog 4 #[.int .i64 k] w (fun e w' => e = .returned (.string ⟨#[]⟩) ∧ Below w.heap.size w w') := by
  have q1 : (k ≥ 1 ∧ k ≤ 7) = False := by simp; omega
  by_cases h1 : 1 ≤ k
  · have h2 : ¬ k ≤ 7 := fun q => hk ⟨h1, q⟩
    go_enter Tryd.func4, Tryd.ntmps4
    go_wp2
    go_ret
    exact ⟨rfl, by repeat (first | exact Below.refl _ _ | apply Below.drew)⟩
  · go_enter Tryd.func4, Tryd.ntmps4
    go_wp2
    go_ret
    exact ⟨rfl, by repeat (first | exact Below.refl _ _ | apply Below.drew)⟩
set_option maxHeartbeats 1000000 in
set_option maxRecDepth 100000 in
theorem ev_i1 (w : World) (hw : cellsAt w) : Calls Tryd.prog 5 #[.int .i64 1] w (fun e w' => e = .returned (.string (nmD 1)) ∧ Below w.heap.size w w') := by
  obtain ⟨h0, h1, h2, h3, h4, h5, h6, h7⟩ := hw
  go_enter Tryd.func5, Tryd.ntmps5
  go_wp2
  go_ret
  exact ⟨rfl, by repeat (first | exact Below.refl _ _ | apply Below.drew | (refine Below.alloc ?_ (by simp) _) | (refine Below.setCell ?_ (by simp) _))⟩
set_option maxHeartbeats 1000000 in
set_option maxRecDepth 100000 in
theorem ev_i2 (w : World) (hw : cellsAt w) : Calls Tryd.prog 5 #[.int .i64 2] w (fun e w' => e = .returned (.string (nmD 2)) ∧ Below w.heap.size w w') := by
  obtain ⟨h0, h1, h2, h3, h4, h5, h6, h7⟩ := hw
  go_enter Tryd.func5, Tryd.ntmps5
  go_wp2
  go_ret
  exact ⟨rfl, by repeat (first | exact Below.refl _ _ | apply Below.drew | (refine Below.alloc ?_ (by simp) _) | (refine Below.setCell ?_ (by simp) _))⟩
set_option maxHeartbeats 1000000 in
set_option maxRecDepth 100000 in
theorem ev_i3 (w : World) (hw : cellsAt w) : Calls Tryd.prog 5 #[.int .i64 3] w (fun e w' => e = .returned (.string (nmD 3)) ∧ Below w.heap.size w w') := by
  obtain ⟨h0, h1, h2, h3, h4, h5, h6, h7⟩ := hw
  go_enter Tryd.func5, Tryd.ntmps5
  go_wp2
  go_ret
  exact ⟨rfl, by repeat (first | exact Below.refl _ _ | apply Below.drew | (refine Below.alloc ?_ (by simp) _) | (refine Below.setCell ?_ (by simp) _))⟩
set_option maxHeartbeats 1000000 in
set_option maxRecDepth 100000 in
theorem ev_i4 (w : World) (hw : cellsAt w) : Calls Tryd.prog 5 #[.int .i64 4] w (fun e w' => e = .returned (.string (nmD 4)) ∧ Below w.heap.size w w') := by
  obtain ⟨h0, h1, h2, h3, h4, h5, h6, h7⟩ := hw
  go_enter Tryd.func5, Tryd.ntmps5
  go_wp2
  go_ret
  exact ⟨rfl, by repeat (first | exact Below.refl _ _ | apply Below.drew | (refine Below.alloc ?_ (by simp) _) | (refine Below.setCell ?_ (by simp) _))⟩
set_option maxHeartbeats 1000000 in
set_option maxRecDepth 100000 in
theorem ev_i5 (w : World) (hw : cellsAt w) : Calls Tryd.prog 5 #[.int .i64 5] w (fun e w' => e = .returned (.string (nmD 5)) ∧ Below w.heap.size w w') := by
  obtain ⟨h0, h1, h2, h3, h4, h5, h6, h7⟩ := hw
  go_enter Tryd.func5, Tryd.ntmps5
  go_wp2
  go_ret
  exact ⟨rfl, by repeat (first | exact Below.refl _ _ | apply Below.drew | (refine Below.alloc ?_ (by simp) _) | (refine Below.setCell ?_ (by simp) _))⟩
set_option maxHeartbeats 1000000 in
set_option maxRecDepth 100000 in
theorem ev_i6 (w : World) (hw : cellsAt w) : Calls Tryd.prog 5 #[.int .i64 6] w (fun e w' => e = .returned (.string (nmD 6)) ∧ Below w.heap.size w w') := by
  obtain ⟨h0, h1, h2, h3, h4, h5, h6, h7⟩ := hw
  go_enter Tryd.func5, Tryd.ntmps5
  go_wp2
  go_ret
  exact ⟨rfl, by repeat (first | exact Below.refl _ _ | apply Below.drew | (refine Below.alloc ?_ (by simp) _) | (refine Below.setCell ?_ (by simp) _))⟩
set_option maxHeartbeats 1000000 in
set_option maxRecDepth 100000 in
theorem ev_i7 (w : World) (hw : cellsAt w) : Calls Tryd.prog 5 #[.int .i64 7] w (fun e w' => e = .returned (.string (nmD 7)) ∧ Below w.heap.size w w') := by
  obtain ⟨h0, h1, h2, h3, h4, h5, h6, h7⟩ := hw
  go_enter Tryd.func5, Tryd.ntmps5
  go_wp2
  go_ret
  exact ⟨rfl, by repeat (first | exact Below.refl _ _ | apply Below.drew | (refine Below.alloc ?_ (by simp) _) | (refine Below.setCell ?_ (by simp) _))⟩
set_option maxHeartbeats 1000000 in
set_option maxRecDepth 100000 in
theorem ev_ix (k : Int) (hk : ¬ (1 ≤ k ∧ k ≤ 7)) (w : World) : Calls Tryd.prog 5 #[.int .i64 k] w (fun e w' => e = .returned (.string ⟨#[]⟩) ∧ Below w.heap.size w w') := by
  have q1 : (k ≥ 1 ∧ k ≤ 7) = False := by simp; omega
  by_cases h1 : 1 ≤ k
  · have h2 : ¬ k ≤ 7 := fun q => hk ⟨h1, q⟩
    go_enter Tryd.func5, Tryd.ntmps5
    go_wp2
    go_ret
    exact ⟨rfl, by repeat (first | exact Below.refl _ _ | apply Below.drew)⟩
  · go_enter Tryd.func5, Tryd.ntmps5
    go_wp2
    go_ret
    exact ⟨rfl, by repeat (first | exact Below.refl _ _ | apply Below.drew)⟩
end Go.Proofs.YtjmkciiifiajeaaDoor.ev
