/- Pointers compared with nil. No conditions. -/
import Derived.Test.YtfnedoiplblldaaGreatSym3
namespace Go.Proofs.YtfnedoiplblldaaGreatSep
open Go.ChangeShapes Go.WideShapes Go.RowKit
section
variable {P : Program} {n ty : Nat} {x : Nat → Value} {live : List (Nat × Value)} {W : World} {pos : String} {aft : Array Edge} {y z : Operand} {dst : Option Nat} {xt yt e : Nat}
theorem rn_neqNilT {a : Addr} (hu : ∀ w, (underlying xt).run P w = .ok (.pointer e) w) (hx : evl n live y = some (.pointer (some a))) (hz : evl n live z = some (.pointer none)) : Rn P ⟨dst, .binOp .neq xt y z yt, ty, pos, aft, none⟩ (actOf n x live) W (.bool true) := by
  unfold Rn
  have e1 : Op.equal xt (.pointer (some a)) (.pointer none) = Op.equalIn (9999 + 1) xt (.pointer (some a)) (.pointer none) := rfl
  have e2 : (Op.equal xt (.pointer (some a)) (.pointer none)).run P W = .ok false W := by
    rw [e1, Op.equalIn]
    simp [hu]
  simp [execOp, evl_ok hx, evl_ok hz, eqGuard_at_pointer, binOp, e2]
theorem rn_neqNilF (hu : ∀ w, (underlying xt).run P w = .ok (.pointer e) w) (hx : evl n live y = some (.pointer none)) (hz : evl n live z = some (.pointer none)) : Rn P ⟨dst, .binOp .neq xt y z yt, ty, pos, aft, none⟩ (actOf n x live) W (.bool false) := by
  unfold Rn
  have e1 : Op.equal xt (.pointer none) (.pointer none) = Op.equalIn (9999 + 1) xt (.pointer none) (.pointer none) := rfl
  have e2 : (Op.equal xt (.pointer none) (.pointer none)).run P W = .ok true W := by
    rw [e1, Op.equalIn]
    simp [hu]
  simp [execOp, evl_ok hx, evl_ok hz, eqGuard_at_pointer, binOp, e2]
end
end Go.Proofs.YtfnedoiplblldaaGreatSep
