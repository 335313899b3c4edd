/- An empty row that lies in a known block; a cut. No conditions. -/
import Derived.Test.YtfnedoiplblldaaSep5
namespace Go.Proofs.YtfnedoiplblldaaSep
open Go.ChangeShapes Go.WideShapes Go.RowKit
theorem R_emptyB {α : Type} {d : Kn α} {e : Nat} {w : World} {g : Nat} (h : Blk w g e #[]) : R d e w (fun b => b = g) (.slice (some ⟨g, 0, none⟩) 0 0) [] :=
  .inr ⟨g, 0, #[], fun _ _ => False, rfl, h, rfl, Nat.le_refl _, by omega, by simp, fun _ _ h => h.elim, fun _ _ _ h => h.elim, fun i x hx => by simp at hx⟩
theorem cutP {p G : Prop} (h : p) (k : p → G) : G := k h
end Go.Proofs.YtfnedoiplblldaaSep
