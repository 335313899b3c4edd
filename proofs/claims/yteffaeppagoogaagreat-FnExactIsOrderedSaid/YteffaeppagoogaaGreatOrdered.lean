/- IsOrdered: what the reference and the program compute. No conditions beyond the sizes that the contracts name. -/
import Derived.Test.YteffaeppagoogaaGreatProg
import Derived.Test.YteffaeppagoogaaGreatSep2
import Derived.Test.YteffaeppagoogaaGreatLst
import Derived.WalkKit
import Derived.KernelRfl
import Derived.RowKit3
import Derived.Deep.LoopGhost
import Derived.Deep.QuietTactic
import Derived.BigQuiet
import Derived.StillTailTactics
import Derived.Test.YteffaeppagoogaaGreatK
import Derived.Deep.RegionHeld3
import Derived.Test.YteffaeppagoogaaGreatFamWorld
import Derived.Test.YteffaeppagoogaaGreatTurns
import Derived.Test.YteffaeppagoogaaGreatLate
import Derived.Test.YteffaeppagoogaaGreatSep4
namespace Go.Proofs.YteffaeppagoogaaGreatFam
open Go.RowKit Go.Proofs.YteffaeppagoogaaGreatSep Go.Proofs.YteffaeppagoogaaGreatT Go.Proofs.YteffaeppagoogaaGreatK
set_option linter.unusedVariables false
set_option linter.unusedSimpArgs false
theorem ttL_len (l : List GNote) : (ttL l).length ≤ l.length := by
  unfold ttL
  rw [List.length_map]
  exact List.length_filter_le _ _
set_option maxHeartbeats 1000000 in
set_option maxRecDepth 100000 in
theorem isOrdered_s (x : GWorld) (cs : List Value) (w : World) (h : ki_World.K w x cs) (hn : x.Notes.length ≤ 1048576) : Calls Tryz.prog 23 #[.agg cs.toArray] w (RetBool (decide (flI 0 [] (ttL x.Notes) < 0)) w) := by
  obtain ⟨A0, c0, A1, c1, A2, c2, A3, c3, rfl, hl0, hC0, hl1, hC1, hl2, hC2, hl3, hC3⟩ := ki_World_K h
  have HC0 := Sd.mk hC0
  have HC1 := Sd.mk hC1
  have HC2 := Sd.mk hC2
  have HC3 := Sd.mk hC3
  clear hC0 hC1 hC2 hC3
  clear h
  go_enter Tryz.func23, Tryz.ntmps23
  go_wp2_with fail
  with_reducible refine (turnTagsL_s x _ _ (ki_World_Kmk _ _ hl0 ?h0 hl1 ?h1 hl2 ?h2 hl3 ?h3) hn).mono ?_
  case h0 => exact C_upd (by repeat (with_reducible first | exact Upd.refl _ _ | apply Upd.alloc)) HC0.out
  case h1 => exact C_upd (by repeat (with_reducible first | exact Upd.refl _ _ | apply Upd.alloc)) HC1.out
  case h2 => exact C_upd (by repeat (with_reducible first | exact Upd.refl _ _ | apply Upd.alloc)) HC2.out
  case h3 => exact C_upd (by repeat (with_reducible first | exact Upd.refl _ _ | apply Upd.alloc)) HC3.out
  rintro e w1 ⟨v, rfl, hR, hu⟩
  have HB : Sd (Upd No w w1) := Sd.mk (Upd.then (by repeat (with_reducible first | exact Upd.refl _ _ | apply Upd.alloc)) hu)
  change R ki_Tag _ _ _ v (ttL x.Notes) at hR
  have hlt := Nat.le_trans (ttL_len x.Notes) hn
  generalize ttL x.Notes = l at *
  obtain ⟨B, z, rfl, hz, hC⟩ := R_reads hR
  have HC := Sd.mk hC
  clear hu hR hC
  go_wp2_with fail
  with_reducible refine (inOrder_s l _ _ _ HC.out hz hlt).mono ?_
  rintro e w2 ⟨rfl, hu⟩
  have HU := Sd.mk (HB.out.then hu)
  clear hu
  go_wp2
  go_ret
  exact ⟨rfl, HU.out⟩
set_option maxHeartbeats 1000000 in
set_option maxRecDepth 100000 in
theorem isOrdered_i (x : GWorld) (cs : List Value) (w : World) (h : ki_World.K w x cs) (hn : x.Notes.length ≤ 1048576) : Calls Tryz.prog 24 #[.agg cs.toArray] w (RetBool (decide (flI 0 [] (ttL x.Notes) < 0)) w) := by
  obtain ⟨A0, c0, A1, c1, A2, c2, A3, c3, rfl, hl0, hC0, hl1, hC1, hl2, hC2, hl3, hC3⟩ := ki_World_K h
  have HC0 := Sd.mk hC0
  have HC1 := Sd.mk hC1
  have HC2 := Sd.mk hC2
  have HC3 := Sd.mk hC3
  clear hC0 hC1 hC2 hC3
  clear h
  go_enter Tryz.func24, Tryz.ntmps24
  go_wp2_with fail
  with_reducible refine (turnTags_p x _ A3 c3 _ ?hcell ?hc hn).mono ?_
  case hcell => simp
  case hc => exact C_upd (by repeat (with_reducible first | exact Upd.refl _ _ | apply Upd.alloc)) HC3.out
  rintro e w1 ⟨v, rfl, hR, hu⟩
  have HB : Sd (Upd No w w1) := Sd.mk (Upd.then (by repeat (with_reducible first | exact Upd.refl _ _ | apply Upd.alloc)) hu)
  change R ki_Tag _ _ _ v (ttL x.Notes) at hR
  have hlt := Nat.le_trans (ttL_len x.Notes) hn
  generalize ttL x.Notes = l at *
  obtain ⟨B, z, rfl, hz, hC⟩ := R_reads hR
  have HC := Sd.mk hC
  clear hu hR hC
  go_wp2_with fail
  with_reducible refine (inOrder_i l _ _ _ HC.out hz hlt).mono ?_
  rintro e w2 ⟨rfl, hu⟩
  have HU := Sd.mk (HB.out.then hu)
  clear hu
  go_wp2
  go_ret
  exact ⟨rfl, HU.out⟩
end Go.Proofs.YteffaeppagoogaaGreatFam
