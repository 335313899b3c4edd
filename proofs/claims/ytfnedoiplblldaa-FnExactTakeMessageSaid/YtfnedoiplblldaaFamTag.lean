/- The contracts of the laws' own functions over Tag: to, sz, eq, mark, held. No conditions beyond the sizes that the contracts name. -/
import Derived.Test.YtfnedoiplblldaaProg
import Derived.Test.YtfnedoiplblldaaSep2
import Derived.Test.YtfnedoiplblldaaLst
import Derived.WalkKit
import Derived.KernelRfl
import Derived.RowKit3
import Derived.Deep.LoopGhost
import Derived.Deep.QuietTactic
import Derived.BigQuiet
import Derived.StillTailTactics
import Derived.Test.YtfnedoiplblldaaK
import Derived.Deep.RegionHeld3
import Derived.Test.YtfnedoiplblldaaFamText
namespace Go.Proofs.YtfnedoiplblldaaFam
open Go.RowKit Go.Proofs.YtfnedoiplblldaaSep Go.Proofs.YtfnedoiplblldaaT Go.Proofs.YtfnedoiplblldaaK
set_option linter.unusedVariables false
set_option linter.unusedSimpArgs false
theorem kl_Tag_Kmk (w : World) (x : GTag) : kl_Tag.K w x [.int .i64 x.Vat, .int .i64 x.Entity, .int .i64 x.Seq] := ⟨[_], [_, _], rfl, rfl, ⟨[_], [_], rfl, rfl, rfl⟩⟩
theorem ki_Tag_Kmk (w : World) (x : GTag) : ki_Tag.K w x [.int .i64 x.Vat, .int .i64 x.Entity, .int .i64 x.Seq] := ⟨[_], [_, _], rfl, rfl, ⟨[_], [_], rfl, rfl, rfl⟩⟩
set_option maxHeartbeats 1000000 in
set_option maxRecDepth 100000 in
theorem to_Tag (x : GTag) (cs : List Value) (w : World) (h : kl_Tag.K w x cs) (hs : szn_Tag x ≤ 1048576) : Calls Try.prog 156 #[.agg cs.toArray] w (RetAgg ki_Tag x w) := by
  obtain rfl := kl_Tag_K h
  clear hs
  go_enter Try.func156, Try.ntmps156
  go_wp2
  refine bodyPost_ret (v := .agg #[.int .i64 x.Vat, .int .i64 x.Entity, .int .i64 x.Seq]) (by simp [results, Try.results156, go_sem]) rfl ⟨_, rfl, ?_, (by repeat (with_reducible first | exact Upd.refl _ _ | apply Upd.put2 | apply Upd.put1 | apply Upd.put0 | apply Upd.alloc | apply Upd.drewN | apply Upd.drew))⟩
  exact ki_Tag_mk _ _ _
set_option maxHeartbeats 1000000 in
set_option maxRecDepth 100000 in
theorem eq_Tag (x : GTag) (cs cs' : List Value) (w : World) (h : ki_Tag.K w x cs) (h' : ki_Tag.K w x cs') : Calls Try.prog 96 #[.agg cs.toArray, .agg cs'.toArray] w (RetBool true w) := by
  obtain rfl := ki_Tag_K h
  obtain rfl := ki_Tag_K h'
  go_enter Try.func96, Try.ntmps96
  go_wp2
  go_ret
  exact ⟨rfl, (by repeat (with_reducible first | exact Upd.refl _ _ | apply Upd.put2 | apply Upd.put1 | apply Upd.put0 | apply Upd.alloc | apply Upd.drewN | apply Upd.drew))⟩
end Go.Proofs.YtfnedoiplblldaaFam
