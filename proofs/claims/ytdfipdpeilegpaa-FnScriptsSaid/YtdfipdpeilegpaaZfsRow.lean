/- The law holds for every input. No conditions. -/
import Derived.Test.YtdfipdpeilegpaaRows
import Derived.Test.YtdfipdpeilegpaaZfs5
import Derived.WalkKit
import Derived.ProofKit
import Derived.OpenShut
import Derived.ShutString
import Derived.ChangeOld
import Derived.Below
import Derived.SizedLaws
import Derived.Carry
namespace Go.Proofs.Ytdfipdpeilegpaa.fnScripts
open Go.ChangeShapes Go.WideShapes Go.ChangeAt Go.RowKit Go.Proofs.YtdfipdpeilegpaaOpen Go.Proofs.YtdfipdpeilegpaaSep Go.Proofs.YtdfipdpeilegpaaT Go.Proofs.YtdfipdpeilegpaaK Go.Proofs.YtdfipdpeilegpaaFam
open Go.ChangeMaps (open_string shut_string)
set_option linter.unusedVariables false
theorem own : ownKnob Try.prog.godebug = none := by kernel_rfl
theorem laidOut : laidOutB Try.prog = true := by kernel_rfl
set_option maxRecDepth 100000 in
theorem lifted (os : Os) (started : os.Started) (H : Type) (enc : TypeId × Value → H) :
 ReturnsInHanded {} Try.checked os 4 .any (Rows.fnScriptsSpec.pre6 enc Try.prog Try.f4 Rows.fnScriptsRow.domain false) (Rows.fnScriptsSpec.post enc Try.prog Try.f4 false true false false) := by
 refine returnsInHanded_of_change_sized (C := Try.checked) own started kR Try.func4
  (ChangeSpec.witness6 (enc := enc) (C := Try.checked) false ⟨#[], #[.slice none 0 0], []⟩ 8 kR kR kR kR) ?_
 intro W base args ds gs before hval0 hW hcnd hsz0 _
 have hval : ∀ (j : Nat) t v, Try.f4.params[j]? = some t → args[j]? = some v → Value.okWide Try.prog W .any base t v := hval0
 have hW' := hW
 obtain ⟨p, q, hA0, hV, rfl, hfz, hnd⟩ := hW
 have hA : DataW.TrodAll enc Try.prog W 0 (fun _ => true) true Try.f4.params.toList args.toList ds p := hA0
 rw [Try.params4] at hA hval
 obtain ⟨v0, vs0, d0, ds0, p0, q0, hargs, rfl, rfl, h0, r0⟩ := trodAll_cons hA
 obtain ⟨rfl, rfl, rfl⟩ := trodAll_nil r0
 obtain rfl : args = #[v0] := by cases args; simp_all
 obtain ⟨rfl, rfl⟩ := trodVars_none hV
 obtain ⟨a0, len0, cap0, rfl⟩ := okWide_slice Try.underlying22 (hval 0 22 v0 rfl rfl)
 have lt0 : ∀ x ∈ p0, x.block < W.heap.size := by obtain ⟨m, hm⟩ := h0; exact DataW.trod_lt m _ _ _ hm
 obtain ⟨l0, rfl, hl0, hC0, hG0⟩ := arg_slice (opens_slice (0 : Int) Try.underlying22 kR (opens_u8 Try.underlying5)) h0
 clear hA0 hval0 hsz0
 refine (law_FnScripts W l0 a0 cap0 hC0 hl0 hG0).mono fun e W' ⟨he, hu⟩ => ?_
 subst he
 have bel := hu.below
 exact ⟨_, rfl, _, _, _, [], _, [], hW', trodAll_mk1 (shut_bool Try.underlying4 _), (trodAll_cons_mk (Below.trod laidOut kR (of_decide_eq_true kR) h0 bel lt0) trodAll_mk0), rfl, bel.frame _, fun h => by cases h⟩
set_option maxHeartbeats 1000000 in
theorem closed : joinedFacts Try.pinned.checked.prog 4 Try.f4 Rows.fnScriptsSpec Rows.fnScriptsRow = true := by
 unfold joinedFacts
 have c1 : ∀ {a b : Bool}, a = true → b = true → (a && b) = true := fun h k => by rw [h, k]; rfl
 repeat' with_reducible apply c1
 all_goals as_aux_lemma => kernel_rfl
theorem over : Rows.fnScriptsRow.holds Try.pinned (OpenSpec.ofChange Rows.fnScriptsSpec) :=
 OpenClaim.holds_of_wide 4 Try.f4 rfl rfl rfl rfl rfl rfl rfl ⟨rfl, rfl, rfl, rfl, rfl⟩ rfl rfl rfl rfl rfl (by as_aux_lemma => kernel_rfl) Try.func4 closed
  (of_decide_eq_true (by as_aux_lemma => kernel_rfl)) (by unfold Func.isWrapper; first | (rw [if_pos (by as_aux_lemma => decide +kernel)]; as_aux_lemma => kernel_rfl) | (rw [if_neg (by as_aux_lemma => decide +kernel)]; exact ⟨rfl, rfl⟩))
  (fun os started H enc _ => lifted os started H enc)
theorem proved : Rows.FnScriptsSaid := over
#print axioms proved
end Go.Proofs.Ytdfipdpeilegpaa.fnScripts
namespace Go.Proofs.Ytdfipdpeilegpaa
theorem fnScripts_holds : Rows.FnScriptsSaid := fnScripts.proved
end Go.Proofs.Ytdfipdpeilegpaa
