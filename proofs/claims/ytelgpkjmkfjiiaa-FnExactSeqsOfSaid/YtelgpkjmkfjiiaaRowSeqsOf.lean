/- The law FnExactSeqsOf holds for every input. No conditions. -/
import Derived.Test.YtelgpkjmkfjiiaaRows
import Derived.Test.YtelgpkjmkfjiiaaPlainSeqsOf
import Derived.Test.YtelgpkjmkfjiiaaOpen
import Derived.WalkKit
import Derived.ProofKit
import Derived.OpenShut
import Derived.ShutString
import Derived.ChangeOld
import Derived.Below
import Derived.SizedLaws
import Derived.Carry
namespace Go.Proofs.Ytelgpkjmkfjiiaa.fnExactSeqsOf
open Go.ChangeShapes Go.WideShapes Go.ChangeAt Go.RowKit Go.Proofs.YtelgpkjmkfjiiaaOpen Go.Proofs.YtelgpkjmkfjiiaaW.PrintWords Go.Proofs.Ytelgpkjmkfjiiaa.PFnExactSeqsOf Go.Proofs.Ytelgpkjmkfjiiaa.FnExactSeqsOfPlain
open Go.ChangeMaps (open_string shut_string)
set_option linter.unusedVariables false
theorem own : ownKnob Try.prog.godebug = none := by kernel_rfl
theorem laidOut : laidOutB Try.prog = true := by kernel_rfl
def G_Tag (x : S32) : Prop := (Lit.int .i64 x.f0).wf = true ∧ (Lit.int .i64 x.f1).wf = true ∧ (Lit.int .i64 x.f2).wf = true
theorem opens_Tag : Opens Try.prog 32 k32 G_Tag := by
  have h : Opens Try.prog 32 (Kd.pair (Kd.int .i64) (Kd.pair (Kd.int .i64) (Kd.int .i64))) (fun p : Int × Int × Int => (fun q : Int => (Lit.int .i64 q).wf = true) p.1 ∧ (fun p : Int × Int => (fun q : Int => (Lit.int .i64 q).wf = true) p.1 ∧ (fun p : Int => (Lit.int .i64 p).wf = true) p.2) p.2) := by
    refine opens_struct Try.underlying32 (by kernel_rfl) ?_
    refine opensFs_cons (G := fun q : Int => (Lit.int .i64 q).wf = true) (G' := fun p : Int × Int => (fun q : Int => (Lit.int .i64 q).wf = true) p.1 ∧ (fun p : Int => (Lit.int .i64 p).wf = true) p.2) ?_ ?_ ?_ ?_
    · rfl
    · kernel_rfl
    · exact (opens_int Try.underlying3)
    refine opensFs_cons (G := fun q : Int => (Lit.int .i64 q).wf = true) (G' := fun p : Int => (Lit.int .i64 p).wf = true) ?_ ?_ ?_ ?_
    · rfl
    · kernel_rfl
    · exact (opens_int Try.underlying3)
    refine opensFs_one ?_ ?_ ?_
    · rfl
    · kernel_rfl
    · exact (opens_int Try.underlying3)
  exact opens_iso (fun x : S32 => (x.f0, x.f1, x.f2)) (fun p => ⟨p.1, p.2.1, p.2.2⟩) (fun _ => rfl) h
set_option maxRecDepth 100000 in
theorem lifted (os : Os) (started : os.Started) (H : Type) (enc : TypeId × Value → H) :
    ReturnsInHanded {} Try.checked os 6 .any (Rows.fnExactSeqsOfSpec.pre6 enc Try.prog Try.f6 Rows.fnExactSeqsOfRow.domain false) (Rows.fnExactSeqsOfSpec.post enc Try.prog Try.f6 false true false false) := by
  refine returnsInHanded_of_change_sized (C := Try.checked) own started (by kernel_rfl) Try.func6
    (ChangeSpec.witness6 (enc := enc) (C := Try.checked) false ⟨#[], #[.slice none 0 0, .int .i64 0, .int .i64 0], []⟩ 8 (by kernel_rfl) (by kernel_rfl) (by kernel_rfl) (by kernel_rfl)) ?_
  intro W base args ds gs before hval0 hW hcnd hsz0 _
  have hval : ∀ (j : Nat) t v, Try.f6.params[j]? = some t → args[j]? = some v → Value.okWide Try.prog W .any base t v := hval0
  have hW' := hW
  obtain ⟨p, q, hA0, hV, rfl, hfz, hnd⟩ := hW
  have hA : DataW.TrodAll enc Try.prog W 0 (fun _ => true) true Try.f6.params.toList args.toList ds p := hA0
  rw [Try.params6] at hA hval
  obtain ⟨v0, vs0, d0, ds0, p0, q0, hargs, rfl, rfl, h0, r0⟩ := trodAll_cons hA
  obtain ⟨v1, vs1, d1, ds1, p1, q1, rfl, rfl, rfl, h1, r1⟩ := trodAll_cons r0
  obtain ⟨v2, vs2, d2, ds2, p2, q2, rfl, rfl, rfl, h2, r2⟩ := trodAll_cons r1
  obtain ⟨rfl, rfl, rfl⟩ := trodAll_nil r2
  obtain rfl : args = #[v0, v1, v2] := by cases args; simp_all
  obtain ⟨rfl, rfl⟩ := trodVars_none hV
  obtain ⟨a0, len0, cap0, rfl⟩ := okWide_slice Try.underlying22 (hval 0 22 v0 rfl rfl)
  have lt0 : ∀ x ∈ p0, x.block < W.heap.size := by obtain ⟨m, hm⟩ := h0; exact DataW.trod_lt m _ _ _ hm
  obtain ⟨l0, rfl, hl0, hC0, hG0⟩ := arg_slice (opens_slice z32 Try.underlying22 (by kernel_rfl) opens_Tag) h0
  obtain ⟨a1, rfl, rfl, rfl, w1⟩ := open_int Try.underlying3 (hval 1 3 v1 rfl rfl) h1
  obtain ⟨a2, rfl, rfl, rfl, w2⟩ := open_int Try.underlying3 (hval 2 3 v2 rfl rfl) h2
  clear hA0 hval0 hsz0
  obtain ⟨k, hk⟩ := plain l0 hG0 a1 w1 a2 w2
  refine (laws_FnExactSeqsOf.calls k a0 cap0 l0 a1 a2 true W hC0 hl0 hk).mono fun e W' ⟨he, bel⟩ => ?_
  subst he
  exact ⟨_, rfl, _, _, _, [], _, [], hW', trodAll_mk1 (shut_bool Try.underlying4 _), (trodAll_cons_mk (Below.trod laidOut (by kernel_rfl) (of_decide_eq_true (by kernel_rfl)) h0 bel lt0) (trodAll_cons_mk (shut_int Try.underlying3 w1) (trodAll_cons_mk (shut_int Try.underlying3 w2) trodAll_mk0))), rfl, bel.frame _, fun h => by cases h⟩
theorem over : Rows.fnExactSeqsOfRow.holds Try.pinned (OpenSpec.ofChange Rows.fnExactSeqsOfSpec) :=
  OpenClaim.holds_of_wide 6 Try.f6 rfl rfl rfl rfl rfl rfl rfl ⟨rfl, rfl, rfl, rfl, rfl⟩ rfl rfl rfl rfl rfl (by kernel_rfl) Try.func6 (by kernel_rfl)
    (of_decide_eq_true (by kernel_rfl)) (by unfold Func.isWrapper; first | (rw [if_pos (by decide +kernel)]; kernel_rfl) | (rw [if_neg (by decide +kernel)]; exact ⟨rfl, rfl⟩))
    (fun os started H enc _ => lifted os started H enc)
theorem proved : Rows.FnExactSeqsOfSaid := over
#print axioms proved
end Go.Proofs.Ytelgpkjmkfjiiaa.fnExactSeqsOf
namespace Go.Proofs.Ytelgpkjmkfjiiaa
/-- The row, under a short name, for the claim. -/
theorem fnExactSeqsOf_holds : Rows.FnExactSeqsOfSaid := fnExactSeqsOf.proved
end Go.Proofs.Ytelgpkjmkfjiiaa
