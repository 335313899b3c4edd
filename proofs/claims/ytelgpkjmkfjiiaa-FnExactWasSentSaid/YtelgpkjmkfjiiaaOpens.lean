/- The laws' types, opened: what can be read is of the kind, with the bounds that reading gives. No conditions. -/
import Derived.Test.YtelgpkjmkfjiiaaK
import Derived.Test.YtelgpkjmkfjiiaaOpen
import Derived.KernelRfl
namespace Go.Proofs.YtelgpkjmkfjiiaaK
open Go.RowKit Go.Proofs.YtelgpkjmkfjiiaaSep Go.Proofs.YtelgpkjmkfjiiaaT Go.Proofs.YtelgpkjmkfjiiaaOpen
theorem opens_Value : Opens Try.prog 79 kl_Value Gd_Value := by
  have h : Opens Try.prog 79 (Kn.pair Kn.int Kn.int) (fun p : Int × Int => (fun q : Int => (Lit.int .i64 q).wf = true) p.1 ∧ (fun p : Int => (Lit.int .i64 p).wf = true) p.2) := by
    refine opens_struct Try.underlying79 (by kernel_rfl) ?_
    refine opensFs_cons (G := fun q : Int => (Lit.int .i64 q).wf = true) (G' := fun p : Int => (Lit.int .i64 p).wf = true) ?_ ?_ ?_ ?_
    · rfl
    · kernel_rfl
    · exact (opens_int Try.underlying3)
    refine opensFs_one ?_ ?_ ?_
    · rfl
    · kernel_rfl
    · exact (opens_int Try.underlying3)
  exact opens_iso (fun x : GValue => (x.Kind, x.N)) (fun p => ⟨p.1, p.2⟩) (fun _ => rfl) h
theorem opens_Event : Opens Try.prog 66 kl_Event Gd_Event := by
  have h : Opens Try.prog 66 (Kn.pair Kn.int (Kn.pair Kn.int (Kn.pair Kn.int (Kn.pair Kn.int (Kn.pair Kn.string (Kn.slice 79 kl_Value)))))) (fun p : Int × Int × Int × Int × ByteArray × List GValue => (fun q : Int => (Lit.int .i64 q).wf = true) p.1 ∧ (fun p : Int × Int × Int × ByteArray × List GValue => (fun q : Int => (Lit.int .i64 q).wf = true) p.1 ∧ (fun p : Int × Int × ByteArray × List GValue => (fun q : Int => (Lit.int .i64 q).wf = true) p.1 ∧ (fun p : Int × ByteArray × List GValue => (fun q : Int => (Lit.int .i64 q).wf = true) p.1 ∧ (fun p : ByteArray × List GValue => (fun q : ByteArray => q.size ≤ 9223372036854775807) p.1 ∧ (fun p : List GValue => (p.length ≤ 9223372036854775807 ∧ ∀ y ∈ p, Gd_Value y)) p.2) p.2) p.2) p.2) p.2) := by
    refine opens_struct Try.underlying66 (by kernel_rfl) ?_
    refine opensFs_cons (G := fun q : Int => (Lit.int .i64 q).wf = true) (G' := fun p : Int × Int × Int × ByteArray × List GValue => (fun q : Int => (Lit.int .i64 q).wf = true) p.1 ∧ (fun p : Int × Int × ByteArray × List GValue => (fun q : Int => (Lit.int .i64 q).wf = true) p.1 ∧ (fun p : Int × ByteArray × List GValue => (fun q : Int => (Lit.int .i64 q).wf = true) p.1 ∧ (fun p : ByteArray × List GValue => (fun q : ByteArray => q.size ≤ 9223372036854775807) p.1 ∧ (fun p : List GValue => (p.length ≤ 9223372036854775807 ∧ ∀ y ∈ p, Gd_Value y)) p.2) p.2) p.2) p.2) ?_ ?_ ?_ ?_
    · rfl
    · kernel_rfl
    · exact (opens_int Try.underlying3)
    refine opensFs_cons (G := fun q : Int => (Lit.int .i64 q).wf = true) (G' := fun p : Int × Int × ByteArray × List GValue => (fun q : Int => (Lit.int .i64 q).wf = true) p.1 ∧ (fun p : Int × ByteArray × List GValue => (fun q : Int => (Lit.int .i64 q).wf = true) p.1 ∧ (fun p : ByteArray × List GValue => (fun q : ByteArray => q.size ≤ 9223372036854775807) p.1 ∧ (fun p : List GValue => (p.length ≤ 9223372036854775807 ∧ ∀ y ∈ p, Gd_Value y)) p.2) p.2) p.2) ?_ ?_ ?_ ?_
    · rfl
    · kernel_rfl
    · exact (opens_int Try.underlying3)
    refine opensFs_cons (G := fun q : Int => (Lit.int .i64 q).wf = true) (G' := fun p : Int × ByteArray × List GValue => (fun q : Int => (Lit.int .i64 q).wf = true) p.1 ∧ (fun p : ByteArray × List GValue => (fun q : ByteArray => q.size ≤ 9223372036854775807) p.1 ∧ (fun p : List GValue => (p.length ≤ 9223372036854775807 ∧ ∀ y ∈ p, Gd_Value y)) p.2) p.2) ?_ ?_ ?_ ?_
    · rfl
    · kernel_rfl
    · exact (opens_int Try.underlying3)
    refine opensFs_cons (G := fun q : Int => (Lit.int .i64 q).wf = true) (G' := fun p : ByteArray × List GValue => (fun q : ByteArray => q.size ≤ 9223372036854775807) p.1 ∧ (fun p : List GValue => (p.length ≤ 9223372036854775807 ∧ ∀ y ∈ p, Gd_Value y)) p.2) ?_ ?_ ?_ ?_
    · rfl
    · kernel_rfl
    · exact (opens_int Try.underlying3)
    refine opensFs_cons (G := fun q : ByteArray => q.size ≤ 9223372036854775807) (G' := fun p : List GValue => (p.length ≤ 9223372036854775807 ∧ ∀ y ∈ p, Gd_Value y)) ?_ ?_ ?_ ?_
    · rfl
    · kernel_rfl
    · exact (opens_string Try.underlying9)
    refine opensFs_one ?_ ?_ ?_
    · rfl
    · kernel_rfl
    · exact (opens_slice zValue Try.underlying64 (by kernel_rfl) opens_Value)
  exact opens_iso (fun x : GEvent => (x.Kind, x.A, x.B, x.N, x.Name, x.Args)) (fun p => ⟨p.1, p.2.1, p.2.2.1, p.2.2.2.1, p.2.2.2.2.1, p.2.2.2.2.2⟩) (fun _ => rfl) h
theorem opens_Tag : Opens Try.prog 32 kl_Tag Gd_Tag := by
  have h : Opens Try.prog 32 (Kn.pair Kn.int (Kn.pair Kn.int Kn.int)) (fun p : Int × Int × Int => (fun q : Int => (Lit.int .i64 q).wf = true) p.1 ∧ (fun p : Int × Int => (fun q : Int => (Lit.int .i64 q).wf = true) p.1 ∧ (fun p : Int => (Lit.int .i64 p).wf = true) p.2) p.2) := by
    refine opens_struct Try.underlying32 (by kernel_rfl) ?_
    refine opensFs_cons (G := fun q : Int => (Lit.int .i64 q).wf = true) (G' := fun p : Int × Int => (fun q : Int => (Lit.int .i64 q).wf = true) p.1 ∧ (fun p : Int => (Lit.int .i64 p).wf = true) p.2) ?_ ?_ ?_ ?_
    · rfl
    · kernel_rfl
    · exact (opens_int Try.underlying3)
    refine opensFs_cons (G := fun q : Int => (Lit.int .i64 q).wf = true) (G' := fun p : Int => (Lit.int .i64 p).wf = true) ?_ ?_ ?_ ?_
    · rfl
    · kernel_rfl
    · exact (opens_int Try.underlying3)
    refine opensFs_one ?_ ?_ ?_
    · rfl
    · kernel_rfl
    · exact (opens_int Try.underlying3)
  exact opens_iso (fun x : GTag => (x.Vat, x.Entity, x.Seq)) (fun p => ⟨p.1, p.2.1, p.2.2⟩) (fun _ => rfl) h
theorem opens_Note : Opens Try.prog 59 kl_Note Gd_Note := by
  have h : Opens Try.prog 59 (Kn.pair Kn.int (Kn.pair Kn.int (Kn.pair Kn.int kl_Tag))) (fun p : Int × Int × Int × GTag => (fun q : Int => (Lit.int .i64 q).wf = true) p.1 ∧ (fun p : Int × Int × GTag => (fun q : Int => (Lit.int .i64 q).wf = true) p.1 ∧ (fun p : Int × GTag => (fun q : Int => (Lit.int .i64 q).wf = true) p.1 ∧ (fun p : GTag => Gd_Tag p) p.2) p.2) p.2) := by
    refine opens_struct Try.underlying59 (by kernel_rfl) ?_
    refine opensFs_cons (G := fun q : Int => (Lit.int .i64 q).wf = true) (G' := fun p : Int × Int × GTag => (fun q : Int => (Lit.int .i64 q).wf = true) p.1 ∧ (fun p : Int × GTag => (fun q : Int => (Lit.int .i64 q).wf = true) p.1 ∧ (fun p : GTag => Gd_Tag p) p.2) p.2) ?_ ?_ ?_ ?_
    · rfl
    · kernel_rfl
    · exact (opens_int Try.underlying3)
    refine opensFs_cons (G := fun q : Int => (Lit.int .i64 q).wf = true) (G' := fun p : Int × GTag => (fun q : Int => (Lit.int .i64 q).wf = true) p.1 ∧ (fun p : GTag => Gd_Tag p) p.2) ?_ ?_ ?_ ?_
    · rfl
    · kernel_rfl
    · exact (opens_int Try.underlying3)
    refine opensFs_cons (G := fun q : Int => (Lit.int .i64 q).wf = true) (G' := fun p : GTag => Gd_Tag p) ?_ ?_ ?_ ?_
    · rfl
    · kernel_rfl
    · exact (opens_int Try.underlying3)
    refine opensFs_one ?_ ?_ ?_
    · rfl
    · kernel_rfl
    · exact opens_Tag
  exact opens_iso (fun x : GNote => (x.Kind, x.Vat, x.Entity, x.Tag)) (fun p => ⟨p.1, p.2.1, p.2.2.1, p.2.2.2⟩) (fun _ => rfl) h
end Go.Proofs.YtelgpkjmkfjiiaaK
